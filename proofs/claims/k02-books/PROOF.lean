import PyProof.Rows.All
import Wide.All
import OpenK.AllK
import Wide.FinOn
import HandS.ForMost
import HandS.ForExc
import HandS.Evl
import HandS.IsInst
import HandS.SortKw
import HandS.Conv
import HandS.More
import HandS.Style
import HandS.EndBits
import HandS.DictComp
import HandS.Zip
import HandS.TupAny
import HandS.SortInts
import HandS.RaiseMore
import PyProof.Rows.StrRev
import HandS.Strs
import HandS.SetFor
import HandS.TryOnly
import HandS.ExcOwn
import HandS.WordsExc
import HandS.ExcIs
import HandS.SuiteRaise
import PyProof.P3In
import PyProof.Rows.InDataRows
import HandS.HotCalls
import HandS.Finally
import KE.KeyNested
import HandS.TupLen
import HandS.Walk
import PySem.Challenge.RW_saidthen_k02_books
set_option Elab.async false
set_option linter.all false
set_option maxRecDepth 100000
set_option maxHeartbeats 4000000
set_option Elab.async false
set_option linter.all false
set_option maxRecDepth 100000
namespace S
open PySem PySem.Spec L2

theorem hU {k : Nat} {A : Around} (r : Room k A) : A.units + 100 < cLine := by have := r.un; omega
structure CA where
  (BookError BadEntry BadBook NoEntry Closed TooMany Gone BadText Keeper : Addr)
/-! ### one rule for an operator, whatever the operands are -/
def addS : R2 := fun x y H Q => ∃ i j, x = .str i ∧ y = .str j ∧ i.length + j.length ≤ sizeLine ∧ Q (.str (i ++ j)) H
def addI : R2 := rI0 fun i j => .int (i + j)
def subI : R2 := rI0 fun i j => .int (i - j)
def mulI : R2 := rI CMul fun i j => .int (i * j)
def divI : R2 := rI CDiv fun i j => .int (i / j)
def modI : R2 := rI (fun _ j => 0 < j) fun i j => .int (i % j)
def powI : R2 := rI CPow fun i j => .int (i ^ j.toNat)
def ltI : R2 := rI0 fun i j => .bl (decide (i < j))
def leI : R2 := rI0 fun i j => .bl (decide (i ≤ j))
def gtI : R2 := rI0 fun i j => .bl (decide (j < i))
def geI : R2 := rI0 fun i j => .bl (decide (j ≤ i))
def addA (K : PySem.W.Frag) : R2 := fun x y H Q => addI x y H Q ∨ addS x y H Q ∨ rCat x y H Q ∨ rCatA K x y H Q
/-- a dict's pairs and what they are as data -/
def DkIs (K : PySem.W.Frag) (H : Hp) : List (Key × V) → List (Key × PyData) → Prop := Paired fun p q => p.1 = q.1 ∧ Dp K H p.2 q.2
def valP (E : List (Key × PyData)) (k : Key) : Option PyData := (E.find? fun kv => decide (kv.1 = k)).map (·.2)
def hitP (E : List (Key × PyData)) (p : Key × PyData) : Bool := match valP E p.1 with
  | some e => PyData.eqv p.2 e
  | none => false
def dkEqv (D E : List (Key × PyData)) : Bool := (D.length == E.length) && D.all (hitP E)
/-- two dicts of data -/
def rEqDk (K : PySem.W.Frag) (neg : Bool) : R2 := fun x y H Q => ∃ a b ks ls D E, x = .ref a ∧ y = .ref b ∧ Rd H a (.dK ks) ∧ Rd H b (.dK ls) ∧ DkIs K H ks D ∧ DkIs K H ls E ∧
  (∀ p ∈ D, SeqAt.shaped p.2 = true) ∧ (∀ p ∈ E, SeqAt.shaped p.2 = true) ∧ Q (.bl (if neg then !dkEqv D E else dkEqv D E)) H
theorem shaped_of {d : PyData} (h : SeqAt.shaped d = true) : d.canLay0 = true ∧ d.depth ≤ 64 := by
  have h' : (d.canLay0 && decide (d.depth ≤ 64)) = true := h
  rw [Bool.and_eq_true] at h'
  exact ⟨h'.1, of_decide_eq_true h'.2⟩
theorem DkIs.val {K : PySem.W.Frag} {H : Hp} : ∀ {ks : List (Key × V)} {D : List (Key × PyData)}, DkIs K H ks D → ∀ k, (valV ks k = none ∧ valP D k = none) ∨ ∃ v d, valV ks k = some v ∧ valP D k = some d ∧ Dp K H v d ∧ ∃ p ∈ D, p.2 = d
  | _, _, .nil, k => .inl ⟨rfl, rfl⟩
  | p :: ks, q :: D, .cons h t, k => by
    by_cases e : p.1 = k
    · exact .inr ⟨p.2, q.2, valV_pos e, by unfold valP; simp [List.find?_cons, ← h.1, e], h.2, q, List.mem_cons_self, rfl⟩
    · have e2 : ¬ q.1 = k := by rw [← h.1]; exact e
      have eP : valP (q :: D) k = valP D k := by unfold valP; simp [List.find?_cons, e2]
      rcases DkIs.val (ks := ks) (D := D) t k with ⟨h1, h2⟩ | ⟨v, d, h1, h2, h3, p', h4, h5⟩
      · exact .inl ⟨(valV_neg e).trans h1, eP.trans h2⟩
      · exact .inr ⟨v, d, (valV_neg e).trans h1, eP.trans h2, h3, p', List.mem_cons_of_mem _ h4, h5⟩
theorem hits_data {X : Cx} {pins : List (Addr × Obj)} {σ : L2.St} {H : Hp} {s : Shared} (I : Inv X pins σ H s) {A : Around} (hA : A.units + 64 < cLine) {ls : List (Key × V)} {E : List (Key × PyData)} {vb : List (Key × Value)} (rb : KV ls vb) (dE : DkIs X.K H ls E) (sE : ∀ p ∈ E, SeqAt.shaped p.2 = true) :
    ∀ {ks : List (Key × V)} {D : List (Key × PyData)} {va : List (Key × Value)}, KV ks va → DkIs X.K H ks D → (∀ p ∈ D, SeqAt.shaped p.2 = true) → PySem.W.KeqHits A s vb va (D.all (hitP E))
  | _, _, _, .nil, .nil, _ => .nil
  | p :: ks, q :: D, (k, u) :: va, .cons r1 r2, .cons h t, sD => by
    have ih := hits_data I hA rb dE sE (ks := ks) (D := D) r2 t fun p' hp => sD p' (List.mem_cons_of_mem _ hp)
    have ek : p.1 = k := r1.1
    have eq : p.1 = q.1 := h.1
    rw [List.all_cons]
    rcases dE.val k with ⟨h1, h2⟩ | ⟨v, d, h1, h2, h3, p', h4, h5⟩
    · have hv : valueAt vb k = none := by
        have := rb.val k
        rw [h1] at this
        cases e : valueAt vb k with
        | none => rfl
        | some z => rw [e] at this; exact this.elim
      have e0 : hitP E q = false := by unfold hitP; rw [← eq, ek, h2]
      rw [e0, Bool.false_and]
      exact .miss hv
    · have rr : RelO (some v) (valueAt vb k) := by rw [← h1]; exact rb.val k
      obtain ⟨y, hy, ry⟩ := rr.some_of
      have e0 : hitP E q = PyData.eqv q.2 d := by unfold hitP; rw [← eq, ek, h2]
      rw [e0]
      obtain ⟨as, ra⟩ := Dp.reads I q.2 p.2 u h.2 r1.2
      obtain ⟨bs, rb'⟩ := Dp.reads I d v y h3 ry
      have s1 := shaped_of (sD q List.mem_cons_self)
      have s2 := shaped_of (sE p' h4)
      rw [h5] at s2
      exact .hit hy (SeqAt.eqAt_reads q.2 d A s u y as bs ra rb' s1.1 s2.1 (by have := s1.2; omega)) ih
def eqA (K : PySem.W.Frag) : R2 := fun x y H Q => rEq x y H Q ∨ rEqD K x y H Q ∨ rEqDk K false x y H Q
def neA (K : PySem.W.Frag) : R2 := fun x y H Q => rNe x y H Q ∨ rNeD K x y H Q ∨ rEqDk K true x y H Q
def inSg : R2 := fun x y H Q => ∃ (c : Nat) (z : Str), x = .str ⟨#[c]⟩ ∧ y = .str z ∧ Q (.bl (decide (c ∈ z.cps.toList))) H
def niSg : R2 := fun x y H Q => ∃ (c : Nat) (z : Str), x = .str ⟨#[c]⟩ ∧ y = .str z ∧ Q (.bl (!decide (c ∈ z.cps.toList))) H
def inDk : R2 := fun y x H Q => ∃ a o, x = .ref a ∧ DGet H a y o ∧ Q (.bl o.isSome) H
def niDk : R2 := fun y x H Q => ∃ a o, x = .ref a ∧ DGet H a y o ∧ Q (.bl (!o.isSome)) H
def inA (K : PySem.W.Frag) : R2 := fun x y H Q => inSg x y H Q ∨ rIn K false x y H Q ∨ inDk x y H Q
def niA (K : PySem.W.Frag) : R2 := fun x y H Q => niSg x y H Q ∨ rIn K true x y H Q ∨ niDk x y H Q
def isN : R2 := fun x y H Q => y = .non ∧ Q (.bl (decide (x = .non))) H
def ntN : R2 := fun x y H Q => y = .non ∧ Q (.bl (!decide (x = .non))) H
def ixDk : R2 := fun x y H Q => ∃ a v, x = .ref a ∧ DGet H a y (some v) ∧ Q v H
def ixA (K : PySem.W.Frag) : R2 := fun x y H Q => rIx K x y H Q ∨ ixDk x y H Q
def slA (K : PySem.W.Frag) : V → Option Int → Option Int → Hp → VK → Prop := fun x lo hi H Q => rSlL K x lo hi H Q ∨ rSlS x lo hi H Q ∨ rSlA K x lo hi H Q
def lenDk : List V → Hp → VK → Prop := fun xs H Q => ∃ d kvs, xs = [.ref d] ∧ Rd H d (.dK kvs) ∧ Q (.int kvs.length) H
def lenO (K : PySem.W.Frag) : List V → Hp → VK → Prop := fun xs H Q => ∃ x n, xs = [x] ∧ LenV K x H n ∧ Q (.int n) H
def lenA (K : PySem.W.Frag) : List V → Hp → VK → Prop := fun xs H Q => lenO K xs H Q ∨ lenDk xs H Q
def setDk : V → V → V → Hp → (Hp → Prop) → Prop := fun o i v H Q => ∃ a H', o = .ref a ∧ DPut H a i v H' ∧ Q H'
def setA : V → V → V → Hp → (Hp → Prop) → Prop := fun o i v H Q => rSetL o i v H Q ∨ setDk o i v H Q
section
variable {X : Cx}
theorem uAdd : OpR X (binaryOp .Add) (addA X.K) := OpR.or (r := addI) op_add (OpR.or (r := addS) op_add_str (OpR.or op_cat op_catA))
theorem uSub : OpR X (binaryOp .Sub) subI := op_sub
theorem uMul : OpR X (binaryOp .Mult) mulI := op_mul
theorem uDiv : OpR X (binaryOp .FloorDiv) divI := op_fdiv
theorem uMod : OpR X (binaryOp .Mod) modI := op_mod
theorem uPow : OpR X (binaryOp .Pow) powI := op_pow
theorem uLt : OpR X (compareOp .Lt) ltI := op_lt
theorem uLe : OpR X (compareOp .LtE) leI := op_le
theorem uGt : OpR X (compareOp .Gt) gtI := op_gt
theorem uGe : OpR X (compareOp .GtE) geI := op_ge
theorem uIs : OpR X (compareOp .Is) isN := op_isN
theorem uNt : OpR X (compareOp .IsNot) ntN := op_notN
theorem op_inDk (hu : X.A.units + 100 < cLine) : OpR X (compareOp .In) inDk := by
  intro pins s σ H y x u v Q I ry rx h
  obtain ⟨a, o, ex, g, q⟩ := h
  subst ex
  obtain rfl : v = Value.ref a := rx
  exact d_in (by omega) I g ry fun s3 I3 => ⟨.bl o.isSome, H, I3, rfl, q⟩
theorem op_niDk (hu : X.A.units + 100 < cLine) : OpR X (compareOp .NotIn) niDk := by
  intro pins s σ H y x u v Q I ry rx h
  obtain ⟨a, o, ex, g, q⟩ := h
  subst ex
  obtain rfl : v = Value.ref a := rx
  exact d_notIn (by omega) I g ry fun s3 I3 => ⟨.bl (!o.isSome), H, I3, rfl, q⟩
theorem op_dk {neg : Bool} {op : CmpOp} (ho : op = if neg then .NotEq else .Eq) (hu : X.A.units + 100 < cLine) : OpR X (compareOp op) (rEqDk X.K neg) := by
  intro pins s σ H x y v u Q I rx ry h
  obtain ⟨a, b, ks, ls, D, E, rfl, rfl, ea, eb, dD, dE, sD, sE, q⟩ := h
  obtain rfl : v = Value.ref a := rx
  obtain rfl : u = Value.ref b := ry
  obtain ⟨_, ya, va, ra, da⟩ := dk_rd I.hok ea
  obtain ⟨_, yb, vb, rb, db⟩ := dk_rd I.hok eb
  have hl : (va.length == vb.length && D.all (hitP E)) = dkEqv D E := by
    unfold dkEqv
    rw [← ra.length, ← rb.length, Paired.length dD, Paired.length dE]
  have hits : va.length = vb.length → PySem.W.KeqHits X.A.in1 s vb va (D.all (hitP E)) := fun _ => hits_data I (A := X.A.in1) (by show X.A.units + 1 + 64 < cLine; omega) rb dE sE ra dD sD
  subst ho
  cases neg with
  | true => exact PySem.W.keq_ne (knd := mixKind X.prog X.w) ya yb da db (by omega) hits (fin_bl I q (by rw [hl] <;> rfl))
  | false => exact PySem.W.keq_eq (knd := mixKind X.prog X.w) ya yb da db (by omega) hits (fin_bl I q (by rw [hl] <;> rfl))
theorem uEq (hu : X.A.units + 100 < cLine) : OpR X (compareOp .Eq) (eqA X.K) := OpR.or op_eq (OpR.or (op_eqD (by omega)) (op_dk (neg := false) rfl hu))
theorem uNe (hu : X.A.units + 100 < cLine) : OpR X (compareOp .NotEq) (neA X.K) := OpR.or op_ne (OpR.or (op_neD (by omega)) (op_dk (neg := true) rfl hu))
theorem uIn (hu : X.A.units + 100 < cLine) : OpR X (compareOp .In) (inA X.K) := OpR.or (r := inSg) op_in_sign (OpR.or op_in_seq (op_inDk hu))
theorem uNi (hu : X.A.units + 100 < cLine) : OpR X (compareOp .NotIn) (niA X.K) := OpR.or (r := niSg) op_notIn_sign (OpR.or op_notIn_seq (op_niDk hu))
open PyProof.Rows in
theorem ix_dk (hu : X.A.units + 100 < cLine) : IxR X ixDk := by
  intro value slice pins s σ H x y v u Q I rx ry h hs
  obtain ⟨a, z, ex, g, q⟩ := h
  subst ex
  obtain rfl : v = Value.ref a := rx
  have hT := dict_typeIs I g
  have h₂ : wpAny (model X.prog X.w) X.A (getItem (Value.ref a) u) (EP X pins σ Q) X.xe s := d_getItem (by omega) I g ry fun w' s3 I3 rw' => ⟨z, H, I3, rw', q⟩
  unfold subscriptTail
  refine wpAny_bind ?_
  rw [getitemInPython_of_ne hT.not_modules]
  refine wpAny_bind (wpAny_specialOf hT PySem.F.slot_dict_getitem.lookup ?_)
  have fin : wpAny (model X.prog X.w) X.A (subscripted slice false (Value.ref a) u) (fun r s₃ => wpAny (model X.prog X.w) X.A (letTemporaryGo value (Value.ref a) r >>= fun _ => pure r) (EP X pins σ Q) X.xe s₃) X.xe s := by
    rw [hs]
    exact wpAny_operating (wpAny_mono h₂ (fun r s₃ h₃ => wpAny_bind (wpAny_letTemporaryGo (wpAny_pure h₃))) fun _ _ x => x)
  first
    | exact wpAny_pure (wpAny_bind fin)
    | exact wpAny_bind (wpAny_pure (wpAny_bind fin))
    | exact wpAny_bind fin
theorem uIx (hu : X.A.units + 100 < cLine) : IxR X (ixA X.K) := ix_seq.or (ix_dk hu)
theorem uSl : SlR X (slA X.K) := sl_list.or (SlR.or (r := rSlS) sl_str sl_tupA)
theorem call_lenDk : CallR X (.builtin "len") lenDk := by
  intro pins s σ H xs us Q I r h
  obtain ⟨d, kvs, rfl, hd, q⟩ := h
  obtain ⟨u, rfl, r1⟩ := vals1 r
  cases (show u = Value.ref d from r1)
  exact d_len I hd fun t s' I' => ⟨.int kvs.length, H, I', ⟨_, rfl⟩, q⟩
theorem uLen : CallR X (.builtin "len") (lenA X.K) := CallR.or (r := lenO X.K) call_len call_lenDk
theorem set_dk (hu : X.A.units + 100 < cLine) : PSet X setDk := by
  intro pins s σ H o i v ov iv r Q I ro ri rv h
  obtain ⟨a, H', ex, g, q⟩ := h
  subst ex
  obtain rfl : ov = Value.ref a := ro
  exact d_setItem (by omega) I g ri rv fun s4 I4 => ⟨H', I4, q⟩
theorem uSet (hu : X.A.units + 100 < cLine) : PSet X setA := by
  intro pins s σ H o i v ov iv r Q I ro ri rv h
  rcases h with h | h
  · exact set_list pins s σ H o i v ov iv r Q I ro ri rv h
  · exact set_dk hu pins s σ H o i v ov iv r Q I ro ri rv h
end
end S
set_option Elab.async false
set_option linter.all false
set_option maxRecDepth 100000
set_option maxHeartbeats 2000000
namespace S
open PySem PySem.Spec L2

/-! ### what is cut by steps -/
def SlR3 (X : Cx) (r : V → Option Int → Option Int → Option Int → Hp → VK → Prop) : Prop :=
  ∀ (pins : List (Addr × Obj)) (s : Shared) (σ : L2.St) (H : Hp) (x : V) (v vl vu vs : Value) (lo hi st : Option Int) (sl : Addr) (Q : VK), L2.Inv X pins σ H s → L2.RelV x v → s.heap.IsSliceOf sl vl vu vs → IsPart vl lo → IsPart vu hi → IsPart vs st → r x lo hi st H Q →
    ∃ T id, typeLookup (.type T) "__getitem__" = pure (some (.builtin id)) ∧ s.TypeIs v T ∧ wpAny (model X.prog X.w) X.A (getItem v (.ref sl)) (EP X pins σ Q) X.xe s
def tSl3 (r : V → Option Int → Option Int → Option Int → Hp → VK → Prop) (te : TE) (tl th ts : TO) : TE := fun σ H Q => te σ H fun x H1 => tl σ H1 fun l H2 => th σ H2 fun u H3 => ts σ H3 fun k H4 => r x l u k H4 Q
section
variable {X : Cx}
open PyProof.Rows in
theorem pe_slice3 {r : V → Option Int → Option Int → Option Int → Hp → VK → Prop} {e : Expr} {te : TE} {lo hi st : Option Expr} {tl th ts : TO} {p2 pos : Pos} (hr : SlR3 X r) (he : PE X e te) (hl : PO X lo tl) (hu : PO X hi th) (hs : PO X st ts)
    (hb : ∀ ov iv, subscripted (.Slice lo hi st p2) false ov iv = operate [ov, iv] (getItem ov iv) := by intros; rfl) : PE X (.Subscript e (.Slice lo hi st p2) pos) (tSl3 r te tl th ts) := by
  refine ⟨fun pins s σ H Q I h => ?_⟩
  refine Subscript_ (thn (he.run pins s σ H _ I h) fun v s1 ⟨x, H1, I1, r1, q1⟩ => ?_)
  refine wpAny_Slice (thn (hl.run pins s1 σ H1 _ I1 q1) fun vl s2 ⟨l, H2, I2, pl, q2⟩ => thn (hu.run pins s2 σ H2 _ I2 q2) fun vu s3 ⟨u, H3, I3, pu, q3⟩ => thn (hs.run pins s3 σ H3 _ I3 q3) fun vs s4 ⟨k, H4, I4, ps, q4⟩ => ?_)
  have I5 : L2.Inv X pins σ H4 { s4 with heap := s4.heap.push { cls := .type "slice", data := .fields #[vl, vu, vs] } } := I4.kept (t' := s4.toks) fun b ob q => Heap.get?_push_of_some _ q
  obtain ⟨T, id, hT, ht, hg⟩ := hr pins { s4 with heap := s4.heap.push { cls := .type "slice", data := .fields #[vl, vu, vs] } } σ H4 x v vl vu vs l u k s4.heap.objs.size Q I5 r1 (Heap.IsSliceOf.new _ vl vu vs) pl pu ps q4
  exact tail_any (ops := [v, .ref s4.heap.objs.size]) ht hT hg (hb _ _)
def revS (x : Str) : Str := Txt.sliceBy x none none (-1, 0)
theorem revS_toList (x : Str) : (revS x).cps.toList = x.cps.toList.reverse := by
  have hl : (revS x).cps.toList.length = x.cps.toList.reverse.length := by
    have := PyProof.Rows.step_rev_len x 0
    rw [List.length_reverse, Array.length_toList, Array.length_toList]
    exact this
  refine List.ext_getElem hl fun i h1 h2 => ?_
  have h3 : i < x.cps.size := by rw [List.length_reverse, Array.length_toList] at h2; exact h2
  have h4 := PyProof.Rows.step_rev_getD x 0 i h3
  have h5 : i < (revS x).cps.size := by rw [Array.length_toList] at h1; exact h1
  have h6 : x.length - 1 - i < x.cps.size := by show x.cps.size - 1 - i < x.cps.size; omega
  rw [List.getElem_reverse, Array.getElem_toList, Array.getElem_toList]
  have e1 : (revS x).cps.getD i 0 = (revS x).cps[i] := by simp [Array.getD, h5]
  have e2 : x.cps.getD (x.length - 1 - i) 0 = x.cps[x.length - 1 - i] := by simp [Array.getD, h6]
  rw [← e1]
  rw [e2] at h4
  rw [show (revS x).cps.getD i 0 = _ from h4]
  simp only [Array.length_toList]
  rfl
theorem revS_length (x : Str) : (revS x).length = x.length := PyProof.Rows.step_rev_len x 0
def rRev3 (K : PySem.W.Frag) : V → Option Int → Option Int → Option Int → Hp → VK → Prop := fun x lo hi st H Q => lo = none ∧ hi = none ∧ st = some (-1) ∧
  ((∃ a xs, x = .ref a ∧ SqL K H a xs ∧ ∀ p, H p = none → Q (.ref p) (upd H p (.lst xs.reverse))) ∨ ∃ z, x = .str z ∧ z.length ≤ sizeLine ∧ Q (.str (revS z)) H)
theorem sl_rev : SlR3 X (rRev3 X.K) := by
  intro pins s σ H x v vl vu vs lo hi st sl Q I rx hs pl pu ps h
  obtain ⟨rfl, rfl, rfl, h⟩ := h
  rcases h with ⟨a, xs, rfl, hx, q⟩ | ⟨z, rfl, hz, q⟩
  · cases rx
    obtain ⟨its, r, ht, hz⟩ := I.list hx
    have hlen := r.length
    refine ⟨"list", _, PySem.slot_list_getitem.lookup, ht.isList.typeIs, ?_⟩
    refine wpAny_getItem_list_slice ht.isList hs pl pu ps (by decide) ?_ (by rw [List.size_toArray] <;> omega)
    rw [PySem.W.krv_pick]
    refine ⟨.ref s.heap.objs.size, _, I.laid (t' := s.toks) (o := .lst xs.reverse) (fun b ob q => Heap.get?_push_of_some _ q) (Nat.le_refl _) ?_, rfl, q _ (I.hok.fresh (Nat.le_refl _))⟩
    exact ⟨by rw [List.length_reverse]; exact hz, _, 0, r.reverse, Heap.get?_push_size _ rfl⟩
  · obtain ⟨t, rfl⟩ := rx
    obtain ⟨os, hos, hcs, hds⟩ := hs
    obtain ⟨l, rfl, el⟩ := IsPart.raw pl
    obtain ⟨u, rfl, eu⟩ := IsPart.raw pu
    obtain ⟨k, rfl, ek⟩ := IsPart.raw ps
    refine ⟨"str", _, F.slot_str_getitem.lookup, typeIs_str _ _ _, ?_⟩
    refine wpAny_getItem_str_slice (l := l) (u := u) (st := k) ⟨os, hos, hcs, hds⟩ (by rw [ek] <;> rfl) ?_
    have hl : (revS z).length ≤ sizeLine := by rw [revS_length]; exact hz
    unfold sliceMade slicePicked
    rw [el, eu, ek]
    rw [if_neg (by simp)]
    exact ⟨hl, .str (revS z), H, I.tok _, ⟨_, rfl⟩, q⟩
def tRevA (K : PySem.W.Frag) (te : TE) : TE := tSl3 (rRev3 K) te tNoPart tNoPart (tPart (tUn (rU fun i => .int (-i)) (tC (.int 1))))
theorem pe_revA {e : Expr} {te : TE} {k : Nat} {p1 p2 p3 pos : Pos} (he : PE X e te) : PE X (.Subscript e (.Slice none none (some (.UnaryOp .USub (.Constant (.int 1) k p1) p2)) p3) pos) (tRevA X.K te) :=
  pe_slice3 sl_rev he po_none po_none (po_some (pe_un un_neg pe_int)) (fun _ _ => by with_unfolding_all rfl)
/-- xs[a::k]: some of the items -/
def rStep3 (K : PySem.W.Frag) : V → Option Int → Option Int → Option Int → Hp → VK → Prop := fun x lo hi st H Q => (∃ k : Int, st = some k ∧ 0 < k) ∧
  ∃ a xs, x = .ref a ∧ SqL K H a xs ∧ ∀ p zs, zs.length ≤ xs.length → (∀ z ∈ zs, z ∈ xs) → H p = none → Q (.ref p) (upd H p (.lst zs))
end
end S
namespace S
open PySem PySem.Spec L2
theorem Vals.pick {xs : List V} {its : List Value} (r : Vals xs its) : ∀ l : List Nat, Vals (l.filterMap (xs[·]?)) (l.filterMap (its.toArray[·]?))
  | [] => .nil
  | i :: l => by
    have ih := Vals.pick r l
    have e0 : its.toArray[i]? = its[i]? := by simp
    cases e : xs[i]? with
    | none => rw [List.filterMap_cons, List.filterMap_cons, e, e0, r.none_of e]; exact ih
    | some x =>
      obtain ⟨u, hu, ru⟩ := r.get e
      rw [List.filterMap_cons, List.filterMap_cons, e, e0, hu]
      exact .cons ru ih
theorem stepCount (a b k : Int) (n : Nat) (ha : 0 ≤ a) (hb : b ≤ n) (hk : 0 < k) : (sliceRange a b k).length ≤ n := by
  unfold sliceRange
  simp only [gt_iff_lt, hk, if_true, List.length_map, List.length_range]
  by_cases h : a < b
  · rw [if_pos h]
    have h1 : (b - a + k - 1) / k ≤ b - a := ceilDiv_le (b - a) k (by omega) (by omega)
    omega
  · rw [if_neg h]
    omega
section
variable {X : Cx}
theorem sl_step : SlR3 X (rStep3 X.K) := by
  intro pins s σ H x v vl vu vs lo hi st sl Q I rx hs pl pu ps h
  obtain ⟨⟨k, rfl, hk⟩, a, xs, rfl, hx, q⟩ := h
  cases rx
  obtain ⟨its, r, ht, hz⟩ := I.list hx
  have hlen := r.length
  refine ⟨"list", _, PySem.slot_list_getitem.lookup, ht.isList.typeIs, ?_⟩
  refine wpAny_getItem_list_slice ht.isList hs pl pu ps (by intro e; have := Option.some.inj e; omega) ?_ (by rw [List.size_toArray] <;> omega)
  have hb : 0 ≤ (sliceBounds lo hi (some k) its.toArray.size).1 ∧ (sliceBounds lo hi (some k) its.toArray.size).2.1 ≤ its.toArray.size ∧ (sliceBounds lo hi (some k) its.toArray.size).2.2 = k := by
    unfold sliceBounds
    simp only [Option.getD_some, gt_iff_lt, hk, if_true]
    refine ⟨?_, ?_, by first | rfl | trivial⟩
    · cases lo with
      | none => exact Int.le_refl _
      | some i => dsimp only; omega
    · cases hi with
      | none => exact Int.le_refl _
      | some i => dsimp only; omega
  have hc := stepCount _ _ k its.toArray.size hb.1 hb.2.1 hk
  unfold slicePick
  rw [hb.2.2]
  generalize sliceRange (sliceBounds lo hi (some k) its.toArray.size).1 (sliceBounds lo hi (some k) its.toArray.size).2.1 k = l at hc ⊢
  have hl : (l.filterMap (xs[·]?)).length ≤ xs.length := by
    refine Nat.le_trans (List.length_filterMap_le _ _) ?_
    rw [hlen]
    simpa using hc
  refine ⟨.ref s.heap.objs.size, _, I.laid (t' := s.toks) (o := .lst (l.filterMap (xs[·]?))) (fun b ob q => Heap.get?_push_of_some _ q) (Nat.le_refl _) ?_, rfl, q _ _ hl (fun z hz => ?_) (I.hok.fresh (Nat.le_refl _))⟩
  · exact ⟨Nat.le_trans hl hz, _, 0, Vals.pick r l, Heap.get?_push_size _ rfl⟩
  · obtain ⟨i, _, e⟩ := List.mem_filterMap.mp hz
    exact List.mem_of_getElem? e
def tStep (K : PySem.W.Frag) (te : TE) (tl : TE) (k : Int) : TE := tSl3 (rStep3 K) te (tPart tl) tNoPart (tPart (tC (.int k)))
theorem pe_step {e l : Expr} {te tl : TE} {j : Nat} {k : Int} {p1 p3 pos : Pos} (he : PE X e te) (hl : PE X l tl) : PE X (.Subscript e (.Slice (some l) none (some (.Constant (.int k) j p1)) p3) pos) (tStep X.K te tl k) :=
  pe_slice3 sl_step he (po_some hl) po_none (po_some pe_int) (fun _ _ => by with_unfolding_all rfl)

/-! ### sorted(d, reverse=True), max(d, default=k) of a dict of whole numbers -/
def IntKeys (kvs : List (Key × V)) (ks : List Int) : Prop := kvs.map (·.1) = ks.map Sum.inl
theorem keys_ints {P : Program} {w : World} {kvs : List (Key × V)} {vs : List (Key × Value)} {ks : List Int} (rel : KV kvs vs) (hk : IntKeys kvs ks) {j : Nat} {v : Value} (h : ∃ k x, vs[j]? = some (k, x) ∧ (mixKind P w).is k v = true) : ∃ (y : Int) (t : Tok), ks[j]? = some y ∧ v = .int y t := by
  obtain ⟨k, x, e1, e2⟩ := h
  have e3 : (vs.map (·.1))[j]? = some k := by rw [List.getElem?_map, e1]; rfl
  rw [← rel.keys, show kvs.map (·.1) = ks.map Sum.inl from hk, List.getElem?_map] at e3
  cases e4 : ks[j]? with
  | none => rw [e4] at e3; cases e3
  | some y =>
    rw [e4] at e3
    have e5 : Sum.inl y = k := Option.some.inj e3
    subst e5
    rcases keyIs_shape (show keyIs (Sum.inl y) v = true from e2) with ⟨i, t, ek, ev⟩ | ⟨z, t, ek, ev⟩
    · cases ek
      exact ⟨y, t, rfl, ev⟩
    · cases ek
def rSortRev : List V → List V → Hp → VK → Prop := fun xs zs H Q => ∃ (a : Addr) (kvs : List (Key × V)) (ks : List Int), xs = [.ref a] ∧ zs = [.bl true] ∧ Rd H a (.dK kvs) ∧ IntKeys kvs ks ∧ ks.length < 64 ∧
    ∀ (ys : List Int) (p : Addr), ys.Perm ks → ys.Pairwise (· ≥ ·) → H p = none → Q (.ref p) (upd H p (.lst (ys.map V.int)))
open PyProof.Rows in
theorem cr_sortRev (hcalm : X.calm = true) : CallRK X (.builtin "sorted") [Str.ofString "reverse"] rSortRev := by
  intro pins s σ H xs zs us ws Q I r rz h
  obtain ⟨a, kvs, ks, rfl, rfl, hd, hks, h64, q⟩ := h
  obtain ⟨u, eu, rx⟩ := vals1 r
  subst eu
  cases rx
  obtain ⟨w1, rfl, e1⟩ := vals1 rz
  obtain rfl : w1 = Value.bool true := e1
  obtain ⟨z, lo, vs, rel, dd⟩ := dk_rd I.hok hd
  obtain ⟨ep, hat⟩ := dd.dictAt
  have hl : vs.length = ks.length := by
    have e := congrArg List.length (rel.keys.symm.trans hks)
    rw [List.length_map, List.length_map] at e
    exact e
  show wpAny _ _ (call (.builtin "sorted") [.ref a] [(Str.ofString "reverse", .bool true)]) _ _ s
  refine call_function_entry_kw kind_sorted plain_sorted entry_sorted (args_sorted_rev _ _) ?_
  unfold Builtin.«sorted»
  refine wpAny_bind (m := checkCount "sorted" 1 1 _) (wpAny_pure ?_)
  refine wpAny_bind (PySem.W.kdu_collect (A := X.A.in1) (PySem.W.kdl_dict (knd := mixKind X.prog X.w) (kvs := vs) (ep := ep) lo) (I.ok.hd hcalm) hat (by rw [hl, sizeLine_eq]; omega) fun h' tk acc hk hacc => ?_)
  have hal : acc.toList.length = ks.length := by rw [Array.length_toList, hacc.1, hl]
  have hS : IntsAre acc.toList ks := ints_each hal fun j v e => keys_ints rel hks (hacc.2 j v (by rw [← Array.getElem?_toList]; exact e))
  have I1 : L2.Inv X pins σ H { s with heap := h', toks := tk } := I.kept hk
  refine wpAny_bind (wpAny_newList ?_ (by rw [hal, sizeLine_eq]; omega))
  have hoL : (h'.push (seqObj "list" acc.toList.toArray 0)).get? h'.objs.size = some (seqObj "list" acc.toList.toArray 0) := Heap.get?_push_size _ rfl
  show wpAny _ _ _ _ _ { s with heap := h'.push (seqObj "list" acc.toList.toArray 0), toks := tk }
  refine wpAny_bind (wpAny_holding (wpAny_call_entry_kw slot_list_sort ⟨_, hoL, rfl⟩ entry_list_sort ?_ (args_list_sort_rev _ _)))
  refine SrtR.list_sort_ordR (vs := acc.toList) SrtO.swo_int hoL (by rw [hal, sizeLine_eq]; omega) (fun h2 => SrtO.ints_sortable hS h2) fun out g1 g2 => ⟨_, rfl, ?_⟩
  obtain ⟨ys, k1, k2, k3⟩ := SrtR.ints_outR hS g1 g2
  obtain ⟨e', he'⟩ := sortedHeap_at (vs := acc.toList) (out := if true = true then out.toArray.reverse else out.toArray) hoL
  have hlen : (ys.map V.int).length ≤ sizeLine := by
    rw [List.length_map, k2.length_eq, sizeLine_eq]
    omega
  refine wpAny_pure ⟨_, rfl, .ref h'.objs.size, upd H h'.objs.size (.lst (ys.map V.int)), I1.laid (t' := tk) (fun b u e => ?_) (Nat.le_refl _)
    (show ObjOk X.prog X.w _ _ _ (.lst (ys.map V.int)) from ⟨hlen, _, e', vals_of_ints k1, by rw [Array.toArray_toList]; exact he'⟩), rfl, q ys _ k2 k3 (I1.hok.fresh (Nat.le_refl _))⟩
  have hb : b < h'.objs.size := Heap.lt_size e
  rw [sortedHeap_old (Nat.ne_of_lt hb) (by rw [size_push']; exact Nat.lt_succ_of_lt hb)]
  exact Heap.get?_push_of_some _ e
end
end S
set_option Elab.async false
set_option linter.all false
set_option maxRecDepth 100000
set_option maxHeartbeats 2000000
namespace S
open PySem PySem.Spec L2
section
variable {prog : Program} {w : World} {A : Around} {R : Result → Shared → Prop} {I : Addr} {fp wr : List Addr} {n : Nat} {P : Nat → Value → Prop} {St : Nat → Heap → Prop}
/-- what is best among the first j: nothing yet, or one of them -/
def BestOf (P : Nat → Value → Prop) (val : Nat → Int) (j : Nat) (b : List Value) : Prop := (b = [] ∧ j = 0) ∨ ∃ v i, b = [v, v] ∧ i < j ∧ P i v ∧ ∀ m, m < j → val m ≤ val i
theorem max_loopD (W : Walks prog w A.in1 I fp wr n P St) (val : Nat → Int) (hval : ∀ i v, P i v → ∃ t, v = .int (val i) t) (S : Addr) (hSf : S ∉ fp) (d : Value) :
    ∀ (k j : Nat) (s : Shared) (b : List Value) (c : Nat), n - j = k → j ≤ n → St j s.heap → BestOf P val j b →
    s.heap.get? S = some { cls := .type "list", dict := none, data := .seq b.toArray c, slots := #[] } →
    (∀ b' h' tk, BestOf P val n b' → (∀ a o, a ∉ wr → a ≠ S → s.heap.get? a = some o → h'.get? a = some o) → R (.ok (.ret (b'.headD d))) { s with heap := h', toks := tk }) →
    codeAny (model prog w) A (.builtin "max.loop" ⟨[.ref I, .none, .ref S], [(Str.ofString "default", d)]⟩) R s := by
  have hSw : S ∉ wr := fun h => hSf (W.sub _ h)
  have hname : (toString "max" ++ toString ".loop" : String) = "max.loop" := by decide
  intro k
  induction k with
  | zero =>
    intro j s b c hk hj hst hb hS hR
    have hin : j = n := by omega
    refine codeAny_builtin F.entry_max_loop ?_
    rw [Around.under_plainId F.plain_max_loop _]
    show wpAny _ A.in1 (seqItems? (.ref S) >>= _) _ _ s
    refine wpAny_bind (wpAny_seqItems hS rfl ?_)
    show wpAny _ A.in1 (tryCatch (pyNext (.ref I)) _ >>= _) _ _ s
    refine wpAny_bind (wpAny_tryCatch (W.done s _ _ (hin ▸ hst) fun h' tk hk' => ?_))
    have hS' := hk' S _ hSw hS
    subst hin
    rcases hb with ⟨rfl, hj0⟩ | ⟨v, i, rfl, hi, hP, hm⟩
    · show wpAny _ A.in1 (rule _ >>= _) _ _ _
      refine wpAny_bind (wpAny_rule (wpAny_pure ?_))
      exact hR [] h' tk (.inl ⟨rfl, hj0⟩) fun a o ha hs e => hk' a o ha e
    · show wpAny _ A.in1 (updateSeq S (fun _ => #[]) >>= _) _ _ _
      refine wpAny_bind ?_
      refine wpAny_updateSeq hS' rfl (wpAny_bind (wpAny_letGo (wpAny_pure ?_)))
      exact hR [v, v] _ tk (.inr ⟨v, i, rfl, hi, hP, hm⟩) fun a o ha hs e => (Heap.get?_update_other _ _ (Ne.symm hs)).trans (hk' a o ha e)
  | succ k ih =>
    intro j s b c hk hj hst hb hS hR
    have hlt : j < n := by omega
    refine codeAny_builtin F.entry_max_loop ?_
    rw [Around.under_plainId F.plain_max_loop _]
    show wpAny _ A.in1 (seqItems? (.ref S) >>= _) _ _ s
    refine wpAny_bind (wpAny_seqItems hS rfl ?_)
    show wpAny _ A.in1 (tryCatch (pyNext (.ref I)) _ >>= _) _ _ s
    refine wpAny_bind (wpAny_tryCatch (W.item j s _ _ hlt hst fun v h' tk hP hst' hk' => ?_))
    have hS' := hk' S _ hSw hS
    have upd_ok : ∀ (o : Obj), True := fun _ => trivial
    -- a better one is stored
    have stored : ∀ (tk' : Nat), BestOf P val (j + 1) [v, v] → (∀ s2 : Shared, s2 = { s with heap := h'.update S (Obj.mapSeq fun _ => #[v, v]), toks := tk } →
        codeAny (model prog w) A (.builtin "max.loop" ⟨[.ref I, .none, .ref S], [(Str.ofString "default", d)]⟩) R s2) := fun _ hb' s2 e2 => by
      subst e2
      refine ih (j + 1) _ [v, v] _ (by omega) hlt (W.frame _ _ _ hst' fun a ha o e => ?_) hb' (Heap.get?_update_self _ hS' rfl) fun b' h'' tk'' hb'' hk'' => ?_
      · exact (Heap.get?_update_other _ _ (fun h : S = a => hSf (by rw [h]; exact ha))).trans e
      · exact hR b' h'' tk'' hb'' fun a o ha hs e => hk'' a o ha hs ((Heap.get?_update_other _ _ (Ne.symm hs)).trans (hk' a o ha e))
    rcases hb with ⟨rfl, hj0⟩ | ⟨vb, i, rfl, hi, hPi, hm⟩
    · show wpAny _ A.in1 (updateSeq S (fun _ => #[v, v]) >>= _) _ _ _
      refine wpAny_bind ?_
      refine wpAny_updateSeq hS' rfl ?_
      rw [hname]
      refine wpAny_pure ⟨plainId_quiet F.plain_max_loop _, stored 0 (.inr ⟨v, j, rfl, by omega, hP, fun m hm => ?_⟩) _ rfl⟩
      have : m = j := by omega
      subst this
      exact Int.le_refl _
    · show wpAny _ A.in1 (tryCatch (holding [v, v] (richCompare .Gt v vb >>= _)) _ >>= _) _ _ _
      refine wpAny_bind (wpAny_tryCatch (wpAny_holding (wpAny_bind (CmpOf.ints_gt val hval j i v vb _ _ _ hP hPi ?_))))
      refine wpAny_bind (wpAny_holding (wpAny_truthy_bool ?_))
      refine wpAny_bind (wpAny_letGo (wpAny_pure ?_))
      by_cases hgt : val j > val i
      · simp only [decide_eq_true hgt, if_true]
        refine wpAny_bind ?_
        refine wpAny_updateSeq hS' rfl (wpAny_bind (wpAny_letGo ?_))
        rw [hname]
        refine wpAny_pure ⟨plainId_quiet F.plain_max_loop _, stored 0 (.inr ⟨v, j, rfl, by omega, hP, fun m hm' => ?_⟩) _ rfl⟩
        by_cases e : m = j
        · rw [e]; exact Int.le_refl _
        · have := hm m (by omega)
          omega
      · simp only [decide_eq_false hgt, Bool.false_eq_true, if_false]
        refine wpAny_bind (wpAny_letGo ?_)
        rw [hname]
        refine wpAny_pure ⟨plainId_quiet F.plain_max_loop _, ih (j + 1) _ [vb, vb] c (by omega) hlt hst' (.inr ⟨vb, i, rfl, by omega, hPi, fun m hm' => ?_⟩) hS' fun b' h'' tk'' hb'' hk'' => ?_⟩
        · by_cases e : m = j
          · rw [e]; omega
          · exact hm m (by omega)
        · exact hR b' h'' tk'' hb'' fun a o ha hs e => hk'' a o ha hs (hk' a o ha e)
end
/-- a built-in function called with keywords that goes on with itself -/
theorem call_tree_kw {prog : Program} {w : World} {A : Around} {E : Value → Shared → Prop} {s : Shared} {id : String} {b : Builtin} {args : List Value} {kw : List (Str × Value)} {Q : Value → Shared → Prop} (hk : builtinKind id = none) (hp : plainId id = true)
    (hb : entryFor table id = some b) (ha : argsOk id ⟨args, kw⟩)
    (hc : wpAny (model prog w) A.in1 (b ⟨args, kw⟩) (fun fin s' => match fin with
      | .done f => (match (Except.ok f : Result) with | .ok (.ret v) => Q v s' | .ok _ => False | .error e => E e s')
      | .again c' => c'.quiet = true ∧ codeAny (model prog w) A c' (fun r s' => match r with | .ok (.ret v) => Q v s' | .ok _ => False | .error e => E e s') s') E s) :
    wpAny (model prog w) A (call (.builtin id) args kw) Q E s := by
  refine wpAny_call (codeAny_call_builtin hp hb ?_)
  simp only [checkBuiltinCall, hk]
  cases hsig : Manifest.signature? id with
  | none => exact wpAny_pure hc
  | some sig =>
    simp only [argsOk, hsig] at ha
    have h2 : Bind.checkArgs id sig ⟨args, kw⟩ = pure () := ha
    first
      | (simp only [h2]; exact wpAny_bind (wpAny_pure (wpAny_pure hc)))
      | (simp only [h2]; exact wpAny_bind (wpAny_pure hc))
      | (simp only [h2]; exact wpAny_pure hc)
def rMaxD : List V → List V → Hp → VK → Prop := fun xs zs H Q => ∃ (a : Addr) (kvs : List (Key × V)) (ks : List Int) (d : Int), xs = [.ref a] ∧ zs = [.int d] ∧ Rd H a (.dK kvs) ∧ IntKeys kvs ks ∧
  ∀ m, (ks = [] → m = d) → (ks ≠ [] → m ∈ ks ∧ ∀ y ∈ ks, y ≤ m) → Q (.int m) H
section
variable {X : Cx}
theorem args_max_def (a d : Value) : argsOk "max" ⟨[a], [(Str.ofString "default", d)]⟩ := by unfold argsOk; kernel_rfl
theorem cr_maxD (hcalm : X.calm = true) : CallRK X (.builtin "max") [Str.ofString "default"] rMaxD := by
  intro pins s σ H xs zs us ws Q I r rz h
  obtain ⟨a, kvs, ks, d, rfl, rfl, hd, hks, q⟩ := h
  obtain ⟨u, eu, rx⟩ := vals1 r
  subst eu
  cases rx
  obtain ⟨w1, rfl, t1, rfl⟩ := vals1 rz
  obtain ⟨z, lo, vs, rel, dd⟩ := dk_rd I.hok hd
  obtain ⟨ep, hat⟩ := dd.dictAt
  have hl : vs.length = ks.length := by
    have e := congrArg List.length (rel.keys.symm.trans hks)
    rw [List.length_map, List.length_map] at e
    exact e
  have K := PySem.W.kdl_dict (prog := X.prog) (w := X.w) (knd := mixKind X.prog X.w) (kvs := vs) (ep := ep) (d := a) lo
  have hname : (toString "max" ++ toString ".loop" : String) = "max.loop" := by decide
  show wpAny _ _ (call (.builtin "max") [.ref a] [(Str.ofString "default", .int d t1)]) _ _ s
  refine call_tree_kw F.kind_max F.plain_max F.entry_max (args_max_def _ _) ?_
  show wpAny _ X.A.in1 (Builtin.Builtins.bindParams "max" ["key", "default"] 0 ⟨[], [(Str.ofString "default", .int d t1)]⟩ >>= _) _ _ s
  refine wpAny_bind (wpAny_of_eq (show Builtin.Builtins.bindParams "max" ["key", "default"] 0 ⟨[], [(Str.ofString "default", .int d t1)]⟩ = pure [none, some (.int d t1)] from rfl) ?_)
  refine wpAny_bind (wpAny_pure ?_)
  obtain ⟨oI, St, hit, W, st⟩ := K.iter X.A.in1 s (I.ok.hd hcalm) hat
  refine wpAny_bind (hit _ _ ?_)
  refine wpAny_bind (wpAny_newObj_type ?_)
  have hlt := K.there _ hat
  have hSf : (s.heap.push oI).objs.size ∉ [s.heap.objs.size, a] := fun hm => by
    rw [Heap.size_push] at hm
    rcases List.mem_cons.mp hm with e | hm
    · exact absurd e (Nat.succ_ne_self _)
    · rcases List.mem_cons.mp hm with e | hm
      · rw [← e] at hlt
        exact absurd hlt.1 (Nat.not_lt.mpr (Nat.le_succ _))
      · cases hm
  rw [hname]
  have e0 : (Option.some (Value.int d t1)).toList.map (fun d => (Str.ofString "default", d)) = [(Str.ofString "default", Value.int d t1)] := rfl
  have hv : ∀ i v, (∃ k x, vs[i]? = some (k, x) ∧ (mixKind X.prog X.w).is k v = true) → ∃ t, v = .int (ks.getD i 0) t := fun i v hiv => by
    obtain ⟨y, t, e1, e2⟩ := keys_ints rel hks hiv
    refine ⟨t, ?_⟩
    rw [e2, List.getD_eq_getElem?_getD, e1]
    rfl
  refine wpAny_pure ⟨plainId_quiet F.plain_max_loop _, max_loopD W (fun i => ks.getD i 0) hv (s.heap.push oI).objs.size hSf (.int d t1) _ 0 _ [] _ rfl (Nat.zero_le _) (W.frame _ _ _ st fun b _ o e => Heap.get?_push_of_some _ e) (.inl ⟨rfl, rfl⟩) (Heap.get?_push_size _ rfl) fun b' h' tk hb hk => ?_⟩
  have keep : ∀ b o, s.heap.get? b = some o → h'.get? b = some o := fun b o e => by
    have hb := Heap.lt_size e
    refine hk b o (fun hm => ?_) ?_ (Heap.get?_push_of_some _ (Heap.get?_push_of_some _ e))
    · rcases List.mem_cons.mp hm with e1 | hm
      · exact absurd hb (by rw [e1]; exact Nat.lt_irrefl _)
      · cases hm
    · rw [Heap.size_push]
      exact Nat.ne_of_lt (Nat.lt_succ_of_lt hb)
  have I1 : L2.Inv X pins σ H { s with heap := h', toks := tk } := I.kept keep
  rcases hb with ⟨rfl, h0⟩ | ⟨v, i, rfl, hi, hP, hm⟩
  · refine ⟨.int d, H, I1, ⟨t1, rfl⟩, q d (fun _ => rfl) fun hne => ?_⟩
    exact absurd (List.length_eq_zero_iff.mp (by omega)) hne
  · obtain ⟨y, t, e1, e2⟩ := keys_ints rel hks hP
    have ey : ks.getD i 0 = y := by rw [List.getD_eq_getElem?_getD, e1]; rfl
    refine ⟨.int y, H, I1, ⟨t, e2⟩, q y (fun e => by rw [e] at e1; simp at e1) fun _ => ⟨List.mem_of_getElem? e1, fun x hx => ?_⟩⟩
    obtain ⟨m, hm1, hm2⟩ := List.getElem_of_mem hx
    have h3 : ks.getD m 0 ≤ ks.getD i 0 := hm m (by omega)
    have e3 : ks.getD m 0 = x := by rw [List.getD_eq_getElem?_getD, List.getElem?_eq_getElem hm1, hm2]; rfl
    rw [e3, ey] at h3
    exact h3
end
end S
set_option Elab.async false
set_option linter.all false
set_option maxRecDepth 100000
set_option maxHeartbeats 2000000
namespace S
open PySem PySem.Spec L2
def rMin2 : List V → Hp → VK → Prop := fun xs H Q => ∃ i j, xs = [.int i, .int j] ∧ Q (.int (if j < i then j else i)) H
def rMax2 : List V → Hp → VK → Prop := fun xs H Q => ∃ i j, xs = [.int i, .int j] ∧ Q (.int (if j > i then j else i)) H
def intI : List V → Hp → VK → Prop := fun xs H Q => (∃ i, xs = [.int i] ∧ Q (.int i) H) ∨ ∃ k, xs = [.bl k] ∧ Q (.int (if k then 1 else 0)) H
def intS : List V → Hp → VK → Prop := fun xs H Q => ∃ a n, xs = [.str a] ∧ PySem.intText? a = some n ∧ a.length ≤ 640 ∧ Q (.int n) H
def intC (K : PySem.W.Frag) : List V → Hp → VK → Prop := fun xs H Q => intI xs H Q ∨ intS xs H Q
def strI : List V → Hp → VK → Prop := fun xs H Q => ∃ i, xs = [.int i] ∧ i.natAbs.log2 < 1920 ∧ Q (.str (toString i)) H
def strS : List V → Hp → VK → Prop := fun xs H Q => ∃ a, xs = [.str a] ∧ Q (.str a) H
def strC (K : PySem.W.Frag) : List V → Hp → VK → Prop := fun xs H Q => strI xs H Q ∨ strS xs H Q
def listO (K : PySem.W.Frag) : List V → Hp → VK → Prop := fun xs H Q => ∃ p ys, xs = [.ref p] ∧ (SqL K H p ys ∨ SqT K H p ys) ∧ ∀ l, H l = none → Q (.ref l) (upd H l (.lst ys))
def listC (K : PySem.W.Frag) : List V → Hp → VK → Prop := fun xs H Q => listO K xs H Q ∨ rListD xs H Q
def dictP (K : PySem.W.Frag) : List V → Hp → VK → Prop := fun xs H Q => ∃ (a : Addr) (ps : List Addr) (kvs : List (Key × V)), xs = [.ref a] ∧ SqL K H a (ps.map V.ref) ∧ Paired (fun p kv => SqT K H p [kV kv.1, kv.2]) ps kvs ∧
    ∀ p, H p = none → Q (.ref p) (upd H p (.dK (mergeK [] kvs)))
def dictD : List V → Hp → VK → Prop := fun xs H Q => ∃ a kvs, xs = [.ref a] ∧ Rd H a (.dK kvs) ∧ ∀ p, H p = none → Q (.ref p) (upd H p (.dK kvs))
def dictC (K : PySem.W.Frag) : List V → Hp → VK → Prop := fun xs H Q => dictP K xs H Q ∨ dictD xs H Q
def tupleC (K : PySem.W.Frag) : List V → Hp → VK → Prop := fun xs H Q => ∃ p ys, xs = [.ref p] ∧ ((SqL K H p ys ∧ ∀ l, H l = none → Q (.ref l) (upd H l (.tup ys))) ∨ (SqT K H p ys ∧ Q (.ref p) H))
def srtDI : List V → Hp → VK → Prop := fun xs H Q => ∃ (a : Addr) (kvs : List (Key × V)) (ks : List Int), xs = [.ref a] ∧ Rd H a (.dK kvs) ∧ kvs.map (·.1) = ks.map Sum.inl ∧ ks.length < 64 ∧
    ∀ (ys : List Int) (p : Addr), ys.Perm ks → ys.Pairwise (· ≤ ·) → H p = none → Q (.ref p) (upd H p (.lst (ys.map V.int)))
def srtDS : List V → Hp → VK → Prop := fun xs H Q => ∃ (a : Addr) (kvs : List (Key × V)) (ks : List Str), xs = [.ref a] ∧ Rd H a (.dK kvs) ∧ kvs.map (·.1) = ks.map Sum.inr ∧ ks.length < 64 ∧
    ∀ ys p, ys.Perm ks → PyProof.Rows.sortedS ys = true → H p = none → Q (.ref p) (upd H p (.lst (ys.map V.str)))
def sortedA (K : PySem.W.Frag) : List V → Hp → VK → Prop := fun xs H Q => rSortedI K xs H Q ∨ srtDI xs H Q ∨ srtDS xs H Q
def joinR (K : PySem.W.Frag) : V → List V → Hp → VK → Prop := fun x xs H Q => ∃ a p, ∃ ys : List Str, x = .str a ∧ xs = [.ref p] ∧ (SqL K H p (ys.map V.str) ∨ SqT K H p (ys.map V.str)) ∧
    (ys.map (·.length)).sum + ys.length * a.length ≤ 16777216 ∧ Q (.str (Txt.join a ys)) H
def splitR : V → List V → Hp → VK → Prop := fun x xs H Q => ∃ a b, x = .str a ∧ xs = [.str b] ∧ (b.length == 0) = false ∧ a.length + 2 ≤ sizeLine ∧ rNewStrs (Txt.split a b) H Q
def partR : V → List V → Hp → VK → Prop := fun x xs H Q => ∃ a b, x = .str a ∧ xs = [.str b] ∧ (b.length == 0) = false ∧ a.length ≤ sizeLine ∧
    ∀ p, H p = none → Q (.ref p) (upd H p (.tup [.str (Txt.partition a b).1, .str (Txt.partition a b).2.1, .str (Txt.partition a b).2.2]))
section
variable {X : Cx}
theorem uIntC : CallR X (.type "int") (intC X.K) := CallR.or (r := intI) (r' := intS) call_int1 call_int_str
theorem uStrC : CallR X (.type "str") (strC X.K) := CallR.or (r := strI) (r' := strS) call_str_int SkE.call_str_str
theorem uListC (hc : X.calm = true) : CallR X (.type "list") (listC X.K) := CallR.or (r := listO X.K) call_list_of (call_list_dK hc)
theorem call_dictD : CallR X (.type "dict") dictD := by
  intro pins s σ H xs us Q I r h
  obtain ⟨a, kvs, rfl, hd, q⟩ := h
  obtain ⟨u, rfl, r1⟩ := vals1 r
  cases (show u = Value.ref a from r1)
  exact d_copyOf I hd fun p s' hp I' => ⟨.ref p, _, I', rfl, q p hp⟩
theorem uDictC (hc : X.calm = true) : CallR X (.type "dict") (dictC X.K) := CallR.or (r := dictP X.K) (call_dictP hc) call_dictD
theorem uTupleC : CallR X (.type "tuple") (tupleC X.K) := call_tuple_of
theorem uSorted (hc : X.calm = true) : CallR X (.builtin "sorted") (sortedA X.K) := CallR.or cr_sortedI (CallR.or (r := srtDI) (r' := srtDS) (call_sortedDI hc) (call_sortedD hc))

/-! ### list(d.values()) -/
def tListVals (te : TE) : TE := fun σ H Q => te σ H fun x H1 => ∃ (d : Addr) (kvs : List (Key × V)), x = .ref d ∧ Rd H1 d (.dK kvs) ∧ ∀ p, H1 p = none → Q (.ref p) (upd H1 p (.lst (kvs.map (·.2))))
theorem pe_listVals {e : Expr} {te : TE} {p apos cpos pos : Pos} (hc : X.calm = true) (he : PE X e te) (hg : Gl X "list") (hm : X.mg "list" = none) (hv : bootBuiltins "list" = some (.type "list")) (hbase : attributeBase e "values" X.env (eval e X.env) = eval e X.env := by rfl) (hline : (apos.endLine == cpos.line) = true := by rfl)
    (hs : starEach [.Call (.Attribute e "values" apos) [] [] cpos] X.env = (false, eval (.Call (.Attribute e "values" apos) [] [] cpos) X.env) :: starEach [] X.env := by rfl) :
    PE X (.Call (.Name "list" p) [.Call (.Attribute e "values" apos) [] [] cpos] [] pos) (tListVals te) := by
  refine ⟨fun pins s σ H Q I hq => ?_⟩
  refine wpAny_Call_Name_kw (ld_blt I hg hm hv ?_)
  refine PyProof.Rows.callWith_type1 ?_ hs rfl
  rw [hs]
  show wpAny _ _ (spliced ((false, eval (.Call (.Attribute e "values" apos) [] [] cpos) X.env) :: backTo pos (starEach [] X.env))) _ _ s
  refine Calls.spliced_cons ?_
  refine wpAny_Call_method (T := "dict") (id := "dict.values") hbase rfl hline F.plainAttrs_dict F.slot_dict_values F.type_dict_values (thn (he.run pins s σ H _ I hq) fun u s1 ⟨x, H1, I1, rx, d, kvs, ex, hd, q⟩ => ?_)
  subst ex
  obtain rfl : u = Value.ref d := rx
  obtain ⟨hz, hs0, vs, kv, hdo⟩ := dk_rd I1.hok hd
  obtain ⟨ep, hat⟩ := hdo.dictAt
  have lk : kvs.length = vs.length := Paired.length kv
  have I2 : L2.Inv X pins σ H1 { s1 with heap := s1.heap.push { cls := .type "dict_values", data := .fields #[.ref d] } } := I1.kept (t' := s1.toks) fun b ob q => Heap.get?_push_of_some _ q
  refine ⟨hdo.typeIs, hdo.mapOf.noDict, ?_⟩
  show wpAny _ _ (callWith cpos (.builtin "dict.values") [.ref d] [] []) _ X.xe s1
  refine method_meetsIn F.slot_dict_values F.entry_dict_values rfl (PySem.evalArgs_none ⟨rfl, hdo.typeIs, F.args_dict_values_1 _, _, meets_dict_values (mixKind X.prog X.w) d hs0, ⟨vs, hdo⟩, ?_⟩)
  refine Calls.spliced_nil ?_
  refine PySem.W.kdl_call (PySem.W.kdl_values (prog := X.prog) (w := X.w) (knd := mixKind X.prog X.w) (kvs := vs) (ep := ep)) (I1.ok.hd hc) ⟨⟨_, Heap.get?_push_size _ rfl, rfl, rfl⟩, hat.push _⟩ (by rw [← lk]; exact hz) fun h' tk acc' c' hkeep hS hacc => ?_
  have hn : H1 (s1.heap.push { cls := .type "dict_values", data := .fields #[.ref d] }).objs.size = none := I2.hok.fresh (Nat.le_refl _)
  refine ⟨.ref _, upd H1 _ (.lst (kvs.map (·.2))), I2.laid (t' := tk) hkeep (Nat.le_refl _) (show ObjOk X.prog X.w _ _ _ (.lst (kvs.map (·.2))) from ⟨by rw [List.length_map]; exact hz, acc'.toList, c', ?_, by rw [Array.toArray_toList]; exact hS⟩), rfl, q _ hn⟩
  have el : acc'.toList.length = acc'.size := by simp
  refine vals_of_at (by rw [List.length_map, el, hacc.1, lk]) fun j x w h1 h2 => ?_
  obtain ⟨k, hky⟩ := hacc.2 j w (by rw [← Array.getElem?_toList]; exact h2)
  rw [List.getElem?_map] at h1
  cases e : kvs[j]? with
  | none => rw [e] at h1; cases h1
  | some y =>
    rw [e] at h1
    cases h1
    obtain ⟨u, hu, ru⟩ := kv_get kv (k := y.1) (v := y.2) e
    rw [hky] at hu
    cases hu
    exact ru
end
end S
set_option Elab.async false
set_option linter.all false
namespace S
open PySem L2
/-- a def's slots at its entry: n of them -/
def startN (n : Nat) (vs : List V) : L2.St := vs.map some ++ List.replicate (n - vs.length) none
end S
set_option Elab.async false
set_option linter.all false
set_option maxRecDepth 100000
set_option maxHeartbeats 2000000
namespace S
open PySem PySem.Spec L2 PyProof.Rows
def tChain3 (r r' r2 : R2) (ta tb tc td : TE) : TE := fun σ H Q => ta σ H fun x H1 => tb σ H1 fun y H2 => r x y H2 fun z H3 => ∃ k, z = .bl k ∧
  (if k = true then tc σ H3 fun w' H4 => r' y w' H4 fun z H5 => ∃ k, z = .bl k ∧ (if k = true then td σ H5 fun u H6 => r2 w' u H6 Q else Q (.bl false) H5) else Q (.bl false) H3)
section
variable {X : Cx} {a b c d : Expr} {ta tb tc td : TE} {pos : Pos}
theorem pt_chain3 {op op' op2 : CmpOp} {r r' r2 : R2} (ho : OpR X (compareOp op) r) (ho' : OpR X (compareOp op') r') (ho2 : OpR X (compareOp op2) r2) (ha : PE X a ta) (hb : PE X b tb) (hc : PE X c tc) (hd : PE X d td)
    (hm : lastMarks [op, op', op2] [b, c, d] = false := by with_unfolding_all rfl) : PT X (.Compare a [op, op', op2] [b, c, d] pos) (tTest (tChain3 r r' r2 ta tb tc td)) := by
  refine ⟨fun pins s σ H Q I h => ?_⟩
  refine isTrue_chain (thn (ha.run pins s σ H _ I h) fun v s1 ⟨x, H1, I1, r1, q1⟩ => test_link (thn (hb.run pins s1 σ H1 _ I1 q1) fun u s2 ⟨y, H2, I2, r2, q2⟩ =>
    thn (ho pins s2 σ H2 x y v u _ I2 r1 r2 q2) fun d s3 ⟨z, H3, I3, r3, k, e, q3⟩ => ?_)) hm
  subst e
  cases r3
  refine wpAny_truthy_bool ?_
  cases k with
  | false =>
    obtain ⟨k', e', q'⟩ := q3
    cases e'
    exact ite_ff ⟨H3, I3, q'⟩
  | true =>
    refine ite_tt (test_link (thn (hc.run pins s3 σ H3 _ I3 q3) fun w' s4 ⟨z', H4, I4, r4, q4⟩ => thn (ho' pins s4 σ H4 y z' u w' _ I4 r2 r4 q4) fun d' s5 ⟨z2, H5, I5, r5, k2, e2, q5⟩ => ?_))
    subst e2
    cases r5
    refine wpAny_truthy_bool ?_
    cases k2 with
    | false =>
      obtain ⟨k', e', q'⟩ := q5
      cases e'
      exact ite_ff ⟨H5, I5, q'⟩
    | true =>
      refine ite_tt (test_last (thn (hd.run pins s5 σ H5 _ I5 q5) fun w2 s6 ⟨z3, H6, I6, r6, q6⟩ => thn (ho2 pins s6 σ H6 z' z3 w' w2 _ I6 r4 r6 q6) fun d2 s7 ⟨z4, H7, I7, r7, k3, e3, q7⟩ => ?_))
      subst e3
      cases r7
      exact wpAny_truthy_bool ⟨H7, I7, q7⟩
/-- the scope of a list in a list -/
def scDay : Scope := { kind := .function, names := [(".0", .local), ("day", .cell), ("book", .cell), ("names", .cell), ("numbers", .cell)], isGenerator := false, isCoroutine := false }
/-- a loop over a dict that is locked here, or that was locked ahead -/
def tLockM (t : TS) : TS := fun D σ H => tLock t D σ H ∨ t D σ H
theorem ps_lockM {st : Stmt} {t : TS} (h : PS X st t) : PS X st (tLockM t) := ⟨fun pins s σ H D I q => by
  rcases q with q | q
  · exact (ps_lock h).run pins s σ H D I q
  · exact h.run pins s σ H D I q⟩
end
end S
set_option Elab.async false
set_option linter.all false
set_option maxRecDepth 100000
set_option maxHeartbeats 4000000
namespace S
open PySem PySem.Spec L2 PyProof.Rows
/-! ### sorted(set(xs)), xs whole numbers -/
section
variable {P : Program} {w : World} {A : Around} {E : Value → Shared → Prop} {s : Shared}
/-- a set as it is made, nothing in it -/
abbrev bare (w : World) : Obj := { cls := .type "set", dict := none, data := .set #[] 0 (.fresh 0 0 (!w.params.followText "set-order")) }
/-- what set(xs) leaves: a set of the numbers of ns, all else as it was -/
def Made (w : World) (s : Shared) (ns : List Int) (s2 : Shared) : Prop := ∃ (h' : Heap) (tk c : Nat), s2 = { s with heap := h', toks := tk } ∧ SetR w h' s.heap.objs.size (fun j => decide (j ∈ ns)) c ∧ c ≤ ns.length ∧ ∀ b o, s.heap.get? b = some o → h'.get? b = some o
theorem at_ints {us : List Value} {ns : List Int} (h : IntsAre us ns) (hn : us.length = ns.length) {i : Nat} {v : Value} (hv : us[i]? = some v) : ∃ k t, ns[i]? = some k ∧ v = .int k t := by
  have hi : i < ns.length := by rw [← hn]; exact (List.getElem?_eq_some_iff.mp hv).1
  obtain ⟨t, e⟩ := IntsAre.int_at h i v hv
  refine ⟨ns[i], t, List.getElem?_eq_getElem hi, ?_⟩
  rw [e, List.getD_eq_getElem?_getD, List.getElem?_eq_getElem hi]
  rfl
theorem call_setL {l : Addr} {items : Array Value} {ns : List Int} {Q : Value → Shared → Prop} (hh : A.handled = none) (hl : s.heap.IsList l items) (hit : IntsAre items.toList ns) (hb : ns.length + 1 < scanBound)
    (h : ∀ s2, Made w s ns s2 → Q (.ref s.heap.objs.size) s2) : wpAny (model P w) A (call (.type "set") [.ref l]) Q E s := by
  have hlen := IntsAre.length hit
  have hsz : items.size = ns.length := by rw [← hlen, Array.length_toList]
  obtain ⟨c, tl, hmro⟩ := F.called_set.mro
  have hmade := F.called_set.made
  have hsub := F.called_set.sub
  have h1 := F.called_set.notType
  have h2 := F.called_set.canCreate
  have hct := F.typeCall_set_1 (.ref l)
  refine wpAny_call (codeAny_of_tree ?_)
  show wpAny _ _ (callAny (.type "set") _) _ _ _
  refine wpAny_pure ⟨Code.quiet_builtin _ (by decide +kernel), codeAny_builtin F.entry_type_call ?_⟩
  rw [Around.under_plain (weight_type_call_type "set" [.ref l] []) rfl]
  repeat (any_goals (first | assumption | wp_step))
  -- the new set
  refine codeAny_mono (code_set_led1 (.ref l) (E := E) (Q₁ := fun obj s₁ => obj = .ref s.heap.objs.size ∧ s₁ = { s with heap := s.heap.push (bare w) }) ⟨rfl, rfl⟩) fun r s₁ hr => ?_
  rcases r with e | fl
  · exact hr
  cases fl with
  | ret obj =>
    obtain ⟨rfl, rfl⟩ := hr
    have hS : (s.heap.push (bare w)).get? s.heap.objs.size = some (bare w) := Heap.get?_push_size _ rfl
    have hT : Shared.TypeIs { s with heap := s.heap.push (bare w) } (.ref s.heap.objs.size) "set" := ⟨_, hS, rfl⟩
    have hli := F.called_set.init.lookup
    have hbi := F.called_set.init.bind (.ref s.heap.objs.size)
    repeat (any_goals (first | assumption | wp_step))
    -- its numbers
    refine codeAny_mono (codeAny_call_builtin (R := wants (fun r s₂ => r = .none ∧ Made w s ns s₂) E) F.called_set.init.plain F.entry_set_init (check_set_init_1 hT ?_)) fun r₂ s₂ hr₂ => ?_
    · obtain ⟨⟨ocls, odict, odata, oslots⟩, hol, hcl, nl, hdl⟩ := hl
      simp only at hcl hdl
      subst hcl
      subst hdl
      have hlS : l < s.heap.objs.size := Heap.lt_size hol
      have hol' := Heap.get?_push_of_some (bare w) hol
      have hl1 : (s.heap.push (bare w)).IsList l items := ⟨_, hol', rfl, nl, rfl⟩
      have hsls := F.sub_list_set
      have hslf := F.sub_list_frozenset
      have hne : (Value.type "list" == Value.type "dict") = false := by decide
      unfold Builtin.«set.__init__» noKeywords Builtin.Frozenset.updateFrom
      generalize hPI : pyIter = PI
      wp_walk
      subst hPI
      refine wpAny_pyIter_list hl1 (wpAny_bind (wpAny_runValue ?_))
      have hh3 : A.in1.in1.in1.handled = none := by simp [hh]
      have hz : (s.heap.push (bare w)).objs.size = s.heap.objs.size + 1 := Heap.size_push ..
      have out1 : l ≠ (s.heap.push (bare w)).objs.size := by
        rw [hz]
        exact Nat.ne_of_lt (Nat.lt_succ_of_lt hlS)
      have out2 : s.heap.objs.size ∉ [(s.heap.push (bare w)).objs.size, l] := fun z => by
        rcases List.mem_cons.mp z with z | z
        · rw [hz] at z
          exact absurd z (Nat.ne_of_lt (Nat.lt_succ_self _))
        · exact absurd (List.mem_singleton.mp z) (Nat.ne_of_gt hlS)
      refine set_update_ints ((Walks.list hh3 _ l out1 items).toS) s.heap.objs.size out2 ns hsz hb (fun i v hv => at_ints hit hlen (by rw [Array.getElem?_toList]; exact hv)) (items.size - 0) 0 _ (by omega) (Nat.zero_le _)
        ⟨⟨_, Heap.get?_push_size _ rfl, rfl, rfl⟩, (hl1.push _)⟩ ⟨0, Nat.le_refl 0, setR_new_at (Heap.get?_push_of_some _ hS)⟩ ?_
      rintro ⟨h', g2, d', tk', os'⟩ c' hm hc' hS'
      have eg : g2 = s.gens := hm.gens
      have ed : d' = s.drawn := hm.drawn
      have eo : os' = s.os := hm.os
      subst eg
      subst ed
      subst eo
      show wpAny _ _ _ _ _ _
      refine wpAny_pure ?_
      show wpAny _ _ (ret Value.none) _ _ _
      rw [hsz] at hc'
      refine wpAny_pure ⟨rfl, h', tk', c', rfl, hS', hc', fun b o e => ?_⟩
      have hb0 : b < s.heap.objs.size := Heap.lt_size e
      refine hm.heap b o (fun z => ?_) (Heap.get?_push_of_some _ (Heap.get?_push_of_some _ e))
      rcases List.mem_cons.mp z with z | z
      · exact absurd z (Nat.ne_of_lt hb0)
      · have z2 := List.mem_singleton.mp z
        rw [hz] at z2
        exact absurd z2 (Nat.ne_of_lt (Nat.lt_succ_of_lt hb0))
    · rcases r₂ with e | fl₂
      · exact hr₂
      cases fl₂ with
      | ret r =>
        obtain ⟨rfl, hm⟩ := hr₂
        repeat (any_goals (first | assumption | wp_step))
        exact h _ hm
      | _ => exact hr₂.elim
  | _ => exact hr.elim
end
/-- sorted(set(xs)) -/
def tSortSetI (K : PySem.W.Frag) (ta : TE) : TE := fun σ H Q => ta σ H fun x H1 => ∃ (l : Addr) (ns : List Int), x = .ref l ∧ SqL K H1 l (ns.map V.int) ∧ ns.length < 64 ∧
  ∀ (ms : List Int) (p : Addr), ms.Pairwise (· < ·) → (∀ k : Int, k ∈ ms ↔ k ∈ ns) → H1 p = none → Q (.ref p) (upd H1 p (.lst (ms.map V.int)))
section
variable {X : Cx}
theorem pe_sortSetI {a : Expr} {ta : TE} {p p2 q pos : Pos} (hg : Gl X "sorted") (hm : X.mg "sorted" = none) (hg2 : Gl X "set") (hm2 : X.mg "set" = none) (ha : PE X a ta) (hc : X.calm = true := by rfl)
    (na : starEach [a] X.env = (false, eval a X.env) :: starEach [] X.env := by rfl) : PE X (.Call (.Name "sorted" p) [.Call (.Name "set" p2) [a] [] q] [] pos) (tSortSetI X.K ta) := by
  refine ⟨fun pins s σ H Q I h => ?_⟩
  refine Call_ (ld_blt I hg hm PyProof.Rows.boot_sorted ?_)
  refine PyProof.Rows.callWith_builtin1 (PyProof.Rows.args_cons ?_ rfl) rfl rfl
  refine Call_ (ld_blt I hg2 hm2 PyProof.Rows.boot_set ?_)
  refine PyProof.Rows.callWith_type1 (PyProof.Rows.args_cons (thn (ha.run pins s σ H _ I h) fun v s1 ⟨x, H1, I1, r1, q1⟩ => PyProof.Rows.args_nil ?_) na) na rfl
  obtain ⟨l, ns, rfl, hq, hl, q1⟩ := q1
  cases r1
  obtain ⟨its, r, pl, hz⟩ := I1.list hq
  refine call_setL (I1.ok.hd hc) pl.isList (ints_of_vals r) (by unfold scanBound; omega) fun s2 hm => ?_
  obtain ⟨h', tk, c, rfl, hS, hcn, hk⟩ := hm
  refine PyProof.Rows.args_nil ?_
  have I2 : Inv X pins σ H1 { s1 with heap := h', toks := tk } := I1.kept hk
  refine sorted_set hS (I2.ok.hd hc) (by omega) fun s' p out c2 ms k g o hp hg' hi hs hm hml => ?_
  have hl2 : (ms.map V.int).length ≤ sizeLine := by rw [List.length_map, hml, sizeLine_eq]; omega
  have hn : H1 p = none := I2.hok.fresh hp
  have J := I2.call' (ch := []) o (Un.laid k hp hn) (I2.hok.laid (o := .lst (ms.map V.int)) k hp ⟨hl2, out.toList, c2, vals_of_ints hi, hg'⟩) (by rw [g]; exact I2.bare) (fun _ z => nomatch z)
  exact ⟨.ref p, _, J, rfl, q1 ms p hs (fun k => (hm k).trans decide_eq_true_iff) hn⟩
end
end S
set_option Elab.async false
set_option linter.all false
set_option maxRecDepth 100000
set_option maxHeartbeats 2000000
namespace S
open PySem PySem.Spec L2 PyProof.Rows
/-! ### d.update(e), both dicts -/
def rUpdD : V → List V → Hp → VK → Prop := fun x vs H Q => ∃ (a b : Addr) (kvs more : List (Key × V)), x = .ref a ∧ vs = [.ref b] ∧ a ≠ b ∧ H a = some (.dK kvs) ∧ Rd H b (.dK more) ∧ kvs.length + more.length ≤ sizeLine ∧ Q .non (upd H a (.dK (mergeK kvs more)))
theorem mt_updD {X : Cx} : MtR X "dict.update" rUpdD := by
  intro pins s σ H x vs v us Q I rx rv h
  obtain ⟨a, b, kvs, more, ex, ev, hab, e, eb, hsz, q⟩ := h
  subst ex
  subst ev
  obtain rfl : v = Value.ref a := rx
  obtain ⟨u, eu, ru⟩ := vals1 rv
  subst eu
  obtain rfl : u = Value.ref b := ru
  obtain ⟨z, hd, vs, rel, dd⟩ := dk_of I.hok e
  obtain ⟨z2, hd2, ws, rel2, dd2⟩ := dk_rd I.hok eb
  refine call_meetsIn PySem.F.slot_dict_update dd.typeIs PySem.F.entry_dict_update (PySem.F.args_dict_update_2 _ _) (meets_dict_update (mixKind X.prog X.w) a b hab hd2)
    ⟨vs, ws, dd, dd2, by rw [← rel.length, ← rel2.length]; exact hsz, fun h' dd' _ hs => ⟨.non, _, ?_, rfl, q⟩⟩
  have he : ∃ q, h'.get? a = some q := let ⟨q, _, _, hq, _⟩ := dd'; ⟨q, hq⟩
  exact d_write (t' := s.toks) I (by rw [e]; exact True.intro) hs he (dk_new (Nat.le_trans (length_mergeK more kvs) hsz) hd (KV.merge rel2 rel) dd')
end S
set_option Elab.async false
set_option linter.all false
set_option maxRecDepth 100000
set_option maxHeartbeats 2000000
namespace S
open PySem PySem.Spec L2 PyProof.Rows
/-! ### raise of an own error -/
def tRaiseC (E : XK) (c : Addr) : TS := fun _ _ H => E (.ref c) none H
theorem ps_raiseC {X : Cx} {E : XK} {C : Addr} {x m : Str} {j : Nat} {p p2 pos pos2 : Pos} (hc : X.calm = true) (tk : Takes X fun cls d _ H => E cls d H) (q : PySem.W.excIn X.K C [.type "ValueError", .type "Exception", .type "BaseException", .type "object"] "ValueError.__new__" = true) (gC : X.mg x = some (.ref C)) (kC : PySem.W.keepIn X.K (.ref C) = true)
    (hb : PySem.W.subIn X.K (.ref C) (.type "BaseException") = some true) (ht : PySem.W.typeIn X.K (.ref C) = some (.type "type")) (hg : Gl X x) (hdb : (x == ("__debug__" : Str)) = false := by decide) :
    PS X (.Raise (some (.Call (.Name x p) [.Constant (.str m) j p2] [] pos)) none pos2) (tRaiseC E C) :=
  ps_raise (W := fun cls d _ H => E cls d H) hc tk (pmk_own PySem.F.excBase_ValueError q gC kC (raises_own hb ht) hg hdb)
end S
set_option Elab.async false
set_option linter.all false
set_option maxRecDepth 100000
set_option maxHeartbeats 2000000
namespace S
open PySem PySem.Spec L2 PyProof.Rows
/-! ### try: .. except X as e: .. of a def that lets nothing out -/
def tTryAs (K : PySem.W.Frag) (c : Addr) (i : Nat) (tb : WX → TS) (ts : Addr → Value → Option Addr → TS) : TS := fun D σ H => tb (wAs K (.ref c) i ts (fun _ _ _ _ => False) D) D σ H
section
variable {X : Cx} {x n : Str} {C : Addr} {i : Nat} {body suite : List Stmt} {b₀ : Stmt} {np pos pos' : Pos} {tb : WX → TS} {ts : Addr → Value → Option Addr → TS}
theorem ps_tryAs (hs : X.stack = X.env :: X.outer) (hf : X.env.frame = some X.env.locals) (hN : X.N.Nodup) (hi : X.N[i]? = some n) (hln : X.env.kindOf n = some .local) (hg : Gl X x) (hdb : (x == ("__debug__" : Str)) = false) (hm : X.mg x = some (.ref C))
    (hb : ∀ (W : WX) (pn : List (Addr × Obj)) (xe : Value → Shared → Prop), Takes (X.tr pn xe) W → PassesOwn (model X.prog X.w) X.A X.env xe → PSs (X.tr pn xe) body (tb W))
    (hsu : ∀ (a : Addr) (oe : Obj) (cls : Value) (d : Option Addr) (pn : List (Addr × Obj)), Zc cls d oe → (∃ vs, oe.data = .fields vs) → PSs (X.suite a ((a, oe) :: pn)) (b₀ :: suite) (ts a cls d)) :
    PS X (.Try body [.ExceptHandler (some (.Name x np)) (some n) (b₀ :: suite) pos'] [] [] pos) (tTryAs X.K C i tb ts) :=
  ps_try_as (Wout := fun _ _ _ _ => False) hs hf hN hi hln ⟨hg, hdb, .inl hm⟩ takes0 hb hsu
end
/-- isinstance(e, c), e the exception that the suite holds -/
def rIsEx (K : PySem.W.Frag) (a : Addr) (cls : Value) (d : Option Addr) : List V → Hp → VK → Prop := fun xs H Q => ∃ (D : Addr) (c : V) (cv : Value) (b : Bool), cls = .ref D ∧ d = none ∧ ExcC K D ∧ xs = [.ref a, c] ∧ (∀ u, RelV c u → u = cv) ∧ PySem.W.kitOne K (.ref D) cv = some b ∧ Q (.bl b) H
theorem call_isEx {X : Cx} {a : Addr} {cls : Value} {d : Option Addr} {oe : Obj} {pn : List (Addr × Obj)} (hz : Zc cls d oe) (hf : ∃ vs, oe.data = .fields vs) : CallR (X.suite a ((a, oe) :: pn)) (.builtin "isinstance") (rIsEx X.K a cls d) := by
  intro pins s σ H xs us Q I r h
  obtain ⟨D, c, cv, b, rfl, rfl, hC, e1, e2, e3, q⟩ := h
  exact call_isE hC hz hf pins s σ H xs us Q I r ⟨c, cv, b, e1, e2, e3, q⟩
end S
namespace S
open PySem PySem.Spec L2
/-- what the top says of an error's class: it is the i-th of the seven -/
structure ExF (K : PySem.W.Frag) (C : CA) (D : Addr) (i : Nat) : Prop where
  c : ExcC K D
  bk : PySem.W.exmOne K (.ref D) (.ref C.BookError) = some true
  ve : PySem.W.kitOne K (.ref D) (.type "ValueError") = some true
  k0 : PySem.W.kitOne K (.ref D) (.ref C.BadEntry) = some (decide (i = 0))
  k1 : PySem.W.kitOne K (.ref D) (.ref C.BadBook) = some (decide (i = 1))
  k2 : PySem.W.kitOne K (.ref D) (.ref C.NoEntry) = some (decide (i = 2))
  k3 : PySem.W.kitOne K (.ref D) (.ref C.Closed) = some (decide (i = 3))
  k4 : PySem.W.kitOne K (.ref D) (.ref C.TooMany) = some (decide (i = 4))
  k5 : PySem.W.kitOne K (.ref D) (.ref C.Gone) = some (decide (i = 5))
  k6 : PySem.W.kitOne K (.ref D) (.ref C.BadText) = some (decide (i = 6))
end S
set_option Elab.async false
set_option linter.all false
set_option maxRecDepth 100000
set_option maxHeartbeats 2000000
namespace S
open PySem PySem.Spec L2 PyProof.Rows
/-! ### x not in (.., ..), all of it data -/
def niT (K : PySem.W.Frag) : R2 := fun x y H Q => ∃ d ds, Dp K H x d ∧ Dp K H y (.tuple ds) ∧ SeqAt.shaped d = true ∧ SeqAt.shaped (.tuple ds) = true ∧ Q (.bl (!ds.any fun z => PyData.eqv z d)) H
theorem uNiT {X : Cx} (hu : X.A.units + 100 < cLine) : OpR X (compareOp .NotIn) (niT X.K) := by
  intro pins s σ H x y v u Q I rx ry h
  obtain ⟨d, ds, hd, he, sd, se, q⟩ := h
  obtain ⟨as, r1⟩ := Dp.reads I d x v hd rx
  obtain ⟨bs, r2⟩ := Dp.reads I (.tuple ds) y u he ry
  exact SeqAt.notIn_tuple_reads r2 r1 (SeqAt.canLay_of_shaped se) (SeqAt.canLay_of_shaped sd) (room_in_shaped sd (by omega)) ⟨.bl _, H, I, rfl, q⟩
end S
set_option Elab.async false
set_option linter.all false
set_option maxRecDepth 100000
set_option maxHeartbeats 4000000
namespace S
open PySem PySem.Spec L2 PyProof.Rows
/-! ### a def that an except suite calls with its exception: p is that exception's object -/
structure FnP (P : Program) (w : World) (K : PySem.W.Frag) (mg : Str → Option Value) (base : Heap) (k : Nat) (f : Addr) (fd : FuncData) (ps : List Str) (p : Addr × Obj) (sp : Sp) : Prop where
  len : ∀ vs H Q E, sp vs H Q E → vs.length = ps.length
  run : ∀ (A : Around) (outer : List Env) (s : Shared) (H : Hp) (us : List Value) (vs : List V) (Q : VK) (E : XK), L2H.RoomH k A → L2H.PinOk outer H s p → Env0 P w K mg base A outer s H → BindsTo s fd ⟨us, []⟩ (ps.zip us) → Vals vs us → sp vs H Q E →
    codeAny (model P w) A (.call (.ref f) ⟨us, []⟩) (CR CX0 outer P w H s Q E) s
theorem fun_okP {P : Program} {w : World} {K : PySem.W.Frag} {mg : Str → Option Value} {base : Heap} {k : Nat} {f : Addr} {x qual : Str} {st : Stmt} {fd : FuncData} {N ps : List Str} {sp : Sp} {p : Addr × Obj} (F : Fun K x qual st f fd) (S : FnScope N ps (defScope st))
    (len : ∀ vs H Q E, sp vs H Q E → vs.length = ps.length)
    (hbody : ∀ (cdv : Value) (A : Around) (outer : List Env) (s : Shared) (H : Hp) (vs : List V) (Q : VK) (E : XK), L2H.RoomH k (A.deeper (envOfC qual (defScope st) s.heap.objs.size f cdv)) → sp vs H Q E →
      ∃ t, PSs (L2H.cxH CX0 P w K mg base N qual (defScope st) f cdv A outer s H E p) (defBody st) t ∧ t { nx := fun _ H' => Q .non H', rt := Q } (startN N.length vs) H)
    (hst : ∀ vs : List V, vs.length = ps.length → startN N.length vs = L2.start N vs) : FnP P w K mg base (k + 1) f fd ps p sp := by
  obtain ⟨oc, od, kV, doc, pm, an, cdv, ct, osl, rfl, lk, hcd⟩ := F.ex
  refine ⟨len, fun A outer s H us vs Q E hr hpin e0 hb r hsp => ?_⟩
  have hl := len _ _ _ _ hsp
  have KX : K.In s.heap := e0.mod.kin.keeps fun b o e => (e0.bs b o e).1
  have hkind : ∀ y ∈ ps.zip us, (defScope st).names.lookup y.1 = some .local ∨ ((defScope st).names.lookup y.1 = some .cell ∧ ((cellsFrom (s.heap.objs.size + 1) (defScope st).names []).lookup y.1).isSome = true) := fun ⟨n, v⟩ hy => by
    rcases S.par n (List.of_mem_zip hy).1 with q | q
    · exact .inl q
    · exact .inr ⟨q, PySem.W.cellsFrom_some _ _ _ (.inl q)⟩
  refine codeAny_call_function hr.depth (KX _ _ lk) rfl S.co S.gen rfl (PySem.W.codeRec_of KX hcd) (hb _ _ _ _ ?_)
  refine wpAny_newFunctionEnv_cells S.kind hkind fun env he s1 y => ?_
  subst he
  refine ⟨(e0.mod.nolimit.keeps fun b o e => (e0.bs b o e).1).keeps y.toInCall.keep, codeAny_func ?_⟩
  obtain ⟨t, ht, hq⟩ := hbody cdv A outer s H vs Q E (hr.deeper _) hsp
  rw [hst vs hl] at hq
  refine wpAny_mono (ht.run [] s1 (L2.start N vs) H _ (L2H.inv_startH S hpin e0 hl r y) hq) (fun fl s' hs => ?_) fun e s' hs => hs
  cases fl with
  | ret u =>
    obtain ⟨v, σ', H', J, rv, q⟩ := hs
    exact ⟨v, H', J.os, J.bare, J.base, J.hok, rv, q⟩
  | next =>
    obtain ⟨σ', H', J, q⟩ := hs
    exact ⟨V.non, H', J.os, J.bare, J.base, J.hok, rfl, q⟩
  | brk =>
    obtain ⟨_, _, _, q⟩ := hs
    exact q.elim
  | cont =>
    obtain ⟨_, _, _, q⟩ := hs
    exact q.elim
theorem roomH_mark {k : Nat} {A : Around} {v : Option Value} (r : L2H.RoomH k A) : L2H.RoomH k (A.mark v) := ⟨r.dp, r.un⟩
theorem hUH {k : Nat} {A : Around} (r : L2H.RoomH k A) : A.units + 100 < cLine := by have := r.un; omega
section
variable {X : Cx} {k : Nat} {f C : Addr} {fd : FuncData} {ps : List Str} {sp : Sp} {x m : Str} {q pos apos : Pos} {e o : Expr} {es : List Expr} {ta : TE} {t : TA} {p : Addr × Obj}
theorem pe_callP (F : FnP X.prog X.w X.K X.mg X.base k f fd ps p sp) (hr : L2H.RoomH k X.A) (hp : p ∈ X.pn) (hg : Gl X x) (hm : X.mg x = some (.ref f)) (hk : PySem.W.keepIn X.K (.ref f) = true) (hb : Binds X.K fd ps [])
    (ha : PA X (e :: es) t) (hdb : (x == ("__debug__" : Str)) = false := by decide) (he : starEach (e :: es) X.env = (false, eval e X.env) :: starEach es X.env := by rfl) (hpl : (backTo pos (starEach es X.env)).any (·.1) = false := by rfl) :
    PE X (.Call (.Name x q) (e :: es) [] pos) (tCallS sp (fun _ => E0) t) := by
  refine ⟨fun pins s σ H Q I h => ?_⟩
  refine wpAny_Call_Name_kw (ld_glob I hg hm ?_ hdb)
  refine PySem.W.callWith_K (h₀ := X.base) I.ok.mod.kin hk (thn (ha.run pos pins s σ H _ I h) fun us s1 ⟨vs, H1, I1, r, hsp⟩ => ⟨I1.kIn, ?_⟩) he hpl
  have hl : us.length = ps.length := by rw [← r.length]; exact F.len _ _ _ _ hsp
  have b := hb s1 us I1.kIn (by rw [List.append_nil]; exact hl)
  rw [List.append_nil] at b
  have P1 := I1.pin p (List.mem_append_left _ hp)
  refine wpAny_call (codeAny_mono (F.run X.A X.stack s1 H1 us vs Q E0 hr ⟨P1.1, P1.2.1, fun hm => (List.mem_cons.mp (I1.stkSub p.1 hm)).elim P1.2.2.1 P1.2.2.2.1, P1.2.2.2.2⟩ I1.env0 b r hsp) fun r s' hq => ?_)
  cases r with
  | error e => exact hq.elim
  | ok fl =>
    cases fl with
    | ret u => exact I1.after hq
    | next => exact hq.elim
    | brk => exact hq.elim
    | cont => exact hq.elim
/-- a method of an instance, called where what it raises is caught -/
theorem pe_methS {CX : CXT} {E : L2.St → XK} {pl : Sem Bool} (he : PE X o ta) (c : Cls X.K C) (hm : Meth X.K C m f) (F : FnOk X.prog X.w X.K X.mg X.base CX k f fd ps sp) (hr : Room k X.A) (hb : Binds X.K fd ps []) (hx : ∀ σ, PassesAt CX X σ (E σ)) (ha : PA X (e :: es) t)
    (hst : starEach (e :: es) X.env = (false, eval e X.env) :: starEach es X.env := by rfl) (hpl : (backTo pos (starEach es X.env)).any (·.1) = false := by rfl)
    (ht : eval (.Call (.Attribute o m apos) (e :: es) [] pos) X.env = (do
      let ov ← eval o X.env
      standAt apos.atName
      let (f, first) ← holding [ov] (getMethod ov m pl)
      callWith pos f first (backTo pos (starEach (e :: es) X.env)) (backToKw pos (keywordEach [] X.env))) := by rfl) :
    PE X (.Call (.Attribute o m apos) (e :: es) [] pos) (L2H.tMethH C m sp E ta t) := by
  refine ⟨fun pins s σ H Q I h => ?_⟩
  refine PySem.W.methodCall_KW (pl := pl) (thn (he.run pins s σ H _ I h) fun u s1 ⟨v, H1, I1, rx, a, dx, fs, ex, ea, l, q⟩ => ?_) ht
  subst ex
  obtain rfl : u = Value.ref a := rx
  refine getmeth_ok I1 ea c hm l ?_
  refine PySem.W.callWith_K (first := [.ref a]) (h₀ := X.base) I.ok.mod.kin hm.kp (thn (ha.run pos pins s1 σ H1 _ I1 q) fun us s2 ⟨vs, H2, I2, r, q2⟩ => ⟨I2.kIn, ?_⟩) hst hpl
  exact run_fnS (us := .ref a :: us) (vs := .ref a :: vs) F hr hb (hx σ) I2 (.cons rfl r) q2
end
/-- isinstance(e, c), e the exception that is handled -/
theorem call_isExP {X : Cx} {a : Addr} {cls : Value} {d : Option Addr} {oe : Obj} (hz : Zc cls d oe) (hf : ∃ vs, oe.data = .fields vs) (hp : (a, oe) ∈ X.pn) : CallR X (.builtin "isinstance") (rIsEx X.K a cls d) := by
  intro pins s σ H xs us Q I r h
  obtain ⟨D, c, cv, b, rfl, rfl, C, rfl, hcv, e, q⟩ := h
  cases r with
  | cons rx rr =>
    cases rr with
    | cons rt rr =>
      cases rr
      cases rx
      have ec := hcv _ rt
      subst ec
      obtain ⟨hget, _⟩ := I.pin (a, oe) (List.mem_append.mpr (.inl hp))
      obtain ⟨vs, hv⟩ := hf
      have J : PySem.W.InstAt s.heap a oe D none := by
        obtain ⟨oc, od, oda, osl⟩ := oe
        obtain ⟨h1, h2⟩ := hz
        dsimp only at h1 h2 hv
        subst h1 h2 hv
        exact ⟨hget, rfl, rfl, trivial⟩
      exact PySem.W.kia_one (PySem.W.handS_kitx_exc C.hg C.hk C.hs C.hd C.ha C.hn C.ht C.hm) I.kIn J e (fun z => nomatch z) fun tk => ⟨.bl b, H, I.kept (t' := tk) fun _ _ z => z, rfl, q⟩
/-! ### xs.count(x), flat items -/
def rCountB : V → List V → Hp → VK → Prop := fun x xs H Q => ∃ (p : Addr) (ys : List V) (y : V), x = .ref p ∧ xs = [y] ∧ H p = some (.lst ys) ∧ flatV y = true ∧ ys.all flatV = true ∧ Q (.int (ys.countP fun z => eqV z y : Nat)) H
theorem count_flat {y : V} : ∀ {ys : List V} {us : List Value}, Vals ys us → ys.all flatV = true → us.countP (eqU y) = ys.countP fun z => eqV z y
  | _, _, .nil, _ => rfl
  | z :: ys, u :: us, .cons r t, f => by
    rw [List.all_cons, Bool.and_eq_true] at f
    rw [List.countP_cons, List.countP_cons, count_flat t f.2, eqU_of r f.1]
theorem mt_countB {X : Cx} : MtR X "list.count" rCountB := by
  intro pins s σ H x xs v us Q I rx rxs h
  obtain ⟨p, ys, y, rfl, rfl, hH, fy, fys, q⟩ := h
  have hs : SqL X.K H p ys := .inl (.inl hH)
  cases rx
  obtain ⟨u, rfl, ru⟩ := rxs.one
  obtain ⟨its, rv, ⟨⟨cls, dd, data, sl⟩, n, ho, hc, hdn, hd⟩, hlen⟩ := I.list hs
  simp only at hc hd
  subst hc hd
  refine call_meets PySem.F.slot_list_count ⟨_, ho, rfl⟩ PySem.F.entry_list_count (PySem.F.args_list_count_2 _ _)
    (SeqAt.list_countAt p its.toArray n dd sl u (eqU y)) ⟨ho, fun u' hu' => mem_eqAt ru fy rv fys u' (by simpa using hu'), ?_⟩
  have ec : its.toArray.toList.countP (eqU y) = ys.countP fun z => eqV z y := count_flat rv fys
  refine ⟨.int (ys.countP fun z => eqV z y : Nat), H, I.tok _, ⟨s.toks, ?_⟩, q⟩
  show Value.int ((its.toArray.toList.countP (eqU y) : Nat) : Int) s.toks = Value.int ((ys.countP fun z => eqV z y : Nat) : Int) s.toks
  rw [ec]
end S
set_option Elab.async false
set_option linter.all false
set_option maxRecDepth 100000
set_option maxHeartbeats 4000000
namespace S
open PySem PySem.Spec L2 PyProof.Rows
/-! ### try: .. except C: raise D(..) -/
/-- a def that raises errors of its own making, nothing being handled -/
theorem fun_okN {P : Program} {w : World} {K : PySem.W.Frag} {mg : Str → Option Value} {base : Heap} {x qual : Str} {st : Stmt} {f : Addr} {fd : FuncData} {N ps : List Str} {k : Nat} {sp : Sp} (F : Fun K x qual st f fd) (S : FnScope N ps (defScope st)) (len : ∀ vs H Q E, sp vs H Q E → vs.length = ps.length)
    (hbody : ∀ (cdv : Value) (A : Around) (outer : List Env) (s : Shared) (H : Hp) (vs : List V) (Q : VK) (E : XK), Room k (A.deeper (envOfC qual (defScope st) s.heap.objs.size f cdv)) → sp vs H Q E →
      ∃ t, PSs (cxOf (L2N.CX P w) P w K mg base N qual (defScope st) f cdv A outer s H E) (defBody st) t ∧ t { nx := fun _ H' => Q .non H', rt := Q } (L2.start N vs) H) : FnOk P w K mg base (L2N.CX P w) (k + 1) f fd ps sp := by
  obtain ⟨oc, od, kV, doc, pm, an, cdv, ct, osl, rfl, lk, hcd⟩ := F.ex
  exact fn_of lk hcd S len fun A outer s H vs Q E hr hsp => hbody cdv A outer s H vs Q E hr hsp
theorem ps_raiseCN {X : Cx} {E : XK} {C : Addr} {x m : Str} {j : Nat} {p p2 pos pos2 : Pos} (hc : X.calm = true) (tk : L2N.Takes X fun cls d _ H => E cls d H) (q : PySem.W.excIn X.K C [.type "ValueError", .type "Exception", .type "BaseException", .type "object"] "ValueError.__new__" = true) (gC : X.mg x = some (.ref C)) (kC : PySem.W.keepIn X.K (.ref C) = true)
    (hb : PySem.W.subIn X.K (.ref C) (.type "BaseException") = some true) (ht : PySem.W.typeIn X.K (.ref C) = some (.type "type")) (hg : Gl X x) (hdb : (x == ("__debug__" : Str)) = false := by decide) :
    PS X (.Raise (some (.Call (.Name x p) [.Constant (.str m) j p2] [] pos)) none pos2) (tRaiseC E C) :=
  L2N.ps_raise (W := fun cls d _ H => E cls d H) hc tk (L2N.pmk_own PySem.F.excBase_ValueError q gC kC (raises_own hb ht) hg hdb)
def tTryTo (K : PySem.W.Frag) (c r : Addr) (E : XK) (tb : WX → TS) : TS := fun D σ H => tb (wOnly K (.ref c) (fun _ _ _ => tRaiseC E r) (fun cls d _ H => E cls d H) D) D σ H
section
variable {X : Cx} {E : XK} {x y m : Str} {C R : Addr} {body : List Stmt} {np p p2 pos pos2 pos3 pos4 : Pos} {j : Nat} {tb : WX → TS}
theorem ps_tryTo (hs : X.stack = X.env :: X.outer) (hf : X.env.frame = some X.env.locals) (hg : Gl X x) (hdb : (x == ("__debug__" : Str)) = false) (hm : X.mg x = some (.ref C)) {K1 : Value → Shared → Prop} {E₁ : Value → Shared → Prop} (hx : X.xe = fun e s' => wpAny (model X.prog X.w) X.A (leaving X.env e) (fun _ s'' => K1 e s'') E₁ s')
    (tk : L2.Takes X fun cls d _ H => E cls d H) (q : PySem.W.excIn X.K R [.type "ValueError", .type "Exception", .type "BaseException", .type "object"] "ValueError.__new__" = true) (gR : X.mg y = some (.ref R)) (kR : PySem.W.keepIn X.K (.ref R) = true)
    (hb1 : PySem.W.subIn X.K (.ref R) (.type "BaseException") = some true) (ht : PySem.W.typeIn X.K (.ref R) = some (.type "type")) (hgy : Gl X y) (hdby : (y == ("__debug__" : Str)) = false)
    (hb : ∀ (W : WX) (pn : List (Addr × Obj)) (xe : Value → Shared → Prop), L2N.Takes (X.tr pn xe) W → PSs (X.tr pn xe) body (tb W)) :
    PS X (.Try body [.ExceptHandler (some (.Name x np)) none [.Raise (some (.Call (.Name y p) [.Constant (.str m) j p2] [] pos)) none pos2] pos3] [] [] pos4) (tTryTo X.K C R E tb) :=
  L2H.ps_try_onlyX hs hf ⟨hg, hdb, .inl hm⟩ (L2H.passesAt_of hx) tk (fun W pn xe tkW _ _ => hb W pn xe tkW) fun a oe cls d pn hz hfl tk2 hot =>
    pss_one (L2H.ps_raiseH (W := fun cls d _ H => E cls d H) hot tk2 (L2N.pmk_own PySem.F.excBase_ValueError q gR kR (raises_own hb1 ht) hgy hdby))
end
end S
set_option Elab.async false
set_option linter.all false
set_option maxRecDepth 100000
set_option maxHeartbeats 4000000
namespace S
open PySem PySem.Spec L2 PyProof.Rows
/-! ### a dict of whole numbers and, at its end, one key that is neither a number nor a text -/
def NumE (p : Int × V) (e : DictEntry) : Prop := (0 ≤ p.1 ∧ p.1 < 1000) ∧ e.hash = p.1 ∧ RelV (.int p.1) e.key ∧ RelV p.2 e.val
def OddAt (h : Heap) (d : Addr) (ks : List (Int × V)) (x : V) : Prop :=
  (d == sysModules) = false ∧ (ks.map (·.1)).Nodup ∧ ks.length < sizeLine ∧
  ∃ (o : Obj) (es : Array DictEntry) (ep : Nat) (l : List DictEntry) (e : DictEntry), h.get? d = some o ∧ o.ExactDict ∧ o.data = .dict es ep ∧ es.toList = l ++ [e] ∧ Paired NumE ks l ∧ RelV x e.key ∧ ∀ p ∈ ks, p.1 ≠ e.hash
def oddO (d : Addr) (ks : List (Int × V)) (x : V) : HO := .ext fun h => OddAt h d ks x
theorem OddAt.keep {h h' : Heap} {d : Addr} {ks : List (Int × V)} {x : V} (q : OddAt h d ks x) (k : ∀ o, h.get? d = some o → h'.get? d = some o) : OddAt h' d ks x :=
  let ⟨a, b, c, o, es, ep, l, e, g, r⟩ := q
  ⟨a, b, c, o, es, ep, l, e, k o g, r⟩
theorem oddO_ok {P : Program} {w : World} {H : Hp} {h : Heap} {d : Addr} {ks : List (Int × V)} {x : V} (q : OddAt h d ks x) : ObjOk P w H h d (oddO d ks x) :=
  ⟨q, (let ⟨_, _, _, o, _, _, _, _, g, _⟩ := q; ⟨o, g⟩), fun _ _ q k => q.keep k⟩
theorem odd_rd {X : Cx} {pins : List (Addr × Obj)} {σ : L2.St} {H : Hp} {s : Shared} {d : Addr} {ks : List (Int × V)} {x : V} (I : Inv X pins σ H s) (e : Rd H d (oddO d ks x)) : OddAt s.heap d ks x :=
  (show ObjOk X.prog X.w H s.heap d (oddO d ks x) from rd_of I.hok e).1
theorem hash_small {i : Int} (h0 : 0 ≤ i) (h1 : i < 1000) : hashInt i = i := by
  obtain ⟨n, rfl⟩ := Int.eq_ofNat_of_zero_le h0
  have hn : n < 1000 := by omega
  have hm : ((Int.natAbs (n : Int) : Nat) : Int) % ((2 ^ 61 - 1 : Nat) : Int) = (n : Int) := by
    rw [Int.natAbs_natCast]
    exact Int.emod_eq_of_lt (by omega) (by omega)
  have e1 : rawHash (n : Int) = n := by
    unfold rawHash
    rw [hm]
    have h2 : ¬ (n : Int) < 0 := by omega
    have h3 : ((n : Int) == -1) = false := beq_eq_false_iff_ne.mpr (by omega)
    simp only [if_neg h2, h3]
    exact if_neg (by decide)
  unfold hashInt
  have h3 : ((n : Int) == -1) = false := beq_eq_false_iff_ne.mpr (by omega)
  rw [e1, h3]
  exact if_neg (by decide)
/-- the keys that may stand last -/
inductive OddK (H : Hp) : V → Prop
  | non : OddK H .non
  | tru : OddK H (.bl true)
  | one {p : Addr} : H p = some (.tup [.int 1]) → OddK H (.ref p)
theorem hash_one (w : World) : (NestedKey.tup [.num 1]).hash w = -6644214454873602895 := by
  show reduceHash (Builtin.Tuple.tupleHashOf [hashInt 1]) = _
  decide +kernel
theorem hash_non (w : World) : NestedKey.none.hash w = 4238894112 := by
  show reduceHash 0xFCA86420 = _
  decide +kernel
theorem hash_tru (w : World) : (NestedKey.num 1).hash w = 1 := by
  show hashInt 1 = _
  decide +kernel
/-- what is known of such a key's value -/
theorem OddK.nest {X : Cx} {pins : List (Addr × Obj)} {σ : L2.St} {H : Hp} {s : Shared} {x : V} {u : Value} (I : Inv X pins σ H s) (k : OddK H x) (r : RelV x u) :
    ∃ nk : NestedKey, NestedIs s.heap nk u ∧ nk.depth ≤ 1 ∧ (∀ i t, u ≠ .int i t) ∧ (u = .none ∨ u = .bool true ∨ ∃ p, u = .ref p) ∧ ∀ i : Int, 0 ≤ i → i < 1000 → (x = .bl true → i ≠ 1) → i ≠ nk.hash X.w := by
  cases k with
  | non =>
    cases (show u = Value.none from r)
    exact ⟨.none, .none, Nat.zero_le _, (fun _ _ z => nomatch z), .inl rfl, fun i h0 h1 _ => by rw [hash_non]; omega⟩
  | tru =>
    cases (show u = Value.bool true from r)
    exact ⟨.num 1, .bool rfl, Nat.zero_le _, (fun _ _ z => nomatch z), .inr (.inl rfl), fun i h0 h1 hx => by rw [hash_tru]; exact hx rfl⟩
  | @one p hp =>
    cases (show u = Value.ref p from r)
    obtain ⟨_, its, rv, o, h1, h2, n, h3⟩ := (show ObjOk X.prog X.w H s.heap p (.tup [.int 1]) from I.hok p _ hp)
    cases rv with
    | cons ra rb =>
      cases rb
      obtain ⟨t, rfl⟩ := (show ∃ t, _ = Value.int 1 t from ra)
      exact ⟨.tup [.num 1], .tup h1 h2 h3 (.cons (.int 1 t) .nil), Nat.le_refl _, (fun _ _ z => nomatch z), .inr (.inr ⟨p, rfl⟩), fun i h0 h1 _ => by rw [hash_one]; omega⟩
theorem num_es {P : Program} {w : World} : ∀ {ks : List (Int × V)} {vs : List (Key × Value)} {l : List DictEntry}, KV (ks.map fun p => ((Sum.inl p.1 : Key), p.2)) vs → Pairs (mixKind P w) l vs →
    (∀ e ∈ l, ∃ k, (mixKind P w).is k e.key = true ∧ e.hash = (mixKind P w).hash k) → (∀ p ∈ ks, 0 ≤ p.1 ∧ p.1 < 1000) → Paired NumE ks l
  | [], vs, l, r, p, _, _ => by
    cases r
    cases p
    exact .nil
  | q :: ks, vs, l, r, p, hk, hs => by
    rw [List.map_cons] at r
    cases r with
    | @cons _ b _ _ h t =>
      cases p with
      | @cons e kv es kvs h1 h2 h3 =>
        obtain ⟨hq, hr⟩ := h
        have hq : (Sum.inl q.1 : Key) = b.1 := hq
        obtain ⟨k', g1, g2⟩ := hk e List.mem_cons_self
        have h1 : (mixKind P w).is b.1 e.key = true := h1
        have ek : k' = b.1 := (mixKind P w).inj _ _ _ g1 h1
        have hs1 := hs q List.mem_cons_self
        rw [ek, ← hq] at g2
        have g2 : e.hash = hashInt q.1 := g2
        rw [hash_small hs1.1 hs1.2] at g2
        rw [← hq] at h1
        obtain ⟨t', e'⟩ := Value.isInt_shape (k := q.1) (v := e.key) h1
        exact .cons ⟨hs1, g2, ⟨t', e'⟩, by rw [h2]; exact hr⟩ (num_es t h3 (fun e he => hk e (List.mem_cons_of_mem _ he)) fun p hp => hs p (List.mem_cons_of_mem _ hp))
/-! ### looking up -/
theorem places_none {n : Nat} {f : Nat → Option Int} {z : Int} (h : ∀ i, i < n → f i ≠ some z) : placesWithHash n f z = [] := by
  unfold placesWithHash
  refine List.filter_eq_nil_iff.mpr fun i hi => ?_
  have := h i (List.mem_range.mp hi)
  simpa using this
theorem filter_range_one : ∀ {n j : Nat} {p : Nat → Bool}, j < n → p j = true → (∀ i, i < n → p i = true → i = j) → (List.range n).filter p = [j]
  | 0, j, p, h, _, _ => by omega
  | n + 1, j, p, h, hp, hu => by
    rw [List.range_succ, List.filter_append]
    by_cases e : j = n
    · subst e
      have : (List.range j).filter p = [] := List.filter_eq_nil_iff.mpr fun i hi => by
        have hi := List.mem_range.mp hi
        intro z
        have := hu i (by omega) z
        omega
      rw [this, List.filter_cons, if_pos hp]
      rfl
    · rw [filter_range_one (n := n) (j := j) (by omega) hp fun i hi => hu i (by omega), List.filter_cons, if_neg (fun z => e (hu n (by omega) z).symm)]
      rfl
theorem places_one {n j : Nat} {f : Nat → Option Int} {z : Int} (hj : j < n) (h : f j = some z) (hu : ∀ i, i < n → f i = some z → i = j) : placesWithHash n f z = [j] := by
  unfold placesWithHash
  exact filter_range_one hj (by simp [h]) fun i hi q => hu i hi (by simpa using q)
section
variable {prog : Program} {w : World} {A : Around} {E : Value → Shared → Prop} {s : Shared} {d : Addr} {o : Obj} {es : Array DictEntry} {ep : Nat} {u : Value} {z : Int}
theorem find_miss {Q : Option Nat → Shared → Prop} (hu : u = .none ∨ u = .bool true ∨ ∃ p, u = .ref p) (ho : s.heap.get? d = some o) (hd : o.data = .dict es ep) (hz : ∀ e ∈ es, e.hash ≠ z) (hr : ∀ e ∈ es, e.key ≠ u) (h : Q none s) :
    wpAny (model prog w) A (dictFind d u z) Q E s := by
  have hp : placesWithHash es.size (fun i => es[i]?.map (·.hash)) z = [] := places_none fun i hi => by
    rw [Array.getElem?_eq_getElem hi]
    intro q
    exact hz _ (Array.getElem_mem hi) (Option.some.inj q)
  have hany : (es.any fun e => e.key == u && e.hash != z) = false := by
    rw [Array.any_eq_false]
    intro i hi
    have := hr _ (Array.getElem_mem hi)
    have e1 : (es[i].key == u) = false := by
      cases q : es[i].key == u with
      | false => rfl
      | true => exact absurd (eq_of_beq q) this
    rw [e1, Bool.false_and]
    decide
  unfold dictFind
  refine wpAny_holding (wpAny_bind (wpAny_dictEntries ho hd ?_))
  rcases hu with rfl | rfl | ⟨p, rfl⟩
  · dsimp only
    rw [hp]
    exact wpAny_pure h
  · dsimp only
    rw [hp]
    exact wpAny_pure h
  · dsimp only
    rw [hp, hany]
    exact wpAny_bind (wpAny_pure (wpAny_pure h))
theorem find_hit {i : Int} {t t' : Tok} {j : Nat} {e : DictEntry} {Q : Option Nat → Shared → Prop} (ho : s.heap.get? d = some o) (hd : o.data = .dict es ep) (hj : es[j]? = some e) (hk : e.key = .int i t') (hz : e.hash = z)
    (hu : ∀ j' e', es[j']? = some e' → e'.hash = z → j' = j) (h : Q (some j) s) : wpAny (model prog w) A (dictFind d (.int i t) z) Q E s := by
  have hlt : j < es.size := (Array.getElem?_eq_some_iff.mp hj).1
  have hp : placesWithHash es.size (fun i => es[i]?.map (·.hash)) z = [j] := places_one hlt (by rw [hj, Option.map_some, hz]) fun i hi q => by
    rw [Array.getElem?_eq_getElem hi, Option.map_some] at q
    exact hu i _ (Array.getElem?_eq_getElem hi) (Option.some.inj q)
  unfold dictFind
  refine wpAny_holding (wpAny_bind (wpAny_dictEntries ho hd ?_))
  dsimp only
  have hf : ([j].filterMap fun i => es[i]?.map (·.key)) = [Value.int i t'] := by
    rw [List.filterMap_cons, hj, Option.map_some, hk]
    rfl
  rw [hp, hf]
  have hc : ([Value.int i t, Value.int i t'].all carriedByValue) = true := rfl
  rw [if_pos hc]
  unfold dictWalkPlain
  refine wpAny_bind (wpAny_forIn_list _ (fun rest b s' => (rest = [j] ∧ s' = s)) _ ?_ ?_ _ _ ⟨rfl, rfl⟩)
  · rintro x rest b s' ⟨hr, rfl⟩
    cases hr
    simp only [hj]
    rw [if_pos (by rw [hz]; exact beq_self_eq_true z), hk]
    refine wpAny_bind (wpAny_dictEpoch ho hd (wpAny_bind (wpAny_eqBool_int ?_)))
    refine wpAny_bind (wpAny_dictEpoch ho hd ?_)
    rw [if_neg (by simp), if_pos (by simp)]
    exact wpAny_bind (wpAny_rule (wpAny_pure (wpAny_pure h)))
  · rintro b s' ⟨hr, _⟩
    cases hr
end
theorem odd_typeIs {s : Shared} {a : Addr} {ks : List (Int × V)} {x : V} (q : OddAt s.heap a ks x) : s.TypeIs (.ref a) "dict" :=
  let ⟨_, _, _, o, _, _, _, _, g, c, _⟩ := q
  ⟨o, g, c.1⟩
theorem oddO_at {h : Heap} {a : Addr} {ks : List (Int × V)} {x v : V} {j : Nat} {i : Int} (q : OddAt h a ks x) (hj : ks[j]? = some (i, v)) :
    ∃ o es ep e, h.get? a = some o ∧ o.data = .dict es ep ∧ es[j]? = some e ∧ RelV (.int i) e.key ∧ e.hash = hashInt i ∧ RelV v e.val ∧ ∀ j' e', es[j']? = some e' → e'.hash = hashInt i → j' = j := by
  obtain ⟨_, hn, _, o, es, ep, l, e0, ho, _, hd, hl, hp, _, hne⟩ := q
  obtain ⟨e, he, h0, h1, h2, h3⟩ := paired_get hp hj
  have hi : hashInt i = i := hash_small h0.1 h0.2
  have hlen : ks.length = l.length := Paired.length hp
  have hjl : j < ks.length := (List.getElem?_eq_some_iff.mp hj).1
  refine ⟨o, es, ep, e, ho, hd, ?_, h2, h1.trans hi.symm, h3, fun j' e' he' hz => ?_⟩
  · rw [← Array.getElem?_toList, hl, List.getElem?_append_left (by omega)]
    exact he
  · rw [hi] at hz
    rw [← Array.getElem?_toList, hl] at he'
    by_cases hlt : j' < ks.length
    · obtain ⟨⟨i', v'⟩, hp'⟩ : ∃ p, ks[j']? = some p := ⟨_, List.getElem?_eq_getElem hlt⟩
      obtain ⟨e2, g1, _, g2, _⟩ := paired_get hp hp'
      rw [List.getElem?_append_left (by omega), g1] at he'
      cases he'
      have g2 : e'.hash = i' := g2
      have ei : i' = i := g2.symm.trans hz
      have a1 : (ks.map (·.1))[j']? = some i := by rw [List.getElem?_map, hp', Option.map_some, ei]
      have a2 : (ks.map (·.1))[j]? = some i := by rw [List.getElem?_map, hj, Option.map_some]
      exact (List.getElem?_inj (by rw [List.length_map]; omega) hn).mp (a1.trans a2.symm)
    · have hj' := (List.getElem?_eq_some_iff.mp he').1
      rw [List.length_append, List.length_singleton] at hj'
      have : j' = l.length := by omega
      subst this
      rw [List.getElem?_append_right (Nat.le_refl _), Nat.sub_self] at he'
      cases he'
      exact absurd hz.symm (hne (i, v) (List.mem_of_getElem? hj))
section
variable {X : Cx} {pins : List (Addr × Obj)} {σ : L2.St} {H : Hp} {s : Shared} {a : Addr} {A : Around} {E : Value → Shared → Prop} {ks : List (Int × V)} {x v : V} {u r : Value}
/-- d[i] -/
theorem d_getOdd {Q : Value → Shared → Prop} {j : Nat} {i : Int} (I : Inv X pins σ H s) (e : Rd H a (oddO a ks x)) (hj : ks[j]? = some (i, v)) (ry : RelV (.int i) u) (h : ∀ w' s', Inv X pins σ H s' → RelV v w' → Q w' s') :
    wpAny (model X.prog X.w) A (getItem (.ref a) u) Q E s := by
  obtain ⟨t, rfl⟩ := ry
  have q := odd_rd I e
  have hT := odd_typeIs q
  obtain ⟨o, es, ep, en, ho, hd, he, ⟨t', hk⟩, hz, rv, hun⟩ := oddO_at q hj
  unfold getItem
  refine wpAny_holding (wpAny_bind (wpAny_sequenceKey hT (by decide) (wpAny_bind (wpAny_callSpecial?_slot (name := Str.ofString "__getitem__") hT slot_dict_getitem (wpAny_call_entry slot_dict_getitem hT entry_dict_getitem ?_ (args_dict_getitem _ _))))))
  show wpAny _ _ (dictGet a (.int i t) >>= _) _ _ s
  unfold dictGet
  refine wpAny_bind (wpAny_holding (wpAny_bind (wpAny_pyHash_int (wpAny_bind (find_hit (s := { s with toks := s.toks + 1 }) ho hd he hk hz hun ?_)))))
  refine wpAny_bind (wpAny_dictEntries (s := { s with toks := s.toks + 1 }) ho hd (wpAny_pure ?_))
  rw [he]
  exact wpAny_pure ⟨_, rfl, wpAny_pure (h _ _ (I.tok _) rv)⟩
/-- d[x] = r, x the odd key -/
theorem d_setOdd {Q : Unit → Shared → Prop} (hu : A.units + 10 < cLine) (I : Inv X pins σ H s) (e : H a = some (.dK (ks.map fun p => ((Sum.inl p.1 : Key), p.2)))) (hs : ∀ p ∈ ks, 0 ≤ p.1 ∧ p.1 < 1000) (hl : ks.length < sizeLine)
    (k : OddK H x) (hx : x = .bl true → ∀ p ∈ ks, p.1 ≠ 1) (rx : RelV x u) (h : ∀ s', Inv X pins σ (upd H a (oddO a ks x)) s' → Q () s') : wpAny (model X.prog X.w) A (setItem (.ref a) u r) Q E s := by
  obtain ⟨z, hda, vs, rel, o, es, ep, ho, hc, hd, hk, hp, hn⟩ := dk_of I.hok e
  have hT : s.TypeIs (.ref a) "dict" := ⟨o, ho, hc.1⟩
  obtain ⟨nk, ni, dep, nint, shp, fresh⟩ := k.nest I rx
  have pr := num_es rel hp (fun en hen => hk en (Array.mem_toList_iff.mp hen)) hs
  have hnd : (ks.map (·.1)).Nodup := by
    rw [← rel.keys, List.map_map] at hn
    have e1 : (ks.map ((fun x : Key × V => x.1) ∘ fun p => ((Sum.inl p.1 : Key), p.2))) = (ks.map (·.1)).map Sum.inl := by rw [List.map_map]; rfl
    rw [e1] at hn
    exact (List.pairwise_map.mp hn).imp fun hne z => hne (by rw [z])
  have hlen : ks.length = es.toList.length := Paired.length pr
  have at_ : ∀ en ∈ es, ∃ p ∈ ks, NumE p en := fun en hen => by
    obtain ⟨j, hj⟩ := List.mem_iff_getElem?.mp (Array.mem_toList_iff.mpr hen)
    have hjl := (List.getElem?_eq_some_iff.mp hj).1
    obtain ⟨p, hp'⟩ : ∃ p, ks[j]? = some p := ⟨_, List.getElem?_eq_getElem (by omega)⟩
    obtain ⟨e2, g1, g2⟩ := paired_get pr hp'
    rw [hj] at g1
    cases g1
    exact ⟨p, List.mem_of_getElem? hp', g2⟩
  have hz : ∀ en ∈ es, en.hash ≠ nk.hash X.w := fun en hen => by
    obtain ⟨p, hp', g⟩ := at_ en hen
    rw [g.2.1]
    exact fresh p.1 g.1.1 g.1.2 fun z => hx z p hp'
  have hr : ∀ en ∈ es, en.key ≠ u := fun en hen => by
    obtain ⟨p, hp', g⟩ := at_ en hen
    obtain ⟨t, ht⟩ := g.2.2.1
    rw [ht]
    exact fun z => nint _ _ z.symm
  have hes : es.size ≤ sizeLine := by
    have e2 : es.toList.length = es.size := Array.length_toList
    omega
  unfold setItem
  refine wpAny_holding (wpAny_bind (wpAny_sequenceKey hT (by decide) (wpAny_bind (wpAny_callSpecial?_slot (name := Str.ofString "__setitem__") hT slot_dict_setitem (wpAny_call_entry slot_dict_setitem hT entry_dict_setitem ?_ (args_dict_setitem _ _ _))))))
  show wpAny _ _ (Builtin.Dict.notOrdered "__setitem__" ⟨[.ref a, u, r], []⟩ >>= _) _ _ s
  refine wpAny_bind (wpAny_notOrdered_dict hT ?_)
  show wpAny _ _ (dictSet a u r >>= _) _ _ s
  unfold dictSet dictSetHashed
  refine wpAny_bind (wpAny_holding (wpAny_bind (pyHash_key nk u A.in1 s _ ni (by simp only [Around.in1_units]; omega) (wpAny_holding (wpAny_bind (find_miss (s := { s with toks := s.toks + nk.draws }) shp ho hd hz hr (wpAny_bind (wpAny_rule (wpAny_updateDictKeys (s := { s with toks := s.toks + nk.draws }) (hz := hes) ho hd ?_)))))))))
  refine wpAny_pure ⟨.none, rfl, wpAny_pure (h _ ?_)⟩
  refine d_write (s := s) (t' := s.toks + nk.draws) (h' := s.heap.update a (Obj.mapDictKeys (·.push ⟨nk.hash X.w, u, r⟩))) I (by rw [e]; exact True.intro) (Heap.SameBut.update ..) ⟨_, Heap.get?_update_self _ ho (Obj.isFreed_of_dict (Obj.data_mapDictKeys hd _))⟩ (oddO_ok ⟨hda, hnd, hl, _, _, _, es.toList, ⟨nk.hash X.w, u, r⟩, Heap.get?_update_self _ ho (Obj.isFreed_of_dict (Obj.data_mapDictKeys hd _)), hc.mapDictKeys _, Obj.data_mapDictKeys hd _, ?_, pr, rx, fun p hp' => ?_⟩)
  · rw [Array.toList_push]
  · exact fresh p.1 (hs p hp').1 (hs p hp').2 fun z => hx z p hp'
end
end S
set_option Elab.async false
set_option linter.all false
set_option maxRecDepth 100000
set_option maxHeartbeats 4000000
namespace S
open PySem PySem.Spec L2 PyProof.Rows
/-! ### operators that take in a dict with one odd key -/
def ixOdd : R2 := fun x y H Q => ∃ (a : Addr) (ks : List (Int × V)) (x0 v : V) (j : Nat) (i : Int), x = .ref a ∧ Rd H a (oddO a ks x0) ∧ y = .int i ∧ ks[j]? = some (i, v) ∧ Q v H
def ixB (K : PySem.W.Frag) : R2 := fun x y H Q => ixA K x y H Q ∨ ixOdd x y H Q
def setOdd : TSet := fun o i v H Q => ∃ (a : Addr) (ks : List (Int × V)), o = .ref a ∧ H a = some (.dK (ks.map fun p => ((Sum.inl p.1 : Key), p.2))) ∧ (∀ p ∈ ks, 0 ≤ p.1 ∧ p.1 < 1000) ∧ ks.length < sizeLine ∧ OddK H i ∧ (i = .bl true → ∀ p ∈ ks, p.1 ≠ 1) ∧ Q (upd H a (oddO a ks i))
def setB : TSet := fun o i v H Q => setA o i v H Q ∨ setOdd o i v H Q
def lenOdd : List V → Hp → VK → Prop := fun xs H Q => ∃ (a : Addr) (ks : List (Int × V)) (x0 : V), xs = [.ref a] ∧ Rd H a (oddO a ks x0) ∧ Q (.int ((ks.length + 1 : Nat) : Int)) H
def lenB (K : PySem.W.Frag) : List V → Hp → VK → Prop := fun xs H Q => lenA K xs H Q ∨ lenOdd xs H Q
def isiOdd (K : PySem.W.Frag) : List V → Hp → VK → Prop := fun xs H Q => ∃ (a : Addr) (ks : List (Int × V)) (x0 : V) (b : Bool) (T : String), xs = [.ref a, .ty T] ∧ Rd H a (oddO a ks x0) ∧ kitB "dict" T = some b ∧ Q (.bl b) H
def isiB (K : PySem.W.Frag) : List V → Hp → VK → Prop := fun xs H Q => rIsi K xs H Q ∨ isiOdd K xs H Q
/-- the keys of such a dict, it being locked -/
def Itko (d : Addr) (o : Obj) (ks : List (Int × V)) (x0 : V) : It :=
  ⟨fun i H => H d = some (.frz o (oddO d ks x0)) ∧ i < ks.length + 1, fun i H x H' => H' = H ∧ ((∃ k v, ks[i]? = some (k, v) ∧ x = .int k) ∨ (i = ks.length ∧ x = x0)), fun i H => H d = some (.frz o (oddO d ks x0)) ∧ ks.length + 1 ≤ i⟩
def iKeysO (td : TE) : TI := fun σ H R => td σ H fun x H1 => ∃ d o ks x0, x = .ref d ∧ H1 d = some (.frz o (oddO d ks x0)) ∧ R (Itko d o ks x0) H1
def iKeysB (td : TE) : TI := fun σ H R => iKeys td σ H R ∨ iKeysO td σ H R
section
variable {X : Cx}
theorem ix_odd : IxR X ixOdd := by
  intro value slice pins s σ H x y v u Q I rx ry h hs
  obtain ⟨a, ks, x0, w, j, i, rfl, e, rfl, hj, q⟩ := h
  cases (show v = Value.ref a from rx)
  have hT := odd_typeIs (odd_rd I e)
  have got : wpAny (model X.prog X.w) X.A (getItem (Value.ref a) u) (EP X pins σ Q) X.xe s := d_getOdd I e hj ry fun w' s3 I3 rw' => ⟨w, H, I3, rw', q⟩
  have fin : wpAny (model X.prog X.w) X.A (subscripted slice false (Value.ref a) u) (fun r s₃ => wpAny (model X.prog X.w) X.A (letTemporaryGo value (Value.ref a) r >>= fun _ => pure r) (EP X pins σ Q) X.xe s₃) X.xe s := by
    rw [hs]
    exact wpAny_operating (wpAny_mono got (fun r s₃ h₃ => wpAny_bind (wpAny_letTemporaryGo (wpAny_pure h₃))) fun _ _ z => z)
  unfold subscriptTail
  refine wpAny_bind ?_
  rw [getitemInPython_of_ne hT.not_modules]
  refine wpAny_bind (wpAny_specialOf hT PySem.F.slot_dict_getitem.lookup ?_)
  first
    | exact wpAny_pure (wpAny_bind fin)
    | exact wpAny_bind (wpAny_pure (wpAny_bind fin))
    | exact wpAny_bind fin
theorem uIxB (hu : X.A.units + 100 < cLine) : IxR X (ixB X.K) := (uIx hu).or ix_odd
theorem set_odd (hu : X.A.units + 100 < cLine) : PSet X setOdd := by
  intro pins s σ H o i v ov iv r Q I ro ri rv h
  obtain ⟨a, ks, rfl, e, hs, hl, k, hx, q⟩ := h
  cases (show ov = Value.ref a from ro)
  exact d_setOdd (by omega) I e hs hl k hx ri fun s4 I4 => ⟨_, I4, q⟩
theorem uSetB (hu : X.A.units + 100 < cLine) : PSet X setB := by
  intro pins s σ H o i v ov iv r Q I ro ri rv h
  rcases h with h | h
  · exact uSet hu pins s σ H o i v ov iv r Q I ro ri rv h
  · exact set_odd hu pins s σ H o i v ov iv r Q I ro ri rv h
theorem call_lenOdd : CallR X (.builtin "len") lenOdd := by
  intro pins s σ H xs us Q I r h
  obtain ⟨a, ks, x0, rfl, e, q⟩ := h
  obtain ⟨u, rfl, r1⟩ := vals1 r
  cases (show u = Value.ref a from r1)
  have z := odd_rd I e
  have hT := odd_typeIs z
  obtain ⟨hd, hn, hl, o, es, ep, l, e0, ho, hc, hdat, hes, pr, _⟩ := z
  have hsz : es.size = ks.length + 1 := by
    have h1 : es.toList.length = es.size := Array.length_toList
    have h2 : ks.length = l.length := Paired.length pr
    rw [hes, List.length_append, List.length_singleton] at h1
    omega
  have hline : sizeLine < 2 ^ 62 := by rw [sizeLine_eq]; decide
  refine Calls.call_function_entry kind_len plain_len entry_len (args_len1 _) ?_
  unfold Builtin.«len»
  refine wpAny_bind (m := oneArg "len" _) (wpAny_pure (wpAny_bind (m := callSpecial? (.ref a) (Str.ofString "__len__")) (wpAny_callSpecial?_slot (name := Str.ofString "__len__") hT PySem.F.slot_dict_len (wpAny_call_entry PySem.F.slot_dict_len hT PySem.F.entry_dict_len ?_ (PySem.F.args_dict_len_1 _)))))
  show wpAny _ _ (dictSize a >>= _) _ _ s
  unfold dictSize
  refine wpAny_bind (wpAny_bind (wpAny_dictEntries ho hdat (wpAny_pure ?_)))
  show wpAny _ _ (Builtin.Dict.pendingCount a >>= _) _ _ s
  refine wpAny_bind (wpAny_pendingCount_other hd (wpAny_ret_mkInt ?_))
  rw [Nat.add_zero, hsz]
  refine wpAny_bind (wpAny_holding (wpAny_pure (wpAny_bind (wpAny_letGo ?_))))
  show wpAny _ _ (if ((ks.length + 1 : Nat) : Int) < 0 then _ else _) _ _ _
  rw [if_neg (by omega)]
  show wpAny _ _ (if ((ks.length + 1 : Nat) : Int) ≥ 2 ^ 63 then _ else _) _ _ _
  rw [if_neg (by omega)]
  exact wpAny_bind (wpAny_mkInt (wpAny_pure ⟨_, rfl, .int ((ks.length + 1 : Nat) : Int), H, I.tok _, ⟨_, rfl⟩, q⟩))
theorem uLenB : CallR X (.builtin "len") (lenB X.K) := CallR.or (r := lenA X.K) uLen call_lenOdd
theorem call_isiOdd : CallR X (.builtin "isinstance") (isiOdd X.K) := by
  intro pins s σ H xs us Q I r h
  obtain ⟨a, ks, x0, b, T, rfl, e, k, q⟩ := h
  obtain ⟨u1, u2, rfl, r1, r2⟩ := vals2 r
  cases (show u1 = Value.ref a from r1)
  cases (show u2 = Value.type T from r2)
  obtain ⟨_, _, _, o, _, _, _, _, ho, hc, _⟩ := odd_rd I e
  exact PySem.W.kia_one PySem.W.kitx_dict I.kIn ⟨o, ho, hc.1⟩ (kit_ty k) (fun z => nomatch z) fun tk => ⟨.bl b, H, I.tok tk, rfl, q⟩
theorem uIsiB : CallR X (.builtin "isinstance") (isiB X.K) := CallR.or (r := rIsi X.K) call_isi call_isiOdd
end
theorem frzOdd {X : Cx} {pins : List (Addr × Obj)} {σ : L2.St} {H : Hp} {s : Shared} {d : Addr} {o : Obj} {ks : List (Int × V)} {x0 : V} (I : Inv X pins σ H s) (h : H d = some (.frz o (oddO d ks x0))) :
    (d == sysModules) = false ∧ s.heap.get? d = some o ∧ o.ExactDict ∧ ∃ (es : Array DictEntry) (ep : Nat), o.data = .dict es ep ∧ es.size = ks.length + 1 ∧ ∀ i, i < ks.length + 1 → ∃ en x, es[i]? = some en ∧ RelV x en.key ∧ ((∃ k v, ks[i]? = some (k, v) ∧ x = .int k) ∨ (i = ks.length ∧ x = x0)) := by
  obtain ⟨hg, ho⟩ := (show ObjOk X.prog X.w H s.heap d (.frz o (oddO d ks x0)) from I.hok d _ h)
  obtain ⟨hd, hn, hl, o', es, ep, l, e0, ho', hc, hdat, hes, pr, rx, _⟩ := (show OddAt s.heap d ks x0 from ho.1)
  rw [hg] at ho'
  cases ho'
  have h2 : ks.length = l.length := Paired.length pr
  refine ⟨hd, hg, hc, es, ep, hdat, ?_, fun i hi => ?_⟩
  · have h1 : es.toList.length = es.size := Array.length_toList
    rw [hes, List.length_append, List.length_singleton] at h1
    omega
  · rw [← Array.getElem?_toList, hes]
    by_cases hlt : i < ks.length
    · obtain ⟨⟨k, v⟩, hp⟩ : ∃ p, ks[i]? = some p := ⟨_, List.getElem?_eq_getElem hlt⟩
      obtain ⟨en, g1, g2⟩ := paired_get pr hp
      exact ⟨en, .int k, by rw [List.getElem?_append_left (by omega)]; exact g1, g2.2.2.1, .inl ⟨k, v, hp, rfl⟩⟩
    · have e : i = l.length := by omega
      subst e
      exact ⟨e0, x0, by rw [List.getElem?_append_right (Nat.le_refl _), Nat.sub_self]; rfl, rx, .inr ⟨h2.symm, rfl⟩⟩
section
variable {P : Program} {w : World} {K : PySem.W.Frag} {tg : Expr} {d : Addr} {o : Obj} {es : Array DictEntry} {ep : Nat}
theorem turn_keysO {ks : List (Int × V)} {x0 : V} (it : Addr) (hod : o.data = .dict es ep) : Turn P w K tg (Itko d o ks x0) [it] it (fun i h => h.IsKeyIter it d i (ks.length + 1) ep) where
  mem := List.mem_singleton.mpr rfl
  obj := fun i h st b hb => by
    obtain rfl : b = it := List.mem_singleton.mp hb
    obtain ⟨oi, e, c, dd⟩ := st
    refine ⟨oi, e, fun v z => ?_⟩
    rw [dd] at z
    cases z
  keep := fun i h h' st k => st.at fun oi e => k it (List.mem_singleton.mpr rfl) oi e
  item := by
    intro X hP hw hK hc i pins s σ H E I hf st hg
    subst hP hw hK
    obtain ⟨f0, f1, f2, f3, f4, f5⟩ := hf it (List.mem_singleton.mpr rfl)
    obtain ⟨hs, hgd, hx, es', ep', hdt, hsz, ent⟩ := frzOdd I hg.1
    obtain ⟨rfl, rfl⟩ := dict_ep hod hdt
    obtain ⟨en, x, hen, rx, hy⟩ := ent i hg.2
    refine next_key_item st hgd hdt hsz hen fun h' st' sb => ?_
    obtain ⟨oi, e, c, dd⟩ := id st'
    have I1 : Inv X pins σ H { s with heap := h' } := I.turned (t' := s.toks) (fun b ob hb q => (sb.2 b hb).trans q) f0 f1 f3 f4 f5
    exact ⟨_, rfl, go_of (s := { s with heap := h' }) e c dd (by decide) ⟨x, H, I1, rx, ⟨rfl, hy⟩, st', fun b hb => (hf b hb).1⟩⟩
  done := by
    intro X hP hw hK hc i pins s σ H E I hf st hg
    subst hP hw hK
    obtain ⟨f0, f1, f2, f3, f4, f5⟩ := hf it (List.mem_singleton.mpr rfl)
    obtain ⟨hs, hgd, hx, es', ep', hdt, hsz, ent⟩ := frzOdd I hg.1
    obtain ⟨rfl, rfl⟩ := dict_ep hod hdt
    exact next_key_end (I.ok.hd hc) st hgd hdt hsz hg.2 fun h' eb => ⟨rfl, I.turned (t' := s.toks) (fun b ob hb q => eb b ob hb q) f0 f1 f3 f4 f5⟩
  self := fun A i s Q E st h => wpAny_pyIter_keyiter st h
end
section
variable {X : Cx} {tg e : Expr} {td : TE}
theorem pi_keysO (he : PE X e td) : PI X tg e (iKeysO td) := by
  refine ⟨fun pins s σ H R I h => ?_⟩
  refine thn (he.run pins s σ H _ I h) fun u s1 ⟨x, H1, I1, rx, d, o, ks, x0, ex, hd, q⟩ => ?_
  subst ex
  cases (show u = Value.ref d from rx)
  obtain ⟨hs, hgd, hx, es, ep, hdt, hsz, ent⟩ := frzOdd I1 hd
  refine iter_keys hs hgd hx hdt (pi_one (tk := s1.toks) I1 _ (turn_keysO _ hdt) ⟨_, Heap.get?_push_size _ rfl, rfl, ?_⟩ q)
  rw [hsz] <;> rfl
theorem pi_keysB (he : PE X e td) : PI X tg e (iKeysB td) := ⟨fun pins s σ H R I h => by
  rcases h with h | h
  · exact (pi_keys he).run pins s σ H R I h
  · exact (pi_keysO he).run pins s σ H R I h⟩
end
end S
set_option Elab.async false
set_option linter.all false
set_option maxRecDepth 100000
set_option maxHeartbeats 2000000
namespace S
open PySem L2 Evl
section
variable {K : PySem.W.Frag} {σ : L2.St} {H H' : Hp} {ta tb te tc : TE} {x y z v : V} {i j : Int} {a b : Str}
theorem ev_add (ha : Ev ta σ H (.int i)) (hb : Ev tb σ H (.int j)) : Ev (tOp (addA K) ta tb) σ H (.int (i + j)) := ev_op ha hb fun H1 e Q q => .inl ⟨i, j, rfl, rfl, q H1 (Ex.refl H1)⟩
theorem ev_adds (ha : Ev ta σ H (.str a)) (hb : Ev tb σ H (.str b)) (hz : a.length + b.length ≤ 100000) : Ev (tOp (addA K) ta tb) σ H (.str (a ++ b)) := ev_op ha hb fun H1 e Q q => .inr (.inl ⟨a, b, rfl, rfl, sz_of hz, q H1 (Ex.refl H1)⟩)
theorem ev_sub (ha : Ev ta σ H (.int i)) (hb : Ev tb σ H (.int j)) : Ev (tOp subI ta tb) σ H (.int (i - j)) := ev_op ha hb rv_I0
/-- one factor within 2 ^ 64 -/
theorem ev_mulr (ha : Ev ta σ H (.int i)) (hb : Ev tb σ H (.int j)) (h : -(2 ^ 64) < j ∧ j < 2 ^ 64) : Ev (tOp mulI ta tb) σ H (.int (i * j)) := ev_op ha hb (rv_I (.inr h))
theorem ev_mull (ha : Ev ta σ H (.int i)) (hb : Ev tb σ H (.int j)) (h : -(2 ^ 64) < i ∧ i < 2 ^ 64) : Ev (tOp mulI ta tb) σ H (.int (i * j)) := ev_op ha hb (rv_I (.inl h))
theorem ev_div (ha : Ev ta σ H (.int i)) (hb : Ev tb σ H (.int j)) (h : 0 < j ∧ j < 1073741824) : Ev (tOp divI ta tb) σ H (.int (i / j)) := ev_op ha hb (rv_I h)
theorem ev_mod (ha : Ev ta σ H (.int i)) (hb : Ev tb σ H (.int j)) (h : 0 < j) : Ev (tOp modI ta tb) σ H (.int (i % j)) := ev_op ha hb (rv_I h)
theorem ev_pow (ha : Ev ta σ H (.int i)) (hb : Ev tb σ H (.int j)) (h : 0 ≤ j ∧ j ≤ 1000000 ∧ i.natAbs < 2 ^ 64) : Ev (tOp powI ta tb) σ H (.int (i ^ j.toNat)) := ev_op ha hb (rv_I h)
theorem ev_neg (ha : Ev ta σ H (.int i)) : Ev (tUn (rU fun i => .int (-i)) ta) σ H (.int (-i)) := ev_un ha ru_neg
theorem ev_lt (ha : Ev ta σ H (.int i)) (hb : Ev tb σ H (.int j)) : Ev (tOp ltI ta tb) σ H (.bl (decide (i < j))) := ev_op ha hb rv_I0
theorem ev_le (ha : Ev ta σ H (.int i)) (hb : Ev tb σ H (.int j)) : Ev (tOp leI ta tb) σ H (.bl (decide (i ≤ j))) := ev_op ha hb rv_I0
theorem ev_gt (ha : Ev ta σ H (.int i)) (hb : Ev tb σ H (.int j)) : Ev (tOp gtI ta tb) σ H (.bl (decide (j < i))) := ev_op ha hb rv_I0
theorem ev_ge (ha : Ev ta σ H (.int i)) (hb : Ev tb σ H (.int j)) : Ev (tOp geI ta tb) σ H (.bl (decide (j ≤ i))) := ev_op ha hb rv_I0
theorem ev_eq (ha : Ev ta σ H x) (hb : Ev tb σ H y) (h : scal x y = true) : Ev (tOp (eqA K) ta tb) σ H (.bl (decide (x = y))) := ev_op ha hb fun H1 e Q q => .inl ⟨h, q H1 (Ex.refl H1)⟩
theorem ev_ne (ha : Ev ta σ H x) (hb : Ev tb σ H y) (h : scal x y = true) : Ev (tOp (neA K) ta tb) σ H (.bl (!decide (x = y))) := ev_op ha hb fun H1 e Q q => .inl ⟨h, q H1 (Ex.refl H1)⟩
theorem dV_int : decide (V.int i = V.int j) = decide (i = j) := by simp
theorem dV_str : decide (V.str a = V.str b) = decide (a = b) := by simp
theorem ev_eqI (ha : Ev ta σ H (.int i)) (hb : Ev tb σ H (.int j)) : Ev (tOp (eqA K) ta tb) σ H (.bl (decide (i = j))) := by rw [← dV_int]; exact ev_eq ha hb rfl
theorem ev_neI (ha : Ev ta σ H (.int i)) (hb : Ev tb σ H (.int j)) : Ev (tOp (neA K) ta tb) σ H (.bl (!decide (i = j))) := by rw [← dV_int]; exact ev_ne ha hb rfl
theorem ev_eqS (ha : Ev ta σ H (.str a)) (hb : Ev tb σ H (.str b)) : Ev (tOp (eqA K) ta tb) σ H (.bl (decide (a = b))) := by rw [← dV_str]; exact ev_eq ha hb rfl
theorem ev_neS (ha : Ev ta σ H (.str a)) (hb : Ev tb σ H (.str b)) : Ev (tOp (neA K) ta tb) σ H (.bl (!decide (a = b))) := by rw [← dV_str]; exact ev_ne ha hb rfl
theorem ev_isN (ha : Ev ta σ H x) : Ev (tOp isN ta (tC .non)) σ H (.bl (decide (x = .non))) := ev_op ha ev_c fun H1 e Q q => ⟨rfl, q H1 (Ex.refl H1)⟩
theorem ev_ntN (ha : Ev ta σ H x) : Ev (tOp ntN ta (tC .non)) σ H (.bl (!decide (x = .non))) := ev_op ha ev_c fun H1 e Q q => ⟨rfl, q H1 (Ex.refl H1)⟩
/-- two comparisons in a row -/
theorem ev_chain {r r' : R2} {k m : Bool} (ha : Ev ta σ H x) (hb : Ev tb σ H y) (h1 : RV r x y H (.bl k)) (h2 : k = true → Ev tc σ H z) (h3 : k = true → RV r' y z H (.bl m)) : Ev (tChain r r' ta tb tc) σ H (.bl (k && m)) := fun H1 e Q q =>
  ha H1 e _ fun H2 e2 => hb H2 (e.trans e2) _ fun H3 e3 => h1 H3 ((e.trans e2).trans e3) _ fun H4 e4 => ⟨k, rfl, by
    have E4 := ((e.trans e2).trans e3).trans e4
    cases k with
    | true =>
      show tc σ H4 _
      exact h2 rfl H4 E4 _ fun H5 e5 => h3 rfl H5 (E4.trans e5) Q fun H6 e6 => q H6 (((e2.trans e3).trans e4).trans (e5.trans e6))
    | false =>
      show Q (.bl false) H4
      exact q H4 ((e2.trans e3).trans e4)⟩
theorem ev_chainI {r r' : R2} {f g : Int → Int → Bool} {k : Int} (hr : r = rI0 fun i j => .bl (f i j)) (hr' : r' = rI0 fun i j => .bl (g i j)) (ha : Ev ta σ H (.int i)) (hb : Ev tb σ H (.int j)) (hc : Ev tc σ H (.int k)) : Ev (tChain r r' ta tb tc) σ H (.bl (f i j && g j k)) := by
  subst hr hr'
  exact ev_chain ha hb rv_I0 (fun _ => hc) fun _ => rv_I0
theorem ev_lele {k : Int} (ha : Ev ta σ H (.int i)) (hb : Ev tb σ H (.int j)) (hc : Ev tc σ H (.int k)) : Ev (tChain leI leI ta tb tc) σ H (.bl (decide (i ≤ j) && decide (j ≤ k))) :=
  ev_chainI (f := fun i j => decide (i ≤ j)) (g := fun i j => decide (i ≤ j)) rfl rfl ha hb hc
theorem ev_ltle {k : Int} (ha : Ev ta σ H (.int i)) (hb : Ev tb σ H (.int j)) (hc : Ev tc σ H (.int k)) : Ev (tChain ltI leI ta tb tc) σ H (.bl (decide (i < j) && decide (j ≤ k))) :=
  ev_chainI (f := fun i j => decide (i < j)) (g := fun i j => decide (i ≤ j)) rfl rfl ha hb hc
theorem ev_ltlt {k : Int} (ha : Ev ta σ H (.int i)) (hb : Ev tb σ H (.int j)) (hc : Ev tc σ H (.int k)) : Ev (tChain ltI ltI ta tb tc) σ H (.bl (decide (i < j) && decide (j < k))) :=
  ev_chainI (f := fun i j => decide (i < j)) (g := fun i j => decide (i < j)) rfl rfl ha hb hc
/-! items -/
theorem ev_ixL {p : Addr} {xs : List V} (ha : Ev ta σ H (.ref p)) (hb : Ev tb σ H (.int i)) (h : SqL K H p xs) (hv : atI xs i = some v) : Ev (tOp (ixA K) ta tb) σ H v :=
  ev_op ha hb fun H1 e Q q => .inl (.inl ⟨p, xs, i, v, rfl, rfl, ex_l e h, hv, q H1 (Ex.refl H1)⟩)
theorem ev_ixT {p : Addr} {xs : List V} (ha : Ev ta σ H (.ref p)) (hb : Ev tb σ H (.int i)) (h : SqT K H p xs) (hv : atI xs i = some v) : Ev (tOp (ixA K) ta tb) σ H v :=
  ev_op ha hb fun H1 e Q q => .inl (.inr (.inl ⟨p, xs, i, v, rfl, rfl, ex_t e h, hv, q H1 (Ex.refl H1)⟩))
theorem ev_ixS {c : Nat} (ha : Ev ta σ H (.str a)) (hb : Ev tb σ H (.int i)) (hz : a.length ≤ 100000) (hv : atI a.cps.toList i = some c) : Ev (tOp (ixA K) ta tb) σ H (.str ⟨#[c]⟩) :=
  ev_op ha hb fun H1 e Q q => .inl (.inr (.inr ⟨a, i, c, rfl, rfl, sz_of hz, hv, q H1 (Ex.refl H1)⟩))
theorem dget_mono {p : Addr} {kvs : List (Key × V)} {k : Key} (e : Ex H H') (h : Rd H p (.dK kvs)) : DGet H' p (kV k) (valV kvs k) := .inl ⟨kvs, k, ex_rd e h, rfl, rfl⟩
theorem ev_ixD {p : Addr} {kvs : List (Key × V)} {k : Key} (ha : Ev ta σ H (.ref p)) (hb : Ev tb σ H (kV k)) (h : Rd H p (.dK kvs)) (hv : valV kvs k = some v) : Ev (tOp (ixA K) ta tb) σ H v :=
  ev_op ha hb fun H1 e Q q => .inr ⟨p, v, rfl, by rw [← hv]; exact dget_mono e h, q H1 (Ex.refl H1)⟩
/-- an item of a list that is written there -/
theorem ev_ixN {xs : List V} (ha : EvL ta σ H xs) (hb : Ev tb σ H (.int i)) (hv : atI xs i = some v) : Ev (tOp (ixA K) ta tb) σ H v :=
  ev_opL1 ha (fun H1 e => hb.mono e) fun p H1 hp e H2 e2 Q q => .inl (.inl ⟨p, xs, i, v, rfl, rfl, ex_l e2 (sq_of hp), hv, q H2 (Ex.refl H2)⟩)
theorem ev_niD {p : Addr} {kvs : List (Key × V)} {k : Key} (ha : Ev ta σ H (kV k)) (hb : Ev tb σ H (.ref p)) (h : Rd H p (.dK kvs)) : Ev (tOp (niA K) ta tb) σ H (.bl (!(valV kvs k).isSome)) :=
  ev_op ha hb fun H1 e Q q => .inr (.inr ⟨p, _, rfl, dget_mono e h, q H1 (Ex.refl H1)⟩)
theorem ev_inD {p : Addr} {kvs : List (Key × V)} {k : Key} (ha : Ev ta σ H (kV k)) (hb : Ev tb σ H (.ref p)) (h : Rd H p (.dK kvs)) : Ev (tOp (inA K) ta tb) σ H (.bl ((valV kvs k).isSome)) :=
  ev_op ha hb fun H1 e Q q => .inr (.inr ⟨p, _, rfl, dget_mono e h, q H1 (Ex.refl H1)⟩)
theorem ev_niL {p : Addr} {xs : List V} (ha : Ev ta σ H x) (hb : Ev tb σ H (.ref p)) (h : SqL K H p xs) (hx : flatV x = true) (hf : xs.all flatV = true) : Ev (tOp (niA K) ta tb) σ H (.bl (!inV x xs)) :=
  ev_op ha hb fun H1 e Q q => .inr (.inl ⟨p, xs, rfl, .inl (ex_l e h), hx, hf, q H1 (Ex.refl H1)⟩)
theorem ev_inL {p : Addr} {xs : List V} (ha : Ev ta σ H x) (hb : Ev tb σ H (.ref p)) (h : SqL K H p xs) (hx : flatV x = true) (hf : xs.all flatV = true) : Ev (tOp (inA K) ta tb) σ H (.bl (inV x xs)) :=
  ev_op ha hb fun H1 e Q q => .inr (.inl ⟨p, xs, rfl, .inl (ex_l e h), hx, hf, q H1 (Ex.refl H1)⟩)
theorem ev_inTw {xs : List V} (ha : Ev ta σ H x) (hb : EvU tb σ H xs) (hx : flatV x = true) (hf : xs.all flatV = true) : Ev (tOp (inA K) ta tb) σ H (.bl (inV x xs)) :=
  ev_opU ha hb fun p H1 h e H2 e2 Q q => .inr (.inl ⟨p, xs, rfl, .inr (ex_t e2 (st_of h)), hx, hf, q H2 (Ex.refl H2)⟩)
theorem ev_niTw {xs : List V} (ha : Ev ta σ H x) (hb : EvU tb σ H xs) (hx : flatV x = true) (hf : xs.all flatV = true) : Ev (tOp (niA K) ta tb) σ H (.bl (!inV x xs)) :=
  ev_opU ha hb fun p H1 h e H2 e2 Q q => .inr (.inl ⟨p, xs, rfl, .inr (ex_t e2 (st_of h)), hx, hf, q H2 (Ex.refl H2)⟩)
/-! calls of built-ins -/
theorem ev_lenL {p : Addr} {xs : List V} (ha : Ev ta σ H (.ref p)) (h : SqL K H p xs) : Ev (tCB (lenA K) (tCons ta tNil)) σ H (.int (xs.length : Int)) := fun H1 e Q q =>
  ha H1 e _ fun H2 e2 => .inl ⟨_, _, rfl, .inl ⟨xs, ex_l (e.trans e2) h, rfl⟩, q H2 e2⟩
theorem ev_lenT {p : Addr} {xs : List V} (ha : Ev ta σ H (.ref p)) (h : SqT K H p xs) : Ev (tCB (lenA K) (tCons ta tNil)) σ H (.int (xs.length : Int)) := fun H1 e Q q =>
  ha H1 e _ fun H2 e2 => .inl ⟨_, _, rfl, .inr ⟨xs, ex_t (e.trans e2) h, rfl⟩, q H2 e2⟩
theorem ev_lenS (ha : Ev ta σ H (.str a)) (hz : a.length ≤ 100000) : Ev (tCB (lenA K) (tCons ta tNil)) σ H (.int (a.length : Int)) := fun H1 e Q q =>
  ha H1 e _ fun H2 e2 => .inl ⟨_, _, rfl, ⟨sz_of hz, rfl⟩, q H2 e2⟩
theorem ev_lenD {p : Addr} {kvs : List (Key × V)} (ha : Ev ta σ H (.ref p)) (h : Rd H p (.dK kvs)) : Ev (tCB (lenA K) (tCons ta tNil)) σ H (.int (kvs.length : Int)) := fun H1 e Q q =>
  ha H1 e _ fun H2 e2 => .inr ⟨_, kvs, rfl, ex_rd (e.trans e2) h, q H2 e2⟩
theorem ev_min (ha : Ev ta σ H (.int i)) (hb : Ev tb σ H (.int j)) : Ev (tCB rMin2 (tCons ta (tCons tb tNil))) σ H (.int (if j < i then j else i)) := fun H1 e Q q =>
  ha H1 e _ fun H2 e2 => hb H2 (e.trans e2) _ fun H3 e3 => ⟨i, j, rfl, q H3 (e2.trans e3)⟩
theorem ev_max (ha : Ev ta σ H (.int i)) (hb : Ev tb σ H (.int j)) : Ev (tCB rMax2 (tCons ta (tCons tb tNil))) σ H (.int (if j > i then j else i)) := fun H1 e Q q =>
  ha H1 e _ fun H2 e2 => hb H2 (e.trans e2) _ fun H3 e3 => ⟨i, j, rfl, q H3 (e2.trans e3)⟩
theorem ev_intI (ha : Ev ta σ H (.int i)) : Ev (tCB (intC K) (tCons ta tNil)) σ H (.int i) := fun H1 e Q q => ha H1 e _ fun H2 e2 => .inl (.inl ⟨i, rfl, q H2 e2⟩)
theorem ev_intB {k : Bool} (ha : Ev ta σ H (.bl k)) : Ev (tCB (intC K) (tCons ta tNil)) σ H (.int (if k then 1 else 0)) := fun H1 e Q q => ha H1 e _ fun H2 e2 => .inl (.inr ⟨k, rfl, q H2 e2⟩)
/-! isinstance of a plain value -/
theorem ev_isi {t : String} {k : Bool} {T : String} (ha : Ev ta σ H x) (hx : ∀ H1, Ex H H1 → TyX K H1 x (.type t)) (h : kitB t T = some k) : Ev (tCB (rIsi K) (tCons ta (tCons (tC (.ty T)) tNil))) σ H (.bl k) := fun H1 e Q q =>
  ha H1 e _ fun H2 e2 => ⟨_, _, _, .type T, k, rfl, .ty T, hx H2 (e.trans e2), kit_ty h, q H2 e2⟩
/-! texts cut -/
theorem ev_slS {tl th : TO} {lo hi : Option Int} (ha : Ev ta σ H (.str a)) (hl : EvO tl σ H lo) (hh : EvO th σ H hi) (hz : a.length ≤ 100000) : Ev (tSl (slA K) ta tl th) σ H (.str (cutS a lo hi)) := fun H1 e Q q =>
  ha H1 e _ fun H2 e2 => hl H2 (e.trans e2) _ fun H3 e3 => hh H3 ((e.trans e2).trans e3) _ fun H4 e4 => .inr (.inl ⟨a, rfl, sz_of hz, q H4 ((e2.trans e3).trans e4)⟩)
theorem eo_no : EvO tNoPart σ H none := fun H1 e Q q => q H1 (Ex.refl H1)
theorem eo_some (ha : Ev ta σ H (.int i)) : EvO (tPart ta) σ H (some i) := fun H1 e Q q => ha H1 e _ fun H2 e2 => ⟨i, rfl, q H2 e2⟩
theorem el_sl {p : Addr} {xs : List V} {tl th : TO} {lo hi : Option Int} (ha : Ev ta σ H (.ref p)) (hl : EvO tl σ H lo) (hh : EvO th σ H hi) (h : SqL K H p xs) : EvL (tSl (slA K) ta tl th) σ H (cutV xs lo hi) := fun H1 e Q q =>
  ha H1 e _ fun H2 e2 => hl H2 (e.trans e2) _ fun H3 e3 => hh H3 ((e.trans e2).trans e3) _ fun H4 e4 => .inl ⟨p, xs, rfl, ex_l (((e.trans e2).trans e3).trans e4) h, fun l hl => by
    have E := (e2.trans e3).trans e4
    exact q l _ (fresh_back E hl) (E.trans (Ex.new hl)) upd_same⟩
theorem ev_revS (ha : Ev ta σ H (.str a)) (hz : a.length ≤ 100000) : Ev (tRevA K ta) σ H (.str (revS a)) := fun H1 e Q q =>
  ha H1 e _ fun H2 e2 => ⟨1, rfl, _, rfl, rfl, rfl, rfl, .inr ⟨a, rfl, sz_of hz, q H2 e2⟩⟩
theorem el_rev {p : Addr} {xs : List V} (ha : Ev ta σ H (.ref p)) (h : SqL K H p xs) : EvL (tRevA K ta) σ H xs.reverse := fun H1 e Q q =>
  ha H1 e _ fun H2 e2 => ⟨1, rfl, _, rfl, rfl, rfl, rfl, .inl ⟨p, xs, rfl, ex_l (e.trans e2) h, fun l hl => q l _ (fresh_back e2 hl) (e2.trans (Ex.new hl)) upd_same⟩⟩
/-- two lists in one -/
theorem el_cat {xs ys : List V} (ha : EvL ta σ H xs) (hb : EvL tb σ H ys) (hz : xs.length + ys.length ≤ 100000) : EvL (tOp (addA K) ta tb) σ H (xs ++ ys) := fun H1 e Q q =>
  ha H1 e _ fun p H2 hp e2 h2 => hb H2 (e.trans e2) _ fun r H3 hr e3 h3 => .inr (.inr (.inl ⟨p, r, xs, ys, rfl, rfl, e3 p _ h2, h3, sz_of hz, fun l hl => q l _ (fresh_back (e2.trans e3) hl) ((e2.trans e3).trans (Ex.new hl)) upd_same⟩))
theorem el_catV {p : Addr} {xs ys : List V} (ha : Ev ta σ H (.ref p)) (h : H p = some (.lst xs)) (hb : EvL tb σ H ys) (hz : xs.length + ys.length ≤ 100000) : EvL (tOp (addA K) ta tb) σ H (xs ++ ys) := fun H1 e Q q =>
  ha H1 e _ fun H2 e2 => hb H2 (e.trans e2) _ fun r H3 hr e3 h3 => .inr (.inr (.inl ⟨p, r, xs, ys, rfl, rfl, ((e.trans e2).trans e3) p _ h, h3, sz_of hz, fun l hl => q l _ (fresh_back (e2.trans e3) hl) ((e2.trans e3).trans (Ex.new hl)) upd_same⟩))
/-! dicts -/
/-- a new dict -/
def EvD (te : TE) (σ : L2.St) (H : Hp) (kvs : List (Key × V)) : Prop := ∀ H1, Ex H H1 → ∀ Q : VK, (∀ p H2, H1 p = none → Ex H1 H2 → H2 p = some (.dK kvs) → Q (.ref p) H2) → te σ H1 Q
theorem ed_new : EvD tDNewK σ H [] := fun H1 e Q q p hp => q p _ hp (Ex.new hp) upd_same
theorem ed_copy {p : Addr} {kvs : List (Key × V)} (ha : Ev ta σ H (.ref p)) (h : Rd H p (.dK kvs)) : EvD (tCB (dictC K) (tCons ta tNil)) σ H kvs := fun H1 e Q q =>
  ha H1 e _ fun H2 e2 => .inr ⟨p, kvs, rfl, ex_rd (e.trans e2) h, fun l hl => q l _ (fresh_back e2 hl) (e2.trans (Ex.new hl)) upd_same⟩
theorem ev_get2 {p : Addr} {kvs : List (Key × V)} {k : Key} (ha : Ev ta σ H (.ref p)) (hb : Ev tb σ H (kV k)) (hc : Ev tc σ H z) (h : Rd H p (.dK kvs)) : Ev (tDGet2 ta tb tc) σ H ((valV kvs k).getD z) := fun H1 e Q q =>
  ha H1 e _ fun H2 e2 => ⟨p, rfl, .inl ⟨kvs, ex_rd (e.trans e2) h⟩, hb H2 (e.trans e2) _ fun H3 e3 => hc H3 ((e.trans e2).trans e3) _ fun H4 e4 => ⟨_, dget_mono (((e.trans e2).trans e3).trans e4) h, q H4 ((e2.trans e3).trans e4)⟩⟩
theorem ev_get2N {kvs : List (Key × V)} {k : Key} (ha : EvD ta σ H kvs) (hb : Ev tb σ H (kV k)) (hc : Ev tc σ H z) : Ev (tDGet2 ta tb tc) σ H ((valV kvs k).getD z) := fun H1 e Q q =>
  ha H1 e _ fun p H2 hp e2 h2 => ⟨p, rfl, .inl ⟨kvs, .inl h2⟩, hb H2 (e.trans e2) _ fun H3 e3 => hc H3 ((e.trans e2).trans e3) _ fun H4 e4 => ⟨_, dget_mono (e3.trans e4) (.inl h2), q H4 ((e2.trans e3).trans e4)⟩⟩
variable {D : Ends} {tz : TS}
theorem s_asgD {i : Nat} {kvs : List (Key × V)} (h : EvD te σ H kvs) (k : ∀ p H1, H p = none → Ex H H1 → H1 p = some (.dK kvs) → D.nx (σ.set i (some (.ref p))) H1) : tAsg te (gName i) D σ H := h H (Ex.refl H) _ fun p H1 hp e h1 => k p H1 hp e h1
theorem q_asgD {i : Nat} {kvs : List (Key × V)} (h : EvD te σ H kvs) (k : ∀ p H1, H p = none → Ex H H1 → H1 p = some (.dK kvs) → tz D (σ.set i (some (.ref p))) H1) : tSeq (tAsg te (gName i)) tz D σ H := s_asgD (D := { D with nx := tz D }) h k
theorem s_retD {kvs : List (Key × V)} (h : EvD te σ H kvs) (k : ∀ p H1, H p = none → Ex H H1 → H1 p = some (.dK kvs) → D.rt (.ref p) H1) : tRet te D σ H := h H (Ex.refl H) _ k
/-- d[k] = v -/
theorem s_put {p : Addr} {kvs : List (Key × V)} {k : Key} (h : Ev te σ H v) (ha : Ev ta σ H (.ref p)) (hb : Ev tb σ H (kV k)) (hd : H p = some (.dK kvs)) (hz : kvs.length < 100000) (q : ∀ H1, Ex H H1 → D.nx σ (upd H1 p (.dK (putK kvs k v)))) : tAsg te (gSub ta tb setA) D σ H :=
  h H (Ex.refl H) _ fun H1 e1 => ha H1 e1 _ fun H2 e2 => hb H2 (e1.trans e2) _ fun H3 e3 => .inr ⟨p, _, rfl, DPut.k (((e1.trans e2).trans e3) p _ hd) (sz_lt hz), q H3 ((e1.trans e2).trans e3)⟩
theorem q_put {p : Addr} {kvs : List (Key × V)} {k : Key} (h : Ev te σ H v) (ha : Ev ta σ H (.ref p)) (hb : Ev tb σ H (kV k)) (hd : H p = some (.dK kvs)) (hz : kvs.length < 100000) (q : ∀ H1, Ex H H1 → tz D σ (upd H1 p (.dK (putK kvs k v)))) : tSeq (tAsg te (gSub ta tb setA)) tz D σ H :=
  s_put (D := { D with nx := tz D }) h ha hb hd hz q
/-- xs[j] = v -/
theorem s_setA {p : Addr} {xs : List V} {j : Nat} (h : Ev te σ H v) (ha : Ev ta σ H (.ref p)) (hb : Ev tb σ H (.int i)) (hd : H p = some (.lst xs)) (hj : ixN xs.length i = some j) (q : ∀ H1, Ex H H1 → D.nx σ (upd H1 p (.lst (xs.set j v)))) : tAsg te (gSub ta tb setA) D σ H :=
  h H (Ex.refl H) _ fun H1 e1 => ha H1 e1 _ fun H2 e2 => hb H2 (e1.trans e2) _ fun H3 e3 => .inl ⟨p, xs, i, j, rfl, rfl, ((e1.trans e2).trans e3) p _ hd, hj, q H3 ((e1.trans e2).trans e3)⟩
theorem s_setAU {p : Addr} {xs ys : List V} {j : Nat} (h : EvU te σ H ys) (ha : Ev ta σ H (.ref p)) (hb : Ev tb σ H (.int i)) (hd : H p = some (.lst xs)) (hj : ixN xs.length i = some j) (q : ∀ t H1, H t = none → Ex H H1 → H1 t = some (.tup ys) → D.nx σ (upd H1 p (.lst (xs.set j (.ref t))))) : tAsg te (gSub ta tb setA) D σ H :=
  h H (Ex.refl H) _ fun t H1 ht e1 h1 => ha H1 e1 _ fun H2 e2 => hb H2 (e1.trans e2) _ fun H3 e3 => .inl ⟨p, xs, i, j, rfl, rfl, ((e1.trans e2).trans e3) p _ hd, hj, q t H3 ht ((e1.trans e2).trans e3) ((e2.trans e3) t _ h1)⟩
/-- for x in sorted(d, reverse=True) and alike -/
theorem s_forG {g : TG} {tu : TS} {wi : TI} {J : It} (h : ∀ R : It → Hp → Prop, (∀ H1, Ex H H1 → R J H1) → wi σ H R) (k : ∀ H1, Ex H H1 → ∃ W : Nat → Nat → L2.St → Hp → Prop, (∃ m, W 0 m σ H1) ∧ ∀ i m σ H, W i m σ H →
  (J.stop i H ∧ D.nx σ H) ∨ (J.go i H ∧ ∃ N : L2.St → Hp → Prop, (∀ σ' H', N σ' H' → ∃ m', m' < m ∧ W (i + 1) m' σ' H') ∧ ∀ x H', J.yld i H x H' → g x σ H' fun σ2 H2 => tu { D with nx := N, ct := N, bk := D.nx } σ2 H2)) : tFor wi g tu D σ H := h _ fun H1 e => k H1 e
end
end S
set_option Elab.async false
set_option linter.all false
set_option maxRecDepth 100000
set_option maxHeartbeats 4000000
namespace S
open PySem L2 Evl
/-! ### small facts -/
theorem toL_nat {n k : Nat} : HT.sIx n 0 (some (k : Int)) = min k n := HT.sIx_nat n 0 k
theorem cut_at {ns : List Int} {k : Nat} : atI (cutV (ns.map V.int) (some (k : Int)) (some ((k : Int) + 1)) ++ [V.int 0]) (0 : Int) = some (V.int (ns.getD k 0)) := by
  have h0 : ((0 : Nat) : Int) = 0 := rfl
  rw [← h0]
  refine atI_nat ?_
  unfold cutV
  have e1 : ((k : Int) + 1) = ((k + 1 : Nat) : Int) := by omega
  rw [e1, HT.sIx_nat, HT.sIx_nat, List.length_map]
  by_cases h : k < ns.length
  · have a1 : min k ns.length = k := by omega
    have a2 : min (k + 1) ns.length = k + 1 := by omega
    rw [a1, a2]
    have a3 : k + 1 - k = 1 := by omega
    rw [a3, List.getElem?_append_left (by simp; omega)]
    rw [List.getElem?_take_of_lt (by omega), List.getElem?_drop, List.getElem?_map, Nat.add_zero]
    rw [List.getElem?_eq_getElem h]
    simp [h]
  · have a1 : min k ns.length = ns.length := by omega
    have a2 : min (k + 1) ns.length = ns.length := by omega
    rw [a1, a2]
    have a3 : (((ns.map V.int).drop ns.length).take (ns.length - ns.length)) = [] := by simp
    rw [a3]
    simp [List.getD, List.getElem?_eq_none (by omega : ns.length ≤ k)]
end S
section
open PySem L2 Evl S
local macro_rules | `(tactic| array_get_dec) => `(tactic| first
  | exact ev_c
  | exact ev_var rfl
  | exact S.eo_no
  | exact ea_nil
  | (apply S.eo_some <;> array_get_dec)
  | (apply ea_cons <;> array_get_dec)
  | (apply S.ev_add <;> array_get_dec)
  | (apply S.ev_sub <;> array_get_dec)
  | (apply S.ev_div <;> first | array_get_dec | exact ⟨by decide, by decide⟩ | exact ⟨by omega, by omega⟩)
  | (apply S.ev_mod <;> first | array_get_dec | decide | omega)
  | (apply S.ev_mulr <;> first | array_get_dec | exact ⟨by decide, by decide⟩ | exact ⟨by omega, by omega⟩)
  | (apply S.ev_mull <;> first | array_get_dec | exact ⟨by decide, by decide⟩ | exact ⟨by omega, by omega⟩)
  | (apply S.ev_neg <;> array_get_dec)
  | (apply S.ev_min <;> array_get_dec)
  | (apply S.ev_max <;> array_get_dec)
  | (apply S.ev_eqI <;> array_get_dec)
  | (apply S.ev_eqS <;> array_get_dec)
  | (apply S.ev_neI <;> array_get_dec)
  | (apply S.ev_neS <;> array_get_dec)
  | (apply S.ev_lt <;> array_get_dec)
  | (apply S.ev_le <;> array_get_dec)
  | (apply S.ev_gt <;> array_get_dec)
  | (apply S.ev_ge <;> array_get_dec)
  | (apply S.ev_intB <;> array_get_dec)
  | (apply et_test <;> array_get_dec)
  | (apply et_B <;> array_get_dec)
  | (apply et_not <;> array_get_dec)
  | (refine' et_and ?_ (fun _ => ?_) <;> array_get_dec)
  | (refine' et_or ?_ (fun _ => ?_) <;> array_get_dec))
namespace S
/-! ### _law_of -/
def sp_l_of (K : PySem.W.Frag) (C : CA) : Sp := fun vs H Q _ => ∃ (a : Addr) (ns : List Int) (k : Nat), vs = [.ref a, .int k] ∧ SqL K H a (ns.map V.int) ∧ ns.length ≤ 100 ∧ ∀ H', Ex H H' → Q (.int (ns.getD k 0)) H'
theorem len_l_of {K : PySem.W.Frag} {C : CA} {vs : List V} {H : Hp} {Q : VK} {E : XK} (h : sp_l_of K C vs H Q E) : vs.length = 2 := by
  obtain ⟨a, ns, k, rfl, _⟩ := h
  rfl
def t_l_of (K : PySem.W.Frag) (C : CA) : TS :=
 (tRet (tOp (ixA K) (tOp (addA K) (tSl (slA K) (tVar 0) (tPart (tVar 1)) (tPart (tOp (addA K) (tVar 1) (tC (.int 1))))) (tLst (tCons (tC (.int 0)) tNil))) (tC (.int 0))))
theorem pure_l_of {K : PySem.W.Frag} {C : CA} {vs : List V} {H : Hp} {Q : VK} {E : XK} (h : sp_l_of K C vs H Q E) : t_l_of K C { nx := fun _ H' => Q .non H', rt := Q } (startN 2 vs) H := by
  obtain ⟨a, ns, k, rfl, hS, hl, kk⟩ := h
  refine s_ret (ev_ixN (el_cat (el_sl (ev_var rfl) (by array_get_dec) (by array_get_dec) hS) (el_lst (by array_get_dec) (by decide)) ?_) ev_c cut_at) kk
  have := cutV_length (ns.map V.int) (some (k : Int)) (some ((k : Int) + 1))
  rw [List.length_map] at this
  show _ + 1 ≤ 100000
  omega
/-! ### texts of small letters -/
def LowS (x : Str) : Prop := ∀ c ∈ x.cps.toList, 97 ≤ c ∧ c ≤ 122
/-- a name -/
def NameS (x : Str) : Prop := 1 ≤ x.length ∧ x.length ≤ 8 ∧ LowS x
def alpha25 : Str := "abcdefghijklmnopqrstuvwxy"
theorem alpha_len : alpha25.cps.toList.length = 25 := by decide +kernel
theorem alpha_low : LowS alpha25 := by
  have h : (alpha25.cps.toList.all fun c => decide (97 ≤ c) && decide (c ≤ 122)) = true := by decide +kernel
  intro c hc
  have := List.all_eq_true.mp h c hc
  rw [Bool.and_eq_true, decide_eq_true_eq, decide_eq_true_eq] at this
  exact this
theorem low_app {a b : Str} (ha : LowS a) (hb : LowS b) : LowS (a ++ b) := fun c hc => by
  rw [Str.cps_append, Array.toList_append, List.mem_append] at hc
  exact hc.elim (ha c) (hb c)
theorem low_one {c : Nat} (h : 97 ≤ c ∧ c ≤ 122) : LowS ⟨#[c]⟩ := fun d hd => by
  have e : d = c := by simpa using hd
  rw [e]; exact h
theorem low_cut {a : Str} (ha : LowS a) (lo hi : Option Int) : LowS (cutS a lo hi) := fun c hc => by
  have : c ∈ (a.cps.toList.drop (HT.sIx a.length 0 lo)).take (HT.sIx a.length a.length hi - HT.sIx a.length 0 lo) := by simpa [cutS] using hc
  exact ha c (List.mem_of_mem_drop (List.mem_of_mem_take this))
theorem low_rev {a : Str} (ha : LowS a) : LowS (revS a) := fun c hc => by
  rw [revS_toList, List.mem_reverse] at hc
  exact ha c hc
theorem len_tl (a : Str) : a.cps.toList.length = a.length := by simp [Str.length]
theorem cut_lens (a : Str) {k : Nat} (hk : k ≤ a.length) : (cutS a none (some (k : Int))).length + (cutS a (some (k : Int)) none).length = a.length := by
  have l1 : (cutS a none (some (k : Int))).length = k := by
    show ((List.take _ (List.drop _ a.cps.toList)).toArray).size = k
    rw [List.size_toArray, List.length_take, List.length_drop, len_tl, HT.sIx_none, HT.sIx_nat]
    omega
  have l2 : (cutS a (some (k : Int)) none).length = a.length - k := by
    show ((List.take _ (List.drop _ a.cps.toList)).toArray).size = a.length - k
    rw [List.size_toArray, List.length_take, List.length_drop, len_tl, HT.sIx_none, HT.sIx_nat]
    omega
  omega
theorem atI_getD {α : Type} {xs : List α} {i : Int} (d : α) (h0 : 0 ≤ i) (h : i < xs.length) : atI xs i = some (xs.getD i.toNat d) := by
  have e : ((i.toNat : Nat) : Int) = i := Int.toNat_of_nonneg h0
  have h2 : i.toNat < xs.length := by omega
  have := atI_nat (xs := xs) (j := i.toNat) (v := xs.getD i.toNat d) (by rw [List.getD_eq_getElem?_getD, List.getElem?_eq_getElem h2]; rfl)
  rw [e] at this
  exact this
theorem getD_mem {α : Type} {xs : List α} {i : Nat} (d : α) (h : i < xs.length) : xs.getD i d ∈ xs := by
  rw [List.getD_eq_getElem?_getD, List.getElem?_eq_getElem h]
  exact List.getElem_mem h
/-- texts of one sign put together -/
theorem join_signs {ys : List Str} (hl : ∀ y ∈ ys, LowS y ∧ y.length = 1) : LowS (Txt.join ("" : Str) ys) ∧ (Txt.join ("" : Str) ys).length = ys.length := by
  have e : (Txt.join ("" : Str) ys).cps.toList = TL.joinL [] (ys.map TL.tl) := by
    have h1 := TL.tl_join ("" : Str) ys
    rw [TL.join_eq]
    exact h1
  have key : ∀ zs : List (List Nat), (TL.joinL [] zs) = zs.flatten := by
    intro zs
    induction zs with
    | nil => rfl
    | cons p r ih =>
      cases r with
      | nil => simp [TL.joinL]
      | cons q r => rw [TL.joinL, List.nil_append, ih, List.flatten_cons (L := q :: r)]
  rw [key] at e
  refine ⟨fun c hc => ?_, ?_⟩
  · rw [e, List.mem_flatten] at hc
    obtain ⟨l, h1, h2⟩ := hc
    obtain ⟨y, h3, rfl⟩ := List.mem_map.mp h1
    exact (hl y h3).1 c h2
  · rw [← len_tl, e]
    have : ∀ ys : List Str, (∀ y ∈ ys, y.length = 1) → ((ys.map TL.tl).flatten).length = ys.length := by
      intro ys
      induction ys with
      | nil => intro _; rfl
      | cons y r ih =>
        intro h
        rw [List.map_cons, List.flatten_cons, List.length_append, ih fun z hz => h z (List.mem_cons_of_mem _ hz), List.length_cons]
        have h1 : (TL.tl y).length = 1 := (len_tl y).trans (h y List.mem_cons_self)
        omega
    exact this ys fun y hy => (hl y hy).2
section
variable {K : PySem.W.Frag} {σ : L2.St} {H : Hp} {ta tb : TE} {a : Str}
theorem ev_join {ys : List Str} (ha : Ev ta σ H (.str a)) (hb : EvL tb σ H (ys.map V.str)) (hz : (ys.map (·.length)).sum + ys.length * a.length ≤ 16777216) : Ev (tM1 (joinR K) ta tb) σ H (.str (Txt.join a ys)) := fun H1 e Q q =>
  ha H1 e _ fun H2 e2 => ⟨⟨a, rfl⟩, hb H2 (e.trans e2) _ fun p H3 hp e3 h3 => ⟨a, p, ys, rfl, rfl, .inl (sq_of h3), hz, q H3 (e2.trans e3)⟩⟩
theorem et_yes : EvT tYes σ H true := fun H1 e Q q => q H1 (Ex.refl H1)
theorem given_all {n : Nat} {v : Nat → V} : given n (fun _ => true) v = (List.range n).map v := by
  unfold given
  rw [List.filter_eq_self.mpr fun _ _ => rfl]
end
theorem flat_strs (xs : List Str) : (xs.map V.str).all flatV = true := by
  rw [List.all_eq_true]
  intro v hv
  obtain ⟨x, _, rfl⟩ := List.mem_map.mp hv
  rfl
/-! ### _law_names -/
def GoodNames (xs : List Str) : Prop := xs.length = 3 ∧ ∀ x ∈ xs, NameS x
def wordF (more : Int) : Str := Txt.join ("" : Str) ((List.range (more % 7).toNat).map fun (j : Nat) => (⟨#[alpha25.cps.toList.getD ((more / 7 + 6 * (j : Int)) % 25).toNat 0]⟩ : Str))
def nameF (more : Int) (i : Nat) : Str := cutS (wordF more) none (some (more / 175 % (((wordF more).length : Int) + 1))) ++ ("z" : Str) ++ ⟨#[alpha25.cps.toList.getD i 0]⟩ ++ cutS (wordF more) (some (more / 175 % (((wordF more).length : Int) + 1))) none
def baseNames (cell : Int) (n : Nat) : List Str := (List.range n).map fun (i : Nat) => nameF (cell / 2 + (i : Int) * 48271 * (cell % 2)) i
/-- the names that a number tells -/
def namesF (cell : Int) : List Str := if (decide (cell % 5 = 3) && !inV (V.str (revS ((baseNames cell 3).getD 0 Str.empty))) ((baseNames cell 3).map V.str)) = true then (baseNames cell 3).set 1 (revS ((baseNames cell 3).getD 0 Str.empty)) else baseNames cell 3
def sp_l_names (K : PySem.W.Frag) (C : CA) : Sp := fun vs H Q _ => ∃ (cell : Int), vs = [.int cell, .int 3] ∧
  ∀ p xs H', H p = none → Ex H H' → H' p = some (.lst (xs.map V.str)) → GoodNames xs → xs = namesF cell → Q (.ref p) H'
theorem len_l_names {K : PySem.W.Frag} {C : CA} {vs : List V} {H : Hp} {Q : VK} {E : XK} (h : sp_l_names K C vs H Q E) : vs.length = 2 := by
  obtain ⟨a, rfl, _⟩ := h
  rfl
def t_l_names (K : PySem.W.Frag) (C : CA) : TS :=
 (tSeq (tAsg (tC (.str "abcdefghijklmnopqrstuvwxy")) (gName 2))
 (tSeq (tAsg (tLst tNil) (gName 3))
 (tSeq (tFor (iRng1 (tCons (tVar 1) tNil)) (gName 4)
  (tSeq (tAsg (tOp (addA K) (tOp (divI) (tVar 0) (tC (.int 2))) (tOp (mulI) (tOp (mulI) (tVar 4) (tC (.int 48271))) (tOp (modI) (tVar 0) (tC (.int 2))))) (gName 5))
 (tSeq (tAsg (tM1 (joinR K) (tC (.str "")) (tLc (iRng1 (tCons (tOp (modI) (tVar 5) (tC (.int 7))) tNil)) (gName 8) tYes (tOp (ixA K) (tVar 2) (tOp (modI) (tOp (addA K) (tOp (divI) (tVar 5) (tC (.int 7))) (tOp (mulI) (tC (.int 6)) (tVar 8))) (tC (.int 25)))) [8])) (gName 6))
 (tSeq (tAsg (tOp (modI) (tOp (divI) (tVar 5) (tC (.int 175))) (tOp (addA K) (tCB (lenA K) (tCons (tVar 6) tNil)) (tC (.int 1)))) (gName 7))
 (tDrop (tBM K "list" rAppend (tVar 3) (tCons (tOp (addA K) (tOp (addA K) (tOp (addA K) (tSl (slA K) (tVar 6) tNoPart (tPart (tVar 7))) (tC (.str "z"))) (tOp (ixA K) (tVar 2) (tVar 4))) (tSl (slA K) (tVar 6) (tPart (tVar 7)) tNoPart)) tNil)))))))
 (tSeq (tIfS (tAnd (tTest (tOp (eqA K) (tOp (modI) (tVar 0) (tC (.int 5))) (tC (.int 3)))) (tTest (tOp (niA K) (tRevA K (tOp (ixA K) (tVar 3) (tC (.int 0)))) (tVar 3)))) (tAsg (tRevA K (tOp (ixA K) (tVar 3) (tC (.int 0)))) (gSub (tVar 3) (tC (.int 1)) setA)) tNext)
 (tRet (tVar 3))))))
theorem pure_l_names {K : PySem.W.Frag} {C : CA} {vs : List V} {H : Hp} {Q : VK} {E : XK} (h : sp_l_names K C vs H Q E) : t_l_names K C { nx := fun _ H' => Q .non H', rt := Q } (startN 9 vs) H := by
  obtain ⟨cell, rfl, kk⟩ := h
  refine q_asg ev_c fun H1 e1 => ?_
  refine q_asgL (el_lst ea_nil (by decide)) fun p H2 hp e2 h2 => ?_
  have np : H p = none := fresh_back e1 hp
  have E2 : Ex H H2 := e1.trans e2
  refine q_forR1 (n := 3) (ea_cons (ev_var rfl) ea_nil) ⟨by decide, by decide⟩ (fun i σ' H' => ∃ o4 o5 o6 o7 xs, σ' = [some (.int cell), some (.int 3), some (.str alpha25), some (.ref p), o4, o5, o6, o7, none] ∧ Ex H H' ∧ H' p = some (.lst (xs.map V.str)) ∧ xs = baseNames cell i ∧ xs.length = i ∧ ∀ x ∈ xs, NameS x)
    (fun H3 e3 => ⟨none, none, none, none, [], rfl, E2.trans e3, e3 p _ h2, rfl, rfl, fun _ h => by cases h⟩) ?_ ?_
  · rintro i σ' H' hi ⟨o4, o5, o6, o7, xs, rfl, E3, h3, hxe, hx, hg⟩
    refine q_asg (S.ev_add (S.ev_div (ev_var rfl) ev_c ⟨by decide, by decide⟩) (S.ev_mull (S.ev_mulr (ev_var rfl) ev_c ⟨by decide, by decide⟩) (S.ev_mod (ev_var rfl) ev_c (by decide)) ⟨by omega, by omega⟩)) fun H4 e4 => ?_
    obtain ⟨more, hmore⟩ : ∃ more, more = (cell / 2 + (i : Int) * 48271 * (cell % 2)) := ⟨_, rfl⟩
    rw [← hmore]
    have hm : 0 ≤ more % 7 ∧ more % 7 < 7 := ⟨Int.emod_nonneg _ (by decide), Int.emod_lt_of_pos _ (by decide)⟩
    let ys : List Str := (List.range (more % 7).toNat).map fun (j : Nat) => ⟨#[alpha25.cps.toList.getD ((more / 7 + 6 * (j : Int)) % 25).toNat 0]⟩
    have hys : ∀ y ∈ ys, LowS y ∧ y.length = 1 := fun y hy => by
      obtain ⟨j, _, rfl⟩ := List.mem_map.mp hy
      have h0 := Int.emod_nonneg (more / 7 + 6 * (j : Int)) (show (25 : Int) ≠ 0 by decide)
      have h1 := Int.emod_lt_of_pos (more / 7 + 6 * (j : Int)) (show (0 : Int) < 25 by decide)
      exact ⟨low_one (alpha_low _ (getD_mem 0 (by rw [alpha_len]; omega))), rfl⟩
    have hlen : ys.length = (more % 7).toNat := by rw [List.length_map, List.length_range]
    have hsum : ∀ zs : List Str, (∀ y ∈ zs, y.length = 1) → (zs.map (·.length)).sum = zs.length := by
      intro zs
      induction zs with
      | nil => intro _; rfl
      | cons z r ih =>
        intro h
        rw [List.map_cons, List.sum_cons, ih fun y hy => h y (List.mem_cons_of_mem _ hy), h z List.mem_cons_self, List.length_cons]
        omega
    have lst : EvL (tLc (iRng1 (tCons (tOp (modI) (tVar 5) (tC (.int 7))) tNil)) (gName 8) tYes (tOp (ixA K) (tVar 2) (tOp (modI) (tOp (addA K) (tOp (divI) (tVar 5) (tC (.int 7))) (tOp (mulI) (tC (.int 6)) (tVar 8))) (tC (.int 25)))) [8])
        (((([some (.int cell), some (.int 3), some (.str alpha25), some (.ref p), o4, o5, o6, o7, none] : L2.St).set 4 (some (.int (i : Int)))).set 5 (some (.int more)))) H4 (ys.map V.str) := by
      have e : ys.map V.str = given (more % 7).toNat (fun _ => true) (fun (j : Nat) => V.str ⟨#[alpha25.cps.toList.getD ((more / 7 + 6 * (j : Int)) % 25).toNat 0]⟩) := by
        rw [given_all, List.map_map]
        rfl
      rw [e]
      refine el_lcR1 (n := more % 7) _ _ (by array_get_dec) ⟨hm.1, by omega⟩ (fun x => rfl) (fun j H5 e5 hj => et_yes) fun j H5 e5 hj _ => ?_
      refine ev_ixS (a := alpha25) (i := (more / 7 + 6 * (j : Int)) % 25) (ev_var rfl) (by array_get_dec) (by rw [← len_tl, alpha_len]; decide) ?_
      have h0 := Int.emod_nonneg (more / 7 + 6 * (j : Int)) (show (25 : Int) ≠ 0 by decide)
      have h1 := Int.emod_lt_of_pos (more / 7 + 6 * (j : Int)) (show (0 : Int) < 25 by decide)
      exact atI_getD 0 h0 (by rw [alpha_len]; exact h1)
    refine q_asg (ev_join ev_c lst ?_) fun H5 e5 => ?_
    · rw [hsum ys fun y hy => (hys y hy).2, hlen]
      have : ("" : Str).length = 0 := by decide +kernel
      rw [this]
      omega
    obtain ⟨w1, w2⟩ := join_signs hys
    obtain ⟨word, hword⟩ : ∃ word, word = Txt.join ("" : Str) ys := ⟨_, rfl⟩
    rw [← hword] at w1 w2 ⊢
    have hword' : wordF more = word := hword.symm
    rw [hlen] at w2
    have hpos : (0 : Int) < (word.length : Int) + 1 := by omega
    refine q_asg (i := 7) (ev_mod (i := more / 175) (by array_get_dec) (ev_add (ev_lenS (ev_var rfl) (by omega)) ev_c) hpos) fun H6 e6 => ?_
    have hat0 := Int.emod_nonneg (more / 175) (Int.ne_of_gt hpos)
    have hat1 := Int.emod_lt_of_pos (more / 175) hpos
    obtain ⟨at_, eat⟩ : ∃ at_ : Nat, (at_ : Int) = more / 175 % ((word.length : Int) + 1) := ⟨_, Int.toNat_of_nonneg hat0⟩
    have hnf : nameF more i = cutS word none (some (at_ : Int)) ++ ("z" : Str) ++ ⟨#[alpha25.cps.toList.getD i 0]⟩ ++ cutS word (some (at_ : Int)) none := by
      unfold nameF
      rw [hword', ← eat]
    rw [← eat] at hat1 ⊢
    have hc := cut_lens word (k := at_) (by omega)
    have hi3 : i < 3 := by omega
    have a25 : atI alpha25.cps.toList (i : Int) = some (alpha25.cps.toList.getD i 0) := by
      have := atI_getD (xs := alpha25.cps.toList) (i := (i : Int)) 0 (by omega) (by rw [alpha_len]; omega)
      simpa using this
    have lc : LowS ⟨#[alpha25.cps.toList.getD i 0]⟩ := low_one (alpha_low _ (getD_mem 0 (by rw [alpha_len]; omega)))
    have lz : LowS ("z" : Str) := by
      have : (("z" : Str).cps.toList.all fun c => decide (97 ≤ c) && decide (c ≤ 122)) = true := by decide +kernel
      intro c hc
      have := List.all_eq_true.mp this c hc
      rw [Bool.and_eq_true, decide_eq_true_eq, decide_eq_true_eq] at this
      exact this
    have z1 : ("z" : Str).length = 1 := by decide +kernel
    have hlast : NameS (cutS word none (some (at_ : Int)) ++ ("z" : Str) ++ ⟨#[alpha25.cps.toList.getD i 0]⟩ ++ cutS word (some (at_ : Int)) none) := by
      have el : (cutS word none (some (at_ : Int)) ++ ("z" : Str) ++ ⟨#[alpha25.cps.toList.getD i 0]⟩ ++ cutS word (some (at_ : Int)) none).length = word.length + 2 := by
        rw [Str.length_append, Str.length_append, Str.length_append, z1]
        show _ + 1 + 1 + _ = _
        omega
      exact ⟨by omega, by omega, low_app (low_app (low_app (low_cut w1 _ _) lz) lc) (low_cut w1 _ _)⟩
    have E6 : Ex H' H6 := (e4.trans e5).trans e6
    refine s_app (xs := xs.map V.str) (E6 p _ h3) (ev_var rfl) (ev_adds (ev_adds (ev_adds (ev_slS (ev_var rfl) S.eo_no (S.eo_some (ev_var rfl)) (by omega)) ev_c (by omega)) (ev_ixS (a := alpha25) (ev_var rfl) (ev_var rfl) (by rw [← len_tl, alpha_len]; decide) a25) ?_) (ev_slS (ev_var rfl) (S.eo_some (ev_var rfl)) S.eo_no (by omega)) ?_) (by rw [List.length_map]; omega) fun H7 e7 => ?_
    · rw [Str.length_append, z1]
      show _ + 1 + 1 ≤ _
      omega
    · rw [Str.length_append, Str.length_append, z1]
      show _ + 1 + 1 + _ ≤ _
      omega
    refine ⟨_, _, _, _, xs ++ [cutS word none (some (at_ : Int)) ++ ("z" : Str) ++ ⟨#[alpha25.cps.toList.getD i 0]⟩ ++ cutS word (some (at_ : Int)) none], rfl, Ex.mut (E3.trans (E6.trans e7)) np, ?_, ?_, by rw [List.length_append, hx]; rfl, fun x hx => ?_⟩
    · rw [upd_same, List.map_append]
      rfl
    · rw [hxe, ← hnf, hmore]
      unfold baseNames
      rw [List.range_succ, List.map_append]
      rfl
    · rcases List.mem_append.mp hx with h | h
      · exact hg x h
      · rw [List.mem_singleton.mp h]
        exact hlast
  · rintro σ' H' ⟨o4, o5, o6, o7, xs, rfl, E3, h3, hxe, hx, hg⟩
    have hxe3 : xs = baseNames cell 3 := hxe
    have hx3 : xs.length = 3 := hx
    obtain ⟨x0, x1, x2, rfl⟩ : ∃ x0 x1 x2, xs = [x0, x1, x2] := by
      match xs, hx3 with
      | [x0, x1, x2], _ => exact ⟨x0, x1, x2, rfl⟩
    have g0 := hg x0 (by simp)
    have r0 : NameS (revS x0) := ⟨by rw [revS_length]; exact g0.1, by rw [revS_length]; exact g0.2.1, low_rev g0.2.2⟩
    have hs0 : SqL K H' p ([x0, x1, x2].map V.str) := sq_of h3
    have ev0 : ∀ H1, Ex H' H1 → Ev (tRevA K (tOp (ixA K) (tVar 3) (tC (.int 0)))) [some (.int cell), some (.int 3), some (.str alpha25), some (.ref p), o4, o5, o6, o7, none] H1 (.str (revS x0)) := fun H1 e =>
      (ev_revS (ev_ixL (ev_var rfl) ev_c hs0 rfl) (by have := g0.2.1; omega)).mono e
    have evc : EvT (tTest (tOp (eqA K) (tOp (modI) (tVar 0) (tC (.int 5))) (tC (.int 3)))) [some (.int cell), some (.int 3), some (.str alpha25), some (.ref p), o4, o5, o6, o7, none] H' (decide (cell % 5 = 3)) := et_test (S.ev_eqI (S.ev_mod (ev_var rfl) ev_c (by decide)) ev_c)
    refine q_when (et_and evc fun _ => et_test (ev_niL (ev0 H' (Ex.refl _)) (ev_var rfl) hs0 rfl (flat_strs _))) (fun cc H1 e1 => ?_) (fun cc H1 e1 => ?_)
    · refine s_setA (xs := [x0, x1, x2].map V.str) (i := 1) (j := 1) (ev0 H1 e1) (ev_var rfl) ev_c (e1 p _ h3) rfl fun H2 e2 => ?_
      refine s_ret (D := { nx := _, rt := Q }) (ev_var rfl) fun H3 e3 => ?_
      refine kk p [x0, revS x0, x2] H3 np (Ex.trans (Ex.mut (E3.trans (e1.trans e2)) np) e3) (e3 p _ upd_same) ⟨rfl, fun x hx => ?_⟩ (by unfold namesF; rw [← hxe3]; exact (if_pos cc).symm)
      rcases List.mem_cons.mp hx with rfl | hx
      · exact g0
      · rcases List.mem_cons.mp hx with rfl | hx
        · exact r0
        · exact hg x (by rw [List.mem_singleton.mp hx]; simp)
    · refine s_ret (ev_var rfl) fun H3 e3 => ?_
      exact kk p [x0, x1, x2] H3 np (E3.trans (e1.trans e3)) (e3 p _ (e1 p _ h3)) ⟨rfl, hg⟩ (by unfold namesF; rw [← hxe3]; exact (if_neg (fun z => by rw [show (decide (cell % 5 = 3) && !inV (V.str (revS ([x0, x1, x2].getD 0 Str.empty))) (List.map V.str [x0, x1, x2])) = (decide (cell % 5 = 3) && !inV (V.str (revS x0)) (List.map V.str [x0, x1, x2])) from rfl, cc] at z; cases z)).symm)
end S
end
set_option Elab.async false
set_option linter.all false
set_option maxRecDepth 100000
set_option maxHeartbeats 4000000
namespace S
open PySem L2 Evl
/-! ### entries and books -/
inductive Ent where
  | tell (n : Str) (lo hi w : Int)
  | clear (n : Str) (lo hi : Int)
  | like (n : Str) (lo hi : Int) (o : Str)
  | undo (k : Int)
  deriving DecidableEq
def Ent.vs : Ent → List V
  | .tell n lo hi w => [.str "tell", .str n, .int lo, .int hi, .int w]
  | .clear n lo hi => [.str "clear", .str n, .int lo, .int hi]
  | .like n lo hi o => [.str "like", .str n, .int lo, .int hi, .str o]
  | .undo k => [.str "undo", .int k]
/-- an entry's own name -/
def Ent.nm : Ent → Option Str
  | .tell n _ _ _ => some n
  | .clear n _ _ => some n
  | .like n _ _ _ => some n
  | .undo _ => none
def DayOk (d : Int) : Prop := 0 ≤ d ∧ d ≤ 1000000
/-- an entry that may have the number k -/
def Ent.ok (k : Int) : Ent → Prop
  | .tell n lo hi w => NameS n ∧ 0 ≤ lo ∧ lo ≤ hi ∧ hi ≤ 1000000 ∧ -1000000000 ≤ w ∧ w ≤ 1000000000
  | .clear n lo hi => NameS n ∧ 0 ≤ lo ∧ lo ≤ hi ∧ hi ≤ 1000000
  | .like n lo hi o => NameS n ∧ 0 ≤ lo ∧ lo ≤ hi ∧ hi ≤ 1000000 ∧ NameS o
  | .undo j => 1 ≤ j ∧ j < k
abbrev Bk := List (Int × Ent)
def EntAt (H : Hp) (t : Addr) (e : Ent) : Prop := H t = some (.tup e.vs)
def BkRel (H : Hp) : List (Key × V) → Bk → Prop := Paired fun p q => p.1 = Sum.inl q.1 ∧ ∃ t, p.2 = .ref t ∧ EntAt H t q.2
theorem EntAt.mono {H H' : Hp} {t : Addr} {e : Ent} (x : Ex H H') (h : EntAt H t e) : EntAt H' t e := x t _ h
theorem BkRel.mono {H H' : Hp} (x : Ex H H') : ∀ {kvs : List (Key × V)} {B : Bk}, BkRel H kvs B → BkRel H' kvs B
  | _, _, .nil => .nil
  | _, _, .cons h t => .cons ⟨h.1, let ⟨a, e1, e2⟩ := h.2; ⟨a, e1, EntAt.mono x e2⟩⟩ (BkRel.mono x t)
/-- at b stands a dict that is the book B -/
structure BookAt (H : Hp) (b : Addr) (B : Bk) : Prop where
  ex : ∃ kvs, Rd H b (.dK kvs) ∧ BkRel H kvs B
  nd : (B.map (·.1)).Nodup
  few : B.length ≤ 60
theorem BookAt.mono {H H' : Hp} {b : Addr} {B : Bk} (x : Ex H H') (h : BookAt H b B) : BookAt H' b B :=
  ⟨let ⟨kvs, h1, h2⟩ := h.ex; ⟨kvs, ex_rd x h1, h2.mono x⟩, h.nd, h.few⟩
theorem BkRel.keys {H : Hp} : ∀ {kvs : List (Key × V)} {B : Bk}, BkRel H kvs B → kvs.map (·.1) = (B.map (·.1)).map Sum.inl
  | _, _, .nil => rfl
  | _, _, .cons h t => by rw [List.map_cons, List.map_cons, List.map_cons, h.1, BkRel.keys t]
theorem BkRel.len {H : Hp} {kvs : List (Key × V)} {B : Bk} (h : BkRel H kvs B) : kvs.length = B.length := Paired.length h
/-- the entry of a number -/
def Bk.at (B : Bk) (k : Int) : Option Ent := (B.find? fun p => decide (p.1 = k)).map (·.2)
theorem Bk.at_cons_pos {p : Int × Ent} {B : Bk} {k : Int} (h : p.1 = k) : Bk.at (p :: B) k = some p.2 := by simp [Bk.at, List.find?_cons, h]
theorem Bk.at_cons_neg {p : Int × Ent} {B : Bk} {k : Int} (h : ¬ p.1 = k) : Bk.at (p :: B) k = Bk.at B k := by simp [Bk.at, List.find?_cons, h]
theorem BkRel.val {H : Hp} : ∀ {kvs : List (Key × V)} {B : Bk}, BkRel H kvs B → ∀ k : Int, (valV kvs (Sum.inl k : Key) = none ∧ Bk.at B k = none) ∨ ∃ t e, valV kvs (Sum.inl k : Key) = some (.ref t) ∧ Bk.at B k = some e ∧ EntAt H t e
  | _, _, .nil, k => .inl ⟨rfl, rfl⟩
  | p :: kvs, q :: B, .cons h t, k => by
    obtain ⟨h1, a, h2, h3⟩ := h
    by_cases e : q.1 = k
    · exact .inr ⟨a, q.2, by rw [valV_pos (by rw [h1, e]), h2], Bk.at_cons_pos e, h3⟩
    · have e2 : ¬ p.1 = (Sum.inl k : Key) := by rw [h1]; intro z; exact e (Sum.inl.inj z)
      rcases BkRel.val (kvs := kvs) (B := B) t k with ⟨g1, g2⟩ | ⟨a', e', g1, g2, g3⟩
      · exact .inl ⟨(valV_neg e2).trans g1, (Bk.at_cons_neg e).trans g2⟩
      · exact .inr ⟨a', e', (valV_neg e2).trans g1, (Bk.at_cons_neg e).trans g2, g3⟩
theorem Bk.at_mem {B : Bk} {k : Int} {e : Ent} (h : Bk.at B k = some e) : (k, e) ∈ B := by
  unfold Bk.at at h
  cases e1 : B.find? fun p => decide (p.1 = k) with
  | none => rw [e1] at h; cases h
  | some p =>
    rw [e1] at h
    have h2 := List.find?_some e1
    have h3 := List.mem_of_find?_eq_some e1
    have h4 : p.1 = k := by simpa using h2
    have h5 : p.2 = e := Option.some.inj h
    rw [← h4, ← h5]
    exact h3
theorem Bk.at_isSome {B : Bk} {k : Int} (h : k ∈ B.map (·.1)) : ∃ e, Bk.at B k = some e := by
  induction B with
  | nil => cases h
  | cons p B ih =>
    by_cases e : p.1 = k
    · exact ⟨p.2, Bk.at_cons_pos e⟩
    · rw [List.map_cons, List.mem_cons] at h
      obtain ⟨x, hx⟩ := ih (h.resolve_left fun z => e z.symm)
      exact ⟨x, by rw [Bk.at_cons_neg e]; exact hx⟩
/-- the entry of a number, where it stands -/
theorem BookAt.get {H : Hp} {b : Addr} {B : Bk} (h : BookAt H b B) {k : Int} {e : Ent} (he : Bk.at B k = some e) : ∃ kvs t, Rd H b (.dK kvs) ∧ valV kvs (Sum.inl k : Key) = some (.ref t) ∧ EntAt H t e := by
  obtain ⟨kvs, h1, h2⟩ := h.ex
  rcases h2.val k with ⟨_, g⟩ | ⟨t, e', g1, g2, g3⟩
  · rw [he] at g; cases g
  · rw [he] at g2
    cases g2
    exact ⟨kvs, t, h1, g1, g3⟩
section
variable {K : PySem.W.Frag} {σ : L2.St} {H : Hp} {ta tb : TE} {b : Addr} {B : Bk} {k : Int} {e : Ent}
/-- book[number], an address where the entry stands -/
theorem ev_book {t : Addr} {kvs : List (Key × V)} (ha : Ev ta σ H (.ref b)) (hb : Ev tb σ H (.int k)) (h1 : Rd H b (.dK kvs)) (h2 : valV kvs (Sum.inl k : Key) = some (.ref t)) : Ev (tOp (ixA K) ta tb) σ H (.ref t) := ev_ixD (k := (Sum.inl k : Key)) ha hb h1 h2
theorem ev_part {t : Addr} {v : V} (j : Nat) (ha : Ev ta σ H (.ref t)) (h : EntAt H t e) (hv : e.vs[j]? = some v) : Ev (tOp (ixA K) ta (tC (.int (j : Int)))) σ H v := ev_ixT ha ev_c (st_of h) (atI_nat hv)
end
end S
section
open PySem L2 Evl S
local macro_rules | `(tactic| array_get_dec) => `(tactic| first
  | exact ev_c
  | exact ev_var rfl
  | exact S.eo_no
  | exact ea_nil
  | (apply S.eo_some <;> array_get_dec)
  | (apply ea_cons <;> array_get_dec)
  | (apply S.ev_add <;> array_get_dec)
  | (apply S.ev_sub <;> array_get_dec)
  | (apply S.ev_div <;> first | array_get_dec | exact ⟨by decide, by decide⟩ | exact ⟨by omega, by omega⟩)
  | (apply S.ev_mod <;> first | array_get_dec | decide | omega)
  | (apply S.ev_mulr <;> first | array_get_dec | exact ⟨by decide, by decide⟩ | exact ⟨by omega, by omega⟩)
  | (apply S.ev_mull <;> first | array_get_dec | exact ⟨by decide, by decide⟩ | exact ⟨by omega, by omega⟩)
  | (apply S.ev_neg <;> array_get_dec)
  | (apply S.ev_min <;> array_get_dec)
  | (apply S.ev_max <;> array_get_dec)
  | (apply S.ev_eqI <;> array_get_dec)
  | (apply S.ev_eqS <;> array_get_dec)
  | (apply S.ev_neI <;> array_get_dec)
  | (apply S.ev_neS <;> array_get_dec)
  | (apply S.ev_lt <;> array_get_dec)
  | (apply S.ev_le <;> array_get_dec)
  | (apply S.ev_gt <;> array_get_dec)
  | (apply S.ev_ge <;> array_get_dec)
  | (apply S.ev_intB <;> array_get_dec)
  | (apply et_test <;> array_get_dec)
  | (apply et_B <;> array_get_dec)
  | (apply et_not <;> array_get_dec)
  | (refine' et_and ?_ (fun _ => ?_) <;> array_get_dec)
  | (refine' et_or ?_ (fun _ => ?_) <;> array_get_dec))
namespace S
/-! ### _law_base -/
def sp_l_base (K : PySem.W.Frag) (C : CA) : Sp := fun vs H Q _ => ∃ (a : Addr) (ns : List Int), vs = [.ref a] ∧ SqL K H a (ns.map V.int) ∧ ns.length ≤ 100 ∧ ∀ H' b, Ex H H' → b = [(0 : Int), 7, 300, 999982].getD (ns.getD 0 0 % 4).toNat 0 → Q (.int b) H'
theorem len_l_base {K : PySem.W.Frag} {C : CA} {vs : List V} {H : Hp} {Q : VK} {E : XK} (h : sp_l_base K C vs H Q E) : vs.length = 1 := by
  obtain ⟨a, ns, rfl, _⟩ := h
  rfl
def t_l_base (K : PySem.W.Frag) (C : CA) : TS :=
 (tRet (tOp (ixA K) (tLst (tCons (tC (.int 0)) (tCons (tC (.int 7)) (tCons (tC (.int 300)) (tCons (tC (.int 999982)) tNil))))) (tOp (modI) (tCall (sp_l_of K C) [] E0 (tCons (tVar 0) (tCons (tC (.int 0)) tNil))) (tC (.int 4)))))
/-- _law_of as a value -/
theorem ev_of {K : PySem.W.Frag} {C : CA} {σ : L2.St} {H : Hp} {ta tb : TE} {a : Addr} {ns : List Int} {k : Nat} (ha : Ev ta σ H (.ref a)) (hb : Ev tb σ H (.int k)) (h : SqL K H a (ns.map V.int)) (hl : ns.length ≤ 100) :
    Ev (tCall (sp_l_of K C) [] E0 (tCons ta (tCons tb tNil))) σ H (.int (ns.getD k 0)) :=
  ev_call (ea_cons ha (ea_cons hb ea_nil)) fun H1 e1 Q q E => ⟨a, ns, k, rfl, ex_l e1 h, hl, q⟩
theorem map_getD (xs : List Int) {i : Int} (h0 : 0 ≤ i) (h : i < xs.length) : atI (xs.map V.int) i = some (V.int (xs.getD i.toNat 0)) := by
  have h2 : i.toNat < xs.length := by omega
  rw [atI_getD (V.int 0) h0 (by rw [List.length_map]; exact h), List.getD_eq_getElem?_getD, List.getElem?_map, List.getD_eq_getElem?_getD, List.getElem?_eq_getElem h2]
  rfl
theorem mod_lt (i : Int) {j : Int} (h : 0 < j) : 0 ≤ i % j ∧ i % j < j := ⟨Int.emod_nonneg i (Int.ne_of_gt h), Int.emod_lt_of_pos i h⟩
/-- [a, b, ..][i], whole numbers that are written there -/
theorem ev_pick {K : PySem.W.Frag} {σ : L2.St} {H : Hp} {ta : TA} {tb : TE} {i : Int} (xs : List Int) (ha : EvA ta σ H (xs.map V.int)) (hb : Ev tb σ H (.int i)) (h0 : 0 ≤ i) (h : i < xs.length) (hz : xs.length ≤ 1000) : Ev (tOp (ixA K) (tLst ta) tb) σ H (.int (xs.getD i.toNat 0)) :=
  ev_ixN (el_lst ha (by rw [List.length_map]; omega)) hb (map_getD xs h0 h)
theorem pure_l_base {K : PySem.W.Frag} {C : CA} {vs : List V} {H : Hp} {Q : VK} {E : XK} (h : sp_l_base K C vs H Q E) : t_l_base K C { nx := fun _ H' => Q .non H', rt := Q } (startN 1 vs) H := by
  obtain ⟨a, ns, rfl, hS, hl, kk⟩ := h
  have hm := mod_lt (ns.getD 0 0) (show (0 : Int) < 4 by decide)
  exact s_ret (ev_pick [0, 7, 300, 999982] (by array_get_dec) (ev_mod (ev_of (k := 0) (ev_var rfl) ev_c hS hl) ev_c (by decide)) hm.1 hm.2 (by decide)) fun H1 e1 => kk H1 _ e1 rfl
theorem base_ok (i : Int) : ∃ b, b = [(0 : Int), 7, 300, 999982].getD (i % 4).toNat 0 ∧ 0 ≤ b ∧ b ≤ 999982 := by
  have hm := mod_lt i (show (0 : Int) < 4 by decide)
  obtain ⟨n, hn⟩ : ∃ n : Nat, (i % 4).toNat = n := ⟨_, rfl⟩
  rw [hn]
  have : n < 4 := by omega
  match n, this with
  | 0, _ => exact ⟨_, rfl, by decide, by decide⟩
  | 1, _ => exact ⟨_, rfl, by decide, by decide⟩
  | 2, _ => exact ⟨_, rfl, by decide, by decide⟩
  | 3, _ => exact ⟨_, rfl, by decide, by decide⟩
/-! ### _law_entry -/
/-- names, a first day, any number, the entry's own number -/
def sp_l_entry (K : PySem.W.Frag) (C : CA) : Sp := fun vs H Q _ => ∃ (p : Addr) (xs : List Str) (b n k : Int), vs = [.ref p, .int b, .int n, .int k] ∧ SqL K H p (xs.map V.str) ∧ GoodNames xs ∧ 0 ≤ b ∧ b ≤ 1000000 ∧ 1 ≤ k ∧
  ∀ t e H', H t = none → Ex H H' → EntAt H' t e → e.ok k → (∀ m, e = .undo m → 1 < k) → (∀ m, e.nm = some m → m ∈ xs) → Q (.ref t) H'
theorem len_l_entry {K : PySem.W.Frag} {C : CA} {vs : List V} {H : Hp} {Q : VK} {E : XK} (h : sp_l_entry K C vs H Q E) : vs.length = 4 := by
  obtain ⟨p, xs, b, n, k, rfl, _⟩ := h
  rfl
/-- _law_names_here 0, _law_base_here 1, _law_n 2, _law_number 3, _law_low 4, _law_high 5, _law_name 6 -/
def t_l_entry (K : PySem.W.Frag) (C : CA) : TS :=
 (tSeq (tAsg (tOp (modI) (tOp (mulI) (tVar 2) (tC (.int 48271))) (tC (.int 2147483647))) (gName 2))
 (tSeq (tAsg (tCB rMin2 (tCons (tC (.int 1000000)) (tCons (tOp (addA K) (tVar 1) (tOp (modI) (tOp (divI) (tVar 2) (tC (.int 24))) (tOp (ixA K) (tLst (tCons (tC (.int 10)) (tCons (tC (.int 900000)) tNil))) (tCB (intC K) (tCons (tOp (eqA K) (tOp (modI) (tOp (divI) (tVar 2) (tC (.int 11520))) (tC (.int 5))) (tC (.int 1))) tNil))))) tNil))) (gName 4))
 (tSeq (tAsg (tCB rMin2 (tCons (tC (.int 1000000)) (tCons (tOp (addA K) (tVar 4) (tOp (ixA K) (tLst (tCons (tC (.int 0)) (tCons (tC (.int 1)) (tCons (tC (.int 3)) (tCons (tC (.int 9)) (tCons (tC (.int 35)) (tCons (tC (.int 700)) (tCons (tC (.int 1000000)) (tCons (tC (.int 9)) tNil))))))))) (tOp (modI) (tOp (divI) (tVar 2) (tC (.int 240))) (tC (.int 8))))) tNil))) (gName 5))
 (tSeq (tAsg (tOp (ixA K) (tVar 0) (tOp (modI) (tOp (divI) (tVar 2) (tC (.int 8))) (tC (.int 3)))) (gName 6))
 (tSeq (tIfS (tAnd (tTest (tOp (gtI) (tOp (modI) (tVar 2) (tC (.int 8))) (tC (.int 5)))) (tTest (tOp (gtI) (tVar 3) (tC (.int 1))))) (tRet (tTup (tCons (tC (.str "undo")) (tCons (tOp (addA K) (tC (.int 1)) (tOp (modI) (tOp (divI) (tVar 2) (tC (.int 8))) (tOp (subI) (tVar 3) (tC (.int 1))))) tNil)))) tNext)
 (tSeq (tIfS (tTest (tOp (eqA K) (tOp (modI) (tVar 2) (tC (.int 8))) (tC (.int 3)))) (tRet (tTup (tCons (tC (.str "clear")) (tCons (tVar 6) (tCons (tVar 4) (tCons (tVar 5) tNil)))))) tNext)
 (tSeq (tIfS (tTest (tOp (inA K) (tOp (modI) (tVar 2) (tC (.int 8))) (tTup (tCons (tC (.int 4)) (tCons (tC (.int 5)) tNil))))) (tRet (tTup (tCons (tC (.str "like")) (tCons (tVar 6) (tCons (tVar 4) (tCons (tVar 5) (tCons (tOp (ixA K) (tVar 0) (tOp (modI) (tOp (divI) (tVar 2) (tC (.int 1920))) (tC (.int 3)))) tNil))))))) tNext)
 (tRet (tTup (tCons (tC (.str "tell")) (tCons (tVar 6) (tCons (tVar 4) (tCons (tVar 5) (tCons (tOp (ixA K) (tLst (tCons (tC (.int 1)) (tCons (tC (.int 2)) (tCons (tC (.int 1)) (tCons (tC (.int 0)) (tCons (tUn (rU fun i => .int (-i)) (tC (.int 1))) (tCons (tOp (subI) (tOp (modI) (tVar 2) (tC (.int 2000000001))) (tC (.int 1000000000))) tNil))))))) (tOp (modI) (tOp (divI) (tVar 2) (tC (.int 1920))) (tC (.int 6)))) tNil))))))))))))))
theorem ev_name {K : PySem.W.Frag} {σ : L2.St} {H : Hp} {ta tb : TE} {p : Addr} {xs : List Str} {i : Int} (ha : Ev ta σ H (.ref p)) (hb : Ev tb σ H (.int i)) (h : SqL K H p (xs.map V.str)) (h0 : 0 ≤ i) (h3 : i < xs.length) : Ev (tOp (ixA K) ta tb) σ H (.str (xs.getD i.toNat Str.empty)) := by
  refine ev_ixL ha hb h ?_
  have h2 : i.toNat < xs.length := by omega
  rw [atI_getD (V.int 0) h0 (by rw [List.length_map]; exact h3), List.getD_eq_getElem?_getD, List.getElem?_map, List.getD_eq_getElem?_getD, List.getElem?_eq_getElem h2]
  rfl
theorem name_in {xs : List Str} (g : GoodNames xs) (i : Int) : xs.getD (i % 3).toNat Str.empty ∈ xs := by
  have hm := mod_lt i (show (0 : Int) < 3 by decide)
  have hl := g.1
  exact getD_mem _ (by omega)
theorem name_at {xs : List Str} (g : GoodNames xs) (i : Int) : NameS (xs.getD (i % 3).toNat Str.empty) ∧ 0 ≤ i % 3 ∧ i % 3 < xs.length := by
  have hm := mod_lt i (show (0 : Int) < 3 by decide)
  have hl := g.1
  exact ⟨g.2 _ (getD_mem _ (by omega)), hm.1, by omega⟩
theorem pure_l_entry {K : PySem.W.Frag} {C : CA} {vs : List V} {H : Hp} {Q : VK} {E : XK} (h : sp_l_entry K C vs H Q E) : t_l_entry K C { nx := fun _ H' => Q .non H', rt := Q } (startN 7 vs) H := by
  obtain ⟨p, xs, b, n0, k, rfl, hS, hg, hb0, hb1, hk, kk⟩ := h
  refine q_asg (by array_get_dec) fun H1 e1 => ?_
  generalize n0 * 48271 % 2147483647 = n
  -- the first day
  have hi : ∀ c : Bool, 0 ≤ (if c then (1 : Int) else 0) ∧ (if c then (1 : Int) else 0) < 2 := fun c => by cases c <;> exact ⟨by decide, by decide⟩
  have hp : 0 < [(10 : Int), 900000].getD (if decide (n / 11520 % 5 = 1) then (1 : Int) else 0).toNat 0 := by
    cases decide (n / 11520 % 5 = 1) <;> decide
  refine q_asg (ev_min ev_c (ev_add (ev_var rfl) (ev_mod (by array_get_dec) (ev_pick [10, 900000] (by array_get_dec) (ev_intB (by array_get_dec)) (hi _).1 (hi _).2 (by decide)) hp))) fun H2 e2 => ?_
  have hm1 := mod_lt (n / 24) hp
  generalize n / 24 % [(10 : Int), 900000].getD (if decide (n / 11520 % 5 = 1) then (1 : Int) else 0).toNat 0 = m at hm1 ⊢
  obtain ⟨lo, elo, hlo0, hlo1⟩ : ∃ lo, lo = (if b + m < 1000000 then b + m else 1000000) ∧ 0 ≤ lo ∧ lo ≤ 1000000 := ⟨_, rfl, by split <;> omega, by split <;> omega⟩
  rw [← elo]
  -- the last day
  have hm8 := mod_lt (n / 240) (show (0 : Int) < 8 by decide)
  refine q_asg (ev_min ev_c (ev_add (ev_var rfl) (ev_pick [0, 1, 3, 9, 35, 700, 1000000, 9] (by array_get_dec) (by array_get_dec) hm8.1 hm8.2 (by decide)))) fun H3 e3 => ?_
  have hj : 0 ≤ [(0 : Int), 1, 3, 9, 35, 700, 1000000, 9].getD (n / 240 % 8).toNat 0 := by
    have : [(0 : Int), 1, 3, 9, 35, 700, 1000000, 9].getD (n / 240 % 8).toNat 0 ∈ [(0 : Int), 1, 3, 9, 35, 700, 1000000, 9] := getD_mem _ (by show _ < 8; omega)
    simp only [List.mem_cons, List.not_mem_nil, or_false] at this
    omega
  generalize [(0 : Int), 1, 3, 9, 35, 700, 1000000, 9].getD (n / 240 % 8).toNat 0 = j at hj ⊢
  obtain ⟨hi', ehi, hhi0, hhi1⟩ : ∃ hi', hi' = (if lo + j < 1000000 then lo + j else 1000000) ∧ lo ≤ hi' ∧ hi' ≤ 1000000 := ⟨_, rfl, by split <;> omega, by split <;> omega⟩
  rw [← ehi]
  -- the name
  obtain ⟨hn, hn0, hn3⟩ := name_at hg (n / 8)
  have E3 : Ex H H3 := (e1.trans e2).trans e3
  refine q_asg (ev_name (ev_var rfl) (by array_get_dec) (ex_l E3 hS) hn0 hn3) fun H4 e4 => ?_
  have hnin := name_in hg (n / 8)
  generalize xs.getD (n / 8 % 3).toNat Str.empty = name at hn hnin ⊢
  have E4 : Ex H H4 := E3.trans e4
  refine q_when (et_and (et_test (by array_get_dec)) fun _ => et_test (by array_get_dec)) (fun c H5 e5 => ?_) (fun c H5 e5 => ?_)
  · -- an undo
    rw [Bool.and_eq_true, decide_eq_true_eq, decide_eq_true_eq] at c
    have hpos : 0 < k - 1 := by omega
    have hmk := mod_lt (n / 8) hpos
    refine s_retU (D := { nx := _, rt := Q }) (eu_tup (ea_cons ev_c (ea_cons (ev_add ev_c (ev_mod (by array_get_dec) (by array_get_dec) hpos)) ea_nil)) (by simp)) fun t H6 ht e6 h6 => ?_
    exact kk t (.undo (1 + n / 8 % (k - 1))) H6 (fresh_back (E4.trans e5) ht) ((E4.trans e5).trans e6) h6 ⟨by omega, by omega⟩ (fun _ _ => c.2) fun _ z => by cases z
  have E5 : Ex H H5 := E4.trans e5
  refine q_when (et_test (by array_get_dec)) (fun _ H6 e6 => ?_) (fun _ H6 e6 => ?_)
  · refine s_retU (D := { nx := _, rt := Q }) (eu_tup (by array_get_dec) (by simp)) fun t H7 ht e7 h7 => ?_
    exact kk t (.clear name lo hi') H7 (fresh_back (E5.trans e6) ht) ((E5.trans e6).trans e7) h7 ⟨hn, hlo0, hhi0, hhi1⟩ (fun _ z => by cases z) fun _ z => by cases z; exact hnin
  have E6 : Ex H H6 := E5.trans e6
  refine q_when (et_test (ev_inTw (xs := [.int 4, .int 5]) (x := .int (n % 8)) (by array_get_dec) (eu_tup (by array_get_dec) (by decide)) rfl rfl)) (fun _ H7 e7 => ?_) (fun _ H7 e7 => ?_)
  · obtain ⟨ho, ho0, ho3⟩ := name_at hg (n / 1920)
    refine s_retU (D := { nx := _, rt := Q }) (eu_tup (ea_cons ev_c (ea_cons (ev_var rfl) (ea_cons (ev_var rfl) (ea_cons (ev_var rfl) (ea_cons (ev_name (ev_var rfl) (by array_get_dec) (ex_l (E6.trans e7) hS) ho0 ho3) ea_nil))))) (by simp)) fun t H8 ht e8 h8 => ?_
    exact kk t (.like name lo hi' _) H8 (fresh_back (E6.trans e7) ht) ((E6.trans e7).trans e8) h8 ⟨hn, hlo0, hhi0, hhi1, ho⟩ (fun _ z => by cases z) fun _ z => by cases z; exact hnin
  · have hm6 := mod_lt (n / 1920) (show (0 : Int) < 6 by decide)
    have hw := mod_lt n (show (0 : Int) < 2000000001 by decide)
    refine s_retU (eu_tup (ea_cons ev_c (ea_cons (ev_var rfl) (ea_cons (ev_var rfl) (ea_cons (ev_var rfl) (ea_cons (ev_pick [1, 2, 1, 0, -1, n % 2000000001 - 1000000000] (by array_get_dec) (by array_get_dec) hm6.1 hm6.2 (by simp)) ea_nil))))) (by simp)) fun t H8 ht e8 h8 => ?_
    have hmem : [(1 : Int), 2, 1, 0, -1, n % 2000000001 - 1000000000].getD (n / 1920 % 6).toNat 0 ∈ [(1 : Int), 2, 1, 0, -1, n % 2000000001 - 1000000000] := getD_mem _ (by show _ < 6; omega)
    simp only [List.mem_cons, List.not_mem_nil, or_false] at hmem
    refine kk t (.tell name lo hi' _) H8 (fresh_back (E6.trans e7) ht) ((E6.trans e7).trans e8) h8 ⟨hn, hlo0, hhi0, hhi1, ?_, ?_⟩ (fun _ z => by cases z) fun _ z => by cases z; exact hnin
    · omega
    · omega
end S
end
set_option Elab.async false
set_option linter.all false
set_option maxRecDepth 100000
set_option maxHeartbeats 4000000
namespace S
open PySem L2 Evl
theorem mergeK_new : ∀ (more acc : List (Key × V)), ((acc ++ more).map (·.1)).Nodup → mergeK acc more = acc ++ more
  | [], acc, _ => by simp [mergeK]
  | p :: r, acc, h => by
    have hp : valV acc p.1 = none := by
      unfold valV
      have : acc.find? (fun kv => decide (kv.1 = p.1)) = none := by
        rw [List.find?_eq_none]
        intro x hx e
        have e' : x.1 = p.1 := by simpa using e
        rw [List.map_append, List.nodup_append] at h
        exact h.2.2 x.1 (List.mem_map_of_mem hx) p.1 (by simp) e'
      rw [this]; rfl
    show mergeK (putK acc p.1 p.2) r = acc ++ p :: r
    rw [putK_new _ hp]
    have h' : ((acc ++ [p] ++ r).map (·.1)).Nodup := by simpa using h
    rw [show (acc ++ [(p.1, p.2)]) = acc ++ [p] from rfl, mergeK_new r (acc ++ [p]) h']
    simp
section
variable {K : PySem.W.Frag} {σ : L2.St} {H : Hp} {ta tb : TE} {D : Ends} {tu tz : TS}
/-- dict(pairs) -/
theorem ed_pairs {ps : List Addr} {kvs : List (Key × V)} (ha : EvL ta σ H (ps.map V.ref)) (hp : ∀ H1, Ex H H1 → Paired (fun p kv => SqT K H1 p [kV kv.1, kv.2]) ps kvs) (hn : (kvs.map (·.1)).Nodup) : EvD (tCB (dictC K) (tCons ta tNil)) σ H kvs := fun H1 e Q q =>
  ha H1 e _ fun a H2 ha2 e2 h2 => .inl ⟨a, ps, kvs, rfl, sq_of h2, hp H2 (e.trans e2), fun p hp => by
    rw [mergeK_new kvs [] (by simpa using hn), List.nil_append]
    exact q p _ (fresh_back e2 hp) (e2.trans (Ex.new hp)) upd_same⟩
/-- from here, by a value -/
theorem at_ev {te : TE} {v : V} {Q : VK} (h : Ev te σ H v) (k : ∀ H1, Ex H H1 → Q v H1) : te σ H Q := h H (Ex.refl H) Q k
/-- for k in range(n), n of any sign -/
theorem s_forZ {ta : TA} {j : Nat} {n : Int} (h : EvA ta σ H [.int n]) (hn : -100000 ≤ n ∧ n ≤ 100000) (Pv : Nat → L2.St → Hp → Prop) (h0 : ∀ H1, Ex H H1 → Pv 0 σ H1)
    (hs : ∀ (i : Nat) σ' H', (i : Int) < n → Pv i σ' H' → tu { D with nx := Pv (i + 1), ct := Pv (i + 1), bk := D.nx } (σ'.set j (some (.int (i : Int)))) H') (hd : ∀ σ' H', Pv n.toNat σ' H' → D.nx σ' H') : tFor (iRng1 ta) (gName j) tu D σ H :=
  h H (Ex.refl H) _ fun H1 e => ⟨n, rfl, by omega, by omega, for_range (lo := 0) (n := n.toNat) Pv (h0 H1 e) (fun i σ' H' hi p => by
    have e0 : (0 : Int) + (i : Int) = (i : Int) := Int.zero_add _
    show tu { D with nx := Pv (i + 1), ct := Pv (i + 1), bk := D.nx } (σ'.set j (some (.int ((0 : Int) + (i : Int))))) H'
    rw [e0]
    exact hs i σ' H' (by omega) p) hd⟩
theorem q_forZ {ta : TA} {j : Nat} {n : Int} (h : EvA ta σ H [.int n]) (hn : -100000 ≤ n ∧ n ≤ 100000) (Pv : Nat → L2.St → Hp → Prop) (h0 : ∀ H1, Ex H H1 → Pv 0 σ H1)
    (hs : ∀ (i : Nat) σ' H', (i : Int) < n → Pv i σ' H' → tu { D with nx := Pv (i + 1), ct := Pv (i + 1), bk := tz D } (σ'.set j (some (.int (i : Int)))) H') (hd : ∀ σ' H', Pv n.toNat σ' H' → tz D σ' H') : tSeq (tFor (iRng1 ta) (gName j) tu) tz D σ H :=
  s_forZ (D := { D with nx := tz D }) h hn Pv h0 hs hd
end
theorem cutV_map {α : Type} (f : α → V) (xs : List α) (lo hi : Option Int) : cutV (xs.map f) lo hi = ((xs.drop (HT.sIx xs.length 0 lo)).take (HT.sIx xs.length xs.length hi - HT.sIx xs.length 0 lo)).map f := by
  unfold cutV
  rw [List.length_map, List.map_take, List.map_drop]
theorem cutV_tail {α : Type} (f : α → V) (xs : List α) {k : Nat} (hk : k ≤ xs.length) : cutV (xs.map f) (some (k : Int)) none = (xs.drop k).map f := by
  rw [cutV_map, HT.sIx_nat, HT.sIx_none, Nat.min_eq_left hk, List.take_of_length_le (by rw [List.length_drop]; omega)]
theorem cutV_head {α : Type} (f : α → V) (xs : List α) {k : Nat} (hk : k ≤ xs.length) : cutV (xs.map f) none (some (k : Int)) = (xs.take k).map f := by
  rw [cutV_map, HT.sIx_nat, HT.sIx_none, Nat.min_eq_left hk, List.drop_zero, Nat.sub_zero]
theorem Paired.app {α β : Type} {F : α → β → Prop} : ∀ {a1 a2 : List α} {b1 b2 : List β}, Paired F a1 b1 → Paired F a2 b2 → Paired F (a1 ++ a2) (b1 ++ b2)
  | _, _, _, _, .nil, h => h
  | _, _, _, _, .cons r t, h => .cons r (Paired.app t h)
theorem Paired.dropN {α β : Type} {F : α → β → Prop} : ∀ (n : Nat) {a : List α} {b : List β}, Paired F a b → Paired F (a.drop n) (b.drop n)
  | 0, _, _, h => h
  | _ + 1, _, _, .nil => .nil
  | n + 1, _, _, .cons _ t => Paired.dropN n t
theorem Paired.takeN {α β : Type} {F : α → β → Prop} : ∀ (n : Nat) {a : List α} {b : List β}, Paired F a b → Paired F (a.take n) (b.take n)
  | 0, _, _, _ => .nil
  | _ + 1, _, _, .nil => .nil
  | n + 1, _, _, .cons r t => .cons r (Paired.takeN n t)
theorem Paired.imp {α β : Type} {F G : α → β → Prop} (f : ∀ a b, F a b → G a b) : ∀ {a : List α} {b : List β}, Paired F a b → Paired G a b
  | _, _, .nil => .nil
  | _, _, .cons r t => .cons (f _ _ r) (Paired.imp f t)
/-- a dict that was made: a book -/
structure NewBk (H H' : Hp) (p : Addr) (B : Bk) : Prop where
  new : H p = none
  ex : Ex H H'
  dk : ∃ kvs, H' p = some (.dK kvs) ∧ BkRel H' kvs B
  nd : (B.map (·.1)).Nodup
  few : B.length ≤ 60
theorem NewBk.at {H H' : Hp} {p : Addr} {B : Bk} (h : NewBk H H' p B) : BookAt H' p B := ⟨let ⟨kvs, h1, h2⟩ := h.dk; ⟨kvs, .inl h1, h2⟩, h.nd, h.few⟩
/-- numbers from 1 on, good entries -/
def GoodBk (B : Bk) : Prop := ∀ q ∈ B, 1 ≤ q.1 ∧ q.2.ok q.1
/-- a row of _law_book: a pair of a number and an entry -/
def RowAt (H : Hp) (p : Addr) (q : Int × Ent) : Prop := ∃ t, H p = some (.tup [.int q.1, .ref t]) ∧ EntAt H t q.2
theorem RowAt.mono {H H' : Hp} {p : Addr} {q : Int × Ent} (x : Ex H H') (h : RowAt H p q) : RowAt H' p q := let ⟨t, h1, h2⟩ := h; ⟨t, x _ _ h1, x _ _ h2⟩
theorem rows_kvs {H : Hp} : ∀ {ps : List Addr} {B : Bk}, Paired (RowAt H) ps B → ∃ kvs : List (Key × V), BkRel H kvs B ∧ ∀ {K : PySem.W.Frag} {H1 : Hp}, Ex H H1 → Paired (fun p kv => SqT K H1 p [kV kv.1, kv.2]) ps kvs
  | _, _, .nil => ⟨[], .nil, fun _ => .nil⟩
  | _, _, .cons (a := p) (b := q) h t => by
    obtain ⟨t0, h1, h2⟩ := h
    obtain ⟨kvs, g1, g2⟩ := rows_kvs t
    exact ⟨((Sum.inl q.1 : Key), V.ref t0) :: kvs, .cons ⟨rfl, t0, rfl, h2⟩ g1, fun e => .cons (st_of (e _ _ h1)) (g2 e)⟩
end S
section
open PySem L2 Evl S
local macro_rules | `(tactic| array_get_dec) => `(tactic| first
  | exact ev_c
  | exact ev_var rfl
  | exact S.eo_no
  | exact ea_nil
  | (apply S.eo_some <;> array_get_dec)
  | (apply ea_cons <;> array_get_dec)
  | (apply S.ev_add <;> array_get_dec)
  | (apply S.ev_sub <;> array_get_dec)
  | (apply S.ev_div <;> first | array_get_dec | exact ⟨by decide, by decide⟩ | exact ⟨by omega, by omega⟩)
  | (apply S.ev_mod <;> first | array_get_dec | decide | omega)
  | (apply S.ev_mulr <;> first | array_get_dec | exact ⟨by decide, by decide⟩ | exact ⟨by omega, by omega⟩)
  | (apply S.ev_mull <;> first | array_get_dec | exact ⟨by decide, by decide⟩ | exact ⟨by omega, by omega⟩)
  | (apply S.ev_neg <;> array_get_dec)
  | (apply S.ev_min <;> array_get_dec)
  | (apply S.ev_max <;> array_get_dec)
  | (apply S.ev_eqI <;> array_get_dec)
  | (apply S.ev_eqS <;> array_get_dec)
  | (apply S.ev_neI <;> array_get_dec)
  | (apply S.ev_neS <;> array_get_dec)
  | (apply S.ev_lt <;> array_get_dec)
  | (apply S.ev_le <;> array_get_dec)
  | (apply S.ev_gt <;> array_get_dec)
  | (apply S.ev_ge <;> array_get_dec)
  | (apply S.ev_intB <;> array_get_dec)
  | (apply et_test <;> array_get_dec)
  | (apply et_B <;> array_get_dec)
  | (apply et_not <;> array_get_dec)
  | (refine' et_and ?_ (fun _ => ?_) <;> array_get_dec)
  | (refine' et_or ?_ (fun _ => ?_) <;> array_get_dec))
namespace S
/-! ### _law_book -/
def sp_l_book (K : PySem.W.Frag) (C : CA) : Sp := fun vs H Q _ => ∃ (a : Addr) (ns : List Int) (many : Nat), vs = [.ref a, .int many] ∧ SqL K H a (ns.map V.int) ∧ ns.length ≤ 100 ∧ many ≤ 14 ∧
  ∀ p B H', NewBk H H' p B → B.length ≤ many → GoodBk B → (∀ q ∈ B, q.1 ≤ 40) → (∀ q ∈ B, ∀ m, q.2.nm = some m → m ∈ namesF (ns.getD 1 0)) → Q (.ref p) H'
theorem len_l_book {K : PySem.W.Frag} {C : CA} {vs : List V} {H : Hp} {Q : VK} {E : XK} (h : sp_l_book K C vs H Q E) : vs.length = 2 := by
  obtain ⟨a, ns, many, rfl, _⟩ := h
  rfl
/-- _law_script 0, _law_many 1, _law_names_here 2, _law_gap 3, _law_rows 4, _law_k 5, _law_number 6, _law_cut 7 -/
def t_l_book (K : PySem.W.Frag) (C : CA) : TS :=
 (tSeq (tAsg (tCall (sp_l_names K C) [] E0 (tCons (tCall (sp_l_of K C) [] E0 (tCons (tVar 0) (tCons (tC (.int 1)) tNil))) (tCons (tC (.int 3)) tNil))) (gName 2))
 (tSeq (tAsg (tOp (addA K) (tC (.int 1)) (tOp (modI) (tOp (divI) (tCall (sp_l_of K C) [] E0 (tCons (tVar 0) (tCons (tC (.int 0)) tNil))) (tC (.int 4))) (tC (.int 3)))) (gName 3))
 (tSeq (tAsg (tLst tNil) (gName 4))
 (tSeq (tFor (iRng1 (tCons (tCB rMin2 (tCons (tVar 1) (tCons (tOp (subI) (tCB (lenA K) (tCons (tVar 0) tNil)) (tC (.int 4))) tNil))) tNil)) (gName 5)
  (tSeq (tAsg (tOp (addA K) (tC (.int 1)) (tOp (mulI) (tVar 5) (tVar 3))) (gName 6))
 (tDrop (tBM K "list" rAppend (tVar 4) (tCons (tTup (tCons (tVar 6) (tCons (tCall (sp_l_entry K C) [] E0 (tCons (tVar 2) (tCons (tCall (sp_l_base K C) [] E0 (tCons (tVar 0) tNil)) (tCons (tOp (addA K) (tOp (ixA K) (tVar 0) (tOp (addA K) (tC (.int 4)) (tVar 5))) (tOp (mulI) (tC (.int 7)) (tVar 5))) (tCons (tVar 6) tNil))))) tNil))) tNil)))))
 (tSeq (tAsg (tOp (modI) (tOp (divI) (tCall (sp_l_of K C) [] E0 (tCons (tVar 0) (tCons (tC (.int 0)) tNil))) (tC (.int 12))) (tOp (addA K) (tCB (lenA K) (tCons (tVar 4) tNil)) (tC (.int 1)))) (gName 7))
 (tRet (tCB (dictC K) (tCons (tOp (addA K) (tSl (slA K) (tVar 4) (tPart (tVar 7)) tNoPart) (tSl (slA K) (tVar 4) tNoPart (tPart (tVar 7)))) tNil))))))))
theorem pure_l_book {K : PySem.W.Frag} {C : CA} {vs : List V} {H : Hp} {Q : VK} {E : XK} (h : sp_l_book K C vs H Q E) : t_l_book K C { nx := fun _ H' => Q .non H', rt := Q } (startN 8 vs) H := by
  obtain ⟨a, ns, many, rfl, hS, hl, hmany, kk⟩ := h
  -- the names
  refine ev_of (k := 1) (ev_var rfl) ev_c hS hl H (Ex.refl H) _ fun H1 e1 => ⟨_, rfl, fun pn xs H2 hpn e2 hxs hg hxe => ?_⟩
  have E2 : Ex H H2 := e1.trans e2
  show tSeq _ _ _ _ H2
  -- the gap
  refine q_asg (ev_add ev_c (ev_mod (ev_div (ev_of (k := 0) (ev_var rfl) ev_c (ex_l E2 hS) hl) ev_c ⟨by decide, by decide⟩) ev_c (by decide))) fun H3 e3 => ?_
  have hgap := mod_lt (ns.getD 0 0 / 4) (show (0 : Int) < 3 by decide)
  generalize ns.getD 0 0 / 4 % 3 = g at hgap ⊢
  have E3 : Ex H H3 := E2.trans e3
  refine q_asgL (el_lst ea_nil (by decide)) fun r H4 hr e4 h4 => ?_
  have E4 : Ex H H4 := E3.trans e4
  have nr : H3 r = none := hr
  have hxs3 : H3 pn = some (.lst (xs.map V.str)) := e3 pn _ hxs
  -- the rows
  refine q_forZ (n := if (ns.length : Int) - 4 < (many : Int) then (ns.length : Int) - 4 else (many : Int)) (ea_cons (ev_min (ev_var rfl) (ev_sub (by
      have := ev_lenL (K := K) (ta := tVar 0) (σ := [some (V.ref a), some (V.int (many : Int)), some (V.ref pn), some (V.int (1 + g)), some (V.ref r), none, none, none]) (ev_var rfl) (ex_l E4 hS)
      rw [List.length_map] at this
      exact this) ev_c)) ea_nil) ⟨by split <;> omega, by split <;> omega⟩
    (fun i σ' H' => ∃ o5 o6 ps B, σ' = [some (.ref a), some (.int many), some (.ref pn), some (.int (1 + g)), some (.ref r), o5, o6, none] ∧ Ex H3 H' ∧ H' r = some (.lst (ps.map V.ref)) ∧ Paired (RowAt H') ps B ∧ B.map (·.1) = (List.range i).map (fun (j : Nat) => 1 + (j : Int) * (1 + g)) ∧ GoodBk B ∧ ∀ q ∈ B, ∀ m, q.2.nm = some m → m ∈ xs)
    (fun H5 e5 => ⟨none, none, [], [], rfl, e4.trans e5, e5 r _ h4, .nil, rfl, (fun _ h => by cases h), fun _ h => by cases h⟩) ?_ ?_
  · rintro i σ' H' hi ⟨o5, o6, ps, B, rfl, E5, h5, hps, hB, hgood, hnms⟩
    have hi2 : (i : Int) < ns.length - 4 ∧ i < many := by
      split at hi <;> omega
    have hpl := Paired.length hps
    have hBl : B.length = i := by
      have := congrArg List.length hB
      rw [List.length_map, List.length_map, List.length_range] at this
      exact this
    refine q_asg (ev_add ev_c (ev_mull (ev_var rfl) (ev_var rfl) ⟨by omega, by omega⟩)) fun H6 e6 => ?_
    have E6 : Ex H H6 := (E3.trans E5).trans e6
    have hik : (0 : Int) ≤ (i : Int) * (1 + g) := Int.mul_nonneg (by omega) (by omega)
    have hik2 : (i : Int) * (1 + g) ≤ (i : Int) * 3 := Int.mul_le_mul_of_nonneg_left (by omega) (by omega)
    -- rows.append((number, _law_entry(..)))
    unfold tDrop tBM tTup tCall tCons tNil
    refine at_ev (te := tVar 4) (ev_var rfl) fun H7 e7 => ⟨.inl ⟨rfl, ps.map V.ref, sq_of (e7 r _ (e6 r _ h5))⟩, ?_⟩
    have E7 : Ex H H7 := E6.trans e7
    refine at_ev (te := tVar 6) (ev_var rfl) fun H8 e8 => ?_
    have E8 : Ex H H8 := E7.trans e8
    have hix : atI (ns.map V.int) (4 + (i : Int)) = some (V.int (ns.getD (4 + (i : Int)).toNat 0)) := map_getD ns (by omega) (by omega)
    refine at_ev (te := tVar 2) (ev_var rfl) fun H9 e9 => ?_
    have E9 : Ex H H9 := E8.trans e9
    refine at_ev (te := tVar 0) (ev_var rfl) fun H10 e10 => ⟨a, ns, rfl, ex_l (E9.trans e10) hS, hl, fun H11 b e11 eb => ?_⟩
    obtain ⟨b', eb', hb0, hb1⟩ := base_ok (ns.getD 0 0)
    rw [← eb'] at eb
    subst eb
    have E11 : Ex H H11 := (E9.trans e10).trans e11
    refine at_ev (ev_add (ev_ixL (ev_var rfl) (ev_add ev_c (ev_var rfl)) (ex_l E11 hS) hix) (ev_mulr ev_c (ev_var rfl) ⟨by omega, by omega⟩)) fun H12 e12 => ?_
    refine at_ev (te := tVar 6) (ev_var rfl) fun H13 e13 => ?_
    have e613 : Ex H6 H13 := ((((((e7.trans e8).trans e9).trans e10).trans e11).trans e12).trans e13)
    have E513 : Ex H3 H13 := (E5.trans e6).trans e613
    refine ⟨pn, xs, b, _, _, rfl, sq_of (E513 pn _ hxs3), hg, hb0, by omega, by omega, fun t e H14 ht e14 het hok _ hnm => ?_⟩
    refine ⟨(by show 2 ≤ sizeLine; decide), fun q hq => ?_⟩
    have e614 : Ex H6 H14 := e613.trans e14
    have E514 : Ex H3 H14 := E513.trans e14
    have e615 : Ex H6 (upd H14 q (.tup [.int (1 + (i : Int) * (1 + g)), .ref t])) := e614.trans (Ex.new hq)
    have hr15 : (upd H14 q (.tup [.int (1 + (i : Int) * (1 + g)), .ref t])) r = some (.lst (ps.map V.ref)) := e615 r _ (e6 r _ h5)
    refine ⟨r, ps.map V.ref, .ref q, rfl, rfl, hr15, sz_lt (by rw [List.length_map]; omega), ?_⟩
    have nrq : q ≠ r := fun z => by rw [z] at hq; rw [e614 r _ (e6 r _ h5)] at hq; cases hq
    have stay : ∀ c ys, (upd H14 q (.tup [.int (1 + (i : Int) * (1 + g)), .ref t])) c = some (.tup ys) → (upd (upd H14 q (.tup [.int (1 + (i : Int) * (1 + g)), .ref t])) r (.lst (ps.map V.ref ++ [.ref q]))) c = some (.tup ys) := fun c ys hc => by
      rw [upd_ne (ne_of hc hr15 (by intro z; cases z))]
      exact hc
    have keepRow : ∀ p x, RowAt H' p x → RowAt (upd (upd H14 q (.tup [.int (1 + (i : Int) * (1 + g)), .ref t])) r (.lst (ps.map V.ref ++ [.ref q]))) p x := fun p x ⟨t0, g1, g2⟩ => ⟨t0, stay _ _ (e615 _ _ (e6 _ _ g1)), stay _ _ (e615 _ _ (e6 _ _ g2))⟩
    refine ⟨_, _, ps ++ [q], B ++ [(1 + (i : Int) * (1 + g), e)], rfl, Ex.mut (E514.trans (Ex.new hq)) nr, by rw [upd_same, List.map_append]; rfl, ?_, ?_, ?_, fun x hx => ?_⟩
    · exact Paired.app (Paired.imp keepRow hps) (.cons ⟨t, stay _ _ upd_same, stay _ _ (Ex.new hq _ _ het)⟩ .nil)
    · rw [List.map_append, hB, List.range_succ, List.map_append]
      rfl
    · intro x hx
      rcases List.mem_append.mp hx with h | h
      · exact hgood x h
      · rw [List.mem_singleton.mp h]
        exact ⟨by show 1 ≤ 1 + (i : Int) * (1 + g); omega, hok⟩
    · rcases List.mem_append.mp hx with h | h
      · exact hnms x h
      · rw [List.mem_singleton.mp h]
        exact hnm
  · rintro σ' H' ⟨o5, o6, ps, B, rfl, E5, h5, hps, hB, hgood, hnms⟩
    have hpl := Paired.length hps
    have hBl : B.length ≤ many := by
      have := congrArg List.length hB
      rw [List.length_map, List.length_map, List.length_range] at this
      rw [this]
      split <;> omega
    have E6 : Ex H H' := E3.trans E5
    have hlen : ((ps.map V.ref).length : Int) = ps.length := by rw [List.length_map]
    refine q_asg (i := 7) (ev_mod (j := (ps.length : Int) + 1) (ev_div (ev_of (k := 0) (ev_var rfl) ev_c (ex_l E6 hS) hl) ev_c ⟨by decide, by decide⟩) (ev_add (by rw [← hlen]; exact ev_lenL (ev_var rfl) (sq_of h5)) ev_c) (by omega)) fun H7 e7 => ?_
    have hc := mod_lt (ns.getD 0 0 / 12) (show (0 : Int) < (ps.length : Int) + 1 by omega)
    obtain ⟨c, ec⟩ : ∃ c : Nat, (c : Int) = ns.getD 0 0 / 12 % ((ps.length : Int) + 1) := ⟨_, Int.toNat_of_nonneg hc.1⟩
    rw [← ec] at hc ⊢
    have hcl : c ≤ ps.length := by omega
    have h7 := e7 r _ h5
    have hps7 : Paired (RowAt H7) (ps.drop c ++ ps.take c) (B.drop c ++ B.take c) := Paired.app (Paired.dropN c (Paired.imp (fun _ _ z => z.mono e7) hps)) (Paired.takeN c (Paired.imp (fun _ _ z => z.mono e7) hps))
    obtain ⟨kvs, hk1, hk2⟩ := rows_kvs hps7
    have hperm : (B.drop c ++ B.take c).Perm B := by
      have := List.perm_append_comm (l₁ := B.drop c) (l₂ := B.take c)
      rwa [List.take_append_drop] at this
    have hndB : (B.map (·.1)).Nodup := by
      rw [hB]
      refine List.Pairwise.map _ (R := fun a b => a ≠ b) (fun x y hxy e => ?_) List.nodup_range
      have h1 : (x : Int) * (1 + g) = (y : Int) * (1 + g) := by omega
      have h2 : (x : Int) = (y : Int) := Int.eq_of_mul_eq_mul_right (by omega) h1
      exact hxy (by omega)
    have hnd : ((B.drop c ++ B.take c).map (·.1)).Nodup := (hperm.map _).nodup_iff.mpr hndB
    have hkn : (kvs.map (·.1)).Nodup := by
      rw [hk1.keys]
      exact List.Pairwise.map _ (fun x y hxy e => hxy (Sum.inl.inj e)) hnd
    have hcat : EvL (tOp (addA K) (tSl (slA K) (tVar 4) (tPart (tVar 7)) tNoPart) (tSl (slA K) (tVar 4) tNoPart (tPart (tVar 7)))) (([some (.ref a), some (.int many), some (.ref pn), some (.int (1 + g)), some (.ref r), o5, o6, none] : L2.St).set 7 (some (.int (c : Int)))) H7 ((ps.drop c ++ ps.take c).map V.ref) := by
      rw [List.map_append, ← cutV_tail V.ref ps hcl, ← cutV_head V.ref ps hcl]
      refine el_cat (el_sl (ev_var rfl) (S.eo_some (ev_var rfl)) S.eo_no (sq_of h7)) (el_sl (ev_var rfl) S.eo_no (S.eo_some (ev_var rfl)) (sq_of h7)) ?_
      have l1 := cutV_length (ps.map V.ref) (some (c : Int)) none
      have l2 := cutV_length (ps.map V.ref) none (some (c : Int))
      rw [List.length_map] at l1 l2
      omega
    refine s_retD (ed_pairs hcat (fun H1 e => hk2 e) hkn) fun p H8 hp e8 h8 => ?_
    have hBl2 : (B.drop c ++ B.take c).length = B.length := hperm.length_eq
    refine kk p (B.drop c ++ B.take c) H8 ⟨fresh_back (E6.trans e7) hp, (E6.trans e7).trans e8, ⟨kvs, h8, hk1.mono e8⟩, hnd, by omega⟩ (by omega) (fun q hq => hgood q (hperm.mem_iff.mp hq)) (fun q hq => ?_) fun q hq m hm => by rw [← hxe]; exact hnms q (hperm.mem_iff.mp hq) m hm
    have hq2 : q.1 ∈ B.map (·.1) := List.mem_map_of_mem (hperm.mem_iff.mp hq)
    rw [hB] at hq2
    obtain ⟨j, hj, ej⟩ := List.mem_map.mp hq2
    have hj2 := List.mem_range.mp hj
    have hj3 : j < 14 := by
      have : (if (ns.length : Int) - 4 < (many : Int) then (ns.length : Int) - 4 else (many : Int)) ≤ 14 := by split <;> omega
      omega
    have h1 : (j : Int) * (1 + g) ≤ (j : Int) * 3 := Int.mul_le_mul_of_nonneg_left (by omega) (by omega)
    omega
end S
end
set_option Elab.async false
set_option linter.all false
set_option maxRecDepth 100000
set_option maxHeartbeats 4000000
namespace S
open PySem L2 Evl
/-! ### numbers in order -/
def downs (ks : List Int) : List Int := ks.mergeSort fun a b => decide (b ≤ a)
def ups (ks : List Int) : List Int := ks.mergeSort fun a b => decide (a ≤ b)
theorem downs_perm (ks : List Int) : (downs ks).Perm ks := List.mergeSort_perm ks _
theorem ups_perm (ks : List Int) : (ups ks).Perm ks := List.mergeSort_perm ks _
theorem downs_sorted (ks : List Int) : (downs ks).Pairwise (· ≥ ·) := by
  have h := List.pairwise_mergeSort (le := fun (a b : Int) => decide (b ≤ a)) (fun a b c h1 h2 => by simp at h1 h2 ⊢; omega) (fun a b => by simp; omega) ks
  exact List.Pairwise.imp (fun {a b} h => by simpa using h) h
theorem ups_sorted (ks : List Int) : (ups ks).Pairwise (· ≤ ·) := by
  have h := List.pairwise_mergeSort (le := fun (a b : Int) => decide (a ≤ b)) (fun a b c h1 h2 => by simp at h1 h2 ⊢; omega) (fun a b => by simp; omega) ks
  exact List.Pairwise.imp (fun {a b} h => by simpa using h) h
theorem downs_of {ks ys : List Int} (h : ys.Perm ks) (hs : ys.Pairwise (· ≥ ·)) : ys = downs ks :=
  List.Perm.eq_of_pairwise (le := fun a b : Int => a ≥ b) (fun a b _ _ h1 h2 => by omega) hs (downs_sorted ks) (h.trans (downs_perm ks).symm)
theorem ups_of {ks ys : List Int} (h : ys.Perm ks) (hs : ys.Pairwise (· ≤ ·)) : ys = ups ks :=
  List.Perm.eq_of_pairwise (le := fun a b : Int => a ≤ b) (fun a b _ _ h1 h2 => by omega) hs (ups_sorted ks) (h.trans (ups_perm ks).symm)
/-! ### which entries count, what is said -/
def Ent.undoes : Ent → List Int
  | .undo j => [j]
  | _ => []
def countStep (B : Bk) (n : Int) (st : List Int × List Int) (k : Int) : List Int × List Int :=
  if k ≤ n ∧ k ∉ st.2 then (st.1 ++ [k], st.2 ++ ((Bk.at B k).map Ent.undoes).getD []) else st
def countAll (B : Bk) (n : Int) (ys : List Int) : List Int × List Int := ys.foldl (countStep B n) ([], [])
/-- the numbers that count behind n, rising -/
def countF (B : Bk) (n : Int) : List Int := (countAll B n (downs (B.map (·.1)))).1.reverse
/-- what a name has on a day, the numbers falling -/
def saidL (B : Bk) (day : Int) : List Int → Str → Option Int
  | [], _ => none
  | k :: r, name => match Bk.at B k with
    | some (.tell n lo hi w) => if n = name ∧ lo ≤ day ∧ day ≤ hi then some w else saidL B day r name
    | some (.clear n lo hi) => if n = name ∧ lo ≤ day ∧ day ≤ hi then none else saidL B day r name
    | some (.like n lo hi o) => if n = name ∧ lo ≤ day ∧ day ≤ hi then saidL B day r o else saidL B day r name
    | _ => saidL B day r name
def saidF (B : Bk) (ns : List Int) (name : Str) (day : Int) : Option Int := saidL B day ns.reverse name
/-- a worth or None -/
def optV : Option Int → V
  | none => .non
  | some i => .int i
theorem countAll_snoc (B : Bk) (n : Int) (ys : List Int) (k : Int) : countAll B n (ys ++ [k]) = countStep B n (countAll B n ys) k := by
  unfold countAll
  rw [List.foldl_append]
  rfl
theorem countStep_len (B : Bk) (n : Int) (st : List Int × List Int) (k : Int) : (countStep B n st k).1.length ≤ st.1.length + 1 ∧ (countStep B n st k).2.length ≤ st.2.length + 1 := by
  unfold countStep
  split
  · refine ⟨by simp, ?_⟩
    rw [List.length_append]
    cases e : Bk.at B k with
    | none => simp
    | some x => cases x <;> simp [Ent.undoes]
  · exact ⟨by omega, by omega⟩
theorem countAll_len (B : Bk) (n : Int) (ys : List Int) : (countAll B n ys).1.length ≤ ys.length ∧ (countAll B n ys).2.length ≤ ys.length := by
  have : ∀ (ys : List Int) (st : List Int × List Int), ((ys.foldl (countStep B n) st).1.length ≤ st.1.length + ys.length) ∧ ((ys.foldl (countStep B n) st).2.length ≤ st.2.length + ys.length) := by
    intro ys
    induction ys with
    | nil => intro st; exact ⟨Nat.le_refl _, Nat.le_refl _⟩
    | cons k r ih =>
      intro st
      have h1 := ih (countStep B n st k)
      have h2 := countStep_len B n st k
      rw [List.foldl_cons, List.length_cons]
      omega
  have h := this ys ([], [])
  simpa [countAll] using h
theorem countAll_mem (B : Bk) (n : Int) (ys : List Int) {k : Int} (h : k ∈ (countAll B n ys).1) : k ∈ ys ∧ k ≤ n := by
  have : ∀ (ys : List Int) (st : List Int × List Int), k ∈ (ys.foldl (countStep B n) st).1 → k ∈ st.1 ∨ (k ∈ ys ∧ k ≤ n) := by
    intro ys
    induction ys with
    | nil => intro st h; exact .inl h
    | cons j r ih =>
      intro st h
      rcases ih _ h with h1 | ⟨h1, h2⟩
      · unfold countStep at h1
        split at h1
        · rename_i hc
          rcases List.mem_append.mp h1 with h2 | h2
          · exact .inl h2
          · have e := List.mem_singleton.mp h2
            exact .inr ⟨by rw [e]; exact List.mem_cons_self, by rw [e]; exact hc.1⟩
        · exact .inl h1
      · exact .inr ⟨List.mem_cons_of_mem _ h1, h2⟩
  rcases this ys ([], []) h with h1 | h1
  · cases h1
  · exact h1
theorem countF_mem {B : Bk} {n k : Int} (h : k ∈ countF B n) : k ∈ B.map (·.1) ∧ k ≤ n := by
  unfold countF at h
  rw [List.mem_reverse] at h
  have := countAll_mem B n _ h
  exact ⟨(downs_perm _).mem_iff.mp this.1, this.2⟩
theorem countF_len (B : Bk) (n : Int) : (countF B n).length ≤ B.length := by
  unfold countF
  rw [List.length_reverse]
  have h := (countAll_len B n (downs (B.map (·.1)))).1
  rw [(downs_perm _).length_eq, List.length_map] at h
  exact h
theorem inV_ints (k : Int) (l : List Int) : inV (.int k) (l.map V.int) = decide (k ∈ l) := by
  unfold inV
  rw [List.any_map]
  induction l with
  | nil => rfl
  | cons x r ih =>
    rw [List.any_cons, ih]
    have e : ((fun y => eqV y (V.int k)) ∘ V.int) x = (x == k) := rfl
    rw [e]
    by_cases h : x = k
    · subst h; simp
    · have h2 : ¬ k = x := fun z => h z.symm
      simp [h, h2, List.mem_cons]
theorem flat_ints (l : List Int) : (l.map V.int).all flatV = true := by
  rw [List.all_eq_true]
  intro v hv
  obtain ⟨x, _, rfl⟩ := List.mem_map.mp hv
  rfl
/-! ### parts of an entry -/
def Ent.word : Ent → Str
  | .tell _ _ _ _ => "tell"
  | .clear _ _ _ => "clear"
  | .like _ _ _ _ => "like"
  | .undo _ => "undo"
theorem Ent.vs0 (e : Ent) : e.vs[0]? = some (.str e.word) := by cases e <;> rfl
theorem w_tu : ¬ (("tell" : Str) = "undo") := by decide +kernel
theorem w_cu : ¬ (("clear" : Str) = "undo") := by decide +kernel
theorem w_lu : ¬ (("like" : Str) = "undo") := by decide +kernel
theorem w_ct : ¬ (("clear" : Str) = "tell") := by decide +kernel
theorem w_lt : ¬ (("like" : Str) = "tell") := by decide +kernel
theorem w_lc : ¬ (("like" : Str) = "clear") := by decide +kernel
def Ent.isUndo : Ent → Bool
  | .undo _ => true
  | _ => false
theorem Ent.word_undo (e : Ent) : decide (e.word = "undo") = e.isUndo := by
  cases e with
  | tell => exact decide_eq_false w_tu
  | clear => exact decide_eq_false w_cu
  | like => exact decide_eq_false w_lu
  | undo => exact decide_eq_true rfl
section
variable {K : PySem.W.Frag} {σ : L2.St} {H : Hp} {ta tb : TE} {D : Ends} {tu tz : TS}
/-- sorted(book, reverse=True) -/
theorem el_downs {b : Addr} {B : Bk} (ha : Ev ta σ H (.ref b)) (h : BookAt H b B) : EvL (tCKw rSortRev (tCons ta tNil) (tCons (tC (.bl true)) tNil)) σ H ((downs (B.map (·.1))).map V.int) := fun H1 e Q q =>
  ha H1 e _ fun H2 e2 => by
    obtain ⟨kvs, h1, h2⟩ := (h.mono (e.trans e2)).ex
    have hk : IntKeys kvs (B.map (·.1)) := h2.keys
    refine ⟨b, kvs, _, rfl, rfl, h1, hk, by rw [List.length_map]; exact Nat.lt_of_le_of_lt h.few (by decide), fun ys p hp hs hn => ?_⟩
    rw [downs_of hp hs]
    exact q p _ (fresh_back e2 hn) (e2.trans (Ex.new hn)) upd_same
theorem el_ups {b : Addr} {B : Bk} (ha : Ev ta σ H (.ref b)) (h : BookAt H b B) : EvL (tCB (sortedA K) (tCons ta tNil)) σ H ((ups (B.map (·.1))).map V.int) := fun H1 e Q q =>
  ha H1 e _ fun H2 e2 => by
    obtain ⟨kvs, h1, h2⟩ := (h.mono (e.trans e2)).ex
    have hk : IntKeys kvs (B.map (·.1)) := h2.keys
    refine .inr (.inl ⟨b, kvs, _, rfl, h1, hk, by rw [List.length_map]; exact Nat.lt_of_le_of_lt h.few (by decide), fun ys p hp hs hn => ?_⟩)
    rw [ups_of hp hs]
    exact q p _ (fresh_back e2 hn) (e2.trans (Ex.new hn)) upd_same
/-- for x in reversed(xs) -/
theorem s_forRev {a : Addr} {xs : List V} {ta : TA} {j : Nat} (h : EvA ta σ H [.ref a]) (hx : SqL K H a xs) (Pv : Nat → L2.St → Hp → Prop) (h0 : ∀ H1, Ex H H1 → Pv 0 σ H1) (hl : ∀ i σ' H', Pv i σ' H' → SqL K H' a xs)
    (hs : ∀ i x σ' H', xs.reverse[i]? = some x → Pv i σ' H' → tu { D with nx := Pv (i + 1), ct := Pv (i + 1), bk := D.nx } (σ'.set j (some x)) H') (hd : ∀ σ' H', Pv xs.length σ' H' → D.nx σ' H') : tFor (iRev K ta) (gName j) tu D σ H :=
  h H (Ex.refl H) _ fun H1 e => ⟨a, xs, rfl, ex_l e hx, fun i m σ H => m = xs.length - i ∧ i ≤ xs.length ∧ Pv i σ H, ⟨xs.length, by simp, Nat.zero_le _, h0 H1 e⟩, by
    rintro i m σ' H' ⟨rfl, hi, p⟩
    have q := hl i σ' H' p
    by_cases hlt : i < xs.length
    · have hr : xs.reverse[i]? = xs[xs.length - 1 - i]? := List.getElem?_reverse hlt
      have hb : xs.length - 1 - i < xs.length := by omega
      refine .inr ⟨⟨hlt, xs, xs[xs.length - 1 - i], q, List.getElem?_eq_getElem hb⟩, Pv (i + 1), fun σ2 H2 p' => ⟨xs.length - (i + 1), by omega, rfl, hlt, p'⟩, fun x H2 y => ?_⟩
      obtain ⟨e', y⟩ := y
      subst e'
      exact hs i x σ' _ (by rw [hr]; exact y xs q) p
    · have e' : i = xs.length := by omega
      subst e'
      exact .inl ⟨Nat.le_refl _, hd σ' H' p⟩⟩
theorem q_forRev {a : Addr} {xs : List V} {ta : TA} {j : Nat} (h : EvA ta σ H [.ref a]) (hx : SqL K H a xs) (Pv : Nat → L2.St → Hp → Prop) (h0 : ∀ H1, Ex H H1 → Pv 0 σ H1) (hl : ∀ i σ' H', Pv i σ' H' → SqL K H' a xs)
    (hs : ∀ i x σ' H', xs.reverse[i]? = some x → Pv i σ' H' → tu { D with nx := Pv (i + 1), ct := Pv (i + 1), bk := tz D } (σ'.set j (some x)) H') (hd : ∀ σ' H', Pv xs.length σ' H' → tz D σ' H') : tSeq (tFor (iRev K ta) (gName j) tu) tz D σ H :=
  s_forRev (D := { D with nx := tz D }) h hx Pv h0 hl hs hd
end
theorem map_get {α : Type} {f : α → V} {xs : List α} {i : Nat} {v : V} (h : (xs.map f)[i]? = some v) : ∃ x, xs[i]? = some x ∧ v = f x := by
  rw [List.getElem?_map] at h
  cases e : xs[i]? with
  | none => rw [e] at h; cases h
  | some x => rw [e] at h; exact ⟨x, rfl, (Option.some.inj h).symm⟩
theorem take_snoc {α : Type} {xs : List α} {i : Nat} {x : α} (h : xs[i]? = some x) : xs.take (i + 1) = xs.take i ++ [x] := by
  rw [List.take_add_one, h]
  rfl
end S
section
open PySem L2 Evl S
local macro_rules | `(tactic| array_get_dec) => `(tactic| first
  | exact ev_c
  | exact ev_var rfl
  | exact S.eo_no
  | exact ea_nil
  | (apply S.eo_some <;> array_get_dec)
  | (apply ea_cons <;> array_get_dec)
  | (apply S.ev_add <;> array_get_dec)
  | (apply S.ev_sub <;> array_get_dec)
  | (apply S.ev_div <;> first | array_get_dec | exact ⟨by decide, by decide⟩ | exact ⟨by omega, by omega⟩)
  | (apply S.ev_mod <;> first | array_get_dec | decide | omega)
  | (apply S.ev_mulr <;> first | array_get_dec | exact ⟨by decide, by decide⟩ | exact ⟨by omega, by omega⟩)
  | (apply S.ev_mull <;> first | array_get_dec | exact ⟨by decide, by decide⟩ | exact ⟨by omega, by omega⟩)
  | (apply S.ev_neg <;> array_get_dec)
  | (apply S.ev_min <;> array_get_dec)
  | (apply S.ev_max <;> array_get_dec)
  | (apply S.ev_eqI <;> array_get_dec)
  | (apply S.ev_eqS <;> array_get_dec)
  | (apply S.ev_neI <;> array_get_dec)
  | (apply S.ev_neS <;> array_get_dec)
  | (apply S.ev_lt <;> array_get_dec)
  | (apply S.ev_le <;> array_get_dec)
  | (apply S.ev_gt <;> array_get_dec)
  | (apply S.ev_ge <;> array_get_dec)
  | (apply S.ev_intB <;> array_get_dec)
  | (apply et_test <;> array_get_dec)
  | (apply et_B <;> array_get_dec)
  | (apply et_not <;> array_get_dec)
  | (refine' et_and ?_ (fun _ => ?_) <;> array_get_dec)
  | (refine' et_or ?_ (fun _ => ?_) <;> array_get_dec))
namespace S
/-! ### counting -/
def sp_counting (K : PySem.W.Frag) (C : CA) : Sp := fun vs H Q _ => ∃ (b : Addr) (B : Bk) (n : Int), vs = [.ref b, .int n] ∧ BookAt H b B ∧
  ∀ p H', H p = none → Ex H H' → H' p = some (.lst ((countF B n).map V.int)) → Q (.ref p) H'
theorem len_counting {K : PySem.W.Frag} {C : CA} {vs : List V} {H : Hp} {Q : VK} {E : XK} (h : sp_counting K C vs H Q E) : vs.length = 2 := by
  obtain ⟨b, B, n, rfl, _⟩ := h
  rfl
/-- book 0, n 1, undone 2, found 3, number 4 -/
def t_counting (K : PySem.W.Frag) (C : CA) : TS :=
 (tSeq (tAsg tDNewK (gName 2))
 (tSeq (tAsg (tLst tNil) (gName 3))
 (tSeq (tFor (iList K (tCKw rSortRev (tCons (tVar 0) tNil) (tCons (tC (.bl true)) tNil))) (gName 4)
  (tIfS (tAnd (tTest (tOp (leI) (tVar 4) (tVar 1))) (tTest (tOp (niA K) (tVar 4) (tVar 2)))) (tSeq (tDrop (tBM K "list" rAppend (tVar 3) (tCons (tVar 4) tNil)))
 (tIfS (tTest (tOp (eqA K) (tOp (ixA K) (tOp (ixA K) (tVar 0) (tVar 4)) (tC (.int 0))) (tC (.str "undo")))) (tAsg (tC (.bl true)) (gSub (tVar 2) (tOp (ixA K) (tOp (ixA K) (tVar 0) (tVar 4)) (tC (.int 1))) setA)) tNext)) tNext))
 (tRet (tRevA K (tVar 3))))))
theorem pure_counting {K : PySem.W.Frag} {C : CA} {vs : List V} {H : Hp} {Q : VK} {E : XK} (h : sp_counting K C vs H Q E) : t_counting K C { nx := fun _ H' => Q .non H', rt := Q } (startN 5 vs) H := by
  obtain ⟨b, B, n, rfl, hB, kk⟩ := h
  refine q_asgD ed_new fun u H1 hu e1 h1 => ?_
  refine q_asgL (el_lst ea_nil (by decide)) fun f H2 hf e2 h2 => ?_
  have E2 : Ex H H2 := e1.trans e2
  have nf : H f = none := fresh_back e1 hf
  have nfu : f ≠ u := fun z => by rw [z, h1] at hf; cases hf
  refine q_forNLn (el_downs (ev_var rfl) (hB.mono E2)) (fun q i σ' H' => ∃ o4 found undone kvs, σ' = [some (.ref b), some (.int n), some (.ref u), some (.ref f), o4] ∧ Ex H H' ∧ H2 q = none ∧ H' q = some (.lst ((downs (B.map (·.1))).map V.int)) ∧ H' f = some (.lst (found.map V.int)) ∧ H' u = some (.dK kvs) ∧
      (∀ k : Int, (valV kvs (Sum.inl k : Key)).isSome = decide (k ∈ undone)) ∧ kvs.length ≤ i ∧ found.length ≤ i ∧ (found, undone) = countAll B n ((downs (B.map (·.1))).take i))
    (fun q H3 hq e3 h3 => ⟨none, [], [], [], rfl, E2.trans e3, hq, h3, e3 f _ h2, e3 u _ (e2 u _ h1), fun k => by simp [valV], Nat.le_refl _, Nat.le_refl _, rfl⟩)
    (fun q i σ' H' _ ⟨_, _, _, _, _, _, _, hq, _⟩ => sq_of hq) ?_ ?_
  · rintro q i x σ' H' hx ⟨o4, found, undone, kvs, rfl, E3, nq, hq, h3, h4, hk, hkl, hfl, hc⟩
    obtain ⟨k, hk1, rfl⟩ := map_get hx
    have hkB : k ∈ B.map (·.1) := (downs_perm _).mem_iff.mp (List.mem_of_getElem? hk1)
    obtain ⟨e, he⟩ := Bk.at_isSome hkB
    have hi : i < 60 := by
      have h1 := (List.getElem?_eq_some_iff.mp hk1).1
      rw [(downs_perm _).length_eq, List.length_map] at h1
      exact Nat.lt_of_lt_of_le h1 hB.few
    have hqf : q ≠ f := fun z => by rw [z] at nq; rw [h2] at nq; cases nq
    have hqu : q ≠ u := fun z => by rw [z] at nq; rw [e2 u _ h1] at nq; cases nq
    have step : countAll B n ((downs (B.map (·.1))).take (i + 1)) = countStep B n (found, undone) k := by rw [take_snoc hk1, countAll_snoc, hc]
    have tst : EvT (tAnd (tTest (tOp leI (tVar 4) (tVar 1))) (tTest (tOp (niA K) (tVar 4) (tVar 2)))) (([some (.ref b), some (.int n), some (.ref u), some (.ref f), o4] : L2.St).set 4 (some (.int k))) H' (decide (k ≤ n) && !decide (k ∈ undone)) := by
      rw [← hk k]
      exact et_and (et_test (ev_le (ev_var rfl) (ev_var rfl))) fun _ => et_test (ev_niD (k := (Sum.inl k : Key)) (ev_var rfl) (ev_var rfl) (.inl h4))
    refine s_when tst (fun c H4 e4 => ?_) (fun c H4 e4 => ?_)
    · rw [Bool.and_eq_true, decide_eq_true_eq, Bool.not_eq_true', decide_eq_false_iff_not] at c
      have hst : countStep B n (found, undone) k = (found ++ [k], undone ++ e.undoes) := by
        unfold countStep
        rw [if_pos c, he]
        rfl
      refine q_app (xs := found.map V.int) (e4 f _ h3) (ev_var rfl) (ev_var rfl) (by rw [List.length_map]; omega) fun H5 e5 => ?_
      have E5 : Ex H' H5 := e4.trans e5
      have h5f : (upd H5 f (.lst (found.map V.int ++ [V.int k]))) f = some (.lst ((found ++ [k]).map V.int)) := by rw [upd_same, List.map_append]; rfl
      have h5u : (upd H5 f (.lst (found.map V.int ++ [V.int k]))) u = some (.dK kvs) := by rw [upd_ne nfu.symm]; exact E5 u _ h4
      have h5q : (upd H5 f (.lst (found.map V.int ++ [V.int k]))) q = some (.lst ((downs (B.map (·.1))).map V.int)) := by rw [upd_ne hqf]; exact E5 q _ hq
      have E6 : Ex H (upd H5 f (.lst (found.map V.int ++ [V.int k]))) := Ex.mut (E3.trans E5) nf
      generalize upd H5 f (.lst (found.map V.int ++ [V.int k])) = H6 at h5f h5u h5q E6 ⊢
      obtain ⟨kv, t, g1, g2, g3⟩ := (hB.mono E6).get he
      refine s_when (et_test (S.ev_eqS (ev_part 0 (ev_book (ev_var rfl) (ev_var rfl) g1 g2) g3 e.vs0) ev_c)) (fun d H7 e7 => ?_) (fun d H7 e7 => ?_)
      · rw [Ent.word_undo] at d
        cases e with
        | undo j =>
          have g1' := ex_rd e7 g1
          have g3' := g3.mono e7
          refine s_put (k := (Sum.inl j : Key)) ev_c (ev_var rfl) (ev_part 1 (ev_book (ev_var rfl) (ev_var rfl) g1' g2) g3' rfl) (e7 u _ h5u) (by omega) fun H8 e8 => ?_
          have E8 : Ex H6 H8 := e7.trans e8
          refine ⟨_, found ++ [k], undone ++ [j], putK kvs (Sum.inl j) (.bl true), rfl, Ex.mut (E6.trans E8) hu, nq, ?_, ?_, upd_same, fun m => ?_, ?_, by rw [List.length_append]; show found.length + 1 ≤ i + 1; omega, by rw [step, hst]; rfl⟩
          · rw [upd_ne hqu]; exact E8 q _ h5q
          · rw [upd_ne nfu]; exact E8 f _ h5f
          · rw [valV_put]
            by_cases z : m = j
            · subst z; simp
            · rw [if_neg (fun w => z (Sum.inl.inj w)), hk m]
              simp [z]
          · have := length_putK kvs (Sum.inl j : Key) (.bl true)
            omega
        | _ => cases d
      · rw [Ent.word_undo] at d
        have hu0 : e.undoes = [] := by cases e <;> first | rfl | cases d
        refine ⟨_, found ++ [k], undone, kvs, rfl, E6.trans e7, nq, e7 q _ h5q, e7 f _ h5f, e7 u _ h5u, hk, by omega, by rw [List.length_append]; show found.length + 1 ≤ i + 1; omega, ?_⟩
        rw [step, hst, hu0, List.append_nil]
    · have hst : countStep B n (found, undone) k = (found, undone) := by
        unfold countStep
        rw [if_neg]
        intro z
        rw [decide_eq_true z.1, decide_eq_false z.2] at c
        cases c
      exact ⟨_, found, undone, kvs, rfl, E3.trans e4, nq, e4 q _ hq, e4 f _ h3, e4 u _ h4, hk, by omega, by omega, by rw [step, hst]⟩
  · rintro q σ' H' ⟨o4, found, undone, kvs, rfl, E3, nq, hq, h3, h4, hk, hkl, hfl, hc⟩
    rw [List.length_map, List.take_length] at hc
    refine s_retL (el_rev (ev_var rfl) (sq_of h3)) fun p H4 hp e4 h4 => ?_
    refine kk p H4 (fresh_back E3 hp) (E3.trans e4) ?_
    rw [h4, ← List.map_reverse]
    unfold countF
    rw [← hc]
/-! ### said_of -/
def sp_said_of (K : PySem.W.Frag) (C : CA) : Sp := fun vs H Q _ => ∃ (b l : Addr) (B : Bk) (ns : List Int) (name : Str) (day : Int), vs = [.ref b, .ref l, .str name, .int day] ∧ BookAt H b B ∧ SqL K H l (ns.map V.int) ∧ (∀ k ∈ ns, k ∈ B.map (·.1)) ∧
  ∀ H', Ex H H' → Q (optV (saidF B ns name day)) H'
theorem len_said_of {K : PySem.W.Frag} {C : CA} {vs : List V} {H : Hp} {Q : VK} {E : XK} (h : sp_said_of K C vs H Q E) : vs.length = 4 := by
  obtain ⟨b, l, B, ns, name, day, rfl, _⟩ := h
  rfl
/-- book 0, numbers 1, name 2, day 3, number 4, entry 5 -/
def t_said_of (K : PySem.W.Frag) (C : CA) : TS :=
 (tSeq (tFor (iRev K (tCons (tVar 1) tNil)) (gName 4)
  (tSeq (tAsg (tOp (ixA K) (tVar 0) (tVar 4)) (gName 5))
 (tIfS (tAnd (tTest (tOp (neA K) (tOp (ixA K) (tVar 5) (tC (.int 0))) (tC (.str "undo")))) (tAnd (tTest (tOp (eqA K) (tOp (ixA K) (tVar 5) (tC (.int 1))) (tVar 2))) (tTest (tChain (leI) (leI) (tOp (ixA K) (tVar 5) (tC (.int 2))) (tVar 3) (tOp (ixA K) (tVar 5) (tC (.int 3))))))) (tSeq (tIfS (tTest (tOp (eqA K) (tOp (ixA K) (tVar 5) (tC (.int 0))) (tC (.str "tell")))) (tRet (tOp (ixA K) (tVar 5) (tC (.int 4)))) tNext)
 (tSeq (tIfS (tTest (tOp (eqA K) (tOp (ixA K) (tVar 5) (tC (.int 0))) (tC (.str "clear")))) (tRet (tC .non)) tNext)
 (tAsg (tOp (ixA K) (tVar 5) (tC (.int 4))) (gName 2)))) tNext)))
 (tRet (tC .non)))
theorem drop_of {α : Type} {xs : List α} {i : Nat} {x : α} (h : xs[i]? = some x) : xs.drop i = x :: xs.drop (i + 1) := by
  obtain ⟨h1, h2⟩ := List.getElem?_eq_some_iff.mp h
  rw [List.drop_eq_getElem_cons h1, h2]
theorem pure_said_of {K : PySem.W.Frag} {C : CA} {vs : List V} {H : Hp} {Q : VK} {E : XK} (h : sp_said_of K C vs H Q E) : t_said_of K C { nx := fun _ H' => Q .non H', rt := Q } (startN 6 vs) H := by
  obtain ⟨b, l, B, ns, name, day, rfl, hB, hl, hns, kk⟩ := h
  refine q_forRev (ea_cons (ev_var rfl) ea_nil) hl (fun i σ' H' => ∃ o4 o5 nm, σ' = [some (.ref b), some (.ref l), some (.str nm), some (.int day), o4, o5] ∧ Ex H H' ∧ saidF B ns name day = saidL B day (ns.reverse.drop i) nm)
    (fun H1 e1 => ⟨none, none, name, rfl, e1, rfl⟩) (fun i σ' H' ⟨_, _, _, _, e, _⟩ => ex_l e hl) ?_ ?_
  · rintro i x σ' H' hx ⟨o4, o5, nm, rfl, E1, hs⟩
    rw [← List.map_reverse] at hx
    obtain ⟨k, hk, rfl⟩ := map_get hx
    have hkB : k ∈ B.map (·.1) := hns k (List.mem_reverse.mp (List.mem_of_getElem? hk))
    obtain ⟨e, he⟩ := Bk.at_isSome hkB
    obtain ⟨kv, t, g1, g2, g3⟩ := (hB.mono E1).get he
    rw [drop_of hk] at hs
    refine q_asg (ev_book (ev_var rfl) (ev_var rfl) g1 g2) fun H2 e2 => ?_
    have g4 := g3.mono e2
    have E2 : Ex H H2 := E1.trans e2
    have tw : ∀ w : Str, EvT (tTest (tOp (eqA K) (tOp (ixA K) (tVar 5) (tC (.int 0))) (tC (.str w)))) ((([some (.ref b), some (.ref l), some (.str nm), some (.int day), o4, o5] : L2.St).set 4 (some (.int k))).set 5 (some (.ref t))) H2 (decide (e.word = w)) := fun w =>
      et_test (S.ev_eqS (ev_part 0 (ev_var rfl) g4 e.vs0) ev_c)
    have tn : EvT (tTest (tOp (neA K) (tOp (ixA K) (tVar 5) (tC (.int 0))) (tC (.str "undo")))) ((([some (.ref b), some (.ref l), some (.str nm), some (.int day), o4, o5] : L2.St).set 4 (some (.int k))).set 5 (some (.ref t))) H2 (!e.isUndo) := by
      rw [← Ent.word_undo]
      exact et_test (S.ev_neS (ev_part 0 (ev_var rfl) g4 e.vs0) ev_c)
    have tell3 : ∀ (n : Str) (lo hi : Int), e.vs[1]? = some (.str n) → e.vs[2]? = some (.int lo) → e.vs[3]? = some (.int hi) →
        EvT (tAnd (tTest (tOp (neA K) (tOp (ixA K) (tVar 5) (tC (.int 0))) (tC (.str "undo")))) (tAnd (tTest (tOp (eqA K) (tOp (ixA K) (tVar 5) (tC (.int 1))) (tVar 2))) (tTest (tChain leI leI (tOp (ixA K) (tVar 5) (tC (.int 2))) (tVar 3) (tOp (ixA K) (tVar 5) (tC (.int 3)))))))
          ((([some (.ref b), some (.ref l), some (.str nm), some (.int day), o4, o5] : L2.St).set 4 (some (.int k))).set 5 (some (.ref t))) H2 (!e.isUndo && (decide (n = nm) && (decide (lo ≤ day) && decide (day ≤ hi)))) := fun n lo hi v1 v2 v3 =>
      et_and tn fun _ => et_and (et_test (S.ev_eqS (ev_part 1 (ev_var rfl) g4 v1) (ev_var rfl))) fun _ => et_test (ev_lele (ev_part 2 (ev_var rfl) g4 v2) (ev_var rfl) (ev_part 3 (ev_var rfl) g4 v3))
    have yes : ∀ {n : Str} {lo hi : Int}, (true && (decide (n = nm) && (decide (lo ≤ day) && decide (day ≤ hi)))) = true → n = nm ∧ lo ≤ day ∧ day ≤ hi := fun c => by
      simpa using c
    have no : ∀ {n : Str} {lo hi : Int}, (true && (decide (n = nm) && (decide (lo ≤ day) && decide (day ≤ hi)))) = false → ¬ (n = nm ∧ lo ≤ day ∧ day ≤ hi) := fun c z => by
      rw [decide_eq_true z.1, decide_eq_true z.2.1, decide_eq_true z.2.2] at c
      cases c
    cases e with
    | undo j =>
      refine s_when (et_and (b := false) tn fun c => by cases c) (fun c => by cases c) fun _ H3 e3 => ?_
      exact ⟨_, _, nm, rfl, E2.trans e3, by rw [hs, saidL, he]⟩
    | tell n lo hi w =>
      refine s_when (tell3 n lo hi rfl rfl rfl) (fun c H3 e3 => ?_) (fun c H3 e3 => ?_)
      · refine q_when ((tw "tell").mono e3) (fun _ H4 e4 => ?_) (fun d => absurd d (by simp [Ent.word]))
        refine s_ret (ev_part 4 (ev_var rfl) (g4.mono (e3.trans e4)) rfl) fun H5 e5 => ?_
        have := kk H5 (E2.trans (e3.trans (e4.trans e5)))
        rw [hs, saidL, he] at this
        dsimp only at this
        rw [if_pos (yes c)] at this
        exact this
      · exact ⟨_, _, nm, rfl, E2.trans e3, by rw [hs, saidL, he]; exact if_neg (no c)⟩
    | clear n lo hi =>
      refine s_when (tell3 n lo hi rfl rfl rfl) (fun c H3 e3 => ?_) (fun c H3 e3 => ?_)
      · refine q_when ((tw "tell").mono e3) (fun d => absurd (of_decide_eq_true d) w_ct) (fun _ H4 e4 => ?_)
        refine q_when ((tw "clear").mono (e3.trans e4)) (fun _ H5 e5 => ?_) (fun d => absurd d (by simp [Ent.word]))
        refine s_ret ev_c fun H6 e6 => ?_
        have := kk H6 (E2.trans (e3.trans (e4.trans (e5.trans e6))))
        rw [hs, saidL, he] at this
        dsimp only at this
        rw [if_pos (yes c)] at this
        exact this
      · exact ⟨_, _, nm, rfl, E2.trans e3, by rw [hs, saidL, he]; exact if_neg (no c)⟩
    | like n lo hi o =>
      refine s_when (tell3 n lo hi rfl rfl rfl) (fun c H3 e3 => ?_) (fun c H3 e3 => ?_)
      · refine q_when ((tw "tell").mono e3) (fun d => absurd (of_decide_eq_true d) w_lt) (fun _ H4 e4 => ?_)
        refine q_when ((tw "clear").mono (e3.trans e4)) (fun d => absurd (of_decide_eq_true d) w_lc) (fun _ H5 e5 => ?_)
        refine s_asg (ev_part 4 (ev_var rfl) (g4.mono (e3.trans (e4.trans e5))) rfl) fun H6 e6 => ?_
        exact ⟨_, _, o, rfl, E2.trans (e3.trans (e4.trans (e5.trans e6))), by rw [hs, saidL, he]; exact if_pos (yes c)⟩
      · exact ⟨_, _, nm, rfl, E2.trans e3, by rw [hs, saidL, he]; exact if_neg (no c)⟩
  · rintro σ' H' ⟨o4, o5, nm, rfl, E1, hs⟩
    have e0 : ns.reverse.drop (ns.map V.int).length = [] := by rw [List.length_map, ← List.length_reverse, List.drop_length]
    rw [e0] at hs
    refine s_ret ev_c fun H2 e2 => ?_
    have := kk H2 (E1.trans e2)
    rw [hs] at this
    exact this
/-! ### worth_of -/
def worthF (B : Bk) (n : Int) (name : Str) (day : Int) : Option Int := saidF B (countF B n) name day
def sp_worth_of (K : PySem.W.Frag) (C : CA) : Sp := fun vs H Q _ => ∃ (b : Addr) (B : Bk) (n : Int) (name : Str) (day : Int), vs = [.ref b, .int n, .str name, .int day] ∧ BookAt H b B ∧
  ∀ H', Ex H H' → Q (optV (worthF B n name day)) H'
theorem len_worth_of {K : PySem.W.Frag} {C : CA} {vs : List V} {H : Hp} {Q : VK} {E : XK} (h : sp_worth_of K C vs H Q E) : vs.length = 4 := by
  obtain ⟨b, B, n, name, day, rfl, _⟩ := h
  rfl
/-- book 0, n 1, name 2, day 3 -/
def t_worth_of (K : PySem.W.Frag) (C : CA) : TS :=
 (tRet (tCall (sp_said_of K C) [] E0 (tCons (tVar 0) (tCons (tCall (sp_counting K C) [] E0 (tCons (tVar 0) (tCons (tVar 1) tNil))) (tCons (tVar 2) (tCons (tVar 3) tNil))))))
section
variable {K : PySem.W.Frag} {C : CA} {σ : L2.St} {H : Hp} {ta tb tc td : TE} {b : Addr} {B : Bk} {n : Int}
theorem el_counting (ha : Ev ta σ H (.ref b)) (hb : Ev tb σ H (.int n)) (h : BookAt H b B) : EvL (tCall (sp_counting K C) [] E0 (tCons ta (tCons tb tNil))) σ H ((countF B n).map V.int) :=
  el_call (ea_cons ha (ea_cons hb ea_nil)) fun H1 e1 Q q E => ⟨b, B, n, rfl, h.mono e1, q⟩
theorem ev_said {l : Addr} {ns : List Int} {name : Str} {day : Int} (ha : Ev ta σ H (.ref b)) (hb : Ev tb σ H (.ref l)) (hc : Ev tc σ H (.str name)) (hd : Ev td σ H (.int day)) (h : BookAt H b B) (hl : SqL K H l (ns.map V.int)) (hn : ∀ k ∈ ns, k ∈ B.map (·.1)) :
    Ev (tCall (sp_said_of K C) [] E0 (tCons ta (tCons tb (tCons tc (tCons td tNil))))) σ H (optV (saidF B ns name day)) :=
  ev_call (ea_cons ha (ea_cons hb (ea_cons hc (ea_cons hd ea_nil)))) fun H1 e1 Q q E => ⟨b, l, B, ns, name, day, rfl, h.mono e1, ex_l e1 hl, hn, q⟩
theorem ev_saidN {ns : List Int} {name : Str} {day : Int} (ha : Ev ta σ H (.ref b)) (hb : EvL tb σ H (ns.map V.int)) (hc : Ev tc σ H (.str name)) (hd : Ev td σ H (.int day)) (h : BookAt H b B) (hn : ∀ k ∈ ns, k ∈ B.map (·.1)) :
    Ev (tCall (sp_said_of K C) [] E0 (tCons ta (tCons tb (tCons tc (tCons td tNil))))) σ H (optV (saidF B ns name day)) := fun H1 e1 Q q =>
  ha H1 e1 _ fun H2 e2 => hb H2 (e1.trans e2) _ fun l H3 hl e3 h3 => hc H3 ((e1.trans e2).trans e3) _ fun H4 e4 => hd H4 (((e1.trans e2).trans e3).trans e4) _ fun H5 e5 =>
    ⟨b, l, B, ns, name, day, rfl, h.mono ((((e1.trans e2).trans e3).trans e4).trans e5), sq_of ((e4.trans e5) l _ h3), hn, fun H6 e6 => q H6 ((((e2.trans e3).trans e4).trans e5).trans e6)⟩
theorem ev_worth {name : Str} {day : Int} (ha : Ev ta σ H (.ref b)) (hb : Ev tb σ H (.int n)) (hc : Ev tc σ H (.str name)) (hd : Ev td σ H (.int day)) (h : BookAt H b B) :
    Ev (tCall (sp_worth_of K C) [] E0 (tCons ta (tCons tb (tCons tc (tCons td tNil))))) σ H (optV (worthF B n name day)) :=
  ev_call (ea_cons ha (ea_cons hb (ea_cons hc (ea_cons hd ea_nil)))) fun H1 e1 Q q E => ⟨b, B, n, name, day, rfl, h.mono e1, q⟩
end
theorem pure_worth_of {K : PySem.W.Frag} {C : CA} {vs : List V} {H : Hp} {Q : VK} {E : XK} (h : sp_worth_of K C vs H Q E) : t_worth_of K C { nx := fun _ H' => Q .non H', rt := Q } (startN 4 vs) H := by
  obtain ⟨b, B, n, name, day, rfl, hB, kk⟩ := h
  exact s_ret (ev_saidN (ev_var rfl) (el_counting (ev_var rfl) (ev_var rfl) hB) (ev_var rfl) (ev_var rfl) hB fun k hk => (countF_mem hk).1) kk
end S
end
set_option Elab.async false
set_option linter.all false
set_option maxRecDepth 100000
set_option maxHeartbeats 4000000
namespace S
open PySem L2 Evl
/-! ### data stays data -/
mutual
theorem Dp.mono {K : PySem.W.Frag} {H H' : Hp} (e : Ex H H') : ∀ {d : PyData} {v : V}, Dp K H v d → Dp K H' v d
  | .none, _, h => by cases h; exact .non
  | .bool b, _, h => by cases h; exact .bl b
  | .int i, _, h => by cases h; exact .int i
  | .str x, _, h => by cases h; exact .str x
  | .list ds, _, h => by cases h with | lst h1 h2 => exact .lst (ex_l e h1) (DpAll.mono e h2)
  | .tuple ds, _, h => by cases h with | tup h1 h2 => exact .tup (ex_t e h1) (DpAll.mono e h2)
  | .dict kvs, _, h => by cases h
theorem DpAll.mono {K : PySem.W.Frag} {H H' : Hp} (e : Ex H H') : ∀ {ds : List PyData} {vs : List V}, DpAll K H vs ds → DpAll K H' vs ds
  | [], _, h => by cases h; exact .nil
  | d :: ds, _, h => by cases h with | cons h1 h2 => exact .cons (Dp.mono e h1) (DpAll.mono e h2)
end
theorem DpAll.of {K : PySem.W.Frag} {H : Hp} {α : Type} {F : V → α → Prop} {f : α → PyData} (hf : ∀ v y, F v y → Dp K H v (f y)) : ∀ {vs : List V} {ys : List α}, Paired F vs ys → DpAll K H vs (ys.map f)
  | _, _, .nil => .nil
  | _, _, .cons r t => .cons (hf _ _ r) (DpAll.of hf t)
theorem paired_map {α : Type} (f : α → V) : ∀ ys : List α, Paired (fun v y => v = f y) (ys.map f) ys
  | [] => .nil
  | _ :: r => .cons rfl (paired_map f r)
theorem paired_get {α β : Type} {F : α → β → Prop} : ∀ {xs : List α} {ys : List β} {i : Nat} {x : α}, Paired F xs ys → xs[i]? = some x → ∃ y, ys[i]? = some y ∧ F x y
  | _, _, 0, _, .cons r t, h => by cases h; exact ⟨_, rfl, r⟩
  | _, _, i + 1, _, .cons r t, h => paired_get (i := i) t h
theorem paired_mem {α β : Type} {F : α → β → Prop} : ∀ {xs : List α} {ys : List β}, Paired F xs ys → ∀ x ∈ xs, ∃ y ∈ ys, F x y
  | _, _, .cons r t, x, h => by
    rcases List.mem_cons.mp h with h | h
    · rw [h]; exact ⟨_, List.mem_cons_self, r⟩
    · obtain ⟨y, h1, h2⟩ := paired_mem t x h
      exact ⟨y, List.mem_cons_of_mem _ h1, h2⟩
/-! ### two books that are the same -/
def Ent.ds : Ent → List PyData
  | .tell n lo hi w => [.str "tell", .str n, .int lo, .int hi, .int w]
  | .clear n lo hi => [.str "clear", .str n, .int lo, .int hi]
  | .like n lo hi o => [.str "like", .str n, .int lo, .int hi, .str o]
  | .undo k => [.str "undo", .int k]
theorem Ent.dp {K : PySem.W.Frag} {H : Hp} {t : Addr} {e : Ent} (h : EntAt H t e) : Dp K H (.ref t) (.tuple e.ds) := by
  refine .tup (st_of h) ?_
  cases e with
  | tell n lo hi w => exact .cons (.str _) (.cons (.str _) (.cons (.int _) (.cons (.int _) (.cons (.int _) .nil))))
  | clear n lo hi => exact .cons (.str _) (.cons (.str _) (.cons (.int _) (.cons (.int _) .nil)))
  | like n lo hi o => exact .cons (.str _) (.cons (.str _) (.cons (.int _) (.cons (.int _) (.cons (.str _) .nil))))
  | undo k => exact .cons (.str _) (.cons (.int _) .nil)
theorem strOk_name {n : Str} (h : NameS n) : PyData.strOk n = true := by
  show Array.all n.cps _ = true
  rw [← Array.all_toList, List.all_eq_true]
  intro c hc
  have := h.2.2 c hc
  exact decide_eq_true (by omega)
theorem ok_tell : PyData.strOk ("tell" : Str) = true := by decide +kernel
theorem ok_clear : PyData.strOk ("clear" : Str) = true := by decide +kernel
theorem ok_like : PyData.strOk ("like" : Str) = true := by decide +kernel
theorem ok_undo : PyData.strOk ("undo" : Str) = true := by decide +kernel
theorem Ent.lay {e : Ent} {k : Int} (h : e.ok k) : (PyData.tuple e.ds).canLay0 = true ∧ (PyData.tuple e.ds).depth ≤ 64 := by
  cases e with
  | tell n lo hi w => exact ⟨by simp [Ent.ds, PyData.canLay0, PyData.canLayAll0, strOk_name h.1, ok_tell], by simp [Ent.ds, PyData.depth, PyData.depthAll]⟩
  | clear n lo hi => exact ⟨by simp [Ent.ds, PyData.canLay0, PyData.canLayAll0, strOk_name h.1, ok_clear], by simp [Ent.ds, PyData.depth, PyData.depthAll]⟩
  | like n lo hi o => exact ⟨by simp [Ent.ds, PyData.canLay0, PyData.canLayAll0, strOk_name h.1, strOk_name h.2.2.2.2, ok_like], by simp [Ent.ds, PyData.depth, PyData.depthAll]⟩
  | undo j => exact ⟨by simp [Ent.ds, PyData.canLay0, PyData.canLayAll0, ok_undo], by simp [Ent.ds, PyData.depth, PyData.depthAll]⟩
theorem shaped_by {d : PyData} (h : d.canLay0 = true ∧ d.depth ≤ 64) : SeqAt.shaped d = true := by
  show (d.canLay0 && decide (d.depth ≤ 64)) = true
  rw [h.1, decide_eq_true h.2]
  rfl
def Bk.dat (B : Bk) : List (Key × PyData) := B.map fun p => ((Sum.inl p.1 : Key), PyData.tuple p.2.ds)
theorem BkRel.dk {K : PySem.W.Frag} {H : Hp} : ∀ {kvs : List (Key × V)} {B : Bk}, BkRel H kvs B → DkIs K H kvs B.dat
  | _, _, .nil => .nil
  | _, _, .cons h t => .cons ⟨h.1, by obtain ⟨a, e1, e2⟩ := h.2; rw [e1]; exact Ent.dp e2⟩ (BkRel.dk t)
theorem valP_dat {k : Int} : ∀ {B : Bk}, valP B.dat (Sum.inl k : Key) = (Bk.at B k).map fun e => PyData.tuple e.ds
  | [] => rfl
  | p :: B => by
    by_cases h : p.1 = k
    · rw [Bk.at_cons_pos h]
      simp [valP, Bk.dat, List.find?_cons, h]
    · rw [Bk.at_cons_neg h, ← valP_dat]
      simp [valP, Bk.dat, List.find?_cons, h]
theorem Bk.at_of {B : Bk} (hn : (B.map (·.1)).Nodup) {k : Int} {e : Ent} (h : (k, e) ∈ B) : Bk.at B k = some e := by
  induction B with
  | nil => cases h
  | cons p B ih =>
    rw [List.map_cons, List.nodup_cons] at hn
    rcases List.mem_cons.mp h with h1 | h1
    · rw [← h1]; exact Bk.at_cons_pos rfl
    · have : ¬ p.1 = k := fun z => hn.1 (by rw [z]; exact List.mem_map_of_mem (f := (·.1)) h1)
      rw [Bk.at_cons_neg this]
      exact ih hn.2 h1
theorem dkEqv_same {B C : Bk} (hl : B.length = C.length) (h : ∀ p ∈ B, Bk.at C p.1 = some p.2) (ho : ∀ p ∈ B, p.2.ok p.1) : dkEqv B.dat C.dat = true := by
  unfold dkEqv
  rw [Bool.and_eq_true, List.all_eq_true]
  refine ⟨by simp [Bk.dat, hl], fun q hq => ?_⟩
  obtain ⟨p, hp, rfl⟩ := List.mem_map.mp hq
  unfold hitP
  rw [valP_dat, h p hp]
  exact SeqAt.eqv_refl _ (Ent.lay (ho p hp)).1
section
variable {K : PySem.W.Frag} {σ : L2.St} {H : Hp} {ta tb tc te : TE} {D : Ends} {tu tz : TS}
theorem ok_dat {B : Bk} (ho : ∀ p ∈ B, p.2.ok p.1) : ∀ q ∈ B.dat, SeqAt.shaped q.2 = true := fun q hq => by
  obtain ⟨p, hp, rfl⟩ := List.mem_map.mp hq
  exact shaped_by (Ent.lay (ho p hp))
theorem ev_eqBk {a b : Addr} {B C : Bk} (ha : Ev ta σ H (.ref a)) (hb : Ev tb σ H (.ref b)) (hA : BookAt H a B) (hB : BookAt H b C) (oB : ∀ p ∈ B, p.2.ok p.1) (oC : ∀ p ∈ C, p.2.ok p.1) : Ev (tOp (eqA K) ta tb) σ H (.bl (dkEqv B.dat C.dat)) :=
  ev_op ha hb fun H1 e Q q => by
    obtain ⟨ks, h1, h2⟩ := (hA.mono e).ex
    obtain ⟨ls, g1, g2⟩ := (hB.mono e).ex
    exact .inr (.inr ⟨a, b, ks, ls, _, _, rfl, rfl, h1, g1, h2.dk, g2.dk, ok_dat oB, ok_dat oC, q H1 (Ex.refl H1)⟩)
theorem ev_neBk {a b : Addr} {B C : Bk} (ha : Ev ta σ H (.ref a)) (hb : Ev tb σ H (.ref b)) (hA : BookAt H a B) (hB : BookAt H b C) (oB : ∀ p ∈ B, p.2.ok p.1) (oC : ∀ p ∈ C, p.2.ok p.1) : Ev (tOp (neA K) ta tb) σ H (.bl (!dkEqv B.dat C.dat)) :=
  ev_op ha hb fun H1 e Q q => by
    obtain ⟨ks, h1, h2⟩ := (hA.mono e).ex
    obtain ⟨ls, g1, g2⟩ := (hB.mono e).ex
    exact .inr (.inr ⟨a, b, ks, ls, _, _, rfl, rfl, h1, g1, h2.dk, g2.dk, ok_dat oB, ok_dat oC, q H1 (Ex.refl H1)⟩)
theorem dkEqv_self {B : Bk} (hn : (B.map (·.1)).Nodup) (ho : ∀ p ∈ B, p.2.ok p.1) : dkEqv B.dat B.dat = true := dkEqv_same rfl (fun p hp => Bk.at_of hn hp) ho
/-- dict(book) -/
theorem ed_book {a : Addr} {B : Bk} (ha : Ev ta σ H (.ref a)) (h : BookAt H a B) : ∀ H1, Ex H H1 → ∀ Q : VK, (∀ p H2, NewBk H1 H2 p B → Q (.ref p) H2) → (tCB (dictC K) (tCons ta tNil)) σ H1 Q := fun H1 e Q q => by
  obtain ⟨ks, h1, h2⟩ := h.ex
  refine ed_copy ha h1 H1 e Q fun p H2 hp e2 hp2 => q p H2 ⟨hp, e2, ⟨ks, hp2, h2.mono (e.trans e2)⟩, h.nd, h.few⟩
/-! ### data alike -/
theorem ev_eqD {x y : V} {d e : PyData} (ha : Ev ta σ H x) (hb : Ev tb σ H y) (hd : Dp K H x d) (he : Dp K H y e) (sd : SeqAt.shaped d = true) (se : SeqAt.shaped e = true) : Ev (tOp (eqA K) ta tb) σ H (.bl (PyData.eqv d e)) :=
  ev_op ha hb fun H1 e1 Q q => .inr (.inl ⟨d, e, Dp.mono e1 hd, Dp.mono e1 he, sd, se, q H1 (Ex.refl H1)⟩)
theorem ev_neD {x y : V} {d e : PyData} (ha : Ev ta σ H x) (hb : Ev tb σ H y) (hd : Dp K H x d) (he : Dp K H y e) (sd : SeqAt.shaped d = true) (se : SeqAt.shaped e = true) : Ev (tOp (neA K) ta tb) σ H (.bl (!PyData.eqv d e)) :=
  ev_op ha hb fun H1 e1 Q q => .inr (.inl ⟨d, e, Dp.mono e1 hd, Dp.mono e1 he, sd, se, q H1 (Ex.refl H1)⟩)
/-! ### values that are told only by what holds of them -/
def EvX (te : TE) (σ : L2.St) (H : Hp) (P : Hp → V → Prop) : Prop := ∀ H1, Ex H H1 → ∀ Q : VK, (∀ v H2, Ex H1 H2 → P H2 v → Q v H2) → te σ H1 Q
theorem ex_ev {v : V} {P : Hp → V → Prop} (h : Ev te σ H v) (hp : ∀ H1, Ex H H1 → P H1 v) : EvX te σ H P := fun H1 e Q q => h H1 e Q fun H2 e2 => q v H2 e2 (hp H2 (e.trans e2))
theorem ex_evU {xs : List V} {P : Hp → V → Prop} (h : EvU te σ H xs) (hp : ∀ p H1, Ex H H1 → H1 p = some (.tup xs) → P H1 (.ref p)) : EvX te σ H P := fun H1 e Q q => h H1 e Q fun p H2 _ e2 h2 => q _ H2 e2 (hp p H2 (e.trans e2) h2)
theorem ex_evL {xs : List V} {P : Hp → V → Prop} (h : EvL te σ H xs) (hp : ∀ p H1, Ex H H1 → H1 p = some (.lst xs) → P H1 (.ref p)) : EvX te σ H P := fun H1 e Q q => h H1 e Q fun p H2 _ e2 h2 => q _ H2 e2 (hp p H2 (e.trans e2) h2)
theorem EvX.imp {P R : Hp → V → Prop} (h : EvX te σ H P) (hp : ∀ v H1, Ex H H1 → P H1 v → R H1 v) : EvX te σ H R := fun H1 e Q q => h H1 e Q fun v H2 e2 p => q v H2 e2 (hp v H2 (e.trans e2) p)
/-- what holds of a value and what it stands for, and goes on to hold -/
def Mo {α : Type} (F : Hp → V → α → Prop) : Prop := ∀ {H H' : Hp} {v : V} {y : α}, Ex H H' → F H v y → F H' v y
theorem Mo.all {α : Type} {F : Hp → V → α → Prop} (m : Mo F) {H H' : Hp} (e : Ex H H') {vs : List V} {ys : List α} (h : Paired (F H) vs ys) : Paired (F H') vs ys := Paired.imp (fun _ _ => m e) h
/-- a new list of such -/
def EvP {α : Type} (te : TE) (σ : L2.St) (H : Hp) (F : Hp → V → α → Prop) (ys : List α) : Prop :=
  ∀ H1, Ex H H1 → ∀ Q : VK, (∀ p xs H2, H1 p = none → Ex H1 H2 → H2 p = some (.lst xs) → Paired (F H2) xs ys → Q (.ref p) H2) → te σ H1 Q
def EvAP {α : Type} (ta : TA) (σ : L2.St) (H : Hp) (F : Hp → V → α → Prop) (ys : List α) : Prop :=
  ∀ H1, Ex H H1 → ∀ Q : List V → Hp → Prop, (∀ xs H2, Ex H1 H2 → Paired (F H2) xs ys → Q xs H2) → ta σ H1 Q
variable {α β : Type} {F : Hp → V → α → Prop} {G : Hp → V → β → Prop}
theorem eap_nil : EvAP tNil σ H F [] := fun H1 e Q q => q [] H1 (Ex.refl H1) .nil
theorem eap_cons {ta' : TA} {y : α} {ys : List α} (m : Mo F) (h : EvX te σ H fun H v => F H v y) (ht : EvAP ta' σ H F ys) : EvAP (tCons te ta') σ H F (y :: ys) := fun H1 e Q q =>
  h H1 e _ fun v H2 e2 p => ht H2 (e.trans e2) _ fun xs H3 e3 ps => q (v :: xs) H3 (e2.trans e3) (.cons (m e3 p) ps)
theorem ep_lst {ta' : TA} {ys : List α} (m : Mo F) (h : EvAP ta' σ H F ys) (hz : ys.length ≤ 100000) : EvP (tLst ta') σ H F ys := fun H1 e Q q =>
  h H1 e _ fun xs H2 e2 ps => ⟨by have := Paired.length ps; exact sz_of (by omega), fun p hp => q p xs _ (fresh_back e2 hp) (e2.trans (Ex.new hp)) upd_same (m.all (Ex.new hp) ps)⟩
theorem ep_cat {ys zs : List α} (m : Mo F) (ha : EvP ta σ H F ys) (hb : EvP tb σ H F zs) (hz : ys.length + zs.length ≤ 100000) : EvP (tOp (addA K) ta tb) σ H F (ys ++ zs) := fun H1 e Q q =>
  ha H1 e _ fun p xs H2 hp e2 h2 p1 => hb H2 (e.trans e2) _ fun r us H3 hr e3 h3 p2 =>
    .inr (.inr (.inl ⟨p, r, xs, us, rfl, rfl, e3 p _ h2, h3, by have := Paired.length p1; have := Paired.length p2; exact sz_of (by omega), fun l hl => q l _ _ (fresh_back (e2.trans e3) hl) ((e2.trans e3).trans (Ex.new hl)) upd_same
      (Paired.app (m.all (e3.trans (Ex.new hl)) p1) (m.all (Ex.new hl) p2))⟩))
theorem ep_catV {p : Addr} {xs : List V} {ys zs : List α} (m : Mo F) (ha : Ev ta σ H (.ref p)) (h : H p = some (.lst xs)) (hp : Paired (F H) xs ys) (hb : EvP tb σ H F zs) (hz : ys.length + zs.length ≤ 100000) : EvP (tOp (addA K) ta tb) σ H F (ys ++ zs) := fun H1 e Q q =>
  ha H1 e _ fun H2 e2 => hb H2 (e.trans e2) _ fun r us H3 hr e3 h3 p2 =>
    .inr (.inr (.inl ⟨p, r, xs, us, rfl, rfl, ((e.trans e2).trans e3) p _ h, h3, by have := Paired.length hp; have := Paired.length p2; exact sz_of (by omega), fun l hl => q l _ _ (fresh_back (e2.trans e3) hl) ((e2.trans e3).trans (Ex.new hl)) upd_same
      (Paired.app (m.all (((e.trans e2).trans e3).trans (Ex.new hl)) hp) (m.all (Ex.new hl) p2))⟩))
theorem ep_ofL {ys : List α} (f : α → V) (h : EvL te σ H (ys.map f)) : EvP te σ H (fun _ v y => v = f y) ys := fun H1 e Q q => h H1 e Q fun p H2 hp e2 h2 => q p _ H2 hp e2 h2 (paired_map f ys)
/-! ### comprehensions over what is told so -/
theorem filter_take_yes {f : β → Bool} {v : β → α} {zs : List β} {i : Nat} {z : β} (h : zs[i]? = some z) (hf : f z = true) : ((zs.take (i + 1)).filter f).map v = ((zs.take i).filter f).map v ++ [v z] := by
  rw [take_snoc h, List.filter_append, List.map_append, List.filter_cons, if_pos hf]
  rfl
theorem filter_take_no {f : β → Bool} {v : β → α} {zs : List β} {i : Nat} {z : β} (h : zs[i]? = some z) (hf : f z = false) : ((zs.take (i + 1)).filter f).map v = ((zs.take i).filter f).map v := by
  rw [take_snoc h, List.filter_append, List.map_append, List.filter_cons, if_neg (by rw [hf]; decide)]
  simp
theorem filter_take_len {f : β → Bool} {v : β → α} {zs : List β} {i : Nat} : (((zs.take i).filter f).map v).length ≤ i := by
  rw [List.length_map]
  have h := List.length_filter_le f (zs.take i)
  rw [List.length_take] at h
  omega
def Cp (H : Hp) (F : Hp → V → α → Prop) (Dl : Addr) (ys : List α) (H' : Hp) : Prop := H Dl = none ∧ Ex H H' ∧ ∃ acc, H' Dl = some (.lst acc) ∧ Paired (F H') acc ys
/-- tuples stay -/
def ExT (H H' : Hp) : Prop := ∀ p xs, H p = some (.tup xs) → H' p = some (.tup xs)
theorem ext_of {H H' : Hp} (e : Ex H H') : ExT H H' := fun p xs h => e p _ h
theorem ExT.refl (H : Hp) : ExT H H := fun _ _ h => h
theorem ExT.trans {H1 H2 H3 : Hp} (a : ExT H1 H2) (b : ExT H2 H3) : ExT H1 H3 := fun p xs h => b p xs (a p xs h)
theorem ExT.put {H : Hp} {l : Addr} {o o' : HO} (h : H l = some o) (ho : ∀ xs, o ≠ .tup xs) : ExT H (upd H l o') := fun p xs hp => by
  by_cases e : p = l
  · subst e
    rw [h] at hp
    exact absurd (Option.some.inj hp) (ho xs)
  · rw [upd_ne e]
    exact hp
theorem ExT.app {H : Hp} {l : Addr} {xs ys : List V} (h : H l = some (.lst xs)) : ExT H (upd H l (.lst ys)) := ExT.put h fun _ z => by cases z
def MoT {α : Type} (F : Hp → V → α → Prop) : Prop := ∀ {H H' : Hp} {v : V} {y : α}, ExT H H' → F H v y → F H' v y
theorem MoT.mo {F : Hp → V → α → Prop} (m : MoT F) : Mo F := fun e h => m (ext_of e) h
theorem MoT.all {F : Hp → V → α → Prop} (m : MoT F) {H H' : Hp} (e : ExT H H') {vs : List V} {ys : List α} (h : Paired (F H) vs ys) : Paired (F H') vs ys := Paired.imp (fun _ _ => m e) h
/-- a tuple whose parts are told by what it stands for -/
def TupR {α : Type} (f : α → List V) : Hp → V → α → Prop := fun H v y => ∃ p, v = .ref p ∧ H p = some (.tup (f y))
theorem TupR.mo {f : α → List V} : MoT (TupR f) := fun e ⟨p, h1, h2⟩ => ⟨p, h1, e p _ h2⟩
def ValR {α : Type} (f : α → V) : Hp → V → α → Prop := fun _ v y => v = f y
theorem ValR.mo {f : α → V} : MoT (ValR f) := fun _ h => h
theorem cp_turn {H H' : Hp} {σ2 : L2.St} {tt : TT} {f : β → Bool} {v : β → α} {zs : List β} {Dl : Addr} {i : Nat} {z : β}
    (m : MoT F) (hz : zs[i]? = some z) (hi : i < 50000) (p : Cp H F Dl (((zs.take i).filter f).map v) H') (ht : EvT tt σ2 H (f z)) (he : f z = true → EvX te σ2 H fun H w => F H w (v z)) :
    tt σ2 H' fun b H3 => if b = true then te σ2 H3 fun y H4 => ∃ acc, H4 Dl = some (.lst acc) ∧ acc.length < sizeLine ∧ Cp H F Dl (((zs.take (i + 1)).filter f).map v) (upd H4 Dl (.lst (acc ++ [y]))) else Cp H F Dl (((zs.take (i + 1)).filter f).map v) H3 := by
  obtain ⟨p1, p2, acc, p3, p4⟩ := p
  refine ht H' p2 _ fun H3 e3 => ?_
  cases hf : f z with
  | true =>
    show te σ2 H3 _
    refine he hf H3 (p2.trans e3) _ fun w H4 e4 hw => ⟨acc, e4 Dl _ (e3 Dl _ p3), sz_lt ?_, p1, Ex.mut ((p2.trans e3).trans e4) p1, _, upd_same, ?_⟩
    · have h1 := Paired.length p4
      have h2 := filter_take_len (f := f) (v := v) (zs := zs) (i := i)
      omega
    · rw [filter_take_yes hz hf]
      have stay : ∀ {v : V} {y : α}, F H4 v y → F (upd H4 Dl (.lst (acc ++ [w]))) v y := fun h => m (ExT.app (e4 Dl _ (e3 Dl _ p3))) h
      exact Paired.app (Paired.imp (fun _ _ h => stay (m (ext_of (e3.trans e4)) h)) p4) (.cons (stay hw) .nil)
  | false =>
    show Cp H F Dl _ H3
    rw [filter_take_no hz hf]
    exact ⟨p1, p2.trans e3, acc, e3 Dl _ p3, m.all (ext_of e3) p4⟩
theorem ep_lcL {a : Addr} {xs : List V} {zs : List β} {tl : TE} {j : Nat} {vs : List Nat} {t : TT} (f : β → Bool) (v : β → α) (m : MoT F) (mG : Mo G) (h : Ev tl σ H (.ref a)) (hx : SqL K H a xs) (hp : Paired (G H) xs zs) (hz : zs.length ≤ 40000) (hw : ∀ x, wipe ((wipe σ vs).set j (some x)) vs = wipe σ vs)
    (ht : ∀ x z H1, Ex H H1 → z ∈ zs → G H1 x z → EvT t ((wipe σ vs).set j (some x)) H1 (f z)) (he : ∀ x z H1, Ex H H1 → z ∈ zs → G H1 x z → f z = true → EvX te ((wipe σ vs).set j (some x)) H1 fun H w => F H w (v z)) :
    EvP (tLc (iList K tl) (gName j) t te vs) σ H F ((zs.filter f).map v) := fun H0 e Q q => h H0 e _ fun H1 e1 => ⟨a, rfl, ⟨xs, ex_l (e.trans e1) hx⟩, fun Dl hD =>
  lc_list (xs := xs) (fun i => Cp H1 F Dl (((zs.take i).filter f).map v)) ⟨hD, Ex.new hD, [], upd_same, .nil⟩ (fun i H' _ p => ex_l ((e.trans e1).trans p.2.1) hx) (fun i x H' hi p => by
    obtain ⟨z, hz1, hz2⟩ := paired_get (mG.all (e.trans e1) hp) hi
    have hm := List.mem_of_getElem? hz1
    exact ⟨hw x, cp_turn m hz1 (by have := (List.getElem?_eq_some_iff.mp hz1).1; omega) p (ht x z H1 (e.trans e1) hm hz2) fun hf => he x z H1 (e.trans e1) hm hz2 hf⟩)
    (fun H' p => by
      obtain ⟨p1, p2, acc, p3, p4⟩ := p
      rw [Paired.length hp, List.take_length] at p4
      exact q Dl acc H' (fresh_back e1 p1) (e1.trans p2) p3 p4)⟩
theorem ep_lcN {zs : List β} {tl : TE} {j : Nat} {vs : List Nat} {t : TT} (f : β → Bool) (v : β → α) (m : MoT F) (mG : Mo G) (h : EvP tl σ H G zs) (hz : zs.length ≤ 40000) (hw : ∀ x, wipe ((wipe σ vs).set j (some x)) vs = wipe σ vs)
    (ht : ∀ x z H1, Ex H H1 → z ∈ zs → G H1 x z → EvT t ((wipe σ vs).set j (some x)) H1 (f z)) (he : ∀ x z H1, Ex H H1 → z ∈ zs → G H1 x z → f z = true → EvX te ((wipe σ vs).set j (some x)) H1 fun H w => F H w (v z)) :
    EvP (tLc (iList K tl) (gName j) t te vs) σ H F ((zs.filter f).map v) := fun H0 e Q q => h H0 e _ fun a xs H1 ha e1 hx hp => ⟨a, rfl, ⟨xs, sq_of hx⟩, fun Dl hD =>
  lc_list (xs := xs) (fun i => Cp H1 F Dl (((zs.take i).filter f).map v)) ⟨hD, Ex.new hD, [], upd_same, .nil⟩ (fun i H' _ p => sq_of (p.2.1 a _ hx)) (fun i x H' hi p => by
    obtain ⟨z, hz1, hz2⟩ := paired_get hp hi
    have hm := List.mem_of_getElem? hz1
    exact ⟨hw x, cp_turn m hz1 (by have := (List.getElem?_eq_some_iff.mp hz1).1; omega) p (ht x z H1 (e.trans e1) hm hz2) fun hf => he x z H1 (e.trans e1) hm hz2 hf⟩)
    (fun H' p => by
      obtain ⟨p1, p2, acc, p3, p4⟩ := p
      rw [Paired.length hp, List.take_length] at p4
      exact q Dl acc H' (fresh_back e1 p1) (e1.trans p2) p3 p4)⟩
/-- for x in such a list -/
theorem s_forP {zs : List β} {tl : TE} {g : TG} (h : EvP tl σ H G zs) (Pv : Addr → List V → Nat → L2.St → Hp → Prop) (h0 : ∀ p xs H1, H p = none → Ex H H1 → H1 p = some (.lst xs) → Paired (G H1) xs zs → Pv p xs 0 σ H1) (hl : ∀ p xs i σ' H', i ≤ xs.length → Pv p xs i σ' H' → SqL K H' p xs)
    (hs : ∀ p xs i x σ' H', xs[i]? = some x → Pv p xs i σ' H' → g x σ' H' fun σ2 H2 => tu { D with nx := Pv p xs (i + 1), ct := Pv p xs (i + 1), bk := D.nx } σ2 H2) (hd : ∀ p xs σ' H', Pv p xs xs.length σ' H' → D.nx σ' H') : tFor (iList K tl) g tu D σ H :=
  h H (Ex.refl H) _ fun p xs H1 hp e h1 hpr => ⟨p, rfl, ⟨xs, sq_of h1⟩, for_list (Pv p xs) (h0 p xs H1 hp e h1 hpr) (hl p xs) (hs p xs) (hd p xs)⟩
/-! ### new values as arguments, assignments -/
theorem s_asgP {ys : List α} {i : Nat} (h : EvP te σ H F ys) (k : ∀ p xs H1, H p = none → Ex H H1 → H1 p = some (.lst xs) → Paired (F H1) xs ys → D.nx (σ.set i (some (.ref p))) H1) : tAsg te (gName i) D σ H := h H (Ex.refl H) _ fun p xs H1 hp e h1 h2 => k p xs H1 hp e h1 h2
theorem q_asgP {ys : List α} {i : Nat} (h : EvP te σ H F ys) (k : ∀ p xs H1, H p = none → Ex H H1 → H1 p = some (.lst xs) → Paired (F H1) xs ys → tz D (σ.set i (some (.ref p))) H1) : tSeq (tAsg te (gName i)) tz D σ H := s_asgP (D := { D with nx := tz D }) h k
theorem s_retP {ys : List α} (h : EvP te σ H F ys) (k : ∀ p xs H1, H p = none → Ex H H1 → H1 p = some (.lst xs) → Paired (F H1) xs ys → D.rt (.ref p) H1) : tRet te D σ H := h H (Ex.refl H) _ k
theorem q_asgX {P : Hp → V → Prop} {i : Nat} (h : EvX te σ H P) (k : ∀ v H1, Ex H H1 → P H1 v → tz D (σ.set i (some v)) H1) : tSeq (tAsg te (gName i)) tz D σ H := h H (Ex.refl H) _ fun v H1 e p => k v H1 e p
end
end S
set_option Elab.async false
set_option linter.all false
set_option maxRecDepth 100000
set_option maxHeartbeats 4000000
section
open PySem L2 Evl S
local macro_rules | `(tactic| array_get_dec) => `(tactic| first
  | exact ev_c
  | exact ev_var rfl
  | exact S.eo_no
  | exact ea_nil
  | (apply S.eo_some <;> array_get_dec)
  | (apply ea_cons <;> array_get_dec)
  | (apply S.ev_add <;> array_get_dec)
  | (apply S.ev_sub <;> array_get_dec)
  | (apply S.ev_div <;> first | array_get_dec | exact ⟨by decide, by decide⟩ | exact ⟨by omega, by omega⟩)
  | (apply S.ev_mod <;> first | array_get_dec | decide | omega)
  | (apply S.ev_mulr <;> first | array_get_dec | exact ⟨by decide, by decide⟩ | exact ⟨by omega, by omega⟩)
  | (apply S.ev_mull <;> first | array_get_dec | exact ⟨by decide, by decide⟩ | exact ⟨by omega, by omega⟩)
  | (apply S.ev_neg <;> array_get_dec)
  | (apply S.ev_min <;> array_get_dec)
  | (apply S.ev_max <;> array_get_dec)
  | (apply S.ev_eqI <;> array_get_dec)
  | (apply S.ev_eqS <;> array_get_dec)
  | (apply S.ev_neI <;> array_get_dec)
  | (apply S.ev_neS <;> array_get_dec)
  | (apply S.ev_lt <;> array_get_dec)
  | (apply S.ev_le <;> array_get_dec)
  | (apply S.ev_gt <;> array_get_dec)
  | (apply S.ev_ge <;> array_get_dec)
  | (apply S.ev_intB <;> array_get_dec)
  | (apply et_test <;> array_get_dec)
  | (apply et_B <;> array_get_dec)
  | (apply et_not <;> array_get_dec)
  | (refine' et_and ?_ (fun _ => ?_) <;> array_get_dec)
  | (refine' et_or ?_ (fun _ => ?_) <;> array_get_dec))
namespace S
/-! ### _law_counting -/
def sp_l_counting (K : PySem.W.Frag) (C : CA) : Sp := fun vs H Q _ => ∃ (b : Addr) (B : Bk) (n : Int), vs = [.ref b, .int n] ∧ BookAt H b B ∧
  ∀ p H', H p = none → Ex H H' → H' p = some (.lst ((countF B n).map V.int)) → Q (.ref p) H'
theorem len_l_counting {K : PySem.W.Frag} {C : CA} {vs : List V} {H : Hp} {Q : VK} {E : XK} (h : sp_l_counting K C vs H Q E) : vs.length = 2 := by
  obtain ⟨b, B, n, rfl, _⟩ := h
  rfl
/-- _law_book_here 0, _law_n 1, _law_undone 2, _law_found 3, _law_number 4 -/
def t_l_counting (K : PySem.W.Frag) (C : CA) : TS :=
 (tSeq (tAsg (tLst tNil) (gName 2))
 (tSeq (tAsg (tLst tNil) (gName 3))
 (tSeq (tFor (iList K (tCKw rSortRev (tCons (tVar 0) tNil) (tCons (tC (.bl true)) tNil))) (gName 4)
  (tIfS (tAnd (tTest (tOp (leI) (tVar 4) (tVar 1))) (tTest (tOp (niA K) (tVar 4) (tVar 2)))) (tSeq (tDrop (tBM K "list" rAppend (tVar 3) (tCons (tVar 4) tNil)))
 (tIfS (tTest (tOp (eqA K) (tOp (ixA K) (tOp (ixA K) (tVar 0) (tVar 4)) (tC (.int 0))) (tC (.str "undo")))) (tDrop (tBM K "list" rAppend (tVar 2) (tCons (tOp (ixA K) (tOp (ixA K) (tVar 0) (tVar 4)) (tC (.int 1))) tNil))) tNext)) tNext))
 (tRet (tRevA K (tVar 3))))))
theorem pure_l_counting {K : PySem.W.Frag} {C : CA} {vs : List V} {H : Hp} {Q : VK} {E : XK} (h : sp_l_counting K C vs H Q E) : t_l_counting K C { nx := fun _ H' => Q .non H', rt := Q } (startN 5 vs) H := by
  obtain ⟨b, B, n, rfl, hB, kk⟩ := h
  refine q_asgL (el_lst ea_nil (by decide)) fun u H1 hu e1 h1 => ?_
  refine q_asgL (el_lst ea_nil (by decide)) fun f H2 hf e2 h2 => ?_
  have E2 : Ex H H2 := e1.trans e2
  have nf : H f = none := fresh_back e1 hf
  have nfu : f ≠ u := fun z => by rw [z, h1] at hf; cases hf
  refine q_forNLn (el_downs (ev_var rfl) (hB.mono E2)) (fun q i σ' H' => ∃ o4 found undone, σ' = [some (.ref b), some (.int n), some (.ref u), some (.ref f), o4] ∧ Ex H H' ∧ H2 q = none ∧ H' q = some (.lst ((downs (B.map (·.1))).map V.int)) ∧ H' f = some (.lst (found.map V.int)) ∧ H' u = some (.lst (undone.map V.int)) ∧
      undone.length ≤ i ∧ found.length ≤ i ∧ (found, undone) = countAll B n ((downs (B.map (·.1))).take i))
    (fun q H3 hq e3 h3 => ⟨none, [], [], rfl, E2.trans e3, hq, h3, e3 f _ h2, e3 u _ (e2 u _ h1), Nat.le_refl _, Nat.le_refl _, rfl⟩)
    (fun q i σ' H' _ ⟨_, _, _, _, _, _, hq, _⟩ => sq_of hq) ?_ ?_
  · rintro q i x σ' H' hx ⟨o4, found, undone, rfl, E3, nq, hq, h3, h4, hkl, hfl, hc⟩
    obtain ⟨k, hk1, rfl⟩ := map_get hx
    have hkB : k ∈ B.map (·.1) := (downs_perm _).mem_iff.mp (List.mem_of_getElem? hk1)
    obtain ⟨e, he⟩ := Bk.at_isSome hkB
    have hi : i < 60 := by
      have h1 := (List.getElem?_eq_some_iff.mp hk1).1
      rw [(downs_perm _).length_eq, List.length_map] at h1
      exact Nat.lt_of_lt_of_le h1 hB.few
    have hqf : q ≠ f := fun z => by rw [z] at nq; rw [h2] at nq; cases nq
    have hqu : q ≠ u := fun z => by rw [z] at nq; rw [e2 u _ h1] at nq; cases nq
    have step : countAll B n ((downs (B.map (·.1))).take (i + 1)) = countStep B n (found, undone) k := by rw [take_snoc hk1, countAll_snoc, hc]
    have tst : EvT (tAnd (tTest (tOp leI (tVar 4) (tVar 1))) (tTest (tOp (niA K) (tVar 4) (tVar 2)))) (([some (.ref b), some (.int n), some (.ref u), some (.ref f), o4] : L2.St).set 4 (some (.int k))) H' (decide (k ≤ n) && !decide (k ∈ undone)) := by
      rw [← inV_ints]
      exact et_and (et_test (ev_le (ev_var rfl) (ev_var rfl))) fun _ => et_test (ev_niL (ev_var rfl) (ev_var rfl) (sq_of h4) rfl (flat_ints _))
    refine s_when tst (fun c H4 e4 => ?_) (fun c H4 e4 => ?_)
    · rw [Bool.and_eq_true, decide_eq_true_eq, Bool.not_eq_true', decide_eq_false_iff_not] at c
      have hst : countStep B n (found, undone) k = (found ++ [k], undone ++ e.undoes) := by
        unfold countStep
        rw [if_pos c, he]
        rfl
      refine q_app (xs := found.map V.int) (e4 f _ h3) (ev_var rfl) (ev_var rfl) (by rw [List.length_map]; omega) fun H5 e5 => ?_
      have E5 : Ex H' H5 := e4.trans e5
      have h5f : (upd H5 f (.lst (found.map V.int ++ [V.int k]))) f = some (.lst ((found ++ [k]).map V.int)) := by rw [upd_same, List.map_append]; rfl
      have h5u : (upd H5 f (.lst (found.map V.int ++ [V.int k]))) u = some (.lst (undone.map V.int)) := by rw [upd_ne nfu.symm]; exact E5 u _ h4
      have h5q : (upd H5 f (.lst (found.map V.int ++ [V.int k]))) q = some (.lst ((downs (B.map (·.1))).map V.int)) := by rw [upd_ne hqf]; exact E5 q _ hq
      have E6 : Ex H (upd H5 f (.lst (found.map V.int ++ [V.int k]))) := Ex.mut (E3.trans E5) nf
      generalize upd H5 f (.lst (found.map V.int ++ [V.int k])) = H6 at h5f h5u h5q E6 ⊢
      obtain ⟨kv, t, g1, g2, g3⟩ := (hB.mono E6).get he
      refine s_when (et_test (S.ev_eqS (ev_part 0 (ev_book (ev_var rfl) (ev_var rfl) g1 g2) g3 e.vs0) ev_c)) (fun d H7 e7 => ?_) (fun d H7 e7 => ?_)
      · rw [Ent.word_undo] at d
        cases e with
        | undo j =>
          have g1' := ex_rd e7 g1
          have g3' := g3.mono e7
          refine s_app (xs := undone.map V.int) (e7 u _ h5u) (ev_var rfl) (ev_part 1 (ev_book (ev_var rfl) (ev_var rfl) g1' g2) g3' rfl) (by rw [List.length_map]; omega) fun H8 e8 => ?_
          have E8 : Ex H6 H8 := e7.trans e8
          refine ⟨_, found ++ [k], undone ++ [j], rfl, Ex.mut (E6.trans E8) hu, nq, ?_, ?_, by rw [upd_same, List.map_append]; rfl, by rw [List.length_append]; show undone.length + 1 ≤ i + 1; omega, by rw [List.length_append]; show found.length + 1 ≤ i + 1; omega, by rw [step, hst]; rfl⟩
          · rw [upd_ne hqu]; exact E8 q _ h5q
          · rw [upd_ne nfu]; exact E8 f _ h5f
        | _ => cases d
      · rw [Ent.word_undo] at d
        have hu0 : e.undoes = [] := by cases e <;> first | rfl | cases d
        refine ⟨_, found ++ [k], undone, rfl, E6.trans e7, nq, e7 q _ h5q, e7 f _ h5f, e7 u _ h5u, by omega, by rw [List.length_append]; show found.length + 1 ≤ i + 1; omega, ?_⟩
        rw [step, hst, hu0, List.append_nil]
    · have hst : countStep B n (found, undone) k = (found, undone) := by
        unfold countStep
        rw [if_neg]
        intro z
        rw [decide_eq_true z.1, decide_eq_false z.2] at c
        cases c
      exact ⟨_, found, undone, rfl, E3.trans e4, nq, e4 q _ hq, e4 f _ h3, e4 u _ h4, by omega, by omega, by rw [step, hst]⟩
  · rintro q σ' H' ⟨o4, found, undone, rfl, E3, nq, hq, h3, h4, hkl, hfl, hc⟩
    rw [List.length_map, List.take_length] at hc
    refine s_retL (el_rev (ev_var rfl) (sq_of h3)) fun p H4 hp e4 h4 => ?_
    refine kk p H4 (fresh_back E3 hp) (E3.trans e4) ?_
    rw [h4, ← List.map_reverse]
    unfold countF
    rw [← hc]
/-! ### _law_said -/
/-- the table says what worthF says -/
def SaysF (B : Bk) (n day : Int) (kvs : List (Key × V)) : Prop := ∀ name : Str, (valV kvs (Sum.inr name : Key)).getD .non = optV (worthF B n name day)
def sp_l_said (K : PySem.W.Frag) (C : CA) : Sp := fun vs H Q _ => ∃ (b : Addr) (B : Bk) (n day : Int), vs = [.ref b, .int n, .int day] ∧ BookAt H b B ∧
  ∀ p kvs H', H p = none → Ex H H' → H' p = some (.dK kvs) → SaysF B n day kvs → Q (.ref p) H'
theorem len_l_said {K : PySem.W.Frag} {C : CA} {vs : List V} {H : Hp} {Q : VK} {E : XK} (h : sp_l_said K C vs H Q E) : vs.length = 3 := by
  obtain ⟨b, B, n, day, rfl, _⟩ := h
  rfl
/-- _law_book_here 0, _law_n 1, _law_day 2, _law_table 3, _law_number 4, _law_entry_here 5 -/
def t_l_said (K : PySem.W.Frag) (C : CA) : TS :=
 (tSeq (tAsg tDNewK (gName 3))
 (tSeq (tFor (iList K (tCall (sp_l_counting K C) [] E0 (tCons (tVar 0) (tCons (tVar 1) tNil)))) (gName 4)
  (tSeq (tAsg (tOp (ixA K) (tVar 0) (tVar 4)) (gName 5))
 (tIfS (tAnd (tTest (tOp (neA K) (tOp (ixA K) (tVar 5) (tC (.int 0))) (tC (.str "undo")))) (tTest (tChain (leI) (leI) (tOp (ixA K) (tVar 5) (tC (.int 2))) (tVar 2) (tOp (ixA K) (tVar 5) (tC (.int 3)))))) (tIfS (tTest (tOp (eqA K) (tOp (ixA K) (tVar 5) (tC (.int 0))) (tC (.str "tell")))) (tAsg (tOp (ixA K) (tVar 5) (tC (.int 4))) (gSub (tVar 3) (tOp (ixA K) (tVar 5) (tC (.int 1))) setA)) (tIfS (tTest (tOp (eqA K) (tOp (ixA K) (tVar 5) (tC (.int 0))) (tC (.str "clear")))) (tAsg (tC .non) (gSub (tVar 3) (tOp (ixA K) (tVar 5) (tC (.int 1))) setA)) (tAsg (tDGet2 (tVar 3) (tOp (ixA K) (tVar 5) (tC (.int 4))) (tC .non)) (gSub (tVar 3) (tOp (ixA K) (tVar 5) (tC (.int 1))) setA)))) tNext)))
 (tRet (tVar 3))))
theorem el_lcounting {K : PySem.W.Frag} {C : CA} {σ : L2.St} {H : Hp} {ta tb : TE} {b : Addr} {B : Bk} {n : Int} (ha : Ev ta σ H (.ref b)) (hb : Ev tb σ H (.int n)) (h : BookAt H b B) : EvL (tCall (sp_l_counting K C) [] E0 (tCons ta (tCons tb tNil))) σ H ((countF B n).map V.int) :=
  el_call (ea_cons ha (ea_cons hb ea_nil)) fun H1 e1 Q q E => ⟨b, B, n, rfl, h.mono e1, q⟩
theorem valV_putD (kvs : List (Key × V)) (a b : Str) (v : V) : (valV (putK kvs (Sum.inr a : Key) v) (Sum.inr b : Key)).getD .non = if b = a then v else (valV kvs (Sum.inr b : Key)).getD .non := by
  rw [valV_put]
  by_cases h : b = a
  · rw [if_pos h, if_pos (by rw [h])]; rfl
  · rw [if_neg h, if_neg (fun z => h (Sum.inr.inj z))]
theorem pure_l_said {K : PySem.W.Frag} {C : CA} {vs : List V} {H : Hp} {Q : VK} {E : XK} (h : sp_l_said K C vs H Q E) : t_l_said K C { nx := fun _ H' => Q .non H', rt := Q } (startN 6 vs) H := by
  obtain ⟨b, B, n, day, rfl, hB, kk⟩ := h
  refine q_asgD ed_new fun u H1 hu e1 h1 => ?_
  refine q_forNLn (el_lcounting (ev_var rfl) (ev_var rfl) (hB.mono e1)) (fun q i σ' H' => ∃ o4 o5 kvs, σ' = [some (.ref b), some (.int n), some (.int day), some (.ref u), o4, o5] ∧ Ex H H' ∧ H1 q = none ∧ H' q = some (.lst ((countF B n).map V.int)) ∧ H' u = some (.dK kvs) ∧
      (∀ name : Str, (valV kvs (Sum.inr name : Key)).getD .non = optV (saidL B day ((countF B n).take i).reverse name)) ∧ kvs.length ≤ i)
    (fun q H3 hq e3 h3 => ⟨none, none, [], rfl, e1.trans e3, hq, h3, e3 u _ h1, fun name => rfl, Nat.le_refl _⟩)
    (fun q i σ' H' _ ⟨_, _, _, _, _, _, hq, _⟩ => sq_of hq) ?_ ?_
  · rintro q i x σ' H' hx ⟨o4, o5, kvs, rfl, E3, nq, hq, h4, hk, hkl⟩
    obtain ⟨k, hk1, rfl⟩ := map_get hx
    have hkB : k ∈ B.map (·.1) := (countF_mem (List.mem_of_getElem? hk1)).1
    obtain ⟨e, he⟩ := Bk.at_isSome hkB
    have hi : i < 60 := by
      have h1 := (List.getElem?_eq_some_iff.mp hk1).1
      exact Nat.lt_of_lt_of_le h1 (Nat.le_trans (countF_len B n) hB.few)
    have hqu : q ≠ u := fun z => by rw [z] at nq; rw [h1] at nq; cases nq
    have hrev : ((countF B n).take (i + 1)).reverse = k :: ((countF B n).take i).reverse := by rw [take_snoc hk1, List.reverse_append]; rfl
    rw [hrev]
    obtain ⟨kv, t, g1, g2, g3⟩ := (hB.mono E3).get he
    refine q_asg (ev_book (ev_var rfl) (ev_var rfl) g1 g2) fun H2 e2 => ?_
    have g4 := g3.mono e2
    have E2 : Ex H H2 := E3.trans e2
    have tw : ∀ w : Str, EvT (tTest (tOp (eqA K) (tOp (ixA K) (tVar 5) (tC (.int 0))) (tC (.str w)))) ((([some (.ref b), some (.int n), some (.int day), some (.ref u), o4, o5] : L2.St).set 4 (some (.int k))).set 5 (some (.ref t))) H2 (decide (e.word = w)) := fun w =>
      et_test (S.ev_eqS (ev_part 0 (ev_var rfl) g4 e.vs0) ev_c)
    have tn : EvT (tTest (tOp (neA K) (tOp (ixA K) (tVar 5) (tC (.int 0))) (tC (.str "undo")))) ((([some (.ref b), some (.int n), some (.int day), some (.ref u), o4, o5] : L2.St).set 4 (some (.int k))).set 5 (some (.ref t))) H2 (!e.isUndo) := by
      rw [← Ent.word_undo]
      exact et_test (S.ev_neS (ev_part 0 (ev_var rfl) g4 e.vs0) ev_c)
    have tell3 : ∀ (lo hi : Int), e.vs[2]? = some (.int lo) → e.vs[3]? = some (.int hi) →
        EvT (tAnd (tTest (tOp (neA K) (tOp (ixA K) (tVar 5) (tC (.int 0))) (tC (.str "undo")))) (tTest (tChain leI leI (tOp (ixA K) (tVar 5) (tC (.int 2))) (tVar 2) (tOp (ixA K) (tVar 5) (tC (.int 3))))))
          ((([some (.ref b), some (.int n), some (.int day), some (.ref u), o4, o5] : L2.St).set 4 (some (.int k))).set 5 (some (.ref t))) H2 (!e.isUndo && (decide (lo ≤ day) && decide (day ≤ hi))) := fun lo hi v2 v3 =>
      et_and tn fun _ => et_test (ev_lele (ev_part 2 (ev_var rfl) g4 v2) (ev_var rfl) (ev_part 3 (ev_var rfl) g4 v3))
    have yes : ∀ {lo hi : Int}, (true && (decide (lo ≤ day) && decide (day ≤ hi))) = true → lo ≤ day ∧ day ≤ hi := fun c => by simpa using c
    have no : ∀ {lo hi : Int}, (true && (decide (lo ≤ day) && decide (day ≤ hi))) = false → ¬ (lo ≤ day ∧ day ≤ hi) := fun c z => by
      rw [decide_eq_true z.1, decide_eq_true z.2] at c
      cases c
    -- what is behind a turn that writes v under nm
    have put : ∀ (nm : Str) (v : V) (H3 : Hp), Ex H2 H3 → (∀ name, optV (saidL B day (k :: ((countF B n).take i).reverse) name) = if name = nm then v else optV (saidL B day ((countF B n).take i).reverse name)) →
        ∃ o4 o5 kvs, ((([some (.ref b), some (.int n), some (.int day), some (.ref u), o4, o5] : L2.St).set 4 (some (.int k))).set 5 (some (.ref t))) = [some (.ref b), some (.int n), some (.int day), some (.ref u), o4, o5] ∧ Ex H (upd H3 u (.dK (putK kvs (Sum.inr nm : Key) v))) ∧ True := fun nm v H3 e3 _ => ⟨_, _, kvs, rfl, Ex.mut (E2.trans e3) hu, trivial⟩
    have fin : ∀ (nm : Str) (v : V) (H3 : Hp), Ex H2 H3 → (∀ name, optV (saidL B day (k :: ((countF B n).take i).reverse) name) = if name = nm then v else optV (saidL B day ((countF B n).take i).reverse name)) →
        ∃ o4' o5' kvs', ((([some (.ref b), some (.int n), some (.int day), some (.ref u), o4, o5] : L2.St).set 4 (some (.int k))).set 5 (some (.ref t))) = [some (.ref b), some (.int n), some (.int day), some (.ref u), o4', o5'] ∧ Ex H (upd H3 u (.dK (putK kvs (Sum.inr nm : Key) v))) ∧ H1 q = none ∧
          (upd H3 u (.dK (putK kvs (Sum.inr nm : Key) v))) q = some (.lst ((countF B n).map V.int)) ∧ (upd H3 u (.dK (putK kvs (Sum.inr nm : Key) v))) u = some (.dK kvs') ∧
          (∀ name : Str, (valV kvs' (Sum.inr name : Key)).getD .non = optV (saidL B day (k :: ((countF B n).take i).reverse) name)) ∧ kvs'.length ≤ i + 1 := fun nm v H3 e3 hh =>
      ⟨_, _, putK kvs (Sum.inr nm : Key) v, rfl, Ex.mut (E2.trans e3) hu, nq, by rw [upd_ne hqu]; exact e3 q _ (e2 q _ hq), upd_same, fun name => by rw [valV_putD, hh, hk], by have := length_putK kvs (Sum.inr nm : Key) v; omega⟩
    have skip : ∀ H3, Ex H2 H3 → (∀ name, saidL B day (k :: ((countF B n).take i).reverse) name = saidL B day ((countF B n).take i).reverse name) →
        ∃ o4' o5' kvs', ((([some (.ref b), some (.int n), some (.int day), some (.ref u), o4, o5] : L2.St).set 4 (some (.int k))).set 5 (some (.ref t))) = [some (.ref b), some (.int n), some (.int day), some (.ref u), o4', o5'] ∧ Ex H H3 ∧ H1 q = none ∧
          H3 q = some (.lst ((countF B n).map V.int)) ∧ H3 u = some (.dK kvs') ∧
          (∀ name : Str, (valV kvs' (Sum.inr name : Key)).getD .non = optV (saidL B day (k :: ((countF B n).take i).reverse) name)) ∧ kvs'.length ≤ i + 1 := fun H3 e3 hh =>
      ⟨_, _, kvs, rfl, E2.trans e3, nq, e3 q _ (e2 q _ hq), e3 u _ (e2 u _ h4), fun name => by rw [hh, hk], by omega⟩
    clear put
    have hu2 := e2 u _ h4
    have hkz : kvs.length < 100000 := by omega
    cases e with
    | undo j =>
      refine s_when (et_and (b := false) tn fun c => by cases c) (fun c => by cases c) fun _ H3 e3 => ?_
      exact skip H3 e3 fun name => by rw [saidL, he]
    | tell nm lo hi w =>
      refine s_when (tell3 lo hi rfl rfl) (fun c H3 e3 => ?_) (fun c H3 e3 => ?_)
      · refine s_if ((tw "tell").mono e3) (fun _ H4 e4 => ?_) (fun d => absurd d (by simp [Ent.word]))
        refine s_put (k := (Sum.inr nm : Key)) (ev_part 4 (ev_var rfl) (g4.mono (e3.trans e4)) rfl) (ev_var rfl) (ev_part 1 (ev_var rfl) (g4.mono (e3.trans e4)) rfl) ((e3.trans e4) u _ hu2) hkz fun H5 e5 => ?_
        refine fin nm (.int w) H5 ((e3.trans e4).trans e5) fun name => ?_
        rw [saidL, he]
        dsimp only
        by_cases z : name = nm
        · rw [if_pos z, if_pos ⟨z.symm, yes c⟩]; rfl
        · rw [if_neg z, if_neg fun y => z y.1.symm]
      · exact skip H3 e3 fun name => by rw [saidL, he]; exact if_neg fun z => no c z.2
    | clear nm lo hi =>
      refine s_when (tell3 lo hi rfl rfl) (fun c H3 e3 => ?_) (fun c H3 e3 => ?_)
      · refine s_if ((tw "tell").mono e3) (fun d => absurd (of_decide_eq_true d) w_ct) (fun _ H4 e4 => ?_)
        refine s_if ((tw "clear").mono (e3.trans e4)) (fun _ H5 e5 => ?_) (fun d => absurd d (by simp [Ent.word]))
        refine s_put (k := (Sum.inr nm : Key)) ev_c (ev_var rfl) (ev_part 1 (ev_var rfl) (g4.mono ((e3.trans e4).trans e5)) rfl) (((e3.trans e4).trans e5) u _ hu2) hkz fun H6 e6 => ?_
        refine fin nm .non H6 (((e3.trans e4).trans e5).trans e6) fun name => ?_
        rw [saidL, he]
        dsimp only
        by_cases z : name = nm
        · rw [if_pos z, if_pos ⟨z.symm, yes c⟩]; rfl
        · rw [if_neg z, if_neg fun y => z y.1.symm]
      · exact skip H3 e3 fun name => by rw [saidL, he]; exact if_neg fun z => no c z.2
    | like nm lo hi o =>
      refine s_when (tell3 lo hi rfl rfl) (fun c H3 e3 => ?_) (fun c H3 e3 => ?_)
      · refine s_if ((tw "tell").mono e3) (fun d => absurd (of_decide_eq_true d) w_lt) (fun _ H4 e4 => ?_)
        refine s_if ((tw "clear").mono (e3.trans e4)) (fun d => absurd (of_decide_eq_true d) w_lc) (fun _ H5 e5 => ?_)
        have E5 : Ex H2 H5 := (e3.trans e4).trans e5
        refine s_put (k := (Sum.inr nm : Key)) (ev_get2 (k := (Sum.inr o : Key)) (ev_var rfl) (ev_part 4 (ev_var rfl) (g4.mono E5) rfl) ev_c (.inl (E5 u _ hu2))) (ev_var rfl) (ev_part 1 (ev_var rfl) (g4.mono E5) rfl) (E5 u _ hu2) hkz fun H6 e6 => ?_
        refine fin nm _ H6 (E5.trans e6) fun name => ?_
        rw [hk, saidL, he]
        dsimp only
        by_cases z : name = nm
        · rw [if_pos z, if_pos ⟨z.symm, yes c⟩]
        · rw [if_neg z, if_neg fun y => z y.1.symm]
      · exact skip H3 e3 fun name => by rw [saidL, he]; exact if_neg fun z => no c z.2
  · rintro q σ' H' ⟨o4, o5, kvs, rfl, E3, nq, hq, h4, hk, hkl⟩
    rw [List.length_map, List.take_length] at hk
    refine s_ret (ev_var rfl) fun H4 e4 => ?_
    exact kk u kvs H4 hu (E3.trans e4) (e4 u _ h4) fun name => hk name
section
variable {K : PySem.W.Frag} {C : CA} {σ : L2.St} {H : Hp} {ta tb tc td : TE} {b : Addr} {B : Bk} {n : Int}
/-- _law_said(..).get(name, None) -/
theorem ev_lsaid {name : Str} {day : Int} (ha : Ev ta σ H (.ref b)) (hb : Ev tb σ H (.int n)) (hd : Ev td σ H (.int day)) (hc : Ev tc σ H (.str name)) (h : BookAt H b B) :
    Ev (tDGet2 (tCall (sp_l_said K C) [] E0 (tCons ta (tCons tb (tCons td tNil)))) tc (tC .non)) σ H (optV (worthF B n name day)) := fun H1 e Q q =>
by
  unfold tDGet2 tCall
  refine ea_cons ha (ea_cons hb (ea_cons hd ea_nil)) H1 e _ fun H2 e2 => ⟨b, B, n, day, rfl, h.mono (e.trans e2), fun p kvs H3 hp e3 h3 hs => ?_⟩
  refine ⟨p, rfl, .inl ⟨kvs, .inl h3⟩, hc H3 ((e.trans e2).trans e3) _ fun H4 e4 => ?_⟩
  refine ⟨_, dget_mono (k := (Sum.inr name : Key)) e4 (.inl h3), ?_⟩
  rw [hs]
  exact q H4 ((e2.trans e3).trans e4)
end
theorem scal_opt (a b : Option Int) : scal (optV a) (optV b) = true := by cases a <;> cases b <;> rfl
theorem optV_inj {a b : Option Int} : (optV a = optV b) ↔ a = b := by
  constructor
  · intro h
    cases a <;> cases b <;> first | rfl | (cases h; done) | (cases h; rfl)
  · rintro rfl; rfl
/-! ### _law_right -/
def sp_l_right (K : PySem.W.Frag) (C : CA) : Sp := fun vs H Q _ => ∃ (b : Addr) (B : Bk) (n : Int) (name : Str) (day : Int), vs = [.ref b, .int n, .str name, .int day] ∧ BookAt H b B ∧
  ∀ H', Ex H H' → Q (.bl true) H'
theorem len_l_right {K : PySem.W.Frag} {C : CA} {vs : List V} {H : Hp} {Q : VK} {E : XK} (h : sp_l_right K C vs H Q E) : vs.length = 4 := by
  obtain ⟨b, B, n, name, day, rfl, _⟩ := h
  rfl
/-- _law_book_here 0, _law_n 1, _law_name 2, _law_day 3, _law_found 4 -/
def t_l_right (K : PySem.W.Frag) (C : CA) : TS :=
 (tSeq (tAsg (tCall (sp_worth_of K C) [] E0 (tCons (tVar 0) (tCons (tVar 1) (tCons (tVar 2) (tCons (tVar 3) tNil))))) (gName 4))
 (tSeq (tIfS (tOr (tB (tCB (rIsi K) (tCons (tVar 4) (tCons (tC (.ty "bool")) tNil)))) (tAnd (tTest (tOp (ntN) (tVar 4) (tC .non))) (tNot (tB (tCB (rIsi K) (tCons (tVar 4) (tCons (tC (.ty "int")) tNil))))))) (tRet (tC (.bl false))) tNext)
 (tRet (tOp (eqA K) (tVar 4) (tDGet2 (tCall (sp_l_said K C) [] E0 (tCons (tVar 0) (tCons (tVar 1) (tCons (tVar 3) tNil)))) (tVar 2) (tC .non))))))
theorem pure_l_right {K : PySem.W.Frag} {C : CA} {vs : List V} {H : Hp} {Q : VK} {E : XK} (h : sp_l_right K C vs H Q E) : t_l_right K C { nx := fun _ H' => Q .non H', rt := Q } (startN 5 vs) H := by
  obtain ⟨b, B, n, name, day, rfl, hB, kk⟩ := h
  refine q_asg (ev_worth (ev_var rfl) (ev_var rfl) (ev_var rfl) (ev_var rfl) hB) fun H1 e1 => ?_
  refine q_when (b := false) ?_ (fun c => by cases c) fun _ H2 e2 => ?_
  · cases worthF B n name day with
    | none =>
      have h1 := ev_isi (K := K) (T := "bool") (t := "NoneType") (k := false) (H := H1) (ta := tVar 4) (σ := (startN 5 [V.ref b, V.int n, V.str name, V.int day]).set 4 (some (optV none))) (ev_var rfl) (fun H1 _ => .base .non) (by decide +kernel)
      have h2 := et_test (ev_ntN (H := H1) (ta := tVar 4) (σ := (startN 5 [V.ref b, V.int n, V.str name, V.int day]).set 4 (some (optV none))) (x := .non) (ev_var rfl))
      exact et_or (a := false) (b := false) (et_B h1) fun _ => et_and (a := false) (b := true) h2 fun c => by cases c
    | some i =>
      have h1 := ev_isi (K := K) (T := "bool") (t := "int") (k := false) (H := H1) (ta := tVar 4) (σ := (startN 5 [V.ref b, V.int n, V.str name, V.int day]).set 4 (some (optV (some i)))) (ev_var rfl) (fun H1 _ => .base (.int _)) (by decide +kernel)
      have h2 := et_test (ev_ntN (H := H1) (ta := tVar 4) (σ := (startN 5 [V.ref b, V.int n, V.str name, V.int day]).set 4 (some (optV (some i)))) (x := .int i) (ev_var rfl))
      have h3 := ev_isi (K := K) (T := "int") (t := "int") (k := true) (H := H1) (ta := tVar 4) (σ := (startN 5 [V.ref b, V.int n, V.str name, V.int day]).set 4 (some (optV (some i)))) (ev_var rfl) (fun H1 _ => .base (.int _)) (by decide +kernel)
      exact et_or (a := false) (b := false) (et_B h1) fun _ => et_and (a := true) (b := false) h2 fun _ => et_not (et_B h3)
  · refine s_ret (ev_eq (ev_var rfl) (ev_lsaid (ev_var rfl) (ev_var rfl) (ev_var rfl) (ev_var rfl) (hB.mono (e1.trans e2))) (scal_opt _ _)) fun H3 e3 => ?_
    rw [decide_eq_true rfl]
    exact kk H3 ((e1.trans e2).trans e3)
end S
end
set_option Elab.async false
set_option linter.all false
set_option maxRecDepth 100000
set_option maxHeartbeats 4000000
section
open PySem L2 Evl S
local macro_rules | `(tactic| array_get_dec) => `(tactic| first
  | exact ev_c
  | exact ev_var rfl
  | exact S.eo_no
  | exact ea_nil
  | (apply S.eo_some <;> array_get_dec)
  | (apply ea_cons <;> array_get_dec)
  | (apply S.ev_add <;> array_get_dec)
  | (apply S.ev_sub <;> array_get_dec)
  | (apply S.ev_div <;> first | array_get_dec | exact ⟨by decide, by decide⟩ | exact ⟨by omega, by omega⟩)
  | (apply S.ev_mod <;> first | array_get_dec | decide | omega)
  | (apply S.ev_mulr <;> first | array_get_dec | exact ⟨by decide, by decide⟩ | exact ⟨by omega, by omega⟩)
  | (apply S.ev_mull <;> first | array_get_dec | exact ⟨by decide, by decide⟩ | exact ⟨by omega, by omega⟩)
  | (apply S.ev_neg <;> array_get_dec)
  | (apply S.ev_min <;> array_get_dec)
  | (apply S.ev_max <;> array_get_dec)
  | (apply S.ev_eqI <;> array_get_dec)
  | (apply S.ev_eqS <;> array_get_dec)
  | (apply S.ev_neI <;> array_get_dec)
  | (apply S.ev_neS <;> array_get_dec)
  | (apply S.ev_lt <;> array_get_dec)
  | (apply S.ev_le <;> array_get_dec)
  | (apply S.ev_gt <;> array_get_dec)
  | (apply S.ev_ge <;> array_get_dec)
  | (apply S.ev_intB <;> array_get_dec)
  | (apply et_test <;> array_get_dec)
  | (apply et_B <;> array_get_dec)
  | (apply et_not <;> array_get_dec)
  | (refine' et_and ?_ (fun _ => ?_) <;> array_get_dec)
  | (refine' et_or ?_ (fun _ => ?_) <;> array_get_dec))
namespace S
/-! ### how a law begins -/
section
variable {K : PySem.W.Frag} {C : CA} {σ : L2.St} {H : Hp} {ta tb tc td : TE} {b : Addr} {B : Bk} {n : Int} {D : Ends} {tu tz : TS}
theorem NewBk.back {H H1 H' : Hp} {p : Addr} (e : Ex H H1) (h : NewBk H1 H' p B) : NewBk H H' p B := ⟨fresh_back e h.new, e.trans h.ex, h.dk, h.nd, h.few⟩
theorem at_bookN {a : Addr} {ns : List Int} {many : Nat} {Q : VK} (ha : Ev ta σ H (.ref a)) (hb : Ev tb σ H (.int (many : Int))) (hS : SqL K H a (ns.map V.int)) (hl : ns.length ≤ 100) (hm : many ≤ 14)
    (k : ∀ p B H1, NewBk H H1 p B → B.length ≤ many → GoodBk B → (∀ q ∈ B, q.1 ≤ 40) → (∀ q ∈ B, ∀ m, q.2.nm = some m → m ∈ namesF (ns.getD 1 0)) → Q (.ref p) H1) : tCall (sp_l_book K C) [] E0 (tCons ta (tCons tb tNil)) σ H Q := by
  unfold tCall
  exact ea_cons ha (ea_cons hb ea_nil) H (Ex.refl H) _ fun H1 e1 => ⟨a, ns, many, rfl, ex_l e1 hS, hl, hm, fun p B H' h1 h2 h3 h4 h5 => k p B H' (h1.back e1) h2 h3 h4 h5⟩
theorem at_book {a : Addr} {ns : List Int} {many : Nat} {Q : VK} (ha : Ev ta σ H (.ref a)) (hb : Ev tb σ H (.int (many : Int))) (hS : SqL K H a (ns.map V.int)) (hl : ns.length ≤ 100) (hm : many ≤ 14)
    (k : ∀ p B H1, NewBk H H1 p B → B.length ≤ many → GoodBk B → (∀ q ∈ B, q.1 ≤ 40) → Q (.ref p) H1) : tCall (sp_l_book K C) [] E0 (tCons ta (tCons tb tNil)) σ H Q := at_bookN ha hb hS hl hm fun p B H1 h1 h2 h3 h4 _ => k p B H1 h1 h2 h3 h4
def baseF (ns : List Int) : Int := [(0 : Int), 7, 300, 999982].getD (ns.getD 0 0 % 4).toNat 0
theorem baseF_ok (ns : List Int) : 0 ≤ baseF ns ∧ baseF ns ≤ 999982 := by
  obtain ⟨b, hb, h0, h1⟩ := base_ok (ns.getD 0 0)
  unfold baseF
  rw [← hb]
  exact ⟨h0, h1⟩
theorem ev_base {a : Addr} {ns : List Int} (ha : Ev ta σ H (.ref a)) (hS : SqL K H a (ns.map V.int)) (hl : ns.length ≤ 100) : Ev (tCall (sp_l_base K C) [] E0 (tCons ta tNil)) σ H (.int (baseF ns)) :=
  ev_call (ea_cons ha ea_nil) fun H1 e1 Q q E => ⟨a, ns, rfl, ex_l e1 hS, hl, fun H' b e hb => by rw [hb]; exact q H' e⟩
/-- the greatest number, 0 where there is none -/
def maxK (B : Bk) : Int := (B.map (·.1)).foldr max 0
theorem foldr_max_le (l : List Int) : ∀ y ∈ l, y ≤ l.foldr max 0 := by
  induction l with
  | nil => intro y h; cases h
  | cons x r ih =>
    intro y h
    rw [List.foldr_cons]
    rcases List.mem_cons.mp h with h | h
    · rw [h]; exact Int.le_max_left _ _
    · exact Int.le_trans (ih y h) (Int.le_max_right _ _)
theorem foldr_max_mem (l : List Int) (h : ∀ y ∈ l, 1 ≤ y) (hn : l ≠ []) : l.foldr max 0 ∈ l := by
  induction l with
  | nil => exact absurd rfl hn
  | cons x r ih =>
    rw [List.foldr_cons]
    by_cases hr : r = []
    · subst hr
      have := h x List.mem_cons_self
      rw [List.foldr_nil, Int.max_eq_left (by omega)]
      exact List.mem_cons_self
    · have := ih (fun y hy => h y (List.mem_cons_of_mem _ hy)) hr
      rcases Int.le_total x (r.foldr max 0) with z | z
      · rw [Int.max_eq_right z]; exact List.mem_cons_of_mem _ this
      · rw [Int.max_eq_left z]; exact List.mem_cons_self
theorem foldr_max_nn (l : List Int) : 0 ≤ l.foldr max 0 := by
  induction l with
  | nil => exact Int.le_refl _
  | cons x r ih => rw [List.foldr_cons]; exact Int.le_trans ih (Int.le_max_right _ _)
theorem maxK_nn (B : Bk) : 0 ≤ maxK B := foldr_max_nn _
theorem maxK_le {B : Bk} {k : Int} (h : k ∈ B.map (·.1)) : k ≤ maxK B := foldr_max_le _ k h
theorem maxK_mem {B : Bk} (h : GoodBk B) (hn : B ≠ []) : maxK B ∈ B.map (·.1) := foldr_max_mem _ (fun y hy => by
  obtain ⟨q, hq, rfl⟩ := List.mem_map.mp hy
  exact (h q hq).1) (by simpa using hn)
theorem ev_maxD (ha : Ev ta σ H (.ref b)) (h : BookAt H b B) (g : GoodBk B) : Ev (tCKw rMaxD (tCons ta tNil) (tCons (tC (.int 0)) tNil)) σ H (.int (maxK B)) := fun H1 e Q q => by
  unfold tCKw tCons tNil
  refine ha H1 e _ fun H2 e2 => ?_
  obtain ⟨kvs, h1, h2⟩ := (h.mono (e.trans e2)).ex
  have hk : IntKeys kvs (B.map (·.1)) := h2.keys
  refine ⟨b, kvs, _, 0, rfl, rfl, h1, hk, fun m m1 m2 => ?_⟩
  have em : m = maxK B := by
    by_cases hB : B = []
    · subst hB; exact m1 rfl
    · obtain ⟨a1, a2⟩ := m2 (by simpa using hB)
      have a3 := a2 _ (maxK_mem g hB)
      have a4 := maxK_le a1
      omega
  rw [em]
  exact q H2 e2
/-- names stand in a list -/
def NamesAt (n : Nat) : Hp → V → Prop := fun H v => ∃ (p : Addr) (xs : List Str), v = .ref p ∧ H p = some (.lst (xs.map V.str)) ∧ xs.length = n ∧ ∀ x ∈ xs, NameS x
theorem ex_names (ha : Ev ta σ H (.int n)) : EvX (tCall (sp_l_names K C) [] E0 (tCons ta (tCons (tC (.int 3)) tNil))) σ H (NamesAt 3) := fun H1 e Q q => by
  unfold tCall
  exact ea_cons ha (ea_cons ev_c ea_nil) H1 e _ fun H2 e2 => ⟨n, rfl, fun p xs H' hp e3 h3 g _ => q _ H' (e2.trans e3) ⟨p, xs, rfl, h3, g.1, g.2⟩⟩
/-- .. exactly these -/
theorem ex_namesF (ha : Ev ta σ H (.int n)) : EvX (tCall (sp_l_names K C) [] E0 (tCons ta (tCons (tC (.int 3)) tNil))) σ H (fun H v => ∃ p, v = .ref p ∧ H p = some (.lst ((namesF n).map V.str))) := fun H1 e Q q => by
  unfold tCall
  exact ea_cons ha (ea_cons ev_c ea_nil) H1 e _ fun H2 e2 => ⟨n, rfl, fun p xs H' hp e3 h3 g hx => q _ H' (e2.trans e3) ⟨p, rfl, by rw [h3, hx]⟩⟩
theorem name_other : NameS ("other" : Str) := by
  refine ⟨by decide +kernel, by decide +kernel, ?_⟩
  have h : ((("other" : Str)).cps.toList.all fun c => decide (97 ≤ c) && decide (c ≤ 122)) = true := by decide +kernel
  intro c hc
  have := List.all_eq_true.mp h c hc
  rw [Bool.and_eq_true, decide_eq_true_eq, decide_eq_true_eq] at this
  exact this
theorem ex_names4 (ha : Ev ta σ H (.int n)) : EvX (tOp (addA K) (tCall (sp_l_names K C) [] E0 (tCons ta (tCons (tC (.int 3)) tNil))) (tLst (tCons (tC (.str "other")) tNil))) σ H (NamesAt 4) := fun H1 e Q q => by
  unfold tOp
  refine ex_names ha H1 e _ fun v H2 e2 ⟨p, xs, ev, h2, hl, hn⟩ => ?_
  subst ev
  refine el_lst (vs := [V.str "other"]) (ea_cons ev_c ea_nil) (by decide) H2 (Ex.refl H2) _ fun r H3 hr e3 h3 => ?_
  refine .inr (.inr (.inl ⟨p, r, _, _, rfl, rfl, e3 p _ h2, h3, sz_of (by rw [List.length_map, hl]; show 3 + 1 ≤ _; omega), fun l hl2 => q _ _ ((e2.trans e3).trans (Ex.new hl2)) ⟨l, xs ++ [("other" : Str)], rfl, ?_, ?_, ?_⟩⟩))
  · rw [upd_same, List.map_append]; rfl
  · rw [List.length_append, hl]; rfl
  · intro x hx
    rcases List.mem_append.mp hx with h | h
    · exact hn x h
    · rw [List.mem_singleton.mp h]; exact name_other
theorem NamesAt.mono {n : Nat} {H H' : Hp} {v : V} (e : Ex H H') (h : NamesAt n H v) : NamesAt n H' v := let ⟨p, xs, h1, h2, h3⟩ := h; ⟨p, xs, h1, e p _ h2, h3⟩
/-- one of the names -/
theorem ev_nameN {p : Addr} {xs : List Str} (i : Nat) (ha : Ev ta σ H (.ref p)) (h : H p = some (.lst (xs.map V.str))) (hi : i < xs.length) : Ev (tOp (ixA K) ta (tC (.int (i : Int)))) σ H (.str (xs.getD i Str.empty)) := by
  have := ev_name (K := K) (i := (i : Int)) ha ev_c (sq_of h) (by omega) (by omega)
  rw [Int.toNat_natCast] at this
  exact this
theorem ev_nameI {p : Addr} {xs : List Str} {i : Int} (ha : Ev ta σ H (.ref p)) (hb : Ev tb σ H (.int i)) (h : H p = some (.lst (xs.map V.str))) (h0 : 0 ≤ i) (hi : i < xs.length) : Ev (tOp (ixA K) ta tb) σ H (.str (xs.getD i.toNat Str.empty)) :=
  ev_name ha hb (sq_of h) h0 hi
/-- list(book.values())[i::k], for entries -/
theorem s_forVals {i k : Int} {j : Nat} {H0 : Hp} {kvs : List (Key × V)} (ha : Ev ta σ H (.ref b)) (h1 : Rd H b (.dK kvs)) (h2 : BkRel H0 kvs B) (hB : B.length ≤ 60) (hb : Ev tb σ H (.int i)) (hk : 0 < k) (Pv : Addr → List V → Nat → L2.St → Hp → Prop)
    (h0 : ∀ q xs H1, H q = none → Ex H H1 → H1 q = some (.lst xs) → (∀ x ∈ xs, ∃ t e, x = .ref t ∧ EntAt H0 t e ∧ ∃ k, (k, e) ∈ B) → xs.length ≤ 60 → Pv q xs 0 σ H1) (hl : ∀ q xs i σ' H', Pv q xs i σ' H' → SqL K H' q xs)
    (hs : ∀ q xs i x σ' H', xs[i]? = some x → Pv q xs i σ' H' → tu { D with nx := Pv q xs (i + 1), ct := Pv q xs (i + 1), bk := tz D } (σ'.set j (some x)) H') (hd : ∀ q xs σ' H', Pv q xs xs.length σ' H' → tz D σ' H') :
    tSeq (tFor (iList K (tStep K (tListVals ta) tb k)) (gName j) tu) tz D σ H := by
  unfold tSeq tFor iList tStep tSl3 tListVals tPart tNoPart
  refine ha H (Ex.refl H) _ fun H1 e1 => ⟨b, kvs, rfl, ex_rd e1 h1, fun p hp => ?_⟩
  refine hb (upd H1 p _) (e1.trans (Ex.new hp)) _ fun H2 e2 => ⟨i, rfl, ?_⟩
  refine ⟨k, rfl, ⟨k, rfl, hk⟩, p, _, rfl, sq_of (e2 p _ upd_same), fun q zs hz hm hq => ?_⟩
  have E2 : Ex H H2 := (e1.trans (Ex.new hp)).trans e2
  refine ⟨q, rfl, ⟨zs, sq_of upd_same⟩, for_list (g := gName j) (tb := tu) (D := { D with nx := tz D }) (Pv q zs) (h0 q zs _ (fresh_back E2 hq) (E2.trans (Ex.new hq)) upd_same (fun x hx => ?_) ?_) (fun i σ' H' _ => hl q zs i σ' H') (fun i x σ' H' hx p => hs q zs i x σ' H' hx p) (hd q zs)⟩
  · obtain ⟨kv, hkv, rfl⟩ := List.mem_map.mp (hm x hx)
    obtain ⟨y, hy, _, t, e1, e2⟩ := paired_mem h2 kv hkv
    exact ⟨t, y.2, e1, e2, y.1, hy⟩
  · rw [List.length_map, h2.len] at hz
    exact Nat.le_trans hz hB
end
theorem TupR.all {α : Type} {f : α → List V} {H H' : Hp} {xs : List V} {ys : List α} (e : Ex H H') (h : Paired (TupR f H) xs ys) : Paired (TupR f H') xs ys := Paired.imp (fun _ _ ⟨p, h1, h2⟩ => ⟨p, h1, e p _ h2⟩) h
theorem TupR.allT {α : Type} {f : α → List V} {H H' : Hp} {xs : List V} {ys : List α} (e : ExT H H') (h : Paired (TupR f H) xs ys) : Paired (TupR f H') xs ys := Paired.imp (fun _ _ ⟨p, h1, h2⟩ => ⟨p, h1, e p _ h2⟩) h
/-! ### what is asked -/
def ask3 (q : Int × Str × Int) : List V := [.int q.1, .str q.2.1, .int q.2.2]
/-- a list of what is asked -/
def Asked (H : Hp) (p : Addr) (n : Nat) : Prop := ∃ xs ys, H p = some (.lst xs) ∧ Paired (TupR ask3 H) xs ys ∧ xs.length ≤ n
def sp_law_k04 (K : PySem.W.Frag) (C : CA) : Sp := fun vs H Q _ => ∃ (a : Addr) (ns : List Int), vs = [.ref a] ∧ SqL K H a (ns.map V.int) ∧ ns.length ≤ 63 ∧ ∀ H', Q (.bl true) H'
theorem len_law_k04 {K : PySem.W.Frag} {C : CA} {vs : List V} {H : Hp} {Q : VK} {E : XK} (h : sp_law_k04 K C vs H Q E) : vs.length = 1 := by
  obtain ⟨a, ns, rfl, _⟩ := h
  rfl
/-- _law_script 0, _law_book_here 1, _law_names_here 2, _law_kept 3, _law_n 4, _law_day 5, _law_asked 6, _law_entry_here 7, _law_one 8, _law_name 9 -/
def t_law_k04 (K : PySem.W.Frag) (C : CA) : TS :=
 (tSeq (tAsg (tCall (sp_l_book K C) [] E0 (tCons (tVar 0) (tCons (tC (.int 14)) tNil))) (gName 1))
 (tSeq (tAsg (tOp (addA K) (tCall (sp_l_names K C) [] E0 (tCons (tCall (sp_l_of K C) [] E0 (tCons (tVar 0) (tCons (tC (.int 1)) tNil))) (tCons (tC (.int 3)) tNil))) (tLst (tCons (tC (.str "other")) tNil))) (gName 2))
 (tSeq (tAsg (tCB (dictC K) (tCons (tVar 1) tNil)) (gName 3))
 (tSeq (tAsg (tOp (modI) (tCall (sp_l_of K C) [] E0 (tCons (tVar 0) (tCons (tC (.int 2)) tNil))) (tOp (addA K) (tCKw rMaxD (tCons (tVar 1) tNil) (tCons (tC (.int 0)) tNil)) (tC (.int 3)))) (gName 4))
 (tSeq (tAsg (tCB rMax2 (tCons (tC (.int 0)) (tCons (tCB rMin2 (tCons (tC (.int 1000000)) (tCons (tOp (subI) (tOp (addA K) (tCall (sp_l_base K C) [] E0 (tCons (tVar 0) tNil)) (tOp (modI) (tCall (sp_l_of K C) [] E0 (tCons (tVar 0) (tCons (tC (.int 3)) tNil))) (tC (.int 20)))) (tC (.int 1))) tNil))) tNil))) (gName 5))
 (tSeq (tAsg (tLc (iList K (tVar 2)) (gName 9) tYes (tTup (tCons (tVar 4) (tCons (tVar 9) (tCons (tVar 5) tNil)))) [9]) (gName 6))
 (tSeq (tAsg (tOp (addA K) (tVar 6) (tLst (tCons (tTup (tCons (tCB rMax2 (tCons (tC (.int 0)) (tCons (tOp (subI) (tVar 4) (tC (.int 1))) tNil))) (tCons (tOp (ixA K) (tVar 2) (tC (.int 0))) (tCons (tVar 5) tNil)))) (tCons (tTup (tCons (tVar 4) (tCons (tOp (ixA K) (tVar 2) (tC (.int 1))) (tCons (tCB rMin2 (tCons (tC (.int 1000000)) (tCons (tOp (addA K) (tVar 5) (tC (.int 1))) tNil))) tNil)))) (tCons (tTup (tCons (tVar 4) (tCons (tOp (ixA K) (tVar 2) (tC (.int 0))) (tCons (tVar 5) tNil)))) tNil))))) (gName 6))
 (tSeq (tFor (iList K (tStep K (tListVals (tVar 1)) (tOp (modI) (tOp (divI) (tCall (sp_l_of K C) [] E0 (tCons (tVar 0) (tCons (tC (.int 3)) tNil))) (tC (.int 20))) (tC (.int 5))) 5)) (gName 7)
  (tIfS (tTest (tOp (neA K) (tOp (ixA K) (tVar 7) (tC (.int 0))) (tC (.str "undo")))) (tSeq (tAsg (tOp (addA K) (tVar 6) (tLst (tCons (tTup (tCons (tVar 4) (tCons (tOp (ixA K) (tVar 7) (tC (.int 1))) (tCons (tOp (ixA K) (tVar 7) (tC (.int 2))) tNil)))) (tCons (tTup (tCons (tVar 4) (tCons (tOp (ixA K) (tVar 7) (tC (.int 1))) (tCons (tOp (ixA K) (tVar 7) (tC (.int 3))) tNil)))) tNil)))) (gName 6))
 (tDrop (tBM K "list" rAppend (tVar 6) (tCons (tTup (tCons (tVar 4) (tCons (tOp (ixA K) (tVar 7) (tC (.int 1))) (tCons (tCB rMin2 (tCons (tC (.int 1000000)) (tCons (tOp (addA K) (tOp (ixA K) (tVar 7) (tC (.int 3))) (tC (.int 1))) tNil))) tNil)))) tNil)))) tNext))
 (tSeq (tFor (iList K (tVar 6)) (gName 8)
  (tIfS (tNot (tB (tCall (sp_l_right K C) [] E0 (tCons (tVar 1) (tCons (tOp (ixA K) (tVar 8) (tC (.int 0))) (tCons (tOp (ixA K) (tVar 8) (tC (.int 1))) (tCons (tOp (ixA K) (tVar 8) (tC (.int 2))) tNil))))))) (tRet (tC (.bl false))) tNext))
 (tRet (tOp (eqA K) (tVar 1) (tVar 3))))))))))))
theorem pure_law_k04 {K : PySem.W.Frag} {C : CA} {vs : List V} {H : Hp} {Q : VK} {E : XK} (h : sp_law_k04 K C vs H Q E) : t_law_k04 K C { nx := fun _ H' => Q .non H', rt := Q } (startN 10 vs) H := by
  obtain ⟨a, ns, rfl, hS, hl63, kk⟩ := h
  have hl : ns.length ≤ 100 := by omega
  refine at_book (many := 14) (ev_var rfl) ev_c hS hl (by omega) fun b B H1 nb hBl hg h40 => ?_
  show tSeq _ _ _ _ H1
  have E1 : Ex H H1 := nb.ex
  refine q_asgX (ex_names4 (ev_of (k := 1) (ev_var rfl) ev_c (ex_l E1 hS) hl)) fun v2 H2 e2 ⟨pn, xs, ev2, hxs, hxl, hxn⟩ => ?_
  subst ev2
  have hB2 := nb.at.mono e2
  show tSeq _ _ _ _ H2
  refine ed_book (ev_var rfl) hB2 H2 (Ex.refl H2) _ fun c H3 nc => ?_
  show tSeq _ _ _ _ H3
  have hB3 := hB2.mono nc.ex
  have hC3 := nc.at
  have E3 : Ex H H3 := (E1.trans e2).trans nc.ex
  have hpos : (0 : Int) < maxK B + 3 := by have := maxK_nn B; omega
  refine q_asg (ev_mod (ev_of (k := 2) (ev_var rfl) ev_c (ex_l E3 hS) hl) (ev_add (ev_maxD (ev_var rfl) hB3 hg) ev_c) hpos) fun H4 e4 => ?_
  refine q_asg (ev_max ev_c (ev_min ev_c (ev_sub (ev_add (ev_base (ev_var rfl) (ex_l (E3.trans e4) hS) hl) (ev_mod (ev_of (k := 3) (ev_var rfl) ev_c (ex_l (E3.trans e4) hS) hl) ev_c (by decide))) ev_c))) fun H5 e5 => ?_
  generalize (if (if baseF ns + ns.getD 3 0 % 20 - 1 < 1000000 then baseF ns + ns.getD 3 0 % 20 - 1 else 1000000) > 0 then (if baseF ns + ns.getD 3 0 % 20 - 1 < 1000000 then baseF ns + ns.getD 3 0 % 20 - 1 else 1000000) else (0 : Int)) = day
  generalize ns.getD 2 0 % (maxK B + 3) = n
  have E35 : Ex H3 H5 := e4.trans e5
  have hB5 := hB3.mono E35
  have hC5 := hC3.mono E35
  have hxs5 : H5 pn = some (.lst (xs.map V.str)) := (nc.ex.trans E35) pn _ hxs
  have E5 : Ex H H5 := E3.trans E35
  -- what is asked
  refine q_asgP (F := TupR ask3) (ep_lcL (F := TupR ask3) (G := ValR V.str) (fun _ => true) (fun nm => (n, nm, day)) TupR.mo ValR.mo.mo (ev_var rfl) (sq_of hxs5) (paired_map V.str xs) (by omega) (fun x => rfl) (fun x z H6 e6 _ _ => et_yes) fun x z H6 e6 _ hx _ => by
    have hx' : x = .str z := hx
    subst hx'
    exact ex_evU (eu_tup (ea_cons (ev_var rfl) (ea_cons (ev_var rfl) (ea_cons (ev_var rfl) ea_nil))) (by simp)) fun p H7 _ h7 => ⟨p, rfl, h7⟩) fun p6 us6 H6 hp6 e6 h6 hps6 => ?_
  have hxs6 := e6 pn _ hxs5
  refine q_asgP (F := TupR ask3) (ep_catV (F := TupR ask3) (zs := [((if n - 1 > 0 then n - 1 else 0), xs.getD 0 Str.empty, day), (n, xs.getD 1 Str.empty, (if day + 1 < 1000000 then day + 1 else 1000000)), (n, xs.getD 0 Str.empty, day)]) TupR.mo.mo (ev_var rfl) h6 hps6 (ep_lst TupR.mo.mo (eap_cons TupR.mo.mo ?_ (eap_cons TupR.mo.mo ?_ (eap_cons TupR.mo.mo ?_ eap_nil))) (by simp)) ?_) fun p7 us7 H7 hp7 e7 h7 hps7 => ?_
  · exact ex_evU (eu_tup (ea_cons (ev_max ev_c (ev_sub (ev_var rfl) ev_c)) (ea_cons (ev_nameN 0 (ev_var rfl) hxs6 (by omega)) (ea_cons (ev_var rfl) ea_nil))) (by simp)) fun p H7 _ h7 => ⟨p, rfl, h7⟩
  · exact ex_evU (eu_tup (ea_cons (ev_var rfl) (ea_cons (ev_nameN 1 (ev_var rfl) hxs6 (by omega)) (ea_cons (ev_min ev_c (ev_add (ev_var rfl) ev_c)) ea_nil))) (by simp)) fun p H7 _ h7 => ⟨p, rfl, h7⟩
  · exact ex_evU (eu_tup (ea_cons (ev_var rfl) (ea_cons (ev_nameN 0 (ev_var rfl) hxs6 (by omega)) (ea_cons (ev_var rfl) ea_nil))) (by simp)) fun p H7 _ h7 => ⟨p, rfl, h7⟩
  · rw [List.length_map]
    have := List.length_filter_le (fun _ => true) xs
    show _ + 3 ≤ _
    omega
  have hl7 : us7.length ≤ 10 := by
    rw [Paired.length hps7, List.length_append, List.length_map]
    have := List.length_filter_le (fun _ => true) xs
    show _ + 3 ≤ _
    omega
  have E57 : Ex H5 H7 := e6.trans e7
  obtain ⟨kvs, g1, g2⟩ := hB5.ex
  have asked : ∀ (n' d' : Int) (nm : Str) (te td : TE) (σ : L2.St) (H : Hp), Ev te σ H (.str nm) → Ev td σ H (.int d') → Ev (tVar 4) σ H (.int n) → EvX (tTup (tCons (tVar 4) (tCons te (tCons td tNil)))) σ H fun H v => TupR ask3 H v (n, nm, d') := fun n' d' nm te td σ H h1 h2 h3 =>
    ex_evU (eu_tup (ea_cons h3 (ea_cons h1 (ea_cons h2 ea_nil))) (by simp)) fun p H7 _ h7 => ⟨p, rfl, h7⟩
  refine s_forVals (K := K) (ev_var rfl) (ex_rd E57 g1) g2 hB5.few (ev_mod (ev_div (ev_of (k := 3) (ev_var rfl) ev_c (ex_l (E5.trans E57) hS) hl) ev_c ⟨by decide, by decide⟩) ev_c (by decide)) (by decide)
    (fun q zs i σ' H' => ∃ o7 p, σ' = [some (.ref a), some (.ref b), some (.ref pn), some (.ref c), some (.int n), some (.int day), some (.ref p), o7, none, none] ∧ Ex H5 H' ∧ H5 p = none ∧ H' q = some (.lst zs) ∧ H5 q = none ∧ q ≠ p ∧ Asked H' p (10 + 3 * i) ∧ (∀ x ∈ zs, ∃ t e, x = .ref t ∧ EntAt H5 t e ∧ ∃ k, (k, e) ∈ B) ∧ zs.length ≤ 60)
    (fun q zs H8 hq e8 h8 hz hzl => ⟨none, p7, rfl, E57.trans e8, fresh_back e6 hp7, h8, fresh_back E57 hq, (fun z => by rw [z, h7] at hq; cases hq), ⟨us7, _, e8 p7 _ h7, TupR.all e8 hps7, by omega⟩, hz, hzl⟩)
    (fun q zs i σ' H' ⟨_, _, _, _, _, h, _⟩ => sq_of h) ?_ ?_
  · rintro q zs i x σ' H' hx ⟨o7, p, rfl, E5', np, hq, nq, hqp, ⟨us, ys, hp, hps, hul⟩, hz, hzl⟩
    obtain ⟨t, e, rfl, ht, k, hk⟩ := hz x (List.mem_of_getElem? hx)
    have hi : i < 60 := by have := (List.getElem?_eq_some_iff.mp hx).1; omega
    have ht' := ht.mono E5'
    refine s_when (et_test (S.ev_neS (ev_part 0 (ev_var rfl) ht' e.vs0) ev_c)) (fun d H8 e8 => ?_) (fun d H8 e8 => ?_)
    · rw [Ent.word_undo] at d
      have hv : ∃ nm lo hi, e.vs[1]? = some (.str nm) ∧ e.vs[2]? = some (.int lo) ∧ e.vs[3]? = some (.int hi) := by
        cases e with
        | undo j => cases d
        | tell nm lo hi w => exact ⟨nm, lo, hi, rfl, rfl, rfl⟩
        | clear nm lo hi => exact ⟨nm, lo, hi, rfl, rfl, rfl⟩
        | like nm lo hi o => exact ⟨nm, lo, hi, rfl, rfl, rfl⟩
      obtain ⟨nm, lo, hi', v1, v2, v3⟩ := hv
      have ht8 := ht'.mono e8
      refine q_asgP (F := TupR ask3) (ep_catV (F := TupR ask3) (zs := [(n, nm, lo), (n, nm, hi')]) TupR.mo.mo (ev_var rfl) (e8 p _ hp) (TupR.all e8 hps) (ep_lst TupR.mo.mo (eap_cons TupR.mo.mo (asked n lo nm _ _ _ _ (ev_part 1 (ev_var rfl) ht8 v1) (ev_part 2 (ev_var rfl) ht8 v2) (ev_var rfl)) (eap_cons TupR.mo.mo (asked n hi' nm _ _ _ _ (ev_part 1 (ev_var rfl) ht8 v1) (ev_part 3 (ev_var rfl) ht8 v3) (ev_var rfl)) eap_nil)) (by simp)) ?_) fun p2 us2 H9 hp2 e9 h9 hps9 => ?_
      · rw [← Paired.length hps]; show _ + 2 ≤ _; omega
      have ht9 := ht8.mono e9
      have hl9 := Paired.length hps9
      rw [List.length_append, ← Paired.length hps] at hl9
      have hl9' : us2.length = us.length + 2 := hl9
      unfold tDrop tBM
      refine at_ev (te := tVar 6) (ev_var rfl) fun H10 e10 => ⟨.inl ⟨rfl, us2, sq_of (e10 p2 _ h9)⟩, ?_⟩
      unfold tCons tNil
      refine asked n (if hi' + 1 < 1000000 then hi' + 1 else 1000000) nm _ _ _ _ (ev_part 1 (ev_var rfl) (ht9.mono e10) v1) (ev_min ev_c (ev_add (ev_part 3 (ev_var rfl) (ht9.mono e10) v3) ev_c)) (ev_var rfl) H10 (Ex.refl H10) _ fun v H11 e11 hv => ?_
      refine ⟨p2, us2, v, rfl, rfl, e11 p2 _ (e10 p2 _ h9), sz_lt (by omega), ?_⟩
      have np2 : H5 p2 = none := fresh_back (E5'.trans e8) hp2
      have E11 : Ex H5 H11 := (((E5'.trans e8).trans e9).trans e10).trans e11
      have h11 := e11 p2 _ (e10 p2 _ h9)
      have nqp2 : q ≠ p2 := fun z => by rw [← z, e8 q _ hq] at hp2; cases hp2
      refine ⟨_, p2, rfl, Ex.mut E11 np2, np2, ?_, nq, nqp2, ⟨us2 ++ [v], _ ++ [(n, nm, _)], upd_same, Paired.app (TupR.allT ((ext_of (e10.trans e11)).trans (ExT.app h11)) hps9) (.cons (TupR.mo (ExT.app h11) hv) .nil), ?_⟩, hz, hzl⟩
      · rw [upd_ne nqp2]
        exact (((e8.trans e9).trans e10).trans e11) q _ hq
      · rw [List.length_append]
        show us2.length + 1 ≤ _
        omega
    · exact ⟨_, p, rfl, E5'.trans e8, np, e8 q _ hq, nq, hqp, ⟨us, ys, e8 p _ hp, TupR.all e8 hps, by omega⟩, hz, hzl⟩
  · rintro q zs σ' H' ⟨o7, p, rfl, E5', np, hq, nq, hqp, ⟨us, ys, hp, hps, hul⟩, hz, hzl⟩
    refine q_forLn (xs := us) (ev_var rfl) (sq_of hp) (fun i σ' H'' => ∃ o8, σ' = [some (.ref a), some (.ref b), some (.ref pn), some (.ref c), some (.int n), some (.int day), some (.ref p), o7, o8, none] ∧ Ex H' H'') (fun H8 e8 => ⟨none, rfl, e8⟩) (fun i σ' H'' _ ⟨_, _, e⟩ => sq_of (e p _ hp)) ?_ ?_
    · rintro i x σ' H'' hx ⟨o8, rfl, e8⟩
      obtain ⟨y, hy, t, rfl, ht⟩ := paired_get hps hx
      have ht8 : SqT K H'' t (ask3 y) := st_of (e8 t _ ht)
      refine s_when (b := false) (et_not (a := true) (et_B (ev_call (ea_cons (ev_var rfl) (ea_cons (ev_ixT (v := .int y.1) (ev_var rfl) ev_c ht8 rfl) (ea_cons (ev_ixT (v := .str y.2.1) (ev_var rfl) ev_c ht8 rfl) (ea_cons (ev_ixT (v := .int y.2.2) (ev_var rfl) ev_c ht8 rfl) ea_nil)))) fun H9 e9 Q q E => ?_))) (fun d => by cases d) fun _ H9 e9 => ?_
      · exact ⟨b, B, y.1, y.2.1, y.2.2, rfl, hB5.mono ((E5'.trans e8).trans e9), q⟩
      · exact ⟨_, rfl, e8.trans e9⟩
    · rintro σ' H'' ⟨o8, rfl, e8⟩
      have ho : ∀ p ∈ B, p.2.ok p.1 := fun p hp => (hg p hp).2
      refine s_ret (ev_eqBk (ev_var rfl) (ev_var rfl) (hB5.mono (E5'.trans e8)) (hC5.mono (E5'.trans e8)) ho ho) fun H9 e9 => ?_
      rw [dkEqv_self hB5.nd ho]
      exact kk H9
end S
end
set_option Elab.async false
set_option linter.all false
set_option maxRecDepth 100000
set_option maxHeartbeats 4000000
section
open PySem L2 Evl S
local macro_rules | `(tactic| array_get_dec) => `(tactic| first
  | exact ev_c
  | exact ev_var rfl
  | exact S.eo_no
  | exact ea_nil
  | (apply S.eo_some <;> array_get_dec)
  | (apply ea_cons <;> array_get_dec)
  | (apply S.ev_add <;> array_get_dec)
  | (apply S.ev_sub <;> array_get_dec)
  | (apply S.ev_div <;> first | array_get_dec | exact ⟨by decide, by decide⟩ | exact ⟨by omega, by omega⟩)
  | (apply S.ev_mod <;> first | array_get_dec | decide | omega)
  | (apply S.ev_mulr <;> first | array_get_dec | exact ⟨by decide, by decide⟩ | exact ⟨by omega, by omega⟩)
  | (apply S.ev_mull <;> first | array_get_dec | exact ⟨by decide, by decide⟩ | exact ⟨by omega, by omega⟩)
  | (apply S.ev_neg <;> array_get_dec)
  | (apply S.ev_min <;> array_get_dec)
  | (apply S.ev_max <;> array_get_dec)
  | (apply S.ev_eqI <;> array_get_dec)
  | (apply S.ev_eqS <;> array_get_dec)
  | (apply S.ev_neI <;> array_get_dec)
  | (apply S.ev_neS <;> array_get_dec)
  | (apply S.ev_lt <;> array_get_dec)
  | (apply S.ev_le <;> array_get_dec)
  | (apply S.ev_gt <;> array_get_dec)
  | (apply S.ev_ge <;> array_get_dec)
  | (apply S.ev_intB <;> array_get_dec)
  | (apply et_test <;> array_get_dec)
  | (apply et_B <;> array_get_dec)
  | (apply et_not <;> array_get_dec)
  | (refine' et_and ?_ (fun _ => ?_) <;> array_get_dec)
  | (refine' et_or ?_ (fun _ => ?_) <;> array_get_dec))
namespace S
section
variable {K : PySem.W.Frag} {C : CA} {σ : L2.St} {H : Hp} {ta tb tc td te : TE} {D : Ends} {tu tz : TS} {α β : Type} {F : Hp → V → α → Prop} {G : Hp → V → β → Prop}
/-- a comprehension over any walk -/
theorem lc_walk {J : It} {n : Nat} {Gh : Hp → Prop} {Y : Nat → Hp → V → Hp → Prop} {g : TG} {tt : TT} {vs : List Nat} {H1 : Hp} {zs : List β} (w : Walk J n Gh Y) (hn : zs.length = n) (hz : n ≤ 40000) (hG : ∀ H', Ex H1 H' → Gh H') (f : β → Bool) (v : β → α) (m : MoT F)
    (hs : ∀ i x z H2 H3, zs[i]? = some z → Ex H1 H2 → Y i H2 x H3 → ∀ Qg : L2.St → Hp → Prop, (∀ σ2 H4, Ex H2 H4 → wipe σ2 vs = wipe σ vs → EvT tt σ2 H4 (f z) → (f z = true → EvX te σ2 H4 fun H w => F H w (v z)) → Qg σ2 H4) → g x (wipe σ vs) H3 Qg)
    {Q : VK} (q : ∀ p xs H2, H1 p = none → Ex H1 H2 → H2 p = some (.lst xs) → Paired (F H2) xs ((zs.filter f).map v) → Q (.ref p) H2) :
    ∀ Dl, H1 Dl = none → ∃ W : Nat → Nat → Hp → Prop, (∃ m, W 0 m (upd H1 Dl (.lst []))) ∧ ∀ i m H, W i m H →
      (J.stop i H ∧ Q (.ref Dl) H) ∨ (J.go i H ∧ ∃ Nx : Hp → Prop, (∀ H', Nx H' → ∃ m', m' < m ∧ W (i + 1) m' H') ∧ ∀ x H', J.yld i H x H' → g x (wipe σ vs) H' fun σ2 H2 => wipe σ2 vs = wipe σ vs ∧ tt σ2 H2 fun b H3 =>
        if b = true then te σ2 H3 fun y H4 => ∃ acc, H4 Dl = some (.lst acc) ∧ acc.length < sizeLine ∧ Nx (upd H4 Dl (.lst (acc ++ [y]))) else Nx H3) := fun Dl hD => by
  refine lc_it w (fun i => Cp H1 F Dl (((zs.take i).filter f).map v)) ⟨hD, Ex.new hD, [], upd_same, .nil⟩ (fun i H' _ p => hG H' p.2.1) (fun i x H2 H3 hi p y => ?_) (fun H' p => ?_)
  · have hlt : i < zs.length := by omega
    refine hs i x _ H2 H3 (List.getElem?_eq_getElem hlt) p.2.1 y _ fun σ2 H4 e4 hw ht he => ⟨hw, ?_⟩
    obtain ⟨p1, p2, acc, p3, p4⟩ := p
    have hz1 := List.getElem?_eq_getElem hlt
    refine ht H4 (Ex.refl H4) _ fun H5 e5 => ?_
    have E5 : Ex H2 H5 := e4.trans e5
    cases hf : f zs[i] with
    | true =>
      show te σ2 H5 _
      refine he hf H5 e5 _ fun w H6 e6 hw => ⟨acc, e6 Dl _ (E5 Dl _ p3), sz_lt ?_, p1, Ex.mut ((p2.trans E5).trans e6) p1, _, upd_same, ?_⟩
      · have h1 := Paired.length p4
        have h2 := filter_take_len (f := f) (v := v) (zs := zs) (i := i)
        omega
      · rw [filter_take_yes hz1 hf]
        have stay : ∀ {v : V} {y : α}, F H6 v y → F (upd H6 Dl (.lst (acc ++ [w]))) v y := fun h => m (ExT.app (e6 Dl _ (E5 Dl _ p3))) h
        exact Paired.app (Paired.imp (fun _ _ h => stay (m (ext_of (E5.trans e6)) h)) p4) (.cons (stay hw) .nil)
    | false =>
      show Cp H1 F Dl _ H5
      rw [filter_take_no hz1 hf]
      exact ⟨p1, p2.trans E5, acc, E5 Dl _ p3, m.all (ext_of E5) p4⟩
  · obtain ⟨p1, p2, acc, p3, p4⟩ := p
    rw [← hn, List.take_length] at p4
    exact q Dl acc H' p1 p2 p3 p4
theorem walk_zipT {a b : Addr} {xs ys : List V} {n : Nat} (hn : n = min xs.length ys.length) : Walk (RZ.ItzT K a b) n (fun H => SqT K H a xs ∧ SqT K H b ys) (YPair (fun i => xs[i]?) (fun i => ys[i]?)) := by
  subst hn
  refine ⟨fun i _ hi q => ?_, fun _ q => ⟨xs, ys, q.1, q.2, by omega⟩, fun i H v H' _ q y => ?_⟩
  · have h1 : i < xs.length := by omega
    have h2 : i < ys.length := by omega
    exact ⟨xs, ys, xs[i], ys[i], q.1, q.2, by simp [h1], by simp [h2]⟩
  · obtain ⟨T, x, z, h1, h2, h3, h4, h5⟩ := y
    exact ⟨T, x, z, h1, h2, h3, h4 xs q.1, h5 ys q.2⟩
theorem paired_eq {f : α → V} : ∀ {xs : List V} {ys : List α}, Paired (fun v y => v = f y) xs ys → xs = ys.map f
  | _, _, .nil => rfl
  | _, _, .cons r t => by rw [List.map_cons, ← paired_eq t, r]
theorem el_ofP {ys : List α} (f : α → V) (h : EvP te σ H (ValR f) ys) : EvL te σ H (ys.map f) := fun H1 e Q q => h H1 e Q fun p xs H2 hp e2 h2 hps => by
  have : xs = ys.map f := paired_eq hps
  rw [this] at h2
  exact q p H2 hp e2 h2
theorem ev_all {bs : List Bool} (h : EvL ta σ H (bs.map V.bl)) : Ev (tCB (rAll K) (tCons ta tNil)) σ H (.bl (bs.all id)) := fun H1 e Q q => by
  unfold tCB tCons tNil
  exact h H1 e _ fun p H2 hp e2 h2 => ⟨p, bs, rfl, sq_of h2, q H2 e2⟩
theorem all_trues {zs : List β} : (((zs.filter fun _ => true).map fun _ => true).all id) = true := by
  rw [List.all_eq_true]
  intro x hx
  obtain ⟨y, _, rfl⟩ := List.mem_map.mp hx
  rfl
/-! ### rows of whole numbers and None -/
/-- a tuple of whole numbers and None -/
abbrev RowR : Hp → V → List (Option Int) → Prop := TupR (List.map optV)
def tyO : Option Int → String
  | none => "NoneType"
  | some _ => "int"
theorem ty_opt (o : Option Int) : TyX K H (optV o) (.type (tyO o)) := by cases o <;> constructor <;> constructor
theorem kit_o_tuple (o : Option Int) : kitB (tyO o) "tuple" = some false := by
  cases o with
  | none => exact (by decide +kernel : kitB "NoneType" "tuple" = some false)
  | some i => exact (by decide +kernel : kitB "int" "tuple" = some false)
theorem kit_o_list (o : Option Int) : kitB (tyO o) "list" = some false := by
  cases o with
  | none => exact (by decide +kernel : kitB "NoneType" "list" = some false)
  | some i => exact (by decide +kernel : kitB "int" "list" = some false)
theorem kit_o_bool (o : Option Int) : kitB (tyO o) "bool" = some false := by
  cases o with
  | none => exact (by decide +kernel : kitB "NoneType" "bool" = some false)
  | some i => exact (by decide +kernel : kitB "int" "bool" = some false)
theorem kit_tt : kitB "tuple" "tuple" = some true := by decide +kernel
theorem kit_tl : kitB "tuple" "list" = some false := by decide +kernel
theorem kit_lt : kitB "list" "tuple" = some false := by decide +kernel
theorem kit_ll : kitB "list" "list" = some true := by decide +kernel
def Alike (H : Hp) : Nat → V → V → Prop
  | 0, _, _ => False
  | m + 1, x, y => (∃ o : Option Int, x = optV o ∧ y = optV o) ∨ (1 ≤ m ∧ ∃ r : List (Option Int), r.length ≤ 100 ∧ RowR H x r ∧ RowR H y r) ∨
    (2 ≤ m ∧ ∃ (p q : Addr) (xs ys : List V) (rs : List (List (Option Int))), x = .ref p ∧ y = .ref q ∧ H p = some (.lst xs) ∧ H q = some (.lst ys) ∧ rs.length ≤ 1000 ∧ (∀ r ∈ rs, r.length ≤ 100) ∧ Paired (RowR H) xs rs ∧ Paired (RowR H) ys rs)
def sp_l_alike (K : PySem.W.Frag) (C : CA) (m : Nat) : Sp := fun vs H Q _ => ∃ x y : V, vs = [x, y] ∧ Alike H m x y ∧ ∀ H', Ex H H' → Q (.bl true) H'
theorem len_l_alike {K : PySem.W.Frag} {C : CA} {m : Nat} {vs : List V} {H : Hp} {Q : VK} {E : XK} (h : sp_l_alike K C m vs H Q E) : vs.length = 2 := by
  obtain ⟨x, y, rfl, _⟩ := h
  rfl
theorem no_l_alike {K : PySem.W.Frag} {C : CA} {vs : List V} {H : Hp} {Q : VK} {E : XK} (h : sp_l_alike K C 0 vs H Q E) : False := by
  obtain ⟨x, y, _, h, _⟩ := h
  exact h
end
/-- _law_found 0, _law_due_here 1, _law_one 2, _law_other 3 -/
def t_l_alike (K : PySem.W.Frag) (C : CA) (m : Nat) : TS :=
 (tSeq (tIfS (tOr (tB (tCB (rIsi K) (tCons (tVar 1) (tCons (tC (.ty "tuple")) tNil)))) (tB (tCB (rIsi K) (tCons (tVar 1) (tCons (tC (.ty "list")) tNil))))) (tSeq (tIfS (tOr (tTest (tOp (neA K) (tCB (rIsi K) (tCons (tVar 0) (tCons (tC (.ty "list")) tNil))) (tCB (rIsi K) (tCons (tVar 1) (tCons (tC (.ty "list")) tNil))))) (tTest (tOp (neA K) (tCB (rIsi K) (tCons (tVar 0) (tCons (tC (.ty "tuple")) tNil))) (tCB (rIsi K) (tCons (tVar 1) (tCons (tC (.ty "tuple")) tNil)))))) (tRet (tC (.bl false))) tNext)
 (tRet (tAndV (tOp (eqA K) (tCB (lenA K) (tCons (tVar 0) tNil)) (tCB (lenA K) (tCons (tVar 1) tNil))) (tCB (rAll K) (tCons (tLc (RZ.iZipA K (tCons (tVar 0) (tCons (tVar 1) tNil))) (gTup K 2 (gCons (gName 2) (gCons (gName 3) gNil))) tYes (tCall (sp_l_alike K C m) [] E0 (tCons (tVar 2) (tCons (tVar 3) tNil))) [2, 3]) tNil))))) tNext)
 (tRet (tAndV (tOp (eqA K) (tCB (rIsi K) (tCons (tVar 0) (tCons (tC (.ty "bool")) tNil))) (tCB (rIsi K) (tCons (tVar 1) (tCons (tC (.ty "bool")) tNil)))) (tOp (eqA K) (tVar 0) (tVar 1)))))
theorem st_set2 (x y u v : V) : wipe (((wipe ([some x, some y, none, none] : L2.St) [2, 3]).set 2 (some u)).set 3 (some v)) [2, 3] = wipe ([some x, some y, none, none] : L2.St) [2, 3] := rfl
theorem pure_l_alike {K : PySem.W.Frag} {C : CA} {m : Nat} {vs : List V} {H : Hp} {Q : VK} {E : XK} (h : sp_l_alike K C (m + 1) vs H Q E) : t_l_alike K C m { nx := fun _ H' => Q .non H', rt := Q } (startN 4 vs) H := by
  obtain ⟨x, y, rfl, hA, kk⟩ := h
  have vx : ∀ H1, Ev (tVar 0) (startN 4 [x, y]) H1 x := fun H1 => ev_var rfl
  have vy : ∀ H1, Ev (tVar 1) (startN 4 [x, y]) H1 y := fun H1 => ev_var rfl
  have same : ∀ (H1 : Hp) (T : String) (tx : String) (k : Bool), (∀ H2, Ex H1 H2 → TyX K H2 x (.type tx)) → (∀ H2, Ex H1 H2 → TyX K H2 y (.type tx)) → kitB tx T = some k →
      EvT (tTest (tOp (neA K) (tCB (rIsi K) (tCons (tVar 0) (tCons (tC (.ty T)) tNil))) (tCB (rIsi K) (tCons (tVar 1) (tCons (tC (.ty T)) tNil))))) (startN 4 [x, y]) H1 false := fun H1 T tx k h1 h2 hk => by
    have := et_test (ev_ne (K := K) (ev_isi (vx H1) h1 hk) (ev_isi (vy H1) h2 hk) rfl)
    rw [decide_eq_true rfl] at this
    exact this
  rcases hA with ⟨o, rfl, rfl⟩ | ⟨hm, r, hr, ⟨p, rfl, hp⟩, ⟨q, rfl, hq⟩⟩ | ⟨hm, p, q, xs, ys, rs, rfl, rfl, hp, hq, hrl, hrr, hxs, hys⟩
  · refine q_when (b := false) (et_or (a := false) (b := false) (et_B (ev_isi (vy H) (fun H1 _ => ty_opt o) (kit_o_tuple o))) fun _ => et_B (ev_isi (vy H) (fun H1 _ => ty_opt o) (kit_o_list o))) (fun c => by cases c) fun _ H1 e1 => ?_
    refine s_ret (v := .bl true) ?_ fun H2 e2 => kk H2 (e1.trans e2)
    have := ev_andV (ev_eq (K := K) (ev_isi (K := K) (vx H1) (fun H1 _ => ty_opt o) (kit_o_bool o)) (ev_isi (K := K) (vy H1) (fun H1 _ => ty_opt o) (kit_o_bool o)) rfl) fun _ => ev_eq (K := K) (vx H1) (vy H1) (scal_opt o o)
    rw [decide_eq_true rfl, decide_eq_true rfl] at this
    exact this
  · have tx : ∀ H2, Ex H H2 → TyX K H2 (.ref p) (.type "tuple") := fun H2 e => .base (.tup (e p _ hp))
    have ty : ∀ H2, Ex H H2 → TyX K H2 (.ref q) (.type "tuple") := fun H2 e => .base (.tup (e q _ hq))
    refine q_when (b := true) (et_or (a := true) (b := true) (et_B (ev_isi (vy H) ty kit_tt)) fun c => by cases c) (fun _ H1 e1 => ?_) (fun c => by cases c)
    refine q_when (b := false) (et_or (a := false) (b := false) (same H1 "list" "tuple" false (fun H2 e => tx H2 (e1.trans e)) (fun H2 e => ty H2 (e1.trans e)) kit_tl) fun _ => same H1 "tuple" "tuple" true (fun H2 e => tx H2 (e1.trans e)) (fun H2 e => ty H2 (e1.trans e)) kit_tt) (fun c => by cases c) fun _ H2 e2 => ?_
    have E2 : Ex H H2 := e1.trans e2
    refine s_ret (v := .bl true) ?_ fun H3 e3 => kk H3 (E2.trans e3)
    have hp2 := E2 p _ hp
    have hq2 := E2 q _ hq
    have hl := ev_eqI (K := K) (ev_lenT (K := K) (vx H2) (st_of hp2)) (ev_lenT (K := K) (vy H2) (st_of hq2))
    rw [decide_eq_true rfl] at hl
    refine ev_andV (a := true) (b := true) hl fun _ => ?_
    have all : EvL (tLc (RZ.iZipA K (tCons (tVar 0) (tCons (tVar 1) tNil))) (gTup K 2 (gCons (gName 2) (gCons (gName 3) gNil))) tYes (tCall (sp_l_alike K C m) [] E0 (tCons (tVar 2) (tCons (tVar 3) tNil))) [2, 3]) (startN 4 [V.ref p, V.ref q]) H2 (((r.filter fun _ => true).map fun _ => true).map V.bl) := by
      refine el_ofP V.bl fun H3 e3 Q q2 => ?_
      unfold tLc RZ.iZipA
      refine (ea_cons (vx H2) (ea_cons (vy H2) ea_nil)) H3 e3 _ fun H4 e4 => ⟨p, q, _, _, rfl, .inr ⟨st_of ((e3.trans e4) p _ hp2), st_of ((e3.trans e4) q _ hq2), ?_⟩⟩
      refine lc_walk (F := ValR V.bl) (zs := r) (walk_zipT rfl) (by simp) (by simp; omega) (fun H' e => ⟨st_of (((e3.trans e4).trans e) p _ hp2), st_of (((e3.trans e4).trans e) q _ hq2)⟩) (fun _ => true) (fun _ => true) ValR.mo ?_ fun p' xs H5 hp' e5 h5 hps => q2 p' xs H5 (fresh_back e4 hp') (e4.trans e5) h5 hps
      rintro i x z H5 H6 hz e5 ⟨T, x', y', rfl, hT, rfl, hx', hy'⟩ Qg qg
      have hx' : (r.map optV)[i]? = some x' := hx'
      have hy' : (r.map optV)[i]? = some y' := hy'
      rw [List.getElem?_map, hz] at hx' hy'
      have ex : x' = optV z := (Option.some.inj hx').symm
      have ey : y' = optV z := (Option.some.inj hy').symm
      subst ex ey
      refine ⟨T, _, rfl, st_of upd_same, rfl, _, _, rfl, _, _, rfl, rfl, ?_⟩
      refine qg _ _ (Ex.new hT) rfl et_yes fun _ => ?_
      refine ex_ev (v := .bl true) (ev_call (ea_cons (ev_var rfl) (ea_cons (ev_var rfl) ea_nil)) fun H7 e7 Q q3 E => ?_) fun H7 _ => rfl
      obtain ⟨m', rfl⟩ : ∃ m', m = m' + 1 := ⟨m - 1, by omega⟩
      exact ⟨_, _, rfl, .inl ⟨z, rfl, rfl⟩, q3⟩
    have := ev_all (K := K) all
    rw [all_trues] at this
    exact this
  · have tx : ∀ H2, Ex H H2 → TyX K H2 (.ref p) (.type "list") := fun H2 e => .base (.lst (e p _ hp))
    have ty : ∀ H2, Ex H H2 → TyX K H2 (.ref q) (.type "list") := fun H2 e => .base (.lst (e q _ hq))
    refine q_when (b := true) (et_or (a := false) (b := true) (et_B (ev_isi (vy H) ty kit_lt)) fun _ => et_B (ev_isi (vy H) ty kit_ll)) (fun _ H1 e1 => ?_) (fun c => by cases c)
    refine q_when (b := false) (et_or (a := false) (b := false) (same H1 "list" "list" true (fun H2 e => tx H2 (e1.trans e)) (fun H2 e => ty H2 (e1.trans e)) kit_ll) fun _ => same H1 "tuple" "list" false (fun H2 e => tx H2 (e1.trans e)) (fun H2 e => ty H2 (e1.trans e)) kit_lt) (fun c => by cases c) fun _ H2 e2 => ?_
    have E2 : Ex H H2 := e1.trans e2
    refine s_ret (v := .bl true) ?_ fun H3 e3 => kk H3 (E2.trans e3)
    have hp2 := E2 p _ hp
    have hq2 := E2 q _ hq
    have hxl := Paired.length hxs
    have hyl := Paired.length hys
    have hl := ev_eqI (K := K) (ev_lenL (K := K) (vx H2) (sq_of hp2)) (ev_lenL (K := K) (vy H2) (sq_of hq2))
    rw [decide_eq_true (by rw [hxl, hyl])] at hl
    refine ev_andV (a := true) (b := true) hl fun _ => ?_
    have all : EvL (tLc (RZ.iZipA K (tCons (tVar 0) (tCons (tVar 1) tNil))) (gTup K 2 (gCons (gName 2) (gCons (gName 3) gNil))) tYes (tCall (sp_l_alike K C m) [] E0 (tCons (tVar 2) (tCons (tVar 3) tNil))) [2, 3]) (startN 4 [V.ref p, V.ref q]) H2 (((rs.filter fun _ => true).map fun _ => true).map V.bl) := by
      refine el_ofP V.bl fun H3 e3 Q q2 => ?_
      unfold tLc RZ.iZipA
      refine (ea_cons (vx H2) (ea_cons (vy H2) ea_nil)) H3 e3 _ fun H4 e4 => ⟨p, q, xs, ys, rfl, .inl ⟨sq_of ((e3.trans e4) p _ hp2), sq_of ((e3.trans e4) q _ hq2), ?_⟩⟩
      refine lc_walk (F := ValR V.bl) (zs := rs) (walk_zip rfl) (by omega) (by omega) (fun H' e => ⟨sq_of (((e3.trans e4).trans e) p _ hp2), sq_of (((e3.trans e4).trans e) q _ hq2)⟩) (fun _ => true) (fun _ => true) ValR.mo ?_ fun p' xs H5 hp' e5 h5 hps => q2 p' xs H5 (fresh_back e4 hp') (e4.trans e5) h5 hps
      rintro i x z H5 H6 hz e5 ⟨T, x', y', rfl, hT, rfl, hx', hy'⟩ Qg qg
      obtain ⟨z1, hz1, hxr⟩ := paired_get hxs (show xs[i]? = some x' from hx')
      obtain ⟨z2, hz2, hyr⟩ := paired_get hys (show ys[i]? = some y' from hy')
      have f1 : z1 = z := by rw [hz] at hz1; exact (Option.some.inj hz1).symm
      have f2 : z2 = z := by rw [hz] at hz2; exact (Option.some.inj hz2).symm
      rw [f1] at hxr
      rw [f2] at hyr
      refine ⟨T, _, rfl, st_of upd_same, rfl, _, _, rfl, _, _, rfl, rfl, ?_⟩
      refine qg _ _ (Ex.new hT) rfl et_yes fun _ => ?_
      refine ex_ev (v := .bl true) (ev_call (ea_cons (ev_var rfl) (ea_cons (ev_var rfl) ea_nil)) fun H7 e7 Q q3 E => ?_) fun H7 _ => rfl
      obtain ⟨m', rfl⟩ : ∃ m', m = m' + 1 := ⟨m - 1, by omega⟩
      have E7 : Ex H H7 := (((E2.trans (e3.trans e4)).trans e5).trans (Ex.new hT)).trans e7
      exact ⟨_, _, rfl, .inr (.inl ⟨by omega, z, hrr z (List.mem_of_getElem? hz), TupR.mo (ext_of E7) hxr, TupR.mo (ext_of E7) hyr⟩), q3⟩
    have := ev_all (K := K) all
    rw [all_trues] at this
    exact this
end S
end
set_option Elab.async false
set_option linter.all false
set_option maxRecDepth 100000
set_option maxHeartbeats 4000000
section
open PySem L2 Evl S
local macro_rules | `(tactic| array_get_dec) => `(tactic| first
  | exact ev_c
  | exact ev_var rfl
  | exact S.eo_no
  | exact ea_nil
  | (apply S.eo_some <;> array_get_dec)
  | (apply ea_cons <;> array_get_dec)
  | (apply S.ev_add <;> array_get_dec)
  | (apply S.ev_sub <;> array_get_dec)
  | (apply S.ev_div <;> first | array_get_dec | exact ⟨by decide, by decide⟩ | exact ⟨by omega, by omega⟩)
  | (apply S.ev_mod <;> first | array_get_dec | decide | omega)
  | (apply S.ev_mulr <;> first | array_get_dec | exact ⟨by decide, by decide⟩ | exact ⟨by omega, by omega⟩)
  | (apply S.ev_mull <;> first | array_get_dec | exact ⟨by decide, by decide⟩ | exact ⟨by omega, by omega⟩)
  | (apply S.ev_neg <;> array_get_dec)
  | (apply S.ev_min <;> array_get_dec)
  | (apply S.ev_max <;> array_get_dec)
  | (apply S.ev_eqI <;> array_get_dec)
  | (apply S.ev_eqS <;> array_get_dec)
  | (apply S.ev_neI <;> array_get_dec)
  | (apply S.ev_neS <;> array_get_dec)
  | (apply S.ev_lt <;> array_get_dec)
  | (apply S.ev_le <;> array_get_dec)
  | (apply S.ev_gt <;> array_get_dec)
  | (apply S.ev_ge <;> array_get_dec)
  | (apply S.ev_intB <;> array_get_dec)
  | (apply et_test <;> array_get_dec)
  | (apply et_B <;> array_get_dec)
  | (apply et_not <;> array_get_dec)
  | (refine' et_and ?_ (fun _ => ?_) <;> array_get_dec)
  | (refine' et_or ?_ (fun _ => ?_) <;> array_get_dec))
namespace S
section
variable {K : PySem.W.Frag} {C : CA} {σ : L2.St} {H : Hp} {ta tb tc td te : TE} {D : Ends} {tu tz : TS} {α β : Type} {F : Hp → V → α → Prop} {G : Hp → V → β → Prop}
theorem atI_last {xs : List V} (h : 0 < xs.length) : atI xs (-1) = xs[xs.length - 1]? := by
  unfold atI ixN
  rw [if_neg (by decide), if_pos (by omega)]
  have : ((-1 : Int) + (xs.length : Int)).toNat = xs.length - 1 := by omega
  rw [this]
  rfl
/-! ### lists of rows as data -/
def oD : Option Int → PyData
  | none => .none
  | some i => .int i
def rowD (r : List (Option Int)) : PyData := .tuple (r.map oD)
theorem dp_opt (o : Option Int) : Dp K H (optV o) (oD o) := by cases o <;> constructor
theorem dp_row {v : V} {r : List (Option Int)} (h : RowR H v r) : Dp K H v (rowD r) := by
  obtain ⟨p, rfl, hp⟩ := h
  exact .tup (st_of hp) (DpAll.of (F := fun v o => v = optV o) (fun v o e => by rw [e]; exact dp_opt o) (paired_map optV r))
theorem dp_rows {p : Addr} {xs : List V} {rs : List (List (Option Int))} (h : H p = some (.lst xs)) (hp : Paired (RowR H) xs rs) : Dp K H (.ref p) (.list (rs.map rowD)) := .lst (sq_of h) (DpAll.of (F := RowR H) (f := rowD) (fun _ _ h => dp_row h) hp)
theorem lay_row (r : List (Option Int)) : (rowD r).canLay0 = true ∧ (rowD r).depth ≤ 1 := by
  unfold rowD
  rw [PyData.canLay0, PyData.depth]
  induction r with
  | nil => exact ⟨rfl, by decide⟩
  | cons o r ih =>
    rw [List.map_cons, PyData.canLayAll0, PyData.depthAll]
    refine ⟨by rw [ih.1]; cases o <;> rfl, ?_⟩
    have : (oD o).depth = 0 := by cases o <;> rfl
    rw [this]
    have := ih.2
    omega
theorem lay_rows (rs : List (List (Option Int))) : SeqAt.shaped (.list (rs.map rowD)) = true := by
  refine shaped_by ?_
  rw [PyData.canLay0, PyData.depth]
  induction rs with
  | nil => exact ⟨rfl, by decide⟩
  | cons r rs ih =>
    rw [List.map_cons, PyData.canLayAll0, PyData.depthAll]
    have h := lay_row r
    refine ⟨by rw [h.1, ih.1]; rfl, ?_⟩
    have := ih.2
    have := h.2
    omega
theorem eqv_rows (rs : List (List (Option Int))) : PyData.eqv (.list (rs.map rowD)) (.list (rs.map rowD)) = true := SeqAt.eqv_refl _ (shaped_of (lay_rows rs)).1
/-- rows stand in a list -/
def RowsAt (H : Hp) (p : Addr) (rs : List (List (Option Int))) : Prop := ∃ xs, H p = some (.lst xs) ∧ Paired (RowR H) xs rs
theorem RowsAt.mono {H H' : Hp} {p : Addr} {rs : List (List (Option Int))} (e : Ex H H') (h : RowsAt H p rs) : RowsAt H' p rs := let ⟨xs, h1, h2⟩ := h; ⟨xs, e p _ h1, TupR.all e h2⟩
theorem ev_eqRows {p q : Addr} {rs : List (List (Option Int))} (ha : Ev ta σ H (.ref p)) (hb : Ev tb σ H (.ref q)) (hp : RowsAt H p rs) (hq : RowsAt H q rs) : Ev (tOp (eqA K) ta tb) σ H (.bl true) := by
  obtain ⟨xs, h1, h2⟩ := hp
  obtain ⟨ys, g1, g2⟩ := hq
  have := ev_eqD (K := K) ha hb (dp_rows h1 h2) (dp_rows g1 g2) (lay_rows rs) (lay_rows rs)
  rwa [eqv_rows] at this
theorem ev_eqRowsP {p : Addr} {rs : List (List (Option Int))} (ha : Ev ta σ H (.ref p)) (hp : RowsAt H p rs) (hb : EvP tb σ H RowR rs) : Ev (tOp (eqA K) ta tb) σ H (.bl true) := fun H1 e Q q => by
  unfold tOp
  refine ha H1 e _ fun H2 e2 => hb H2 (e.trans e2) _ fun r ys H3 hr e3 h3 hys => ?_
  obtain ⟨xs, g1, g2⟩ := hp.mono ((e.trans e2).trans e3)
  refine .inr (.inl ⟨_, _, dp_rows g1 g2, dp_rows h3 hys, lay_rows rs, lay_rows rs, ?_⟩)
  rw [eqv_rows]
  exact q H3 (e2.trans e3)
theorem ev_alike {p q : Addr} {rs : List (List (Option Int))} (ha : Ev ta σ H (.ref p)) (hb : Ev tb σ H (.ref q)) (hp : RowsAt H p rs) (hq : RowsAt H q rs) (hl : rs.length ≤ 1000) (hr : ∀ r ∈ rs, r.length ≤ 100) :
    Ev (tCall (sp_l_alike K C 4) [] E0 (tCons ta (tCons tb tNil))) σ H (.bl true) :=
  ev_call (ea_cons ha (ea_cons hb ea_nil)) fun H1 e Q q2 E => by
    obtain ⟨xs, h1, h2⟩ := hp.mono e
    obtain ⟨ys, g1, g2⟩ := hq.mono e
    exact ⟨_, _, rfl, .inr (.inr ⟨by decide, p, q, xs, ys, rs, rfl, rfl, h1, g1, hl, hr, h2, g2⟩), q2⟩
/-- two new lists of rows, alike -/
theorem ev_alikeP {rs : List (List (Option Int))} (ha : EvP ta σ H RowR rs) (hb : EvP tb σ H RowR rs) (hl : rs.length ≤ 1000) (hr : ∀ r ∈ rs, r.length ≤ 100) :
    Ev (tCall (sp_l_alike K C 4) [] E0 (tCons ta (tCons tb tNil))) σ H (.bl true) := fun H1 e Q q => by
  unfold tCall tCons tNil
  refine ha H1 e _ fun p xs H2 hp e2 h2 hps => hb H2 (e.trans e2) _ fun r ys H3 hr3 e3 h3 hys => ?_
  exact ⟨_, _, rfl, .inr (.inr ⟨by decide, p, r, xs, ys, rs, rfl, rfl, e3 p _ h2, h3, hl, hr, TupR.all e3 hps, hys⟩), fun H' e' => q H' ((e2.trans e3).trans e')⟩
theorem ev_alikePV {q : Addr} {rs : List (List (Option Int))} (ha : EvP ta σ H RowR rs) (hb : Ev tb σ H (.ref q)) (hq : RowsAt H q rs) (hl : rs.length ≤ 1000) (hr : ∀ r ∈ rs, r.length ≤ 100) :
    Ev (tCall (sp_l_alike K C 4) [] E0 (tCons ta (tCons tb tNil))) σ H (.bl true) := fun H1 e Q k => by
  unfold tCall tCons tNil
  refine ha H1 e _ fun p xs H2 hp e2 h2 hps => hb H2 (e.trans e2) _ fun H3 e3 => ?_
  obtain ⟨ys, g1, g2⟩ := hq.mono ((e.trans e2).trans e3)
  exact ⟨_, _, rfl, .inr (.inr ⟨by decide, p, q, xs, ys, rs, rfl, rfl, e3 p _ h2, g1, hl, hr, TupR.all e3 hps, g2⟩), fun H' e' => k H' ((e2.trans e3).trans e')⟩
/-! ### under a lock -/
theorem ep_lock {d : Addr} {u : HO} (hd : H d = some u) (hm : Mut (some u)) (hu : ∀ xs, u ≠ .tup xs) (m : MoT F) {ys : List α} (h : ∀ od H1, Ex H H1 → EvP te σ (upd H1 d (.frz od u)) F ys) : EvP (tLockE te) σ H F ys := fun H1 e Q q =>
  ⟨d, u, e d _ hd, hm, fun od => h od H1 e _ (Ex.refl _) _ fun p xs H2 hp e2 h2 hps => by
    have hd2 := e2 d _ upd_same
    have hpd : p ≠ d := fun z => by rw [z, upd_same] at hp; cases hp
    refine ⟨hd2, q p xs _ (by rwa [upd_ne hpd] at hp) (fun c o hc => ?_) (by rw [upd_ne hpd]; exact h2) (m.all (ExT.put hd2 fun xs z => by cases z) hps)⟩
    by_cases z : c = d
    · subst z
      rw [e c _ hd] at hc
      rw [upd_same, hc]
    · rw [upd_ne z]
      exact e2 c _ (by rw [upd_ne z]; exact hc)⟩
theorem BookAt.frz {b : Addr} {B : Bk} {kvs : List (Key × V)} (hb : H b = some (.dK kvs)) (h : BkRel H kvs B) (hn : (B.map (·.1)).Nodup) (hl : B.length ≤ 60) (od : Obj) : BookAt (upd H b (.frz od (.dK kvs))) b B ∧ BkRel (upd H b (.frz od (.dK kvs))) kvs B := by
  have hr : BkRel (upd H b (.frz od (.dK kvs))) kvs B := Paired.imp (fun x y ⟨h1, t, h2, h3⟩ => ⟨h1, t, h2, by
    show upd H b (.frz od (.dK kvs)) t = _
    rw [upd_ne (fun z => by rw [z] at h3; have := hb.symm.trans h3; cases this)]
    exact h3⟩) h
  exact ⟨⟨⟨kvs, .inr ⟨od, upd_same⟩, hr⟩, hn, hl⟩, hr⟩
/-- a row: a number and its entry -/
def NumR : Hp → V → Int × Ent → Prop := fun H v q => ∃ p, v = .ref p ∧ RowAt H p q
theorem NumR.mo : MoT NumR := fun e ⟨p, h1, t, h2, h3⟩ => ⟨p, h1, t, e _ _ h2, e _ _ h3⟩
theorem numR_refs : ∀ {xs : List V} {B : Bk}, Paired (NumR H) xs B → ∃ ps : List Addr, xs = ps.map V.ref ∧ Paired (RowAt H) ps B
  | _, _, .nil => ⟨[], rfl, .nil⟩
  | _, _, .cons r t => by
    obtain ⟨p, h1, h2⟩ := r
    obtain ⟨ps, h3, h4⟩ := numR_refs t
    exact ⟨p :: ps, by rw [List.map_cons, ← h3, h1], .cons h2 h4⟩
/-- dict([..]) of numbers and entries -/
theorem at_dictNum {B : Bk} (h : EvP te σ H NumR B) (hn : (B.map (·.1)).Nodup) (hl : B.length ≤ 60) {Q : VK} (q : ∀ p H1, NewBk H H1 p B → Q (.ref p) H1) : (tCB (dictC K) (tCons te tNil)) σ H Q := by
  unfold tCB tCons tNil
  refine h H (Ex.refl H) _ fun a xs H2 ha e2 h2 hps => ?_
  obtain ⟨ps, rfl, hr⟩ := numR_refs hps
  obtain ⟨kvs, hk1, hk2⟩ := rows_kvs hr
  have hkn : (kvs.map (·.1)).Nodup := by
    rw [hk1.keys]
    exact List.Pairwise.map _ (fun x y hxy e => hxy (Sum.inl.inj e)) hn
  refine .inl ⟨a, ps, kvs, rfl, sq_of h2, hk2 (Ex.refl H2), fun p hp => ?_⟩
  rw [mergeK_new kvs [] (by simpa using hkn), List.nil_append]
  exact q p _ ⟨fresh_back e2 hp, e2.trans (Ex.new hp), ⟨kvs, upd_same, hk1.mono (Ex.new hp)⟩, hn, hl⟩
end
end S
end
set_option Elab.async false
set_option linter.all false
set_option maxRecDepth 100000
set_option maxHeartbeats 4000000
section
open PySem L2 Evl S
local macro_rules | `(tactic| array_get_dec) => `(tactic| first
  | exact ev_c
  | exact ev_var rfl
  | exact S.eo_no
  | exact ea_nil
  | (apply S.eo_some <;> array_get_dec)
  | (apply ea_cons <;> array_get_dec)
  | (apply S.ev_add <;> array_get_dec)
  | (apply S.ev_sub <;> array_get_dec)
  | (apply S.ev_div <;> first | array_get_dec | exact ⟨by decide, by decide⟩ | exact ⟨by omega, by omega⟩)
  | (apply S.ev_mod <;> first | array_get_dec | decide | omega)
  | (apply S.ev_mulr <;> first | array_get_dec | exact ⟨by decide, by decide⟩ | exact ⟨by omega, by omega⟩)
  | (apply S.ev_mull <;> first | array_get_dec | exact ⟨by decide, by decide⟩ | exact ⟨by omega, by omega⟩)
  | (apply S.ev_neg <;> array_get_dec)
  | (apply S.ev_min <;> array_get_dec)
  | (apply S.ev_max <;> array_get_dec)
  | (apply S.ev_eqI <;> array_get_dec)
  | (apply S.ev_eqS <;> array_get_dec)
  | (apply S.ev_neI <;> array_get_dec)
  | (apply S.ev_neS <;> array_get_dec)
  | (apply S.ev_lt <;> array_get_dec)
  | (apply S.ev_le <;> array_get_dec)
  | (apply S.ev_gt <;> array_get_dec)
  | (apply S.ev_ge <;> array_get_dec)
  | (apply S.ev_intB <;> array_get_dec)
  | (apply et_test <;> array_get_dec)
  | (apply et_B <;> array_get_dec)
  | (apply et_not <;> array_get_dec)
  | (refine' et_and ?_ (fun _ => ?_) <;> array_get_dec)
  | (refine' et_or ?_ (fun _ => ?_) <;> array_get_dec))
namespace S
/-! ### things, by what they are as data; all of it tracked -/
mutual
inductive Dq (H : Hp) : PyData → V → Prop
  | non : Dq H .none .non
  | bl (b : Bool) : Dq H (.bool b) (.bl b)
  | int (i : Int) : Dq H (.int i) (.int i)
  | str (x : Str) (h : x.length ≤ 100000) : Dq H (.str x) (.str x)
  | lst {a : Addr} {xs : List V} {ds : List PyData} : H a = some (.lst xs) → DqAll H ds xs → Dq H (.list ds) (.ref a)
  | tup {a : Addr} {xs : List V} {ds : List PyData} : H a = some (.tup xs) → DqAll H ds xs → Dq H (.tuple ds) (.ref a)
inductive DqAll (H : Hp) : List PyData → List V → Prop
  | nil : DqAll H [] []
  | cons {d : PyData} {v : V} {ds : List PyData} {vs : List V} : Dq H d v → DqAll H ds vs → DqAll H (d :: ds) (v :: vs)
end
mutual
theorem Dq.mono {H H' : Hp} (e : Ex H H') : ∀ {d : PyData} {v : V}, Dq H d v → Dq H' d v
  | .none, _, h => by cases h; exact .non
  | .bool b, _, h => by cases h; exact .bl b
  | .int i, _, h => by cases h; exact .int i
  | .str x, _, h => by cases h with | str _ h => exact .str x h
  | .list ds, _, h => by cases h with | lst h1 h2 => exact .lst (e _ _ h1) (DqAll.mono e h2)
  | .tuple ds, _, h => by cases h with | tup h1 h2 => exact .tup (e _ _ h1) (DqAll.mono e h2)
  | .dict kvs, _, h => by cases h
theorem DqAll.mono {H H' : Hp} (e : Ex H H') : ∀ {ds : List PyData} {vs : List V}, DqAll H ds vs → DqAll H' ds vs
  | [], _, h => by cases h; exact .nil
  | d :: ds, _, h => by cases h with | cons h1 h2 => exact .cons (Dq.mono e h1) (DqAll.mono e h2)
end
mutual
theorem Dq.dp {K : PySem.W.Frag} {H : Hp} : ∀ {d : PyData} {v : V}, Dq H d v → Dp K H v d
  | .none, _, h => by cases h; exact .non
  | .bool b, _, h => by cases h; exact .bl b
  | .int i, _, h => by cases h; exact .int i
  | .str x, _, h => by cases h; exact .str x
  | .list ds, _, h => by cases h with | lst h1 h2 => exact .lst (sq_of h1) (DqAll.dp h2)
  | .tuple ds, _, h => by cases h with | tup h1 h2 => exact .tup (st_of h1) (DqAll.dp h2)
  | .dict kvs, _, h => by cases h
theorem DqAll.dp {K : PySem.W.Frag} {H : Hp} : ∀ {ds : List PyData} {vs : List V}, DqAll H ds vs → DpAll K H vs ds
  | [], _, h => by cases h; exact .nil
  | d :: ds, _, h => by cases h with | cons h1 h2 => exact .cons (Dq.dp h1) (DqAll.dp h2)
end
theorem DqAll.get {H : Hp} : ∀ {ds : List PyData} {vs : List V} {i : Nat} {d : PyData}, DqAll H ds vs → ds[i]? = some d → ∃ v, vs[i]? = some v ∧ Dq H d v
  | d :: ds, _, 0, _, h, e => by cases h with | cons h1 h2 => cases e; exact ⟨_, rfl, h1⟩
  | d :: ds, _, i + 1, _, h, e => by cases h with | cons h1 h2 => exact DqAll.get (i := i) h2 e
theorem DqAll.length {H : Hp} : ∀ {ds : List PyData} {vs : List V}, DqAll H ds vs → ds.length = vs.length
  | [], _, h => by cases h; rfl
  | d :: ds, _, h => by cases h with | cons h1 h2 => rw [List.length_cons, List.length_cons, DqAll.length h2]
theorem DqAll.app {H : Hp} : ∀ {ds es : List PyData} {vs us : List V}, DqAll H ds vs → DqAll H es us → DqAll H (ds ++ es) (vs ++ us)
  | [], _, _, _, h, g => by cases h; exact g
  | d :: ds, _, _, _, h, g => by cases h with | cons h1 h2 => exact .cons h1 (DqAll.app h2 g)
theorem DqAll.dropN {H : Hp} : ∀ (n : Nat) {ds : List PyData} {vs : List V}, DqAll H ds vs → DqAll H (ds.drop n) (vs.drop n)
  | 0, _, _, h => h
  | n + 1, [], _, h => by cases h; exact .nil
  | n + 1, d :: ds, _, h => by cases h with | cons h1 h2 => exact DqAll.dropN n h2
theorem DqAll.takeN {H : Hp} : ∀ (n : Nat) {ds : List PyData} {vs : List V}, DqAll H ds vs → DqAll H (ds.take n) (vs.take n)
  | 0, _, _, h => .nil
  | n + 1, [], _, h => by cases h; exact .nil
  | n + 1, d :: ds, _, h => by cases h with | cons h1 h2 => exact .cons h1 (DqAll.takeN n h2)
theorem Ent.dq {H : Hp} {t : Addr} {e : Ent} {k : Int} (h : EntAt H t e) (hk : e.ok k) : Dq H (.tuple e.ds) (.ref t) := by
  refine .tup h ?_
  have w1 : ("tell" : Str).length ≤ 100000 := by decide +kernel
  have w2 : ("clear" : Str).length ≤ 100000 := by decide +kernel
  have w3 : ("like" : Str).length ≤ 100000 := by decide +kernel
  have w4 : ("undo" : Str).length ≤ 100000 := by decide +kernel
  have nm : ∀ {s : Str}, NameS s → s.length ≤ 100000 := fun h => by have := h.2.1; omega
  cases e with
  | tell n lo hi w => exact .cons (.str _ w1) (.cons (.str _ (nm hk.1)) (.cons (.int _) (.cons (.int _) (.cons (.int _) .nil))))
  | clear n lo hi => exact .cons (.str _ w2) (.cons (.str _ (nm hk.1)) (.cons (.int _) (.cons (.int _) .nil)))
  | like n lo hi o => exact .cons (.str _ w3) (.cons (.str _ (nm hk.1)) (.cons (.int _) (.cons (.int _) (.cons (.str _ (nm hk.2.2.2.2)) .nil))))
  | undo j => exact .cons (.str _ w4) (.cons (.int _) .nil)
def tyD : PyData → String
  | .none => "NoneType"
  | .bool _ => "bool"
  | .int _ => "int"
  | .str _ => "str"
  | .list _ => "list"
  | .tuple _ => "tuple"
  | .dict _ => "dict"
theorem Dq.ty {K : PySem.W.Frag} {H : Hp} {d : PyData} {v : V} (h : Dq H d v) : TyX K H v (.type (tyD d)) := by
  cases h with
  | non => exact .base .non
  | bl b => exact .base (.bl b)
  | int i => exact .base (.int i)
  | str x h => exact .base (.str x)
  | lst h1 h2 => exact .base (.lst h1)
  | tup h1 h2 => exact .base (.tup h1)
def isiD (d : PyData) (T : String) : Bool := (kitB (tyD d) T).getD false
def goodT (T : String) : Prop := ∀ d : PyData, (kitB (tyD d) T).isSome = true
theorem kit_is : (∀ T ∈ ["int", "bool", "str", "tuple", "list", "dict"], ∀ t ∈ ["NoneType", "bool", "int", "str", "list", "tuple", "dict"], (kitB t T).isSome = true) := by decide +kernel
theorem tyD_mem (d : PyData) : tyD d ∈ ["NoneType", "bool", "int", "str", "list", "tuple", "dict"] := by cases d <;> simp [tyD]
theorem good_int : goodT "int" := fun d => kit_is _ (by simp) _ (tyD_mem d)
theorem good_bool : goodT "bool" := fun d => kit_is _ (by simp) _ (tyD_mem d)
theorem good_str : goodT "str" := fun d => kit_is _ (by simp) _ (tyD_mem d)
theorem good_tuple : goodT "tuple" := fun d => kit_is _ (by simp) _ (tyD_mem d)
theorem good_list : goodT "list" := fun d => kit_is _ (by simp) _ (tyD_mem d)
theorem good_dict : goodT "dict" := fun d => kit_is _ (by simp) _ (tyD_mem d)
def intD : PyData → Bool
  | .int _ => true
  | .bool _ => true
  | _ => false
def boolD : PyData → Bool
  | .bool _ => true
  | _ => false
def strD : PyData → Bool
  | .str _ => true
  | _ => false
def tupD : PyData → Bool
  | .tuple _ => true
  | _ => false
def lstD : PyData → Bool
  | .list _ => true
  | _ => false
def dicD : PyData → Bool
  | .dict _ => true
  | _ => false
theorem isi_int (d : PyData) : isiD d "int" = intD d := by
  cases d with
  | none => exact (show (kitB "NoneType" "int").getD false = false by decide +kernel)
  | bool _ => exact (show (kitB "bool" "int").getD false = true by decide +kernel)
  | int _ => exact (show (kitB "int" "int").getD false = true by decide +kernel)
  | str _ => exact (show (kitB "str" "int").getD false = false by decide +kernel)
  | list _ => exact (show (kitB "list" "int").getD false = false by decide +kernel)
  | tuple _ => exact (show (kitB "tuple" "int").getD false = false by decide +kernel)
  | dict _ => exact (show (kitB "dict" "int").getD false = false by decide +kernel)
theorem isi_bool (d : PyData) : isiD d "bool" = boolD d := by
  cases d with
  | none => exact (show (kitB "NoneType" "bool").getD false = false by decide +kernel)
  | bool _ => exact (show (kitB "bool" "bool").getD false = true by decide +kernel)
  | int _ => exact (show (kitB "int" "bool").getD false = false by decide +kernel)
  | str _ => exact (show (kitB "str" "bool").getD false = false by decide +kernel)
  | list _ => exact (show (kitB "list" "bool").getD false = false by decide +kernel)
  | tuple _ => exact (show (kitB "tuple" "bool").getD false = false by decide +kernel)
  | dict _ => exact (show (kitB "dict" "bool").getD false = false by decide +kernel)
theorem isi_str (d : PyData) : isiD d "str" = strD d := by
  cases d with
  | none => exact (show (kitB "NoneType" "str").getD false = false by decide +kernel)
  | bool _ => exact (show (kitB "bool" "str").getD false = false by decide +kernel)
  | int _ => exact (show (kitB "int" "str").getD false = false by decide +kernel)
  | str _ => exact (show (kitB "str" "str").getD false = true by decide +kernel)
  | list _ => exact (show (kitB "list" "str").getD false = false by decide +kernel)
  | tuple _ => exact (show (kitB "tuple" "str").getD false = false by decide +kernel)
  | dict _ => exact (show (kitB "dict" "str").getD false = false by decide +kernel)
theorem isi_tuple (d : PyData) : isiD d "tuple" = tupD d := by
  cases d with
  | none => exact (show (kitB "NoneType" "tuple").getD false = false by decide +kernel)
  | bool _ => exact (show (kitB "bool" "tuple").getD false = false by decide +kernel)
  | int _ => exact (show (kitB "int" "tuple").getD false = false by decide +kernel)
  | str _ => exact (show (kitB "str" "tuple").getD false = false by decide +kernel)
  | list _ => exact (show (kitB "list" "tuple").getD false = false by decide +kernel)
  | tuple _ => exact (show (kitB "tuple" "tuple").getD false = true by decide +kernel)
  | dict _ => exact (show (kitB "dict" "tuple").getD false = false by decide +kernel)
theorem isi_list (d : PyData) : isiD d "list" = lstD d := by
  cases d with
  | none => exact (show (kitB "NoneType" "list").getD false = false by decide +kernel)
  | bool _ => exact (show (kitB "bool" "list").getD false = false by decide +kernel)
  | int _ => exact (show (kitB "int" "list").getD false = false by decide +kernel)
  | str _ => exact (show (kitB "str" "list").getD false = false by decide +kernel)
  | list _ => exact (show (kitB "list" "list").getD false = true by decide +kernel)
  | tuple _ => exact (show (kitB "tuple" "list").getD false = false by decide +kernel)
  | dict _ => exact (show (kitB "dict" "list").getD false = false by decide +kernel)
theorem isi_dict (d : PyData) : isiD d "dict" = dicD d := by
  cases d with
  | none => exact (show (kitB "NoneType" "dict").getD false = false by decide +kernel)
  | bool _ => exact (show (kitB "bool" "dict").getD false = false by decide +kernel)
  | int _ => exact (show (kitB "int" "dict").getD false = false by decide +kernel)
  | str _ => exact (show (kitB "str" "dict").getD false = false by decide +kernel)
  | list _ => exact (show (kitB "list" "dict").getD false = false by decide +kernel)
  | tuple _ => exact (show (kitB "tuple" "dict").getD false = false by decide +kernel)
  | dict _ => exact (show (kitB "dict" "dict").getD false = true by decide +kernel)
section
variable {K : PySem.W.Frag} {C : CA} {σ : L2.St} {H H' : Hp} {t : TT} {ta tb tc td te tf : TE} {D : Ends} {tu tz : TS} {v : V} {d : PyData}
theorem ev_isiD {T : String} (hT : goodT T) (ha : Ev ta σ H v) (h : Dq H d v) : Ev (tCB (rIsi K) (tCons ta (tCons (tC (.ty T)) tNil))) σ H (.bl (isiD d T)) := by
  have hk : kitB (tyD d) T = some (isiD d T) := by
    have := hT d
    unfold isiD
    cases e : kitB (tyD d) T with
    | none => rw [e] at this; cases this
    | some b => rfl
  exact ev_isi ha (fun H1 e => (h.mono e).ty) hk
/-- for c in a text -/
theorem q_forStr {j : Nat} {z : Str} (h : Ev ta σ H (.str z)) (Pv : Nat → L2.St → Hp → Prop) (h0 : ∀ H1, Ex H H1 → Pv 0 σ H1)
    (hs : ∀ i c σ' H', z.cps.toList[i]? = some c → Pv i σ' H' → tu { D with nx := Pv (i + 1), ct := Pv (i + 1), bk := tz D } (σ'.set j (some (.str ⟨#[c]⟩))) H') (hd : ∀ σ' H', Pv z.cps.toList.length σ' H' → tz D σ' H') : tSeq (tFor (iStr ta) (gName j) tu) tz D σ H :=
  h H (Ex.refl H) _ fun H1 e => ⟨z, rfl, for_it (D := { D with nx := tz D }) walk_str Pv (h0 H1 e) (fun _ _ _ _ _ => trivial) (fun i x σ' H2 H3 hi p y => by
    obtain ⟨rfl, c, hc, rfl⟩ := y
    exact hs i c σ' H3 (by rw [Array.getElem?_toList]; exact hc) p) fun σ' H' p => hd σ' H' (by rw [Array.length_toList]; exact p)⟩
end
/-! ### is_among, is_number -/
def amongD (d : PyData) (lo hi : Int) : Bool := match d with
  | .int i => decide (lo ≤ i) && decide (i ≤ hi)
  | _ => false
def numberD : PyData → Bool
  | .int i => decide (1 ≤ i)
  | _ => false
def sp_is_among (K : PySem.W.Frag) (C : CA) : Sp := fun vs H Q _ => ∃ (v : V) (d : PyData) (lo hi : Int), vs = [v, .int lo, .int hi] ∧ Dq H d v ∧ ∀ H', Ex H H' → Q (.bl (amongD d lo hi)) H'
theorem len_is_among {K : PySem.W.Frag} {C : CA} {vs : List V} {H : Hp} {Q : VK} {E : XK} (h : sp_is_among K C vs H Q E) : vs.length = 3 := by
  obtain ⟨v, d, lo, hi, rfl, _⟩ := h
  rfl
/-- thing 0, least 1, most 2 -/
def t_is_among (K : PySem.W.Frag) (C : CA) : TS :=
 (tRet (tAndV (tCB (rIsi K) (tCons (tVar 0) (tCons (tC (.ty "int")) tNil))) (tAndV (tNotV (tCB (rIsi K) (tCons (tVar 0) (tCons (tC (.ty "bool")) tNil)))) (tChain (leI) (leI) (tVar 1) (tVar 0) (tVar 2)))))
theorem pure_is_among {K : PySem.W.Frag} {C : CA} {vs : List V} {H : Hp} {Q : VK} {E : XK} (h : sp_is_among K C vs H Q E) : t_is_among K C { nx := fun _ H' => Q .non H', rt := Q } (startN 3 vs) H := by
  obtain ⟨v, d, lo, hi, rfl, hd, kk⟩ := h
  have h1 := ev_isiD (K := K) (ta := tVar 0) (σ := startN 3 [v, .int lo, .int hi]) good_int (ev_var rfl) hd
  have h2 := ev_isiD (K := K) (ta := tVar 0) (σ := startN 3 [v, .int lo, .int hi]) good_bool (ev_var rfl) hd
  rw [isi_int] at h1
  rw [isi_bool] at h2
  cases hd with
  | int i => exact s_ret (v := .bl (amongD (.int i) lo hi)) (ev_andV (a := true) h1 fun _ => ev_andV (a := true) (ev_notV (a := false) h2) fun _ => ev_lele (ev_var rfl) (ev_var rfl) (ev_var rfl)) kk
  | bl b => exact s_ret (v := .bl false) (ev_andV (a := true) (b := false) h1 fun _ => ev_andV (a := false) (b := true) (ev_notV (a := true) h2) fun z => by cases z) kk
  | non => exact s_ret (v := .bl false) (ev_andV (a := false) (b := true) h1 fun z => by cases z) kk
  | str x h => exact s_ret (v := .bl false) (ev_andV (a := false) (b := true) h1 fun z => by cases z) kk
  | lst x y => exact s_ret (v := .bl false) (ev_andV (a := false) (b := true) h1 fun z => by cases z) kk
  | tup x y => exact s_ret (v := .bl false) (ev_andV (a := false) (b := true) h1 fun z => by cases z) kk
def sp_is_number (K : PySem.W.Frag) (C : CA) : Sp := fun vs H Q _ => ∃ (v : V) (d : PyData), vs = [v] ∧ Dq H d v ∧ ∀ H', Ex H H' → Q (.bl (numberD d)) H'
theorem len_is_number {K : PySem.W.Frag} {C : CA} {vs : List V} {H : Hp} {Q : VK} {E : XK} (h : sp_is_number K C vs H Q E) : vs.length = 1 := by
  obtain ⟨v, d, rfl, _⟩ := h
  rfl
/-- thing 0 -/
def t_is_number (K : PySem.W.Frag) (C : CA) : TS :=
 (tRet (tAndV (tCB (rIsi K) (tCons (tVar 0) (tCons (tC (.ty "int")) tNil))) (tAndV (tNotV (tCB (rIsi K) (tCons (tVar 0) (tCons (tC (.ty "bool")) tNil)))) (tOp (geI) (tVar 0) (tC (.int 1))))))
theorem pure_is_number {K : PySem.W.Frag} {C : CA} {vs : List V} {H : Hp} {Q : VK} {E : XK} (h : sp_is_number K C vs H Q E) : t_is_number K C { nx := fun _ H' => Q .non H', rt := Q } (startN 1 vs) H := by
  obtain ⟨v, d, rfl, hd, kk⟩ := h
  have h1 := ev_isiD (K := K) (ta := tVar 0) (σ := startN 1 [v]) good_int (ev_var rfl) hd
  have h2 := ev_isiD (K := K) (ta := tVar 0) (σ := startN 1 [v]) good_bool (ev_var rfl) hd
  rw [isi_int] at h1
  rw [isi_bool] at h2
  cases hd with
  | int i => exact s_ret (v := .bl (numberD (.int i))) (ev_andV (a := true) h1 fun _ => ev_andV (a := true) (ev_notV (a := false) h2) fun _ => ev_ge (ev_var rfl) ev_c) kk
  | bl b => exact s_ret (v := .bl false) (ev_andV (a := true) (b := false) h1 fun _ => ev_andV (a := false) (b := true) (ev_notV (a := true) h2) fun z => by cases z) kk
  | non => exact s_ret (v := .bl false) (ev_andV (a := false) (b := true) h1 fun z => by cases z) kk
  | str x h => exact s_ret (v := .bl false) (ev_andV (a := false) (b := true) h1 fun z => by cases z) kk
  | lst x y => exact s_ret (v := .bl false) (ev_andV (a := false) (b := true) h1 fun z => by cases z) kk
  | tup x y => exact s_ret (v := .bl false) (ev_andV (a := false) (b := true) h1 fun z => by cases z) kk
section
variable {K : PySem.W.Frag} {C : CA} {σ : L2.St} {H H' : Hp} {t : TT} {ta tb tc td te tf : TE} {v : V} {d : PyData}
theorem ev_among {lo hi : Int} (ha : Ev ta σ H v) (hb : Ev tb σ H (.int lo)) (hc : Ev tc σ H (.int hi)) (h : Dq H d v) : Ev (tCall (sp_is_among K C) [] E0 (tCons ta (tCons tb (tCons tc tNil)))) σ H (.bl (amongD d lo hi)) :=
  ev_call (ea_cons ha (ea_cons hb (ea_cons hc ea_nil))) fun H1 e Q q E => ⟨v, d, lo, hi, rfl, h.mono e, q⟩
end
/-! ### is_day, is_worth -/
def dayD (d : PyData) : Bool := amongD d 0 1000000
def worthD (d : PyData) : Bool := amongD d (-1000000000) 1000000000
def sp_is_day (K : PySem.W.Frag) (C : CA) : Sp := fun vs H Q _ => ∃ (v : V) (d : PyData), vs = [v] ∧ Dq H d v ∧ ∀ H', Ex H H' → Q (.bl (dayD d)) H'
theorem len_is_day {K : PySem.W.Frag} {C : CA} {vs : List V} {H : Hp} {Q : VK} {E : XK} (h : sp_is_day K C vs H Q E) : vs.length = 1 := by
  obtain ⟨v, d, rfl, _⟩ := h
  rfl
/-- thing 0 -/
def t_is_day (K : PySem.W.Frag) (C : CA) : TS :=
 (tRet (tCall (sp_is_among K C) [] E0 (tCons (tVar 0) (tCons (tC (.int 0)) (tCons (tC (.int 1000000)) tNil)))))
theorem pure_is_day {K : PySem.W.Frag} {C : CA} {vs : List V} {H : Hp} {Q : VK} {E : XK} (h : sp_is_day K C vs H Q E) : t_is_day K C { nx := fun _ H' => Q .non H', rt := Q } (startN 1 vs) H := by
  obtain ⟨v, d, rfl, hd, kk⟩ := h
  exact s_ret (ev_among (ev_var rfl) ev_c ev_c hd) kk
def sp_is_worth (K : PySem.W.Frag) (C : CA) : Sp := fun vs H Q _ => ∃ (v : V) (d : PyData), vs = [v] ∧ Dq H d v ∧ ∀ H', Ex H H' → Q (.bl (worthD d)) H'
theorem len_is_worth {K : PySem.W.Frag} {C : CA} {vs : List V} {H : Hp} {Q : VK} {E : XK} (h : sp_is_worth K C vs H Q E) : vs.length = 1 := by
  obtain ⟨v, d, rfl, _⟩ := h
  rfl
/-- thing 0 -/
def t_is_worth (K : PySem.W.Frag) (C : CA) : TS :=
 (tRet (tCall (sp_is_among K C) [] E0 (tCons (tVar 0) (tCons (tUn (rU fun i => .int (-i)) (tC (.int 1000000000))) (tCons (tC (.int 1000000000)) tNil)))))
theorem pure_is_worth {K : PySem.W.Frag} {C : CA} {vs : List V} {H : Hp} {Q : VK} {E : XK} (h : sp_is_worth K C vs H Q E) : t_is_worth K C { nx := fun _ H' => Q .non H', rt := Q } (startN 1 vs) H := by
  obtain ⟨v, d, rfl, hd, kk⟩ := h
  exact s_ret (ev_among (ev_var rfl) (ev_neg ev_c) ev_c hd) kk
/-! ### is_name -/
def LET : Str := "abcdefghijklmnopqrstuvwxyz"
def nameB (s : Str) : Bool := decide (1 ≤ (s.length : Int)) && decide ((s.length : Int) ≤ 8) && s.cps.toList.all fun c => decide (c ∈ LET.cps.toList)
def nameD : PyData → Bool
  | .str s => nameB s
  | _ => false
theorem let_is : LET.cps.toList = (List.range 26).map (· + 97) := by decide +kernel
theorem let_mem (c : Nat) : c ∈ LET.cps.toList ↔ 97 ≤ c ∧ c ≤ 122 := by
  rw [let_is, List.mem_map]
  constructor
  · rintro ⟨i, hi, rfl⟩
    rw [List.mem_range] at hi
    omega
  · intro h
    exact ⟨c - 97, List.mem_range.mpr (by omega), by omega⟩
theorem nameB_iff {s : Str} : nameB s = true ↔ NameS s := by
  unfold nameB NameS LowS
  rw [Bool.and_eq_true, Bool.and_eq_true, decide_eq_true_eq, decide_eq_true_eq, List.all_eq_true]
  constructor
  · rintro ⟨⟨h1, h2⟩, h3⟩
    exact ⟨by omega, by omega, fun c hc => (let_mem c).mp (of_decide_eq_true (h3 c hc))⟩
  · rintro ⟨h1, h2, h3⟩
    exact ⟨⟨by omega, by omega⟩, fun c hc => decide_eq_true ((let_mem c).mpr (h3 c hc))⟩
def sp_is_name (K : PySem.W.Frag) (C : CA) : Sp := fun vs H Q _ => ∃ (v : V) (d : PyData), vs = [v] ∧ Dq H d v ∧ ∀ H', Ex H H' → Q (.bl (nameD d)) H'
theorem len_is_name {K : PySem.W.Frag} {C : CA} {vs : List V} {H : Hp} {Q : VK} {E : XK} (h : sp_is_name K C vs H Q E) : vs.length = 1 := by
  obtain ⟨v, d, rfl, _⟩ := h
  rfl
/-- thing 0, sign 1 -/
def t_is_name (K : PySem.W.Frag) (C : CA) : TS :=
 (tSeq (tIfS (tOr (tNot (tB (tCB (rIsi K) (tCons (tVar 0) (tCons (tC (.ty "str")) tNil))))) (tNot (tTest (tChain (leI) (leI) (tC (.int 1)) (tCB (lenA K) (tCons (tVar 0) tNil)) (tC (.int 8)))))) (tRet (tC (.bl false))) tNext)
 (tSeq (tFor (iStr (tVar 0)) (gName 1)
  (tIfS (tTest (tOp (niA K) (tVar 1) (tC (.str "abcdefghijklmnopqrstuvwxyz")))) (tRet (tC (.bl false))) tNext))
 (tRet (tC (.bl true)))))
theorem pure_is_name {K : PySem.W.Frag} {C : CA} {vs : List V} {H : Hp} {Q : VK} {E : XK} (h : sp_is_name K C vs H Q E) : t_is_name K C { nx := fun _ H' => Q .non H', rt := Q } (startN 2 vs) H := by
  obtain ⟨v, d, rfl, hd, kk⟩ := h
  have h1 := ev_isiD (K := K) (ta := tVar 0) (σ := startN 2 [v]) good_str (ev_var rfl) hd
  rw [isi_str] at h1
  have no : strD d = false → nameD d = false := by cases d <;> intro h <;> first | rfl | cases h
  have off : strD d = false → t_is_name K C { nx := fun _ H' => Q .non H', rt := Q } (startN 2 [v]) H := fun h => by
    rw [h] at h1
    refine q_when (b := true) (et_or (a := true) (b := true) (et_not (a := false) (et_B h1)) fun z => by cases z) (fun _ H1 e1 => ?_) (fun z => by cases z)
    refine s_ret (v := .bl false) ev_c fun H2 e2 => ?_
    have := kk H2 (e1.trans e2)
    rw [no h] at this
    exact this
  cases d with
  | str s =>
    cases hd with | str _ hs => ?_
    clear off no
    refine q_when (et_or (a := false) (et_not (a := true) (et_B h1)) fun _ => et_not (et_test (ev_lele ev_c (ev_lenS (ev_var rfl) hs) ev_c))) (fun c H1 e1 => ?_) (fun c H1 e1 => ?_)
    · refine s_ret (v := .bl false) ev_c fun H2 e2 => ?_
      have hf : nameD (.str s) = false := by
        show nameB s = false
        unfold nameB
        have : (decide (1 ≤ (s.length : Int)) && decide ((s.length : Int) ≤ 8)) = false := by
          cases e : (decide (1 ≤ (s.length : Int)) && decide ((s.length : Int) ≤ 8)) with
          | false => rfl
          | true => rw [e] at c; cases c
        rw [this]
        rfl
      have := kk H2 (e1.trans e2)
      rw [hf] at this
      exact this
    · have hlen : (decide (1 ≤ (s.length : Int)) && decide ((s.length : Int) ≤ 8)) = true := by
        cases e : (decide (1 ≤ (s.length : Int)) && decide ((s.length : Int) ≤ 8)) with
        | true => rfl
        | false => rw [e] at c; cases c
      refine q_forStr (ev_var rfl) (fun i σ' H' => ∃ o1, σ' = [some (.str s), o1] ∧ Ex H H' ∧ ((s.cps.toList.take i).all fun c => decide (c ∈ LET.cps.toList)) = true)
        (fun H2 e2 => ⟨none, rfl, e1.trans e2, rfl⟩) ?_ ?_
      · rintro i c σ' H' hc ⟨o1, rfl, E1, hall⟩
        have ht : EvT (tTest (tOp (niA K) (tVar 1) (tC (.str "abcdefghijklmnopqrstuvwxyz")))) ([some (.str s), some (.str ⟨#[c]⟩)] : L2.St) H' (!decide (c ∈ LET.cps.toList)) :=
          et_test (ev_op (ev_var rfl) ev_c fun H1 e Q q => .inl ⟨c, LET, rfl, rfl, q H1 (Ex.refl H1)⟩)
        refine s_when ht (fun cc H2 e2 => ?_) (fun cc H2 e2 => ?_)
        · refine s_ret (v := .bl false) ev_c fun H3 e3 => ?_
          have hf : nameD (.str s) = false := by
            show nameB s = false
            unfold nameB
            rw [hlen, Bool.true_and]
            refine List.all_eq_false.mpr ⟨c, List.mem_of_getElem? hc, ?_⟩
            cases e : decide (c ∈ LET.cps.toList) with
            | true => rw [e] at cc; cases cc
            | false => simp
          have := kk H3 ((E1.trans e2).trans e3)
          rw [hf] at this
          exact this
        · refine ⟨_, rfl, E1.trans e2, ?_⟩
          rw [take_snoc hc, List.all_append, hall, Bool.true_and, List.all_cons, List.all_nil, Bool.and_true]
          have : decide (c ∈ LET.cps.toList) = true := by
            cases e : decide (c ∈ LET.cps.toList) with
            | true => rfl
            | false => rw [e] at cc; cases cc
          exact this
      · rintro σ' H' ⟨o1, rfl, E1, hall⟩
        rw [List.take_length] at hall
        refine s_ret (v := .bl true) ev_c fun H3 e3 => ?_
        have hf : nameD (.str s) = true := by
          show nameB s = true
          unfold nameB
          rw [hlen, hall]
          rfl
        have := kk H3 (E1.trans e3)
        rw [hf] at this
        exact this
  | none => exact off rfl
  | bool b => exact off rfl
  | int i => exact off rfl
  | list l => exact off rfl
  | tuple l => exact off rfl
  | dict l => exact off rfl
section
variable {K : PySem.W.Frag} {C : CA} {σ : L2.St} {H H' : Hp} {t : TT} {ta tb tc td te tf : TE} {v : V} {d : PyData}
theorem ev_isName (ha : Ev ta σ H v) (h : Dq H d v) : Ev (tCall (sp_is_name K C) [] E0 (tCons ta tNil)) σ H (.bl (nameD d)) := ev_call (ea_cons ha ea_nil) fun H1 e Q q E => ⟨v, d, rfl, h.mono e, q⟩
theorem ev_isDay (ha : Ev ta σ H v) (h : Dq H d v) : Ev (tCall (sp_is_day K C) [] E0 (tCons ta tNil)) σ H (.bl (dayD d)) := ev_call (ea_cons ha ea_nil) fun H1 e Q q E => ⟨v, d, rfl, h.mono e, q⟩
theorem ev_isWorth (ha : Ev ta σ H v) (h : Dq H d v) : Ev (tCall (sp_is_worth K C) [] E0 (tCons ta tNil)) σ H (.bl (worthD d)) := ev_call (ea_cons ha ea_nil) fun H1 e Q q E => ⟨v, d, rfl, h.mono e, q⟩
theorem ev_isNumber (ha : Ev ta σ H v) (h : Dq H d v) : Ev (tCall (sp_is_number K C) [] E0 (tCons ta tNil)) σ H (.bl (numberD d)) := ev_call (ea_cons ha ea_nil) fun H1 e Q q E => ⟨v, d, rfl, h.mono e, q⟩
/-- a part of a tuple -/
theorem ex_partD {a : Addr} {xs : List V} {ds : List PyData} (i : Nat) (ha : Ev ta σ H (.ref a)) (h : H a = some (.tup xs)) (hd : DqAll H ds xs) (hi : i < ds.length) : ∃ v, Ev (tOp (ixA K) ta (tC (.int (i : Int)))) σ H v ∧ Dq H (ds.getD i .none) v := by
  obtain ⟨v, h1, h2⟩ := hd.get (List.getElem?_eq_getElem hi)
  refine ⟨v, ev_ixT ha ev_c (st_of h) (atI_nat h1), ?_⟩
  rw [List.getD_eq_getElem?_getD, List.getElem?_eq_getElem hi]
  exact h2
end
/-! ### is_said -/
def leD : PyData → PyData → Bool
  | .int i, .int j => decide (i ≤ j)
  | _, _ => false
def saidD (ds : List PyData) (n : Nat) : Bool := decide (ds.length = n) && nameD (ds.getD 1 .none) && dayD (ds.getD 2 .none) && dayD (ds.getD 3 .none) && leD (ds.getD 2 .none) (ds.getD 3 .none)
def sp_is_said (K : PySem.W.Frag) (C : CA) : Sp := fun vs H Q _ => ∃ (a : Addr) (xs : List V) (ds : List PyData) (n : Nat), vs = [.ref a, .int (n : Int)] ∧ H a = some (.tup xs) ∧ DqAll H ds xs ∧ 4 ≤ n ∧ ∀ H', Ex H H' → Q (.bl (saidD ds n)) H'
theorem len_is_said {K : PySem.W.Frag} {C : CA} {vs : List V} {H : Hp} {Q : VK} {E : XK} (h : sp_is_said K C vs H Q E) : vs.length = 2 := by
  obtain ⟨a, xs, ds, n, rfl, _⟩ := h
  rfl
/-- entry 0, parts 1 -/
def t_is_said (K : PySem.W.Frag) (C : CA) : TS :=
 (tSeq (tIfS (tOr (tTest (tOp (neA K) (tCB (lenA K) (tCons (tVar 0) tNil)) (tVar 1))) (tOr (tNot (tB (tCall (sp_is_name K C) [] E0 (tCons (tOp (ixA K) (tVar 0) (tC (.int 1))) tNil)))) (tOr (tNot (tB (tCall (sp_is_day K C) [] E0 (tCons (tOp (ixA K) (tVar 0) (tC (.int 2))) tNil)))) (tNot (tB (tCall (sp_is_day K C) [] E0 (tCons (tOp (ixA K) (tVar 0) (tC (.int 3))) tNil))))))) (tRet (tC (.bl false))) tNext)
 (tRet (tOp (leI) (tOp (ixA K) (tVar 0) (tC (.int 2))) (tOp (ixA K) (tVar 0) (tC (.int 3))))))
theorem day_int {d : PyData} (h : dayD d = true) : ∃ i, d = .int i ∧ 0 ≤ i ∧ i ≤ 1000000 := by
  cases d with
  | int i =>
    have h : (decide (0 ≤ i) && decide (i ≤ 1000000)) = true := h
    rw [Bool.and_eq_true, decide_eq_true_eq, decide_eq_true_eq] at h
    exact ⟨i, rfl, h⟩
  | none => cases h
  | bool b => cases h
  | str s => cases h
  | list l => cases h
  | tuple l => cases h
  | dict l => cases h
theorem pure_is_said {K : PySem.W.Frag} {C : CA} {vs : List V} {H : Hp} {Q : VK} {E : XK} (h : sp_is_said K C vs H Q E) : t_is_said K C { nx := fun _ H' => Q .non H', rt := Q } (startN 2 vs) H := by
  obtain ⟨a, xs, ds, n, rfl, ha, hd, hn, kk⟩ := h
  have hlx := hd.length
  have hlen : Ev (tCB (lenA K) (tCons (tVar 0) tNil)) (startN 2 [.ref a, .int (n : Int)]) H (.int (xs.length : Int)) := ev_lenT (ev_var rfl) (st_of ha)
  have e0 := ev_neI (K := K) hlen (ev_var (i := 1) rfl)
  rw [← hlx] at e0
  by_cases c : ds.length = n
  · obtain ⟨v1, p1, d1⟩ := ex_partD (K := K) (ta := tVar 0) (σ := startN 2 [.ref a, .int (n : Int)]) 1 (ev_var rfl) ha hd (by omega)
    obtain ⟨v2, p2, d2⟩ := ex_partD (K := K) (ta := tVar 0) (σ := startN 2 [.ref a, .int (n : Int)]) 2 (ev_var rfl) ha hd (by omega)
    obtain ⟨v3, p3, d3⟩ := ex_partD (K := K) (ta := tVar 0) (σ := startN 2 [.ref a, .int (n : Int)]) 3 (ev_var rfl) ha hd (by omega)
    have es : saidD ds n = (nameD (ds.getD 1 .none) && dayD (ds.getD 2 .none) && dayD (ds.getD 3 .none) && leD (ds.getD 2 .none) (ds.getD 3 .none)) := by
      unfold saidD
      rw [decide_eq_true c, Bool.true_and]
    rw [es] at kk
    have c' : (ds.length : Int) = (n : Int) := by omega
    rw [decide_eq_true c'] at e0
    refine q_when (et_or (a := false) (et_test e0) fun _ => et_or (et_not (et_B (ev_isName p1 d1))) fun _ => et_or (et_not (et_B (ev_isDay p2 d2))) fun _ => et_not (et_B (ev_isDay p3 d3))) (fun b H1 e1 => ?_) (fun b H1 e1 => ?_)
    · refine s_ret (v := .bl false) ev_c fun H2 e2 => ?_
      have := kk H2 (e1.trans e2)
      have hf : (nameD (ds.getD 1 .none) && dayD (ds.getD 2 .none) && dayD (ds.getD 3 .none)) = false := by
        cases h1 : nameD (ds.getD 1 .none) <;> cases h2 : dayD (ds.getD 2 .none) <;> cases h3 : dayD (ds.getD 3 .none) <;> first | rfl | (rw [h1, h2, h3] at b; cases b)
      rw [hf] at this
      exact this
    · have hf : nameD (ds.getD 1 .none) = true ∧ dayD (ds.getD 2 .none) = true ∧ dayD (ds.getD 3 .none) = true := by
        cases h1 : nameD (ds.getD 1 .none) <;> cases h2 : dayD (ds.getD 2 .none) <;> cases h3 : dayD (ds.getD 3 .none) <;> first | exact ⟨rfl, rfl, rfl⟩ | (rw [h1, h2, h3] at b; cases b)
      obtain ⟨i, hi, _⟩ := day_int hf.2.1
      obtain ⟨j, hj, _⟩ := day_int hf.2.2
      rw [hf.1, hf.2.1, hf.2.2] at kk
      rw [hi] at d2 kk
      rw [hj] at d3 kk
      cases d2
      cases d3
      exact s_ret (v := .bl (leD (.int i) (.int j))) (ev_le (p2.mono e1) (p3.mono e1)) fun H2 e2 => kk H2 (e1.trans e2)
  · have c' : ¬ (ds.length : Int) = (n : Int) := by omega
    rw [decide_eq_false c'] at e0
    have hf : saidD ds n = false := by
      unfold saidD
      rw [decide_eq_false c]
      rfl
    rw [hf] at kk
    refine q_when (b := true) (et_or (a := true) (b := true) (et_test e0) fun z => by cases z) (fun b H1 e1 => ?_) (fun z => by cases z)
    exact s_ret (v := .bl false) ev_c fun H2 e2 => kk H2 (e1.trans e2)
/-! ### is_entry -/
def entryD : PyData → Bool
  | .tuple (.str w :: x :: r) =>
    if decide (w = "tell") = true then saidD (.str w :: x :: r) 5 && worthD ((PyData.str w :: x :: r).getD 4 .none)
    else if decide (w = "clear") = true then saidD (.str w :: x :: r) 4
    else if decide (w = "like") = true then saidD (.str w :: x :: r) 5 && nameD ((PyData.str w :: x :: r).getD 4 .none)
    else decide (w = "undo") && (decide (((PyData.str w :: x :: r).length : Int) = 2) && numberD x)
  | _ => false
theorem entryD_eq (w : Str) (x : PyData) (r : List PyData) : entryD (.tuple (.str w :: x :: r)) = if decide (w = "tell") = true then saidD (.str w :: x :: r) 5 && worthD ((PyData.str w :: x :: r).getD 4 .none)
    else if decide (w = "clear") = true then saidD (.str w :: x :: r) 4
    else if decide (w = "like") = true then saidD (.str w :: x :: r) 5 && nameD ((PyData.str w :: x :: r).getD 4 .none)
    else decide (w = "undo") && (decide (((PyData.str w :: x :: r).length : Int) = 2) && numberD x) := rfl
def sp_is_entry (K : PySem.W.Frag) (C : CA) : Sp := fun vs H Q _ => ∃ (v : V) (d : PyData), vs = [v] ∧ Dq H d v ∧ ∀ H', Ex H H' → Q (.bl (entryD d)) H'
theorem len_is_entry {K : PySem.W.Frag} {C : CA} {vs : List V} {H : Hp} {Q : VK} {E : XK} (h : sp_is_entry K C vs H Q E) : vs.length = 1 := by
  obtain ⟨v, d, rfl, _⟩ := h
  rfl
/-- entry 0 -/
def t_is_entry (K : PySem.W.Frag) (C : CA) : TS :=
 (tSeq (tIfS (tOr (tNot (tB (tCB (rIsi K) (tCons (tVar 0) (tCons (tC (.ty "tuple")) tNil))))) (tOr (tTest (tOp (ltI) (tCB (lenA K) (tCons (tVar 0) tNil)) (tC (.int 2)))) (tNot (tB (tCB (rIsi K) (tCons (tOp (ixA K) (tVar 0) (tC (.int 0))) (tCons (tC (.ty "str")) tNil))))))) (tRet (tC (.bl false))) tNext)
 (tSeq (tIfS (tTest (tOp (eqA K) (tOp (ixA K) (tVar 0) (tC (.int 0))) (tC (.str "tell")))) (tRet (tAndV (tCall (sp_is_said K C) [] E0 (tCons (tVar 0) (tCons (tC (.int 5)) tNil))) (tCall (sp_is_worth K C) [] E0 (tCons (tOp (ixA K) (tVar 0) (tC (.int 4))) tNil)))) tNext)
 (tSeq (tIfS (tTest (tOp (eqA K) (tOp (ixA K) (tVar 0) (tC (.int 0))) (tC (.str "clear")))) (tRet (tCall (sp_is_said K C) [] E0 (tCons (tVar 0) (tCons (tC (.int 4)) tNil)))) tNext)
 (tSeq (tIfS (tTest (tOp (eqA K) (tOp (ixA K) (tVar 0) (tC (.int 0))) (tC (.str "like")))) (tRet (tAndV (tCall (sp_is_said K C) [] E0 (tCons (tVar 0) (tCons (tC (.int 5)) tNil))) (tCall (sp_is_name K C) [] E0 (tCons (tOp (ixA K) (tVar 0) (tC (.int 4))) tNil)))) tNext)
 (tRet (tAndV (tOp (eqA K) (tOp (ixA K) (tVar 0) (tC (.int 0))) (tC (.str "undo"))) (tAndV (tOp (eqA K) (tCB (lenA K) (tCons (tVar 0) tNil)) (tC (.int 2))) (tCall (sp_is_number K C) [] E0 (tCons (tOp (ixA K) (tVar 0) (tC (.int 1))) tNil)))))))))
theorem said_len {ds : List PyData} {n : Nat} (h : saidD ds n = true) : ds.length = n := by
  unfold saidD at h
  rw [Bool.and_eq_true, Bool.and_eq_true, Bool.and_eq_true, Bool.and_eq_true] at h
  exact of_decide_eq_true h.1.1.1.1
theorem pure_is_entry {K : PySem.W.Frag} {C : CA} {vs : List V} {H : Hp} {Q : VK} {E : XK} (h : sp_is_entry K C vs H Q E) : t_is_entry K C { nx := fun _ H' => Q .non H', rt := Q } (startN 1 vs) H := by
  obtain ⟨v, d, rfl, hd, kk⟩ := h
  have h1 := ev_isiD (K := K) (ta := tVar 0) (σ := startN 1 [v]) good_tuple (ev_var rfl) hd
  rw [isi_tuple] at h1
  -- no tuple
  have off : tupD d = false → entryD d = false → t_is_entry K C { nx := fun _ H' => Q .non H', rt := Q } (startN 1 [v]) H := fun h hf => by
    rw [h] at h1
    rw [hf] at kk
    refine q_when (b := true) (et_or (a := true) (b := true) (et_not (a := false) (et_B h1)) fun z => by cases z) (fun _ H1 e1 => ?_) (fun z => by cases z)
    exact s_ret (v := .bl false) ev_c fun H2 e2 => kk H2 (e1.trans e2)
  cases d with
  | none => exact off rfl rfl
  | bool b => exact off rfl rfl
  | int i => exact off rfl rfl
  | list l => exact off rfl rfl
  | str s => exact off rfl rfl
  | dict l => exact off rfl rfl
  | tuple ds =>
    clear off
    cases hd with
    | @tup a xs _ ha hall =>
    have hlx := hall.length
    have hlen : ∀ H1, Ex H H1 → Ev (tCB (lenA K) (tCons (tVar 0) tNil)) (startN 1 [.ref a]) H1 (.int (ds.length : Int)) := fun H1 e => by rw [hlx]; exact ev_lenT (ev_var rfl) (st_of (e a _ ha))
    have e2 := ev_lt (hlen H (Ex.refl H)) (ev_c (v := .int 2))
    match ds, hall, hlx, hlen, e2, kk with
    | [], hall, hlx, hlen, e2, kk =>
      refine q_when (b := true) (et_or (a := false) (b := true) (et_not (a := true) (et_B h1)) fun _ => et_or (a := true) (b := true) (et_test e2) fun z => by cases z) (fun _ H1 e1 => ?_) (fun z => by cases z)
      exact s_ret (v := .bl false) ev_c fun H2 e2 => kk H2 (e1.trans e2)
    | [x], hall, hlx, hlen, e2, kk =>
      have hf : entryD (.tuple [x]) = false := by cases x <;> rfl
      rw [hf] at kk
      refine q_when (b := true) (et_or (a := false) (b := true) (et_not (a := true) (et_B h1)) fun _ => et_or (a := true) (b := true) (et_test e2) fun z => by cases z) (fun _ H1 e1 => ?_) (fun z => by cases z)
      exact s_ret (v := .bl false) ev_c fun H2 e2 => kk H2 (e1.trans e2)
    | w :: x :: r, hall, hlx, hlen, e2, kk =>
      have hl2 : ¬ (((w :: x :: r).length : Int) < 2) := by rw [List.length_cons, List.length_cons]; omega
      rw [decide_eq_false hl2] at e2
      obtain ⟨v0, p0, d0⟩ := ex_partD (K := K) (ta := tVar 0) (σ := startN 1 [.ref a]) 0 (ev_var rfl) ha hall (by simp)
      have d0 : Dq H w v0 := d0
      have h3 := ev_isiD (K := K) good_str p0 d0
      rw [isi_str] at h3
      -- no text ahead
      have off : strD w = false → entryD (.tuple (w :: x :: r)) = false → t_is_entry K C { nx := fun _ H' => Q .non H', rt := Q } (startN 1 [.ref a]) H := fun h hf => by
        rw [h] at h3
        rw [hf] at kk
        refine q_when (b := true) (et_or (a := false) (b := true) (et_not (a := true) (et_B h1)) fun _ => et_or (a := false) (b := true) (et_test e2) fun _ => et_not (a := false) (et_B h3)) (fun _ H1 e1 => ?_) (fun z => by cases z)
        exact s_ret (v := .bl false) ev_c fun H2 e2 => kk H2 (e1.trans e2)
      cases w with
      | none => exact off rfl rfl
      | bool b => exact off rfl rfl
      | int i => exact off rfl rfl
      | list l => exact off rfl rfl
      | tuple l => exact off rfl rfl
      | dict l => exact off rfl rfl
      | str w =>
        clear off
        cases d0 with | str _ hw => ?_
        refine q_when (b := false) (et_or (a := false) (b := false) (et_not (a := true) (et_B h1)) fun _ => et_or (a := false) (b := false) (et_test e2) fun _ => et_not (a := true) (et_B h3)) (fun z => by cases z) (fun _ H1 e1 => ?_)
        have tw : ∀ (u : Str) H2, Ex H H2 → Ev (tOp (eqA K) (tOp (ixA K) (tVar 0) (tC (.int 0))) (tC (.str u))) (startN 1 [.ref a]) H2 (.bl (decide (w = u))) := fun u H2 e => ev_eqS (p0.mono e) ev_c
        have said : ∀ (n : Nat) H2, 4 ≤ n → Ex H H2 → Ev (tCall (sp_is_said K C) [] E0 (tCons (tVar 0) (tCons (tC (.int (n : Int))) tNil))) (startN 1 [.ref a]) H2 (.bl (saidD (.str w :: x :: r) n)) := fun n H2 hn e =>
          ev_call (ea_cons (ev_var rfl) (ea_cons ev_c ea_nil)) fun H3 e3 Q q E => ⟨a, xs, _, n, rfl, (e.trans e3) a _ ha, hall.mono (e.trans e3), hn, q⟩
        have ed : entryD (.tuple (.str w :: x :: r)) = if decide (w = "tell") = true then saidD (.str w :: x :: r) 5 && worthD ((PyData.str w :: x :: r).getD 4 .none)
          else if decide (w = "clear") = true then saidD (.str w :: x :: r) 4
          else if decide (w = "like") = true then saidD (.str w :: x :: r) 5 && nameD ((PyData.str w :: x :: r).getD 4 .none)
          else decide (w = "undo") && (decide (((PyData.str w :: x :: r).length : Int) = 2) && numberD x) := rfl
        rw [ed] at kk
        have part4 : ∀ H2, Ex H H2 → saidD (.str w :: x :: r) 5 = true → ∃ v4, Ev (tOp (ixA K) (tVar 0) (tC (.int 4))) (startN 1 [.ref a]) H2 v4 ∧ Dq H2 ((PyData.str w :: x :: r).getD 4 .none) v4 := fun H2 e hs =>
          ex_partD (K := K) (ta := tVar 0) 4 (ev_var rfl) (e a _ ha) (hall.mono e) (by rw [said_len hs]; decide)
        refine q_when (et_test (tw "tell" H1 e1)) (fun c H2 e2 => ?_) (fun c H2 e2 => ?_)
        · rw [if_pos c] at kk
          refine s_ret (D := { nx := _, rt := Q }) (v := .bl (saidD (.str w :: x :: r) 5 && worthD ((PyData.str w :: x :: r).getD 4 .none))) (ev_andV (said 5 H2 (by decide) (e1.trans e2)) fun hs => ?_) fun H3 e3 => kk H3 ((e1.trans e2).trans e3)
          obtain ⟨v4, g1, g2⟩ := part4 H2 (e1.trans e2) hs
          exact ev_isWorth g1 g2
        · rw [if_neg (by rw [c]; decide)] at kk
          have E2 := e1.trans e2
          refine q_when (et_test (tw "clear" H2 E2)) (fun c H3 e3 => ?_) (fun c H3 e3 => ?_)
          · rw [if_pos c] at kk
            exact s_ret (D := { nx := _, rt := Q }) (v := .bl (saidD (.str w :: x :: r) 4)) (said 4 H3 (by decide) (E2.trans e3)) fun H4 e4 => kk H4 ((E2.trans e3).trans e4)
          · rw [if_neg (by rw [c]; decide)] at kk
            have E3 := E2.trans e3
            refine q_when (et_test (tw "like" H3 E3)) (fun c H4 e4 => ?_) (fun c H4 e4 => ?_)
            · rw [if_pos c] at kk
              refine s_ret (D := { nx := _, rt := Q }) (v := .bl (saidD (.str w :: x :: r) 5 && nameD ((PyData.str w :: x :: r).getD 4 .none))) (ev_andV (said 5 H4 (by decide) (E3.trans e4)) fun hs => ?_) fun H5 e5 => kk H5 ((E3.trans e4).trans e5)
              obtain ⟨v4, g1, g2⟩ := part4 H4 (E3.trans e4) hs
              exact ev_isName g1 g2
            · rw [if_neg (by rw [c]; decide)] at kk
              have E4 := E3.trans e4
              obtain ⟨v1, p1, d1⟩ := ex_partD (K := K) (ta := tVar 0) (σ := startN 1 [.ref a]) 1 (ev_var rfl) (E4 a _ ha) (hall.mono E4) (by simp)
              have d1 : Dq H4 x v1 := d1
              exact s_ret (v := .bl (decide (w = "undo") && (decide (((PyData.str w :: x :: r).length : Int) = 2) && numberD x))) (ev_andV (tw "undo" H4 E4) fun _ => ev_andV (ev_eqI (hlen H4 E4) ev_c) fun _ => ev_isNumber p1 d1) fun H5 e5 => kk H5 (E4.trans e5)
/-- a good entry is one -/
theorem Ent.isEntry {e : Ent} {k : Int} (h : e.ok k) : entryD (.tuple e.ds) = true := by
  have tt : decide (("tell" : Str) = "tell") = true := by decide +kernel
  have ct : decide (("clear" : Str) = "tell") = false := by decide +kernel
  have cc : decide (("clear" : Str) = "clear") = true := by decide +kernel
  have lt : decide (("like" : Str) = "tell") = false := by decide +kernel
  have lc : decide (("like" : Str) = "clear") = false := by decide +kernel
  have ll : decide (("like" : Str) = "like") = true := by decide +kernel
  have ut : decide (("undo" : Str) = "tell") = false := by decide +kernel
  have uc : decide (("undo" : Str) = "clear") = false := by decide +kernel
  have ul : decide (("undo" : Str) = "like") = false := by decide +kernel
  have uu : decide (("undo" : Str) = "undo") = true := by decide +kernel
  have day : ∀ {i : Int}, 0 ≤ i → i ≤ 1000000 → dayD (.int i) = true := fun h1 h2 => by
    show (decide _ && decide _) = true
    rw [decide_eq_true h1, decide_eq_true h2]; rfl
  cases e with
  | tell n lo hi w =>
    obtain ⟨h1, h2, h3, h4, h5, h6⟩ := h
    have a1 : nameD (.str n) = true := nameB_iff.mpr h1
    have a2 : dayD (.int lo) = true := day h2 (by omega)
    have a3 : dayD (.int hi) = true := day (by omega) h4
    have a4 : leD (.int lo) (.int hi) = true := decide_eq_true h3
    have a5 : worthD (.int w) = true := by
      show (decide _ && decide _) = true
      rw [decide_eq_true h5, decide_eq_true h6]; rfl
    show entryD (.tuple (.str "tell" :: .str n :: [.int lo, .int hi, .int w])) = true
    rw [entryD_eq, if_pos tt]
    show (saidD [.str "tell", .str n, .int lo, .int hi, .int w] 5 && worthD (.int w)) = true
    rw [a5, Bool.and_true]
    show (decide _ && nameD (.str n) && dayD (.int lo) && dayD (.int hi) && leD (.int lo) (.int hi)) = true
    rw [a1, a2, a3, a4]; rfl
  | clear n lo hi =>
    obtain ⟨h1, h2, h3, h4⟩ := h
    have a1 : nameD (.str n) = true := nameB_iff.mpr h1
    have a2 : dayD (.int lo) = true := day h2 (by omega)
    have a3 : dayD (.int hi) = true := day (by omega) h4
    have a4 : leD (.int lo) (.int hi) = true := decide_eq_true h3
    show entryD (.tuple (.str "clear" :: .str n :: [.int lo, .int hi])) = true
    rw [entryD_eq, if_neg (by rw [ct]; decide), if_pos cc]
    show (decide _ && nameD (.str n) && dayD (.int lo) && dayD (.int hi) && leD (.int lo) (.int hi)) = true
    rw [a1, a2, a3, a4]; rfl
  | like n lo hi o =>
    obtain ⟨h1, h2, h3, h4, h5⟩ := h
    have a1 : nameD (.str n) = true := nameB_iff.mpr h1
    have a2 : dayD (.int lo) = true := day h2 (by omega)
    have a3 : dayD (.int hi) = true := day (by omega) h4
    have a4 : leD (.int lo) (.int hi) = true := decide_eq_true h3
    have a5 : nameD (.str o) = true := nameB_iff.mpr h5
    show entryD (.tuple (.str "like" :: .str n :: [.int lo, .int hi, .str o])) = true
    rw [entryD_eq, if_neg (by rw [lt]; decide), if_neg (by rw [lc]; decide), if_pos ll]
    show (saidD [.str "like", .str n, .int lo, .int hi, .str o] 5 && nameD (.str o)) = true
    rw [a5, Bool.and_true]
    show (decide _ && nameD (.str n) && dayD (.int lo) && dayD (.int hi) && leD (.int lo) (.int hi)) = true
    rw [a1, a2, a3, a4]; rfl
  | undo j =>
    show entryD (.tuple (.str "undo" :: .int j :: [])) = true
    rw [entryD_eq, if_neg (by rw [ut]; decide), if_neg (by rw [uc]; decide), if_neg (by rw [ul]; decide), uu]
    have : numberD (.int j) = true := decide_eq_true h.1
    rw [this]; rfl
end S
end
set_option Elab.async false
set_option linter.all false
set_option maxRecDepth 100000
set_option maxHeartbeats 4000000
namespace S
open PySem L2 Evl
/-! ### what is behind a number depends on the entries up to it -/
theorem downs_filter (ks : List Int) (p : Int → Bool) : (downs ks).filter p = downs (ks.filter p) :=
  downs_of ((downs_perm ks).filter p) ((downs_sorted ks).filter p)
theorem downs_congr {ks ls : List Int} (h : ks.Perm ls) : downs ks = downs ls := downs_of ((downs_perm ks).trans h) (downs_sorted ks)
theorem ups_congr {ks ls : List Int} (h : ks.Perm ls) : ups ks = ups ls := ups_of ((ups_perm ks).trans h) (ups_sorted ks)
theorem perm_of_mem {l m : List Int} (hl : l.Nodup) (hm : m.Nodup) (h : ∀ a, a ∈ l ↔ a ∈ m) : l.Perm m := by
  rw [List.perm_iff_count]
  intro a
  rw [List.Nodup.count hl, List.Nodup.count hm]
  by_cases e : a ∈ l
  · rw [if_pos e, if_pos ((h a).mp e)]
  · rw [if_neg e, if_neg (fun z => e ((h a).mpr z))]
theorem countStep_skip {B : Bk} {n k : Int} (st : List Int × List Int) (h : ¬ k ≤ n) : countStep B n st k = st := by
  unfold countStep
  rw [if_neg fun z => h z.1]
theorem countAll_filter (B : Bk) (n : Int) (ys : List Int) : countAll B n ys = countAll B n (ys.filter fun k => decide (k ≤ n)) := by
  unfold countAll
  generalize (([], []) : List Int × List Int) = st
  induction ys generalizing st with
  | nil => rfl
  | cons k r ih =>
    by_cases h : k ≤ n
    · rw [List.filter_cons, if_pos (decide_eq_true h), List.foldl_cons, List.foldl_cons, ih]
    · rw [List.filter_cons, if_neg (by simpa using h), List.foldl_cons, countStep_skip st h, ih]
theorem countAll_congr {B B' : Bk} {n : Int} {ys : List Int} (h : ∀ k ∈ ys, Bk.at B k = Bk.at B' k) : countAll B n ys = countAll B' n ys := by
  unfold countAll
  generalize (([], []) : List Int × List Int) = st
  induction ys generalizing st with
  | nil => rfl
  | cons k r ih =>
    have e : countStep B n st k = countStep B' n st k := by
      unfold countStep
      rw [h k List.mem_cons_self]
    rw [List.foldl_cons, List.foldl_cons, e, ih fun j hj => h j (List.mem_cons_of_mem _ hj)]
theorem mem_keys {B : Bk} {k : Int} : k ∈ B.map (·.1) ↔ (Bk.at B k).isSome = true := by
  constructor
  · intro h
    obtain ⟨e, he⟩ := Bk.at_isSome h
    rw [he]; rfl
  · intro h
    cases e : Bk.at B k with
    | none => rw [e] at h; cases h
    | some x => exact List.mem_map_of_mem (f := (·.1)) (Bk.at_mem e)
theorem countF_local {B B' : Bk} {n : Int} (hB : (B.map (·.1)).Nodup) (hB' : (B'.map (·.1)).Nodup) (h : ∀ k, k ≤ n → Bk.at B k = Bk.at B' k) : countF B n = countF B' n := by
  unfold countF
  rw [countAll_filter B, countAll_filter B', downs_filter, downs_filter]
  have hp : ((B.map (·.1)).filter fun k => decide (k ≤ n)).Perm ((B'.map (·.1)).filter fun k => decide (k ≤ n)) := by
    refine perm_of_mem (hB.filter _) (hB'.filter _) fun a => ?_
    rw [List.mem_filter, List.mem_filter, mem_keys, mem_keys, decide_eq_true_eq]
    constructor
    · rintro ⟨h1, h2⟩; rw [h a h2] at h1; exact ⟨h1, h2⟩
    · rintro ⟨h1, h2⟩; rw [← h a h2] at h1; exact ⟨h1, h2⟩
  rw [downs_congr hp]
  rw [countAll_congr (B := B) (B' := B')]
  intro k hk
  have := (downs_perm _).mem_iff.mp hk
  rw [List.mem_filter, decide_eq_true_eq] at this
  exact h k this.2
theorem saidL_congr {B B' : Bk} {day : Int} : ∀ {ns : List Int}, (∀ k ∈ ns, Bk.at B k = Bk.at B' k) → ∀ name, saidL B day ns name = saidL B' day ns name
  | [], _, _ => rfl
  | k :: r, h, name => by
    have ih := saidL_congr (B := B) (B' := B') (day := day) (ns := r) fun j hj => h j (List.mem_cons_of_mem _ hj)
    unfold saidL
    rw [h k List.mem_cons_self]
    cases Bk.at B' k with
    | none => exact ih name
    | some e =>
      cases e with
      | tell n lo hi w => dsimp only; rw [ih]
      | clear n lo hi => dsimp only; rw [ih]
      | like n lo hi o => dsimp only; rw [ih, ih]
      | undo j => exact ih name
theorem worth_local {B B' : Bk} {n : Int} (hB : (B.map (·.1)).Nodup) (hB' : (B'.map (·.1)).Nodup) (h : ∀ k, k ≤ n → Bk.at B k = Bk.at B' k) (name : Str) (day : Int) : worthF B n name day = worthF B' n name day := by
  unfold worthF saidF
  rw [countF_local hB hB' h]
  refine saidL_congr (fun k hk => ?_) name
  exact h k (countF_mem (List.mem_reverse.mp hk)).2
theorem at_filter {B : Bk} {c k : Int} (h : k < c) : Bk.at (B.filter fun q => decide (q.1 < c)) k = Bk.at B k := by
  induction B with
  | nil => rfl
  | cons p B ih =>
    by_cases e : p.1 < c
    · rw [List.filter_cons, if_pos (decide_eq_true e)]
      by_cases z : p.1 = k
      · rw [Bk.at_cons_pos z, Bk.at_cons_pos z]
      · rw [Bk.at_cons_neg z, Bk.at_cons_neg z, ih]
    · rw [List.filter_cons, if_neg (by simpa using e), ih]
      have z : ¬ p.1 = k := by omega
      rw [Bk.at_cons_neg z]
/-! ### how it came about -/
def dueStep (B : Bk) (name : Str) (day : Int) (st : List (List (Option Int)) × Option Int) (k : Int) : List (List (Option Int)) × Option Int :=
  if worthF B k name day = st.2 then st else (st.1 ++ [[some k, worthF B k name day]], worthF B k name day)
def dueAll (B : Bk) (name : Str) (day : Int) (ys : List Int) : List (List (Option Int)) × Option Int := ys.foldl (dueStep B name day) ([[some 0, none]], none)
def cameF (B : Bk) (name : Str) (day : Int) : List (List (Option Int)) := (dueAll B name day (ups (B.map (·.1)))).1
theorem dueAll_snoc (B : Bk) (name : Str) (day : Int) (ys : List Int) (k : Int) : dueAll B name day (ys ++ [k]) = dueStep B name day (dueAll B name day ys) k := by
  unfold dueAll
  rw [List.foldl_append]
  rfl
theorem dueAll_inv (B : Bk) (name : Str) (day : Int) (ys : List Int) : (∃ rs k, (dueAll B name day ys).1 = rs ++ [[some k, (dueAll B name day ys).2]]) ∧ (dueAll B name day ys).1.length ≤ ys.length + 1 ∧ ∀ r ∈ (dueAll B name day ys).1, ∃ k w, r = [some k, w] ∧ (k = 0 ∨ k ∈ ys) := by
  have : ∀ (n : Nat), n ≤ ys.length → (∃ rs k, (dueAll B name day (ys.take n)).1 = rs ++ [[some k, (dueAll B name day (ys.take n)).2]]) ∧ (dueAll B name day (ys.take n)).1.length ≤ n + 1 ∧ ∀ r ∈ (dueAll B name day (ys.take n)).1, ∃ k w, r = [some k, w] ∧ (k = 0 ∨ k ∈ ys) := by
    intro n
    induction n with
    | zero =>
      intro _
      refine ⟨⟨[], 0, rfl⟩, Nat.le_refl _, fun r hr => ?_⟩
      have e : r = [some 0, none] := List.mem_singleton.mp hr
      exact ⟨0, none, e, .inl rfl⟩
    | succ n ih =>
      intro hn
      have hx : ys[n]? = some ys[n] := List.getElem?_eq_getElem (by omega)
      obtain ⟨h1, h2, h3⟩ := ih (by omega)
      rw [take_snoc hx, dueAll_snoc]
      unfold dueStep
      split
      · exact ⟨h1, by omega, h3⟩
      · refine ⟨⟨_, _, rfl⟩, by rw [List.length_append]; show _ + 1 ≤ _; omega, fun r hr => ?_⟩
        rcases List.mem_append.mp hr with h | h
        · exact h3 r h
        · exact ⟨_, _, List.mem_singleton.mp h, .inr (List.getElem_mem _)⟩
  have h := this ys.length (Nat.le_refl _)
  rw [List.take_length] at h
  exact h
theorem dueAll_congr {B B' : Bk} {name : Str} {day : Int} {ys : List Int} (h : ∀ k ∈ ys, worthF B k name day = worthF B' k name day) : dueAll B name day ys = dueAll B' name day ys := by
  unfold dueAll
  generalize (([[some 0, none]], none) : List (List (Option Int)) × Option Int) = st
  induction ys generalizing st with
  | nil => rfl
  | cons k r ih =>
    have e : dueStep B name day st k = dueStep B' name day st k := by
      unfold dueStep
      rw [h k List.mem_cons_self]
    rw [List.foldl_cons, List.foldl_cons, e, ih fun j hj => h j (List.mem_cons_of_mem _ hj)]
def rowLt (c : Int) : List (Option Int) → Bool
  | some k :: _ => decide (k < c)
  | _ => false
theorem ups_last {B : Bk} (hg : GoodBk B) (hn : (B.map (·.1)).Nodup) (hne : B ≠ []) : ups (B.map (·.1)) = ups ((B.filter fun q => decide (q.1 < maxK B)).map (·.1)) ++ [maxK B] := by
  refine (ups_of ?_ ?_).symm
  · have e : (B.filter fun q => decide (q.1 < maxK B)).map (·.1) = (B.map (·.1)).filter fun k => decide (k < maxK B) := by
      rw [List.filter_map]; rfl
    rw [e]
    refine perm_of_mem ?_ hn fun a => ?_
    · rw [List.nodup_append]
      refine ⟨(ups_perm _).nodup_iff.mpr (hn.filter _), by simp, fun a ha b hb => ?_⟩
      have h1 := (ups_perm _).mem_iff.mp ha
      rw [List.mem_filter, decide_eq_true_eq] at h1
      rw [List.mem_singleton.mp hb]
      omega
    · rw [List.mem_append, (ups_perm _).mem_iff, List.mem_filter, decide_eq_true_eq, List.mem_singleton]
      constructor
      · rintro (h | h)
        · exact h.1
        · rw [h]; exact maxK_mem hg hne
      · intro h
        have := maxK_le h
        by_cases z : a = maxK B
        · exact .inr z
        · exact .inl ⟨h, by omega⟩
  · rw [List.pairwise_append]
    refine ⟨ups_sorted _, by simp, fun a ha b hb => ?_⟩
    have h1 := (ups_perm _).mem_iff.mp ha
    obtain ⟨q, hq, rfl⟩ := List.mem_map.mp h1
    have h2 := (List.mem_filter.mp hq).2
    rw [decide_eq_true_eq] at h2
    rw [List.mem_singleton.mp hb]
    omega
theorem came_fewer {B : Bk} (hg : GoodBk B) (hn : (B.map (·.1)).Nodup) (name : Str) (day : Int) : cameF (B.filter fun q => decide (q.1 < maxK B)) name day = (cameF B name day).filter (rowLt (if maxK B > 1 then maxK B else 1)) := by
  by_cases hne : B = []
  · subst hne
    have e : ups [] = [] := (ups_of .nil .nil).symm
    show (dueAll [] name day (ups [])).1 = ((dueAll [] name day (ups [])).1).filter (rowLt 1)
    rw [e]
    rfl
  · have hm : 1 ≤ maxK B := by
      obtain ⟨q, hq, e⟩ := List.mem_map.mp (maxK_mem hg hne)
      have := (hg q hq).1
      omega
    have hc : (if maxK B > 1 then maxK B else 1) = maxK B := by split <;> omega
    rw [hc]
    unfold cameF
    rw [ups_last hg hn hne, dueAll_snoc]
    have hn' : ((B.filter fun q => decide (q.1 < maxK B)).map (·.1)).Nodup := by
      have e : (B.filter fun q => decide (q.1 < maxK B)).map (·.1) = (B.map (·.1)).filter fun k => decide (k < maxK B) := by
        rw [List.filter_map]; rfl
      rw [e]
      exact hn.filter _
    have hlt : ∀ k ∈ ups ((B.filter fun q => decide (q.1 < maxK B)).map (·.1)), k < maxK B := fun k hk => by
      obtain ⟨q, hq, rfl⟩ := List.mem_map.mp ((ups_perm _).mem_iff.mp hk)
      have h2 := (List.mem_filter.mp hq).2
      rwa [decide_eq_true_eq] at h2
    rw [dueAll_congr (B := B.filter fun q => decide (q.1 < maxK B)) (B' := B) fun k hk => worth_local hn' hn (fun j hj => at_filter (by have := hlt k hk; omega)) name day]
    generalize hd : dueAll B name day (ups ((B.filter fun q => decide (q.1 < maxK B)).map (·.1))) = st
    have inv := (dueAll_inv B name day (ups ((B.filter fun q => decide (q.1 < maxK B)).map (·.1)))).2.2
    rw [hd] at inv
    have keep : st.1.filter (rowLt (maxK B)) = st.1 := by
      refine List.filter_eq_self.mpr fun r hr => ?_
      obtain ⟨k, w, rfl, hk⟩ := inv r hr
      show decide (k < maxK B) = true
      rcases hk with rfl | hk
      · exact decide_eq_true (by omega)
      · exact decide_eq_true (hlt k hk)
    unfold dueStep
    split
    · rw [keep]
    · rw [List.filter_append, keep, List.filter_cons, if_neg (by show ¬ decide (maxK B < maxK B) = true; simp)]
      simp
end S
set_option Elab.async false
set_option linter.all false
set_option maxRecDepth 100000
set_option maxHeartbeats 4000000
namespace S
open PySem L2 Evl
/-! ### which count, told without an order -/
theorem countAll_char {B : Bk} {n : Int} (ho : ∀ k t, Bk.at B k = some (.undo t) → t < k) (ys : List Int) (hp : ys.Pairwise (· > ·)) (hk : ∀ k ∈ ys, (Bk.at B k).isSome = true) :
    (∀ t, t ∈ (countAll B n ys).2 ↔ ∃ j ∈ (countAll B n ys).1, Bk.at B j = some (.undo t)) ∧ (∀ k, k ∈ (countAll B n ys).1 ↔ k ∈ ys ∧ k ≤ n ∧ ∀ j ∈ (countAll B n ys).1, Bk.at B j ≠ some (.undo k)) := by
  have : ∀ m, m ≤ ys.length → (∀ t, t ∈ (countAll B n (ys.take m)).2 ↔ ∃ j ∈ (countAll B n (ys.take m)).1, Bk.at B j = some (.undo t)) ∧
      (∀ k, k ∈ (countAll B n (ys.take m)).1 ↔ k ∈ ys.take m ∧ k ≤ n ∧ ∀ j ∈ (countAll B n (ys.take m)).1, Bk.at B j ≠ some (.undo k)) := by
    intro m
    induction m with
    | zero =>
      intro _
      refine ⟨fun t => ?_, fun k => ?_⟩
      · constructor
        · intro h; cases h
        · rintro ⟨j, h, _⟩; cases h
      · constructor
        · intro h; cases h
        · rintro ⟨h, _⟩; cases h
    | succ m ih =>
      intro hm
      obtain ⟨h1, h2⟩ := ih (by omega)
      have hx : ys[m]? = some ys[m] := List.getElem?_eq_getElem (by omega)
      rw [take_snoc hx, countAll_snoc]
      have hgt : ∀ j ∈ ys.take m, ys[m] < j := fun j hj => by
        obtain ⟨i, hi, e⟩ := List.getElem_of_mem hj
        rw [List.length_take] at hi
        rw [List.getElem_take] at e
        have := List.pairwise_iff_getElem.mp hp i m (by omega) (by omega) (by omega)
        omega
      generalize countAll B n (ys.take m) = st at h1 h2 ⊢
      obtain ⟨F, U⟩ := st
      dsimp only at h1 h2
      unfold countStep
      by_cases hc : ys[m] ≤ n ∧ ys[m] ∉ U
      · rw [if_pos hc]
        dsimp only
        have he := hk ys[m] (List.getElem_mem _)
        cases e : Bk.at B ys[m] with
        | none => rw [e] at he; cases he
        | some x =>
          have hU : ∀ t, t ∈ ((Option.map Ent.undoes (some x)).getD [] : List Int) ↔ x = .undo t := fun t => by
            show t ∈ x.undoes ↔ _
            cases x with
            | undo j =>
              show t ∈ [j] ↔ _
              rw [List.mem_singleton]
              constructor
              · intro z; rw [z]
              · intro z; exact (Ent.undo.inj z).symm
            | tell => constructor <;> intro z <;> cases z
            | clear => constructor <;> intro z <;> cases z
            | like => constructor <;> intro z <;> cases z
          refine ⟨fun t => ?_, fun k => ?_⟩
          · rw [List.mem_append, h1, hU]
            constructor
            · rintro (⟨j, hj, ej⟩ | z)
              · exact ⟨j, List.mem_append_left _ hj, ej⟩
              · exact ⟨ys[m], List.mem_append_right _ (List.mem_singleton.mpr rfl), by rw [e, z]⟩
            · rintro ⟨j, hj, ej⟩
              rcases List.mem_append.mp hj with hj | hj
              · exact .inl ⟨j, hj, ej⟩
              · rw [List.mem_singleton.mp hj, e] at ej
                exact .inr (Option.some.inj ej)
          · rw [List.mem_append, List.mem_append, List.mem_singleton, h2]
            constructor
            · rintro (⟨a1, a2, a3⟩ | a)
              · refine ⟨.inl a1, a2, fun j hj => ?_⟩
                rcases List.mem_append.mp hj with hj | hj
                · exact a3 j hj
                · rw [List.mem_singleton.mp hj]
                  intro z
                  have := ho _ _ z
                  have := hgt k a1
                  omega
              · rw [a]
                refine ⟨.inr rfl, hc.1, fun j hj z => ?_⟩
                rcases List.mem_append.mp hj with hj | hj
                · exact hc.2 ((h1 _).mpr ⟨j, hj, z⟩)
                · rw [List.mem_singleton.mp hj] at z
                  have := ho _ _ z
                  omega
            · rintro ⟨a1 | a1, a2, a3⟩
              · exact .inl ⟨a1, a2, fun j hj => a3 j (List.mem_append_left _ hj)⟩
              · exact .inr a1
      · rw [if_neg hc]
        refine ⟨h1, fun k => ?_⟩
        rw [h2, List.mem_append, List.mem_singleton]
        constructor
        · rintro ⟨a1, a2, a3⟩; exact ⟨.inl a1, a2, a3⟩
        · rintro ⟨a1 | a1, a2, a3⟩
          · exact ⟨a1, a2, a3⟩
          · exfalso
            rw [a1] at a2 a3
            refine hc ⟨a2, fun z => ?_⟩
            obtain ⟨j, hj, ej⟩ := (h1 _).mp z
            exact a3 j hj ej
  have h := this ys.length (Nat.le_refl _)
  rw [List.take_length] at h
  exact h
theorem undo_ok {B : Bk} (hg : GoodBk B) : ∀ k t, Bk.at B k = some (.undo t) → t < k := fun k t h => by
  have := (hg _ (Bk.at_mem h)).2
  exact this.2
theorem downs_strict {ks : List Int} (h : ks.Nodup) : (downs ks).Pairwise (· > ·) := by
  have a1 := downs_sorted ks
  have a2 : (downs ks).Nodup := (downs_perm ks).nodup_iff.mpr h
  exact List.Pairwise.imp₂ (fun a b h1 (h2 : a ≠ b) => by have h1 : a ≥ b := h1; show a > b; omega) a1 a2
theorem ups_strict {ks : List Int} (h : ks.Nodup) : (ups ks).Pairwise (· < ·) := by
  have a1 := ups_sorted ks
  have a2 : (ups ks).Nodup := (ups_perm ks).nodup_iff.mpr h
  exact List.Pairwise.imp₂ (fun a b h1 (h2 : a ≠ b) => by have h1 : a ≤ b := h1; show a < b; omega) a1 a2
/-- a number counts where none that counts undoes it -/
theorem countF_iff {B : Bk} {n : Int} (hn : (B.map (·.1)).Nodup) (hg : GoodBk B) (k : Int) : k ∈ countF B n ↔ k ∈ B.map (·.1) ∧ k ≤ n ∧ ∀ j ∈ countF B n, Bk.at B j ≠ some (.undo k) := by
  have h := (countAll_char (n := n) (undo_ok hg) (downs (B.map (·.1))) (downs_strict hn) (fun k hk => mem_keys.mp ((downs_perm _).mem_iff.mp hk))).2 k
  unfold countF
  rw [List.mem_reverse, h, (downs_perm _).mem_iff]
  constructor
  · rintro ⟨a, b, c⟩; exact ⟨a, b, fun j hj => c j (List.mem_reverse.mp hj)⟩
  · rintro ⟨a, b, c⟩; exact ⟨a, b, fun j hj => c j (List.mem_reverse.mpr hj)⟩
/-- .. where no later one, up to n, that counts, undoes it -/
theorem countF_later {B : Bk} {n k : Int} (hn : (B.map (·.1)).Nodup) (hg : GoodBk B) (hk : k ∈ B.map (·.1)) (hkn : k ≤ n) : k ∈ countF B n ↔ ∀ q ∈ B, ¬ (k < q.1 ∧ q.1 ≤ n ∧ q.2 = .undo k ∧ q.1 ∈ countF B n) := by
  rw [countF_iff hn hg]
  constructor
  · rintro ⟨_, _, h⟩ q hq ⟨_, _, h3, h4⟩
    exact h q.1 h4 (by rw [Bk.at_of hn hq, h3])
  · intro h
    refine ⟨hk, hkn, fun j hj e => ?_⟩
    have hm := Bk.at_mem e
    exact h _ hm ⟨undo_ok hg j k e, (countF_mem hj).2, rfl, hj⟩
theorem foldl_sub {B : Bk} {n : Int} : ∀ (ys : List Int) (st : List Int × List Int), ∃ zs, (ys.foldl (countStep B n) st).1 = st.1 ++ zs ∧ zs.Sublist ys
  | [], st => ⟨[], by simp, List.Sublist.refl _⟩
  | y :: ys, st => by
    obtain ⟨zs, h1, h2⟩ := foldl_sub ys (countStep B n st y)
    rw [List.foldl_cons, h1]
    unfold countStep
    split
    · exact ⟨y :: zs, by simp, h2.cons₂ y⟩
    · exact ⟨zs, rfl, h2.cons y⟩
theorem countF_up {B : Bk} {n : Int} (hn : (B.map (·.1)).Nodup) : (countF B n).Pairwise (· < ·) := by
  unfold countF
  rw [List.pairwise_reverse]
  obtain ⟨zs, h1, h2⟩ := foldl_sub (B := B) (n := n) (downs (B.map (·.1))) ([], [])
  have : (countAll B n (downs (B.map (·.1)))).1 = zs := by
    unfold countAll
    rw [h1]; rfl
  rw [this]
  exact List.Pairwise.sublist h2 (List.Pairwise.imp (fun {a b} h => by have h : a > b := h; show b < a; omega) (downs_strict hn))
theorem countF_filter {B : Bk} {n : Int} (hn : (B.map (·.1)).Nodup) : (ups (B.map (·.1))).filter (fun k => decide (k ≤ n) && decide (k ∈ countF B n)) = countF B n := by
  have h1 : ((ups (B.map (·.1))).filter (fun k => decide (k ≤ n) && decide (k ∈ countF B n))).Pairwise (· < ·) := List.Pairwise.filter _ (ups_strict hn)
  have h2 := countF_up (n := n) hn
  have p : ((ups (B.map (·.1))).filter (fun k => decide (k ≤ n) && decide (k ∈ countF B n))).Perm (countF B n) := by
    refine perm_of_mem (List.Pairwise.imp (fun {a b} h => by have h : a < b := h; omega) h1) (List.Pairwise.imp (fun {a b} h => by have h : a < b := h; omega) h2) fun a => ?_
    rw [List.mem_filter, Bool.and_eq_true, decide_eq_true_eq, decide_eq_true_eq, (ups_perm _).mem_iff]
    constructor
    · rintro ⟨_, _, h⟩; exact h
    · intro h; exact ⟨(countF_mem h).1, (countF_mem h).2, h⟩
  exact List.Perm.eq_of_pairwise (le := fun a b : Int => a < b) (fun a b _ _ h1 h2 => by omega) h1 h2 p
/-! ### an entry put into a book -/
def Bk.put (B : Bk) (k : Int) (e : Ent) : Bk := if k ∈ B.map (·.1) then B.map (fun q => if q.1 = k then (k, e) else q) else B ++ [(k, e)]
theorem Bk.at_put (B : Bk) (k j : Int) (e : Ent) : Bk.at (B.put k e) j = if j = k then some e else Bk.at B j := by
  unfold Bk.put
  by_cases h : k ∈ B.map (·.1)
  · rw [if_pos h]
    induction B with
    | nil => cases h
    | cons p B ih =>
      rw [List.map_cons]
      by_cases hp : p.1 = k
      · rw [if_pos hp]
        by_cases hj : j = k
        · rw [if_pos hj, Bk.at_cons_pos (by exact hj.symm)]
        · rw [if_neg hj, Bk.at_cons_neg (by exact fun z => hj z.symm), Bk.at_cons_neg (by rw [hp]; exact fun z => hj z.symm)]
          by_cases hm : k ∈ B.map (·.1)
          · rw [ih hm, if_neg hj]
          · have : (B.map fun q => if q.1 = k then (k, e) else q) = B := by
              rw [List.map_congr_left (g := id) fun q hq => ?_]
              · exact List.map_id _
              · rw [if_neg fun z => hm (by rw [← z]; exact List.mem_map_of_mem hq)]; rfl
            rw [this]
      · rw [if_neg hp]
        have hm : k ∈ B.map (·.1) := by
          rw [List.map_cons, List.mem_cons] at h
          exact h.resolve_left fun z => hp z.symm
        by_cases hj : p.1 = j
        · rw [Bk.at_cons_pos hj, Bk.at_cons_pos hj, if_neg (by rw [← hj]; exact hp)]
        · rw [Bk.at_cons_neg hj, ih hm, Bk.at_cons_neg hj]
  · rw [if_neg h]
    induction B with
    | nil =>
      show Bk.at [(k, e)] j = _
      by_cases hj : j = k
      · rw [if_pos hj, Bk.at_cons_pos (by exact hj.symm)]
      · rw [if_neg hj, Bk.at_cons_neg (by exact fun z => hj z.symm)]
    | cons p B ih =>
      have hp : ¬ p.1 = k := fun z => h (by rw [List.map_cons, z]; exact List.mem_cons_self)
      have hm : k ∉ B.map (·.1) := fun z => h (by rw [List.map_cons]; exact List.mem_cons_of_mem _ z)
      rw [List.cons_append]
      by_cases hj : p.1 = j
      · rw [Bk.at_cons_pos hj, Bk.at_cons_pos hj, if_neg (by rw [← hj]; exact hp)]
      · rw [Bk.at_cons_neg hj, ih hm, Bk.at_cons_neg hj]
theorem Bk.put_keys (B : Bk) (k : Int) (e : Ent) : (B.put k e).map (·.1) = if k ∈ B.map (·.1) then B.map (·.1) else B.map (·.1) ++ [k] := by
  unfold Bk.put
  split
  · rw [List.map_map]
    refine List.map_congr_left fun q _ => ?_
    show (if q.1 = k then (k, e) else q).1 = q.1
    split
    · rename_i h; exact h.symm
    · rfl
  · rw [List.map_append]; rfl
theorem Bk.put_nd {B : Bk} (k : Int) (e : Ent) (h : (B.map (·.1)).Nodup) : ((B.put k e).map (·.1)).Nodup := by
  rw [Bk.put_keys]
  split
  · exact h
  · rename_i hk
    rw [List.nodup_append]
    refine ⟨h, by simp, fun a ha b hb z => ?_⟩
    rw [List.mem_singleton.mp hb] at z
    exact hk (by rw [← z]; exact ha)
theorem Bk.put_len (B : Bk) (k : Int) (e : Ent) : (B.put k e).length ≤ B.length + 1 := by
  unfold Bk.put
  split
  · rw [List.length_map]; omega
  · rw [List.length_append]; exact Nat.le_refl _
theorem Bk.put_len_old {B : Bk} {k : Int} (e : Ent) (h : k ∈ B.map (·.1)) : (B.put k e).length = B.length := by
  unfold Bk.put
  rw [if_pos h, List.length_map]
theorem Bk.put_good {B : Bk} {k : Int} {e : Ent} (h : GoodBk B) (hk : 1 ≤ k) (he : e.ok k) : GoodBk (B.put k e) := fun q hq => by
  unfold Bk.put at hq
  split at hq
  · obtain ⟨p, hp, rfl⟩ := List.mem_map.mp hq
    split
    · exact ⟨hk, he⟩
    · exact h p hp
  · rcases List.mem_append.mp hq with hq | hq
    · exact h q hq
    · rw [List.mem_singleton.mp hq]; exact ⟨hk, he⟩
theorem BkRel.put {H : Hp} {kvs : List (Key × V)} {B : Bk} (h : BkRel H kvs B) {k : Int} {e : Ent} {t : Addr} (ht : EntAt H t e) : BkRel H (putK kvs (Sum.inl k : Key) (.ref t)) (B.put k e) := by
  unfold putK Bk.put
  have hany : (kvs.any fun kv => decide (kv.1 = (Sum.inl k : Key))) = decide (k ∈ B.map (·.1)) := by
    have hk := h.keys
    have this : k ∈ B.map (·.1) ↔ (Sum.inl k : Key) ∈ kvs.map (·.1) := by
      rw [hk]
      constructor
      · intro z; exact List.mem_map_of_mem z
      · intro z
        obtain ⟨a, z1, e⟩ := List.mem_map.mp z
        rw [← Sum.inl.inj e]
        exact z1
    by_cases z : k ∈ B.map (·.1)
    · rw [decide_eq_true z, List.any_eq_true]
      obtain ⟨kv, h1, h2⟩ := List.mem_map.mp (this.mp z)
      exact ⟨kv, h1, decide_eq_true h2⟩
    · rw [decide_eq_false z, List.any_eq_false]
      intro kv hkv e
      exact z (this.mpr (List.mem_map.mpr ⟨kv, hkv, of_decide_eq_true e⟩))
  rw [hany]
  by_cases z : k ∈ B.map (·.1)
  · rw [if_pos (decide_eq_true z), if_pos z]
    clear hany z
    induction h with
    | nil => exact .nil
    | @cons p q ps qs r t' ih =>
      rw [List.map_cons, List.map_cons]
      refine .cons ?_ ih
      by_cases hq : q.1 = k
      · rw [if_pos (by rw [r.1, hq]), if_pos hq]
        exact ⟨by rw [r.1, hq], t, rfl, ht⟩
      · rw [if_neg (by rw [r.1]; exact fun z => hq (Sum.inl.inj z)), if_neg hq]
        exact r
  · rw [if_neg (by simpa using z), if_neg z]
    exact Paired.app h (.cons ⟨rfl, t, rfl, ht⟩ .nil)
end S
set_option Elab.async false
set_option linter.all false
set_option maxRecDepth 100000
set_option maxHeartbeats 4000000
namespace S
open PySem L2 Evl
section
variable {K : PySem.W.Frag} {C : CA} {σ : L2.St} {H H' : Hp} {ta tb tc td te tf : TE} {D : Ends} {tu tz : TS}
/-- all but b stays -/
def ExB (b : Addr) (H H' : Hp) : Prop := ∀ a o, a ≠ b → H a = some o → H' a = some o
theorem ExB.of {b : Addr} (e : Ex H H') : ExB b H H' := fun a o _ h => e a o h
theorem ExB.trans {b : Addr} {H1 H2 H3 : Hp} (a : ExB b H1 H2) (c : ExB b H2 H3) : ExB b H1 H3 := fun x o hx h => c x o hx (a x o hx h)
theorem ExB.back {b : Addr} {u : HO} (h : ExB b H H') (hb : H b = some u) : Ex H (upd H' b u) := fun a o ha => by
  by_cases z : a = b
  · subst z; rw [hb] at ha; rw [upd_same, ha]
  · rw [upd_ne z]; exact h a o z ha
theorem ExB.frz {b : Addr} (o : HO) : ExB b H (upd H b o) := fun a o ha h => by rw [upd_ne ha]; exact h
theorem ExB.mut {b u : Addr} {o : HO} (h : ExB b H H') (hu : H u = none) : ExB b H (upd H' u o) := fun a x ha hx => by
  rw [upd_ne (fun z => by rw [z, hu] at hx; cases hx)]
  exact h a x ha hx
theorem BkRel.exB {b : Addr} {kvs kv : List (Key × V)} {B : Bk} (e : ExB b H H') (hb : H b = some (.dK kv)) (h : BkRel H kvs B) : BkRel H' kvs B := Paired.imp (fun x y ⟨h1, t, h2, h3⟩ => ⟨h1, t, h2, e t _ (fun z => by rw [z] at h3; have := hb.symm.trans h3; cases this) h3⟩) h
theorem ed_disp2 {k1 k2 : Key} {v : V} (hk : Ev ta σ H (kV k1)) (hv : Ev tb σ H v) (hk2 : Ev tc σ H (kV k2)) (hv2 : Ev td σ H v) (hne : mergeK [] [(k1, v), (k2, v)] = [(k1, v), (k2, v)]) : EvD (tDisp ((ta, tb) :: ((tc, td) :: []))) σ H [(k1, v), (k2, v)] := fun H1 e Q q p hp => by
  unfold tPairs tPairs tPairs
  have e1 : Ex H1 (upd H1 p (.dK [])) := Ex.new hp
  refine hk _ (e.trans e1) _ fun H2 e2 => hv _ ((e.trans e1).trans e2) _ fun H3 e3 => hk2 _ (((e.trans e1).trans e2).trans e3) _ fun H4 e4 => hv2 _ ((((e.trans e1).trans e2).trans e3).trans e4) _ fun H5 e5 => ?_
  refine ⟨(((e2.trans e3).trans e4).trans e5) p _ upd_same, [(k1, v), (k2, v)], rfl, by show 2 ≤ 15; decide, ?_⟩
  rw [hne]
  exact q p _ hp (Ex.mut ((((e1.trans e2).trans e3).trans e4).trans e5) hp) upd_same
/-- for k in d, d locked -/
theorem q_lockKeys {d : Addr} {kvs : List (Key × V)} {j : Nat} (ha : ∀ H1, Ev ta σ H1 (.ref d)) (hd : H d = some (.dK kvs)) (Pv : Obj → Nat → L2.St → Hp → Prop) (h0 : ∀ od H1, Ex (upd H d (.frz od (.dK kvs))) H1 → Pv od 0 σ H1) (hG : ∀ od i σ' H', Pv od i σ' H' → H' d = some (.frz od (.dK kvs)))
    (hs : ∀ od i k v σ' H', kvs[i]? = some (k, v) → Pv od i σ' H' → tu { nx := Pv od (i + 1), ct := Pv od (i + 1), bk := fun σ' H' => H' d = some (.frz od (.dK kvs)) ∧ tz D σ' (upd H' d (.dK kvs)), rt := fun v H' => H' d = some (.frz od (.dK kvs)) ∧ D.rt v (upd H' d (.dK kvs)) } (σ'.set j (some (kV k))) H')
    (hz : ∀ od σ' H', Pv od kvs.length σ' H' → tz D σ' (upd H' d (.dK kvs))) : tSeq (tLock (tFor (iKeys ta) (gName j) tu)) tz D σ H :=
  ⟨d, .dK kvs, hd, trivial, fun od => ha _ _ (Ex.refl _) _ fun H1 e1 => ⟨d, od, rfl, .inl ⟨kvs, e1 d _ upd_same,
    for_it (tb := tu) (g := gName j) (D := ⟨fun σ' H' => H' d = some (.frz od (.dK kvs)) ∧ tz D σ' (upd H' d (.dK kvs)), fun v H' => H' d = some (.frz od (.dK kvs)) ∧ D.rt v (upd H' d (.dK kvs)), fun σ' H' => H' d = some (.frz od (.dK kvs)) ∧ D.bk σ' (upd H' d (.dK kvs)), fun σ' H' => H' d = some (.frz od (.dK kvs)) ∧ D.ct σ' (upd H' d (.dK kvs))⟩)
      walk_keys (Pv od) (h0 od H1 e1) (fun i σ' H' _ p => hG od i σ' H' p) (fun i x σ' H2 H3 hi p y => by
        obtain ⟨rfl, k, v, hkv, rfl⟩ := y
        exact hs od i k v σ' H3 hkv p) fun σ' H' p => ⟨hG od _ σ' H' p, hz od σ' H' p⟩⟩⟩⟩
theorem NewBk.step {p : Addr} {B : Bk} {H0 H1 : Hp} (h : NewBk H0 H p B) (x : Ex H H1) : NewBk H0 H1 p B := ⟨h.new, h.ex.trans x, let ⟨kvs, h1, h2⟩ := h.dk; ⟨kvs, x p _ h1, h2.mono x⟩, h.nd, h.few⟩
end
end S
set_option Elab.async false
set_option linter.all false
set_option maxRecDepth 100000
set_option maxHeartbeats 4000000
section
open PySem L2 Evl S
namespace S
/-! ### data that is an entry -/
theorem name_strD {d : PyData} (h : nameD d = true) : ∃ s, d = .str s ∧ NameS s := by
  cases d with
  | str s => exact ⟨s, rfl, nameB_iff.mp h⟩
  | none => cases h
  | bool b => cases h
  | int i => cases h
  | list l => cases h
  | tuple l => cases h
  | dict l => cases h
theorem among_int {d : PyData} {lo hi : Int} (h : amongD d lo hi = true) : ∃ i, d = .int i ∧ lo ≤ i ∧ i ≤ hi := by
  cases d with
  | int i =>
    have h : (decide (lo ≤ i) && decide (i ≤ hi)) = true := h
    rw [Bool.and_eq_true, decide_eq_true_eq, decide_eq_true_eq] at h
    exact ⟨i, rfl, h⟩
  | none => cases h
  | bool b => cases h
  | str s => cases h
  | list l => cases h
  | tuple l => cases h
  | dict l => cases h
theorem number_int {d : PyData} (h : numberD d = true) : ∃ i, d = .int i ∧ 1 ≤ i := by
  cases d with
  | int i => exact ⟨i, rfl, of_decide_eq_true h⟩
  | none => cases h
  | bool b => cases h
  | str s => cases h
  | list l => cases h
  | tuple l => cases h
  | dict l => cases h
theorem entry_shape {d : PyData} (h : entryD d = true) : ∃ w x r, d = .tuple (.str w :: x :: r) := by
  match d, h with
  | .none, h => cases h
  | .bool _, h => cases h
  | .int _, h => cases h
  | .str _, h => cases h
  | .list _, h => cases h
  | .dict _, h => cases h
  | .tuple [], h => cases h
  | .tuple [_], h => cases ‹PyData› <;> cases h
  | .tuple (.str w :: x :: r), _ => exact ⟨w, x, r, rfl⟩
  | .tuple (.none :: x :: r), h => cases h
  | .tuple (.bool _ :: x :: r), h => cases h
  | .tuple (.int _ :: x :: r), h => cases h
  | .tuple (.list _ :: x :: r), h => cases h
  | .tuple (.tuple _ :: x :: r), h => cases h
  | .tuple (.dict _ :: x :: r), h => cases h
theorem said_parts {ds : List PyData} {n : Nat} (h : saidD ds n = true) : ∃ nm lo hi, ds.getD 1 .none = .str nm ∧ ds.getD 2 .none = .int lo ∧ ds.getD 3 .none = .int hi ∧ NameS nm ∧ 0 ≤ lo ∧ lo ≤ hi ∧ hi ≤ 1000000 := by
  unfold saidD at h
  rw [Bool.and_eq_true, Bool.and_eq_true, Bool.and_eq_true, Bool.and_eq_true] at h
  obtain ⟨nm, e1, hn⟩ := name_strD h.1.1.1.2
  obtain ⟨lo, e2, l0, l1⟩ := day_int h.1.1.2
  obtain ⟨hi, e3, h0, h1⟩ := day_int h.1.2
  have := h.2
  rw [e2, e3] at this
  exact ⟨nm, lo, hi, e1, e2, e3, hn, l0, of_decide_eq_true this, h1⟩
theorem list4 {ds : List PyData} (h : ds.length = 4) : ds = [ds.getD 0 .none, ds.getD 1 .none, ds.getD 2 .none, ds.getD 3 .none] := by
  match ds, h with
  | [a, b, c, d], _ => rfl
theorem list5 {ds : List PyData} (h : ds.length = 5) : ds = [ds.getD 0 .none, ds.getD 1 .none, ds.getD 2 .none, ds.getD 3 .none, ds.getD 4 .none] := by
  match ds, h with
  | [a, b, c, d, e], _ => rfl
theorem entry_of {d : PyData} (h : entryD d = true) : ∃ (e : Ent) (k : Int), d = .tuple e.ds ∧ e.ok k := by
  obtain ⟨w, x, r, rfl⟩ := entry_shape h
  rw [entryD_eq] at h
  by_cases c1 : decide (w = "tell") = true
  · rw [if_pos c1, Bool.and_eq_true] at h
    obtain ⟨nm, lo, hi, e1, e2, e3, b1, b2, b3, b4⟩ := said_parts h.1
    obtain ⟨wt, e4, w0, w1⟩ := among_int h.2
    have e5 := list5 (said_len h.1)
    rw [e1, e2, e3, e4] at e5
    have e0 : (PyData.str w :: x :: r).getD 0 .none = .str "tell" := by rw [← of_decide_eq_true c1]; rfl
    rw [e0] at e5
    exact ⟨.tell nm lo hi wt, 0, by rw [e5]; rfl, b1, b2, b3, b4, w0, w1⟩
  · rw [if_neg c1] at h
    by_cases c2 : decide (w = "clear") = true
    · rw [if_pos c2] at h
      obtain ⟨nm, lo, hi, e1, e2, e3, b1, b2, b3, b4⟩ := said_parts h
      have e5 := list4 (said_len h)
      rw [e1, e2, e3] at e5
      have e0 : (PyData.str w :: x :: r).getD 0 .none = .str "clear" := by rw [← of_decide_eq_true c2]; rfl
      rw [e0] at e5
      exact ⟨.clear nm lo hi, 0, by rw [e5]; rfl, b1, b2, b3, b4⟩
    · rw [if_neg c2] at h
      by_cases c3 : decide (w = "like") = true
      · rw [if_pos c3, Bool.and_eq_true] at h
        obtain ⟨nm, lo, hi, e1, e2, e3, b1, b2, b3, b4⟩ := said_parts h.1
        obtain ⟨o, e4, b5⟩ := name_strD h.2
        have e5 := list5 (said_len h.1)
        rw [e1, e2, e3, e4] at e5
        have e0 : (PyData.str w :: x :: r).getD 0 .none = .str "like" := by rw [← of_decide_eq_true c3]; rfl
        rw [e0] at e5
        exact ⟨.like nm lo hi o, 0, by rw [e5]; rfl, b1, b2, b3, b4, b5⟩
      · rw [if_neg c3, Bool.and_eq_true, Bool.and_eq_true, decide_eq_true_eq, decide_eq_true_eq] at h
        obtain ⟨hw, hl, hx⟩ := h
        obtain ⟨j, rfl, hj⟩ := number_int hx
        have hr : r = [] := List.eq_nil_of_length_eq_zero (by rw [List.length_cons, List.length_cons] at hl; omega)
        rw [hr, hw]
        exact ⟨.undo j, j + 1, rfl, hj, by omega⟩
/-! ### the pairs of a dict, as data -/
def keyD : Key → PyData
  | .inl i => .int i
  | .inr s => .str s
/-- a number and an entry that may stand in a book -/
def gp (dk d : PyData) : Prop := ∃ (i : Int) (e : Ent), dk = .int i ∧ 1 ≤ i ∧ d = .tuple e.ds ∧ e.ok i
theorem gp.num {dk d : PyData} (h : gp dk d) : numberD dk = true := by
  obtain ⟨i, e, rfl, h1, _⟩ := h
  exact decide_eq_true h1
theorem gp.ent {dk d : PyData} (h : gp dk d) : entryD d = true := by
  obtain ⟨i, e, _, _, rfl, h1⟩ := h
  exact Ent.isEntry h1
theorem undo_of {e : Ent} {j : Int} (h : (Ent.undo j).ds = e.ds) : e = .undo j := by
  cases e with
  | undo j' =>
    have h : [PyData.str "undo", .int j] = [PyData.str "undo", .int j'] := h
    injection h with _ h
    injection h with h _
    injection h with h
    rw [h]
  | tell n lo hi w =>
    have h := congrArg List.length h
    simp [Ent.ds] at h
  | clear n lo hi =>
    have h := congrArg List.length h
    simp [Ent.ds] at h
  | like n lo hi o =>
    have h := congrArg List.length h
    simp [Ent.ds] at h
/-- lists and tuples stay -/
def ExLT (H H' : Hp) : Prop := ∀ a xs, (H a = some (.lst xs) → H' a = some (.lst xs)) ∧ (H a = some (.tup xs) → H' a = some (.tup xs))
mutual
theorem Dq.exLT {H H' : Hp} (e : ExLT H H') : ∀ {d : PyData} {v : V}, Dq H d v → Dq H' d v
  | .none, _, h => by cases h; exact .non
  | .bool b, _, h => by cases h; exact .bl b
  | .int i, _, h => by cases h; exact .int i
  | .str x, _, h => by cases h with | str _ h => exact .str x h
  | .list ds, _, h => by cases h with | lst h1 h2 => exact .lst ((e _ _).1 h1) (DqAll.exLT e h2)
  | .tuple ds, _, h => by cases h with | tup h1 h2 => exact .tup ((e _ _).2 h1) (DqAll.exLT e h2)
  | .dict kvs, _, h => by cases h
theorem DqAll.exLT {H H' : Hp} (e : ExLT H H') : ∀ {ds : List PyData} {vs : List V}, DqAll H ds vs → DqAll H' ds vs
  | [], _, h => by cases h; exact .nil
  | d :: ds, _, h => by cases h with | cons h1 h2 => exact .cons (Dq.exLT e h1) (DqAll.exLT e h2)
end
theorem ExB.exLT {b : Addr} {H H' : Hp} (e : ExB b H H') (hl : ∀ xs, H b ≠ some (.lst xs)) (ht : ∀ xs, H b ≠ some (.tup xs)) : ExLT H H' := fun a xs =>
  ⟨fun h => e a _ (fun z => hl xs (by rw [← z]; exact h)) h, fun h => e a _ (fun z => ht xs (by rw [← z]; exact h)) h⟩
theorem valV_get {kvs : List (Key × V)} {i : Nat} {k : Key} {v : V} (hn : (kvs.map (·.1)).Nodup) (h : kvs[i]? = some (k, v)) : valV kvs k = some v := by
  induction kvs generalizing i with
  | nil => simp at h
  | cons p r ih =>
    rw [List.map_cons, List.nodup_cons] at hn
    cases i with
    | zero =>
      simp only [List.getElem?_cons_zero, Option.some.injEq] at h
      subst h
      exact valV_pos rfl
    | succ j =>
      simp only [List.getElem?_cons_succ] at h
      have hm : k ∈ r.map (·.1) := List.mem_map.mpr ⟨(k, v), List.mem_of_getElem? h, rfl⟩
      rw [valV_neg (fun z => hn.1 (by rw [z]; exact hm))]
      exact ih hn.2 h
section
variable {K : PySem.W.Frag} {C : CA} {σ : L2.St} {H H' : Hp} {t : TT} {ta tb tc td te tf : TE} {D : Ends} {tu tz : TS} {v : V} {d : PyData} {n m : Nat}
theorem ev_ixTB {p : Addr} {xs : List V} {j : Nat} (ha : Ev ta σ H (.ref p)) (h : H p = some (.tup xs)) (hv : xs[j]? = some v) : Ev (tOp (ixB K) ta (tC (.int (j : Int)))) σ H v :=
  ev_op ha ev_c fun H1 e Q q => .inl (.inl (.inr (.inl ⟨p, xs, (j : Int), v, rfl, rfl, ex_t e (st_of h), atI_nat hv, q H1 (Ex.refl H1)⟩)))
theorem ev_ixDB {p : Addr} {kvs : List (Key × V)} {k : Key} (ha : Ev ta σ H (.ref p)) (hb : Ev tb σ H (kV k)) (h : Rd H p (.dK kvs)) (hv : valV kvs k = some v) : Ev (tOp (ixB K) ta tb) σ H v :=
  ev_op ha hb fun H1 e Q q => .inl (.inr ⟨p, v, rfl, by rw [← hv]; exact dget_mono e h, q H1 (Ex.refl H1)⟩)
theorem ev_ixOB {p : Addr} {ks : List (Int × V)} {x0 : V} {j : Nat} {i : Int} (ha : Ev ta σ H (.ref p)) (hb : Ev tb σ H (.int i)) (h : Rd H p (oddO p ks x0)) (hv : ks[j]? = some (i, v)) : Ev (tOp (ixB K) ta tb) σ H v :=
  ev_op ha hb fun H1 e Q q => .inr ⟨p, ks, x0, v, j, i, rfl, ex_rd e h, rfl, hv, q H1 (Ex.refl H1)⟩
theorem ev_isiB {T : String} (hT : goodT T) (ha : Ev ta σ H v) (h : Dq H d v) : Ev (tCB (isiB K) (tCons ta (tCons (tC (.ty T)) tNil))) σ H (.bl (isiD d T)) := by
  have hk : kitB (tyD d) T = some (isiD d T) := by
    have := hT d
    unfold isiD
    cases e : kitB (tyD d) T with
    | none => rw [e] at this; cases this
    | some b => rfl
  exact fun H1 e Q q => ha H1 e _ fun H2 e2 => .inl ⟨_, _, _, .type T, _, rfl, .ty T, (h.mono (e.trans e2)).ty, kit_ty hk, q H2 e2⟩
theorem ev_isiDk {p : Addr} {kvs : List (Key × V)} (ha : Ev ta σ H (.ref p)) (h : H p = some (.dK kvs)) : Ev (tCB (isiB K) (tCons ta (tCons (tC (.ty "dict")) tNil))) σ H (.bl true) := by
  have kdd : kitB "dict" "dict" = some true := by decide +kernel
  exact fun H1 e Q q => ha H1 e _ fun H2 e2 => .inl ⟨_, _, _, .type "dict", true, rfl, .ty "dict", .base (.dK ((e.trans e2) p _ h)), kit_ty kdd, q H2 e2⟩
theorem ev_isiO {p : Addr} {ks : List (Int × V)} {x0 : V} (ha : Ev ta σ H (.ref p)) (h : H p = some (oddO p ks x0)) : Ev (tCB (isiB K) (tCons ta (tCons (tC (.ty "dict")) tNil))) σ H (.bl true) := by
  have kdd : kitB "dict" "dict" = some true := by decide +kernel
  exact fun H1 e Q q => ha H1 e _ fun H2 e2 => .inr ⟨p, ks, x0, true, "dict", rfl, .inl ((e.trans e2) p _ h), kdd, q H2 e2⟩
theorem ev_lenBk {p : Addr} {kvs : List (Key × V)} (ha : Ev ta σ H (.ref p)) (h : H p = some (.dK kvs)) : Ev (tCB (lenB K) (tCons ta tNil)) σ H (.int (kvs.length : Int)) := fun H1 e Q q =>
  ha H1 e _ fun H2 e2 => .inl (.inr ⟨p, kvs, rfl, .inl ((e.trans e2) p _ h), q H2 e2⟩)
theorem ev_lenBo {p : Addr} {ks : List (Int × V)} {x0 : V} (ha : Ev ta σ H (.ref p)) (h : H p = some (oddO p ks x0)) : Ev (tCB (lenB K) (tCons ta tNil)) σ H (.int ((ks.length + 1 : Nat) : Int)) := fun H1 e Q q =>
  ha H1 e _ fun H2 e2 => .inr ⟨p, ks, x0, rfl, .inl ((e.trans e2) p _ h), q H2 e2⟩
/-- for k in d, d locked -/
theorem q_lockKeysB {d : Addr} {kvs : List (Key × V)} {j : Nat} (ha : ∀ H1, Ev ta σ H1 (.ref d)) (hd : H d = some (.dK kvs)) (Pv : Obj → Nat → L2.St → Hp → Prop) (h0 : ∀ od H1, Ex (upd H d (.frz od (.dK kvs))) H1 → Pv od 0 σ H1) (hG : ∀ od i σ' H', Pv od i σ' H' → H' d = some (.frz od (.dK kvs)))
    (hs : ∀ od i k v σ' H' bk rt, kvs[i]? = some (k, v) → Pv od i σ' H' → tu { nx := Pv od (i + 1), ct := Pv od (i + 1), bk := bk, rt := rt } (σ'.set j (some (kV k))) H')
    (hz : ∀ od σ' H', Pv od kvs.length σ' H' → tz D σ' (upd H' d (.dK kvs))) : tSeq (tLock (tFor (iKeysB ta) (gName j) tu)) tz D σ H :=
  ⟨d, .dK kvs, hd, trivial, fun od => .inl (ha _ _ (Ex.refl _) _ fun H1 e1 => ⟨d, od, rfl, .inl ⟨kvs, e1 d _ upd_same,
    for_it (tb := tu) (g := gName j) (D := ⟨fun σ' H' => H' d = some (.frz od (.dK kvs)) ∧ tz D σ' (upd H' d (.dK kvs)), fun v H' => H' d = some (.frz od (.dK kvs)) ∧ D.rt v (upd H' d (.dK kvs)), fun σ' H' => H' d = some (.frz od (.dK kvs)) ∧ D.bk σ' (upd H' d (.dK kvs)), fun σ' H' => H' d = some (.frz od (.dK kvs)) ∧ D.ct σ' (upd H' d (.dK kvs))⟩)
      walk_keys (Pv od) (h0 od H1 e1) (fun i σ' H' _ p => hG od i σ' H' p) (fun i x σ' H2 H3 hi p y => by
        obtain ⟨rfl, k, v, hkv, rfl⟩ := y
        exact hs od i k v σ' H3 _ _ hkv p) fun σ' H' p => ⟨hG od _ σ' H' p, hz od σ' H' p⟩⟩⟩)⟩
theorem walk_odd {d : Addr} {o : Obj} {ks : List (Int × V)} {x0 : V} : Walk (Itko d o ks x0) (ks.length + 1) (fun H => H d = some (.frz o (oddO d ks x0))) (fun i H x H' => H' = H ∧ ((∃ k v, ks[i]? = some (k, v) ∧ x = .int k) ∨ (i = ks.length ∧ x = x0))) :=
  ⟨fun _ _ hi q => ⟨q, hi⟩, fun _ q => ⟨q, Nat.le_refl _⟩, fun _ _ _ _ _ _ y => y⟩
/-- the same, the dict having an odd key: the walk ends there -/
theorem q_lockKeysO {d : Addr} {ks : List (Int × V)} {x0 : V} {j : Nat} (ha : ∀ H1, Ev ta σ H1 (.ref d)) (hd : H d = some (oddO d ks x0)) (Pv : Obj → Nat → L2.St → Hp → Prop) (h0 : ∀ od H1, Ex (upd H d (.frz od (oddO d ks x0))) H1 → Pv od 0 σ H1) (hG : ∀ od i σ' H', Pv od i σ' H' → H' d = some (.frz od (oddO d ks x0)))
    (hs : ∀ od i k v σ' H' bk rt, ks[i]? = some (k, v) → Pv od i σ' H' → tu { nx := Pv od (i + 1), ct := Pv od (i + 1), bk := bk, rt := rt } (σ'.set j (some (.int k))) H')
    (hx : ∀ od σ' H' bk rt, Pv od ks.length σ' H' → tu { nx := fun _ _ => False, ct := fun _ _ => False, bk := bk, rt := rt } (σ'.set j (some x0)) H') : tSeq (tLock (tFor (iKeysB ta) (gName j) tu)) tz D σ H :=
  ⟨d, oddO d ks x0, hd, trivial, fun od => .inr (ha _ _ (Ex.refl _) _ fun H1 e1 => ⟨d, od, ks, x0, rfl, e1 d _ upd_same,
    for_it (tb := tu) (g := gName j) (D := ⟨fun σ' H' => H' d = some (.frz od (oddO d ks x0)) ∧ tz D σ' (upd H' d (oddO d ks x0)), fun v H' => H' d = some (.frz od (oddO d ks x0)) ∧ D.rt v (upd H' d (oddO d ks x0)), fun σ' H' => H' d = some (.frz od (oddO d ks x0)) ∧ D.bk σ' (upd H' d (oddO d ks x0)), fun σ' H' => H' d = some (.frz od (oddO d ks x0)) ∧ D.ct σ' (upd H' d (oddO d ks x0))⟩)
      walk_odd (fun i σ' H' => i ≤ ks.length ∧ Pv od i σ' H') ⟨Nat.zero_le _, h0 od H1 e1⟩ (fun i σ' H' _ p => hG od i σ' H' p.2) (fun i x σ' H2 H3 hi p y => by
        obtain ⟨rfl, ⟨k, v, hkv, rfl⟩ | ⟨hi2, rfl⟩⟩ := y
        · have hlt := (List.getElem?_eq_some_iff.mp hkv).1
          have e : (fun (σ' : L2.St) (H' : Hp) => i + 1 ≤ ks.length ∧ Pv od (i + 1) σ' H') = Pv od (i + 1) := by
            funext σ' H'
            exact propext ⟨fun z => z.2, fun z => ⟨hlt, z⟩⟩
          show tu { nx := fun σ' H' => i + 1 ≤ ks.length ∧ Pv od (i + 1) σ' H', ct := fun σ' H' => i + 1 ≤ ks.length ∧ Pv od (i + 1) σ' H', bk := _, rt := _ } _ _
          rw [e]
          exact hs od i k v σ' H3 _ _ hkv p.2
        · subst hi2
          have e : (fun (σ' : L2.St) (H' : Hp) => ks.length + 1 ≤ ks.length ∧ Pv od (ks.length + 1) σ' H') = fun _ _ => False := by
            funext σ' H'
            exact propext ⟨fun z => by have := z.1; omega, fun z => z.elim⟩
          show tu { nx := fun σ' H' => ks.length + 1 ≤ ks.length ∧ Pv od (ks.length + 1) σ' H', ct := fun σ' H' => ks.length + 1 ≤ ks.length ∧ Pv od (ks.length + 1) σ' H', bk := _, rt := _ } _ _
          rw [e]
          exact hx od σ' H3 _ _ p.2) fun σ' H' p => by have := p.1; omega⟩)⟩
end
end S
end
set_option Elab.async false
set_option linter.all false
set_option maxRecDepth 100000
set_option maxHeartbeats 4000000
section
open PySem L2 Evl S
namespace S
/-! ### need_book -/
def t_nbBody (K : PySem.W.Frag) (C : CA) (E : XK) : TS :=
 (tSeq (tIfS (tOr (tNot (tB (tCall (sp_is_number K C) [] E0 (tCons (tVar 1) tNil)))) (tNot (tB (tCall (sp_is_entry K C) [] E0 (tCons (tOp (ixB K) (tVar 0) (tVar 1)) tNil))))) (tRaiseC E C.BadBook) tNext)
 (tIfS (tAnd (tTest (tOp (eqA K) (tOp (ixB K) (tOp (ixB K) (tVar 0) (tVar 1)) (tC (.int 0))) (tC (.str "undo")))) (tTest (tOp (geI) (tOp (ixB K) (tOp (ixB K) (tVar 0) (tVar 1)) (tC (.int 1))) (tVar 1)))) (tRaiseC E C.BadBook) tNext))

theorem nb_step {K : PySem.W.Frag} {C : CA} {E : XK} {D : Ends} {b : Addr} {v1 : V} {dk d : PyData} {H' : Hp} (hdk : Dq H' dk v1)
    (hbk : numberD dk = true → ∀ H2, Ex H' H2 → ∃ v, Ev (tOp (ixB K) (tVar 0) (tVar 1)) ([some (.ref b), some v1] : L2.St) H2 v ∧ Dq H2 d v)
    (bad : ¬ gp dk d → ∀ H2, E (.ref C.BadBook) none H2) (good : gp dk d → ∀ H2, Ex H' H2 → D.nx ([some (.ref b), some v1] : L2.St) H2) :
    t_nbBody K C E D ([some (.ref b), some v1] : L2.St) H' := by
  have hnum := ev_isNumber (K := K) (C := C) (ta := tVar 1) (σ := ([some (.ref b), some v1] : L2.St)) (H := H') (ev_var rfl) hdk
  unfold t_nbBody
  cases hn : numberD dk with
  | false =>
    rw [hn] at hnum
    exact q_when (b := true) (et_or (a := true) (b := true) (et_not (a := false) (et_B hnum)) fun z => by cases z) (fun _ H2 e2 => bad (fun z => by rw [z.num] at hn; cases hn) H2) fun z => by cases z
  | true =>
    rw [hn] at hnum
    obtain ⟨v, hv, hd⟩ := hbk hn H' (Ex.refl H')
    have hent : Ev (tCall (sp_is_entry K C) [] E0 (tCons (tOp (ixB K) (tVar 0) (tVar 1)) tNil)) ([some (.ref b), some v1] : L2.St) H' (.bl (entryD d)) := ev_call (ea_cons hv ea_nil) fun H1 e Q q E => ⟨v, d, rfl, hd.mono e, q⟩
    cases he : entryD d with
    | false =>
      rw [he] at hent
      exact q_when (b := true) (et_or (a := false) (b := true) (et_not (a := true) (et_B hnum)) fun _ => et_not (a := false) (et_B hent)) (fun _ H2 e2 => bad (fun z => by rw [z.ent] at he; cases he) H2) fun z => by cases z
    | true =>
      rw [he] at hent
      refine q_when (b := false) (et_or (a := false) (b := false) (et_not (a := true) (et_B hnum)) fun _ => et_not (a := true) (et_B hent)) (fun z => by cases z) fun _ H2 e2 => ?_
      obtain ⟨v2, hv2, hd2⟩ := hbk hn H2 e2
      obtain ⟨e, k, rfl, hok⟩ := entry_of he
      obtain ⟨i, rfl, hi⟩ := number_int hn
      cases hdk
      cases hd2 with
      | @tup t xs _ ht hall =>
      have w0 : ∀ {w : Str}, e.ds[0]? = some (.str w) → Ev (tOp (ixB K) (tOp (ixB K) (tVar 0) (tVar 1)) (tC (.int 0))) ([some (.ref b), some (.int i)] : L2.St) H2 (.str w) := fun {w} h => by
        obtain ⟨u, hu, hd⟩ := hall.get h
        cases hd
        exact ev_ixTB (j := 0) hv2 ht hu
      have nxt : gp (.int i) (.tuple e.ds) → ∀ H3, Ex H2 H3 → D.nx ([some (.ref b), some (.int i)] : L2.St) H3 := fun h H3 e3 => good h H3 (e2.trans e3)
      cases e with
      | undo j =>
        have hj : Ev (tOp (ixB K) (tOp (ixB K) (tVar 0) (tVar 1)) (tC (.int 1))) ([some (.ref b), some (.int i)] : L2.St) H2 (.int j) := by
          obtain ⟨u, hu, hd⟩ := hall.get (i := 1) (d := .int j) rfl
          cases hd
          exact ev_ixTB (j := 1) hv2 ht hu
        have hge := et_test (ev_ge hj (ev_var (i := 1) (v := .int i) rfl))
        have hu := et_test (ev_eqS (K := K) (w0 (w := "undo") rfl) (ev_c (v := .str "undo")))
        rw [show decide (("undo" : Str) = "undo") = true from decide_eq_true rfl] at hu
        refine s_when (et_and (a := true) hu fun _ => hge) (fun c H3 e3 => ?_) fun c H3 e3 => nxt ?_ H3 e3
        · rw [Bool.true_and, decide_eq_true_eq] at c
          refine bad ?_ H3
          rintro ⟨i', e', h1, h2, h3, h4⟩
          cases h1
          injection h3 with h3
          rw [undo_of h3] at h4
          have := h4.2
          omega
        · rw [Bool.true_and, decide_eq_false_iff_not] at c
          exact ⟨i, _, rfl, hi, rfl, hok.1, by omega⟩
      | tell n lo hi' w =>
        have hu := et_test (ev_eqS (K := K) (w0 (w := "tell") rfl) (ev_c (v := .str "undo")))
        rw [show decide (("tell" : Str) = "undo") = false from by decide +kernel] at hu
        exact s_when (b := false) (et_and (a := false) (b := false) hu fun z => by cases z) (fun z => by cases z) fun _ H3 e3 => nxt ⟨i, _, rfl, hi, rfl, hok⟩ H3 e3
      | clear n lo hi' =>
        have hu := et_test (ev_eqS (K := K) (w0 (w := "clear") rfl) (ev_c (v := .str "undo")))
        rw [show decide (("clear" : Str) = "undo") = false from by decide +kernel] at hu
        exact s_when (b := false) (et_and (a := false) (b := false) hu fun z => by cases z) (fun z => by cases z) fun _ H3 e3 => nxt ⟨i, _, rfl, hi, rfl, hok⟩ H3 e3
      | like n lo hi' o =>
        have hu := et_test (ev_eqS (K := K) (w0 (w := "like") rfl) (ev_c (v := .str "undo")))
        rw [show decide (("like" : Str) = "undo") = false from by decide +kernel] at hu
        exact s_when (b := false) (et_and (a := false) (b := false) hu fun z => by cases z) (fun z => by cases z) fun _ H3 e3 => nxt ⟨i, _, rfl, hi, rfl, hok⟩ H3 e3
/-- a dict's pairs and what they are as data -/
def KD (H : Hp) : List (Key × V) → List PyData → Prop := Paired fun p d => Dq H d p.2 ∧ ∀ s, p.1 = .inr s → s.length ≤ 100000
theorem KD.exLT {H H' : Hp} (e : ExLT H H') {kvs : List (Key × V)} {ds : List PyData} (h : KD H kvs ds) : KD H' kvs ds := Paired.imp (fun _ _ z => ⟨z.1.exLT e, z.2⟩) h
theorem Ex.exLT {H H' : Hp} (e : Ex H H') : ExLT H H' := fun a xs => ⟨fun h => e _ _ h, fun h => e _ _ h⟩
def sp_need_book (K : PySem.W.Frag) (C : CA) : Sp := fun vs H Q E => ∃ v, vs = [v] ∧
  ((∃ d, Dq H d v ∧ dicD d = false ∧ ∀ H', E (.ref C.BadBook) none H') ∨
   (∃ (b : Addr) (kvs : List (Key × V)) (ds : List PyData), v = .ref b ∧ H b = some (.dK kvs) ∧ KD H kvs ds ∧ (kvs.map (·.1)).Nodup ∧
     ((30 < kvs.length ∨ ∃ (i : Nat) (p : Key × V) (d : PyData), kvs[i]? = some p ∧ ds[i]? = some d ∧ ¬ gp (keyD p.1) d) → ∀ H', E (.ref C.BadBook) none H') ∧
     (kvs.length ≤ 30 → (∀ (i : Nat) (p : Key × V) (d : PyData), kvs[i]? = some p → ds[i]? = some d → gp (keyD p.1) d) → ∀ p H', H p = none → Ex H H' → H' p = some (.dK kvs) → Q (.ref p) H')) ∨
   (∃ (b : Addr) (ks : List (Int × V)) (ds : List PyData) (x : V) (dx : PyData), v = .ref b ∧ H b = some (oddO b ks x) ∧ Paired (fun p d => Dq H d p.2) ks ds ∧ Dq H dx x ∧ numberD dx = false ∧ ∀ H', E (.ref C.BadBook) none H'))
theorem len_need_book {K : PySem.W.Frag} {C : CA} {vs : List V} {H : Hp} {Q : VK} {E : XK} (h : sp_need_book K C vs H Q E) : vs.length = 1 := by
  obtain ⟨v, rfl, _⟩ := h
  rfl
/-- book 0, number 1 -/
def t_need_book (K : PySem.W.Frag) (C : CA) (E : XK) : TS :=
 (tSeq (tIfS (tOr (tNot (tB (tCB (isiB K) (tCons (tVar 0) (tCons (tC (.ty "dict")) tNil))))) (tTest (tOp (gtI) (tCB (lenB K) (tCons (tVar 0) tNil)) (tC (.int 30))))) (tRaiseC E C.BadBook) tNext)
 (tSeq (tLock (tFor (iKeysB (tVar 0)) (gName 1)
  (tSeq (tIfS (tOr (tNot (tB (tCall (sp_is_number K C) [] E0 (tCons (tVar 1) tNil)))) (tNot (tB (tCall (sp_is_entry K C) [] E0 (tCons (tOp (ixB K) (tVar 0) (tVar 1)) tNil))))) (tRaiseC E C.BadBook) tNext)
 (tIfS (tAnd (tTest (tOp (eqA K) (tOp (ixB K) (tOp (ixB K) (tVar 0) (tVar 1)) (tC (.int 0))) (tC (.str "undo")))) (tTest (tOp (geI) (tOp (ixB K) (tOp (ixB K) (tVar 0) (tVar 1)) (tC (.int 1))) (tVar 1)))) (tRaiseC E C.BadBook) tNext))))
 (tRet (tCB (dictC K) (tCons (tVar 0) tNil)))))
theorem pure_need_book {K : PySem.W.Frag} {C : CA} {vs : List V} {H : Hp} {Q : VK} {E : XK} (h : sp_need_book K C vs H Q E) : t_need_book K C E { nx := fun _ H' => Q .non H', rt := Q } (startN 2 vs) H := by
  obtain ⟨v, rfl, h⟩ := h
  rcases h with ⟨d, hd, hnd, kk⟩ | ⟨b, kvs, ds, rfl, hb, hkd, hn, k1, k2⟩ | ⟨b, ks, ds, x, dx, rfl, hb, hpd, hx, hnx, kk⟩
  · have hi := ev_isiB (K := K) (ta := tVar 0) (σ := startN 2 [v]) good_dict (ev_var rfl) hd
    rw [isi_dict, hnd] at hi
    exact q_when (b := true) (et_or (a := true) (b := true) (et_not (a := false) (et_B hi)) fun z => by cases z) (fun _ H1 _ => kk H1) fun z => by cases z
  · have hlen := ev_lenBk (K := K) (ta := tVar 0) (σ := startN 2 [.ref b]) (H := H) (ev_var rfl) hb
    have hgt := et_test (ev_gt hlen (ev_c (v := .int 30)))
    refine q_when (et_or (a := false) (et_not (a := true) (et_B (ev_isiDk (ev_var rfl) hb))) fun _ => hgt) (fun c H1 e1 => ?_) fun c H1 e1 => ?_
    · rw [Bool.false_or, decide_eq_true_eq] at c
      exact k1 (.inl (by omega)) H1
    rw [Bool.false_or, decide_eq_false_iff_not] at c
    have hb1 := e1 b _ hb
    have hkd1 := hkd.exLT (S.Ex.exLT e1)
    show tSeq _ _ _ ([some (.ref b), none] : L2.St) H1
    refine q_lockKeysB (ta := tVar 0) (fun H1 => ev_var rfl) hb1 (fun od i σ' H' => ∃ o1, σ' = [some (.ref b), o1] ∧ H' b = some (.frz od (.dK kvs)) ∧ ExB b H1 H' ∧ ∀ (j : Nat) (p : Key × V) (d : PyData), j < i → kvs[j]? = some p → ds[j]? = some d → gp (keyD p.1) d)
      (fun od H2 e2 => ⟨none, rfl, e2 b _ upd_same, (ExB.frz _).trans (ExB.of e2), fun j p d h => by omega⟩) (fun od i σ' H' ⟨_, _, h, _⟩ => h) ?_ ?_
    · rintro od i ky v σ' H' bk rt hi ⟨o1, rfl, hf, ex, hall⟩
      have lt1 : ExLT H1 H' := ex.exLT (fun xs z => by rw [hb1] at z; cases z) (fun xs z => by rw [hb1] at z; cases z)
      obtain ⟨d, hd, hdq, hs⟩ := paired_get (hkd1.exLT lt1) hi
      have hval : valV kvs ky = some v := valV_get hn hi
      show t_nbBody K C E _ ([some (.ref b), some (kV ky)] : L2.St) H'
      refine nb_step (dk := keyD ky) (d := d) ?_ (fun _ H2 e2 => ⟨v, ev_ixDB (ev_var rfl) (ev_var rfl) (.inr ⟨od, e2 b _ hf⟩) hval, hdq.mono e2⟩) (fun hb' => k1 (.inr ⟨i, (ky, v), d, hi, hd, hb'⟩)) fun hg H2 e2 => ⟨_, rfl, e2 b _ hf, ex.trans (ExB.of e2), fun j p d' hj hp hd' => ?_⟩
      · cases ky with
        | inl i => exact .int i
        | inr s => exact .str s (hs s rfl)
      · by_cases hji : j < i
        · exact hall j p d' hji hp hd'
        · have : j = i := by omega
          subst this
          rw [hi] at hp
          rw [hd] at hd'
          cases hp
          cases hd'
          exact hg
    · rintro od σ' H' ⟨o1, rfl, hf, ex, hall⟩
      have E1 : Ex H1 (upd H' b (.dK kvs)) := ex.back hb1
      refine s_retD (ed_copy (ev_var rfl) (.inl upd_same)) fun p H2 hp e2 hp2 => ?_
      refine k2 (by omega) (fun i p d hp hd => hall i p d (List.getElem?_eq_some_iff.mp hp).1 hp hd) p H2 (fresh_back (e1.trans E1) hp) ((e1.trans E1).trans e2) hp2
  · have hlen := ev_lenBo (K := K) (ta := tVar 0) (σ := startN 2 [.ref b]) (H := H) (ev_var rfl) hb
    have hgt := et_test (ev_gt hlen (ev_c (v := .int 30)))
    refine q_when (et_or (a := false) (et_not (a := true) (et_B (ev_isiO (ev_var rfl) hb))) fun _ => hgt) (fun c H1 e1 => kk H1) fun c H1 e1 => ?_
    have hb1 := e1 b _ hb
    have nl : ∀ xs, H1 b ≠ some (.lst xs) := fun xs z => by rw [hb1] at z; cases z
    have nt : ∀ xs, H1 b ≠ some (.tup xs) := fun xs z => by rw [hb1] at z; cases z
    show tSeq _ _ _ ([some (.ref b), none] : L2.St) H1
    refine q_lockKeysO (ta := tVar 0) (fun H1 => ev_var rfl) hb1 (fun od i σ' H' => ∃ o1, σ' = [some (.ref b), o1] ∧ H' b = some (.frz od (oddO b ks x)) ∧ ExB b H1 H')
      (fun od H2 e2 => ⟨none, rfl, e2 b _ upd_same, (ExB.frz _).trans (ExB.of e2)⟩) (fun od i σ' H' ⟨_, _, h, _⟩ => h) ?_ ?_
    · rintro od i k v σ' H' bk rt hi ⟨o1, rfl, hf, ex⟩
      obtain ⟨d, hd, hdq⟩ := paired_get hpd hi
      have hdq' := (hdq.mono e1).exLT (ex.exLT nl nt)
      show t_nbBody K C E _ ([some (.ref b), some (.int k)] : L2.St) H'
      exact nb_step (dk := .int k) (d := d) (.int k) (fun _ H2 e2 => ⟨v, ev_ixOB (ev_var rfl) (ev_var rfl) (.inr ⟨od, e2 b _ hf⟩) hi, hdq'.mono e2⟩) (fun _ => kk) fun hg H2 e2 => ⟨_, rfl, e2 b _ hf, ex.trans (ExB.of e2)⟩
    · rintro od σ' H' bk rt ⟨o1, rfl, hf, ex⟩
      have hx' := (hx.mono e1).exLT (ex.exLT nl nt)
      show t_nbBody K C E _ ([some (.ref b), some x] : L2.St) H'
      exact nb_step (dk := dx) (d := .none) hx' (fun z => by rw [hnx] at z; cases z) (fun _ => kk) fun hg => by have := hg.num; rw [hnx] at this; cases this
end S
end
set_option Elab.async false
set_option linter.all false
set_option maxRecDepth 100000
set_option maxHeartbeats 4000000
section
open PySem L2 Evl S
namespace S
/-! ### what need_book refuses -/
def BadDk (H : Hp) (v : V) : Prop := ∃ (b : Addr) (kvs : List (Key × V)) (ds : List PyData), v = .ref b ∧ H b = some (.dK kvs) ∧ KD H kvs ds ∧ (kvs.map (·.1)).Nodup ∧ (30 < kvs.length ∨ ∃ (i : Nat) (p : Key × V) (d : PyData), kvs[i]? = some p ∧ ds[i]? = some d ∧ ¬ gp (keyD p.1) d)
def BadV (H : Hp) (v : V) : Prop := (∃ d, Dq H d v ∧ dicD d = false) ∨ BadDk H v ∨
  (∃ (b : Addr) (ks : List (Int × V)) (ds : List PyData) (x : V) (dx : PyData), v = .ref b ∧ H b = some (oddO b ks x) ∧ Paired (fun p d => Dq H d p.2) ks ds ∧ Dq H dx x ∧ numberD dx = false)
theorem KD.mono {H H' : Hp} (e : Ex H H') {kvs : List (Key × V)} {ds : List PyData} (h : KD H kvs ds) : KD H' kvs ds := h.exLT (S.Ex.exLT e)
theorem BadV.mono {H H' : Hp} {v : V} (e : Ex H H') (h : BadV H v) : BadV H' v := by
  rcases h with ⟨d, hd, h1⟩ | ⟨b, kvs, ds, rfl, hb, hk, hn, h1⟩ | ⟨b, ks, ds, x, dx, rfl, hb, hp, hx, h1⟩
  · exact .inl ⟨d, hd.mono e, h1⟩
  · exact .inr (.inl ⟨b, kvs, ds, rfl, e b _ hb, hk.mono e, hn, h1⟩)
  · exact .inr (.inr ⟨b, ks, ds, x, dx, rfl, e b _ hb, Paired.imp (fun _ _ z => z.mono e) hp, hx.mono e, h1⟩)
theorem BadV.need {K : PySem.W.Frag} {C : CA} {H : Hp} {v : V} {Q : VK} {E : XK} (h : BadV H v) (k : ∀ H', E (.ref C.BadBook) none H') : sp_need_book K C [v] H Q E := by
  rcases h with ⟨d, hd, h1⟩ | ⟨b, kvs, ds, rfl, hb, hk, hn, h1⟩ | ⟨b, ks, ds, x, dx, rfl, hb, hp, hx, h1⟩
  · exact ⟨v, rfl, .inl ⟨d, hd, h1, k⟩⟩
  · refine ⟨_, rfl, .inr (.inl ⟨b, kvs, ds, rfl, hb, hk, hn, fun _ => k, fun h30 hg => ?_⟩)⟩
    rcases h1 with h1 | ⟨i, p, d, a1, a2, a3⟩
    · omega
    · exact absurd (hg i p d a1 a2) a3
  · exact ⟨_, rfl, .inr (.inr ⟨b, ks, ds, x, dx, rfl, hb, hp, hx, h1, k⟩)⟩
/-! ### a pair put into a dict -/
theorem BkRel.kd {H : Hp} : ∀ {kvs : List (Key × V)} {B : Bk}, BkRel H kvs B → (∀ q ∈ B, q.2.ok q.1) → KD H kvs (B.map fun q => .tuple q.2.ds)
  | _, _, .nil, _ => .nil
  | p :: kvs, q :: B, .cons h t, g => by
    obtain ⟨h1, a, h2, h3⟩ := h
    refine .cons ⟨?_, fun s z => by rw [h1] at z; cases z⟩ (BkRel.kd t fun q' hq => g q' (List.mem_cons_of_mem _ hq))
    rw [h2]
    exact Ent.dq h3 (g q List.mem_cons_self)
theorem BkRel.gps {H : Hp} {kvs : List (Key × V)} {B : Bk} (h : BkRel H kvs B) (g : GoodBk B) (i : Nat) (p : Key × V) (d : PyData) (hp : kvs[i]? = some p) (hd : (B.map fun q => PyData.tuple q.2.ds)[i]? = some d) : gp (keyD p.1) d := by
  obtain ⟨q, hq, h1, _⟩ := paired_get h hp
  rw [List.getElem?_map, hq, Option.map_some] at hd
  cases hd
  obtain ⟨g1, g2⟩ := g q (List.mem_of_getElem? hq)
  exact ⟨q.1, q.2, by rw [h1]; rfl, g1, rfl, g2⟩
theorem KD.repl {H : Hp} {k : Key} {v : V} {d : PyData} (hd : Dq H d v) : ∀ {kvs : List (Key × V)} {ds : List PyData}, KD H kvs ds → ∃ ds', KD H (kvs.map fun kv => if kv.1 = k then (kv.1, v) else kv) ds' ∧ ∀ (i : Nat) (p : Key × V), kvs[i]? = some p → p.1 = k → (kvs.map fun kv => if kv.1 = k then (kv.1, v) else kv)[i]? = some (k, v) ∧ ds'[i]? = some d
  | _, _, .nil => ⟨[], .nil, fun i p h => by simp at h⟩
  | p :: kvs, d0 :: ds, .cons h t => by
    obtain ⟨ds', h1, h2⟩ := KD.repl hd t
    by_cases e : p.1 = k
    · refine ⟨d :: ds', ?_, fun i q hq hk => ?_⟩
      · rw [List.map_cons, if_pos e]
        exact .cons ⟨hd, h.2⟩ h1
      · rw [List.map_cons, if_pos e]
        cases i with
        | zero => rw [e]; exact ⟨rfl, rfl⟩
        | succ j => exact h2 j q hq hk
    · refine ⟨d0 :: ds', ?_, fun i q hq hk => ?_⟩
      · rw [List.map_cons, if_neg e]
        exact .cons h h1
      · rw [List.map_cons, if_neg e]
        cases i with
        | zero =>
          simp only [List.getElem?_cons_zero, Option.some.injEq] at hq
          rw [hq] at e
          exact absurd hk e
        | succ j => exact h2 j q hq hk
theorem KD.put {H : Hp} {k : Key} {v : V} {d : PyData} {kvs : List (Key × V)} {ds : List PyData} (h : KD H kvs ds) (hn : (kvs.map (·.1)).Nodup) (hd : Dq H d v) (hs : ∀ s, k = .inr s → s.length ≤ 100000) :
    ∃ ds', KD H (putK kvs k v) ds' ∧ ((putK kvs k v).map (·.1)).Nodup ∧ ∃ (i : Nat) (p : Key × V), (putK kvs k v)[i]? = some p ∧ ds'[i]? = some d ∧ p.1 = k := by
  unfold putK
  by_cases a : (kvs.any fun kv => decide (kv.1 = k)) = true
  · rw [if_pos a]
    obtain ⟨ds', h1, h2⟩ := KD.repl (k := k) hd h
    obtain ⟨p, hp, hk⟩ := List.any_eq_true.mp a
    obtain ⟨i, hi⟩ := List.mem_iff_getElem?.mp hp
    obtain ⟨g1, g2⟩ := h2 i p hi (of_decide_eq_true hk)
    refine ⟨ds', h1, ?_, i, _, g1, g2, rfl⟩
    have e : (kvs.map fun kv => if kv.1 = k then (kv.1, v) else kv).map (·.1) = kvs.map (·.1) := by
      rw [List.map_map]
      refine List.map_congr_left fun q _ => ?_
      show (if q.1 = k then (q.1, v) else q).1 = q.1
      split <;> rfl
    rw [e]
    exact hn
  · rw [if_neg a]
    have hl : kvs.length = ds.length := Paired.length h
    refine ⟨ds ++ [d], Paired.snoc h ⟨hd, hs⟩, ?_, kvs.length, (k, v), by simp, by rw [hl]; simp, rfl⟩
    rw [List.map_append, List.nodup_append]
    refine ⟨hn, by simp, fun x hx y hy => ?_⟩
    rw [List.map_cons, List.map_nil, List.mem_singleton] at hy
    subst hy
    intro z
    obtain ⟨q, hq, e⟩ := List.mem_map.mp hx
    exact a (List.any_eq_true.mpr ⟨q, hq, decide_eq_true (by rw [e, z])⟩)
/-- a book's pairs, the numbers by themselves -/
theorem BkRel.nums {H : Hp} : ∀ {kvs : List (Key × V)} {B : Bk}, BkRel H kvs B → (∀ q ∈ B, q.2.ok q.1) → ∃ ks : List (Int × V), kvs = ks.map (fun p => ((Sum.inl p.1 : Key), p.2)) ∧ ks.map (·.1) = B.map (·.1) ∧ Paired (fun p d => Dq H d p.2) ks (B.map fun q => .tuple q.2.ds)
  | _, _, .nil, _ => ⟨[], rfl, rfl, .nil⟩
  | p :: kvs, q :: B, .cons h t, g => by
    obtain ⟨h1, a, h2, h3⟩ := h
    obtain ⟨ks, e1, e2, e3⟩ := BkRel.nums t fun q' hq => g q' (List.mem_cons_of_mem _ hq)
    refine ⟨(q.1, p.2) :: ks, ?_, ?_, .cons ?_ e3⟩
    · rw [List.map_cons, ← e1, ← h1]
    · rw [List.map_cons, List.map_cons, e2]
    · show Dq H _ p.2
      rw [h2]
      exact Ent.dq h3 (g q List.mem_cons_self)
section
variable {K : PySem.W.Frag} {C : CA} {σ : L2.St} {H H' : Hp} {t : TT} {ta tb tc td te tf : TE} {D : Ends} {tu tz : TS} {v : V} {d : PyData} {n m : Nat}
theorem ex_ixPB {α : Type} {F : Hp → V → α → Prop} {ys : List α} {i : Int} {y : α} (m : Mo F) (ha : EvP ta σ H F ys) (hb : Ev tb σ H (.int i)) (h0 : 0 ≤ i) (hy : ys[i.toNat]? = some y) : EvX (tOp (ixB K) ta tb) σ H (fun H v => F H v y) := fun H1 e Q q => by
  unfold tOp
  refine ha H1 e _ fun p xs H2 hp e2 h2 hps => hb H2 (e.trans e2) _ fun H3 e3 => ?_
  have hil : i.toNat < xs.length := by
    rw [Paired.length hps]
    exact (List.getElem?_eq_some_iff.mp hy).1
  obtain ⟨y', hy', hr⟩ := paired_get hps (List.getElem?_eq_getElem hil)
  have : y' = y := by rw [hy] at hy'; exact (Option.some.inj hy').symm
  subst this
  have hat : atI xs i = some xs[i.toNat] := by
    have := atI_nat (List.getElem?_eq_getElem hil)
    rwa [Int.toNat_of_nonneg h0] at this
  exact .inl (.inl (.inl ⟨p, xs, i, _, rfl, rfl, sq_of (e3 p _ h2), hat, q _ H3 (e2.trans e3) (m e3 hr)⟩))
/-- a value with a property put at a key -/
theorem s_putXB {P : Hp → V → Prop} {p : Addr} {kvs : List (Key × V)} {k : Key} (mo : ∀ {H1 H2 : Hp} {v : V}, Ex H1 H2 → P H1 v → P H2 v) (h : EvX te σ H P) (ha : Ev ta σ H (.ref p)) (hb : Ev tb σ H (kV k)) (hd : H p = some (.dK kvs)) (hz : kvs.length < 100000)
    (q : ∀ v H1, Ex H H1 → P H1 v → D.nx σ (upd H1 p (.dK (putK kvs k v)))) : tAsg te (gSub ta tb setB) D σ H :=
  h H (Ex.refl H) _ fun v H1 e1 h1 => ha H1 e1 _ fun H2 e2 => hb H2 (e1.trans e2) _ fun H3 e3 => .inl (.inr ⟨p, _, rfl, DPut.k (((e1.trans e2).trans e3) p _ hd) (sz_lt hz), q v H3 ((e1.trans e2).trans e3) (mo (e2.trans e3) h1)⟩)
end
/-- what a bad pair makes of a good book -/
theorem bad_put {H H1 : Hp} {b : Addr} {kvs : List (Key × V)} {B : Bk} {k : Key} {v : V} {d : PyData} (hb : H b = some (.dK kvs)) (hr : BkRel H kvs B) (hn : (B.map (·.1)).Nodup) (hg : GoodBk B) (e : Ex H H1) (hd : Dq H1 d v) (hs : ∀ s, k = .inr s → s.length ≤ 100000) (hbad : ¬ gp (keyD k) d) :
    BadV (upd H1 b (.dK (putK kvs k v))) (.ref b) := by
  have hkn : (kvs.map (·.1)).Nodup := by
    rw [hr.keys]
    exact List.pairwise_map.mpr (hn.imp fun hne z => hne (Sum.inl.inj z))
  obtain ⟨ds', h1, h2, i, p, h3, h4, h5⟩ := KD.put (k := k) ((hr.mono e).kd fun q hq => (hg q hq).2) hkn hd hs
  have lt : ExLT H1 (upd H1 b (.dK (putK kvs k v))) := (ExB.frz _).exLT (fun xs z => by rw [e b _ hb] at z; cases z) (fun xs z => by rw [e b _ hb] at z; cases z)
  exact .inr (.inl ⟨b, _, ds', rfl, upd_same, h1.exLT lt, h2, .inr ⟨i, p, d, h3, h4, by rw [h5]; exact hbad⟩⟩)
end S
end
set_option Elab.async false
set_option linter.all false
set_option maxRecDepth 100000
set_option maxHeartbeats 4000000
section
open PySem L2 Evl S
namespace S
/-! ### _law_spoilt -/
def NoEnt (H : Hp) (v : V) (_ : Nat) : Prop := ∃ d, Dq H d v ∧ entryD d = false
theorem NoEnt.mo : Mo NoEnt := fun e ⟨d, h1, h2⟩ => ⟨d, h1.mono e, h2⟩
def NoDic (H : Hp) (v : V) (_ : Nat) : Prop := ∃ d, Dq H d v ∧ dicD d = false
theorem NoDic.mo : Mo NoDic := fun e ⟨d, h1, h2⟩ => ⟨d, h1.mono e, h2⟩
def SomeD (H : Hp) (v : V) (_ : Nat) : Prop := ∃ d, Dq H d v
theorem SomeD.mo : Mo SomeD := fun e ⟨d, h1⟩ => ⟨d, h1.mono e⟩
/-- the odd keys: the j-th -/
def OKey (H : Hp) (v : V) (j : Nat) : Prop := (∃ k : Key, v = kV k ∧ (∀ d, ¬ gp (keyD k) d) ∧ ∀ s, k = .inr s → s.length ≤ 100000) ∨ (OddK H v ∧ (v = .bl true → j = 2) ∧ ∃ dx, Dq H dx v ∧ numberD dx = false)
theorem OKey.mo : Mo OKey := fun {H H' v y} e h => by
  rcases h with h | ⟨h1, h2, dx, h3, h4⟩
  · exact .inl h
  · refine .inr ⟨?_, h2, dx, h3.mono e, h4⟩
    cases h1 with
    | non => exact .non
    | tru => exact .tru
    | one hp => exact .one (e _ _ hp)
theorem OKey.num {H : Hp} {j : Nat} {i : Int} (h : i < 1) : OKey H (.int i) j := .inl ⟨.inl i, rfl, fun d ⟨i', e, h1, h2, _⟩ => by
  have h1 : PyData.int i = .int i' := h1
  cases h1
  omega, fun s z => by cases z⟩
def sp_l_spoilt (K : PySem.W.Frag) (C : CA) : Sp := fun vs H Q _ => ∃ (b : Addr) (kvs : List (Key × V)) (B : Bk) (cell : Int), vs = [.ref b, .int cell] ∧ H b = some (.dK kvs) ∧ BkRel H kvs B ∧ (B.map (·.1)).Nodup ∧ GoodBk B ∧ (∀ q ∈ B, q.1 < 1000) ∧ B.length ≤ 60 ∧
  (cell % 8 = 2 → cell / 8 % 7 = 2 → ∀ q ∈ B, q.1 ≠ 1) ∧ (0 < cell % 8 → cell % 8 < 5 → ∀ v H', BadV H' v → Q v H') ∧ (¬ (0 < cell % 8 ∧ cell % 8 < 5) → ∀ H', Ex H H' → Q (.ref b) H')
theorem len_l_spoilt {K : PySem.W.Frag} {C : CA} {vs : List V} {H : Hp} {Q : VK} {E : XK} (h : sp_l_spoilt K C vs H Q E) : vs.length = 2 := by
  obtain ⟨b, kvs, B, cell, rfl, _⟩ := h
  rfl
/-- _law_book_here 0, _law_cell 1, _law_kind 2, _law_more 3, _law_odd 4 -/
def t_l_spoilt (K : PySem.W.Frag) (C : CA) : TS :=
 (tSeq (tAsg (tOp (modI) (tVar 1) (tC (.int 8))) (gName 2))
 (tSeq (tAsg (tOp (divI) (tVar 1) (tC (.int 8))) (gName 3))
 (tSeq (tAsg (tTup (tCons (tC (.str "tell")) (tCons (tC (.str "a")) (tCons (tC (.int 3)) (tCons (tC (.int 4)) (tCons (tC (.int 1)) tNil)))))) (gName 4))
 (tSeq (tIfS (tTest (tOp (eqA K) (tVar 2) (tC (.int 1)))) (tAsg (tOp (ixB K) (tLst (tCons (tTup (tCons (tC (.str "tell")) (tCons (tC (.str "a")) (tCons (tC (.int 4)) (tCons (tC (.int 3)) (tCons (tC (.int 1)) tNil)))))) (tCons (tTup (tCons (tC (.str "clear")) (tCons (tC (.str "A")) (tCons (tC (.int 0)) (tCons (tC (.int 1)) tNil))))) (tCons (tC .non) (tCons (tLst (tCons (tC (.str "undo")) (tCons (tC (.int 1)) tNil))) tNil))))) (tOp (modI) (tVar 3) (tC (.int 4)))) (gSub (tVar 0) (tC (.int 100)) setB)) tNext)
 (tSeq (tIfS (tTest (tOp (eqA K) (tVar 2) (tC (.int 2)))) (tAsg (tVar 4) (gSub (tVar 0) (tOp (ixB K) (tLst (tCons (tC (.int 0)) (tCons (tUn (rU fun i => .int (-i)) (tC (.int 1))) (tCons (tC (.bl true)) (tCons (tC (.str "1")) (tCons (tC .non) (tCons (tTup (tCons (tC (.int 1)) tNil)) (tCons (tUn (rU fun i => .int (-i)) (tOp (powI) (tC (.int 10)) (tC (.int 9)))) tNil)))))))) (tOp (modI) (tVar 3) (tC (.int 7)))) setB)) tNext)
 (tSeq (tIfS (tTest (tOp (eqA K) (tVar 2) (tC (.int 3)))) (tAsg (tTup (tCons (tC (.str "undo")) (tCons (tOp (addA K) (tC (.int 100)) (tOp (modI) (tVar 3) (tC (.int 3)))) tNil))) (gSub (tVar 0) (tC (.int 100)) setB)) tNext)
 (tSeq (tIfS (tTest (tOp (eqA K) (tVar 2) (tC (.int 4)))) (tRet (tOp (ixB K) (tLst (tCons (tC .non) (tCons (tLst tNil) (tCons (tLst (tCons (tTup (tCons (tC (.int 1)) (tCons (tVar 4) tNil))) tNil)) (tCons (tC (.str "1")) (tCons (tC (.int 1)) (tCons (tTup (tCons (tVar 4) tNil)) tNil))))))) (tOp (modI) (tVar 3) (tC (.int 6))))) tNext)
 (tRet (tVar 0)))))))))
theorem pure_l_spoilt {K : PySem.W.Frag} {C : CA} {vs : List V} {H : Hp} {Q : VK} {E : XK} (h : sp_l_spoilt K C vs H Q E) : t_l_spoilt K C { nx := fun _ H' => Q .non H', rt := Q } (startN 5 vs) H := by
  obtain ⟨b, kvs, B, cell, rfl, hb, hr, hn, hg, hlt, hl, hx, k1, k2⟩ := h
  have z1 : ("tell" : Str).length ≤ 100000 := by decide +kernel
  have z2 : ("clear" : Str).length ≤ 100000 := by decide +kernel
  have z3 : ("undo" : Str).length ≤ 100000 := by decide +kernel
  have z4 : ("a" : Str).length ≤ 100000 := by decide +kernel
  have z5 : ("A" : Str).length ≤ 100000 := by decide +kernel
  have z6 : ("1" : Str).length ≤ 100000 := by decide +kernel
  have hkl := hr.len
  refine q_asg (S.ev_mod (ev_var rfl) ev_c (by decide)) fun H1 e1 => q_asg (S.ev_div (ev_var rfl) ev_c ⟨by decide, by decide⟩) fun H2 e2 => ?_
  refine q_asgU (eu_tup (ea_cons ev_c (ea_cons ev_c (ea_cons ev_c (ea_cons ev_c (ea_cons ev_c ea_nil))))) (by simp)) fun t H3 _ e3 h3 => ?_
  show tSeq _ _ _ ([some (.ref b), some (.int cell), some (.int (cell % 8)), some (.int (cell / 8)), some (.ref t)] : L2.St) H3
  have E3 := (e1.trans e2).trans e3
  have hm0 := Int.emod_nonneg cell (show (8 : Int) ≠ 0 by decide)
  generalize cell % 8 = k at *
  generalize cell / 8 = m at *
  have hod : Dq H3 (.tuple [.str "tell", .str "a", .int 3, .int 4, .int 1]) (.ref t) := .tup h3 (.cons (.str _ z1) (.cons (.str _ z4) (.cons (.int 3) (.cons (.int 4) (.cons (.int 1) .nil)))))
  have tst : ∀ (j : Int) (H' : Hp), EvT (tTest (tOp (eqA K) (tVar 2) (tC (.int j)))) ([some (.ref b), some (.int cell), some (.int k), some (.int m), some (.ref t)] : L2.St) H' (decide (k = j)) := fun j H' => et_test (S.ev_eqI (ev_var rfl) ev_c)
  have skip : ∀ (j : Int) {u z : TS} {D : Ends} {H' : Hp}, k ≠ j → (∀ H'', Ex H' H'' → z D ([some (.ref b), some (.int cell), some (.int k), some (.int m), some (.ref t)] : L2.St) H'') → tSeq (tIfS (tTest (tOp (eqA K) (tVar 2) (tC (.int j)))) u tNext) z D ([some (.ref b), some (.int cell), some (.int k), some (.int m), some (.ref t)] : L2.St) H' := fun j {u z D H'} h q => by
    have t0 := tst j H'
    rw [decide_eq_false h] at t0
    exact q_when (b := false) t0 (fun z => by cases z) fun _ H'' e => q H'' e
  have take : ∀ (j : Int) {u z : TS} {D : Ends} {H' : Hp}, k = j → (∀ H'', Ex H' H'' → u { D with nx := z D } ([some (.ref b), some (.int cell), some (.int k), some (.int m), some (.ref t)] : L2.St) H'') → tSeq (tIfS (tTest (tOp (eqA K) (tVar 2) (tC (.int j)))) u tNext) z D ([some (.ref b), some (.int cell), some (.int k), some (.int m), some (.ref t)] : L2.St) H' := fun j {u z D H'} h q => by
    have t0 := tst j H'
    rw [decide_eq_true h] at t0
    exact q_when (b := true) t0 (fun _ H'' e => q H'' e) fun z => by cases z
  by_cases c1 : k = 1
  · refine take 1 c1 fun H4 e4 => ?_
    have hm4 := Int.emod_nonneg m (show (4 : Int) ≠ 0 by decide)
    have hm5 := Int.emod_lt_of_pos m (show (0 : Int) < 4 by decide)
    refine s_putXB (k := (Sum.inl 100 : Key)) (P := fun H v => ∃ d, Dq H d v ∧ entryD d = false) (fun e ⟨d, a1, a2⟩ => ⟨d, a1.mono e, a2⟩)
      (ex_ixPB (F := NoEnt) (ys := [0, 0, 0, 0]) (i := m % 4) (y := 0) NoEnt.mo (ep_lst NoEnt.mo
        (eap_cons NoEnt.mo (ex_evU (eu_tup (ea_cons (ev_c (v := .str "tell")) (ea_cons (ev_c (v := .str "a")) (ea_cons (ev_c (v := .int 4)) (ea_cons (ev_c (v := .int 3)) (ea_cons (ev_c (v := .int 1)) ea_nil))))) (by simp)) fun p H1 _ h1 => ⟨_, .tup h1 (.cons (.str _ z1) (.cons (.str _ z4) (.cons (.int 4) (.cons (.int 3) (.cons (.int 1) .nil))))), by decide +kernel⟩)
        (eap_cons NoEnt.mo (ex_evU (eu_tup (ea_cons (ev_c (v := .str "clear")) (ea_cons (ev_c (v := .str "A")) (ea_cons (ev_c (v := .int 0)) (ea_cons (ev_c (v := .int 1)) ea_nil)))) (by simp)) fun p H1 _ h1 => ⟨_, .tup h1 (.cons (.str _ z2) (.cons (.str _ z5) (.cons (.int 0) (.cons (.int 1) .nil)))), by decide +kernel⟩)
        (eap_cons NoEnt.mo (ex_ev (v := .non) ev_c fun _ _ => ⟨_, .non, rfl⟩)
        (eap_cons NoEnt.mo (ex_evL (el_lst (ea_cons (ev_c (v := .str "undo")) (ea_cons (ev_c (v := .int 1)) ea_nil)) (by simp)) fun p H1 _ h1 => ⟨_, .lst h1 (.cons (.str _ z3) (.cons (.int 1) .nil)), rfl⟩) eap_nil)))) (by simp))
        (S.ev_mod (ev_var rfl) ev_c (by decide)) hm4 (by
          have h4 : (m % 4).toNat < 4 := by omega
          revert h4
          generalize (m % 4).toNat = i
          intro h4
          match i, h4 with
          | 0, _ => rfl
          | 1, _ => rfl
          | 2, _ => rfl
          | 3, _ => rfl))
      (ev_var rfl) ev_c ((E3.trans e4) b _ hb) (by omega) fun v H5 e5 ⟨d, hd, he⟩ => ?_
    have bv := bad_put (k := (Sum.inl 100 : Key)) hb hr hn hg ((E3.trans e4).trans e5) hd (fun s z => by cases z) (fun z => by rw [z.ent] at he; cases he)
    exact skip 2 (by omega) fun H6 e6 => skip 3 (by omega) fun H7 e7 => skip 4 (by omega) fun H8 e8 => s_ret (ev_var rfl) fun H9 e9 => k1 (by omega) (by omega) _ _ (bv.mono (((e6.trans e7).trans e8).trans e9))
  refine skip 1 c1 fun H4 e4 => ?_
  have E4 := E3.trans e4
  by_cases c2 : k = 2
  · refine take 2 c2 fun H5 e5 => ?_
    have hm4 := Int.emod_nonneg m (show (7 : Int) ≠ 0 by decide)
    have hm5 := Int.emod_lt_of_pos m (show (0 : Int) < 7 by decide)
    have hkey : EvX (tOp (ixB K) (tLst (tCons (tC (.int 0)) (tCons (tUn (rU fun i => .int (-i)) (tC (.int 1))) (tCons (tC (.bl true)) (tCons (tC (.str "1")) (tCons (tC .non) (tCons (tTup (tCons (tC (.int 1)) tNil)) (tCons (tUn (rU fun i => .int (-i)) (tOp (powI) (tC (.int 10)) (tC (.int 9)))) tNil)))))))) (tOp (modI) (tVar 3) (tC (.int 7)))) ([some (.ref b), some (.int cell), some (.int k), some (.int m), some (.ref t)] : L2.St) H5 (fun H v => OKey H v (m % 7).toNat) :=
      ex_ixPB (F := OKey) (ys := [0, 1, 2, 3, 4, 5, 6]) (i := m % 7) (y := (m % 7).toNat) OKey.mo (ep_lst OKey.mo
        (eap_cons OKey.mo (ex_ev (v := .int 0) ev_c fun _ _ => OKey.num (by decide))
        (eap_cons OKey.mo (ex_ev (S.ev_neg (ev_c (v := .int 1))) fun _ _ => OKey.num (by decide))
        (eap_cons OKey.mo (ex_ev (v := .bl true) ev_c fun _ _ => .inr ⟨.tru, fun _ => rfl, _, .bl true, rfl⟩)
        (eap_cons OKey.mo (ex_ev (v := .str "1") ev_c fun _ _ => .inl ⟨.inr "1", rfl, (fun d ⟨i', _, z, _⟩ => by cases z), fun s z => by cases z; exact z6⟩)
        (eap_cons OKey.mo (ex_ev (v := .non) ev_c fun _ _ => .inr ⟨.non, (fun z => by cases z), _, .non, rfl⟩)
        (eap_cons OKey.mo (ex_evU (eu_tup (ea_cons (ev_c (v := .int 1)) ea_nil) (by simp)) fun p H1 _ h1 => .inr ⟨.one h1, (fun z => by cases z), _, .tup h1 (.cons (.int 1) .nil), rfl⟩)
        (eap_cons OKey.mo (ex_ev (S.ev_neg (S.ev_pow (ev_c (v := .int 10)) (ev_c (v := .int 9)) ⟨by decide, by decide, by decide⟩)) fun _ _ => OKey.num (by decide)) eap_nil))))))) (by simp))
        (S.ev_mod (ev_var rfl) ev_c (by decide)) hm4 (by
          have h4 : (m % 7).toNat < 7 := by omega
          revert h4
          generalize (m % 7).toNat = i
          intro h4
          match i, h4 with
          | 0, _ => rfl
          | 1, _ => rfl
          | 2, _ => rfl
          | 3, _ => rfl
          | 4, _ => rfl
          | 5, _ => rfl
          | 6, _ => rfl)
    show tAsg (tVar 4) (gSub (tVar 0) _ setB) _ ([some (.ref b), some (.int cell), some (.int k), some (.int m), some (.ref t)] : L2.St) H5
    have vr : Ev (tVar 4) ([some (.ref b), some (.int cell), some (.int k), some (.int m), some (.ref t)] : L2.St) H5 (.ref t) := ev_var rfl
    have vb : Ev (tVar 0) ([some (.ref b), some (.int cell), some (.int k), some (.int m), some (.ref t)] : L2.St) H5 (.ref b) := ev_var rfl
    refine vr H5 (Ex.refl H5) _ fun H6 e6 => vb H6 e6 _ fun H7 e7 => hkey H7 (e6.trans e7) _ fun kv H8 e8 hkv => ?_
    have e58 := (e6.trans e7).trans e8
    have E8 := (E4.trans e5).trans e58
    have hb8 := E8 b _ hb
    have fin : ∀ H9, BadV H9 (.ref b) → (tSeq (tIfS (tTest (tOp (eqA K) (tVar 2) (tC (.int 3)))) (tAsg (tTup (tCons (tC (.str "undo")) (tCons (tOp (addA K) (tC (.int 100)) (tOp (modI) (tVar 3) (tC (.int 3)))) tNil))) (gSub (tVar 0) (tC (.int 100)) setB)) tNext)
        (tSeq (tIfS (tTest (tOp (eqA K) (tVar 2) (tC (.int 4)))) (tRet (tOp (ixB K) (tLst (tCons (tC .non) (tCons (tLst tNil) (tCons (tLst (tCons (tTup (tCons (tC (.int 1)) (tCons (tVar 4) tNil))) tNil)) (tCons (tC (.str "1")) (tCons (tC (.int 1)) (tCons (tTup (tCons (tVar 4) tNil)) tNil))))))) (tOp (modI) (tVar 3) (tC (.int 6))))) tNext)
        (tRet (tVar 0)))) { nx := fun _ H' => Q .non H', rt := Q } ([some (.ref b), some (.int cell), some (.int k), some (.int m), some (.ref t)] : L2.St) H9 := fun H9 bv => skip 3 (by omega) fun H10 e10 => skip 4 (by omega) fun H11 e11 => s_ret (ev_var rfl) fun H12 e12 => k1 (by omega) (by omega) _ _ (bv.mono ((e10.trans e11).trans e12))
    rcases hkv with ⟨key, rfl, ng, hs⟩ | ⟨ok, hj, dx, hdx, hnx⟩
    · exact .inl (.inr ⟨b, _, rfl, DPut.k hb8 (sz_lt (by omega)), fin _ (bad_put hb hr hn hg E8 (hod.mono ((e4.trans e5).trans e58)) hs (ng _))⟩)
    · obtain ⟨ks, rfl, hk, hp⟩ := (hr.mono E8).nums fun q hq => (hg q hq).2
      have inB : ∀ p ∈ ks, ∃ q ∈ B, q.1 = p.1 := fun p hp => by
        have hm : p.1 ∈ ks.map (·.1) := List.mem_map_of_mem hp
        rw [hk] at hm
        exact List.mem_map.mp hm
      rw [List.length_map] at hkl
      refine .inr ⟨b, ks, rfl, hb8, fun p hp => ?_, sz_lt (by omega), ok, fun z p hp => ?_, fin _ (.inr (.inr ⟨b, ks, _, kv, dx, rfl, upd_same, Paired.imp (fun _ _ z => z.exLT ((ExB.frz _).exLT (fun xs z => by rw [hb8] at z; cases z) (fun xs z => by rw [hb8] at z; cases z))) hp, hdx.exLT ((ExB.frz _).exLT (fun xs z => by rw [hb8] at z; cases z) (fun xs z => by rw [hb8] at z; cases z)), hnx⟩))⟩
      · obtain ⟨q, hq, e⟩ := inB p hp
        have := (hg q hq).1
        have := hlt q hq
        omega
      · obtain ⟨q, hq, e⟩ := inB p hp
        rw [← e]
        have := hj z
        exact hx c2 (by omega) q hq
  refine skip 2 c2 fun H5 e5 => ?_
  have E5 := E4.trans e5
  by_cases c3 : k = 3
  · refine take 3 c3 fun H6 e6 => ?_
    have hm4 := Int.emod_nonneg m (show (3 : Int) ≠ 0 by decide)
    refine s_putXB (k := (Sum.inl 100 : Key)) (P := fun H v => ∃ d, Dq H d v ∧ ¬ gp (.int 100) d) (fun e ⟨d, a1, a2⟩ => ⟨d, a1.mono e, a2⟩)
      (ex_evU (eu_tup (ea_cons (ev_c (v := .str "undo")) (ea_cons (S.ev_add ev_c (S.ev_mod (ev_var rfl) ev_c (by decide))) ea_nil)) (by simp)) fun p H1 _ h1 => ⟨.tuple (Ent.undo (100 + m % 3)).ds, .tup h1 (.cons (.str _ z3) (.cons (.int _) .nil)), ?_⟩)
      (ev_var rfl) ev_c ((E5.trans e6) b _ hb) (by omega) fun v H7 e7 ⟨d, hd, he⟩ => ?_
    · rintro ⟨i', e', a1, a2, a3, a4⟩
      cases a1
      injection a3 with a3
      rw [undo_of a3] at a4
      have := a4.2
      omega
    have bv := bad_put (k := (Sum.inl 100 : Key)) hb hr hn hg ((E5.trans e6).trans e7) hd (fun s z => by cases z) he
    exact skip 4 (by omega) fun H8 e8 => s_ret (ev_var rfl) fun H9 e9 => k1 (by omega) (by omega) _ _ (bv.mono (e8.trans e9))
  refine skip 3 c3 fun H6 e6 => ?_
  have E6 := E5.trans e6
  by_cases c4 : k = 4
  · refine take 4 c4 fun H7 e7 => ?_
    have E37 := ((e4.trans e5).trans e6).trans e7
    have hm4 := Int.emod_nonneg m (show (6 : Int) ≠ 0 by decide)
    have hm5 := Int.emod_lt_of_pos m (show (0 : Int) < 6 by decide)
    have hin : EvP (tLst (tCons (tTup (tCons (tC (.int 1)) (tCons (tVar 4) tNil))) tNil)) ([some (.ref b), some (.int cell), some (.int k), some (.int m), some (.ref t)] : L2.St) H7 SomeD [0] :=
      ep_lst SomeD.mo (eap_cons SomeD.mo (ex_evU (eu_tup (ea_cons (ev_c (v := .int 1)) (ea_cons (ev_var (v := .ref t) rfl) ea_nil)) (by simp)) fun p H1 e1 h1 => ⟨_, .tup h1 (.cons (.int 1) (.cons (hod.mono (E37.trans e1)) .nil))⟩) eap_nil) (by simp)
    have hv : EvX _ ([some (.ref b), some (.int cell), some (.int k), some (.int m), some (.ref t)] : L2.St) H7 (fun H v => NoDic H v 0) :=
      ex_ixPB (K := K) (F := NoDic) (ys := [0, 0, 0, 0, 0, 0]) (i := m % 6) (y := 0) NoDic.mo (ep_lst NoDic.mo
        (eap_cons NoDic.mo (ex_ev (v := .non) ev_c fun _ _ => ⟨_, .non, rfl⟩)
        (eap_cons NoDic.mo (ex_evL (el_lst ea_nil (by simp)) fun p H1 _ h1 => ⟨_, .lst h1 .nil, rfl⟩)
        (eap_cons NoDic.mo (fun H1 e Q q => hin H1 e _ fun p xs H2 hp e2 h2 hps => by
          cases hps with
          | cons h t =>
            cases t
            obtain ⟨d, hd⟩ := h
            exact q _ H2 e2 ⟨_, .lst h2 (.cons hd .nil), rfl⟩)
        (eap_cons NoDic.mo (ex_ev (v := .str "1") ev_c fun _ _ => ⟨_, .str _ z6, rfl⟩)
        (eap_cons NoDic.mo (ex_ev (v := .int 1) ev_c fun _ _ => ⟨_, .int 1, rfl⟩)
        (eap_cons NoDic.mo (ex_evU (eu_tup (ea_cons (ev_var (i := 4) (v := .ref t) rfl) ea_nil) (by simp)) fun p H1 e1 h1 => ⟨_, .tup h1 (.cons (hod.mono (E37.trans e1)) .nil), rfl⟩) eap_nil)))))) (by simp))
        (S.ev_mod (ev_var (i := 3) rfl) (ev_c (v := .int 6)) (by decide)) hm4 (by
          have h4 : (m % 6).toNat < 6 := by omega
          revert h4
          generalize (m % 6).toNat = i
          intro h4
          match i, h4 with
          | 0, _ => rfl
          | 1, _ => rfl
          | 2, _ => rfl
          | 3, _ => rfl
          | 4, _ => rfl
          | 5, _ => rfl)
    exact hv H7 (Ex.refl H7) _ fun v H8 e8 hd => k1 (by omega) (by omega) v H8 (.inl hd)
  exact skip 4 c4 fun H7 e7 => s_ret (ev_var rfl) fun H8 e8 => k2 (by omega) H8 ((E6.trans e7).trans e8)
end S
end
set_option Elab.async false
set_option linter.all false
set_option maxRecDepth 100000
set_option maxHeartbeats 4000000
section
open PySem L2 Evl S
namespace S
/-! ### _law_refused -/
def sp_l_refused (K : PySem.W.Frag) (C : CA) : Sp := fun vs H Q _ => ∃ v, vs = [v] ∧ BadV H v ∧ ∀ H', Q (.bl true) H'
theorem len_l_refused {K : PySem.W.Frag} {C : CA} {vs : List V} {H : Hp} {Q : VK} {E : XK} (h : sp_l_refused K C vs H Q E) : vs.length = 1 := by
  obtain ⟨v, rfl, _⟩ := h
  rfl
/-- _law_book_here 0, e 1, _law_kinds 2 -/
def t_l_refused (K : PySem.W.Frag) (C : CA) : TS :=
 (tSeq (tTryAs K C.BookError 1 (fun W => (tDrop (tCallS (sp_need_book K C) (WE W) (tCons (tVar 0) tNil)))) (fun a cls d => (tSeq (tAsg (tLst (tCons (tCB (rIsEx K a cls d) (tCons (tVar 1) (tCons (tC (.ref C.BadEntry)) tNil))) (tCons (tCB (rIsEx K a cls d) (tCons (tVar 1) (tCons (tC (.ref C.NoEntry)) tNil))) (tCons (tCB (rIsEx K a cls d) (tCons (tVar 1) (tCons (tC (.ref C.Closed)) tNil))) (tCons (tCB (rIsEx K a cls d) (tCons (tVar 1) (tCons (tC (.ref C.TooMany)) tNil))) tNil))))) (gName 2))
 (tSeq (tAsg (tOp (addA K) (tVar 2) (tLst (tCons (tCB (rIsEx K a cls d) (tCons (tVar 1) (tCons (tC (.ref C.Gone)) tNil))) (tCons (tCB (rIsEx K a cls d) (tCons (tVar 1) (tCons (tC (.ref C.BadText)) tNil))) tNil)))) (gName 2))
 (tRet (tAndV (tCB (rIsEx K a cls d) (tCons (tVar 1) (tCons (tC (.ref C.BadBook)) tNil))) (tAndV (tCB (rIsEx K a cls d) (tCons (tVar 1) (tCons (tC (.ty "ValueError")) tNil))) (tOp (niA K) (tC (.bl true)) (tVar 2)))))))))
 (tRet (tC (.bl false))))

section
variable {K : PySem.W.Frag} {C : CA} {σ : L2.St} {H H' : Hp} {t : TT} {ta tb tc td te tf : TE} {D : Ends} {tA tu tz : TS} {v : V} {d : PyData} {n m : Nat}
theorem ev_isEx {i : Nat} {a E X : Addr} {b : Bool} (hσ : σ[i]? = some (some (.ref a))) (hc : ExcC K E) (hk : PySem.W.kitOne K (.ref E) (.ref X) = some b) : Ev (tCB (rIsEx K a (.ref E) none) (tCons (tVar i) (tCons (tC (.ref X)) tNil))) σ H (.bl b) := fun H1 e Q q => by
  unfold tCB
  exact (ea_cons (ev_var hσ) (ea_cons ev_c ea_nil)) H1 e _ fun H2 e2 => ⟨E, .ref X, .ref X, b, rfl, rfl, hc, rfl, (fun u h => by cases h; rfl), hk, q H2 e2⟩
theorem ev_isExT {i : Nat} {a E : Addr} {T : String} {b : Bool} (hσ : σ[i]? = some (some (.ref a))) (hc : ExcC K E) (hk : PySem.W.kitOne K (.ref E) (.type T) = some b) : Ev (tCB (rIsEx K a (.ref E) none) (tCons (tVar i) (tCons (tC (.ty T)) tNil))) σ H (.bl b) := fun H1 e Q q => by
  unfold tCB
  exact (ea_cons (ev_var hσ) (ea_cons ev_c ea_nil)) H1 e _ fun H2 e2 => ⟨E, .ty T, .type T, b, rfl, rfl, hc, rfl, (fun u h => by cases h; rfl), hk, q H2 e2⟩
theorem inV_bools (bs : List Bool) : inV (.bl true) (bs.map V.bl) = bs.any id := by
  unfold inV
  induction bs with
  | nil => rfl
  | cons b bs ih =>
    rw [List.map_cons, List.any_cons, ih, List.any_cons]
    cases b <;> rfl
theorem flat_bools (bs : List Bool) : (bs.map V.bl).all flatV = true := by
  induction bs with
  | nil => rfl
  | cons b bs ih => rw [List.map_cons, List.all_cons, ih]; rfl
theorem q_mid2 (M : L2.St → Hp → Prop) (h : ∀ nx : L2.St → Hp → Prop, (∀ σ' H', M σ' H' → nx σ' H') → tA { D with nx := nx } σ H) (r : ∀ σ' H', M σ' H' → tz D σ' H') : tSeq tA tz D σ H := h _ r
theorem q_asgRaw2 {i : Nat} (h : te σ H fun v H1 => tz D (σ.set i (some v)) H1) : tSeq (tAsg te (gName i)) tz D σ H := h
theorem s_putU2 {p : Addr} {kvs : List (Key × V)} {k : Key} {xs : List V} (h : EvU te σ H xs) (ha : Ev ta σ H (.ref p)) (hb : Ev tb σ H (kV k)) (hd : H p = some (.dK kvs)) (hz : kvs.length < 100000) (q : ∀ t H1, Ex H H1 → H1 t = some (.tup xs) → D.nx σ (upd H1 p (.dK (putK kvs k (.ref t))))) : tAsg te (gSub ta tb setA) D σ H :=
  h H (Ex.refl H) _ fun t H1 ht e1 h1 => ha H1 e1 _ fun H2 e2 => hb H2 (e1.trans e2) _ fun H3 e3 => .inr ⟨p, _, rfl, DPut.k (((e1.trans e2).trans e3) p _ hd) (sz_lt hz), q t H3 ((e1.trans e2).trans e3) ((e2.trans e3) t _ h1)⟩
end
theorem pure_l_refused {K : PySem.W.Frag} {C : CA} {vs : List V} {H : Hp} {Q : VK} {E : XK} (ef : ExF K C C.BadBook 1) (h : sp_l_refused K C vs H Q E) : t_l_refused K C { nx := fun _ H' => Q .non H', rt := Q } (startN 3 vs) H := by
  obtain ⟨v, rfl, hv, kk⟩ := h
  show tDrop _ _ (startN 3 [v]) H
  unfold tDrop tCallS
  refine (ea_cons (ev_var rfl) ea_nil) H (Ex.refl H) _ fun H1 e1 => (hv.mono e1).need fun H2 => ?_
  refine ⟨true, ef.bk, fun _ a ha => ?_, fun z => by cases z⟩
  show tSeq _ _ _ ([some v, some (.ref a), none] : L2.St) H2
  refine q_asgL (xs := [false, false, false, false].map V.bl) (el_lst (ea_cons (ev_isEx rfl ef.c ef.k0) (ea_cons (ev_isEx rfl ef.c ef.k2) (ea_cons (ev_isEx rfl ef.c ef.k3) (ea_cons (ev_isEx rfl ef.c ef.k4) ea_nil)))) (by simp)) fun p H3 hp e3 h3 => ?_
  refine q_asgL (xs := [false, false, false, false].map V.bl ++ [false, false].map V.bl) (el_catV (ev_var rfl) h3 (el_lst (ea_cons (ev_isEx rfl ef.c ef.k5) (ea_cons (ev_isEx rfl ef.c ef.k6) ea_nil)) (by simp)) (by simp)) fun q H4 hq e4 h4 => ?_
  rw [← List.map_append] at h4
  have hn : Ev (tOp (niA K) (tC (.bl true)) (tVar 2)) ([some v, some (.ref a), some (.ref q)] : L2.St) H4 (.bl (!inV (.bl true) (([false, false, false, false] ++ [false, false]).map V.bl))) := ev_niL ev_c (ev_var rfl) (sq_of h4) rfl (flat_bools _)
  rw [inV_bools] at hn
  exact s_ret (v := .bl true) (ev_andV (a := true) (b := true) (ev_isEx rfl ef.c ef.k1) fun _ => ev_andV (a := true) (b := true) (ev_isExT rfl ef.c ef.ve) fun _ => hn) fun H5 e5 => kk H5
/-! ### the law -/
theorem name_a2 : NameS ("a" : Str) := ⟨by decide +kernel, by decide +kernel, fun c hc => by
  have := List.all_eq_true.mp (show ("a" : Str).cps.toList.all (fun c => decide (97 ≤ c) && decide (c ≤ 122)) = true by decide +kernel) c hc
  simpa using this⟩
/-- b is a dict that is the book B -/
structure DB (H : Hp) (b : Addr) (kvs : List (Key × V)) (B : Bk) : Prop where
  at_ : H b = some (.dK kvs)
  rel : BkRel H kvs B
  nd : (B.map (·.1)).Nodup
  good : GoodBk B
  few : B.length ≤ 50
  low : ∀ q ∈ B, q.1 ≤ 400
section
variable {H H' : Hp} {b p : Addr} {kvs : List (Key × V)} {B : Bk}
theorem DB.ex (h : DB H b kvs B) (e : Ex H H') : DB H' b kvs B := ⟨e b _ h.at_, h.rel.mono e, h.nd, h.good, h.few, h.low⟩
theorem DB.upd (h : DB H b kvs B) (u : HO) {kv : List (Key × V)} (hp : H p = some (.dK kv)) (hne : b ≠ p) : DB (upd H p u) b kvs B := ⟨by rw [upd_ne hne]; exact h.at_, h.rel.exB (ExB.frz _) hp, h.nd, h.good, h.few, h.low⟩
theorem DB.copy (h : DB H b kvs B) (e : Ex H H') (hp : H' p = some (.dK kvs)) : DB H' p kvs B := ⟨hp, h.rel.mono e, h.nd, h.good, h.few, h.low⟩
theorem DB.book (h : DB H b kvs B) : BookAt H b B := ⟨⟨kvs, .inl h.at_, h.rel⟩, h.nd, by have := h.few; omega⟩
theorem DB.oks (h : DB H b kvs B) : ∀ q ∈ B, q.2.ok q.1 := fun q hq => (h.good q hq).2
theorem DB.kn (h : DB H b kvs B) : (kvs.map (·.1)).Nodup := by
  rw [h.rel.keys]
  exact List.pairwise_map.mpr (h.nd.imp fun hne z => hne (Sum.inl.inj z))
theorem BkRel.none_of {k : Int} (h : BkRel H kvs B) (hv : valV kvs (Sum.inl k : Key) = none) : ∀ q ∈ B, q.1 ≠ k := fun q hq z => by
  rcases h.val k with ⟨_, g⟩ | ⟨t, e, g, _⟩
  · obtain ⟨e, he⟩ := Bk.at_isSome (B := B) (k := k) (List.mem_map.mpr ⟨q, hq, z⟩)
    rw [g] at he
    cases he
  · rw [hv] at g
    cases g
theorem BkRel.none_at {k : Int} (h : BkRel H kvs B) (hn : ∀ q ∈ B, q.1 ≠ k) : valV kvs (Sum.inl k : Key) = none := by
  rcases h.val k with ⟨g, _⟩ | ⟨t, e, _, g, _⟩
  · exact g
  · exact absurd rfl (hn _ (Bk.at_mem g))
theorem BkRel.drop2 (k : Int) : ∀ {kvs : List (Key × V)} {B : Bk}, BkRel H kvs B → BkRel H (dropK kvs (Sum.inl k : Key)) (B.filter fun q => decide (q.1 ≠ k))
  | _, _, .nil => .nil
  | p :: kvs, q :: B, .cons h t => by
    have ih := BkRel.drop2 k t
    unfold dropK at ih ⊢
    rw [List.filter_cons, List.filter_cons]
    have e : decide (p.1 ≠ (Sum.inl k : Key)) = decide (q.1 ≠ k) := by
      rw [h.1]
      by_cases z : q.1 = k
      · rw [z]; simp
      · have : ¬ (Sum.inl q.1 : Key) = Sum.inl k := fun y => z (Sum.inl.inj y)
        simp [z, this]
    rw [e]
    split
    · exact .cons h ih
    · exact ih
/-- need_book of a good book -/
theorem DB.need {K : PySem.W.Frag} {C : CA} {Q : VK} {E : XK} (h : DB H b kvs B) (h30 : kvs.length ≤ 30) (k : ∀ p H', H p = none → Ex H H' → DB H' p kvs B → Q (.ref p) H') : sp_need_book K C [.ref b] H Q E := by
  have hg := h.rel.gps h.good
  refine ⟨_, rfl, .inr (.inl ⟨b, kvs, _, rfl, h.at_, h.rel.kd h.oks, h.kn, fun z => ?_, fun _ _ p H' hp e hp' => k p H' hp e (h.copy e hp')⟩)⟩
  rcases z with z | ⟨i, p, d, a1, a2, a3⟩
  · omega
  · exact absurd (hg i p d a1 a2) a3
end
end S
end
set_option Elab.async false
set_option linter.all false
set_option maxRecDepth 100000
set_option maxHeartbeats 4000000
section
open PySem L2 Evl S
namespace S
def sp_law_k02 (K : PySem.W.Frag) (C : CA) : Sp := fun vs H Q _ => ∃ (a : Addr) (ns : List Int), vs = [.ref a] ∧ SqL K H a (ns.map V.int) ∧ ns.length ≤ 63 ∧ ∀ H', Q (.bl true) H'
theorem len_law_k02 {K : PySem.W.Frag} {C : CA} {vs : List V} {H : Hp} {Q : VK} {E : XK} (h : sp_law_k02 K C vs H Q E) : vs.length = 1 := by
  obtain ⟨a, ns, rfl, _⟩ := h
  rfl
/-- _law_script 0, _law_book_here 1, _law_k 2, _law_cell 3, _law_kept 4, _law_found 5, _law_again 6 -/
def t_law_k02 (K : PySem.W.Frag) (C : CA) : TS :=
 (tSeq (tAsg (tCall (sp_l_book K C) [] E0 (tCons (tVar 0) (tCons (tC (.int 12)) tNil))) (gName 1))
 (tSeq (tIfS (tTest (tOp (eqA K) (tOp (modI) (tOp (divI) (tCall (sp_l_of K C) [] E0 (tCons (tVar 0) (tCons (tC (.int 0)) tNil))) (tC (.int 12))) (tC (.int 9))) (tC (.int 1)))) (tFor (iRng1 (tCons (tOp (subI) (tOp (addA K) (tC (.int 28)) (tOp (modI) (tCall (sp_l_of K C) [] E0 (tCons (tVar 0) (tCons (tC (.int 2)) tNil))) (tC (.int 5)))) (tCB (lenA K) (tCons (tVar 1) tNil))) tNil)) (gName 2)
  (tAsg (tTup (tCons (tC (.str "clear")) (tCons (tC (.str "a")) (tCons (tVar 2) (tCons (tOp (mulI) (tC (.int 2)) (tVar 2)) tNil))))) (gSub (tVar 1) (tOp (addA K) (tC (.int 200)) (tOp (mulI) (tC (.int 3)) (tVar 2))) setA))) tNext)
 (tSeq (tAsg (tCall (sp_l_of K C) [] E0 (tCons (tVar 0) (tCons (tC (.int 3)) tNil))) (gName 3))
 (tSeq (tIfS (tAnd (tTest (tOp (eqA K) (tOp (modI) (tVar 3) (tC (.int 8))) (tC (.int 2)))) (tTest (tOp (eqA K) (tOp (modI) (tOp (divI) (tVar 3) (tC (.int 8))) (tC (.int 7))) (tC (.int 2))))) (tDrop (tDPop2 (tVar 1) (tC (.int 1)) (tC .non))) tNext)
 (tSeq (tAsg (tCall (sp_l_spoilt K C) [] E0 (tCons (tVar 1) (tCons (tVar 3) tNil))) (gName 1))
 (tSeq (tIfS (tOr (tTest (tChain (ltI) (ltI) (tC (.int 0)) (tOp (modI) (tVar 3) (tC (.int 8))) (tC (.int 5)))) (tAnd (tB (tCB (rIsi K) (tCons (tVar 1) (tCons (tC (.ty "dict")) tNil)))) (tTest (tOp (gtI) (tCB (lenA K) (tCons (tVar 1) tNil)) (tC (.int 30)))))) (tRet (tCall (sp_l_refused K C) [] E0 (tCons (tVar 1) tNil))) tNext)
 (tSeq (tAsg (tCB (dictC K) (tCons (tVar 1) tNil)) (gName 4))
 (tSeq (tAsg (tCall (sp_need_book K C) [] E0 (tCons (tVar 1) tNil)) (gName 5))
 (tSeq (tIfS (tOr (tNot (tB (tCB (rIsi K) (tCons (tVar 5) (tCons (tC (.ty "dict")) tNil))))) (tOr (tTest (tOp (neA K) (tVar 5) (tVar 4))) (tTest (tOp (neA K) (tVar 1) (tVar 4))))) (tRet (tC (.bl false))) tNext)
 (tSeq (tAsg (tTup (tCons (tC (.str "undo")) (tCons (tC (.int 1)) tNil))) (gSub (tVar 5) (tC (.int 999)) setA))
 (tSeq (tAsg (tCall (sp_need_book K C) [] E0 (tCons (tVar 1) tNil)) (gName 6))
 (tSeq (tAsg (tTup (tCons (tC (.str "undo")) (tCons (tC (.int 1)) tNil))) (gSub (tVar 1) (tC (.int 998)) setA))
 (tRet (tAndV (tOp (eqA K) (tVar 6) (tVar 4)) (tOp (niA K) (tC (.int 999)) (tVar 1))))))))))))))))
theorem q_putU2 {σ : L2.St} {H : Hp} {te ta tb : TE} {D : Ends} {tz : TS} {p : Addr} {kvs : List (Key × V)} {k : Key} {xs : List V} (h : EvU te σ H xs) (ha : Ev ta σ H (.ref p)) (hb : Ev tb σ H (kV k)) (hd : H p = some (.dK kvs)) (hz : kvs.length < 100000) (q : ∀ t H1, Ex H H1 → H1 t = some (.tup xs) → tz D σ (upd H1 p (.dK (putK kvs k (.ref t))))) : tSeq (tAsg te (gSub ta tb setA)) tz D σ H :=
  s_putU2 (D := { D with nx := tz D }) h ha hb hd hz q
theorem pure_law_k02 {K : PySem.W.Frag} {C : CA} {vs : List V} {H : Hp} {Q : VK} {E : XK} (h : sp_law_k02 K C vs H Q E) : t_law_k02 K C { nx := fun _ H' => Q .non H', rt := Q } (startN 7 vs) H := by
  obtain ⟨a, ns, rfl, hS, hl63, kk⟩ := h
  have kdd : kitB "dict" "dict" = some true := by decide +kernel
  have hl : ns.length ≤ 100 := by omega
  refine q_asgRaw2 (at_book (many := 12) (ev_var rfl) ev_c hS hl (by decide) fun b B H1 nb hBl hg h40 => ?_)
  show tSeq _ _ _ ([some (.ref a), some (.ref b), none, none, none, none, none] : L2.St) H1
  have hbn : H b = none := nb.new
  refine q_mid2 (fun σ' H' => ∃ o2 kvs B', σ' = [some (.ref a), some (.ref b), o2, none, none, none, none] ∧ Ex H H' ∧ DB H' b kvs B') (fun nx hnx => ?_) ?_
  · have hm9 := Int.emod_nonneg (ns.getD 2 0) (show (5 : Int) ≠ 0 by decide)
    have hm4 := Int.emod_lt_of_pos (ns.getD 2 0) (show (0 : Int) < 5 by decide)
    obtain ⟨kvs, hk, hr⟩ := nb.dk
    refine s_when (et_test (S.ev_eqI (S.ev_mod (S.ev_div (ev_of (k := 0) (ev_var rfl) ev_c (ex_l nb.ex hS) hl) ev_c ⟨by decide, by decide⟩) ev_c (by decide)) ev_c)) (fun _ H2 e2 => ?_) (fun _ H2 e2 => ?_)
    · have E2 := nb.ex.trans e2
      have hln := ev_lenD (K := K) (ta := tVar 1) (H := H2) (σ := ([some (.ref a), some (.ref b), none, none, none, none, none] : L2.St)) (ev_var rfl) (.inl (e2 b _ hk))
      rw [hr.len] at hln
      refine s_forR1 (n := 28 + ns.getD 2 0 % 5 - (B.length : Int)) (ea_cons (S.ev_sub (S.ev_add ev_c (S.ev_mod (ev_of (k := 2) (ev_var rfl) ev_c (ex_l E2 hS) hl) ev_c (by decide))) hln) ea_nil) ⟨by omega, by omega⟩
        (fun i σ' H' => ∃ o2 kvs B', σ' = [some (.ref a), some (.ref b), o2, none, none, none, none] ∧ Ex H H' ∧ H' b = some (.dK kvs) ∧ BkRel H' kvs B' ∧ (B'.map (·.1)).Nodup ∧ GoodBk B' ∧ (∀ q ∈ B', q.1 ≤ 400) ∧ B'.length ≤ B.length + i)
        (fun H3 e3 => ⟨none, kvs, B, rfl, E2.trans e3, (e2.trans e3) b _ hk, hr.mono (e2.trans e3), nb.nd, hg, fun q hq => by have := h40 q hq; omega, by omega⟩) ?_ ?_
      · rintro i σ' H' hi ⟨o2, kvs', B', rfl, E', hk', hr', hn', hg', h200, hln'⟩
        have hkl := hr'.len
        refine s_putU2 (k := (Sum.inl (200 + 3 * (i : Int)) : Key)) (eu_tup (ea_cons ev_c (ea_cons ev_c (ea_cons (ev_var rfl) (ea_cons (S.ev_mull ev_c (ev_var rfl) ⟨by decide, by decide⟩) ea_nil)))) (by simp)) (ev_var rfl) (S.ev_add ev_c (S.ev_mull ev_c (ev_var rfl) ⟨by decide, by decide⟩)) hk' (by omega) fun t H3 e3 h3 => ?_
        have ht3 : EntAt H3 t (.clear "a" (i : Int) (2 * (i : Int))) := h3
        have hb3 := e3 b _ hk'
        have hrel := (hr'.mono e3).put (k := 200 + 3 * (i : Int)) ht3
        have exB : ExB b H3 (upd H3 b (.dK (putK kvs' (Sum.inl (200 + 3 * (i : Int)) : Key) (.ref t)))) := ExB.frz _
        have hrel' := hrel.exB exB hb3
        have hpl := Bk.put_len B' (200 + 3 * (i : Int)) (.clear "a" (i : Int) (2 * (i : Int)))
        refine ⟨_, _, B'.put (200 + 3 * (i : Int)) (.clear "a" (i : Int) (2 * (i : Int))), rfl, Ex.mut (E'.trans e3) hbn, upd_same, hrel', Bk.put_nd _ _ hn', Bk.put_good hg' (by omega) ⟨name_a2, by omega, by omega, by omega⟩, fun q hq => ?_, by omega⟩
        have hm : q.1 ∈ (B'.put (200 + 3 * (i : Int)) (.clear "a" (i : Int) (2 * (i : Int)))).map (·.1) := List.mem_map_of_mem hq
        rw [Bk.put_keys] at hm
        have old : q.1 ∈ B'.map (·.1) → q.1 ≤ 400 := fun z => by
          obtain ⟨q', hq', e'⟩ := List.mem_map.mp z
          rw [← e']; exact h200 q' hq'
        split at hm
        · exact old hm
        · rcases List.mem_append.mp hm with hm | hm
          · exact old hm
          · rw [List.mem_singleton.mp hm]; omega
      · rintro σ' H' ⟨o2, kvs', B', rfl, E', hk', hr', hn', hg', h200, hln'⟩
        exact hnx _ _ ⟨o2, kvs', B', rfl, E', hk', hr', hn', hg', by omega, h200⟩
    · exact hnx _ _ ⟨none, kvs, B, rfl, nb.ex.trans e2, e2 b _ hk, hr.mono e2, nb.nd, hg, by omega, fun q hq => by have := h40 q hq; omega⟩
  clear nb hg h40 hBl
  rintro σ' H2 ⟨o2, kvs2, B2, rfl, E2, db2⟩
  refine q_asg (ev_of (k := 3) (ev_var rfl) ev_c (ex_l E2 hS) hl) fun H3 e3 => ?_
  show tSeq _ _ _ ([some (.ref a), some (.ref b), o2, some (.int (ns.getD 3 0)), none, none, none] : L2.St) H3
  generalize ns.getD 3 0 = cell
  have db3 := db2.ex e3
  clear db2
  -- the number 1 taken out
  refine q_mid2 (fun σ' H' => ∃ kvs B', σ' = [some (.ref a), some (.ref b), o2, some (.int cell), none, none, none] ∧ DB H' b kvs B' ∧ (cell % 8 = 2 → cell / 8 % 7 = 2 → ∀ q ∈ B', q.1 ≠ 1)) (fun nx hnx => ?_) ?_
  · refine s_when (et_and (et_test (S.ev_eqI (S.ev_mod (ev_var rfl) ev_c (by decide)) ev_c)) fun _ => et_test (S.ev_eqI (S.ev_mod (S.ev_div (ev_var rfl) ev_c ⟨by decide, by decide⟩) ev_c (by decide)) ev_c)) (fun _ H4 e4 => ?_) (fun c H4 e4 => ?_)
    · have db4 := db3.ex e4
      have vb : Ev (tVar 1) ([some (.ref a), some (.ref b), o2, some (.int cell), none, none, none] : L2.St) H4 (.ref b) := ev_var rfl
      have v1 : Ev (tC (.int 1)) ([some (.ref a), some (.ref b), o2, some (.int cell), none, none, none] : L2.St) H4 (.int 1) := ev_c
      have vn : Ev (tC .non) ([some (.ref a), some (.ref b), o2, some (.int cell), none, none, none] : L2.St) H4 .non := ev_c
      show tDPop2 _ _ _ _ H4 _
      unfold tDPop2
      refine vb H4 (Ex.refl H4) _ fun H5 e5 => ⟨b, rfl, .inl ⟨_, .inl (e5 b _ db4.at_)⟩, v1 H5 e5 _ fun H6 e6 => vn H6 (e5.trans e6) _ fun H7 e7 => ?_⟩
      have db7 := db4.ex ((e5.trans e6).trans e7)
      refine ⟨kvs2, (Sum.inl 1 : Key), db7.at_, rfl, fun v hv => hnx _ _ ⟨dropK kvs2 (Sum.inl 1 : Key), B2.filter fun q => decide (q.1 ≠ 1), rfl, ⟨upd_same, ?_, ?_, fun q hq => db7.good q (List.mem_filter.mp hq).1, ?_, fun q hq => db7.low q (List.mem_filter.mp hq).1⟩, fun _ _ q hq => of_decide_eq_true (List.mem_filter.mp hq).2⟩, fun hv => hnx _ _ ⟨kvs2, B2, rfl, db7, fun _ _ => db7.rel.none_of hv⟩⟩
      · exact (db7.rel.drop2 1).exB (ExB.frz _) db7.at_
      · exact List.Sublist.nodup (List.Sublist.map _ List.filter_sublist) db7.nd
      · have := List.length_filter_le (fun q : Int × Ent => decide (q.1 ≠ 1)) B2
        have := db7.few
        omega
    · refine hnx _ _ ⟨kvs2, B2, rfl, db3.ex e4, fun c1 c2 => ?_⟩
      rw [decide_eq_true c1, decide_eq_true c2] at c
      cases c
  clear db3 hbn
  rintro σ' H4 ⟨kvs, B', rfl, db4, h1⟩
  refine q_asgRaw2 ?_
  have av : EvA (tCons (tVar 1) (tCons (tVar 3) tNil)) ([some (.ref a), some (.ref b), o2, some (.int cell), none, none, none] : L2.St) H4 [.ref b, .int cell] := ea_cons (ev_var rfl) (ea_cons (ev_var rfl) ea_nil)
  unfold tCall
  refine av H4 (Ex.refl H4) _ fun H5 e5 => ?_
  have db5 := db4.ex e5
  have low : ∀ q ∈ B', q.1 ≤ 400 := db5.low
  have ret : ∀ {v : V} {H6 : Hp}, BadV H6 v → ∀ H7, Ex H6 H7 → tRet (tCall (sp_l_refused K C) [] E0 (tCons (tVar 1) tNil)) { nx := fun _ H' => Q .non H', rt := Q } ([some (.ref a), some v, o2, some (.int cell), none, none, none] : L2.St) H7 := fun {v H6} bv H7 e7 => by
    have av : EvA (tCons (tVar 1) tNil) ([some (.ref a), some v, o2, some (.int cell), none, none, none] : L2.St) H7 [v] := ea_cons (ev_var rfl) ea_nil
    unfold tRet tCall
    exact av H7 (Ex.refl H7) _ fun H8 e8 => ⟨v, rfl, bv.mono (e7.trans e8), fun H' => kk H'⟩
  refine ⟨b, kvs, B', cell, rfl, db5.at_, db5.rel, db5.nd, db5.good, fun q hq => by have := low q hq; omega, by have := db5.few; omega, h1, fun c0 c5 v H6 bv => ?_, fun c H6 e6 => ?_⟩
  · -- a spoilt one
    show tSeq _ _ _ ([some (.ref a), some v, o2, some (.int cell), none, none, none] : L2.St) H6
    have hc := et_test (ev_ltlt (σ := ([some (.ref a), some v, o2, some (.int cell), none, none, none] : L2.St)) (H := H6) (ev_c (v := .int 0)) (S.ev_mod (ev_var (i := 3) (v := .int cell) rfl) (ev_c (v := .int 8)) (by decide)) (ev_c (v := .int 5)))
    rw [decide_eq_true c0, decide_eq_true c5] at hc
    exact q_when (b := true) (et_or (a := true) (b := true) hc fun z => by cases z) (fun _ H7 e7 => ret bv H7 e7) fun z => by cases z
  · -- a book
    have db6 := db5.ex e6
    clear db4 db5 av
    show tSeq _ _ _ ([some (.ref a), some (.ref b), o2, some (.int cell), none, none, none] : L2.St) H6
    have hc := et_test (ev_ltlt (σ := ([some (.ref a), some (.ref b), o2, some (.int cell), none, none, none] : L2.St)) (H := H6) (ev_c (v := .int 0)) (S.ev_mod (ev_var (i := 3) (v := .int cell) rfl) (ev_c (v := .int 8)) (by decide)) (ev_c (v := .int 5)))
    have hcf : (decide (0 < cell % 8) && decide (cell % 8 < 5)) = false := by
      cases z : (decide (0 < cell % 8) && decide (cell % 8 < 5)) with
      | false => rfl
      | true =>
        rw [Bool.and_eq_true, decide_eq_true_eq, decide_eq_true_eq] at z
        exact absurd z c
    rw [hcf] at hc
    have hln := ev_lenD (K := K) (ta := tVar 1) (H := H6) (σ := ([some (.ref a), some (.ref b), o2, some (.int cell), none, none, none] : L2.St)) (ev_var rfl) (.inl db6.at_)
    refine q_when (et_or (a := false) hc fun _ => et_and (a := true) (et_B (ev_isi (ev_var rfl) (fun H1 e1 => .base (.dK (e1 b _ db6.at_))) kdd)) fun _ => et_test (ev_gt hln (ev_c (v := .int 30)))) (fun c H7 e7 => ?_) (fun c H7 e7 => ?_)
    · rw [Bool.false_or, Bool.true_and, decide_eq_true_eq] at c
      exact ret (.inr (.inl ⟨b, kvs, _, rfl, db6.at_, db6.rel.kd db6.oks, db6.kn, .inl (by omega)⟩)) H7 e7
    rw [Bool.false_or, Bool.true_and, decide_eq_false_iff_not] at c
    have h30 : kvs.length ≤ 30 := by omega
    have db7 := db6.ex e7
    refine q_asgRaw2 (ed_copy (ev_var rfl) (.inl db7.at_) H7 (Ex.refl H7) _ fun kp H8 hkp e8 h8 => ?_)
    show tSeq _ _ _ ([some (.ref a), some (.ref b), o2, some (.int cell), some (.ref kp), none, none] : L2.St) H8
    have dk8 := db7.copy e8 h8
    have db8 := db7.ex e8
    have nkb : kp ≠ b := fun z => by have := db7.at_; rw [← z, hkp] at this; cases this
    clear db6 db7
    refine q_asgRaw2 ?_
    have av : EvA (tCons (tVar 1) tNil) ([some (.ref a), some (.ref b), o2, some (.int cell), some (.ref kp), none, none] : L2.St) H8 [.ref b] := ea_cons (ev_var rfl) ea_nil
    refine av H8 (Ex.refl H8) _ fun H9 e9 => (db8.ex e9).need h30 fun p H10 hp e10 dp => ?_
    show tSeq _ _ _ ([some (.ref a), some (.ref b), o2, some (.int cell), some (.ref kp), some (.ref p), none] : L2.St) H10
    have npb : b ≠ p := fun z => by have := (db8.ex e9).at_; rw [z, hp] at this; cases this
    have npk : kp ≠ p := fun z => by have := (dk8.ex e9).at_; rw [z, hp] at this; cases this
    have db10 := db8.ex (e9.trans e10)
    have dk10 := dk8.ex (e9.trans e10)
    clear db8 dk8 av
    have ne1 := et_test (ev_neBk (K := K) (ev_var (i := 5) (v := .ref p) (H := H10) (σ := ([some (.ref a), some (.ref b), o2, some (.int cell), some (.ref kp), some (.ref p), none] : L2.St)) rfl) (ev_var (i := 4) (v := .ref kp) rfl) dp.book dk10.book dp.oks dp.oks)
    have ne2 := et_test (ev_neBk (K := K) (ev_var (i := 1) (v := .ref b) (H := H10) (σ := ([some (.ref a), some (.ref b), o2, some (.int cell), some (.ref kp), some (.ref p), none] : L2.St)) rfl) (ev_var (i := 4) (v := .ref kp) rfl) db10.book dk10.book dp.oks dp.oks)
    rw [dkEqv_self dp.nd dp.oks] at ne1 ne2
    refine q_when (b := false) (et_or (a := false) (b := false) (et_not (a := true) (et_B (ev_isi (ev_var rfl) (fun H1 e1 => .base (.dK (e1 p _ dp.at_))) kdd))) fun _ => et_or (a := false) (b := false) ne1 fun _ => ne2) (fun z => by cases z) fun _ H11 e11 => ?_
    have db11 := db10.ex e11
    have dk11 := dk10.ex e11
    have dp11 := dp.ex e11
    clear db10 dk10 dp ne1 ne2
    refine q_putU2 (k := (Sum.inl 999 : Key)) (eu_tup (ea_cons ev_c (ea_cons ev_c ea_nil)) (by simp)) (ev_var (v := .ref p) rfl) ev_c dp11.at_ (by omega) fun t H12 e12 h12 => ?_
    have db13 := (db11.ex e12).upd (.dK (putK kvs (Sum.inl 999 : Key) (.ref t))) (dp11.ex e12).at_ npb
    have dk13 := (dk11.ex e12).upd (.dK (putK kvs (Sum.inl 999 : Key) (.ref t))) (dp11.ex e12).at_ npk
    generalize upd H12 p (.dK (putK kvs (Sum.inl 999 : Key) (.ref t))) = H13 at db13 dk13 ⊢
    clear db11 dk11 dp11
    refine q_asgRaw2 ?_
    have av : EvA (tCons (tVar 1) tNil) ([some (.ref a), some (.ref b), o2, some (.int cell), some (.ref kp), some (.ref p), none] : L2.St) H13 [.ref b] := ea_cons (ev_var rfl) ea_nil
    refine av H13 (Ex.refl H13) _ fun H14 e14 => (db13.ex e14).need h30 fun r H15 hr e15 dr => ?_
    show tSeq _ _ _ ([some (.ref a), some (.ref b), o2, some (.int cell), some (.ref kp), some (.ref p), some (.ref r)] : L2.St) H15
    have nrb : r ≠ b := fun z => by have := (db13.ex e14).at_; rw [← z, hr] at this; cases this
    have db15 := db13.ex (e14.trans e15)
    have dk15 := dk13.ex (e14.trans e15)
    clear db13 dk13 av
    refine q_putU2 (k := (Sum.inl 998 : Key)) (eu_tup (ea_cons ev_c (ea_cons ev_c ea_nil)) (by simp)) (ev_var (v := .ref b) rfl) ev_c db15.at_ (by omega) fun t2 H16 e16 h16 => ?_
    have dk17 := (dk15.ex e16).upd (.dK (putK kvs (Sum.inl 998 : Key) (.ref t2))) (db15.ex e16).at_ nkb
    have dr17 := (dr.ex e16).upd (.dK (putK kvs (Sum.inl 998 : Key) (.ref t2))) (db15.ex e16).at_ nrb
    have hb17 : (upd H16 b (.dK (putK kvs (Sum.inl 998 : Key) (.ref t2)))) b = some (.dK (putK kvs (Sum.inl 998 : Key) (.ref t2))) := upd_same
    generalize upd H16 b (.dK (putK kvs (Sum.inl 998 : Key) (.ref t2))) = H17 at dk17 dr17 hb17 ⊢
    have heq := ev_eqBk (K := K) (ev_var (i := 6) (v := .ref r) (H := H17) (σ := ([some (.ref a), some (.ref b), o2, some (.int cell), some (.ref kp), some (.ref p), some (.ref r)] : L2.St)) rfl) (ev_var (i := 4) (v := .ref kp) rfl) dr17.book dk17.book dr17.oks dr17.oks
    rw [dkEqv_self dr17.nd dr17.oks] at heq
    have hni := ev_niD (K := K) (k := (Sum.inl 999 : Key)) (H := H17) (σ := ([some (.ref a), some (.ref b), o2, some (.int cell), some (.ref kp), some (.ref p), some (.ref r)] : L2.St)) (ta := tC (.int 999)) (tb := tVar 1) ev_c (ev_var rfl) (.inl hb17)
    have hno : valV (putK kvs (Sum.inl 998 : Key) (.ref t2)) (Sum.inl 999 : Key) = none := by
      rw [valV_put, if_neg (by decide)]
      exact db15.rel.none_at fun q hq z => by have := low q hq; omega
    rw [hno] at hni
    exact s_ret (v := .bl true) (ev_andV (a := true) (b := true) heq fun _ => hni) fun H18 _ => kk H18
end S
end
namespace R
open PySem L2 S
def top (i : Nat) : Stmt := PySem.Challenge.pw_saidthen_k02_books.main.body.getD i (.Pass ⟨0, 0, 0, 0⟩)
abbrev s_l_names : Stmt := top 25
abbrev s_l_of : Stmt := top 24
abbrev s_l_entry : Stmt := top 26
abbrev s_l_base : Stmt := top 27
abbrev s_l_book : Stmt := top 28
abbrev s_l_spoilt : Stmt := top 30
abbrev s_is_number : Stmt := top 19
abbrev s_is_name : Stmt := top 16
abbrev s_is_among : Stmt := top 15
abbrev s_is_day : Stmt := top 17
abbrev s_is_said : Stmt := top 20
abbrev s_is_worth : Stmt := top 18
abbrev s_is_entry : Stmt := top 21
abbrev s_need_book : Stmt := top 22
abbrev s_l_refused : Stmt := top 29
abbrev s_law : Stmt := top 31
structure Ad where
  f_l_names : Addr
  f_l_of : Addr
  f_l_entry : Addr
  f_l_base : Addr
  f_l_book : Addr
  f_l_spoilt : Addr
  f_is_number : Addr
  f_is_name : Addr
  f_is_among : Addr
  f_is_day : Addr
  f_is_said : Addr
  f_is_worth : Addr
  f_is_entry : Addr
  f_need_book : Addr
  f_l_refused : Addr
  f_law : Addr
  t_LETTERS : Tok
  t_MOST : Tok
  t_MOST_DAY : Tok
  t_MOST_LETTERS : Tok
  t_MOST_WORTH : Tok
  C : CA
structure Fd where
  d_l_names : FuncData
  d_l_of : FuncData
  d_l_entry : FuncData
  d_l_base : FuncData
  d_l_book : FuncData
  d_l_spoilt : FuncData
  d_is_number : FuncData
  d_is_name : FuncData
  d_is_among : FuncData
  d_is_day : FuncData
  d_is_said : FuncData
  d_is_worth : FuncData
  d_is_entry : FuncData
  d_need_book : FuncData
  d_l_refused : FuncData
  d_law : FuncData
structure Txt (K : PySem.W.Frag) (mg : Str → Option Value) (a : Ad) (d : Fd) : Prop where
  F_l_names : Fun K "_law_names" "_law_names" s_l_names a.f_l_names d.d_l_names
  g_l_names : mg "_law_names" = some (.ref a.f_l_names)
  b_l_names : Binds K d.d_l_names ["_law_cell", "_law_many"] []
  F_l_of : Fun K "_law_of" "_law_of" s_l_of a.f_l_of d.d_l_of
  g_l_of : mg "_law_of" = some (.ref a.f_l_of)
  b_l_of : Binds K d.d_l_of ["_law_script", "_law_k"] []
  F_l_entry : Fun K "_law_entry" "_law_entry" s_l_entry a.f_l_entry d.d_l_entry
  g_l_entry : mg "_law_entry" = some (.ref a.f_l_entry)
  b_l_entry : Binds K d.d_l_entry ["_law_names_here", "_law_base_here", "_law_n", "_law_number"] []
  F_l_base : Fun K "_law_base" "_law_base" s_l_base a.f_l_base d.d_l_base
  g_l_base : mg "_law_base" = some (.ref a.f_l_base)
  b_l_base : Binds K d.d_l_base ["_law_script"] []
  F_l_book : Fun K "_law_book" "_law_book" s_l_book a.f_l_book d.d_l_book
  g_l_book : mg "_law_book" = some (.ref a.f_l_book)
  b_l_book : Binds K d.d_l_book ["_law_script", "_law_many"] []
  F_l_spoilt : Fun K "_law_spoilt" "_law_spoilt" s_l_spoilt a.f_l_spoilt d.d_l_spoilt
  g_l_spoilt : mg "_law_spoilt" = some (.ref a.f_l_spoilt)
  b_l_spoilt : Binds K d.d_l_spoilt ["_law_book_here", "_law_cell"] []
  F_is_number : Fun K "is_number" "is_number" s_is_number a.f_is_number d.d_is_number
  g_is_number : mg "is_number" = some (.ref a.f_is_number)
  b_is_number : Binds K d.d_is_number ["thing"] []
  F_is_name : Fun K "is_name" "is_name" s_is_name a.f_is_name d.d_is_name
  g_is_name : mg "is_name" = some (.ref a.f_is_name)
  b_is_name : Binds K d.d_is_name ["thing"] []
  F_is_among : Fun K "is_among" "is_among" s_is_among a.f_is_among d.d_is_among
  g_is_among : mg "is_among" = some (.ref a.f_is_among)
  b_is_among : Binds K d.d_is_among ["thing", "least", "most"] []
  F_is_day : Fun K "is_day" "is_day" s_is_day a.f_is_day d.d_is_day
  g_is_day : mg "is_day" = some (.ref a.f_is_day)
  b_is_day : Binds K d.d_is_day ["thing"] []
  F_is_said : Fun K "is_said" "is_said" s_is_said a.f_is_said d.d_is_said
  g_is_said : mg "is_said" = some (.ref a.f_is_said)
  b_is_said : Binds K d.d_is_said ["entry", "parts"] []
  F_is_worth : Fun K "is_worth" "is_worth" s_is_worth a.f_is_worth d.d_is_worth
  g_is_worth : mg "is_worth" = some (.ref a.f_is_worth)
  b_is_worth : Binds K d.d_is_worth ["thing"] []
  F_is_entry : Fun K "is_entry" "is_entry" s_is_entry a.f_is_entry d.d_is_entry
  g_is_entry : mg "is_entry" = some (.ref a.f_is_entry)
  b_is_entry : Binds K d.d_is_entry ["entry"] []
  F_need_book : Fun K "need_book" "need_book" s_need_book a.f_need_book d.d_need_book
  g_need_book : mg "need_book" = some (.ref a.f_need_book)
  b_need_book : Binds K d.d_need_book ["book"] []
  F_l_refused : Fun K "_law_refused" "_law_refused" s_l_refused a.f_l_refused d.d_l_refused
  g_l_refused : mg "_law_refused" = some (.ref a.f_l_refused)
  b_l_refused : Binds K d.d_l_refused ["_law_book_here"] []
  F_law : Fun K "law" "law" s_law a.f_law d.d_law
  g_law : mg "law" = some (.ref a.f_law)
  b_law : Binds K d.d_law ["_law_script"] []
  g_BadBook : mg "BadBook" = some (.ref a.C.BadBook)
  g_BadEntry : mg "BadEntry" = some (.ref a.C.BadEntry)
  g_BadText : mg "BadText" = some (.ref a.C.BadText)
  g_BookError : mg "BookError" = some (.ref a.C.BookError)
  g_Closed : mg "Closed" = some (.ref a.C.Closed)
  g_Gone : mg "Gone" = some (.ref a.C.Gone)
  g_NoEntry : mg "NoEntry" = some (.ref a.C.NoEntry)
  g_TooMany : mg "TooMany" = some (.ref a.C.TooMany)
  ef_BadBook : ExF K a.C a.C.BadBook 1
  x_BadBook : PySem.W.excIn K a.C.BadBook [.type "ValueError", .type "Exception", .type "BaseException", .type "object"] "ValueError.__new__" = true
  kp_BadBook : PySem.W.keepIn K (.ref a.C.BadBook) = true
  be_BadBook : PySem.W.subIn K (.ref a.C.BadBook) (.type "BaseException") = some true
  ty_BadBook : PySem.W.typeIn K (.ref a.C.BadBook) = some (.type "type")
  z_ValueError : mg "ValueError" = none
  z_bool : mg "bool" = none
  z_dict : mg "dict" = none
  z_int : mg "int" = none
  z_isinstance : mg "isinstance" = none
  z_len : mg "len" = none
  z_min : mg "min" = none
  z_range : mg "range" = none
  z_str : mg "str" = none
  z_tuple : mg "tuple" = none
  k_LETTERS : mg "LETTERS" = some (.str "abcdefghijklmnopqrstuvwxyz" a.t_LETTERS)
  k_MOST : mg "MOST" = some (.int 30 a.t_MOST)
  k_MOST_DAY : mg "MOST_DAY" = some (.int 1000000 a.t_MOST_DAY)
  k_MOST_LETTERS : mg "MOST_LETTERS" = some (.int 8 a.t_MOST_LETTERS)
  k_MOST_WORTH : mg "MOST_WORTH" = some (.int 1000000000 a.t_MOST_WORTH)
section
variable {P : Program} {w : World} {K : PySem.W.Frag} {mg : Str → Option Value} {base : Heap} {a : Ad} {d : Fd}
theorem sc_l_names : FnScope ["_law_cell", "_law_many", "_law_some", "_law_names_here", "_law_k", "_law_more", "_law_word", "_law_at", "_law_j"] ["_law_cell", "_law_many"] (defScope s_l_names) := ⟨rfl, rfl, rfl, by decide +kernel, rfl, by decide +kernel, by decide +kernel⟩
theorem ok_l_names (T : Txt K mg a d) : FnOk P w K mg base CX0 1 a.f_l_names d.d_l_names ["_law_cell", "_law_many"] (sp_l_names K a.C) :=
  T.F_l_names.ok (k := 0) sc_l_names (fun vs H Q E h => len_l_names h) (fun cdv A outer s H vs Q E hr h => ⟨t_l_names K a.C, by exact
 (pss_cons (ps_set (i := 2) sc_l_names.nd rfl (by first | exact Or.inl rfl | exact Or.inr rfl) pe_str)
 (pss_cons (ps_set (i := 3) sc_l_names.nd rfl (by first | exact Or.inl rfl | exact Or.inr rfl) (pe_lst pa_nil))
 (pss_cons (ps_for PassesOwn.never rfl (pi_range1 (by rfl) T.z_range (pa_cons (pv 1) pa_nil)) (pg_name (i := 4) sc_l_names.nd rfl (by first | exact Or.inl rfl | exact Or.inr rfl))
  (pss_cons (ps_set (i := 5) sc_l_names.nd rfl (by first | exact Or.inl rfl | exact Or.inr rfl) (pe_op uAdd (pe_op uDiv (pv 0) pe_int) (pe_op uMul (pe_op uMul (pv 4) pe_int) (pe_op uMod (pv 0) pe_int))))
 (pss_cons (ps_set (i := 6) sc_l_names.nd rfl (by first | exact Or.inl rfl | exact Or.inr rfl) (pe_join pe_str (pe_lc (own := [("_law_j", 8)]) rfl sc_l_names.nd (pi_range1 (by rfl) T.z_range (pa_cons (pe_op uMod (pv 5) pe_int) pa_nil)) (blkOk_by (own := [("_law_j", 8)]) (N := ["_law_cell", "_law_many", "_law_some", "_law_names_here", "_law_k", "_law_more", "_law_word", "_law_at", "_law_j"]) (sc := defScope s_l_names) (by decide +kernel)) (fun _ _ _ _ _ => (pg_name (i := 8) sc_l_names.nd rfl (by first | exact Or.inl rfl | exact Or.inr rfl))) (fun _ _ _ _ _ => pts_nil) (fun _ _ _ _ _ => (pe_ix (uIx (hU hr)) (pv 2) (pe_op uMod (pe_op uAdd (pe_op uDiv (pv 5) pe_int) (pe_op uMul pe_int (pv 8))) pe_int) (fun _ _ => rfl))))))
 (pss_cons (ps_set (i := 7) sc_l_names.nd rfl (by first | exact Or.inl rfl | exact Or.inr rfl) (pe_op uMod (pe_op uDiv (pv 5) pe_int) (pe_op uAdd (pe_callB uLen (by rfl) T.z_len (by decide +kernel) (pa_cons (pv 6) pa_nil)) pe_int)))
 (pss_one (ps_expr (pe_bm PySem.F.plainAttrs_list PySem.F.slot_list_append PySem.F.type_list_append mt_append (pv 3) (pa_cons (pe_op uAdd (pe_op uAdd (pe_op uAdd (pe_slice uSl (pv 6) po_none (po_some (pv 7))) pe_str) (pe_ix (uIx (hU hr)) (pv 2) (pv 4) (fun _ _ => rfl))) (pe_slice uSl (pv 6) (po_some (pv 7)) po_none)) pa_nil))))))))
 (pss_cons (ps_if (PW.pt (pw_and (pt_cmpR (uEq (hU hr)) (pe_op uMod (pv 0) pe_int) pe_int (nomark _)) (pw_and1 (pt_cmpR (uNi (hU hr)) (pe_revA (pe_ix (uIx (hU hr)) (pv 3) pe_int (fun _ _ => rfl))) (pv 3) (by rfl))))) (pss_one (ps_asg (pe_revA (pe_ix (uIx (hU hr)) (pv 3) pe_int (fun _ _ => rfl))) (pg_sub (pv 3) pe_int (uSet (hU hr))))) pss_nil)
 (pss_one (ps_ret (pv 3))))))), pure_l_names h⟩)
theorem sc_l_of : FnScope ["_law_script", "_law_k"] ["_law_script", "_law_k"] (defScope s_l_of) := ⟨rfl, rfl, rfl, by decide +kernel, rfl, by decide +kernel, by decide +kernel⟩
theorem ok_l_of (T : Txt K mg a d) : FnOk P w K mg base CX0 1 a.f_l_of d.d_l_of ["_law_script", "_law_k"] (sp_l_of K a.C) :=
  T.F_l_of.ok (k := 0) sc_l_of (fun vs H Q E h => len_l_of h) (fun cdv A outer s H vs Q E hr h => ⟨t_l_of K a.C, by exact
 (pss_one (ps_ret (pe_ix (uIx (hU hr)) (pe_op uAdd (pe_slice uSl (pv 0) (po_some (pv 1)) (po_some (pe_op uAdd (pv 1) pe_int))) (pe_lst (pa_cons pe_int pa_nil))) pe_int (fun _ _ => rfl)))), pure_l_of h⟩)
theorem sc_l_entry : FnScope ["_law_names_here", "_law_base_here", "_law_n", "_law_number", "_law_low", "_law_high", "_law_name"] ["_law_names_here", "_law_base_here", "_law_n", "_law_number"] (defScope s_l_entry) := ⟨rfl, rfl, rfl, by decide +kernel, rfl, by decide +kernel, by decide +kernel⟩
theorem ok_l_entry (T : Txt K mg a d) : FnOk P w K mg base CX0 1 a.f_l_entry d.d_l_entry ["_law_names_here", "_law_base_here", "_law_n", "_law_number"] (sp_l_entry K a.C) :=
  T.F_l_entry.ok (k := 0) sc_l_entry (fun vs H Q E h => len_l_entry h) (fun cdv A outer s H vs Q E hr h => ⟨t_l_entry K a.C, by exact
 (pss_cons (ps_set (i := 2) sc_l_entry.nd rfl (by first | exact Or.inl rfl | exact Or.inr rfl) (pe_op uMod (pe_op uMul (pv 2) pe_int) pe_int))
 (pss_cons (ps_set (i := 4) sc_l_entry.nd rfl (by first | exact Or.inl rfl | exact Or.inr rfl) (pe_callB (call_min2 rfl) (by rfl) T.z_min (by decide +kernel) (pa_cons pe_int (pa_cons (pe_op uAdd (pv 1) (pe_op uMod (pe_op uDiv (pv 2) pe_int) (pe_ix (uIx (hU hr)) (pe_lst (pa_cons pe_int (pa_cons pe_int pa_nil))) (pe_callTy uIntC (by rfl) T.z_int (by decide +kernel) (pa_cons (pe_cmpR (uEq (hU hr)) (pe_op uMod (pe_op uDiv (pv 2) pe_int) pe_int) pe_int (nomark _)) pa_nil)) (fun _ _ => rfl)))) pa_nil))))
 (pss_cons (ps_set (i := 5) sc_l_entry.nd rfl (by first | exact Or.inl rfl | exact Or.inr rfl) (pe_callB (call_min2 rfl) (by rfl) T.z_min (by decide +kernel) (pa_cons pe_int (pa_cons (pe_op uAdd (pv 4) (pe_ix (uIx (hU hr)) (pe_lst (pa_cons pe_int (pa_cons pe_int (pa_cons pe_int (pa_cons pe_int (pa_cons pe_int (pa_cons pe_int (pa_cons pe_int (pa_cons pe_int pa_nil))))))))) (pe_op uMod (pe_op uDiv (pv 2) pe_int) pe_int) (fun _ _ => rfl))) pa_nil))))
 (pss_cons (ps_set (i := 6) sc_l_entry.nd rfl (by first | exact Or.inl rfl | exact Or.inr rfl) (pe_ix (uIx (hU hr)) (pv 0) (pe_op uMod (pe_op uDiv (pv 2) pe_int) pe_int) (fun _ _ => rfl)))
 (pss_cons (ps_if (PW.pt (pw_and (pt_cmpR uGt (pe_op uMod (pv 2) pe_int) pe_int (nomark _)) (pw_and1 (pt_cmpR uGt (pv 3) pe_int (nomark _))))) (pss_one (ps_ret (pe_tup (pa_cons pe_str (pa_cons (pe_op uAdd pe_int (pe_op uMod (pe_op uDiv (pv 2) pe_int) (pe_op uSub (pv 3) pe_int))) pa_nil))))) pss_nil)
 (pss_cons (ps_if (pt_cmpR (uEq (hU hr)) (pe_op uMod (pv 2) pe_int) pe_int (nomark _)) (pss_one (ps_ret (pe_tup (pa_cons pe_str (pa_cons (pv 6) (pa_cons (pv 4) (pa_cons (pv 5) pa_nil))))))) pss_nil)
 (pss_cons (ps_if (pt_cmpR (uIn (hU hr)) (pe_op uMod (pv 2) pe_int) (pe_tup (pa_cons pe_int (pa_cons pe_int pa_nil))) (by rfl)) (pss_one (ps_ret (pe_tup (pa_cons pe_str (pa_cons (pv 6) (pa_cons (pv 4) (pa_cons (pv 5) (pa_cons (pe_ix (uIx (hU hr)) (pv 0) (pe_op uMod (pe_op uDiv (pv 2) pe_int) pe_int) (fun _ _ => rfl)) pa_nil)))))))) pss_nil)
 (pss_one (ps_ret (pe_tup (pa_cons pe_str (pa_cons (pv 6) (pa_cons (pv 4) (pa_cons (pv 5) (pa_cons (pe_ix (uIx (hU hr)) (pe_lst (pa_cons pe_int (pa_cons pe_int (pa_cons pe_int (pa_cons pe_int (pa_cons (pe_un un_neg pe_int) (pa_cons (pe_op uSub (pe_op uMod (pv 2) pe_int) pe_int) pa_nil))))))) (pe_op uMod (pe_op uDiv (pv 2) pe_int) pe_int) (fun _ _ => rfl)) pa_nil))))))))))))))), pure_l_entry h⟩)
theorem sc_l_base : FnScope ["_law_script"] ["_law_script"] (defScope s_l_base) := ⟨rfl, rfl, rfl, by decide +kernel, rfl, by decide +kernel, by decide +kernel⟩
theorem ok_l_base (T : Txt K mg a d) : FnOk P w K mg base CX0 2 a.f_l_base d.d_l_base ["_law_script"] (sp_l_base K a.C) :=
  T.F_l_base.ok (k := 1) sc_l_base (fun vs H Q E h => len_l_base h) (fun cdv A outer s H vs Q E hr h => ⟨t_l_base K a.C, by exact
 (pss_one (ps_ret (pe_ix (uIx (hU hr)) (pe_lst (pa_cons pe_int (pa_cons pe_int (pa_cons pe_int (pa_cons pe_int pa_nil))))) (pe_op uMod (pe_call (ok_l_of T) (hr.mono (by decide)) (by rfl) T.g_l_of T.F_l_of.kp T.b_l_of .nil pass0 (pa_cons (pv 0) (pa_cons pe_int pa_nil))) pe_int) (fun _ _ => rfl)))), pure_l_base h⟩)
theorem sc_l_book : FnScope ["_law_script", "_law_many", "_law_names_here", "_law_gap", "_law_rows", "_law_k", "_law_number", "_law_cut"] ["_law_script", "_law_many"] (defScope s_l_book) := ⟨rfl, rfl, rfl, by decide +kernel, rfl, by decide +kernel, by decide +kernel⟩
theorem ok_l_book (T : Txt K mg a d) : FnOk P w K mg base CX0 3 a.f_l_book d.d_l_book ["_law_script", "_law_many"] (sp_l_book K a.C) :=
  T.F_l_book.ok (k := 2) sc_l_book (fun vs H Q E h => len_l_book h) (fun cdv A outer s H vs Q E hr h => ⟨t_l_book K a.C, by exact
 (pss_cons (ps_set (i := 2) sc_l_book.nd rfl (by first | exact Or.inl rfl | exact Or.inr rfl) (pe_call (ok_l_names T) (hr.mono (by decide)) (by rfl) T.g_l_names T.F_l_names.kp T.b_l_names .nil pass0 (pa_cons (pe_call (ok_l_of T) (hr.mono (by decide)) (by rfl) T.g_l_of T.F_l_of.kp T.b_l_of .nil pass0 (pa_cons (pv 0) (pa_cons pe_int pa_nil))) (pa_cons pe_int pa_nil))))
 (pss_cons (ps_set (i := 3) sc_l_book.nd rfl (by first | exact Or.inl rfl | exact Or.inr rfl) (pe_op uAdd pe_int (pe_op uMod (pe_op uDiv (pe_call (ok_l_of T) (hr.mono (by decide)) (by rfl) T.g_l_of T.F_l_of.kp T.b_l_of .nil pass0 (pa_cons (pv 0) (pa_cons pe_int pa_nil))) pe_int) pe_int)))
 (pss_cons (ps_set (i := 4) sc_l_book.nd rfl (by first | exact Or.inl rfl | exact Or.inr rfl) (pe_lst pa_nil))
 (pss_cons (ps_for PassesOwn.never rfl (pi_range1 (by rfl) T.z_range (pa_cons (pe_callB (call_min2 rfl) (by rfl) T.z_min (by decide +kernel) (pa_cons (pv 1) (pa_cons (pe_op uSub (pe_callB uLen (by rfl) T.z_len (by decide +kernel) (pa_cons (pv 0) pa_nil)) pe_int) pa_nil))) pa_nil)) (pg_name (i := 5) sc_l_book.nd rfl (by first | exact Or.inl rfl | exact Or.inr rfl))
  (pss_cons (ps_set (i := 6) sc_l_book.nd rfl (by first | exact Or.inl rfl | exact Or.inr rfl) (pe_op uAdd pe_int (pe_op uMul (pv 5) (pv 3))))
 (pss_one (ps_expr (pe_bm PySem.F.plainAttrs_list PySem.F.slot_list_append PySem.F.type_list_append mt_append (pv 4) (pa_cons (pe_tup (pa_cons (pv 6) (pa_cons (pe_call (ok_l_entry T) (hr.mono (by decide)) (by rfl) T.g_l_entry T.F_l_entry.kp T.b_l_entry .nil pass0 (pa_cons (pv 2) (pa_cons (pe_call (ok_l_base T) (hr.mono (by decide)) (by rfl) T.g_l_base T.F_l_base.kp T.b_l_base .nil pass0 (pa_cons (pv 0) pa_nil)) (pa_cons (pe_op uAdd (pe_ix (uIx (hU hr)) (pv 0) (pe_op uAdd pe_int (pv 5)) (fun _ _ => rfl)) (pe_op uMul pe_int (pv 5))) (pa_cons (pv 6) pa_nil))))) pa_nil))) pa_nil))))))
 (pss_cons (ps_set (i := 7) sc_l_book.nd rfl (by first | exact Or.inl rfl | exact Or.inr rfl) (pe_op uMod (pe_op uDiv (pe_call (ok_l_of T) (hr.mono (by decide)) (by rfl) T.g_l_of T.F_l_of.kp T.b_l_of .nil pass0 (pa_cons (pv 0) (pa_cons pe_int pa_nil))) pe_int) (pe_op uAdd (pe_callB uLen (by rfl) T.z_len (by decide +kernel) (pa_cons (pv 4) pa_nil)) pe_int)))
 (pss_one (ps_ret (pe_callTy (uDictC rfl) (by rfl) T.z_dict (by decide +kernel) (pa_cons (pe_op uAdd (pe_slice uSl (pv 4) (po_some (pv 7)) po_none) (pe_slice uSl (pv 4) po_none (po_some (pv 7)))) pa_nil))))))))), pure_l_book h⟩)
theorem sc_l_spoilt : FnScope ["_law_book_here", "_law_cell", "_law_kind", "_law_more", "_law_odd"] ["_law_book_here", "_law_cell"] (defScope s_l_spoilt) := ⟨rfl, rfl, rfl, by decide +kernel, rfl, by decide +kernel, by decide +kernel⟩
theorem ok_l_spoilt (T : Txt K mg a d) : FnOk P w K mg base CX0 1 a.f_l_spoilt d.d_l_spoilt ["_law_book_here", "_law_cell"] (sp_l_spoilt K a.C) :=
  T.F_l_spoilt.ok (k := 0) sc_l_spoilt (fun vs H Q E h => len_l_spoilt h) (fun cdv A outer s H vs Q E hr h => ⟨t_l_spoilt K a.C, by exact
 (pss_cons (ps_set (i := 2) sc_l_spoilt.nd rfl (by first | exact Or.inl rfl | exact Or.inr rfl) (pe_op uMod (pv 1) pe_int))
 (pss_cons (ps_set (i := 3) sc_l_spoilt.nd rfl (by first | exact Or.inl rfl | exact Or.inr rfl) (pe_op uDiv (pv 1) pe_int))
 (pss_cons (ps_set (i := 4) sc_l_spoilt.nd rfl (by first | exact Or.inl rfl | exact Or.inr rfl) (pe_tup (pa_cons pe_str (pa_cons pe_str (pa_cons pe_int (pa_cons pe_int (pa_cons pe_int pa_nil)))))))
 (pss_cons (ps_if (pt_cmpR (uEq (hU hr)) (pv 2) pe_int (nomark _)) (pss_one (ps_asg (pe_ix (uIxB (hU hr)) (pe_lst (pa_cons (pe_tup (pa_cons pe_str (pa_cons pe_str (pa_cons pe_int (pa_cons pe_int (pa_cons pe_int pa_nil)))))) (pa_cons (pe_tup (pa_cons pe_str (pa_cons pe_str (pa_cons pe_int (pa_cons pe_int pa_nil))))) (pa_cons pe_non (pa_cons (pe_lst (pa_cons pe_str (pa_cons pe_int pa_nil))) pa_nil))))) (pe_op uMod (pv 3) pe_int) (fun _ _ => rfl)) (pg_sub (pv 0) pe_int (uSetB (hU hr))))) pss_nil)
 (pss_cons (ps_if (pt_cmpR (uEq (hU hr)) (pv 2) pe_int (nomark _)) (pss_one (ps_asg (pv 4) (pg_sub (pv 0) (pe_ix (uIxB (hU hr)) (pe_lst (pa_cons pe_int (pa_cons (pe_un un_neg pe_int) (pa_cons pe_bl (pa_cons pe_str (pa_cons pe_non (pa_cons (pe_tup (pa_cons pe_int pa_nil)) (pa_cons (pe_un un_neg (pe_op uPow pe_int pe_int)) pa_nil)))))))) (pe_op uMod (pv 3) pe_int) (fun _ _ => rfl)) (uSetB (hU hr))))) pss_nil)
 (pss_cons (ps_if (pt_cmpR (uEq (hU hr)) (pv 2) pe_int (nomark _)) (pss_one (ps_asg (pe_tup (pa_cons pe_str (pa_cons (pe_op uAdd pe_int (pe_op uMod (pv 3) pe_int)) pa_nil))) (pg_sub (pv 0) pe_int (uSetB (hU hr))))) pss_nil)
 (pss_cons (ps_if (pt_cmpR (uEq (hU hr)) (pv 2) pe_int (nomark _)) (pss_one (ps_ret (pe_ix (uIxB (hU hr)) (pe_lst (pa_cons pe_non (pa_cons (pe_lst pa_nil) (pa_cons (pe_lst (pa_cons (pe_tup (pa_cons pe_int (pa_cons (pv 4) pa_nil))) pa_nil)) (pa_cons pe_str (pa_cons pe_int (pa_cons (pe_tup (pa_cons (pv 4) pa_nil)) pa_nil))))))) (pe_op uMod (pv 3) pe_int) (fun _ _ => rfl)))) pss_nil)
 (pss_one (ps_ret (pv 0)))))))))), pure_l_spoilt h⟩)
theorem sc_is_number : FnScope ["thing"] ["thing"] (defScope s_is_number) := ⟨rfl, rfl, rfl, by decide +kernel, rfl, by decide +kernel, by decide +kernel⟩
theorem ok_is_number (T : Txt K mg a d) : FnOk P w K mg base CX0 1 a.f_is_number d.d_is_number ["thing"] (sp_is_number K a.C) :=
  T.F_is_number.ok (k := 0) sc_is_number (fun vs H Q E h => len_is_number h) (fun cdv A outer s H vs Q E hr h => ⟨t_is_number K a.C, by exact
 (pss_one (ps_ret (pe_and (pe_callB call_isi (by rfl) T.z_isinstance (by decide +kernel) (pa_cons (pv 0) (pa_cons (pe_bltn (by rfl) T.z_int (by decide +kernel) rfl) pa_nil))) (pe_and (pe_not (pe_callB call_isi (by rfl) T.z_isinstance (by decide +kernel) (pa_cons (pv 0) (pa_cons (pe_bltn (by rfl) T.z_bool (by decide +kernel) rfl) pa_nil)))) (pe_one (pe_cmpR uGe (pv 0) pe_int (nomark _))))))), pure_is_number h⟩)
theorem sc_is_name : FnScope ["thing", "sign"] ["thing"] (defScope s_is_name) := ⟨rfl, rfl, rfl, by decide +kernel, rfl, by decide +kernel, by decide +kernel⟩
theorem ok_is_name (T : Txt K mg a d) : FnOk P w K mg base CX0 1 a.f_is_name d.d_is_name ["thing"] (sp_is_name K a.C) :=
  T.F_is_name.ok (k := 0) sc_is_name (fun vs H Q E h => len_is_name h) (fun cdv A outer s H vs Q E hr h => ⟨t_is_name K a.C, by exact
 (pss_cons (ps_if (PW.pt (pw_or (pt_not (pt_val (pe_callB call_isi (by rfl) T.z_isinstance (by decide +kernel) (pa_cons (pv 0) (pa_cons (pe_bltn (by rfl) T.z_str (by decide +kernel) rfl) pa_nil))))) (pw_or1 (pt_not (pt_chain uLe uLe pe_int (pe_callB uLen (by rfl) T.z_len (by decide +kernel) (pa_cons (pv 0) pa_nil)) (pe_glob rfl T.k_MOST_LETTERS ⟨_, rfl⟩)))))) (pss_one (ps_ret pe_bl)) pss_nil)
 (pss_cons (ps_for PassesOwn.never rfl (pi_str (pv 0)) (pg_name (i := 1) sc_is_name.nd rfl (by first | exact Or.inl rfl | exact Or.inr rfl))
  (pss_one (ps_if (pt_cmpR (uNi (hU hr)) (pv 1) (pe_glob rfl T.k_LETTERS ⟨_, rfl⟩) (by rfl)) (pss_one (ps_ret pe_bl)) pss_nil)))
 (pss_one (ps_ret pe_bl)))), pure_is_name h⟩)
theorem sc_is_among : FnScope ["thing", "least", "most"] ["thing", "least", "most"] (defScope s_is_among) := ⟨rfl, rfl, rfl, by decide +kernel, rfl, by decide +kernel, by decide +kernel⟩
theorem ok_is_among (T : Txt K mg a d) : FnOk P w K mg base CX0 1 a.f_is_among d.d_is_among ["thing", "least", "most"] (sp_is_among K a.C) :=
  T.F_is_among.ok (k := 0) sc_is_among (fun vs H Q E h => len_is_among h) (fun cdv A outer s H vs Q E hr h => ⟨t_is_among K a.C, by exact
 (pss_one (ps_ret (pe_and (pe_callB call_isi (by rfl) T.z_isinstance (by decide +kernel) (pa_cons (pv 0) (pa_cons (pe_bltn (by rfl) T.z_int (by decide +kernel) rfl) pa_nil))) (pe_and (pe_not (pe_callB call_isi (by rfl) T.z_isinstance (by decide +kernel) (pa_cons (pv 0) (pa_cons (pe_bltn (by rfl) T.z_bool (by decide +kernel) rfl) pa_nil)))) (pe_one (pe_chain uLe uLe (pv 1) (pv 0) (pv 2))))))), pure_is_among h⟩)
theorem sc_is_day : FnScope ["thing"] ["thing"] (defScope s_is_day) := ⟨rfl, rfl, rfl, by decide +kernel, rfl, by decide +kernel, by decide +kernel⟩
theorem ok_is_day (T : Txt K mg a d) : FnOk P w K mg base CX0 2 a.f_is_day d.d_is_day ["thing"] (sp_is_day K a.C) :=
  T.F_is_day.ok (k := 1) sc_is_day (fun vs H Q E h => len_is_day h) (fun cdv A outer s H vs Q E hr h => ⟨t_is_day K a.C, by exact
 (pss_one (ps_ret (pe_call (ok_is_among T) (hr.mono (by decide)) (by rfl) T.g_is_among T.F_is_among.kp T.b_is_among .nil pass0 (pa_cons (pv 0) (pa_cons pe_int (pa_cons (pe_glob rfl T.k_MOST_DAY ⟨_, rfl⟩) pa_nil)))))), pure_is_day h⟩)
theorem sc_is_said : FnScope ["entry", "parts"] ["entry", "parts"] (defScope s_is_said) := ⟨rfl, rfl, rfl, by decide +kernel, rfl, by decide +kernel, by decide +kernel⟩
theorem ok_is_said (T : Txt K mg a d) : FnOk P w K mg base CX0 3 a.f_is_said d.d_is_said ["entry", "parts"] (sp_is_said K a.C) :=
  T.F_is_said.ok (k := 2) sc_is_said (fun vs H Q E h => len_is_said h) (fun cdv A outer s H vs Q E hr h => ⟨t_is_said K a.C, by exact
 (pss_cons (ps_if (PW.pt (pw_or (pt_cmpR (uNe (hU hr)) (pe_callB uLen (by rfl) T.z_len (by decide +kernel) (pa_cons (pv 0) pa_nil)) (pv 1) (nomark _)) (pw_or (pt_not (pt_val (pe_call (ok_is_name T) (hr.mono (by decide)) (by rfl) T.g_is_name T.F_is_name.kp T.b_is_name .nil pass0 (pa_cons (pe_ix (uIx (hU hr)) (pv 0) pe_int (fun _ _ => rfl)) pa_nil)))) (pw_or (pt_not (pt_val (pe_call (ok_is_day T) (hr.mono (by decide)) (by rfl) T.g_is_day T.F_is_day.kp T.b_is_day .nil pass0 (pa_cons (pe_ix (uIx (hU hr)) (pv 0) pe_int (fun _ _ => rfl)) pa_nil)))) (pw_or1 (pt_not (pt_val (pe_call (ok_is_day T) (hr.mono (by decide)) (by rfl) T.g_is_day T.F_is_day.kp T.b_is_day .nil pass0 (pa_cons (pe_ix (uIx (hU hr)) (pv 0) pe_int (fun _ _ => rfl)) pa_nil))))))))) (pss_one (ps_ret pe_bl)) pss_nil)
 (pss_one (ps_ret (pe_cmpR uLe (pe_ix (uIx (hU hr)) (pv 0) pe_int (fun _ _ => rfl)) (pe_ix (uIx (hU hr)) (pv 0) pe_int (fun _ _ => rfl)) (nomark _))))), pure_is_said h⟩)
theorem sc_is_worth : FnScope ["thing"] ["thing"] (defScope s_is_worth) := ⟨rfl, rfl, rfl, by decide +kernel, rfl, by decide +kernel, by decide +kernel⟩
theorem ok_is_worth (T : Txt K mg a d) : FnOk P w K mg base CX0 2 a.f_is_worth d.d_is_worth ["thing"] (sp_is_worth K a.C) :=
  T.F_is_worth.ok (k := 1) sc_is_worth (fun vs H Q E h => len_is_worth h) (fun cdv A outer s H vs Q E hr h => ⟨t_is_worth K a.C, by exact
 (pss_one (ps_ret (pe_call (ok_is_among T) (hr.mono (by decide)) (by rfl) T.g_is_among T.F_is_among.kp T.b_is_among .nil pass0 (pa_cons (pv 0) (pa_cons (pe_un un_neg (pe_glob rfl T.k_MOST_WORTH ⟨_, rfl⟩)) (pa_cons (pe_glob rfl T.k_MOST_WORTH ⟨_, rfl⟩) pa_nil)))))), pure_is_worth h⟩)
theorem sc_is_entry : FnScope ["entry"] ["entry"] (defScope s_is_entry) := ⟨rfl, rfl, rfl, by decide +kernel, rfl, by decide +kernel, by decide +kernel⟩
theorem ok_is_entry (T : Txt K mg a d) : FnOk P w K mg base CX0 4 a.f_is_entry d.d_is_entry ["entry"] (sp_is_entry K a.C) :=
  T.F_is_entry.ok (k := 3) sc_is_entry (fun vs H Q E h => len_is_entry h) (fun cdv A outer s H vs Q E hr h => ⟨t_is_entry K a.C, by exact
 (pss_cons (ps_if (PW.pt (pw_or (pt_not (pt_val (pe_callB call_isi (by rfl) T.z_isinstance (by decide +kernel) (pa_cons (pv 0) (pa_cons (pe_bltn (by rfl) T.z_tuple (by decide +kernel) rfl) pa_nil))))) (pw_or (pt_cmpR uLt (pe_callB uLen (by rfl) T.z_len (by decide +kernel) (pa_cons (pv 0) pa_nil)) pe_int (nomark _)) (pw_or1 (pt_not (pt_val (pe_callB call_isi (by rfl) T.z_isinstance (by decide +kernel) (pa_cons (pe_ix (uIx (hU hr)) (pv 0) pe_int (fun _ _ => rfl)) (pa_cons (pe_bltn (by rfl) T.z_str (by decide +kernel) rfl) pa_nil))))))))) (pss_one (ps_ret pe_bl)) pss_nil)
 (pss_cons (ps_if (pt_cmpR (uEq (hU hr)) (pe_ix (uIx (hU hr)) (pv 0) pe_int (fun _ _ => rfl)) pe_str (nomark _)) (pss_one (ps_ret (pe_and (pe_call (ok_is_said T) (hr.mono (by decide)) (by rfl) T.g_is_said T.F_is_said.kp T.b_is_said .nil pass0 (pa_cons (pv 0) (pa_cons pe_int pa_nil))) (pe_one (pe_call (ok_is_worth T) (hr.mono (by decide)) (by rfl) T.g_is_worth T.F_is_worth.kp T.b_is_worth .nil pass0 (pa_cons (pe_ix (uIx (hU hr)) (pv 0) pe_int (fun _ _ => rfl)) pa_nil)))))) pss_nil)
 (pss_cons (ps_if (pt_cmpR (uEq (hU hr)) (pe_ix (uIx (hU hr)) (pv 0) pe_int (fun _ _ => rfl)) pe_str (nomark _)) (pss_one (ps_ret (pe_call (ok_is_said T) (hr.mono (by decide)) (by rfl) T.g_is_said T.F_is_said.kp T.b_is_said .nil pass0 (pa_cons (pv 0) (pa_cons pe_int pa_nil))))) pss_nil)
 (pss_cons (ps_if (pt_cmpR (uEq (hU hr)) (pe_ix (uIx (hU hr)) (pv 0) pe_int (fun _ _ => rfl)) pe_str (nomark _)) (pss_one (ps_ret (pe_and (pe_call (ok_is_said T) (hr.mono (by decide)) (by rfl) T.g_is_said T.F_is_said.kp T.b_is_said .nil pass0 (pa_cons (pv 0) (pa_cons pe_int pa_nil))) (pe_one (pe_call (ok_is_name T) (hr.mono (by decide)) (by rfl) T.g_is_name T.F_is_name.kp T.b_is_name .nil pass0 (pa_cons (pe_ix (uIx (hU hr)) (pv 0) pe_int (fun _ _ => rfl)) pa_nil)))))) pss_nil)
 (pss_one (ps_ret (pe_and (pe_cmpR (uEq (hU hr)) (pe_ix (uIx (hU hr)) (pv 0) pe_int (fun _ _ => rfl)) pe_str (nomark _)) (pe_and (pe_cmpR (uEq (hU hr)) (pe_callB uLen (by rfl) T.z_len (by decide +kernel) (pa_cons (pv 0) pa_nil)) pe_int (nomark _)) (pe_one (pe_call (ok_is_number T) (hr.mono (by decide)) (by rfl) T.g_is_number T.F_is_number.kp T.b_is_number .nil pass0 (pa_cons (pe_ix (uIx (hU hr)) (pv 0) pe_int (fun _ _ => rfl)) pa_nil))))))))))), pure_is_entry h⟩)
theorem sc_need_book : FnScope ["book", "number"] ["book"] (defScope s_need_book) := ⟨rfl, rfl, rfl, by decide +kernel, rfl, by decide +kernel, by decide +kernel⟩
theorem ok_need_book (T : Txt K mg a d) : FnOk P w K mg base (L2.CX P w) 5 a.f_need_book d.d_need_book ["book"] (sp_need_book K a.C) :=
  T.F_need_book.okX (k := 4) sc_need_book (fun vs H Q E h => len_need_book h) (fun cdv A outer s H vs Q E hr h => ⟨t_need_book K a.C E, by exact
 (pss_cons (ps_if (PW.pt (pw_or (pt_not (pt_val (pe_callB uIsiB (by rfl) T.z_isinstance (by decide +kernel) (pa_cons (pv 0) (pa_cons (pe_bltn (by rfl) T.z_dict (by decide +kernel) rfl) pa_nil))))) (pw_or1 (pt_cmpR uGt (pe_callB uLenB (by rfl) T.z_len (by decide +kernel) (pa_cons (pv 0) pa_nil)) (pe_glob rfl T.k_MOST ⟨_, rfl⟩) (nomark _))))) (pss_one (ps_raiseC rfl (takes_of rfl rfl rfl rfl) T.x_BadBook T.g_BadBook T.kp_BadBook T.be_BadBook T.ty_BadBook (by exact rfl))) pss_nil)
 (pss_cons (ps_lock (ps_for (passes_of rfl) rfl (pi_keysB (pv 0)) (pg_name (i := 1) sc_need_book.nd rfl (by first | exact Or.inl rfl | exact Or.inr rfl))
  (pss_cons (ps_if (PW.pt (pw_or (pt_not (pt_val (pe_call (ok_is_number T) (hr.mono (by decide)) (by rfl) T.g_is_number T.F_is_number.kp T.b_is_number .nil pass0 (pa_cons (pv 1) pa_nil)))) (pw_or1 (pt_not (pt_val (pe_call (ok_is_entry T) (hr.mono (by decide)) (by rfl) T.g_is_entry T.F_is_entry.kp T.b_is_entry .nil pass0 (pa_cons (pe_ix (uIxB (hU hr)) (pv 0) (pv 1) (fun _ _ => rfl)) pa_nil))))))) (pss_one (ps_raiseC rfl (takes_of rfl rfl rfl rfl) T.x_BadBook T.g_BadBook T.kp_BadBook T.be_BadBook T.ty_BadBook (by exact rfl))) pss_nil)
 (pss_one (ps_if (PW.pt (pw_and (pt_cmpR (uEq (hU hr)) (pe_ix (uIxB (hU hr)) (pe_ix (uIxB (hU hr)) (pv 0) (pv 1) (fun _ _ => rfl)) pe_int (fun _ _ => rfl)) pe_str (nomark _)) (pw_and1 (pt_cmpR uGe (pe_ix (uIxB (hU hr)) (pe_ix (uIxB (hU hr)) (pv 0) (pv 1) (fun _ _ => rfl)) pe_int (fun _ _ => rfl)) (pv 1) (nomark _))))) (pss_one (ps_raiseC rfl (takes_of rfl rfl rfl rfl) T.x_BadBook T.g_BadBook T.kp_BadBook T.be_BadBook T.ty_BadBook (by exact rfl))) pss_nil)))))
 (pss_one (ps_ret (pe_callTy (uDictC rfl) (by rfl) T.z_dict (by decide +kernel) (pa_cons (pv 0) pa_nil)))))), pure_need_book h⟩)
theorem sc_l_refused : FnScope ["_law_book_here", "e", "_law_kinds"] ["_law_book_here"] (defScope s_l_refused) := ⟨rfl, rfl, rfl, by decide +kernel, rfl, by decide +kernel, by decide +kernel⟩
theorem ok_l_refused (T : Txt K mg a d) : FnOk P w K mg base CX0 6 a.f_l_refused d.d_l_refused ["_law_book_here"] (sp_l_refused K a.C) :=
  T.F_l_refused.ok (k := 5) sc_l_refused (fun vs H Q E h => len_l_refused h) (fun cdv A outer s H vs Q E hr h => ⟨t_l_refused K a.C, by exact
 (pss_cons (ps_tryAs (i := 1) rfl rfl sc_l_refused.nd rfl rfl rfl (by decide) T.g_BookError (fun W pn xe tk _ => (pss_one (ps_expr (pe_callS (ok_need_book T) (hr.mono (by decide)) (by rfl) T.g_need_book T.F_need_book.kp T.b_need_book (fun σ => passAt tk σ) (pa_cons (pv 0) pa_nil))))) (fun a oe cls d pn hz hf => (pss_cons (ps_set (i := 2) sc_l_refused.nd rfl (by first | exact Or.inl rfl | exact Or.inr rfl) (pe_lst (pa_cons (pe_callB (call_isEx hz hf) (by rfl) T.z_isinstance (by decide +kernel) (pa_cons (pv 1) (pa_cons (pe_glob rfl T.g_BadEntry rfl) pa_nil))) (pa_cons (pe_callB (call_isEx hz hf) (by rfl) T.z_isinstance (by decide +kernel) (pa_cons (pv 1) (pa_cons (pe_glob rfl T.g_NoEntry rfl) pa_nil))) (pa_cons (pe_callB (call_isEx hz hf) (by rfl) T.z_isinstance (by decide +kernel) (pa_cons (pv 1) (pa_cons (pe_glob rfl T.g_Closed rfl) pa_nil))) (pa_cons (pe_callB (call_isEx hz hf) (by rfl) T.z_isinstance (by decide +kernel) (pa_cons (pv 1) (pa_cons (pe_glob rfl T.g_TooMany rfl) pa_nil))) pa_nil))))))
 (pss_cons (ps_set (i := 2) sc_l_refused.nd rfl (by first | exact Or.inl rfl | exact Or.inr rfl) (pe_op uAdd (pv 2) (pe_lst (pa_cons (pe_callB (call_isEx hz hf) (by rfl) T.z_isinstance (by decide +kernel) (pa_cons (pv 1) (pa_cons (pe_glob rfl T.g_Gone rfl) pa_nil))) (pa_cons (pe_callB (call_isEx hz hf) (by rfl) T.z_isinstance (by decide +kernel) (pa_cons (pv 1) (pa_cons (pe_glob rfl T.g_BadText rfl) pa_nil))) pa_nil)))))
 (pss_one (ps_ret (pe_and (pe_callB (call_isEx hz hf) (by rfl) T.z_isinstance (by decide +kernel) (pa_cons (pv 1) (pa_cons (pe_glob rfl T.g_BadBook rfl) pa_nil))) (pe_and (pe_callB (call_isEx hz hf) (by rfl) T.z_isinstance (by decide +kernel) (pa_cons (pv 1) (pa_cons (pe_bltn (by rfl) T.z_ValueError (by decide +kernel) rfl) pa_nil))) (pe_one (pe_cmpR (uNi (by have hU1 := hU hr; exact hU1)) pe_bl (pv 2) (by rfl)))))))))))
 (pss_one (ps_ret pe_bl))), pure_l_refused T.ef_BadBook h⟩)
theorem sc_law : FnScope ["_law_script", "_law_book_here", "_law_k", "_law_cell", "_law_kept", "_law_found", "_law_again"] ["_law_script"] (defScope s_law) := ⟨rfl, rfl, rfl, by decide +kernel, rfl, by decide +kernel, by decide +kernel⟩
theorem ok_law (T : Txt K mg a d) : FnOk P w K mg base CX0 7 a.f_law d.d_law ["_law_script"] (sp_law_k02 K a.C) :=
  T.F_law.ok (k := 6) sc_law (fun vs H Q E h => len_law_k02 h) (fun cdv A outer s H vs Q E hr h => ⟨t_law_k02 K a.C, by exact
 (pss_cons (ps_set (i := 1) sc_law.nd rfl (by first | exact Or.inl rfl | exact Or.inr rfl) (pe_call (ok_l_book T) (hr.mono (by decide)) (by rfl) T.g_l_book T.F_l_book.kp T.b_l_book .nil pass0 (pa_cons (pv 0) (pa_cons pe_int pa_nil))))
 (pss_cons (ps_if (pt_cmpR (uEq (hU hr)) (pe_op uMod (pe_op uDiv (pe_call (ok_l_of T) (hr.mono (by decide)) (by rfl) T.g_l_of T.F_l_of.kp T.b_l_of .nil pass0 (pa_cons (pv 0) (pa_cons pe_int pa_nil))) pe_int) pe_int) pe_int (nomark _)) (pss_one (ps_for PassesOwn.never rfl (pi_range1 (by rfl) T.z_range (pa_cons (pe_op uSub (pe_op uAdd pe_int (pe_op uMod (pe_call (ok_l_of T) (hr.mono (by decide)) (by rfl) T.g_l_of T.F_l_of.kp T.b_l_of .nil pass0 (pa_cons (pv 0) (pa_cons pe_int pa_nil))) pe_int)) (pe_callB uLen (by rfl) T.z_len (by decide +kernel) (pa_cons (pv 1) pa_nil))) pa_nil)) (pg_name (i := 2) sc_law.nd rfl (by first | exact Or.inl rfl | exact Or.inr rfl))
  (pss_one (ps_asg (pe_tup (pa_cons pe_str (pa_cons pe_str (pa_cons (pv 2) (pa_cons (pe_op uMul pe_int (pv 2)) pa_nil))))) (pg_sub (pv 1) (pe_op uAdd pe_int (pe_op uMul pe_int (pv 2))) (uSet (hU hr))))))) pss_nil)
 (pss_cons (ps_set (i := 3) sc_law.nd rfl (by first | exact Or.inl rfl | exact Or.inr rfl) (pe_call (ok_l_of T) (hr.mono (by decide)) (by rfl) T.g_l_of T.F_l_of.kp T.b_l_of .nil pass0 (pa_cons (pv 0) (pa_cons pe_int pa_nil))))
 (pss_cons (ps_if (PW.pt (pw_and (pt_cmpR (uEq (hU hr)) (pe_op uMod (pv 3) pe_int) pe_int (nomark _)) (pw_and1 (pt_cmpR (uEq (hU hr)) (pe_op uMod (pe_op uDiv (pv 3) pe_int) pe_int) pe_int (nomark _))))) (pss_one (ps_expr (pe_dpop2 (pv 1) pe_int pe_non ⟨rfl, rfl, rfl, rfl⟩))) pss_nil)
 (pss_cons (ps_set (i := 1) sc_law.nd rfl (by first | exact Or.inl rfl | exact Or.inr rfl) (pe_call (ok_l_spoilt T) (hr.mono (by decide)) (by rfl) T.g_l_spoilt T.F_l_spoilt.kp T.b_l_spoilt .nil pass0 (pa_cons (pv 1) (pa_cons (pv 3) pa_nil))))
 (pss_cons (ps_if (PW.pt (pw_or (pt_chain uLt uLt pe_int (pe_op uMod (pv 3) pe_int) pe_int) (pw_or1 (PW.pt (pw_and (pt_val (pe_callB call_isi (by rfl) T.z_isinstance (by decide +kernel) (pa_cons (pv 1) (pa_cons (pe_bltn (by rfl) T.z_dict (by decide +kernel) rfl) pa_nil)))) (pw_and1 (pt_cmpR uGt (pe_callB uLen (by rfl) T.z_len (by decide +kernel) (pa_cons (pv 1) pa_nil)) pe_int (nomark _)))))))) (pss_one (ps_ret (pe_call (ok_l_refused T) (hr.mono (by decide)) (by rfl) T.g_l_refused T.F_l_refused.kp T.b_l_refused .nil pass0 (pa_cons (pv 1) pa_nil)))) pss_nil)
 (pss_cons (ps_set (i := 4) sc_law.nd rfl (by first | exact Or.inl rfl | exact Or.inr rfl) (pe_callTy (uDictC rfl) (by rfl) T.z_dict (by decide +kernel) (pa_cons (pv 1) pa_nil)))
 (pss_cons (ps_set (i := 5) sc_law.nd rfl (by first | exact Or.inl rfl | exact Or.inr rfl) (pe_call (ok_need_book T) (hr.mono (by decide)) (by rfl) T.g_need_book T.F_need_book.kp T.b_need_book .nil passL (pa_cons (pv 1) pa_nil)))
 (pss_cons (ps_if (PW.pt (pw_or (pt_not (pt_val (pe_callB call_isi (by rfl) T.z_isinstance (by decide +kernel) (pa_cons (pv 5) (pa_cons (pe_bltn (by rfl) T.z_dict (by decide +kernel) rfl) pa_nil))))) (pw_or (pt_cmpR (uNe (hU hr)) (pv 5) (pv 4) (nomark _)) (pw_or1 (pt_cmpR (uNe (hU hr)) (pv 1) (pv 4) (nomark _)))))) (pss_one (ps_ret pe_bl)) pss_nil)
 (pss_cons (ps_asg (pe_tup (pa_cons pe_str (pa_cons pe_int pa_nil))) (pg_sub (pv 5) pe_int (uSet (hU hr))))
 (pss_cons (ps_set (i := 6) sc_law.nd rfl (by first | exact Or.inl rfl | exact Or.inr rfl) (pe_call (ok_need_book T) (hr.mono (by decide)) (by rfl) T.g_need_book T.F_need_book.kp T.b_need_book .nil passL (pa_cons (pv 1) pa_nil)))
 (pss_cons (ps_asg (pe_tup (pa_cons pe_str (pa_cons pe_int pa_nil))) (pg_sub (pv 1) pe_int (uSet (hU hr))))
 (pss_one (ps_ret (pe_and (pe_cmpR (uEq (hU hr)) (pv 6) (pv 4) (nomark _)) (pe_one (pe_cmpR (uNi (hU hr)) pe_int (pv 1) (by rfl)))))))))))))))))), pure_law_k02 h⟩)
end
end R
namespace R
open PySem L2 S
theorem all_mk {l : PySem.W.OpenLaw} {w : World} {K : PySem.W.Frag} {h : Heap} {mg : Str → Option Value} {fa f1 f2 f3 f4 f5 f6 f7 f8 f9 f10 f11 f12 f13 f14 f15 f16 : Addr} (X : K.In h) (G : h.Ns mainGlobals mg) (hfa : mg "law" = some (.ref fa))
    {C_BadBook C_BadEntry C_BadText C_BookError C_Closed C_Gone C_NoEntry C_TooMany : Addr}
    {t_LETTERS t_MOST t_MOST_DAY t_MOST_LETTERS t_MOST_WORTH : Tok}
    {od1 an1 od2 an2 od3 an3 od4 an4 od5 an5 od6 an6 od7 an7 od8 an8 od9 an9 od10 an10 od11 an11 od12 an12 od13 an13 od14 an14 od15 an15 od16 an16 : Option Addr} {sl1 sl2 sl3 sl4 sl5 sl6 sl7 sl8 sl9 sl10 sl11 sl12 sl13 sl14 sl15 sl16 : Array (Option Value)} {oc1 kV1 dc1 pm1 cd1 ct1 oc2 kV2 dc2 pm2 cd2 ct2 oc3 kV3 dc3 pm3 cd3 ct3 oc4 kV4 dc4 pm4 cd4 ct4 oc5 kV5 dc5 pm5 cd5 ct5 oc6 kV6 dc6 pm6 cd6 ct6 oc7 kV7 dc7 pm7 cd7 ct7 oc8 kV8 dc8 pm8 cd8 ct8 oc9 kV9 dc9 pm9 cd9 ct9 oc10 kV10 dc10 pm10 cd10 ct10 oc11 kV11 dc11 pm11 cd11 ct11 oc12 kV12 dc12 pm12 cd12 ct12 oc13 kV13 dc13 pm13 cd13 ct13 oc14 kV14 dc14 pm14 cd14 ct14 oc15 kV15 dc15 pm15 cd15 ct15 oc16 kV16 dc16 pm16 cd16 ct16 : Value}
    (g_BadBook : PySem.W.nsIn K mainGlobals "BadBook" = some (some (.ref C_BadBook)))
    (g_BadEntry : PySem.W.nsIn K mainGlobals "BadEntry" = some (some (.ref C_BadEntry)))
    (g_BadText : PySem.W.nsIn K mainGlobals "BadText" = some (some (.ref C_BadText)))
    (g_BookError : PySem.W.nsIn K mainGlobals "BookError" = some (some (.ref C_BookError)))
    (g_Closed : PySem.W.nsIn K mainGlobals "Closed" = some (some (.ref C_Closed)))
    (g_Gone : PySem.W.nsIn K mainGlobals "Gone" = some (some (.ref C_Gone)))
    (g_NoEntry : PySem.W.nsIn K mainGlobals "NoEntry" = some (some (.ref C_NoEntry)))
    (g_TooMany : PySem.W.nsIn K mainGlobals "TooMany" = some (some (.ref C_TooMany)))
    (ehg_BadBook : PySem.W.findIn K (.ref C_BadBook) "__getattribute__" = some (some (.builtin "BaseException.__getattribute__")))
    (ehk_BadBook : PySem.W.findIn K (.ref C_BadBook) "__getattr__" = some none)
    (ehs_BadBook : PySem.W.subIn K (.ref C_BadBook) (.type "BaseException") = some true)
    (ehd_BadBook : PySem.W.hasDictIn K C_BadBook = true)
    (eha_BadBook : PySem.W.findIn K (.ref C_BadBook) "__class__" = some (some (.builtin "object.__class__")))
    (ehn_BadBook : PySem.W.specialIn K (.builtin "object.__class__") "__get__" = some (some (.builtin "getset_descriptor.__get__")))
    (eht_BadBook : PySem.W.takesIn K (.builtin "object.__class__") = some true)
    (ehm_BadBook : PySem.W.mroIn K C_BadBook (.type "object") = some true)
    (ebk_BadBook : PySem.W.exmOne K (.ref C_BadBook) (.ref C_BookError) = some true)
    (eve_BadBook : PySem.W.kitOne K (.ref C_BadBook) (.type "ValueError") = some true)
    (eq0_BadBook : PySem.W.kitOne K (.ref C_BadBook) (.ref C_BadEntry) = some false)
    (eq1_BadBook : PySem.W.kitOne K (.ref C_BadBook) (.ref C_BadBook) = some true)
    (eq2_BadBook : PySem.W.kitOne K (.ref C_BadBook) (.ref C_NoEntry) = some false)
    (eq3_BadBook : PySem.W.kitOne K (.ref C_BadBook) (.ref C_Closed) = some false)
    (eq4_BadBook : PySem.W.kitOne K (.ref C_BadBook) (.ref C_TooMany) = some false)
    (eq5_BadBook : PySem.W.kitOne K (.ref C_BadBook) (.ref C_Gone) = some false)
    (eq6_BadBook : PySem.W.kitOne K (.ref C_BadBook) (.ref C_BadText) = some false)
    (x_BadBook : PySem.W.excIn K C_BadBook [.type "ValueError", .type "Exception", .type "BaseException", .type "object"] "ValueError.__new__" = true) (kp_BadBook : PySem.W.keepIn K (.ref C_BadBook) = true) (be_BadBook : PySem.W.subIn K (.ref C_BadBook) (.type "BaseException") = some true) (ty_BadBook : PySem.W.typeIn K (.ref C_BadBook) = some (.type "type"))
    (a1 : PySem.W.nsIn K mainGlobals "_law_names" = some (some (.ref f1)))
    (l1 : K.lookup f1 = some ⟨oc1, od1, .func (PySem.W.fnOf "_law_names" "_law_names" (defArgs s_l_names) (defBody s_l_names) (defScope s_l_names) .none kV1 dc1 pm1 an1 cd1 ct1), sl1⟩) (c1 : PySem.W.codeIn K cd1 "_law_names" = true) (k1 : PySem.W.keepIn K (.ref f1) = true)
    (a2 : PySem.W.nsIn K mainGlobals "_law_of" = some (some (.ref f2)))
    (l2 : K.lookup f2 = some ⟨oc2, od2, .func (PySem.W.fnOf "_law_of" "_law_of" (defArgs s_l_of) (defBody s_l_of) (defScope s_l_of) .none kV2 dc2 pm2 an2 cd2 ct2), sl2⟩) (c2 : PySem.W.codeIn K cd2 "_law_of" = true) (k2 : PySem.W.keepIn K (.ref f2) = true)
    (a3 : PySem.W.nsIn K mainGlobals "_law_entry" = some (some (.ref f3)))
    (l3 : K.lookup f3 = some ⟨oc3, od3, .func (PySem.W.fnOf "_law_entry" "_law_entry" (defArgs s_l_entry) (defBody s_l_entry) (defScope s_l_entry) .none kV3 dc3 pm3 an3 cd3 ct3), sl3⟩) (c3 : PySem.W.codeIn K cd3 "_law_entry" = true) (k3 : PySem.W.keepIn K (.ref f3) = true)
    (a4 : PySem.W.nsIn K mainGlobals "_law_base" = some (some (.ref f4)))
    (l4 : K.lookup f4 = some ⟨oc4, od4, .func (PySem.W.fnOf "_law_base" "_law_base" (defArgs s_l_base) (defBody s_l_base) (defScope s_l_base) .none kV4 dc4 pm4 an4 cd4 ct4), sl4⟩) (c4 : PySem.W.codeIn K cd4 "_law_base" = true) (k4 : PySem.W.keepIn K (.ref f4) = true)
    (a5 : PySem.W.nsIn K mainGlobals "_law_book" = some (some (.ref f5)))
    (l5 : K.lookup f5 = some ⟨oc5, od5, .func (PySem.W.fnOf "_law_book" "_law_book" (defArgs s_l_book) (defBody s_l_book) (defScope s_l_book) .none kV5 dc5 pm5 an5 cd5 ct5), sl5⟩) (c5 : PySem.W.codeIn K cd5 "_law_book" = true) (k5 : PySem.W.keepIn K (.ref f5) = true)
    (a6 : PySem.W.nsIn K mainGlobals "_law_spoilt" = some (some (.ref f6)))
    (l6 : K.lookup f6 = some ⟨oc6, od6, .func (PySem.W.fnOf "_law_spoilt" "_law_spoilt" (defArgs s_l_spoilt) (defBody s_l_spoilt) (defScope s_l_spoilt) .none kV6 dc6 pm6 an6 cd6 ct6), sl6⟩) (c6 : PySem.W.codeIn K cd6 "_law_spoilt" = true) (k6 : PySem.W.keepIn K (.ref f6) = true)
    (a7 : PySem.W.nsIn K mainGlobals "is_number" = some (some (.ref f7)))
    (l7 : K.lookup f7 = some ⟨oc7, od7, .func (PySem.W.fnOf "is_number" "is_number" (defArgs s_is_number) (defBody s_is_number) (defScope s_is_number) .none kV7 dc7 pm7 an7 cd7 ct7), sl7⟩) (c7 : PySem.W.codeIn K cd7 "is_number" = true) (k7 : PySem.W.keepIn K (.ref f7) = true)
    (a8 : PySem.W.nsIn K mainGlobals "is_name" = some (some (.ref f8)))
    (l8 : K.lookup f8 = some ⟨oc8, od8, .func (PySem.W.fnOf "is_name" "is_name" (defArgs s_is_name) (defBody s_is_name) (defScope s_is_name) .none kV8 dc8 pm8 an8 cd8 ct8), sl8⟩) (c8 : PySem.W.codeIn K cd8 "is_name" = true) (k8 : PySem.W.keepIn K (.ref f8) = true)
    (a9 : PySem.W.nsIn K mainGlobals "is_among" = some (some (.ref f9)))
    (l9 : K.lookup f9 = some ⟨oc9, od9, .func (PySem.W.fnOf "is_among" "is_among" (defArgs s_is_among) (defBody s_is_among) (defScope s_is_among) .none kV9 dc9 pm9 an9 cd9 ct9), sl9⟩) (c9 : PySem.W.codeIn K cd9 "is_among" = true) (k9 : PySem.W.keepIn K (.ref f9) = true)
    (a10 : PySem.W.nsIn K mainGlobals "is_day" = some (some (.ref f10)))
    (l10 : K.lookup f10 = some ⟨oc10, od10, .func (PySem.W.fnOf "is_day" "is_day" (defArgs s_is_day) (defBody s_is_day) (defScope s_is_day) .none kV10 dc10 pm10 an10 cd10 ct10), sl10⟩) (c10 : PySem.W.codeIn K cd10 "is_day" = true) (k10 : PySem.W.keepIn K (.ref f10) = true)
    (a11 : PySem.W.nsIn K mainGlobals "is_said" = some (some (.ref f11)))
    (l11 : K.lookup f11 = some ⟨oc11, od11, .func (PySem.W.fnOf "is_said" "is_said" (defArgs s_is_said) (defBody s_is_said) (defScope s_is_said) .none kV11 dc11 pm11 an11 cd11 ct11), sl11⟩) (c11 : PySem.W.codeIn K cd11 "is_said" = true) (k11 : PySem.W.keepIn K (.ref f11) = true)
    (a12 : PySem.W.nsIn K mainGlobals "is_worth" = some (some (.ref f12)))
    (l12 : K.lookup f12 = some ⟨oc12, od12, .func (PySem.W.fnOf "is_worth" "is_worth" (defArgs s_is_worth) (defBody s_is_worth) (defScope s_is_worth) .none kV12 dc12 pm12 an12 cd12 ct12), sl12⟩) (c12 : PySem.W.codeIn K cd12 "is_worth" = true) (k12 : PySem.W.keepIn K (.ref f12) = true)
    (a13 : PySem.W.nsIn K mainGlobals "is_entry" = some (some (.ref f13)))
    (l13 : K.lookup f13 = some ⟨oc13, od13, .func (PySem.W.fnOf "is_entry" "is_entry" (defArgs s_is_entry) (defBody s_is_entry) (defScope s_is_entry) .none kV13 dc13 pm13 an13 cd13 ct13), sl13⟩) (c13 : PySem.W.codeIn K cd13 "is_entry" = true) (k13 : PySem.W.keepIn K (.ref f13) = true)
    (a14 : PySem.W.nsIn K mainGlobals "need_book" = some (some (.ref f14)))
    (l14 : K.lookup f14 = some ⟨oc14, od14, .func (PySem.W.fnOf "need_book" "need_book" (defArgs s_need_book) (defBody s_need_book) (defScope s_need_book) .none kV14 dc14 pm14 an14 cd14 ct14), sl14⟩) (c14 : PySem.W.codeIn K cd14 "need_book" = true) (k14 : PySem.W.keepIn K (.ref f14) = true)
    (a15 : PySem.W.nsIn K mainGlobals "_law_refused" = some (some (.ref f15)))
    (l15 : K.lookup f15 = some ⟨oc15, od15, .func (PySem.W.fnOf "_law_refused" "_law_refused" (defArgs s_l_refused) (defBody s_l_refused) (defScope s_l_refused) .none kV15 dc15 pm15 an15 cd15 ct15), sl15⟩) (c15 : PySem.W.codeIn K cd15 "_law_refused" = true) (k15 : PySem.W.keepIn K (.ref f15) = true)
    (a16 : PySem.W.nsIn K mainGlobals "law" = some (some (.ref f16)))
    (l16 : K.lookup f16 = some ⟨oc16, od16, .func (PySem.W.fnOf "law" "law" (defArgs s_law) (defBody s_law) (defScope s_law) .none kV16 dc16 pm16 an16 cd16 ct16), sl16⟩) (c16 : PySem.W.codeIn K cd16 "law" = true) (k16 : PySem.W.keepIn K (.ref f16) = true)
    (z_ValueError : PySem.W.nsIn K mainGlobals "ValueError" = some none)
    (z_bool : PySem.W.nsIn K mainGlobals "bool" = some none)
    (z_dict : PySem.W.nsIn K mainGlobals "dict" = some none)
    (z_int : PySem.W.nsIn K mainGlobals "int" = some none)
    (z_isinstance : PySem.W.nsIn K mainGlobals "isinstance" = some none)
    (z_len : PySem.W.nsIn K mainGlobals "len" = some none)
    (z_min : PySem.W.nsIn K mainGlobals "min" = some none)
    (z_range : PySem.W.nsIn K mainGlobals "range" = some none)
    (z_str : PySem.W.nsIn K mainGlobals "str" = some none)
    (z_tuple : PySem.W.nsIn K mainGlobals "tuple" = some none)
    (k_LETTERS : PySem.W.nsIn K mainGlobals "LETTERS" = some (some (.str "abcdefghijklmnopqrstuvwxyz" t_LETTERS)))
    (k_MOST : PySem.W.nsIn K mainGlobals "MOST" = some (some (.int 30 t_MOST)))
    (k_MOST_DAY : PySem.W.nsIn K mainGlobals "MOST_DAY" = some (some (.int 1000000 t_MOST_DAY)))
    (k_MOST_LETTERS : PySem.W.nsIn K mainGlobals "MOST_LETTERS" = some (some (.int 8 t_MOST_LETTERS)))
    (k_MOST_WORTH : PySem.W.nsIn K mainGlobals "MOST_WORTH" = some (some (.int 1000000000 t_MOST_WORTH)))
    : ∃ fd : FuncData, (∀ (s : Shared) (v : Value), BindsTo s fd ⟨[v], []⟩ [("_law_script", v)]) ∧ ∀ base : Heap, K.In base → base.Ns mainGlobals mg → FnOk l.prog w K mg base CX0 7 fa fd ["_law_script"] (sp_law_k02 K ⟨0, 0, 0, 0, 0, 0, 0, 0, 0⟩) := by
  have e := hfa.symm.trans (PySem.W.mg_of X G a16)
  cases e
  have F1 := fun_mk (st := s_l_names) l1 c1 k1
  have b1 := F1.binds (ps := ["_law_cell", "_law_many"]) fun _ _ _ _ _ _ us hl => match us, hl with | [_, _], _ => rfl
  have F2 := fun_mk (st := s_l_of) l2 c2 k2
  have b2 := F2.binds (ps := ["_law_script", "_law_k"]) fun _ _ _ _ _ _ us hl => match us, hl with | [_, _], _ => rfl
  have F3 := fun_mk (st := s_l_entry) l3 c3 k3
  have b3 := F3.binds (ps := ["_law_names_here", "_law_base_here", "_law_n", "_law_number"]) fun _ _ _ _ _ _ us hl => match us, hl with | [_, _, _, _], _ => rfl
  have F4 := fun_mk (st := s_l_base) l4 c4 k4
  have b4 := F4.binds (ps := ["_law_script"]) fun _ _ _ _ _ _ us hl => match us, hl with | [_], _ => rfl
  have F5 := fun_mk (st := s_l_book) l5 c5 k5
  have b5 := F5.binds (ps := ["_law_script", "_law_many"]) fun _ _ _ _ _ _ us hl => match us, hl with | [_, _], _ => rfl
  have F6 := fun_mk (st := s_l_spoilt) l6 c6 k6
  have b6 := F6.binds (ps := ["_law_book_here", "_law_cell"]) fun _ _ _ _ _ _ us hl => match us, hl with | [_, _], _ => rfl
  have F7 := fun_mk (st := s_is_number) l7 c7 k7
  have b7 := F7.binds (ps := ["thing"]) fun _ _ _ _ _ _ us hl => match us, hl with | [_], _ => rfl
  have F8 := fun_mk (st := s_is_name) l8 c8 k8
  have b8 := F8.binds (ps := ["thing"]) fun _ _ _ _ _ _ us hl => match us, hl with | [_], _ => rfl
  have F9 := fun_mk (st := s_is_among) l9 c9 k9
  have b9 := F9.binds (ps := ["thing", "least", "most"]) fun _ _ _ _ _ _ us hl => match us, hl with | [_, _, _], _ => rfl
  have F10 := fun_mk (st := s_is_day) l10 c10 k10
  have b10 := F10.binds (ps := ["thing"]) fun _ _ _ _ _ _ us hl => match us, hl with | [_], _ => rfl
  have F11 := fun_mk (st := s_is_said) l11 c11 k11
  have b11 := F11.binds (ps := ["entry", "parts"]) fun _ _ _ _ _ _ us hl => match us, hl with | [_, _], _ => rfl
  have F12 := fun_mk (st := s_is_worth) l12 c12 k12
  have b12 := F12.binds (ps := ["thing"]) fun _ _ _ _ _ _ us hl => match us, hl with | [_], _ => rfl
  have F13 := fun_mk (st := s_is_entry) l13 c13 k13
  have b13 := F13.binds (ps := ["entry"]) fun _ _ _ _ _ _ us hl => match us, hl with | [_], _ => rfl
  have F14 := fun_mk (st := s_need_book) l14 c14 k14
  have b14 := F14.binds (ps := ["book"]) fun _ _ _ _ _ _ us hl => match us, hl with | [_], _ => rfl
  have F15 := fun_mk (st := s_l_refused) l15 c15 k15
  have b15 := F15.binds (ps := ["_law_book_here"]) fun _ _ _ _ _ _ us hl => match us, hl with | [_], _ => rfl
  have F16 := fun_mk (st := s_law) l16 c16 k16
  have b16 := F16.binds (ps := ["_law_script"]) fun _ _ _ _ _ _ us hl => match us, hl with | [_], _ => rfl
  let a : Ad := { f_l_names := f1, f_l_of := f2, f_l_entry := f3, f_l_base := f4, f_l_book := f5, f_l_spoilt := f6, f_is_number := f7, f_is_name := f8, f_is_among := f9, f_is_day := f10, f_is_said := f11, f_is_worth := f12, f_is_entry := f13, f_need_book := f14, f_l_refused := f15, f_law := fa, t_LETTERS := t_LETTERS, t_MOST := t_MOST, t_MOST_DAY := t_MOST_DAY, t_MOST_LETTERS := t_MOST_LETTERS, t_MOST_WORTH := t_MOST_WORTH, C := ⟨C_BookError, C_BadEntry, C_BadBook, C_NoEntry, C_Closed, C_TooMany, C_Gone, C_BadText, 0⟩ }
  let d : Fd := { d_l_names := PySem.W.fnOf "_law_names" "_law_names" (defArgs s_l_names) (defBody s_l_names) (defScope s_l_names) .none kV1 dc1 pm1 an1 cd1 ct1, d_l_of := PySem.W.fnOf "_law_of" "_law_of" (defArgs s_l_of) (defBody s_l_of) (defScope s_l_of) .none kV2 dc2 pm2 an2 cd2 ct2, d_l_entry := PySem.W.fnOf "_law_entry" "_law_entry" (defArgs s_l_entry) (defBody s_l_entry) (defScope s_l_entry) .none kV3 dc3 pm3 an3 cd3 ct3, d_l_base := PySem.W.fnOf "_law_base" "_law_base" (defArgs s_l_base) (defBody s_l_base) (defScope s_l_base) .none kV4 dc4 pm4 an4 cd4 ct4, d_l_book := PySem.W.fnOf "_law_book" "_law_book" (defArgs s_l_book) (defBody s_l_book) (defScope s_l_book) .none kV5 dc5 pm5 an5 cd5 ct5, d_l_spoilt := PySem.W.fnOf "_law_spoilt" "_law_spoilt" (defArgs s_l_spoilt) (defBody s_l_spoilt) (defScope s_l_spoilt) .none kV6 dc6 pm6 an6 cd6 ct6, d_is_number := PySem.W.fnOf "is_number" "is_number" (defArgs s_is_number) (defBody s_is_number) (defScope s_is_number) .none kV7 dc7 pm7 an7 cd7 ct7, d_is_name := PySem.W.fnOf "is_name" "is_name" (defArgs s_is_name) (defBody s_is_name) (defScope s_is_name) .none kV8 dc8 pm8 an8 cd8 ct8, d_is_among := PySem.W.fnOf "is_among" "is_among" (defArgs s_is_among) (defBody s_is_among) (defScope s_is_among) .none kV9 dc9 pm9 an9 cd9 ct9, d_is_day := PySem.W.fnOf "is_day" "is_day" (defArgs s_is_day) (defBody s_is_day) (defScope s_is_day) .none kV10 dc10 pm10 an10 cd10 ct10, d_is_said := PySem.W.fnOf "is_said" "is_said" (defArgs s_is_said) (defBody s_is_said) (defScope s_is_said) .none kV11 dc11 pm11 an11 cd11 ct11, d_is_worth := PySem.W.fnOf "is_worth" "is_worth" (defArgs s_is_worth) (defBody s_is_worth) (defScope s_is_worth) .none kV12 dc12 pm12 an12 cd12 ct12, d_is_entry := PySem.W.fnOf "is_entry" "is_entry" (defArgs s_is_entry) (defBody s_is_entry) (defScope s_is_entry) .none kV13 dc13 pm13 an13 cd13 ct13, d_need_book := PySem.W.fnOf "need_book" "need_book" (defArgs s_need_book) (defBody s_need_book) (defScope s_need_book) .none kV14 dc14 pm14 an14 cd14 ct14, d_l_refused := PySem.W.fnOf "_law_refused" "_law_refused" (defArgs s_l_refused) (defBody s_l_refused) (defScope s_l_refused) .none kV15 dc15 pm15 an15 cd15 ct15, d_law := PySem.W.fnOf "law" "law" (defArgs s_law) (defBody s_law) (defScope s_law) .none kV16 dc16 pm16 an16 cd16 ct16 }
  have T : Txt K mg a d := { F_l_names := F1, b_l_names := b1, g_l_names := PySem.W.mg_of X G a1, F_l_of := F2, b_l_of := b2, g_l_of := PySem.W.mg_of X G a2, F_l_entry := F3, b_l_entry := b3, g_l_entry := PySem.W.mg_of X G a3, F_l_base := F4, b_l_base := b4, g_l_base := PySem.W.mg_of X G a4, F_l_book := F5, b_l_book := b5, g_l_book := PySem.W.mg_of X G a5, F_l_spoilt := F6, b_l_spoilt := b6, g_l_spoilt := PySem.W.mg_of X G a6, F_is_number := F7, b_is_number := b7, g_is_number := PySem.W.mg_of X G a7, F_is_name := F8, b_is_name := b8, g_is_name := PySem.W.mg_of X G a8, F_is_among := F9, b_is_among := b9, g_is_among := PySem.W.mg_of X G a9, F_is_day := F10, b_is_day := b10, g_is_day := PySem.W.mg_of X G a10, F_is_said := F11, b_is_said := b11, g_is_said := PySem.W.mg_of X G a11, F_is_worth := F12, b_is_worth := b12, g_is_worth := PySem.W.mg_of X G a12, F_is_entry := F13, b_is_entry := b13, g_is_entry := PySem.W.mg_of X G a13, F_need_book := F14, b_need_book := b14, g_need_book := PySem.W.mg_of X G a14, F_l_refused := F15, b_l_refused := b15, g_l_refused := PySem.W.mg_of X G a15, F_law := F16, b_law := b16, g_law := PySem.W.mg_of X G a16, g_BadBook := PySem.W.mg_of X G g_BadBook, g_BadEntry := PySem.W.mg_of X G g_BadEntry, g_BadText := PySem.W.mg_of X G g_BadText, g_BookError := PySem.W.mg_of X G g_BookError, g_Closed := PySem.W.mg_of X G g_Closed, g_Gone := PySem.W.mg_of X G g_Gone, g_NoEntry := PySem.W.mg_of X G g_NoEntry, g_TooMany := PySem.W.mg_of X G g_TooMany, ef_BadBook := ⟨⟨ehg_BadBook, ehk_BadBook, ehs_BadBook, ehd_BadBook, eha_BadBook, ehn_BadBook, eht_BadBook, ehm_BadBook⟩, ebk_BadBook, eve_BadBook, eq0_BadBook, eq1_BadBook, eq2_BadBook, eq3_BadBook, eq4_BadBook, eq5_BadBook, eq6_BadBook⟩, x_BadBook := x_BadBook, kp_BadBook := kp_BadBook, be_BadBook := be_BadBook, ty_BadBook := ty_BadBook, z_ValueError := PySem.W.mg_none_of X G z_ValueError, z_bool := PySem.W.mg_none_of X G z_bool, z_dict := PySem.W.mg_none_of X G z_dict, z_int := PySem.W.mg_none_of X G z_int, z_isinstance := PySem.W.mg_none_of X G z_isinstance, z_len := PySem.W.mg_none_of X G z_len, z_min := PySem.W.mg_none_of X G z_min, z_range := PySem.W.mg_none_of X G z_range, z_str := PySem.W.mg_none_of X G z_str, z_tuple := PySem.W.mg_none_of X G z_tuple, k_LETTERS := PySem.W.mg_of X G k_LETTERS, k_MOST := PySem.W.mg_of X G k_MOST, k_MOST_DAY := PySem.W.mg_of X G k_MOST_DAY, k_MOST_LETTERS := PySem.W.mg_of X G k_MOST_LETTERS, k_MOST_WORTH := PySem.W.mg_of X G k_MOST_WORTH }
  exact ⟨d.d_law, fun s v => .of_eq rfl, fun base _ _ => ok_law T⟩
theorem walk {l : PySem.W.OpenLaw} {q : Program} {loose : List Str} {XP : (Str → Option Value) → Heap → Prop} {YP : World → Heap → Prop} {d : DefRec} {K : Params → PySem.W.Frag} (hn : l.most = some 63) (hdf : d.params.defaults = [])
    (hY : ∀ (w : World) (h : Heap), YP w h → (K w.params).In h)
    (F : ∀ (w : World) (mg : Str → Option Value) (fa : Addr) (h : Heap), (K w.params).In h → h.Ns mainGlobals mg → mg d.name = some (.ref fa) →
      ∃ fd : FuncData, (∀ (s : Shared) (u : Value), BindsTo s fd ⟨[u], []⟩ [("_law_script", u)]) ∧ ∀ base : Heap, (K w.params).In base → base.Ns mainGlobals mg → FnOk l.prog w (K w.params) mg base CX0 7 fa fd ["_law_script"] (sp_law_k02 (K w.params) ⟨0, 0, 0, 0, 0, 0, 0, 0, 0⟩)) :
    PySem.W.WalkO q loose XP YP l.row.toRowW d [] (fun f vs => PySem.call f vs) :=
  L2.walk_of (n := 63) (k := 7) (x := "_law_script") (CX := fun _ => CX0) (sp := fun w => sp_law_k02 (K w.params) ⟨0, 0, 0, 0, 0, 0, 0, 0, 0⟩) hn (by decide) hdf ⟨rfl, by decide, by decide⟩ hY F (fun _ _ a ns hl _ hS => ⟨a, ns, rfl, hS, hl, fun _ => rfl⟩) fun _ _ _ _ _ z => z
end R
open PySem PySem.W PyProof.Rows
set_option maxRecDepth 100000 in
set_option maxHeartbeats 0 in
theorem PySem.Challenge.cw_saidthen_k02_books_holds : PySem.Challenge.rw_saidthen_k02_books.Holds := by
  w_on; o_law; k_head; (case hw => w_witness2)
  k_fill
  refine R.walk (l := PySem.Challenge.rw_saidthen_k02_books) rfl rfl (fun w h Y => PySem.W.kIn_of Y) ?F
  case F =>
    intro w mg fa h KX G hmg
    refine' R.all_mk KX G hmg ?g_BadBook ?g_BadEntry ?g_BadText ?g_BookError ?g_Closed ?g_Gone ?g_NoEntry ?g_TooMany ?ehg_BadBook ?ehk_BadBook ?ehs_BadBook ?ehd_BadBook ?eha_BadBook ?ehn_BadBook ?eht_BadBook ?ehm_BadBook ?ebk_BadBook ?eve_BadBook ?eq0_BadBook ?eq1_BadBook ?eq2_BadBook ?eq3_BadBook ?eq4_BadBook ?eq5_BadBook ?eq6_BadBook ?x_BadBook ?kp_BadBook ?be_BadBook ?ty_BadBook ?a1 ?l1 ?c1 ?k1 ?a2 ?l2 ?c2 ?k2 ?a3 ?l3 ?c3 ?k3 ?a4 ?l4 ?c4 ?k4 ?a5 ?l5 ?c5 ?k5 ?a6 ?l6 ?c6 ?k6 ?a7 ?l7 ?c7 ?k7 ?a8 ?l8 ?c8 ?k8 ?a9 ?l9 ?c9 ?k9 ?a10 ?l10 ?c10 ?k10 ?a11 ?l11 ?c11 ?k11 ?a12 ?l12 ?c12 ?k12 ?a13 ?l13 ?c13 ?k13 ?a14 ?l14 ?c14 ?k14 ?a15 ?l15 ?c15 ?k15 ?a16 ?l16 ?c16 ?k16 ?z_ValueError ?z_bool ?z_dict ?z_int ?z_isinstance ?z_len ?z_min ?z_range ?z_str ?z_tuple ?k_LETTERS ?k_MOST ?k_MOST_DAY ?k_MOST_LETTERS ?k_MOST_WORTH
    (case g_BadBook => k_is)
    (case g_BadEntry => k_is)
    (case g_BadText => k_is)
    (case g_BookError => k_is)
    (case g_Closed => k_is)
    (case g_Gone => k_is)
    (case g_NoEntry => k_is)
    (case g_TooMany => k_is)
    (case ehg_BadBook => k_is)
    (case ehk_BadBook => k_is)
    (case ehs_BadBook => k_is)
    (case ehd_BadBook => k_is)
    (case eha_BadBook => k_is)
    (case ehn_BadBook => k_is)
    (case eht_BadBook => k_is)
    (case ehm_BadBook => k_is)
    (case ebk_BadBook => (first | k_is | rfl | decide +kernel))
    (case eve_BadBook => (first | k_is | rfl | decide +kernel))
    (case eq0_BadBook => (first | k_is | rfl | decide +kernel))
    (case eq1_BadBook => (first | k_is | rfl | decide +kernel))
    (case eq2_BadBook => (first | k_is | rfl | decide +kernel))
    (case eq3_BadBook => (first | k_is | rfl | decide +kernel))
    (case eq4_BadBook => (first | k_is | rfl | decide +kernel))
    (case eq5_BadBook => (first | k_is | rfl | decide +kernel))
    (case eq6_BadBook => (first | k_is | rfl | decide +kernel))
    (case x_BadBook => k_exc)
    (case kp_BadBook => k_is)
    (case be_BadBook => k_is)
    (case ty_BadBook => k_is)
    (case a1 => k_is)
    (case l1 => k_is)
    (case c1 => k_is)
    (case k1 => k_is)
    (case a2 => k_is)
    (case l2 => k_is)
    (case c2 => k_is)
    (case k2 => k_is)
    (case a3 => k_is)
    (case l3 => k_is)
    (case c3 => k_is)
    (case k3 => k_is)
    (case a4 => k_is)
    (case l4 => k_is)
    (case c4 => k_is)
    (case k4 => k_is)
    (case a5 => k_is)
    (case l5 => k_is)
    (case c5 => k_is)
    (case k5 => k_is)
    (case a6 => k_is)
    (case l6 => k_is)
    (case c6 => k_is)
    (case k6 => k_is)
    (case a7 => k_is)
    (case l7 => k_is)
    (case c7 => k_is)
    (case k7 => k_is)
    (case a8 => k_is)
    (case l8 => k_is)
    (case c8 => k_is)
    (case k8 => k_is)
    (case a9 => k_is)
    (case l9 => k_is)
    (case c9 => k_is)
    (case k9 => k_is)
    (case a10 => k_is)
    (case l10 => k_is)
    (case c10 => k_is)
    (case k10 => k_is)
    (case a11 => k_is)
    (case l11 => k_is)
    (case c11 => k_is)
    (case k11 => k_is)
    (case a12 => k_is)
    (case l12 => k_is)
    (case c12 => k_is)
    (case k12 => k_is)
    (case a13 => k_is)
    (case l13 => k_is)
    (case c13 => k_is)
    (case k13 => k_is)
    (case a14 => k_is)
    (case l14 => k_is)
    (case c14 => k_is)
    (case k14 => k_is)
    (case a15 => k_is)
    (case l15 => k_is)
    (case c15 => k_is)
    (case k15 => k_is)
    (case a16 => k_is)
    (case l16 => k_is)
    (case c16 => k_is)
    (case k16 => k_is)
    (case z_ValueError => k_is)
    (case z_bool => k_is)
    (case z_dict => k_is)
    (case z_int => k_is)
    (case z_isinstance => k_is)
    (case z_len => k_is)
    (case z_min => k_is)
    (case z_range => k_is)
    (case z_str => k_is)
    (case z_tuple => k_is)
    (case k_LETTERS => k_is)
    (case k_MOST => k_is)
    (case k_MOST_DAY => k_is)
    (case k_MOST_LETTERS => k_is)
    (case k_MOST_WORTH => k_is)
#print axioms PySem.Challenge.cw_saidthen_k02_books_holds
