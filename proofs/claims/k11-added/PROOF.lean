import PyProof.Rows.All
import Wide.All
import OpenK.AllK
import Wide.FinOn
import HandS.ForMost
import HandS.ForExc
import HandS.Evl
import HandS.IsInst
import HandS.SortKw
import HandS.Conv
import HandS.More
import HandS.Style
import HandS.EndBits
import HandS.DictComp
import HandS.Zip
import HandS.TupAny
import HandS.SortInts
import HandS.RaiseMore
import PyProof.Rows.StrRev
import HandS.Strs
import HandS.SetFor
import HandS.TryOnly
import HandS.ExcOwn
import HandS.WordsExc
import HandS.ExcIs
import HandS.SuiteRaise
import PyProof.P3In
import PyProof.Rows.InDataRows
import HandS.HotCalls
import HandS.Finally
import HandS.Walk
import PySem.Challenge.RW_saidthen_k11_added_and_refused
set_option Elab.async false
set_option linter.all false
set_option maxRecDepth 100000
set_option maxHeartbeats 4000000
set_option Elab.async false
set_option linter.all false
set_option maxRecDepth 100000
namespace S
open PySem PySem.Spec L2

theorem hU {k : Nat} {A : Around} (r : Room k A) : A.units + 100 < cLine := by have := r.un; omega
structure CA where
  (BookError BadEntry BadBook NoEntry Closed TooMany Gone BadText Keeper : Addr)
/-! ### one rule for an operator, whatever the operands are -/
def addS : R2 := fun x y H Q => ∃ i j, x = .str i ∧ y = .str j ∧ i.length + j.length ≤ sizeLine ∧ Q (.str (i ++ j)) H
def addI : R2 := rI0 fun i j => .int (i + j)
def subI : R2 := rI0 fun i j => .int (i - j)
def mulI : R2 := rI CMul fun i j => .int (i * j)
def divI : R2 := rI CDiv fun i j => .int (i / j)
def modI : R2 := rI (fun _ j => 0 < j) fun i j => .int (i % j)
def powI : R2 := rI CPow fun i j => .int (i ^ j.toNat)
def ltI : R2 := rI0 fun i j => .bl (decide (i < j))
def leI : R2 := rI0 fun i j => .bl (decide (i ≤ j))
def gtI : R2 := rI0 fun i j => .bl (decide (j < i))
def geI : R2 := rI0 fun i j => .bl (decide (j ≤ i))
def addA (K : PySem.W.Frag) : R2 := fun x y H Q => addI x y H Q ∨ addS x y H Q ∨ rCat x y H Q ∨ rCatA K x y H Q
/-- a dict's pairs and what they are as data -/
def DkIs (K : PySem.W.Frag) (H : Hp) : List (Key × V) → List (Key × PyData) → Prop := Paired fun p q => p.1 = q.1 ∧ Dp K H p.2 q.2
def valP (E : List (Key × PyData)) (k : Key) : Option PyData := (E.find? fun kv => decide (kv.1 = k)).map (·.2)
def hitP (E : List (Key × PyData)) (p : Key × PyData) : Bool := match valP E p.1 with
  | some e => PyData.eqv p.2 e
  | none => false
def dkEqv (D E : List (Key × PyData)) : Bool := (D.length == E.length) && D.all (hitP E)
/-- two dicts of data -/
def rEqDk (K : PySem.W.Frag) (neg : Bool) : R2 := fun x y H Q => ∃ a b ks ls D E, x = .ref a ∧ y = .ref b ∧ Rd H a (.dK ks) ∧ Rd H b (.dK ls) ∧ DkIs K H ks D ∧ DkIs K H ls E ∧
  (∀ p ∈ D, SeqAt.shaped p.2 = true) ∧ (∀ p ∈ E, SeqAt.shaped p.2 = true) ∧ Q (.bl (if neg then !dkEqv D E else dkEqv D E)) H
theorem shaped_of {d : PyData} (h : SeqAt.shaped d = true) : d.canLay0 = true ∧ d.depth ≤ 64 := by
  have h' : (d.canLay0 && decide (d.depth ≤ 64)) = true := h
  rw [Bool.and_eq_true] at h'
  exact ⟨h'.1, of_decide_eq_true h'.2⟩
theorem DkIs.val {K : PySem.W.Frag} {H : Hp} : ∀ {ks : List (Key × V)} {D : List (Key × PyData)}, DkIs K H ks D → ∀ k, (valV ks k = none ∧ valP D k = none) ∨ ∃ v d, valV ks k = some v ∧ valP D k = some d ∧ Dp K H v d ∧ ∃ p ∈ D, p.2 = d
  | _, _, .nil, k => .inl ⟨rfl, rfl⟩
  | p :: ks, q :: D, .cons h t, k => by
    by_cases e : p.1 = k
    · exact .inr ⟨p.2, q.2, valV_pos e, by unfold valP; simp [List.find?_cons, ← h.1, e], h.2, q, List.mem_cons_self, rfl⟩
    · have e2 : ¬ q.1 = k := by rw [← h.1]; exact e
      have eP : valP (q :: D) k = valP D k := by unfold valP; simp [List.find?_cons, e2]
      rcases DkIs.val (ks := ks) (D := D) t k with ⟨h1, h2⟩ | ⟨v, d, h1, h2, h3, p', h4, h5⟩
      · exact .inl ⟨(valV_neg e).trans h1, eP.trans h2⟩
      · exact .inr ⟨v, d, (valV_neg e).trans h1, eP.trans h2, h3, p', List.mem_cons_of_mem _ h4, h5⟩
theorem hits_data {X : Cx} {pins : List (Addr × Obj)} {σ : L2.St} {H : Hp} {s : Shared} (I : Inv X pins σ H s) {A : Around} (hA : A.units + 64 < cLine) {ls : List (Key × V)} {E : List (Key × PyData)} {vb : List (Key × Value)} (rb : KV ls vb) (dE : DkIs X.K H ls E) (sE : ∀ p ∈ E, SeqAt.shaped p.2 = true) :
    ∀ {ks : List (Key × V)} {D : List (Key × PyData)} {va : List (Key × Value)}, KV ks va → DkIs X.K H ks D → (∀ p ∈ D, SeqAt.shaped p.2 = true) → PySem.W.KeqHits A s vb va (D.all (hitP E))
  | _, _, _, .nil, .nil, _ => .nil
  | p :: ks, q :: D, (k, u) :: va, .cons r1 r2, .cons h t, sD => by
    have ih := hits_data I hA rb dE sE (ks := ks) (D := D) r2 t fun p' hp => sD p' (List.mem_cons_of_mem _ hp)
    have ek : p.1 = k := r1.1
    have eq : p.1 = q.1 := h.1
    rw [List.all_cons]
    rcases dE.val k with ⟨h1, h2⟩ | ⟨v, d, h1, h2, h3, p', h4, h5⟩
    · have hv : valueAt vb k = none := by
        have := rb.val k
        rw [h1] at this
        cases e : valueAt vb k with
        | none => rfl
        | some z => rw [e] at this; exact this.elim
      have e0 : hitP E q = false := by unfold hitP; rw [← eq, ek, h2]
      rw [e0, Bool.false_and]
      exact .miss hv
    · have rr : RelO (some v) (valueAt vb k) := by rw [← h1]; exact rb.val k
      obtain ⟨y, hy, ry⟩ := rr.some_of
      have e0 : hitP E q = PyData.eqv q.2 d := by unfold hitP; rw [← eq, ek, h2]
      rw [e0]
      obtain ⟨as, ra⟩ := Dp.reads I q.2 p.2 u h.2 r1.2
      obtain ⟨bs, rb'⟩ := Dp.reads I d v y h3 ry
      have s1 := shaped_of (sD q List.mem_cons_self)
      have s2 := shaped_of (sE p' h4)
      rw [h5] at s2
      exact .hit hy (SeqAt.eqAt_reads q.2 d A s u y as bs ra rb' s1.1 s2.1 (by have := s1.2; omega)) ih
def eqA (K : PySem.W.Frag) : R2 := fun x y H Q => rEq x y H Q ∨ rEqD K x y H Q ∨ rEqDk K false x y H Q
def neA (K : PySem.W.Frag) : R2 := fun x y H Q => rNe x y H Q ∨ rNeD K x y H Q ∨ rEqDk K true x y H Q
def inSg : R2 := fun x y H Q => ∃ (c : Nat) (z : Str), x = .str ⟨#[c]⟩ ∧ y = .str z ∧ Q (.bl (decide (c ∈ z.cps.toList))) H
def niSg : R2 := fun x y H Q => ∃ (c : Nat) (z : Str), x = .str ⟨#[c]⟩ ∧ y = .str z ∧ Q (.bl (!decide (c ∈ z.cps.toList))) H
def inDk : R2 := fun y x H Q => ∃ a o, x = .ref a ∧ DGet H a y o ∧ Q (.bl o.isSome) H
def niDk : R2 := fun y x H Q => ∃ a o, x = .ref a ∧ DGet H a y o ∧ Q (.bl (!o.isSome)) H
def inA (K : PySem.W.Frag) : R2 := fun x y H Q => inSg x y H Q ∨ rIn K false x y H Q ∨ inDk x y H Q
def niA (K : PySem.W.Frag) : R2 := fun x y H Q => niSg x y H Q ∨ rIn K true x y H Q ∨ niDk x y H Q
def isN : R2 := fun x y H Q => y = .non ∧ Q (.bl (decide (x = .non))) H
def ntN : R2 := fun x y H Q => y = .non ∧ Q (.bl (!decide (x = .non))) H
def ixDk : R2 := fun x y H Q => ∃ a v, x = .ref a ∧ DGet H a y (some v) ∧ Q v H
def ixA (K : PySem.W.Frag) : R2 := fun x y H Q => rIx K x y H Q ∨ ixDk x y H Q
def slA (K : PySem.W.Frag) : V → Option Int → Option Int → Hp → VK → Prop := fun x lo hi H Q => rSlL K x lo hi H Q ∨ rSlS x lo hi H Q ∨ rSlA K x lo hi H Q
def lenDk : List V → Hp → VK → Prop := fun xs H Q => ∃ d kvs, xs = [.ref d] ∧ Rd H d (.dK kvs) ∧ Q (.int kvs.length) H
def lenO (K : PySem.W.Frag) : List V → Hp → VK → Prop := fun xs H Q => ∃ x n, xs = [x] ∧ LenV K x H n ∧ Q (.int n) H
def lenA (K : PySem.W.Frag) : List V → Hp → VK → Prop := fun xs H Q => lenO K xs H Q ∨ lenDk xs H Q
def setDk : V → V → V → Hp → (Hp → Prop) → Prop := fun o i v H Q => ∃ a H', o = .ref a ∧ DPut H a i v H' ∧ Q H'
def setA : V → V → V → Hp → (Hp → Prop) → Prop := fun o i v H Q => rSetL o i v H Q ∨ setDk o i v H Q
section
variable {X : Cx}
theorem uAdd : OpR X (binaryOp .Add) (addA X.K) := OpR.or (r := addI) op_add (OpR.or (r := addS) op_add_str (OpR.or op_cat op_catA))
theorem uSub : OpR X (binaryOp .Sub) subI := op_sub
theorem uMul : OpR X (binaryOp .Mult) mulI := op_mul
theorem uDiv : OpR X (binaryOp .FloorDiv) divI := op_fdiv
theorem uMod : OpR X (binaryOp .Mod) modI := op_mod
theorem uPow : OpR X (binaryOp .Pow) powI := op_pow
theorem uLt : OpR X (compareOp .Lt) ltI := op_lt
theorem uLe : OpR X (compareOp .LtE) leI := op_le
theorem uGt : OpR X (compareOp .Gt) gtI := op_gt
theorem uGe : OpR X (compareOp .GtE) geI := op_ge
theorem uIs : OpR X (compareOp .Is) isN := op_isN
theorem uNt : OpR X (compareOp .IsNot) ntN := op_notN
theorem op_inDk (hu : X.A.units + 100 < cLine) : OpR X (compareOp .In) inDk := by
  intro pins s σ H y x u v Q I ry rx h
  obtain ⟨a, o, ex, g, q⟩ := h
  subst ex
  obtain rfl : v = Value.ref a := rx
  exact d_in (by omega) I g ry fun s3 I3 => ⟨.bl o.isSome, H, I3, rfl, q⟩
theorem op_niDk (hu : X.A.units + 100 < cLine) : OpR X (compareOp .NotIn) niDk := by
  intro pins s σ H y x u v Q I ry rx h
  obtain ⟨a, o, ex, g, q⟩ := h
  subst ex
  obtain rfl : v = Value.ref a := rx
  exact d_notIn (by omega) I g ry fun s3 I3 => ⟨.bl (!o.isSome), H, I3, rfl, q⟩
theorem op_dk {neg : Bool} {op : CmpOp} (ho : op = if neg then .NotEq else .Eq) (hu : X.A.units + 100 < cLine) : OpR X (compareOp op) (rEqDk X.K neg) := by
  intro pins s σ H x y v u Q I rx ry h
  obtain ⟨a, b, ks, ls, D, E, rfl, rfl, ea, eb, dD, dE, sD, sE, q⟩ := h
  obtain rfl : v = Value.ref a := rx
  obtain rfl : u = Value.ref b := ry
  obtain ⟨_, ya, va, ra, da⟩ := dk_rd I.hok ea
  obtain ⟨_, yb, vb, rb, db⟩ := dk_rd I.hok eb
  have hl : (va.length == vb.length && D.all (hitP E)) = dkEqv D E := by
    unfold dkEqv
    rw [← ra.length, ← rb.length, Paired.length dD, Paired.length dE]
  have hits : va.length = vb.length → PySem.W.KeqHits X.A.in1 s vb va (D.all (hitP E)) := fun _ => hits_data I (A := X.A.in1) (by show X.A.units + 1 + 64 < cLine; omega) rb dE sE ra dD sD
  subst ho
  cases neg with
  | true => exact PySem.W.keq_ne (knd := mixKind X.prog X.w) ya yb da db (by omega) hits (fin_bl I q (by rw [hl] <;> rfl))
  | false => exact PySem.W.keq_eq (knd := mixKind X.prog X.w) ya yb da db (by omega) hits (fin_bl I q (by rw [hl] <;> rfl))
theorem uEq (hu : X.A.units + 100 < cLine) : OpR X (compareOp .Eq) (eqA X.K) := OpR.or op_eq (OpR.or (op_eqD (by omega)) (op_dk (neg := false) rfl hu))
theorem uNe (hu : X.A.units + 100 < cLine) : OpR X (compareOp .NotEq) (neA X.K) := OpR.or op_ne (OpR.or (op_neD (by omega)) (op_dk (neg := true) rfl hu))
theorem uIn (hu : X.A.units + 100 < cLine) : OpR X (compareOp .In) (inA X.K) := OpR.or (r := inSg) op_in_sign (OpR.or op_in_seq (op_inDk hu))
theorem uNi (hu : X.A.units + 100 < cLine) : OpR X (compareOp .NotIn) (niA X.K) := OpR.or (r := niSg) op_notIn_sign (OpR.or op_notIn_seq (op_niDk hu))
open PyProof.Rows in
theorem ix_dk (hu : X.A.units + 100 < cLine) : IxR X ixDk := by
  intro value slice pins s σ H x y v u Q I rx ry h hs
  obtain ⟨a, z, ex, g, q⟩ := h
  subst ex
  obtain rfl : v = Value.ref a := rx
  have hT := dict_typeIs I g
  have h₂ : wpAny (model X.prog X.w) X.A (getItem (Value.ref a) u) (EP X pins σ Q) X.xe s := d_getItem (by omega) I g ry fun w' s3 I3 rw' => ⟨z, H, I3, rw', q⟩
  unfold subscriptTail
  refine wpAny_bind ?_
  rw [getitemInPython_of_ne hT.not_modules]
  refine wpAny_bind (wpAny_specialOf hT PySem.F.slot_dict_getitem.lookup ?_)
  have fin : wpAny (model X.prog X.w) X.A (subscripted slice false (Value.ref a) u) (fun r s₃ => wpAny (model X.prog X.w) X.A (letTemporaryGo value (Value.ref a) r >>= fun _ => pure r) (EP X pins σ Q) X.xe s₃) X.xe s := by
    rw [hs]
    exact wpAny_operating (wpAny_mono h₂ (fun r s₃ h₃ => wpAny_bind (wpAny_letTemporaryGo (wpAny_pure h₃))) fun _ _ x => x)
  first
    | exact wpAny_pure (wpAny_bind fin)
    | exact wpAny_bind (wpAny_pure (wpAny_bind fin))
    | exact wpAny_bind fin
theorem uIx (hu : X.A.units + 100 < cLine) : IxR X (ixA X.K) := ix_seq.or (ix_dk hu)
theorem uSl : SlR X (slA X.K) := sl_list.or (SlR.or (r := rSlS) sl_str sl_tupA)
theorem call_lenDk : CallR X (.builtin "len") lenDk := by
  intro pins s σ H xs us Q I r h
  obtain ⟨d, kvs, rfl, hd, q⟩ := h
  obtain ⟨u, rfl, r1⟩ := vals1 r
  cases (show u = Value.ref d from r1)
  exact d_len I hd fun t s' I' => ⟨.int kvs.length, H, I', ⟨_, rfl⟩, q⟩
theorem uLen : CallR X (.builtin "len") (lenA X.K) := CallR.or (r := lenO X.K) call_len call_lenDk
theorem set_dk (hu : X.A.units + 100 < cLine) : PSet X setDk := by
  intro pins s σ H o i v ov iv r Q I ro ri rv h
  obtain ⟨a, H', ex, g, q⟩ := h
  subst ex
  obtain rfl : ov = Value.ref a := ro
  exact d_setItem (by omega) I g ri rv fun s4 I4 => ⟨H', I4, q⟩
theorem uSet (hu : X.A.units + 100 < cLine) : PSet X setA := by
  intro pins s σ H o i v ov iv r Q I ro ri rv h
  rcases h with h | h
  · exact set_list pins s σ H o i v ov iv r Q I ro ri rv h
  · exact set_dk hu pins s σ H o i v ov iv r Q I ro ri rv h
end
end S
set_option Elab.async false
set_option linter.all false
set_option maxRecDepth 100000
set_option maxHeartbeats 2000000
namespace S
open PySem PySem.Spec L2

/-! ### what is cut by steps -/
def SlR3 (X : Cx) (r : V → Option Int → Option Int → Option Int → Hp → VK → Prop) : Prop :=
  ∀ (pins : List (Addr × Obj)) (s : Shared) (σ : L2.St) (H : Hp) (x : V) (v vl vu vs : Value) (lo hi st : Option Int) (sl : Addr) (Q : VK), L2.Inv X pins σ H s → L2.RelV x v → s.heap.IsSliceOf sl vl vu vs → IsPart vl lo → IsPart vu hi → IsPart vs st → r x lo hi st H Q →
    ∃ T id, typeLookup (.type T) "__getitem__" = pure (some (.builtin id)) ∧ s.TypeIs v T ∧ wpAny (model X.prog X.w) X.A (getItem v (.ref sl)) (EP X pins σ Q) X.xe s
def tSl3 (r : V → Option Int → Option Int → Option Int → Hp → VK → Prop) (te : TE) (tl th ts : TO) : TE := fun σ H Q => te σ H fun x H1 => tl σ H1 fun l H2 => th σ H2 fun u H3 => ts σ H3 fun k H4 => r x l u k H4 Q
section
variable {X : Cx}
open PyProof.Rows in
theorem pe_slice3 {r : V → Option Int → Option Int → Option Int → Hp → VK → Prop} {e : Expr} {te : TE} {lo hi st : Option Expr} {tl th ts : TO} {p2 pos : Pos} (hr : SlR3 X r) (he : PE X e te) (hl : PO X lo tl) (hu : PO X hi th) (hs : PO X st ts)
    (hb : ∀ ov iv, subscripted (.Slice lo hi st p2) false ov iv = operate [ov, iv] (getItem ov iv) := by intros; rfl) : PE X (.Subscript e (.Slice lo hi st p2) pos) (tSl3 r te tl th ts) := by
  refine ⟨fun pins s σ H Q I h => ?_⟩
  refine Subscript_ (thn (he.run pins s σ H _ I h) fun v s1 ⟨x, H1, I1, r1, q1⟩ => ?_)
  refine wpAny_Slice (thn (hl.run pins s1 σ H1 _ I1 q1) fun vl s2 ⟨l, H2, I2, pl, q2⟩ => thn (hu.run pins s2 σ H2 _ I2 q2) fun vu s3 ⟨u, H3, I3, pu, q3⟩ => thn (hs.run pins s3 σ H3 _ I3 q3) fun vs s4 ⟨k, H4, I4, ps, q4⟩ => ?_)
  have I5 : L2.Inv X pins σ H4 { s4 with heap := s4.heap.push { cls := .type "slice", data := .fields #[vl, vu, vs] } } := I4.kept (t' := s4.toks) fun b ob q => Heap.get?_push_of_some _ q
  obtain ⟨T, id, hT, ht, hg⟩ := hr pins { s4 with heap := s4.heap.push { cls := .type "slice", data := .fields #[vl, vu, vs] } } σ H4 x v vl vu vs l u k s4.heap.objs.size Q I5 r1 (Heap.IsSliceOf.new _ vl vu vs) pl pu ps q4
  exact tail_any (ops := [v, .ref s4.heap.objs.size]) ht hT hg (hb _ _)
def revS (x : Str) : Str := Txt.sliceBy x none none (-1, 0)
theorem revS_toList (x : Str) : (revS x).cps.toList = x.cps.toList.reverse := by
  have hl : (revS x).cps.toList.length = x.cps.toList.reverse.length := by
    have := PyProof.Rows.step_rev_len x 0
    rw [List.length_reverse, Array.length_toList, Array.length_toList]
    exact this
  refine List.ext_getElem hl fun i h1 h2 => ?_
  have h3 : i < x.cps.size := by rw [List.length_reverse, Array.length_toList] at h2; exact h2
  have h4 := PyProof.Rows.step_rev_getD x 0 i h3
  have h5 : i < (revS x).cps.size := by rw [Array.length_toList] at h1; exact h1
  have h6 : x.length - 1 - i < x.cps.size := by show x.cps.size - 1 - i < x.cps.size; omega
  rw [List.getElem_reverse, Array.getElem_toList, Array.getElem_toList]
  have e1 : (revS x).cps.getD i 0 = (revS x).cps[i] := by simp [Array.getD, h5]
  have e2 : x.cps.getD (x.length - 1 - i) 0 = x.cps[x.length - 1 - i] := by simp [Array.getD, h6]
  rw [← e1]
  rw [e2] at h4
  rw [show (revS x).cps.getD i 0 = _ from h4]
  simp only [Array.length_toList]
  rfl
theorem revS_length (x : Str) : (revS x).length = x.length := PyProof.Rows.step_rev_len x 0
def rRev3 (K : PySem.W.Frag) : V → Option Int → Option Int → Option Int → Hp → VK → Prop := fun x lo hi st H Q => lo = none ∧ hi = none ∧ st = some (-1) ∧
  ((∃ a xs, x = .ref a ∧ SqL K H a xs ∧ ∀ p, H p = none → Q (.ref p) (upd H p (.lst xs.reverse))) ∨ ∃ z, x = .str z ∧ z.length ≤ sizeLine ∧ Q (.str (revS z)) H)
theorem sl_rev : SlR3 X (rRev3 X.K) := by
  intro pins s σ H x v vl vu vs lo hi st sl Q I rx hs pl pu ps h
  obtain ⟨rfl, rfl, rfl, h⟩ := h
  rcases h with ⟨a, xs, rfl, hx, q⟩ | ⟨z, rfl, hz, q⟩
  · cases rx
    obtain ⟨its, r, ht, hz⟩ := I.list hx
    have hlen := r.length
    refine ⟨"list", _, PySem.slot_list_getitem.lookup, ht.isList.typeIs, ?_⟩
    refine wpAny_getItem_list_slice ht.isList hs pl pu ps (by decide) ?_ (by rw [List.size_toArray] <;> omega)
    rw [PySem.W.krv_pick]
    refine ⟨.ref s.heap.objs.size, _, I.laid (t' := s.toks) (o := .lst xs.reverse) (fun b ob q => Heap.get?_push_of_some _ q) (Nat.le_refl _) ?_, rfl, q _ (I.hok.fresh (Nat.le_refl _))⟩
    exact ⟨by rw [List.length_reverse]; exact hz, _, 0, r.reverse, Heap.get?_push_size _ rfl⟩
  · obtain ⟨t, rfl⟩ := rx
    obtain ⟨os, hos, hcs, hds⟩ := hs
    obtain ⟨l, rfl, el⟩ := IsPart.raw pl
    obtain ⟨u, rfl, eu⟩ := IsPart.raw pu
    obtain ⟨k, rfl, ek⟩ := IsPart.raw ps
    refine ⟨"str", _, F.slot_str_getitem.lookup, typeIs_str _ _ _, ?_⟩
    refine wpAny_getItem_str_slice (l := l) (u := u) (st := k) ⟨os, hos, hcs, hds⟩ (by rw [ek] <;> rfl) ?_
    have hl : (revS z).length ≤ sizeLine := by rw [revS_length]; exact hz
    unfold sliceMade slicePicked
    rw [el, eu, ek]
    rw [if_neg (by simp)]
    exact ⟨hl, .str (revS z), H, I.tok _, ⟨_, rfl⟩, q⟩
def tRevA (K : PySem.W.Frag) (te : TE) : TE := tSl3 (rRev3 K) te tNoPart tNoPart (tPart (tUn (rU fun i => .int (-i)) (tC (.int 1))))
theorem pe_revA {e : Expr} {te : TE} {k : Nat} {p1 p2 p3 pos : Pos} (he : PE X e te) : PE X (.Subscript e (.Slice none none (some (.UnaryOp .USub (.Constant (.int 1) k p1) p2)) p3) pos) (tRevA X.K te) :=
  pe_slice3 sl_rev he po_none po_none (po_some (pe_un un_neg pe_int)) (fun _ _ => by with_unfolding_all rfl)
/-- xs[a::k]: some of the items -/
def rStep3 (K : PySem.W.Frag) : V → Option Int → Option Int → Option Int → Hp → VK → Prop := fun x lo hi st H Q => (∃ k : Int, st = some k ∧ 0 < k) ∧
  ∃ a xs, x = .ref a ∧ SqL K H a xs ∧ ∀ p zs, zs.length ≤ xs.length → (∀ z ∈ zs, z ∈ xs) → H p = none → Q (.ref p) (upd H p (.lst zs))
end
end S
namespace S
open PySem PySem.Spec L2
theorem Vals.pick {xs : List V} {its : List Value} (r : Vals xs its) : ∀ l : List Nat, Vals (l.filterMap (xs[·]?)) (l.filterMap (its.toArray[·]?))
  | [] => .nil
  | i :: l => by
    have ih := Vals.pick r l
    have e0 : its.toArray[i]? = its[i]? := by simp
    cases e : xs[i]? with
    | none => rw [List.filterMap_cons, List.filterMap_cons, e, e0, r.none_of e]; exact ih
    | some x =>
      obtain ⟨u, hu, ru⟩ := r.get e
      rw [List.filterMap_cons, List.filterMap_cons, e, e0, hu]
      exact .cons ru ih
theorem stepCount (a b k : Int) (n : Nat) (ha : 0 ≤ a) (hb : b ≤ n) (hk : 0 < k) : (sliceRange a b k).length ≤ n := by
  unfold sliceRange
  simp only [gt_iff_lt, hk, if_true, List.length_map, List.length_range]
  by_cases h : a < b
  · rw [if_pos h]
    have h1 : (b - a + k - 1) / k ≤ b - a := ceilDiv_le (b - a) k (by omega) (by omega)
    omega
  · rw [if_neg h]
    omega
section
variable {X : Cx}
theorem sl_step : SlR3 X (rStep3 X.K) := by
  intro pins s σ H x v vl vu vs lo hi st sl Q I rx hs pl pu ps h
  obtain ⟨⟨k, rfl, hk⟩, a, xs, rfl, hx, q⟩ := h
  cases rx
  obtain ⟨its, r, ht, hz⟩ := I.list hx
  have hlen := r.length
  refine ⟨"list", _, PySem.slot_list_getitem.lookup, ht.isList.typeIs, ?_⟩
  refine wpAny_getItem_list_slice ht.isList hs pl pu ps (by intro e; have := Option.some.inj e; omega) ?_ (by rw [List.size_toArray] <;> omega)
  have hb : 0 ≤ (sliceBounds lo hi (some k) its.toArray.size).1 ∧ (sliceBounds lo hi (some k) its.toArray.size).2.1 ≤ its.toArray.size ∧ (sliceBounds lo hi (some k) its.toArray.size).2.2 = k := by
    unfold sliceBounds
    simp only [Option.getD_some, gt_iff_lt, hk, if_true]
    refine ⟨?_, ?_, by first | rfl | trivial⟩
    · cases lo with
      | none => exact Int.le_refl _
      | some i => dsimp only; omega
    · cases hi with
      | none => exact Int.le_refl _
      | some i => dsimp only; omega
  have hc := stepCount _ _ k its.toArray.size hb.1 hb.2.1 hk
  unfold slicePick
  rw [hb.2.2]
  generalize sliceRange (sliceBounds lo hi (some k) its.toArray.size).1 (sliceBounds lo hi (some k) its.toArray.size).2.1 k = l at hc ⊢
  have hl : (l.filterMap (xs[·]?)).length ≤ xs.length := by
    refine Nat.le_trans (List.length_filterMap_le _ _) ?_
    rw [hlen]
    simpa using hc
  refine ⟨.ref s.heap.objs.size, _, I.laid (t' := s.toks) (o := .lst (l.filterMap (xs[·]?))) (fun b ob q => Heap.get?_push_of_some _ q) (Nat.le_refl _) ?_, rfl, q _ _ hl (fun z hz => ?_) (I.hok.fresh (Nat.le_refl _))⟩
  · exact ⟨Nat.le_trans hl hz, _, 0, Vals.pick r l, Heap.get?_push_size _ rfl⟩
  · obtain ⟨i, _, e⟩ := List.mem_filterMap.mp hz
    exact List.mem_of_getElem? e
def tStep (K : PySem.W.Frag) (te : TE) (tl : TE) (k : Int) : TE := tSl3 (rStep3 K) te (tPart tl) tNoPart (tPart (tC (.int k)))
theorem pe_step {e l : Expr} {te tl : TE} {j : Nat} {k : Int} {p1 p3 pos : Pos} (he : PE X e te) (hl : PE X l tl) : PE X (.Subscript e (.Slice (some l) none (some (.Constant (.int k) j p1)) p3) pos) (tStep X.K te tl k) :=
  pe_slice3 sl_step he (po_some hl) po_none (po_some pe_int) (fun _ _ => by with_unfolding_all rfl)

/-! ### sorted(d, reverse=True), max(d, default=k) of a dict of whole numbers -/
def IntKeys (kvs : List (Key × V)) (ks : List Int) : Prop := kvs.map (·.1) = ks.map Sum.inl
theorem keys_ints {P : Program} {w : World} {kvs : List (Key × V)} {vs : List (Key × Value)} {ks : List Int} (rel : KV kvs vs) (hk : IntKeys kvs ks) {j : Nat} {v : Value} (h : ∃ k x, vs[j]? = some (k, x) ∧ (mixKind P w).is k v = true) : ∃ (y : Int) (t : Tok), ks[j]? = some y ∧ v = .int y t := by
  obtain ⟨k, x, e1, e2⟩ := h
  have e3 : (vs.map (·.1))[j]? = some k := by rw [List.getElem?_map, e1]; rfl
  rw [← rel.keys, show kvs.map (·.1) = ks.map Sum.inl from hk, List.getElem?_map] at e3
  cases e4 : ks[j]? with
  | none => rw [e4] at e3; cases e3
  | some y =>
    rw [e4] at e3
    have e5 : Sum.inl y = k := Option.some.inj e3
    subst e5
    rcases keyIs_shape (show keyIs (Sum.inl y) v = true from e2) with ⟨i, t, ek, ev⟩ | ⟨z, t, ek, ev⟩
    · cases ek
      exact ⟨y, t, rfl, ev⟩
    · cases ek
def rSortRev : List V → List V → Hp → VK → Prop := fun xs zs H Q => ∃ (a : Addr) (kvs : List (Key × V)) (ks : List Int), xs = [.ref a] ∧ zs = [.bl true] ∧ Rd H a (.dK kvs) ∧ IntKeys kvs ks ∧ ks.length < 64 ∧
    ∀ (ys : List Int) (p : Addr), ys.Perm ks → ys.Pairwise (· ≥ ·) → H p = none → Q (.ref p) (upd H p (.lst (ys.map V.int)))
open PyProof.Rows in
theorem cr_sortRev (hcalm : X.calm = true) : CallRK X (.builtin "sorted") [Str.ofString "reverse"] rSortRev := by
  intro pins s σ H xs zs us ws Q I r rz h
  obtain ⟨a, kvs, ks, rfl, rfl, hd, hks, h64, q⟩ := h
  obtain ⟨u, eu, rx⟩ := vals1 r
  subst eu
  cases rx
  obtain ⟨w1, rfl, e1⟩ := vals1 rz
  obtain rfl : w1 = Value.bool true := e1
  obtain ⟨z, lo, vs, rel, dd⟩ := dk_rd I.hok hd
  obtain ⟨ep, hat⟩ := dd.dictAt
  have hl : vs.length = ks.length := by
    have e := congrArg List.length (rel.keys.symm.trans hks)
    rw [List.length_map, List.length_map] at e
    exact e
  show wpAny _ _ (call (.builtin "sorted") [.ref a] [(Str.ofString "reverse", .bool true)]) _ _ s
  refine call_function_entry_kw kind_sorted plain_sorted entry_sorted (args_sorted_rev _ _) ?_
  unfold Builtin.«sorted»
  refine wpAny_bind (m := checkCount "sorted" 1 1 _) (wpAny_pure ?_)
  refine wpAny_bind (PySem.W.kdu_collect (A := X.A.in1) (PySem.W.kdl_dict (knd := mixKind X.prog X.w) (kvs := vs) (ep := ep) lo) (I.ok.hd hcalm) hat (by rw [hl, sizeLine_eq]; omega) fun h' tk acc hk hacc => ?_)
  have hal : acc.toList.length = ks.length := by rw [Array.length_toList, hacc.1, hl]
  have hS : IntsAre acc.toList ks := ints_each hal fun j v e => keys_ints rel hks (hacc.2 j v (by rw [← Array.getElem?_toList]; exact e))
  have I1 : L2.Inv X pins σ H { s with heap := h', toks := tk } := I.kept hk
  refine wpAny_bind (wpAny_newList ?_ (by rw [hal, sizeLine_eq]; omega))
  have hoL : (h'.push (seqObj "list" acc.toList.toArray 0)).get? h'.objs.size = some (seqObj "list" acc.toList.toArray 0) := Heap.get?_push_size _ rfl
  show wpAny _ _ _ _ _ { s with heap := h'.push (seqObj "list" acc.toList.toArray 0), toks := tk }
  refine wpAny_bind (wpAny_holding (wpAny_call_entry_kw slot_list_sort ⟨_, hoL, rfl⟩ entry_list_sort ?_ (args_list_sort_rev _ _)))
  refine SrtR.list_sort_ordR (vs := acc.toList) SrtO.swo_int hoL (by rw [hal, sizeLine_eq]; omega) (fun h2 => SrtO.ints_sortable hS h2) fun out g1 g2 => ⟨_, rfl, ?_⟩
  obtain ⟨ys, k1, k2, k3⟩ := SrtR.ints_outR hS g1 g2
  obtain ⟨e', he'⟩ := sortedHeap_at (vs := acc.toList) (out := if true = true then out.toArray.reverse else out.toArray) hoL
  have hlen : (ys.map V.int).length ≤ sizeLine := by
    rw [List.length_map, k2.length_eq, sizeLine_eq]
    omega
  refine wpAny_pure ⟨_, rfl, .ref h'.objs.size, upd H h'.objs.size (.lst (ys.map V.int)), I1.laid (t' := tk) (fun b u e => ?_) (Nat.le_refl _)
    (show ObjOk X.prog X.w _ _ _ (.lst (ys.map V.int)) from ⟨hlen, _, e', vals_of_ints k1, by rw [Array.toArray_toList]; exact he'⟩), rfl, q ys _ k2 k3 (I1.hok.fresh (Nat.le_refl _))⟩
  have hb : b < h'.objs.size := Heap.lt_size e
  rw [sortedHeap_old (Nat.ne_of_lt hb) (by rw [size_push']; exact Nat.lt_succ_of_lt hb)]
  exact Heap.get?_push_of_some _ e
end
end S
set_option Elab.async false
set_option linter.all false
set_option maxRecDepth 100000
set_option maxHeartbeats 2000000
namespace S
open PySem PySem.Spec L2
section
variable {prog : Program} {w : World} {A : Around} {R : Result → Shared → Prop} {I : Addr} {fp wr : List Addr} {n : Nat} {P : Nat → Value → Prop} {St : Nat → Heap → Prop}
/-- what is best among the first j: nothing yet, or one of them -/
def BestOf (P : Nat → Value → Prop) (val : Nat → Int) (j : Nat) (b : List Value) : Prop := (b = [] ∧ j = 0) ∨ ∃ v i, b = [v, v] ∧ i < j ∧ P i v ∧ ∀ m, m < j → val m ≤ val i
theorem max_loopD (W : Walks prog w A.in1 I fp wr n P St) (val : Nat → Int) (hval : ∀ i v, P i v → ∃ t, v = .int (val i) t) (S : Addr) (hSf : S ∉ fp) (d : Value) :
    ∀ (k j : Nat) (s : Shared) (b : List Value) (c : Nat), n - j = k → j ≤ n → St j s.heap → BestOf P val j b →
    s.heap.get? S = some { cls := .type "list", dict := none, data := .seq b.toArray c, slots := #[] } →
    (∀ b' h' tk, BestOf P val n b' → (∀ a o, a ∉ wr → a ≠ S → s.heap.get? a = some o → h'.get? a = some o) → R (.ok (.ret (b'.headD d))) { s with heap := h', toks := tk }) →
    codeAny (model prog w) A (.builtin "max.loop" ⟨[.ref I, .none, .ref S], [(Str.ofString "default", d)]⟩) R s := by
  have hSw : S ∉ wr := fun h => hSf (W.sub _ h)
  have hname : (toString "max" ++ toString ".loop" : String) = "max.loop" := by decide
  intro k
  induction k with
  | zero =>
    intro j s b c hk hj hst hb hS hR
    have hin : j = n := by omega
    refine codeAny_builtin F.entry_max_loop ?_
    rw [Around.under_plainId F.plain_max_loop _]
    show wpAny _ A.in1 (seqItems? (.ref S) >>= _) _ _ s
    refine wpAny_bind (wpAny_seqItems hS rfl ?_)
    show wpAny _ A.in1 (tryCatch (pyNext (.ref I)) _ >>= _) _ _ s
    refine wpAny_bind (wpAny_tryCatch (W.done s _ _ (hin ▸ hst) fun h' tk hk' => ?_))
    have hS' := hk' S _ hSw hS
    subst hin
    rcases hb with ⟨rfl, hj0⟩ | ⟨v, i, rfl, hi, hP, hm⟩
    · show wpAny _ A.in1 (rule _ >>= _) _ _ _
      refine wpAny_bind (wpAny_rule (wpAny_pure ?_))
      exact hR [] h' tk (.inl ⟨rfl, hj0⟩) fun a o ha hs e => hk' a o ha e
    · show wpAny _ A.in1 (updateSeq S (fun _ => #[]) >>= _) _ _ _
      refine wpAny_bind ?_
      refine wpAny_updateSeq hS' rfl (wpAny_bind (wpAny_letGo (wpAny_pure ?_)))
      exact hR [v, v] _ tk (.inr ⟨v, i, rfl, hi, hP, hm⟩) fun a o ha hs e => (Heap.get?_update_other _ _ (Ne.symm hs)).trans (hk' a o ha e)
  | succ k ih =>
    intro j s b c hk hj hst hb hS hR
    have hlt : j < n := by omega
    refine codeAny_builtin F.entry_max_loop ?_
    rw [Around.under_plainId F.plain_max_loop _]
    show wpAny _ A.in1 (seqItems? (.ref S) >>= _) _ _ s
    refine wpAny_bind (wpAny_seqItems hS rfl ?_)
    show wpAny _ A.in1 (tryCatch (pyNext (.ref I)) _ >>= _) _ _ s
    refine wpAny_bind (wpAny_tryCatch (W.item j s _ _ hlt hst fun v h' tk hP hst' hk' => ?_))
    have hS' := hk' S _ hSw hS
    have upd_ok : ∀ (o : Obj), True := fun _ => trivial
    -- a better one is stored
    have stored : ∀ (tk' : Nat), BestOf P val (j + 1) [v, v] → (∀ s2 : Shared, s2 = { s with heap := h'.update S (Obj.mapSeq fun _ => #[v, v]), toks := tk } →
        codeAny (model prog w) A (.builtin "max.loop" ⟨[.ref I, .none, .ref S], [(Str.ofString "default", d)]⟩) R s2) := fun _ hb' s2 e2 => by
      subst e2
      refine ih (j + 1) _ [v, v] _ (by omega) hlt (W.frame _ _ _ hst' fun a ha o e => ?_) hb' (Heap.get?_update_self _ hS' rfl) fun b' h'' tk'' hb'' hk'' => ?_
      · exact (Heap.get?_update_other _ _ (fun h : S = a => hSf (by rw [h]; exact ha))).trans e
      · exact hR b' h'' tk'' hb'' fun a o ha hs e => hk'' a o ha hs ((Heap.get?_update_other _ _ (Ne.symm hs)).trans (hk' a o ha e))
    rcases hb with ⟨rfl, hj0⟩ | ⟨vb, i, rfl, hi, hPi, hm⟩
    · show wpAny _ A.in1 (updateSeq S (fun _ => #[v, v]) >>= _) _ _ _
      refine wpAny_bind ?_
      refine wpAny_updateSeq hS' rfl ?_
      rw [hname]
      refine wpAny_pure ⟨plainId_quiet F.plain_max_loop _, stored 0 (.inr ⟨v, j, rfl, by omega, hP, fun m hm => ?_⟩) _ rfl⟩
      have : m = j := by omega
      subst this
      exact Int.le_refl _
    · show wpAny _ A.in1 (tryCatch (holding [v, v] (richCompare .Gt v vb >>= _)) _ >>= _) _ _ _
      refine wpAny_bind (wpAny_tryCatch (wpAny_holding (wpAny_bind (CmpOf.ints_gt val hval j i v vb _ _ _ hP hPi ?_))))
      refine wpAny_bind (wpAny_holding (wpAny_truthy_bool ?_))
      refine wpAny_bind (wpAny_letGo (wpAny_pure ?_))
      by_cases hgt : val j > val i
      · simp only [decide_eq_true hgt, if_true]
        refine wpAny_bind ?_
        refine wpAny_updateSeq hS' rfl (wpAny_bind (wpAny_letGo ?_))
        rw [hname]
        refine wpAny_pure ⟨plainId_quiet F.plain_max_loop _, stored 0 (.inr ⟨v, j, rfl, by omega, hP, fun m hm' => ?_⟩) _ rfl⟩
        by_cases e : m = j
        · rw [e]; exact Int.le_refl _
        · have := hm m (by omega)
          omega
      · simp only [decide_eq_false hgt, Bool.false_eq_true, if_false]
        refine wpAny_bind (wpAny_letGo ?_)
        rw [hname]
        refine wpAny_pure ⟨plainId_quiet F.plain_max_loop _, ih (j + 1) _ [vb, vb] c (by omega) hlt hst' (.inr ⟨vb, i, rfl, by omega, hPi, fun m hm' => ?_⟩) hS' fun b' h'' tk'' hb'' hk'' => ?_⟩
        · by_cases e : m = j
          · rw [e]; omega
          · exact hm m (by omega)
        · exact hR b' h'' tk'' hb'' fun a o ha hs e => hk'' a o ha hs (hk' a o ha e)
end
/-- a built-in function called with keywords that goes on with itself -/
theorem call_tree_kw {prog : Program} {w : World} {A : Around} {E : Value → Shared → Prop} {s : Shared} {id : String} {b : Builtin} {args : List Value} {kw : List (Str × Value)} {Q : Value → Shared → Prop} (hk : builtinKind id = none) (hp : plainId id = true)
    (hb : entryFor table id = some b) (ha : argsOk id ⟨args, kw⟩)
    (hc : wpAny (model prog w) A.in1 (b ⟨args, kw⟩) (fun fin s' => match fin with
      | .done f => (match (Except.ok f : Result) with | .ok (.ret v) => Q v s' | .ok _ => False | .error e => E e s')
      | .again c' => c'.quiet = true ∧ codeAny (model prog w) A c' (fun r s' => match r with | .ok (.ret v) => Q v s' | .ok _ => False | .error e => E e s') s') E s) :
    wpAny (model prog w) A (call (.builtin id) args kw) Q E s := by
  refine wpAny_call (codeAny_call_builtin hp hb ?_)
  simp only [checkBuiltinCall, hk]
  cases hsig : Manifest.signature? id with
  | none => exact wpAny_pure hc
  | some sig =>
    simp only [argsOk, hsig] at ha
    have h2 : Bind.checkArgs id sig ⟨args, kw⟩ = pure () := ha
    first
      | (simp only [h2]; exact wpAny_bind (wpAny_pure (wpAny_pure hc)))
      | (simp only [h2]; exact wpAny_bind (wpAny_pure hc))
      | (simp only [h2]; exact wpAny_pure hc)
def rMaxD : List V → List V → Hp → VK → Prop := fun xs zs H Q => ∃ (a : Addr) (kvs : List (Key × V)) (ks : List Int) (d : Int), xs = [.ref a] ∧ zs = [.int d] ∧ Rd H a (.dK kvs) ∧ IntKeys kvs ks ∧
  ∀ m, (ks = [] → m = d) → (ks ≠ [] → m ∈ ks ∧ ∀ y ∈ ks, y ≤ m) → Q (.int m) H
section
variable {X : Cx}
theorem args_max_def (a d : Value) : argsOk "max" ⟨[a], [(Str.ofString "default", d)]⟩ := by unfold argsOk; kernel_rfl
theorem cr_maxD (hcalm : X.calm = true) : CallRK X (.builtin "max") [Str.ofString "default"] rMaxD := by
  intro pins s σ H xs zs us ws Q I r rz h
  obtain ⟨a, kvs, ks, d, rfl, rfl, hd, hks, q⟩ := h
  obtain ⟨u, eu, rx⟩ := vals1 r
  subst eu
  cases rx
  obtain ⟨w1, rfl, t1, rfl⟩ := vals1 rz
  obtain ⟨z, lo, vs, rel, dd⟩ := dk_rd I.hok hd
  obtain ⟨ep, hat⟩ := dd.dictAt
  have hl : vs.length = ks.length := by
    have e := congrArg List.length (rel.keys.symm.trans hks)
    rw [List.length_map, List.length_map] at e
    exact e
  have K := PySem.W.kdl_dict (prog := X.prog) (w := X.w) (knd := mixKind X.prog X.w) (kvs := vs) (ep := ep) (d := a) lo
  have hname : (toString "max" ++ toString ".loop" : String) = "max.loop" := by decide
  show wpAny _ _ (call (.builtin "max") [.ref a] [(Str.ofString "default", .int d t1)]) _ _ s
  refine call_tree_kw F.kind_max F.plain_max F.entry_max (args_max_def _ _) ?_
  show wpAny _ X.A.in1 (Builtin.Builtins.bindParams "max" ["key", "default"] 0 ⟨[], [(Str.ofString "default", .int d t1)]⟩ >>= _) _ _ s
  refine wpAny_bind (wpAny_of_eq (show Builtin.Builtins.bindParams "max" ["key", "default"] 0 ⟨[], [(Str.ofString "default", .int d t1)]⟩ = pure [none, some (.int d t1)] from rfl) ?_)
  refine wpAny_bind (wpAny_pure ?_)
  obtain ⟨oI, St, hit, W, st⟩ := K.iter X.A.in1 s (I.ok.hd hcalm) hat
  refine wpAny_bind (hit _ _ ?_)
  refine wpAny_bind (wpAny_newObj_type ?_)
  have hlt := K.there _ hat
  have hSf : (s.heap.push oI).objs.size ∉ [s.heap.objs.size, a] := fun hm => by
    rw [Heap.size_push] at hm
    rcases List.mem_cons.mp hm with e | hm
    · exact absurd e (Nat.succ_ne_self _)
    · rcases List.mem_cons.mp hm with e | hm
      · rw [← e] at hlt
        exact absurd hlt.1 (Nat.not_lt.mpr (Nat.le_succ _))
      · cases hm
  rw [hname]
  have e0 : (Option.some (Value.int d t1)).toList.map (fun d => (Str.ofString "default", d)) = [(Str.ofString "default", Value.int d t1)] := rfl
  have hv : ∀ i v, (∃ k x, vs[i]? = some (k, x) ∧ (mixKind X.prog X.w).is k v = true) → ∃ t, v = .int (ks.getD i 0) t := fun i v hiv => by
    obtain ⟨y, t, e1, e2⟩ := keys_ints rel hks hiv
    refine ⟨t, ?_⟩
    rw [e2, List.getD_eq_getElem?_getD, e1]
    rfl
  refine wpAny_pure ⟨plainId_quiet F.plain_max_loop _, max_loopD W (fun i => ks.getD i 0) hv (s.heap.push oI).objs.size hSf (.int d t1) _ 0 _ [] _ rfl (Nat.zero_le _) (W.frame _ _ _ st fun b _ o e => Heap.get?_push_of_some _ e) (.inl ⟨rfl, rfl⟩) (Heap.get?_push_size _ rfl) fun b' h' tk hb hk => ?_⟩
  have keep : ∀ b o, s.heap.get? b = some o → h'.get? b = some o := fun b o e => by
    have hb := Heap.lt_size e
    refine hk b o (fun hm => ?_) ?_ (Heap.get?_push_of_some _ (Heap.get?_push_of_some _ e))
    · rcases List.mem_cons.mp hm with e1 | hm
      · exact absurd hb (by rw [e1]; exact Nat.lt_irrefl _)
      · cases hm
    · rw [Heap.size_push]
      exact Nat.ne_of_lt (Nat.lt_succ_of_lt hb)
  have I1 : L2.Inv X pins σ H { s with heap := h', toks := tk } := I.kept keep
  rcases hb with ⟨rfl, h0⟩ | ⟨v, i, rfl, hi, hP, hm⟩
  · refine ⟨.int d, H, I1, ⟨t1, rfl⟩, q d (fun _ => rfl) fun hne => ?_⟩
    exact absurd (List.length_eq_zero_iff.mp (by omega)) hne
  · obtain ⟨y, t, e1, e2⟩ := keys_ints rel hks hP
    have ey : ks.getD i 0 = y := by rw [List.getD_eq_getElem?_getD, e1]; rfl
    refine ⟨.int y, H, I1, ⟨t, e2⟩, q y (fun e => by rw [e] at e1; simp at e1) fun _ => ⟨List.mem_of_getElem? e1, fun x hx => ?_⟩⟩
    obtain ⟨m, hm1, hm2⟩ := List.getElem_of_mem hx
    have h3 : ks.getD m 0 ≤ ks.getD i 0 := hm m (by omega)
    have e3 : ks.getD m 0 = x := by rw [List.getD_eq_getElem?_getD, List.getElem?_eq_getElem hm1, hm2]; rfl
    rw [e3, ey] at h3
    exact h3
end
end S
set_option Elab.async false
set_option linter.all false
set_option maxRecDepth 100000
set_option maxHeartbeats 2000000
namespace S
open PySem PySem.Spec L2
def rMin2 : List V → Hp → VK → Prop := fun xs H Q => ∃ i j, xs = [.int i, .int j] ∧ Q (.int (if j < i then j else i)) H
def rMax2 : List V → Hp → VK → Prop := fun xs H Q => ∃ i j, xs = [.int i, .int j] ∧ Q (.int (if j > i then j else i)) H
def intI : List V → Hp → VK → Prop := fun xs H Q => (∃ i, xs = [.int i] ∧ Q (.int i) H) ∨ ∃ k, xs = [.bl k] ∧ Q (.int (if k then 1 else 0)) H
def intS : List V → Hp → VK → Prop := fun xs H Q => ∃ a n, xs = [.str a] ∧ PySem.intText? a = some n ∧ a.length ≤ 640 ∧ Q (.int n) H
def intC (K : PySem.W.Frag) : List V → Hp → VK → Prop := fun xs H Q => intI xs H Q ∨ intS xs H Q
def strI : List V → Hp → VK → Prop := fun xs H Q => ∃ i, xs = [.int i] ∧ i.natAbs.log2 < 1920 ∧ Q (.str (toString i)) H
def strS : List V → Hp → VK → Prop := fun xs H Q => ∃ a, xs = [.str a] ∧ Q (.str a) H
def strC (K : PySem.W.Frag) : List V → Hp → VK → Prop := fun xs H Q => strI xs H Q ∨ strS xs H Q
def listO (K : PySem.W.Frag) : List V → Hp → VK → Prop := fun xs H Q => ∃ p ys, xs = [.ref p] ∧ (SqL K H p ys ∨ SqT K H p ys) ∧ ∀ l, H l = none → Q (.ref l) (upd H l (.lst ys))
def listC (K : PySem.W.Frag) : List V → Hp → VK → Prop := fun xs H Q => listO K xs H Q ∨ rListD xs H Q
def dictP (K : PySem.W.Frag) : List V → Hp → VK → Prop := fun xs H Q => ∃ (a : Addr) (ps : List Addr) (kvs : List (Key × V)), xs = [.ref a] ∧ SqL K H a (ps.map V.ref) ∧ Paired (fun p kv => SqT K H p [kV kv.1, kv.2]) ps kvs ∧
    ∀ p, H p = none → Q (.ref p) (upd H p (.dK (mergeK [] kvs)))
def dictD : List V → Hp → VK → Prop := fun xs H Q => ∃ a kvs, xs = [.ref a] ∧ Rd H a (.dK kvs) ∧ ∀ p, H p = none → Q (.ref p) (upd H p (.dK kvs))
def dictC (K : PySem.W.Frag) : List V → Hp → VK → Prop := fun xs H Q => dictP K xs H Q ∨ dictD xs H Q
def tupleC (K : PySem.W.Frag) : List V → Hp → VK → Prop := fun xs H Q => ∃ p ys, xs = [.ref p] ∧ ((SqL K H p ys ∧ ∀ l, H l = none → Q (.ref l) (upd H l (.tup ys))) ∨ (SqT K H p ys ∧ Q (.ref p) H))
def srtDI : List V → Hp → VK → Prop := fun xs H Q => ∃ (a : Addr) (kvs : List (Key × V)) (ks : List Int), xs = [.ref a] ∧ Rd H a (.dK kvs) ∧ kvs.map (·.1) = ks.map Sum.inl ∧ ks.length < 64 ∧
    ∀ (ys : List Int) (p : Addr), ys.Perm ks → ys.Pairwise (· ≤ ·) → H p = none → Q (.ref p) (upd H p (.lst (ys.map V.int)))
def srtDS : List V → Hp → VK → Prop := fun xs H Q => ∃ (a : Addr) (kvs : List (Key × V)) (ks : List Str), xs = [.ref a] ∧ Rd H a (.dK kvs) ∧ kvs.map (·.1) = ks.map Sum.inr ∧ ks.length < 64 ∧
    ∀ ys p, ys.Perm ks → PyProof.Rows.sortedS ys = true → H p = none → Q (.ref p) (upd H p (.lst (ys.map V.str)))
def sortedA (K : PySem.W.Frag) : List V → Hp → VK → Prop := fun xs H Q => rSortedI K xs H Q ∨ srtDI xs H Q ∨ srtDS xs H Q
def joinR (K : PySem.W.Frag) : V → List V → Hp → VK → Prop := fun x xs H Q => ∃ a p, ∃ ys : List Str, x = .str a ∧ xs = [.ref p] ∧ (SqL K H p (ys.map V.str) ∨ SqT K H p (ys.map V.str)) ∧
    (ys.map (·.length)).sum + ys.length * a.length ≤ 16777216 ∧ Q (.str (Txt.join a ys)) H
def splitR : V → List V → Hp → VK → Prop := fun x xs H Q => ∃ a b, x = .str a ∧ xs = [.str b] ∧ (b.length == 0) = false ∧ a.length + 2 ≤ sizeLine ∧ rNewStrs (Txt.split a b) H Q
def partR : V → List V → Hp → VK → Prop := fun x xs H Q => ∃ a b, x = .str a ∧ xs = [.str b] ∧ (b.length == 0) = false ∧ a.length ≤ sizeLine ∧
    ∀ p, H p = none → Q (.ref p) (upd H p (.tup [.str (Txt.partition a b).1, .str (Txt.partition a b).2.1, .str (Txt.partition a b).2.2]))
section
variable {X : Cx}
theorem uIntC : CallR X (.type "int") (intC X.K) := CallR.or (r := intI) (r' := intS) call_int1 call_int_str
theorem uStrC : CallR X (.type "str") (strC X.K) := CallR.or (r := strI) (r' := strS) call_str_int SkE.call_str_str
theorem uListC (hc : X.calm = true) : CallR X (.type "list") (listC X.K) := CallR.or (r := listO X.K) call_list_of (call_list_dK hc)
theorem call_dictD : CallR X (.type "dict") dictD := by
  intro pins s σ H xs us Q I r h
  obtain ⟨a, kvs, rfl, hd, q⟩ := h
  obtain ⟨u, rfl, r1⟩ := vals1 r
  cases (show u = Value.ref a from r1)
  exact d_copyOf I hd fun p s' hp I' => ⟨.ref p, _, I', rfl, q p hp⟩
theorem uDictC (hc : X.calm = true) : CallR X (.type "dict") (dictC X.K) := CallR.or (r := dictP X.K) (call_dictP hc) call_dictD
theorem uTupleC : CallR X (.type "tuple") (tupleC X.K) := call_tuple_of
theorem uSorted (hc : X.calm = true) : CallR X (.builtin "sorted") (sortedA X.K) := CallR.or cr_sortedI (CallR.or (r := srtDI) (r' := srtDS) (call_sortedDI hc) (call_sortedD hc))

/-! ### list(d.values()) -/
def tListVals (te : TE) : TE := fun σ H Q => te σ H fun x H1 => ∃ (d : Addr) (kvs : List (Key × V)), x = .ref d ∧ Rd H1 d (.dK kvs) ∧ ∀ p, H1 p = none → Q (.ref p) (upd H1 p (.lst (kvs.map (·.2))))
theorem pe_listVals {e : Expr} {te : TE} {p apos cpos pos : Pos} (hc : X.calm = true) (he : PE X e te) (hg : Gl X "list") (hm : X.mg "list" = none) (hv : bootBuiltins "list" = some (.type "list")) (hbase : attributeBase e "values" X.env (eval e X.env) = eval e X.env := by rfl) (hline : (apos.endLine == cpos.line) = true := by rfl)
    (hs : starEach [.Call (.Attribute e "values" apos) [] [] cpos] X.env = (false, eval (.Call (.Attribute e "values" apos) [] [] cpos) X.env) :: starEach [] X.env := by rfl) :
    PE X (.Call (.Name "list" p) [.Call (.Attribute e "values" apos) [] [] cpos] [] pos) (tListVals te) := by
  refine ⟨fun pins s σ H Q I hq => ?_⟩
  refine wpAny_Call_Name_kw (ld_blt I hg hm hv ?_)
  refine PyProof.Rows.callWith_type1 ?_ hs rfl
  rw [hs]
  show wpAny _ _ (spliced ((false, eval (.Call (.Attribute e "values" apos) [] [] cpos) X.env) :: backTo pos (starEach [] X.env))) _ _ s
  refine Calls.spliced_cons ?_
  refine wpAny_Call_method (T := "dict") (id := "dict.values") hbase rfl hline F.plainAttrs_dict F.slot_dict_values F.type_dict_values (thn (he.run pins s σ H _ I hq) fun u s1 ⟨x, H1, I1, rx, d, kvs, ex, hd, q⟩ => ?_)
  subst ex
  obtain rfl : u = Value.ref d := rx
  obtain ⟨hz, hs0, vs, kv, hdo⟩ := dk_rd I1.hok hd
  obtain ⟨ep, hat⟩ := hdo.dictAt
  have lk : kvs.length = vs.length := Paired.length kv
  have I2 : L2.Inv X pins σ H1 { s1 with heap := s1.heap.push { cls := .type "dict_values", data := .fields #[.ref d] } } := I1.kept (t' := s1.toks) fun b ob q => Heap.get?_push_of_some _ q
  refine ⟨hdo.typeIs, hdo.mapOf.noDict, ?_⟩
  show wpAny _ _ (callWith cpos (.builtin "dict.values") [.ref d] [] []) _ X.xe s1
  refine method_meetsIn F.slot_dict_values F.entry_dict_values rfl (PySem.evalArgs_none ⟨rfl, hdo.typeIs, F.args_dict_values_1 _, _, meets_dict_values (mixKind X.prog X.w) d hs0, ⟨vs, hdo⟩, ?_⟩)
  refine Calls.spliced_nil ?_
  refine PySem.W.kdl_call (PySem.W.kdl_values (prog := X.prog) (w := X.w) (knd := mixKind X.prog X.w) (kvs := vs) (ep := ep)) (I1.ok.hd hc) ⟨⟨_, Heap.get?_push_size _ rfl, rfl, rfl⟩, hat.push _⟩ (by rw [← lk]; exact hz) fun h' tk acc' c' hkeep hS hacc => ?_
  have hn : H1 (s1.heap.push { cls := .type "dict_values", data := .fields #[.ref d] }).objs.size = none := I2.hok.fresh (Nat.le_refl _)
  refine ⟨.ref _, upd H1 _ (.lst (kvs.map (·.2))), I2.laid (t' := tk) hkeep (Nat.le_refl _) (show ObjOk X.prog X.w _ _ _ (.lst (kvs.map (·.2))) from ⟨by rw [List.length_map]; exact hz, acc'.toList, c', ?_, by rw [Array.toArray_toList]; exact hS⟩), rfl, q _ hn⟩
  have el : acc'.toList.length = acc'.size := by simp
  refine vals_of_at (by rw [List.length_map, el, hacc.1, lk]) fun j x w h1 h2 => ?_
  obtain ⟨k, hky⟩ := hacc.2 j w (by rw [← Array.getElem?_toList]; exact h2)
  rw [List.getElem?_map] at h1
  cases e : kvs[j]? with
  | none => rw [e] at h1; cases h1
  | some y =>
    rw [e] at h1
    cases h1
    obtain ⟨u, hu, ru⟩ := kv_get kv (k := y.1) (v := y.2) e
    rw [hky] at hu
    cases hu
    exact ru
end
end S
set_option Elab.async false
set_option linter.all false
namespace S
open PySem L2
/-- a def's slots at its entry: n of them -/
def startN (n : Nat) (vs : List V) : L2.St := vs.map some ++ List.replicate (n - vs.length) none
end S
set_option Elab.async false
set_option linter.all false
set_option maxRecDepth 100000
set_option maxHeartbeats 2000000
namespace S
open PySem PySem.Spec L2 PyProof.Rows
def tChain3 (r r' r2 : R2) (ta tb tc td : TE) : TE := fun σ H Q => ta σ H fun x H1 => tb σ H1 fun y H2 => r x y H2 fun z H3 => ∃ k, z = .bl k ∧
  (if k = true then tc σ H3 fun w' H4 => r' y w' H4 fun z H5 => ∃ k, z = .bl k ∧ (if k = true then td σ H5 fun u H6 => r2 w' u H6 Q else Q (.bl false) H5) else Q (.bl false) H3)
section
variable {X : Cx} {a b c d : Expr} {ta tb tc td : TE} {pos : Pos}
theorem pt_chain3 {op op' op2 : CmpOp} {r r' r2 : R2} (ho : OpR X (compareOp op) r) (ho' : OpR X (compareOp op') r') (ho2 : OpR X (compareOp op2) r2) (ha : PE X a ta) (hb : PE X b tb) (hc : PE X c tc) (hd : PE X d td)
    (hm : lastMarks [op, op', op2] [b, c, d] = false := by with_unfolding_all rfl) : PT X (.Compare a [op, op', op2] [b, c, d] pos) (tTest (tChain3 r r' r2 ta tb tc td)) := by
  refine ⟨fun pins s σ H Q I h => ?_⟩
  refine isTrue_chain (thn (ha.run pins s σ H _ I h) fun v s1 ⟨x, H1, I1, r1, q1⟩ => test_link (thn (hb.run pins s1 σ H1 _ I1 q1) fun u s2 ⟨y, H2, I2, r2, q2⟩ =>
    thn (ho pins s2 σ H2 x y v u _ I2 r1 r2 q2) fun d s3 ⟨z, H3, I3, r3, k, e, q3⟩ => ?_)) hm
  subst e
  cases r3
  refine wpAny_truthy_bool ?_
  cases k with
  | false =>
    obtain ⟨k', e', q'⟩ := q3
    cases e'
    exact ite_ff ⟨H3, I3, q'⟩
  | true =>
    refine ite_tt (test_link (thn (hc.run pins s3 σ H3 _ I3 q3) fun w' s4 ⟨z', H4, I4, r4, q4⟩ => thn (ho' pins s4 σ H4 y z' u w' _ I4 r2 r4 q4) fun d' s5 ⟨z2, H5, I5, r5, k2, e2, q5⟩ => ?_))
    subst e2
    cases r5
    refine wpAny_truthy_bool ?_
    cases k2 with
    | false =>
      obtain ⟨k', e', q'⟩ := q5
      cases e'
      exact ite_ff ⟨H5, I5, q'⟩
    | true =>
      refine ite_tt (test_last (thn (hd.run pins s5 σ H5 _ I5 q5) fun w2 s6 ⟨z3, H6, I6, r6, q6⟩ => thn (ho2 pins s6 σ H6 z' z3 w' w2 _ I6 r4 r6 q6) fun d2 s7 ⟨z4, H7, I7, r7, k3, e3, q7⟩ => ?_))
      subst e3
      cases r7
      exact wpAny_truthy_bool ⟨H7, I7, q7⟩
/-- the scope of a list in a list -/
def scDay : Scope := { kind := .function, names := [(".0", .local), ("day", .cell), ("book", .cell), ("names", .cell), ("numbers", .cell)], isGenerator := false, isCoroutine := false }
/-- a loop over a dict that is locked here, or that was locked ahead -/
def tLockM (t : TS) : TS := fun D σ H => tLock t D σ H ∨ t D σ H
theorem ps_lockM {st : Stmt} {t : TS} (h : PS X st t) : PS X st (tLockM t) := ⟨fun pins s σ H D I q => by
  rcases q with q | q
  · exact (ps_lock h).run pins s σ H D I q
  · exact h.run pins s σ H D I q⟩
end
end S
set_option Elab.async false
set_option linter.all false
set_option maxRecDepth 100000
set_option maxHeartbeats 4000000
namespace S
open PySem PySem.Spec L2 PyProof.Rows
/-! ### sorted(set(xs)), xs whole numbers -/
section
variable {P : Program} {w : World} {A : Around} {E : Value → Shared → Prop} {s : Shared}
/-- a set as it is made, nothing in it -/
abbrev bare (w : World) : Obj := { cls := .type "set", dict := none, data := .set #[] 0 (.fresh 0 0 (!w.params.followText "set-order")) }
/-- what set(xs) leaves: a set of the numbers of ns, all else as it was -/
def Made (w : World) (s : Shared) (ns : List Int) (s2 : Shared) : Prop := ∃ (h' : Heap) (tk c : Nat), s2 = { s with heap := h', toks := tk } ∧ SetR w h' s.heap.objs.size (fun j => decide (j ∈ ns)) c ∧ c ≤ ns.length ∧ ∀ b o, s.heap.get? b = some o → h'.get? b = some o
theorem at_ints {us : List Value} {ns : List Int} (h : IntsAre us ns) (hn : us.length = ns.length) {i : Nat} {v : Value} (hv : us[i]? = some v) : ∃ k t, ns[i]? = some k ∧ v = .int k t := by
  have hi : i < ns.length := by rw [← hn]; exact (List.getElem?_eq_some_iff.mp hv).1
  obtain ⟨t, e⟩ := IntsAre.int_at h i v hv
  refine ⟨ns[i], t, List.getElem?_eq_getElem hi, ?_⟩
  rw [e, List.getD_eq_getElem?_getD, List.getElem?_eq_getElem hi]
  rfl
theorem call_setL {l : Addr} {items : Array Value} {ns : List Int} {Q : Value → Shared → Prop} (hh : A.handled = none) (hl : s.heap.IsList l items) (hit : IntsAre items.toList ns) (hb : ns.length + 1 < scanBound)
    (h : ∀ s2, Made w s ns s2 → Q (.ref s.heap.objs.size) s2) : wpAny (model P w) A (call (.type "set") [.ref l]) Q E s := by
  have hlen := IntsAre.length hit
  have hsz : items.size = ns.length := by rw [← hlen, Array.length_toList]
  obtain ⟨c, tl, hmro⟩ := F.called_set.mro
  have hmade := F.called_set.made
  have hsub := F.called_set.sub
  have h1 := F.called_set.notType
  have h2 := F.called_set.canCreate
  have hct := F.typeCall_set_1 (.ref l)
  refine wpAny_call (codeAny_of_tree ?_)
  show wpAny _ _ (callAny (.type "set") _) _ _ _
  refine wpAny_pure ⟨Code.quiet_builtin _ (by decide +kernel), codeAny_builtin F.entry_type_call ?_⟩
  rw [Around.under_plain (weight_type_call_type "set" [.ref l] []) rfl]
  repeat (any_goals (first | assumption | wp_step))
  -- the new set
  refine codeAny_mono (code_set_led1 (.ref l) (E := E) (Q₁ := fun obj s₁ => obj = .ref s.heap.objs.size ∧ s₁ = { s with heap := s.heap.push (bare w) }) ⟨rfl, rfl⟩) fun r s₁ hr => ?_
  rcases r with e | fl
  · exact hr
  cases fl with
  | ret obj =>
    obtain ⟨rfl, rfl⟩ := hr
    have hS : (s.heap.push (bare w)).get? s.heap.objs.size = some (bare w) := Heap.get?_push_size _ rfl
    have hT : Shared.TypeIs { s with heap := s.heap.push (bare w) } (.ref s.heap.objs.size) "set" := ⟨_, hS, rfl⟩
    have hli := F.called_set.init.lookup
    have hbi := F.called_set.init.bind (.ref s.heap.objs.size)
    repeat (any_goals (first | assumption | wp_step))
    -- its numbers
    refine codeAny_mono (codeAny_call_builtin (R := wants (fun r s₂ => r = .none ∧ Made w s ns s₂) E) F.called_set.init.plain F.entry_set_init (check_set_init_1 hT ?_)) fun r₂ s₂ hr₂ => ?_
    · obtain ⟨⟨ocls, odict, odata, oslots⟩, hol, hcl, nl, hdl⟩ := hl
      simp only at hcl hdl
      subst hcl
      subst hdl
      have hlS : l < s.heap.objs.size := Heap.lt_size hol
      have hol' := Heap.get?_push_of_some (bare w) hol
      have hl1 : (s.heap.push (bare w)).IsList l items := ⟨_, hol', rfl, nl, rfl⟩
      have hsls := F.sub_list_set
      have hslf := F.sub_list_frozenset
      have hne : (Value.type "list" == Value.type "dict") = false := by decide
      unfold Builtin.«set.__init__» noKeywords Builtin.Frozenset.updateFrom
      generalize hPI : pyIter = PI
      wp_walk
      subst hPI
      refine wpAny_pyIter_list hl1 (wpAny_bind (wpAny_runValue ?_))
      have hh3 : A.in1.in1.in1.handled = none := by simp [hh]
      have hz : (s.heap.push (bare w)).objs.size = s.heap.objs.size + 1 := Heap.size_push ..
      have out1 : l ≠ (s.heap.push (bare w)).objs.size := by
        rw [hz]
        exact Nat.ne_of_lt (Nat.lt_succ_of_lt hlS)
      have out2 : s.heap.objs.size ∉ [(s.heap.push (bare w)).objs.size, l] := fun z => by
        rcases List.mem_cons.mp z with z | z
        · rw [hz] at z
          exact absurd z (Nat.ne_of_lt (Nat.lt_succ_self _))
        · exact absurd (List.mem_singleton.mp z) (Nat.ne_of_gt hlS)
      refine set_update_ints ((Walks.list hh3 _ l out1 items).toS) s.heap.objs.size out2 ns hsz hb (fun i v hv => at_ints hit hlen (by rw [Array.getElem?_toList]; exact hv)) (items.size - 0) 0 _ (by omega) (Nat.zero_le _)
        ⟨⟨_, Heap.get?_push_size _ rfl, rfl, rfl⟩, (hl1.push _)⟩ ⟨0, Nat.le_refl 0, setR_new_at (Heap.get?_push_of_some _ hS)⟩ ?_
      rintro ⟨h', g2, d', tk', os'⟩ c' hm hc' hS'
      have eg : g2 = s.gens := hm.gens
      have ed : d' = s.drawn := hm.drawn
      have eo : os' = s.os := hm.os
      subst eg
      subst ed
      subst eo
      show wpAny _ _ _ _ _ _
      refine wpAny_pure ?_
      show wpAny _ _ (ret Value.none) _ _ _
      rw [hsz] at hc'
      refine wpAny_pure ⟨rfl, h', tk', c', rfl, hS', hc', fun b o e => ?_⟩
      have hb0 : b < s.heap.objs.size := Heap.lt_size e
      refine hm.heap b o (fun z => ?_) (Heap.get?_push_of_some _ (Heap.get?_push_of_some _ e))
      rcases List.mem_cons.mp z with z | z
      · exact absurd z (Nat.ne_of_lt hb0)
      · have z2 := List.mem_singleton.mp z
        rw [hz] at z2
        exact absurd z2 (Nat.ne_of_lt (Nat.lt_succ_of_lt hb0))
    · rcases r₂ with e | fl₂
      · exact hr₂
      cases fl₂ with
      | ret r =>
        obtain ⟨rfl, hm⟩ := hr₂
        repeat (any_goals (first | assumption | wp_step))
        exact h _ hm
      | _ => exact hr₂.elim
  | _ => exact hr.elim
end
/-- sorted(set(xs)) -/
def tSortSetI (K : PySem.W.Frag) (ta : TE) : TE := fun σ H Q => ta σ H fun x H1 => ∃ (l : Addr) (ns : List Int), x = .ref l ∧ SqL K H1 l (ns.map V.int) ∧ ns.length < 64 ∧
  ∀ (ms : List Int) (p : Addr), ms.Pairwise (· < ·) → (∀ k : Int, k ∈ ms ↔ k ∈ ns) → H1 p = none → Q (.ref p) (upd H1 p (.lst (ms.map V.int)))
section
variable {X : Cx}
theorem pe_sortSetI {a : Expr} {ta : TE} {p p2 q pos : Pos} (hg : Gl X "sorted") (hm : X.mg "sorted" = none) (hg2 : Gl X "set") (hm2 : X.mg "set" = none) (ha : PE X a ta) (hc : X.calm = true := by rfl)
    (na : starEach [a] X.env = (false, eval a X.env) :: starEach [] X.env := by rfl) : PE X (.Call (.Name "sorted" p) [.Call (.Name "set" p2) [a] [] q] [] pos) (tSortSetI X.K ta) := by
  refine ⟨fun pins s σ H Q I h => ?_⟩
  refine Call_ (ld_blt I hg hm PyProof.Rows.boot_sorted ?_)
  refine PyProof.Rows.callWith_builtin1 (PyProof.Rows.args_cons ?_ rfl) rfl rfl
  refine Call_ (ld_blt I hg2 hm2 PyProof.Rows.boot_set ?_)
  refine PyProof.Rows.callWith_type1 (PyProof.Rows.args_cons (thn (ha.run pins s σ H _ I h) fun v s1 ⟨x, H1, I1, r1, q1⟩ => PyProof.Rows.args_nil ?_) na) na rfl
  obtain ⟨l, ns, rfl, hq, hl, q1⟩ := q1
  cases r1
  obtain ⟨its, r, pl, hz⟩ := I1.list hq
  refine call_setL (I1.ok.hd hc) pl.isList (ints_of_vals r) (by unfold scanBound; omega) fun s2 hm => ?_
  obtain ⟨h', tk, c, rfl, hS, hcn, hk⟩ := hm
  refine PyProof.Rows.args_nil ?_
  have I2 : Inv X pins σ H1 { s1 with heap := h', toks := tk } := I1.kept hk
  refine sorted_set hS (I2.ok.hd hc) (by omega) fun s' p out c2 ms k g o hp hg' hi hs hm hml => ?_
  have hl2 : (ms.map V.int).length ≤ sizeLine := by rw [List.length_map, hml, sizeLine_eq]; omega
  have hn : H1 p = none := I2.hok.fresh hp
  have J := I2.call' (ch := []) o (Un.laid k hp hn) (I2.hok.laid (o := .lst (ms.map V.int)) k hp ⟨hl2, out.toList, c2, vals_of_ints hi, hg'⟩) (by rw [g]; exact I2.bare) (fun _ z => nomatch z)
  exact ⟨.ref p, _, J, rfl, q1 ms p hs (fun k => (hm k).trans decide_eq_true_iff) hn⟩
end
end S
set_option Elab.async false
set_option linter.all false
set_option maxRecDepth 100000
set_option maxHeartbeats 2000000
namespace S
open PySem PySem.Spec L2 PyProof.Rows
/-! ### d.update(e), both dicts -/
def rUpdD : V → List V → Hp → VK → Prop := fun x vs H Q => ∃ (a b : Addr) (kvs more : List (Key × V)), x = .ref a ∧ vs = [.ref b] ∧ a ≠ b ∧ H a = some (.dK kvs) ∧ Rd H b (.dK more) ∧ kvs.length + more.length ≤ sizeLine ∧ Q .non (upd H a (.dK (mergeK kvs more)))
theorem mt_updD {X : Cx} : MtR X "dict.update" rUpdD := by
  intro pins s σ H x vs v us Q I rx rv h
  obtain ⟨a, b, kvs, more, ex, ev, hab, e, eb, hsz, q⟩ := h
  subst ex
  subst ev
  obtain rfl : v = Value.ref a := rx
  obtain ⟨u, eu, ru⟩ := vals1 rv
  subst eu
  obtain rfl : u = Value.ref b := ru
  obtain ⟨z, hd, vs, rel, dd⟩ := dk_of I.hok e
  obtain ⟨z2, hd2, ws, rel2, dd2⟩ := dk_rd I.hok eb
  refine call_meetsIn PySem.F.slot_dict_update dd.typeIs PySem.F.entry_dict_update (PySem.F.args_dict_update_2 _ _) (meets_dict_update (mixKind X.prog X.w) a b hab hd2)
    ⟨vs, ws, dd, dd2, by rw [← rel.length, ← rel2.length]; exact hsz, fun h' dd' _ hs => ⟨.non, _, ?_, rfl, q⟩⟩
  have he : ∃ q, h'.get? a = some q := let ⟨q, _, _, hq, _⟩ := dd'; ⟨q, hq⟩
  exact d_write (t' := s.toks) I (by rw [e]; exact True.intro) hs he (dk_new (Nat.le_trans (length_mergeK more kvs) hsz) hd (KV.merge rel2 rel) dd')
end S
set_option Elab.async false
set_option linter.all false
set_option maxRecDepth 100000
set_option maxHeartbeats 2000000
namespace S
open PySem PySem.Spec L2 PyProof.Rows
/-! ### raise of an own error -/
def tRaiseC (E : XK) (c : Addr) : TS := fun _ _ H => E (.ref c) none H
theorem ps_raiseC {X : Cx} {E : XK} {C : Addr} {x m : Str} {j : Nat} {p p2 pos pos2 : Pos} (hc : X.calm = true) (tk : Takes X fun cls d _ H => E cls d H) (q : PySem.W.excIn X.K C [.type "ValueError", .type "Exception", .type "BaseException", .type "object"] "ValueError.__new__" = true) (gC : X.mg x = some (.ref C)) (kC : PySem.W.keepIn X.K (.ref C) = true)
    (hb : PySem.W.subIn X.K (.ref C) (.type "BaseException") = some true) (ht : PySem.W.typeIn X.K (.ref C) = some (.type "type")) (hg : Gl X x) (hdb : (x == ("__debug__" : Str)) = false := by decide) :
    PS X (.Raise (some (.Call (.Name x p) [.Constant (.str m) j p2] [] pos)) none pos2) (tRaiseC E C) :=
  ps_raise (W := fun cls d _ H => E cls d H) hc tk (pmk_own PySem.F.excBase_ValueError q gC kC (raises_own hb ht) hg hdb)
end S
set_option Elab.async false
set_option linter.all false
set_option maxRecDepth 100000
set_option maxHeartbeats 2000000
namespace S
open PySem PySem.Spec L2 PyProof.Rows
/-! ### try: .. except X as e: .. of a def that lets nothing out -/
def tTryAs (K : PySem.W.Frag) (c : Addr) (i : Nat) (tb : WX → TS) (ts : Addr → Value → Option Addr → TS) : TS := fun D σ H => tb (wAs K (.ref c) i ts (fun _ _ _ _ => False) D) D σ H
section
variable {X : Cx} {x n : Str} {C : Addr} {i : Nat} {body suite : List Stmt} {b₀ : Stmt} {np pos pos' : Pos} {tb : WX → TS} {ts : Addr → Value → Option Addr → TS}
theorem ps_tryAs (hs : X.stack = X.env :: X.outer) (hf : X.env.frame = some X.env.locals) (hN : X.N.Nodup) (hi : X.N[i]? = some n) (hln : X.env.kindOf n = some .local) (hg : Gl X x) (hdb : (x == ("__debug__" : Str)) = false) (hm : X.mg x = some (.ref C))
    (hb : ∀ (W : WX) (pn : List (Addr × Obj)) (xe : Value → Shared → Prop), Takes (X.tr pn xe) W → PassesOwn (model X.prog X.w) X.A X.env xe → PSs (X.tr pn xe) body (tb W))
    (hsu : ∀ (a : Addr) (oe : Obj) (cls : Value) (d : Option Addr) (pn : List (Addr × Obj)), Zc cls d oe → (∃ vs, oe.data = .fields vs) → PSs (X.suite a ((a, oe) :: pn)) (b₀ :: suite) (ts a cls d)) :
    PS X (.Try body [.ExceptHandler (some (.Name x np)) (some n) (b₀ :: suite) pos'] [] [] pos) (tTryAs X.K C i tb ts) :=
  ps_try_as (Wout := fun _ _ _ _ => False) hs hf hN hi hln ⟨hg, hdb, .inl hm⟩ takes0 hb hsu
end
/-- isinstance(e, c), e the exception that the suite holds -/
def rIsEx (K : PySem.W.Frag) (a : Addr) (cls : Value) (d : Option Addr) : List V → Hp → VK → Prop := fun xs H Q => ∃ (D : Addr) (c : V) (cv : Value) (b : Bool), cls = .ref D ∧ d = none ∧ ExcC K D ∧ xs = [.ref a, c] ∧ (∀ u, RelV c u → u = cv) ∧ PySem.W.kitOne K (.ref D) cv = some b ∧ Q (.bl b) H
theorem call_isEx {X : Cx} {a : Addr} {cls : Value} {d : Option Addr} {oe : Obj} {pn : List (Addr × Obj)} (hz : Zc cls d oe) (hf : ∃ vs, oe.data = .fields vs) : CallR (X.suite a ((a, oe) :: pn)) (.builtin "isinstance") (rIsEx X.K a cls d) := by
  intro pins s σ H xs us Q I r h
  obtain ⟨D, c, cv, b, rfl, rfl, hC, e1, e2, e3, q⟩ := h
  exact call_isE hC hz hf pins s σ H xs us Q I r ⟨c, cv, b, e1, e2, e3, q⟩
end S
namespace S
open PySem PySem.Spec L2
/-- what the top says of an error's class: it is the i-th of the seven -/
structure ExF (K : PySem.W.Frag) (C : CA) (D : Addr) (i : Nat) : Prop where
  c : ExcC K D
  bk : PySem.W.exmOne K (.ref D) (.ref C.BookError) = some true
  ve : PySem.W.kitOne K (.ref D) (.type "ValueError") = some true
  k0 : PySem.W.kitOne K (.ref D) (.ref C.BadEntry) = some (decide (i = 0))
  k1 : PySem.W.kitOne K (.ref D) (.ref C.BadBook) = some (decide (i = 1))
  k2 : PySem.W.kitOne K (.ref D) (.ref C.NoEntry) = some (decide (i = 2))
  k3 : PySem.W.kitOne K (.ref D) (.ref C.Closed) = some (decide (i = 3))
  k4 : PySem.W.kitOne K (.ref D) (.ref C.TooMany) = some (decide (i = 4))
  k5 : PySem.W.kitOne K (.ref D) (.ref C.Gone) = some (decide (i = 5))
  k6 : PySem.W.kitOne K (.ref D) (.ref C.BadText) = some (decide (i = 6))
end S
set_option Elab.async false
set_option linter.all false
set_option maxRecDepth 100000
set_option maxHeartbeats 2000000
namespace S
open PySem PySem.Spec L2 PyProof.Rows
/-! ### x not in (.., ..), all of it data -/
def niT (K : PySem.W.Frag) : R2 := fun x y H Q => ∃ d ds, Dp K H x d ∧ Dp K H y (.tuple ds) ∧ SeqAt.shaped d = true ∧ SeqAt.shaped (.tuple ds) = true ∧ Q (.bl (!ds.any fun z => PyData.eqv z d)) H
theorem uNiT {X : Cx} (hu : X.A.units + 100 < cLine) : OpR X (compareOp .NotIn) (niT X.K) := by
  intro pins s σ H x y v u Q I rx ry h
  obtain ⟨d, ds, hd, he, sd, se, q⟩ := h
  obtain ⟨as, r1⟩ := Dp.reads I d x v hd rx
  obtain ⟨bs, r2⟩ := Dp.reads I (.tuple ds) y u he ry
  exact SeqAt.notIn_tuple_reads r2 r1 (SeqAt.canLay_of_shaped se) (SeqAt.canLay_of_shaped sd) (room_in_shaped sd (by omega)) ⟨.bl _, H, I, rfl, q⟩
end S
set_option Elab.async false
set_option linter.all false
set_option maxRecDepth 100000
set_option maxHeartbeats 4000000
namespace S
open PySem PySem.Spec L2 PyProof.Rows
/-! ### a def that an except suite calls with its exception: p is that exception's object -/
structure FnP (P : Program) (w : World) (K : PySem.W.Frag) (mg : Str → Option Value) (base : Heap) (k : Nat) (f : Addr) (fd : FuncData) (ps : List Str) (p : Addr × Obj) (sp : Sp) : Prop where
  len : ∀ vs H Q E, sp vs H Q E → vs.length = ps.length
  run : ∀ (A : Around) (outer : List Env) (s : Shared) (H : Hp) (us : List Value) (vs : List V) (Q : VK) (E : XK), L2H.RoomH k A → L2H.PinOk outer H s p → Env0 P w K mg base A outer s H → BindsTo s fd ⟨us, []⟩ (ps.zip us) → Vals vs us → sp vs H Q E →
    codeAny (model P w) A (.call (.ref f) ⟨us, []⟩) (CR CX0 outer P w H s Q E) s
theorem fun_okP {P : Program} {w : World} {K : PySem.W.Frag} {mg : Str → Option Value} {base : Heap} {k : Nat} {f : Addr} {x qual : Str} {st : Stmt} {fd : FuncData} {N ps : List Str} {sp : Sp} {p : Addr × Obj} (F : Fun K x qual st f fd) (S : FnScope N ps (defScope st))
    (len : ∀ vs H Q E, sp vs H Q E → vs.length = ps.length)
    (hbody : ∀ (cdv : Value) (A : Around) (outer : List Env) (s : Shared) (H : Hp) (vs : List V) (Q : VK) (E : XK), L2H.RoomH k (A.deeper (envOfC qual (defScope st) s.heap.objs.size f cdv)) → sp vs H Q E →
      ∃ t, PSs (L2H.cxH CX0 P w K mg base N qual (defScope st) f cdv A outer s H E p) (defBody st) t ∧ t { nx := fun _ H' => Q .non H', rt := Q } (startN N.length vs) H)
    (hst : ∀ vs : List V, vs.length = ps.length → startN N.length vs = L2.start N vs) : FnP P w K mg base (k + 1) f fd ps p sp := by
  obtain ⟨oc, od, kV, doc, pm, an, cdv, ct, osl, rfl, lk, hcd⟩ := F.ex
  refine ⟨len, fun A outer s H us vs Q E hr hpin e0 hb r hsp => ?_⟩
  have hl := len _ _ _ _ hsp
  have KX : K.In s.heap := e0.mod.kin.keeps fun b o e => (e0.bs b o e).1
  have hkind : ∀ y ∈ ps.zip us, (defScope st).names.lookup y.1 = some .local ∨ ((defScope st).names.lookup y.1 = some .cell ∧ ((cellsFrom (s.heap.objs.size + 1) (defScope st).names []).lookup y.1).isSome = true) := fun ⟨n, v⟩ hy => by
    rcases S.par n (List.of_mem_zip hy).1 with q | q
    · exact .inl q
    · exact .inr ⟨q, PySem.W.cellsFrom_some _ _ _ (.inl q)⟩
  refine codeAny_call_function hr.depth (KX _ _ lk) rfl S.co S.gen rfl (PySem.W.codeRec_of KX hcd) (hb _ _ _ _ ?_)
  refine wpAny_newFunctionEnv_cells S.kind hkind fun env he s1 y => ?_
  subst he
  refine ⟨(e0.mod.nolimit.keeps fun b o e => (e0.bs b o e).1).keeps y.toInCall.keep, codeAny_func ?_⟩
  obtain ⟨t, ht, hq⟩ := hbody cdv A outer s H vs Q E (hr.deeper _) hsp
  rw [hst vs hl] at hq
  refine wpAny_mono (ht.run [] s1 (L2.start N vs) H _ (L2H.inv_startH S hpin e0 hl r y) hq) (fun fl s' hs => ?_) fun e s' hs => hs
  cases fl with
  | ret u =>
    obtain ⟨v, σ', H', J, rv, q⟩ := hs
    exact ⟨v, H', J.os, J.bare, J.base, J.hok, rv, q⟩
  | next =>
    obtain ⟨σ', H', J, q⟩ := hs
    exact ⟨V.non, H', J.os, J.bare, J.base, J.hok, rfl, q⟩
  | brk =>
    obtain ⟨_, _, _, q⟩ := hs
    exact q.elim
  | cont =>
    obtain ⟨_, _, _, q⟩ := hs
    exact q.elim
theorem roomH_mark {k : Nat} {A : Around} {v : Option Value} (r : L2H.RoomH k A) : L2H.RoomH k (A.mark v) := ⟨r.dp, r.un⟩
theorem hUH {k : Nat} {A : Around} (r : L2H.RoomH k A) : A.units + 100 < cLine := by have := r.un; omega
section
variable {X : Cx} {k : Nat} {f C : Addr} {fd : FuncData} {ps : List Str} {sp : Sp} {x m : Str} {q pos apos : Pos} {e o : Expr} {es : List Expr} {ta : TE} {t : TA} {p : Addr × Obj}
theorem pe_callP (F : FnP X.prog X.w X.K X.mg X.base k f fd ps p sp) (hr : L2H.RoomH k X.A) (hp : p ∈ X.pn) (hg : Gl X x) (hm : X.mg x = some (.ref f)) (hk : PySem.W.keepIn X.K (.ref f) = true) (hb : Binds X.K fd ps [])
    (ha : PA X (e :: es) t) (hdb : (x == ("__debug__" : Str)) = false := by decide) (he : starEach (e :: es) X.env = (false, eval e X.env) :: starEach es X.env := by rfl) (hpl : (backTo pos (starEach es X.env)).any (·.1) = false := by rfl) :
    PE X (.Call (.Name x q) (e :: es) [] pos) (tCallS sp (fun _ => E0) t) := by
  refine ⟨fun pins s σ H Q I h => ?_⟩
  refine wpAny_Call_Name_kw (ld_glob I hg hm ?_ hdb)
  refine PySem.W.callWith_K (h₀ := X.base) I.ok.mod.kin hk (thn (ha.run pos pins s σ H _ I h) fun us s1 ⟨vs, H1, I1, r, hsp⟩ => ⟨I1.kIn, ?_⟩) he hpl
  have hl : us.length = ps.length := by rw [← r.length]; exact F.len _ _ _ _ hsp
  have b := hb s1 us I1.kIn (by rw [List.append_nil]; exact hl)
  rw [List.append_nil] at b
  have P1 := I1.pin p (List.mem_append_left _ hp)
  refine wpAny_call (codeAny_mono (F.run X.A X.stack s1 H1 us vs Q E0 hr ⟨P1.1, P1.2.1, fun hm => (List.mem_cons.mp (I1.stkSub p.1 hm)).elim P1.2.2.1 P1.2.2.2.1, P1.2.2.2.2⟩ I1.env0 b r hsp) fun r s' hq => ?_)
  cases r with
  | error e => exact hq.elim
  | ok fl =>
    cases fl with
    | ret u => exact I1.after hq
    | next => exact hq.elim
    | brk => exact hq.elim
    | cont => exact hq.elim
/-- a method of an instance, called where what it raises is caught -/
theorem pe_methS {CX : CXT} {E : L2.St → XK} {pl : Sem Bool} (he : PE X o ta) (c : Cls X.K C) (hm : Meth X.K C m f) (F : FnOk X.prog X.w X.K X.mg X.base CX k f fd ps sp) (hr : Room k X.A) (hb : Binds X.K fd ps []) (hx : ∀ σ, PassesAt CX X σ (E σ)) (ha : PA X (e :: es) t)
    (hst : starEach (e :: es) X.env = (false, eval e X.env) :: starEach es X.env := by rfl) (hpl : (backTo pos (starEach es X.env)).any (·.1) = false := by rfl)
    (ht : eval (.Call (.Attribute o m apos) (e :: es) [] pos) X.env = (do
      let ov ← eval o X.env
      standAt apos.atName
      let (f, first) ← holding [ov] (getMethod ov m pl)
      callWith pos f first (backTo pos (starEach (e :: es) X.env)) (backToKw pos (keywordEach [] X.env))) := by rfl) :
    PE X (.Call (.Attribute o m apos) (e :: es) [] pos) (L2H.tMethH C m sp E ta t) := by
  refine ⟨fun pins s σ H Q I h => ?_⟩
  refine PySem.W.methodCall_KW (pl := pl) (thn (he.run pins s σ H _ I h) fun u s1 ⟨v, H1, I1, rx, a, dx, fs, ex, ea, l, q⟩ => ?_) ht
  subst ex
  obtain rfl : u = Value.ref a := rx
  refine getmeth_ok I1 ea c hm l ?_
  refine PySem.W.callWith_K (first := [.ref a]) (h₀ := X.base) I.ok.mod.kin hm.kp (thn (ha.run pos pins s1 σ H1 _ I1 q) fun us s2 ⟨vs, H2, I2, r, q2⟩ => ⟨I2.kIn, ?_⟩) hst hpl
  exact run_fnS (us := .ref a :: us) (vs := .ref a :: vs) F hr hb (hx σ) I2 (.cons rfl r) q2
end
/-- isinstance(e, c), e the exception that is handled -/
theorem call_isExP {X : Cx} {a : Addr} {cls : Value} {d : Option Addr} {oe : Obj} (hz : Zc cls d oe) (hf : ∃ vs, oe.data = .fields vs) (hp : (a, oe) ∈ X.pn) : CallR X (.builtin "isinstance") (rIsEx X.K a cls d) := by
  intro pins s σ H xs us Q I r h
  obtain ⟨D, c, cv, b, rfl, rfl, C, rfl, hcv, e, q⟩ := h
  cases r with
  | cons rx rr =>
    cases rr with
    | cons rt rr =>
      cases rr
      cases rx
      have ec := hcv _ rt
      subst ec
      obtain ⟨hget, _⟩ := I.pin (a, oe) (List.mem_append.mpr (.inl hp))
      obtain ⟨vs, hv⟩ := hf
      have J : PySem.W.InstAt s.heap a oe D none := by
        obtain ⟨oc, od, oda, osl⟩ := oe
        obtain ⟨h1, h2⟩ := hz
        dsimp only at h1 h2 hv
        subst h1 h2 hv
        exact ⟨hget, rfl, rfl, trivial⟩
      exact PySem.W.kia_one (PySem.W.handS_kitx_exc C.hg C.hk C.hs C.hd C.ha C.hn C.ht C.hm) I.kIn J e (fun z => nomatch z) fun tk => ⟨.bl b, H, I.kept (t' := tk) fun _ _ z => z, rfl, q⟩
/-! ### xs.count(x), flat items -/
def rCountB : V → List V → Hp → VK → Prop := fun x xs H Q => ∃ (p : Addr) (ys : List V) (y : V), x = .ref p ∧ xs = [y] ∧ H p = some (.lst ys) ∧ flatV y = true ∧ ys.all flatV = true ∧ Q (.int (ys.countP fun z => eqV z y : Nat)) H
theorem count_flat {y : V} : ∀ {ys : List V} {us : List Value}, Vals ys us → ys.all flatV = true → us.countP (eqU y) = ys.countP fun z => eqV z y
  | _, _, .nil, _ => rfl
  | z :: ys, u :: us, .cons r t, f => by
    rw [List.all_cons, Bool.and_eq_true] at f
    rw [List.countP_cons, List.countP_cons, count_flat t f.2, eqU_of r f.1]
theorem mt_countB {X : Cx} : MtR X "list.count" rCountB := by
  intro pins s σ H x xs v us Q I rx rxs h
  obtain ⟨p, ys, y, rfl, rfl, hH, fy, fys, q⟩ := h
  have hs : SqL X.K H p ys := .inl (.inl hH)
  cases rx
  obtain ⟨u, rfl, ru⟩ := rxs.one
  obtain ⟨its, rv, ⟨⟨cls, dd, data, sl⟩, n, ho, hc, hdn, hd⟩, hlen⟩ := I.list hs
  simp only at hc hd
  subst hc hd
  refine call_meets PySem.F.slot_list_count ⟨_, ho, rfl⟩ PySem.F.entry_list_count (PySem.F.args_list_count_2 _ _)
    (SeqAt.list_countAt p its.toArray n dd sl u (eqU y)) ⟨ho, fun u' hu' => mem_eqAt ru fy rv fys u' (by simpa using hu'), ?_⟩
  have ec : its.toArray.toList.countP (eqU y) = ys.countP fun z => eqV z y := count_flat rv fys
  refine ⟨.int (ys.countP fun z => eqV z y : Nat), H, I.tok _, ⟨s.toks, ?_⟩, q⟩
  show Value.int ((its.toArray.toList.countP (eqU y) : Nat) : Int) s.toks = Value.int ((ys.countP fun z => eqV z y : Nat) : Int) s.toks
  rw [ec]
end S
set_option Elab.async false
set_option linter.all false
set_option maxRecDepth 100000
set_option maxHeartbeats 2000000
namespace S
open PySem L2 Evl
section
variable {K : PySem.W.Frag} {σ : L2.St} {H H' : Hp} {ta tb te tc : TE} {x y z v : V} {i j : Int} {a b : Str}
theorem ev_add (ha : Ev ta σ H (.int i)) (hb : Ev tb σ H (.int j)) : Ev (tOp (addA K) ta tb) σ H (.int (i + j)) := ev_op ha hb fun H1 e Q q => .inl ⟨i, j, rfl, rfl, q H1 (Ex.refl H1)⟩
theorem ev_adds (ha : Ev ta σ H (.str a)) (hb : Ev tb σ H (.str b)) (hz : a.length + b.length ≤ 100000) : Ev (tOp (addA K) ta tb) σ H (.str (a ++ b)) := ev_op ha hb fun H1 e Q q => .inr (.inl ⟨a, b, rfl, rfl, sz_of hz, q H1 (Ex.refl H1)⟩)
theorem ev_sub (ha : Ev ta σ H (.int i)) (hb : Ev tb σ H (.int j)) : Ev (tOp subI ta tb) σ H (.int (i - j)) := ev_op ha hb rv_I0
/-- one factor within 2 ^ 64 -/
theorem ev_mulr (ha : Ev ta σ H (.int i)) (hb : Ev tb σ H (.int j)) (h : -(2 ^ 64) < j ∧ j < 2 ^ 64) : Ev (tOp mulI ta tb) σ H (.int (i * j)) := ev_op ha hb (rv_I (.inr h))
theorem ev_mull (ha : Ev ta σ H (.int i)) (hb : Ev tb σ H (.int j)) (h : -(2 ^ 64) < i ∧ i < 2 ^ 64) : Ev (tOp mulI ta tb) σ H (.int (i * j)) := ev_op ha hb (rv_I (.inl h))
theorem ev_div (ha : Ev ta σ H (.int i)) (hb : Ev tb σ H (.int j)) (h : 0 < j ∧ j < 1073741824) : Ev (tOp divI ta tb) σ H (.int (i / j)) := ev_op ha hb (rv_I h)
theorem ev_mod (ha : Ev ta σ H (.int i)) (hb : Ev tb σ H (.int j)) (h : 0 < j) : Ev (tOp modI ta tb) σ H (.int (i % j)) := ev_op ha hb (rv_I h)
theorem ev_pow (ha : Ev ta σ H (.int i)) (hb : Ev tb σ H (.int j)) (h : 0 ≤ j ∧ j ≤ 1000000 ∧ i.natAbs < 2 ^ 64) : Ev (tOp powI ta tb) σ H (.int (i ^ j.toNat)) := ev_op ha hb (rv_I h)
theorem ev_neg (ha : Ev ta σ H (.int i)) : Ev (tUn (rU fun i => .int (-i)) ta) σ H (.int (-i)) := ev_un ha ru_neg
theorem ev_lt (ha : Ev ta σ H (.int i)) (hb : Ev tb σ H (.int j)) : Ev (tOp ltI ta tb) σ H (.bl (decide (i < j))) := ev_op ha hb rv_I0
theorem ev_le (ha : Ev ta σ H (.int i)) (hb : Ev tb σ H (.int j)) : Ev (tOp leI ta tb) σ H (.bl (decide (i ≤ j))) := ev_op ha hb rv_I0
theorem ev_gt (ha : Ev ta σ H (.int i)) (hb : Ev tb σ H (.int j)) : Ev (tOp gtI ta tb) σ H (.bl (decide (j < i))) := ev_op ha hb rv_I0
theorem ev_ge (ha : Ev ta σ H (.int i)) (hb : Ev tb σ H (.int j)) : Ev (tOp geI ta tb) σ H (.bl (decide (j ≤ i))) := ev_op ha hb rv_I0
theorem ev_eq (ha : Ev ta σ H x) (hb : Ev tb σ H y) (h : scal x y = true) : Ev (tOp (eqA K) ta tb) σ H (.bl (decide (x = y))) := ev_op ha hb fun H1 e Q q => .inl ⟨h, q H1 (Ex.refl H1)⟩
theorem ev_ne (ha : Ev ta σ H x) (hb : Ev tb σ H y) (h : scal x y = true) : Ev (tOp (neA K) ta tb) σ H (.bl (!decide (x = y))) := ev_op ha hb fun H1 e Q q => .inl ⟨h, q H1 (Ex.refl H1)⟩
theorem dV_int : decide (V.int i = V.int j) = decide (i = j) := by simp
theorem dV_str : decide (V.str a = V.str b) = decide (a = b) := by simp
theorem ev_eqI (ha : Ev ta σ H (.int i)) (hb : Ev tb σ H (.int j)) : Ev (tOp (eqA K) ta tb) σ H (.bl (decide (i = j))) := by rw [← dV_int]; exact ev_eq ha hb rfl
theorem ev_neI (ha : Ev ta σ H (.int i)) (hb : Ev tb σ H (.int j)) : Ev (tOp (neA K) ta tb) σ H (.bl (!decide (i = j))) := by rw [← dV_int]; exact ev_ne ha hb rfl
theorem ev_eqS (ha : Ev ta σ H (.str a)) (hb : Ev tb σ H (.str b)) : Ev (tOp (eqA K) ta tb) σ H (.bl (decide (a = b))) := by rw [← dV_str]; exact ev_eq ha hb rfl
theorem ev_neS (ha : Ev ta σ H (.str a)) (hb : Ev tb σ H (.str b)) : Ev (tOp (neA K) ta tb) σ H (.bl (!decide (a = b))) := by rw [← dV_str]; exact ev_ne ha hb rfl
theorem ev_isN (ha : Ev ta σ H x) : Ev (tOp isN ta (tC .non)) σ H (.bl (decide (x = .non))) := ev_op ha ev_c fun H1 e Q q => ⟨rfl, q H1 (Ex.refl H1)⟩
theorem ev_ntN (ha : Ev ta σ H x) : Ev (tOp ntN ta (tC .non)) σ H (.bl (!decide (x = .non))) := ev_op ha ev_c fun H1 e Q q => ⟨rfl, q H1 (Ex.refl H1)⟩
/-- two comparisons in a row -/
theorem ev_chain {r r' : R2} {k m : Bool} (ha : Ev ta σ H x) (hb : Ev tb σ H y) (h1 : RV r x y H (.bl k)) (h2 : k = true → Ev tc σ H z) (h3 : k = true → RV r' y z H (.bl m)) : Ev (tChain r r' ta tb tc) σ H (.bl (k && m)) := fun H1 e Q q =>
  ha H1 e _ fun H2 e2 => hb H2 (e.trans e2) _ fun H3 e3 => h1 H3 ((e.trans e2).trans e3) _ fun H4 e4 => ⟨k, rfl, by
    have E4 := ((e.trans e2).trans e3).trans e4
    cases k with
    | true =>
      show tc σ H4 _
      exact h2 rfl H4 E4 _ fun H5 e5 => h3 rfl H5 (E4.trans e5) Q fun H6 e6 => q H6 (((e2.trans e3).trans e4).trans (e5.trans e6))
    | false =>
      show Q (.bl false) H4
      exact q H4 ((e2.trans e3).trans e4)⟩
theorem ev_chainI {r r' : R2} {f g : Int → Int → Bool} {k : Int} (hr : r = rI0 fun i j => .bl (f i j)) (hr' : r' = rI0 fun i j => .bl (g i j)) (ha : Ev ta σ H (.int i)) (hb : Ev tb σ H (.int j)) (hc : Ev tc σ H (.int k)) : Ev (tChain r r' ta tb tc) σ H (.bl (f i j && g j k)) := by
  subst hr hr'
  exact ev_chain ha hb rv_I0 (fun _ => hc) fun _ => rv_I0
theorem ev_lele {k : Int} (ha : Ev ta σ H (.int i)) (hb : Ev tb σ H (.int j)) (hc : Ev tc σ H (.int k)) : Ev (tChain leI leI ta tb tc) σ H (.bl (decide (i ≤ j) && decide (j ≤ k))) :=
  ev_chainI (f := fun i j => decide (i ≤ j)) (g := fun i j => decide (i ≤ j)) rfl rfl ha hb hc
theorem ev_ltle {k : Int} (ha : Ev ta σ H (.int i)) (hb : Ev tb σ H (.int j)) (hc : Ev tc σ H (.int k)) : Ev (tChain ltI leI ta tb tc) σ H (.bl (decide (i < j) && decide (j ≤ k))) :=
  ev_chainI (f := fun i j => decide (i < j)) (g := fun i j => decide (i ≤ j)) rfl rfl ha hb hc
theorem ev_ltlt {k : Int} (ha : Ev ta σ H (.int i)) (hb : Ev tb σ H (.int j)) (hc : Ev tc σ H (.int k)) : Ev (tChain ltI ltI ta tb tc) σ H (.bl (decide (i < j) && decide (j < k))) :=
  ev_chainI (f := fun i j => decide (i < j)) (g := fun i j => decide (i < j)) rfl rfl ha hb hc
/-! items -/
theorem ev_ixL {p : Addr} {xs : List V} (ha : Ev ta σ H (.ref p)) (hb : Ev tb σ H (.int i)) (h : SqL K H p xs) (hv : atI xs i = some v) : Ev (tOp (ixA K) ta tb) σ H v :=
  ev_op ha hb fun H1 e Q q => .inl (.inl ⟨p, xs, i, v, rfl, rfl, ex_l e h, hv, q H1 (Ex.refl H1)⟩)
theorem ev_ixT {p : Addr} {xs : List V} (ha : Ev ta σ H (.ref p)) (hb : Ev tb σ H (.int i)) (h : SqT K H p xs) (hv : atI xs i = some v) : Ev (tOp (ixA K) ta tb) σ H v :=
  ev_op ha hb fun H1 e Q q => .inl (.inr (.inl ⟨p, xs, i, v, rfl, rfl, ex_t e h, hv, q H1 (Ex.refl H1)⟩))
theorem ev_ixS {c : Nat} (ha : Ev ta σ H (.str a)) (hb : Ev tb σ H (.int i)) (hz : a.length ≤ 100000) (hv : atI a.cps.toList i = some c) : Ev (tOp (ixA K) ta tb) σ H (.str ⟨#[c]⟩) :=
  ev_op ha hb fun H1 e Q q => .inl (.inr (.inr ⟨a, i, c, rfl, rfl, sz_of hz, hv, q H1 (Ex.refl H1)⟩))
theorem dget_mono {p : Addr} {kvs : List (Key × V)} {k : Key} (e : Ex H H') (h : Rd H p (.dK kvs)) : DGet H' p (kV k) (valV kvs k) := .inl ⟨kvs, k, ex_rd e h, rfl, rfl⟩
theorem ev_ixD {p : Addr} {kvs : List (Key × V)} {k : Key} (ha : Ev ta σ H (.ref p)) (hb : Ev tb σ H (kV k)) (h : Rd H p (.dK kvs)) (hv : valV kvs k = some v) : Ev (tOp (ixA K) ta tb) σ H v :=
  ev_op ha hb fun H1 e Q q => .inr ⟨p, v, rfl, by rw [← hv]; exact dget_mono e h, q H1 (Ex.refl H1)⟩
/-- an item of a list that is written there -/
theorem ev_ixN {xs : List V} (ha : EvL ta σ H xs) (hb : Ev tb σ H (.int i)) (hv : atI xs i = some v) : Ev (tOp (ixA K) ta tb) σ H v :=
  ev_opL1 ha (fun H1 e => hb.mono e) fun p H1 hp e H2 e2 Q q => .inl (.inl ⟨p, xs, i, v, rfl, rfl, ex_l e2 (sq_of hp), hv, q H2 (Ex.refl H2)⟩)
theorem ev_niD {p : Addr} {kvs : List (Key × V)} {k : Key} (ha : Ev ta σ H (kV k)) (hb : Ev tb σ H (.ref p)) (h : Rd H p (.dK kvs)) : Ev (tOp (niA K) ta tb) σ H (.bl (!(valV kvs k).isSome)) :=
  ev_op ha hb fun H1 e Q q => .inr (.inr ⟨p, _, rfl, dget_mono e h, q H1 (Ex.refl H1)⟩)
theorem ev_inD {p : Addr} {kvs : List (Key × V)} {k : Key} (ha : Ev ta σ H (kV k)) (hb : Ev tb σ H (.ref p)) (h : Rd H p (.dK kvs)) : Ev (tOp (inA K) ta tb) σ H (.bl ((valV kvs k).isSome)) :=
  ev_op ha hb fun H1 e Q q => .inr (.inr ⟨p, _, rfl, dget_mono e h, q H1 (Ex.refl H1)⟩)
theorem ev_niL {p : Addr} {xs : List V} (ha : Ev ta σ H x) (hb : Ev tb σ H (.ref p)) (h : SqL K H p xs) (hx : flatV x = true) (hf : xs.all flatV = true) : Ev (tOp (niA K) ta tb) σ H (.bl (!inV x xs)) :=
  ev_op ha hb fun H1 e Q q => .inr (.inl ⟨p, xs, rfl, .inl (ex_l e h), hx, hf, q H1 (Ex.refl H1)⟩)
theorem ev_inL {p : Addr} {xs : List V} (ha : Ev ta σ H x) (hb : Ev tb σ H (.ref p)) (h : SqL K H p xs) (hx : flatV x = true) (hf : xs.all flatV = true) : Ev (tOp (inA K) ta tb) σ H (.bl (inV x xs)) :=
  ev_op ha hb fun H1 e Q q => .inr (.inl ⟨p, xs, rfl, .inl (ex_l e h), hx, hf, q H1 (Ex.refl H1)⟩)
theorem ev_inTw {xs : List V} (ha : Ev ta σ H x) (hb : EvU tb σ H xs) (hx : flatV x = true) (hf : xs.all flatV = true) : Ev (tOp (inA K) ta tb) σ H (.bl (inV x xs)) :=
  ev_opU ha hb fun p H1 h e H2 e2 Q q => .inr (.inl ⟨p, xs, rfl, .inr (ex_t e2 (st_of h)), hx, hf, q H2 (Ex.refl H2)⟩)
theorem ev_niTw {xs : List V} (ha : Ev ta σ H x) (hb : EvU tb σ H xs) (hx : flatV x = true) (hf : xs.all flatV = true) : Ev (tOp (niA K) ta tb) σ H (.bl (!inV x xs)) :=
  ev_opU ha hb fun p H1 h e H2 e2 Q q => .inr (.inl ⟨p, xs, rfl, .inr (ex_t e2 (st_of h)), hx, hf, q H2 (Ex.refl H2)⟩)
/-! calls of built-ins -/
theorem ev_lenL {p : Addr} {xs : List V} (ha : Ev ta σ H (.ref p)) (h : SqL K H p xs) : Ev (tCB (lenA K) (tCons ta tNil)) σ H (.int (xs.length : Int)) := fun H1 e Q q =>
  ha H1 e _ fun H2 e2 => .inl ⟨_, _, rfl, .inl ⟨xs, ex_l (e.trans e2) h, rfl⟩, q H2 e2⟩
theorem ev_lenT {p : Addr} {xs : List V} (ha : Ev ta σ H (.ref p)) (h : SqT K H p xs) : Ev (tCB (lenA K) (tCons ta tNil)) σ H (.int (xs.length : Int)) := fun H1 e Q q =>
  ha H1 e _ fun H2 e2 => .inl ⟨_, _, rfl, .inr ⟨xs, ex_t (e.trans e2) h, rfl⟩, q H2 e2⟩
theorem ev_lenS (ha : Ev ta σ H (.str a)) (hz : a.length ≤ 100000) : Ev (tCB (lenA K) (tCons ta tNil)) σ H (.int (a.length : Int)) := fun H1 e Q q =>
  ha H1 e _ fun H2 e2 => .inl ⟨_, _, rfl, ⟨sz_of hz, rfl⟩, q H2 e2⟩
theorem ev_lenD {p : Addr} {kvs : List (Key × V)} (ha : Ev ta σ H (.ref p)) (h : Rd H p (.dK kvs)) : Ev (tCB (lenA K) (tCons ta tNil)) σ H (.int (kvs.length : Int)) := fun H1 e Q q =>
  ha H1 e _ fun H2 e2 => .inr ⟨_, kvs, rfl, ex_rd (e.trans e2) h, q H2 e2⟩
theorem ev_min (ha : Ev ta σ H (.int i)) (hb : Ev tb σ H (.int j)) : Ev (tCB rMin2 (tCons ta (tCons tb tNil))) σ H (.int (if j < i then j else i)) := fun H1 e Q q =>
  ha H1 e _ fun H2 e2 => hb H2 (e.trans e2) _ fun H3 e3 => ⟨i, j, rfl, q H3 (e2.trans e3)⟩
theorem ev_max (ha : Ev ta σ H (.int i)) (hb : Ev tb σ H (.int j)) : Ev (tCB rMax2 (tCons ta (tCons tb tNil))) σ H (.int (if j > i then j else i)) := fun H1 e Q q =>
  ha H1 e _ fun H2 e2 => hb H2 (e.trans e2) _ fun H3 e3 => ⟨i, j, rfl, q H3 (e2.trans e3)⟩
theorem ev_intI (ha : Ev ta σ H (.int i)) : Ev (tCB (intC K) (tCons ta tNil)) σ H (.int i) := fun H1 e Q q => ha H1 e _ fun H2 e2 => .inl (.inl ⟨i, rfl, q H2 e2⟩)
theorem ev_intB {k : Bool} (ha : Ev ta σ H (.bl k)) : Ev (tCB (intC K) (tCons ta tNil)) σ H (.int (if k then 1 else 0)) := fun H1 e Q q => ha H1 e _ fun H2 e2 => .inl (.inr ⟨k, rfl, q H2 e2⟩)
/-! isinstance of a plain value -/
theorem ev_isi {t : String} {k : Bool} {T : String} (ha : Ev ta σ H x) (hx : ∀ H1, Ex H H1 → TyX K H1 x (.type t)) (h : kitB t T = some k) : Ev (tCB (rIsi K) (tCons ta (tCons (tC (.ty T)) tNil))) σ H (.bl k) := fun H1 e Q q =>
  ha H1 e _ fun H2 e2 => ⟨_, _, _, .type T, k, rfl, .ty T, hx H2 (e.trans e2), kit_ty h, q H2 e2⟩
/-! texts cut -/
theorem ev_slS {tl th : TO} {lo hi : Option Int} (ha : Ev ta σ H (.str a)) (hl : EvO tl σ H lo) (hh : EvO th σ H hi) (hz : a.length ≤ 100000) : Ev (tSl (slA K) ta tl th) σ H (.str (cutS a lo hi)) := fun H1 e Q q =>
  ha H1 e _ fun H2 e2 => hl H2 (e.trans e2) _ fun H3 e3 => hh H3 ((e.trans e2).trans e3) _ fun H4 e4 => .inr (.inl ⟨a, rfl, sz_of hz, q H4 ((e2.trans e3).trans e4)⟩)
theorem eo_no : EvO tNoPart σ H none := fun H1 e Q q => q H1 (Ex.refl H1)
theorem eo_some (ha : Ev ta σ H (.int i)) : EvO (tPart ta) σ H (some i) := fun H1 e Q q => ha H1 e _ fun H2 e2 => ⟨i, rfl, q H2 e2⟩
theorem el_sl {p : Addr} {xs : List V} {tl th : TO} {lo hi : Option Int} (ha : Ev ta σ H (.ref p)) (hl : EvO tl σ H lo) (hh : EvO th σ H hi) (h : SqL K H p xs) : EvL (tSl (slA K) ta tl th) σ H (cutV xs lo hi) := fun H1 e Q q =>
  ha H1 e _ fun H2 e2 => hl H2 (e.trans e2) _ fun H3 e3 => hh H3 ((e.trans e2).trans e3) _ fun H4 e4 => .inl ⟨p, xs, rfl, ex_l (((e.trans e2).trans e3).trans e4) h, fun l hl => by
    have E := (e2.trans e3).trans e4
    exact q l _ (fresh_back E hl) (E.trans (Ex.new hl)) upd_same⟩
theorem ev_revS (ha : Ev ta σ H (.str a)) (hz : a.length ≤ 100000) : Ev (tRevA K ta) σ H (.str (revS a)) := fun H1 e Q q =>
  ha H1 e _ fun H2 e2 => ⟨1, rfl, _, rfl, rfl, rfl, rfl, .inr ⟨a, rfl, sz_of hz, q H2 e2⟩⟩
theorem el_rev {p : Addr} {xs : List V} (ha : Ev ta σ H (.ref p)) (h : SqL K H p xs) : EvL (tRevA K ta) σ H xs.reverse := fun H1 e Q q =>
  ha H1 e _ fun H2 e2 => ⟨1, rfl, _, rfl, rfl, rfl, rfl, .inl ⟨p, xs, rfl, ex_l (e.trans e2) h, fun l hl => q l _ (fresh_back e2 hl) (e2.trans (Ex.new hl)) upd_same⟩⟩
/-- two lists in one -/
theorem el_cat {xs ys : List V} (ha : EvL ta σ H xs) (hb : EvL tb σ H ys) (hz : xs.length + ys.length ≤ 100000) : EvL (tOp (addA K) ta tb) σ H (xs ++ ys) := fun H1 e Q q =>
  ha H1 e _ fun p H2 hp e2 h2 => hb H2 (e.trans e2) _ fun r H3 hr e3 h3 => .inr (.inr (.inl ⟨p, r, xs, ys, rfl, rfl, e3 p _ h2, h3, sz_of hz, fun l hl => q l _ (fresh_back (e2.trans e3) hl) ((e2.trans e3).trans (Ex.new hl)) upd_same⟩))
theorem el_catV {p : Addr} {xs ys : List V} (ha : Ev ta σ H (.ref p)) (h : H p = some (.lst xs)) (hb : EvL tb σ H ys) (hz : xs.length + ys.length ≤ 100000) : EvL (tOp (addA K) ta tb) σ H (xs ++ ys) := fun H1 e Q q =>
  ha H1 e _ fun H2 e2 => hb H2 (e.trans e2) _ fun r H3 hr e3 h3 => .inr (.inr (.inl ⟨p, r, xs, ys, rfl, rfl, ((e.trans e2).trans e3) p _ h, h3, sz_of hz, fun l hl => q l _ (fresh_back (e2.trans e3) hl) ((e2.trans e3).trans (Ex.new hl)) upd_same⟩))
/-! dicts -/
/-- a new dict -/
def EvD (te : TE) (σ : L2.St) (H : Hp) (kvs : List (Key × V)) : Prop := ∀ H1, Ex H H1 → ∀ Q : VK, (∀ p H2, H1 p = none → Ex H1 H2 → H2 p = some (.dK kvs) → Q (.ref p) H2) → te σ H1 Q
theorem ed_new : EvD tDNewK σ H [] := fun H1 e Q q p hp => q p _ hp (Ex.new hp) upd_same
theorem ed_copy {p : Addr} {kvs : List (Key × V)} (ha : Ev ta σ H (.ref p)) (h : Rd H p (.dK kvs)) : EvD (tCB (dictC K) (tCons ta tNil)) σ H kvs := fun H1 e Q q =>
  ha H1 e _ fun H2 e2 => .inr ⟨p, kvs, rfl, ex_rd (e.trans e2) h, fun l hl => q l _ (fresh_back e2 hl) (e2.trans (Ex.new hl)) upd_same⟩
theorem ev_get2 {p : Addr} {kvs : List (Key × V)} {k : Key} (ha : Ev ta σ H (.ref p)) (hb : Ev tb σ H (kV k)) (hc : Ev tc σ H z) (h : Rd H p (.dK kvs)) : Ev (tDGet2 ta tb tc) σ H ((valV kvs k).getD z) := fun H1 e Q q =>
  ha H1 e _ fun H2 e2 => ⟨p, rfl, .inl ⟨kvs, ex_rd (e.trans e2) h⟩, hb H2 (e.trans e2) _ fun H3 e3 => hc H3 ((e.trans e2).trans e3) _ fun H4 e4 => ⟨_, dget_mono (((e.trans e2).trans e3).trans e4) h, q H4 ((e2.trans e3).trans e4)⟩⟩
theorem ev_get2N {kvs : List (Key × V)} {k : Key} (ha : EvD ta σ H kvs) (hb : Ev tb σ H (kV k)) (hc : Ev tc σ H z) : Ev (tDGet2 ta tb tc) σ H ((valV kvs k).getD z) := fun H1 e Q q =>
  ha H1 e _ fun p H2 hp e2 h2 => ⟨p, rfl, .inl ⟨kvs, .inl h2⟩, hb H2 (e.trans e2) _ fun H3 e3 => hc H3 ((e.trans e2).trans e3) _ fun H4 e4 => ⟨_, dget_mono (e3.trans e4) (.inl h2), q H4 ((e2.trans e3).trans e4)⟩⟩
variable {D : Ends} {tz : TS}
theorem s_asgD {i : Nat} {kvs : List (Key × V)} (h : EvD te σ H kvs) (k : ∀ p H1, H p = none → Ex H H1 → H1 p = some (.dK kvs) → D.nx (σ.set i (some (.ref p))) H1) : tAsg te (gName i) D σ H := h H (Ex.refl H) _ fun p H1 hp e h1 => k p H1 hp e h1
theorem q_asgD {i : Nat} {kvs : List (Key × V)} (h : EvD te σ H kvs) (k : ∀ p H1, H p = none → Ex H H1 → H1 p = some (.dK kvs) → tz D (σ.set i (some (.ref p))) H1) : tSeq (tAsg te (gName i)) tz D σ H := s_asgD (D := { D with nx := tz D }) h k
theorem s_retD {kvs : List (Key × V)} (h : EvD te σ H kvs) (k : ∀ p H1, H p = none → Ex H H1 → H1 p = some (.dK kvs) → D.rt (.ref p) H1) : tRet te D σ H := h H (Ex.refl H) _ k
/-- d[k] = v -/
theorem s_put {p : Addr} {kvs : List (Key × V)} {k : Key} (h : Ev te σ H v) (ha : Ev ta σ H (.ref p)) (hb : Ev tb σ H (kV k)) (hd : H p = some (.dK kvs)) (hz : kvs.length < 100000) (q : ∀ H1, Ex H H1 → D.nx σ (upd H1 p (.dK (putK kvs k v)))) : tAsg te (gSub ta tb setA) D σ H :=
  h H (Ex.refl H) _ fun H1 e1 => ha H1 e1 _ fun H2 e2 => hb H2 (e1.trans e2) _ fun H3 e3 => .inr ⟨p, _, rfl, DPut.k (((e1.trans e2).trans e3) p _ hd) (sz_lt hz), q H3 ((e1.trans e2).trans e3)⟩
theorem q_put {p : Addr} {kvs : List (Key × V)} {k : Key} (h : Ev te σ H v) (ha : Ev ta σ H (.ref p)) (hb : Ev tb σ H (kV k)) (hd : H p = some (.dK kvs)) (hz : kvs.length < 100000) (q : ∀ H1, Ex H H1 → tz D σ (upd H1 p (.dK (putK kvs k v)))) : tSeq (tAsg te (gSub ta tb setA)) tz D σ H :=
  s_put (D := { D with nx := tz D }) h ha hb hd hz q
/-- xs[j] = v -/
theorem s_setA {p : Addr} {xs : List V} {j : Nat} (h : Ev te σ H v) (ha : Ev ta σ H (.ref p)) (hb : Ev tb σ H (.int i)) (hd : H p = some (.lst xs)) (hj : ixN xs.length i = some j) (q : ∀ H1, Ex H H1 → D.nx σ (upd H1 p (.lst (xs.set j v)))) : tAsg te (gSub ta tb setA) D σ H :=
  h H (Ex.refl H) _ fun H1 e1 => ha H1 e1 _ fun H2 e2 => hb H2 (e1.trans e2) _ fun H3 e3 => .inl ⟨p, xs, i, j, rfl, rfl, ((e1.trans e2).trans e3) p _ hd, hj, q H3 ((e1.trans e2).trans e3)⟩
theorem s_setAU {p : Addr} {xs ys : List V} {j : Nat} (h : EvU te σ H ys) (ha : Ev ta σ H (.ref p)) (hb : Ev tb σ H (.int i)) (hd : H p = some (.lst xs)) (hj : ixN xs.length i = some j) (q : ∀ t H1, H t = none → Ex H H1 → H1 t = some (.tup ys) → D.nx σ (upd H1 p (.lst (xs.set j (.ref t))))) : tAsg te (gSub ta tb setA) D σ H :=
  h H (Ex.refl H) _ fun t H1 ht e1 h1 => ha H1 e1 _ fun H2 e2 => hb H2 (e1.trans e2) _ fun H3 e3 => .inl ⟨p, xs, i, j, rfl, rfl, ((e1.trans e2).trans e3) p _ hd, hj, q t H3 ht ((e1.trans e2).trans e3) ((e2.trans e3) t _ h1)⟩
/-- for x in sorted(d, reverse=True) and alike -/
theorem s_forG {g : TG} {tu : TS} {wi : TI} {J : It} (h : ∀ R : It → Hp → Prop, (∀ H1, Ex H H1 → R J H1) → wi σ H R) (k : ∀ H1, Ex H H1 → ∃ W : Nat → Nat → L2.St → Hp → Prop, (∃ m, W 0 m σ H1) ∧ ∀ i m σ H, W i m σ H →
  (J.stop i H ∧ D.nx σ H) ∨ (J.go i H ∧ ∃ N : L2.St → Hp → Prop, (∀ σ' H', N σ' H' → ∃ m', m' < m ∧ W (i + 1) m' σ' H') ∧ ∀ x H', J.yld i H x H' → g x σ H' fun σ2 H2 => tu { D with nx := N, ct := N, bk := D.nx } σ2 H2)) : tFor wi g tu D σ H := h _ fun H1 e => k H1 e
end
end S
set_option Elab.async false
set_option linter.all false
set_option maxRecDepth 100000
set_option maxHeartbeats 4000000
namespace S
open PySem L2 Evl
/-! ### small facts -/
theorem toL_nat {n k : Nat} : HT.sIx n 0 (some (k : Int)) = min k n := HT.sIx_nat n 0 k
theorem cut_at {ns : List Int} {k : Nat} : atI (cutV (ns.map V.int) (some (k : Int)) (some ((k : Int) + 1)) ++ [V.int 0]) (0 : Int) = some (V.int (ns.getD k 0)) := by
  have h0 : ((0 : Nat) : Int) = 0 := rfl
  rw [← h0]
  refine atI_nat ?_
  unfold cutV
  have e1 : ((k : Int) + 1) = ((k + 1 : Nat) : Int) := by omega
  rw [e1, HT.sIx_nat, HT.sIx_nat, List.length_map]
  by_cases h : k < ns.length
  · have a1 : min k ns.length = k := by omega
    have a2 : min (k + 1) ns.length = k + 1 := by omega
    rw [a1, a2]
    have a3 : k + 1 - k = 1 := by omega
    rw [a3, List.getElem?_append_left (by simp; omega)]
    rw [List.getElem?_take_of_lt (by omega), List.getElem?_drop, List.getElem?_map, Nat.add_zero]
    rw [List.getElem?_eq_getElem h]
    simp [h]
  · have a1 : min k ns.length = ns.length := by omega
    have a2 : min (k + 1) ns.length = ns.length := by omega
    rw [a1, a2]
    have a3 : (((ns.map V.int).drop ns.length).take (ns.length - ns.length)) = [] := by simp
    rw [a3]
    simp [List.getD, List.getElem?_eq_none (by omega : ns.length ≤ k)]
end S
section
open PySem L2 Evl S
local macro_rules | `(tactic| array_get_dec) => `(tactic| first
  | exact ev_c
  | exact ev_var rfl
  | exact S.eo_no
  | exact ea_nil
  | (apply S.eo_some <;> array_get_dec)
  | (apply ea_cons <;> array_get_dec)
  | (apply S.ev_add <;> array_get_dec)
  | (apply S.ev_sub <;> array_get_dec)
  | (apply S.ev_div <;> first | array_get_dec | exact ⟨by decide, by decide⟩ | exact ⟨by omega, by omega⟩)
  | (apply S.ev_mod <;> first | array_get_dec | decide | omega)
  | (apply S.ev_mulr <;> first | array_get_dec | exact ⟨by decide, by decide⟩ | exact ⟨by omega, by omega⟩)
  | (apply S.ev_mull <;> first | array_get_dec | exact ⟨by decide, by decide⟩ | exact ⟨by omega, by omega⟩)
  | (apply S.ev_neg <;> array_get_dec)
  | (apply S.ev_min <;> array_get_dec)
  | (apply S.ev_max <;> array_get_dec)
  | (apply S.ev_eqI <;> array_get_dec)
  | (apply S.ev_eqS <;> array_get_dec)
  | (apply S.ev_neI <;> array_get_dec)
  | (apply S.ev_neS <;> array_get_dec)
  | (apply S.ev_lt <;> array_get_dec)
  | (apply S.ev_le <;> array_get_dec)
  | (apply S.ev_gt <;> array_get_dec)
  | (apply S.ev_ge <;> array_get_dec)
  | (apply S.ev_intB <;> array_get_dec)
  | (apply et_test <;> array_get_dec)
  | (apply et_B <;> array_get_dec)
  | (apply et_not <;> array_get_dec)
  | (refine' et_and ?_ (fun _ => ?_) <;> array_get_dec)
  | (refine' et_or ?_ (fun _ => ?_) <;> array_get_dec))
namespace S
/-! ### _law_of -/
def sp_l_of (K : PySem.W.Frag) (C : CA) : Sp := fun vs H Q _ => ∃ (a : Addr) (ns : List Int) (k : Nat), vs = [.ref a, .int k] ∧ SqL K H a (ns.map V.int) ∧ ns.length ≤ 100 ∧ ∀ H', Ex H H' → Q (.int (ns.getD k 0)) H'
theorem len_l_of {K : PySem.W.Frag} {C : CA} {vs : List V} {H : Hp} {Q : VK} {E : XK} (h : sp_l_of K C vs H Q E) : vs.length = 2 := by
  obtain ⟨a, ns, k, rfl, _⟩ := h
  rfl
def t_l_of (K : PySem.W.Frag) (C : CA) : TS :=
 (tRet (tOp (ixA K) (tOp (addA K) (tSl (slA K) (tVar 0) (tPart (tVar 1)) (tPart (tOp (addA K) (tVar 1) (tC (.int 1))))) (tLst (tCons (tC (.int 0)) tNil))) (tC (.int 0))))
theorem pure_l_of {K : PySem.W.Frag} {C : CA} {vs : List V} {H : Hp} {Q : VK} {E : XK} (h : sp_l_of K C vs H Q E) : t_l_of K C { nx := fun _ H' => Q .non H', rt := Q } (startN 2 vs) H := by
  obtain ⟨a, ns, k, rfl, hS, hl, kk⟩ := h
  refine s_ret (ev_ixN (el_cat (el_sl (ev_var rfl) (by array_get_dec) (by array_get_dec) hS) (el_lst (by array_get_dec) (by decide)) ?_) ev_c cut_at) kk
  have := cutV_length (ns.map V.int) (some (k : Int)) (some ((k : Int) + 1))
  rw [List.length_map] at this
  show _ + 1 ≤ 100000
  omega
/-! ### texts of small letters -/
def LowS (x : Str) : Prop := ∀ c ∈ x.cps.toList, 97 ≤ c ∧ c ≤ 122
/-- a name -/
def NameS (x : Str) : Prop := 1 ≤ x.length ∧ x.length ≤ 8 ∧ LowS x
def alpha25 : Str := "abcdefghijklmnopqrstuvwxy"
theorem alpha_len : alpha25.cps.toList.length = 25 := by decide +kernel
theorem alpha_low : LowS alpha25 := by
  have h : (alpha25.cps.toList.all fun c => decide (97 ≤ c) && decide (c ≤ 122)) = true := by decide +kernel
  intro c hc
  have := List.all_eq_true.mp h c hc
  rw [Bool.and_eq_true, decide_eq_true_eq, decide_eq_true_eq] at this
  exact this
theorem low_app {a b : Str} (ha : LowS a) (hb : LowS b) : LowS (a ++ b) := fun c hc => by
  rw [Str.cps_append, Array.toList_append, List.mem_append] at hc
  exact hc.elim (ha c) (hb c)
theorem low_one {c : Nat} (h : 97 ≤ c ∧ c ≤ 122) : LowS ⟨#[c]⟩ := fun d hd => by
  have e : d = c := by simpa using hd
  rw [e]; exact h
theorem low_cut {a : Str} (ha : LowS a) (lo hi : Option Int) : LowS (cutS a lo hi) := fun c hc => by
  have : c ∈ (a.cps.toList.drop (HT.sIx a.length 0 lo)).take (HT.sIx a.length a.length hi - HT.sIx a.length 0 lo) := by simpa [cutS] using hc
  exact ha c (List.mem_of_mem_drop (List.mem_of_mem_take this))
theorem low_rev {a : Str} (ha : LowS a) : LowS (revS a) := fun c hc => by
  rw [revS_toList, List.mem_reverse] at hc
  exact ha c hc
theorem len_tl (a : Str) : a.cps.toList.length = a.length := by simp [Str.length]
theorem cut_lens (a : Str) {k : Nat} (hk : k ≤ a.length) : (cutS a none (some (k : Int))).length + (cutS a (some (k : Int)) none).length = a.length := by
  have l1 : (cutS a none (some (k : Int))).length = k := by
    show ((List.take _ (List.drop _ a.cps.toList)).toArray).size = k
    rw [List.size_toArray, List.length_take, List.length_drop, len_tl, HT.sIx_none, HT.sIx_nat]
    omega
  have l2 : (cutS a (some (k : Int)) none).length = a.length - k := by
    show ((List.take _ (List.drop _ a.cps.toList)).toArray).size = a.length - k
    rw [List.size_toArray, List.length_take, List.length_drop, len_tl, HT.sIx_none, HT.sIx_nat]
    omega
  omega
theorem atI_getD {α : Type} {xs : List α} {i : Int} (d : α) (h0 : 0 ≤ i) (h : i < xs.length) : atI xs i = some (xs.getD i.toNat d) := by
  have e : ((i.toNat : Nat) : Int) = i := Int.toNat_of_nonneg h0
  have h2 : i.toNat < xs.length := by omega
  have := atI_nat (xs := xs) (j := i.toNat) (v := xs.getD i.toNat d) (by rw [List.getD_eq_getElem?_getD, List.getElem?_eq_getElem h2]; rfl)
  rw [e] at this
  exact this
theorem getD_mem {α : Type} {xs : List α} {i : Nat} (d : α) (h : i < xs.length) : xs.getD i d ∈ xs := by
  rw [List.getD_eq_getElem?_getD, List.getElem?_eq_getElem h]
  exact List.getElem_mem h
/-- texts of one sign put together -/
theorem join_signs {ys : List Str} (hl : ∀ y ∈ ys, LowS y ∧ y.length = 1) : LowS (Txt.join ("" : Str) ys) ∧ (Txt.join ("" : Str) ys).length = ys.length := by
  have e : (Txt.join ("" : Str) ys).cps.toList = TL.joinL [] (ys.map TL.tl) := by
    have h1 := TL.tl_join ("" : Str) ys
    rw [TL.join_eq]
    exact h1
  have key : ∀ zs : List (List Nat), (TL.joinL [] zs) = zs.flatten := by
    intro zs
    induction zs with
    | nil => rfl
    | cons p r ih =>
      cases r with
      | nil => simp [TL.joinL]
      | cons q r => rw [TL.joinL, List.nil_append, ih, List.flatten_cons (L := q :: r)]
  rw [key] at e
  refine ⟨fun c hc => ?_, ?_⟩
  · rw [e, List.mem_flatten] at hc
    obtain ⟨l, h1, h2⟩ := hc
    obtain ⟨y, h3, rfl⟩ := List.mem_map.mp h1
    exact (hl y h3).1 c h2
  · rw [← len_tl, e]
    have : ∀ ys : List Str, (∀ y ∈ ys, y.length = 1) → ((ys.map TL.tl).flatten).length = ys.length := by
      intro ys
      induction ys with
      | nil => intro _; rfl
      | cons y r ih =>
        intro h
        rw [List.map_cons, List.flatten_cons, List.length_append, ih fun z hz => h z (List.mem_cons_of_mem _ hz), List.length_cons]
        have h1 : (TL.tl y).length = 1 := (len_tl y).trans (h y List.mem_cons_self)
        omega
    exact this ys fun y hy => (hl y hy).2
section
variable {K : PySem.W.Frag} {σ : L2.St} {H : Hp} {ta tb : TE} {a : Str}
theorem ev_join {ys : List Str} (ha : Ev ta σ H (.str a)) (hb : EvL tb σ H (ys.map V.str)) (hz : (ys.map (·.length)).sum + ys.length * a.length ≤ 16777216) : Ev (tM1 (joinR K) ta tb) σ H (.str (Txt.join a ys)) := fun H1 e Q q =>
  ha H1 e _ fun H2 e2 => ⟨⟨a, rfl⟩, hb H2 (e.trans e2) _ fun p H3 hp e3 h3 => ⟨a, p, ys, rfl, rfl, .inl (sq_of h3), hz, q H3 (e2.trans e3)⟩⟩
theorem et_yes : EvT tYes σ H true := fun H1 e Q q => q H1 (Ex.refl H1)
theorem given_all {n : Nat} {v : Nat → V} : given n (fun _ => true) v = (List.range n).map v := by
  unfold given
  rw [List.filter_eq_self.mpr fun _ _ => rfl]
end
theorem flat_strs (xs : List Str) : (xs.map V.str).all flatV = true := by
  rw [List.all_eq_true]
  intro v hv
  obtain ⟨x, _, rfl⟩ := List.mem_map.mp hv
  rfl
/-! ### _law_names -/
def GoodNames (xs : List Str) : Prop := xs.length = 3 ∧ ∀ x ∈ xs, NameS x
def wordF (more : Int) : Str := Txt.join ("" : Str) ((List.range (more % 7).toNat).map fun (j : Nat) => (⟨#[alpha25.cps.toList.getD ((more / 7 + 6 * (j : Int)) % 25).toNat 0]⟩ : Str))
def nameF (more : Int) (i : Nat) : Str := cutS (wordF more) none (some (more / 175 % (((wordF more).length : Int) + 1))) ++ ("z" : Str) ++ ⟨#[alpha25.cps.toList.getD i 0]⟩ ++ cutS (wordF more) (some (more / 175 % (((wordF more).length : Int) + 1))) none
def baseNames (cell : Int) (n : Nat) : List Str := (List.range n).map fun (i : Nat) => nameF (cell / 2 + (i : Int) * 48271 * (cell % 2)) i
/-- the names that a number tells -/
def namesF (cell : Int) : List Str := if (decide (cell % 5 = 3) && !inV (V.str (revS ((baseNames cell 3).getD 0 Str.empty))) ((baseNames cell 3).map V.str)) = true then (baseNames cell 3).set 1 (revS ((baseNames cell 3).getD 0 Str.empty)) else baseNames cell 3
def sp_l_names (K : PySem.W.Frag) (C : CA) : Sp := fun vs H Q _ => ∃ (cell : Int), vs = [.int cell, .int 3] ∧
  ∀ p xs H', H p = none → Ex H H' → H' p = some (.lst (xs.map V.str)) → GoodNames xs → xs = namesF cell → Q (.ref p) H'
theorem len_l_names {K : PySem.W.Frag} {C : CA} {vs : List V} {H : Hp} {Q : VK} {E : XK} (h : sp_l_names K C vs H Q E) : vs.length = 2 := by
  obtain ⟨a, rfl, _⟩ := h
  rfl
def t_l_names (K : PySem.W.Frag) (C : CA) : TS :=
 (tSeq (tAsg (tC (.str "abcdefghijklmnopqrstuvwxy")) (gName 2))
 (tSeq (tAsg (tLst tNil) (gName 3))
 (tSeq (tFor (iRng1 (tCons (tVar 1) tNil)) (gName 4)
  (tSeq (tAsg (tOp (addA K) (tOp (divI) (tVar 0) (tC (.int 2))) (tOp (mulI) (tOp (mulI) (tVar 4) (tC (.int 48271))) (tOp (modI) (tVar 0) (tC (.int 2))))) (gName 5))
 (tSeq (tAsg (tM1 (joinR K) (tC (.str "")) (tLc (iRng1 (tCons (tOp (modI) (tVar 5) (tC (.int 7))) tNil)) (gName 8) tYes (tOp (ixA K) (tVar 2) (tOp (modI) (tOp (addA K) (tOp (divI) (tVar 5) (tC (.int 7))) (tOp (mulI) (tC (.int 6)) (tVar 8))) (tC (.int 25)))) [8])) (gName 6))
 (tSeq (tAsg (tOp (modI) (tOp (divI) (tVar 5) (tC (.int 175))) (tOp (addA K) (tCB (lenA K) (tCons (tVar 6) tNil)) (tC (.int 1)))) (gName 7))
 (tDrop (tBM K "list" rAppend (tVar 3) (tCons (tOp (addA K) (tOp (addA K) (tOp (addA K) (tSl (slA K) (tVar 6) tNoPart (tPart (tVar 7))) (tC (.str "z"))) (tOp (ixA K) (tVar 2) (tVar 4))) (tSl (slA K) (tVar 6) (tPart (tVar 7)) tNoPart)) tNil)))))))
 (tSeq (tIfS (tAnd (tTest (tOp (eqA K) (tOp (modI) (tVar 0) (tC (.int 5))) (tC (.int 3)))) (tTest (tOp (niA K) (tRevA K (tOp (ixA K) (tVar 3) (tC (.int 0)))) (tVar 3)))) (tAsg (tRevA K (tOp (ixA K) (tVar 3) (tC (.int 0)))) (gSub (tVar 3) (tC (.int 1)) setA)) tNext)
 (tRet (tVar 3))))))
theorem pure_l_names {K : PySem.W.Frag} {C : CA} {vs : List V} {H : Hp} {Q : VK} {E : XK} (h : sp_l_names K C vs H Q E) : t_l_names K C { nx := fun _ H' => Q .non H', rt := Q } (startN 9 vs) H := by
  obtain ⟨cell, rfl, kk⟩ := h
  refine q_asg ev_c fun H1 e1 => ?_
  refine q_asgL (el_lst ea_nil (by decide)) fun p H2 hp e2 h2 => ?_
  have np : H p = none := fresh_back e1 hp
  have E2 : Ex H H2 := e1.trans e2
  refine q_forR1 (n := 3) (ea_cons (ev_var rfl) ea_nil) ⟨by decide, by decide⟩ (fun i σ' H' => ∃ o4 o5 o6 o7 xs, σ' = [some (.int cell), some (.int 3), some (.str alpha25), some (.ref p), o4, o5, o6, o7, none] ∧ Ex H H' ∧ H' p = some (.lst (xs.map V.str)) ∧ xs = baseNames cell i ∧ xs.length = i ∧ ∀ x ∈ xs, NameS x)
    (fun H3 e3 => ⟨none, none, none, none, [], rfl, E2.trans e3, e3 p _ h2, rfl, rfl, fun _ h => by cases h⟩) ?_ ?_
  · rintro i σ' H' hi ⟨o4, o5, o6, o7, xs, rfl, E3, h3, hxe, hx, hg⟩
    refine q_asg (S.ev_add (S.ev_div (ev_var rfl) ev_c ⟨by decide, by decide⟩) (S.ev_mull (S.ev_mulr (ev_var rfl) ev_c ⟨by decide, by decide⟩) (S.ev_mod (ev_var rfl) ev_c (by decide)) ⟨by omega, by omega⟩)) fun H4 e4 => ?_
    obtain ⟨more, hmore⟩ : ∃ more, more = (cell / 2 + (i : Int) * 48271 * (cell % 2)) := ⟨_, rfl⟩
    rw [← hmore]
    have hm : 0 ≤ more % 7 ∧ more % 7 < 7 := ⟨Int.emod_nonneg _ (by decide), Int.emod_lt_of_pos _ (by decide)⟩
    let ys : List Str := (List.range (more % 7).toNat).map fun (j : Nat) => ⟨#[alpha25.cps.toList.getD ((more / 7 + 6 * (j : Int)) % 25).toNat 0]⟩
    have hys : ∀ y ∈ ys, LowS y ∧ y.length = 1 := fun y hy => by
      obtain ⟨j, _, rfl⟩ := List.mem_map.mp hy
      have h0 := Int.emod_nonneg (more / 7 + 6 * (j : Int)) (show (25 : Int) ≠ 0 by decide)
      have h1 := Int.emod_lt_of_pos (more / 7 + 6 * (j : Int)) (show (0 : Int) < 25 by decide)
      exact ⟨low_one (alpha_low _ (getD_mem 0 (by rw [alpha_len]; omega))), rfl⟩
    have hlen : ys.length = (more % 7).toNat := by rw [List.length_map, List.length_range]
    have hsum : ∀ zs : List Str, (∀ y ∈ zs, y.length = 1) → (zs.map (·.length)).sum = zs.length := by
      intro zs
      induction zs with
      | nil => intro _; rfl
      | cons z r ih =>
        intro h
        rw [List.map_cons, List.sum_cons, ih fun y hy => h y (List.mem_cons_of_mem _ hy), h z List.mem_cons_self, List.length_cons]
        omega
    have lst : EvL (tLc (iRng1 (tCons (tOp (modI) (tVar 5) (tC (.int 7))) tNil)) (gName 8) tYes (tOp (ixA K) (tVar 2) (tOp (modI) (tOp (addA K) (tOp (divI) (tVar 5) (tC (.int 7))) (tOp (mulI) (tC (.int 6)) (tVar 8))) (tC (.int 25)))) [8])
        (((([some (.int cell), some (.int 3), some (.str alpha25), some (.ref p), o4, o5, o6, o7, none] : L2.St).set 4 (some (.int (i : Int)))).set 5 (some (.int more)))) H4 (ys.map V.str) := by
      have e : ys.map V.str = given (more % 7).toNat (fun _ => true) (fun (j : Nat) => V.str ⟨#[alpha25.cps.toList.getD ((more / 7 + 6 * (j : Int)) % 25).toNat 0]⟩) := by
        rw [given_all, List.map_map]
        rfl
      rw [e]
      refine el_lcR1 (n := more % 7) _ _ (by array_get_dec) ⟨hm.1, by omega⟩ (fun x => rfl) (fun j H5 e5 hj => et_yes) fun j H5 e5 hj _ => ?_
      refine ev_ixS (a := alpha25) (i := (more / 7 + 6 * (j : Int)) % 25) (ev_var rfl) (by array_get_dec) (by rw [← len_tl, alpha_len]; decide) ?_
      have h0 := Int.emod_nonneg (more / 7 + 6 * (j : Int)) (show (25 : Int) ≠ 0 by decide)
      have h1 := Int.emod_lt_of_pos (more / 7 + 6 * (j : Int)) (show (0 : Int) < 25 by decide)
      exact atI_getD 0 h0 (by rw [alpha_len]; exact h1)
    refine q_asg (ev_join ev_c lst ?_) fun H5 e5 => ?_
    · rw [hsum ys fun y hy => (hys y hy).2, hlen]
      have : ("" : Str).length = 0 := by decide +kernel
      rw [this]
      omega
    obtain ⟨w1, w2⟩ := join_signs hys
    obtain ⟨word, hword⟩ : ∃ word, word = Txt.join ("" : Str) ys := ⟨_, rfl⟩
    rw [← hword] at w1 w2 ⊢
    have hword' : wordF more = word := hword.symm
    rw [hlen] at w2
    have hpos : (0 : Int) < (word.length : Int) + 1 := by omega
    refine q_asg (i := 7) (ev_mod (i := more / 175) (by array_get_dec) (ev_add (ev_lenS (ev_var rfl) (by omega)) ev_c) hpos) fun H6 e6 => ?_
    have hat0 := Int.emod_nonneg (more / 175) (Int.ne_of_gt hpos)
    have hat1 := Int.emod_lt_of_pos (more / 175) hpos
    obtain ⟨at_, eat⟩ : ∃ at_ : Nat, (at_ : Int) = more / 175 % ((word.length : Int) + 1) := ⟨_, Int.toNat_of_nonneg hat0⟩
    have hnf : nameF more i = cutS word none (some (at_ : Int)) ++ ("z" : Str) ++ ⟨#[alpha25.cps.toList.getD i 0]⟩ ++ cutS word (some (at_ : Int)) none := by
      unfold nameF
      rw [hword', ← eat]
    rw [← eat] at hat1 ⊢
    have hc := cut_lens word (k := at_) (by omega)
    have hi3 : i < 3 := by omega
    have a25 : atI alpha25.cps.toList (i : Int) = some (alpha25.cps.toList.getD i 0) := by
      have := atI_getD (xs := alpha25.cps.toList) (i := (i : Int)) 0 (by omega) (by rw [alpha_len]; omega)
      simpa using this
    have lc : LowS ⟨#[alpha25.cps.toList.getD i 0]⟩ := low_one (alpha_low _ (getD_mem 0 (by rw [alpha_len]; omega)))
    have lz : LowS ("z" : Str) := by
      have : (("z" : Str).cps.toList.all fun c => decide (97 ≤ c) && decide (c ≤ 122)) = true := by decide +kernel
      intro c hc
      have := List.all_eq_true.mp this c hc
      rw [Bool.and_eq_true, decide_eq_true_eq, decide_eq_true_eq] at this
      exact this
    have z1 : ("z" : Str).length = 1 := by decide +kernel
    have hlast : NameS (cutS word none (some (at_ : Int)) ++ ("z" : Str) ++ ⟨#[alpha25.cps.toList.getD i 0]⟩ ++ cutS word (some (at_ : Int)) none) := by
      have el : (cutS word none (some (at_ : Int)) ++ ("z" : Str) ++ ⟨#[alpha25.cps.toList.getD i 0]⟩ ++ cutS word (some (at_ : Int)) none).length = word.length + 2 := by
        rw [Str.length_append, Str.length_append, Str.length_append, z1]
        show _ + 1 + 1 + _ = _
        omega
      exact ⟨by omega, by omega, low_app (low_app (low_app (low_cut w1 _ _) lz) lc) (low_cut w1 _ _)⟩
    have E6 : Ex H' H6 := (e4.trans e5).trans e6
    refine s_app (xs := xs.map V.str) (E6 p _ h3) (ev_var rfl) (ev_adds (ev_adds (ev_adds (ev_slS (ev_var rfl) S.eo_no (S.eo_some (ev_var rfl)) (by omega)) ev_c (by omega)) (ev_ixS (a := alpha25) (ev_var rfl) (ev_var rfl) (by rw [← len_tl, alpha_len]; decide) a25) ?_) (ev_slS (ev_var rfl) (S.eo_some (ev_var rfl)) S.eo_no (by omega)) ?_) (by rw [List.length_map]; omega) fun H7 e7 => ?_
    · rw [Str.length_append, z1]
      show _ + 1 + 1 ≤ _
      omega
    · rw [Str.length_append, Str.length_append, z1]
      show _ + 1 + 1 + _ ≤ _
      omega
    refine ⟨_, _, _, _, xs ++ [cutS word none (some (at_ : Int)) ++ ("z" : Str) ++ ⟨#[alpha25.cps.toList.getD i 0]⟩ ++ cutS word (some (at_ : Int)) none], rfl, Ex.mut (E3.trans (E6.trans e7)) np, ?_, ?_, by rw [List.length_append, hx]; rfl, fun x hx => ?_⟩
    · rw [upd_same, List.map_append]
      rfl
    · rw [hxe, ← hnf, hmore]
      unfold baseNames
      rw [List.range_succ, List.map_append]
      rfl
    · rcases List.mem_append.mp hx with h | h
      · exact hg x h
      · rw [List.mem_singleton.mp h]
        exact hlast
  · rintro σ' H' ⟨o4, o5, o6, o7, xs, rfl, E3, h3, hxe, hx, hg⟩
    have hxe3 : xs = baseNames cell 3 := hxe
    have hx3 : xs.length = 3 := hx
    obtain ⟨x0, x1, x2, rfl⟩ : ∃ x0 x1 x2, xs = [x0, x1, x2] := by
      match xs, hx3 with
      | [x0, x1, x2], _ => exact ⟨x0, x1, x2, rfl⟩
    have g0 := hg x0 (by simp)
    have r0 : NameS (revS x0) := ⟨by rw [revS_length]; exact g0.1, by rw [revS_length]; exact g0.2.1, low_rev g0.2.2⟩
    have hs0 : SqL K H' p ([x0, x1, x2].map V.str) := sq_of h3
    have ev0 : ∀ H1, Ex H' H1 → Ev (tRevA K (tOp (ixA K) (tVar 3) (tC (.int 0)))) [some (.int cell), some (.int 3), some (.str alpha25), some (.ref p), o4, o5, o6, o7, none] H1 (.str (revS x0)) := fun H1 e =>
      (ev_revS (ev_ixL (ev_var rfl) ev_c hs0 rfl) (by have := g0.2.1; omega)).mono e
    have evc : EvT (tTest (tOp (eqA K) (tOp (modI) (tVar 0) (tC (.int 5))) (tC (.int 3)))) [some (.int cell), some (.int 3), some (.str alpha25), some (.ref p), o4, o5, o6, o7, none] H' (decide (cell % 5 = 3)) := et_test (S.ev_eqI (S.ev_mod (ev_var rfl) ev_c (by decide)) ev_c)
    refine q_when (et_and evc fun _ => et_test (ev_niL (ev0 H' (Ex.refl _)) (ev_var rfl) hs0 rfl (flat_strs _))) (fun cc H1 e1 => ?_) (fun cc H1 e1 => ?_)
    · refine s_setA (xs := [x0, x1, x2].map V.str) (i := 1) (j := 1) (ev0 H1 e1) (ev_var rfl) ev_c (e1 p _ h3) rfl fun H2 e2 => ?_
      refine s_ret (D := { nx := _, rt := Q }) (ev_var rfl) fun H3 e3 => ?_
      refine kk p [x0, revS x0, x2] H3 np (Ex.trans (Ex.mut (E3.trans (e1.trans e2)) np) e3) (e3 p _ upd_same) ⟨rfl, fun x hx => ?_⟩ (by unfold namesF; rw [← hxe3]; exact (if_pos cc).symm)
      rcases List.mem_cons.mp hx with rfl | hx
      · exact g0
      · rcases List.mem_cons.mp hx with rfl | hx
        · exact r0
        · exact hg x (by rw [List.mem_singleton.mp hx]; simp)
    · refine s_ret (ev_var rfl) fun H3 e3 => ?_
      exact kk p [x0, x1, x2] H3 np (E3.trans (e1.trans e3)) (e3 p _ (e1 p _ h3)) ⟨rfl, hg⟩ (by unfold namesF; rw [← hxe3]; exact (if_neg (fun z => by rw [show (decide (cell % 5 = 3) && !inV (V.str (revS ([x0, x1, x2].getD 0 Str.empty))) (List.map V.str [x0, x1, x2])) = (decide (cell % 5 = 3) && !inV (V.str (revS x0)) (List.map V.str [x0, x1, x2])) from rfl, cc] at z; cases z)).symm)
end S
end
set_option Elab.async false
set_option linter.all false
set_option maxRecDepth 100000
set_option maxHeartbeats 4000000
namespace S
open PySem L2 Evl
/-! ### entries and books -/
inductive Ent where
  | tell (n : Str) (lo hi w : Int)
  | clear (n : Str) (lo hi : Int)
  | like (n : Str) (lo hi : Int) (o : Str)
  | undo (k : Int)
  deriving DecidableEq
def Ent.vs : Ent → List V
  | .tell n lo hi w => [.str "tell", .str n, .int lo, .int hi, .int w]
  | .clear n lo hi => [.str "clear", .str n, .int lo, .int hi]
  | .like n lo hi o => [.str "like", .str n, .int lo, .int hi, .str o]
  | .undo k => [.str "undo", .int k]
/-- an entry's own name -/
def Ent.nm : Ent → Option Str
  | .tell n _ _ _ => some n
  | .clear n _ _ => some n
  | .like n _ _ _ => some n
  | .undo _ => none
def DayOk (d : Int) : Prop := 0 ≤ d ∧ d ≤ 1000000
/-- an entry that may have the number k -/
def Ent.ok (k : Int) : Ent → Prop
  | .tell n lo hi w => NameS n ∧ 0 ≤ lo ∧ lo ≤ hi ∧ hi ≤ 1000000 ∧ -1000000000 ≤ w ∧ w ≤ 1000000000
  | .clear n lo hi => NameS n ∧ 0 ≤ lo ∧ lo ≤ hi ∧ hi ≤ 1000000
  | .like n lo hi o => NameS n ∧ 0 ≤ lo ∧ lo ≤ hi ∧ hi ≤ 1000000 ∧ NameS o
  | .undo j => 1 ≤ j ∧ j < k
abbrev Bk := List (Int × Ent)
def EntAt (H : Hp) (t : Addr) (e : Ent) : Prop := H t = some (.tup e.vs)
def BkRel (H : Hp) : List (Key × V) → Bk → Prop := Paired fun p q => p.1 = Sum.inl q.1 ∧ ∃ t, p.2 = .ref t ∧ EntAt H t q.2
theorem EntAt.mono {H H' : Hp} {t : Addr} {e : Ent} (x : Ex H H') (h : EntAt H t e) : EntAt H' t e := x t _ h
theorem BkRel.mono {H H' : Hp} (x : Ex H H') : ∀ {kvs : List (Key × V)} {B : Bk}, BkRel H kvs B → BkRel H' kvs B
  | _, _, .nil => .nil
  | _, _, .cons h t => .cons ⟨h.1, let ⟨a, e1, e2⟩ := h.2; ⟨a, e1, EntAt.mono x e2⟩⟩ (BkRel.mono x t)
/-- at b stands a dict that is the book B -/
structure BookAt (H : Hp) (b : Addr) (B : Bk) : Prop where
  ex : ∃ kvs, Rd H b (.dK kvs) ∧ BkRel H kvs B
  nd : (B.map (·.1)).Nodup
  few : B.length ≤ 60
theorem BookAt.mono {H H' : Hp} {b : Addr} {B : Bk} (x : Ex H H') (h : BookAt H b B) : BookAt H' b B :=
  ⟨let ⟨kvs, h1, h2⟩ := h.ex; ⟨kvs, ex_rd x h1, h2.mono x⟩, h.nd, h.few⟩
theorem BkRel.keys {H : Hp} : ∀ {kvs : List (Key × V)} {B : Bk}, BkRel H kvs B → kvs.map (·.1) = (B.map (·.1)).map Sum.inl
  | _, _, .nil => rfl
  | _, _, .cons h t => by rw [List.map_cons, List.map_cons, List.map_cons, h.1, BkRel.keys t]
theorem BkRel.len {H : Hp} {kvs : List (Key × V)} {B : Bk} (h : BkRel H kvs B) : kvs.length = B.length := Paired.length h
/-- the entry of a number -/
def Bk.at (B : Bk) (k : Int) : Option Ent := (B.find? fun p => decide (p.1 = k)).map (·.2)
theorem Bk.at_cons_pos {p : Int × Ent} {B : Bk} {k : Int} (h : p.1 = k) : Bk.at (p :: B) k = some p.2 := by simp [Bk.at, List.find?_cons, h]
theorem Bk.at_cons_neg {p : Int × Ent} {B : Bk} {k : Int} (h : ¬ p.1 = k) : Bk.at (p :: B) k = Bk.at B k := by simp [Bk.at, List.find?_cons, h]
theorem BkRel.val {H : Hp} : ∀ {kvs : List (Key × V)} {B : Bk}, BkRel H kvs B → ∀ k : Int, (valV kvs (Sum.inl k : Key) = none ∧ Bk.at B k = none) ∨ ∃ t e, valV kvs (Sum.inl k : Key) = some (.ref t) ∧ Bk.at B k = some e ∧ EntAt H t e
  | _, _, .nil, k => .inl ⟨rfl, rfl⟩
  | p :: kvs, q :: B, .cons h t, k => by
    obtain ⟨h1, a, h2, h3⟩ := h
    by_cases e : q.1 = k
    · exact .inr ⟨a, q.2, by rw [valV_pos (by rw [h1, e]), h2], Bk.at_cons_pos e, h3⟩
    · have e2 : ¬ p.1 = (Sum.inl k : Key) := by rw [h1]; intro z; exact e (Sum.inl.inj z)
      rcases BkRel.val (kvs := kvs) (B := B) t k with ⟨g1, g2⟩ | ⟨a', e', g1, g2, g3⟩
      · exact .inl ⟨(valV_neg e2).trans g1, (Bk.at_cons_neg e).trans g2⟩
      · exact .inr ⟨a', e', (valV_neg e2).trans g1, (Bk.at_cons_neg e).trans g2, g3⟩
theorem Bk.at_mem {B : Bk} {k : Int} {e : Ent} (h : Bk.at B k = some e) : (k, e) ∈ B := by
  unfold Bk.at at h
  cases e1 : B.find? fun p => decide (p.1 = k) with
  | none => rw [e1] at h; cases h
  | some p =>
    rw [e1] at h
    have h2 := List.find?_some e1
    have h3 := List.mem_of_find?_eq_some e1
    have h4 : p.1 = k := by simpa using h2
    have h5 : p.2 = e := Option.some.inj h
    rw [← h4, ← h5]
    exact h3
theorem Bk.at_isSome {B : Bk} {k : Int} (h : k ∈ B.map (·.1)) : ∃ e, Bk.at B k = some e := by
  induction B with
  | nil => cases h
  | cons p B ih =>
    by_cases e : p.1 = k
    · exact ⟨p.2, Bk.at_cons_pos e⟩
    · rw [List.map_cons, List.mem_cons] at h
      obtain ⟨x, hx⟩ := ih (h.resolve_left fun z => e z.symm)
      exact ⟨x, by rw [Bk.at_cons_neg e]; exact hx⟩
/-- the entry of a number, where it stands -/
theorem BookAt.get {H : Hp} {b : Addr} {B : Bk} (h : BookAt H b B) {k : Int} {e : Ent} (he : Bk.at B k = some e) : ∃ kvs t, Rd H b (.dK kvs) ∧ valV kvs (Sum.inl k : Key) = some (.ref t) ∧ EntAt H t e := by
  obtain ⟨kvs, h1, h2⟩ := h.ex
  rcases h2.val k with ⟨_, g⟩ | ⟨t, e', g1, g2, g3⟩
  · rw [he] at g; cases g
  · rw [he] at g2
    cases g2
    exact ⟨kvs, t, h1, g1, g3⟩
section
variable {K : PySem.W.Frag} {σ : L2.St} {H : Hp} {ta tb : TE} {b : Addr} {B : Bk} {k : Int} {e : Ent}
/-- book[number], an address where the entry stands -/
theorem ev_book {t : Addr} {kvs : List (Key × V)} (ha : Ev ta σ H (.ref b)) (hb : Ev tb σ H (.int k)) (h1 : Rd H b (.dK kvs)) (h2 : valV kvs (Sum.inl k : Key) = some (.ref t)) : Ev (tOp (ixA K) ta tb) σ H (.ref t) := ev_ixD (k := (Sum.inl k : Key)) ha hb h1 h2
theorem ev_part {t : Addr} {v : V} (j : Nat) (ha : Ev ta σ H (.ref t)) (h : EntAt H t e) (hv : e.vs[j]? = some v) : Ev (tOp (ixA K) ta (tC (.int (j : Int)))) σ H v := ev_ixT ha ev_c (st_of h) (atI_nat hv)
end
end S
section
open PySem L2 Evl S
local macro_rules | `(tactic| array_get_dec) => `(tactic| first
  | exact ev_c
  | exact ev_var rfl
  | exact S.eo_no
  | exact ea_nil
  | (apply S.eo_some <;> array_get_dec)
  | (apply ea_cons <;> array_get_dec)
  | (apply S.ev_add <;> array_get_dec)
  | (apply S.ev_sub <;> array_get_dec)
  | (apply S.ev_div <;> first | array_get_dec | exact ⟨by decide, by decide⟩ | exact ⟨by omega, by omega⟩)
  | (apply S.ev_mod <;> first | array_get_dec | decide | omega)
  | (apply S.ev_mulr <;> first | array_get_dec | exact ⟨by decide, by decide⟩ | exact ⟨by omega, by omega⟩)
  | (apply S.ev_mull <;> first | array_get_dec | exact ⟨by decide, by decide⟩ | exact ⟨by omega, by omega⟩)
  | (apply S.ev_neg <;> array_get_dec)
  | (apply S.ev_min <;> array_get_dec)
  | (apply S.ev_max <;> array_get_dec)
  | (apply S.ev_eqI <;> array_get_dec)
  | (apply S.ev_eqS <;> array_get_dec)
  | (apply S.ev_neI <;> array_get_dec)
  | (apply S.ev_neS <;> array_get_dec)
  | (apply S.ev_lt <;> array_get_dec)
  | (apply S.ev_le <;> array_get_dec)
  | (apply S.ev_gt <;> array_get_dec)
  | (apply S.ev_ge <;> array_get_dec)
  | (apply S.ev_intB <;> array_get_dec)
  | (apply et_test <;> array_get_dec)
  | (apply et_B <;> array_get_dec)
  | (apply et_not <;> array_get_dec)
  | (refine' et_and ?_ (fun _ => ?_) <;> array_get_dec)
  | (refine' et_or ?_ (fun _ => ?_) <;> array_get_dec))
namespace S
/-! ### _law_base -/
def sp_l_base (K : PySem.W.Frag) (C : CA) : Sp := fun vs H Q _ => ∃ (a : Addr) (ns : List Int), vs = [.ref a] ∧ SqL K H a (ns.map V.int) ∧ ns.length ≤ 100 ∧ ∀ H' b, Ex H H' → b = [(0 : Int), 7, 300, 999982].getD (ns.getD 0 0 % 4).toNat 0 → Q (.int b) H'
theorem len_l_base {K : PySem.W.Frag} {C : CA} {vs : List V} {H : Hp} {Q : VK} {E : XK} (h : sp_l_base K C vs H Q E) : vs.length = 1 := by
  obtain ⟨a, ns, rfl, _⟩ := h
  rfl
def t_l_base (K : PySem.W.Frag) (C : CA) : TS :=
 (tRet (tOp (ixA K) (tLst (tCons (tC (.int 0)) (tCons (tC (.int 7)) (tCons (tC (.int 300)) (tCons (tC (.int 999982)) tNil))))) (tOp (modI) (tCall (sp_l_of K C) [] E0 (tCons (tVar 0) (tCons (tC (.int 0)) tNil))) (tC (.int 4)))))
/-- _law_of as a value -/
theorem ev_of {K : PySem.W.Frag} {C : CA} {σ : L2.St} {H : Hp} {ta tb : TE} {a : Addr} {ns : List Int} {k : Nat} (ha : Ev ta σ H (.ref a)) (hb : Ev tb σ H (.int k)) (h : SqL K H a (ns.map V.int)) (hl : ns.length ≤ 100) :
    Ev (tCall (sp_l_of K C) [] E0 (tCons ta (tCons tb tNil))) σ H (.int (ns.getD k 0)) :=
  ev_call (ea_cons ha (ea_cons hb ea_nil)) fun H1 e1 Q q E => ⟨a, ns, k, rfl, ex_l e1 h, hl, q⟩
theorem map_getD (xs : List Int) {i : Int} (h0 : 0 ≤ i) (h : i < xs.length) : atI (xs.map V.int) i = some (V.int (xs.getD i.toNat 0)) := by
  have h2 : i.toNat < xs.length := by omega
  rw [atI_getD (V.int 0) h0 (by rw [List.length_map]; exact h), List.getD_eq_getElem?_getD, List.getElem?_map, List.getD_eq_getElem?_getD, List.getElem?_eq_getElem h2]
  rfl
theorem mod_lt (i : Int) {j : Int} (h : 0 < j) : 0 ≤ i % j ∧ i % j < j := ⟨Int.emod_nonneg i (Int.ne_of_gt h), Int.emod_lt_of_pos i h⟩
/-- [a, b, ..][i], whole numbers that are written there -/
theorem ev_pick {K : PySem.W.Frag} {σ : L2.St} {H : Hp} {ta : TA} {tb : TE} {i : Int} (xs : List Int) (ha : EvA ta σ H (xs.map V.int)) (hb : Ev tb σ H (.int i)) (h0 : 0 ≤ i) (h : i < xs.length) (hz : xs.length ≤ 1000) : Ev (tOp (ixA K) (tLst ta) tb) σ H (.int (xs.getD i.toNat 0)) :=
  ev_ixN (el_lst ha (by rw [List.length_map]; omega)) hb (map_getD xs h0 h)
theorem pure_l_base {K : PySem.W.Frag} {C : CA} {vs : List V} {H : Hp} {Q : VK} {E : XK} (h : sp_l_base K C vs H Q E) : t_l_base K C { nx := fun _ H' => Q .non H', rt := Q } (startN 1 vs) H := by
  obtain ⟨a, ns, rfl, hS, hl, kk⟩ := h
  have hm := mod_lt (ns.getD 0 0) (show (0 : Int) < 4 by decide)
  exact s_ret (ev_pick [0, 7, 300, 999982] (by array_get_dec) (ev_mod (ev_of (k := 0) (ev_var rfl) ev_c hS hl) ev_c (by decide)) hm.1 hm.2 (by decide)) fun H1 e1 => kk H1 _ e1 rfl
theorem base_ok (i : Int) : ∃ b, b = [(0 : Int), 7, 300, 999982].getD (i % 4).toNat 0 ∧ 0 ≤ b ∧ b ≤ 999982 := by
  have hm := mod_lt i (show (0 : Int) < 4 by decide)
  obtain ⟨n, hn⟩ : ∃ n : Nat, (i % 4).toNat = n := ⟨_, rfl⟩
  rw [hn]
  have : n < 4 := by omega
  match n, this with
  | 0, _ => exact ⟨_, rfl, by decide, by decide⟩
  | 1, _ => exact ⟨_, rfl, by decide, by decide⟩
  | 2, _ => exact ⟨_, rfl, by decide, by decide⟩
  | 3, _ => exact ⟨_, rfl, by decide, by decide⟩
/-! ### _law_entry -/
/-- names, a first day, any number, the entry's own number -/
def sp_l_entry (K : PySem.W.Frag) (C : CA) : Sp := fun vs H Q _ => ∃ (p : Addr) (xs : List Str) (b n k : Int), vs = [.ref p, .int b, .int n, .int k] ∧ SqL K H p (xs.map V.str) ∧ GoodNames xs ∧ 0 ≤ b ∧ b ≤ 1000000 ∧ 1 ≤ k ∧
  ∀ t e H', H t = none → Ex H H' → EntAt H' t e → e.ok k → (∀ m, e = .undo m → 1 < k) → (∀ m, e.nm = some m → m ∈ xs) → Q (.ref t) H'
theorem len_l_entry {K : PySem.W.Frag} {C : CA} {vs : List V} {H : Hp} {Q : VK} {E : XK} (h : sp_l_entry K C vs H Q E) : vs.length = 4 := by
  obtain ⟨p, xs, b, n, k, rfl, _⟩ := h
  rfl
/-- _law_names_here 0, _law_base_here 1, _law_n 2, _law_number 3, _law_low 4, _law_high 5, _law_name 6 -/
def t_l_entry (K : PySem.W.Frag) (C : CA) : TS :=
 (tSeq (tAsg (tOp (modI) (tOp (mulI) (tVar 2) (tC (.int 48271))) (tC (.int 2147483647))) (gName 2))
 (tSeq (tAsg (tCB rMin2 (tCons (tC (.int 1000000)) (tCons (tOp (addA K) (tVar 1) (tOp (modI) (tOp (divI) (tVar 2) (tC (.int 24))) (tOp (ixA K) (tLst (tCons (tC (.int 10)) (tCons (tC (.int 900000)) tNil))) (tCB (intC K) (tCons (tOp (eqA K) (tOp (modI) (tOp (divI) (tVar 2) (tC (.int 11520))) (tC (.int 5))) (tC (.int 1))) tNil))))) tNil))) (gName 4))
 (tSeq (tAsg (tCB rMin2 (tCons (tC (.int 1000000)) (tCons (tOp (addA K) (tVar 4) (tOp (ixA K) (tLst (tCons (tC (.int 0)) (tCons (tC (.int 1)) (tCons (tC (.int 3)) (tCons (tC (.int 9)) (tCons (tC (.int 35)) (tCons (tC (.int 700)) (tCons (tC (.int 1000000)) (tCons (tC (.int 9)) tNil))))))))) (tOp (modI) (tOp (divI) (tVar 2) (tC (.int 240))) (tC (.int 8))))) tNil))) (gName 5))
 (tSeq (tAsg (tOp (ixA K) (tVar 0) (tOp (modI) (tOp (divI) (tVar 2) (tC (.int 8))) (tC (.int 3)))) (gName 6))
 (tSeq (tIfS (tAnd (tTest (tOp (gtI) (tOp (modI) (tVar 2) (tC (.int 8))) (tC (.int 5)))) (tTest (tOp (gtI) (tVar 3) (tC (.int 1))))) (tRet (tTup (tCons (tC (.str "undo")) (tCons (tOp (addA K) (tC (.int 1)) (tOp (modI) (tOp (divI) (tVar 2) (tC (.int 8))) (tOp (subI) (tVar 3) (tC (.int 1))))) tNil)))) tNext)
 (tSeq (tIfS (tTest (tOp (eqA K) (tOp (modI) (tVar 2) (tC (.int 8))) (tC (.int 3)))) (tRet (tTup (tCons (tC (.str "clear")) (tCons (tVar 6) (tCons (tVar 4) (tCons (tVar 5) tNil)))))) tNext)
 (tSeq (tIfS (tTest (tOp (inA K) (tOp (modI) (tVar 2) (tC (.int 8))) (tTup (tCons (tC (.int 4)) (tCons (tC (.int 5)) tNil))))) (tRet (tTup (tCons (tC (.str "like")) (tCons (tVar 6) (tCons (tVar 4) (tCons (tVar 5) (tCons (tOp (ixA K) (tVar 0) (tOp (modI) (tOp (divI) (tVar 2) (tC (.int 1920))) (tC (.int 3)))) tNil))))))) tNext)
 (tRet (tTup (tCons (tC (.str "tell")) (tCons (tVar 6) (tCons (tVar 4) (tCons (tVar 5) (tCons (tOp (ixA K) (tLst (tCons (tC (.int 1)) (tCons (tC (.int 2)) (tCons (tC (.int 1)) (tCons (tC (.int 0)) (tCons (tUn (rU fun i => .int (-i)) (tC (.int 1))) (tCons (tOp (subI) (tOp (modI) (tVar 2) (tC (.int 2000000001))) (tC (.int 1000000000))) tNil))))))) (tOp (modI) (tOp (divI) (tVar 2) (tC (.int 1920))) (tC (.int 6)))) tNil))))))))))))))
theorem ev_name {K : PySem.W.Frag} {σ : L2.St} {H : Hp} {ta tb : TE} {p : Addr} {xs : List Str} {i : Int} (ha : Ev ta σ H (.ref p)) (hb : Ev tb σ H (.int i)) (h : SqL K H p (xs.map V.str)) (h0 : 0 ≤ i) (h3 : i < xs.length) : Ev (tOp (ixA K) ta tb) σ H (.str (xs.getD i.toNat Str.empty)) := by
  refine ev_ixL ha hb h ?_
  have h2 : i.toNat < xs.length := by omega
  rw [atI_getD (V.int 0) h0 (by rw [List.length_map]; exact h3), List.getD_eq_getElem?_getD, List.getElem?_map, List.getD_eq_getElem?_getD, List.getElem?_eq_getElem h2]
  rfl
theorem name_in {xs : List Str} (g : GoodNames xs) (i : Int) : xs.getD (i % 3).toNat Str.empty ∈ xs := by
  have hm := mod_lt i (show (0 : Int) < 3 by decide)
  have hl := g.1
  exact getD_mem _ (by omega)
theorem name_at {xs : List Str} (g : GoodNames xs) (i : Int) : NameS (xs.getD (i % 3).toNat Str.empty) ∧ 0 ≤ i % 3 ∧ i % 3 < xs.length := by
  have hm := mod_lt i (show (0 : Int) < 3 by decide)
  have hl := g.1
  exact ⟨g.2 _ (getD_mem _ (by omega)), hm.1, by omega⟩
theorem pure_l_entry {K : PySem.W.Frag} {C : CA} {vs : List V} {H : Hp} {Q : VK} {E : XK} (h : sp_l_entry K C vs H Q E) : t_l_entry K C { nx := fun _ H' => Q .non H', rt := Q } (startN 7 vs) H := by
  obtain ⟨p, xs, b, n0, k, rfl, hS, hg, hb0, hb1, hk, kk⟩ := h
  refine q_asg (by array_get_dec) fun H1 e1 => ?_
  generalize n0 * 48271 % 2147483647 = n
  -- the first day
  have hi : ∀ c : Bool, 0 ≤ (if c then (1 : Int) else 0) ∧ (if c then (1 : Int) else 0) < 2 := fun c => by cases c <;> exact ⟨by decide, by decide⟩
  have hp : 0 < [(10 : Int), 900000].getD (if decide (n / 11520 % 5 = 1) then (1 : Int) else 0).toNat 0 := by
    cases decide (n / 11520 % 5 = 1) <;> decide
  refine q_asg (ev_min ev_c (ev_add (ev_var rfl) (ev_mod (by array_get_dec) (ev_pick [10, 900000] (by array_get_dec) (ev_intB (by array_get_dec)) (hi _).1 (hi _).2 (by decide)) hp))) fun H2 e2 => ?_
  have hm1 := mod_lt (n / 24) hp
  generalize n / 24 % [(10 : Int), 900000].getD (if decide (n / 11520 % 5 = 1) then (1 : Int) else 0).toNat 0 = m at hm1 ⊢
  obtain ⟨lo, elo, hlo0, hlo1⟩ : ∃ lo, lo = (if b + m < 1000000 then b + m else 1000000) ∧ 0 ≤ lo ∧ lo ≤ 1000000 := ⟨_, rfl, by split <;> omega, by split <;> omega⟩
  rw [← elo]
  -- the last day
  have hm8 := mod_lt (n / 240) (show (0 : Int) < 8 by decide)
  refine q_asg (ev_min ev_c (ev_add (ev_var rfl) (ev_pick [0, 1, 3, 9, 35, 700, 1000000, 9] (by array_get_dec) (by array_get_dec) hm8.1 hm8.2 (by decide)))) fun H3 e3 => ?_
  have hj : 0 ≤ [(0 : Int), 1, 3, 9, 35, 700, 1000000, 9].getD (n / 240 % 8).toNat 0 := by
    have : [(0 : Int), 1, 3, 9, 35, 700, 1000000, 9].getD (n / 240 % 8).toNat 0 ∈ [(0 : Int), 1, 3, 9, 35, 700, 1000000, 9] := getD_mem _ (by show _ < 8; omega)
    simp only [List.mem_cons, List.not_mem_nil, or_false] at this
    omega
  generalize [(0 : Int), 1, 3, 9, 35, 700, 1000000, 9].getD (n / 240 % 8).toNat 0 = j at hj ⊢
  obtain ⟨hi', ehi, hhi0, hhi1⟩ : ∃ hi', hi' = (if lo + j < 1000000 then lo + j else 1000000) ∧ lo ≤ hi' ∧ hi' ≤ 1000000 := ⟨_, rfl, by split <;> omega, by split <;> omega⟩
  rw [← ehi]
  -- the name
  obtain ⟨hn, hn0, hn3⟩ := name_at hg (n / 8)
  have E3 : Ex H H3 := (e1.trans e2).trans e3
  refine q_asg (ev_name (ev_var rfl) (by array_get_dec) (ex_l E3 hS) hn0 hn3) fun H4 e4 => ?_
  have hnin := name_in hg (n / 8)
  generalize xs.getD (n / 8 % 3).toNat Str.empty = name at hn hnin ⊢
  have E4 : Ex H H4 := E3.trans e4
  refine q_when (et_and (et_test (by array_get_dec)) fun _ => et_test (by array_get_dec)) (fun c H5 e5 => ?_) (fun c H5 e5 => ?_)
  · -- an undo
    rw [Bool.and_eq_true, decide_eq_true_eq, decide_eq_true_eq] at c
    have hpos : 0 < k - 1 := by omega
    have hmk := mod_lt (n / 8) hpos
    refine s_retU (D := { nx := _, rt := Q }) (eu_tup (ea_cons ev_c (ea_cons (ev_add ev_c (ev_mod (by array_get_dec) (by array_get_dec) hpos)) ea_nil)) (by simp)) fun t H6 ht e6 h6 => ?_
    exact kk t (.undo (1 + n / 8 % (k - 1))) H6 (fresh_back (E4.trans e5) ht) ((E4.trans e5).trans e6) h6 ⟨by omega, by omega⟩ (fun _ _ => c.2) fun _ z => by cases z
  have E5 : Ex H H5 := E4.trans e5
  refine q_when (et_test (by array_get_dec)) (fun _ H6 e6 => ?_) (fun _ H6 e6 => ?_)
  · refine s_retU (D := { nx := _, rt := Q }) (eu_tup (by array_get_dec) (by simp)) fun t H7 ht e7 h7 => ?_
    exact kk t (.clear name lo hi') H7 (fresh_back (E5.trans e6) ht) ((E5.trans e6).trans e7) h7 ⟨hn, hlo0, hhi0, hhi1⟩ (fun _ z => by cases z) fun _ z => by cases z; exact hnin
  have E6 : Ex H H6 := E5.trans e6
  refine q_when (et_test (ev_inTw (xs := [.int 4, .int 5]) (x := .int (n % 8)) (by array_get_dec) (eu_tup (by array_get_dec) (by decide)) rfl rfl)) (fun _ H7 e7 => ?_) (fun _ H7 e7 => ?_)
  · obtain ⟨ho, ho0, ho3⟩ := name_at hg (n / 1920)
    refine s_retU (D := { nx := _, rt := Q }) (eu_tup (ea_cons ev_c (ea_cons (ev_var rfl) (ea_cons (ev_var rfl) (ea_cons (ev_var rfl) (ea_cons (ev_name (ev_var rfl) (by array_get_dec) (ex_l (E6.trans e7) hS) ho0 ho3) ea_nil))))) (by simp)) fun t H8 ht e8 h8 => ?_
    exact kk t (.like name lo hi' _) H8 (fresh_back (E6.trans e7) ht) ((E6.trans e7).trans e8) h8 ⟨hn, hlo0, hhi0, hhi1, ho⟩ (fun _ z => by cases z) fun _ z => by cases z; exact hnin
  · have hm6 := mod_lt (n / 1920) (show (0 : Int) < 6 by decide)
    have hw := mod_lt n (show (0 : Int) < 2000000001 by decide)
    refine s_retU (eu_tup (ea_cons ev_c (ea_cons (ev_var rfl) (ea_cons (ev_var rfl) (ea_cons (ev_var rfl) (ea_cons (ev_pick [1, 2, 1, 0, -1, n % 2000000001 - 1000000000] (by array_get_dec) (by array_get_dec) hm6.1 hm6.2 (by simp)) ea_nil))))) (by simp)) fun t H8 ht e8 h8 => ?_
    have hmem : [(1 : Int), 2, 1, 0, -1, n % 2000000001 - 1000000000].getD (n / 1920 % 6).toNat 0 ∈ [(1 : Int), 2, 1, 0, -1, n % 2000000001 - 1000000000] := getD_mem _ (by show _ < 6; omega)
    simp only [List.mem_cons, List.not_mem_nil, or_false] at hmem
    refine kk t (.tell name lo hi' _) H8 (fresh_back (E6.trans e7) ht) ((E6.trans e7).trans e8) h8 ⟨hn, hlo0, hhi0, hhi1, ?_, ?_⟩ (fun _ z => by cases z) fun _ z => by cases z; exact hnin
    · omega
    · omega
end S
end
set_option Elab.async false
set_option linter.all false
set_option maxRecDepth 100000
set_option maxHeartbeats 4000000
namespace S
open PySem L2 Evl
theorem mergeK_new : ∀ (more acc : List (Key × V)), ((acc ++ more).map (·.1)).Nodup → mergeK acc more = acc ++ more
  | [], acc, _ => by simp [mergeK]
  | p :: r, acc, h => by
    have hp : valV acc p.1 = none := by
      unfold valV
      have : acc.find? (fun kv => decide (kv.1 = p.1)) = none := by
        rw [List.find?_eq_none]
        intro x hx e
        have e' : x.1 = p.1 := by simpa using e
        rw [List.map_append, List.nodup_append] at h
        exact h.2.2 x.1 (List.mem_map_of_mem hx) p.1 (by simp) e'
      rw [this]; rfl
    show mergeK (putK acc p.1 p.2) r = acc ++ p :: r
    rw [putK_new _ hp]
    have h' : ((acc ++ [p] ++ r).map (·.1)).Nodup := by simpa using h
    rw [show (acc ++ [(p.1, p.2)]) = acc ++ [p] from rfl, mergeK_new r (acc ++ [p]) h']
    simp
section
variable {K : PySem.W.Frag} {σ : L2.St} {H : Hp} {ta tb : TE} {D : Ends} {tu tz : TS}
/-- dict(pairs) -/
theorem ed_pairs {ps : List Addr} {kvs : List (Key × V)} (ha : EvL ta σ H (ps.map V.ref)) (hp : ∀ H1, Ex H H1 → Paired (fun p kv => SqT K H1 p [kV kv.1, kv.2]) ps kvs) (hn : (kvs.map (·.1)).Nodup) : EvD (tCB (dictC K) (tCons ta tNil)) σ H kvs := fun H1 e Q q =>
  ha H1 e _ fun a H2 ha2 e2 h2 => .inl ⟨a, ps, kvs, rfl, sq_of h2, hp H2 (e.trans e2), fun p hp => by
    rw [mergeK_new kvs [] (by simpa using hn), List.nil_append]
    exact q p _ (fresh_back e2 hp) (e2.trans (Ex.new hp)) upd_same⟩
/-- from here, by a value -/
theorem at_ev {te : TE} {v : V} {Q : VK} (h : Ev te σ H v) (k : ∀ H1, Ex H H1 → Q v H1) : te σ H Q := h H (Ex.refl H) Q k
/-- for k in range(n), n of any sign -/
theorem s_forZ {ta : TA} {j : Nat} {n : Int} (h : EvA ta σ H [.int n]) (hn : -100000 ≤ n ∧ n ≤ 100000) (Pv : Nat → L2.St → Hp → Prop) (h0 : ∀ H1, Ex H H1 → Pv 0 σ H1)
    (hs : ∀ (i : Nat) σ' H', (i : Int) < n → Pv i σ' H' → tu { D with nx := Pv (i + 1), ct := Pv (i + 1), bk := D.nx } (σ'.set j (some (.int (i : Int)))) H') (hd : ∀ σ' H', Pv n.toNat σ' H' → D.nx σ' H') : tFor (iRng1 ta) (gName j) tu D σ H :=
  h H (Ex.refl H) _ fun H1 e => ⟨n, rfl, by omega, by omega, for_range (lo := 0) (n := n.toNat) Pv (h0 H1 e) (fun i σ' H' hi p => by
    have e0 : (0 : Int) + (i : Int) = (i : Int) := Int.zero_add _
    show tu { D with nx := Pv (i + 1), ct := Pv (i + 1), bk := D.nx } (σ'.set j (some (.int ((0 : Int) + (i : Int))))) H'
    rw [e0]
    exact hs i σ' H' (by omega) p) hd⟩
theorem q_forZ {ta : TA} {j : Nat} {n : Int} (h : EvA ta σ H [.int n]) (hn : -100000 ≤ n ∧ n ≤ 100000) (Pv : Nat → L2.St → Hp → Prop) (h0 : ∀ H1, Ex H H1 → Pv 0 σ H1)
    (hs : ∀ (i : Nat) σ' H', (i : Int) < n → Pv i σ' H' → tu { D with nx := Pv (i + 1), ct := Pv (i + 1), bk := tz D } (σ'.set j (some (.int (i : Int)))) H') (hd : ∀ σ' H', Pv n.toNat σ' H' → tz D σ' H') : tSeq (tFor (iRng1 ta) (gName j) tu) tz D σ H :=
  s_forZ (D := { D with nx := tz D }) h hn Pv h0 hs hd
end
theorem cutV_map {α : Type} (f : α → V) (xs : List α) (lo hi : Option Int) : cutV (xs.map f) lo hi = ((xs.drop (HT.sIx xs.length 0 lo)).take (HT.sIx xs.length xs.length hi - HT.sIx xs.length 0 lo)).map f := by
  unfold cutV
  rw [List.length_map, List.map_take, List.map_drop]
theorem cutV_tail {α : Type} (f : α → V) (xs : List α) {k : Nat} (hk : k ≤ xs.length) : cutV (xs.map f) (some (k : Int)) none = (xs.drop k).map f := by
  rw [cutV_map, HT.sIx_nat, HT.sIx_none, Nat.min_eq_left hk, List.take_of_length_le (by rw [List.length_drop]; omega)]
theorem cutV_head {α : Type} (f : α → V) (xs : List α) {k : Nat} (hk : k ≤ xs.length) : cutV (xs.map f) none (some (k : Int)) = (xs.take k).map f := by
  rw [cutV_map, HT.sIx_nat, HT.sIx_none, Nat.min_eq_left hk, List.drop_zero, Nat.sub_zero]
theorem Paired.app {α β : Type} {F : α → β → Prop} : ∀ {a1 a2 : List α} {b1 b2 : List β}, Paired F a1 b1 → Paired F a2 b2 → Paired F (a1 ++ a2) (b1 ++ b2)
  | _, _, _, _, .nil, h => h
  | _, _, _, _, .cons r t, h => .cons r (Paired.app t h)
theorem Paired.dropN {α β : Type} {F : α → β → Prop} : ∀ (n : Nat) {a : List α} {b : List β}, Paired F a b → Paired F (a.drop n) (b.drop n)
  | 0, _, _, h => h
  | _ + 1, _, _, .nil => .nil
  | n + 1, _, _, .cons _ t => Paired.dropN n t
theorem Paired.takeN {α β : Type} {F : α → β → Prop} : ∀ (n : Nat) {a : List α} {b : List β}, Paired F a b → Paired F (a.take n) (b.take n)
  | 0, _, _, _ => .nil
  | _ + 1, _, _, .nil => .nil
  | n + 1, _, _, .cons r t => .cons r (Paired.takeN n t)
theorem Paired.imp {α β : Type} {F G : α → β → Prop} (f : ∀ a b, F a b → G a b) : ∀ {a : List α} {b : List β}, Paired F a b → Paired G a b
  | _, _, .nil => .nil
  | _, _, .cons r t => .cons (f _ _ r) (Paired.imp f t)
/-- a dict that was made: a book -/
structure NewBk (H H' : Hp) (p : Addr) (B : Bk) : Prop where
  new : H p = none
  ex : Ex H H'
  dk : ∃ kvs, H' p = some (.dK kvs) ∧ BkRel H' kvs B
  nd : (B.map (·.1)).Nodup
  few : B.length ≤ 60
theorem NewBk.at {H H' : Hp} {p : Addr} {B : Bk} (h : NewBk H H' p B) : BookAt H' p B := ⟨let ⟨kvs, h1, h2⟩ := h.dk; ⟨kvs, .inl h1, h2⟩, h.nd, h.few⟩
/-- numbers from 1 on, good entries -/
def GoodBk (B : Bk) : Prop := ∀ q ∈ B, 1 ≤ q.1 ∧ q.2.ok q.1
/-- a row of _law_book: a pair of a number and an entry -/
def RowAt (H : Hp) (p : Addr) (q : Int × Ent) : Prop := ∃ t, H p = some (.tup [.int q.1, .ref t]) ∧ EntAt H t q.2
theorem RowAt.mono {H H' : Hp} {p : Addr} {q : Int × Ent} (x : Ex H H') (h : RowAt H p q) : RowAt H' p q := let ⟨t, h1, h2⟩ := h; ⟨t, x _ _ h1, x _ _ h2⟩
theorem rows_kvs {H : Hp} : ∀ {ps : List Addr} {B : Bk}, Paired (RowAt H) ps B → ∃ kvs : List (Key × V), BkRel H kvs B ∧ ∀ {K : PySem.W.Frag} {H1 : Hp}, Ex H H1 → Paired (fun p kv => SqT K H1 p [kV kv.1, kv.2]) ps kvs
  | _, _, .nil => ⟨[], .nil, fun _ => .nil⟩
  | _, _, .cons (a := p) (b := q) h t => by
    obtain ⟨t0, h1, h2⟩ := h
    obtain ⟨kvs, g1, g2⟩ := rows_kvs t
    exact ⟨((Sum.inl q.1 : Key), V.ref t0) :: kvs, .cons ⟨rfl, t0, rfl, h2⟩ g1, fun e => .cons (st_of (e _ _ h1)) (g2 e)⟩
end S
section
open PySem L2 Evl S
local macro_rules | `(tactic| array_get_dec) => `(tactic| first
  | exact ev_c
  | exact ev_var rfl
  | exact S.eo_no
  | exact ea_nil
  | (apply S.eo_some <;> array_get_dec)
  | (apply ea_cons <;> array_get_dec)
  | (apply S.ev_add <;> array_get_dec)
  | (apply S.ev_sub <;> array_get_dec)
  | (apply S.ev_div <;> first | array_get_dec | exact ⟨by decide, by decide⟩ | exact ⟨by omega, by omega⟩)
  | (apply S.ev_mod <;> first | array_get_dec | decide | omega)
  | (apply S.ev_mulr <;> first | array_get_dec | exact ⟨by decide, by decide⟩ | exact ⟨by omega, by omega⟩)
  | (apply S.ev_mull <;> first | array_get_dec | exact ⟨by decide, by decide⟩ | exact ⟨by omega, by omega⟩)
  | (apply S.ev_neg <;> array_get_dec)
  | (apply S.ev_min <;> array_get_dec)
  | (apply S.ev_max <;> array_get_dec)
  | (apply S.ev_eqI <;> array_get_dec)
  | (apply S.ev_eqS <;> array_get_dec)
  | (apply S.ev_neI <;> array_get_dec)
  | (apply S.ev_neS <;> array_get_dec)
  | (apply S.ev_lt <;> array_get_dec)
  | (apply S.ev_le <;> array_get_dec)
  | (apply S.ev_gt <;> array_get_dec)
  | (apply S.ev_ge <;> array_get_dec)
  | (apply S.ev_intB <;> array_get_dec)
  | (apply et_test <;> array_get_dec)
  | (apply et_B <;> array_get_dec)
  | (apply et_not <;> array_get_dec)
  | (refine' et_and ?_ (fun _ => ?_) <;> array_get_dec)
  | (refine' et_or ?_ (fun _ => ?_) <;> array_get_dec))
namespace S
/-! ### _law_book -/
def sp_l_book (K : PySem.W.Frag) (C : CA) : Sp := fun vs H Q _ => ∃ (a : Addr) (ns : List Int) (many : Nat), vs = [.ref a, .int many] ∧ SqL K H a (ns.map V.int) ∧ ns.length ≤ 100 ∧ many ≤ 14 ∧
  ∀ p B H', NewBk H H' p B → B.length ≤ many → GoodBk B → (∀ q ∈ B, q.1 ≤ 40) → (∀ q ∈ B, ∀ m, q.2.nm = some m → m ∈ namesF (ns.getD 1 0)) → Q (.ref p) H'
theorem len_l_book {K : PySem.W.Frag} {C : CA} {vs : List V} {H : Hp} {Q : VK} {E : XK} (h : sp_l_book K C vs H Q E) : vs.length = 2 := by
  obtain ⟨a, ns, many, rfl, _⟩ := h
  rfl
/-- _law_script 0, _law_many 1, _law_names_here 2, _law_gap 3, _law_rows 4, _law_k 5, _law_number 6, _law_cut 7 -/
def t_l_book (K : PySem.W.Frag) (C : CA) : TS :=
 (tSeq (tAsg (tCall (sp_l_names K C) [] E0 (tCons (tCall (sp_l_of K C) [] E0 (tCons (tVar 0) (tCons (tC (.int 1)) tNil))) (tCons (tC (.int 3)) tNil))) (gName 2))
 (tSeq (tAsg (tOp (addA K) (tC (.int 1)) (tOp (modI) (tOp (divI) (tCall (sp_l_of K C) [] E0 (tCons (tVar 0) (tCons (tC (.int 0)) tNil))) (tC (.int 4))) (tC (.int 3)))) (gName 3))
 (tSeq (tAsg (tLst tNil) (gName 4))
 (tSeq (tFor (iRng1 (tCons (tCB rMin2 (tCons (tVar 1) (tCons (tOp (subI) (tCB (lenA K) (tCons (tVar 0) tNil)) (tC (.int 4))) tNil))) tNil)) (gName 5)
  (tSeq (tAsg (tOp (addA K) (tC (.int 1)) (tOp (mulI) (tVar 5) (tVar 3))) (gName 6))
 (tDrop (tBM K "list" rAppend (tVar 4) (tCons (tTup (tCons (tVar 6) (tCons (tCall (sp_l_entry K C) [] E0 (tCons (tVar 2) (tCons (tCall (sp_l_base K C) [] E0 (tCons (tVar 0) tNil)) (tCons (tOp (addA K) (tOp (ixA K) (tVar 0) (tOp (addA K) (tC (.int 4)) (tVar 5))) (tOp (mulI) (tC (.int 7)) (tVar 5))) (tCons (tVar 6) tNil))))) tNil))) tNil)))))
 (tSeq (tAsg (tOp (modI) (tOp (divI) (tCall (sp_l_of K C) [] E0 (tCons (tVar 0) (tCons (tC (.int 0)) tNil))) (tC (.int 12))) (tOp (addA K) (tCB (lenA K) (tCons (tVar 4) tNil)) (tC (.int 1)))) (gName 7))
 (tRet (tCB (dictC K) (tCons (tOp (addA K) (tSl (slA K) (tVar 4) (tPart (tVar 7)) tNoPart) (tSl (slA K) (tVar 4) tNoPart (tPart (tVar 7)))) tNil))))))))
theorem pure_l_book {K : PySem.W.Frag} {C : CA} {vs : List V} {H : Hp} {Q : VK} {E : XK} (h : sp_l_book K C vs H Q E) : t_l_book K C { nx := fun _ H' => Q .non H', rt := Q } (startN 8 vs) H := by
  obtain ⟨a, ns, many, rfl, hS, hl, hmany, kk⟩ := h
  -- the names
  refine ev_of (k := 1) (ev_var rfl) ev_c hS hl H (Ex.refl H) _ fun H1 e1 => ⟨_, rfl, fun pn xs H2 hpn e2 hxs hg hxe => ?_⟩
  have E2 : Ex H H2 := e1.trans e2
  show tSeq _ _ _ _ H2
  -- the gap
  refine q_asg (ev_add ev_c (ev_mod (ev_div (ev_of (k := 0) (ev_var rfl) ev_c (ex_l E2 hS) hl) ev_c ⟨by decide, by decide⟩) ev_c (by decide))) fun H3 e3 => ?_
  have hgap := mod_lt (ns.getD 0 0 / 4) (show (0 : Int) < 3 by decide)
  generalize ns.getD 0 0 / 4 % 3 = g at hgap ⊢
  have E3 : Ex H H3 := E2.trans e3
  refine q_asgL (el_lst ea_nil (by decide)) fun r H4 hr e4 h4 => ?_
  have E4 : Ex H H4 := E3.trans e4
  have nr : H3 r = none := hr
  have hxs3 : H3 pn = some (.lst (xs.map V.str)) := e3 pn _ hxs
  -- the rows
  refine q_forZ (n := if (ns.length : Int) - 4 < (many : Int) then (ns.length : Int) - 4 else (many : Int)) (ea_cons (ev_min (ev_var rfl) (ev_sub (by
      have := ev_lenL (K := K) (ta := tVar 0) (σ := [some (V.ref a), some (V.int (many : Int)), some (V.ref pn), some (V.int (1 + g)), some (V.ref r), none, none, none]) (ev_var rfl) (ex_l E4 hS)
      rw [List.length_map] at this
      exact this) ev_c)) ea_nil) ⟨by split <;> omega, by split <;> omega⟩
    (fun i σ' H' => ∃ o5 o6 ps B, σ' = [some (.ref a), some (.int many), some (.ref pn), some (.int (1 + g)), some (.ref r), o5, o6, none] ∧ Ex H3 H' ∧ H' r = some (.lst (ps.map V.ref)) ∧ Paired (RowAt H') ps B ∧ B.map (·.1) = (List.range i).map (fun (j : Nat) => 1 + (j : Int) * (1 + g)) ∧ GoodBk B ∧ ∀ q ∈ B, ∀ m, q.2.nm = some m → m ∈ xs)
    (fun H5 e5 => ⟨none, none, [], [], rfl, e4.trans e5, e5 r _ h4, .nil, rfl, (fun _ h => by cases h), fun _ h => by cases h⟩) ?_ ?_
  · rintro i σ' H' hi ⟨o5, o6, ps, B, rfl, E5, h5, hps, hB, hgood, hnms⟩
    have hi2 : (i : Int) < ns.length - 4 ∧ i < many := by
      split at hi <;> omega
    have hpl := Paired.length hps
    have hBl : B.length = i := by
      have := congrArg List.length hB
      rw [List.length_map, List.length_map, List.length_range] at this
      exact this
    refine q_asg (ev_add ev_c (ev_mull (ev_var rfl) (ev_var rfl) ⟨by omega, by omega⟩)) fun H6 e6 => ?_
    have E6 : Ex H H6 := (E3.trans E5).trans e6
    have hik : (0 : Int) ≤ (i : Int) * (1 + g) := Int.mul_nonneg (by omega) (by omega)
    have hik2 : (i : Int) * (1 + g) ≤ (i : Int) * 3 := Int.mul_le_mul_of_nonneg_left (by omega) (by omega)
    -- rows.append((number, _law_entry(..)))
    unfold tDrop tBM tTup tCall tCons tNil
    refine at_ev (te := tVar 4) (ev_var rfl) fun H7 e7 => ⟨.inl ⟨rfl, ps.map V.ref, sq_of (e7 r _ (e6 r _ h5))⟩, ?_⟩
    have E7 : Ex H H7 := E6.trans e7
    refine at_ev (te := tVar 6) (ev_var rfl) fun H8 e8 => ?_
    have E8 : Ex H H8 := E7.trans e8
    have hix : atI (ns.map V.int) (4 + (i : Int)) = some (V.int (ns.getD (4 + (i : Int)).toNat 0)) := map_getD ns (by omega) (by omega)
    refine at_ev (te := tVar 2) (ev_var rfl) fun H9 e9 => ?_
    have E9 : Ex H H9 := E8.trans e9
    refine at_ev (te := tVar 0) (ev_var rfl) fun H10 e10 => ⟨a, ns, rfl, ex_l (E9.trans e10) hS, hl, fun H11 b e11 eb => ?_⟩
    obtain ⟨b', eb', hb0, hb1⟩ := base_ok (ns.getD 0 0)
    rw [← eb'] at eb
    subst eb
    have E11 : Ex H H11 := (E9.trans e10).trans e11
    refine at_ev (ev_add (ev_ixL (ev_var rfl) (ev_add ev_c (ev_var rfl)) (ex_l E11 hS) hix) (ev_mulr ev_c (ev_var rfl) ⟨by omega, by omega⟩)) fun H12 e12 => ?_
    refine at_ev (te := tVar 6) (ev_var rfl) fun H13 e13 => ?_
    have e613 : Ex H6 H13 := ((((((e7.trans e8).trans e9).trans e10).trans e11).trans e12).trans e13)
    have E513 : Ex H3 H13 := (E5.trans e6).trans e613
    refine ⟨pn, xs, b, _, _, rfl, sq_of (E513 pn _ hxs3), hg, hb0, by omega, by omega, fun t e H14 ht e14 het hok _ hnm => ?_⟩
    refine ⟨(by show 2 ≤ sizeLine; decide), fun q hq => ?_⟩
    have e614 : Ex H6 H14 := e613.trans e14
    have E514 : Ex H3 H14 := E513.trans e14
    have e615 : Ex H6 (upd H14 q (.tup [.int (1 + (i : Int) * (1 + g)), .ref t])) := e614.trans (Ex.new hq)
    have hr15 : (upd H14 q (.tup [.int (1 + (i : Int) * (1 + g)), .ref t])) r = some (.lst (ps.map V.ref)) := e615 r _ (e6 r _ h5)
    refine ⟨r, ps.map V.ref, .ref q, rfl, rfl, hr15, sz_lt (by rw [List.length_map]; omega), ?_⟩
    have nrq : q ≠ r := fun z => by rw [z] at hq; rw [e614 r _ (e6 r _ h5)] at hq; cases hq
    have stay : ∀ c ys, (upd H14 q (.tup [.int (1 + (i : Int) * (1 + g)), .ref t])) c = some (.tup ys) → (upd (upd H14 q (.tup [.int (1 + (i : Int) * (1 + g)), .ref t])) r (.lst (ps.map V.ref ++ [.ref q]))) c = some (.tup ys) := fun c ys hc => by
      rw [upd_ne (ne_of hc hr15 (by intro z; cases z))]
      exact hc
    have keepRow : ∀ p x, RowAt H' p x → RowAt (upd (upd H14 q (.tup [.int (1 + (i : Int) * (1 + g)), .ref t])) r (.lst (ps.map V.ref ++ [.ref q]))) p x := fun p x ⟨t0, g1, g2⟩ => ⟨t0, stay _ _ (e615 _ _ (e6 _ _ g1)), stay _ _ (e615 _ _ (e6 _ _ g2))⟩
    refine ⟨_, _, ps ++ [q], B ++ [(1 + (i : Int) * (1 + g), e)], rfl, Ex.mut (E514.trans (Ex.new hq)) nr, by rw [upd_same, List.map_append]; rfl, ?_, ?_, ?_, fun x hx => ?_⟩
    · exact Paired.app (Paired.imp keepRow hps) (.cons ⟨t, stay _ _ upd_same, stay _ _ (Ex.new hq _ _ het)⟩ .nil)
    · rw [List.map_append, hB, List.range_succ, List.map_append]
      rfl
    · intro x hx
      rcases List.mem_append.mp hx with h | h
      · exact hgood x h
      · rw [List.mem_singleton.mp h]
        exact ⟨by show 1 ≤ 1 + (i : Int) * (1 + g); omega, hok⟩
    · rcases List.mem_append.mp hx with h | h
      · exact hnms x h
      · rw [List.mem_singleton.mp h]
        exact hnm
  · rintro σ' H' ⟨o5, o6, ps, B, rfl, E5, h5, hps, hB, hgood, hnms⟩
    have hpl := Paired.length hps
    have hBl : B.length ≤ many := by
      have := congrArg List.length hB
      rw [List.length_map, List.length_map, List.length_range] at this
      rw [this]
      split <;> omega
    have E6 : Ex H H' := E3.trans E5
    have hlen : ((ps.map V.ref).length : Int) = ps.length := by rw [List.length_map]
    refine q_asg (i := 7) (ev_mod (j := (ps.length : Int) + 1) (ev_div (ev_of (k := 0) (ev_var rfl) ev_c (ex_l E6 hS) hl) ev_c ⟨by decide, by decide⟩) (ev_add (by rw [← hlen]; exact ev_lenL (ev_var rfl) (sq_of h5)) ev_c) (by omega)) fun H7 e7 => ?_
    have hc := mod_lt (ns.getD 0 0 / 12) (show (0 : Int) < (ps.length : Int) + 1 by omega)
    obtain ⟨c, ec⟩ : ∃ c : Nat, (c : Int) = ns.getD 0 0 / 12 % ((ps.length : Int) + 1) := ⟨_, Int.toNat_of_nonneg hc.1⟩
    rw [← ec] at hc ⊢
    have hcl : c ≤ ps.length := by omega
    have h7 := e7 r _ h5
    have hps7 : Paired (RowAt H7) (ps.drop c ++ ps.take c) (B.drop c ++ B.take c) := Paired.app (Paired.dropN c (Paired.imp (fun _ _ z => z.mono e7) hps)) (Paired.takeN c (Paired.imp (fun _ _ z => z.mono e7) hps))
    obtain ⟨kvs, hk1, hk2⟩ := rows_kvs hps7
    have hperm : (B.drop c ++ B.take c).Perm B := by
      have := List.perm_append_comm (l₁ := B.drop c) (l₂ := B.take c)
      rwa [List.take_append_drop] at this
    have hndB : (B.map (·.1)).Nodup := by
      rw [hB]
      refine List.Pairwise.map _ (R := fun a b => a ≠ b) (fun x y hxy e => ?_) List.nodup_range
      have h1 : (x : Int) * (1 + g) = (y : Int) * (1 + g) := by omega
      have h2 : (x : Int) = (y : Int) := Int.eq_of_mul_eq_mul_right (by omega) h1
      exact hxy (by omega)
    have hnd : ((B.drop c ++ B.take c).map (·.1)).Nodup := (hperm.map _).nodup_iff.mpr hndB
    have hkn : (kvs.map (·.1)).Nodup := by
      rw [hk1.keys]
      exact List.Pairwise.map _ (fun x y hxy e => hxy (Sum.inl.inj e)) hnd
    have hcat : EvL (tOp (addA K) (tSl (slA K) (tVar 4) (tPart (tVar 7)) tNoPart) (tSl (slA K) (tVar 4) tNoPart (tPart (tVar 7)))) (([some (.ref a), some (.int many), some (.ref pn), some (.int (1 + g)), some (.ref r), o5, o6, none] : L2.St).set 7 (some (.int (c : Int)))) H7 ((ps.drop c ++ ps.take c).map V.ref) := by
      rw [List.map_append, ← cutV_tail V.ref ps hcl, ← cutV_head V.ref ps hcl]
      refine el_cat (el_sl (ev_var rfl) (S.eo_some (ev_var rfl)) S.eo_no (sq_of h7)) (el_sl (ev_var rfl) S.eo_no (S.eo_some (ev_var rfl)) (sq_of h7)) ?_
      have l1 := cutV_length (ps.map V.ref) (some (c : Int)) none
      have l2 := cutV_length (ps.map V.ref) none (some (c : Int))
      rw [List.length_map] at l1 l2
      omega
    refine s_retD (ed_pairs hcat (fun H1 e => hk2 e) hkn) fun p H8 hp e8 h8 => ?_
    have hBl2 : (B.drop c ++ B.take c).length = B.length := hperm.length_eq
    refine kk p (B.drop c ++ B.take c) H8 ⟨fresh_back (E6.trans e7) hp, (E6.trans e7).trans e8, ⟨kvs, h8, hk1.mono e8⟩, hnd, by omega⟩ (by omega) (fun q hq => hgood q (hperm.mem_iff.mp hq)) (fun q hq => ?_) fun q hq m hm => by rw [← hxe]; exact hnms q (hperm.mem_iff.mp hq) m hm
    have hq2 : q.1 ∈ B.map (·.1) := List.mem_map_of_mem (hperm.mem_iff.mp hq)
    rw [hB] at hq2
    obtain ⟨j, hj, ej⟩ := List.mem_map.mp hq2
    have hj2 := List.mem_range.mp hj
    have hj3 : j < 14 := by
      have : (if (ns.length : Int) - 4 < (many : Int) then (ns.length : Int) - 4 else (many : Int)) ≤ 14 := by split <;> omega
      omega
    have h1 : (j : Int) * (1 + g) ≤ (j : Int) * 3 := Int.mul_le_mul_of_nonneg_left (by omega) (by omega)
    omega
end S
end
set_option Elab.async false
set_option linter.all false
set_option maxRecDepth 100000
set_option maxHeartbeats 4000000
namespace S
open PySem L2 Evl
/-! ### numbers in order -/
def downs (ks : List Int) : List Int := ks.mergeSort fun a b => decide (b ≤ a)
def ups (ks : List Int) : List Int := ks.mergeSort fun a b => decide (a ≤ b)
theorem downs_perm (ks : List Int) : (downs ks).Perm ks := List.mergeSort_perm ks _
theorem ups_perm (ks : List Int) : (ups ks).Perm ks := List.mergeSort_perm ks _
theorem downs_sorted (ks : List Int) : (downs ks).Pairwise (· ≥ ·) := by
  have h := List.pairwise_mergeSort (le := fun (a b : Int) => decide (b ≤ a)) (fun a b c h1 h2 => by simp at h1 h2 ⊢; omega) (fun a b => by simp; omega) ks
  exact List.Pairwise.imp (fun {a b} h => by simpa using h) h
theorem ups_sorted (ks : List Int) : (ups ks).Pairwise (· ≤ ·) := by
  have h := List.pairwise_mergeSort (le := fun (a b : Int) => decide (a ≤ b)) (fun a b c h1 h2 => by simp at h1 h2 ⊢; omega) (fun a b => by simp; omega) ks
  exact List.Pairwise.imp (fun {a b} h => by simpa using h) h
theorem downs_of {ks ys : List Int} (h : ys.Perm ks) (hs : ys.Pairwise (· ≥ ·)) : ys = downs ks :=
  List.Perm.eq_of_pairwise (le := fun a b : Int => a ≥ b) (fun a b _ _ h1 h2 => by omega) hs (downs_sorted ks) (h.trans (downs_perm ks).symm)
theorem ups_of {ks ys : List Int} (h : ys.Perm ks) (hs : ys.Pairwise (· ≤ ·)) : ys = ups ks :=
  List.Perm.eq_of_pairwise (le := fun a b : Int => a ≤ b) (fun a b _ _ h1 h2 => by omega) hs (ups_sorted ks) (h.trans (ups_perm ks).symm)
/-! ### which entries count, what is said -/
def Ent.undoes : Ent → List Int
  | .undo j => [j]
  | _ => []
def countStep (B : Bk) (n : Int) (st : List Int × List Int) (k : Int) : List Int × List Int :=
  if k ≤ n ∧ k ∉ st.2 then (st.1 ++ [k], st.2 ++ ((Bk.at B k).map Ent.undoes).getD []) else st
def countAll (B : Bk) (n : Int) (ys : List Int) : List Int × List Int := ys.foldl (countStep B n) ([], [])
/-- the numbers that count behind n, rising -/
def countF (B : Bk) (n : Int) : List Int := (countAll B n (downs (B.map (·.1)))).1.reverse
/-- what a name has on a day, the numbers falling -/
def saidL (B : Bk) (day : Int) : List Int → Str → Option Int
  | [], _ => none
  | k :: r, name => match Bk.at B k with
    | some (.tell n lo hi w) => if n = name ∧ lo ≤ day ∧ day ≤ hi then some w else saidL B day r name
    | some (.clear n lo hi) => if n = name ∧ lo ≤ day ∧ day ≤ hi then none else saidL B day r name
    | some (.like n lo hi o) => if n = name ∧ lo ≤ day ∧ day ≤ hi then saidL B day r o else saidL B day r name
    | _ => saidL B day r name
def saidF (B : Bk) (ns : List Int) (name : Str) (day : Int) : Option Int := saidL B day ns.reverse name
/-- a worth or None -/
def optV : Option Int → V
  | none => .non
  | some i => .int i
theorem countAll_snoc (B : Bk) (n : Int) (ys : List Int) (k : Int) : countAll B n (ys ++ [k]) = countStep B n (countAll B n ys) k := by
  unfold countAll
  rw [List.foldl_append]
  rfl
theorem countStep_len (B : Bk) (n : Int) (st : List Int × List Int) (k : Int) : (countStep B n st k).1.length ≤ st.1.length + 1 ∧ (countStep B n st k).2.length ≤ st.2.length + 1 := by
  unfold countStep
  split
  · refine ⟨by simp, ?_⟩
    rw [List.length_append]
    cases e : Bk.at B k with
    | none => simp
    | some x => cases x <;> simp [Ent.undoes]
  · exact ⟨by omega, by omega⟩
theorem countAll_len (B : Bk) (n : Int) (ys : List Int) : (countAll B n ys).1.length ≤ ys.length ∧ (countAll B n ys).2.length ≤ ys.length := by
  have : ∀ (ys : List Int) (st : List Int × List Int), ((ys.foldl (countStep B n) st).1.length ≤ st.1.length + ys.length) ∧ ((ys.foldl (countStep B n) st).2.length ≤ st.2.length + ys.length) := by
    intro ys
    induction ys with
    | nil => intro st; exact ⟨Nat.le_refl _, Nat.le_refl _⟩
    | cons k r ih =>
      intro st
      have h1 := ih (countStep B n st k)
      have h2 := countStep_len B n st k
      rw [List.foldl_cons, List.length_cons]
      omega
  have h := this ys ([], [])
  simpa [countAll] using h
theorem countAll_mem (B : Bk) (n : Int) (ys : List Int) {k : Int} (h : k ∈ (countAll B n ys).1) : k ∈ ys ∧ k ≤ n := by
  have : ∀ (ys : List Int) (st : List Int × List Int), k ∈ (ys.foldl (countStep B n) st).1 → k ∈ st.1 ∨ (k ∈ ys ∧ k ≤ n) := by
    intro ys
    induction ys with
    | nil => intro st h; exact .inl h
    | cons j r ih =>
      intro st h
      rcases ih _ h with h1 | ⟨h1, h2⟩
      · unfold countStep at h1
        split at h1
        · rename_i hc
          rcases List.mem_append.mp h1 with h2 | h2
          · exact .inl h2
          · have e := List.mem_singleton.mp h2
            exact .inr ⟨by rw [e]; exact List.mem_cons_self, by rw [e]; exact hc.1⟩
        · exact .inl h1
      · exact .inr ⟨List.mem_cons_of_mem _ h1, h2⟩
  rcases this ys ([], []) h with h1 | h1
  · cases h1
  · exact h1
theorem countF_mem {B : Bk} {n k : Int} (h : k ∈ countF B n) : k ∈ B.map (·.1) ∧ k ≤ n := by
  unfold countF at h
  rw [List.mem_reverse] at h
  have := countAll_mem B n _ h
  exact ⟨(downs_perm _).mem_iff.mp this.1, this.2⟩
theorem countF_len (B : Bk) (n : Int) : (countF B n).length ≤ B.length := by
  unfold countF
  rw [List.length_reverse]
  have h := (countAll_len B n (downs (B.map (·.1)))).1
  rw [(downs_perm _).length_eq, List.length_map] at h
  exact h
theorem inV_ints (k : Int) (l : List Int) : inV (.int k) (l.map V.int) = decide (k ∈ l) := by
  unfold inV
  rw [List.any_map]
  induction l with
  | nil => rfl
  | cons x r ih =>
    rw [List.any_cons, ih]
    have e : ((fun y => eqV y (V.int k)) ∘ V.int) x = (x == k) := rfl
    rw [e]
    by_cases h : x = k
    · subst h; simp
    · have h2 : ¬ k = x := fun z => h z.symm
      simp [h, h2, List.mem_cons]
theorem flat_ints (l : List Int) : (l.map V.int).all flatV = true := by
  rw [List.all_eq_true]
  intro v hv
  obtain ⟨x, _, rfl⟩ := List.mem_map.mp hv
  rfl
/-! ### parts of an entry -/
def Ent.word : Ent → Str
  | .tell _ _ _ _ => "tell"
  | .clear _ _ _ => "clear"
  | .like _ _ _ _ => "like"
  | .undo _ => "undo"
theorem Ent.vs0 (e : Ent) : e.vs[0]? = some (.str e.word) := by cases e <;> rfl
theorem w_tu : ¬ (("tell" : Str) = "undo") := by decide +kernel
theorem w_cu : ¬ (("clear" : Str) = "undo") := by decide +kernel
theorem w_lu : ¬ (("like" : Str) = "undo") := by decide +kernel
theorem w_ct : ¬ (("clear" : Str) = "tell") := by decide +kernel
theorem w_lt : ¬ (("like" : Str) = "tell") := by decide +kernel
theorem w_lc : ¬ (("like" : Str) = "clear") := by decide +kernel
def Ent.isUndo : Ent → Bool
  | .undo _ => true
  | _ => false
theorem Ent.word_undo (e : Ent) : decide (e.word = "undo") = e.isUndo := by
  cases e with
  | tell => exact decide_eq_false w_tu
  | clear => exact decide_eq_false w_cu
  | like => exact decide_eq_false w_lu
  | undo => exact decide_eq_true rfl
section
variable {K : PySem.W.Frag} {σ : L2.St} {H : Hp} {ta tb : TE} {D : Ends} {tu tz : TS}
/-- sorted(book, reverse=True) -/
theorem el_downs {b : Addr} {B : Bk} (ha : Ev ta σ H (.ref b)) (h : BookAt H b B) : EvL (tCKw rSortRev (tCons ta tNil) (tCons (tC (.bl true)) tNil)) σ H ((downs (B.map (·.1))).map V.int) := fun H1 e Q q =>
  ha H1 e _ fun H2 e2 => by
    obtain ⟨kvs, h1, h2⟩ := (h.mono (e.trans e2)).ex
    have hk : IntKeys kvs (B.map (·.1)) := h2.keys
    refine ⟨b, kvs, _, rfl, rfl, h1, hk, by rw [List.length_map]; exact Nat.lt_of_le_of_lt h.few (by decide), fun ys p hp hs hn => ?_⟩
    rw [downs_of hp hs]
    exact q p _ (fresh_back e2 hn) (e2.trans (Ex.new hn)) upd_same
theorem el_ups {b : Addr} {B : Bk} (ha : Ev ta σ H (.ref b)) (h : BookAt H b B) : EvL (tCB (sortedA K) (tCons ta tNil)) σ H ((ups (B.map (·.1))).map V.int) := fun H1 e Q q =>
  ha H1 e _ fun H2 e2 => by
    obtain ⟨kvs, h1, h2⟩ := (h.mono (e.trans e2)).ex
    have hk : IntKeys kvs (B.map (·.1)) := h2.keys
    refine .inr (.inl ⟨b, kvs, _, rfl, h1, hk, by rw [List.length_map]; exact Nat.lt_of_le_of_lt h.few (by decide), fun ys p hp hs hn => ?_⟩)
    rw [ups_of hp hs]
    exact q p _ (fresh_back e2 hn) (e2.trans (Ex.new hn)) upd_same
/-- for x in reversed(xs) -/
theorem s_forRev {a : Addr} {xs : List V} {ta : TA} {j : Nat} (h : EvA ta σ H [.ref a]) (hx : SqL K H a xs) (Pv : Nat → L2.St → Hp → Prop) (h0 : ∀ H1, Ex H H1 → Pv 0 σ H1) (hl : ∀ i σ' H', Pv i σ' H' → SqL K H' a xs)
    (hs : ∀ i x σ' H', xs.reverse[i]? = some x → Pv i σ' H' → tu { D with nx := Pv (i + 1), ct := Pv (i + 1), bk := D.nx } (σ'.set j (some x)) H') (hd : ∀ σ' H', Pv xs.length σ' H' → D.nx σ' H') : tFor (iRev K ta) (gName j) tu D σ H :=
  h H (Ex.refl H) _ fun H1 e => ⟨a, xs, rfl, ex_l e hx, fun i m σ H => m = xs.length - i ∧ i ≤ xs.length ∧ Pv i σ H, ⟨xs.length, by simp, Nat.zero_le _, h0 H1 e⟩, by
    rintro i m σ' H' ⟨rfl, hi, p⟩
    have q := hl i σ' H' p
    by_cases hlt : i < xs.length
    · have hr : xs.reverse[i]? = xs[xs.length - 1 - i]? := List.getElem?_reverse hlt
      have hb : xs.length - 1 - i < xs.length := by omega
      refine .inr ⟨⟨hlt, xs, xs[xs.length - 1 - i], q, List.getElem?_eq_getElem hb⟩, Pv (i + 1), fun σ2 H2 p' => ⟨xs.length - (i + 1), by omega, rfl, hlt, p'⟩, fun x H2 y => ?_⟩
      obtain ⟨e', y⟩ := y
      subst e'
      exact hs i x σ' _ (by rw [hr]; exact y xs q) p
    · have e' : i = xs.length := by omega
      subst e'
      exact .inl ⟨Nat.le_refl _, hd σ' H' p⟩⟩
theorem q_forRev {a : Addr} {xs : List V} {ta : TA} {j : Nat} (h : EvA ta σ H [.ref a]) (hx : SqL K H a xs) (Pv : Nat → L2.St → Hp → Prop) (h0 : ∀ H1, Ex H H1 → Pv 0 σ H1) (hl : ∀ i σ' H', Pv i σ' H' → SqL K H' a xs)
    (hs : ∀ i x σ' H', xs.reverse[i]? = some x → Pv i σ' H' → tu { D with nx := Pv (i + 1), ct := Pv (i + 1), bk := tz D } (σ'.set j (some x)) H') (hd : ∀ σ' H', Pv xs.length σ' H' → tz D σ' H') : tSeq (tFor (iRev K ta) (gName j) tu) tz D σ H :=
  s_forRev (D := { D with nx := tz D }) h hx Pv h0 hl hs hd
end
theorem map_get {α : Type} {f : α → V} {xs : List α} {i : Nat} {v : V} (h : (xs.map f)[i]? = some v) : ∃ x, xs[i]? = some x ∧ v = f x := by
  rw [List.getElem?_map] at h
  cases e : xs[i]? with
  | none => rw [e] at h; cases h
  | some x => rw [e] at h; exact ⟨x, rfl, (Option.some.inj h).symm⟩
theorem take_snoc {α : Type} {xs : List α} {i : Nat} {x : α} (h : xs[i]? = some x) : xs.take (i + 1) = xs.take i ++ [x] := by
  rw [List.take_add_one, h]
  rfl
end S
section
open PySem L2 Evl S
local macro_rules | `(tactic| array_get_dec) => `(tactic| first
  | exact ev_c
  | exact ev_var rfl
  | exact S.eo_no
  | exact ea_nil
  | (apply S.eo_some <;> array_get_dec)
  | (apply ea_cons <;> array_get_dec)
  | (apply S.ev_add <;> array_get_dec)
  | (apply S.ev_sub <;> array_get_dec)
  | (apply S.ev_div <;> first | array_get_dec | exact ⟨by decide, by decide⟩ | exact ⟨by omega, by omega⟩)
  | (apply S.ev_mod <;> first | array_get_dec | decide | omega)
  | (apply S.ev_mulr <;> first | array_get_dec | exact ⟨by decide, by decide⟩ | exact ⟨by omega, by omega⟩)
  | (apply S.ev_mull <;> first | array_get_dec | exact ⟨by decide, by decide⟩ | exact ⟨by omega, by omega⟩)
  | (apply S.ev_neg <;> array_get_dec)
  | (apply S.ev_min <;> array_get_dec)
  | (apply S.ev_max <;> array_get_dec)
  | (apply S.ev_eqI <;> array_get_dec)
  | (apply S.ev_eqS <;> array_get_dec)
  | (apply S.ev_neI <;> array_get_dec)
  | (apply S.ev_neS <;> array_get_dec)
  | (apply S.ev_lt <;> array_get_dec)
  | (apply S.ev_le <;> array_get_dec)
  | (apply S.ev_gt <;> array_get_dec)
  | (apply S.ev_ge <;> array_get_dec)
  | (apply S.ev_intB <;> array_get_dec)
  | (apply et_test <;> array_get_dec)
  | (apply et_B <;> array_get_dec)
  | (apply et_not <;> array_get_dec)
  | (refine' et_and ?_ (fun _ => ?_) <;> array_get_dec)
  | (refine' et_or ?_ (fun _ => ?_) <;> array_get_dec))
namespace S
/-! ### counting -/
def sp_counting (K : PySem.W.Frag) (C : CA) : Sp := fun vs H Q _ => ∃ (b : Addr) (B : Bk) (n : Int), vs = [.ref b, .int n] ∧ BookAt H b B ∧
  ∀ p H', H p = none → Ex H H' → H' p = some (.lst ((countF B n).map V.int)) → Q (.ref p) H'
theorem len_counting {K : PySem.W.Frag} {C : CA} {vs : List V} {H : Hp} {Q : VK} {E : XK} (h : sp_counting K C vs H Q E) : vs.length = 2 := by
  obtain ⟨b, B, n, rfl, _⟩ := h
  rfl
/-- book 0, n 1, undone 2, found 3, number 4 -/
def t_counting (K : PySem.W.Frag) (C : CA) : TS :=
 (tSeq (tAsg tDNewK (gName 2))
 (tSeq (tAsg (tLst tNil) (gName 3))
 (tSeq (tFor (iList K (tCKw rSortRev (tCons (tVar 0) tNil) (tCons (tC (.bl true)) tNil))) (gName 4)
  (tIfS (tAnd (tTest (tOp (leI) (tVar 4) (tVar 1))) (tTest (tOp (niA K) (tVar 4) (tVar 2)))) (tSeq (tDrop (tBM K "list" rAppend (tVar 3) (tCons (tVar 4) tNil)))
 (tIfS (tTest (tOp (eqA K) (tOp (ixA K) (tOp (ixA K) (tVar 0) (tVar 4)) (tC (.int 0))) (tC (.str "undo")))) (tAsg (tC (.bl true)) (gSub (tVar 2) (tOp (ixA K) (tOp (ixA K) (tVar 0) (tVar 4)) (tC (.int 1))) setA)) tNext)) tNext))
 (tRet (tRevA K (tVar 3))))))
theorem pure_counting {K : PySem.W.Frag} {C : CA} {vs : List V} {H : Hp} {Q : VK} {E : XK} (h : sp_counting K C vs H Q E) : t_counting K C { nx := fun _ H' => Q .non H', rt := Q } (startN 5 vs) H := by
  obtain ⟨b, B, n, rfl, hB, kk⟩ := h
  refine q_asgD ed_new fun u H1 hu e1 h1 => ?_
  refine q_asgL (el_lst ea_nil (by decide)) fun f H2 hf e2 h2 => ?_
  have E2 : Ex H H2 := e1.trans e2
  have nf : H f = none := fresh_back e1 hf
  have nfu : f ≠ u := fun z => by rw [z, h1] at hf; cases hf
  refine q_forNLn (el_downs (ev_var rfl) (hB.mono E2)) (fun q i σ' H' => ∃ o4 found undone kvs, σ' = [some (.ref b), some (.int n), some (.ref u), some (.ref f), o4] ∧ Ex H H' ∧ H2 q = none ∧ H' q = some (.lst ((downs (B.map (·.1))).map V.int)) ∧ H' f = some (.lst (found.map V.int)) ∧ H' u = some (.dK kvs) ∧
      (∀ k : Int, (valV kvs (Sum.inl k : Key)).isSome = decide (k ∈ undone)) ∧ kvs.length ≤ i ∧ found.length ≤ i ∧ (found, undone) = countAll B n ((downs (B.map (·.1))).take i))
    (fun q H3 hq e3 h3 => ⟨none, [], [], [], rfl, E2.trans e3, hq, h3, e3 f _ h2, e3 u _ (e2 u _ h1), fun k => by simp [valV], Nat.le_refl _, Nat.le_refl _, rfl⟩)
    (fun q i σ' H' _ ⟨_, _, _, _, _, _, _, hq, _⟩ => sq_of hq) ?_ ?_
  · rintro q i x σ' H' hx ⟨o4, found, undone, kvs, rfl, E3, nq, hq, h3, h4, hk, hkl, hfl, hc⟩
    obtain ⟨k, hk1, rfl⟩ := map_get hx
    have hkB : k ∈ B.map (·.1) := (downs_perm _).mem_iff.mp (List.mem_of_getElem? hk1)
    obtain ⟨e, he⟩ := Bk.at_isSome hkB
    have hi : i < 60 := by
      have h1 := (List.getElem?_eq_some_iff.mp hk1).1
      rw [(downs_perm _).length_eq, List.length_map] at h1
      exact Nat.lt_of_lt_of_le h1 hB.few
    have hqf : q ≠ f := fun z => by rw [z] at nq; rw [h2] at nq; cases nq
    have hqu : q ≠ u := fun z => by rw [z] at nq; rw [e2 u _ h1] at nq; cases nq
    have step : countAll B n ((downs (B.map (·.1))).take (i + 1)) = countStep B n (found, undone) k := by rw [take_snoc hk1, countAll_snoc, hc]
    have tst : EvT (tAnd (tTest (tOp leI (tVar 4) (tVar 1))) (tTest (tOp (niA K) (tVar 4) (tVar 2)))) (([some (.ref b), some (.int n), some (.ref u), some (.ref f), o4] : L2.St).set 4 (some (.int k))) H' (decide (k ≤ n) && !decide (k ∈ undone)) := by
      rw [← hk k]
      exact et_and (et_test (ev_le (ev_var rfl) (ev_var rfl))) fun _ => et_test (ev_niD (k := (Sum.inl k : Key)) (ev_var rfl) (ev_var rfl) (.inl h4))
    refine s_when tst (fun c H4 e4 => ?_) (fun c H4 e4 => ?_)
    · rw [Bool.and_eq_true, decide_eq_true_eq, Bool.not_eq_true', decide_eq_false_iff_not] at c
      have hst : countStep B n (found, undone) k = (found ++ [k], undone ++ e.undoes) := by
        unfold countStep
        rw [if_pos c, he]
        rfl
      refine q_app (xs := found.map V.int) (e4 f _ h3) (ev_var rfl) (ev_var rfl) (by rw [List.length_map]; omega) fun H5 e5 => ?_
      have E5 : Ex H' H5 := e4.trans e5
      have h5f : (upd H5 f (.lst (found.map V.int ++ [V.int k]))) f = some (.lst ((found ++ [k]).map V.int)) := by rw [upd_same, List.map_append]; rfl
      have h5u : (upd H5 f (.lst (found.map V.int ++ [V.int k]))) u = some (.dK kvs) := by rw [upd_ne nfu.symm]; exact E5 u _ h4
      have h5q : (upd H5 f (.lst (found.map V.int ++ [V.int k]))) q = some (.lst ((downs (B.map (·.1))).map V.int)) := by rw [upd_ne hqf]; exact E5 q _ hq
      have E6 : Ex H (upd H5 f (.lst (found.map V.int ++ [V.int k]))) := Ex.mut (E3.trans E5) nf
      generalize upd H5 f (.lst (found.map V.int ++ [V.int k])) = H6 at h5f h5u h5q E6 ⊢
      obtain ⟨kv, t, g1, g2, g3⟩ := (hB.mono E6).get he
      refine s_when (et_test (S.ev_eqS (ev_part 0 (ev_book (ev_var rfl) (ev_var rfl) g1 g2) g3 e.vs0) ev_c)) (fun d H7 e7 => ?_) (fun d H7 e7 => ?_)
      · rw [Ent.word_undo] at d
        cases e with
        | undo j =>
          have g1' := ex_rd e7 g1
          have g3' := g3.mono e7
          refine s_put (k := (Sum.inl j : Key)) ev_c (ev_var rfl) (ev_part 1 (ev_book (ev_var rfl) (ev_var rfl) g1' g2) g3' rfl) (e7 u _ h5u) (by omega) fun H8 e8 => ?_
          have E8 : Ex H6 H8 := e7.trans e8
          refine ⟨_, found ++ [k], undone ++ [j], putK kvs (Sum.inl j) (.bl true), rfl, Ex.mut (E6.trans E8) hu, nq, ?_, ?_, upd_same, fun m => ?_, ?_, by rw [List.length_append]; show found.length + 1 ≤ i + 1; omega, by rw [step, hst]; rfl⟩
          · rw [upd_ne hqu]; exact E8 q _ h5q
          · rw [upd_ne nfu]; exact E8 f _ h5f
          · rw [valV_put]
            by_cases z : m = j
            · subst z; simp
            · rw [if_neg (fun w => z (Sum.inl.inj w)), hk m]
              simp [z]
          · have := length_putK kvs (Sum.inl j : Key) (.bl true)
            omega
        | _ => cases d
      · rw [Ent.word_undo] at d
        have hu0 : e.undoes = [] := by cases e <;> first | rfl | cases d
        refine ⟨_, found ++ [k], undone, kvs, rfl, E6.trans e7, nq, e7 q _ h5q, e7 f _ h5f, e7 u _ h5u, hk, by omega, by rw [List.length_append]; show found.length + 1 ≤ i + 1; omega, ?_⟩
        rw [step, hst, hu0, List.append_nil]
    · have hst : countStep B n (found, undone) k = (found, undone) := by
        unfold countStep
        rw [if_neg]
        intro z
        rw [decide_eq_true z.1, decide_eq_false z.2] at c
        cases c
      exact ⟨_, found, undone, kvs, rfl, E3.trans e4, nq, e4 q _ hq, e4 f _ h3, e4 u _ h4, hk, by omega, by omega, by rw [step, hst]⟩
  · rintro q σ' H' ⟨o4, found, undone, kvs, rfl, E3, nq, hq, h3, h4, hk, hkl, hfl, hc⟩
    rw [List.length_map, List.take_length] at hc
    refine s_retL (el_rev (ev_var rfl) (sq_of h3)) fun p H4 hp e4 h4 => ?_
    refine kk p H4 (fresh_back E3 hp) (E3.trans e4) ?_
    rw [h4, ← List.map_reverse]
    unfold countF
    rw [← hc]
/-! ### said_of -/
def sp_said_of (K : PySem.W.Frag) (C : CA) : Sp := fun vs H Q _ => ∃ (b l : Addr) (B : Bk) (ns : List Int) (name : Str) (day : Int), vs = [.ref b, .ref l, .str name, .int day] ∧ BookAt H b B ∧ SqL K H l (ns.map V.int) ∧ (∀ k ∈ ns, k ∈ B.map (·.1)) ∧
  ∀ H', Ex H H' → Q (optV (saidF B ns name day)) H'
theorem len_said_of {K : PySem.W.Frag} {C : CA} {vs : List V} {H : Hp} {Q : VK} {E : XK} (h : sp_said_of K C vs H Q E) : vs.length = 4 := by
  obtain ⟨b, l, B, ns, name, day, rfl, _⟩ := h
  rfl
/-- book 0, numbers 1, name 2, day 3, number 4, entry 5 -/
def t_said_of (K : PySem.W.Frag) (C : CA) : TS :=
 (tSeq (tFor (iRev K (tCons (tVar 1) tNil)) (gName 4)
  (tSeq (tAsg (tOp (ixA K) (tVar 0) (tVar 4)) (gName 5))
 (tIfS (tAnd (tTest (tOp (neA K) (tOp (ixA K) (tVar 5) (tC (.int 0))) (tC (.str "undo")))) (tAnd (tTest (tOp (eqA K) (tOp (ixA K) (tVar 5) (tC (.int 1))) (tVar 2))) (tTest (tChain (leI) (leI) (tOp (ixA K) (tVar 5) (tC (.int 2))) (tVar 3) (tOp (ixA K) (tVar 5) (tC (.int 3))))))) (tSeq (tIfS (tTest (tOp (eqA K) (tOp (ixA K) (tVar 5) (tC (.int 0))) (tC (.str "tell")))) (tRet (tOp (ixA K) (tVar 5) (tC (.int 4)))) tNext)
 (tSeq (tIfS (tTest (tOp (eqA K) (tOp (ixA K) (tVar 5) (tC (.int 0))) (tC (.str "clear")))) (tRet (tC .non)) tNext)
 (tAsg (tOp (ixA K) (tVar 5) (tC (.int 4))) (gName 2)))) tNext)))
 (tRet (tC .non)))
theorem drop_of {α : Type} {xs : List α} {i : Nat} {x : α} (h : xs[i]? = some x) : xs.drop i = x :: xs.drop (i + 1) := by
  obtain ⟨h1, h2⟩ := List.getElem?_eq_some_iff.mp h
  rw [List.drop_eq_getElem_cons h1, h2]
theorem pure_said_of {K : PySem.W.Frag} {C : CA} {vs : List V} {H : Hp} {Q : VK} {E : XK} (h : sp_said_of K C vs H Q E) : t_said_of K C { nx := fun _ H' => Q .non H', rt := Q } (startN 6 vs) H := by
  obtain ⟨b, l, B, ns, name, day, rfl, hB, hl, hns, kk⟩ := h
  refine q_forRev (ea_cons (ev_var rfl) ea_nil) hl (fun i σ' H' => ∃ o4 o5 nm, σ' = [some (.ref b), some (.ref l), some (.str nm), some (.int day), o4, o5] ∧ Ex H H' ∧ saidF B ns name day = saidL B day (ns.reverse.drop i) nm)
    (fun H1 e1 => ⟨none, none, name, rfl, e1, rfl⟩) (fun i σ' H' ⟨_, _, _, _, e, _⟩ => ex_l e hl) ?_ ?_
  · rintro i x σ' H' hx ⟨o4, o5, nm, rfl, E1, hs⟩
    rw [← List.map_reverse] at hx
    obtain ⟨k, hk, rfl⟩ := map_get hx
    have hkB : k ∈ B.map (·.1) := hns k (List.mem_reverse.mp (List.mem_of_getElem? hk))
    obtain ⟨e, he⟩ := Bk.at_isSome hkB
    obtain ⟨kv, t, g1, g2, g3⟩ := (hB.mono E1).get he
    rw [drop_of hk] at hs
    refine q_asg (ev_book (ev_var rfl) (ev_var rfl) g1 g2) fun H2 e2 => ?_
    have g4 := g3.mono e2
    have E2 : Ex H H2 := E1.trans e2
    have tw : ∀ w : Str, EvT (tTest (tOp (eqA K) (tOp (ixA K) (tVar 5) (tC (.int 0))) (tC (.str w)))) ((([some (.ref b), some (.ref l), some (.str nm), some (.int day), o4, o5] : L2.St).set 4 (some (.int k))).set 5 (some (.ref t))) H2 (decide (e.word = w)) := fun w =>
      et_test (S.ev_eqS (ev_part 0 (ev_var rfl) g4 e.vs0) ev_c)
    have tn : EvT (tTest (tOp (neA K) (tOp (ixA K) (tVar 5) (tC (.int 0))) (tC (.str "undo")))) ((([some (.ref b), some (.ref l), some (.str nm), some (.int day), o4, o5] : L2.St).set 4 (some (.int k))).set 5 (some (.ref t))) H2 (!e.isUndo) := by
      rw [← Ent.word_undo]
      exact et_test (S.ev_neS (ev_part 0 (ev_var rfl) g4 e.vs0) ev_c)
    have tell3 : ∀ (n : Str) (lo hi : Int), e.vs[1]? = some (.str n) → e.vs[2]? = some (.int lo) → e.vs[3]? = some (.int hi) →
        EvT (tAnd (tTest (tOp (neA K) (tOp (ixA K) (tVar 5) (tC (.int 0))) (tC (.str "undo")))) (tAnd (tTest (tOp (eqA K) (tOp (ixA K) (tVar 5) (tC (.int 1))) (tVar 2))) (tTest (tChain leI leI (tOp (ixA K) (tVar 5) (tC (.int 2))) (tVar 3) (tOp (ixA K) (tVar 5) (tC (.int 3)))))))
          ((([some (.ref b), some (.ref l), some (.str nm), some (.int day), o4, o5] : L2.St).set 4 (some (.int k))).set 5 (some (.ref t))) H2 (!e.isUndo && (decide (n = nm) && (decide (lo ≤ day) && decide (day ≤ hi)))) := fun n lo hi v1 v2 v3 =>
      et_and tn fun _ => et_and (et_test (S.ev_eqS (ev_part 1 (ev_var rfl) g4 v1) (ev_var rfl))) fun _ => et_test (ev_lele (ev_part 2 (ev_var rfl) g4 v2) (ev_var rfl) (ev_part 3 (ev_var rfl) g4 v3))
    have yes : ∀ {n : Str} {lo hi : Int}, (true && (decide (n = nm) && (decide (lo ≤ day) && decide (day ≤ hi)))) = true → n = nm ∧ lo ≤ day ∧ day ≤ hi := fun c => by
      simpa using c
    have no : ∀ {n : Str} {lo hi : Int}, (true && (decide (n = nm) && (decide (lo ≤ day) && decide (day ≤ hi)))) = false → ¬ (n = nm ∧ lo ≤ day ∧ day ≤ hi) := fun c z => by
      rw [decide_eq_true z.1, decide_eq_true z.2.1, decide_eq_true z.2.2] at c
      cases c
    cases e with
    | undo j =>
      refine s_when (et_and (b := false) tn fun c => by cases c) (fun c => by cases c) fun _ H3 e3 => ?_
      exact ⟨_, _, nm, rfl, E2.trans e3, by rw [hs, saidL, he]⟩
    | tell n lo hi w =>
      refine s_when (tell3 n lo hi rfl rfl rfl) (fun c H3 e3 => ?_) (fun c H3 e3 => ?_)
      · refine q_when ((tw "tell").mono e3) (fun _ H4 e4 => ?_) (fun d => absurd d (by simp [Ent.word]))
        refine s_ret (ev_part 4 (ev_var rfl) (g4.mono (e3.trans e4)) rfl) fun H5 e5 => ?_
        have := kk H5 (E2.trans (e3.trans (e4.trans e5)))
        rw [hs, saidL, he] at this
        dsimp only at this
        rw [if_pos (yes c)] at this
        exact this
      · exact ⟨_, _, nm, rfl, E2.trans e3, by rw [hs, saidL, he]; exact if_neg (no c)⟩
    | clear n lo hi =>
      refine s_when (tell3 n lo hi rfl rfl rfl) (fun c H3 e3 => ?_) (fun c H3 e3 => ?_)
      · refine q_when ((tw "tell").mono e3) (fun d => absurd (of_decide_eq_true d) w_ct) (fun _ H4 e4 => ?_)
        refine q_when ((tw "clear").mono (e3.trans e4)) (fun _ H5 e5 => ?_) (fun d => absurd d (by simp [Ent.word]))
        refine s_ret ev_c fun H6 e6 => ?_
        have := kk H6 (E2.trans (e3.trans (e4.trans (e5.trans e6))))
        rw [hs, saidL, he] at this
        dsimp only at this
        rw [if_pos (yes c)] at this
        exact this
      · exact ⟨_, _, nm, rfl, E2.trans e3, by rw [hs, saidL, he]; exact if_neg (no c)⟩
    | like n lo hi o =>
      refine s_when (tell3 n lo hi rfl rfl rfl) (fun c H3 e3 => ?_) (fun c H3 e3 => ?_)
      · refine q_when ((tw "tell").mono e3) (fun d => absurd (of_decide_eq_true d) w_lt) (fun _ H4 e4 => ?_)
        refine q_when ((tw "clear").mono (e3.trans e4)) (fun d => absurd (of_decide_eq_true d) w_lc) (fun _ H5 e5 => ?_)
        refine s_asg (ev_part 4 (ev_var rfl) (g4.mono (e3.trans (e4.trans e5))) rfl) fun H6 e6 => ?_
        exact ⟨_, _, o, rfl, E2.trans (e3.trans (e4.trans (e5.trans e6))), by rw [hs, saidL, he]; exact if_pos (yes c)⟩
      · exact ⟨_, _, nm, rfl, E2.trans e3, by rw [hs, saidL, he]; exact if_neg (no c)⟩
  · rintro σ' H' ⟨o4, o5, nm, rfl, E1, hs⟩
    have e0 : ns.reverse.drop (ns.map V.int).length = [] := by rw [List.length_map, ← List.length_reverse, List.drop_length]
    rw [e0] at hs
    refine s_ret ev_c fun H2 e2 => ?_
    have := kk H2 (E1.trans e2)
    rw [hs] at this
    exact this
/-! ### worth_of -/
def worthF (B : Bk) (n : Int) (name : Str) (day : Int) : Option Int := saidF B (countF B n) name day
def sp_worth_of (K : PySem.W.Frag) (C : CA) : Sp := fun vs H Q _ => ∃ (b : Addr) (B : Bk) (n : Int) (name : Str) (day : Int), vs = [.ref b, .int n, .str name, .int day] ∧ BookAt H b B ∧
  ∀ H', Ex H H' → Q (optV (worthF B n name day)) H'
theorem len_worth_of {K : PySem.W.Frag} {C : CA} {vs : List V} {H : Hp} {Q : VK} {E : XK} (h : sp_worth_of K C vs H Q E) : vs.length = 4 := by
  obtain ⟨b, B, n, name, day, rfl, _⟩ := h
  rfl
/-- book 0, n 1, name 2, day 3 -/
def t_worth_of (K : PySem.W.Frag) (C : CA) : TS :=
 (tRet (tCall (sp_said_of K C) [] E0 (tCons (tVar 0) (tCons (tCall (sp_counting K C) [] E0 (tCons (tVar 0) (tCons (tVar 1) tNil))) (tCons (tVar 2) (tCons (tVar 3) tNil))))))
section
variable {K : PySem.W.Frag} {C : CA} {σ : L2.St} {H : Hp} {ta tb tc td : TE} {b : Addr} {B : Bk} {n : Int}
theorem el_counting (ha : Ev ta σ H (.ref b)) (hb : Ev tb σ H (.int n)) (h : BookAt H b B) : EvL (tCall (sp_counting K C) [] E0 (tCons ta (tCons tb tNil))) σ H ((countF B n).map V.int) :=
  el_call (ea_cons ha (ea_cons hb ea_nil)) fun H1 e1 Q q E => ⟨b, B, n, rfl, h.mono e1, q⟩
theorem ev_said {l : Addr} {ns : List Int} {name : Str} {day : Int} (ha : Ev ta σ H (.ref b)) (hb : Ev tb σ H (.ref l)) (hc : Ev tc σ H (.str name)) (hd : Ev td σ H (.int day)) (h : BookAt H b B) (hl : SqL K H l (ns.map V.int)) (hn : ∀ k ∈ ns, k ∈ B.map (·.1)) :
    Ev (tCall (sp_said_of K C) [] E0 (tCons ta (tCons tb (tCons tc (tCons td tNil))))) σ H (optV (saidF B ns name day)) :=
  ev_call (ea_cons ha (ea_cons hb (ea_cons hc (ea_cons hd ea_nil)))) fun H1 e1 Q q E => ⟨b, l, B, ns, name, day, rfl, h.mono e1, ex_l e1 hl, hn, q⟩
theorem ev_saidN {ns : List Int} {name : Str} {day : Int} (ha : Ev ta σ H (.ref b)) (hb : EvL tb σ H (ns.map V.int)) (hc : Ev tc σ H (.str name)) (hd : Ev td σ H (.int day)) (h : BookAt H b B) (hn : ∀ k ∈ ns, k ∈ B.map (·.1)) :
    Ev (tCall (sp_said_of K C) [] E0 (tCons ta (tCons tb (tCons tc (tCons td tNil))))) σ H (optV (saidF B ns name day)) := fun H1 e1 Q q =>
  ha H1 e1 _ fun H2 e2 => hb H2 (e1.trans e2) _ fun l H3 hl e3 h3 => hc H3 ((e1.trans e2).trans e3) _ fun H4 e4 => hd H4 (((e1.trans e2).trans e3).trans e4) _ fun H5 e5 =>
    ⟨b, l, B, ns, name, day, rfl, h.mono ((((e1.trans e2).trans e3).trans e4).trans e5), sq_of ((e4.trans e5) l _ h3), hn, fun H6 e6 => q H6 ((((e2.trans e3).trans e4).trans e5).trans e6)⟩
theorem ev_worth {name : Str} {day : Int} (ha : Ev ta σ H (.ref b)) (hb : Ev tb σ H (.int n)) (hc : Ev tc σ H (.str name)) (hd : Ev td σ H (.int day)) (h : BookAt H b B) :
    Ev (tCall (sp_worth_of K C) [] E0 (tCons ta (tCons tb (tCons tc (tCons td tNil))))) σ H (optV (worthF B n name day)) :=
  ev_call (ea_cons ha (ea_cons hb (ea_cons hc (ea_cons hd ea_nil)))) fun H1 e1 Q q E => ⟨b, B, n, name, day, rfl, h.mono e1, q⟩
end
theorem pure_worth_of {K : PySem.W.Frag} {C : CA} {vs : List V} {H : Hp} {Q : VK} {E : XK} (h : sp_worth_of K C vs H Q E) : t_worth_of K C { nx := fun _ H' => Q .non H', rt := Q } (startN 4 vs) H := by
  obtain ⟨b, B, n, name, day, rfl, hB, kk⟩ := h
  exact s_ret (ev_saidN (ev_var rfl) (el_counting (ev_var rfl) (ev_var rfl) hB) (ev_var rfl) (ev_var rfl) hB fun k hk => (countF_mem hk).1) kk
end S
end
set_option Elab.async false
set_option linter.all false
set_option maxRecDepth 100000
set_option maxHeartbeats 4000000
namespace S
open PySem L2 Evl
/-! ### data stays data -/
mutual
theorem Dp.mono {K : PySem.W.Frag} {H H' : Hp} (e : Ex H H') : ∀ {d : PyData} {v : V}, Dp K H v d → Dp K H' v d
  | .none, _, h => by cases h; exact .non
  | .bool b, _, h => by cases h; exact .bl b
  | .int i, _, h => by cases h; exact .int i
  | .str x, _, h => by cases h; exact .str x
  | .list ds, _, h => by cases h with | lst h1 h2 => exact .lst (ex_l e h1) (DpAll.mono e h2)
  | .tuple ds, _, h => by cases h with | tup h1 h2 => exact .tup (ex_t e h1) (DpAll.mono e h2)
  | .dict kvs, _, h => by cases h
theorem DpAll.mono {K : PySem.W.Frag} {H H' : Hp} (e : Ex H H') : ∀ {ds : List PyData} {vs : List V}, DpAll K H vs ds → DpAll K H' vs ds
  | [], _, h => by cases h; exact .nil
  | d :: ds, _, h => by cases h with | cons h1 h2 => exact .cons (Dp.mono e h1) (DpAll.mono e h2)
end
theorem DpAll.of {K : PySem.W.Frag} {H : Hp} {α : Type} {F : V → α → Prop} {f : α → PyData} (hf : ∀ v y, F v y → Dp K H v (f y)) : ∀ {vs : List V} {ys : List α}, Paired F vs ys → DpAll K H vs (ys.map f)
  | _, _, .nil => .nil
  | _, _, .cons r t => .cons (hf _ _ r) (DpAll.of hf t)
theorem paired_map {α : Type} (f : α → V) : ∀ ys : List α, Paired (fun v y => v = f y) (ys.map f) ys
  | [] => .nil
  | _ :: r => .cons rfl (paired_map f r)
theorem paired_get {α β : Type} {F : α → β → Prop} : ∀ {xs : List α} {ys : List β} {i : Nat} {x : α}, Paired F xs ys → xs[i]? = some x → ∃ y, ys[i]? = some y ∧ F x y
  | _, _, 0, _, .cons r t, h => by cases h; exact ⟨_, rfl, r⟩
  | _, _, i + 1, _, .cons r t, h => paired_get (i := i) t h
theorem paired_mem {α β : Type} {F : α → β → Prop} : ∀ {xs : List α} {ys : List β}, Paired F xs ys → ∀ x ∈ xs, ∃ y ∈ ys, F x y
  | _, _, .cons r t, x, h => by
    rcases List.mem_cons.mp h with h | h
    · rw [h]; exact ⟨_, List.mem_cons_self, r⟩
    · obtain ⟨y, h1, h2⟩ := paired_mem t x h
      exact ⟨y, List.mem_cons_of_mem _ h1, h2⟩
/-! ### two books that are the same -/
def Ent.ds : Ent → List PyData
  | .tell n lo hi w => [.str "tell", .str n, .int lo, .int hi, .int w]
  | .clear n lo hi => [.str "clear", .str n, .int lo, .int hi]
  | .like n lo hi o => [.str "like", .str n, .int lo, .int hi, .str o]
  | .undo k => [.str "undo", .int k]
theorem Ent.dp {K : PySem.W.Frag} {H : Hp} {t : Addr} {e : Ent} (h : EntAt H t e) : Dp K H (.ref t) (.tuple e.ds) := by
  refine .tup (st_of h) ?_
  cases e with
  | tell n lo hi w => exact .cons (.str _) (.cons (.str _) (.cons (.int _) (.cons (.int _) (.cons (.int _) .nil))))
  | clear n lo hi => exact .cons (.str _) (.cons (.str _) (.cons (.int _) (.cons (.int _) .nil)))
  | like n lo hi o => exact .cons (.str _) (.cons (.str _) (.cons (.int _) (.cons (.int _) (.cons (.str _) .nil))))
  | undo k => exact .cons (.str _) (.cons (.int _) .nil)
theorem strOk_name {n : Str} (h : NameS n) : PyData.strOk n = true := by
  show Array.all n.cps _ = true
  rw [← Array.all_toList, List.all_eq_true]
  intro c hc
  have := h.2.2 c hc
  exact decide_eq_true (by omega)
theorem ok_tell : PyData.strOk ("tell" : Str) = true := by decide +kernel
theorem ok_clear : PyData.strOk ("clear" : Str) = true := by decide +kernel
theorem ok_like : PyData.strOk ("like" : Str) = true := by decide +kernel
theorem ok_undo : PyData.strOk ("undo" : Str) = true := by decide +kernel
theorem Ent.lay {e : Ent} {k : Int} (h : e.ok k) : (PyData.tuple e.ds).canLay0 = true ∧ (PyData.tuple e.ds).depth ≤ 64 := by
  cases e with
  | tell n lo hi w => exact ⟨by simp [Ent.ds, PyData.canLay0, PyData.canLayAll0, strOk_name h.1, ok_tell], by simp [Ent.ds, PyData.depth, PyData.depthAll]⟩
  | clear n lo hi => exact ⟨by simp [Ent.ds, PyData.canLay0, PyData.canLayAll0, strOk_name h.1, ok_clear], by simp [Ent.ds, PyData.depth, PyData.depthAll]⟩
  | like n lo hi o => exact ⟨by simp [Ent.ds, PyData.canLay0, PyData.canLayAll0, strOk_name h.1, strOk_name h.2.2.2.2, ok_like], by simp [Ent.ds, PyData.depth, PyData.depthAll]⟩
  | undo j => exact ⟨by simp [Ent.ds, PyData.canLay0, PyData.canLayAll0, ok_undo], by simp [Ent.ds, PyData.depth, PyData.depthAll]⟩
theorem shaped_by {d : PyData} (h : d.canLay0 = true ∧ d.depth ≤ 64) : SeqAt.shaped d = true := by
  show (d.canLay0 && decide (d.depth ≤ 64)) = true
  rw [h.1, decide_eq_true h.2]
  rfl
def Bk.dat (B : Bk) : List (Key × PyData) := B.map fun p => ((Sum.inl p.1 : Key), PyData.tuple p.2.ds)
theorem BkRel.dk {K : PySem.W.Frag} {H : Hp} : ∀ {kvs : List (Key × V)} {B : Bk}, BkRel H kvs B → DkIs K H kvs B.dat
  | _, _, .nil => .nil
  | _, _, .cons h t => .cons ⟨h.1, by obtain ⟨a, e1, e2⟩ := h.2; rw [e1]; exact Ent.dp e2⟩ (BkRel.dk t)
theorem valP_dat {k : Int} : ∀ {B : Bk}, valP B.dat (Sum.inl k : Key) = (Bk.at B k).map fun e => PyData.tuple e.ds
  | [] => rfl
  | p :: B => by
    by_cases h : p.1 = k
    · rw [Bk.at_cons_pos h]
      simp [valP, Bk.dat, List.find?_cons, h]
    · rw [Bk.at_cons_neg h, ← valP_dat]
      simp [valP, Bk.dat, List.find?_cons, h]
theorem Bk.at_of {B : Bk} (hn : (B.map (·.1)).Nodup) {k : Int} {e : Ent} (h : (k, e) ∈ B) : Bk.at B k = some e := by
  induction B with
  | nil => cases h
  | cons p B ih =>
    rw [List.map_cons, List.nodup_cons] at hn
    rcases List.mem_cons.mp h with h1 | h1
    · rw [← h1]; exact Bk.at_cons_pos rfl
    · have : ¬ p.1 = k := fun z => hn.1 (by rw [z]; exact List.mem_map_of_mem (f := (·.1)) h1)
      rw [Bk.at_cons_neg this]
      exact ih hn.2 h1
theorem dkEqv_same {B C : Bk} (hl : B.length = C.length) (h : ∀ p ∈ B, Bk.at C p.1 = some p.2) (ho : ∀ p ∈ B, p.2.ok p.1) : dkEqv B.dat C.dat = true := by
  unfold dkEqv
  rw [Bool.and_eq_true, List.all_eq_true]
  refine ⟨by simp [Bk.dat, hl], fun q hq => ?_⟩
  obtain ⟨p, hp, rfl⟩ := List.mem_map.mp hq
  unfold hitP
  rw [valP_dat, h p hp]
  exact SeqAt.eqv_refl _ (Ent.lay (ho p hp)).1
section
variable {K : PySem.W.Frag} {σ : L2.St} {H : Hp} {ta tb tc te : TE} {D : Ends} {tu tz : TS}
theorem ok_dat {B : Bk} (ho : ∀ p ∈ B, p.2.ok p.1) : ∀ q ∈ B.dat, SeqAt.shaped q.2 = true := fun q hq => by
  obtain ⟨p, hp, rfl⟩ := List.mem_map.mp hq
  exact shaped_by (Ent.lay (ho p hp))
theorem ev_eqBk {a b : Addr} {B C : Bk} (ha : Ev ta σ H (.ref a)) (hb : Ev tb σ H (.ref b)) (hA : BookAt H a B) (hB : BookAt H b C) (oB : ∀ p ∈ B, p.2.ok p.1) (oC : ∀ p ∈ C, p.2.ok p.1) : Ev (tOp (eqA K) ta tb) σ H (.bl (dkEqv B.dat C.dat)) :=
  ev_op ha hb fun H1 e Q q => by
    obtain ⟨ks, h1, h2⟩ := (hA.mono e).ex
    obtain ⟨ls, g1, g2⟩ := (hB.mono e).ex
    exact .inr (.inr ⟨a, b, ks, ls, _, _, rfl, rfl, h1, g1, h2.dk, g2.dk, ok_dat oB, ok_dat oC, q H1 (Ex.refl H1)⟩)
theorem ev_neBk {a b : Addr} {B C : Bk} (ha : Ev ta σ H (.ref a)) (hb : Ev tb σ H (.ref b)) (hA : BookAt H a B) (hB : BookAt H b C) (oB : ∀ p ∈ B, p.2.ok p.1) (oC : ∀ p ∈ C, p.2.ok p.1) : Ev (tOp (neA K) ta tb) σ H (.bl (!dkEqv B.dat C.dat)) :=
  ev_op ha hb fun H1 e Q q => by
    obtain ⟨ks, h1, h2⟩ := (hA.mono e).ex
    obtain ⟨ls, g1, g2⟩ := (hB.mono e).ex
    exact .inr (.inr ⟨a, b, ks, ls, _, _, rfl, rfl, h1, g1, h2.dk, g2.dk, ok_dat oB, ok_dat oC, q H1 (Ex.refl H1)⟩)
theorem dkEqv_self {B : Bk} (hn : (B.map (·.1)).Nodup) (ho : ∀ p ∈ B, p.2.ok p.1) : dkEqv B.dat B.dat = true := dkEqv_same rfl (fun p hp => Bk.at_of hn hp) ho
/-- dict(book) -/
theorem ed_book {a : Addr} {B : Bk} (ha : Ev ta σ H (.ref a)) (h : BookAt H a B) : ∀ H1, Ex H H1 → ∀ Q : VK, (∀ p H2, NewBk H1 H2 p B → Q (.ref p) H2) → (tCB (dictC K) (tCons ta tNil)) σ H1 Q := fun H1 e Q q => by
  obtain ⟨ks, h1, h2⟩ := h.ex
  refine ed_copy ha h1 H1 e Q fun p H2 hp e2 hp2 => q p H2 ⟨hp, e2, ⟨ks, hp2, h2.mono (e.trans e2)⟩, h.nd, h.few⟩
/-! ### data alike -/
theorem ev_eqD {x y : V} {d e : PyData} (ha : Ev ta σ H x) (hb : Ev tb σ H y) (hd : Dp K H x d) (he : Dp K H y e) (sd : SeqAt.shaped d = true) (se : SeqAt.shaped e = true) : Ev (tOp (eqA K) ta tb) σ H (.bl (PyData.eqv d e)) :=
  ev_op ha hb fun H1 e1 Q q => .inr (.inl ⟨d, e, Dp.mono e1 hd, Dp.mono e1 he, sd, se, q H1 (Ex.refl H1)⟩)
theorem ev_neD {x y : V} {d e : PyData} (ha : Ev ta σ H x) (hb : Ev tb σ H y) (hd : Dp K H x d) (he : Dp K H y e) (sd : SeqAt.shaped d = true) (se : SeqAt.shaped e = true) : Ev (tOp (neA K) ta tb) σ H (.bl (!PyData.eqv d e)) :=
  ev_op ha hb fun H1 e1 Q q => .inr (.inl ⟨d, e, Dp.mono e1 hd, Dp.mono e1 he, sd, se, q H1 (Ex.refl H1)⟩)
/-! ### values that are told only by what holds of them -/
def EvX (te : TE) (σ : L2.St) (H : Hp) (P : Hp → V → Prop) : Prop := ∀ H1, Ex H H1 → ∀ Q : VK, (∀ v H2, Ex H1 H2 → P H2 v → Q v H2) → te σ H1 Q
theorem ex_ev {v : V} {P : Hp → V → Prop} (h : Ev te σ H v) (hp : ∀ H1, Ex H H1 → P H1 v) : EvX te σ H P := fun H1 e Q q => h H1 e Q fun H2 e2 => q v H2 e2 (hp H2 (e.trans e2))
theorem ex_evU {xs : List V} {P : Hp → V → Prop} (h : EvU te σ H xs) (hp : ∀ p H1, Ex H H1 → H1 p = some (.tup xs) → P H1 (.ref p)) : EvX te σ H P := fun H1 e Q q => h H1 e Q fun p H2 _ e2 h2 => q _ H2 e2 (hp p H2 (e.trans e2) h2)
theorem ex_evL {xs : List V} {P : Hp → V → Prop} (h : EvL te σ H xs) (hp : ∀ p H1, Ex H H1 → H1 p = some (.lst xs) → P H1 (.ref p)) : EvX te σ H P := fun H1 e Q q => h H1 e Q fun p H2 _ e2 h2 => q _ H2 e2 (hp p H2 (e.trans e2) h2)
theorem EvX.imp {P R : Hp → V → Prop} (h : EvX te σ H P) (hp : ∀ v H1, Ex H H1 → P H1 v → R H1 v) : EvX te σ H R := fun H1 e Q q => h H1 e Q fun v H2 e2 p => q v H2 e2 (hp v H2 (e.trans e2) p)
/-- what holds of a value and what it stands for, and goes on to hold -/
def Mo {α : Type} (F : Hp → V → α → Prop) : Prop := ∀ {H H' : Hp} {v : V} {y : α}, Ex H H' → F H v y → F H' v y
theorem Mo.all {α : Type} {F : Hp → V → α → Prop} (m : Mo F) {H H' : Hp} (e : Ex H H') {vs : List V} {ys : List α} (h : Paired (F H) vs ys) : Paired (F H') vs ys := Paired.imp (fun _ _ => m e) h
/-- a new list of such -/
def EvP {α : Type} (te : TE) (σ : L2.St) (H : Hp) (F : Hp → V → α → Prop) (ys : List α) : Prop :=
  ∀ H1, Ex H H1 → ∀ Q : VK, (∀ p xs H2, H1 p = none → Ex H1 H2 → H2 p = some (.lst xs) → Paired (F H2) xs ys → Q (.ref p) H2) → te σ H1 Q
def EvAP {α : Type} (ta : TA) (σ : L2.St) (H : Hp) (F : Hp → V → α → Prop) (ys : List α) : Prop :=
  ∀ H1, Ex H H1 → ∀ Q : List V → Hp → Prop, (∀ xs H2, Ex H1 H2 → Paired (F H2) xs ys → Q xs H2) → ta σ H1 Q
variable {α β : Type} {F : Hp → V → α → Prop} {G : Hp → V → β → Prop}
theorem eap_nil : EvAP tNil σ H F [] := fun H1 e Q q => q [] H1 (Ex.refl H1) .nil
theorem eap_cons {ta' : TA} {y : α} {ys : List α} (m : Mo F) (h : EvX te σ H fun H v => F H v y) (ht : EvAP ta' σ H F ys) : EvAP (tCons te ta') σ H F (y :: ys) := fun H1 e Q q =>
  h H1 e _ fun v H2 e2 p => ht H2 (e.trans e2) _ fun xs H3 e3 ps => q (v :: xs) H3 (e2.trans e3) (.cons (m e3 p) ps)
theorem ep_lst {ta' : TA} {ys : List α} (m : Mo F) (h : EvAP ta' σ H F ys) (hz : ys.length ≤ 100000) : EvP (tLst ta') σ H F ys := fun H1 e Q q =>
  h H1 e _ fun xs H2 e2 ps => ⟨by have := Paired.length ps; exact sz_of (by omega), fun p hp => q p xs _ (fresh_back e2 hp) (e2.trans (Ex.new hp)) upd_same (m.all (Ex.new hp) ps)⟩
theorem ep_cat {ys zs : List α} (m : Mo F) (ha : EvP ta σ H F ys) (hb : EvP tb σ H F zs) (hz : ys.length + zs.length ≤ 100000) : EvP (tOp (addA K) ta tb) σ H F (ys ++ zs) := fun H1 e Q q =>
  ha H1 e _ fun p xs H2 hp e2 h2 p1 => hb H2 (e.trans e2) _ fun r us H3 hr e3 h3 p2 =>
    .inr (.inr (.inl ⟨p, r, xs, us, rfl, rfl, e3 p _ h2, h3, by have := Paired.length p1; have := Paired.length p2; exact sz_of (by omega), fun l hl => q l _ _ (fresh_back (e2.trans e3) hl) ((e2.trans e3).trans (Ex.new hl)) upd_same
      (Paired.app (m.all (e3.trans (Ex.new hl)) p1) (m.all (Ex.new hl) p2))⟩))
theorem ep_catV {p : Addr} {xs : List V} {ys zs : List α} (m : Mo F) (ha : Ev ta σ H (.ref p)) (h : H p = some (.lst xs)) (hp : Paired (F H) xs ys) (hb : EvP tb σ H F zs) (hz : ys.length + zs.length ≤ 100000) : EvP (tOp (addA K) ta tb) σ H F (ys ++ zs) := fun H1 e Q q =>
  ha H1 e _ fun H2 e2 => hb H2 (e.trans e2) _ fun r us H3 hr e3 h3 p2 =>
    .inr (.inr (.inl ⟨p, r, xs, us, rfl, rfl, ((e.trans e2).trans e3) p _ h, h3, by have := Paired.length hp; have := Paired.length p2; exact sz_of (by omega), fun l hl => q l _ _ (fresh_back (e2.trans e3) hl) ((e2.trans e3).trans (Ex.new hl)) upd_same
      (Paired.app (m.all (((e.trans e2).trans e3).trans (Ex.new hl)) hp) (m.all (Ex.new hl) p2))⟩))
theorem ep_ofL {ys : List α} (f : α → V) (h : EvL te σ H (ys.map f)) : EvP te σ H (fun _ v y => v = f y) ys := fun H1 e Q q => h H1 e Q fun p H2 hp e2 h2 => q p _ H2 hp e2 h2 (paired_map f ys)
/-! ### comprehensions over what is told so -/
theorem filter_take_yes {f : β → Bool} {v : β → α} {zs : List β} {i : Nat} {z : β} (h : zs[i]? = some z) (hf : f z = true) : ((zs.take (i + 1)).filter f).map v = ((zs.take i).filter f).map v ++ [v z] := by
  rw [take_snoc h, List.filter_append, List.map_append, List.filter_cons, if_pos hf]
  rfl
theorem filter_take_no {f : β → Bool} {v : β → α} {zs : List β} {i : Nat} {z : β} (h : zs[i]? = some z) (hf : f z = false) : ((zs.take (i + 1)).filter f).map v = ((zs.take i).filter f).map v := by
  rw [take_snoc h, List.filter_append, List.map_append, List.filter_cons, if_neg (by rw [hf]; decide)]
  simp
theorem filter_take_len {f : β → Bool} {v : β → α} {zs : List β} {i : Nat} : (((zs.take i).filter f).map v).length ≤ i := by
  rw [List.length_map]
  have h := List.length_filter_le f (zs.take i)
  rw [List.length_take] at h
  omega
def Cp (H : Hp) (F : Hp → V → α → Prop) (Dl : Addr) (ys : List α) (H' : Hp) : Prop := H Dl = none ∧ Ex H H' ∧ ∃ acc, H' Dl = some (.lst acc) ∧ Paired (F H') acc ys
/-- tuples stay -/
def ExT (H H' : Hp) : Prop := ∀ p xs, H p = some (.tup xs) → H' p = some (.tup xs)
theorem ext_of {H H' : Hp} (e : Ex H H') : ExT H H' := fun p xs h => e p _ h
theorem ExT.refl (H : Hp) : ExT H H := fun _ _ h => h
theorem ExT.trans {H1 H2 H3 : Hp} (a : ExT H1 H2) (b : ExT H2 H3) : ExT H1 H3 := fun p xs h => b p xs (a p xs h)
theorem ExT.put {H : Hp} {l : Addr} {o o' : HO} (h : H l = some o) (ho : ∀ xs, o ≠ .tup xs) : ExT H (upd H l o') := fun p xs hp => by
  by_cases e : p = l
  · subst e
    rw [h] at hp
    exact absurd (Option.some.inj hp) (ho xs)
  · rw [upd_ne e]
    exact hp
theorem ExT.app {H : Hp} {l : Addr} {xs ys : List V} (h : H l = some (.lst xs)) : ExT H (upd H l (.lst ys)) := ExT.put h fun _ z => by cases z
def MoT {α : Type} (F : Hp → V → α → Prop) : Prop := ∀ {H H' : Hp} {v : V} {y : α}, ExT H H' → F H v y → F H' v y
theorem MoT.mo {F : Hp → V → α → Prop} (m : MoT F) : Mo F := fun e h => m (ext_of e) h
theorem MoT.all {F : Hp → V → α → Prop} (m : MoT F) {H H' : Hp} (e : ExT H H') {vs : List V} {ys : List α} (h : Paired (F H) vs ys) : Paired (F H') vs ys := Paired.imp (fun _ _ => m e) h
/-- a tuple whose parts are told by what it stands for -/
def TupR {α : Type} (f : α → List V) : Hp → V → α → Prop := fun H v y => ∃ p, v = .ref p ∧ H p = some (.tup (f y))
theorem TupR.mo {f : α → List V} : MoT (TupR f) := fun e ⟨p, h1, h2⟩ => ⟨p, h1, e p _ h2⟩
def ValR {α : Type} (f : α → V) : Hp → V → α → Prop := fun _ v y => v = f y
theorem ValR.mo {f : α → V} : MoT (ValR f) := fun _ h => h
theorem cp_turn {H H' : Hp} {σ2 : L2.St} {tt : TT} {f : β → Bool} {v : β → α} {zs : List β} {Dl : Addr} {i : Nat} {z : β}
    (m : MoT F) (hz : zs[i]? = some z) (hi : i < 50000) (p : Cp H F Dl (((zs.take i).filter f).map v) H') (ht : EvT tt σ2 H (f z)) (he : f z = true → EvX te σ2 H fun H w => F H w (v z)) :
    tt σ2 H' fun b H3 => if b = true then te σ2 H3 fun y H4 => ∃ acc, H4 Dl = some (.lst acc) ∧ acc.length < sizeLine ∧ Cp H F Dl (((zs.take (i + 1)).filter f).map v) (upd H4 Dl (.lst (acc ++ [y]))) else Cp H F Dl (((zs.take (i + 1)).filter f).map v) H3 := by
  obtain ⟨p1, p2, acc, p3, p4⟩ := p
  refine ht H' p2 _ fun H3 e3 => ?_
  cases hf : f z with
  | true =>
    show te σ2 H3 _
    refine he hf H3 (p2.trans e3) _ fun w H4 e4 hw => ⟨acc, e4 Dl _ (e3 Dl _ p3), sz_lt ?_, p1, Ex.mut ((p2.trans e3).trans e4) p1, _, upd_same, ?_⟩
    · have h1 := Paired.length p4
      have h2 := filter_take_len (f := f) (v := v) (zs := zs) (i := i)
      omega
    · rw [filter_take_yes hz hf]
      have stay : ∀ {v : V} {y : α}, F H4 v y → F (upd H4 Dl (.lst (acc ++ [w]))) v y := fun h => m (ExT.app (e4 Dl _ (e3 Dl _ p3))) h
      exact Paired.app (Paired.imp (fun _ _ h => stay (m (ext_of (e3.trans e4)) h)) p4) (.cons (stay hw) .nil)
  | false =>
    show Cp H F Dl _ H3
    rw [filter_take_no hz hf]
    exact ⟨p1, p2.trans e3, acc, e3 Dl _ p3, m.all (ext_of e3) p4⟩
theorem ep_lcL {a : Addr} {xs : List V} {zs : List β} {tl : TE} {j : Nat} {vs : List Nat} {t : TT} (f : β → Bool) (v : β → α) (m : MoT F) (mG : Mo G) (h : Ev tl σ H (.ref a)) (hx : SqL K H a xs) (hp : Paired (G H) xs zs) (hz : zs.length ≤ 40000) (hw : ∀ x, wipe ((wipe σ vs).set j (some x)) vs = wipe σ vs)
    (ht : ∀ x z H1, Ex H H1 → z ∈ zs → G H1 x z → EvT t ((wipe σ vs).set j (some x)) H1 (f z)) (he : ∀ x z H1, Ex H H1 → z ∈ zs → G H1 x z → f z = true → EvX te ((wipe σ vs).set j (some x)) H1 fun H w => F H w (v z)) :
    EvP (tLc (iList K tl) (gName j) t te vs) σ H F ((zs.filter f).map v) := fun H0 e Q q => h H0 e _ fun H1 e1 => ⟨a, rfl, ⟨xs, ex_l (e.trans e1) hx⟩, fun Dl hD =>
  lc_list (xs := xs) (fun i => Cp H1 F Dl (((zs.take i).filter f).map v)) ⟨hD, Ex.new hD, [], upd_same, .nil⟩ (fun i H' _ p => ex_l ((e.trans e1).trans p.2.1) hx) (fun i x H' hi p => by
    obtain ⟨z, hz1, hz2⟩ := paired_get (mG.all (e.trans e1) hp) hi
    have hm := List.mem_of_getElem? hz1
    exact ⟨hw x, cp_turn m hz1 (by have := (List.getElem?_eq_some_iff.mp hz1).1; omega) p (ht x z H1 (e.trans e1) hm hz2) fun hf => he x z H1 (e.trans e1) hm hz2 hf⟩)
    (fun H' p => by
      obtain ⟨p1, p2, acc, p3, p4⟩ := p
      rw [Paired.length hp, List.take_length] at p4
      exact q Dl acc H' (fresh_back e1 p1) (e1.trans p2) p3 p4)⟩
theorem ep_lcN {zs : List β} {tl : TE} {j : Nat} {vs : List Nat} {t : TT} (f : β → Bool) (v : β → α) (m : MoT F) (mG : Mo G) (h : EvP tl σ H G zs) (hz : zs.length ≤ 40000) (hw : ∀ x, wipe ((wipe σ vs).set j (some x)) vs = wipe σ vs)
    (ht : ∀ x z H1, Ex H H1 → z ∈ zs → G H1 x z → EvT t ((wipe σ vs).set j (some x)) H1 (f z)) (he : ∀ x z H1, Ex H H1 → z ∈ zs → G H1 x z → f z = true → EvX te ((wipe σ vs).set j (some x)) H1 fun H w => F H w (v z)) :
    EvP (tLc (iList K tl) (gName j) t te vs) σ H F ((zs.filter f).map v) := fun H0 e Q q => h H0 e _ fun a xs H1 ha e1 hx hp => ⟨a, rfl, ⟨xs, sq_of hx⟩, fun Dl hD =>
  lc_list (xs := xs) (fun i => Cp H1 F Dl (((zs.take i).filter f).map v)) ⟨hD, Ex.new hD, [], upd_same, .nil⟩ (fun i H' _ p => sq_of (p.2.1 a _ hx)) (fun i x H' hi p => by
    obtain ⟨z, hz1, hz2⟩ := paired_get hp hi
    have hm := List.mem_of_getElem? hz1
    exact ⟨hw x, cp_turn m hz1 (by have := (List.getElem?_eq_some_iff.mp hz1).1; omega) p (ht x z H1 (e.trans e1) hm hz2) fun hf => he x z H1 (e.trans e1) hm hz2 hf⟩)
    (fun H' p => by
      obtain ⟨p1, p2, acc, p3, p4⟩ := p
      rw [Paired.length hp, List.take_length] at p4
      exact q Dl acc H' (fresh_back e1 p1) (e1.trans p2) p3 p4)⟩
/-- for x in such a list -/
theorem s_forP {zs : List β} {tl : TE} {g : TG} (h : EvP tl σ H G zs) (Pv : Addr → List V → Nat → L2.St → Hp → Prop) (h0 : ∀ p xs H1, H p = none → Ex H H1 → H1 p = some (.lst xs) → Paired (G H1) xs zs → Pv p xs 0 σ H1) (hl : ∀ p xs i σ' H', i ≤ xs.length → Pv p xs i σ' H' → SqL K H' p xs)
    (hs : ∀ p xs i x σ' H', xs[i]? = some x → Pv p xs i σ' H' → g x σ' H' fun σ2 H2 => tu { D with nx := Pv p xs (i + 1), ct := Pv p xs (i + 1), bk := D.nx } σ2 H2) (hd : ∀ p xs σ' H', Pv p xs xs.length σ' H' → D.nx σ' H') : tFor (iList K tl) g tu D σ H :=
  h H (Ex.refl H) _ fun p xs H1 hp e h1 hpr => ⟨p, rfl, ⟨xs, sq_of h1⟩, for_list (Pv p xs) (h0 p xs H1 hp e h1 hpr) (hl p xs) (hs p xs) (hd p xs)⟩
/-! ### new values as arguments, assignments -/
theorem s_asgP {ys : List α} {i : Nat} (h : EvP te σ H F ys) (k : ∀ p xs H1, H p = none → Ex H H1 → H1 p = some (.lst xs) → Paired (F H1) xs ys → D.nx (σ.set i (some (.ref p))) H1) : tAsg te (gName i) D σ H := h H (Ex.refl H) _ fun p xs H1 hp e h1 h2 => k p xs H1 hp e h1 h2
theorem q_asgP {ys : List α} {i : Nat} (h : EvP te σ H F ys) (k : ∀ p xs H1, H p = none → Ex H H1 → H1 p = some (.lst xs) → Paired (F H1) xs ys → tz D (σ.set i (some (.ref p))) H1) : tSeq (tAsg te (gName i)) tz D σ H := s_asgP (D := { D with nx := tz D }) h k
theorem s_retP {ys : List α} (h : EvP te σ H F ys) (k : ∀ p xs H1, H p = none → Ex H H1 → H1 p = some (.lst xs) → Paired (F H1) xs ys → D.rt (.ref p) H1) : tRet te D σ H := h H (Ex.refl H) _ k
theorem q_asgX {P : Hp → V → Prop} {i : Nat} (h : EvX te σ H P) (k : ∀ v H1, Ex H H1 → P H1 v → tz D (σ.set i (some v)) H1) : tSeq (tAsg te (gName i)) tz D σ H := h H (Ex.refl H) _ fun v H1 e p => k v H1 e p
end
end S
set_option Elab.async false
set_option linter.all false
set_option maxRecDepth 100000
set_option maxHeartbeats 4000000
section
open PySem L2 Evl S
local macro_rules | `(tactic| array_get_dec) => `(tactic| first
  | exact ev_c
  | exact ev_var rfl
  | exact S.eo_no
  | exact ea_nil
  | (apply S.eo_some <;> array_get_dec)
  | (apply ea_cons <;> array_get_dec)
  | (apply S.ev_add <;> array_get_dec)
  | (apply S.ev_sub <;> array_get_dec)
  | (apply S.ev_div <;> first | array_get_dec | exact ⟨by decide, by decide⟩ | exact ⟨by omega, by omega⟩)
  | (apply S.ev_mod <;> first | array_get_dec | decide | omega)
  | (apply S.ev_mulr <;> first | array_get_dec | exact ⟨by decide, by decide⟩ | exact ⟨by omega, by omega⟩)
  | (apply S.ev_mull <;> first | array_get_dec | exact ⟨by decide, by decide⟩ | exact ⟨by omega, by omega⟩)
  | (apply S.ev_neg <;> array_get_dec)
  | (apply S.ev_min <;> array_get_dec)
  | (apply S.ev_max <;> array_get_dec)
  | (apply S.ev_eqI <;> array_get_dec)
  | (apply S.ev_eqS <;> array_get_dec)
  | (apply S.ev_neI <;> array_get_dec)
  | (apply S.ev_neS <;> array_get_dec)
  | (apply S.ev_lt <;> array_get_dec)
  | (apply S.ev_le <;> array_get_dec)
  | (apply S.ev_gt <;> array_get_dec)
  | (apply S.ev_ge <;> array_get_dec)
  | (apply S.ev_intB <;> array_get_dec)
  | (apply et_test <;> array_get_dec)
  | (apply et_B <;> array_get_dec)
  | (apply et_not <;> array_get_dec)
  | (refine' et_and ?_ (fun _ => ?_) <;> array_get_dec)
  | (refine' et_or ?_ (fun _ => ?_) <;> array_get_dec))
namespace S
/-! ### _law_counting -/
def sp_l_counting (K : PySem.W.Frag) (C : CA) : Sp := fun vs H Q _ => ∃ (b : Addr) (B : Bk) (n : Int), vs = [.ref b, .int n] ∧ BookAt H b B ∧
  ∀ p H', H p = none → Ex H H' → H' p = some (.lst ((countF B n).map V.int)) → Q (.ref p) H'
theorem len_l_counting {K : PySem.W.Frag} {C : CA} {vs : List V} {H : Hp} {Q : VK} {E : XK} (h : sp_l_counting K C vs H Q E) : vs.length = 2 := by
  obtain ⟨b, B, n, rfl, _⟩ := h
  rfl
/-- _law_book_here 0, _law_n 1, _law_undone 2, _law_found 3, _law_number 4 -/
def t_l_counting (K : PySem.W.Frag) (C : CA) : TS :=
 (tSeq (tAsg (tLst tNil) (gName 2))
 (tSeq (tAsg (tLst tNil) (gName 3))
 (tSeq (tFor (iList K (tCKw rSortRev (tCons (tVar 0) tNil) (tCons (tC (.bl true)) tNil))) (gName 4)
  (tIfS (tAnd (tTest (tOp (leI) (tVar 4) (tVar 1))) (tTest (tOp (niA K) (tVar 4) (tVar 2)))) (tSeq (tDrop (tBM K "list" rAppend (tVar 3) (tCons (tVar 4) tNil)))
 (tIfS (tTest (tOp (eqA K) (tOp (ixA K) (tOp (ixA K) (tVar 0) (tVar 4)) (tC (.int 0))) (tC (.str "undo")))) (tDrop (tBM K "list" rAppend (tVar 2) (tCons (tOp (ixA K) (tOp (ixA K) (tVar 0) (tVar 4)) (tC (.int 1))) tNil))) tNext)) tNext))
 (tRet (tRevA K (tVar 3))))))
theorem pure_l_counting {K : PySem.W.Frag} {C : CA} {vs : List V} {H : Hp} {Q : VK} {E : XK} (h : sp_l_counting K C vs H Q E) : t_l_counting K C { nx := fun _ H' => Q .non H', rt := Q } (startN 5 vs) H := by
  obtain ⟨b, B, n, rfl, hB, kk⟩ := h
  refine q_asgL (el_lst ea_nil (by decide)) fun u H1 hu e1 h1 => ?_
  refine q_asgL (el_lst ea_nil (by decide)) fun f H2 hf e2 h2 => ?_
  have E2 : Ex H H2 := e1.trans e2
  have nf : H f = none := fresh_back e1 hf
  have nfu : f ≠ u := fun z => by rw [z, h1] at hf; cases hf
  refine q_forNLn (el_downs (ev_var rfl) (hB.mono E2)) (fun q i σ' H' => ∃ o4 found undone, σ' = [some (.ref b), some (.int n), some (.ref u), some (.ref f), o4] ∧ Ex H H' ∧ H2 q = none ∧ H' q = some (.lst ((downs (B.map (·.1))).map V.int)) ∧ H' f = some (.lst (found.map V.int)) ∧ H' u = some (.lst (undone.map V.int)) ∧
      undone.length ≤ i ∧ found.length ≤ i ∧ (found, undone) = countAll B n ((downs (B.map (·.1))).take i))
    (fun q H3 hq e3 h3 => ⟨none, [], [], rfl, E2.trans e3, hq, h3, e3 f _ h2, e3 u _ (e2 u _ h1), Nat.le_refl _, Nat.le_refl _, rfl⟩)
    (fun q i σ' H' _ ⟨_, _, _, _, _, _, hq, _⟩ => sq_of hq) ?_ ?_
  · rintro q i x σ' H' hx ⟨o4, found, undone, rfl, E3, nq, hq, h3, h4, hkl, hfl, hc⟩
    obtain ⟨k, hk1, rfl⟩ := map_get hx
    have hkB : k ∈ B.map (·.1) := (downs_perm _).mem_iff.mp (List.mem_of_getElem? hk1)
    obtain ⟨e, he⟩ := Bk.at_isSome hkB
    have hi : i < 60 := by
      have h1 := (List.getElem?_eq_some_iff.mp hk1).1
      rw [(downs_perm _).length_eq, List.length_map] at h1
      exact Nat.lt_of_lt_of_le h1 hB.few
    have hqf : q ≠ f := fun z => by rw [z] at nq; rw [h2] at nq; cases nq
    have hqu : q ≠ u := fun z => by rw [z] at nq; rw [e2 u _ h1] at nq; cases nq
    have step : countAll B n ((downs (B.map (·.1))).take (i + 1)) = countStep B n (found, undone) k := by rw [take_snoc hk1, countAll_snoc, hc]
    have tst : EvT (tAnd (tTest (tOp leI (tVar 4) (tVar 1))) (tTest (tOp (niA K) (tVar 4) (tVar 2)))) (([some (.ref b), some (.int n), some (.ref u), some (.ref f), o4] : L2.St).set 4 (some (.int k))) H' (decide (k ≤ n) && !decide (k ∈ undone)) := by
      rw [← inV_ints]
      exact et_and (et_test (ev_le (ev_var rfl) (ev_var rfl))) fun _ => et_test (ev_niL (ev_var rfl) (ev_var rfl) (sq_of h4) rfl (flat_ints _))
    refine s_when tst (fun c H4 e4 => ?_) (fun c H4 e4 => ?_)
    · rw [Bool.and_eq_true, decide_eq_true_eq, Bool.not_eq_true', decide_eq_false_iff_not] at c
      have hst : countStep B n (found, undone) k = (found ++ [k], undone ++ e.undoes) := by
        unfold countStep
        rw [if_pos c, he]
        rfl
      refine q_app (xs := found.map V.int) (e4 f _ h3) (ev_var rfl) (ev_var rfl) (by rw [List.length_map]; omega) fun H5 e5 => ?_
      have E5 : Ex H' H5 := e4.trans e5
      have h5f : (upd H5 f (.lst (found.map V.int ++ [V.int k]))) f = some (.lst ((found ++ [k]).map V.int)) := by rw [upd_same, List.map_append]; rfl
      have h5u : (upd H5 f (.lst (found.map V.int ++ [V.int k]))) u = some (.lst (undone.map V.int)) := by rw [upd_ne nfu.symm]; exact E5 u _ h4
      have h5q : (upd H5 f (.lst (found.map V.int ++ [V.int k]))) q = some (.lst ((downs (B.map (·.1))).map V.int)) := by rw [upd_ne hqf]; exact E5 q _ hq
      have E6 : Ex H (upd H5 f (.lst (found.map V.int ++ [V.int k]))) := Ex.mut (E3.trans E5) nf
      generalize upd H5 f (.lst (found.map V.int ++ [V.int k])) = H6 at h5f h5u h5q E6 ⊢
      obtain ⟨kv, t, g1, g2, g3⟩ := (hB.mono E6).get he
      refine s_when (et_test (S.ev_eqS (ev_part 0 (ev_book (ev_var rfl) (ev_var rfl) g1 g2) g3 e.vs0) ev_c)) (fun d H7 e7 => ?_) (fun d H7 e7 => ?_)
      · rw [Ent.word_undo] at d
        cases e with
        | undo j =>
          have g1' := ex_rd e7 g1
          have g3' := g3.mono e7
          refine s_app (xs := undone.map V.int) (e7 u _ h5u) (ev_var rfl) (ev_part 1 (ev_book (ev_var rfl) (ev_var rfl) g1' g2) g3' rfl) (by rw [List.length_map]; omega) fun H8 e8 => ?_
          have E8 : Ex H6 H8 := e7.trans e8
          refine ⟨_, found ++ [k], undone ++ [j], rfl, Ex.mut (E6.trans E8) hu, nq, ?_, ?_, by rw [upd_same, List.map_append]; rfl, by rw [List.length_append]; show undone.length + 1 ≤ i + 1; omega, by rw [List.length_append]; show found.length + 1 ≤ i + 1; omega, by rw [step, hst]; rfl⟩
          · rw [upd_ne hqu]; exact E8 q _ h5q
          · rw [upd_ne nfu]; exact E8 f _ h5f
        | _ => cases d
      · rw [Ent.word_undo] at d
        have hu0 : e.undoes = [] := by cases e <;> first | rfl | cases d
        refine ⟨_, found ++ [k], undone, rfl, E6.trans e7, nq, e7 q _ h5q, e7 f _ h5f, e7 u _ h5u, by omega, by rw [List.length_append]; show found.length + 1 ≤ i + 1; omega, ?_⟩
        rw [step, hst, hu0, List.append_nil]
    · have hst : countStep B n (found, undone) k = (found, undone) := by
        unfold countStep
        rw [if_neg]
        intro z
        rw [decide_eq_true z.1, decide_eq_false z.2] at c
        cases c
      exact ⟨_, found, undone, rfl, E3.trans e4, nq, e4 q _ hq, e4 f _ h3, e4 u _ h4, by omega, by omega, by rw [step, hst]⟩
  · rintro q σ' H' ⟨o4, found, undone, rfl, E3, nq, hq, h3, h4, hkl, hfl, hc⟩
    rw [List.length_map, List.take_length] at hc
    refine s_retL (el_rev (ev_var rfl) (sq_of h3)) fun p H4 hp e4 h4 => ?_
    refine kk p H4 (fresh_back E3 hp) (E3.trans e4) ?_
    rw [h4, ← List.map_reverse]
    unfold countF
    rw [← hc]
/-! ### _law_said -/
/-- the table says what worthF says -/
def SaysF (B : Bk) (n day : Int) (kvs : List (Key × V)) : Prop := ∀ name : Str, (valV kvs (Sum.inr name : Key)).getD .non = optV (worthF B n name day)
def sp_l_said (K : PySem.W.Frag) (C : CA) : Sp := fun vs H Q _ => ∃ (b : Addr) (B : Bk) (n day : Int), vs = [.ref b, .int n, .int day] ∧ BookAt H b B ∧
  ∀ p kvs H', H p = none → Ex H H' → H' p = some (.dK kvs) → SaysF B n day kvs → Q (.ref p) H'
theorem len_l_said {K : PySem.W.Frag} {C : CA} {vs : List V} {H : Hp} {Q : VK} {E : XK} (h : sp_l_said K C vs H Q E) : vs.length = 3 := by
  obtain ⟨b, B, n, day, rfl, _⟩ := h
  rfl
/-- _law_book_here 0, _law_n 1, _law_day 2, _law_table 3, _law_number 4, _law_entry_here 5 -/
def t_l_said (K : PySem.W.Frag) (C : CA) : TS :=
 (tSeq (tAsg tDNewK (gName 3))
 (tSeq (tFor (iList K (tCall (sp_l_counting K C) [] E0 (tCons (tVar 0) (tCons (tVar 1) tNil)))) (gName 4)
  (tSeq (tAsg (tOp (ixA K) (tVar 0) (tVar 4)) (gName 5))
 (tIfS (tAnd (tTest (tOp (neA K) (tOp (ixA K) (tVar 5) (tC (.int 0))) (tC (.str "undo")))) (tTest (tChain (leI) (leI) (tOp (ixA K) (tVar 5) (tC (.int 2))) (tVar 2) (tOp (ixA K) (tVar 5) (tC (.int 3)))))) (tIfS (tTest (tOp (eqA K) (tOp (ixA K) (tVar 5) (tC (.int 0))) (tC (.str "tell")))) (tAsg (tOp (ixA K) (tVar 5) (tC (.int 4))) (gSub (tVar 3) (tOp (ixA K) (tVar 5) (tC (.int 1))) setA)) (tIfS (tTest (tOp (eqA K) (tOp (ixA K) (tVar 5) (tC (.int 0))) (tC (.str "clear")))) (tAsg (tC .non) (gSub (tVar 3) (tOp (ixA K) (tVar 5) (tC (.int 1))) setA)) (tAsg (tDGet2 (tVar 3) (tOp (ixA K) (tVar 5) (tC (.int 4))) (tC .non)) (gSub (tVar 3) (tOp (ixA K) (tVar 5) (tC (.int 1))) setA)))) tNext)))
 (tRet (tVar 3))))
theorem el_lcounting {K : PySem.W.Frag} {C : CA} {σ : L2.St} {H : Hp} {ta tb : TE} {b : Addr} {B : Bk} {n : Int} (ha : Ev ta σ H (.ref b)) (hb : Ev tb σ H (.int n)) (h : BookAt H b B) : EvL (tCall (sp_l_counting K C) [] E0 (tCons ta (tCons tb tNil))) σ H ((countF B n).map V.int) :=
  el_call (ea_cons ha (ea_cons hb ea_nil)) fun H1 e1 Q q E => ⟨b, B, n, rfl, h.mono e1, q⟩
theorem valV_putD (kvs : List (Key × V)) (a b : Str) (v : V) : (valV (putK kvs (Sum.inr a : Key) v) (Sum.inr b : Key)).getD .non = if b = a then v else (valV kvs (Sum.inr b : Key)).getD .non := by
  rw [valV_put]
  by_cases h : b = a
  · rw [if_pos h, if_pos (by rw [h])]; rfl
  · rw [if_neg h, if_neg (fun z => h (Sum.inr.inj z))]
theorem pure_l_said {K : PySem.W.Frag} {C : CA} {vs : List V} {H : Hp} {Q : VK} {E : XK} (h : sp_l_said K C vs H Q E) : t_l_said K C { nx := fun _ H' => Q .non H', rt := Q } (startN 6 vs) H := by
  obtain ⟨b, B, n, day, rfl, hB, kk⟩ := h
  refine q_asgD ed_new fun u H1 hu e1 h1 => ?_
  refine q_forNLn (el_lcounting (ev_var rfl) (ev_var rfl) (hB.mono e1)) (fun q i σ' H' => ∃ o4 o5 kvs, σ' = [some (.ref b), some (.int n), some (.int day), some (.ref u), o4, o5] ∧ Ex H H' ∧ H1 q = none ∧ H' q = some (.lst ((countF B n).map V.int)) ∧ H' u = some (.dK kvs) ∧
      (∀ name : Str, (valV kvs (Sum.inr name : Key)).getD .non = optV (saidL B day ((countF B n).take i).reverse name)) ∧ kvs.length ≤ i)
    (fun q H3 hq e3 h3 => ⟨none, none, [], rfl, e1.trans e3, hq, h3, e3 u _ h1, fun name => rfl, Nat.le_refl _⟩)
    (fun q i σ' H' _ ⟨_, _, _, _, _, _, hq, _⟩ => sq_of hq) ?_ ?_
  · rintro q i x σ' H' hx ⟨o4, o5, kvs, rfl, E3, nq, hq, h4, hk, hkl⟩
    obtain ⟨k, hk1, rfl⟩ := map_get hx
    have hkB : k ∈ B.map (·.1) := (countF_mem (List.mem_of_getElem? hk1)).1
    obtain ⟨e, he⟩ := Bk.at_isSome hkB
    have hi : i < 60 := by
      have h1 := (List.getElem?_eq_some_iff.mp hk1).1
      exact Nat.lt_of_lt_of_le h1 (Nat.le_trans (countF_len B n) hB.few)
    have hqu : q ≠ u := fun z => by rw [z] at nq; rw [h1] at nq; cases nq
    have hrev : ((countF B n).take (i + 1)).reverse = k :: ((countF B n).take i).reverse := by rw [take_snoc hk1, List.reverse_append]; rfl
    rw [hrev]
    obtain ⟨kv, t, g1, g2, g3⟩ := (hB.mono E3).get he
    refine q_asg (ev_book (ev_var rfl) (ev_var rfl) g1 g2) fun H2 e2 => ?_
    have g4 := g3.mono e2
    have E2 : Ex H H2 := E3.trans e2
    have tw : ∀ w : Str, EvT (tTest (tOp (eqA K) (tOp (ixA K) (tVar 5) (tC (.int 0))) (tC (.str w)))) ((([some (.ref b), some (.int n), some (.int day), some (.ref u), o4, o5] : L2.St).set 4 (some (.int k))).set 5 (some (.ref t))) H2 (decide (e.word = w)) := fun w =>
      et_test (S.ev_eqS (ev_part 0 (ev_var rfl) g4 e.vs0) ev_c)
    have tn : EvT (tTest (tOp (neA K) (tOp (ixA K) (tVar 5) (tC (.int 0))) (tC (.str "undo")))) ((([some (.ref b), some (.int n), some (.int day), some (.ref u), o4, o5] : L2.St).set 4 (some (.int k))).set 5 (some (.ref t))) H2 (!e.isUndo) := by
      rw [← Ent.word_undo]
      exact et_test (S.ev_neS (ev_part 0 (ev_var rfl) g4 e.vs0) ev_c)
    have tell3 : ∀ (lo hi : Int), e.vs[2]? = some (.int lo) → e.vs[3]? = some (.int hi) →
        EvT (tAnd (tTest (tOp (neA K) (tOp (ixA K) (tVar 5) (tC (.int 0))) (tC (.str "undo")))) (tTest (tChain leI leI (tOp (ixA K) (tVar 5) (tC (.int 2))) (tVar 2) (tOp (ixA K) (tVar 5) (tC (.int 3))))))
          ((([some (.ref b), some (.int n), some (.int day), some (.ref u), o4, o5] : L2.St).set 4 (some (.int k))).set 5 (some (.ref t))) H2 (!e.isUndo && (decide (lo ≤ day) && decide (day ≤ hi))) := fun lo hi v2 v3 =>
      et_and tn fun _ => et_test (ev_lele (ev_part 2 (ev_var rfl) g4 v2) (ev_var rfl) (ev_part 3 (ev_var rfl) g4 v3))
    have yes : ∀ {lo hi : Int}, (true && (decide (lo ≤ day) && decide (day ≤ hi))) = true → lo ≤ day ∧ day ≤ hi := fun c => by simpa using c
    have no : ∀ {lo hi : Int}, (true && (decide (lo ≤ day) && decide (day ≤ hi))) = false → ¬ (lo ≤ day ∧ day ≤ hi) := fun c z => by
      rw [decide_eq_true z.1, decide_eq_true z.2] at c
      cases c
    -- what is behind a turn that writes v under nm
    have put : ∀ (nm : Str) (v : V) (H3 : Hp), Ex H2 H3 → (∀ name, optV (saidL B day (k :: ((countF B n).take i).reverse) name) = if name = nm then v else optV (saidL B day ((countF B n).take i).reverse name)) →
        ∃ o4 o5 kvs, ((([some (.ref b), some (.int n), some (.int day), some (.ref u), o4, o5] : L2.St).set 4 (some (.int k))).set 5 (some (.ref t))) = [some (.ref b), some (.int n), some (.int day), some (.ref u), o4, o5] ∧ Ex H (upd H3 u (.dK (putK kvs (Sum.inr nm : Key) v))) ∧ True := fun nm v H3 e3 _ => ⟨_, _, kvs, rfl, Ex.mut (E2.trans e3) hu, trivial⟩
    have fin : ∀ (nm : Str) (v : V) (H3 : Hp), Ex H2 H3 → (∀ name, optV (saidL B day (k :: ((countF B n).take i).reverse) name) = if name = nm then v else optV (saidL B day ((countF B n).take i).reverse name)) →
        ∃ o4' o5' kvs', ((([some (.ref b), some (.int n), some (.int day), some (.ref u), o4, o5] : L2.St).set 4 (some (.int k))).set 5 (some (.ref t))) = [some (.ref b), some (.int n), some (.int day), some (.ref u), o4', o5'] ∧ Ex H (upd H3 u (.dK (putK kvs (Sum.inr nm : Key) v))) ∧ H1 q = none ∧
          (upd H3 u (.dK (putK kvs (Sum.inr nm : Key) v))) q = some (.lst ((countF B n).map V.int)) ∧ (upd H3 u (.dK (putK kvs (Sum.inr nm : Key) v))) u = some (.dK kvs') ∧
          (∀ name : Str, (valV kvs' (Sum.inr name : Key)).getD .non = optV (saidL B day (k :: ((countF B n).take i).reverse) name)) ∧ kvs'.length ≤ i + 1 := fun nm v H3 e3 hh =>
      ⟨_, _, putK kvs (Sum.inr nm : Key) v, rfl, Ex.mut (E2.trans e3) hu, nq, by rw [upd_ne hqu]; exact e3 q _ (e2 q _ hq), upd_same, fun name => by rw [valV_putD, hh, hk], by have := length_putK kvs (Sum.inr nm : Key) v; omega⟩
    have skip : ∀ H3, Ex H2 H3 → (∀ name, saidL B day (k :: ((countF B n).take i).reverse) name = saidL B day ((countF B n).take i).reverse name) →
        ∃ o4' o5' kvs', ((([some (.ref b), some (.int n), some (.int day), some (.ref u), o4, o5] : L2.St).set 4 (some (.int k))).set 5 (some (.ref t))) = [some (.ref b), some (.int n), some (.int day), some (.ref u), o4', o5'] ∧ Ex H H3 ∧ H1 q = none ∧
          H3 q = some (.lst ((countF B n).map V.int)) ∧ H3 u = some (.dK kvs') ∧
          (∀ name : Str, (valV kvs' (Sum.inr name : Key)).getD .non = optV (saidL B day (k :: ((countF B n).take i).reverse) name)) ∧ kvs'.length ≤ i + 1 := fun H3 e3 hh =>
      ⟨_, _, kvs, rfl, E2.trans e3, nq, e3 q _ (e2 q _ hq), e3 u _ (e2 u _ h4), fun name => by rw [hh, hk], by omega⟩
    clear put
    have hu2 := e2 u _ h4
    have hkz : kvs.length < 100000 := by omega
    cases e with
    | undo j =>
      refine s_when (et_and (b := false) tn fun c => by cases c) (fun c => by cases c) fun _ H3 e3 => ?_
      exact skip H3 e3 fun name => by rw [saidL, he]
    | tell nm lo hi w =>
      refine s_when (tell3 lo hi rfl rfl) (fun c H3 e3 => ?_) (fun c H3 e3 => ?_)
      · refine s_if ((tw "tell").mono e3) (fun _ H4 e4 => ?_) (fun d => absurd d (by simp [Ent.word]))
        refine s_put (k := (Sum.inr nm : Key)) (ev_part 4 (ev_var rfl) (g4.mono (e3.trans e4)) rfl) (ev_var rfl) (ev_part 1 (ev_var rfl) (g4.mono (e3.trans e4)) rfl) ((e3.trans e4) u _ hu2) hkz fun H5 e5 => ?_
        refine fin nm (.int w) H5 ((e3.trans e4).trans e5) fun name => ?_
        rw [saidL, he]
        dsimp only
        by_cases z : name = nm
        · rw [if_pos z, if_pos ⟨z.symm, yes c⟩]; rfl
        · rw [if_neg z, if_neg fun y => z y.1.symm]
      · exact skip H3 e3 fun name => by rw [saidL, he]; exact if_neg fun z => no c z.2
    | clear nm lo hi =>
      refine s_when (tell3 lo hi rfl rfl) (fun c H3 e3 => ?_) (fun c H3 e3 => ?_)
      · refine s_if ((tw "tell").mono e3) (fun d => absurd (of_decide_eq_true d) w_ct) (fun _ H4 e4 => ?_)
        refine s_if ((tw "clear").mono (e3.trans e4)) (fun _ H5 e5 => ?_) (fun d => absurd d (by simp [Ent.word]))
        refine s_put (k := (Sum.inr nm : Key)) ev_c (ev_var rfl) (ev_part 1 (ev_var rfl) (g4.mono ((e3.trans e4).trans e5)) rfl) (((e3.trans e4).trans e5) u _ hu2) hkz fun H6 e6 => ?_
        refine fin nm .non H6 (((e3.trans e4).trans e5).trans e6) fun name => ?_
        rw [saidL, he]
        dsimp only
        by_cases z : name = nm
        · rw [if_pos z, if_pos ⟨z.symm, yes c⟩]; rfl
        · rw [if_neg z, if_neg fun y => z y.1.symm]
      · exact skip H3 e3 fun name => by rw [saidL, he]; exact if_neg fun z => no c z.2
    | like nm lo hi o =>
      refine s_when (tell3 lo hi rfl rfl) (fun c H3 e3 => ?_) (fun c H3 e3 => ?_)
      · refine s_if ((tw "tell").mono e3) (fun d => absurd (of_decide_eq_true d) w_lt) (fun _ H4 e4 => ?_)
        refine s_if ((tw "clear").mono (e3.trans e4)) (fun d => absurd (of_decide_eq_true d) w_lc) (fun _ H5 e5 => ?_)
        have E5 : Ex H2 H5 := (e3.trans e4).trans e5
        refine s_put (k := (Sum.inr nm : Key)) (ev_get2 (k := (Sum.inr o : Key)) (ev_var rfl) (ev_part 4 (ev_var rfl) (g4.mono E5) rfl) ev_c (.inl (E5 u _ hu2))) (ev_var rfl) (ev_part 1 (ev_var rfl) (g4.mono E5) rfl) (E5 u _ hu2) hkz fun H6 e6 => ?_
        refine fin nm _ H6 (E5.trans e6) fun name => ?_
        rw [hk, saidL, he]
        dsimp only
        by_cases z : name = nm
        · rw [if_pos z, if_pos ⟨z.symm, yes c⟩]
        · rw [if_neg z, if_neg fun y => z y.1.symm]
      · exact skip H3 e3 fun name => by rw [saidL, he]; exact if_neg fun z => no c z.2
  · rintro q σ' H' ⟨o4, o5, kvs, rfl, E3, nq, hq, h4, hk, hkl⟩
    rw [List.length_map, List.take_length] at hk
    refine s_ret (ev_var rfl) fun H4 e4 => ?_
    exact kk u kvs H4 hu (E3.trans e4) (e4 u _ h4) fun name => hk name
section
variable {K : PySem.W.Frag} {C : CA} {σ : L2.St} {H : Hp} {ta tb tc td : TE} {b : Addr} {B : Bk} {n : Int}
/-- _law_said(..).get(name, None) -/
theorem ev_lsaid {name : Str} {day : Int} (ha : Ev ta σ H (.ref b)) (hb : Ev tb σ H (.int n)) (hd : Ev td σ H (.int day)) (hc : Ev tc σ H (.str name)) (h : BookAt H b B) :
    Ev (tDGet2 (tCall (sp_l_said K C) [] E0 (tCons ta (tCons tb (tCons td tNil)))) tc (tC .non)) σ H (optV (worthF B n name day)) := fun H1 e Q q =>
by
  unfold tDGet2 tCall
  refine ea_cons ha (ea_cons hb (ea_cons hd ea_nil)) H1 e _ fun H2 e2 => ⟨b, B, n, day, rfl, h.mono (e.trans e2), fun p kvs H3 hp e3 h3 hs => ?_⟩
  refine ⟨p, rfl, .inl ⟨kvs, .inl h3⟩, hc H3 ((e.trans e2).trans e3) _ fun H4 e4 => ?_⟩
  refine ⟨_, dget_mono (k := (Sum.inr name : Key)) e4 (.inl h3), ?_⟩
  rw [hs]
  exact q H4 ((e2.trans e3).trans e4)
end
theorem scal_opt (a b : Option Int) : scal (optV a) (optV b) = true := by cases a <;> cases b <;> rfl
theorem optV_inj {a b : Option Int} : (optV a = optV b) ↔ a = b := by
  constructor
  · intro h
    cases a <;> cases b <;> first | rfl | (cases h; done) | (cases h; rfl)
  · rintro rfl; rfl
/-! ### _law_right -/
def sp_l_right (K : PySem.W.Frag) (C : CA) : Sp := fun vs H Q _ => ∃ (b : Addr) (B : Bk) (n : Int) (name : Str) (day : Int), vs = [.ref b, .int n, .str name, .int day] ∧ BookAt H b B ∧
  ∀ H', Ex H H' → Q (.bl true) H'
theorem len_l_right {K : PySem.W.Frag} {C : CA} {vs : List V} {H : Hp} {Q : VK} {E : XK} (h : sp_l_right K C vs H Q E) : vs.length = 4 := by
  obtain ⟨b, B, n, name, day, rfl, _⟩ := h
  rfl
/-- _law_book_here 0, _law_n 1, _law_name 2, _law_day 3, _law_found 4 -/
def t_l_right (K : PySem.W.Frag) (C : CA) : TS :=
 (tSeq (tAsg (tCall (sp_worth_of K C) [] E0 (tCons (tVar 0) (tCons (tVar 1) (tCons (tVar 2) (tCons (tVar 3) tNil))))) (gName 4))
 (tSeq (tIfS (tOr (tB (tCB (rIsi K) (tCons (tVar 4) (tCons (tC (.ty "bool")) tNil)))) (tAnd (tTest (tOp (ntN) (tVar 4) (tC .non))) (tNot (tB (tCB (rIsi K) (tCons (tVar 4) (tCons (tC (.ty "int")) tNil))))))) (tRet (tC (.bl false))) tNext)
 (tRet (tOp (eqA K) (tVar 4) (tDGet2 (tCall (sp_l_said K C) [] E0 (tCons (tVar 0) (tCons (tVar 1) (tCons (tVar 3) tNil)))) (tVar 2) (tC .non))))))
theorem pure_l_right {K : PySem.W.Frag} {C : CA} {vs : List V} {H : Hp} {Q : VK} {E : XK} (h : sp_l_right K C vs H Q E) : t_l_right K C { nx := fun _ H' => Q .non H', rt := Q } (startN 5 vs) H := by
  obtain ⟨b, B, n, name, day, rfl, hB, kk⟩ := h
  refine q_asg (ev_worth (ev_var rfl) (ev_var rfl) (ev_var rfl) (ev_var rfl) hB) fun H1 e1 => ?_
  refine q_when (b := false) ?_ (fun c => by cases c) fun _ H2 e2 => ?_
  · cases worthF B n name day with
    | none =>
      have h1 := ev_isi (K := K) (T := "bool") (t := "NoneType") (k := false) (H := H1) (ta := tVar 4) (σ := (startN 5 [V.ref b, V.int n, V.str name, V.int day]).set 4 (some (optV none))) (ev_var rfl) (fun H1 _ => .base .non) (by decide +kernel)
      have h2 := et_test (ev_ntN (H := H1) (ta := tVar 4) (σ := (startN 5 [V.ref b, V.int n, V.str name, V.int day]).set 4 (some (optV none))) (x := .non) (ev_var rfl))
      exact et_or (a := false) (b := false) (et_B h1) fun _ => et_and (a := false) (b := true) h2 fun c => by cases c
    | some i =>
      have h1 := ev_isi (K := K) (T := "bool") (t := "int") (k := false) (H := H1) (ta := tVar 4) (σ := (startN 5 [V.ref b, V.int n, V.str name, V.int day]).set 4 (some (optV (some i)))) (ev_var rfl) (fun H1 _ => .base (.int _)) (by decide +kernel)
      have h2 := et_test (ev_ntN (H := H1) (ta := tVar 4) (σ := (startN 5 [V.ref b, V.int n, V.str name, V.int day]).set 4 (some (optV (some i)))) (x := .int i) (ev_var rfl))
      have h3 := ev_isi (K := K) (T := "int") (t := "int") (k := true) (H := H1) (ta := tVar 4) (σ := (startN 5 [V.ref b, V.int n, V.str name, V.int day]).set 4 (some (optV (some i)))) (ev_var rfl) (fun H1 _ => .base (.int _)) (by decide +kernel)
      exact et_or (a := false) (b := false) (et_B h1) fun _ => et_and (a := true) (b := false) h2 fun _ => et_not (et_B h3)
  · refine s_ret (ev_eq (ev_var rfl) (ev_lsaid (ev_var rfl) (ev_var rfl) (ev_var rfl) (ev_var rfl) (hB.mono (e1.trans e2))) (scal_opt _ _)) fun H3 e3 => ?_
    rw [decide_eq_true rfl]
    exact kk H3 ((e1.trans e2).trans e3)
end S
end
set_option Elab.async false
set_option linter.all false
set_option maxRecDepth 100000
set_option maxHeartbeats 4000000
section
open PySem L2 Evl S
local macro_rules | `(tactic| array_get_dec) => `(tactic| first
  | exact ev_c
  | exact ev_var rfl
  | exact S.eo_no
  | exact ea_nil
  | (apply S.eo_some <;> array_get_dec)
  | (apply ea_cons <;> array_get_dec)
  | (apply S.ev_add <;> array_get_dec)
  | (apply S.ev_sub <;> array_get_dec)
  | (apply S.ev_div <;> first | array_get_dec | exact ⟨by decide, by decide⟩ | exact ⟨by omega, by omega⟩)
  | (apply S.ev_mod <;> first | array_get_dec | decide | omega)
  | (apply S.ev_mulr <;> first | array_get_dec | exact ⟨by decide, by decide⟩ | exact ⟨by omega, by omega⟩)
  | (apply S.ev_mull <;> first | array_get_dec | exact ⟨by decide, by decide⟩ | exact ⟨by omega, by omega⟩)
  | (apply S.ev_neg <;> array_get_dec)
  | (apply S.ev_min <;> array_get_dec)
  | (apply S.ev_max <;> array_get_dec)
  | (apply S.ev_eqI <;> array_get_dec)
  | (apply S.ev_eqS <;> array_get_dec)
  | (apply S.ev_neI <;> array_get_dec)
  | (apply S.ev_neS <;> array_get_dec)
  | (apply S.ev_lt <;> array_get_dec)
  | (apply S.ev_le <;> array_get_dec)
  | (apply S.ev_gt <;> array_get_dec)
  | (apply S.ev_ge <;> array_get_dec)
  | (apply S.ev_intB <;> array_get_dec)
  | (apply et_test <;> array_get_dec)
  | (apply et_B <;> array_get_dec)
  | (apply et_not <;> array_get_dec)
  | (refine' et_and ?_ (fun _ => ?_) <;> array_get_dec)
  | (refine' et_or ?_ (fun _ => ?_) <;> array_get_dec))
namespace S
/-! ### how a law begins -/
section
variable {K : PySem.W.Frag} {C : CA} {σ : L2.St} {H : Hp} {ta tb tc td : TE} {b : Addr} {B : Bk} {n : Int} {D : Ends} {tu tz : TS}
theorem NewBk.back {H H1 H' : Hp} {p : Addr} (e : Ex H H1) (h : NewBk H1 H' p B) : NewBk H H' p B := ⟨fresh_back e h.new, e.trans h.ex, h.dk, h.nd, h.few⟩
theorem at_bookN {a : Addr} {ns : List Int} {many : Nat} {Q : VK} (ha : Ev ta σ H (.ref a)) (hb : Ev tb σ H (.int (many : Int))) (hS : SqL K H a (ns.map V.int)) (hl : ns.length ≤ 100) (hm : many ≤ 14)
    (k : ∀ p B H1, NewBk H H1 p B → B.length ≤ many → GoodBk B → (∀ q ∈ B, q.1 ≤ 40) → (∀ q ∈ B, ∀ m, q.2.nm = some m → m ∈ namesF (ns.getD 1 0)) → Q (.ref p) H1) : tCall (sp_l_book K C) [] E0 (tCons ta (tCons tb tNil)) σ H Q := by
  unfold tCall
  exact ea_cons ha (ea_cons hb ea_nil) H (Ex.refl H) _ fun H1 e1 => ⟨a, ns, many, rfl, ex_l e1 hS, hl, hm, fun p B H' h1 h2 h3 h4 h5 => k p B H' (h1.back e1) h2 h3 h4 h5⟩
theorem at_book {a : Addr} {ns : List Int} {many : Nat} {Q : VK} (ha : Ev ta σ H (.ref a)) (hb : Ev tb σ H (.int (many : Int))) (hS : SqL K H a (ns.map V.int)) (hl : ns.length ≤ 100) (hm : many ≤ 14)
    (k : ∀ p B H1, NewBk H H1 p B → B.length ≤ many → GoodBk B → (∀ q ∈ B, q.1 ≤ 40) → Q (.ref p) H1) : tCall (sp_l_book K C) [] E0 (tCons ta (tCons tb tNil)) σ H Q := at_bookN ha hb hS hl hm fun p B H1 h1 h2 h3 h4 _ => k p B H1 h1 h2 h3 h4
def baseF (ns : List Int) : Int := [(0 : Int), 7, 300, 999982].getD (ns.getD 0 0 % 4).toNat 0
theorem baseF_ok (ns : List Int) : 0 ≤ baseF ns ∧ baseF ns ≤ 999982 := by
  obtain ⟨b, hb, h0, h1⟩ := base_ok (ns.getD 0 0)
  unfold baseF
  rw [← hb]
  exact ⟨h0, h1⟩
theorem ev_base {a : Addr} {ns : List Int} (ha : Ev ta σ H (.ref a)) (hS : SqL K H a (ns.map V.int)) (hl : ns.length ≤ 100) : Ev (tCall (sp_l_base K C) [] E0 (tCons ta tNil)) σ H (.int (baseF ns)) :=
  ev_call (ea_cons ha ea_nil) fun H1 e1 Q q E => ⟨a, ns, rfl, ex_l e1 hS, hl, fun H' b e hb => by rw [hb]; exact q H' e⟩
/-- the greatest number, 0 where there is none -/
def maxK (B : Bk) : Int := (B.map (·.1)).foldr max 0
theorem foldr_max_le (l : List Int) : ∀ y ∈ l, y ≤ l.foldr max 0 := by
  induction l with
  | nil => intro y h; cases h
  | cons x r ih =>
    intro y h
    rw [List.foldr_cons]
    rcases List.mem_cons.mp h with h | h
    · rw [h]; exact Int.le_max_left _ _
    · exact Int.le_trans (ih y h) (Int.le_max_right _ _)
theorem foldr_max_mem (l : List Int) (h : ∀ y ∈ l, 1 ≤ y) (hn : l ≠ []) : l.foldr max 0 ∈ l := by
  induction l with
  | nil => exact absurd rfl hn
  | cons x r ih =>
    rw [List.foldr_cons]
    by_cases hr : r = []
    · subst hr
      have := h x List.mem_cons_self
      rw [List.foldr_nil, Int.max_eq_left (by omega)]
      exact List.mem_cons_self
    · have := ih (fun y hy => h y (List.mem_cons_of_mem _ hy)) hr
      rcases Int.le_total x (r.foldr max 0) with z | z
      · rw [Int.max_eq_right z]; exact List.mem_cons_of_mem _ this
      · rw [Int.max_eq_left z]; exact List.mem_cons_self
theorem foldr_max_nn (l : List Int) : 0 ≤ l.foldr max 0 := by
  induction l with
  | nil => exact Int.le_refl _
  | cons x r ih => rw [List.foldr_cons]; exact Int.le_trans ih (Int.le_max_right _ _)
theorem maxK_nn (B : Bk) : 0 ≤ maxK B := foldr_max_nn _
theorem maxK_le {B : Bk} {k : Int} (h : k ∈ B.map (·.1)) : k ≤ maxK B := foldr_max_le _ k h
theorem maxK_mem {B : Bk} (h : GoodBk B) (hn : B ≠ []) : maxK B ∈ B.map (·.1) := foldr_max_mem _ (fun y hy => by
  obtain ⟨q, hq, rfl⟩ := List.mem_map.mp hy
  exact (h q hq).1) (by simpa using hn)
theorem ev_maxD (ha : Ev ta σ H (.ref b)) (h : BookAt H b B) (g : GoodBk B) : Ev (tCKw rMaxD (tCons ta tNil) (tCons (tC (.int 0)) tNil)) σ H (.int (maxK B)) := fun H1 e Q q => by
  unfold tCKw tCons tNil
  refine ha H1 e _ fun H2 e2 => ?_
  obtain ⟨kvs, h1, h2⟩ := (h.mono (e.trans e2)).ex
  have hk : IntKeys kvs (B.map (·.1)) := h2.keys
  refine ⟨b, kvs, _, 0, rfl, rfl, h1, hk, fun m m1 m2 => ?_⟩
  have em : m = maxK B := by
    by_cases hB : B = []
    · subst hB; exact m1 rfl
    · obtain ⟨a1, a2⟩ := m2 (by simpa using hB)
      have a3 := a2 _ (maxK_mem g hB)
      have a4 := maxK_le a1
      omega
  rw [em]
  exact q H2 e2
/-- names stand in a list -/
def NamesAt (n : Nat) : Hp → V → Prop := fun H v => ∃ (p : Addr) (xs : List Str), v = .ref p ∧ H p = some (.lst (xs.map V.str)) ∧ xs.length = n ∧ ∀ x ∈ xs, NameS x
theorem ex_names (ha : Ev ta σ H (.int n)) : EvX (tCall (sp_l_names K C) [] E0 (tCons ta (tCons (tC (.int 3)) tNil))) σ H (NamesAt 3) := fun H1 e Q q => by
  unfold tCall
  exact ea_cons ha (ea_cons ev_c ea_nil) H1 e _ fun H2 e2 => ⟨n, rfl, fun p xs H' hp e3 h3 g _ => q _ H' (e2.trans e3) ⟨p, xs, rfl, h3, g.1, g.2⟩⟩
/-- .. exactly these -/
theorem ex_namesF (ha : Ev ta σ H (.int n)) : EvX (tCall (sp_l_names K C) [] E0 (tCons ta (tCons (tC (.int 3)) tNil))) σ H (fun H v => ∃ p, v = .ref p ∧ H p = some (.lst ((namesF n).map V.str))) := fun H1 e Q q => by
  unfold tCall
  exact ea_cons ha (ea_cons ev_c ea_nil) H1 e _ fun H2 e2 => ⟨n, rfl, fun p xs H' hp e3 h3 g hx => q _ H' (e2.trans e3) ⟨p, rfl, by rw [h3, hx]⟩⟩
theorem name_other : NameS ("other" : Str) := by
  refine ⟨by decide +kernel, by decide +kernel, ?_⟩
  have h : ((("other" : Str)).cps.toList.all fun c => decide (97 ≤ c) && decide (c ≤ 122)) = true := by decide +kernel
  intro c hc
  have := List.all_eq_true.mp h c hc
  rw [Bool.and_eq_true, decide_eq_true_eq, decide_eq_true_eq] at this
  exact this
theorem ex_names4 (ha : Ev ta σ H (.int n)) : EvX (tOp (addA K) (tCall (sp_l_names K C) [] E0 (tCons ta (tCons (tC (.int 3)) tNil))) (tLst (tCons (tC (.str "other")) tNil))) σ H (NamesAt 4) := fun H1 e Q q => by
  unfold tOp
  refine ex_names ha H1 e _ fun v H2 e2 ⟨p, xs, ev, h2, hl, hn⟩ => ?_
  subst ev
  refine el_lst (vs := [V.str "other"]) (ea_cons ev_c ea_nil) (by decide) H2 (Ex.refl H2) _ fun r H3 hr e3 h3 => ?_
  refine .inr (.inr (.inl ⟨p, r, _, _, rfl, rfl, e3 p _ h2, h3, sz_of (by rw [List.length_map, hl]; show 3 + 1 ≤ _; omega), fun l hl2 => q _ _ ((e2.trans e3).trans (Ex.new hl2)) ⟨l, xs ++ [("other" : Str)], rfl, ?_, ?_, ?_⟩⟩))
  · rw [upd_same, List.map_append]; rfl
  · rw [List.length_append, hl]; rfl
  · intro x hx
    rcases List.mem_append.mp hx with h | h
    · exact hn x h
    · rw [List.mem_singleton.mp h]; exact name_other
theorem NamesAt.mono {n : Nat} {H H' : Hp} {v : V} (e : Ex H H') (h : NamesAt n H v) : NamesAt n H' v := let ⟨p, xs, h1, h2, h3⟩ := h; ⟨p, xs, h1, e p _ h2, h3⟩
/-- one of the names -/
theorem ev_nameN {p : Addr} {xs : List Str} (i : Nat) (ha : Ev ta σ H (.ref p)) (h : H p = some (.lst (xs.map V.str))) (hi : i < xs.length) : Ev (tOp (ixA K) ta (tC (.int (i : Int)))) σ H (.str (xs.getD i Str.empty)) := by
  have := ev_name (K := K) (i := (i : Int)) ha ev_c (sq_of h) (by omega) (by omega)
  rw [Int.toNat_natCast] at this
  exact this
theorem ev_nameI {p : Addr} {xs : List Str} {i : Int} (ha : Ev ta σ H (.ref p)) (hb : Ev tb σ H (.int i)) (h : H p = some (.lst (xs.map V.str))) (h0 : 0 ≤ i) (hi : i < xs.length) : Ev (tOp (ixA K) ta tb) σ H (.str (xs.getD i.toNat Str.empty)) :=
  ev_name ha hb (sq_of h) h0 hi
/-- list(book.values())[i::k], for entries -/
theorem s_forVals {i k : Int} {j : Nat} {H0 : Hp} {kvs : List (Key × V)} (ha : Ev ta σ H (.ref b)) (h1 : Rd H b (.dK kvs)) (h2 : BkRel H0 kvs B) (hB : B.length ≤ 60) (hb : Ev tb σ H (.int i)) (hk : 0 < k) (Pv : Addr → List V → Nat → L2.St → Hp → Prop)
    (h0 : ∀ q xs H1, H q = none → Ex H H1 → H1 q = some (.lst xs) → (∀ x ∈ xs, ∃ t e, x = .ref t ∧ EntAt H0 t e ∧ ∃ k, (k, e) ∈ B) → xs.length ≤ 60 → Pv q xs 0 σ H1) (hl : ∀ q xs i σ' H', Pv q xs i σ' H' → SqL K H' q xs)
    (hs : ∀ q xs i x σ' H', xs[i]? = some x → Pv q xs i σ' H' → tu { D with nx := Pv q xs (i + 1), ct := Pv q xs (i + 1), bk := tz D } (σ'.set j (some x)) H') (hd : ∀ q xs σ' H', Pv q xs xs.length σ' H' → tz D σ' H') :
    tSeq (tFor (iList K (tStep K (tListVals ta) tb k)) (gName j) tu) tz D σ H := by
  unfold tSeq tFor iList tStep tSl3 tListVals tPart tNoPart
  refine ha H (Ex.refl H) _ fun H1 e1 => ⟨b, kvs, rfl, ex_rd e1 h1, fun p hp => ?_⟩
  refine hb (upd H1 p _) (e1.trans (Ex.new hp)) _ fun H2 e2 => ⟨i, rfl, ?_⟩
  refine ⟨k, rfl, ⟨k, rfl, hk⟩, p, _, rfl, sq_of (e2 p _ upd_same), fun q zs hz hm hq => ?_⟩
  have E2 : Ex H H2 := (e1.trans (Ex.new hp)).trans e2
  refine ⟨q, rfl, ⟨zs, sq_of upd_same⟩, for_list (g := gName j) (tb := tu) (D := { D with nx := tz D }) (Pv q zs) (h0 q zs _ (fresh_back E2 hq) (E2.trans (Ex.new hq)) upd_same (fun x hx => ?_) ?_) (fun i σ' H' _ => hl q zs i σ' H') (fun i x σ' H' hx p => hs q zs i x σ' H' hx p) (hd q zs)⟩
  · obtain ⟨kv, hkv, rfl⟩ := List.mem_map.mp (hm x hx)
    obtain ⟨y, hy, _, t, e1, e2⟩ := paired_mem h2 kv hkv
    exact ⟨t, y.2, e1, e2, y.1, hy⟩
  · rw [List.length_map, h2.len] at hz
    exact Nat.le_trans hz hB
end
theorem TupR.all {α : Type} {f : α → List V} {H H' : Hp} {xs : List V} {ys : List α} (e : Ex H H') (h : Paired (TupR f H) xs ys) : Paired (TupR f H') xs ys := Paired.imp (fun _ _ ⟨p, h1, h2⟩ => ⟨p, h1, e p _ h2⟩) h
theorem TupR.allT {α : Type} {f : α → List V} {H H' : Hp} {xs : List V} {ys : List α} (e : ExT H H') (h : Paired (TupR f H) xs ys) : Paired (TupR f H') xs ys := Paired.imp (fun _ _ ⟨p, h1, h2⟩ => ⟨p, h1, e p _ h2⟩) h
/-! ### what is asked -/
def ask3 (q : Int × Str × Int) : List V := [.int q.1, .str q.2.1, .int q.2.2]
/-- a list of what is asked -/
def Asked (H : Hp) (p : Addr) (n : Nat) : Prop := ∃ xs ys, H p = some (.lst xs) ∧ Paired (TupR ask3 H) xs ys ∧ xs.length ≤ n
def sp_law_k04 (K : PySem.W.Frag) (C : CA) : Sp := fun vs H Q _ => ∃ (a : Addr) (ns : List Int), vs = [.ref a] ∧ SqL K H a (ns.map V.int) ∧ ns.length ≤ 63 ∧ ∀ H', Q (.bl true) H'
theorem len_law_k04 {K : PySem.W.Frag} {C : CA} {vs : List V} {H : Hp} {Q : VK} {E : XK} (h : sp_law_k04 K C vs H Q E) : vs.length = 1 := by
  obtain ⟨a, ns, rfl, _⟩ := h
  rfl
/-- _law_script 0, _law_book_here 1, _law_names_here 2, _law_kept 3, _law_n 4, _law_day 5, _law_asked 6, _law_entry_here 7, _law_one 8, _law_name 9 -/
def t_law_k04 (K : PySem.W.Frag) (C : CA) : TS :=
 (tSeq (tAsg (tCall (sp_l_book K C) [] E0 (tCons (tVar 0) (tCons (tC (.int 14)) tNil))) (gName 1))
 (tSeq (tAsg (tOp (addA K) (tCall (sp_l_names K C) [] E0 (tCons (tCall (sp_l_of K C) [] E0 (tCons (tVar 0) (tCons (tC (.int 1)) tNil))) (tCons (tC (.int 3)) tNil))) (tLst (tCons (tC (.str "other")) tNil))) (gName 2))
 (tSeq (tAsg (tCB (dictC K) (tCons (tVar 1) tNil)) (gName 3))
 (tSeq (tAsg (tOp (modI) (tCall (sp_l_of K C) [] E0 (tCons (tVar 0) (tCons (tC (.int 2)) tNil))) (tOp (addA K) (tCKw rMaxD (tCons (tVar 1) tNil) (tCons (tC (.int 0)) tNil)) (tC (.int 3)))) (gName 4))
 (tSeq (tAsg (tCB rMax2 (tCons (tC (.int 0)) (tCons (tCB rMin2 (tCons (tC (.int 1000000)) (tCons (tOp (subI) (tOp (addA K) (tCall (sp_l_base K C) [] E0 (tCons (tVar 0) tNil)) (tOp (modI) (tCall (sp_l_of K C) [] E0 (tCons (tVar 0) (tCons (tC (.int 3)) tNil))) (tC (.int 20)))) (tC (.int 1))) tNil))) tNil))) (gName 5))
 (tSeq (tAsg (tLc (iList K (tVar 2)) (gName 9) tYes (tTup (tCons (tVar 4) (tCons (tVar 9) (tCons (tVar 5) tNil)))) [9]) (gName 6))
 (tSeq (tAsg (tOp (addA K) (tVar 6) (tLst (tCons (tTup (tCons (tCB rMax2 (tCons (tC (.int 0)) (tCons (tOp (subI) (tVar 4) (tC (.int 1))) tNil))) (tCons (tOp (ixA K) (tVar 2) (tC (.int 0))) (tCons (tVar 5) tNil)))) (tCons (tTup (tCons (tVar 4) (tCons (tOp (ixA K) (tVar 2) (tC (.int 1))) (tCons (tCB rMin2 (tCons (tC (.int 1000000)) (tCons (tOp (addA K) (tVar 5) (tC (.int 1))) tNil))) tNil)))) (tCons (tTup (tCons (tVar 4) (tCons (tOp (ixA K) (tVar 2) (tC (.int 0))) (tCons (tVar 5) tNil)))) tNil))))) (gName 6))
 (tSeq (tFor (iList K (tStep K (tListVals (tVar 1)) (tOp (modI) (tOp (divI) (tCall (sp_l_of K C) [] E0 (tCons (tVar 0) (tCons (tC (.int 3)) tNil))) (tC (.int 20))) (tC (.int 5))) 5)) (gName 7)
  (tIfS (tTest (tOp (neA K) (tOp (ixA K) (tVar 7) (tC (.int 0))) (tC (.str "undo")))) (tSeq (tAsg (tOp (addA K) (tVar 6) (tLst (tCons (tTup (tCons (tVar 4) (tCons (tOp (ixA K) (tVar 7) (tC (.int 1))) (tCons (tOp (ixA K) (tVar 7) (tC (.int 2))) tNil)))) (tCons (tTup (tCons (tVar 4) (tCons (tOp (ixA K) (tVar 7) (tC (.int 1))) (tCons (tOp (ixA K) (tVar 7) (tC (.int 3))) tNil)))) tNil)))) (gName 6))
 (tDrop (tBM K "list" rAppend (tVar 6) (tCons (tTup (tCons (tVar 4) (tCons (tOp (ixA K) (tVar 7) (tC (.int 1))) (tCons (tCB rMin2 (tCons (tC (.int 1000000)) (tCons (tOp (addA K) (tOp (ixA K) (tVar 7) (tC (.int 3))) (tC (.int 1))) tNil))) tNil)))) tNil)))) tNext))
 (tSeq (tFor (iList K (tVar 6)) (gName 8)
  (tIfS (tNot (tB (tCall (sp_l_right K C) [] E0 (tCons (tVar 1) (tCons (tOp (ixA K) (tVar 8) (tC (.int 0))) (tCons (tOp (ixA K) (tVar 8) (tC (.int 1))) (tCons (tOp (ixA K) (tVar 8) (tC (.int 2))) tNil))))))) (tRet (tC (.bl false))) tNext))
 (tRet (tOp (eqA K) (tVar 1) (tVar 3))))))))))))
theorem pure_law_k04 {K : PySem.W.Frag} {C : CA} {vs : List V} {H : Hp} {Q : VK} {E : XK} (h : sp_law_k04 K C vs H Q E) : t_law_k04 K C { nx := fun _ H' => Q .non H', rt := Q } (startN 10 vs) H := by
  obtain ⟨a, ns, rfl, hS, hl63, kk⟩ := h
  have hl : ns.length ≤ 100 := by omega
  refine at_book (many := 14) (ev_var rfl) ev_c hS hl (by omega) fun b B H1 nb hBl hg h40 => ?_
  show tSeq _ _ _ _ H1
  have E1 : Ex H H1 := nb.ex
  refine q_asgX (ex_names4 (ev_of (k := 1) (ev_var rfl) ev_c (ex_l E1 hS) hl)) fun v2 H2 e2 ⟨pn, xs, ev2, hxs, hxl, hxn⟩ => ?_
  subst ev2
  have hB2 := nb.at.mono e2
  show tSeq _ _ _ _ H2
  refine ed_book (ev_var rfl) hB2 H2 (Ex.refl H2) _ fun c H3 nc => ?_
  show tSeq _ _ _ _ H3
  have hB3 := hB2.mono nc.ex
  have hC3 := nc.at
  have E3 : Ex H H3 := (E1.trans e2).trans nc.ex
  have hpos : (0 : Int) < maxK B + 3 := by have := maxK_nn B; omega
  refine q_asg (ev_mod (ev_of (k := 2) (ev_var rfl) ev_c (ex_l E3 hS) hl) (ev_add (ev_maxD (ev_var rfl) hB3 hg) ev_c) hpos) fun H4 e4 => ?_
  refine q_asg (ev_max ev_c (ev_min ev_c (ev_sub (ev_add (ev_base (ev_var rfl) (ex_l (E3.trans e4) hS) hl) (ev_mod (ev_of (k := 3) (ev_var rfl) ev_c (ex_l (E3.trans e4) hS) hl) ev_c (by decide))) ev_c))) fun H5 e5 => ?_
  generalize (if (if baseF ns + ns.getD 3 0 % 20 - 1 < 1000000 then baseF ns + ns.getD 3 0 % 20 - 1 else 1000000) > 0 then (if baseF ns + ns.getD 3 0 % 20 - 1 < 1000000 then baseF ns + ns.getD 3 0 % 20 - 1 else 1000000) else (0 : Int)) = day
  generalize ns.getD 2 0 % (maxK B + 3) = n
  have E35 : Ex H3 H5 := e4.trans e5
  have hB5 := hB3.mono E35
  have hC5 := hC3.mono E35
  have hxs5 : H5 pn = some (.lst (xs.map V.str)) := (nc.ex.trans E35) pn _ hxs
  have E5 : Ex H H5 := E3.trans E35
  -- what is asked
  refine q_asgP (F := TupR ask3) (ep_lcL (F := TupR ask3) (G := ValR V.str) (fun _ => true) (fun nm => (n, nm, day)) TupR.mo ValR.mo.mo (ev_var rfl) (sq_of hxs5) (paired_map V.str xs) (by omega) (fun x => rfl) (fun x z H6 e6 _ _ => et_yes) fun x z H6 e6 _ hx _ => by
    have hx' : x = .str z := hx
    subst hx'
    exact ex_evU (eu_tup (ea_cons (ev_var rfl) (ea_cons (ev_var rfl) (ea_cons (ev_var rfl) ea_nil))) (by simp)) fun p H7 _ h7 => ⟨p, rfl, h7⟩) fun p6 us6 H6 hp6 e6 h6 hps6 => ?_
  have hxs6 := e6 pn _ hxs5
  refine q_asgP (F := TupR ask3) (ep_catV (F := TupR ask3) (zs := [((if n - 1 > 0 then n - 1 else 0), xs.getD 0 Str.empty, day), (n, xs.getD 1 Str.empty, (if day + 1 < 1000000 then day + 1 else 1000000)), (n, xs.getD 0 Str.empty, day)]) TupR.mo.mo (ev_var rfl) h6 hps6 (ep_lst TupR.mo.mo (eap_cons TupR.mo.mo ?_ (eap_cons TupR.mo.mo ?_ (eap_cons TupR.mo.mo ?_ eap_nil))) (by simp)) ?_) fun p7 us7 H7 hp7 e7 h7 hps7 => ?_
  · exact ex_evU (eu_tup (ea_cons (ev_max ev_c (ev_sub (ev_var rfl) ev_c)) (ea_cons (ev_nameN 0 (ev_var rfl) hxs6 (by omega)) (ea_cons (ev_var rfl) ea_nil))) (by simp)) fun p H7 _ h7 => ⟨p, rfl, h7⟩
  · exact ex_evU (eu_tup (ea_cons (ev_var rfl) (ea_cons (ev_nameN 1 (ev_var rfl) hxs6 (by omega)) (ea_cons (ev_min ev_c (ev_add (ev_var rfl) ev_c)) ea_nil))) (by simp)) fun p H7 _ h7 => ⟨p, rfl, h7⟩
  · exact ex_evU (eu_tup (ea_cons (ev_var rfl) (ea_cons (ev_nameN 0 (ev_var rfl) hxs6 (by omega)) (ea_cons (ev_var rfl) ea_nil))) (by simp)) fun p H7 _ h7 => ⟨p, rfl, h7⟩
  · rw [List.length_map]
    have := List.length_filter_le (fun _ => true) xs
    show _ + 3 ≤ _
    omega
  have hl7 : us7.length ≤ 10 := by
    rw [Paired.length hps7, List.length_append, List.length_map]
    have := List.length_filter_le (fun _ => true) xs
    show _ + 3 ≤ _
    omega
  have E57 : Ex H5 H7 := e6.trans e7
  obtain ⟨kvs, g1, g2⟩ := hB5.ex
  have asked : ∀ (n' d' : Int) (nm : Str) (te td : TE) (σ : L2.St) (H : Hp), Ev te σ H (.str nm) → Ev td σ H (.int d') → Ev (tVar 4) σ H (.int n) → EvX (tTup (tCons (tVar 4) (tCons te (tCons td tNil)))) σ H fun H v => TupR ask3 H v (n, nm, d') := fun n' d' nm te td σ H h1 h2 h3 =>
    ex_evU (eu_tup (ea_cons h3 (ea_cons h1 (ea_cons h2 ea_nil))) (by simp)) fun p H7 _ h7 => ⟨p, rfl, h7⟩
  refine s_forVals (K := K) (ev_var rfl) (ex_rd E57 g1) g2 hB5.few (ev_mod (ev_div (ev_of (k := 3) (ev_var rfl) ev_c (ex_l (E5.trans E57) hS) hl) ev_c ⟨by decide, by decide⟩) ev_c (by decide)) (by decide)
    (fun q zs i σ' H' => ∃ o7 p, σ' = [some (.ref a), some (.ref b), some (.ref pn), some (.ref c), some (.int n), some (.int day), some (.ref p), o7, none, none] ∧ Ex H5 H' ∧ H5 p = none ∧ H' q = some (.lst zs) ∧ H5 q = none ∧ q ≠ p ∧ Asked H' p (10 + 3 * i) ∧ (∀ x ∈ zs, ∃ t e, x = .ref t ∧ EntAt H5 t e ∧ ∃ k, (k, e) ∈ B) ∧ zs.length ≤ 60)
    (fun q zs H8 hq e8 h8 hz hzl => ⟨none, p7, rfl, E57.trans e8, fresh_back e6 hp7, h8, fresh_back E57 hq, (fun z => by rw [z, h7] at hq; cases hq), ⟨us7, _, e8 p7 _ h7, TupR.all e8 hps7, by omega⟩, hz, hzl⟩)
    (fun q zs i σ' H' ⟨_, _, _, _, _, h, _⟩ => sq_of h) ?_ ?_
  · rintro q zs i x σ' H' hx ⟨o7, p, rfl, E5', np, hq, nq, hqp, ⟨us, ys, hp, hps, hul⟩, hz, hzl⟩
    obtain ⟨t, e, rfl, ht, k, hk⟩ := hz x (List.mem_of_getElem? hx)
    have hi : i < 60 := by have := (List.getElem?_eq_some_iff.mp hx).1; omega
    have ht' := ht.mono E5'
    refine s_when (et_test (S.ev_neS (ev_part 0 (ev_var rfl) ht' e.vs0) ev_c)) (fun d H8 e8 => ?_) (fun d H8 e8 => ?_)
    · rw [Ent.word_undo] at d
      have hv : ∃ nm lo hi, e.vs[1]? = some (.str nm) ∧ e.vs[2]? = some (.int lo) ∧ e.vs[3]? = some (.int hi) := by
        cases e with
        | undo j => cases d
        | tell nm lo hi w => exact ⟨nm, lo, hi, rfl, rfl, rfl⟩
        | clear nm lo hi => exact ⟨nm, lo, hi, rfl, rfl, rfl⟩
        | like nm lo hi o => exact ⟨nm, lo, hi, rfl, rfl, rfl⟩
      obtain ⟨nm, lo, hi', v1, v2, v3⟩ := hv
      have ht8 := ht'.mono e8
      refine q_asgP (F := TupR ask3) (ep_catV (F := TupR ask3) (zs := [(n, nm, lo), (n, nm, hi')]) TupR.mo.mo (ev_var rfl) (e8 p _ hp) (TupR.all e8 hps) (ep_lst TupR.mo.mo (eap_cons TupR.mo.mo (asked n lo nm _ _ _ _ (ev_part 1 (ev_var rfl) ht8 v1) (ev_part 2 (ev_var rfl) ht8 v2) (ev_var rfl)) (eap_cons TupR.mo.mo (asked n hi' nm _ _ _ _ (ev_part 1 (ev_var rfl) ht8 v1) (ev_part 3 (ev_var rfl) ht8 v3) (ev_var rfl)) eap_nil)) (by simp)) ?_) fun p2 us2 H9 hp2 e9 h9 hps9 => ?_
      · rw [← Paired.length hps]; show _ + 2 ≤ _; omega
      have ht9 := ht8.mono e9
      have hl9 := Paired.length hps9
      rw [List.length_append, ← Paired.length hps] at hl9
      have hl9' : us2.length = us.length + 2 := hl9
      unfold tDrop tBM
      refine at_ev (te := tVar 6) (ev_var rfl) fun H10 e10 => ⟨.inl ⟨rfl, us2, sq_of (e10 p2 _ h9)⟩, ?_⟩
      unfold tCons tNil
      refine asked n (if hi' + 1 < 1000000 then hi' + 1 else 1000000) nm _ _ _ _ (ev_part 1 (ev_var rfl) (ht9.mono e10) v1) (ev_min ev_c (ev_add (ev_part 3 (ev_var rfl) (ht9.mono e10) v3) ev_c)) (ev_var rfl) H10 (Ex.refl H10) _ fun v H11 e11 hv => ?_
      refine ⟨p2, us2, v, rfl, rfl, e11 p2 _ (e10 p2 _ h9), sz_lt (by omega), ?_⟩
      have np2 : H5 p2 = none := fresh_back (E5'.trans e8) hp2
      have E11 : Ex H5 H11 := (((E5'.trans e8).trans e9).trans e10).trans e11
      have h11 := e11 p2 _ (e10 p2 _ h9)
      have nqp2 : q ≠ p2 := fun z => by rw [← z, e8 q _ hq] at hp2; cases hp2
      refine ⟨_, p2, rfl, Ex.mut E11 np2, np2, ?_, nq, nqp2, ⟨us2 ++ [v], _ ++ [(n, nm, _)], upd_same, Paired.app (TupR.allT ((ext_of (e10.trans e11)).trans (ExT.app h11)) hps9) (.cons (TupR.mo (ExT.app h11) hv) .nil), ?_⟩, hz, hzl⟩
      · rw [upd_ne nqp2]
        exact (((e8.trans e9).trans e10).trans e11) q _ hq
      · rw [List.length_append]
        show us2.length + 1 ≤ _
        omega
    · exact ⟨_, p, rfl, E5'.trans e8, np, e8 q _ hq, nq, hqp, ⟨us, ys, e8 p _ hp, TupR.all e8 hps, by omega⟩, hz, hzl⟩
  · rintro q zs σ' H' ⟨o7, p, rfl, E5', np, hq, nq, hqp, ⟨us, ys, hp, hps, hul⟩, hz, hzl⟩
    refine q_forLn (xs := us) (ev_var rfl) (sq_of hp) (fun i σ' H'' => ∃ o8, σ' = [some (.ref a), some (.ref b), some (.ref pn), some (.ref c), some (.int n), some (.int day), some (.ref p), o7, o8, none] ∧ Ex H' H'') (fun H8 e8 => ⟨none, rfl, e8⟩) (fun i σ' H'' _ ⟨_, _, e⟩ => sq_of (e p _ hp)) ?_ ?_
    · rintro i x σ' H'' hx ⟨o8, rfl, e8⟩
      obtain ⟨y, hy, t, rfl, ht⟩ := paired_get hps hx
      have ht8 : SqT K H'' t (ask3 y) := st_of (e8 t _ ht)
      refine s_when (b := false) (et_not (a := true) (et_B (ev_call (ea_cons (ev_var rfl) (ea_cons (ev_ixT (v := .int y.1) (ev_var rfl) ev_c ht8 rfl) (ea_cons (ev_ixT (v := .str y.2.1) (ev_var rfl) ev_c ht8 rfl) (ea_cons (ev_ixT (v := .int y.2.2) (ev_var rfl) ev_c ht8 rfl) ea_nil)))) fun H9 e9 Q q E => ?_))) (fun d => by cases d) fun _ H9 e9 => ?_
      · exact ⟨b, B, y.1, y.2.1, y.2.2, rfl, hB5.mono ((E5'.trans e8).trans e9), q⟩
      · exact ⟨_, rfl, e8.trans e9⟩
    · rintro σ' H'' ⟨o8, rfl, e8⟩
      have ho : ∀ p ∈ B, p.2.ok p.1 := fun p hp => (hg p hp).2
      refine s_ret (ev_eqBk (ev_var rfl) (ev_var rfl) (hB5.mono (E5'.trans e8)) (hC5.mono (E5'.trans e8)) ho ho) fun H9 e9 => ?_
      rw [dkEqv_self hB5.nd ho]
      exact kk H9
end S
end
set_option Elab.async false
set_option linter.all false
set_option maxRecDepth 100000
set_option maxHeartbeats 4000000
section
open PySem L2 Evl S
local macro_rules | `(tactic| array_get_dec) => `(tactic| first
  | exact ev_c
  | exact ev_var rfl
  | exact S.eo_no
  | exact ea_nil
  | (apply S.eo_some <;> array_get_dec)
  | (apply ea_cons <;> array_get_dec)
  | (apply S.ev_add <;> array_get_dec)
  | (apply S.ev_sub <;> array_get_dec)
  | (apply S.ev_div <;> first | array_get_dec | exact ⟨by decide, by decide⟩ | exact ⟨by omega, by omega⟩)
  | (apply S.ev_mod <;> first | array_get_dec | decide | omega)
  | (apply S.ev_mulr <;> first | array_get_dec | exact ⟨by decide, by decide⟩ | exact ⟨by omega, by omega⟩)
  | (apply S.ev_mull <;> first | array_get_dec | exact ⟨by decide, by decide⟩ | exact ⟨by omega, by omega⟩)
  | (apply S.ev_neg <;> array_get_dec)
  | (apply S.ev_min <;> array_get_dec)
  | (apply S.ev_max <;> array_get_dec)
  | (apply S.ev_eqI <;> array_get_dec)
  | (apply S.ev_eqS <;> array_get_dec)
  | (apply S.ev_neI <;> array_get_dec)
  | (apply S.ev_neS <;> array_get_dec)
  | (apply S.ev_lt <;> array_get_dec)
  | (apply S.ev_le <;> array_get_dec)
  | (apply S.ev_gt <;> array_get_dec)
  | (apply S.ev_ge <;> array_get_dec)
  | (apply S.ev_intB <;> array_get_dec)
  | (apply et_test <;> array_get_dec)
  | (apply et_B <;> array_get_dec)
  | (apply et_not <;> array_get_dec)
  | (refine' et_and ?_ (fun _ => ?_) <;> array_get_dec)
  | (refine' et_or ?_ (fun _ => ?_) <;> array_get_dec))
namespace S
section
variable {K : PySem.W.Frag} {C : CA} {σ : L2.St} {H : Hp} {ta tb tc td te : TE} {D : Ends} {tu tz : TS} {α β : Type} {F : Hp → V → α → Prop} {G : Hp → V → β → Prop}
/-- a comprehension over any walk -/
theorem lc_walk {J : It} {n : Nat} {Gh : Hp → Prop} {Y : Nat → Hp → V → Hp → Prop} {g : TG} {tt : TT} {vs : List Nat} {H1 : Hp} {zs : List β} (w : Walk J n Gh Y) (hn : zs.length = n) (hz : n ≤ 40000) (hG : ∀ H', Ex H1 H' → Gh H') (f : β → Bool) (v : β → α) (m : MoT F)
    (hs : ∀ i x z H2 H3, zs[i]? = some z → Ex H1 H2 → Y i H2 x H3 → ∀ Qg : L2.St → Hp → Prop, (∀ σ2 H4, Ex H2 H4 → wipe σ2 vs = wipe σ vs → EvT tt σ2 H4 (f z) → (f z = true → EvX te σ2 H4 fun H w => F H w (v z)) → Qg σ2 H4) → g x (wipe σ vs) H3 Qg)
    {Q : VK} (q : ∀ p xs H2, H1 p = none → Ex H1 H2 → H2 p = some (.lst xs) → Paired (F H2) xs ((zs.filter f).map v) → Q (.ref p) H2) :
    ∀ Dl, H1 Dl = none → ∃ W : Nat → Nat → Hp → Prop, (∃ m, W 0 m (upd H1 Dl (.lst []))) ∧ ∀ i m H, W i m H →
      (J.stop i H ∧ Q (.ref Dl) H) ∨ (J.go i H ∧ ∃ Nx : Hp → Prop, (∀ H', Nx H' → ∃ m', m' < m ∧ W (i + 1) m' H') ∧ ∀ x H', J.yld i H x H' → g x (wipe σ vs) H' fun σ2 H2 => wipe σ2 vs = wipe σ vs ∧ tt σ2 H2 fun b H3 =>
        if b = true then te σ2 H3 fun y H4 => ∃ acc, H4 Dl = some (.lst acc) ∧ acc.length < sizeLine ∧ Nx (upd H4 Dl (.lst (acc ++ [y]))) else Nx H3) := fun Dl hD => by
  refine lc_it w (fun i => Cp H1 F Dl (((zs.take i).filter f).map v)) ⟨hD, Ex.new hD, [], upd_same, .nil⟩ (fun i H' _ p => hG H' p.2.1) (fun i x H2 H3 hi p y => ?_) (fun H' p => ?_)
  · have hlt : i < zs.length := by omega
    refine hs i x _ H2 H3 (List.getElem?_eq_getElem hlt) p.2.1 y _ fun σ2 H4 e4 hw ht he => ⟨hw, ?_⟩
    obtain ⟨p1, p2, acc, p3, p4⟩ := p
    have hz1 := List.getElem?_eq_getElem hlt
    refine ht H4 (Ex.refl H4) _ fun H5 e5 => ?_
    have E5 : Ex H2 H5 := e4.trans e5
    cases hf : f zs[i] with
    | true =>
      show te σ2 H5 _
      refine he hf H5 e5 _ fun w H6 e6 hw => ⟨acc, e6 Dl _ (E5 Dl _ p3), sz_lt ?_, p1, Ex.mut ((p2.trans E5).trans e6) p1, _, upd_same, ?_⟩
      · have h1 := Paired.length p4
        have h2 := filter_take_len (f := f) (v := v) (zs := zs) (i := i)
        omega
      · rw [filter_take_yes hz1 hf]
        have stay : ∀ {v : V} {y : α}, F H6 v y → F (upd H6 Dl (.lst (acc ++ [w]))) v y := fun h => m (ExT.app (e6 Dl _ (E5 Dl _ p3))) h
        exact Paired.app (Paired.imp (fun _ _ h => stay (m (ext_of (E5.trans e6)) h)) p4) (.cons (stay hw) .nil)
    | false =>
      show Cp H1 F Dl _ H5
      rw [filter_take_no hz1 hf]
      exact ⟨p1, p2.trans E5, acc, E5 Dl _ p3, m.all (ext_of E5) p4⟩
  · obtain ⟨p1, p2, acc, p3, p4⟩ := p
    rw [← hn, List.take_length] at p4
    exact q Dl acc H' p1 p2 p3 p4
theorem walk_zipT {a b : Addr} {xs ys : List V} {n : Nat} (hn : n = min xs.length ys.length) : Walk (RZ.ItzT K a b) n (fun H => SqT K H a xs ∧ SqT K H b ys) (YPair (fun i => xs[i]?) (fun i => ys[i]?)) := by
  subst hn
  refine ⟨fun i _ hi q => ?_, fun _ q => ⟨xs, ys, q.1, q.2, by omega⟩, fun i H v H' _ q y => ?_⟩
  · have h1 : i < xs.length := by omega
    have h2 : i < ys.length := by omega
    exact ⟨xs, ys, xs[i], ys[i], q.1, q.2, by simp [h1], by simp [h2]⟩
  · obtain ⟨T, x, z, h1, h2, h3, h4, h5⟩ := y
    exact ⟨T, x, z, h1, h2, h3, h4 xs q.1, h5 ys q.2⟩
theorem paired_eq {f : α → V} : ∀ {xs : List V} {ys : List α}, Paired (fun v y => v = f y) xs ys → xs = ys.map f
  | _, _, .nil => rfl
  | _, _, .cons r t => by rw [List.map_cons, ← paired_eq t, r]
theorem el_ofP {ys : List α} (f : α → V) (h : EvP te σ H (ValR f) ys) : EvL te σ H (ys.map f) := fun H1 e Q q => h H1 e Q fun p xs H2 hp e2 h2 hps => by
  have : xs = ys.map f := paired_eq hps
  rw [this] at h2
  exact q p H2 hp e2 h2
theorem ev_all {bs : List Bool} (h : EvL ta σ H (bs.map V.bl)) : Ev (tCB (rAll K) (tCons ta tNil)) σ H (.bl (bs.all id)) := fun H1 e Q q => by
  unfold tCB tCons tNil
  exact h H1 e _ fun p H2 hp e2 h2 => ⟨p, bs, rfl, sq_of h2, q H2 e2⟩
theorem all_trues {zs : List β} : (((zs.filter fun _ => true).map fun _ => true).all id) = true := by
  rw [List.all_eq_true]
  intro x hx
  obtain ⟨y, _, rfl⟩ := List.mem_map.mp hx
  rfl
/-! ### rows of whole numbers and None -/
/-- a tuple of whole numbers and None -/
abbrev RowR : Hp → V → List (Option Int) → Prop := TupR (List.map optV)
def tyO : Option Int → String
  | none => "NoneType"
  | some _ => "int"
theorem ty_opt (o : Option Int) : TyX K H (optV o) (.type (tyO o)) := by cases o <;> constructor <;> constructor
theorem kit_o_tuple (o : Option Int) : kitB (tyO o) "tuple" = some false := by
  cases o with
  | none => exact (by decide +kernel : kitB "NoneType" "tuple" = some false)
  | some i => exact (by decide +kernel : kitB "int" "tuple" = some false)
theorem kit_o_list (o : Option Int) : kitB (tyO o) "list" = some false := by
  cases o with
  | none => exact (by decide +kernel : kitB "NoneType" "list" = some false)
  | some i => exact (by decide +kernel : kitB "int" "list" = some false)
theorem kit_o_bool (o : Option Int) : kitB (tyO o) "bool" = some false := by
  cases o with
  | none => exact (by decide +kernel : kitB "NoneType" "bool" = some false)
  | some i => exact (by decide +kernel : kitB "int" "bool" = some false)
theorem kit_tt : kitB "tuple" "tuple" = some true := by decide +kernel
theorem kit_tl : kitB "tuple" "list" = some false := by decide +kernel
theorem kit_lt : kitB "list" "tuple" = some false := by decide +kernel
theorem kit_ll : kitB "list" "list" = some true := by decide +kernel
def Alike (H : Hp) : Nat → V → V → Prop
  | 0, _, _ => False
  | m + 1, x, y => (∃ o : Option Int, x = optV o ∧ y = optV o) ∨ (1 ≤ m ∧ ∃ r : List (Option Int), r.length ≤ 100 ∧ RowR H x r ∧ RowR H y r) ∨
    (2 ≤ m ∧ ∃ (p q : Addr) (xs ys : List V) (rs : List (List (Option Int))), x = .ref p ∧ y = .ref q ∧ H p = some (.lst xs) ∧ H q = some (.lst ys) ∧ rs.length ≤ 1000 ∧ (∀ r ∈ rs, r.length ≤ 100) ∧ Paired (RowR H) xs rs ∧ Paired (RowR H) ys rs)
def sp_l_alike (K : PySem.W.Frag) (C : CA) (m : Nat) : Sp := fun vs H Q _ => ∃ x y : V, vs = [x, y] ∧ Alike H m x y ∧ ∀ H', Ex H H' → Q (.bl true) H'
theorem len_l_alike {K : PySem.W.Frag} {C : CA} {m : Nat} {vs : List V} {H : Hp} {Q : VK} {E : XK} (h : sp_l_alike K C m vs H Q E) : vs.length = 2 := by
  obtain ⟨x, y, rfl, _⟩ := h
  rfl
theorem no_l_alike {K : PySem.W.Frag} {C : CA} {vs : List V} {H : Hp} {Q : VK} {E : XK} (h : sp_l_alike K C 0 vs H Q E) : False := by
  obtain ⟨x, y, _, h, _⟩ := h
  exact h
end
/-- _law_found 0, _law_due_here 1, _law_one 2, _law_other 3 -/
def t_l_alike (K : PySem.W.Frag) (C : CA) (m : Nat) : TS :=
 (tSeq (tIfS (tOr (tB (tCB (rIsi K) (tCons (tVar 1) (tCons (tC (.ty "tuple")) tNil)))) (tB (tCB (rIsi K) (tCons (tVar 1) (tCons (tC (.ty "list")) tNil))))) (tSeq (tIfS (tOr (tTest (tOp (neA K) (tCB (rIsi K) (tCons (tVar 0) (tCons (tC (.ty "list")) tNil))) (tCB (rIsi K) (tCons (tVar 1) (tCons (tC (.ty "list")) tNil))))) (tTest (tOp (neA K) (tCB (rIsi K) (tCons (tVar 0) (tCons (tC (.ty "tuple")) tNil))) (tCB (rIsi K) (tCons (tVar 1) (tCons (tC (.ty "tuple")) tNil)))))) (tRet (tC (.bl false))) tNext)
 (tRet (tAndV (tOp (eqA K) (tCB (lenA K) (tCons (tVar 0) tNil)) (tCB (lenA K) (tCons (tVar 1) tNil))) (tCB (rAll K) (tCons (tLc (RZ.iZipA K (tCons (tVar 0) (tCons (tVar 1) tNil))) (gTup K 2 (gCons (gName 2) (gCons (gName 3) gNil))) tYes (tCall (sp_l_alike K C m) [] E0 (tCons (tVar 2) (tCons (tVar 3) tNil))) [2, 3]) tNil))))) tNext)
 (tRet (tAndV (tOp (eqA K) (tCB (rIsi K) (tCons (tVar 0) (tCons (tC (.ty "bool")) tNil))) (tCB (rIsi K) (tCons (tVar 1) (tCons (tC (.ty "bool")) tNil)))) (tOp (eqA K) (tVar 0) (tVar 1)))))
theorem st_set2 (x y u v : V) : wipe (((wipe ([some x, some y, none, none] : L2.St) [2, 3]).set 2 (some u)).set 3 (some v)) [2, 3] = wipe ([some x, some y, none, none] : L2.St) [2, 3] := rfl
theorem pure_l_alike {K : PySem.W.Frag} {C : CA} {m : Nat} {vs : List V} {H : Hp} {Q : VK} {E : XK} (h : sp_l_alike K C (m + 1) vs H Q E) : t_l_alike K C m { nx := fun _ H' => Q .non H', rt := Q } (startN 4 vs) H := by
  obtain ⟨x, y, rfl, hA, kk⟩ := h
  have vx : ∀ H1, Ev (tVar 0) (startN 4 [x, y]) H1 x := fun H1 => ev_var rfl
  have vy : ∀ H1, Ev (tVar 1) (startN 4 [x, y]) H1 y := fun H1 => ev_var rfl
  have same : ∀ (H1 : Hp) (T : String) (tx : String) (k : Bool), (∀ H2, Ex H1 H2 → TyX K H2 x (.type tx)) → (∀ H2, Ex H1 H2 → TyX K H2 y (.type tx)) → kitB tx T = some k →
      EvT (tTest (tOp (neA K) (tCB (rIsi K) (tCons (tVar 0) (tCons (tC (.ty T)) tNil))) (tCB (rIsi K) (tCons (tVar 1) (tCons (tC (.ty T)) tNil))))) (startN 4 [x, y]) H1 false := fun H1 T tx k h1 h2 hk => by
    have := et_test (ev_ne (K := K) (ev_isi (vx H1) h1 hk) (ev_isi (vy H1) h2 hk) rfl)
    rw [decide_eq_true rfl] at this
    exact this
  rcases hA with ⟨o, rfl, rfl⟩ | ⟨hm, r, hr, ⟨p, rfl, hp⟩, ⟨q, rfl, hq⟩⟩ | ⟨hm, p, q, xs, ys, rs, rfl, rfl, hp, hq, hrl, hrr, hxs, hys⟩
  · refine q_when (b := false) (et_or (a := false) (b := false) (et_B (ev_isi (vy H) (fun H1 _ => ty_opt o) (kit_o_tuple o))) fun _ => et_B (ev_isi (vy H) (fun H1 _ => ty_opt o) (kit_o_list o))) (fun c => by cases c) fun _ H1 e1 => ?_
    refine s_ret (v := .bl true) ?_ fun H2 e2 => kk H2 (e1.trans e2)
    have := ev_andV (ev_eq (K := K) (ev_isi (K := K) (vx H1) (fun H1 _ => ty_opt o) (kit_o_bool o)) (ev_isi (K := K) (vy H1) (fun H1 _ => ty_opt o) (kit_o_bool o)) rfl) fun _ => ev_eq (K := K) (vx H1) (vy H1) (scal_opt o o)
    rw [decide_eq_true rfl, decide_eq_true rfl] at this
    exact this
  · have tx : ∀ H2, Ex H H2 → TyX K H2 (.ref p) (.type "tuple") := fun H2 e => .base (.tup (e p _ hp))
    have ty : ∀ H2, Ex H H2 → TyX K H2 (.ref q) (.type "tuple") := fun H2 e => .base (.tup (e q _ hq))
    refine q_when (b := true) (et_or (a := true) (b := true) (et_B (ev_isi (vy H) ty kit_tt)) fun c => by cases c) (fun _ H1 e1 => ?_) (fun c => by cases c)
    refine q_when (b := false) (et_or (a := false) (b := false) (same H1 "list" "tuple" false (fun H2 e => tx H2 (e1.trans e)) (fun H2 e => ty H2 (e1.trans e)) kit_tl) fun _ => same H1 "tuple" "tuple" true (fun H2 e => tx H2 (e1.trans e)) (fun H2 e => ty H2 (e1.trans e)) kit_tt) (fun c => by cases c) fun _ H2 e2 => ?_
    have E2 : Ex H H2 := e1.trans e2
    refine s_ret (v := .bl true) ?_ fun H3 e3 => kk H3 (E2.trans e3)
    have hp2 := E2 p _ hp
    have hq2 := E2 q _ hq
    have hl := ev_eqI (K := K) (ev_lenT (K := K) (vx H2) (st_of hp2)) (ev_lenT (K := K) (vy H2) (st_of hq2))
    rw [decide_eq_true rfl] at hl
    refine ev_andV (a := true) (b := true) hl fun _ => ?_
    have all : EvL (tLc (RZ.iZipA K (tCons (tVar 0) (tCons (tVar 1) tNil))) (gTup K 2 (gCons (gName 2) (gCons (gName 3) gNil))) tYes (tCall (sp_l_alike K C m) [] E0 (tCons (tVar 2) (tCons (tVar 3) tNil))) [2, 3]) (startN 4 [V.ref p, V.ref q]) H2 (((r.filter fun _ => true).map fun _ => true).map V.bl) := by
      refine el_ofP V.bl fun H3 e3 Q q2 => ?_
      unfold tLc RZ.iZipA
      refine (ea_cons (vx H2) (ea_cons (vy H2) ea_nil)) H3 e3 _ fun H4 e4 => ⟨p, q, _, _, rfl, .inr ⟨st_of ((e3.trans e4) p _ hp2), st_of ((e3.trans e4) q _ hq2), ?_⟩⟩
      refine lc_walk (F := ValR V.bl) (zs := r) (walk_zipT rfl) (by simp) (by simp; omega) (fun H' e => ⟨st_of (((e3.trans e4).trans e) p _ hp2), st_of (((e3.trans e4).trans e) q _ hq2)⟩) (fun _ => true) (fun _ => true) ValR.mo ?_ fun p' xs H5 hp' e5 h5 hps => q2 p' xs H5 (fresh_back e4 hp') (e4.trans e5) h5 hps
      rintro i x z H5 H6 hz e5 ⟨T, x', y', rfl, hT, rfl, hx', hy'⟩ Qg qg
      have hx' : (r.map optV)[i]? = some x' := hx'
      have hy' : (r.map optV)[i]? = some y' := hy'
      rw [List.getElem?_map, hz] at hx' hy'
      have ex : x' = optV z := (Option.some.inj hx').symm
      have ey : y' = optV z := (Option.some.inj hy').symm
      subst ex ey
      refine ⟨T, _, rfl, st_of upd_same, rfl, _, _, rfl, _, _, rfl, rfl, ?_⟩
      refine qg _ _ (Ex.new hT) rfl et_yes fun _ => ?_
      refine ex_ev (v := .bl true) (ev_call (ea_cons (ev_var rfl) (ea_cons (ev_var rfl) ea_nil)) fun H7 e7 Q q3 E => ?_) fun H7 _ => rfl
      obtain ⟨m', rfl⟩ : ∃ m', m = m' + 1 := ⟨m - 1, by omega⟩
      exact ⟨_, _, rfl, .inl ⟨z, rfl, rfl⟩, q3⟩
    have := ev_all (K := K) all
    rw [all_trues] at this
    exact this
  · have tx : ∀ H2, Ex H H2 → TyX K H2 (.ref p) (.type "list") := fun H2 e => .base (.lst (e p _ hp))
    have ty : ∀ H2, Ex H H2 → TyX K H2 (.ref q) (.type "list") := fun H2 e => .base (.lst (e q _ hq))
    refine q_when (b := true) (et_or (a := false) (b := true) (et_B (ev_isi (vy H) ty kit_lt)) fun _ => et_B (ev_isi (vy H) ty kit_ll)) (fun _ H1 e1 => ?_) (fun c => by cases c)
    refine q_when (b := false) (et_or (a := false) (b := false) (same H1 "list" "list" true (fun H2 e => tx H2 (e1.trans e)) (fun H2 e => ty H2 (e1.trans e)) kit_ll) fun _ => same H1 "tuple" "list" false (fun H2 e => tx H2 (e1.trans e)) (fun H2 e => ty H2 (e1.trans e)) kit_lt) (fun c => by cases c) fun _ H2 e2 => ?_
    have E2 : Ex H H2 := e1.trans e2
    refine s_ret (v := .bl true) ?_ fun H3 e3 => kk H3 (E2.trans e3)
    have hp2 := E2 p _ hp
    have hq2 := E2 q _ hq
    have hxl := Paired.length hxs
    have hyl := Paired.length hys
    have hl := ev_eqI (K := K) (ev_lenL (K := K) (vx H2) (sq_of hp2)) (ev_lenL (K := K) (vy H2) (sq_of hq2))
    rw [decide_eq_true (by rw [hxl, hyl])] at hl
    refine ev_andV (a := true) (b := true) hl fun _ => ?_
    have all : EvL (tLc (RZ.iZipA K (tCons (tVar 0) (tCons (tVar 1) tNil))) (gTup K 2 (gCons (gName 2) (gCons (gName 3) gNil))) tYes (tCall (sp_l_alike K C m) [] E0 (tCons (tVar 2) (tCons (tVar 3) tNil))) [2, 3]) (startN 4 [V.ref p, V.ref q]) H2 (((rs.filter fun _ => true).map fun _ => true).map V.bl) := by
      refine el_ofP V.bl fun H3 e3 Q q2 => ?_
      unfold tLc RZ.iZipA
      refine (ea_cons (vx H2) (ea_cons (vy H2) ea_nil)) H3 e3 _ fun H4 e4 => ⟨p, q, xs, ys, rfl, .inl ⟨sq_of ((e3.trans e4) p _ hp2), sq_of ((e3.trans e4) q _ hq2), ?_⟩⟩
      refine lc_walk (F := ValR V.bl) (zs := rs) (walk_zip rfl) (by omega) (by omega) (fun H' e => ⟨sq_of (((e3.trans e4).trans e) p _ hp2), sq_of (((e3.trans e4).trans e) q _ hq2)⟩) (fun _ => true) (fun _ => true) ValR.mo ?_ fun p' xs H5 hp' e5 h5 hps => q2 p' xs H5 (fresh_back e4 hp') (e4.trans e5) h5 hps
      rintro i x z H5 H6 hz e5 ⟨T, x', y', rfl, hT, rfl, hx', hy'⟩ Qg qg
      obtain ⟨z1, hz1, hxr⟩ := paired_get hxs (show xs[i]? = some x' from hx')
      obtain ⟨z2, hz2, hyr⟩ := paired_get hys (show ys[i]? = some y' from hy')
      have f1 : z1 = z := by rw [hz] at hz1; exact (Option.some.inj hz1).symm
      have f2 : z2 = z := by rw [hz] at hz2; exact (Option.some.inj hz2).symm
      rw [f1] at hxr
      rw [f2] at hyr
      refine ⟨T, _, rfl, st_of upd_same, rfl, _, _, rfl, _, _, rfl, rfl, ?_⟩
      refine qg _ _ (Ex.new hT) rfl et_yes fun _ => ?_
      refine ex_ev (v := .bl true) (ev_call (ea_cons (ev_var rfl) (ea_cons (ev_var rfl) ea_nil)) fun H7 e7 Q q3 E => ?_) fun H7 _ => rfl
      obtain ⟨m', rfl⟩ : ∃ m', m = m' + 1 := ⟨m - 1, by omega⟩
      have E7 : Ex H H7 := (((E2.trans (e3.trans e4)).trans e5).trans (Ex.new hT)).trans e7
      exact ⟨_, _, rfl, .inr (.inl ⟨by omega, z, hrr z (List.mem_of_getElem? hz), TupR.mo (ext_of E7) hxr, TupR.mo (ext_of E7) hyr⟩), q3⟩
    have := ev_all (K := K) all
    rw [all_trues] at this
    exact this
end S
end
set_option Elab.async false
set_option linter.all false
set_option maxRecDepth 100000
set_option maxHeartbeats 4000000
section
open PySem L2 Evl S
local macro_rules | `(tactic| array_get_dec) => `(tactic| first
  | exact ev_c
  | exact ev_var rfl
  | exact S.eo_no
  | exact ea_nil
  | (apply S.eo_some <;> array_get_dec)
  | (apply ea_cons <;> array_get_dec)
  | (apply S.ev_add <;> array_get_dec)
  | (apply S.ev_sub <;> array_get_dec)
  | (apply S.ev_div <;> first | array_get_dec | exact ⟨by decide, by decide⟩ | exact ⟨by omega, by omega⟩)
  | (apply S.ev_mod <;> first | array_get_dec | decide | omega)
  | (apply S.ev_mulr <;> first | array_get_dec | exact ⟨by decide, by decide⟩ | exact ⟨by omega, by omega⟩)
  | (apply S.ev_mull <;> first | array_get_dec | exact ⟨by decide, by decide⟩ | exact ⟨by omega, by omega⟩)
  | (apply S.ev_neg <;> array_get_dec)
  | (apply S.ev_min <;> array_get_dec)
  | (apply S.ev_max <;> array_get_dec)
  | (apply S.ev_eqI <;> array_get_dec)
  | (apply S.ev_eqS <;> array_get_dec)
  | (apply S.ev_neI <;> array_get_dec)
  | (apply S.ev_neS <;> array_get_dec)
  | (apply S.ev_lt <;> array_get_dec)
  | (apply S.ev_le <;> array_get_dec)
  | (apply S.ev_gt <;> array_get_dec)
  | (apply S.ev_ge <;> array_get_dec)
  | (apply S.ev_intB <;> array_get_dec)
  | (apply et_test <;> array_get_dec)
  | (apply et_B <;> array_get_dec)
  | (apply et_not <;> array_get_dec)
  | (refine' et_and ?_ (fun _ => ?_) <;> array_get_dec)
  | (refine' et_or ?_ (fun _ => ?_) <;> array_get_dec))
namespace S
section
variable {K : PySem.W.Frag} {C : CA} {σ : L2.St} {H : Hp} {ta tb tc td te : TE} {D : Ends} {tu tz : TS} {α β : Type} {F : Hp → V → α → Prop} {G : Hp → V → β → Prop}
theorem atI_last {xs : List V} (h : 0 < xs.length) : atI xs (-1) = xs[xs.length - 1]? := by
  unfold atI ixN
  rw [if_neg (by decide), if_pos (by omega)]
  have : ((-1 : Int) + (xs.length : Int)).toNat = xs.length - 1 := by omega
  rw [this]
  rfl
/-! ### lists of rows as data -/
def oD : Option Int → PyData
  | none => .none
  | some i => .int i
def rowD (r : List (Option Int)) : PyData := .tuple (r.map oD)
theorem dp_opt (o : Option Int) : Dp K H (optV o) (oD o) := by cases o <;> constructor
theorem dp_row {v : V} {r : List (Option Int)} (h : RowR H v r) : Dp K H v (rowD r) := by
  obtain ⟨p, rfl, hp⟩ := h
  exact .tup (st_of hp) (DpAll.of (F := fun v o => v = optV o) (fun v o e => by rw [e]; exact dp_opt o) (paired_map optV r))
theorem dp_rows {p : Addr} {xs : List V} {rs : List (List (Option Int))} (h : H p = some (.lst xs)) (hp : Paired (RowR H) xs rs) : Dp K H (.ref p) (.list (rs.map rowD)) := .lst (sq_of h) (DpAll.of (F := RowR H) (f := rowD) (fun _ _ h => dp_row h) hp)
theorem lay_row (r : List (Option Int)) : (rowD r).canLay0 = true ∧ (rowD r).depth ≤ 1 := by
  unfold rowD
  rw [PyData.canLay0, PyData.depth]
  induction r with
  | nil => exact ⟨rfl, by decide⟩
  | cons o r ih =>
    rw [List.map_cons, PyData.canLayAll0, PyData.depthAll]
    refine ⟨by rw [ih.1]; cases o <;> rfl, ?_⟩
    have : (oD o).depth = 0 := by cases o <;> rfl
    rw [this]
    have := ih.2
    omega
theorem lay_rows (rs : List (List (Option Int))) : SeqAt.shaped (.list (rs.map rowD)) = true := by
  refine shaped_by ?_
  rw [PyData.canLay0, PyData.depth]
  induction rs with
  | nil => exact ⟨rfl, by decide⟩
  | cons r rs ih =>
    rw [List.map_cons, PyData.canLayAll0, PyData.depthAll]
    have h := lay_row r
    refine ⟨by rw [h.1, ih.1]; rfl, ?_⟩
    have := ih.2
    have := h.2
    omega
theorem eqv_rows (rs : List (List (Option Int))) : PyData.eqv (.list (rs.map rowD)) (.list (rs.map rowD)) = true := SeqAt.eqv_refl _ (shaped_of (lay_rows rs)).1
/-- rows stand in a list -/
def RowsAt (H : Hp) (p : Addr) (rs : List (List (Option Int))) : Prop := ∃ xs, H p = some (.lst xs) ∧ Paired (RowR H) xs rs
theorem RowsAt.mono {H H' : Hp} {p : Addr} {rs : List (List (Option Int))} (e : Ex H H') (h : RowsAt H p rs) : RowsAt H' p rs := let ⟨xs, h1, h2⟩ := h; ⟨xs, e p _ h1, TupR.all e h2⟩
theorem ev_eqRows {p q : Addr} {rs : List (List (Option Int))} (ha : Ev ta σ H (.ref p)) (hb : Ev tb σ H (.ref q)) (hp : RowsAt H p rs) (hq : RowsAt H q rs) : Ev (tOp (eqA K) ta tb) σ H (.bl true) := by
  obtain ⟨xs, h1, h2⟩ := hp
  obtain ⟨ys, g1, g2⟩ := hq
  have := ev_eqD (K := K) ha hb (dp_rows h1 h2) (dp_rows g1 g2) (lay_rows rs) (lay_rows rs)
  rwa [eqv_rows] at this
theorem ev_eqRowsP {p : Addr} {rs : List (List (Option Int))} (ha : Ev ta σ H (.ref p)) (hp : RowsAt H p rs) (hb : EvP tb σ H RowR rs) : Ev (tOp (eqA K) ta tb) σ H (.bl true) := fun H1 e Q q => by
  unfold tOp
  refine ha H1 e _ fun H2 e2 => hb H2 (e.trans e2) _ fun r ys H3 hr e3 h3 hys => ?_
  obtain ⟨xs, g1, g2⟩ := hp.mono ((e.trans e2).trans e3)
  refine .inr (.inl ⟨_, _, dp_rows g1 g2, dp_rows h3 hys, lay_rows rs, lay_rows rs, ?_⟩)
  rw [eqv_rows]
  exact q H3 (e2.trans e3)
theorem ev_alike {p q : Addr} {rs : List (List (Option Int))} (ha : Ev ta σ H (.ref p)) (hb : Ev tb σ H (.ref q)) (hp : RowsAt H p rs) (hq : RowsAt H q rs) (hl : rs.length ≤ 1000) (hr : ∀ r ∈ rs, r.length ≤ 100) :
    Ev (tCall (sp_l_alike K C 4) [] E0 (tCons ta (tCons tb tNil))) σ H (.bl true) :=
  ev_call (ea_cons ha (ea_cons hb ea_nil)) fun H1 e Q q2 E => by
    obtain ⟨xs, h1, h2⟩ := hp.mono e
    obtain ⟨ys, g1, g2⟩ := hq.mono e
    exact ⟨_, _, rfl, .inr (.inr ⟨by decide, p, q, xs, ys, rs, rfl, rfl, h1, g1, hl, hr, h2, g2⟩), q2⟩
/-- two new lists of rows, alike -/
theorem ev_alikeP {rs : List (List (Option Int))} (ha : EvP ta σ H RowR rs) (hb : EvP tb σ H RowR rs) (hl : rs.length ≤ 1000) (hr : ∀ r ∈ rs, r.length ≤ 100) :
    Ev (tCall (sp_l_alike K C 4) [] E0 (tCons ta (tCons tb tNil))) σ H (.bl true) := fun H1 e Q q => by
  unfold tCall tCons tNil
  refine ha H1 e _ fun p xs H2 hp e2 h2 hps => hb H2 (e.trans e2) _ fun r ys H3 hr3 e3 h3 hys => ?_
  exact ⟨_, _, rfl, .inr (.inr ⟨by decide, p, r, xs, ys, rs, rfl, rfl, e3 p _ h2, h3, hl, hr, TupR.all e3 hps, hys⟩), fun H' e' => q H' ((e2.trans e3).trans e')⟩
theorem ev_alikePV {q : Addr} {rs : List (List (Option Int))} (ha : EvP ta σ H RowR rs) (hb : Ev tb σ H (.ref q)) (hq : RowsAt H q rs) (hl : rs.length ≤ 1000) (hr : ∀ r ∈ rs, r.length ≤ 100) :
    Ev (tCall (sp_l_alike K C 4) [] E0 (tCons ta (tCons tb tNil))) σ H (.bl true) := fun H1 e Q k => by
  unfold tCall tCons tNil
  refine ha H1 e _ fun p xs H2 hp e2 h2 hps => hb H2 (e.trans e2) _ fun H3 e3 => ?_
  obtain ⟨ys, g1, g2⟩ := hq.mono ((e.trans e2).trans e3)
  exact ⟨_, _, rfl, .inr (.inr ⟨by decide, p, q, xs, ys, rs, rfl, rfl, e3 p _ h2, g1, hl, hr, TupR.all e3 hps, g2⟩), fun H' e' => k H' ((e2.trans e3).trans e')⟩
/-! ### under a lock -/
theorem ep_lock {d : Addr} {u : HO} (hd : H d = some u) (hm : Mut (some u)) (hu : ∀ xs, u ≠ .tup xs) (m : MoT F) {ys : List α} (h : ∀ od H1, Ex H H1 → EvP te σ (upd H1 d (.frz od u)) F ys) : EvP (tLockE te) σ H F ys := fun H1 e Q q =>
  ⟨d, u, e d _ hd, hm, fun od => h od H1 e _ (Ex.refl _) _ fun p xs H2 hp e2 h2 hps => by
    have hd2 := e2 d _ upd_same
    have hpd : p ≠ d := fun z => by rw [z, upd_same] at hp; cases hp
    refine ⟨hd2, q p xs _ (by rwa [upd_ne hpd] at hp) (fun c o hc => ?_) (by rw [upd_ne hpd]; exact h2) (m.all (ExT.put hd2 fun xs z => by cases z) hps)⟩
    by_cases z : c = d
    · subst z
      rw [e c _ hd] at hc
      rw [upd_same, hc]
    · rw [upd_ne z]
      exact e2 c _ (by rw [upd_ne z]; exact hc)⟩
theorem BookAt.frz {b : Addr} {B : Bk} {kvs : List (Key × V)} (hb : H b = some (.dK kvs)) (h : BkRel H kvs B) (hn : (B.map (·.1)).Nodup) (hl : B.length ≤ 60) (od : Obj) : BookAt (upd H b (.frz od (.dK kvs))) b B ∧ BkRel (upd H b (.frz od (.dK kvs))) kvs B := by
  have hr : BkRel (upd H b (.frz od (.dK kvs))) kvs B := Paired.imp (fun x y ⟨h1, t, h2, h3⟩ => ⟨h1, t, h2, by
    show upd H b (.frz od (.dK kvs)) t = _
    rw [upd_ne (fun z => by rw [z] at h3; have := hb.symm.trans h3; cases this)]
    exact h3⟩) h
  exact ⟨⟨⟨kvs, .inr ⟨od, upd_same⟩, hr⟩, hn, hl⟩, hr⟩
/-- a row: a number and its entry -/
def NumR : Hp → V → Int × Ent → Prop := fun H v q => ∃ p, v = .ref p ∧ RowAt H p q
theorem NumR.mo : MoT NumR := fun e ⟨p, h1, t, h2, h3⟩ => ⟨p, h1, t, e _ _ h2, e _ _ h3⟩
theorem numR_refs : ∀ {xs : List V} {B : Bk}, Paired (NumR H) xs B → ∃ ps : List Addr, xs = ps.map V.ref ∧ Paired (RowAt H) ps B
  | _, _, .nil => ⟨[], rfl, .nil⟩
  | _, _, .cons r t => by
    obtain ⟨p, h1, h2⟩ := r
    obtain ⟨ps, h3, h4⟩ := numR_refs t
    exact ⟨p :: ps, by rw [List.map_cons, ← h3, h1], .cons h2 h4⟩
/-- dict([..]) of numbers and entries -/
theorem at_dictNum {B : Bk} (h : EvP te σ H NumR B) (hn : (B.map (·.1)).Nodup) (hl : B.length ≤ 60) {Q : VK} (q : ∀ p H1, NewBk H H1 p B → Q (.ref p) H1) : (tCB (dictC K) (tCons te tNil)) σ H Q := by
  unfold tCB tCons tNil
  refine h H (Ex.refl H) _ fun a xs H2 ha e2 h2 hps => ?_
  obtain ⟨ps, rfl, hr⟩ := numR_refs hps
  obtain ⟨kvs, hk1, hk2⟩ := rows_kvs hr
  have hkn : (kvs.map (·.1)).Nodup := by
    rw [hk1.keys]
    exact List.Pairwise.map _ (fun x y hxy e => hxy (Sum.inl.inj e)) hn
  refine .inl ⟨a, ps, kvs, rfl, sq_of h2, hk2 (Ex.refl H2), fun p hp => ?_⟩
  rw [mergeK_new kvs [] (by simpa using hkn), List.nil_append]
  exact q p _ ⟨fresh_back e2 hp, e2.trans (Ex.new hp), ⟨kvs, upd_same, hk1.mono (Ex.new hp)⟩, hn, hl⟩
end
end S
end
set_option Elab.async false
set_option linter.all false
set_option maxRecDepth 100000
set_option maxHeartbeats 4000000
section
open PySem L2 Evl S
local macro_rules | `(tactic| array_get_dec) => `(tactic| first
  | exact ev_c
  | exact ev_var rfl
  | exact S.eo_no
  | exact ea_nil
  | (apply S.eo_some <;> array_get_dec)
  | (apply ea_cons <;> array_get_dec)
  | (apply S.ev_add <;> array_get_dec)
  | (apply S.ev_sub <;> array_get_dec)
  | (apply S.ev_div <;> first | array_get_dec | exact ⟨by decide, by decide⟩ | exact ⟨by omega, by omega⟩)
  | (apply S.ev_mod <;> first | array_get_dec | decide | omega)
  | (apply S.ev_mulr <;> first | array_get_dec | exact ⟨by decide, by decide⟩ | exact ⟨by omega, by omega⟩)
  | (apply S.ev_mull <;> first | array_get_dec | exact ⟨by decide, by decide⟩ | exact ⟨by omega, by omega⟩)
  | (apply S.ev_neg <;> array_get_dec)
  | (apply S.ev_min <;> array_get_dec)
  | (apply S.ev_max <;> array_get_dec)
  | (apply S.ev_eqI <;> array_get_dec)
  | (apply S.ev_eqS <;> array_get_dec)
  | (apply S.ev_neI <;> array_get_dec)
  | (apply S.ev_neS <;> array_get_dec)
  | (apply S.ev_lt <;> array_get_dec)
  | (apply S.ev_le <;> array_get_dec)
  | (apply S.ev_gt <;> array_get_dec)
  | (apply S.ev_ge <;> array_get_dec)
  | (apply S.ev_intB <;> array_get_dec)
  | (apply et_test <;> array_get_dec)
  | (apply et_B <;> array_get_dec)
  | (apply et_not <;> array_get_dec)
  | (refine' et_and ?_ (fun _ => ?_) <;> array_get_dec)
  | (refine' et_or ?_ (fun _ => ?_) <;> array_get_dec))
namespace S
/-! ### things, by what they are as data; all of it tracked -/
mutual
inductive Dq (H : Hp) : PyData → V → Prop
  | non : Dq H .none .non
  | bl (b : Bool) : Dq H (.bool b) (.bl b)
  | int (i : Int) : Dq H (.int i) (.int i)
  | str (x : Str) (h : x.length ≤ 100000) : Dq H (.str x) (.str x)
  | lst {a : Addr} {xs : List V} {ds : List PyData} : H a = some (.lst xs) → DqAll H ds xs → Dq H (.list ds) (.ref a)
  | tup {a : Addr} {xs : List V} {ds : List PyData} : H a = some (.tup xs) → DqAll H ds xs → Dq H (.tuple ds) (.ref a)
inductive DqAll (H : Hp) : List PyData → List V → Prop
  | nil : DqAll H [] []
  | cons {d : PyData} {v : V} {ds : List PyData} {vs : List V} : Dq H d v → DqAll H ds vs → DqAll H (d :: ds) (v :: vs)
end
mutual
theorem Dq.mono {H H' : Hp} (e : Ex H H') : ∀ {d : PyData} {v : V}, Dq H d v → Dq H' d v
  | .none, _, h => by cases h; exact .non
  | .bool b, _, h => by cases h; exact .bl b
  | .int i, _, h => by cases h; exact .int i
  | .str x, _, h => by cases h with | str _ h => exact .str x h
  | .list ds, _, h => by cases h with | lst h1 h2 => exact .lst (e _ _ h1) (DqAll.mono e h2)
  | .tuple ds, _, h => by cases h with | tup h1 h2 => exact .tup (e _ _ h1) (DqAll.mono e h2)
  | .dict kvs, _, h => by cases h
theorem DqAll.mono {H H' : Hp} (e : Ex H H') : ∀ {ds : List PyData} {vs : List V}, DqAll H ds vs → DqAll H' ds vs
  | [], _, h => by cases h; exact .nil
  | d :: ds, _, h => by cases h with | cons h1 h2 => exact .cons (Dq.mono e h1) (DqAll.mono e h2)
end
mutual
theorem Dq.dp {K : PySem.W.Frag} {H : Hp} : ∀ {d : PyData} {v : V}, Dq H d v → Dp K H v d
  | .none, _, h => by cases h; exact .non
  | .bool b, _, h => by cases h; exact .bl b
  | .int i, _, h => by cases h; exact .int i
  | .str x, _, h => by cases h; exact .str x
  | .list ds, _, h => by cases h with | lst h1 h2 => exact .lst (sq_of h1) (DqAll.dp h2)
  | .tuple ds, _, h => by cases h with | tup h1 h2 => exact .tup (st_of h1) (DqAll.dp h2)
  | .dict kvs, _, h => by cases h
theorem DqAll.dp {K : PySem.W.Frag} {H : Hp} : ∀ {ds : List PyData} {vs : List V}, DqAll H ds vs → DpAll K H vs ds
  | [], _, h => by cases h; exact .nil
  | d :: ds, _, h => by cases h with | cons h1 h2 => exact .cons (Dq.dp h1) (DqAll.dp h2)
end
theorem DqAll.get {H : Hp} : ∀ {ds : List PyData} {vs : List V} {i : Nat} {d : PyData}, DqAll H ds vs → ds[i]? = some d → ∃ v, vs[i]? = some v ∧ Dq H d v
  | d :: ds, _, 0, _, h, e => by cases h with | cons h1 h2 => cases e; exact ⟨_, rfl, h1⟩
  | d :: ds, _, i + 1, _, h, e => by cases h with | cons h1 h2 => exact DqAll.get (i := i) h2 e
theorem DqAll.length {H : Hp} : ∀ {ds : List PyData} {vs : List V}, DqAll H ds vs → ds.length = vs.length
  | [], _, h => by cases h; rfl
  | d :: ds, _, h => by cases h with | cons h1 h2 => rw [List.length_cons, List.length_cons, DqAll.length h2]
theorem DqAll.app {H : Hp} : ∀ {ds es : List PyData} {vs us : List V}, DqAll H ds vs → DqAll H es us → DqAll H (ds ++ es) (vs ++ us)
  | [], _, _, _, h, g => by cases h; exact g
  | d :: ds, _, _, _, h, g => by cases h with | cons h1 h2 => exact .cons h1 (DqAll.app h2 g)
theorem DqAll.dropN {H : Hp} : ∀ (n : Nat) {ds : List PyData} {vs : List V}, DqAll H ds vs → DqAll H (ds.drop n) (vs.drop n)
  | 0, _, _, h => h
  | n + 1, [], _, h => by cases h; exact .nil
  | n + 1, d :: ds, _, h => by cases h with | cons h1 h2 => exact DqAll.dropN n h2
theorem DqAll.takeN {H : Hp} : ∀ (n : Nat) {ds : List PyData} {vs : List V}, DqAll H ds vs → DqAll H (ds.take n) (vs.take n)
  | 0, _, _, h => .nil
  | n + 1, [], _, h => by cases h; exact .nil
  | n + 1, d :: ds, _, h => by cases h with | cons h1 h2 => exact .cons h1 (DqAll.takeN n h2)
theorem Ent.dq {H : Hp} {t : Addr} {e : Ent} {k : Int} (h : EntAt H t e) (hk : e.ok k) : Dq H (.tuple e.ds) (.ref t) := by
  refine .tup h ?_
  have w1 : ("tell" : Str).length ≤ 100000 := by decide +kernel
  have w2 : ("clear" : Str).length ≤ 100000 := by decide +kernel
  have w3 : ("like" : Str).length ≤ 100000 := by decide +kernel
  have w4 : ("undo" : Str).length ≤ 100000 := by decide +kernel
  have nm : ∀ {s : Str}, NameS s → s.length ≤ 100000 := fun h => by have := h.2.1; omega
  cases e with
  | tell n lo hi w => exact .cons (.str _ w1) (.cons (.str _ (nm hk.1)) (.cons (.int _) (.cons (.int _) (.cons (.int _) .nil))))
  | clear n lo hi => exact .cons (.str _ w2) (.cons (.str _ (nm hk.1)) (.cons (.int _) (.cons (.int _) .nil)))
  | like n lo hi o => exact .cons (.str _ w3) (.cons (.str _ (nm hk.1)) (.cons (.int _) (.cons (.int _) (.cons (.str _ (nm hk.2.2.2.2)) .nil))))
  | undo j => exact .cons (.str _ w4) (.cons (.int _) .nil)
def tyD : PyData → String
  | .none => "NoneType"
  | .bool _ => "bool"
  | .int _ => "int"
  | .str _ => "str"
  | .list _ => "list"
  | .tuple _ => "tuple"
  | .dict _ => "dict"
theorem Dq.ty {K : PySem.W.Frag} {H : Hp} {d : PyData} {v : V} (h : Dq H d v) : TyX K H v (.type (tyD d)) := by
  cases h with
  | non => exact .base .non
  | bl b => exact .base (.bl b)
  | int i => exact .base (.int i)
  | str x h => exact .base (.str x)
  | lst h1 h2 => exact .base (.lst h1)
  | tup h1 h2 => exact .base (.tup h1)
def isiD (d : PyData) (T : String) : Bool := (kitB (tyD d) T).getD false
def goodT (T : String) : Prop := ∀ d : PyData, (kitB (tyD d) T).isSome = true
theorem kit_is : (∀ T ∈ ["int", "bool", "str", "tuple", "list", "dict"], ∀ t ∈ ["NoneType", "bool", "int", "str", "list", "tuple", "dict"], (kitB t T).isSome = true) := by decide +kernel
theorem tyD_mem (d : PyData) : tyD d ∈ ["NoneType", "bool", "int", "str", "list", "tuple", "dict"] := by cases d <;> simp [tyD]
theorem good_int : goodT "int" := fun d => kit_is _ (by simp) _ (tyD_mem d)
theorem good_bool : goodT "bool" := fun d => kit_is _ (by simp) _ (tyD_mem d)
theorem good_str : goodT "str" := fun d => kit_is _ (by simp) _ (tyD_mem d)
theorem good_tuple : goodT "tuple" := fun d => kit_is _ (by simp) _ (tyD_mem d)
theorem good_list : goodT "list" := fun d => kit_is _ (by simp) _ (tyD_mem d)
theorem good_dict : goodT "dict" := fun d => kit_is _ (by simp) _ (tyD_mem d)
def intD : PyData → Bool
  | .int _ => true
  | .bool _ => true
  | _ => false
def boolD : PyData → Bool
  | .bool _ => true
  | _ => false
def strD : PyData → Bool
  | .str _ => true
  | _ => false
def tupD : PyData → Bool
  | .tuple _ => true
  | _ => false
def lstD : PyData → Bool
  | .list _ => true
  | _ => false
def dicD : PyData → Bool
  | .dict _ => true
  | _ => false
theorem isi_int (d : PyData) : isiD d "int" = intD d := by
  cases d with
  | none => exact (show (kitB "NoneType" "int").getD false = false by decide +kernel)
  | bool _ => exact (show (kitB "bool" "int").getD false = true by decide +kernel)
  | int _ => exact (show (kitB "int" "int").getD false = true by decide +kernel)
  | str _ => exact (show (kitB "str" "int").getD false = false by decide +kernel)
  | list _ => exact (show (kitB "list" "int").getD false = false by decide +kernel)
  | tuple _ => exact (show (kitB "tuple" "int").getD false = false by decide +kernel)
  | dict _ => exact (show (kitB "dict" "int").getD false = false by decide +kernel)
theorem isi_bool (d : PyData) : isiD d "bool" = boolD d := by
  cases d with
  | none => exact (show (kitB "NoneType" "bool").getD false = false by decide +kernel)
  | bool _ => exact (show (kitB "bool" "bool").getD false = true by decide +kernel)
  | int _ => exact (show (kitB "int" "bool").getD false = false by decide +kernel)
  | str _ => exact (show (kitB "str" "bool").getD false = false by decide +kernel)
  | list _ => exact (show (kitB "list" "bool").getD false = false by decide +kernel)
  | tuple _ => exact (show (kitB "tuple" "bool").getD false = false by decide +kernel)
  | dict _ => exact (show (kitB "dict" "bool").getD false = false by decide +kernel)
theorem isi_str (d : PyData) : isiD d "str" = strD d := by
  cases d with
  | none => exact (show (kitB "NoneType" "str").getD false = false by decide +kernel)
  | bool _ => exact (show (kitB "bool" "str").getD false = false by decide +kernel)
  | int _ => exact (show (kitB "int" "str").getD false = false by decide +kernel)
  | str _ => exact (show (kitB "str" "str").getD false = true by decide +kernel)
  | list _ => exact (show (kitB "list" "str").getD false = false by decide +kernel)
  | tuple _ => exact (show (kitB "tuple" "str").getD false = false by decide +kernel)
  | dict _ => exact (show (kitB "dict" "str").getD false = false by decide +kernel)
theorem isi_tuple (d : PyData) : isiD d "tuple" = tupD d := by
  cases d with
  | none => exact (show (kitB "NoneType" "tuple").getD false = false by decide +kernel)
  | bool _ => exact (show (kitB "bool" "tuple").getD false = false by decide +kernel)
  | int _ => exact (show (kitB "int" "tuple").getD false = false by decide +kernel)
  | str _ => exact (show (kitB "str" "tuple").getD false = false by decide +kernel)
  | list _ => exact (show (kitB "list" "tuple").getD false = false by decide +kernel)
  | tuple _ => exact (show (kitB "tuple" "tuple").getD false = true by decide +kernel)
  | dict _ => exact (show (kitB "dict" "tuple").getD false = false by decide +kernel)
theorem isi_list (d : PyData) : isiD d "list" = lstD d := by
  cases d with
  | none => exact (show (kitB "NoneType" "list").getD false = false by decide +kernel)
  | bool _ => exact (show (kitB "bool" "list").getD false = false by decide +kernel)
  | int _ => exact (show (kitB "int" "list").getD false = false by decide +kernel)
  | str _ => exact (show (kitB "str" "list").getD false = false by decide +kernel)
  | list _ => exact (show (kitB "list" "list").getD false = true by decide +kernel)
  | tuple _ => exact (show (kitB "tuple" "list").getD false = false by decide +kernel)
  | dict _ => exact (show (kitB "dict" "list").getD false = false by decide +kernel)
theorem isi_dict (d : PyData) : isiD d "dict" = dicD d := by
  cases d with
  | none => exact (show (kitB "NoneType" "dict").getD false = false by decide +kernel)
  | bool _ => exact (show (kitB "bool" "dict").getD false = false by decide +kernel)
  | int _ => exact (show (kitB "int" "dict").getD false = false by decide +kernel)
  | str _ => exact (show (kitB "str" "dict").getD false = false by decide +kernel)
  | list _ => exact (show (kitB "list" "dict").getD false = false by decide +kernel)
  | tuple _ => exact (show (kitB "tuple" "dict").getD false = false by decide +kernel)
  | dict _ => exact (show (kitB "dict" "dict").getD false = true by decide +kernel)
section
variable {K : PySem.W.Frag} {C : CA} {σ : L2.St} {H H' : Hp} {t : TT} {ta tb tc td te tf : TE} {D : Ends} {tu tz : TS} {v : V} {d : PyData}
theorem ev_isiD {T : String} (hT : goodT T) (ha : Ev ta σ H v) (h : Dq H d v) : Ev (tCB (rIsi K) (tCons ta (tCons (tC (.ty T)) tNil))) σ H (.bl (isiD d T)) := by
  have hk : kitB (tyD d) T = some (isiD d T) := by
    have := hT d
    unfold isiD
    cases e : kitB (tyD d) T with
    | none => rw [e] at this; cases this
    | some b => rfl
  exact ev_isi ha (fun H1 e => (h.mono e).ty) hk
/-- for c in a text -/
theorem q_forStr {j : Nat} {z : Str} (h : Ev ta σ H (.str z)) (Pv : Nat → L2.St → Hp → Prop) (h0 : ∀ H1, Ex H H1 → Pv 0 σ H1)
    (hs : ∀ i c σ' H', z.cps.toList[i]? = some c → Pv i σ' H' → tu { D with nx := Pv (i + 1), ct := Pv (i + 1), bk := tz D } (σ'.set j (some (.str ⟨#[c]⟩))) H') (hd : ∀ σ' H', Pv z.cps.toList.length σ' H' → tz D σ' H') : tSeq (tFor (iStr ta) (gName j) tu) tz D σ H :=
  h H (Ex.refl H) _ fun H1 e => ⟨z, rfl, for_it (D := { D with nx := tz D }) walk_str Pv (h0 H1 e) (fun _ _ _ _ _ => trivial) (fun i x σ' H2 H3 hi p y => by
    obtain ⟨rfl, c, hc, rfl⟩ := y
    exact hs i c σ' H3 (by rw [Array.getElem?_toList]; exact hc) p) fun σ' H' p => hd σ' H' (by rw [Array.length_toList]; exact p)⟩
end
/-! ### is_among, is_number -/
def amongD (d : PyData) (lo hi : Int) : Bool := match d with
  | .int i => decide (lo ≤ i) && decide (i ≤ hi)
  | _ => false
def numberD : PyData → Bool
  | .int i => decide (1 ≤ i)
  | _ => false
def sp_is_among (K : PySem.W.Frag) (C : CA) : Sp := fun vs H Q _ => ∃ (v : V) (d : PyData) (lo hi : Int), vs = [v, .int lo, .int hi] ∧ Dq H d v ∧ ∀ H', Ex H H' → Q (.bl (amongD d lo hi)) H'
theorem len_is_among {K : PySem.W.Frag} {C : CA} {vs : List V} {H : Hp} {Q : VK} {E : XK} (h : sp_is_among K C vs H Q E) : vs.length = 3 := by
  obtain ⟨v, d, lo, hi, rfl, _⟩ := h
  rfl
/-- thing 0, least 1, most 2 -/
def t_is_among (K : PySem.W.Frag) (C : CA) : TS :=
 (tRet (tAndV (tCB (rIsi K) (tCons (tVar 0) (tCons (tC (.ty "int")) tNil))) (tAndV (tNotV (tCB (rIsi K) (tCons (tVar 0) (tCons (tC (.ty "bool")) tNil)))) (tChain (leI) (leI) (tVar 1) (tVar 0) (tVar 2)))))
theorem pure_is_among {K : PySem.W.Frag} {C : CA} {vs : List V} {H : Hp} {Q : VK} {E : XK} (h : sp_is_among K C vs H Q E) : t_is_among K C { nx := fun _ H' => Q .non H', rt := Q } (startN 3 vs) H := by
  obtain ⟨v, d, lo, hi, rfl, hd, kk⟩ := h
  have h1 := ev_isiD (K := K) (ta := tVar 0) (σ := startN 3 [v, .int lo, .int hi]) good_int (ev_var rfl) hd
  have h2 := ev_isiD (K := K) (ta := tVar 0) (σ := startN 3 [v, .int lo, .int hi]) good_bool (ev_var rfl) hd
  rw [isi_int] at h1
  rw [isi_bool] at h2
  cases hd with
  | int i => exact s_ret (v := .bl (amongD (.int i) lo hi)) (ev_andV (a := true) h1 fun _ => ev_andV (a := true) (ev_notV (a := false) h2) fun _ => ev_lele (ev_var rfl) (ev_var rfl) (ev_var rfl)) kk
  | bl b => exact s_ret (v := .bl false) (ev_andV (a := true) (b := false) h1 fun _ => ev_andV (a := false) (b := true) (ev_notV (a := true) h2) fun z => by cases z) kk
  | non => exact s_ret (v := .bl false) (ev_andV (a := false) (b := true) h1 fun z => by cases z) kk
  | str x h => exact s_ret (v := .bl false) (ev_andV (a := false) (b := true) h1 fun z => by cases z) kk
  | lst x y => exact s_ret (v := .bl false) (ev_andV (a := false) (b := true) h1 fun z => by cases z) kk
  | tup x y => exact s_ret (v := .bl false) (ev_andV (a := false) (b := true) h1 fun z => by cases z) kk
def sp_is_number (K : PySem.W.Frag) (C : CA) : Sp := fun vs H Q _ => ∃ (v : V) (d : PyData), vs = [v] ∧ Dq H d v ∧ ∀ H', Ex H H' → Q (.bl (numberD d)) H'
theorem len_is_number {K : PySem.W.Frag} {C : CA} {vs : List V} {H : Hp} {Q : VK} {E : XK} (h : sp_is_number K C vs H Q E) : vs.length = 1 := by
  obtain ⟨v, d, rfl, _⟩ := h
  rfl
/-- thing 0 -/
def t_is_number (K : PySem.W.Frag) (C : CA) : TS :=
 (tRet (tAndV (tCB (rIsi K) (tCons (tVar 0) (tCons (tC (.ty "int")) tNil))) (tAndV (tNotV (tCB (rIsi K) (tCons (tVar 0) (tCons (tC (.ty "bool")) tNil)))) (tOp (geI) (tVar 0) (tC (.int 1))))))
theorem pure_is_number {K : PySem.W.Frag} {C : CA} {vs : List V} {H : Hp} {Q : VK} {E : XK} (h : sp_is_number K C vs H Q E) : t_is_number K C { nx := fun _ H' => Q .non H', rt := Q } (startN 1 vs) H := by
  obtain ⟨v, d, rfl, hd, kk⟩ := h
  have h1 := ev_isiD (K := K) (ta := tVar 0) (σ := startN 1 [v]) good_int (ev_var rfl) hd
  have h2 := ev_isiD (K := K) (ta := tVar 0) (σ := startN 1 [v]) good_bool (ev_var rfl) hd
  rw [isi_int] at h1
  rw [isi_bool] at h2
  cases hd with
  | int i => exact s_ret (v := .bl (numberD (.int i))) (ev_andV (a := true) h1 fun _ => ev_andV (a := true) (ev_notV (a := false) h2) fun _ => ev_ge (ev_var rfl) ev_c) kk
  | bl b => exact s_ret (v := .bl false) (ev_andV (a := true) (b := false) h1 fun _ => ev_andV (a := false) (b := true) (ev_notV (a := true) h2) fun z => by cases z) kk
  | non => exact s_ret (v := .bl false) (ev_andV (a := false) (b := true) h1 fun z => by cases z) kk
  | str x h => exact s_ret (v := .bl false) (ev_andV (a := false) (b := true) h1 fun z => by cases z) kk
  | lst x y => exact s_ret (v := .bl false) (ev_andV (a := false) (b := true) h1 fun z => by cases z) kk
  | tup x y => exact s_ret (v := .bl false) (ev_andV (a := false) (b := true) h1 fun z => by cases z) kk
section
variable {K : PySem.W.Frag} {C : CA} {σ : L2.St} {H H' : Hp} {t : TT} {ta tb tc td te tf : TE} {v : V} {d : PyData}
theorem ev_among {lo hi : Int} (ha : Ev ta σ H v) (hb : Ev tb σ H (.int lo)) (hc : Ev tc σ H (.int hi)) (h : Dq H d v) : Ev (tCall (sp_is_among K C) [] E0 (tCons ta (tCons tb (tCons tc tNil)))) σ H (.bl (amongD d lo hi)) :=
  ev_call (ea_cons ha (ea_cons hb (ea_cons hc ea_nil))) fun H1 e Q q E => ⟨v, d, lo, hi, rfl, h.mono e, q⟩
end
/-! ### is_day, is_worth -/
def dayD (d : PyData) : Bool := amongD d 0 1000000
def worthD (d : PyData) : Bool := amongD d (-1000000000) 1000000000
def sp_is_day (K : PySem.W.Frag) (C : CA) : Sp := fun vs H Q _ => ∃ (v : V) (d : PyData), vs = [v] ∧ Dq H d v ∧ ∀ H', Ex H H' → Q (.bl (dayD d)) H'
theorem len_is_day {K : PySem.W.Frag} {C : CA} {vs : List V} {H : Hp} {Q : VK} {E : XK} (h : sp_is_day K C vs H Q E) : vs.length = 1 := by
  obtain ⟨v, d, rfl, _⟩ := h
  rfl
/-- thing 0 -/
def t_is_day (K : PySem.W.Frag) (C : CA) : TS :=
 (tRet (tCall (sp_is_among K C) [] E0 (tCons (tVar 0) (tCons (tC (.int 0)) (tCons (tC (.int 1000000)) tNil)))))
theorem pure_is_day {K : PySem.W.Frag} {C : CA} {vs : List V} {H : Hp} {Q : VK} {E : XK} (h : sp_is_day K C vs H Q E) : t_is_day K C { nx := fun _ H' => Q .non H', rt := Q } (startN 1 vs) H := by
  obtain ⟨v, d, rfl, hd, kk⟩ := h
  exact s_ret (ev_among (ev_var rfl) ev_c ev_c hd) kk
def sp_is_worth (K : PySem.W.Frag) (C : CA) : Sp := fun vs H Q _ => ∃ (v : V) (d : PyData), vs = [v] ∧ Dq H d v ∧ ∀ H', Ex H H' → Q (.bl (worthD d)) H'
theorem len_is_worth {K : PySem.W.Frag} {C : CA} {vs : List V} {H : Hp} {Q : VK} {E : XK} (h : sp_is_worth K C vs H Q E) : vs.length = 1 := by
  obtain ⟨v, d, rfl, _⟩ := h
  rfl
/-- thing 0 -/
def t_is_worth (K : PySem.W.Frag) (C : CA) : TS :=
 (tRet (tCall (sp_is_among K C) [] E0 (tCons (tVar 0) (tCons (tUn (rU fun i => .int (-i)) (tC (.int 1000000000))) (tCons (tC (.int 1000000000)) tNil)))))
theorem pure_is_worth {K : PySem.W.Frag} {C : CA} {vs : List V} {H : Hp} {Q : VK} {E : XK} (h : sp_is_worth K C vs H Q E) : t_is_worth K C { nx := fun _ H' => Q .non H', rt := Q } (startN 1 vs) H := by
  obtain ⟨v, d, rfl, hd, kk⟩ := h
  exact s_ret (ev_among (ev_var rfl) (ev_neg ev_c) ev_c hd) kk
/-! ### is_name -/
def LET : Str := "abcdefghijklmnopqrstuvwxyz"
def nameB (s : Str) : Bool := decide (1 ≤ (s.length : Int)) && decide ((s.length : Int) ≤ 8) && s.cps.toList.all fun c => decide (c ∈ LET.cps.toList)
def nameD : PyData → Bool
  | .str s => nameB s
  | _ => false
theorem let_is : LET.cps.toList = (List.range 26).map (· + 97) := by decide +kernel
theorem let_mem (c : Nat) : c ∈ LET.cps.toList ↔ 97 ≤ c ∧ c ≤ 122 := by
  rw [let_is, List.mem_map]
  constructor
  · rintro ⟨i, hi, rfl⟩
    rw [List.mem_range] at hi
    omega
  · intro h
    exact ⟨c - 97, List.mem_range.mpr (by omega), by omega⟩
theorem nameB_iff {s : Str} : nameB s = true ↔ NameS s := by
  unfold nameB NameS LowS
  rw [Bool.and_eq_true, Bool.and_eq_true, decide_eq_true_eq, decide_eq_true_eq, List.all_eq_true]
  constructor
  · rintro ⟨⟨h1, h2⟩, h3⟩
    exact ⟨by omega, by omega, fun c hc => (let_mem c).mp (of_decide_eq_true (h3 c hc))⟩
  · rintro ⟨h1, h2, h3⟩
    exact ⟨⟨by omega, by omega⟩, fun c hc => decide_eq_true ((let_mem c).mpr (h3 c hc))⟩
def sp_is_name (K : PySem.W.Frag) (C : CA) : Sp := fun vs H Q _ => ∃ (v : V) (d : PyData), vs = [v] ∧ Dq H d v ∧ ∀ H', Ex H H' → Q (.bl (nameD d)) H'
theorem len_is_name {K : PySem.W.Frag} {C : CA} {vs : List V} {H : Hp} {Q : VK} {E : XK} (h : sp_is_name K C vs H Q E) : vs.length = 1 := by
  obtain ⟨v, d, rfl, _⟩ := h
  rfl
/-- thing 0, sign 1 -/
def t_is_name (K : PySem.W.Frag) (C : CA) : TS :=
 (tSeq (tIfS (tOr (tNot (tB (tCB (rIsi K) (tCons (tVar 0) (tCons (tC (.ty "str")) tNil))))) (tNot (tTest (tChain (leI) (leI) (tC (.int 1)) (tCB (lenA K) (tCons (tVar 0) tNil)) (tC (.int 8)))))) (tRet (tC (.bl false))) tNext)
 (tSeq (tFor (iStr (tVar 0)) (gName 1)
  (tIfS (tTest (tOp (niA K) (tVar 1) (tC (.str "abcdefghijklmnopqrstuvwxyz")))) (tRet (tC (.bl false))) tNext))
 (tRet (tC (.bl true)))))
theorem pure_is_name {K : PySem.W.Frag} {C : CA} {vs : List V} {H : Hp} {Q : VK} {E : XK} (h : sp_is_name K C vs H Q E) : t_is_name K C { nx := fun _ H' => Q .non H', rt := Q } (startN 2 vs) H := by
  obtain ⟨v, d, rfl, hd, kk⟩ := h
  have h1 := ev_isiD (K := K) (ta := tVar 0) (σ := startN 2 [v]) good_str (ev_var rfl) hd
  rw [isi_str] at h1
  have no : strD d = false → nameD d = false := by cases d <;> intro h <;> first | rfl | cases h
  have off : strD d = false → t_is_name K C { nx := fun _ H' => Q .non H', rt := Q } (startN 2 [v]) H := fun h => by
    rw [h] at h1
    refine q_when (b := true) (et_or (a := true) (b := true) (et_not (a := false) (et_B h1)) fun z => by cases z) (fun _ H1 e1 => ?_) (fun z => by cases z)
    refine s_ret (v := .bl false) ev_c fun H2 e2 => ?_
    have := kk H2 (e1.trans e2)
    rw [no h] at this
    exact this
  cases d with
  | str s =>
    cases hd with | str _ hs => ?_
    clear off no
    refine q_when (et_or (a := false) (et_not (a := true) (et_B h1)) fun _ => et_not (et_test (ev_lele ev_c (ev_lenS (ev_var rfl) hs) ev_c))) (fun c H1 e1 => ?_) (fun c H1 e1 => ?_)
    · refine s_ret (v := .bl false) ev_c fun H2 e2 => ?_
      have hf : nameD (.str s) = false := by
        show nameB s = false
        unfold nameB
        have : (decide (1 ≤ (s.length : Int)) && decide ((s.length : Int) ≤ 8)) = false := by
          cases e : (decide (1 ≤ (s.length : Int)) && decide ((s.length : Int) ≤ 8)) with
          | false => rfl
          | true => rw [e] at c; cases c
        rw [this]
        rfl
      have := kk H2 (e1.trans e2)
      rw [hf] at this
      exact this
    · have hlen : (decide (1 ≤ (s.length : Int)) && decide ((s.length : Int) ≤ 8)) = true := by
        cases e : (decide (1 ≤ (s.length : Int)) && decide ((s.length : Int) ≤ 8)) with
        | true => rfl
        | false => rw [e] at c; cases c
      refine q_forStr (ev_var rfl) (fun i σ' H' => ∃ o1, σ' = [some (.str s), o1] ∧ Ex H H' ∧ ((s.cps.toList.take i).all fun c => decide (c ∈ LET.cps.toList)) = true)
        (fun H2 e2 => ⟨none, rfl, e1.trans e2, rfl⟩) ?_ ?_
      · rintro i c σ' H' hc ⟨o1, rfl, E1, hall⟩
        have ht : EvT (tTest (tOp (niA K) (tVar 1) (tC (.str "abcdefghijklmnopqrstuvwxyz")))) ([some (.str s), some (.str ⟨#[c]⟩)] : L2.St) H' (!decide (c ∈ LET.cps.toList)) :=
          et_test (ev_op (ev_var rfl) ev_c fun H1 e Q q => .inl ⟨c, LET, rfl, rfl, q H1 (Ex.refl H1)⟩)
        refine s_when ht (fun cc H2 e2 => ?_) (fun cc H2 e2 => ?_)
        · refine s_ret (v := .bl false) ev_c fun H3 e3 => ?_
          have hf : nameD (.str s) = false := by
            show nameB s = false
            unfold nameB
            rw [hlen, Bool.true_and]
            refine List.all_eq_false.mpr ⟨c, List.mem_of_getElem? hc, ?_⟩
            cases e : decide (c ∈ LET.cps.toList) with
            | true => rw [e] at cc; cases cc
            | false => simp
          have := kk H3 ((E1.trans e2).trans e3)
          rw [hf] at this
          exact this
        · refine ⟨_, rfl, E1.trans e2, ?_⟩
          rw [take_snoc hc, List.all_append, hall, Bool.true_and, List.all_cons, List.all_nil, Bool.and_true]
          have : decide (c ∈ LET.cps.toList) = true := by
            cases e : decide (c ∈ LET.cps.toList) with
            | true => rfl
            | false => rw [e] at cc; cases cc
          exact this
      · rintro σ' H' ⟨o1, rfl, E1, hall⟩
        rw [List.take_length] at hall
        refine s_ret (v := .bl true) ev_c fun H3 e3 => ?_
        have hf : nameD (.str s) = true := by
          show nameB s = true
          unfold nameB
          rw [hlen, hall]
          rfl
        have := kk H3 (E1.trans e3)
        rw [hf] at this
        exact this
  | none => exact off rfl
  | bool b => exact off rfl
  | int i => exact off rfl
  | list l => exact off rfl
  | tuple l => exact off rfl
  | dict l => exact off rfl
section
variable {K : PySem.W.Frag} {C : CA} {σ : L2.St} {H H' : Hp} {t : TT} {ta tb tc td te tf : TE} {v : V} {d : PyData}
theorem ev_isName (ha : Ev ta σ H v) (h : Dq H d v) : Ev (tCall (sp_is_name K C) [] E0 (tCons ta tNil)) σ H (.bl (nameD d)) := ev_call (ea_cons ha ea_nil) fun H1 e Q q E => ⟨v, d, rfl, h.mono e, q⟩
theorem ev_isDay (ha : Ev ta σ H v) (h : Dq H d v) : Ev (tCall (sp_is_day K C) [] E0 (tCons ta tNil)) σ H (.bl (dayD d)) := ev_call (ea_cons ha ea_nil) fun H1 e Q q E => ⟨v, d, rfl, h.mono e, q⟩
theorem ev_isWorth (ha : Ev ta σ H v) (h : Dq H d v) : Ev (tCall (sp_is_worth K C) [] E0 (tCons ta tNil)) σ H (.bl (worthD d)) := ev_call (ea_cons ha ea_nil) fun H1 e Q q E => ⟨v, d, rfl, h.mono e, q⟩
theorem ev_isNumber (ha : Ev ta σ H v) (h : Dq H d v) : Ev (tCall (sp_is_number K C) [] E0 (tCons ta tNil)) σ H (.bl (numberD d)) := ev_call (ea_cons ha ea_nil) fun H1 e Q q E => ⟨v, d, rfl, h.mono e, q⟩
/-- a part of a tuple -/
theorem ex_partD {a : Addr} {xs : List V} {ds : List PyData} (i : Nat) (ha : Ev ta σ H (.ref a)) (h : H a = some (.tup xs)) (hd : DqAll H ds xs) (hi : i < ds.length) : ∃ v, Ev (tOp (ixA K) ta (tC (.int (i : Int)))) σ H v ∧ Dq H (ds.getD i .none) v := by
  obtain ⟨v, h1, h2⟩ := hd.get (List.getElem?_eq_getElem hi)
  refine ⟨v, ev_ixT ha ev_c (st_of h) (atI_nat h1), ?_⟩
  rw [List.getD_eq_getElem?_getD, List.getElem?_eq_getElem hi]
  exact h2
end
/-! ### is_said -/
def leD : PyData → PyData → Bool
  | .int i, .int j => decide (i ≤ j)
  | _, _ => false
def saidD (ds : List PyData) (n : Nat) : Bool := decide (ds.length = n) && nameD (ds.getD 1 .none) && dayD (ds.getD 2 .none) && dayD (ds.getD 3 .none) && leD (ds.getD 2 .none) (ds.getD 3 .none)
def sp_is_said (K : PySem.W.Frag) (C : CA) : Sp := fun vs H Q _ => ∃ (a : Addr) (xs : List V) (ds : List PyData) (n : Nat), vs = [.ref a, .int (n : Int)] ∧ H a = some (.tup xs) ∧ DqAll H ds xs ∧ 4 ≤ n ∧ ∀ H', Ex H H' → Q (.bl (saidD ds n)) H'
theorem len_is_said {K : PySem.W.Frag} {C : CA} {vs : List V} {H : Hp} {Q : VK} {E : XK} (h : sp_is_said K C vs H Q E) : vs.length = 2 := by
  obtain ⟨a, xs, ds, n, rfl, _⟩ := h
  rfl
/-- entry 0, parts 1 -/
def t_is_said (K : PySem.W.Frag) (C : CA) : TS :=
 (tSeq (tIfS (tOr (tTest (tOp (neA K) (tCB (lenA K) (tCons (tVar 0) tNil)) (tVar 1))) (tOr (tNot (tB (tCall (sp_is_name K C) [] E0 (tCons (tOp (ixA K) (tVar 0) (tC (.int 1))) tNil)))) (tOr (tNot (tB (tCall (sp_is_day K C) [] E0 (tCons (tOp (ixA K) (tVar 0) (tC (.int 2))) tNil)))) (tNot (tB (tCall (sp_is_day K C) [] E0 (tCons (tOp (ixA K) (tVar 0) (tC (.int 3))) tNil))))))) (tRet (tC (.bl false))) tNext)
 (tRet (tOp (leI) (tOp (ixA K) (tVar 0) (tC (.int 2))) (tOp (ixA K) (tVar 0) (tC (.int 3))))))
theorem day_int {d : PyData} (h : dayD d = true) : ∃ i, d = .int i ∧ 0 ≤ i ∧ i ≤ 1000000 := by
  cases d with
  | int i =>
    have h : (decide (0 ≤ i) && decide (i ≤ 1000000)) = true := h
    rw [Bool.and_eq_true, decide_eq_true_eq, decide_eq_true_eq] at h
    exact ⟨i, rfl, h⟩
  | none => cases h
  | bool b => cases h
  | str s => cases h
  | list l => cases h
  | tuple l => cases h
  | dict l => cases h
theorem pure_is_said {K : PySem.W.Frag} {C : CA} {vs : List V} {H : Hp} {Q : VK} {E : XK} (h : sp_is_said K C vs H Q E) : t_is_said K C { nx := fun _ H' => Q .non H', rt := Q } (startN 2 vs) H := by
  obtain ⟨a, xs, ds, n, rfl, ha, hd, hn, kk⟩ := h
  have hlx := hd.length
  have hlen : Ev (tCB (lenA K) (tCons (tVar 0) tNil)) (startN 2 [.ref a, .int (n : Int)]) H (.int (xs.length : Int)) := ev_lenT (ev_var rfl) (st_of ha)
  have e0 := ev_neI (K := K) hlen (ev_var (i := 1) rfl)
  rw [← hlx] at e0
  by_cases c : ds.length = n
  · obtain ⟨v1, p1, d1⟩ := ex_partD (K := K) (ta := tVar 0) (σ := startN 2 [.ref a, .int (n : Int)]) 1 (ev_var rfl) ha hd (by omega)
    obtain ⟨v2, p2, d2⟩ := ex_partD (K := K) (ta := tVar 0) (σ := startN 2 [.ref a, .int (n : Int)]) 2 (ev_var rfl) ha hd (by omega)
    obtain ⟨v3, p3, d3⟩ := ex_partD (K := K) (ta := tVar 0) (σ := startN 2 [.ref a, .int (n : Int)]) 3 (ev_var rfl) ha hd (by omega)
    have es : saidD ds n = (nameD (ds.getD 1 .none) && dayD (ds.getD 2 .none) && dayD (ds.getD 3 .none) && leD (ds.getD 2 .none) (ds.getD 3 .none)) := by
      unfold saidD
      rw [decide_eq_true c, Bool.true_and]
    rw [es] at kk
    have c' : (ds.length : Int) = (n : Int) := by omega
    rw [decide_eq_true c'] at e0
    refine q_when (et_or (a := false) (et_test e0) fun _ => et_or (et_not (et_B (ev_isName p1 d1))) fun _ => et_or (et_not (et_B (ev_isDay p2 d2))) fun _ => et_not (et_B (ev_isDay p3 d3))) (fun b H1 e1 => ?_) (fun b H1 e1 => ?_)
    · refine s_ret (v := .bl false) ev_c fun H2 e2 => ?_
      have := kk H2 (e1.trans e2)
      have hf : (nameD (ds.getD 1 .none) && dayD (ds.getD 2 .none) && dayD (ds.getD 3 .none)) = false := by
        cases h1 : nameD (ds.getD 1 .none) <;> cases h2 : dayD (ds.getD 2 .none) <;> cases h3 : dayD (ds.getD 3 .none) <;> first | rfl | (rw [h1, h2, h3] at b; cases b)
      rw [hf] at this
      exact this
    · have hf : nameD (ds.getD 1 .none) = true ∧ dayD (ds.getD 2 .none) = true ∧ dayD (ds.getD 3 .none) = true := by
        cases h1 : nameD (ds.getD 1 .none) <;> cases h2 : dayD (ds.getD 2 .none) <;> cases h3 : dayD (ds.getD 3 .none) <;> first | exact ⟨rfl, rfl, rfl⟩ | (rw [h1, h2, h3] at b; cases b)
      obtain ⟨i, hi, _⟩ := day_int hf.2.1
      obtain ⟨j, hj, _⟩ := day_int hf.2.2
      rw [hf.1, hf.2.1, hf.2.2] at kk
      rw [hi] at d2 kk
      rw [hj] at d3 kk
      cases d2
      cases d3
      exact s_ret (v := .bl (leD (.int i) (.int j))) (ev_le (p2.mono e1) (p3.mono e1)) fun H2 e2 => kk H2 (e1.trans e2)
  · have c' : ¬ (ds.length : Int) = (n : Int) := by omega
    rw [decide_eq_false c'] at e0
    have hf : saidD ds n = false := by
      unfold saidD
      rw [decide_eq_false c]
      rfl
    rw [hf] at kk
    refine q_when (b := true) (et_or (a := true) (b := true) (et_test e0) fun z => by cases z) (fun b H1 e1 => ?_) (fun z => by cases z)
    exact s_ret (v := .bl false) ev_c fun H2 e2 => kk H2 (e1.trans e2)
/-! ### is_entry -/
def entryD : PyData → Bool
  | .tuple (.str w :: x :: r) =>
    if decide (w = "tell") = true then saidD (.str w :: x :: r) 5 && worthD ((PyData.str w :: x :: r).getD 4 .none)
    else if decide (w = "clear") = true then saidD (.str w :: x :: r) 4
    else if decide (w = "like") = true then saidD (.str w :: x :: r) 5 && nameD ((PyData.str w :: x :: r).getD 4 .none)
    else decide (w = "undo") && (decide (((PyData.str w :: x :: r).length : Int) = 2) && numberD x)
  | _ => false
theorem entryD_eq (w : Str) (x : PyData) (r : List PyData) : entryD (.tuple (.str w :: x :: r)) = if decide (w = "tell") = true then saidD (.str w :: x :: r) 5 && worthD ((PyData.str w :: x :: r).getD 4 .none)
    else if decide (w = "clear") = true then saidD (.str w :: x :: r) 4
    else if decide (w = "like") = true then saidD (.str w :: x :: r) 5 && nameD ((PyData.str w :: x :: r).getD 4 .none)
    else decide (w = "undo") && (decide (((PyData.str w :: x :: r).length : Int) = 2) && numberD x) := rfl
def sp_is_entry (K : PySem.W.Frag) (C : CA) : Sp := fun vs H Q _ => ∃ (v : V) (d : PyData), vs = [v] ∧ Dq H d v ∧ ∀ H', Ex H H' → Q (.bl (entryD d)) H'
theorem len_is_entry {K : PySem.W.Frag} {C : CA} {vs : List V} {H : Hp} {Q : VK} {E : XK} (h : sp_is_entry K C vs H Q E) : vs.length = 1 := by
  obtain ⟨v, d, rfl, _⟩ := h
  rfl
/-- entry 0 -/
def t_is_entry (K : PySem.W.Frag) (C : CA) : TS :=
 (tSeq (tIfS (tOr (tNot (tB (tCB (rIsi K) (tCons (tVar 0) (tCons (tC (.ty "tuple")) tNil))))) (tOr (tTest (tOp (ltI) (tCB (lenA K) (tCons (tVar 0) tNil)) (tC (.int 2)))) (tNot (tB (tCB (rIsi K) (tCons (tOp (ixA K) (tVar 0) (tC (.int 0))) (tCons (tC (.ty "str")) tNil))))))) (tRet (tC (.bl false))) tNext)
 (tSeq (tIfS (tTest (tOp (eqA K) (tOp (ixA K) (tVar 0) (tC (.int 0))) (tC (.str "tell")))) (tRet (tAndV (tCall (sp_is_said K C) [] E0 (tCons (tVar 0) (tCons (tC (.int 5)) tNil))) (tCall (sp_is_worth K C) [] E0 (tCons (tOp (ixA K) (tVar 0) (tC (.int 4))) tNil)))) tNext)
 (tSeq (tIfS (tTest (tOp (eqA K) (tOp (ixA K) (tVar 0) (tC (.int 0))) (tC (.str "clear")))) (tRet (tCall (sp_is_said K C) [] E0 (tCons (tVar 0) (tCons (tC (.int 4)) tNil)))) tNext)
 (tSeq (tIfS (tTest (tOp (eqA K) (tOp (ixA K) (tVar 0) (tC (.int 0))) (tC (.str "like")))) (tRet (tAndV (tCall (sp_is_said K C) [] E0 (tCons (tVar 0) (tCons (tC (.int 5)) tNil))) (tCall (sp_is_name K C) [] E0 (tCons (tOp (ixA K) (tVar 0) (tC (.int 4))) tNil)))) tNext)
 (tRet (tAndV (tOp (eqA K) (tOp (ixA K) (tVar 0) (tC (.int 0))) (tC (.str "undo"))) (tAndV (tOp (eqA K) (tCB (lenA K) (tCons (tVar 0) tNil)) (tC (.int 2))) (tCall (sp_is_number K C) [] E0 (tCons (tOp (ixA K) (tVar 0) (tC (.int 1))) tNil)))))))))
theorem said_len {ds : List PyData} {n : Nat} (h : saidD ds n = true) : ds.length = n := by
  unfold saidD at h
  rw [Bool.and_eq_true, Bool.and_eq_true, Bool.and_eq_true, Bool.and_eq_true] at h
  exact of_decide_eq_true h.1.1.1.1
theorem pure_is_entry {K : PySem.W.Frag} {C : CA} {vs : List V} {H : Hp} {Q : VK} {E : XK} (h : sp_is_entry K C vs H Q E) : t_is_entry K C { nx := fun _ H' => Q .non H', rt := Q } (startN 1 vs) H := by
  obtain ⟨v, d, rfl, hd, kk⟩ := h
  have h1 := ev_isiD (K := K) (ta := tVar 0) (σ := startN 1 [v]) good_tuple (ev_var rfl) hd
  rw [isi_tuple] at h1
  -- no tuple
  have off : tupD d = false → entryD d = false → t_is_entry K C { nx := fun _ H' => Q .non H', rt := Q } (startN 1 [v]) H := fun h hf => by
    rw [h] at h1
    rw [hf] at kk
    refine q_when (b := true) (et_or (a := true) (b := true) (et_not (a := false) (et_B h1)) fun z => by cases z) (fun _ H1 e1 => ?_) (fun z => by cases z)
    exact s_ret (v := .bl false) ev_c fun H2 e2 => kk H2 (e1.trans e2)
  cases d with
  | none => exact off rfl rfl
  | bool b => exact off rfl rfl
  | int i => exact off rfl rfl
  | list l => exact off rfl rfl
  | str s => exact off rfl rfl
  | dict l => exact off rfl rfl
  | tuple ds =>
    clear off
    cases hd with
    | @tup a xs _ ha hall =>
    have hlx := hall.length
    have hlen : ∀ H1, Ex H H1 → Ev (tCB (lenA K) (tCons (tVar 0) tNil)) (startN 1 [.ref a]) H1 (.int (ds.length : Int)) := fun H1 e => by rw [hlx]; exact ev_lenT (ev_var rfl) (st_of (e a _ ha))
    have e2 := ev_lt (hlen H (Ex.refl H)) (ev_c (v := .int 2))
    match ds, hall, hlx, hlen, e2, kk with
    | [], hall, hlx, hlen, e2, kk =>
      refine q_when (b := true) (et_or (a := false) (b := true) (et_not (a := true) (et_B h1)) fun _ => et_or (a := true) (b := true) (et_test e2) fun z => by cases z) (fun _ H1 e1 => ?_) (fun z => by cases z)
      exact s_ret (v := .bl false) ev_c fun H2 e2 => kk H2 (e1.trans e2)
    | [x], hall, hlx, hlen, e2, kk =>
      have hf : entryD (.tuple [x]) = false := by cases x <;> rfl
      rw [hf] at kk
      refine q_when (b := true) (et_or (a := false) (b := true) (et_not (a := true) (et_B h1)) fun _ => et_or (a := true) (b := true) (et_test e2) fun z => by cases z) (fun _ H1 e1 => ?_) (fun z => by cases z)
      exact s_ret (v := .bl false) ev_c fun H2 e2 => kk H2 (e1.trans e2)
    | w :: x :: r, hall, hlx, hlen, e2, kk =>
      have hl2 : ¬ (((w :: x :: r).length : Int) < 2) := by rw [List.length_cons, List.length_cons]; omega
      rw [decide_eq_false hl2] at e2
      obtain ⟨v0, p0, d0⟩ := ex_partD (K := K) (ta := tVar 0) (σ := startN 1 [.ref a]) 0 (ev_var rfl) ha hall (by simp)
      have d0 : Dq H w v0 := d0
      have h3 := ev_isiD (K := K) good_str p0 d0
      rw [isi_str] at h3
      -- no text ahead
      have off : strD w = false → entryD (.tuple (w :: x :: r)) = false → t_is_entry K C { nx := fun _ H' => Q .non H', rt := Q } (startN 1 [.ref a]) H := fun h hf => by
        rw [h] at h3
        rw [hf] at kk
        refine q_when (b := true) (et_or (a := false) (b := true) (et_not (a := true) (et_B h1)) fun _ => et_or (a := false) (b := true) (et_test e2) fun _ => et_not (a := false) (et_B h3)) (fun _ H1 e1 => ?_) (fun z => by cases z)
        exact s_ret (v := .bl false) ev_c fun H2 e2 => kk H2 (e1.trans e2)
      cases w with
      | none => exact off rfl rfl
      | bool b => exact off rfl rfl
      | int i => exact off rfl rfl
      | list l => exact off rfl rfl
      | tuple l => exact off rfl rfl
      | dict l => exact off rfl rfl
      | str w =>
        clear off
        cases d0 with | str _ hw => ?_
        refine q_when (b := false) (et_or (a := false) (b := false) (et_not (a := true) (et_B h1)) fun _ => et_or (a := false) (b := false) (et_test e2) fun _ => et_not (a := true) (et_B h3)) (fun z => by cases z) (fun _ H1 e1 => ?_)
        have tw : ∀ (u : Str) H2, Ex H H2 → Ev (tOp (eqA K) (tOp (ixA K) (tVar 0) (tC (.int 0))) (tC (.str u))) (startN 1 [.ref a]) H2 (.bl (decide (w = u))) := fun u H2 e => ev_eqS (p0.mono e) ev_c
        have said : ∀ (n : Nat) H2, 4 ≤ n → Ex H H2 → Ev (tCall (sp_is_said K C) [] E0 (tCons (tVar 0) (tCons (tC (.int (n : Int))) tNil))) (startN 1 [.ref a]) H2 (.bl (saidD (.str w :: x :: r) n)) := fun n H2 hn e =>
          ev_call (ea_cons (ev_var rfl) (ea_cons ev_c ea_nil)) fun H3 e3 Q q E => ⟨a, xs, _, n, rfl, (e.trans e3) a _ ha, hall.mono (e.trans e3), hn, q⟩
        have ed : entryD (.tuple (.str w :: x :: r)) = if decide (w = "tell") = true then saidD (.str w :: x :: r) 5 && worthD ((PyData.str w :: x :: r).getD 4 .none)
          else if decide (w = "clear") = true then saidD (.str w :: x :: r) 4
          else if decide (w = "like") = true then saidD (.str w :: x :: r) 5 && nameD ((PyData.str w :: x :: r).getD 4 .none)
          else decide (w = "undo") && (decide (((PyData.str w :: x :: r).length : Int) = 2) && numberD x) := rfl
        rw [ed] at kk
        have part4 : ∀ H2, Ex H H2 → saidD (.str w :: x :: r) 5 = true → ∃ v4, Ev (tOp (ixA K) (tVar 0) (tC (.int 4))) (startN 1 [.ref a]) H2 v4 ∧ Dq H2 ((PyData.str w :: x :: r).getD 4 .none) v4 := fun H2 e hs =>
          ex_partD (K := K) (ta := tVar 0) 4 (ev_var rfl) (e a _ ha) (hall.mono e) (by rw [said_len hs]; decide)
        refine q_when (et_test (tw "tell" H1 e1)) (fun c H2 e2 => ?_) (fun c H2 e2 => ?_)
        · rw [if_pos c] at kk
          refine s_ret (D := { nx := _, rt := Q }) (v := .bl (saidD (.str w :: x :: r) 5 && worthD ((PyData.str w :: x :: r).getD 4 .none))) (ev_andV (said 5 H2 (by decide) (e1.trans e2)) fun hs => ?_) fun H3 e3 => kk H3 ((e1.trans e2).trans e3)
          obtain ⟨v4, g1, g2⟩ := part4 H2 (e1.trans e2) hs
          exact ev_isWorth g1 g2
        · rw [if_neg (by rw [c]; decide)] at kk
          have E2 := e1.trans e2
          refine q_when (et_test (tw "clear" H2 E2)) (fun c H3 e3 => ?_) (fun c H3 e3 => ?_)
          · rw [if_pos c] at kk
            exact s_ret (D := { nx := _, rt := Q }) (v := .bl (saidD (.str w :: x :: r) 4)) (said 4 H3 (by decide) (E2.trans e3)) fun H4 e4 => kk H4 ((E2.trans e3).trans e4)
          · rw [if_neg (by rw [c]; decide)] at kk
            have E3 := E2.trans e3
            refine q_when (et_test (tw "like" H3 E3)) (fun c H4 e4 => ?_) (fun c H4 e4 => ?_)
            · rw [if_pos c] at kk
              refine s_ret (D := { nx := _, rt := Q }) (v := .bl (saidD (.str w :: x :: r) 5 && nameD ((PyData.str w :: x :: r).getD 4 .none))) (ev_andV (said 5 H4 (by decide) (E3.trans e4)) fun hs => ?_) fun H5 e5 => kk H5 ((E3.trans e4).trans e5)
              obtain ⟨v4, g1, g2⟩ := part4 H4 (E3.trans e4) hs
              exact ev_isName g1 g2
            · rw [if_neg (by rw [c]; decide)] at kk
              have E4 := E3.trans e4
              obtain ⟨v1, p1, d1⟩ := ex_partD (K := K) (ta := tVar 0) (σ := startN 1 [.ref a]) 1 (ev_var rfl) (E4 a _ ha) (hall.mono E4) (by simp)
              have d1 : Dq H4 x v1 := d1
              exact s_ret (v := .bl (decide (w = "undo") && (decide (((PyData.str w :: x :: r).length : Int) = 2) && numberD x))) (ev_andV (tw "undo" H4 E4) fun _ => ev_andV (ev_eqI (hlen H4 E4) ev_c) fun _ => ev_isNumber p1 d1) fun H5 e5 => kk H5 (E4.trans e5)
/-- a good entry is one -/
theorem Ent.isEntry {e : Ent} {k : Int} (h : e.ok k) : entryD (.tuple e.ds) = true := by
  have tt : decide (("tell" : Str) = "tell") = true := by decide +kernel
  have ct : decide (("clear" : Str) = "tell") = false := by decide +kernel
  have cc : decide (("clear" : Str) = "clear") = true := by decide +kernel
  have lt : decide (("like" : Str) = "tell") = false := by decide +kernel
  have lc : decide (("like" : Str) = "clear") = false := by decide +kernel
  have ll : decide (("like" : Str) = "like") = true := by decide +kernel
  have ut : decide (("undo" : Str) = "tell") = false := by decide +kernel
  have uc : decide (("undo" : Str) = "clear") = false := by decide +kernel
  have ul : decide (("undo" : Str) = "like") = false := by decide +kernel
  have uu : decide (("undo" : Str) = "undo") = true := by decide +kernel
  have day : ∀ {i : Int}, 0 ≤ i → i ≤ 1000000 → dayD (.int i) = true := fun h1 h2 => by
    show (decide _ && decide _) = true
    rw [decide_eq_true h1, decide_eq_true h2]; rfl
  cases e with
  | tell n lo hi w =>
    obtain ⟨h1, h2, h3, h4, h5, h6⟩ := h
    have a1 : nameD (.str n) = true := nameB_iff.mpr h1
    have a2 : dayD (.int lo) = true := day h2 (by omega)
    have a3 : dayD (.int hi) = true := day (by omega) h4
    have a4 : leD (.int lo) (.int hi) = true := decide_eq_true h3
    have a5 : worthD (.int w) = true := by
      show (decide _ && decide _) = true
      rw [decide_eq_true h5, decide_eq_true h6]; rfl
    show entryD (.tuple (.str "tell" :: .str n :: [.int lo, .int hi, .int w])) = true
    rw [entryD_eq, if_pos tt]
    show (saidD [.str "tell", .str n, .int lo, .int hi, .int w] 5 && worthD (.int w)) = true
    rw [a5, Bool.and_true]
    show (decide _ && nameD (.str n) && dayD (.int lo) && dayD (.int hi) && leD (.int lo) (.int hi)) = true
    rw [a1, a2, a3, a4]; rfl
  | clear n lo hi =>
    obtain ⟨h1, h2, h3, h4⟩ := h
    have a1 : nameD (.str n) = true := nameB_iff.mpr h1
    have a2 : dayD (.int lo) = true := day h2 (by omega)
    have a3 : dayD (.int hi) = true := day (by omega) h4
    have a4 : leD (.int lo) (.int hi) = true := decide_eq_true h3
    show entryD (.tuple (.str "clear" :: .str n :: [.int lo, .int hi])) = true
    rw [entryD_eq, if_neg (by rw [ct]; decide), if_pos cc]
    show (decide _ && nameD (.str n) && dayD (.int lo) && dayD (.int hi) && leD (.int lo) (.int hi)) = true
    rw [a1, a2, a3, a4]; rfl
  | like n lo hi o =>
    obtain ⟨h1, h2, h3, h4, h5⟩ := h
    have a1 : nameD (.str n) = true := nameB_iff.mpr h1
    have a2 : dayD (.int lo) = true := day h2 (by omega)
    have a3 : dayD (.int hi) = true := day (by omega) h4
    have a4 : leD (.int lo) (.int hi) = true := decide_eq_true h3
    have a5 : nameD (.str o) = true := nameB_iff.mpr h5
    show entryD (.tuple (.str "like" :: .str n :: [.int lo, .int hi, .str o])) = true
    rw [entryD_eq, if_neg (by rw [lt]; decide), if_neg (by rw [lc]; decide), if_pos ll]
    show (saidD [.str "like", .str n, .int lo, .int hi, .str o] 5 && nameD (.str o)) = true
    rw [a5, Bool.and_true]
    show (decide _ && nameD (.str n) && dayD (.int lo) && dayD (.int hi) && leD (.int lo) (.int hi)) = true
    rw [a1, a2, a3, a4]; rfl
  | undo j =>
    show entryD (.tuple (.str "undo" :: .int j :: [])) = true
    rw [entryD_eq, if_neg (by rw [ut]; decide), if_neg (by rw [uc]; decide), if_neg (by rw [ul]; decide), uu]
    have : numberD (.int j) = true := decide_eq_true h.1
    rw [this]; rfl
end S
end
set_option Elab.async false
set_option linter.all false
set_option maxRecDepth 100000
set_option maxHeartbeats 4000000
namespace S
open PySem L2 Evl
/-! ### what is behind a number depends on the entries up to it -/
theorem downs_filter (ks : List Int) (p : Int → Bool) : (downs ks).filter p = downs (ks.filter p) :=
  downs_of ((downs_perm ks).filter p) ((downs_sorted ks).filter p)
theorem downs_congr {ks ls : List Int} (h : ks.Perm ls) : downs ks = downs ls := downs_of ((downs_perm ks).trans h) (downs_sorted ks)
theorem ups_congr {ks ls : List Int} (h : ks.Perm ls) : ups ks = ups ls := ups_of ((ups_perm ks).trans h) (ups_sorted ks)
theorem perm_of_mem {l m : List Int} (hl : l.Nodup) (hm : m.Nodup) (h : ∀ a, a ∈ l ↔ a ∈ m) : l.Perm m := by
  rw [List.perm_iff_count]
  intro a
  rw [List.Nodup.count hl, List.Nodup.count hm]
  by_cases e : a ∈ l
  · rw [if_pos e, if_pos ((h a).mp e)]
  · rw [if_neg e, if_neg (fun z => e ((h a).mpr z))]
theorem countStep_skip {B : Bk} {n k : Int} (st : List Int × List Int) (h : ¬ k ≤ n) : countStep B n st k = st := by
  unfold countStep
  rw [if_neg fun z => h z.1]
theorem countAll_filter (B : Bk) (n : Int) (ys : List Int) : countAll B n ys = countAll B n (ys.filter fun k => decide (k ≤ n)) := by
  unfold countAll
  generalize (([], []) : List Int × List Int) = st
  induction ys generalizing st with
  | nil => rfl
  | cons k r ih =>
    by_cases h : k ≤ n
    · rw [List.filter_cons, if_pos (decide_eq_true h), List.foldl_cons, List.foldl_cons, ih]
    · rw [List.filter_cons, if_neg (by simpa using h), List.foldl_cons, countStep_skip st h, ih]
theorem countAll_congr {B B' : Bk} {n : Int} {ys : List Int} (h : ∀ k ∈ ys, Bk.at B k = Bk.at B' k) : countAll B n ys = countAll B' n ys := by
  unfold countAll
  generalize (([], []) : List Int × List Int) = st
  induction ys generalizing st with
  | nil => rfl
  | cons k r ih =>
    have e : countStep B n st k = countStep B' n st k := by
      unfold countStep
      rw [h k List.mem_cons_self]
    rw [List.foldl_cons, List.foldl_cons, e, ih fun j hj => h j (List.mem_cons_of_mem _ hj)]
theorem mem_keys {B : Bk} {k : Int} : k ∈ B.map (·.1) ↔ (Bk.at B k).isSome = true := by
  constructor
  · intro h
    obtain ⟨e, he⟩ := Bk.at_isSome h
    rw [he]; rfl
  · intro h
    cases e : Bk.at B k with
    | none => rw [e] at h; cases h
    | some x => exact List.mem_map_of_mem (f := (·.1)) (Bk.at_mem e)
theorem countF_local {B B' : Bk} {n : Int} (hB : (B.map (·.1)).Nodup) (hB' : (B'.map (·.1)).Nodup) (h : ∀ k, k ≤ n → Bk.at B k = Bk.at B' k) : countF B n = countF B' n := by
  unfold countF
  rw [countAll_filter B, countAll_filter B', downs_filter, downs_filter]
  have hp : ((B.map (·.1)).filter fun k => decide (k ≤ n)).Perm ((B'.map (·.1)).filter fun k => decide (k ≤ n)) := by
    refine perm_of_mem (hB.filter _) (hB'.filter _) fun a => ?_
    rw [List.mem_filter, List.mem_filter, mem_keys, mem_keys, decide_eq_true_eq]
    constructor
    · rintro ⟨h1, h2⟩; rw [h a h2] at h1; exact ⟨h1, h2⟩
    · rintro ⟨h1, h2⟩; rw [← h a h2] at h1; exact ⟨h1, h2⟩
  rw [downs_congr hp]
  rw [countAll_congr (B := B) (B' := B')]
  intro k hk
  have := (downs_perm _).mem_iff.mp hk
  rw [List.mem_filter, decide_eq_true_eq] at this
  exact h k this.2
theorem saidL_congr {B B' : Bk} {day : Int} : ∀ {ns : List Int}, (∀ k ∈ ns, Bk.at B k = Bk.at B' k) → ∀ name, saidL B day ns name = saidL B' day ns name
  | [], _, _ => rfl
  | k :: r, h, name => by
    have ih := saidL_congr (B := B) (B' := B') (day := day) (ns := r) fun j hj => h j (List.mem_cons_of_mem _ hj)
    unfold saidL
    rw [h k List.mem_cons_self]
    cases Bk.at B' k with
    | none => exact ih name
    | some e =>
      cases e with
      | tell n lo hi w => dsimp only; rw [ih]
      | clear n lo hi => dsimp only; rw [ih]
      | like n lo hi o => dsimp only; rw [ih, ih]
      | undo j => exact ih name
theorem worth_local {B B' : Bk} {n : Int} (hB : (B.map (·.1)).Nodup) (hB' : (B'.map (·.1)).Nodup) (h : ∀ k, k ≤ n → Bk.at B k = Bk.at B' k) (name : Str) (day : Int) : worthF B n name day = worthF B' n name day := by
  unfold worthF saidF
  rw [countF_local hB hB' h]
  refine saidL_congr (fun k hk => ?_) name
  exact h k (countF_mem (List.mem_reverse.mp hk)).2
theorem at_filter {B : Bk} {c k : Int} (h : k < c) : Bk.at (B.filter fun q => decide (q.1 < c)) k = Bk.at B k := by
  induction B with
  | nil => rfl
  | cons p B ih =>
    by_cases e : p.1 < c
    · rw [List.filter_cons, if_pos (decide_eq_true e)]
      by_cases z : p.1 = k
      · rw [Bk.at_cons_pos z, Bk.at_cons_pos z]
      · rw [Bk.at_cons_neg z, Bk.at_cons_neg z, ih]
    · rw [List.filter_cons, if_neg (by simpa using e), ih]
      have z : ¬ p.1 = k := by omega
      rw [Bk.at_cons_neg z]
/-! ### how it came about -/
def dueStep (B : Bk) (name : Str) (day : Int) (st : List (List (Option Int)) × Option Int) (k : Int) : List (List (Option Int)) × Option Int :=
  if worthF B k name day = st.2 then st else (st.1 ++ [[some k, worthF B k name day]], worthF B k name day)
def dueAll (B : Bk) (name : Str) (day : Int) (ys : List Int) : List (List (Option Int)) × Option Int := ys.foldl (dueStep B name day) ([[some 0, none]], none)
def cameF (B : Bk) (name : Str) (day : Int) : List (List (Option Int)) := (dueAll B name day (ups (B.map (·.1)))).1
theorem dueAll_snoc (B : Bk) (name : Str) (day : Int) (ys : List Int) (k : Int) : dueAll B name day (ys ++ [k]) = dueStep B name day (dueAll B name day ys) k := by
  unfold dueAll
  rw [List.foldl_append]
  rfl
theorem dueAll_inv (B : Bk) (name : Str) (day : Int) (ys : List Int) : (∃ rs k, (dueAll B name day ys).1 = rs ++ [[some k, (dueAll B name day ys).2]]) ∧ (dueAll B name day ys).1.length ≤ ys.length + 1 ∧ ∀ r ∈ (dueAll B name day ys).1, ∃ k w, r = [some k, w] ∧ (k = 0 ∨ k ∈ ys) := by
  have : ∀ (n : Nat), n ≤ ys.length → (∃ rs k, (dueAll B name day (ys.take n)).1 = rs ++ [[some k, (dueAll B name day (ys.take n)).2]]) ∧ (dueAll B name day (ys.take n)).1.length ≤ n + 1 ∧ ∀ r ∈ (dueAll B name day (ys.take n)).1, ∃ k w, r = [some k, w] ∧ (k = 0 ∨ k ∈ ys) := by
    intro n
    induction n with
    | zero =>
      intro _
      refine ⟨⟨[], 0, rfl⟩, Nat.le_refl _, fun r hr => ?_⟩
      have e : r = [some 0, none] := List.mem_singleton.mp hr
      exact ⟨0, none, e, .inl rfl⟩
    | succ n ih =>
      intro hn
      have hx : ys[n]? = some ys[n] := List.getElem?_eq_getElem (by omega)
      obtain ⟨h1, h2, h3⟩ := ih (by omega)
      rw [take_snoc hx, dueAll_snoc]
      unfold dueStep
      split
      · exact ⟨h1, by omega, h3⟩
      · refine ⟨⟨_, _, rfl⟩, by rw [List.length_append]; show _ + 1 ≤ _; omega, fun r hr => ?_⟩
        rcases List.mem_append.mp hr with h | h
        · exact h3 r h
        · exact ⟨_, _, List.mem_singleton.mp h, .inr (List.getElem_mem _)⟩
  have h := this ys.length (Nat.le_refl _)
  rw [List.take_length] at h
  exact h
theorem dueAll_congr {B B' : Bk} {name : Str} {day : Int} {ys : List Int} (h : ∀ k ∈ ys, worthF B k name day = worthF B' k name day) : dueAll B name day ys = dueAll B' name day ys := by
  unfold dueAll
  generalize (([[some 0, none]], none) : List (List (Option Int)) × Option Int) = st
  induction ys generalizing st with
  | nil => rfl
  | cons k r ih =>
    have e : dueStep B name day st k = dueStep B' name day st k := by
      unfold dueStep
      rw [h k List.mem_cons_self]
    rw [List.foldl_cons, List.foldl_cons, e, ih fun j hj => h j (List.mem_cons_of_mem _ hj)]
def rowLt (c : Int) : List (Option Int) → Bool
  | some k :: _ => decide (k < c)
  | _ => false
theorem ups_last {B : Bk} (hg : GoodBk B) (hn : (B.map (·.1)).Nodup) (hne : B ≠ []) : ups (B.map (·.1)) = ups ((B.filter fun q => decide (q.1 < maxK B)).map (·.1)) ++ [maxK B] := by
  refine (ups_of ?_ ?_).symm
  · have e : (B.filter fun q => decide (q.1 < maxK B)).map (·.1) = (B.map (·.1)).filter fun k => decide (k < maxK B) := by
      rw [List.filter_map]; rfl
    rw [e]
    refine perm_of_mem ?_ hn fun a => ?_
    · rw [List.nodup_append]
      refine ⟨(ups_perm _).nodup_iff.mpr (hn.filter _), by simp, fun a ha b hb => ?_⟩
      have h1 := (ups_perm _).mem_iff.mp ha
      rw [List.mem_filter, decide_eq_true_eq] at h1
      rw [List.mem_singleton.mp hb]
      omega
    · rw [List.mem_append, (ups_perm _).mem_iff, List.mem_filter, decide_eq_true_eq, List.mem_singleton]
      constructor
      · rintro (h | h)
        · exact h.1
        · rw [h]; exact maxK_mem hg hne
      · intro h
        have := maxK_le h
        by_cases z : a = maxK B
        · exact .inr z
        · exact .inl ⟨h, by omega⟩
  · rw [List.pairwise_append]
    refine ⟨ups_sorted _, by simp, fun a ha b hb => ?_⟩
    have h1 := (ups_perm _).mem_iff.mp ha
    obtain ⟨q, hq, rfl⟩ := List.mem_map.mp h1
    have h2 := (List.mem_filter.mp hq).2
    rw [decide_eq_true_eq] at h2
    rw [List.mem_singleton.mp hb]
    omega
theorem came_fewer {B : Bk} (hg : GoodBk B) (hn : (B.map (·.1)).Nodup) (name : Str) (day : Int) : cameF (B.filter fun q => decide (q.1 < maxK B)) name day = (cameF B name day).filter (rowLt (if maxK B > 1 then maxK B else 1)) := by
  by_cases hne : B = []
  · subst hne
    have e : ups [] = [] := (ups_of .nil .nil).symm
    show (dueAll [] name day (ups [])).1 = ((dueAll [] name day (ups [])).1).filter (rowLt 1)
    rw [e]
    rfl
  · have hm : 1 ≤ maxK B := by
      obtain ⟨q, hq, e⟩ := List.mem_map.mp (maxK_mem hg hne)
      have := (hg q hq).1
      omega
    have hc : (if maxK B > 1 then maxK B else 1) = maxK B := by split <;> omega
    rw [hc]
    unfold cameF
    rw [ups_last hg hn hne, dueAll_snoc]
    have hn' : ((B.filter fun q => decide (q.1 < maxK B)).map (·.1)).Nodup := by
      have e : (B.filter fun q => decide (q.1 < maxK B)).map (·.1) = (B.map (·.1)).filter fun k => decide (k < maxK B) := by
        rw [List.filter_map]; rfl
      rw [e]
      exact hn.filter _
    have hlt : ∀ k ∈ ups ((B.filter fun q => decide (q.1 < maxK B)).map (·.1)), k < maxK B := fun k hk => by
      obtain ⟨q, hq, rfl⟩ := List.mem_map.mp ((ups_perm _).mem_iff.mp hk)
      have h2 := (List.mem_filter.mp hq).2
      rwa [decide_eq_true_eq] at h2
    rw [dueAll_congr (B := B.filter fun q => decide (q.1 < maxK B)) (B' := B) fun k hk => worth_local hn' hn (fun j hj => at_filter (by have := hlt k hk; omega)) name day]
    generalize hd : dueAll B name day (ups ((B.filter fun q => decide (q.1 < maxK B)).map (·.1))) = st
    have inv := (dueAll_inv B name day (ups ((B.filter fun q => decide (q.1 < maxK B)).map (·.1)))).2.2
    rw [hd] at inv
    have keep : st.1.filter (rowLt (maxK B)) = st.1 := by
      refine List.filter_eq_self.mpr fun r hr => ?_
      obtain ⟨k, w, rfl, hk⟩ := inv r hr
      show decide (k < maxK B) = true
      rcases hk with rfl | hk
      · exact decide_eq_true (by omega)
      · exact decide_eq_true (hlt k hk)
    unfold dueStep
    split
    · rw [keep]
    · rw [List.filter_append, keep, List.filter_cons, if_neg (by show ¬ decide (maxK B < maxK B) = true; simp)]
      simp
end S
set_option Elab.async false
set_option linter.all false
set_option maxRecDepth 100000
set_option maxHeartbeats 4000000
namespace S
open PySem L2 Evl
/-! ### stretches of one value, the last first -/
section
variable {α : Type} [DecidableEq α] {w : Int → α} {low : Int}
def segR (R : List (Int × Int × α)) (s : Int × Int × α) : List (Int × Int × α) :=
  match R with
  | [] => [s]
  | l :: r => if l.2.2 = s.2.2 then (l.1, s.2.1, s.2.2) :: r else s :: l :: r
def dayP (x : α) (R : List (Int × Int × α)) (d : Int) : List (Int × Int × α) :=
  match R with
  | [] => [(d, d, x)]
  | l :: r => if l.2.1 = d - 1 ∧ l.2.2 = x then (l.1, d, x) :: r else (d, d, x) :: l :: r
def dayR (keep : α → Bool) (w : Int → α) (R : List (Int × Int × α)) (d : Int) : List (Int × Int × α) := if keep (w d) = true then dayP (w d) R d else R
theorem dayP_yes {x : α} {l : Int × Int × α} {r : List (Int × Int × α)} {d : Int} (h : l.2.1 = d - 1 ∧ l.2.2 = x) : dayP x (l :: r) d = (l.1, d, x) :: r := if_pos h
theorem dayP_no {x : α} {l : Int × Int × α} {r : List (Int × Int × α)} {d : Int} (h : ¬ (l.2.1 = d - 1 ∧ l.2.2 = x)) : dayP x (l :: r) d = (d, d, x) :: l :: r := if_neg h
theorem dayR_yes {keep : α → Bool} {w : Int → α} {x : α} {R : List (Int × Int × α)} {d : Int} (e : w d = x) (h : keep x = true) : dayR keep w R d = dayP x R d := by
  subst e
  exact if_pos h
theorem dayR_no {keep : α → Bool} {w : Int → α} {x : α} {R : List (Int × Int × α)} {d : Int} (e : w d = x) (h : keep x = false) : dayR keep w R d = R := by
  subst e
  exact if_neg (by rw [h]; decide)
def dl (a : Int) (n : Nat) : List Int := (List.range n).map fun (i : Nat) => a + (i : Int)
theorem dl_succ (a : Int) (n : Nat) : dl a (n + 1) = dl a n ++ [a + (n : Int)] := by
  unfold dl
  rw [List.range_succ, List.map_append]
  rfl
theorem dl_add (a : Int) (m n : Nat) : dl a (m + n) = dl a m ++ dl (a + (m : Int)) n := by
  induction n with
  | zero => simp [dl]
  | succ n ih =>
    rw [← Nat.add_assoc, dl_succ, ih, dl_succ, List.append_assoc]
    have : a + ((m + n : Nat) : Int) = a + (m : Int) + (n : Int) := by omega
    rw [this]
theorem dl_len (a : Int) (n : Nat) : (dl a n).length = n := by unfold dl; rw [List.length_map, List.length_range]
theorem dl_get {a : Int} {n i : Nat} (h : i < n) : (dl a n)[i]? = some (a + (i : Int)) := by
  unfold dl
  rw [List.getElem?_map, List.getElem?_range h]
  rfl
/-- runs day by day, the last first -/
def daysR (keep : α → Bool) (w : Int → α) (ds : List Int) : List (Int × Int × α) := ds.foldl (dayR keep w) []
theorem daysR_snoc (keep : α → Bool) (w : Int → α) (ds : List Int) (d : Int) : daysR keep w (ds ++ [d]) = dayR keep w (daysR keep w ds) d := by
  unfold daysR
  rw [List.foldl_append]
  rfl
/-- R, read from behind, goes over low .. b, of neighbours that are unlike -/
def CovR (w : Int → α) (low : Int) : List (Int × Int × α) → Int → Prop
  | [], b => b = low - 1
  | s :: r, b => s.2.1 = b ∧ s.1 ≤ s.2.1 ∧ (∀ x, s.1 ≤ x → x ≤ s.2.1 → w x = s.2.2) ∧ (∀ l, r.head? = some l → l.2.2 ≠ s.2.2) ∧ CovR w low r (s.1 - 1)
theorem CovR.bound : ∀ {R : List (Int × Int × α)} {b : Int}, CovR w low R b → low - 1 ≤ b ∧ ∀ l ∈ R, low ≤ l.1 ∧ l.1 ≤ l.2.1 ∧ l.2.1 ≤ b ∧ ∀ x, l.1 ≤ x → x ≤ l.2.1 → w x = l.2.2
  | [], b, h => ⟨by have : b = low - 1 := h; omega, fun _ z => by cases z⟩
  | s :: r, b, h => by
    obtain ⟨h1, h2, h3, h4, h5⟩ := h
    obtain ⟨g1, g2⟩ := CovR.bound h5
    refine ⟨by omega, fun l hl => ?_⟩
    rcases List.mem_cons.mp hl with rfl | hl
    · exact ⟨by omega, h2, by omega, h3⟩
    · obtain ⟨k1, k2, k3, k4⟩ := g2 l hl
      exact ⟨k1, k2, by omega, k4⟩
theorem CovR.seg {R : List (Int × Int × α)} {lo hi : Int} {v : α} (h : CovR w low R (lo - 1)) (hl : lo ≤ hi) (hv : ∀ x, lo ≤ x → x ≤ hi → w x = v) : CovR w low (segR R (lo, hi, v)) hi := by
  cases R with
  | nil => exact ⟨rfl, hl, hv, (fun _ z => by cases z), h⟩
  | cons s r =>
    obtain ⟨h1, h2, h3, h4, h5⟩ := h
    unfold segR
    by_cases e : s.2.2 = v
    · show CovR w low (if s.2.2 = v then (s.1, hi, v) :: r else (lo, hi, v) :: s :: r) hi
      rw [if_pos e]
      refine ⟨rfl, by show s.1 ≤ hi; omega, fun x hx1 hx2 => ?_, fun l hl => by rw [← e]; exact h4 l hl, h5⟩
      by_cases z : x ≤ s.2.1
      · rw [h3 x hx1 z, e]
      · exact hv x (by omega) hx2
    · show CovR w low (if s.2.2 = v then (s.1, hi, v) :: r else (lo, hi, v) :: s :: r) hi
      rw [if_neg e]
      refine ⟨rfl, hl, hv, fun l hl => ?_, h1, h2, h3, h4, h5⟩
      rw [← Option.some.inj hl]
      exact e
/-- a stretch, day by day -/
theorem dayR_seg {keep : α → Bool} {v : α} (hk : keep v = true) {R : List (Int × Int × α)} {a : Int} (hR : ∀ l, R.head? = some l → ¬ (l.2.1 = a - 1 ∧ l.2.2 = v)) : ∀ n : Nat, (∀ x, a ≤ x → x ≤ a + (n : Int) → w x = v) → (dl a (n + 1)).foldl (dayR keep w) R = (a, a + (n : Int), v) :: R
  | 0, hv => by
    have h0 : w a = v := hv a (Int.le_refl _) (by omega)
    have e : dl a (0 + 1) = [a] := by simp [dl]
    rw [e]
    show dayR keep w R a = _
    unfold dayR
    rw [h0, if_pos hk]
    have e0 : a + ((0 : Nat) : Int) = a := by omega
    rw [e0]
    cases R with
    | nil => rfl
    | cons l r => exact if_neg (hR l rfl)
  | n + 1, hv => by
    have ih := dayR_seg hk hR n fun x h1 h2 => hv x h1 (by omega)
    rw [dl_succ, List.foldl_append, ih]
    have h0 : w (a + ((n + 1 : Nat) : Int)) = v := hv _ (by omega) (by omega)
    show dayR keep w ((a, a + (n : Int), v) :: R) (a + ((n + 1 : Nat) : Int)) = _
    unfold dayR
    rw [h0, if_pos hk]
    have e0 : a + (n : Int) = a + ((n + 1 : Nat) : Int) - 1 := by omega
    exact if_pos ⟨e0, rfl⟩
theorem dayR_skip {keep : α → Bool} {R : List (Int × Int × α)} : ∀ {ds : List Int}, (∀ x ∈ ds, keep (w x) = false) → ds.foldl (dayR keep w) R = R
  | [], _ => rfl
  | d :: ds, h => by
    rw [List.foldl_cons]
    have : dayR keep w R d = R := by
      unfold dayR
      rw [if_neg (by rw [h d List.mem_cons_self]; decide)]
    rw [this]
    exact dayR_skip fun x hx => h x (List.mem_cons_of_mem _ hx)
theorem mem_dl {a x : Int} {n : Nat} (h : x ∈ dl a n) : a ≤ x ∧ x < a + (n : Int) := by
  unfold dl at h
  obtain ⟨i, hi, rfl⟩ := List.mem_map.mp h
  have := List.mem_range.mp hi
  omega
theorem days_of_cov (keep : α → Bool) : ∀ {R : List (Int × Int × α)} {b : Int}, CovR w low R b → daysR keep w (dl low (b - low + 1).toNat) = R.filter fun s => keep s.2.2
  | [], b, h => by
    have h : b = low - 1 := h
    subst h
    have : (low - 1 - low + 1).toNat = 0 := by omega
    rw [this]
    rfl
  | s :: r, b, h => by
    obtain ⟨h1, h2, h3, h4, h5⟩ := h
    have ih := days_of_cov keep h5
    obtain ⟨g1, g2⟩ := CovR.bound h5
    have hn : (b - low + 1).toNat = (s.1 - 1 - low + 1).toNat + ((s.2.1 - s.1).toNat + 1) := by omega
    have ha : low + (((s.1 - 1 - low + 1).toNat : Nat) : Int) = s.1 := by omega
    have hb : s.1 + (((s.2.1 - s.1).toNat : Nat) : Int) = s.2.1 := by omega
    rw [hn, dl_add, ha]
    unfold daysR at ih ⊢
    rw [List.foldl_append, ih]
    by_cases hk : keep s.2.2 = true
    · rw [dayR_seg hk (v := s.2.2) ?_ _ (by rw [hb]; exact h3), hb, List.filter_cons, if_pos hk]
      intro l hl ⟨z1, z2⟩
      cases r with
      | nil => cases hl
      | cons x r' =>
        by_cases hx : keep x.2.2 = true
        · rw [List.filter_cons, if_pos hx] at hl
          exact h4 x rfl (by rw [Option.some.inj hl]; exact z2)
        · rw [List.filter_cons, if_neg hx] at hl
          have hm : l ∈ r' := (List.mem_filter.mp (List.mem_of_mem_head? (by rw [hl]; rfl))).1
          obtain ⟨k1, k2, k3, k4, k5⟩ := h5
          have := (CovR.bound k5).2 l hm
          omega
    · have hk' : keep s.2.2 = false := by simpa using hk
      rw [List.filter_cons, if_neg hk]
      refine dayR_skip fun x hx => ?_
      have := mem_dl hx
      rw [h3 x this.1 (by omega)]
      exact hk'
/-! ### rows of begins, put together -/
def tri (high : Int) : List (Int × α) → List (Int × Int × α)
  | [] => []
  | [r] => [(r.1, high, r.2)]
  | r :: q :: t => (r.1, q.1 - 1, r.2) :: tri high (q :: t)
def strR (high : Int) (rows : List (Int × α)) : List (Int × Int × α) := (tri high rows).foldl segR []
theorem tri_len {high : Int} : ∀ rows : List (Int × α), (tri high rows).length = rows.length
  | [] => rfl
  | [_] => rfl
  | _ :: q :: t => by rw [tri, List.length_cons, tri_len (q :: t), List.length_cons, List.length_cons, List.length_cons]
theorem segR_yes {l s : Int × Int × α} {r : List (Int × Int × α)} (h : l.2.2 = s.2.2) : segR (l :: r) s = (l.1, s.2.1, s.2.2) :: r := if_pos h
theorem segR_no {l s : Int × Int × α} {r : List (Int × Int × α)} (h : ¬ l.2.2 = s.2.2) : segR (l :: r) s = s :: l :: r := if_neg h
theorem tri_get {high : Int} : ∀ {rows : List (Int × α)} {i : Nat} {r : Int × α}, rows[i]? = some r → (tri high rows)[i]? = some (r.1, (rows[i + 1]?.map fun q => q.1 - 1).getD high, r.2)
  | [x], 0, r, h => by cases h; rfl
  | [x], i + 1, r, h => by cases h
  | x :: q :: t, 0, r, h => by cases h; rfl
  | x :: q :: t, i + 1, r, h => by
    have := tri_get (high := high) (rows := q :: t) (i := i) (r := r) h
    rw [tri]
    exact this
/-- w stays from one begin to the day ahead of the next -/
def Steps (w : Int → α) (high : Int) : List Int → Prop
  | [] => True
  | [d] => d ≤ high ∧ ∀ x, d ≤ x → x ≤ high → w x = w d
  | d :: e :: t => d < e ∧ (∀ x, d ≤ x → x < e → w x = w d) ∧ Steps w high (e :: t)
theorem str_cov {high : Int} : ∀ {t : List Int} {d : Int} {R : List (Int × Int × α)}, CovR w low R (d - 1) → Steps w high (d :: t) → CovR w low ((tri high ((d :: t).map fun x => (x, w x))).foldl segR R) high
  | [], d, R, hR, hs => hR.seg hs.1 hs.2
  | e :: t, d, R, hR, hs => by
    have h1 : CovR w low (segR R (d, e - 1, w d)) (e - 1) := hR.seg (by have := hs.1; omega) fun x h1 h2 => hs.2.1 x h1 (by omega)
    have := str_cov (t := t) (d := e) (R := segR R (d, e - 1, w d)) h1 hs.2.2
    exact this
theorem steps_of {high : Int} {all : List Int} (hle : ∀ y ∈ all, y ≤ high) (hw : ∀ d x, d ∈ all → d ≤ x → x ≤ high → (∀ y ∈ all, ¬ (d < y ∧ y ≤ x)) → w x = w d) : ∀ {t : List Int} {d : Int}, (∀ y ∈ d :: t, y ∈ all) → (d :: t).Pairwise (· < ·) → (∀ y ∈ all, y ≤ d ∨ y ∈ t) → Steps w high (d :: t)
  | [], d, hm, hp, ho => ⟨hle d (hm d List.mem_cons_self), fun x h1 h2 => hw d x (hm d List.mem_cons_self) h1 h2 fun y hy => by
      rcases ho y hy with h | h
      · omega
      · cases h⟩
  | e :: t, d, hm, hp, ho => by
    have hp1 := List.pairwise_cons.mp hp
    have hp2 := List.pairwise_cons.mp hp1.2
    refine ⟨hp1.1 e List.mem_cons_self, fun x h1 h2 => hw d x (hm d List.mem_cons_self) h1 (by have := hle e (hm e (List.mem_cons_of_mem _ List.mem_cons_self)); omega) fun y hy => ?_, ?_⟩
    · rcases ho y hy with h | h
      · omega
      · rcases List.mem_cons.mp h with h | h
        · omega
        · have := hp2.1 y h; omega
    · refine steps_of hle hw (fun y hy => hm y (List.mem_cons_of_mem _ hy)) hp1.2 fun y hy => ?_
      rcases ho y hy with h | h
      · exact .inl (by have := hp1.1 e List.mem_cons_self; omega)
      · rcases List.mem_cons.mp h with h | h
        · exact .inl (by omega)
        · exact .inr h
end
/-! ### the days on which something begins or has ended -/
def Ent.span : Ent → Option (Int × Int)
  | .tell _ lo hi _ => some (lo, hi)
  | .clear _ lo hi => some (lo, hi)
  | .like _ lo hi _ => some (lo, hi)
  | .undo _ => none
def keysAdd (ks : List Int) (d : Int) : List Int := if d ∈ ks then ks else ks ++ [d]
def begAdd (low high : Int) (ks : List Int) (d : Int) : List Int := if low ≤ d ∧ d ≤ high then keysAdd ks d else ks
def begStep (B : Bk) (low high : Int) (ks : List Int) (k : Int) : List Int := match (Bk.at B k).bind Ent.span with
  | some s => begAdd low high (begAdd low high ks s.1) (s.2 + 1)
  | none => ks
def begAll (B : Bk) (ns : List Int) (low high : Int) : List Int := ns.foldl (begStep B low high) [low]
def begF (B : Bk) (ns : List Int) (low high : Int) : List Int := ups (begAll B ns low high)
theorem mem_keysAdd {ks : List Int} {d y : Int} : y ∈ keysAdd ks d ↔ y ∈ ks ∨ y = d := by
  unfold keysAdd
  split
  · constructor
    · exact .inl
    · rintro (h | h)
      · exact h
      · rw [h]; assumption
  · rw [List.mem_append, List.mem_singleton]
theorem nodup_keysAdd {ks : List Int} {d : Int} (h : ks.Nodup) : (keysAdd ks d).Nodup := by
  unfold keysAdd
  split
  · exact h
  · rename_i hd
    rw [List.nodup_append]
    refine ⟨h, by simp, fun a ha b hb => ?_⟩
    rw [List.mem_singleton.mp hb]
    intro e
    exact hd (by rw [← e]; exact ha)
theorem len_keysAdd (ks : List Int) (d : Int) : (keysAdd ks d).length ≤ ks.length + 1 := by
  unfold keysAdd
  split
  · omega
  · rw [List.length_append]; exact Nat.le_refl _
theorem begAdd_mem {low high : Int} {ks : List Int} {d y : Int} : y ∈ begAdd low high ks d ↔ y ∈ ks ∨ (y = d ∧ low ≤ d ∧ d ≤ high) := by
  unfold begAdd
  split
  · rename_i h; rw [mem_keysAdd]; constructor
    · rintro (h1 | h1)
      · exact .inl h1
      · exact .inr ⟨h1, h⟩
    · rintro (h1 | h1)
      · exact .inl h1
      · exact .inr h1.1
  · rename_i h
    constructor
    · exact .inl
    · rintro (h1 | h1)
      · exact h1
      · exact absurd h1.2 h
theorem begAdd_nodup {low high : Int} {ks : List Int} {d : Int} (h : ks.Nodup) : (begAdd low high ks d).Nodup := by
  unfold begAdd
  split
  · exact nodup_keysAdd h
  · exact h
theorem begAdd_len (low high : Int) (ks : List Int) (d : Int) : (begAdd low high ks d).length ≤ ks.length + 1 := by
  unfold begAdd
  split
  · exact len_keysAdd ks d
  · omega
theorem begAll_snoc (B : Bk) (ns : List Int) (k low high : Int) : begAll B (ns ++ [k]) low high = begStep B low high (begAll B ns low high) k := by
  unfold begAll
  rw [List.foldl_append]
  rfl
theorem begAll_facts (B : Bk) (low high : Int) (hlh : low ≤ high) (ns : List Int) : (begAll B ns low high).Nodup ∧ (begAll B ns low high).length ≤ 1 + 2 * ns.length ∧ (∀ y, y ∈ begAll B ns low high ↔ y = low ∨ (low ≤ y ∧ y ≤ high ∧ ∃ k ∈ ns, ∃ s, (Bk.at B k).bind Ent.span = some s ∧ (y = s.1 ∨ y = s.2 + 1))) := by
  have : ∀ n, n ≤ ns.length → (begAll B (ns.take n) low high).Nodup ∧ (begAll B (ns.take n) low high).length ≤ 1 + 2 * n ∧ (∀ y, y ∈ begAll B (ns.take n) low high ↔ y = low ∨ (low ≤ y ∧ y ≤ high ∧ ∃ k ∈ ns.take n, ∃ s, (Bk.at B k).bind Ent.span = some s ∧ (y = s.1 ∨ y = s.2 + 1))) := by
    intro n
    induction n with
    | zero =>
      intro _
      refine ⟨by simp [begAll], by simp [begAll], fun y => ?_⟩
      constructor
      · intro h; exact .inl (List.mem_singleton.mp h)
      · rintro (h | ⟨_, _, k, hk, _⟩)
        · rw [h]; exact List.mem_singleton.mpr rfl
        · cases hk
    | succ n ih =>
      intro hn
      obtain ⟨h1, h2, h3⟩ := ih (by omega)
      have hx : ns[n]? = some ns[n] := List.getElem?_eq_getElem (by omega)
      rw [take_snoc hx, begAll_snoc]
      unfold begStep
      cases e : (Bk.at B ns[n]).bind Ent.span with
      | none =>
        refine ⟨h1, by dsimp only; omega, fun y => ?_⟩
        dsimp only
        rw [h3]
        constructor
        · rintro (h | ⟨g1, g2, k, hk, s, hs, hy⟩)
          · exact .inl h
          · exact .inr ⟨g1, g2, k, List.mem_append_left _ hk, s, hs, hy⟩
        · rintro (h | ⟨g1, g2, k, hk, s, hs, hy⟩)
          · exact .inl h
          · rcases List.mem_append.mp hk with hk | hk
            · exact .inr ⟨g1, g2, k, hk, s, hs, hy⟩
            · rw [List.mem_singleton.mp hk, e] at hs; cases hs
      | some s =>
        dsimp only
        refine ⟨begAdd_nodup (begAdd_nodup h1), ?_, fun y => ?_⟩
        · have a1 := begAdd_len low high (begAll B (ns.take n) low high) s.1
          have a2 := begAdd_len low high (begAdd low high (begAll B (ns.take n) low high) s.1) (s.2 + 1)
          omega
        · rw [begAdd_mem, begAdd_mem, h3]
          constructor
          · rintro ((( h | ⟨g1, g2, k, hk, s', hs, hy⟩) | ⟨h, g1, g2⟩) | ⟨h, g1, g2⟩)
            · exact .inl h
            · exact .inr ⟨g1, g2, k, List.mem_append_left _ hk, s', hs, hy⟩
            · exact .inr ⟨by omega, by omega, ns[n], List.mem_append_right _ (List.mem_singleton.mpr rfl), s, e, .inl h⟩
            · exact .inr ⟨by omega, by omega, ns[n], List.mem_append_right _ (List.mem_singleton.mpr rfl), s, e, .inr h⟩
          · rintro (h | ⟨g1, g2, k, hk, s', hs, hy⟩)
            · exact .inl (.inl (.inl h))
            · rcases List.mem_append.mp hk with hk | hk
              · exact .inl (.inl (.inr ⟨g1, g2, k, hk, s', hs, hy⟩))
              · rw [List.mem_singleton.mp hk, e] at hs
                rw [← Option.some.inj hs] at hy
                rcases hy with hy | hy
                · exact .inl (.inr ⟨hy, by omega, by omega⟩)
                · exact .inr ⟨hy, by omega, by omega⟩
  have h := this ns.length (Nat.le_refl _)
  rw [List.take_length] at h
  exact h
theorem begF_facts (B : Bk) (low high : Int) (hlh : low ≤ high) (ns : List Int) : (∃ t, begF B ns low high = low :: t) ∧ (begF B ns low high).Pairwise (· < ·) ∧ (begF B ns low high).length ≤ 1 + 2 * ns.length ∧ (∀ y ∈ begF B ns low high, low ≤ y ∧ y ≤ high) ∧
    (∀ y, y ∈ begF B ns low high ↔ y = low ∨ (low ≤ y ∧ y ≤ high ∧ ∃ k ∈ ns, ∃ s, (Bk.at B k).bind Ent.span = some s ∧ (y = s.1 ∨ y = s.2 + 1))) := by
  obtain ⟨h1, h2, h3⟩ := begAll_facts B low high hlh ns
  have hm : ∀ y, y ∈ begF B ns low high ↔ y ∈ begAll B ns low high := fun y => (ups_perm _).mem_iff
  have hp : (begF B ns low high).Pairwise (· < ·) := by
    have a1 := ups_sorted (begAll B ns low high)
    have a2 : (ups (begAll B ns low high)).Nodup := (ups_perm _).nodup_iff.mpr h1
    exact List.Pairwise.imp₂ (fun a b h1 (h2 : a ≠ b) => by have h1 : a ≤ b := h1; omega) a1 a2
  have hb : ∀ y ∈ begF B ns low high, low ≤ y ∧ y ≤ high := fun y hy => by
    rcases (h3 y).mp ((hm y).mp hy) with h | h
    · omega
    · omega
  refine ⟨?_, hp, by unfold begF; rw [(ups_perm _).length_eq]; exact h2, hb, fun y => (hm y).trans (h3 y)⟩
  have hl : low ∈ begF B ns low high := (hm low).mpr ((h3 low).mpr (.inl rfl))
  cases e : begF B ns low high with
  | nil => rw [e] at hl; cases hl
  | cons d t =>
    rw [e] at hl hp hb
    have hd := hb d List.mem_cons_self
    rcases List.mem_cons.mp hl with h | h
    · exact ⟨t, by rw [h]⟩
    · have := (List.pairwise_cons.mp hp).1 low h
      omega
theorem saidL_same {B : Bk} {x d : Int} : ∀ {ns : List Int}, (∀ k ∈ ns, ∀ s, (Bk.at B k).bind Ent.span = some s → ((s.1 ≤ x ∧ x ≤ s.2) ↔ (s.1 ≤ d ∧ d ≤ s.2))) → ∀ name, saidL B x ns name = saidL B d ns name
  | [], _, _ => rfl
  | k :: r, h, name => by
    have ih := saidL_same (B := B) (x := x) (d := d) (ns := r) fun j hj => h j (List.mem_cons_of_mem _ hj)
    have h0 := h k List.mem_cons_self
    unfold saidL
    cases e : Bk.at B k with
    | none => exact ih name
    | some t =>
      rw [e] at h0
      cases t with
      | tell n lo hi w => have h1 := h0 (lo, hi) rfl; dsimp only at h1 ⊢; rw [ih]; simp only [h1]
      | clear n lo hi => have h1 := h0 (lo, hi) rfl; dsimp only at h1 ⊢; rw [ih]; simp only [h1]
      | like n lo hi o => have h1 := h0 (lo, hi) rfl; dsimp only at h1 ⊢; rw [ih, ih]; simp only [h1]
      | undo j => exact ih name
/-- between begins nothing changes -/
theorem said_between {B : Bk} {ns : List Int} {low high d x : Int} (hlh : low ≤ high) (hl : low ≤ d) (hdx : d ≤ x) (hx : x ≤ high) (hn : ∀ k ∈ ns, ∀ s, (Bk.at B k).bind Ent.span = some s → (∀ y, y = s.1 ∨ y = s.2 + 1 → ¬ (d < y ∧ y ≤ x))) (name : Str) : saidF B ns name x = saidF B ns name d := by
  unfold saidF
  refine saidL_same (fun k hk s hs => ?_) name
  have h1 := hn k (List.mem_reverse.mp hk) s hs s.1 (.inl rfl)
  have h2 := hn k (List.mem_reverse.mp hk) s hs (s.2 + 1) (.inr rfl)
  omega
theorem said_steps {B : Bk} {ns ms : List Int} {low high : Int} (hlh : low ≤ high) (hsub : ∀ k ∈ ns, k ∈ ms) (name : Str) : ∀ d x, d ∈ begF B ms low high → d ≤ x → x ≤ high → (∀ y ∈ begF B ms low high, ¬ (d < y ∧ y ≤ x)) → saidF B ns name x = saidF B ns name d := fun d x hd hdx hx hn => by
  obtain ⟨_, _, _, hb, hm⟩ := begF_facts B low high hlh ms
  have hd' := hb d hd
  refine said_between hlh hd'.1 hdx hx (fun k hk s hs y hy z => ?_) name
  exact hn y ((hm y).mpr (.inr ⟨by omega, by omega, k, hsub k hk, s, hs, hy⟩)) z
end S
set_option Elab.async false
set_option linter.all false
set_option maxRecDepth 100000
set_option maxHeartbeats 4000000
section
open PySem L2 Evl S
local macro_rules | `(tactic| array_get_dec) => `(tactic| first
  | exact ev_c
  | exact ev_var rfl
  | exact S.eo_no
  | exact ea_nil
  | (apply S.eo_some <;> array_get_dec)
  | (apply ea_cons <;> array_get_dec)
  | (apply S.ev_add <;> array_get_dec)
  | (apply S.ev_sub <;> array_get_dec)
  | (apply S.ev_div <;> first | array_get_dec | exact ⟨by decide, by decide⟩ | exact ⟨by omega, by omega⟩)
  | (apply S.ev_mod <;> first | array_get_dec | decide | omega)
  | (apply S.ev_mulr <;> first | array_get_dec | exact ⟨by decide, by decide⟩ | exact ⟨by omega, by omega⟩)
  | (apply S.ev_mull <;> first | array_get_dec | exact ⟨by decide, by decide⟩ | exact ⟨by omega, by omega⟩)
  | (apply S.ev_neg <;> array_get_dec)
  | (apply S.ev_min <;> array_get_dec)
  | (apply S.ev_max <;> array_get_dec)
  | (apply S.ev_eqI <;> array_get_dec)
  | (apply S.ev_eqS <;> array_get_dec)
  | (apply S.ev_neI <;> array_get_dec)
  | (apply S.ev_neS <;> array_get_dec)
  | (apply S.ev_lt <;> array_get_dec)
  | (apply S.ev_le <;> array_get_dec)
  | (apply S.ev_gt <;> array_get_dec)
  | (apply S.ev_ge <;> array_get_dec)
  | (apply S.ev_intB <;> array_get_dec)
  | (apply et_test <;> array_get_dec)
  | (apply et_B <;> array_get_dec)
  | (apply et_not <;> array_get_dec)
  | (refine' et_and ?_ (fun _ => ?_) <;> array_get_dec)
  | (refine' et_or ?_ (fun _ => ?_) <;> array_get_dec))
namespace S
/-! ### values of a stretch: a worth, or two -/
inductive Wv where
  | one (o : Option Int)
  | two (a b : Option Int)
  deriving DecidableEq
def Wv.isTwo : Wv → Bool
  | .one _ => false
  | .two _ _ => true
def WvR (H : Hp) (v : V) : Wv → Prop
  | .one o => v = optV o
  | .two a b => ∃ p, v = .ref p ∧ H p = some (.tup [optV a, optV b])
theorem WvR.mo : MoT WvR := fun {H H' v y} e h => by
  cases y with
  | one o => exact h
  | two a b => obtain ⟨p, h1, h2⟩ := h; exact ⟨p, h1, e _ _ h2⟩
def wD : Wv → PyData
  | .one o => oD o
  | .two a b => .tuple [oD a, oD b]
/-- a row: a day and a value -/
def RowW : Hp → V → Int × Wv → Prop := fun H v r => ∃ p u, v = .ref p ∧ H p = some (.tup [.int r.1, u]) ∧ WvR H u r.2
theorem RowW.mo : MoT RowW := fun {H H' v y} e ⟨p, u, h1, h2, h3⟩ => ⟨p, u, h1, e _ _ h2, WvR.mo e h3⟩
/-- a stretch: two days and a value -/
def SegR : Hp → V → Int × Int × Wv → Prop := fun H v r => ∃ p u, v = .ref p ∧ H p = some (.tup [.int r.1, .int r.2.1, u]) ∧ WvR H u r.2.2
theorem SegR.mo : MoT SegR := fun {H H' v y} e ⟨p, u, h1, h2, h3⟩ => ⟨p, u, h1, e _ _ h2, WvR.mo e h3⟩
theorem SegR.allT {H H' : Hp} {xs : List V} {ys : List (Int × Int × Wv)} (e : ExT H H') (h : Paired (SegR H) xs ys) : Paired (SegR H') xs ys := Paired.imp (fun _ _ h => SegR.mo e h) h
theorem SegR.all {H H' : Hp} {xs : List V} {ys : List (Int × Int × Wv)} (e : Ex H H') (h : Paired (SegR H) xs ys) : Paired (SegR H') xs ys := SegR.allT (ext_of e) h
theorem RowW.all {H H' : Hp} {xs : List V} {ys : List (Int × Wv)} (e : Ex H H') (h : Paired (RowW H) xs ys) : Paired (RowW H') xs ys := Paired.imp (fun _ _ h => RowW.mo (ext_of e) h) h
def segD (r : Int × Int × Wv) : PyData := .tuple [.int r.1, .int r.2.1, wD r.2.2]
theorem lay_oD (o : Option Int) : (oD o).canLay0 = true ∧ (oD o).depth = 0 := by cases o <;> exact ⟨rfl, rfl⟩
theorem lay_wD (x : Wv) : (wD x).canLay0 = true ∧ (wD x).depth ≤ 1 := by
  cases x with
  | one o => exact ⟨(lay_oD o).1, by show (oD o).depth ≤ 1; rw [(lay_oD o).2]; decide⟩
  | two a b =>
    unfold wD
    simp only [PyData.canLay0, PyData.canLayAll0, PyData.depth, PyData.depthAll, (lay_oD a).1, (lay_oD b).1, (lay_oD a).2, (lay_oD b).2]
    exact ⟨rfl, by decide⟩
theorem lay_segD (r : Int × Int × Wv) : (segD r).canLay0 = true ∧ (segD r).depth ≤ 2 := by
  unfold segD
  have h := lay_wD r.2.2
  simp only [PyData.canLay0, PyData.canLayAll0, PyData.depth, PyData.depthAll, h.1]
  exact ⟨rfl, by omega⟩
theorem lay_all {α : Type} (f : α → PyData) (h : ∀ x, (f x).canLay0 = true ∧ (f x).depth ≤ 2) (rs : List α) : SeqAt.shaped (.list (rs.map f)) = true := by
  refine shaped_by ?_
  rw [PyData.canLay0, PyData.depth]
  have : PyData.canLayAll0 (rs.map f) = true ∧ PyData.depthAll (rs.map f) ≤ 2 := by
    induction rs with
    | nil => exact ⟨rfl, Nat.zero_le _⟩
    | cons r rs ih =>
      rw [List.map_cons, PyData.canLayAll0, PyData.depthAll]
      have h1 := h r
      exact ⟨by rw [h1.1, ih.1]; rfl, by omega⟩
  exact ⟨this.1, by omega⟩
theorem eqv_oD (a b : Option Int) : PyData.eqv (oD a) (oD b) = decide (a = b) := by
  cases a with
  | none => cases b <;> rfl
  | some i =>
    cases b with
    | none => rfl
    | some j =>
      show (i == j) = _
      by_cases h : i = j
      · simp [h]
      · simp [h]
section
variable {K : PySem.W.Frag} {C : CA} {σ : L2.St} {H : Hp} {ta tb tc td te : TE} {D : Ends} {tu tz : TS}
theorem dp_w {v : V} {x : Wv} (h : WvR H v x) : Dp K H v (wD x) := by
  cases x with
  | one o => rw [show v = optV o from h]; exact dp_opt o
  | two a b =>
    obtain ⟨p, rfl, hp⟩ := h
    exact .tup (st_of hp) (.cons (dp_opt a) (.cons (dp_opt b) .nil))
theorem dp_seg {v : V} {r : Int × Int × Wv} (h : SegR H v r) : Dp K H v (segD r) := by
  obtain ⟨p, u, rfl, hp, hu⟩ := h
  exact .tup (st_of hp) (.cons (.int _) (.cons (.int _) (.cons (dp_w hu) .nil)))
theorem dp_segs {p : Addr} {xs : List V} {rs : List (Int × Int × Wv)} (h : H p = some (.lst xs)) (hp : Paired (SegR H) xs rs) : Dp K H (.ref p) (.list (rs.map segD)) := .lst (sq_of h) (DpAll.of (F := SegR H) (f := segD) (fun _ _ h => dp_seg h) hp)
theorem ev_eqW {u v : V} {x y : Wv} (ha : Ev ta σ H u) (hb : Ev tb σ H v) (hx : WvR H u x) (hy : WvR H v y) (h : x.isTwo = y.isTwo) : Ev (tOp (eqA K) ta tb) σ H (.bl (decide (x = y))) := by
  cases x with
  | one a =>
    cases y with
    | two c d => cases h
    | one b =>
      rw [show u = optV a from hx] at ha
      rw [show v = optV b from hy] at hb
      have := ev_eq (K := K) ha hb (scal_opt a b)
      have e : decide (optV a = optV b) = decide (Wv.one a = Wv.one b) := by
        by_cases z : a = b
        · subst z; simp
        · rw [decide_eq_false (fun h => z (optV_inj.mp h)), decide_eq_false (fun h => z (Wv.one.inj h))]
      rwa [e] at this
  | two a b =>
    cases y with
    | one c => cases h
    | two c d =>
      have := ev_eqD (K := K) ha hb (dp_w hx) (dp_w hy) (shaped_by ⟨(lay_wD _).1, by have := (lay_wD (.two a b)).2; omega⟩) (shaped_by ⟨(lay_wD _).1, by have := (lay_wD (.two c d)).2; omega⟩)
      have e : PyData.eqv (wD (.two a b)) (wD (.two c d)) = decide (Wv.two a b = Wv.two c d) := by
        show (PyData.eqv (oD a) (oD c) && (PyData.eqv (oD b) (oD d) && true)) = _
        rw [eqv_oD, eqv_oD]
        by_cases z : a = c <;> by_cases y : b = d <;> simp [z, y]
      rwa [e] at this
/-- xs != [] -/
theorem ev_neNil {p : Addr} {ds : List PyData} (ha : Ev ta σ H (.ref p)) (hd : Dp K H (.ref p) (.list ds)) (hs : SeqAt.shaped (.list ds) = true) : Ev (tOp (neA K) ta (tLst tNil)) σ H (.bl (!decide (ds = []))) := fun H1 e Q q => by
  unfold tOp
  refine ha H1 e _ fun H2 e2 => el_lst ea_nil (by decide) H2 (Ex.refl H2) _ fun r H3 hr e3 h3 => ?_
  refine .inr (.inl ⟨_, .list [], Dp.mono ((e.trans e2).trans e3) hd, .lst (sq_of h3) .nil, hs, by decide +kernel, ?_⟩)
  have : PyData.eqv (.list ds) (.list []) = decide (ds = []) := by cases ds <;> rfl
  rw [this]
  exact q H3 (e2.trans e3)
theorem paired_snoc {α β : Type} {F : α → β → Prop} : ∀ {xs : List α} {ys : List β} {y : β}, Paired F xs (ys ++ [y]) → ∃ xs0 x, xs = xs0 ++ [x] ∧ Paired F xs0 ys ∧ F x y
  | [], [], _, h => nomatch h
  | [], _ :: _, _, h => nomatch h
  | x :: xs, [], y, h => by
    cases h with
    | cons r t => cases t with | nil => exact ⟨[], x, rfl, .nil, r⟩
  | x :: xs, z :: ys, y, h => by
    cases h with
    | cons r t =>
      obtain ⟨xs0, x0, h1, h2, h3⟩ := paired_snoc t
      exact ⟨x :: xs0, x0, by rw [h1]; rfl, .cons r h2, h3⟩
theorem atI_snoc {xs : List V} {x : V} : atI (xs ++ [x]) (-1) = some x := by
  rw [atI_last (by simp)]
  simp
theorem ixN_snoc {xs : List V} {x : V} : ixN (xs ++ [x]).length (-1) = some xs.length := by
  unfold ixN
  simp only [List.length_append, List.length_singleton]
  rw [if_neg (by decide), if_pos (by omega)]
  exact congrArg some (by omega)
theorem set_snoc {xs : List V} {x y : V} : (xs ++ [x]).set xs.length y = xs ++ [y] := by
  rw [List.set_append_right _ _ (Nat.le_refl _)]
  simp
/-- for i, x in enumerate(xs) -/
theorem s_forEnum {a : Addr} {xs : List V} {j k : Nat} (h : Ev ta σ H (.ref a)) (hx : SqL K H a xs) (Pv : Nat → L2.St → Hp → Prop) (h0 : ∀ H1, Ex H H1 → Pv 0 σ H1) (hl : ∀ i σ' H', Pv i σ' H' → SqL K H' a xs)
    (hs : ∀ (i : Nat) x T σ' H', xs[i]? = some x → Pv i σ' H' → H' T = none → tu { D with nx := Pv (i + 1), ct := Pv (i + 1), bk := D.nx } ((σ'.set j (some (.int (i : Int)))).set k (some x)) (upd H' T (.tup [.int (i : Int), x]))) (hd : ∀ σ' H', Pv xs.length σ' H' → D.nx σ' H') :
    tFor (iEnum K (tCons ta tNil)) (gTup K 2 (gCons (gName j) (gCons (gName k) gNil))) tu D σ H := by
  unfold tFor iEnum tCons tNil
  refine h H (Ex.refl H) _ fun H1 e => ⟨a, xs, rfl, ex_l e hx, ?_⟩
  refine for_it walk_enum Pv (h0 H1 e) (fun i σ' H' _ p => hl i σ' H' p) (fun i x σ' H2 H3 hi p y => ?_) hd
  obtain ⟨T, x', y', rfl, hT, rfl, hx', hy'⟩ := y
  have e1 : x' = .int (i : Int) := (Option.some.inj hx').symm
  subst e1
  exact ⟨T, _, rfl, st_of upd_same, rfl, _, _, rfl, _, _, rfl, rfl, hs i y' T σ' H2 hy' p hT⟩
theorem el_upsD {p : Addr} {kvs : List (Key × V)} {ks : List Int} (ha : Ev ta σ H (.ref p)) (h : Rd H p (.dK kvs)) (hk : IntKeys kvs ks) (hz : ks.length ≤ 63) : EvL (tCB (sortedA K) (tCons ta tNil)) σ H ((ups ks).map V.int) := fun H1 e Q q =>
  ha H1 e _ fun H2 e2 => .inr (.inl ⟨p, kvs, ks, rfl, ex_rd (e.trans e2) h, hk, Nat.lt_of_le_of_lt hz (by decide), fun ys l hp hs hn => by
    rw [ups_of hp hs]
    exact q l _ (fresh_back e2 hn) (e2.trans (Ex.new hn)) upd_same⟩)
theorem intkeys_put {kvs : List (Key × V)} {ks : List Int} {d : Int} {v : V} (h : IntKeys kvs ks) : IntKeys (putK kvs (Sum.inl d : Key) v) (keysAdd ks d) := by
  unfold IntKeys at h ⊢
  unfold putK keysAdd
  have hany : (kvs.any fun kv => decide (kv.1 = (Sum.inl d : Key))) = decide (d ∈ ks) := by
    have : d ∈ ks ↔ (Sum.inl d : Key) ∈ kvs.map (·.1) := by
      rw [h, List.mem_map]
      constructor
      · intro z; exact ⟨d, z, rfl⟩
      · rintro ⟨a, z, e⟩; rw [← Sum.inl.inj e]; exact z
    by_cases z : d ∈ ks
    · rw [decide_eq_true z, List.any_eq_true]
      obtain ⟨kv, h1, h2⟩ := List.mem_map.mp (this.mp z)
      exact ⟨kv, h1, decide_eq_true h2⟩
    · rw [decide_eq_false z, List.any_eq_false]
      intro kv hkv e
      exact z (this.mpr (List.mem_map.mpr ⟨kv, hkv, of_decide_eq_true e⟩))
  rw [hany]
  by_cases z : d ∈ ks
  · rw [if_pos (decide_eq_true z), if_pos z, ← h, List.map_map]
    refine List.map_congr_left fun kv _ => ?_
    show (if kv.1 = (Sum.inl d : Key) then (kv.1, v) else kv).1 = kv.1
    split <;> rfl
  · rw [if_neg (by simpa using z), if_neg z, List.map_append, h, List.map_append]
    rfl
/-- {a: x} -/
theorem ed_disp1 {k : Key} {v : V} (hk : Ev ta σ H (kV k)) (hv : Ev tb σ H v) : EvD (tDisp ((ta, tb) :: [])) σ H [(k, v)] := fun H1 e Q q p hp => by
  unfold tPairs tPairs
  have e1 : Ex H1 (upd H1 p (.dK [])) := Ex.new hp
  refine hk _ (e.trans e1) _ fun H2 e2 => hv _ ((e.trans e1).trans e2) _ fun H3 e3 => ?_
  exact ⟨(e2.trans e3) p _ upd_same, [(k, v)], rfl, by show 1 ≤ 15; decide, q p _ hp (Ex.mut ((e1.trans e2).trans e3) hp) upd_same⟩
end
/-! ### begins_of -/
def sp_begins_of (K : PySem.W.Frag) (C : CA) : Sp := fun vs H Q _ => ∃ (b l : Addr) (B : Bk) (ns : List Int) (low high : Int), vs = [.ref b, .ref l, .int low, .int high] ∧ BookAt H b B ∧ SqL K H l (ns.map V.int) ∧ (∀ k ∈ ns, k ∈ B.map (·.1)) ∧ ns.length ≤ 31 ∧ low ≤ high ∧
  ∀ p H', H p = none → Ex H H' → H' p = some (.lst ((begF B ns low high).map V.int)) → Q (.ref p) H'
theorem len_begins_of {K : PySem.W.Frag} {C : CA} {vs : List V} {H : Hp} {Q : VK} {E : XK} (h : sp_begins_of K C vs H Q E) : vs.length = 4 := by
  obtain ⟨b, l, B, ns, low, high, rfl, _⟩ := h
  rfl
/-- book 0, numbers 1, low 2, high 3, found 4, number 5, day 6 -/
def t_begins_of (K : PySem.W.Frag) (C : CA) : TS :=
 (tSeq (tAsg (tDisp (((tVar 2), (tC (.bl true))) :: [])) (gName 4))
 (tSeq (tFor (iList K (tVar 1)) (gName 5)
  (tIfS (tTest (tOp (neA K) (tOp (ixA K) (tOp (ixA K) (tVar 0) (tVar 5)) (tC (.int 0))) (tC (.str "undo")))) (tFor (iTup K (tTup (tCons (tOp (ixA K) (tOp (ixA K) (tVar 0) (tVar 5)) (tC (.int 2))) (tCons (tOp (addA K) (tOp (ixA K) (tOp (ixA K) (tVar 0) (tVar 5)) (tC (.int 3))) (tC (.int 1))) tNil)))) (gName 6)
  (tIfS (tTest (tChain (leI) (leI) (tVar 2) (tVar 6) (tVar 3))) (tAsg (tC (.bl true)) (gSub (tVar 4) (tVar 6) setA)) tNext)) tNext))
 (tRet (tCB (sortedA K) (tCons (tVar 4) tNil)))))
theorem s_forU {K : PySem.W.Frag} {σ : L2.St} {H : Hp} {D : Ends} {tu : TS} {tl : TE} {xs : List V} {j : Nat} (h : EvU tl σ H xs) (Pv : Addr → Nat → L2.St → Hp → Prop) (h0 : ∀ p H1, H p = none → Ex H H1 → H1 p = some (.tup xs) → Pv p 0 σ H1) (hl : ∀ p i σ' H', Pv p i σ' H' → H' p = some (.tup xs))
    (hs : ∀ p i x σ' H', xs[i]? = some x → Pv p i σ' H' → tu { D with nx := Pv p (i + 1), ct := Pv p (i + 1), bk := D.nx } (σ'.set j (some x)) H') (hd : ∀ p σ' H', Pv p xs.length σ' H' → D.nx σ' H') : tFor (iTup K tl) (gName j) tu D σ H :=
  h H (Ex.refl H) _ fun p H1 hp e h1 => ⟨p, rfl, ⟨xs, st_of h1⟩, for_tup (Pv p) (h0 p H1 hp e h1) (fun i σ' H' _ q => st_of (hl p i σ' H' q)) (hs p) (hd p)⟩
theorem pure_begins_of {K : PySem.W.Frag} {C : CA} {vs : List V} {H : Hp} {Q : VK} {E : XK} (h : sp_begins_of K C vs H Q E) : t_begins_of K C { nx := fun _ H' => Q .non H', rt := Q } (startN 7 vs) H := by
  obtain ⟨b, l, B, ns, low, high, rfl, hB, hl, hns, hnl, hlh, kk⟩ := h
  refine q_asgD (ed_disp1 (k := (Sum.inl low : Key)) (v := .bl true) (ev_var rfl) ev_c) fun u H1 hu e1 h1 => ?_
  refine q_forLn (ev_var rfl) (ex_l e1 hl) (fun i σ' H' => ∃ o5 o6 kvs, σ' = [some (.ref b), some (.ref l), some (.int low), some (.int high), some (.ref u), o5, o6] ∧ Ex H H' ∧ H' u = some (.dK kvs) ∧ IntKeys kvs (begAll B (ns.take i) low high))
    (fun H2 e2 => ⟨none, none, _, rfl, e1.trans e2, e2 u _ h1, rfl⟩) (fun i σ' H' _ ⟨_, _, _, _, e, _⟩ => ex_l e hl) ?_ ?_
  · rintro i x σ' H' hx ⟨o5, o6, kvs, rfl, E1, hu1, hk1⟩
    obtain ⟨k, hk, rfl⟩ := map_get hx
    obtain ⟨e, he⟩ := Bk.at_isSome (hns k (List.mem_of_getElem? hk))
    obtain ⟨kv, t, g1, g2, g3⟩ := (hB.mono E1).get he
    have hil := (List.getElem?_eq_some_iff.mp hk).1
    have hlen := (begAll_facts B low high hlh (ns.take i)).2.1
    rw [take_snoc hk, begAll_snoc]
    refine s_when (et_test (S.ev_neS (ev_part 0 (ev_book (ev_var rfl) (ev_var rfl) g1 g2) g3 e.vs0) ev_c)) (fun c H2 e2 => ?_) (fun c H2 e2 => ?_)
    · rw [Ent.word_undo] at c
      have hv : ∃ s : Int × Int, e.span = some s ∧ e.vs[2]? = some (.int s.1) ∧ e.vs[3]? = some (.int s.2) := by
        cases e with
        | undo j => cases c
        | tell nm lo hi w => exact ⟨(lo, hi), rfl, rfl, rfl⟩
        | clear nm lo hi => exact ⟨(lo, hi), rfl, rfl, rfl⟩
        | like nm lo hi o => exact ⟨(lo, hi), rfl, rfl, rfl⟩
      obtain ⟨s, hs, v2, v3⟩ := hv
      have hst : begStep B low high (begAll B (ns.take i) low high) k = ([s.1, s.2 + 1] : List Int).foldl (begAdd low high) (begAll B (ns.take i) low high) := by
        unfold begStep
        rw [he]
        show (match e.span with | some s => begAdd low high (begAdd low high (begAll B (ns.take i) low high) s.1) (s.2 + 1) | none => begAll B (ns.take i) low high) = _
        rw [hs]
        rfl
      rw [hst]
      have g1' := ex_rd e2 g1
      have g3' := g3.mono e2
      refine s_forU (K := K) (xs := [V.int s.1, V.int (s.2 + 1)]) (eu_tup (ea_cons (ev_part 2 (ev_book (ev_var rfl) (ev_var rfl) g1' g2) g3' v2) (ea_cons (ev_add (ev_part 3 (ev_book (ev_var rfl) (ev_var rfl) g1' g2) g3' v3) ev_c) ea_nil)) (by simp))
        (fun p j σ' H' => ∃ o6 kvs, σ' = [some (.ref b), some (.ref l), some (.int low), some (.int high), some (.ref u), some (.int k), o6] ∧ Ex H H' ∧ H' p = some (.tup [V.int s.1, V.int (s.2 + 1)]) ∧ H' u = some (.dK kvs) ∧ IntKeys kvs ((([s.1, s.2 + 1] : List Int).take j).foldl (begAdd low high) (begAll B (ns.take i) low high)))
        (fun p H3 hp e3 h3 => ⟨o6, kvs, rfl, (E1.trans e2).trans e3, h3, (e2.trans e3) u _ hu1, hk1⟩) (fun p j σ' H' ⟨_, _, _, _, h, _⟩ => h) ?_ ?_
      · rintro p j x σ' H3 hx ⟨o6, kvs, rfl, E3, hp3, hu3, hk3⟩
        obtain ⟨d, hd, rfl⟩ := map_get (f := V.int) (xs := [s.1, s.2 + 1]) hx
        rw [take_snoc hd, List.foldl_append]
        show tIfS _ _ _ _ _ _
        generalize hks : (([s.1, s.2 + 1] : List Int).take j).foldl (begAdd low high) (begAll B (ns.take i) low high) = ks at hk3 ⊢
        have hksl : ks.length ≤ 1000 := by
          rw [← hks]
          have hb : ∀ (ds : List Int) (ks : List Int), (ds.foldl (begAdd low high) ks).length ≤ ks.length + ds.length := by
            intro ds
            induction ds with
            | nil => intro ks; exact Nat.le_refl _
            | cons d ds ih => intro ks; have := ih (begAdd low high ks d); have := begAdd_len low high ks d; rw [List.foldl_cons, List.length_cons]; omega
          have h1 := hb (([s.1, s.2 + 1] : List Int).take j) (begAll B (ns.take i) low high)
          have h2 : (([s.1, s.2 + 1] : List Int).take j).length ≤ 2 := by rw [List.length_take]; show min j 2 ≤ 2; omega
          rw [List.length_take] at hlen
          omega
        have hkl : kvs.length = ks.length := by
          have := congrArg List.length hk3
          rwa [List.length_map, List.length_map] at this
        refine s_when (et_test (ev_lele (ev_var rfl) (ev_var rfl) (ev_var rfl))) (fun c H4 e4 => ?_) (fun c H4 e4 => ?_)
        · rw [Bool.and_eq_true, decide_eq_true_eq, decide_eq_true_eq] at c
          refine s_put (k := (Sum.inl d : Key)) ev_c (ev_var rfl) (ev_var rfl) (e4 u _ hu3) (by omega) fun H5 e5 => ?_
          have hup : p ≠ u := fun z => by rw [z, hu3] at hp3; cases hp3
          refine ⟨_, putK kvs (Sum.inl d : Key) (.bl true), rfl, Ex.mut ((E3.trans e4).trans e5) hu, ?_, upd_same, ?_⟩
          · rw [upd_ne hup]; exact (e4.trans e5) p _ hp3
          · show IntKeys _ (begAdd low high ks d)
            unfold begAdd
            rw [if_pos c]
            exact intkeys_put hk3
        · refine ⟨_, kvs, rfl, E3.trans e4, e4 p _ hp3, e4 u _ hu3, ?_⟩
          show IntKeys _ (begAdd low high ks d)
          unfold begAdd
          rw [if_neg]
          · exact hk3
          · intro z
            rw [decide_eq_true z.1, decide_eq_true z.2] at c
            cases c
      · rintro p σ' H3 ⟨o6, kvs, rfl, E3, hp3, hu3, hk3⟩
        exact ⟨_, _, kvs, rfl, E3, hu3, hk3⟩
    · rw [Ent.word_undo] at c
      have hs : e.span = none := by cases e <;> first | rfl | cases c
      refine ⟨_, _, kvs, rfl, E1.trans e2, e2 u _ hu1, ?_⟩
      unfold begStep
      rw [he]
      show IntKeys kvs (match e.span with | some s => begAdd low high (begAdd low high (begAll B (ns.take i) low high) s.1) (s.2 + 1) | none => begAll B (ns.take i) low high)
      rw [hs]
      exact hk1
  · rintro σ' H' ⟨o5, o6, kvs, rfl, E1, hu1, hk1⟩
    rw [List.length_map, List.take_length] at hk1
    have hlen := (begAll_facts B low high hlh ns).2.1
    refine s_retL (el_upsD (ev_var rfl) (.inl hu1) hk1 (by omega)) fun p H2 hp e2 h2 => ?_
    exact kk p H2 (fresh_back E1 hp) (E1.trans e2) h2
end S
end
set_option Elab.async false
set_option linter.all false
set_option maxRecDepth 100000
set_option maxHeartbeats 4000000
namespace S
open PySem L2 Evl
section
variable {α : Type} [DecidableEq α] {w : Int → α} {low : Int}
theorem str_is {B : Bk} {ms : List Int} {low high : Int} (hlh : low ≤ high) (hw : ∀ d x, d ∈ begF B ms low high → d ≤ x → x ≤ high → (∀ y ∈ begF B ms low high, ¬ (d < y ∧ y ≤ x)) → w x = w d) :
    CovR w low (strR high ((begF B ms low high).map fun d => (d, w d))) high := by
  obtain ⟨⟨t, ht⟩, hp, _, hb, _⟩ := begF_facts B low high hlh ms
  have hs : Steps w high (low :: t) := by
    refine steps_of (all := begF B ms low high) (fun y hy => (hb y hy).2) hw (fun y hy => by rw [ht]; exact hy) (by rw [← ht]; exact hp) fun y hy => ?_
    rw [ht] at hy
    rcases List.mem_cons.mp hy with h | h
    · exact .inl (by omega)
    · exact .inr h
  rw [ht]
  exact str_cov (t := t) (d := low) (R := []) rfl hs
theorem CovR.edges : ∀ {R : List (Int × Int × α)} {b : Int}, CovR w low R b → ∀ s ∈ R, (low ≤ s.1 - 1 → w (s.1 - 1) ≠ s.2.2) ∧ (s.2.1 + 1 ≤ b → w (s.2.1 + 1) ≠ s.2.2)
  | [], _, _, s, hs => by cases hs
  | s0 :: r, b, h, s, hs => by
    obtain ⟨h1, h2, h3, h4, h5⟩ := h
    have ih := CovR.edges h5
    have bd := CovR.bound h5
    rcases List.mem_cons.mp hs with rfl | hs
    · refine ⟨fun hl => ?_, fun hu => by omega⟩
      cases r with
      | nil => have h5 : s.1 - 1 = low - 1 := h5; omega
      | cons l t =>
        have := bd.2 l List.mem_cons_self
        have hh : l.2.1 = s.1 - 1 := h5.1
        rw [this.2.2.2 (s.1 - 1) (by omega) (by omega)]
        exact h4 l rfl
    · refine ⟨(ih s hs).1, fun hu => ?_⟩
      by_cases z : s.2.1 + 1 ≤ s0.1 - 1
      · exact (ih s hs).2 z
      · have b1 := bd.2 s hs
        have e : s.2.1 + 1 = s0.1 := by omega
        rw [e, h3 s0.1 (Int.le_refl _) h2]
        cases r with
        | nil => cases hs
        | cons l t =>
          rcases List.mem_cons.mp hs with rfl | hs
          · exact fun z => h4 s rfl z.symm
          · obtain ⟨k1, k2, k3, k4, k5⟩ := h5
            have := (CovR.bound k5).2 s hs
            omega
theorem CovR.pairwise : ∀ {R : List (Int × Int × α)} {b : Int}, CovR w low R b → R.Pairwise fun s t => t.2.1 < s.1
  | [], _, _ => .nil
  | s0 :: r, b, h => by
    obtain ⟨h1, h2, h3, h4, h5⟩ := h
    rw [List.pairwise_cons]
    refine ⟨fun t ht => ?_, CovR.pairwise h5⟩
    have := (CovR.bound h5).2 t ht
    omega
theorem CovR.at : ∀ {R : List (Int × Int × α)} {b x : Int}, CovR w low R b → low ≤ x → x ≤ b → ∃ s ∈ R, s.1 ≤ x ∧ x ≤ s.2.1 ∧ w x = s.2.2
  | [], b, x, h, h1, h2 => by have h : b = low - 1 := h; omega
  | s0 :: r, b, x, h, g1, g2 => by
    obtain ⟨h1, h2, h3, h4, h5⟩ := h
    by_cases z : s0.1 ≤ x
    · exact ⟨s0, List.mem_cons_self, z, by omega, h3 x z (by omega)⟩
    · obtain ⟨s, hs, k⟩ := CovR.at h5 g1 (by omega)
      exact ⟨s, List.mem_cons_of_mem _ hs, k⟩
end
/-! ### runs -/
def keep1 : Wv → Bool
  | .one (some _) => true
  | _ => false
def wOne (B : Bk) (ns : List Int) (name : Str) (d : Int) : Wv := .one (saidF B ns name d)
def Wv.fst : Wv → Option Int
  | .one o => o
  | .two a _ => a
def segRow (s : Int × Int × Wv) : List (Option Int) := [some s.1, some s.2.1, s.2.2.fst]
/-- the runs of low .. high, the last first -/
def runsR (B : Bk) (n : Int) (name : Str) (low high : Int) : List (Int × Int × Wv) := daysR keep1 (wOne B (countF B n) name) (dl low (high - low + 1).toNat)
def runsF (B : Bk) (n : Int) (name : Str) (low high : Int) : List (List (Option Int)) := (runsR B n name low high).reverse.map segRow
theorem one_steps {B : Bk} {ns : List Int} {low high : Int} (hlh : low ≤ high) (name : Str) : ∀ d x, d ∈ begF B ns low high → d ≤ x → x ≤ high → (∀ y ∈ begF B ns low high, ¬ (d < y ∧ y ≤ x)) → wOne B ns name x = wOne B ns name d := fun d x h1 h2 h3 h4 => by
  unfold wOne
  rw [said_steps hlh (fun k h => h) name d x h1 h2 h3 h4]
theorem runs_cov {B : Bk} {n low high : Int} (hlh : low ≤ high) (name : Str) : CovR (wOne B (countF B n) name) low (strR high ((begF B (countF B n) low high).map fun d => (d, wOne B (countF B n) name d))) high := str_is hlh (one_steps hlh name)
theorem runs_is {B : Bk} {n low high : Int} (hlh : low ≤ high) (name : Str) : (strR high ((begF B (countF B n) low high).map fun d => (d, wOne B (countF B n) name d))).filter (fun s => keep1 s.2.2) = runsR B n name low high := (days_of_cov keep1 (runs_cov hlh name)).symm
theorem strR_all {P : Wv → Prop} {high : Int} {rs : List (Int × Wv)} (h : ∀ r ∈ rs, P r.2) : ∀ s ∈ strR high rs, P s.2.2 := by
  have h1 : ∀ rs : List (Int × Wv), (∀ r ∈ rs, P r.2) → ∀ s ∈ tri high rs, P s.2.2 := by
    intro rs
    induction rs with
    | nil => intro _ s hs; cases hs
    | cons r t ih =>
      intro h s hs
      cases t with
      | nil => rw [List.mem_singleton.mp hs]; exact h r List.mem_cons_self
      | cons q t =>
        rcases List.mem_cons.mp hs with h1 | h1
        · rw [h1]; exact h r List.mem_cons_self
        · exact ih (fun r hr => h r (List.mem_cons_of_mem _ hr)) s h1
  have h2 : ∀ (ts R : List (Int × Int × Wv)), (∀ s ∈ ts, P s.2.2) → (∀ s ∈ R, P s.2.2) → ∀ s ∈ ts.foldl segR R, P s.2.2 := by
    intro ts
    induction ts with
    | nil => intro R _ hR; exact hR
    | cons t ts ih =>
      intro R ht hR
      refine ih _ (fun s hs => ht s (List.mem_cons_of_mem _ hs)) fun s hs => ?_
      have hp := ht t List.mem_cons_self
      cases R with
      | nil => rw [List.mem_singleton.mp hs]; exact hp
      | cons l r =>
        by_cases e : l.2.2 = t.2.2
        · rw [segR_yes e] at hs
          rcases List.mem_cons.mp hs with h | h
          · rw [h]; exact hp
          · exact hR s (List.mem_cons_of_mem _ h)
        · rw [segR_no e] at hs
          rcases List.mem_cons.mp hs with h | h
          · rw [h]; exact hp
          · exact hR s h
  exact h2 _ _ (h1 rs h) fun s hs => by cases hs
theorem strR_len (high : Int) (rs : List (Int × Wv)) : (strR high rs).length ≤ rs.length := by
  have : ∀ (ts R : List (Int × Int × Wv)), (ts.foldl segR R).length ≤ R.length + ts.length := by
    intro ts
    induction ts with
    | nil => intro R; exact Nat.le_refl _
    | cons t ts ih =>
      intro R
      have h1 := ih (segR R t)
      have h2 : (segR R t).length ≤ R.length + 1 := by
        cases R with
        | nil => exact Nat.le_refl _
        | cons l r =>
          by_cases e : l.2.2 = t.2.2
          · rw [segR_yes e]; simp
          · rw [segR_no e]; simp
      rw [List.foldl_cons, List.length_cons]
      omega
  have h := this (tri high rs) []
  rw [tri_len, List.length_nil, Nat.zero_add] at h
  exact h
theorem dayR_all {P : Wv → Prop} {keep : Wv → Bool} {w : Int → Wv} (h : ∀ d, keep (w d) = true → P (w d)) : ∀ (ds : List Int) (R : List (Int × Int × Wv)), (∀ s ∈ R, P s.2.2) → ∀ s ∈ ds.foldl (dayR keep w) R, P s.2.2
  | [], R, hR => hR
  | d :: ds, R, hR => by
    refine dayR_all h ds _ fun s hs => ?_
    unfold dayR at hs
    by_cases hk : keep (w d) = true
    · rw [if_pos hk] at hs
      cases R with
      | nil => rw [List.mem_singleton.mp hs]; exact h d hk
      | cons l r =>
        unfold dayP at hs
        dsimp only at hs
        split at hs
        · rcases List.mem_cons.mp hs with h1 | h1
          · rw [h1]; exact h d hk
          · exact hR s (List.mem_cons_of_mem _ h1)
        · rcases List.mem_cons.mp hs with h1 | h1
          · rw [h1]; exact h d hk
          · exact hR s h1
    · rw [if_neg hk] at hs
      exact hR s hs
theorem runs_small {B : Bk} {n low high : Int} (hB : B.length ≤ 31) (hlh : low ≤ high) (name : Str) : (runsF B n name low high).length ≤ 100 ∧ ∀ r ∈ runsF B n name low high, r.length ≤ 100 := by
  refine ⟨?_, fun r hr => ?_⟩
  · unfold runsF
    rw [List.length_map, List.length_reverse, ← runs_is hlh]
    have h1 := List.length_filter_le (fun s : Int × Int × Wv => keep1 s.2.2) (strR high ((begF B (countF B n) low high).map fun d => (d, wOne B (countF B n) name d)))
    have h2 := strR_len high ((begF B (countF B n) low high).map fun d => (d, wOne B (countF B n) name d))
    have h3 := (begF_facts B low high hlh (countF B n)).2.2.1
    have h4 := countF_len B n
    rw [List.length_map] at h2
    omega
  · obtain ⟨s, _, rfl⟩ := List.mem_map.mp hr
    show 3 ≤ 100
    omega
end S
set_option Elab.async false
set_option linter.all false
set_option maxRecDepth 100000
set_option maxHeartbeats 4000000
section
open PySem L2 Evl S
local macro_rules | `(tactic| array_get_dec) => `(tactic| first
  | exact ev_c
  | exact ev_var rfl
  | exact S.eo_no
  | exact ea_nil
  | (apply S.eo_some <;> array_get_dec)
  | (apply ea_cons <;> array_get_dec)
  | (apply S.ev_add <;> array_get_dec)
  | (apply S.ev_sub <;> array_get_dec)
  | (apply S.ev_div <;> first | array_get_dec | exact ⟨by decide, by decide⟩ | exact ⟨by omega, by omega⟩)
  | (apply S.ev_mod <;> first | array_get_dec | decide | omega)
  | (apply S.ev_mulr <;> first | array_get_dec | exact ⟨by decide, by decide⟩ | exact ⟨by omega, by omega⟩)
  | (apply S.ev_mull <;> first | array_get_dec | exact ⟨by decide, by decide⟩ | exact ⟨by omega, by omega⟩)
  | (apply S.ev_neg <;> array_get_dec)
  | (apply S.ev_min <;> array_get_dec)
  | (apply S.ev_max <;> array_get_dec)
  | (apply S.ev_eqI <;> array_get_dec)
  | (apply S.ev_eqS <;> array_get_dec)
  | (apply S.ev_neI <;> array_get_dec)
  | (apply S.ev_neS <;> array_get_dec)
  | (apply S.ev_lt <;> array_get_dec)
  | (apply S.ev_le <;> array_get_dec)
  | (apply S.ev_gt <;> array_get_dec)
  | (apply S.ev_ge <;> array_get_dec)
  | (apply S.ev_intB <;> array_get_dec)
  | (apply et_test <;> array_get_dec)
  | (apply et_B <;> array_get_dec)
  | (apply et_not <;> array_get_dec)
  | (refine' et_and ?_ (fun _ => ?_) <;> array_get_dec)
  | (refine' et_or ?_ (fun _ => ?_) <;> array_get_dec))
namespace S
/-! ### stretches -/
def sp_stretches (K : PySem.W.Frag) (C : CA) : Sp := fun vs H Q _ => ∃ (l : Addr) (xs : List V) (rs : List (Int × Wv)) (high : Int) (two : Bool), vs = [.ref l, .int high] ∧ H l = some (.lst xs) ∧ Paired (RowW H) xs rs ∧ (∀ r ∈ rs, r.2.isTwo = two) ∧ rs.length ≤ 1000 ∧
  ∀ p ys H', H p = none → Ex H H' → H' p = some (.lst ys) → Paired (SegR H') ys (strR high rs).reverse → Q (.ref p) H'
theorem len_stretches {K : PySem.W.Frag} {C : CA} {vs : List V} {H : Hp} {Q : VK} {E : XK} (h : sp_stretches K C vs H Q E) : vs.length = 2 := by
  obtain ⟨l, xs, rs, high, two, rfl, _⟩ := h
  rfl
/-- rows 0, high 1, found 2, place 3, pair 4, last 5 -/
def t_stretches (K : PySem.W.Frag) (C : CA) : TS :=
 (tSeq (tAsg (tLst tNil) (gName 2))
 (tSeq (tFor (iEnum K (tCons (tVar 0) tNil)) (gTup K 2 (gCons (gName 3) (gCons (gName 4) gNil)))
  (tSeq (tAsg (tVar 1) (gName 5))
 (tSeq (tIfS (tTest (tOp (ltI) (tOp (addA K) (tVar 3) (tC (.int 1))) (tCB (lenA K) (tCons (tVar 0) tNil)))) (tAsg (tOp (subI) (tOp (ixA K) (tOp (ixA K) (tVar 0) (tOp (addA K) (tVar 3) (tC (.int 1)))) (tC (.int 0))) (tC (.int 1))) (gName 5)) tNext)
 (tIfS (tAnd (tTest (tOp (neA K) (tVar 2) (tLst tNil))) (tTest (tOp (eqA K) (tOp (ixA K) (tOp (ixA K) (tVar 2) (tUn (rU fun i => .int (-i)) (tC (.int 1)))) (tC (.int 2))) (tOp (ixA K) (tVar 4) (tC (.int 1)))))) (tAsg (tTup (tCons (tOp (ixA K) (tOp (ixA K) (tVar 2) (tUn (rU fun i => .int (-i)) (tC (.int 1)))) (tC (.int 0))) (tCons (tVar 5) (tCons (tOp (ixA K) (tVar 4) (tC (.int 1))) tNil)))) (gSub (tVar 2) (tUn (rU fun i => .int (-i)) (tC (.int 1))) setA)) (tDrop (tBM K "list" rAppend (tVar 2) (tCons (tTup (tCons (tOp (ixA K) (tVar 4) (tC (.int 0))) (tCons (tVar 5) (tCons (tOp (ixA K) (tVar 4) (tC (.int 1))) tNil)))) tNil)))))))
 (tRet (tVar 2))))
theorem segR_two {R : List (Int × Int × Wv)} {s : Int × Int × Wv} {two : Bool} (h : ∀ r ∈ R, r.2.2.isTwo = two) (hs : s.2.2.isTwo = two) : ∀ r ∈ segR R s, r.2.2.isTwo = two := by
  intro r hr
  cases R with
  | nil => rw [List.mem_singleton.mp hr]; exact hs
  | cons l t =>
    by_cases e : l.2.2 = s.2.2
    · rw [segR_yes e] at hr
      rcases List.mem_cons.mp hr with h1 | h1
      · rw [h1]; exact hs
      · exact h r (List.mem_cons_of_mem _ h1)
    · rw [segR_no e] at hr
      rcases List.mem_cons.mp hr with h1 | h1
      · rw [h1]; exact hs
      · exact h r h1
theorem segR_len (R : List (Int × Int × Wv)) (s : Int × Int × Wv) : (segR R s).length ≤ R.length + 1 := by
  cases R with
  | nil => exact Nat.le_refl _
  | cons l t =>
    show (if l.2.2 = s.2.2 then (l.1, s.2.1, s.2.2) :: t else s :: l :: t).length ≤ _
    split <;> simp
theorem pure_stretches {K : PySem.W.Frag} {C : CA} {vs : List V} {H : Hp} {Q : VK} {E : XK} (h : sp_stretches K C vs H Q E) : t_stretches K C { nx := fun _ H' => Q .non H', rt := Q } (startN 6 vs) H := by
  obtain ⟨l, xs, rs, high, two, rfl, hxs, hrs, htwo, hrl, kk⟩ := h
  have hxl := Paired.length hrs
  refine q_asgL (el_lst ea_nil (by decide)) fun f H1 hf e1 h1 => ?_
  refine s_forEnum (D := { nx := tRet (tVar 2) { nx := fun _ H' => Q .non H', rt := Q }, rt := Q }) (xs := xs) (ev_var rfl) (sq_of (e1 l _ hxs)) (fun i σ' H' => ∃ o3 o4 o5 us, σ' = [some (.ref l), some (.int high), some (.ref f), o3, o4, o5] ∧ Ex H H' ∧ H' f = some (.lst us) ∧ Paired (SegR H') us (((tri high rs).take i).foldl segR []).reverse ∧ us.length ≤ i ∧ (∀ r ∈ ((tri high rs).take i).foldl segR [], r.2.2.isTwo = two))
    (fun H2 e2 => ⟨none, none, none, [], rfl, e1.trans e2, e2 f _ h1, .nil, Nat.le_refl _, fun _ z => by cases z⟩) (fun i σ' H' ⟨_, _, _, _, _, e, _⟩ => sq_of (e l _ hxs)) ?_ ?_
  · rintro i x T σ' H2 hx ⟨o3, o4, o5, us, rfl, E2, hf2, hps, hul, hR2⟩ hT
    obtain ⟨r, hr, p, u, rfl, hp, hu⟩ := paired_get hrs hx
    have hi : i < xs.length := (List.getElem?_eq_some_iff.mp hx).1
    have htri := tri_get (high := high) hr
    obtain ⟨L, hL⟩ : ∃ L, L = (rs[i + 1]?.map fun q => q.1 - 1).getD high := ⟨_, rfl⟩
    rw [← hL] at htri
    rw [take_snoc htri, List.foldl_append]
    show tSeq _ _ _ _ _
    generalize ((tri high rs).take i).foldl segR [] = R at hps hR2 ⊢
    have E3 : Ex H (upd H2 T (.tup [.int (i : Int), .ref p])) := E2.trans (Ex.new hT)
    have e23 : Ex H2 (upd H2 T (.tup [.int (i : Int), .ref p])) := Ex.new hT
    generalize upd H2 T (.tup [.int (i : Int), .ref p]) = H3 at E3 e23 ⊢
    refine q_asg (ev_var rfl) fun H4 e4 => ?_
    have E4 : Ex H H4 := E3.trans e4
    have hlen := ev_lenL (K := K) (H := H4) (ta := tVar 0) (σ := ((([some (.ref l), some (.int high), some (.ref f), o3, o4, o5] : L2.St).set 3 (some (.int (i : Int)))).set 4 (some (.ref p))).set 5 (some (.int high))) (ev_var rfl) (sq_of (E4 l _ hxs))
    refine q_ifAsg (v := .int L) (et_test (ev_lt (ev_add (ev_var rfl) ev_c) hlen)) (fun c => ?_) (fun c => ?_) fun H5 e5 => ?_
    · have hi1 : i + 1 < xs.length := by
        have := of_decide_eq_true c
        omega
      have hq : rs[i + 1]? = some rs[i + 1] := List.getElem?_eq_getElem (by omega)
      rw [hq] at hL
      have hxq : xs[i + 1]? = some xs[i + 1] := List.getElem?_eq_getElem hi1
      obtain ⟨q', hq', p', u', ep, hp', _⟩ := paired_get hrs hxq
      have eq' : q' = rs[i + 1] := by rw [hq] at hq'; exact (Option.some.inj hq').symm
      subst eq'
      rw [hL]
      rw [ep] at hxq
      have hat : atI xs ((i : Int) + 1) = some (V.ref p') := by
        have := atI_nat hxq
        rwa [show ((i + 1 : Nat) : Int) = (i : Int) + 1 from by omega] at this
      exact ev_sub (ev_ixT (v := .int rs[i + 1].1) (ev_ixL (v := .ref p') (i := (i : Int) + 1) (ev_var rfl) (ev_add (ev_var rfl) ev_c) (sq_of (E4 l _ hxs)) hat) ev_c (st_of (E4 p' _ hp')) rfl) ev_c
    · have hi1 : ¬ i + 1 < xs.length := by
        intro z
        rw [decide_eq_true (by omega)] at c
        cases c
      rw [List.getElem?_eq_none (by omega)] at hL
      rw [hL]
      rfl
    have E5 : Ex H H5 := E4.trans e5
    have e25 : Ex H2 H5 := (e23.trans e4).trans e5
    have hf5 := e25 f _ hf2
    have hps5 := SegR.all e25 hps
    have hp5 := E5 p _ hp
    have hu5 := WvR.mo (ext_of E5) hu
    show tIfS _ _ _ _ ([some (.ref l), some (.int high), some (.ref f), some (.int (i : Int)), some (.ref p), some (.int L)] : L2.St) H5
    -- what is behind an append
    have app : ∀ H6, Ex H5 H6 → (∀ s t, R = s :: t → ¬ s.2.2 = r.2) → tDrop (tBM K "list" rAppend (tVar 2) (tCons (tTup (tCons (tOp (ixA K) (tVar 4) (tC (.int 0))) (tCons (tVar 5) (tCons (tOp (ixA K) (tVar 4) (tC (.int 1))) tNil)))) tNil))
        { nx := fun σ' H' => ∃ o3 o4 o5 us, σ' = [some (.ref l), some (.int high), some (.ref f), o3, o4, o5] ∧ Ex H H' ∧ H' f = some (.lst us) ∧ Paired (SegR H') us (segR R (r.1, L, r.2)).reverse ∧ us.length ≤ i + 1 ∧ (∀ r' ∈ segR R (r.1, L, r.2), r'.2.2.isTwo = two), rt := Q, bk := tRet (tVar 2) { nx := fun _ H' => Q .non H', rt := Q }, ct := fun σ' H' => ∃ o3 o4 o5 us, σ' = [some (.ref l), some (.int high), some (.ref f), o3, o4, o5] ∧ Ex H H' ∧ H' f = some (.lst us) ∧ Paired (SegR H') us (segR R (r.1, L, r.2)).reverse ∧ us.length ≤ i + 1 ∧ (∀ r' ∈ segR R (r.1, L, r.2), r'.2.2.isTwo = two) }
        ([some (.ref l), some (.int high), some (.ref f), some (.int (i : Int)), some (.ref p), some (.int L)] : L2.St) H6 := fun H6 e6 hne => by
      refine s_appU (e6 f _ hf5) (ev_var rfl) (eu_tup (vs := [.int r.1, .int L, u]) (ea_cons (ev_ixT (ev_var rfl) ev_c (st_of (e6 p _ hp5)) rfl) (ea_cons (ev_var rfl) (ea_cons (ev_ixT (ev_var rfl) ev_c (st_of (e6 p _ hp5)) rfl) ea_nil))) (by simp)) (by omega) fun t H7 ht e7 h7 => ?_
      have hf7 := e7 f _ (e6 f _ hf5)
      have eR : segR R (r.1, L, r.2) = (r.1, L, r.2) :: R := by
        cases R with
        | nil => rfl
        | cons s t => exact if_neg (hne s t rfl)
      refine ⟨_, _, _, us ++ [.ref t], rfl, Ex.mut ((E5.trans e6).trans e7) (fresh_back (Ex.refl H) hf), upd_same, ?_, by rw [List.length_append]; show us.length + 1 ≤ _; omega, segR_two hR2 (htwo r (List.mem_of_getElem? hr))⟩
      rw [eR, List.reverse_cons]
      exact Paired.app (SegR.allT ((ext_of (e6.trans e7)).trans (ExT.app hf7)) hps5) (.cons ⟨t, u, rfl, ExT.app hf7 t _ h7, WvR.mo ((ext_of (e6.trans e7)).trans (ExT.app hf7)) hu5⟩ .nil)
    cases R with
    | nil =>
      cases hps5 with
      | nil =>
        have hne : Ev (tOp (neA K) (tVar 2) (tLst tNil)) ([some (.ref l), some (.int high), some (.ref f), some (.int (i : Int)), some (.ref p), some (.int L)] : L2.St) H5 (.bl (!decide (([] : List PyData) = []))) := ev_neNil (ev_var rfl) (.lst (sq_of hf5) .nil) (by decide +kernel)
        refine s_if (b := false) (et_and (a := false) (b := true) (et_test hne) fun c => by cases c) (fun c => by cases c) fun _ H6 e6 => ?_
        exact app H6 e6 fun s t z => by cases z
    | cons s t =>
      rw [List.reverse_cons] at hps5
      obtain ⟨us0, v0, rfl, hps0, q0, u0, rfl, hq0, hu0⟩ := paired_snoc hps5
      have hne : Ev (tOp (neA K) (tVar 2) (tLst tNil)) ([some (.ref l), some (.int high), some (.ref f), some (.int (i : Int)), some (.ref p), some (.int L)] : L2.St) H5 (.bl (!decide ((t.reverse ++ [s]).map segD = []))) := ev_neNil (ev_var rfl) (dp_segs hf5 hps5) (lay_all segD lay_segD _)
      have hd : decide ((t.reverse ++ [s]).map segD = []) = false := decide_eq_false (by simp)
      rw [hd] at hne
      have last : ∀ H6, Ex H5 H6 → Ev (tOp (ixA K) (tVar 2) (tUn (rU fun i => .int (-i)) (tC (.int 1)))) ([some (.ref l), some (.int high), some (.ref f), some (.int (i : Int)), some (.ref p), some (.int L)] : L2.St) H6 (.ref q0) := fun H6 e6 =>
        ev_ixL (ev_var rfl) (ev_neg ev_c) (sq_of (e6 f _ hf5)) atI_snoc
      have heq := ev_eqW (K := K) (ta := tOp (ixA K) (tOp (ixA K) (tVar 2) (tUn (rU fun i => .int (-i)) (tC (.int 1)))) (tC (.int 2))) (tb := tOp (ixA K) (tVar 4) (tC (.int 1))) (σ := [some (.ref l), some (.int high), some (.ref f), some (.int (i : Int)), some (.ref p), some (.int L)]) (H := H5)
        (ev_ixT (v := u0) (last H5 (Ex.refl H5)) ev_c (st_of hq0) rfl) (ev_ixT (v := u) (ev_var rfl) ev_c (st_of hp5) rfl) hu0 hu5 (by rw [hR2 s List.mem_cons_self, htwo r (List.mem_of_getElem? hr)])
      refine s_if (et_and (a := true) (et_test hne) fun _ => et_test heq) (fun c H6 e6 => ?_) (fun c H6 e6 => ?_)
      · have c' : s.2.2 = r.2 := of_decide_eq_true c
        refine s_setAU (xs := us0 ++ [.ref q0]) (eu_tup (vs := [.int s.1, .int L, u]) (ea_cons (ev_ixT (last H6 e6) ev_c (st_of (e6 q0 _ hq0)) rfl) (ea_cons (ev_var rfl) (ea_cons (ev_ixT (ev_var rfl) ev_c (st_of (e6 p _ hp5)) rfl) ea_nil))) (by simp)) (ev_var rfl) (ev_neg ev_c) (e6 f _ hf5) ixN_snoc fun t' H7 ht e7 h7 => ?_
        rw [set_snoc]
        have hf7 := e7 f _ (e6 f _ hf5)
        have eR : segR (s :: t) (r.1, L, r.2) = (s.1, L, r.2) :: t := if_pos c'
        refine ⟨_, _, _, us0 ++ [.ref t'], rfl, Ex.mut ((E5.trans e6).trans e7) (fresh_back (Ex.refl H) hf), upd_same, ?_, by rw [List.length_append] at hul ⊢; show us0.length + 1 ≤ _; have : us0.length + 1 ≤ i := hul; omega, segR_two hR2 (htwo r (List.mem_of_getElem? hr))⟩
        show Paired _ _ (segR (s :: t) (r.1, L, r.2)).reverse
        rw [eR, List.reverse_cons]
        exact Paired.app (SegR.allT ((ext_of (e6.trans e7)).trans (ExT.app hf7)) hps0) (.cons ⟨t', u, rfl, ExT.app hf7 t' _ h7, WvR.mo ((ext_of (e6.trans e7)).trans (ExT.app hf7)) hu5⟩ .nil)
      · have c' : ¬ s.2.2 = r.2 := fun z => by rw [decide_eq_true z] at c; cases c
        exact app H6 e6 fun s' t' z => by cases z; exact c'
  · rintro σ' H' ⟨o3, o4, o5, us, rfl, E1, hf1, hps, _, _⟩
    rw [hxl, ← tri_len (high := high) rs, List.take_length] at hps
    refine s_ret (ev_var rfl) fun H2 e2 => ?_
    exact kk f us H2 hf (E1.trans e2) (e2 f _ hf1) (SegR.all e2 hps)
end S
end
set_option Elab.async false
set_option linter.all false
set_option maxRecDepth 100000
set_option maxHeartbeats 4000000
section
open PySem L2 Evl S
local macro_rules | `(tactic| array_get_dec) => `(tactic| first
  | exact ev_c
  | exact ev_var rfl
  | exact S.eo_no
  | exact ea_nil
  | (apply S.eo_some <;> array_get_dec)
  | (apply ea_cons <;> array_get_dec)
  | (apply S.ev_add <;> array_get_dec)
  | (apply S.ev_sub <;> array_get_dec)
  | (apply S.ev_div <;> first | array_get_dec | exact ⟨by decide, by decide⟩ | exact ⟨by omega, by omega⟩)
  | (apply S.ev_mod <;> first | array_get_dec | decide | omega)
  | (apply S.ev_mulr <;> first | array_get_dec | exact ⟨by decide, by decide⟩ | exact ⟨by omega, by omega⟩)
  | (apply S.ev_mull <;> first | array_get_dec | exact ⟨by decide, by decide⟩ | exact ⟨by omega, by omega⟩)
  | (apply S.ev_neg <;> array_get_dec)
  | (apply S.ev_min <;> array_get_dec)
  | (apply S.ev_max <;> array_get_dec)
  | (apply S.ev_eqI <;> array_get_dec)
  | (apply S.ev_eqS <;> array_get_dec)
  | (apply S.ev_neI <;> array_get_dec)
  | (apply S.ev_neS <;> array_get_dec)
  | (apply S.ev_lt <;> array_get_dec)
  | (apply S.ev_le <;> array_get_dec)
  | (apply S.ev_gt <;> array_get_dec)
  | (apply S.ev_ge <;> array_get_dec)
  | (apply S.ev_intB <;> array_get_dec)
  | (apply et_test <;> array_get_dec)
  | (apply et_B <;> array_get_dec)
  | (apply et_not <;> array_get_dec)
  | (refine' et_and ?_ (fun _ => ?_) <;> array_get_dec)
  | (refine' et_or ?_ (fun _ => ?_) <;> array_get_dec))
namespace S
section
variable {K : PySem.W.Frag} {C : CA} {σ : L2.St} {H : Hp} {ta tb tc td te tf : TE} {D : Ends} {tu tz : TS} {b l : Addr} {B : Bk} {ns : List Int} {low high n : Int} {name : Str}
theorem el_begins (ha : Ev ta σ H (.ref b)) (hb : Ev tb σ H (.ref l)) (hc : Ev tc σ H (.int low)) (hd : Ev td σ H (.int high)) (h : BookAt H b B) (hl : SqL K H l (ns.map V.int)) (hn : ∀ k ∈ ns, k ∈ B.map (·.1)) (h31 : ns.length ≤ 31) (hlh : low ≤ high) :
    EvL (tCall (sp_begins_of K C) [] E0 (tCons ta (tCons tb (tCons tc (tCons td tNil))))) σ H ((begF B ns low high).map V.int) :=
  el_call (ea_cons ha (ea_cons hb (ea_cons hc (ea_cons hd ea_nil)))) fun H1 e1 Q q E => ⟨b, l, B, ns, low, high, rfl, h.mono e1, ex_l e1 hl, hn, h31, hlh, q⟩
theorem ep_stretches {xs : List V} {rs : List (Int × Wv)} {two : Bool} (ha : Ev ta σ H (.ref l)) (hb : Ev tb σ H (.int high)) (hx : H l = some (.lst xs)) (hr : Paired (RowW H) xs rs) (ht : ∀ r ∈ rs, r.2.isTwo = two) (hl : rs.length ≤ 1000) :
    EvP (tCall (sp_stretches K C) [] E0 (tCons ta (tCons tb tNil))) σ H SegR (strR high rs).reverse := fun H1 e Q q => by
  unfold tCall
  exact ea_cons ha (ea_cons hb ea_nil) H1 e _ fun H2 e2 => ⟨l, xs, rs, high, two, rfl, (e.trans e2) l _ hx, RowW.all (e.trans e2) hr, ht, hl, fun p ys H' hp e' h' hps => q p ys H' (fresh_back e2 hp) (e2.trans e') h' hps⟩
/-- a stretch of one worth is a row -/
theorem seg_row {v : V} {s : Int × Int × Wv} (h : SegR H v s) (hs : s.2.2.isTwo = false) : RowR H v (segRow s) := by
  obtain ⟨p, u, rfl, hp, hu⟩ := h
  obtain ⟨lo, hi, x⟩ := s
  cases x with
  | two a b => cases hs
  | one o => exact ⟨p, rfl, by rw [hp, show u = optV o from hu]; rfl⟩
theorem keep1_not (o : Option Int) : (!decide (optV o = V.non)) = keep1 (.one o) := by cases o <;> rfl
end
/-! ### runs_of -/
def sp_runs_of (K : PySem.W.Frag) (C : CA) : Sp := fun vs H Q _ => ∃ (b : Addr) (B : Bk) (n : Int) (name : Str) (low high : Int), vs = [.ref b, .int n, .str name, .int low, .int high] ∧ BookAt H b B ∧ B.length ≤ 31 ∧ low ≤ high ∧
  ∀ p xs H', H p = none → Ex H H' → H' p = some (.lst xs) → Paired (RowR H') xs (runsF B n name low high) → Q (.ref p) H'
theorem len_runs_of {K : PySem.W.Frag} {C : CA} {vs : List V} {H : Hp} {Q : VK} {E : XK} (h : sp_runs_of K C vs H Q E) : vs.length = 5 := by
  obtain ⟨b, B, n, name, low, high, rfl, _⟩ := h
  rfl
/-- book 0, n 1, name 2, low 3, high 4, numbers 5, rows 6, day 7, row 8 -/
def t_runs_of (K : PySem.W.Frag) (C : CA) : TS :=
 (tSeq (tAsg (tCall (sp_counting K C) [] E0 (tCons (tVar 0) (tCons (tVar 1) tNil))) (gName 5))
 (tSeq (tAsg (tLc (iList K (tCall (sp_begins_of K C) [] E0 (tCons (tVar 0) (tCons (tVar 5) (tCons (tVar 3) (tCons (tVar 4) tNil)))))) (gName 7) tYes (tTup (tCons (tVar 7) (tCons (tCall (sp_said_of K C) [] E0 (tCons (tVar 0) (tCons (tVar 5) (tCons (tVar 2) (tCons (tVar 7) tNil))))) tNil))) [7]) (gName 6))
 (tRet (tLc (iList K (tCall (sp_stretches K C) [] E0 (tCons (tVar 6) (tCons (tVar 4) tNil)))) (gName 8) (tTest (tOp (ntN) (tOp (ixA K) (tVar 8) (tC (.int 2))) (tC .non))) (tVar 8) [8]))))
theorem pure_runs_of {K : PySem.W.Frag} {C : CA} {vs : List V} {H : Hp} {Q : VK} {E : XK} (h : sp_runs_of K C vs H Q E) : t_runs_of K C { nx := fun _ H' => Q .non H', rt := Q } (startN 9 vs) H := by
  obtain ⟨b, B, n, name, low, high, rfl, hB, hB31, hlh, kk⟩ := h
  refine q_asgL (el_counting (ev_var rfl) (ev_var rfl) hB) fun pl H1 hpl e1 h1 => ?_
  have hc31 : (countF B n).length ≤ 31 := Nat.le_trans (countF_len B n) hB31
  have hmem : ∀ k ∈ countF B n, k ∈ B.map (·.1) := fun k hk => (countF_mem hk).1
  have hbl := (begF_facts B low high hlh (countF B n)).2.2.1
  have rows := ep_lcN (K := K) (F := RowW) (G := ValR V.int) (zs := begF B (countF B n) low high) (tl := tCall (sp_begins_of K C) [] E0 (tCons (tVar 0) (tCons (tVar 5) (tCons (tVar 3) (tCons (tVar 4) tNil))))) (j := 7) (vs := [7]) (H := H1)
    (σ := [some (.ref b), some (.int n), some (.str name), some (.int low), some (.int high), some (.ref pl), none, none, none]) (t := tYes) (te := tTup (tCons (tVar 7) (tCons (tCall (sp_said_of K C) [] E0 (tCons (tVar 0) (tCons (tVar 5) (tCons (tVar 2) (tCons (tVar 7) tNil))))) tNil)))
    (fun _ => true) (fun d => (d, wOne B (countF B n) name d)) RowW.mo ValR.mo.mo (ep_ofL V.int (el_begins (ev_var rfl) (ev_var rfl) (ev_var rfl) (ev_var rfl) (hB.mono e1) (sq_of h1) hmem hc31 hlh)) (by omega) (fun x => rfl) (fun x z H2 e2 _ _ => et_yes) (fun x z H2 e2 _ hx _ => by
      have hx' : x = .int z := hx
      subst hx'
      exact ex_evU (eu_tup (ea_cons (ev_var rfl) (ea_cons (ev_said (ev_var rfl) (ev_var rfl) (ev_var rfl) (ev_var rfl) (hB.mono (e1.trans e2)) (sq_of (e2 pl _ h1)) hmem) ea_nil)) (by simp)) fun p H3 _ h3 => ⟨p, _, rfl, h3, rfl⟩)
  have hft : ((begF B (countF B n) low high).filter fun _ => true) = begF B (countF B n) low high := List.filter_eq_self.mpr fun _ _ => rfl
  rw [hft] at rows
  refine q_asgP rows fun pr us H2 hpr e2 h2 hps2 => ?_
  have hone : ∀ r ∈ (begF B (countF B n) low high).map (fun d => (d, wOne B (countF B n) name d)), r.2.isTwo = false := fun r hr => by
    obtain ⟨d, _, rfl⟩ := List.mem_map.mp hr
    rfl
  have str := ep_stretches (K := K) (C := C) (ta := tVar 6) (tb := tVar 4) (σ := [some (.ref b), some (.int n), some (.str name), some (.int low), some (.int high), some (.ref pl), some (.ref pr), none, none]) (high := high) (ev_var rfl) (ev_var rfl) h2 hps2 hone (by rw [List.length_map]; omega)
  have hone2 : ∀ s ∈ (strR high ((begF B (countF B n) low high).map (fun d => (d, wOne B (countF B n) name d)))).reverse, s.2.2.isTwo = false := fun s hs => strR_all (P := fun x => x.isTwo = false) hone s (List.mem_reverse.mp hs)
  have hsl := strR_len high ((begF B (countF B n) low high).map (fun d => (d, wOne B (countF B n) name d)))
  rw [List.length_map] at hsl
  have hR : runsF B n name low high = (((strR high ((begF B (countF B n) low high).map (fun d => (d, wOne B (countF B n) name d)))).reverse.filter fun s => keep1 s.2.2).map segRow) := by
    rw [List.filter_reverse, runs_is hlh]
    rfl
  refine s_retP (F := RowR) (ys := runsF B n name low high) ?_ fun p xs H3 hp e3 h3 hps3 => kk p xs H3 (fresh_back (e1.trans e2) hp) ((e1.trans e2).trans e3) h3 hps3
  rw [hR]
  refine ep_lcN (K := K) (F := RowR) (G := SegR) (fun s => keep1 s.2.2) segRow TupR.mo SegR.mo.mo str (by rw [List.length_reverse]; omega) (fun x => rfl) (fun x z H4 e4 hz hx => ?_) fun x z H4 e4 hz hx _ => ex_ev (ev_var rfl) fun H5 e5 => TupR.mo (ext_of e5) (seg_row hx (hone2 z hz))
  obtain ⟨t, u, rfl, ht, hu⟩ := hx
  have h2' := hone2 z hz
  obtain ⟨lo, hi, y⟩ := z
  cases y with
  | two c d => cases h2'
  | one o =>
    rw [show keep1 ((lo, hi, Wv.one o) : Int × Int × Wv).2.2 = !decide (optV o = V.non) from (keep1_not o).symm]
    exact et_test (ev_ntN (ev_ixT (v := optV o) (ev_var rfl) ev_c (st_of ht) (by rw [show u = optV o from hu]; rfl)))
/-! ### _law_runs -/
def sp_l_runs (K : PySem.W.Frag) (C : CA) : Sp := fun vs H Q _ => ∃ (b : Addr) (B : Bk) (n : Int) (name : Str) (low high : Int), vs = [.ref b, .int n, .str name, .int low, .int high] ∧ BookAt H b B ∧ low ≤ high ∧ 0 ≤ low ∧ high ≤ 1000000 ∧ high - low ≤ 900 ∧
  ∀ p xs H', H p = none → Ex H H' → H' p = some (.lst xs) → Paired (RowR H') xs (runsF B n name low high) → Q (.ref p) H'
theorem len_l_runs {K : PySem.W.Frag} {C : CA} {vs : List V} {H : Hp} {Q : VK} {E : XK} (h : sp_l_runs K C vs H Q E) : vs.length = 5 := by
  obtain ⟨b, B, n, name, low, high, rfl, _⟩ := h
  rfl
/-- _law_book_here 0, _law_n 1, _law_name 2, _law_low 3, _law_high 4, _law_found 5, _law_day 6, _law_worth 7 -/
def t_l_runs (K : PySem.W.Frag) (C : CA) : TS :=
 (tSeq (tAsg (tLst tNil) (gName 5))
 (tSeq (tFor (iRng2 (tCons (tVar 3) (tCons (tOp (addA K) (tVar 4) (tC (.int 1))) tNil))) (gName 6)
  (tSeq (tAsg (tDGet2 (tCall (sp_l_said K C) [] E0 (tCons (tVar 0) (tCons (tVar 1) (tCons (tVar 6) tNil)))) (tVar 2) (tC .non)) (gName 7))
 (tIfS (tTest (tOp (ntN) (tVar 7) (tC .non))) (tIfS (tAnd (tTest (tOp (neA K) (tVar 5) (tLst tNil))) (tAnd (tTest (tOp (eqA K) (tOp (ixA K) (tOp (ixA K) (tVar 5) (tUn (rU fun i => .int (-i)) (tC (.int 1)))) (tC (.int 1))) (tOp (subI) (tVar 6) (tC (.int 1))))) (tTest (tOp (eqA K) (tOp (ixA K) (tOp (ixA K) (tVar 5) (tUn (rU fun i => .int (-i)) (tC (.int 1)))) (tC (.int 2))) (tVar 7))))) (tAsg (tTup (tCons (tOp (ixA K) (tOp (ixA K) (tVar 5) (tUn (rU fun i => .int (-i)) (tC (.int 1)))) (tC (.int 0))) (tCons (tVar 6) (tCons (tVar 7) tNil)))) (gSub (tVar 5) (tUn (rU fun i => .int (-i)) (tC (.int 1))) setA)) (tDrop (tBM K "list" rAppend (tVar 5) (tCons (tTup (tCons (tVar 6) (tCons (tVar 6) (tCons (tVar 7) tNil)))) tNil)))) tNext)))
 (tRet (tVar 5))))
/-- for day in range(a, b), far numbers -/
theorem q_forDays {K : PySem.W.Frag} {σ : L2.St} {H : Hp} {D : Ends} {tu tz : TS} {ta : TA} {j : Nat} {lo n : Int} (h : EvA ta σ H [.int lo, .int n]) (hn : -2000000 ≤ lo ∧ lo ≤ 2000000 ∧ -2000000 ≤ n ∧ n ≤ 2000000) (Pv : Nat → L2.St → Hp → Prop) (h0 : ∀ H1, Ex H H1 → Pv 0 σ H1)
    (hs : ∀ (i : Nat) σ' H', i < (n - lo).toNat → Pv i σ' H' → tu { D with nx := Pv (i + 1), ct := Pv (i + 1), bk := tz D } (σ'.set j (some (.int (lo + (i : Int))))) H') (hd : ∀ σ' H', Pv (n - lo).toNat σ' H' → tz D σ' H') : tSeq (tFor (iRng2 ta) (gName j) tu) tz D σ H :=
  h H (Ex.refl H) _ fun H1 e => ⟨lo, n, rfl, ⟨by omega, by omega, by omega, by omega⟩, for_range (tb := tu) (D := { D with nx := tz D }) (lo := lo) (n := (n - lo).toNat) Pv (h0 H1 e) (fun i σ' H' hi p => hs i σ' H' hi p) hd⟩
theorem dayR_len {keep : Wv → Bool} {w : Int → Wv} (R : List (Int × Int × Wv)) (d : Int) : (dayR keep w R d).length ≤ R.length + 1 := by
  unfold dayR
  split
  · cases R with
    | nil => exact Nat.le_refl _
    | cons l r => unfold dayP; dsimp only; split <;> simp
  · omega
theorem pure_l_runs {K : PySem.W.Frag} {C : CA} {vs : List V} {H : Hp} {Q : VK} {E : XK} (h : sp_l_runs K C vs H Q E) : t_l_runs K C { nx := fun _ H' => Q .non H', rt := Q } (startN 8 vs) H := by
  obtain ⟨b, B, n, name, low, high, rfl, hB, hlh, hl0, hh1, h900, kk⟩ := h
  refine q_asgL (el_lst ea_nil (by decide)) fun f H1 hf e1 h1 => ?_
  have hcnt : (high + 1 - low).toNat = (high - low + 1).toNat := by omega
  refine q_forDays (K := K) (ea_cons (ev_var rfl) (ea_cons (ev_add (ev_var rfl) ev_c) ea_nil)) ⟨by omega, by omega, by omega, by omega⟩
    (fun i σ' H' => ∃ o6 o7 us R, σ' = [some (.ref b), some (.int n), some (.str name), some (.int low), some (.int high), some (.ref f), o6, o7] ∧ Ex H H' ∧ H' f = some (.lst us) ∧ R = daysR keep1 (wOne B (countF B n) name) (dl low i) ∧ Paired (RowR H') us (R.reverse.map segRow) ∧ us.length ≤ i ∧ ∀ s ∈ R, s.2.2.isTwo = false)
    (fun H2 e2 => ⟨none, none, [], [], rfl, e1.trans e2, e2 f _ h1, rfl, .nil, Nat.le_refl _, fun _ z => by cases z⟩) ?_ ?_
  · rintro i σ' H2 hi ⟨o6, o7, us, R, rfl, E2, hf2, hR, hps, hul, hone⟩
    rw [dl_succ, daysR_snoc, ← hR]
    have hone' : ∀ s ∈ dayR keep1 (wOne B (countF B n) name) R (low + (i : Int)), s.2.2.isTwo = false := dayR_all (P := fun x => x.isTwo = false) (fun d _ => rfl) [low + (i : Int)] R hone
    generalize low + (i : Int) = day at hone' ⊢
    clear hR
    refine q_asg (ev_lsaid (ev_var rfl) (ev_var rfl) (ev_var rfl) (ev_var rfl) (hB.mono E2)) fun H3 e3 => ?_
    show tIfS _ _ _ _ ([some (.ref b), some (.int n), some (.str name), some (.int low), some (.int high), some (.ref f), some (.int day), some (optV (worthF B n name day))] : L2.St) H3
    have ew : wOne B (countF B n) name day = .one (worthF B n name day) := rfl
    have hyes : keep1 (.one (worthF B n name day)) = true → dayR keep1 (wOne B (countF B n) name) R day = dayP (.one (worthF B n name day)) R day := fun h => dayR_yes ew h
    have hno : keep1 (.one (worthF B n name day)) = false → dayR keep1 (wOne B (countF B n) name) R day = R := fun h => dayR_no ew h
    clear ew
    generalize worthF B n name day = o at hyes hno ⊢
    have E3 : Ex H H3 := E2.trans e3
    have hf3 := e3 f _ hf2
    have hps3 := TupR.all e3 hps
    refine s_when (et_test (ev_ntN (ev_var rfl))) (fun c H4 e4 => ?_) (fun c H4 e4 => ?_)
    · rw [keep1_not] at c
      have hdr := hyes c
      have E4 : Ex H H4 := E3.trans e4
      have hf4 := e4 f _ hf3
      have hps4 := TupR.all e4 hps3
      -- an append
      have app : ∀ H5, Ex H4 H5 → dayR keep1 (wOne B (countF B n) name) R day = (day, day, .one o) :: R → tDrop (tBM K "list" rAppend (tVar 5) (tCons (tTup (tCons (tVar 6) (tCons (tVar 6) (tCons (tVar 7) tNil)))) tNil))
          { nx := fun σ' H' => ∃ o6 o7 us R', σ' = [some (.ref b), some (.int n), some (.str name), some (.int low), some (.int high), some (.ref f), o6, o7] ∧ Ex H H' ∧ H' f = some (.lst us) ∧ R' = dayR keep1 (wOne B (countF B n) name) R day ∧ Paired (RowR H') us (R'.reverse.map segRow) ∧ us.length ≤ i + 1 ∧ ∀ s ∈ R', s.2.2.isTwo = false, rt := Q,
            bk := tRet (tVar 5) { nx := fun _ H' => Q .non H', rt := Q },
            ct := fun σ' H' => ∃ o6 o7 us R', σ' = [some (.ref b), some (.int n), some (.str name), some (.int low), some (.int high), some (.ref f), o6, o7] ∧ Ex H H' ∧ H' f = some (.lst us) ∧ R' = dayR keep1 (wOne B (countF B n) name) R day ∧ Paired (RowR H') us (R'.reverse.map segRow) ∧ us.length ≤ i + 1 ∧ ∀ s ∈ R', s.2.2.isTwo = false }
          ([some (.ref b), some (.int n), some (.str name), some (.int low), some (.int high), some (.ref f), some (.int day), some (optV o)] : L2.St) H5 := fun H5 e5 eR => by
        refine s_appU (e5 f _ hf4) (ev_var rfl) (eu_tup (vs := [.int day, .int day, optV o]) (ea_cons (ev_var rfl) (ea_cons (ev_var rfl) (ea_cons (ev_var rfl) ea_nil))) (by simp)) (by omega) fun t H6 ht e6 h6 => ?_
        have hf6 := e6 f _ (e5 f _ hf4)
        refine ⟨_, _, us ++ [.ref t], _, rfl, Ex.mut ((E4.trans e5).trans e6) hf, upd_same, rfl, ?_, by rw [List.length_append]; show us.length + 1 ≤ _; omega, hone'⟩
        rw [eR, List.reverse_cons, List.map_append]
        exact Paired.app (TupR.allT ((ext_of (e5.trans e6)).trans (ExT.app hf6)) hps4) (.cons ⟨t, rfl, ExT.app hf6 t _ h6⟩ .nil)
      cases R with
      | nil =>
        cases hps4 with
        | nil =>
          have hne : Ev (tOp (neA K) (tVar 5) (tLst tNil)) ([some (.ref b), some (.int n), some (.str name), some (.int low), some (.int high), some (.ref f), some (.int day), some (optV o)] : L2.St) H4 (.bl (!decide (([] : List PyData) = []))) := ev_neNil (ev_var rfl) (.lst (sq_of hf4) .nil) (by decide +kernel)
          refine s_if (b := false) (et_and (a := false) (b := true) (et_test hne) fun c => by cases c) (fun c => by cases c) fun _ H6 e6 => ?_
          exact app H6 e6 hdr
      | cons s r =>
        rw [List.reverse_cons, List.map_append] at hps4
        obtain ⟨us0, v0, rfl, hps0, q0, rfl, hq0⟩ := paired_snoc hps4
        obtain ⟨lo, hi, x⟩ := s
        have hx1 := hone (lo, hi, x) List.mem_cons_self
        cases x with
        | two c d => cases hx1
        | one p =>
          have hq0 : H4 q0 = some (.tup [.int lo, .int hi, optV p]) := hq0
          have hne : Ev (tOp (neA K) (tVar 5) (tLst tNil)) ([some (.ref b), some (.int n), some (.str name), some (.int low), some (.int high), some (.ref f), some (.int day), some (optV o)] : L2.St) H4 (.bl (!decide ((r.reverse.map segRow ++ [segRow (lo, hi, .one p)]).map rowD = []))) := ev_neNil (ev_var rfl) (dp_rows hf4 hps4) (lay_rows _)
          have hd : decide ((r.reverse.map segRow ++ [segRow (lo, hi, .one p)]).map rowD = []) = false := decide_eq_false (by simp)
          rw [hd] at hne
          have last : ∀ H6, Ex H4 H6 → Ev (tOp (ixA K) (tVar 5) (tUn (rU fun i => .int (-i)) (tC (.int 1)))) ([some (.ref b), some (.int n), some (.str name), some (.int low), some (.int high), some (.ref f), some (.int day), some (optV o)] : L2.St) H6 (.ref q0) := fun H6 e6 =>
            ev_ixL (ev_var rfl) (ev_neg ev_c) (sq_of (e6 f _ hf4)) atI_snoc
          refine s_if (b := true && (decide (hi = day - 1) && decide (optV p = optV o))) (et_and (a := true) (et_test hne) fun _ => et_and (et_test (ev_eqI (ev_ixT (v := .int hi) (last H4 (Ex.refl H4)) ev_c (st_of hq0) rfl) (ev_sub (ev_var rfl) ev_c))) fun _ => et_test (ev_eq (ev_ixT (v := optV p) (last H4 (Ex.refl H4)) ev_c (st_of hq0) rfl) (ev_var rfl) (scal_opt p o))) (fun c2 H6 e6 => ?_) (fun c2 H6 e6 => ?_)
          · rw [Bool.true_and, Bool.and_eq_true, decide_eq_true_eq, decide_eq_true_eq, optV_inj] at c2
            have eR : dayR keep1 (wOne B (countF B n) name) ((lo, hi, .one p) :: r) day = (lo, day, .one o) :: r := hdr.trans (dayP_yes ⟨c2.1, by rw [c2.2]⟩)
            refine s_setAU (xs := us0 ++ [.ref q0]) (eu_tup (vs := [.int lo, .int day, optV o]) (ea_cons (ev_ixT (v := .int lo) (last H6 e6) ev_c (st_of (e6 q0 _ hq0)) rfl) (ea_cons (ev_var rfl) (ea_cons (ev_var rfl) ea_nil))) (by simp)) (ev_var rfl) (ev_neg ev_c) (e6 f _ hf4) ixN_snoc fun t' H7 ht e7 h7 => ?_
            rw [set_snoc]
            have hf7 := e7 f _ (e6 f _ hf4)
            refine ⟨_, _, us0 ++ [.ref t'], _, rfl, Ex.mut ((E4.trans e6).trans e7) hf, upd_same, rfl, ?_, by rw [List.length_append] at hul ⊢; show us0.length + 1 ≤ _; have : us0.length + 1 ≤ i := hul; omega, hone'⟩
            rw [eR, List.reverse_cons, List.map_append]
            exact Paired.app (TupR.allT ((ext_of (e6.trans e7)).trans (ExT.app hf7)) hps0) (.cons ⟨t', rfl, ExT.app hf7 t' _ h7⟩ .nil)
          · refine app H6 e6 (hdr.trans (dayP_no fun z => ?_))
            have z2 : Wv.one p = .one o := z.2
            have z1 : hi = day - 1 := z.1
            rw [decide_eq_true z1, decide_eq_true (by rw [Wv.one.inj z2])] at c2
            cases c2
    · rw [keep1_not] at c
      have hdr := hno c
      refine ⟨_, _, us, _, rfl, E3.trans e4, e4 f _ hf3, rfl, ?_, by omega, hone'⟩
      rw [hdr]
      exact TupR.all e4 hps3
  · rintro σ' H2 ⟨o6, o7, us, R, rfl, E2, hf2, hR, hps, hul, hone⟩
    rw [hcnt] at hR
    refine s_ret (ev_var rfl) fun H3 e3 => ?_
    refine kk f us H3 hf (E2.trans e3) (e3 f _ hf2) ?_
    unfold runsF runsR
    rw [← hR]
    exact TupR.all e3 hps
end S
end
set_option Elab.async false
set_option linter.all false
set_option maxRecDepth 100000
set_option maxHeartbeats 4000000
namespace S
open PySem L2 Evl
section
variable {K : PySem.W.Frag} {C : CA} {σ : L2.St} {H H' : Hp} {ta tb tc td te tf : TE} {D : Ends} {tu tz : TS}
/-- all but b stays -/
def ExB (b : Addr) (H H' : Hp) : Prop := ∀ a o, a ≠ b → H a = some o → H' a = some o
theorem ExB.of {b : Addr} (e : Ex H H') : ExB b H H' := fun a o _ h => e a o h
theorem ExB.trans {b : Addr} {H1 H2 H3 : Hp} (a : ExB b H1 H2) (c : ExB b H2 H3) : ExB b H1 H3 := fun x o hx h => c x o hx (a x o hx h)
theorem ExB.back {b : Addr} {u : HO} (h : ExB b H H') (hb : H b = some u) : Ex H (upd H' b u) := fun a o ha => by
  by_cases z : a = b
  · subst z; rw [hb] at ha; rw [upd_same, ha]
  · rw [upd_ne z]; exact h a o z ha
theorem ExB.frz {b : Addr} (o : HO) : ExB b H (upd H b o) := fun a o ha h => by rw [upd_ne ha]; exact h
theorem ExB.mut {b u : Addr} {o : HO} (h : ExB b H H') (hu : H u = none) : ExB b H (upd H' u o) := fun a x ha hx => by
  rw [upd_ne (fun z => by rw [z, hu] at hx; cases hx)]
  exact h a x ha hx
theorem BkRel.exB {b : Addr} {kvs kv : List (Key × V)} {B : Bk} (e : ExB b H H') (hb : H b = some (.dK kv)) (h : BkRel H kvs B) : BkRel H' kvs B := Paired.imp (fun x y ⟨h1, t, h2, h3⟩ => ⟨h1, t, h2, e t _ (fun z => by rw [z] at h3; have := hb.symm.trans h3; cases this) h3⟩) h
theorem ed_disp2 {k1 k2 : Key} {v : V} (hk : Ev ta σ H (kV k1)) (hv : Ev tb σ H v) (hk2 : Ev tc σ H (kV k2)) (hv2 : Ev td σ H v) (hne : mergeK [] [(k1, v), (k2, v)] = [(k1, v), (k2, v)]) : EvD (tDisp ((ta, tb) :: ((tc, td) :: []))) σ H [(k1, v), (k2, v)] := fun H1 e Q q p hp => by
  unfold tPairs tPairs tPairs
  have e1 : Ex H1 (upd H1 p (.dK [])) := Ex.new hp
  refine hk _ (e.trans e1) _ fun H2 e2 => hv _ ((e.trans e1).trans e2) _ fun H3 e3 => hk2 _ (((e.trans e1).trans e2).trans e3) _ fun H4 e4 => hv2 _ ((((e.trans e1).trans e2).trans e3).trans e4) _ fun H5 e5 => ?_
  refine ⟨(((e2.trans e3).trans e4).trans e5) p _ upd_same, [(k1, v), (k2, v)], rfl, by show 2 ≤ 15; decide, ?_⟩
  rw [hne]
  exact q p _ hp (Ex.mut ((((e1.trans e2).trans e3).trans e4).trans e5) hp) upd_same
/-- for k in d, d locked -/
theorem q_lockKeys {d : Addr} {kvs : List (Key × V)} {j : Nat} (ha : ∀ H1, Ev ta σ H1 (.ref d)) (hd : H d = some (.dK kvs)) (Pv : Obj → Nat → L2.St → Hp → Prop) (h0 : ∀ od H1, Ex (upd H d (.frz od (.dK kvs))) H1 → Pv od 0 σ H1) (hG : ∀ od i σ' H', Pv od i σ' H' → H' d = some (.frz od (.dK kvs)))
    (hs : ∀ od i k v σ' H', kvs[i]? = some (k, v) → Pv od i σ' H' → tu { nx := Pv od (i + 1), ct := Pv od (i + 1), bk := fun σ' H' => H' d = some (.frz od (.dK kvs)) ∧ tz D σ' (upd H' d (.dK kvs)), rt := fun v H' => H' d = some (.frz od (.dK kvs)) ∧ D.rt v (upd H' d (.dK kvs)) } (σ'.set j (some (kV k))) H')
    (hz : ∀ od σ' H', Pv od kvs.length σ' H' → tz D σ' (upd H' d (.dK kvs))) : tSeq (tLock (tFor (iKeys ta) (gName j) tu)) tz D σ H :=
  ⟨d, .dK kvs, hd, trivial, fun od => ha _ _ (Ex.refl _) _ fun H1 e1 => ⟨d, od, rfl, .inl ⟨kvs, e1 d _ upd_same,
    for_it (tb := tu) (g := gName j) (D := ⟨fun σ' H' => H' d = some (.frz od (.dK kvs)) ∧ tz D σ' (upd H' d (.dK kvs)), fun v H' => H' d = some (.frz od (.dK kvs)) ∧ D.rt v (upd H' d (.dK kvs)), fun σ' H' => H' d = some (.frz od (.dK kvs)) ∧ D.bk σ' (upd H' d (.dK kvs)), fun σ' H' => H' d = some (.frz od (.dK kvs)) ∧ D.ct σ' (upd H' d (.dK kvs))⟩)
      walk_keys (Pv od) (h0 od H1 e1) (fun i σ' H' _ p => hG od i σ' H' p) (fun i x σ' H2 H3 hi p y => by
        obtain ⟨rfl, k, v, hkv, rfl⟩ := y
        exact hs od i k v σ' H3 hkv p) fun σ' H' p => ⟨hG od _ σ' H' p, hz od σ' H' p⟩⟩⟩⟩
theorem NewBk.step {p : Addr} {B : Bk} {H0 H1 : Hp} (h : NewBk H0 H p B) (x : Ex H H1) : NewBk H0 H1 p B := ⟨h.new, h.ex.trans x, let ⟨kvs, h1, h2⟩ := h.dk; ⟨kvs, x p _ h1, h2.mono x⟩, h.nd, h.few⟩
end
end S
set_option Elab.async false
set_option linter.all false
set_option maxRecDepth 100000
set_option maxHeartbeats 4000000
section
open PySem L2 Evl S
local macro_rules | `(tactic| array_get_dec) => `(tactic| first
  | exact ev_c
  | exact ev_var rfl
  | exact S.eo_no
  | exact ea_nil
  | (apply S.eo_some <;> array_get_dec)
  | (apply ea_cons <;> array_get_dec)
  | (apply S.ev_add <;> array_get_dec)
  | (apply S.ev_sub <;> array_get_dec)
  | (apply S.ev_div <;> first | array_get_dec | exact ⟨by decide, by decide⟩ | exact ⟨by omega, by omega⟩)
  | (apply S.ev_mod <;> first | array_get_dec | decide | omega)
  | (apply S.ev_mulr <;> first | array_get_dec | exact ⟨by decide, by decide⟩ | exact ⟨by omega, by omega⟩)
  | (apply S.ev_mull <;> first | array_get_dec | exact ⟨by decide, by decide⟩ | exact ⟨by omega, by omega⟩)
  | (apply S.ev_neg <;> array_get_dec)
  | (apply S.ev_min <;> array_get_dec)
  | (apply S.ev_max <;> array_get_dec)
  | (apply S.ev_eqI <;> array_get_dec)
  | (apply S.ev_eqS <;> array_get_dec)
  | (apply S.ev_neI <;> array_get_dec)
  | (apply S.ev_neS <;> array_get_dec)
  | (apply S.ev_lt <;> array_get_dec)
  | (apply S.ev_le <;> array_get_dec)
  | (apply S.ev_gt <;> array_get_dec)
  | (apply S.ev_ge <;> array_get_dec)
  | (apply S.ev_intB <;> array_get_dec)
  | (apply et_test <;> array_get_dec)
  | (apply et_B <;> array_get_dec)
  | (apply et_not <;> array_get_dec)
  | (refine' et_and ?_ (fun _ => ?_) <;> array_get_dec)
  | (refine' et_or ?_ (fun _ => ?_) <;> array_get_dec))
namespace S
/-! ### what runs are -/
structure RunsOk (w : Int → Option Int) (low high : Int) (S : List (Int × Int × Wv)) : Prop where
  seg : ∀ s ∈ S, low ≤ s.1 ∧ s.1 ≤ s.2.1 ∧ s.2.1 ≤ high ∧ s.2.2.isTwo = false ∧ (∀ x, s.1 ≤ x → x ≤ s.2.1 → w x = s.2.2.fst) ∧ (low ≤ s.1 - 1 → w (s.1 - 1) ≠ s.2.2.fst) ∧ (s.2.1 + 1 ≤ high → w (s.2.1 + 1) ≠ s.2.2.fst)
  pair : S.Pairwise fun s t => s.2.1 < t.1
  out : ∀ x, low ≤ x → x ≤ high → (∀ s ∈ S, ¬ (s.1 ≤ x ∧ x ≤ s.2.1)) → w x = none
theorem runs_ok {B : Bk} {n low high : Int} (hlh : low ≤ high) (name : Str) : RunsOk (fun d => worthF B n name d) low high (runsR B n name low high).reverse := by
  have cov := runs_cov (B := B) (n := n) hlh name
  have bd := cov.bound
  have ed := cov.edges
  have hone : ∀ s ∈ strR high ((begF B (countF B n) low high).map fun d => (d, wOne B (countF B n) name d)), s.2.2.isTwo = false := strR_all (P := fun x => x.isTwo = false) fun r hr => by
    obtain ⟨d, _, rfl⟩ := List.mem_map.mp hr
    rfl
  rw [← runs_is hlh]
  have val : ∀ x s, s ∈ strR high ((begF B (countF B n) low high).map fun d => (d, wOne B (countF B n) name d)) → (wOne B (countF B n) name x = s.2.2 ↔ worthF B n name x = s.2.2.fst) := fun x s hs => by
    have h1 := hone s hs
    obtain ⟨lo, hi, y⟩ := s
    cases y with
    | two a b => cases h1
    | one o =>
      constructor
      · intro h; exact Wv.one.inj h
      · intro h; exact congrArg Wv.one h
  refine ⟨fun s hs => ?_, ?_, fun x h1 h2 h3 => ?_⟩
  · have hm := (List.mem_filter.mp (List.mem_reverse.mp hs)).1
    obtain ⟨b1, b2, b3, b4⟩ := bd.2 s hm
    obtain ⟨e1, e2⟩ := ed s hm
    exact ⟨b1, b2, b3, hone s hm, fun x h1 h2 => (val x s hm).mp (b4 x h1 h2), fun h z => e1 h ((val _ s hm).mpr z), fun h z => e2 h ((val _ s hm).mpr z)⟩
  · rw [List.pairwise_reverse]
    exact List.Pairwise.filter _ cov.pairwise
  · obtain ⟨s, hs, g1, g2, g3⟩ := cov.at h1 h2
    by_cases hk : keep1 s.2.2 = true
    · exact absurd ⟨g1, g2⟩ (h3 s (List.mem_reverse.mpr (List.mem_filter.mpr ⟨hs, hk⟩)))
    · rw [← g3] at hk
      have : wOne B (countF B n) name x = .one (worthF B n name x) := rfl
      rw [this] at hk
      cases e : worthF B n name x with
      | none => rfl
      | some i => rw [e] at hk; exact absurd rfl hk
section
variable {K : PySem.W.Frag} {C : CA} {σ : L2.St} {H H' : Hp} {ta tb tc td te tf : TE} {D : Ends} {tu tz : TS}
/-- a < b <= c <= d -/
theorem et_chain3 {i j k m : Int} (ha : Ev ta σ H (.int i)) (hb : Ev tb σ H (.int j)) (hc : Ev tc σ H (.int k)) (hd : Ev td σ H (.int m)) (h1 : i < j) (h2 : j ≤ k) (h3 : k ≤ m) : EvT (tTest (tChain3 ltI leI leI ta tb tc td)) σ H true := fun H1 e Q q => by
  unfold tTest tChain3
  refine ha H1 e _ fun H2 e2 => hb H2 (e.trans e2) _ fun H3 e3 => ⟨i, j, rfl, rfl, true, congrArg V.bl (decide_eq_true h1), ?_⟩
  rw [if_pos rfl]
  refine hc H3 ((e.trans e2).trans e3) _ fun H4 e4 => ⟨j, k, rfl, rfl, true, congrArg V.bl (decide_eq_true h2), ?_⟩
  rw [if_pos rfl]
  refine hd H4 (((e.trans e2).trans e3).trans e4) _ fun H5 e5 => ⟨k, m, rfl, rfl, true, congrArg V.bl (decide_eq_true h3), ?_⟩
  exact q H5 (((e2.trans e3).trans e4).trans e5)
end
/-! ### _law_wide -/
def sp_l_wide (K : PySem.W.Frag) (C : CA) : Sp := fun vs H Q _ => ∃ (b p : Addr) (B : Bk) (n : Int) (name : Str) (kvs : List (Key × V)), vs = [.ref b, .int n, .str name, .ref p] ∧ H b = some (.dK kvs) ∧ BkRel H kvs B ∧ (B.map (·.1)).Nodup ∧ B.length ≤ 25 ∧ GoodBk B ∧
  RowsAt H p (runsF B n name 0 1000000) ∧ ∀ H', Ex H H' → Q (.bl true) H'
theorem len_l_wide {K : PySem.W.Frag} {C : CA} {vs : List V} {H : Hp} {Q : VK} {E : XK} (h : sp_l_wide K C vs H Q E) : vs.length = 4 := by
  obtain ⟨b, p, B, n, name, kvs, rfl, _⟩ := h
  rfl
/-- _law_book_here 0, _law_n 1, _law_name 2, _law_found 3, _law_days 4, _law_last 5, _law_number 6, _law_row 7, _law_day 8, _law_same 9, _law_worths 10 -/
def t_l_wide (K : PySem.W.Frag) (C : CA) : TS :=
 (tSeq (tAsg (tDisp (((tC (.int 0)), (tC (.bl true))) :: (((tC (.int 1000000)), (tC (.bl true))) :: []))) (gName 4))
 (tSeq (tAsg (tUn (rU fun i => .int (-i)) (tC (.int 2))) (gName 5))
 (tSeq (tLock (tFor (iKeys (tVar 0)) (gName 6)
  (tIfS (tTest (tOp (neA K) (tOp (ixA K) (tOp (ixA K) (tVar 0) (tVar 6)) (tC (.int 0))) (tC (.str "undo")))) (tSeq (tAsg (tC (.bl true)) (gSub (tVar 4) (tOp (ixA K) (tOp (ixA K) (tVar 0) (tVar 6)) (tC (.int 2))) setA))
 (tAsg (tC (.bl true)) (gSub (tVar 4) (tCB rMin2 (tCons (tC (.int 1000000)) (tCons (tOp (addA K) (tOp (ixA K) (tOp (ixA K) (tVar 0) (tVar 6)) (tC (.int 3))) (tC (.int 1))) tNil))) setA))) tNext)))
 (tSeq (tFor (iList K (tVar 3)) (gName 7)
  (tSeq (tIfS (tOr (tNot (tB (tCB (rIsi K) (tCons (tVar 7) (tCons (tC (.ty "tuple")) tNil))))) (tOr (tTest (tOp (neA K) (tCB (lenA K) (tCons (tVar 7) tNil)) (tC (.int 3)))) (tNot (tTest (tChain3 (ltI) (leI) (leI) (tVar 5) (tOp (ixA K) (tVar 7) (tC (.int 0))) (tOp (ixA K) (tVar 7) (tC (.int 1))) (tC (.int 1000000))))))) (tRet (tC (.bl false))) tNext)
 (tSeq (tFor (iTup K (tTup (tCons (tOp (subI) (tOp (ixA K) (tVar 7) (tC (.int 0))) (tC (.int 1))) (tCons (tOp (ixA K) (tVar 7) (tC (.int 0))) (tCons (tOp (ixA K) (tVar 7) (tC (.int 1))) (tCons (tOp (addA K) (tOp (ixA K) (tVar 7) (tC (.int 1))) (tC (.int 1))) tNil)))))) (gName 8)
  (tIfS (tTest (tChain (leI) (leI) (tC (.int 0)) (tVar 8) (tC (.int 1000000)))) (tSeq (tAsg (tOp (eqA K) (tDGet2 (tCall (sp_l_said K C) [] E0 (tCons (tVar 0) (tCons (tVar 1) (tCons (tVar 8) tNil)))) (tVar 2) (tC .non)) (tOp (ixA K) (tVar 7) (tC (.int 2)))) (gName 9))
 (tIfS (tTest (tOp (neA K) (tVar 9) (tChain (leI) (leI) (tOp (ixA K) (tVar 7) (tC (.int 0))) (tVar 8) (tOp (ixA K) (tVar 7) (tC (.int 1)))))) (tRet (tC (.bl false))) tNext)) tNext))
 (tAsg (tOp (ixA K) (tVar 7) (tC (.int 1))) (gName 5)))))
 (tSeq (tLock (tFor (iKeys (tVar 4)) (gName 8)
  (tSeq (tAsg (tLc (iList K (tVar 3)) (gName 7) (tTest (tChain (leI) (leI) (tOp (ixA K) (tVar 7) (tC (.int 0))) (tVar 8) (tOp (ixA K) (tVar 7) (tC (.int 1))))) (tOp (ixA K) (tVar 7) (tC (.int 2))) [7]) (gName 10))
 (tIfS (tTest (tOp (neA K) (tOp (ixA K) (tOp (addA K) (tVar 10) (tLst (tCons (tC .non) tNil))) (tC (.int 0))) (tDGet2 (tCall (sp_l_said K C) [] E0 (tCons (tVar 0) (tCons (tVar 1) (tCons (tVar 8) tNil)))) (tVar 2) (tC .non)))) (tRet (tC (.bl false))) tNext))))
 (tRet (tC (.bl true))))))))
def hasDay (x : Int) : List (Option Int) → Bool
  | [some lo, some hi, _] => decide (lo ≤ x) && decide (x ≤ hi)
  | _ => false
def third : List (Option Int) → Option Int
  | [_, _, o] => o
  | _ => none
def headOpt : List (Option Int) → Option Int
  | [] => none
  | o :: _ => o
theorem wide_head {w : Int → Option Int} {low high : Int} {S : List (Int × Int × Wv)} (h : RunsOk w low high S) {x : Int} (h1 : low ≤ x) (h2 : x ≤ high) : headOpt (((S.map segRow).filter (hasDay x)).map third) = w x := by
  have hh : ∀ s : Int × Int × Wv, hasDay x (segRow s) = (decide (s.1 ≤ x) && decide (x ≤ s.2.1)) := fun s => rfl
  cases e : ((S.map segRow).filter (hasDay x)) with
  | nil =>
    rw [List.filter_eq_nil_iff] at e
    refine (h.out x h1 h2 fun s hs z => ?_).symm
    refine e (segRow s) (List.mem_map_of_mem hs) ?_
    rw [hh, decide_eq_true z.1, decide_eq_true z.2]
    rfl
  | cons r t =>
    have hm : r ∈ (S.map segRow).filter (hasDay x) := by rw [e]; exact List.mem_cons_self
    obtain ⟨hm1, hm2⟩ := List.mem_filter.mp hm
    obtain ⟨s, hs, rfl⟩ := List.mem_map.mp hm1
    rw [hh, Bool.and_eq_true, decide_eq_true_eq, decide_eq_true_eq] at hm2
    exact ((h.seg s hs).2.2.2.2.1 x hm2.1 hm2.2).symm
theorem pure_l_wide {K : PySem.W.Frag} {C : CA} {vs : List V} {H : Hp} {Q : VK} {E : XK} (h : sp_l_wide K C vs H Q E) : t_l_wide K C { nx := fun _ H' => Q .non H', rt := Q } (startN 11 vs) H := by
  obtain ⟨b, p, B, n, name, kvs, rfl, hb, hrel, hnd, hl25, hg, ⟨us, hp, hps⟩, kk⟩ := h
  have hlh : (0 : Int) ≤ 1000000 := by decide
  have ok := runs_ok (B := B) (n := n) hlh name
  have hsm := runs_small (B := B) (n := n) (by omega) hlh name
  have hfe : runsF B n name 0 1000000 = (runsR B n name 0 1000000).reverse.map segRow := rfl
  rw [hfe] at hps hsm
  clear hfe
  generalize (runsR B n name 0 1000000).reverse = Sg at ok hps hsm
  have few : B.length ≤ 60 := by omega
  have hbk : ∀ {H' : Hp}, Ex H H' → BookAt H' b B := fun e => ⟨⟨kvs, .inl (e b _ hb), hrel.mono e⟩, hnd, few⟩
  have hkl : kvs.length = B.length := hrel.len
  refine q_asgD (ed_disp2 (k1 := (Sum.inl 0 : Key)) (k2 := (Sum.inl 1000000 : Key)) (v := .bl true) ev_c ev_c ev_c ev_c (by rfl)) fun u H1 hu e1 h1 => ?_
  have hub : u ≠ b := fun z => by rw [z, hb] at hu; cases hu
  refine q_asg (ev_neg ev_c) fun H2 e2 => ?_
  have E2 : Ex H H2 := e1.trans e2
  have h2 := e2 u _ h1
  have hb2 := E2 b _ hb
  -- the days
  refine q_lockKeys (ta := tVar 0) (fun H1 => ev_var rfl) hb2 (fun od i σ' H' => ∃ o6 kvu ks, σ' = [some (.ref b), some (.int n), some (.str name), some (.ref p), some (.ref u), some (.int (-2)), o6, none, none, none, none] ∧ H' b = some (.frz od (.dK kvs)) ∧ ExB b H H' ∧ H' u = some (.dK kvu) ∧ IntKeys kvu ks ∧ (∀ k ∈ ks, 0 ≤ k ∧ k ≤ 1000000) ∧ ks.length ≤ 2 + 2 * i)
    (fun od H3 e3 => ⟨none, [((Sum.inl 0 : Key), .bl true), ((Sum.inl 1000000 : Key), .bl true)], [0, 1000000], rfl, e3 b _ upd_same, ((ExB.of E2).trans (ExB.frz _)).trans (ExB.of e3), e3 u _ (by rw [upd_ne hub]; exact h2), rfl, fun k hk => by
      simp only [List.mem_cons, List.not_mem_nil, or_false] at hk
      omega, Nat.le_refl _⟩)
    (fun od i σ' H' ⟨_, _, _, _, h, _⟩ => h) ?_ ?_
  · rintro od i k v σ' H3 hkv ⟨o6, kvu, ks, rfl, hb3, E3, hu3, hks, hkr, hkn⟩
    have hilt := (List.getElem?_eq_some_iff.mp hkv).1
    have hrel3 := hrel.exB E3 hb
    obtain ⟨q, hq, hkq, t, hvt, ht⟩ := paired_get hrel3 hkv
    have hk' : k = Sum.inl q.1 := hkq
    subst hk'
    have hbk3 : BookAt H3 b B := ⟨⟨kvs, .inr ⟨od, hb3⟩, hrel3⟩, hnd, few⟩
    have hat : Bk.at B q.1 = some q.2 := Bk.at_of hnd (List.mem_of_getElem? hq)
    have hok := (hg q (List.mem_of_getElem? hq)).2
    obtain ⟨kv, t2, g1, g2, g3⟩ := hbk3.get hat
    refine s_when (et_test (S.ev_neS (ev_part 0 (ev_book (ev_var rfl) (ev_var rfl) g1 g2) g3 q.2.vs0) ev_c)) (fun c H4 e4 => ?_) (fun c H4 e4 => ?_)
    · rw [Ent.word_undo] at c
      have hv : ∃ lo hi : Int, q.2.vs[2]? = some (.int lo) ∧ q.2.vs[3]? = some (.int hi) ∧ 0 ≤ lo ∧ lo ≤ hi ∧ hi ≤ 1000000 := by
        obtain ⟨k0, e⟩ := q
        cases e with
        | undo j => cases c
        | tell nm lo hi w => exact ⟨lo, hi, rfl, rfl, hok.2.1, hok.2.2.1, hok.2.2.2.1⟩
        | clear nm lo hi => exact ⟨lo, hi, rfl, rfl, hok.2.1, hok.2.2.1, hok.2.2.2⟩
        | like nm lo hi o => exact ⟨lo, hi, rfl, rfl, hok.2.1, hok.2.2.1, hok.2.2.2.1⟩
      obtain ⟨lo, hi, v2, v3, r1, r2, r3⟩ := hv
      have g1' := ex_rd e4 g1
      have g3' := g3.mono e4
      have hkl0 : kvu.length = ks.length := by
        have := congrArg List.length hks
        rwa [List.length_map, List.length_map] at this
      refine q_put (k := (Sum.inl lo : Key)) ev_c (ev_var rfl) (ev_part 2 (ev_book (ev_var rfl) (ev_var rfl) g1' g2) g3' v2) (e4 u _ hu3) (by omega) fun H5 e5 => ?_
      have E5 : ExB b H3 H5 := ExB.of (e4.trans e5)
      have hb6 : (upd H5 u (.dK (putK kvu (Sum.inl lo : Key) (.bl true)))) b = some (.frz od (.dK kvs)) := by rw [upd_ne hub.symm]; exact (e4.trans e5) b _ hb3
      have E6 : ExB b H (upd H5 u (.dK (putK kvu (Sum.inl lo : Key) (.bl true)))) := (E3.trans E5).mut hu
      have hu6 : (upd H5 u (.dK (putK kvu (Sum.inl lo : Key) (.bl true)))) u = some (.dK (putK kvu (Sum.inl lo : Key) (.bl true))) := upd_same
      generalize upd H5 u (.dK (putK kvu (Sum.inl lo : Key) (.bl true))) = H6 at hb6 E6 hu6 ⊢
      have hbk6 : BookAt H6 b B := ⟨⟨kvs, .inr ⟨od, hb6⟩, hrel.exB E6 hb⟩, hnd, few⟩
      obtain ⟨kv', t3, f1, f2, f3⟩ := hbk6.get hat
      have hl1 := length_putK kvu (Sum.inl lo : Key) (.bl true)
      have ha1 := len_keysAdd ks lo
      have hb7 : 0 ≤ (if hi + 1 < 1000000 then hi + 1 else 1000000) ∧ (if hi + 1 < 1000000 then hi + 1 else 1000000) ≤ (1000000 : Int) := by split <;> omega
      refine s_put (k := (Sum.inl (if hi + 1 < 1000000 then hi + 1 else 1000000) : Key)) ev_c (ev_var rfl) (ev_min ev_c (ev_add (ev_part 3 (ev_book (ev_var rfl) (ev_var rfl) f1 f2) f3 v3) ev_c)) hu6 (by omega) fun H7 e7 => ?_
      refine ⟨_, _, keysAdd (keysAdd ks lo) (if hi + 1 < 1000000 then hi + 1 else 1000000), rfl, by rw [upd_ne hub.symm]; exact e7 b _ hb6, (E6.trans (ExB.of e7)).mut hu, upd_same, intkeys_put (intkeys_put hks), fun k hk => ?_, ?_⟩
      · rw [mem_keysAdd, mem_keysAdd] at hk
        rcases hk with (hk | hk) | hk
        · exact hkr k hk
        · omega
        · rw [hk]; exact hb7
      · have ha2 := len_keysAdd (keysAdd ks lo) (if hi + 1 < 1000000 then hi + 1 else 1000000)
        omega
    · exact ⟨_, kvu, ks, rfl, e4 b _ hb3, E3.trans (ExB.of e4), e4 u _ hu3, hks, hkr, by omega⟩
  rintro od σ' H3 ⟨o6, kvu, ks, rfl, hb3, E3, hu3, hks, hkr, hkn⟩
  have E4 : Ex H (upd H3 b (.dK kvs)) := E3.back hb
  have hu4 : (upd H3 b (.dK kvs)) u = some (.dK kvu) := by rw [upd_ne hub]; exact hu3
  clear hb3 E3 hu3 h2 hb2
  generalize upd H3 b (.dK kvs) = H4 at E4 hu4 ⊢
  have hkul : kvu.length = ks.length := by
    have := congrArg List.length hks
    rwa [List.length_map, List.length_map] at this
  have hps4 := TupR.all E4 hps
  have hp4 := E4 p _ hp
  have husl := Paired.length hps
  rw [List.length_map] at husl
  have hS100 : Sg.length ≤ 100 := by have := hsm.1; rwa [List.length_map] at this
  -- the rows
  refine q_forLn (xs := us) (ev_var rfl) (sq_of hp4) (fun i σ' H' => ∃ L o7 o8 o9, σ' = [some (.ref b), some (.int n), some (.str name), some (.ref p), some (.ref u), some (.int L), o6, o7, o8, o9, none] ∧ Ex H4 H' ∧ ((i = 0 ∧ L = -2) ∨ ∃ j s, i = j + 1 ∧ Sg[j]? = some s ∧ L = s.2.1))
    (fun H5 e5 => ⟨-2, none, none, none, rfl, e5, .inl ⟨rfl, rfl⟩⟩) (fun i σ' H' _ ⟨_, _, _, _, _, e, _⟩ => sq_of (e p _ hp4)) ?_ ?_
  · rintro i x σ' H5 hx ⟨L, o7, o8, o9, rfl, E5, hL⟩
    obtain ⟨r, hr, t, rfl, ht⟩ := paired_get hps4 hx
    rw [List.getElem?_map] at hr
    obtain ⟨s, hs, rfl⟩ : ∃ s, Sg[i]? = some s ∧ r = segRow s := by
      cases e : Sg[i]? with
      | none => rw [e] at hr; cases hr
      | some s => rw [e] at hr; exact ⟨s, rfl, (Option.some.inj hr).symm⟩
    obtain ⟨s1, s2, s3, s4, s5, s6, s7⟩ := ok.seg s (List.mem_of_getElem? hs)
    have hLs : L < s.1 := by
      rcases hL with ⟨_, rfl⟩ | ⟨j, s', rfl, hs', rfl⟩
      · omega
      · have hj := (List.getElem?_eq_some_iff.mp hs').1
        have hj2 := (List.getElem?_eq_some_iff.mp hs).1
        have := List.pairwise_iff_getElem.mp ok.pair j (j + 1) hj hj2 (Nat.lt_succ_self j)
        rw [(List.getElem?_eq_some_iff.mp hs').2, (List.getElem?_eq_some_iff.mp hs).2] at this
        exact this
    obtain ⟨lo, hi, y⟩ := s
    cases y with
    | two c d => cases s4
    | one o =>
      dsimp only [Wv.fst] at s1 s2 s3 s5 s6 s7 hLs
      have ht5 : H5 t = some (.tup [.int lo, .int hi, optV o]) := E5 t _ ht
      have q0 : ∀ (σ : L2.St) H6, Ex H5 H6 → σ[7]? = some (some (.ref t)) → Ev (tOp (ixA K) (tVar 7) (tC (.int 0))) σ H6 (.int lo) := fun σ H6 e6 hσ => ev_ixT (ev_var hσ) ev_c (st_of (e6 t _ ht5)) rfl
      have q1 : ∀ (σ : L2.St) H6, Ex H5 H6 → σ[7]? = some (some (.ref t)) → Ev (tOp (ixA K) (tVar 7) (tC (.int 1))) σ H6 (.int hi) := fun σ H6 e6 hσ => ev_ixT (ev_var hσ) ev_c (st_of (e6 t _ ht5)) rfl
      have q2 : ∀ (σ : L2.St) H6, Ex H5 H6 → σ[7]? = some (some (.ref t)) → Ev (tOp (ixA K) (tVar 7) (tC (.int 2))) σ H6 (optV o) := fun σ H6 e6 hσ => ev_ixT (ev_var hσ) ev_c (st_of (e6 t _ ht5)) rfl
      have hlen3 : Ev (tCB (lenA K) (tCons (tVar 7) tNil)) (([some (.ref b), some (.int n), some (.str name), some (.ref p), some (.ref u), some (.int L), o6, o7, o8, o9, none] : L2.St).set 7 (some (.ref t))) H5 (.int 3) := ev_lenT (ev_var rfl) (st_of ht5)
      have hne3 := et_test (ev_neI (K := K) hlen3 (ev_c (v := .int 3)))
      refine q_when (b := false) (et_or (a := false) (b := false) (et_not (a := true) (et_B (ev_isi (ev_var rfl) (fun H6 e6 => .base (.tup (e6 t _ ht5))) kit_tt))) fun _ => et_or (a := false) (b := false) hne3 fun _ => et_not (a := true) (et_chain3 (ev_var rfl) (q0 _ H5 (Ex.refl H5) rfl) (q1 _ H5 (Ex.refl H5) rfl) ev_c hLs s2 s3)) (fun c => by cases c) fun _ H6 e6 => ?_
      have E6 : Ex H4 H6 := E5.trans e6
      refine s_forU (D := { nx := tAsg (tOp (ixA K) (tVar 7) (tC (.int 1))) (gName 5) { nx := fun σ' H' => ∃ L o7 o8 o9, σ' = [some (.ref b), some (.int n), some (.str name), some (.ref p), some (.ref u), some (.int L), o6, o7, o8, o9, none] ∧ Ex H4 H' ∧ ((i + 1 = 0 ∧ L = -2) ∨ ∃ j s, i + 1 = j + 1 ∧ Sg[j]? = some s ∧ L = s.2.1), rt := Q, bk := _, ct := _ }, rt := Q, bk := _, ct := _ })
        (K := K) (xs := ([lo - 1, lo, hi, hi + 1] : List Int).map V.int) (eu_tup (vs := [.int (lo - 1), .int lo, .int hi, .int (hi + 1)]) (ea_cons (ev_sub (q0 _ H6 e6 rfl) ev_c) (ea_cons (q0 _ H6 e6 rfl) (ea_cons (q1 _ H6 e6 rfl) (ea_cons (ev_add (q1 _ H6 e6 rfl) ev_c) ea_nil)))) (by simp))
        (fun p' j σ' H' => ∃ o8 o9, σ' = [some (.ref b), some (.int n), some (.str name), some (.ref p), some (.ref u), some (.int L), o6, some (.ref t), o8, o9, none] ∧ Ex H6 H' ∧ H' p' = some (.tup (([lo - 1, lo, hi, hi + 1] : List Int).map V.int)))
        (fun p' H7 hp' e7 h7 => ⟨o8, o9, rfl, e7, h7⟩) (fun p' j σ' H' ⟨_, _, _, _, h⟩ => h) ?_ ?_
      · rintro p' j x σ' H7 hx7 ⟨o8, o9, rfl, E7, hp7⟩
        obtain ⟨d, hd, rfl⟩ := map_get (f := V.int) hx7
        have hdm := List.mem_of_getElem? hd
        refine s_when (et_test (ev_lele ev_c (ev_var rfl) ev_c)) (fun c H8 e8 => ?_) (fun c H8 e8 => ⟨_, _, rfl, E7.trans e8, e8 p' _ hp7⟩)
        rw [Bool.and_eq_true, decide_eq_true_eq, decide_eq_true_eq] at c
        have hiff : worthF B n name d = o ↔ (lo ≤ d ∧ d ≤ hi) := by
          constructor
          · intro hw
            simp only [List.mem_cons, List.not_mem_nil, or_false] at hdm
            rcases hdm with rfl | rfl | rfl | rfl
            · exact absurd hw (s6 (by omega))
            · exact ⟨Int.le_refl _, s2⟩
            · exact ⟨s2, Int.le_refl _⟩
            · exact absurd hw (s7 (by omega))
          · rintro ⟨g1, g2⟩; exact s5 d g1 g2
        have E8 : Ex H5 H8 := (e6.trans E7).trans e8
        refine q_asg (ev_eq (ev_lsaid (ev_var rfl) (ev_var rfl) (ev_var rfl) (ev_var rfl) (hbk (E4.trans (E5.trans E8)))) (q2 _ H8 E8 rfl) (scal_opt _ o)) fun H9 e9 => ?_
        have E9 : Ex H5 H9 := E8.trans e9
        have hneq := et_test (ev_ne (K := K) (H := H9) (ta := tVar 9) (tb := tChain leI leI (tOp (ixA K) (tVar 7) (tC (.int 0))) (tVar 8) (tOp (ixA K) (tVar 7) (tC (.int 1)))) (x := .bl (decide (optV (worthF B n name d) = optV o))) (y := .bl (decide (lo ≤ d) && decide (d ≤ hi)))
          (σ := [some (.ref b), some (.int n), some (.str name), some (.ref p), some (.ref u), some (.int L), o6, some (.ref t), some (.int d), some (.bl (decide (optV (worthF B n name d) = optV o))), none]) (ev_var rfl) (ev_lele (q0 _ H9 E9 rfl) (ev_var rfl) (q1 _ H9 E9 rfl)) rfl)
        have hsame : decide (optV (worthF B n name d) = optV o) = (decide (lo ≤ d) && decide (d ≤ hi)) := by
          by_cases z : lo ≤ d ∧ d ≤ hi
          · rw [decide_eq_true (optV_inj.mpr (hiff.mpr z)), decide_eq_true z.1, decide_eq_true z.2]; rfl
          · rw [decide_eq_false fun y => z (hiff.mp (optV_inj.mp y))]
            by_cases y : lo ≤ d
            · rw [decide_eq_true y, decide_eq_false fun v => z ⟨y, v⟩]; rfl
            · rw [decide_eq_false y]; rfl
        rw [hsame, decide_eq_true rfl] at hneq
        show tIfS _ _ _ _ ([some (.ref b), some (.int n), some (.str name), some (.ref p), some (.ref u), some (.int L), o6, some (.ref t), some (.int d), some (.bl (decide (optV (worthF B n name d) = optV o))), none] : L2.St) H9
        rw [hsame]
        refine s_when hneq (fun c => by cases c) fun _ H10 e10 => ?_
        exact ⟨_, _, rfl, ((E7.trans e8).trans e9).trans e10, (e8.trans (e9.trans e10)) p' _ hp7⟩
      · rintro p' σ' H7 ⟨o8, o9, rfl, E7, hp7⟩
        refine s_asg (q1 _ H7 (e6.trans E7) rfl) fun H8 e8 => ?_
        exact ⟨hi, _, _, _, rfl, (E6.trans E7).trans e8, .inr ⟨i, _, rfl, hs, rfl⟩⟩
  rintro σ' H5 ⟨L, o7, o8, o9, rfl, E5, _⟩
  have E05 : Ex H H5 := E4.trans E5
  have hu5 := E5 u _ hu4
  have hps5 := TupR.all E5 hps4
  have hp5 := E5 p _ hp4
  have hbk5 : ∀ {H' : Hp}, ExB u H5 H' → BookAt H' b B := fun {H'} e => by
    refine ⟨⟨kvs, .inl (e b _ hub.symm (E05 b _ hb)), ?_⟩, hnd, few⟩
    exact (hrel.mono E05).exB e hu5
  -- the days again
  refine q_lockKeys (ta := tVar 4) (fun H1 => ev_var rfl) hu5 (fun od i σ' H' => ∃ o7 o8 o10, σ' = [some (.ref b), some (.int n), some (.str name), some (.ref p), some (.ref u), some (.int L), o6, o7, o8, o9, o10] ∧ H' u = some (.frz od (.dK kvu)) ∧ ExB u H5 H')
    (fun od H6 e6 => ⟨_, _, _, rfl, e6 u _ upd_same, (ExB.frz _).trans (ExB.of e6)⟩) (fun od i σ' H' ⟨_, _, _, _, h, _⟩ => h) ?_ ?_
  · rintro od i k v σ' H6 hkv ⟨o7, o8, o10, rfl, hu6, E6⟩
    obtain ⟨x, hx, rfl⟩ : ∃ x, ks[i]? = some x ∧ k = Sum.inl x := by
      have h1 : (kvu.map (·.1))[i]? = some k := by rw [List.getElem?_map, hkv]; rfl
      rw [show kvu.map (·.1) = ks.map Sum.inl from hks, List.getElem?_map] at h1
      cases e : ks[i]? with
      | none => rw [e] at h1; cases h1
      | some x => rw [e] at h1; exact ⟨x, rfl, (Option.some.inj h1).symm⟩
    have hxr := hkr x (List.mem_of_getElem? hx)
    have hpu : p ≠ u := fun z => by rw [z, hu5] at hp5; cases hp5
    have hp6 := E6 p _ hpu hp5
    have exT : ExT H5 H6 := fun c ys hc => E6 c _ (fun z => by rw [z, hu5] at hc; cases hc) hc
    have hps6 := TupR.allT exT hps5
    show tSeq _ _ _ ([some (.ref b), some (.int n), some (.str name), some (.ref p), some (.ref u), some (.int L), o6, o7, some (.int x), o9, o10] : L2.St) H6
    refine q_asgP (F := ValR optV) (ep_lcL (K := K) (F := ValR optV) (G := RowR) (hasDay x) third ValR.mo TupR.mo.mo (ev_var rfl) (sq_of hp6) hps6 (by rw [List.length_map]; omega) (fun y => rfl) (fun y z H7 e7 hz ⟨t, hy, ht⟩ => ?_) fun y z H7 e7 hz ⟨t, hy, ht⟩ _ => ?_) fun pw ws H7 hpw e7 h7 hws => ?_
    · subst hy
      obtain ⟨s, hs, rfl⟩ := List.mem_map.mp hz
      exact et_test (ev_lele (ev_ixT (v := .int s.1) (ev_var rfl) ev_c (st_of ht) rfl) (ev_var rfl) (ev_ixT (v := .int s.2.1) (ev_var rfl) ev_c (st_of ht) rfl))
    · subst hy
      obtain ⟨s, hs, rfl⟩ := List.mem_map.mp hz
      exact ex_ev (v := optV s.2.2.fst) (ev_ixT (ev_var rfl) ev_c (st_of ht) rfl) fun H8 _ => rfl
    · have hwe := paired_eq (show Paired (fun v y => v = optV y) ws _ from hws)
      have hbk7 : BookAt H7 b B := hbk5 (E6.trans (ExB.of e7))
      have hwl : ws.length ≤ 100 := by
        rw [hwe, List.length_map, List.length_map]
        have := List.length_filter_le (hasDay x) (Sg.map segRow)
        rw [List.length_map] at this
        omega
      have hhead : atI (ws ++ [V.non]) 0 = some (optV (worthF B n name x)) := by
        rw [← wide_head ok hxr.1 hxr.2, hwe]
        cases ((Sg.map segRow).filter (hasDay x)).map third with
        | nil => exact atI_nat (j := 0) rfl
        | cons o r => exact atI_nat (j := 0) rfl
      have hcat := ev_ixN (K := K) (i := 0) (el_catV (K := K) (H := H7) (ta := tVar 10) (tb := tLst (tCons (tC .non) tNil)) (xs := ws) (ys := [V.non]) (σ := [some (.ref b), some (.int n), some (.str name), some (.ref p), some (.ref u), some (.int L), o6, o7, some (.int x), o9, some (.ref pw)]) (ev_var rfl) h7 (el_lst (ea_cons ev_c ea_nil) (by simp)) (by show _ + 1 ≤ _; omega)) ev_c hhead
      have hneq := et_test (ev_ne (K := K) hcat (ev_lsaid (K := K) (C := C) (ta := tVar 0) (tb := tVar 1) (td := tVar 8) (tc := tVar 2) (ev_var rfl) (ev_var rfl) (ev_var rfl) (ev_var rfl) hbk7) (scal_opt _ _))
      rw [decide_eq_true rfl] at hneq
      refine s_when hneq (fun c => by cases c) fun _ H8 e8 => ?_
      exact ⟨_, _, _, rfl, (e7.trans e8) u _ hu6, E6.trans (ExB.of (e7.trans e8))⟩
  rintro od σ' H6 ⟨o7, o8, o10, rfl, hu6, E6⟩
  have E7 : Ex H5 (upd H6 u (.dK kvu)) := E6.back hu5
  refine s_ret ev_c fun H7 e7 => kk H7 ((E05.trans E7).trans e7)
section
variable {K : PySem.W.Frag} {C : CA} {σ : L2.St} {H H' : Hp} {ta tb tc td te tf : TE} {D : Ends} {tu tz : TS} {b : Addr} {B : Bk} {n low high : Int} {name : Str}
theorem ep_runs (ha : Ev ta σ H (.ref b)) (hb : Ev tb σ H (.int n)) (hc : Ev tc σ H (.str name)) (hd : Ev td σ H (.int low)) (he : Ev te σ H (.int high)) (h : BookAt H b B) (h31 : B.length ≤ 31) (hlh : low ≤ high) :
    EvP (tCall (sp_runs_of K C) [] E0 (tCons ta (tCons tb (tCons tc (tCons td (tCons te tNil)))))) σ H RowR (runsF B n name low high) := fun H1 e Q q => by
  unfold tCall
  exact ea_cons ha (ea_cons hb (ea_cons hc (ea_cons hd (ea_cons he ea_nil)))) H1 e _ fun H2 e2 => ⟨b, B, n, name, low, high, rfl, h.mono (e.trans e2), h31, hlh, fun p xs H' hp e' h' hps => q p xs H' (fresh_back e2 hp) (e2.trans e') h' hps⟩
theorem ep_lruns (ha : Ev ta σ H (.ref b)) (hb : Ev tb σ H (.int n)) (hc : Ev tc σ H (.str name)) (hd : Ev td σ H (.int low)) (he : Ev te σ H (.int high)) (h : BookAt H b B) (hlh : low ≤ high) (h0 : 0 ≤ low) (h1 : high ≤ 1000000) (h9 : high - low ≤ 900) :
    EvP (tCall (sp_l_runs K C) [] E0 (tCons ta (tCons tb (tCons tc (tCons td (tCons te tNil)))))) σ H RowR (runsF B n name low high) := fun H1 e Q q => by
  unfold tCall
  exact ea_cons ha (ea_cons hb (ea_cons hc (ea_cons hd (ea_cons he ea_nil)))) H1 e _ fun H2 e2 => ⟨b, B, n, name, low, high, rfl, h.mono (e.trans e2), hlh, h0, h1, h9, fun p xs H' hp e' h' hps => q p xs H' (fresh_back e2 hp) (e2.trans e') h' hps⟩
theorem str_getD (xs : List Str) {i : Int} (h0 : 0 ≤ i) (h : i < xs.length) : atI (xs.map V.str) i = some (V.str (xs.getD i.toNat Str.empty)) := by
  have h2 : i.toNat < xs.length := by omega
  rw [atI_getD (V.int 0) h0 (by rw [List.length_map]; exact h), List.getD_eq_getElem?_getD, List.getElem?_map, List.getD_eq_getElem?_getD, List.getElem?_eq_getElem h2]
  rfl
/-- one of three names, told by a number -/
theorem ex_name3 {m : Int} (ha : Ev ta σ H (.int n)) (hb : Ev tb σ H (.int m)) : EvX (tOp (ixA K) (tCall (sp_l_names K C) [] E0 (tCons ta (tCons (tC (.int 3)) tNil))) (tOp modI tb (tC (.int 3)))) σ H (fun _ v => ∃ x, v = .str x ∧ NameS x) := fun H1 e Q q => by
  unfold tOp
  refine ex_names ha H1 e _ fun v H2 e2 ⟨p, xs, ev, h2, hl, hn⟩ => ?_
  subst ev
  have hm := mod_lt m (show (0 : Int) < 3 by decide)
  refine (ev_mod (j := 3) (hb.mono (e.trans e2)) ev_c (by decide)) H2 (Ex.refl H2) _ fun H3 e3 => .inl (.inl ⟨p, _, m % 3, _, rfl, rfl, sq_of (e3 p _ h2), str_getD xs hm.1 (by omega), ?_⟩)
  exact q _ H3 (e2.trans e3) ⟨_, rfl, hn _ (getD_mem _ (by omega))⟩
end
/-! ### the law -/
def sp_law_k05 (K : PySem.W.Frag) (C : CA) : Sp := fun vs H Q _ => ∃ (a : Addr) (ns : List Int), vs = [.ref a] ∧ SqL K H a (ns.map V.int) ∧ ns.length ≤ 63 ∧ ∀ H', Q (.bl true) H'
theorem len_law_k05 {K : PySem.W.Frag} {C : CA} {vs : List V} {H : Hp} {Q : VK} {E : XK} (h : sp_law_k05 K C vs H Q E) : vs.length = 1 := by
  obtain ⟨a, ns, rfl, _⟩ := h
  rfl
/-- _law_script 0, _law_book_here 1, _law_kept 2, _law_name 3, _law_n 4, _law_low 5, _law_high 6, _law_found 7, _law_again 8, _law_due 9, _law_other 10 -/
def t_law_k05 (K : PySem.W.Frag) (C : CA) : TS :=
 (tSeq (tAsg (tCall (sp_l_book K C) [] E0 (tCons (tVar 0) (tCons (tC (.int 12)) tNil))) (gName 1))
 (tSeq (tAsg (tCB (dictC K) (tCons (tVar 1) tNil)) (gName 2))
 (tSeq (tAsg (tOp (ixA K) (tCall (sp_l_names K C) [] E0 (tCons (tCall (sp_l_of K C) [] E0 (tCons (tVar 0) (tCons (tC (.int 1)) tNil))) (tCons (tC (.int 3)) tNil))) (tOp (modI) (tCall (sp_l_of K C) [] E0 (tCons (tVar 0) (tCons (tC (.int 2)) tNil))) (tC (.int 3)))) (gName 3))
 (tSeq (tAsg (tOp (modI) (tOp (divI) (tCall (sp_l_of K C) [] E0 (tCons (tVar 0) (tCons (tC (.int 2)) tNil))) (tC (.int 3))) (tOp (addA K) (tCKw rMaxD (tCons (tVar 1) tNil) (tCons (tC (.int 0)) tNil)) (tC (.int 2)))) (gName 4))
 (tSeq (tAsg (tCB rMax2 (tCons (tC (.int 0)) (tCons (tOp (subI) (tOp (addA K) (tCall (sp_l_base K C) [] E0 (tCons (tVar 0) tNil)) (tOp (modI) (tCall (sp_l_of K C) [] E0 (tCons (tVar 0) (tCons (tC (.int 3)) tNil))) (tC (.int 9)))) (tC (.int 1))) tNil))) (gName 5))
 (tSeq (tAsg (tCB rMin2 (tCons (tC (.int 1000000)) (tCons (tOp (addA K) (tVar 5) (tOp (modI) (tOp (divI) (tCall (sp_l_of K C) [] E0 (tCons (tVar 0) (tCons (tC (.int 3)) tNil))) (tC (.int 9))) (tC (.int 18)))) tNil))) (gName 6))
 (tSeq (tIfS (tTest (tOp (eqA K) (tOp (modI) (tOp (divI) (tCall (sp_l_of K C) [] E0 (tCons (tVar 0) (tCons (tC (.int 3)) tNil))) (tC (.int 162))) (tC (.int 6))) (tC (.int 1)))) (tSeq (tAsg (tCall (sp_runs_of K C) [] E0 (tCons (tVar 1) (tCons (tVar 4) (tCons (tVar 3) (tCons (tC (.int 0)) (tCons (tC (.int 1000000)) tNil)))))) (gName 7))
 (tSeq (tAsg (tCall (sp_runs_of K C) [] E0 (tCons (tVar 1) (tCons (tVar 4) (tCons (tVar 3) (tCons (tC (.int 0)) (tCons (tC (.int 1000000)) tNil)))))) (gName 8))
 (tSeq (tIfS (tOr (tNot (tB (tCB (rIsi K) (tCons (tVar 7) (tCons (tC (.ty "list")) tNil))))) (tNot (tB (tCall (sp_l_wide K C) [] E0 (tCons (tVar 1) (tCons (tVar 4) (tCons (tVar 3) (tCons (tVar 7) tNil)))))))) (tRet (tC (.bl false))) tNext)
 (tRet (tAndV (tOp (eqA K) (tVar 8) (tVar 7)) (tOp (eqA K) (tVar 1) (tVar 2))))))) tNext)
 (tSeq (tAsg (tCall (sp_l_runs K C) [] E0 (tCons (tVar 1) (tCons (tVar 4) (tCons (tVar 3) (tCons (tVar 5) (tCons (tVar 6) tNil)))))) (gName 9))
 (tSeq (tAsg (tCall (sp_runs_of K C) [] E0 (tCons (tVar 1) (tCons (tVar 4) (tCons (tVar 3) (tCons (tVar 5) (tCons (tVar 6) tNil)))))) (gName 7))
 (tSeq (tIfS (tOr (tNot (tB (tCall (sp_l_alike K C 4) [] E0 (tCons (tVar 7) (tCons (tVar 9) tNil))))) (tTest (tOp (neA K) (tVar 1) (tVar 2)))) (tRet (tC (.bl false))) tNext)
 (tSeq (tDrop (tBM K "list" rAppend (tVar 7) (tCons (tTup (tCons (tC (.int 0)) (tCons (tC (.int 0)) (tCons (tC (.int 0)) tNil)))) tNil)))
 (tSeq (tAsg (tCall (sp_runs_of K C) [] E0 (tCons (tVar 1) (tCons (tVar 4) (tCons (tVar 3) (tCons (tVar 5) (tCons (tVar 6) tNil)))))) (gName 8))
 (tSeq (tAsg (tCall (sp_runs_of K C) [] E0 (tCons (tVar 1) (tCons (tVar 4) (tCons (tVar 3) (tCons (tVar 6) (tCons (tVar 6) tNil)))))) (gName 10))
 (tRet (tAndV (tCall (sp_l_alike K C 4) [] E0 (tCons (tVar 8) (tCons (tVar 9) tNil))) (tAndV (tOp (eqA K) (tVar 7) (tOp (addA K) (tVar 9) (tLst (tCons (tTup (tCons (tC (.int 0)) (tCons (tC (.int 0)) (tCons (tC (.int 0)) tNil)))) tNil)))) (tOp (eqA K) (tVar 10) (tCall (sp_l_runs K C) [] E0 (tCons (tVar 1) (tCons (tVar 4) (tCons (tVar 3) (tCons (tVar 6) (tCons (tVar 6) tNil)))))))))))))))))))))))
theorem pure_law_k05 {K : PySem.W.Frag} {C : CA} {vs : List V} {H : Hp} {Q : VK} {E : XK} (h : sp_law_k05 K C vs H Q E) : t_law_k05 K C { nx := fun _ H' => Q .non H', rt := Q } (startN 11 vs) H := by
  obtain ⟨a, ns, rfl, hS, hl63, kk⟩ := h
  have hl : ns.length ≤ 100 := by omega
  refine at_book (many := 12) (ev_var rfl) ev_c hS hl (by omega) fun b B H1 nb hBl hg h40 => ?_
  show tSeq _ _ _ _ H1
  have E1 : Ex H H1 := nb.ex
  have ho : ∀ p ∈ B, p.2.ok p.1 := fun p hp => (hg p hp).2
  obtain ⟨kvs, hkb, hrel⟩ := nb.dk
  refine ed_book (ev_var rfl) nb.at H1 (Ex.refl H1) _ fun c H2 nc => ?_
  show tSeq _ _ _ _ H2
  have E2 : Ex H H2 := E1.trans nc.ex
  refine q_asgX (ex_name3 (ev_of (k := 1) (ev_var rfl) ev_c (ex_l E2 hS) hl) (ev_of (k := 2) (ev_var rfl) ev_c (ex_l E2 hS) hl)) fun v H3 e3 ⟨name, ev, hname⟩ => ?_
  subst ev
  have E3 : Ex H H3 := E2.trans e3
  have hpos : (0 : Int) < maxK B + 2 := by have := maxK_nn B; omega
  refine q_asg (ev_mod (ev_div (ev_of (k := 2) (ev_var rfl) ev_c (ex_l E3 hS) hl) ev_c ⟨by decide, by decide⟩) (ev_add (ev_maxD (ev_var rfl) (nb.at.mono (nc.ex.trans e3)) hg) ev_c) hpos) fun H4 e4 => ?_
  generalize ns.getD 2 0 / 3 % (maxK B + 2) = n
  have E4 : Ex H H4 := E3.trans e4
  have hb0 := baseF_ok ns
  have hm9 := mod_lt (ns.getD 3 0) (show (0 : Int) < 9 by decide)
  refine q_asg (ev_max ev_c (ev_sub (ev_add (ev_base (ev_var rfl) (ex_l E4 hS) hl) (ev_mod (ev_of (k := 3) (ev_var rfl) ev_c (ex_l E4 hS) hl) ev_c (by decide))) ev_c)) fun H5 e5 => ?_
  obtain ⟨low, elow⟩ : ∃ low, low = (if baseF ns + ns.getD 3 0 % 9 - 1 > 0 then baseF ns + ns.getD 3 0 % 9 - 1 else 0) := ⟨_, rfl⟩
  have hlow : 0 ≤ low ∧ low ≤ 999990 := by rw [elow]; split <;> omega
  rw [← elow]
  clear elow
  have E5 : Ex H H5 := E4.trans e5
  have hm18 := mod_lt (ns.getD 3 0 / 9) (show (0 : Int) < 18 by decide)
  refine q_asg (ev_min ev_c (ev_add (ev_var rfl) (ev_mod (ev_div (ev_of (k := 3) (ev_var rfl) ev_c (ex_l E5 hS) hl) ev_c ⟨by decide, by decide⟩) ev_c (by decide)))) fun H6 e6 => ?_
  obtain ⟨high, ehigh⟩ : ∃ high, high = (if low + ns.getD 3 0 / 9 % 18 < 1000000 then low + ns.getD 3 0 / 9 % 18 else 1000000) := ⟨_, rfl⟩
  have hhigh : low ≤ high ∧ high ≤ 1000000 ∧ high - low ≤ 900 := by rw [ehigh]; split <;> omega
  rw [← ehigh]
  clear ehigh
  have E6 : Ex H H6 := E5.trans e6
  have e16 : Ex H1 H6 := ((((nc.ex.trans e3).trans e4).trans e5)).trans e6
  have hB6 := nb.at.mono e16
  have hC6 := nc.at.mono (((e3.trans e4).trans e5).trans e6)
  have h31 : B.length ≤ 31 := by omega
  show tSeq _ _ _ ([some (.ref a), some (.ref b), some (.ref c), some (.str name), some (.int n), some (.int low), some (.int high), none, none, none, none] : L2.St) H6
  refine q_when (et_test (ev_eqI (ev_mod (ev_div (ev_of (k := 3) (ev_var rfl) ev_c (ex_l E6 hS) hl) ev_c ⟨by decide, by decide⟩) ev_c (by decide)) ev_c)) (fun _ H7 e7 => ?_) (fun _ H7 e7 => ?_)
  · -- all days
    have hlh : (0 : Int) ≤ 1000000 := by decide
    refine q_asgP (F := RowR) (ep_runs (ev_var rfl) (ev_var rfl) (ev_var rfl) ev_c ev_c (hB6.mono e7) h31 hlh) fun p8 us8 H8 hp8 e8 h8 hps8 => ?_
    refine q_asgP (F := RowR) (ep_runs (ev_var rfl) (ev_var rfl) (ev_var rfl) ev_c ev_c (hB6.mono (e7.trans e8)) h31 hlh) fun p9 us9 H9 hp9 e9 h9 hps9 => ?_
    have h8' := e9 p8 _ h8
    have hr8 : RowsAt H9 p8 (runsF B n name 0 1000000) := ⟨us8, h8', TupR.all e9 hps8⟩
    have hr9 : RowsAt H9 p9 (runsF B n name 0 1000000) := ⟨us9, h9, hps9⟩
    have E19 : Ex H1 H9 := ((e16.trans e7).trans e8).trans e9
    have E69 : Ex H6 H9 := (e7.trans e8).trans e9
    show tSeq _ _ _ ([some (.ref a), some (.ref b), some (.ref c), some (.str name), some (.int n), some (.int low), some (.int high), some (.ref p8), some (.ref p9), none, none] : L2.St) H9
    refine q_when (b := false) (et_or (a := false) (b := false) (et_not (a := true) (et_B (ev_isi (ev_var rfl) (fun H6 e6 => .base (.lst (e6 p8 _ h8'))) kit_ll))) fun _ => et_not (a := true) (et_B (ev_call (ea_cons (ev_var rfl) (ea_cons (ev_var rfl) (ea_cons (ev_var rfl) (ea_cons (ev_var rfl) ea_nil)))) fun H10 e10 Q q E => ?_))) (fun d => by cases d) fun _ H10 e10 => ?_
    · exact ⟨b, p8, B, n, name, kvs, rfl, (E19.trans e10) b _ hkb, hrel.mono (E19.trans e10), nb.nd, by omega, hg, hr8.mono e10, q⟩
    refine s_ret (v := .bl true) ?_ fun H11 _ => kk H11
    have heq := ev_eqBk (K := K) (ta := tVar 1) (tb := tVar 2) (σ := [some (.ref a), some (.ref b), some (.ref c), some (.str name), some (.int n), some (.int low), some (.int high), some (.ref p8), some (.ref p9), none, none]) (ev_var rfl) (ev_var rfl) (hB6.mono (E69.trans e10)) (hC6.mono (E69.trans e10)) ho ho
    rw [dkEqv_self nb.nd ho] at heq
    exact ev_andV (a := true) (b := true) (ev_eqRows (ev_var rfl) (ev_var rfl) (hr9.mono e10) (hr8.mono e10)) fun _ => heq
  · have hB7 := hB6.mono e7
    obtain ⟨sm1, sm2⟩ := runs_small (n := n) h31 hhigh.1 name
    refine q_asgP (F := RowR) (ep_lruns (ev_var rfl) (ev_var rfl) (ev_var rfl) (ev_var rfl) (ev_var rfl) hB7 hhigh.1 hlow.1 hhigh.2.1 hhigh.2.2) fun pd us8 H8 hpd e8 h8 hps8 => ?_
    have hd8 : RowsAt H8 pd (runsF B n name low high) := ⟨us8, h8, hps8⟩
    refine q_asgP (F := RowR) (ep_runs (ev_var rfl) (ev_var rfl) (ev_var rfl) (ev_var rfl) (ev_var rfl) (hB7.mono e8) h31 hhigh.1) fun pf us9 H9 hpf e9 h9 hps9 => ?_
    have hf9 : RowsAt H9 pf (runsF B n name low high) := ⟨us9, h9, hps9⟩
    have E69 : Ex H6 H9 := (e7.trans e8).trans e9
    show tSeq _ _ _ ([some (.ref a), some (.ref b), some (.ref c), some (.str name), some (.int n), some (.int low), some (.int high), some (.ref pf), none, some (.ref pd), none] : L2.St) H9
    have neB := ev_neBk (K := K) (H := H9) (ta := tVar 1) (tb := tVar 2) (σ := [some (.ref a), some (.ref b), some (.ref c), some (.str name), some (.int n), some (.int low), some (.int high), some (.ref pf), none, some (.ref pd), none]) (ev_var rfl) (ev_var rfl) (hB6.mono E69) (hC6.mono E69) ho ho
    rw [dkEqv_self nb.nd ho] at neB
    refine q_when (b := false) (et_or (a := false) (b := false) (et_not (a := true) (et_B (ev_alike (ev_var rfl) (ev_var rfl) hf9 (hd8.mono e9) (by omega) sm2))) fun _ => et_test neB) (fun d => by cases d) fun _ H10 e10 => ?_
    refine q_appU (e10 pf _ h9) (ev_var rfl) (eu_tup (ea_cons ev_c (ea_cons ev_c (ea_cons ev_c ea_nil))) (by simp)) (by rw [Paired.length hps9]; omega) fun t H11 ht e11 h11 => ?_
    have h11f : H11 pf = some (.lst us9) := e11 pf _ (e10 pf _ h9)
    have e8_12 : Ex H8 (upd H11 pf (.lst (us9 ++ [.ref t]))) := Ex.mut ((e9.trans e10).trans e11) hpf
    have hf12 : RowsAt (upd H11 pf (.lst (us9 ++ [.ref t]))) pf (runsF B n name low high ++ [[some 0, some 0, some 0]]) :=
      ⟨_, upd_same, Paired.app (TupR.allT ((ext_of (e10.trans e11)).trans (ExT.app h11f)) hps9) (.cons ⟨t, rfl, ExT.app h11f t _ h11⟩ .nil)⟩
    generalize upd H11 pf (.lst (us9 ++ [.ref t])) = H12 at e8_12 hf12 ⊢
    have hB12 := (hB7.mono e8).mono e8_12
    refine q_asgP (F := RowR) (ep_runs (ev_var rfl) (ev_var rfl) (ev_var rfl) (ev_var rfl) (ev_var rfl) hB12 h31 hhigh.1) fun pg us13 H13 hpg e13 h13 hps13 => ?_
    have hg13 : RowsAt H13 pg (runsF B n name low high) := ⟨us13, h13, hps13⟩
    have hB13 := hB12.mono e13
    refine q_asgP (F := RowR) (ep_runs (ev_var rfl) (ev_var rfl) (ev_var rfl) (ev_var rfl) (ev_var rfl) hB13 h31 (Int.le_refl high)) fun po us14 H14 hpo e14 h14 hps14 => ?_
    have ho14 : RowsAt H14 po (runsF B n name high high) := ⟨us14, h14, hps14⟩
    show tRet _ _ ([some (.ref a), some (.ref b), some (.ref c), some (.str name), some (.int n), some (.int low), some (.int high), some (.ref pf), some (.ref pg), some (.ref pd), some (.ref po)] : L2.St) H14
    obtain ⟨usd, hd14, hpsd⟩ := hd8.mono ((e8_12.trans e13).trans e14)
    have sum : EvP (tOp (addA K) (tVar 9) (tLst (tCons (tTup (tCons (tC (.int 0)) (tCons (tC (.int 0)) (tCons (tC (.int 0)) tNil)))) tNil))) ([some (.ref a), some (.ref b), some (.ref c), some (.str name), some (.int n), some (.int low), some (.int high), some (.ref pf), some (.ref pg), some (.ref pd), some (.ref po)] : L2.St) H14 RowR (runsF B n name low high ++ [[some 0, some 0, some 0]]) :=
      ep_catV TupR.mo.mo (ev_var rfl) hd14 hpsd (ep_lst TupR.mo.mo (eap_cons TupR.mo.mo (ex_evU (eu_tup (ea_cons ev_c (ea_cons ev_c (ea_cons ev_c ea_nil))) (by simp)) fun p H1 _ h1 => ⟨p, rfl, h1⟩) eap_nil) (by simp)) (by show _ + 1 ≤ _; omega)
    refine s_ret (v := .bl true) (ev_andV (a := true) (b := true) (ev_alike (ev_var rfl) (ev_var rfl) (hg13.mono e14) ⟨usd, hd14, hpsd⟩ (by omega) sm2) fun _ => ev_andV (a := true) (b := true) (ev_eqRowsP (ev_var rfl) (hf12.mono (e13.trans e14)) sum) fun _ => ev_eqRowsP (ev_var rfl) ho14 (ep_lruns (ev_var rfl) (ev_var rfl) (ev_var rfl) (ev_var rfl) (ev_var rfl) (hB13.mono e14) (Int.le_refl high) (by omega) hhigh.2.1 (by omega))) fun H15 _ => kk H15
end S
end
set_option Elab.async false
set_option linter.all false
set_option maxRecDepth 100000
set_option maxHeartbeats 4000000
namespace S
open PySem L2 Evl
/-! ### which count, told without an order -/
theorem countAll_char {B : Bk} {n : Int} (ho : ∀ k t, Bk.at B k = some (.undo t) → t < k) (ys : List Int) (hp : ys.Pairwise (· > ·)) (hk : ∀ k ∈ ys, (Bk.at B k).isSome = true) :
    (∀ t, t ∈ (countAll B n ys).2 ↔ ∃ j ∈ (countAll B n ys).1, Bk.at B j = some (.undo t)) ∧ (∀ k, k ∈ (countAll B n ys).1 ↔ k ∈ ys ∧ k ≤ n ∧ ∀ j ∈ (countAll B n ys).1, Bk.at B j ≠ some (.undo k)) := by
  have : ∀ m, m ≤ ys.length → (∀ t, t ∈ (countAll B n (ys.take m)).2 ↔ ∃ j ∈ (countAll B n (ys.take m)).1, Bk.at B j = some (.undo t)) ∧
      (∀ k, k ∈ (countAll B n (ys.take m)).1 ↔ k ∈ ys.take m ∧ k ≤ n ∧ ∀ j ∈ (countAll B n (ys.take m)).1, Bk.at B j ≠ some (.undo k)) := by
    intro m
    induction m with
    | zero =>
      intro _
      refine ⟨fun t => ?_, fun k => ?_⟩
      · constructor
        · intro h; cases h
        · rintro ⟨j, h, _⟩; cases h
      · constructor
        · intro h; cases h
        · rintro ⟨h, _⟩; cases h
    | succ m ih =>
      intro hm
      obtain ⟨h1, h2⟩ := ih (by omega)
      have hx : ys[m]? = some ys[m] := List.getElem?_eq_getElem (by omega)
      rw [take_snoc hx, countAll_snoc]
      have hgt : ∀ j ∈ ys.take m, ys[m] < j := fun j hj => by
        obtain ⟨i, hi, e⟩ := List.getElem_of_mem hj
        rw [List.length_take] at hi
        rw [List.getElem_take] at e
        have := List.pairwise_iff_getElem.mp hp i m (by omega) (by omega) (by omega)
        omega
      generalize countAll B n (ys.take m) = st at h1 h2 ⊢
      obtain ⟨F, U⟩ := st
      dsimp only at h1 h2
      unfold countStep
      by_cases hc : ys[m] ≤ n ∧ ys[m] ∉ U
      · rw [if_pos hc]
        dsimp only
        have he := hk ys[m] (List.getElem_mem _)
        cases e : Bk.at B ys[m] with
        | none => rw [e] at he; cases he
        | some x =>
          have hU : ∀ t, t ∈ ((Option.map Ent.undoes (some x)).getD [] : List Int) ↔ x = .undo t := fun t => by
            show t ∈ x.undoes ↔ _
            cases x with
            | undo j =>
              show t ∈ [j] ↔ _
              rw [List.mem_singleton]
              constructor
              · intro z; rw [z]
              · intro z; exact (Ent.undo.inj z).symm
            | tell => constructor <;> intro z <;> cases z
            | clear => constructor <;> intro z <;> cases z
            | like => constructor <;> intro z <;> cases z
          refine ⟨fun t => ?_, fun k => ?_⟩
          · rw [List.mem_append, h1, hU]
            constructor
            · rintro (⟨j, hj, ej⟩ | z)
              · exact ⟨j, List.mem_append_left _ hj, ej⟩
              · exact ⟨ys[m], List.mem_append_right _ (List.mem_singleton.mpr rfl), by rw [e, z]⟩
            · rintro ⟨j, hj, ej⟩
              rcases List.mem_append.mp hj with hj | hj
              · exact .inl ⟨j, hj, ej⟩
              · rw [List.mem_singleton.mp hj, e] at ej
                exact .inr (Option.some.inj ej)
          · rw [List.mem_append, List.mem_append, List.mem_singleton, h2]
            constructor
            · rintro (⟨a1, a2, a3⟩ | a)
              · refine ⟨.inl a1, a2, fun j hj => ?_⟩
                rcases List.mem_append.mp hj with hj | hj
                · exact a3 j hj
                · rw [List.mem_singleton.mp hj]
                  intro z
                  have := ho _ _ z
                  have := hgt k a1
                  omega
              · rw [a]
                refine ⟨.inr rfl, hc.1, fun j hj z => ?_⟩
                rcases List.mem_append.mp hj with hj | hj
                · exact hc.2 ((h1 _).mpr ⟨j, hj, z⟩)
                · rw [List.mem_singleton.mp hj] at z
                  have := ho _ _ z
                  omega
            · rintro ⟨a1 | a1, a2, a3⟩
              · exact .inl ⟨a1, a2, fun j hj => a3 j (List.mem_append_left _ hj)⟩
              · exact .inr a1
      · rw [if_neg hc]
        refine ⟨h1, fun k => ?_⟩
        rw [h2, List.mem_append, List.mem_singleton]
        constructor
        · rintro ⟨a1, a2, a3⟩; exact ⟨.inl a1, a2, a3⟩
        · rintro ⟨a1 | a1, a2, a3⟩
          · exact ⟨a1, a2, a3⟩
          · exfalso
            rw [a1] at a2 a3
            refine hc ⟨a2, fun z => ?_⟩
            obtain ⟨j, hj, ej⟩ := (h1 _).mp z
            exact a3 j hj ej
  have h := this ys.length (Nat.le_refl _)
  rw [List.take_length] at h
  exact h
theorem undo_ok {B : Bk} (hg : GoodBk B) : ∀ k t, Bk.at B k = some (.undo t) → t < k := fun k t h => by
  have := (hg _ (Bk.at_mem h)).2
  exact this.2
theorem downs_strict {ks : List Int} (h : ks.Nodup) : (downs ks).Pairwise (· > ·) := by
  have a1 := downs_sorted ks
  have a2 : (downs ks).Nodup := (downs_perm ks).nodup_iff.mpr h
  exact List.Pairwise.imp₂ (fun a b h1 (h2 : a ≠ b) => by have h1 : a ≥ b := h1; show a > b; omega) a1 a2
theorem ups_strict {ks : List Int} (h : ks.Nodup) : (ups ks).Pairwise (· < ·) := by
  have a1 := ups_sorted ks
  have a2 : (ups ks).Nodup := (ups_perm ks).nodup_iff.mpr h
  exact List.Pairwise.imp₂ (fun a b h1 (h2 : a ≠ b) => by have h1 : a ≤ b := h1; show a < b; omega) a1 a2
/-- a number counts where none that counts undoes it -/
theorem countF_iff {B : Bk} {n : Int} (hn : (B.map (·.1)).Nodup) (hg : GoodBk B) (k : Int) : k ∈ countF B n ↔ k ∈ B.map (·.1) ∧ k ≤ n ∧ ∀ j ∈ countF B n, Bk.at B j ≠ some (.undo k) := by
  have h := (countAll_char (n := n) (undo_ok hg) (downs (B.map (·.1))) (downs_strict hn) (fun k hk => mem_keys.mp ((downs_perm _).mem_iff.mp hk))).2 k
  unfold countF
  rw [List.mem_reverse, h, (downs_perm _).mem_iff]
  constructor
  · rintro ⟨a, b, c⟩; exact ⟨a, b, fun j hj => c j (List.mem_reverse.mp hj)⟩
  · rintro ⟨a, b, c⟩; exact ⟨a, b, fun j hj => c j (List.mem_reverse.mpr hj)⟩
/-- .. where no later one, up to n, that counts, undoes it -/
theorem countF_later {B : Bk} {n k : Int} (hn : (B.map (·.1)).Nodup) (hg : GoodBk B) (hk : k ∈ B.map (·.1)) (hkn : k ≤ n) : k ∈ countF B n ↔ ∀ q ∈ B, ¬ (k < q.1 ∧ q.1 ≤ n ∧ q.2 = .undo k ∧ q.1 ∈ countF B n) := by
  rw [countF_iff hn hg]
  constructor
  · rintro ⟨_, _, h⟩ q hq ⟨_, _, h3, h4⟩
    exact h q.1 h4 (by rw [Bk.at_of hn hq, h3])
  · intro h
    refine ⟨hk, hkn, fun j hj e => ?_⟩
    have hm := Bk.at_mem e
    exact h _ hm ⟨undo_ok hg j k e, (countF_mem hj).2, rfl, hj⟩
theorem foldl_sub {B : Bk} {n : Int} : ∀ (ys : List Int) (st : List Int × List Int), ∃ zs, (ys.foldl (countStep B n) st).1 = st.1 ++ zs ∧ zs.Sublist ys
  | [], st => ⟨[], by simp, List.Sublist.refl _⟩
  | y :: ys, st => by
    obtain ⟨zs, h1, h2⟩ := foldl_sub ys (countStep B n st y)
    rw [List.foldl_cons, h1]
    unfold countStep
    split
    · exact ⟨y :: zs, by simp, h2.cons₂ y⟩
    · exact ⟨zs, rfl, h2.cons y⟩
theorem countF_up {B : Bk} {n : Int} (hn : (B.map (·.1)).Nodup) : (countF B n).Pairwise (· < ·) := by
  unfold countF
  rw [List.pairwise_reverse]
  obtain ⟨zs, h1, h2⟩ := foldl_sub (B := B) (n := n) (downs (B.map (·.1))) ([], [])
  have : (countAll B n (downs (B.map (·.1)))).1 = zs := by
    unfold countAll
    rw [h1]; rfl
  rw [this]
  exact List.Pairwise.sublist h2 (List.Pairwise.imp (fun {a b} h => by have h : a > b := h; show b < a; omega) (downs_strict hn))
theorem countF_filter {B : Bk} {n : Int} (hn : (B.map (·.1)).Nodup) : (ups (B.map (·.1))).filter (fun k => decide (k ≤ n) && decide (k ∈ countF B n)) = countF B n := by
  have h1 : ((ups (B.map (·.1))).filter (fun k => decide (k ≤ n) && decide (k ∈ countF B n))).Pairwise (· < ·) := List.Pairwise.filter _ (ups_strict hn)
  have h2 := countF_up (n := n) hn
  have p : ((ups (B.map (·.1))).filter (fun k => decide (k ≤ n) && decide (k ∈ countF B n))).Perm (countF B n) := by
    refine perm_of_mem (List.Pairwise.imp (fun {a b} h => by have h : a < b := h; omega) h1) (List.Pairwise.imp (fun {a b} h => by have h : a < b := h; omega) h2) fun a => ?_
    rw [List.mem_filter, Bool.and_eq_true, decide_eq_true_eq, decide_eq_true_eq, (ups_perm _).mem_iff]
    constructor
    · rintro ⟨_, _, h⟩; exact h
    · intro h; exact ⟨(countF_mem h).1, (countF_mem h).2, h⟩
  exact List.Perm.eq_of_pairwise (le := fun a b : Int => a < b) (fun a b _ _ h1 h2 => by omega) h1 h2 p
/-! ### an entry put into a book -/
def Bk.put (B : Bk) (k : Int) (e : Ent) : Bk := if k ∈ B.map (·.1) then B.map (fun q => if q.1 = k then (k, e) else q) else B ++ [(k, e)]
theorem Bk.at_put (B : Bk) (k j : Int) (e : Ent) : Bk.at (B.put k e) j = if j = k then some e else Bk.at B j := by
  unfold Bk.put
  by_cases h : k ∈ B.map (·.1)
  · rw [if_pos h]
    induction B with
    | nil => cases h
    | cons p B ih =>
      rw [List.map_cons]
      by_cases hp : p.1 = k
      · rw [if_pos hp]
        by_cases hj : j = k
        · rw [if_pos hj, Bk.at_cons_pos (by exact hj.symm)]
        · rw [if_neg hj, Bk.at_cons_neg (by exact fun z => hj z.symm), Bk.at_cons_neg (by rw [hp]; exact fun z => hj z.symm)]
          by_cases hm : k ∈ B.map (·.1)
          · rw [ih hm, if_neg hj]
          · have : (B.map fun q => if q.1 = k then (k, e) else q) = B := by
              rw [List.map_congr_left (g := id) fun q hq => ?_]
              · exact List.map_id _
              · rw [if_neg fun z => hm (by rw [← z]; exact List.mem_map_of_mem hq)]; rfl
            rw [this]
      · rw [if_neg hp]
        have hm : k ∈ B.map (·.1) := by
          rw [List.map_cons, List.mem_cons] at h
          exact h.resolve_left fun z => hp z.symm
        by_cases hj : p.1 = j
        · rw [Bk.at_cons_pos hj, Bk.at_cons_pos hj, if_neg (by rw [← hj]; exact hp)]
        · rw [Bk.at_cons_neg hj, ih hm, Bk.at_cons_neg hj]
  · rw [if_neg h]
    induction B with
    | nil =>
      show Bk.at [(k, e)] j = _
      by_cases hj : j = k
      · rw [if_pos hj, Bk.at_cons_pos (by exact hj.symm)]
      · rw [if_neg hj, Bk.at_cons_neg (by exact fun z => hj z.symm)]
    | cons p B ih =>
      have hp : ¬ p.1 = k := fun z => h (by rw [List.map_cons, z]; exact List.mem_cons_self)
      have hm : k ∉ B.map (·.1) := fun z => h (by rw [List.map_cons]; exact List.mem_cons_of_mem _ z)
      rw [List.cons_append]
      by_cases hj : p.1 = j
      · rw [Bk.at_cons_pos hj, Bk.at_cons_pos hj, if_neg (by rw [← hj]; exact hp)]
      · rw [Bk.at_cons_neg hj, ih hm, Bk.at_cons_neg hj]
theorem Bk.put_keys (B : Bk) (k : Int) (e : Ent) : (B.put k e).map (·.1) = if k ∈ B.map (·.1) then B.map (·.1) else B.map (·.1) ++ [k] := by
  unfold Bk.put
  split
  · rw [List.map_map]
    refine List.map_congr_left fun q _ => ?_
    show (if q.1 = k then (k, e) else q).1 = q.1
    split
    · rename_i h; exact h.symm
    · rfl
  · rw [List.map_append]; rfl
theorem Bk.put_nd {B : Bk} (k : Int) (e : Ent) (h : (B.map (·.1)).Nodup) : ((B.put k e).map (·.1)).Nodup := by
  rw [Bk.put_keys]
  split
  · exact h
  · rename_i hk
    rw [List.nodup_append]
    refine ⟨h, by simp, fun a ha b hb z => ?_⟩
    rw [List.mem_singleton.mp hb] at z
    exact hk (by rw [← z]; exact ha)
theorem Bk.put_len (B : Bk) (k : Int) (e : Ent) : (B.put k e).length ≤ B.length + 1 := by
  unfold Bk.put
  split
  · rw [List.length_map]; omega
  · rw [List.length_append]; exact Nat.le_refl _
theorem Bk.put_len_old {B : Bk} {k : Int} (e : Ent) (h : k ∈ B.map (·.1)) : (B.put k e).length = B.length := by
  unfold Bk.put
  rw [if_pos h, List.length_map]
theorem Bk.put_good {B : Bk} {k : Int} {e : Ent} (h : GoodBk B) (hk : 1 ≤ k) (he : e.ok k) : GoodBk (B.put k e) := fun q hq => by
  unfold Bk.put at hq
  split at hq
  · obtain ⟨p, hp, rfl⟩ := List.mem_map.mp hq
    split
    · exact ⟨hk, he⟩
    · exact h p hp
  · rcases List.mem_append.mp hq with hq | hq
    · exact h q hq
    · rw [List.mem_singleton.mp hq]; exact ⟨hk, he⟩
theorem BkRel.put {H : Hp} {kvs : List (Key × V)} {B : Bk} (h : BkRel H kvs B) {k : Int} {e : Ent} {t : Addr} (ht : EntAt H t e) : BkRel H (putK kvs (Sum.inl k : Key) (.ref t)) (B.put k e) := by
  unfold putK Bk.put
  have hany : (kvs.any fun kv => decide (kv.1 = (Sum.inl k : Key))) = decide (k ∈ B.map (·.1)) := by
    have hk := h.keys
    have this : k ∈ B.map (·.1) ↔ (Sum.inl k : Key) ∈ kvs.map (·.1) := by
      rw [hk]
      constructor
      · intro z; exact List.mem_map_of_mem z
      · intro z
        obtain ⟨a, z1, e⟩ := List.mem_map.mp z
        rw [← Sum.inl.inj e]
        exact z1
    by_cases z : k ∈ B.map (·.1)
    · rw [decide_eq_true z, List.any_eq_true]
      obtain ⟨kv, h1, h2⟩ := List.mem_map.mp (this.mp z)
      exact ⟨kv, h1, decide_eq_true h2⟩
    · rw [decide_eq_false z, List.any_eq_false]
      intro kv hkv e
      exact z (this.mpr (List.mem_map.mpr ⟨kv, hkv, of_decide_eq_true e⟩))
  rw [hany]
  by_cases z : k ∈ B.map (·.1)
  · rw [if_pos (decide_eq_true z), if_pos z]
    clear hany z
    induction h with
    | nil => exact .nil
    | @cons p q ps qs r t' ih =>
      rw [List.map_cons, List.map_cons]
      refine .cons ?_ ih
      by_cases hq : q.1 = k
      · rw [if_pos (by rw [r.1, hq]), if_pos hq]
        exact ⟨by rw [r.1, hq], t, rfl, ht⟩
      · rw [if_neg (by rw [r.1]; exact fun z => hq (Sum.inl.inj z)), if_neg hq]
        exact r
  · rw [if_neg (by simpa using z), if_neg z]
    exact Paired.app h (.cons ⟨rfl, t, rfl, ht⟩ .nil)
end S
set_option Elab.async false
set_option linter.all false
set_option maxRecDepth 100000
set_option maxHeartbeats 4000000
namespace S
open PySem L2 Evl
/-! ### parts of a book -/
def Bk.pick (B : Bk) (ns : List Int) : Bk := ns.filterMap fun k => (Bk.at B k).map fun e => (k, e)
def Bk.del (B : Bk) (k : Int) : Bk := B.filter fun q => decide (q.1 ≠ k)
theorem at_nil (k : Int) : Bk.at [] k = none := rfl
theorem Bk.at_pick (B : Bk) (ns : List Int) (k : Int) : Bk.at (B.pick ns) k = if k ∈ ns then Bk.at B k else none := by
  induction ns with
  | nil => rfl
  | cons n ns ih =>
    show Bk.at ((n :: ns).filterMap fun k => (Bk.at B k).map fun e => (k, e)) k = _
    rw [List.filterMap_cons]
    cases e : Bk.at B n with
    | none =>
      show Bk.at (Bk.pick B ns) k = _
      rw [ih]
      by_cases hk : k = n
      · subst hk
        rw [if_pos List.mem_cons_self, e]
        split <;> rfl
      · have : (k ∈ n :: ns) ↔ k ∈ ns := by rw [List.mem_cons]; exact ⟨fun h => h.resolve_left hk, .inr⟩
        simp only [this]
    | some x =>
      show Bk.at ((n, x) :: Bk.pick B ns) k = _
      by_cases hk : n = k
      · rw [Bk.at_cons_pos (by exact hk), if_pos (by rw [hk]; exact List.mem_cons_self), ← hk, e]
      · rw [Bk.at_cons_neg (by exact hk), ih]
        have : (k ∈ n :: ns) ↔ k ∈ ns := by rw [List.mem_cons]; exact ⟨fun h => h.resolve_left (fun z => hk z.symm), .inr⟩
        simp only [this]
theorem Bk.pick_keys {B : Bk} {ns : List Int} (h : ∀ k ∈ ns, k ∈ B.map (·.1)) : (B.pick ns).map (·.1) = ns := by
  induction ns with
  | nil => rfl
  | cons n ns ih =>
    obtain ⟨e, he⟩ := Bk.at_isSome (h n List.mem_cons_self)
    show ((n :: ns).filterMap fun k => (Bk.at B k).map fun e => (k, e)).map (·.1) = _
    rw [List.filterMap_cons, he]
    show n :: (Bk.pick B ns).map (·.1) = _
    rw [ih fun k hk => h k (List.mem_cons_of_mem _ hk)]
theorem Bk.pick_mem {B : Bk} {ns : List Int} {q : Int × Ent} (h : q ∈ B.pick ns) : q.1 ∈ ns ∧ q ∈ B := by
  obtain ⟨k, hk, e⟩ := List.mem_filterMap.mp h
  cases e1 : Bk.at B k with
  | none => rw [e1] at e; cases e
  | some x =>
    rw [e1] at e
    have : q = (k, x) := (Option.some.inj e).symm
    subst this
    exact ⟨hk, Bk.at_mem e1⟩
theorem Bk.del_keys (B : Bk) (k : Int) : (B.del k).map (·.1) = (B.map (·.1)).filter fun j => decide (j ≠ k) := by
  unfold Bk.del
  rw [List.filter_map]
  rfl
theorem Bk.pick_del {B : Bk} (hn : (B.map (·.1)).Nodup) (k : Int) : B.pick ((B.map (·.1)).filter fun j => decide (j ≠ k)) = B.del k := by
  have gen : ∀ (A : Bk), (∀ q ∈ A, Bk.at B q.1 = some q.2) → B.pick ((A.map (·.1)).filter fun j => decide (j ≠ k)) = A.del k := by
    intro A
    induction A with
    | nil => intro _; rfl
    | cons p A ih =>
      intro h
      have ih' := ih fun q hq => h q (List.mem_cons_of_mem _ hq)
      unfold Bk.del at ih' ⊢
      rw [List.map_cons]
      by_cases z : p.1 ≠ k
      · rw [List.filter_cons, if_pos (decide_eq_true z), List.filter_cons, if_pos (decide_eq_true z), ← ih']
        show ((p.1 :: _).filterMap fun k => (Bk.at B k).map fun e => (k, e)) = _
        rw [List.filterMap_cons, h p List.mem_cons_self]
        rfl
      · rw [List.filter_cons, if_neg (by simpa using z), List.filter_cons, if_neg (by simpa using z)]
        exact ih'
  exact gen B fun q hq => Bk.at_of hn hq
theorem Bk.at_del (B : Bk) (k j : Int) : Bk.at (B.del k) j = if j = k then none else Bk.at B j := by
  unfold Bk.del
  induction B with
  | nil => show none = _; split <;> rfl
  | cons p B ih =>
    by_cases h : p.1 = k
    · rw [List.filter_cons, if_neg (by simpa using h), ih]
      by_cases hj : j = k
      · rw [if_pos hj, if_pos hj]
      · rw [if_neg hj, if_neg hj, Bk.at_cons_neg (by rw [h]; exact fun z => hj z.symm)]
    · rw [List.filter_cons, if_pos (by simpa using h)]
      by_cases hj : p.1 = j
      · rw [Bk.at_cons_pos hj, Bk.at_cons_pos hj, if_neg (by rw [← hj]; exact h)]
      · rw [Bk.at_cons_neg hj, Bk.at_cons_neg hj, ih]
theorem Bk.del_sub (B : Bk) (k : Int) : (B.del k).Sublist B := List.filter_sublist
theorem Bk.del_lt {B : Bk} {k : Int} (h : k ∈ B.map (·.1)) : (B.del k).length < B.length := by
  obtain ⟨q, hq, e⟩ := List.mem_map.mp h
  exact List.length_filter_lt_length_iff_exists.mpr ⟨q, hq, by simp [e]⟩
theorem sub_at {A B : Bk} (hs : A.Sublist B) (hn : (B.map (·.1)).Nodup) {k : Int} {e : Ent} (h : Bk.at A k = some e) : Bk.at B k = some e := Bk.at_of hn (hs.subset (Bk.at_mem h))
theorem sub_nd {A B : Bk} (hs : A.Sublist B) (hn : (B.map (·.1)).Nodup) : (A.map (·.1)).Nodup := List.Sublist.nodup (hs.map _) hn
theorem sub_good {A B : Bk} (hs : A.Sublist B) (hg : GoodBk B) : GoodBk A := fun q hq => hg q (hs.subset hq)
/-! ### what is said by entries all of which count -/
def NoUndo (L : Bk) : Prop := ∀ q ∈ L, q.2.isUndo = false
def saidN (L : Bk) (name : Str) (day : Int) : Option Int := saidF L (ups (L.map (·.1))) name day
theorem isUndo_of {e : Ent} {t : Int} (h : e.isUndo = false) : e ≠ .undo t := fun z => by rw [z] at h; cases h
theorem span_of {e : Ent} (h : e.isUndo = false) : ∃ s, e.span = some s := by
  cases e with
  | undo j => cases h
  | tell a lo hi w => exact ⟨_, rfl⟩
  | clear a lo hi => exact ⟨_, rfl⟩
  | like a lo hi o => exact ⟨_, rfl⟩
theorem countF_noundo {L : Bk} {n : Int} (hn : (L.map (·.1)).Nodup) (hg : GoodBk L) (hu : NoUndo L) (hle : ∀ q ∈ L, q.1 ≤ n) : countF L n = ups (L.map (·.1)) := by
  rw [← countF_filter hn]
  refine List.filter_eq_self.mpr fun k hk => ?_
  have hkm := (ups_perm _).mem_iff.mp hk
  obtain ⟨q, hq, rfl⟩ := List.mem_map.mp hkm
  rw [decide_eq_true (hle q hq), decide_eq_true]
  · rfl
  · refine (countF_iff hn hg q.1).mpr ⟨hkm, hle q hq, fun j _ e => ?_⟩
    exact isUndo_of (hu _ (Bk.at_mem e)) rfl
theorem worth_noundo {L : Bk} {n : Int} (hn : (L.map (·.1)).Nodup) (hg : GoodBk L) (hu : NoUndo L) (hle : ∀ q ∈ L, q.1 ≤ n) (name : Str) (day : Int) : worthF L n name day = saidN L name day := by
  unfold worthF saidN
  rw [countF_noundo hn hg hu hle]
/-- what does not speak of a day is passed over -/
theorem saidL_filter {B : Bk} {day : Int} (p : Int → Bool) : ∀ {ns : List Int}, (∀ k ∈ ns, p k = false → ∀ s, (Bk.at B k).bind Ent.span = some s → ¬ (s.1 ≤ day ∧ day ≤ s.2)) → ∀ name, saidL B day ns name = saidL B day (ns.filter p) name
  | [], _, _ => rfl
  | k :: r, h, name => by
    have ih := saidL_filter (B := B) (day := day) p (ns := r) fun j hj => h j (List.mem_cons_of_mem _ hj)
    by_cases hp : p k = true
    · rw [List.filter_cons, if_pos hp]
      unfold saidL
      cases Bk.at B k with
      | none => exact ih name
      | some e =>
        cases e with
        | tell n lo hi w => dsimp only; rw [ih]
        | clear n lo hi => dsimp only; rw [ih]
        | like n lo hi o => dsimp only; rw [ih, ih]
        | undo j => exact ih name
    · have hpf : p k = false := by simpa using hp
      rw [List.filter_cons, if_neg hp, ← ih]
      have h0 := h k List.mem_cons_self hpf
      show saidL B day (k :: r) name = saidL B day r name
      rw [saidL]
      cases e : Bk.at B k with
      | none => rfl
      | some x =>
        rw [e] at h0
        cases x with
        | tell n lo hi w => exact if_neg fun z => h0 (lo, hi) rfl z.2
        | clear n lo hi => exact if_neg fun z => h0 (lo, hi) rfl z.2
        | like n lo hi o => exact if_neg fun z => h0 (lo, hi) rfl z.2
        | undo j => rfl
theorem saidL_none {B : Bk} {day : Int} {name : Str} : ∀ {ns : List Int}, (∀ k ∈ ns, ∀ e, Bk.at B k = some e → e.nm ≠ some name) → saidL B day ns name = none
  | [], _ => rfl
  | k :: r, h => by
    have ih := saidL_none (B := B) (day := day) (name := name) (ns := r) fun j hj => h j (List.mem_cons_of_mem _ hj)
    rw [saidL]
    have h0 := h k List.mem_cons_self
    cases e : Bk.at B k with
    | none => exact ih
    | some x =>
      have h1 := h0 x e
      cases x with
      | tell n lo hi w => exact (if_neg fun z => h1 (by rw [← z.1]; rfl)).trans ih
      | clear n lo hi => exact (if_neg fun z => h1 (by rw [← z.1]; rfl)).trans ih
      | like n lo hi o => exact (if_neg fun z => h1 (by rw [← z.1]; rfl)).trans ih
      | undo j => exact ih
theorem ups_filter (ks : List Int) (p : Int → Bool) : (ups ks).filter p = ups (ks.filter p) :=
  ups_of ((ups_perm ks).filter p) ((ups_sorted ks).filter p)
theorem saidN_del (L : Bk) (k : Int) (name : Str) (day : Int) : saidN (L.del k) name day = saidL L day ((ups (L.map (·.1))).reverse.filter fun j => decide (j ≠ k)) name := by
  unfold saidN saidF
  rw [Bk.del_keys, ← ups_filter, ← List.filter_reverse]
  refine saidL_congr (fun j hj => ?_) name
  have := (List.mem_filter.mp hj).2
  rw [Bk.at_del, if_neg (of_decide_eq_true this)]
theorem del_outside {L : Bk} {k : Int} {s : Int × Int} {day : Int} (hk : (Bk.at L k).bind Ent.span = some s) (ho : ¬ (s.1 ≤ day ∧ day ≤ s.2)) (name : Str) : saidN (L.del k) name day = saidN L name day := by
  rw [saidN_del]
  unfold saidN saidF
  refine (saidL_filter _ (fun j _ hj s' hs' => ?_) name).symm
  have e : j = k := by simpa using hj
  subst e
  rw [hk] at hs'
  rw [← Option.some.inj hs']
  exact ho
def namesOf (L : Bk) : List Str := L.filterMap fun q => q.2.nm
/-- an entry that may be left out -/
def needB (names : List Str) (L : Bk) (k : Int) : Bool := match (Bk.at L k).bind Ent.span with
  | some s => (begF L (ups (L.map fun q => q.1)) s.1 s.2).all fun d => names.all fun nm => decide (saidN (L.del k) nm d = saidN L nm d)
  | none => false
theorem begin_at {B : Bk} {ns : List Int} {low high d : Int} (hlh : low ≤ high) (h1 : low ≤ d) (h2 : d ≤ high) : ∃ b ∈ begF B ns low high, b ≤ d ∧ ∀ y ∈ begF B ns low high, ¬ (b < y ∧ y ≤ d) := by
  obtain ⟨_, _, _, hb, hm⟩ := begF_facts B low high hlh ns
  have hl : low ∈ begF B ns low high := (hm low).mpr (.inl rfl)
  have gen : ∀ l : List Int, (∃ x ∈ l, x ≤ d) → ∃ b ∈ l, b ≤ d ∧ ∀ y ∈ l, ¬ (b < y ∧ y ≤ d) := by
    intro l
    induction l with
    | nil => rintro ⟨x, hx, _⟩; cases hx
    | cons a l ih =>
      intro _
      by_cases he : ∃ x ∈ l, x ≤ d
      · obtain ⟨b, hb, hbd, hmax⟩ := ih he
        by_cases ha : b < a ∧ a ≤ d
        · refine ⟨a, List.mem_cons_self, ha.2, fun y hy z => ?_⟩
          rcases List.mem_cons.mp hy with h | h
          · omega
          · exact hmax y h ⟨by omega, z.2⟩
        · refine ⟨b, List.mem_cons_of_mem _ hb, hbd, fun y hy z => ?_⟩
          rcases List.mem_cons.mp hy with h | h
          · rw [h] at z; exact ha z
          · exact hmax y h z
      · rename_i hx
        obtain ⟨x, hx1, hx2⟩ := hx
        rcases List.mem_cons.mp hx1 with h | h
        · refine ⟨a, List.mem_cons_self, by omega, fun y hy z => ?_⟩
          rcases List.mem_cons.mp hy with h' | h'
          · omega
          · exact he ⟨y, h', z.2⟩
        · exact absurd ⟨x, h, hx2⟩ he
  exact gen _ ⟨low, hl, h1⟩
theorem need_all {names : List Str} {L : Bk} {k : Int} (hn : (L.map (·.1)).Nodup) (hg : GoodBk L) (hnm : ∀ q ∈ L, ∀ m, q.2.nm = some m → m ∈ names) (h : needB names L k = true) (name : Str) (day : Int) : saidN (L.del k) name day = saidN L name day := by
  unfold needB at h
  cases e : (Bk.at L k).bind Ent.span with
  | none => rw [e] at h; cases h
  | some s =>
    rw [e] at h
    have h : ∀ d ∈ begF L (ups (L.map (·.1))) s.1 s.2, ∀ nm ∈ names, saidN (L.del k) nm d = saidN L nm d := fun d hd nm hm => by
      have h1 := List.all_eq_true.mp h d hd
      exact of_decide_eq_true (List.all_eq_true.mp h1 nm hm)
    by_cases ho : s.1 ≤ day ∧ day ≤ s.2
    · by_cases hm : name ∈ names
      · have hlh : s.1 ≤ s.2 := by omega
        obtain ⟨b, hb, hbd, hmax⟩ := begin_at (B := L) (ns := ups (L.map (·.1))) hlh ho.1 ho.2
        have hbb := (begF_facts L s.1 s.2 hlh (ups (L.map (·.1)))).2.2.2.1 b hb
        have e1 : saidN L name day = saidN L name b := said_steps hlh (fun k h => h) name b day hb hbd ho.2 hmax
        have e2 : saidN (L.del k) name day = saidN (L.del k) name b := by
          refine said_between hlh hbb.1 hbd ho.2 (fun j hj s' hs' y hy z => ?_) name
          have hjm : j ∈ ups (L.map (·.1)) := by
            rw [Bk.del_keys] at hj
            exact (ups_perm _).mem_iff.mpr (List.mem_filter.mp ((ups_perm _).mem_iff.mp hj)).1
          rw [Bk.at_del] at hs'
          by_cases hjk : j = k
          · rw [if_pos hjk] at hs'; cases hs'
          · rw [if_neg hjk] at hs'
            exact hmax y (((begF_facts L s.1 s.2 hlh (ups (L.map (·.1)))).2.2.2.2 y).mpr (.inr ⟨by omega, by omega, j, hjm, s', hs', hy⟩)) z
        rw [e1, e2]
        exact h b hb name hm
      · have none1 : ∀ (A : Bk), (∀ q ∈ A, q ∈ L) → saidN A name day = none := fun A hA => by
          unfold saidN saidF
          refine saidL_none fun j _ x hx z => hm ?_
          exact hnm _ (hA _ (Bk.at_mem hx)) name z
        rw [none1 _ fun q hq => (Bk.del_sub L k).subset hq, none1 _ fun q hq => hq]
    · exact del_outside e ho name
def passStep (names : List Str) (L : Bk) (k : Int) : Bk := if needB names L k = true then L.del k else L
def passL (names : List Str) (L : Bk) : Bk := (ups (L.map (·.1))).foldl (passStep names) L
theorem need_mem {names : List Str} {L : Bk} {k : Int} (h : needB names L k = true) : k ∈ L.map (·.1) := by
  unfold needB at h
  cases e : Bk.at L k with
  | none => rw [e] at h; cases h
  | some x => exact List.mem_map_of_mem (f := (·.1)) (Bk.at_mem e)
theorem pass_gen {names : List Str} : ∀ (ks : List Int) {L : Bk}, (L.map (·.1)).Nodup → GoodBk L → (∀ q ∈ L, ∀ m, q.2.nm = some m → m ∈ names) →
    (ks.foldl (passStep names) L).Sublist L ∧ (∀ name day, saidN (ks.foldl (passStep names) L) name day = saidN L name day) ∧ (¬ (ks.foldl (passStep names) L).length < L.length → ks.foldl (passStep names) L = L ∧ ∀ k ∈ ks, needB names L k = false) ∧ (∀ j ∈ L.map (·.1), j ∉ ks → j ∈ (ks.foldl (passStep names) L).map (·.1))
  | [], L, _, _, _ => ⟨List.Sublist.refl _, fun _ _ => rfl, fun _ => ⟨rfl, fun k hk => by cases hk⟩, fun j hj _ => hj⟩
  | k :: ks, L, hn, hg, hnm => by
    rw [List.foldl_cons]
    unfold passStep
    by_cases hk : needB names L k = true
    · rw [if_pos hk]
      have hsub := Bk.del_sub L k
      obtain ⟨h1, h2, h3, h4⟩ := pass_gen (names := names) ks (sub_nd hsub hn) (sub_good hsub hg) fun q hq => hnm q (hsub.subset hq)
      refine ⟨h1.trans hsub, fun name day => (h2 name day).trans (need_all hn hg hnm hk name day), fun hl => ?_, fun j hj hnj => ?_⟩
      · exfalso
        have := Bk.del_lt (need_mem hk)
        have := h1.length_le
        exact hl (by show (ks.foldl (passStep names) (L.del k)).length < _; omega)
      · refine h4 j ?_ fun z => hnj (List.mem_cons_of_mem _ z)
        rw [Bk.del_keys, List.mem_filter]
        exact ⟨hj, decide_eq_true fun z => hnj (by rw [z]; exact List.mem_cons_self)⟩
    · rw [if_neg hk]
      obtain ⟨h1, h2, h3, h4⟩ := pass_gen (names := names) ks hn hg hnm
      refine ⟨h1, h2, fun hl => ?_, fun j hj hnj => h4 j hj fun z => hnj (List.mem_cons_of_mem _ z)⟩
      obtain ⟨g1, g2⟩ := h3 hl
      refine ⟨g1, fun j hj => ?_⟩
      rcases List.mem_cons.mp hj with h | h
      · rw [h]; simpa using hk
      · exact g2 j h
def shortLoop (names : List Str) : Nat → Bk → Bk
  | 0, L => L
  | f + 1, L => if (passL names L).length < L.length then shortLoop names f (passL names L) else passL names L
theorem shortLoop_fuel {names : List Str} : ∀ (f g : Nat) (L : Bk), L.length < f → L.length < g → shortLoop names f L = shortLoop names g L
  | 0, _, _, h, _ => absurd h (Nat.not_lt_zero _)
  | _, 0, _, _, h => absurd h (Nat.not_lt_zero _)
  | f + 1, g + 1, L, h1, h2 => by
    unfold shortLoop
    split
    · exact shortLoop_fuel f g _ (by omega) (by omega)
    · rfl
structure ShortOk (names : List Str) (L0 L : Bk) : Prop where
  sub : L.Sublist L0
  said : ∀ name day, saidN L name day = saidN L0 name day
  least : ∀ k ∈ L.map (·.1), needB names L k = false
theorem short_ok {names : List Str} : ∀ (f : Nat) {L : Bk}, L.length < f → (L.map (·.1)).Nodup → GoodBk L → (∀ q ∈ L, ∀ m, q.2.nm = some m → m ∈ names) → ShortOk names L (shortLoop names f L)
  | 0, _, h, _, _, _ => absurd h (Nat.not_lt_zero _)
  | f + 1, L, h, hn, hg, hnm => by
    obtain ⟨h1, h2, h3, _⟩ := pass_gen (names := names) (ups (L.map (·.1))) hn hg hnm
    unfold shortLoop
    split
    · rename_i hl
      have ih := short_ok (names := names) f (L := passL names L) (by omega) (sub_nd h1 hn) (sub_good h1 hg) fun q hq => hnm q (h1.subset hq)
      exact ⟨ih.sub.trans h1, fun name day => (ih.said name day).trans (h2 name day), ih.least⟩
    · rename_i hl
      obtain ⟨g1, g2⟩ := h3 hl
      refine ⟨h1, h2, fun k hk => ?_⟩
      have e : passL names L = L := g1
      rw [e] at hk ⊢
      exact g2 k ((ups_perm _).mem_iff.mpr hk)
/-- the entries that count, without undos -/
def plainK (B : Bk) (k : Int) : Bool := match Bk.at B k with
  | some e => !e.isUndo
  | none => false
theorem plainK_of {B : Bk} {k : Int} {e : Ent} (h : Bk.at B k = some e) : plainK B k = !e.isUndo := by unfold plainK; rw [h]
def left0 (B : Bk) (n : Int) : Bk := B.pick ((countF B n).filter (plainK B))
def shortF (B : Bk) : Bk := shortLoop (namesOf (left0 B (maxK B))) ((left0 B (maxK B)).length + 1) (left0 B (maxK B))
theorem left0_keys (B : Bk) (n : Int) : (left0 B n).map (·.1) = (countF B n).filter (plainK B) := Bk.pick_keys fun k hk => (countF_mem (List.mem_filter.mp hk).1).1
theorem left0_mem {B : Bk} {n : Int} {q : Int × Ent} (hn : (B.map (·.1)).Nodup) (h : q ∈ left0 B n) : q ∈ B ∧ q.2.isUndo = false ∧ q.1 ≤ n := by
  obtain ⟨h1, h2⟩ := Bk.pick_mem h
  obtain ⟨h3, h4⟩ := List.mem_filter.mp h1
  rw [plainK_of (Bk.at_of hn h2)] at h4
  exact ⟨h2, by simpa using h4, (countF_mem h3).2⟩
theorem left0_good {B : Bk} {n : Int} (hn : (B.map (·.1)).Nodup) (hg : GoodBk B) : GoodBk (left0 B n) := fun q hq => hg q (left0_mem hn hq).1
theorem left0_nd {B : Bk} {n : Int} (hn : (B.map (·.1)).Nodup) : ((left0 B n).map (·.1)).Nodup := by
  rw [left0_keys]
  exact (List.Pairwise.imp (fun {a b} h => by have h : a < b := h; omega) (countF_up hn)).filter _
theorem left0_said {B : Bk} {n : Int} (hn : (B.map (·.1)).Nodup) (name : Str) (day : Int) : saidN (left0 B n) name day = worthF B n name day := by
  unfold saidN worthF saidF
  have hu : ups ((left0 B n).map (·.1)) = (left0 B n).map (·.1) := by
    refine (ups_of (List.Perm.refl _) ?_).symm
    rw [left0_keys]
    exact (List.Pairwise.imp (fun {a b} h => by have h : a < b := h; show a ≤ b; omega) (countF_up hn)).filter _
  rw [hu, left0_keys, ← List.filter_reverse]
  rw [saidL_congr (B := left0 B n) (B' := B) fun k hk => ?_]
  · refine (saidL_filter _ (fun k hk hp s hs => ?_) name).symm
    obtain ⟨e, he⟩ := Bk.at_isSome (countF_mem (List.mem_reverse.mp hk)).1
    rw [plainK_of he] at hp
    rw [he] at hs
    cases e with
    | undo j => cases hs
    | tell a lo hi w => cases hp
    | clear a lo hi => cases hp
    | like a lo hi o => cases hp
  · unfold left0
    rw [Bk.at_pick, if_pos]
    rw [List.filter_reverse] at hk
    exact List.mem_reverse.mp hk
theorem left0_len (B : Bk) (n : Int) : (left0 B n).length ≤ B.length := by
  have : ((left0 B n).map (·.1)).length ≤ B.length := by
    rw [left0_keys]
    exact Nat.le_trans (List.length_filter_le _ _) (countF_len B n)
  rwa [List.length_map] at this
end S
set_option Elab.async false
set_option linter.all false
set_option maxRecDepth 100000
set_option maxHeartbeats 4000000
section
open PySem L2 Evl S
local macro_rules | `(tactic| array_get_dec) => `(tactic| first
  | exact ev_c
  | exact ev_var rfl
  | exact S.eo_no
  | exact ea_nil
  | (apply S.eo_some <;> array_get_dec)
  | (apply ea_cons <;> array_get_dec)
  | (apply S.ev_add <;> array_get_dec)
  | (apply S.ev_sub <;> array_get_dec)
  | (apply S.ev_div <;> first | array_get_dec | exact ⟨by decide, by decide⟩ | exact ⟨by omega, by omega⟩)
  | (apply S.ev_mod <;> first | array_get_dec | decide | omega)
  | (apply S.ev_mulr <;> first | array_get_dec | exact ⟨by decide, by decide⟩ | exact ⟨by omega, by omega⟩)
  | (apply S.ev_mull <;> first | array_get_dec | exact ⟨by decide, by decide⟩ | exact ⟨by omega, by omega⟩)
  | (apply S.ev_neg <;> array_get_dec)
  | (apply S.ev_min <;> array_get_dec)
  | (apply S.ev_max <;> array_get_dec)
  | (apply S.ev_eqI <;> array_get_dec)
  | (apply S.ev_eqS <;> array_get_dec)
  | (apply S.ev_neI <;> array_get_dec)
  | (apply S.ev_neS <;> array_get_dec)
  | (apply S.ev_lt <;> array_get_dec)
  | (apply S.ev_le <;> array_get_dec)
  | (apply S.ev_gt <;> array_get_dec)
  | (apply S.ev_ge <;> array_get_dec)
  | (apply S.ev_intB <;> array_get_dec)
  | (apply et_test <;> array_get_dec)
  | (apply et_B <;> array_get_dec)
  | (apply et_not <;> array_get_dec)
  | (refine' et_and ?_ (fun _ => ?_) <;> array_get_dec)
  | (refine' et_or ?_ (fun _ => ?_) <;> array_get_dec))
namespace S
section
variable {K : PySem.W.Frag} {C : CA} {σ : L2.St} {H H' : Hp} {t : TT} {ta tb tc td te tf : TE} {D : Ends} {tu tz : TS} {b : Addr} {B L : Bk} {n : Int} {β : Type} {G : Hp → V → β → Prop}
/-! ### lists of lists -/
def LL (H : Hp) (p : Addr) (rows : List (List V)) : Prop := ∃ ps : List Addr, H p = some (.lst (ps.map V.ref)) ∧ Paired (fun q r => H q = some (.lst r)) ps rows
theorem LL.mono {p : Addr} {rows : List (List V)} (e : Ex H H') (h : LL H p rows) : LL H' p rows := let ⟨ps, h1, h2⟩ := h; ⟨ps, e p _ h1, Paired.imp (fun _ _ h => e _ _ h) h2⟩
def EvLL (te : TE) (σ : L2.St) (H : Hp) (rows : List (List V)) : Prop := ∀ H1, Ex H H1 → ∀ Q : VK, (∀ p H2, H1 p = none → Ex H1 H2 → LL H2 p rows → Q (.ref p) H2) → te σ H1 Q
theorem pairedMap {α β γ : Type} {F : α → γ → Prop} {f : β → γ} : ∀ {xs : List α} {ys : List β}, Paired (fun x y => F x (f y)) xs ys → Paired F xs (ys.map f)
  | _, _, .nil => .nil
  | _, _, .cons r t => .cons r (pairedMap t)
theorem paired_upd {H' H2 : Hp} {Dl : Addr} {o : HO} {f : β → HO} (e : Ex H' H2) : ∀ {ps : List Addr} {zs : List β}, Dl ∉ ps → Paired (fun q z => H' q = some (f z)) ps zs → Paired (fun q z => upd H2 Dl o q = some (f z)) ps zs
  | _, _, _, .nil => .nil
  | q :: qs, _, hn, .cons r t => .cons (by
      show upd H2 Dl o q = _
      rw [upd_ne (fun c => hn (by rw [← c]; exact List.mem_cons_self))]
      exact e _ _ r) (paired_upd e (fun c => hn (List.mem_cons_of_mem _ c)) t)
theorem el_lcLL {a : Addr} {xs : List V} {zs : List β} {tl : TE} {j : Nat} {vs : List Nat} (v : β → List V) (mG : Mo G) (h : Ev tl σ H (.ref a)) (hx : SqL K H a xs) (hp : Paired (G H) xs zs) (hz : zs.length ≤ 40000) (hw : ∀ x, wipe ((wipe σ vs).set j (some x)) vs = wipe σ vs)
    (he : ∀ x z H1, Ex H H1 → z ∈ zs → G H1 x z → EvL te ((wipe σ vs).set j (some x)) H1 (v z)) : EvLL (tLc (iList K tl) (gName j) tYes te vs) σ H (zs.map v) := fun H0 e Q q => h H0 e _ fun H1 e1 => ⟨a, rfl, ⟨xs, ex_l (e.trans e1) hx⟩, fun Dl hD =>
  lc_list (xs := xs) (fun i H' => H1 Dl = none ∧ Ex H1 H' ∧ ∃ ps : List Addr, H' Dl = some (.lst (ps.map V.ref)) ∧ Dl ∉ ps ∧ Paired (fun q z => H' q = some (.lst (v z))) ps (zs.take i)) ⟨hD, Ex.new hD, [], upd_same, (fun z => by cases z), .nil⟩ (fun i H' _ p => ex_l ((e.trans e1).trans p.2.1) hx) (fun i x H' hi p => by
    obtain ⟨p1, p2, ps, p3, p4, p5⟩ := p
    obtain ⟨z, hz1, hz2⟩ := paired_get (Paired.imp (fun _ _ => mG (e.trans e1)) hp) hi
    have hm := List.mem_of_getElem? hz1
    refine ⟨hw x, ?_⟩
    refine et_yes (H := H') H' (Ex.refl H') _ fun H3 e3 => ?_
    rw [if_pos rfl]
    refine he x z H1 (e.trans e1) hm hz2 H3 (p2.trans e3) _ fun r H2 hr e2 h2 => ⟨ps.map V.ref, e2 Dl _ (e3 Dl _ p3), sz_lt ?_, p1, Ex.mut ((p2.trans e3).trans e2) p1, ps ++ [r], by rw [upd_same, List.map_append]; rfl, ?_, ?_⟩
    · have h1 := Paired.length p5
      rw [List.length_map, h1, List.length_take]
      omega
    · intro hc
      rcases List.mem_append.mp hc with hc | hc
      · exact p4 hc
      · have p3' := e3 Dl _ p3
        rw [List.mem_singleton.mp hc] at p3'
        rw [p3'] at hr; cases hr
    · rw [take_snoc hz1]
      have hrD : r ≠ Dl := fun c => by rw [c, e3 Dl _ p3] at hr; cases hr
      exact Paired.app (paired_upd (f := fun z => HO.lst (v z)) (e3.trans e2) p4 p5) (.cons (by show upd H2 Dl _ r = _; rw [upd_ne hrD]; exact h2) .nil))
    (fun H' p => by
      obtain ⟨p1, p2, ps, p3, p4, p5⟩ := p
      rw [Paired.length hp, List.take_length] at p5
      exact q Dl H' (fresh_back e1 p1) (e1.trans p2) ⟨ps, p3, pairedMap (F := fun q r => H' q = some (HO.lst r)) p5⟩)⟩
/-! ### lists of lists as data -/
def listD (r : List (Option Int)) : PyData := .list (r.map oD)
def optRow (r : List (Option Int)) : List V := r.map optV
theorem dp_list {q : Addr} {r : List (Option Int)} (h : H q = some (.lst (optRow r))) : Dp K H (.ref q) (listD r) := .lst (sq_of h) (DpAll.of (F := fun v o => v = optV o) (fun v o e => by rw [e]; exact dp_opt o) (paired_map optV r))
theorem dp_LL {p : Addr} {rs : List (List (Option Int))} (h : LL H p (rs.map optRow)) : Dp K H (.ref p) (.list (rs.map listD)) := by
  obtain ⟨ps, h1, h2⟩ := h
  refine .lst (sq_of h1) ?_
  clear h1
  have : ∀ (ps : List Addr) (rs : List (List (Option Int))), Paired (fun q r => H q = some (.lst r)) ps (rs.map optRow) → DpAll K H (ps.map V.ref) (rs.map listD) := by
    intro ps
    induction ps with
    | nil => intro rs h; cases rs with
      | nil => exact .nil
      | cons r rs => cases h
    | cons q ps ih => intro rs h; cases rs with
      | nil => cases h
      | cons r rs => cases h with | cons r1 t1 => exact .cons (dp_list r1) (ih rs t1)
  exact this ps rs h2
theorem lay_listD (r : List (Option Int)) : (listD r).canLay0 = true ∧ (listD r).depth ≤ 2 := by
  unfold listD
  rw [PyData.canLay0, PyData.depth]
  have : PyData.canLayAll0 (r.map oD) = true ∧ PyData.depthAll (r.map oD) = 0 := by
    induction r with
    | nil => exact ⟨rfl, rfl⟩
    | cons o r ih =>
      rw [List.map_cons, PyData.canLayAll0, PyData.depthAll, ih.1, ih.2, (lay_oD o).1, (lay_oD o).2]
      exact ⟨rfl, rfl⟩
  exact ⟨this.1, by omega⟩
theorem eqv_listD : ∀ r s : List (Option Int), PyData.eqv (listD r) (listD s) = decide (r = s)
  | [], [] => rfl
  | [], _ :: _ => rfl
  | _ :: _, [] => rfl
  | a :: r, c :: s => by
    have ih := eqv_listD r s
    show (PyData.eqv (oD a) (oD c) && PyData.eqv (listD r) (listD s)) = _
    rw [ih, eqv_oD]
    by_cases h1 : a = c <;> by_cases h2 : r = s <;> simp [h1, h2]
theorem eqv_LLD : ∀ rs ss : List (List (Option Int)), PyData.eqv (.list (rs.map listD)) (.list (ss.map listD)) = decide (rs = ss)
  | [], [] => rfl
  | [], _ :: _ => rfl
  | _ :: _, [] => rfl
  | a :: r, c :: s => by
    have ih := eqv_LLD r s
    show (PyData.eqv (listD a) (listD c) && PyData.eqv (.list (r.map listD)) (.list (s.map listD))) = _
    rw [ih, eqv_listD]
    by_cases h1 : a = c <;> by_cases h2 : r = s <;> simp [h1, h2]
theorem ev_eqLL {rs ss : List (List (Option Int))} (ha : EvLL ta σ H (rs.map optRow)) (hb : EvLL tb σ H (ss.map optRow)) : Ev (tOp (eqA K) ta tb) σ H (.bl (decide (rs = ss))) := fun H1 e Q q => by
  unfold tOp
  refine ha H1 e _ fun p H2 hp e2 h2 => hb H2 (e.trans e2) _ fun r H3 hr e3 h3 => ?_
  refine .inr (.inl ⟨_, _, dp_LL (h2.mono e3), dp_LL h3, lay_all listD lay_listD rs, lay_all listD lay_listD ss, ?_⟩)
  rw [eqv_LLD]
  exact q H3 (e2.trans e3)
theorem ev_eqLLV {q : Addr} {rs ss : List (List (Option Int))} (ha : EvLL ta σ H (rs.map optRow)) (hb : Ev tb σ H (.ref q)) (hq : LL H q (ss.map optRow)) : Ev (tOp (eqA K) ta tb) σ H (.bl (decide (rs = ss))) := fun H1 e Q k => by
  unfold tOp
  refine ha H1 e _ fun p H2 hp e2 h2 => hb H2 (e.trans e2) _ fun H3 e3 => ?_
  refine .inr (.inl ⟨_, _, dp_LL (h2.mono e3), dp_LL (hq.mono ((e.trans e2).trans e3)), lay_all listD lay_listD rs, lay_all listD lay_listD ss, ?_⟩)
  rw [eqv_LLD]
  exact k H3 (e2.trans e3)
theorem ev_neLLV {q : Addr} {rs ss : List (List (Option Int))} (ha : EvLL ta σ H (rs.map optRow)) (hb : Ev tb σ H (.ref q)) (hq : LL H q (ss.map optRow)) : Ev (tOp (neA K) ta tb) σ H (.bl (!decide (rs = ss))) := fun H1 e Q k => by
  unfold tOp
  refine ha H1 e _ fun p H2 hp e2 h2 => hb H2 (e.trans e2) _ fun H3 e3 => ?_
  refine .inr (.inl ⟨_, _, dp_LL (h2.mono e3), dp_LL (hq.mono ((e.trans e2).trans e3)), lay_all listD lay_listD rs, lay_all listD lay_listD ss, ?_⟩)
  rw [eqv_LLD]
  exact k H3 (e2.trans e3)
theorem grid_eq {ds : List Int} {ys : List Str} {f g : Int → Str → Option Int} : decide (ds.map (fun d => ys.map fun nm => f d nm) = ds.map (fun d => ys.map fun nm => g d nm)) = ds.all fun d => ys.all fun nm => decide (f d nm = g d nm) := by
  have h1 : ∀ d, decide (ys.map (fun nm => f d nm) = ys.map (fun nm => g d nm)) = ys.all fun nm => decide (f d nm = g d nm) := by
    intro d
    induction ys with
    | nil => rfl
    | cons y ys ih =>
      rw [List.map_cons, List.map_cons, List.all_cons, ← ih]
      by_cases a : f d y = g d y <;> by_cases c : ys.map (fun nm => f d nm) = ys.map (fun nm => g d nm) <;> simp [a, c]
  induction ds with
  | nil => rfl
  | cons d ds ih =>
    rw [List.map_cons, List.map_cons, List.all_cons, ← ih, ← h1]
    by_cases a : ys.map (fun nm => f d nm) = ys.map (fun nm => g d nm) <;> by_cases c : (ds.map fun d => ys.map fun nm => f d nm) = (ds.map fun d => ys.map fun nm => g d nm) <;> simp [a, c]
end
end S
end
set_option Elab.async false
set_option linter.all false
set_option maxRecDepth 100000
set_option maxHeartbeats 4000000
section
open PySem L2 Evl S
local macro_rules | `(tactic| array_get_dec) => `(tactic| first
  | exact ev_c
  | exact ev_var rfl
  | exact S.eo_no
  | exact ea_nil
  | (apply S.eo_some <;> array_get_dec)
  | (apply ea_cons <;> array_get_dec)
  | (apply S.ev_add <;> array_get_dec)
  | (apply S.ev_sub <;> array_get_dec)
  | (apply S.ev_div <;> first | array_get_dec | exact ⟨by decide, by decide⟩ | exact ⟨by omega, by omega⟩)
  | (apply S.ev_mod <;> first | array_get_dec | decide | omega)
  | (apply S.ev_mulr <;> first | array_get_dec | exact ⟨by decide, by decide⟩ | exact ⟨by omega, by omega⟩)
  | (apply S.ev_mull <;> first | array_get_dec | exact ⟨by decide, by decide⟩ | exact ⟨by omega, by omega⟩)
  | (apply S.ev_neg <;> array_get_dec)
  | (apply S.ev_min <;> array_get_dec)
  | (apply S.ev_max <;> array_get_dec)
  | (apply S.ev_eqI <;> array_get_dec)
  | (apply S.ev_eqS <;> array_get_dec)
  | (apply S.ev_neI <;> array_get_dec)
  | (apply S.ev_neS <;> array_get_dec)
  | (apply S.ev_lt <;> array_get_dec)
  | (apply S.ev_le <;> array_get_dec)
  | (apply S.ev_gt <;> array_get_dec)
  | (apply S.ev_ge <;> array_get_dec)
  | (apply S.ev_intB <;> array_get_dec)
  | (apply et_test <;> array_get_dec)
  | (apply et_B <;> array_get_dec)
  | (apply et_not <;> array_get_dec)
  | (refine' et_and ?_ (fun _ => ?_) <;> array_get_dec)
  | (refine' et_or ?_ (fun _ => ?_) <;> array_get_dec))
namespace S
/-! ### left_of -/
def sp_left_of (K : PySem.W.Frag) (C : CA) : Sp := fun vs H Q _ => ∃ (b l : Addr) (B : Bk) (ns : List Int), vs = [.ref b, .ref l] ∧ BookAt H b B ∧ SqL K H l (ns.map V.int) ∧ (∀ k ∈ ns, k ∈ B.map (·.1)) ∧ ns.Nodup ∧ ns.length ≤ 60 ∧
  ∀ p H', NewBk H H' p (B.pick ns) → Q (.ref p) H'
theorem len_left_of {K : PySem.W.Frag} {C : CA} {vs : List V} {H : Hp} {Q : VK} {E : XK} (h : sp_left_of K C vs H Q E) : vs.length = 2 := by
  obtain ⟨b, l, B, ns, rfl, _⟩ := h
  rfl
/-- book 0, numbers 1, number 2 -/
def t_left_of (K : PySem.W.Frag) (C : CA) : TS :=
 (tRet (tCB (dictC K) (tCons (tLc (iList K (tVar 1)) (gName 2) tYes (tTup (tCons (tVar 2) (tCons (tOp (ixA K) (tVar 0) (tVar 2)) tNil))) [2]) tNil)))
theorem pure_left_of {K : PySem.W.Frag} {C : CA} {vs : List V} {H : Hp} {Q : VK} {E : XK} (h : sp_left_of K C vs H Q E) : t_left_of K C { nx := fun _ H' => Q .non H', rt := Q } (startN 3 vs) H := by
  obtain ⟨b, l, B, ns, rfl, hB, hl, hns, hnd, h60, kk⟩ := h
  have rows := ep_lcL (K := K) (F := NumR) (G := ValR V.int) (a := l) (xs := ns.map V.int) (zs := ns) (tl := tVar 1) (j := 2) (vs := [2]) (H := H) (σ := [some (.ref b), some (.ref l), none]) (t := tYes) (te := tTup (tCons (tVar 2) (tCons (tOp (ixA K) (tVar 0) (tVar 2)) tNil)))
    (fun _ => true) (fun k => (k, (Bk.at B k).getD (.undo 0))) NumR.mo ValR.mo.mo (ev_var rfl) hl (paired_map V.int ns) (by omega) (fun x => rfl) (fun x z H1 e1 _ _ => et_yes) (fun x z H1 e1 hz hx _ => by
      have hx' : x = .int z := hx
      subst hx'
      obtain ⟨e, he⟩ := Bk.at_isSome (hns z hz)
      obtain ⟨kv, t, g1, g2, g3⟩ := (hB.mono e1).get he
      rw [he]
      exact ex_evU (eu_tup (ea_cons (ev_var rfl) (ea_cons (ev_book (ev_var rfl) (ev_var rfl) g1 g2) ea_nil)) (by simp)) fun p H2 e2 h2 => ⟨p, rfl, t, h2, e2 _ _ g3⟩)
  have hp : (ns.filter fun _ => true).map (fun k => (k, (Bk.at B k).getD (.undo 0))) = B.pick ns := by
    rw [List.filter_eq_self.mpr fun _ _ => rfl]
    clear rows hl hnd h60 kk
    induction ns with
    | nil => rfl
    | cons n ns ih =>
      obtain ⟨e, he⟩ := Bk.at_isSome (hns n List.mem_cons_self)
      show _ = (n :: ns).filterMap fun k => (Bk.at B k).map fun e => (k, e)
      rw [List.map_cons, List.filterMap_cons, he, ih fun k hk => hns k (List.mem_cons_of_mem _ hk)]
      rfl
  rw [hp] at rows
  have hk : (B.pick ns).map (·.1) = ns := Bk.pick_keys hns
  exact at_dictNum (Q := Q) rows (by rw [hk]; exact hnd) (by rw [← List.length_map (f := (·.1)), hk]; exact h60) fun p H1 np => kk p H1 np
/-! ### without -/
def Bk.but (B : Bk) (k : Int) : List Int := (B.map (·.1)).filter fun i => decide (i ≠ k)
def sp_without (K : PySem.W.Frag) (C : CA) : Sp := fun vs H Q _ => ∃ (b : Addr) (B : Bk) (kvs : List (Key × V)) (k : Int), vs = [.ref b, .int k] ∧ H b = some (.dK kvs) ∧ BkRel H kvs B ∧ (B.map (·.1)).Nodup ∧ B.length ≤ 60 ∧
  ∀ p H', NewBk H H' p (B.del k) → Q (.ref p) H'
theorem len_without {K : PySem.W.Frag} {C : CA} {vs : List V} {H : Hp} {Q : VK} {E : XK} (h : sp_without K C vs H Q E) : vs.length = 2 := by
  obtain ⟨b, B, kvs, k, rfl, _⟩ := h
  rfl
/-- book 0, number 1, other 2 -/
def t_without (K : PySem.W.Frag) (C : CA) : TS :=
 (tRet (tCall (sp_left_of K C) [] E0 (tCons (tVar 0) (tCons (tLockE (tLc (iKeys (tVar 0)) (gName 2) (tTest (tOp (neA K) (tVar 2) (tVar 1))) (tVar 2) [2])) tNil))))
section
variable {K : PySem.W.Frag} {C : CA} {σ : L2.St} {H H' : Hp} {t : TT} {ta tb tc td te tf : TE} {D : Ends} {tu tz : TS} {b : Addr} {B L : Bk} {n : Int}
/-- a list told by ints, of a call -/
theorem at_leftN {ns : List Int} {Q : VK} (ha : Ev ta σ H (.ref b)) (hb : EvL tb σ H (ns.map V.int)) (h : BookAt H b B) (hns : ∀ k ∈ ns, k ∈ B.map (·.1)) (hn : ns.Nodup) (hl : ns.length ≤ 60) (k : ∀ p H1, NewBk H H1 p (B.pick ns) → Q (.ref p) H1) : tCall (sp_left_of K C) [] E0 (tCons ta (tCons tb tNil)) σ H Q := by
  unfold tCall tCons tNil
  refine ha H (Ex.refl H) _ fun H1 e1 => hb H1 e1 _ fun l H2 hl2 e2 h2 => ?_
  exact ⟨b, l, B, ns, rfl, h.mono (e1.trans e2), sq_of h2, hns, hn, hl, fun p H' np => k p H' (np.back (e1.trans e2))⟩
/-- the numbers but one, of a dict -/
theorem el_but {kvs : List (Key × V)} {v w j : Nat} {k : Int} (hv : (wipe σ [j]).set j none = (wipe σ [j]).set j none) (hb : H b = some (.dK kvs)) (hr : BkRel H kvs B) (hl : B.length ≤ 60) (hw : ∀ x, wipe ((wipe σ [j]).set j (some x)) [j] = wipe σ [j])
    (h0 : ∀ H1, Ev (tVar v) σ H1 (.ref b)) (h1 : ∀ x H1, Ev (tVar j) ((wipe σ [j]).set j (some x)) H1 x) (h2 : ∀ x H1, Ev (tVar w) ((wipe σ [j]).set j (some x)) H1 (.int k)) :
    EvL (tLockE (tLc (iKeys (tVar v)) (gName j) (tTest (tOp (neA K) (tVar j) (tVar w))) (tVar j) [j])) σ H (((B.map (·.1)).filter fun i => decide (i ≠ k)).map V.int) := by
  refine el_ofP V.int (ep_lock (F := ValR V.int) (u := .dK kvs) hb trivial (fun _ z => by cases z) ValR.mo fun od H1 e1 H2 e2 Q q => ?_)
  unfold tLc iKeys
  have hfz : (upd H1 b (.frz od (.dK kvs))) b = some (.frz od (.dK kvs)) := upd_same
  refine h0 H2 H2 (Ex.refl H2) _ fun H3 e3 => ⟨b, od, rfl, .inl ⟨kvs, (e2.trans e3) b _ hfz, ?_⟩⟩
  have hlen : (B.map (·.1)).length = kvs.length := by rw [List.length_map]; exact hr.len.symm
  have hid : ((B.map (·.1)).filter fun i => decide (i ≠ k)) = (((B.map (·.1)).filter fun i => decide (i ≠ k)).map fun i => i) := by rw [List.map_id']
  rw [hid] at q
  refine lc_walk (F := ValR V.int) (zs := B.map (·.1)) walk_keys hlen (by rw [← hlen, List.length_map]; omega) (fun H' e => ((e2.trans e3).trans e) b _ hfz) (fun i => decide (i ≠ k)) (fun i => i) ValR.mo ?_ fun p xs H4 hp e4 h4 hps => q p xs H4 (fresh_back e3 hp) (e3.trans e4) h4 hps
  rintro i x z H4 H5 hz e4 ⟨rfl, kk, v', hkv, rfl⟩ Qg qg
  have hkk : kk = Sum.inl z := by
    have h1 : (kvs.map (·.1))[i]? = some kk := by rw [List.getElem?_map, hkv]; rfl
    rw [hr.keys, List.getElem?_map, hz] at h1
    exact (Option.some.inj h1).symm
  subst hkk
  refine qg _ H5 (Ex.refl H5) (hw _) ?_ fun _ => ex_ev (h1 _ H5) fun H6 _ => rfl
  have := et_test (ev_neI (K := K) (h1 (.int z) H5) (h2 (.int z) H5))
  have e : (!decide (z = k)) = decide (z ≠ k) := by by_cases c : z = k <;> simp [c]
  rw [e] at this
  exact this
end
theorem pure_without {K : PySem.W.Frag} {C : CA} {vs : List V} {H : Hp} {Q : VK} {E : XK} (h : sp_without K C vs H Q E) : t_without K C { nx := fun _ H' => Q .non H', rt := Q } (startN 3 vs) H := by
  obtain ⟨b, B, kvs, k, rfl, hb, hr, hn, hl, kk⟩ := h
  have hnf : (B.but k).Nodup := hn.filter _
  have hbl : (B.but k).length ≤ 60 := by
    have := List.length_filter_le (fun i : Int => decide (i ≠ k)) (B.map (·.1))
    rw [List.length_map] at this
    exact Nat.le_trans this hl
  refine at_leftN (Q := Q) (ns := B.but k) (ev_var rfl) (el_but rfl hb hr hl (fun x => rfl) (fun H1 => ev_var rfl) (fun x H1 => ev_var rfl) fun x H1 => ev_var rfl) ⟨⟨kvs, .inl hb, hr⟩, hn, hl⟩ (fun j hj => (List.mem_filter.mp hj).1) hnf hbl fun p H1 np => ?_
  have e : B.pick (B.but k) = B.del k := Bk.pick_del hn k
  rw [e] at np
  exact kk p H1 np
/-! ### names_in -/
def sp_names_in (K : PySem.W.Frag) (C : CA) : Sp := fun vs H Q _ => ∃ (b : Addr) (B : Bk) (kvs : List (Key × V)), vs = [.ref b] ∧ H b = some (.dK kvs) ∧ BkRel H kvs B ∧ (B.map (·.1)).Nodup ∧ B.length ≤ 60 ∧
  ∀ (p : Addr) (ys : List Str) (H' : Hp), H p = none → Ex H H' → H' p = some (.lst (ys.map V.str)) → (∀ m, m ∈ ys ↔ m ∈ namesOf B) → ys.length ≤ 60 → Q (.ref p) H'
theorem len_names_in {K : PySem.W.Frag} {C : CA} {vs : List V} {H : Hp} {Q : VK} {E : XK} (h : sp_names_in K C vs H Q E) : vs.length = 1 := by
  obtain ⟨b, B, kvs, rfl, _⟩ := h
  rfl
/-- book 0, found 1, number 2 -/
def t_names_in (K : PySem.W.Frag) (C : CA) : TS :=
 (tSeq (tAsg tDNewK (gName 1))
 (tSeq (tLock (tFor (iKeys (tVar 0)) (gName 2)
  (tIfS (tTest (tOp (neA K) (tOp (ixA K) (tOp (ixA K) (tVar 0) (tVar 2)) (tC (.int 0))) (tC (.str "undo")))) (tAsg (tC (.bl true)) (gSub (tVar 1) (tOp (ixA K) (tOp (ixA K) (tVar 0) (tVar 2)) (tC (.int 1))) setA)) tNext)))
 (tRet (tCB (sortedA K) (tCons (tVar 1) tNil)))))
def strsAdd (ks : List Str) (d : Str) : List Str := if d ∈ ks then ks else ks ++ [d]
theorem mem_strsAdd {ks : List Str} {d y : Str} : y ∈ strsAdd ks d ↔ y ∈ ks ∨ y = d := by
  unfold strsAdd
  split
  · constructor
    · exact .inl
    · rintro (h | h)
      · exact h
      · rw [h]; assumption
  · rw [List.mem_append, List.mem_singleton]
theorem strkeys_put {kvs : List (Key × V)} {ks : List Str} {d : Str} {v : V} (h : kvs.map (·.1) = ks.map Sum.inr) : (putK kvs (Sum.inr d : Key) v).map (·.1) = (strsAdd ks d).map Sum.inr := by
  unfold putK strsAdd
  have hany : (kvs.any fun kv => decide (kv.1 = (Sum.inr d : Key))) = decide (d ∈ ks) := by
    have this : d ∈ ks ↔ (Sum.inr d : Key) ∈ kvs.map (·.1) := by
      rw [h, List.mem_map]
      constructor
      · intro z; exact ⟨d, z, rfl⟩
      · rintro ⟨a, z, e⟩; rw [← Sum.inr.inj e]; exact z
    by_cases z : d ∈ ks
    · rw [decide_eq_true z, List.any_eq_true]
      obtain ⟨kv, h1, h2⟩ := List.mem_map.mp (this.mp z)
      exact ⟨kv, h1, decide_eq_true h2⟩
    · rw [decide_eq_false z, List.any_eq_false]
      intro kv hkv e
      exact z (this.mpr (List.mem_map.mpr ⟨kv, hkv, of_decide_eq_true e⟩))
  rw [hany]
  by_cases z : d ∈ ks
  · rw [if_pos (decide_eq_true z), if_pos z, ← h, List.map_map]
    refine List.map_congr_left fun kv _ => ?_
    show (if kv.1 = (Sum.inr d : Key) then (kv.1, v) else kv).1 = kv.1
    split <;> rfl
  · rw [if_neg (by simpa using z), if_neg z, List.map_append, h, List.map_append]
    rfl
theorem pure_names_in {K : PySem.W.Frag} {C : CA} {vs : List V} {H : Hp} {Q : VK} {E : XK} (h : sp_names_in K C vs H Q E) : t_names_in K C { nx := fun _ H' => Q .non H', rt := Q } (startN 3 vs) H := by
  obtain ⟨b, B, kvs, rfl, hb, hrel, hnd, hl, kk⟩ := h
  refine q_asgD ed_new fun u H1 hu e1 h1 => ?_
  have hub : u ≠ b := fun z => by rw [z, hb] at hu; cases hu
  have hkl := hrel.len
  refine q_lockKeys (ta := tVar 0) (fun H1 => ev_var rfl) (e1 b _ hb) (fun od i σ' H' => ∃ o2 kvu ks, σ' = [some (.ref b), some (.ref u), o2] ∧ H' b = some (.frz od (.dK kvs)) ∧ ExB b H H' ∧ H' u = some (.dK kvu) ∧ kvu.map (·.1) = ks.map Sum.inr ∧ (∀ m, m ∈ ks ↔ m ∈ namesOf (B.take i)) ∧ ks.length ≤ i)
    (fun od H3 e3 => ⟨none, [], [], rfl, e3 b _ upd_same, ((ExB.of e1).trans (ExB.frz _)).trans (ExB.of e3), e3 u _ (by rw [upd_ne hub]; exact h1), rfl, (fun m => by simp [namesOf]), Nat.le_refl _⟩) (fun od i σ' H' ⟨_, _, _, _, h, _⟩ => h) ?_ ?_
  · rintro od i k v σ' H3 hkv ⟨o2, kvu, ks, rfl, hb3, E3, hu3, hks, hmem, hkn⟩
    have hilt := (List.getElem?_eq_some_iff.mp hkv).1
    have hrel3 := hrel.exB E3 hb
    obtain ⟨q, hq, hkq, t, hvt, ht⟩ := paired_get hrel3 hkv
    have hk' : k = Sum.inl q.1 := hkq
    subst hk'
    have hbk3 : BookAt H3 b B := ⟨⟨kvs, .inr ⟨od, hb3⟩, hrel3⟩, hnd, hl⟩
    have hat : Bk.at B q.1 = some q.2 := Bk.at_of hnd (List.mem_of_getElem? hq)
    obtain ⟨kv, t2, g1, g2, g3⟩ := hbk3.get hat
    have hnames : namesOf (B.take (i + 1)) = namesOf (B.take i) ++ (match q.2.nm with | some m => [m] | none => []) := by
      unfold namesOf
      rw [take_snoc hq, List.filterMap_append]
      congr 1
      rw [List.filterMap_cons]
      cases q.2.nm <;> rfl
    refine s_when (et_test (S.ev_neS (ev_part 0 (ev_book (ev_var rfl) (ev_var rfl) g1 g2) g3 q.2.vs0) ev_c)) (fun c H4 e4 => ?_) (fun c H4 e4 => ?_)
    · rw [Ent.word_undo] at c
      have hv : ∃ m : Str, q.2.vs[1]? = some (.str m) ∧ q.2.nm = some m := by
        obtain ⟨k0, e⟩ := q
        cases e with
        | undo j => cases c
        | tell nm lo hi w => exact ⟨nm, rfl, rfl⟩
        | clear nm lo hi => exact ⟨nm, rfl, rfl⟩
        | like nm lo hi o => exact ⟨nm, rfl, rfl⟩
      obtain ⟨m, v1, hm⟩ := hv
      rw [hm] at hnames
      have hkl0 : kvu.length = ks.length := by
        have := congrArg List.length hks
        rwa [List.length_map, List.length_map] at this
      refine s_put (k := (Sum.inr m : Key)) ev_c (ev_var rfl) (ev_part 1 (ev_book (ev_var rfl) (ev_var rfl) (ex_rd e4 g1) g2) (g3.mono e4) v1) (e4 u _ hu3) (by omega) fun H5 e5 => ?_
      refine ⟨_, _, strsAdd ks m, rfl, by rw [upd_ne hub.symm]; exact (e4.trans e5) b _ hb3, (E3.trans (ExB.of (e4.trans e5))).mut hu, upd_same, strkeys_put hks, fun x => ?_, ?_⟩
      · rw [hnames, mem_strsAdd, List.mem_append, hmem]
        show _ ↔ _ ∨ x ∈ [m]
        rw [List.mem_singleton]
      · unfold strsAdd
        split
        · omega
        · rw [List.length_append]; show ks.length + 1 ≤ _; omega
    · rw [Ent.word_undo] at c
      have hm : q.2.nm = none := by
        obtain ⟨k0, e⟩ := q
        cases e with
        | undo j => rfl
        | _ => cases c
      rw [hm] at hnames
      refine ⟨_, kvu, ks, rfl, e4 b _ hb3, E3.trans (ExB.of e4), e4 u _ hu3, hks, fun x => ?_, by omega⟩
      rw [hnames, hmem]
      show _ ↔ x ∈ _ ++ []
      rw [List.append_nil]
  · rintro od σ' H3 ⟨o2, kvu, ks, rfl, hb3, E3, hu3, hks, hmem, hkn⟩
    rw [hkl, List.take_length] at hmem
    have E4 : Ex H (upd H3 b (.dK kvs)) := E3.back hb
    have hu4 : (upd H3 b (.dK kvs)) u = some (.dK kvu) := by rw [upd_ne hub]; exact hu3
    generalize upd H3 b (.dK kvs) = H4 at E4 hu4 ⊢
    refine at_ev (te := tVar 1) (Q := fun x H5 => sortedA K [x] H5 Q) (ev_var rfl) fun H5 e5 => ?_
    refine .inr (.inr ⟨u, kvu, ks, rfl, .inl (e5 u _ hu4), hks, by omega, fun ys p hp hs hn => ?_⟩)
    exact kk p ys _ (fresh_back (E4.trans e5) hn) ((E4.trans e5).trans (Ex.new hn)) upd_same (fun m => (hp.mem_iff).trans (hmem m)) (by rw [hp.length_eq]; omega)
/-! ### all_said -/
def sp_all_said (K : PySem.W.Frag) (C : CA) : Sp := fun vs H Q _ => ∃ (b pn pd : Addr) (L : Bk) (ys : List Str) (ds : List Int), vs = [.ref b, .ref pn, .ref pd] ∧ BookAt H b L ∧ SqL K H pn (ys.map V.str) ∧ SqL K H pd (ds.map V.int) ∧ ys.length ≤ 100 ∧ ds.length ≤ 100 ∧
  ∀ p H', H p = none → Ex H H' → LL H' p ((ds.map fun d => ys.map fun nm => saidN L nm d).map optRow) → Q (.ref p) H'
theorem len_all_said {K : PySem.W.Frag} {C : CA} {vs : List V} {H : Hp} {Q : VK} {E : XK} (h : sp_all_said K C vs H Q E) : vs.length = 3 := by
  obtain ⟨b, pn, pd, L, ys, ds, rfl, _⟩ := h
  rfl
/-- book 0, names 1, days 2, numbers 3, day 4, name 5 -/
def t_all_said (K : PySem.W.Frag) (C : CA) : TS :=
 (tSeq (tAsg (tCB (sortedA K) (tCons (tVar 0) tNil)) (gName 3))
 (tRet (tLc (iList K (tVar 2)) (gName 4) tYes (tLc (iList K (tVar 1)) (gName 5) tYes (tCall (sp_said_of K C) [] E0 (tCons (tVar 0) (tCons (tVar 3) (tCons (tVar 5) (tCons (tVar 4) tNil))))) [5]) [4])))
theorem pure_all_said {K : PySem.W.Frag} {C : CA} {vs : List V} {H : Hp} {Q : VK} {E : XK} (h : sp_all_said K C vs H Q E) : t_all_said K C { nx := fun _ H' => Q .non H', rt := Q } (startN 6 vs) H := by
  obtain ⟨b, pn, pd, L, ys, ds, rfl, hB, hn, hd, hyl, hdl, kk⟩ := h
  refine q_asgL (el_ups (ev_var rfl) hB) fun pk H1 hpk e1 h1 => ?_
  have hmem : ∀ k ∈ ups (L.map (·.1)), k ∈ L.map (·.1) := fun k hk => (ups_perm _).mem_iff.mp hk
  have all := el_lcLL (K := K) (G := ValR V.int) (a := pd) (xs := ds.map V.int) (zs := ds) (tl := tVar 2) (j := 4) (vs := [4]) (H := H1) (σ := [some (.ref b), some (.ref pn), some (.ref pd), some (.ref pk), none, none]) (te := tLc (iList K (tVar 1)) (gName 5) tYes (tCall (sp_said_of K C) [] E0 (tCons (tVar 0) (tCons (tVar 3) (tCons (tVar 5) (tCons (tVar 4) tNil))))) [5])
    (fun d => optRow (ys.map fun nm => saidN L nm d)) ValR.mo.mo (ev_var rfl) (ex_l e1 hd) (paired_map V.int ds) (by omega) (fun x => rfl) (fun x z H2 e2 hz hx => by
      have hx' : x = .int z := hx
      subst hx'
      have := el_ofP optV (ep_lcL (K := K) (F := ValR optV) (G := ValR V.str) (a := pn) (xs := ys.map V.str) (zs := ys) (tl := tVar 1) (j := 5) (vs := [5]) (H := H2) (σ := [some (.ref b), some (.ref pn), some (.ref pd), some (.ref pk), some (.int z), none]) (t := tYes) (te := tCall (sp_said_of K C) [] E0 (tCons (tVar 0) (tCons (tVar 3) (tCons (tVar 5) (tCons (tVar 4) tNil)))))
        (fun _ => true) (fun nm => saidN L nm z) ValR.mo ValR.mo.mo (ev_var rfl) (ex_l (e1.trans e2) hn) (paired_map V.str ys) (by omega) (fun x => rfl) (fun x z H1 e1 _ _ => et_yes) (fun x nm H3 e3 hm hx _ => by
          have hx' : x = .str nm := hx
          subst hx'
          exact ex_ev (v := optV (saidN L nm z)) (ev_said (ev_var rfl) (ev_var rfl) (ev_var rfl) (ev_var rfl) (hB.mono ((e1.trans e2).trans e3)) (sq_of ((e2.trans e3) pk _ h1)) hmem) fun H4 _ => rfl))
      rw [List.filter_eq_self.mpr fun _ _ => rfl] at this
      exact this)
  refine all H1 (Ex.refl H1) _ fun p H2 hp e2 hll => ?_
  refine kk p H2 (fresh_back e1 hp) (e1.trans e2) ?_
  rw [List.map_map]
  exact hll
/-! ### is_needless -/
def sp_is_needless (K : PySem.W.Frag) (C : CA) : Sp := fun vs H Q _ => ∃ (b pn : Addr) (L : Bk) (kvs : List (Key × V)) (k : Int) (ys : List Str), vs = [.ref b, .int k, .ref pn] ∧ H b = some (.dK kvs) ∧ BkRel H kvs L ∧ (L.map (·.1)).Nodup ∧ L.length ≤ 31 ∧ GoodBk L ∧ NoUndo L ∧ k ∈ L.map (·.1) ∧
  SqL K H pn (ys.map V.str) ∧ ys.length ≤ 60 ∧ ∀ H', Ex H H' → Q (.bl (needB ys L k)) H'
theorem len_is_needless {K : PySem.W.Frag} {C : CA} {vs : List V} {H : Hp} {Q : VK} {E : XK} (h : sp_is_needless K C vs H Q E) : vs.length = 3 := by
  obtain ⟨b, pn, L, kvs, k, ys, rfl, _⟩ := h
  rfl
/-- book 0, number 1, names 2, days 3 -/
def t_is_needless (K : PySem.W.Frag) (C : CA) : TS :=
 (tSeq (tAsg (tCall (sp_begins_of K C) [] E0 (tCons (tVar 0) (tCons (tCB (sortedA K) (tCons (tVar 0) tNil)) (tCons (tOp (ixA K) (tOp (ixA K) (tVar 0) (tVar 1)) (tC (.int 2))) (tCons (tOp (ixA K) (tOp (ixA K) (tVar 0) (tVar 1)) (tC (.int 3))) tNil))))) (gName 3))
 (tRet (tOp (eqA K) (tCall (sp_all_said K C) [] E0 (tCons (tCall (sp_without K C) [] E0 (tCons (tVar 0) (tCons (tVar 1) tNil))) (tCons (tVar 2) (tCons (tVar 3) tNil)))) (tCall (sp_all_said K C) [] E0 (tCons (tVar 0) (tCons (tVar 2) (tCons (tVar 3) tNil)))))))
theorem pure_is_needless {K : PySem.W.Frag} {C : CA} {vs : List V} {H : Hp} {Q : VK} {E : XK} (h : sp_is_needless K C vs H Q E) : t_is_needless K C { nx := fun _ H' => Q .non H', rt := Q } (startN 4 vs) H := by
  obtain ⟨b, pn, L, kvs, k, ys, rfl, hb, hr, hn, hl, hg, hu, hk, hpn, hyl, kk⟩ := h
  obtain ⟨e, he⟩ := Bk.at_isSome hk
  have hem := Bk.at_mem he
  have heu := hu _ hem
  have hok := (hg _ hem).2
  obtain ⟨s, hs, v2, v3, hle⟩ : ∃ s : Int × Int, e.span = some s ∧ e.vs[2]? = some (.int s.1) ∧ e.vs[3]? = some (.int s.2) ∧ s.1 ≤ s.2 := by
    cases e with
    | undo j => cases heu
    | tell nm lo hi w => exact ⟨(lo, hi), rfl, rfl, rfl, hok.2.2.1⟩
    | clear nm lo hi => exact ⟨(lo, hi), rfl, rfl, rfl, hok.2.2.1⟩
    | like nm lo hi o => exact ⟨(lo, hi), rfl, rfl, rfl, hok.2.2.1⟩
  have hB : BookAt H b L := ⟨⟨kvs, .inl hb, hr⟩, hn, by omega⟩
  obtain ⟨kv, t, g1, g2, g3⟩ := hB.get he
  have hkl : (ups (L.map (·.1))).length ≤ 31 := by rw [(ups_perm _).length_eq, List.length_map]; exact hl
  have hbook : ∀ (σ : L2.St), σ[0]? = some (some (.ref b)) → σ[1]? = some (some (.int k)) → Ev (tOp (ixA K) (tVar 0) (tVar 1)) σ H (.ref t) := fun σ h0 h1 => ev_book (ev_var h0) (ev_var h1) g1 g2
  have beg : EvL (tCall (sp_begins_of K C) [] E0 (tCons (tVar 0) (tCons (tCB (sortedA K) (tCons (tVar 0) tNil)) (tCons (tOp (ixA K) (tOp (ixA K) (tVar 0) (tVar 1)) (tC (.int 2))) (tCons (tOp (ixA K) (tOp (ixA K) (tVar 0) (tVar 1)) (tC (.int 3))) tNil))))) (startN 4 [V.ref b, V.int k, V.ref pn]) H ((begF L (ups (L.map (·.1))) s.1 s.2).map V.int) := fun H1 e Q q => by
    unfold tCall
    have hc := ev_part (K := K) 2 (hbook (startN 4 [V.ref b, V.int k, V.ref pn]) rfl rfl) g3 v2
    have hd := ev_part (K := K) 3 (hbook (startN 4 [V.ref b, V.int k, V.ref pn]) rfl rfl) g3 v3
    refine ev_var (i := 0) rfl H1 e _ fun H2 e2 => ?_
    refine el_ups (K := K) (ta := tVar 0) (ev_var rfl) (hB.mono e) H2 e2 _ fun l H3 hl3 e3 h3 => ?_
    refine hc H3 ((e.trans e2).trans e3) _ fun H4 e4 => hd H4 (((e.trans e2).trans e3).trans e4) _ fun H5 e5 => ?_
    exact ⟨b, l, L, _, s.1, s.2, rfl, hB.mono ((((e.trans e2).trans e3).trans e4).trans e5), sq_of ((e4.trans e5) l _ h3), fun j hj => (ups_perm _).mem_iff.mp hj, hkl, hle, fun p H' hp e' h' => q p H' (fresh_back (((e2.trans e3).trans e4).trans e5) hp) ((((e2.trans e3).trans e4).trans e5).trans e') h'⟩
  refine q_asgL beg fun pd H1 hpd e1 h1 => ?_
  have hdl := (begF_facts L s.1 s.2 hle (ups (L.map (·.1)))).2.2.1
  have left : EvLL (tCall (sp_all_said K C) [] E0 (tCons (tCall (sp_without K C) [] E0 (tCons (tVar 0) (tCons (tVar 1) tNil))) (tCons (tVar 2) (tCons (tVar 3) tNil)))) ([some (.ref b), some (.int k), some (.ref pn), some (.ref pd)] : L2.St) H1 (((begF L (ups (L.map (·.1))) s.1 s.2).map fun d => ys.map fun nm => saidN (L.del k) nm d).map optRow) := fun H2 e2 Q q => by
    show tCall (sp_without K C) [] E0 (tCons (tVar 0) (tCons (tVar 1) tNil)) _ H2 (fun x H3 => (tCons (tVar 2) (tCons (tVar 3) tNil)) _ H3 fun vs H4 => sp_all_said K C ((x :: vs) ++ []) H4 Q E0)
    unfold tCall
    refine ea_cons (ev_var (i := 0) rfl) (ea_cons (ev_var (i := 1) rfl) ea_nil) H2 e2 _ fun H3 e3 => ⟨b, L, kvs, k, rfl, ((e1.trans e2).trans e3) b _ hb, hr.mono ((e1.trans e2).trans e3), hn, by omega, fun p H4 np => ?_⟩
    refine ea_cons (ev_var (i := 2) rfl) (ea_cons (ev_var (i := 3) rfl) ea_nil) H4 ((e2.trans e3).trans np.ex) _ fun H5 e5 => ?_
    have E5 : Ex H2 H5 := (e3.trans np.ex).trans e5
    exact ⟨p, pn, pd, L.del k, ys, _, rfl, np.at.mono e5, ex_l ((e1.trans e2).trans E5) hpn, sq_of ((e2.trans E5) pd _ h1), by omega, by omega, fun p' H' hp' e' hll => q p' H' (fresh_back E5 hp') (E5.trans e') hll⟩
  have right : EvLL (tCall (sp_all_said K C) [] E0 (tCons (tVar 0) (tCons (tVar 2) (tCons (tVar 3) tNil)))) ([some (.ref b), some (.int k), some (.ref pn), some (.ref pd)] : L2.St) H1 (((begF L (ups (L.map (·.1))) s.1 s.2).map fun d => ys.map fun nm => saidN L nm d).map optRow) := fun H2 e2 Q q => by
    unfold tCall
    refine ea_cons (ev_var (i := 0) rfl) (ea_cons (ev_var (i := 2) rfl) (ea_cons (ev_var (i := 3) rfl) ea_nil)) H2 e2 _ fun H3 e3 => ?_
    exact ⟨b, pn, pd, L, ys, _, rfl, hB.mono ((e1.trans e2).trans e3), ex_l ((e1.trans e2).trans e3) hpn, sq_of ((e2.trans e3) pd _ h1), by omega, by omega, fun p' H' hp' e' hll => q p' H' (fresh_back e3 hp') (e3.trans e') hll⟩
  refine s_ret (ev_eqLL left right) fun H2 e2 => ?_
  have hne : needB ys L k = decide (((begF L (ups (L.map (·.1))) s.1 s.2).map fun d => ys.map fun nm => saidN (L.del k) nm d) = ((begF L (ups (L.map (·.1))) s.1 s.2).map fun d => ys.map fun nm => saidN L nm d)) := by
    rw [grid_eq]
    unfold needB
    rw [he]
    show (match e.span with | some s => _ | none => _) = _
    rw [hs]
  rw [← hne]
  exact kk H2 (e1.trans e2)
end S
end
set_option Elab.async false
set_option linter.all false
set_option maxRecDepth 100000
set_option maxHeartbeats 4000000
section
open PySem L2 Evl S
local macro_rules | `(tactic| array_get_dec) => `(tactic| first
  | exact ev_c
  | exact ev_var rfl
  | exact S.eo_no
  | exact ea_nil
  | (apply S.eo_some <;> array_get_dec)
  | (apply ea_cons <;> array_get_dec)
  | (apply S.ev_add <;> array_get_dec)
  | (apply S.ev_sub <;> array_get_dec)
  | (apply S.ev_div <;> first | array_get_dec | exact ⟨by decide, by decide⟩ | exact ⟨by omega, by omega⟩)
  | (apply S.ev_mod <;> first | array_get_dec | decide | omega)
  | (apply S.ev_mulr <;> first | array_get_dec | exact ⟨by decide, by decide⟩ | exact ⟨by omega, by omega⟩)
  | (apply S.ev_mull <;> first | array_get_dec | exact ⟨by decide, by decide⟩ | exact ⟨by omega, by omega⟩)
  | (apply S.ev_neg <;> array_get_dec)
  | (apply S.ev_min <;> array_get_dec)
  | (apply S.ev_max <;> array_get_dec)
  | (apply S.ev_eqI <;> array_get_dec)
  | (apply S.ev_eqS <;> array_get_dec)
  | (apply S.ev_neI <;> array_get_dec)
  | (apply S.ev_neS <;> array_get_dec)
  | (apply S.ev_lt <;> array_get_dec)
  | (apply S.ev_le <;> array_get_dec)
  | (apply S.ev_gt <;> array_get_dec)
  | (apply S.ev_ge <;> array_get_dec)
  | (apply S.ev_intB <;> array_get_dec)
  | (apply et_test <;> array_get_dec)
  | (apply et_B <;> array_get_dec)
  | (apply et_not <;> array_get_dec)
  | (refine' et_and ?_ (fun _ => ?_) <;> array_get_dec)
  | (refine' et_or ?_ (fun _ => ?_) <;> array_get_dec))
namespace S
/-! ### shortened -/
theorem needB_congr {xs ys : List Str} (h : ∀ m, m ∈ xs ↔ m ∈ ys) (L : Bk) (k : Int) : needB xs L k = needB ys L k := by
  unfold needB
  cases (Bk.at L k).bind Ent.span with
  | none => rfl
  | some s =>
    dsimp only
    congr 1
    funext d
    have : ∀ P : Str → Bool, xs.all P = ys.all P := fun P => by
      cases e : ys.all P with
      | true =>
        rw [List.all_eq_true] at e ⊢
        exact fun x hx => e x ((h x).mp hx)
      | false =>
        rw [List.all_eq_false] at e ⊢
        obtain ⟨x, hx, hp⟩ := e
        exact ⟨x, (h x).mpr hx, hp⟩
    exact this _
def sp_shortened (K : PySem.W.Frag) (C : CA) : Sp := fun vs H Q _ => ∃ (b : Addr) (B : Bk) (kvs : List (Key × V)), vs = [.ref b] ∧ H b = some (.dK kvs) ∧ BkRel H kvs B ∧ (B.map (·.1)).Nodup ∧ B.length ≤ 30 ∧ GoodBk B ∧
  ∀ p H', NewBk H H' p (shortF B) → Q (.ref p) H'
theorem len_shortened {K : PySem.W.Frag} {C : CA} {vs : List V} {H : Hp} {Q : VK} {E : XK} (h : sp_shortened K C vs H Q E) : vs.length = 1 := by
  obtain ⟨b, B, kvs, rfl, _⟩ := h
  rfl
/-- book 0, numbers 1, left 2, names 3, many 4, number 5 -/
def t_shortened (K : PySem.W.Frag) (C : CA) : TS :=
 (tSeq (tAsg (tCall (sp_counting K C) [] E0 (tCons (tVar 0) (tCons (tCKw rMaxD (tCons (tVar 0) tNil) (tCons (tC (.int 0)) tNil)) tNil))) (gName 1))
 (tSeq (tAsg (tCall (sp_left_of K C) [] E0 (tCons (tVar 0) (tCons (tLc (iList K (tVar 1)) (gName 5) (tTest (tOp (neA K) (tOp (ixA K) (tOp (ixA K) (tVar 0) (tVar 5)) (tC (.int 0))) (tC (.str "undo")))) (tVar 5) [5]) tNil))) (gName 2))
 (tSeq (tAsg (tCall (sp_names_in K C) [] E0 (tCons (tVar 2) tNil)) (gName 3))
 (tSeq (tAsg (tOp (addA K) (tCB (lenA K) (tCons (tVar 2) tNil)) (tC (.int 1))) (gName 4))
 (tSeq (tWhile (tTest (tOp (ltI) (tCB (lenA K) (tCons (tVar 2) tNil)) (tVar 4))) (tSeq (tAsg (tCB (lenA K) (tCons (tVar 2) tNil)) (gName 4))
 (tFor (iList K (tCB (sortedA K) (tCons (tVar 2) tNil))) (gName 5)
  (tIfS (tB (tCall (sp_is_needless K C) [] E0 (tCons (tVar 2) (tCons (tVar 5) (tCons (tVar 3) tNil))))) (tAsg (tCall (sp_without K C) [] E0 (tCons (tVar 2) (tCons (tVar 5) tNil))) (gName 2)) tNext))))
 (tRet (tVar 2)))))))
section
variable {K : PySem.W.Frag} {C : CA} {σ : L2.St} {H H' : Hp} {t : TT} {ta tb tc td te tf : TE} {D : Ends} {tu tz : TS} {b : Addr} {B L : Bk} {n : Int}
theorem s_asgRaw {i : Nat} (h : te σ H fun v H1 => D.nx (σ.set i (some v)) H1) : tAsg te (gName i) D σ H := h
theorem q_asgRw {i : Nat} (h : te σ H fun v H1 => tz D (σ.set i (some v)) H1) : tSeq (tAsg te (gName i)) tz D σ H := h
theorem at_without {kvs : List (Key × V)} {k : Int} {Q : VK} (ha : Ev ta σ H (.ref b)) (hb : Ev tb σ H (.int k)) (hk : H b = some (.dK kvs)) (hr : BkRel H kvs B) (hn : (B.map (·.1)).Nodup) (hl : B.length ≤ 60) (q : ∀ p H1, NewBk H H1 p (B.del k) → Q (.ref p) H1) : tCall (sp_without K C) [] E0 (tCons ta (tCons tb tNil)) σ H Q := by
  unfold tCall
  exact ea_cons ha (ea_cons hb ea_nil) H (Ex.refl H) _ fun H1 e1 => ⟨b, B, kvs, k, rfl, e1 b _ hk, hr.mono e1, hn, hl, fun p H' np => q p H' (np.back e1)⟩
theorem at_names {kvs : List (Key × V)} {Q : VK} (ha : Ev ta σ H (.ref b)) (hk : H b = some (.dK kvs)) (hr : BkRel H kvs B) (hn : (B.map (·.1)).Nodup) (hl : B.length ≤ 60) (q : ∀ (p : Addr) (ys : List Str) (H1 : Hp), H p = none → Ex H H1 → H1 p = some (.lst (ys.map V.str)) → (∀ m, m ∈ ys ↔ m ∈ namesOf B) → ys.length ≤ 60 → Q (.ref p) H1) : tCall (sp_names_in K C) [] E0 (tCons ta tNil) σ H Q := by
  unfold tCall
  exact ea_cons ha ea_nil H (Ex.refl H) _ fun H1 e1 => ⟨b, B, kvs, rfl, e1 b _ hk, hr.mono e1, hn, hl, fun p ys H' hp e' h' h1 h2 => q p ys H' (fresh_back e1 hp) (e1.trans e') h' h1 h2⟩
end
theorem pure_shortened {K : PySem.W.Frag} {C : CA} {vs : List V} {H : Hp} {Q : VK} {E : XK} (h : sp_shortened K C vs H Q E) : t_shortened K C { nx := fun _ H' => Q .non H', rt := Q } (startN 6 vs) H := by
  obtain ⟨b, B, kvs, rfl, hb, hr, hn, hl, hg, kk⟩ := h
  have hB : BookAt H b B := ⟨⟨kvs, .inl hb, hr⟩, hn, by omega⟩
  refine q_asgL (el_counting (ev_var rfl) (ev_maxD (ev_var rfl) hB hg) hB) fun pn H1 hpn e1 h1 => ?_
  have hB1 := hB.mono e1
  have hcl : (countF B (maxK B)).length ≤ 30 := Nat.le_trans (countF_len B (maxK B)) hl
  -- the numbers that count, without undos
  have nums := el_ofP V.int (ep_lcL (K := K) (F := ValR V.int) (G := ValR V.int) (a := pn) (xs := (countF B (maxK B)).map V.int) (zs := countF B (maxK B)) (tl := tVar 1) (j := 5) (vs := [5]) (H := H1) (σ := [some (.ref b), some (.ref pn), none, none, none, none])
    (t := tTest (tOp (neA K) (tOp (ixA K) (tOp (ixA K) (tVar 0) (tVar 5)) (tC (.int 0))) (tC (.str "undo")))) (te := tVar 5)
    (plainK B) (fun k => k) ValR.mo ValR.mo.mo (ev_var rfl) (sq_of h1) (paired_map V.int _) (by omega) (fun x => rfl) (fun x z H2 e2 hz hx => by
      have hx' : x = .int z := hx
      subst hx'
      obtain ⟨e, he⟩ := Bk.at_isSome (countF_mem hz).1
      obtain ⟨kv, t, g1, g2, g3⟩ := (hB1.mono e2).get he
      rw [plainK_of he, ← Ent.word_undo]
      exact et_test (S.ev_neS (ev_part 0 (ev_book (ev_var rfl) (ev_var rfl) g1 g2) g3 e.vs0) ev_c)) fun x z H2 e2 hz hx _ => ex_ev (ev_var rfl) fun H3 _ => hx)
  rw [List.map_id'] at nums
  have hkeys := left0_keys B (maxK B)
  rw [← hkeys] at nums
  have hnd0 := left0_nd (n := maxK B) hn
  have hl0 : (left0 B (maxK B)).length ≤ 30 := Nat.le_trans (left0_len B (maxK B)) hl
  refine q_asgRw (at_leftN (ev_var rfl) nums hB1 (fun k hk => ?_) hnd0 (by rw [List.length_map]; omega) fun lb H2 nl => ?_)
  · obtain ⟨q, hq, rfl⟩ := List.mem_map.mp hk
    exact List.mem_map_of_mem (left0_mem hn hq).1
  have hpick : B.pick ((left0 B (maxK B)).map (·.1)) = left0 B (maxK B) := by rw [hkeys]; rfl
  rw [hpick] at nl
  have hg0 := left0_good (n := maxK B) hn hg
  have hu0 : NoUndo (left0 B (maxK B)) := fun q hq => (left0_mem hn hq).2.1
  have hF : shortF B = shortLoop (namesOf (left0 B (maxK B))) ((left0 B (maxK B)).length + 1) (left0 B (maxK B)) := rfl
  generalize left0 B (maxK B) = L0 at nl hg0 hu0 hF hnd0 hl0
  clear hkeys nums
  have nl' : NewBk H H2 lb L0 := nl.back e1
  obtain ⟨kv0, hk0, hr0⟩ := nl'.dk
  refine q_asgRw (at_names (ev_var rfl) hk0 hr0 hnd0 (by omega) fun pm ys H3 hpm e3 h3 hys hyl => ?_)
  have nl3 := nl'.step e3
  have hlen : ∀ {H : Hp} {σ : L2.St} {p : Addr} {kv : List (Key × V)} {L : Bk}, H p = some (.dK kv) → BkRel H kv L → σ[2]? = some (some (.ref p)) → Ev (tCB (lenA K) (tCons (tVar 2) tNil)) σ H (.int (L.length : Int)) := fun h1 h2 h3 => by
    rw [← h2.len]
    exact ev_lenD (ev_var h3) (.inl h1)
  obtain ⟨kv3, hk3, hr3⟩ := nl3.dk
  refine q_asg (ev_add (hlen hk3 hr3 rfl) ev_c) fun H4 e4 => ?_
  have nl4 := nl3.step e4
  have E34 : Ex H3 H4 := e4
  show tSeq _ _ _ ([some (.ref b), some (.ref pn), some (.ref lb), some (.ref pm), some (.int ((L0.length : Int) + 1)), none] : L2.St) H4
  have nm0 : ∀ q ∈ L0, ∀ m, q.2.nm = some m → m ∈ namesOf L0 := fun q hq m hm => List.mem_filterMap.mpr ⟨q, hq, hm⟩
  refine q_while (fun m σ' H' => ∃ lb L many o5, σ' = [some (.ref b), some (.ref pn), some (.ref lb), some (.ref pm), some (.int many), o5] ∧ many = (m : Int) ∧ NewBk H H' lb L ∧ Ex H3 H' ∧ L.Sublist L0 ∧ (L.length : Int) ≤ many ∧ ((L.length : Int) < many → shortLoop (namesOf L0) (L.length + 1) L = shortF B) ∧ (¬ (L.length : Int) < many → L = shortF B)) (L0.length + 1)
    ⟨lb, L0, _, none, rfl, by omega, nl4, E34, List.Sublist.refl _, by omega, fun _ => hF.symm, fun z => absurd (by omega) z⟩ ?_
  rintro m σ' H5 ⟨lb1, L1, many, o5, rfl, hm, n1, E5, hs1, hle, hgo, hend⟩
  obtain ⟨kv1, hk1, hr1⟩ := n1.dk
  refine ⟨decide ((L1.length : Int) < many), et_test (ev_lt (hlen hk1 hr1 rfl) (ev_var rfl)), fun c H6 e6 => ?_, fun c H6 e6 => ?_⟩
  · have c' := of_decide_eq_true c
    have hgo' := hgo c'
    refine ⟨fun σ' H' => ∃ lb L o5, σ' = [some (.ref b), some (.ref pn), some (.ref lb), some (.ref pm), some (.int (L1.length : Int)), o5] ∧ NewBk H H' lb L ∧ Ex H3 H' ∧ L = passL (namesOf L0) L1, fun σ2 H7 ⟨lb2, L2, o5', hσ, n2, E7, hL2⟩ => ?_, ?_⟩
    · obtain ⟨p1, p2, p3, p4⟩ := pass_gen (names := namesOf L0) (ups (L1.map (·.1))) n1.nd (sub_good hs1 hg0) fun q hq => nm0 q (hs1.subset hq)
      have p1' : L2.Sublist L1 := by rw [hL2]; exact p1
      refine ⟨L1.length, by omega, lb2, L2, _, o5', hσ, rfl, n2, E7, p1'.trans hs1, by have := p1'.length_le; omega, fun z => ?_, fun z => ?_⟩
      · have z' : L2.length < L1.length := by omega
        rw [← hgo']
        have e : shortLoop (namesOf L0) (L1.length + 1) L1 = shortLoop (namesOf L0) L1.length L2 := by
          rw [hL2] at z' ⊢
          exact if_pos z'
        rw [e]
        exact shortLoop_fuel _ _ _ (by omega) z'
      · have z' : ¬ L2.length < L1.length := by omega
        rw [← hgo', hL2]
        rw [hL2] at z'
        exact (if_neg z').symm
    · have n6 := n1.step e6
      obtain ⟨kv6, hk6, hr6⟩ := n6.dk
      refine q_asg (hlen hk6 hr6 rfl) fun H7 e7 => ?_
      have n7 := n6.step e7
      show tFor _ _ _ _ ([some (.ref b), some (.ref pn), some (.ref lb1), some (.ref pm), some (.int (L1.length : Int)), o5] : L2.St) H7
      refine s_forNL (K := K) (el_ups (ev_var rfl) n7.at) (fun q i σ' H' => ∃ lb' L' o5, σ' = [some (.ref b), some (.ref pn), some (.ref lb'), some (.ref pm), some (.int (L1.length : Int)), o5] ∧ NewBk H H' lb' L' ∧ Ex H3 H' ∧ H' q = some (.lst ((ups (L1.map (·.1))).map V.int)) ∧ L' = ((ups (L1.map (·.1))).take i).foldl (passStep (namesOf L0)) L1)
        (fun q H8 hq e8 h8 => ⟨lb1, L1, o5, rfl, n7.step e8, ((E5.trans e6).trans e7).trans e8, h8, rfl⟩) (fun q i σ' H' _ ⟨_, _, _, _, _, _, h, _⟩ => sq_of h) ?_ (fun q σ' H' ⟨lb', L', o5, h1, h2, h3, _, h5⟩ => ⟨lb', L', o5, h1, h2, h3, by rw [h5, List.length_map, List.take_length]; rfl⟩)
      rintro q i x σ' H8 hx ⟨lb', L', o5', rfl, n8, E8, hq8, hL'⟩
      obtain ⟨k, hk, rfl⟩ := map_get hx
      obtain ⟨p1, p2, p3, p4⟩ := pass_gen (names := namesOf L0) ((ups (L1.map (·.1))).take i) n1.nd (sub_good hs1 hg0) fun q hq => nm0 q (hs1.subset hq)
      rw [← hL'] at p1 p4
      have hkL : k ∈ L'.map (·.1) := by
        refine p4 k ((ups_perm _).mem_iff.mp (List.mem_of_getElem? hk)) fun z => ?_
        obtain ⟨j, hj, ej⟩ := List.getElem_of_mem z
        rw [List.length_take] at hj
        rw [List.getElem_take] at ej
        obtain ⟨hi', ek⟩ := List.getElem?_eq_some_iff.mp hk
        have := List.pairwise_iff_getElem.mp (ups_strict n1.nd) j i (by omega) hi' (by omega)
        omega
      have hsub' : L'.Sublist L0 := p1.trans hs1
      have hl' : L'.length ≤ 30 := Nat.le_trans hsub'.length_le hl0
      obtain ⟨kv8, hk8, hr8⟩ := n8.dk
      rw [take_snoc hk, List.foldl_append, ← hL']
      show tIfS _ _ _ _ ([some (.ref b), some (.ref pn), some (.ref lb'), some (.ref pm), some (.int (L1.length : Int)), some (.int k)] : L2.St) H8
      have hpm8 : SqL K H8 pm (ys.map V.str) := sq_of (E8 pm _ h3)
      refine s_when (et_B (ev_call (ea_cons (ev_var rfl) (ea_cons (ev_var rfl) (ea_cons (ev_var rfl) ea_nil))) fun H9 e9 Q q' E => ⟨lb', pm, L', kv8, k, ys, rfl, e9 lb' _ hk8, hr8.mono e9, n8.nd, by omega, sub_good hsub' hg0, fun q hq => hu0 q (hsub'.subset hq), hkL, ex_l e9 hpm8, hyl, q'⟩)) (fun c H9 e9 => ?_) (fun c H9 e9 => ?_)
      · rw [needB_congr hys] at c
        have n9 := n8.step e9
        obtain ⟨kv9, hk9, hr9⟩ := n9.dk
        refine s_asgRaw (at_without (ev_var rfl) (ev_var rfl) hk9 hr9 n9.nd (by omega) fun p H10 np => ?_)
        refine ⟨p, L'.del k, _, rfl, np.back n9.ex, (E8.trans e9).trans np.ex, (e9.trans np.ex) q _ hq8, ?_⟩
        show _ = passStep (namesOf L0) L' k
        unfold passStep
        rw [if_pos c]
      · rw [needB_congr hys] at c
        refine ⟨lb', L', _, rfl, n8.step e9, E8.trans e9, e9 q _ hq8, ?_⟩
        show _ = passStep (namesOf L0) L' k
        unfold passStep
        rw [if_neg (by rw [c]; decide)]
  · have c' : ¬ (L1.length : Int) < many := fun z => by rw [decide_eq_true z] at c; cases c
    have hfin := hend c'
    refine s_ret (ev_var rfl) fun H7 e7 => ?_
    rw [hfin] at n1
    exact kk lb1 H7 ((n1.step e6).step e7)
end S
end
set_option Elab.async false
set_option linter.all false
set_option maxRecDepth 100000
set_option maxHeartbeats 4000000
section
open PySem L2 Evl S
local macro_rules | `(tactic| array_get_dec) => `(tactic| first
  | exact ev_c
  | exact ev_var rfl
  | exact S.eo_no
  | exact ea_nil
  | (apply S.eo_some <;> array_get_dec)
  | (apply ea_cons <;> array_get_dec)
  | (apply S.ev_add <;> array_get_dec)
  | (apply S.ev_sub <;> array_get_dec)
  | (apply S.ev_div <;> first | array_get_dec | exact ⟨by decide, by decide⟩ | exact ⟨by omega, by omega⟩)
  | (apply S.ev_mod <;> first | array_get_dec | decide | omega)
  | (apply S.ev_mulr <;> first | array_get_dec | exact ⟨by decide, by decide⟩ | exact ⟨by omega, by omega⟩)
  | (apply S.ev_mull <;> first | array_get_dec | exact ⟨by decide, by decide⟩ | exact ⟨by omega, by omega⟩)
  | (apply S.ev_neg <;> array_get_dec)
  | (apply S.ev_min <;> array_get_dec)
  | (apply S.ev_max <;> array_get_dec)
  | (apply S.ev_eqI <;> array_get_dec)
  | (apply S.ev_eqS <;> array_get_dec)
  | (apply S.ev_neI <;> array_get_dec)
  | (apply S.ev_neS <;> array_get_dec)
  | (apply S.ev_lt <;> array_get_dec)
  | (apply S.ev_le <;> array_get_dec)
  | (apply S.ev_gt <;> array_get_dec)
  | (apply S.ev_ge <;> array_get_dec)
  | (apply S.ev_intB <;> array_get_dec)
  | (apply et_test <;> array_get_dec)
  | (apply et_B <;> array_get_dec)
  | (apply et_not <;> array_get_dec)
  | (refine' et_and ?_ (fun _ => ?_) <;> array_get_dec)
  | (refine' et_or ?_ (fun _ => ?_) <;> array_get_dec))
namespace S
/-! ### _law_left -/
def sp_l_left (K : PySem.W.Frag) (C : CA) : Sp := fun vs H Q _ => ∃ (b l : Addr) (B : Bk) (ns : List Int), vs = [.ref b, .ref l] ∧ BookAt H b B ∧ SqL K H l (ns.map V.int) ∧ (∀ k ∈ ns, k ∈ B.map (·.1)) ∧ ns.Nodup ∧ ns.length ≤ 60 ∧
  ∀ p H', NewBk H H' p (B.pick ns) → Q (.ref p) H'
theorem len_l_left {K : PySem.W.Frag} {C : CA} {vs : List V} {H : Hp} {Q : VK} {E : XK} (h : sp_l_left K C vs H Q E) : vs.length = 2 := by
  obtain ⟨b, l, B, ns, rfl, _⟩ := h
  rfl
/-- _law_book_here 0, _law_numbers 1, _law_number 2 -/
def t_l_left (K : PySem.W.Frag) (C : CA) : TS :=
 (tRet (tCB (dictC K) (tCons (tLc (iList K (tVar 1)) (gName 2) tYes (tTup (tCons (tVar 2) (tCons (tOp (ixA K) (tVar 0) (tVar 2)) tNil))) [2]) tNil)))
theorem pure_l_left {K : PySem.W.Frag} {C : CA} {vs : List V} {H : Hp} {Q : VK} {E : XK} (h : sp_l_left K C vs H Q E) : t_l_left K C { nx := fun _ H' => Q .non H', rt := Q } (startN 3 vs) H := by
  have h' : sp_left_of K C vs H Q E := h
  exact pure_left_of h'
/-! ### _law_all -/
def gridF (B : Bk) (n : Int) (ys : List Str) (ds : List Int) : List (List (Option Int)) := ds.map fun d => ys.map fun nm => worthF B n nm d
def sp_l_all (K : PySem.W.Frag) (C : CA) : Sp := fun vs H Q _ => ∃ (b pn pd : Addr) (B : Bk) (n : Int) (ys : List Str) (ds : List Int), vs = [.ref b, .ref pn, .int n, .ref pd] ∧ BookAt H b B ∧ SqL K H pn (ys.map V.str) ∧ SqL K H pd (ds.map V.int) ∧ ys.length ≤ 100 ∧ ds.length ≤ 100 ∧
  ∀ p H', H p = none → Ex H H' → LL H' p ((gridF B n ys ds).map optRow) → Q (.ref p) H'
theorem len_l_all {K : PySem.W.Frag} {C : CA} {vs : List V} {H : Hp} {Q : VK} {E : XK} (h : sp_l_all K C vs H Q E) : vs.length = 4 := by
  obtain ⟨b, pn, pd, B, n, ys, ds, rfl, _⟩ := h
  rfl
/-- _law_book_here 0, _law_names_here 1, _law_n 2, _law_days 3, _law_found 4, _law_day 5, _law_table 6, _law_name 7 -/
def t_l_all (K : PySem.W.Frag) (C : CA) : TS :=
 (tSeq (tAsg (tLst tNil) (gName 4))
 (tSeq (tFor (iList K (tVar 3)) (gName 5)
  (tSeq (tAsg (tCall (sp_l_said K C) [] E0 (tCons (tVar 0) (tCons (tVar 2) (tCons (tVar 5) tNil)))) (gName 6))
 (tDrop (tBM K "list" rAppend (tVar 4) (tCons (tLc (iList K (tVar 1)) (gName 7) tYes (tDGet2 (tVar 6) (tVar 7) (tC .non)) [7]) tNil)))))
 (tRet (tVar 4))))
section
variable {K : PySem.W.Frag} {C : CA} {σ : L2.St} {H H' : Hp} {t : TT} {ta tb tc td te tf : TE} {D : Ends} {tu tz : TS} {b : Addr} {B L : Bk} {n : Int}
theorem at_lsaid {day : Int} {Q : VK} (ha : Ev ta σ H (.ref b)) (hb : Ev tb σ H (.int n)) (hc : Ev tc σ H (.int day)) (h : BookAt H b B) (q : ∀ p kvs H1, H p = none → Ex H H1 → H1 p = some (.dK kvs) → SaysF B n day kvs → Q (.ref p) H1) : tCall (sp_l_said K C) [] E0 (tCons ta (tCons tb (tCons tc tNil))) σ H Q := by
  unfold tCall
  exact ea_cons ha (ea_cons hb (ea_cons hc ea_nil)) H (Ex.refl H) _ fun H1 e1 => ⟨b, B, n, day, rfl, h.mono e1, fun p kvs H' hp e' h' hs => q p kvs H' (fresh_back e1 hp) (e1.trans e') h' hs⟩
theorem ell_all {ys : List Str} {ds : List Int} {pn pd : Addr} (ha : Ev ta σ H (.ref b)) (hb : Ev tb σ H (.ref pn)) (hc : Ev tc σ H (.int n)) (hd : Ev td σ H (.ref pd)) (h : BookAt H b B) (hn : SqL K H pn (ys.map V.str)) (hds : SqL K H pd (ds.map V.int)) (h1 : ys.length ≤ 100) (h2 : ds.length ≤ 100) :
    EvLL (tCall (sp_l_all K C) [] E0 (tCons ta (tCons tb (tCons tc (tCons td tNil))))) σ H ((gridF B n ys ds).map optRow) := fun H1 e Q q => by
  unfold tCall
  exact ea_cons ha (ea_cons hb (ea_cons hc (ea_cons hd ea_nil))) H1 e _ fun H2 e2 => ⟨b, pn, pd, B, n, ys, ds, rfl, h.mono (e.trans e2), ex_l (e.trans e2) hn, ex_l (e.trans e2) hds, h1, h2, fun p H' hp e' hll => q p H' (fresh_back e2 hp) (e2.trans e') hll⟩
end
theorem pure_l_all {K : PySem.W.Frag} {C : CA} {vs : List V} {H : Hp} {Q : VK} {E : XK} (h : sp_l_all K C vs H Q E) : t_l_all K C { nx := fun _ H' => Q .non H', rt := Q } (startN 8 vs) H := by
  obtain ⟨b, pn, pd, B, n, ys, ds, rfl, hB, hn, hd, hyl, hdl, kk⟩ := h
  refine q_asgL (el_lst ea_nil (by decide)) fun f H1 hf e1 h1 => ?_
  refine q_forLn (ev_var rfl) (ex_l e1 hd) (fun i σ' H' => ∃ o5 o6 ps, σ' = [some (.ref b), some (.ref pn), some (.int n), some (.ref pd), some (.ref f), o5, o6, none] ∧ Ex H H' ∧ H' f = some (.lst (ps.map V.ref)) ∧ f ∉ ps ∧ Paired (fun q z => H' q = some (.lst (optRow (ys.map fun nm => worthF B n nm z)))) ps (ds.take i))
    (fun H2 e2 => ⟨none, none, [], rfl, e1.trans e2, e2 f _ h1, (fun z => by cases z), .nil⟩) (fun i σ' H' _ ⟨_, _, _, _, e, _⟩ => ex_l e hd) ?_ ?_
  · rintro i x σ' H2 hx ⟨o5, o6, ps, rfl, E2, hf2, hnf, hps⟩
    obtain ⟨d, hd', rfl⟩ := map_get hx
    refine q_asgRw (at_lsaid (ev_var rfl) (ev_var rfl) (ev_var rfl) (hB.mono E2) fun pt kvs H3 hpt e3 h3 hs => ?_)
    have row := el_ofP optV (ep_lcL (K := K) (F := ValR optV) (G := ValR V.str) (a := pn) (xs := ys.map V.str) (zs := ys) (tl := tVar 1) (j := 7) (vs := [7]) (H := H3) (σ := [some (.ref b), some (.ref pn), some (.int n), some (.ref pd), some (.ref f), some (.int d), some (.ref pt), none]) (t := tYes) (te := tDGet2 (tVar 6) (tVar 7) (tC .non))
      (fun _ => true) (fun nm => worthF B n nm d) ValR.mo ValR.mo.mo (ev_var rfl) (ex_l (E2.trans e3) hn) (paired_map V.str ys) (by omega) (fun x => rfl) (fun x z H1 e1 _ _ => et_yes) (fun x nm H4 e4 hm hx _ => by
        have hx' : x = .str nm := hx
        subst hx'
        have := ev_get2 (H := H4) (ta := tVar 6) (tb := tVar 7) (tc := tC .non) (k := (Sum.inr nm : Key)) (σ := [some (.ref b), some (.ref pn), some (.int n), some (.ref pd), some (.ref f), some (.int d), some (.ref pt), some (.str nm)]) (ev_var rfl) (ev_var rfl) ev_c (.inl (e4 pt _ h3))
        rw [hs nm] at this
        exact ex_ev this fun H5 _ => rfl))
    rw [List.filter_eq_self.mpr fun _ _ => rfl] at row
    have hpl := Paired.length hps
    have hil := (List.getElem?_eq_some_iff.mp hd').1
    refine s_appL (e3 f _ hf2) (ev_var rfl) row (by rw [List.length_map, hpl, List.length_take]; omega) fun r H4 hr e4 h4 => ?_
    have hrf : r ≠ f := fun z => by rw [z, e3 f _ hf2] at hr; cases hr
    refine ⟨_, _, ps ++ [r], rfl, Ex.mut ((E2.trans e3).trans e4) hf, by rw [upd_same, List.map_append]; rfl, fun z => ?_, ?_⟩
    · rcases List.mem_append.mp z with z | z
      · exact hnf z
      · exact hrf (List.mem_singleton.mp z).symm
    · rw [take_snoc hd']
      exact Paired.app (paired_upd (f := fun z => HO.lst (optRow (ys.map fun nm => worthF B n nm z))) (e3.trans e4) hnf hps) (.cons (by show upd H4 f _ r = _; rw [upd_ne hrf]; exact h4) .nil)
  · rintro σ' H2 ⟨o5, o6, ps, rfl, E2, hf2, hnf, hps⟩
    rw [List.length_map, List.take_length] at hps
    refine s_ret (ev_var rfl) fun H3 e3 => ?_
    refine kk f H3 hf (E2.trans e3) ⟨ps, e3 f _ hf2, ?_⟩
    unfold gridF
    rw [List.map_map]
    exact pairedMap (F := fun q r => H3 q = some (HO.lst r)) (Paired.imp (fun _ _ h => e3 _ _ h) hps)
section
variable {K : PySem.W.Frag} {C : CA} {σ : L2.St} {H H' : Hp} {t : TT} {ta tb tc td te tf : TE} {D : Ends} {tu tz : TS} {b : Addr} {B L : Bk} {n : Int}
/-- for v in d.values(), d locked -/
theorem q_lockVals {d : Addr} {kvs : List (Key × V)} {j : Nat} (ha : ∀ H1, Ev ta σ H1 (.ref d)) (hd : H d = some (.dK kvs)) (Pv : Obj → Nat → L2.St → Hp → Prop) (h0 : ∀ od H1, Ex (upd H d (.frz od (.dK kvs))) H1 → Pv od 0 σ H1) (hG : ∀ od i σ' H', Pv od i σ' H' → H' d = some (.frz od (.dK kvs)))
    (hs : ∀ od i k v σ' H', kvs[i]? = some (k, v) → Pv od i σ' H' → tu { nx := Pv od (i + 1), ct := Pv od (i + 1), bk := fun σ' H' => H' d = some (.frz od (.dK kvs)) ∧ tz D σ' (upd H' d (.dK kvs)), rt := fun v H' => H' d = some (.frz od (.dK kvs)) ∧ D.rt v (upd H' d (.dK kvs)) } (σ'.set j (some v)) H')
    (hz : ∀ od σ' H', Pv od kvs.length σ' H' → tz D σ' (upd H' d (.dK kvs))) : tSeq (tLock (tFor (iVals ta) (gName j) tu)) tz D σ H :=
  ⟨d, .dK kvs, hd, trivial, fun od => ha _ _ (Ex.refl _) _ fun H1 e1 => ⟨d, od, kvs, rfl, e1 d _ upd_same,
    for_it (tb := tu) (g := gName j) (D := ⟨fun σ' H' => H' d = some (.frz od (.dK kvs)) ∧ tz D σ' (upd H' d (.dK kvs)), fun v H' => H' d = some (.frz od (.dK kvs)) ∧ D.rt v (upd H' d (.dK kvs)), fun σ' H' => H' d = some (.frz od (.dK kvs)) ∧ D.bk σ' (upd H' d (.dK kvs)), fun σ' H' => H' d = some (.frz od (.dK kvs)) ∧ D.ct σ' (upd H' d (.dK kvs))⟩)
      walk_values (Pv od) (h0 od H1 e1) (fun i σ' H' _ p => hG od i σ' H' p) (fun i x σ' H2 H3 hi p y => by
        obtain ⟨rfl, k, hkv⟩ := y
        exact hs od i k x σ' H3 hkv p) fun σ' H' p => ⟨hG od _ σ' H' p, hz od σ' H' p⟩⟩⟩
theorem at_short {kvs : List (Key × V)} {Q : VK} (ha : Ev ta σ H (.ref b)) (hk : H b = some (.dK kvs)) (hr : BkRel H kvs B) (hn : (B.map (·.1)).Nodup) (hl : B.length ≤ 30) (hg : GoodBk B) (q : ∀ p H1, NewBk H H1 p (shortF B) → Q (.ref p) H1) : tCall (sp_shortened K C) [] E0 (tCons ta tNil) σ H Q := by
  unfold tCall
  exact ea_cons ha ea_nil H (Ex.refl H) _ fun H1 e1 => ⟨b, B, kvs, rfl, e1 b _ hk, hr.mono e1, hn, hl, hg, fun p H' np => q p H' (np.back e1)⟩
theorem at_lleft {ns : List Int} {Q : VK} (ha : Ev ta σ H (.ref b)) (hb : EvL tb σ H (ns.map V.int)) (h : BookAt H b B) (hns : ∀ k ∈ ns, k ∈ B.map (·.1)) (hn : ns.Nodup) (hl : ns.length ≤ 60) (k : ∀ p H1, NewBk H H1 p (B.pick ns) → Q (.ref p) H1) : tCall (sp_l_left K C) [] E0 (tCons ta (tCons tb tNil)) σ H Q := by
  unfold tCall tCons tNil
  refine ha H (Ex.refl H) _ fun H1 e1 => hb H1 e1 _ fun l H2 hl2 e2 h2 => ?_
  exact ⟨b, l, B, ns, rfl, h.mono (e1.trans e2), sq_of h2, hns, hn, hl, fun p H' np => k p H' (np.back (e1.trans e2))⟩
/-- the numbers but one, of a dict that is locked already; another one is locked, to no end -/
theorem el_butF {kvs : List (Key × V)} {c : Addr} {u : HO} {od0 : Obj} {v w j : Nat} {k : Int} (hc : H c = some u) (hm : Mut (some u)) (hut : ∀ xs, u ≠ .tup xs) (hb : H b = some (.frz od0 (.dK kvs))) (hbc : b ≠ c) (hk : kvs.map (·.1) = (B.map (·.1)).map Sum.inl) (hl : B.length ≤ 60) (hw : ∀ x, wipe ((wipe σ [j]).set j (some x)) [j] = wipe σ [j])
    (h0 : ∀ H1, Ev (tVar v) σ H1 (.ref b)) (h1 : ∀ x H1, Ev (tVar j) ((wipe σ [j]).set j (some x)) H1 x) (h2 : ∀ x H1, Ev (tVar w) ((wipe σ [j]).set j (some x)) H1 (.int k)) :
    EvL (tLockE (tLc (iKeys (tVar v)) (gName j) (tTest (tOp (neA K) (tVar j) (tVar w))) (tVar j) [j])) σ H ((B.but k).map V.int) := by
  refine el_ofP V.int (ep_lock (F := ValR V.int) (u := u) hc hm hut ValR.mo fun od H1 e1 H2 e2 Q q => ?_)
  unfold tLc iKeys
  have hfz : (upd H1 c (.frz od u)) b = some (.frz od0 (.dK kvs)) := by rw [upd_ne hbc]; exact e1 b _ hb
  refine h0 H2 H2 (Ex.refl H2) _ fun H3 e3 => ⟨b, od0, rfl, .inl ⟨kvs, (e2.trans e3) b _ hfz, ?_⟩⟩
  have hlen : (B.map (·.1)).length = kvs.length := by
    have := congrArg List.length hk
    rw [List.length_map, List.length_map] at this
    exact this.symm
  have hid : B.but k = ((B.map (·.1)).filter fun i => decide (i ≠ k)).map fun i => i := by rw [List.map_id']; rfl
  rw [hid] at q
  refine lc_walk (F := ValR V.int) (zs := B.map (·.1)) walk_keys hlen (by rw [← hlen, List.length_map]; omega) (fun H' e => ((e2.trans e3).trans e) b _ hfz) (fun i => decide (i ≠ k)) (fun i => i) ValR.mo ?_ fun p xs H4 hp e4 h4 hps => q p xs H4 (fresh_back e3 hp) (e3.trans e4) h4 hps
  rintro i x z H4 H5 hz e4 ⟨rfl, kk, v', hkv, rfl⟩ Qg qg
  have hkk : kk = Sum.inl z := by
    have h1 : (kvs.map (·.1))[i]? = some kk := by rw [List.getElem?_map, hkv]; rfl
    rw [hk, List.getElem?_map, hz] at h1
    exact (Option.some.inj h1).symm
  subst hkk
  refine qg _ H5 (Ex.refl H5) (hw _) ?_ fun _ => ex_ev (h1 _ H5) fun H6 _ => rfl
  have := et_test (ev_neI (K := K) (h1 (.int z) H5) (h2 (.int z) H5))
  have e : (!decide (z = k)) = decide (z ≠ k) := by by_cases c : z = k <;> simp [c]
  rw [e] at this
  exact this
theorem ed_disp2b {k1 k2 : Key} {v : V} (hk : Ev ta σ H (kV k1)) (hv : Ev tb σ H v) (hk2 : Ev tc σ H (kV k2)) (hv2 : Ev td σ H v) (hne : mergeK [] [(k1, v), (k2, v)] = [(k1, v), (k2, v)]) : EvD (tDisp ((ta, tb) :: ((tc, td) :: []))) σ H [(k1, v), (k2, v)] := ed_disp2 hk hv hk2 hv2 hne
theorem kit_dd : kitB "dict" "dict" = some true := by decide +kernel
theorem kit_ib : kitB "int" "bool" = some false := by decide +kernel
end
end S
end
set_option Elab.async false
set_option linter.all false
set_option maxRecDepth 100000
set_option maxHeartbeats 4000000
namespace S
open PySem L2 Evl
theorem short_facts {B : Bk} (hn : (B.map (·.1)).Nodup) (hg : GoodBk B) : ShortOk (namesOf (left0 B (maxK B))) (left0 B (maxK B)) (shortF B) :=
  short_ok _ (Nat.lt_succ_self _) (left0_nd hn) (left0_good hn hg) fun q hq m hm => List.mem_filterMap.mpr ⟨q, hq, hm⟩
theorem short_mem {B : Bk} (hn : (B.map (·.1)).Nodup) (hg : GoodBk B) {q : Int × Ent} (h : q ∈ shortF B) : q ∈ B ∧ q.2.isUndo = false := by
  have := left0_mem hn ((short_facts hn hg).sub.subset h)
  exact ⟨this.1, this.2.1⟩
theorem short_nd {B : Bk} (hn : (B.map (·.1)).Nodup) (hg : GoodBk B) : ((shortF B).map (·.1)).Nodup := sub_nd (short_facts hn hg).sub (left0_nd hn)
theorem short_good {B : Bk} (hn : (B.map (·.1)).Nodup) (hg : GoodBk B) : GoodBk (shortF B) := fun q hq => hg q (short_mem hn hg hq).1
theorem short_len {B : Bk} (hn : (B.map (·.1)).Nodup) (hg : GoodBk B) : (shortF B).length ≤ B.length := Nat.le_trans (short_facts hn hg).sub.length_le (left0_len B _)
theorem short_le {B : Bk} (hn : (B.map (·.1)).Nodup) (hg : GoodBk B) {q : Int × Ent} (h : q ∈ shortF B) : q.1 ≤ maxK B := maxK_le (List.mem_map_of_mem (f := (·.1)) (short_mem hn hg h).1)
theorem short_worth {B : Bk} (hn : (B.map (·.1)).Nodup) (hg : GoodBk B) (name : Str) (day : Int) : worthF (shortF B) (maxK B) name day = worthF B (maxK B) name day := by
  rw [worth_noundo (short_nd hn hg) (short_good hn hg) (fun q hq => (short_mem hn hg hq).2) (fun q hq => short_le hn hg hq), (short_facts hn hg).said, left0_said hn]
theorem short_grid {B : Bk} (hn : (B.map (·.1)).Nodup) (hg : GoodBk B) (ys : List Str) (ds : List Int) : gridF (shortF B) (maxK B) ys ds = gridF B (maxK B) ys ds := by
  unfold gridF
  refine List.map_congr_left fun d _ => List.map_congr_left fun nm _ => short_worth hn hg nm d
theorem short_least {B : Bk} (hn : (B.map (·.1)).Nodup) (hg : GoodBk B) {ys : List Str} {ds : List Int} (hys : ∀ q ∈ B, ∀ m, q.2.nm = some m → m ∈ ys) (hds : ∀ q ∈ B, ∀ s, q.2.span = some s → s.1 ∈ ds ∧ (if s.2 + 1 < 1000000 then s.2 + 1 else 1000000) ∈ ds) {k : Int} (hk : k ∈ (shortF B).map (·.1)) :
    gridF ((shortF B).del k) (maxK B) ys ds ≠ gridF B (maxK B) ys ds := fun heq => by
  have ok := short_facts hn hg
  have hl := ok.least k hk
  obtain ⟨e, he⟩ := Bk.at_isSome hk
  have hem := Bk.at_mem he
  obtain ⟨hB, hu⟩ := short_mem hn hg hem
  obtain ⟨s, hs⟩ := span_of hu
  unfold needB at hl
  rw [he] at hl
  have hl : (match e.span with
    | some s => (begF (shortF B) (ups ((shortF B).map fun q => q.1)) s.1 s.2).all fun d => (namesOf (left0 B (maxK B))).all fun nm => decide (saidN ((shortF B).del k) nm d = saidN (shortF B) nm d)
    | none => false) = false := hl
  rw [hs] at hl
  obtain ⟨d, hd, h2⟩ := List.all_eq_false.mp hl
  obtain ⟨nm, hnm, h3⟩ := List.all_eq_false.mp (Bool.eq_false_iff.mpr h2)
  have h4 : saidN ((shortF B).del k) nm d ≠ saidN (shortF B) nm d := by simpa using h3
  have hsp : ∀ {q : Int × Ent} {s : Int × Int}, q ∈ B → q.2.span = some s → s.1 ≤ s.2 ∧ s.2 ≤ 1000000 := fun {q s} hq hs => by
    have := (hg q hq).2
    obtain ⟨k0, e⟩ := q
    cases e with
    | undo j => cases hs
    | tell a lo hi w => cases hs; exact ⟨this.2.2.1, this.2.2.2.1⟩
    | clear a lo hi => cases hs; exact ⟨this.2.2.1, this.2.2.2⟩
    | like a lo hi o => cases hs; exact ⟨this.2.2.1, this.2.2.2.1⟩
  have hle := hsp hB hs
  have hdd : d ∈ ds := by
    rcases ((begF_facts (shortF B) s.1 s.2 hle.1 (ups ((shortF B).map fun q => q.1))).2.2.2.2 d).mp hd with h | ⟨g1, g2, j, hj, s', hs', hy⟩
    · rw [h]; exact (hds _ hB s hs).1
    · obtain ⟨x, hx, hxs⟩ : ∃ x, Bk.at (shortF B) j = some x ∧ x.span = some s' := by
        cases e1 : Bk.at (shortF B) j with
        | none => rw [e1] at hs'; cases hs'
        | some x => rw [e1] at hs'; exact ⟨x, rfl, hs'⟩
      have hxB := (short_mem hn hg (Bk.at_mem hx)).1
      have := hds _ hxB s' hxs
      rcases hy with hy | hy
      · rw [hy]; exact this.1
      · have hb := hsp hxB hxs
        have e2 : (if s'.2 + 1 < 1000000 then s'.2 + 1 else 1000000) = s'.2 + 1 := by split <;> omega
        rw [e2] at this
        rw [hy]; exact this.2
  have hny : nm ∈ ys := by
    obtain ⟨q, hq, hm⟩ := List.mem_filterMap.mp hnm
    exact hys q (left0_mem hn hq).1 nm hm
  have hsub := Bk.del_sub (shortF B) k
  have w1 : worthF ((shortF B).del k) (maxK B) nm d = saidN ((shortF B).del k) nm d := worth_noundo (sub_nd hsub (short_nd hn hg)) (sub_good hsub (short_good hn hg)) (fun q hq => (short_mem hn hg (hsub.subset hq)).2) (fun q hq => short_le hn hg (hsub.subset hq)) nm d
  have w2 : worthF B (maxK B) nm d = saidN (shortF B) nm d := by rw [ok.said, left0_said hn]
  have g := decide_eq_true heq
  unfold gridF at g
  rw [grid_eq] at g
  have g1 := List.all_eq_true.mp (List.all_eq_true.mp g d hdd) nm hny
  have g2 := of_decide_eq_true g1
  rw [w1, w2] at g2
  exact h4 g2
end S
set_option Elab.async false
set_option linter.all false
set_option maxRecDepth 100000
set_option maxHeartbeats 4000000
namespace S
open PySem L2 Evl
/-! ### hangs_on: the mathematics -/
theorem foldl_dayR_congr {keep : Wv → Bool} {w w' : Int → Wv} : ∀ (ds : List Int) (R : List (Int × Int × Wv)), (∀ d ∈ ds, w d = w' d) → ds.foldl (dayR keep w) R = ds.foldl (dayR keep w') R
  | [], _, _ => rfl
  | d :: ds, R, h => by
    rw [List.foldl_cons, List.foldl_cons, foldl_dayR_congr ds _ fun x hx => h x (List.mem_cons_of_mem _ hx)]
    have e : dayR keep w R d = dayR keep w' R d := by unfold dayR; rw [h d List.mem_cons_self]
    rw [e]
theorem runs_on {B B' : Bk} {n low high : Int} {name : Str} (h : ∀ d, low ≤ d → d ≤ high → worthF B n name d = worthF B' n name d) : runsF B n name low high = runsF B' n name low high := by
  unfold runsF runsR daysR
  rw [foldl_dayR_congr (w' := wOne B' (countF B' n) name) _ _ fun d hd => ?_]
  obtain ⟨h1, h2⟩ := mem_dl hd
  exact congrArg Wv.one (h d h1 (by omega))
theorem runs_worth {B B' : Bk} {n low high : Int} {name : Str} (h : runsF B n name low high = runsF B' n name low high) {d : Int} (h1 : low ≤ d) (h2 : d ≤ high) : worthF B n name d = worthF B' n name d := by
  have e1 := wide_head (runs_ok (B := B) (n := n) (low := low) (high := high) (by omega) name) h1 h2
  have e2 := wide_head (runs_ok (B := B') (n := n) (low := low) (high := high) (by omega) name) h1 h2
  rw [← e1, ← e2]
  show headOpt (((runsF B n name low high).filter (hasDay d)).map third) = headOpt (((runsF B' n name low high).filter (hasDay d)).map third)
  rw [h]
def hangN (T : Bk → Bool) (L : Bk) (k : Int) : Bool := T (L.del k) && decide (k ∈ L.map (·.1))
def hangStep (T : Bk → Bool) (L : Bk) (k : Int) : Bk := if hangN T L k = true then L.del k else L
def hangPass (T : Bk → Bool) (L : Bk) : Bk := (ups (L.map (·.1))).foldl (hangStep T) L
theorem hang_gen {T : Bk → Bool} : ∀ (ks : List Int) {L : Bk}, T L = true →
    (ks.foldl (hangStep T) L).Sublist L ∧ T (ks.foldl (hangStep T) L) = true ∧ (¬ (ks.foldl (hangStep T) L).length < L.length → ks.foldl (hangStep T) L = L ∧ ∀ k ∈ ks, hangN T L k = false) ∧ (∀ j ∈ L.map (·.1), j ∉ ks → j ∈ (ks.foldl (hangStep T) L).map (·.1))
  | [], L, h => ⟨List.Sublist.refl _, h, fun _ => ⟨rfl, fun k hk => by cases hk⟩, fun j hj _ => hj⟩
  | k :: ks, L, h => by
    rw [List.foldl_cons]
    unfold hangStep
    by_cases hk : hangN T L k = true
    · rw [if_pos hk]
      have hk2 : T (L.del k) = true ∧ k ∈ L.map (·.1) := by
        unfold hangN at hk
        rw [Bool.and_eq_true, decide_eq_true_eq] at hk
        exact hk
      obtain ⟨h1, h2, h3, h4⟩ := hang_gen (T := T) ks hk2.1
      refine ⟨h1.trans (Bk.del_sub L k), h2, fun hl => ?_, fun j hj hnj => ?_⟩
      · exfalso
        have := Bk.del_lt hk2.2
        have := h1.length_le
        exact hl (by show (ks.foldl (hangStep T) (L.del k)).length < _; omega)
      · refine h4 j ?_ fun z => hnj (List.mem_cons_of_mem _ z)
        rw [Bk.del_keys, List.mem_filter]
        exact ⟨hj, decide_eq_true fun z => hnj (by rw [z]; exact List.mem_cons_self)⟩
    · rw [if_neg hk]
      obtain ⟨h1, h2, h3, h4⟩ := hang_gen (T := T) ks h
      refine ⟨h1, h2, fun hl => ?_, fun j hj hnj => h4 j hj fun z => hnj (List.mem_cons_of_mem _ z)⟩
      obtain ⟨g1, g2⟩ := h3 hl
      refine ⟨g1, fun j hj => ?_⟩
      rcases List.mem_cons.mp hj with h | h
      · rw [h]; simpa using hk
      · exact g2 j h
def hangLoop (T : Bk → Bool) : Nat → Bk → Bk
  | 0, L => L
  | f + 1, L => if (hangPass T L).length < L.length then hangLoop T f (hangPass T L) else hangPass T L
theorem hangLoop_fuel {T : Bk → Bool} : ∀ (f g : Nat) (L : Bk), L.length < f → L.length < g → hangLoop T f L = hangLoop T g L
  | 0, _, _, h, _ => absurd h (Nat.not_lt_zero _)
  | _, 0, _, _, h => absurd h (Nat.not_lt_zero _)
  | f + 1, g + 1, L, h1, h2 => by
    unfold hangLoop
    split
    · exact hangLoop_fuel f g _ (by omega) (by omega)
    · rfl
structure HangOk (T : Bk → Bool) (L0 L : Bk) : Prop where
  sub : L.Sublist L0
  good : T L = true
  least : ∀ k ∈ L.map (·.1), T (L.del k) = false
theorem hang_ok {T : Bk → Bool} : ∀ (f : Nat) {L : Bk}, L.length < f → T L = true → HangOk T L (hangLoop T f L)
  | 0, _, h, _ => absurd h (Nat.not_lt_zero _)
  | f + 1, L, h, hT => by
    obtain ⟨h1, h2, h3, _⟩ := hang_gen (T := T) (ups (L.map (·.1))) hT
    unfold hangLoop
    split
    · rename_i hl
      have ih := hang_ok (T := T) f (L := hangPass T L) (by omega) h2
      exact ⟨ih.sub.trans h1, ih.good, ih.least⟩
    · rename_i hl
      obtain ⟨g1, g2⟩ := h3 hl
      refine ⟨h1, h2, fun k hk => ?_⟩
      have e : hangPass T L = L := g1
      rw [e] at hk ⊢
      have := g2 k ((ups_perm _).mem_iff.mpr hk)
      unfold hangN at this
      rw [decide_eq_true hk, Bool.and_true] at this
      exact this
/-- have these entries alone the same runs -/
def sameT (B : Bk) (n : Int) (name : Str) (low high : Int) (L : Bk) : Bool := decide (runsF L n name low high = runsF B n name low high)
def hangF (B : Bk) (n : Int) (name : Str) (low high : Int) : Bk := hangLoop (sameT B n name low high) ((left0 B n).length + 1) (left0 B n)
section
variable {B : Bk} {n low high : Int} {name : Str}
theorem left0_worth (hn : (B.map (·.1)).Nodup) (hg : GoodBk B) (d : Int) : worthF (left0 B n) n name d = worthF B n name d := by
  rw [worth_noundo (left0_nd hn) (left0_good hn hg) (fun q hq => (left0_mem hn hq).2.1) (fun q hq => (left0_mem hn hq).2.2), left0_said hn]
theorem hang_facts (hn : (B.map (·.1)).Nodup) (hg : GoodBk B) : HangOk (sameT B n name low high) (left0 B n) (hangF B n name low high) :=
  hang_ok _ (Nat.lt_succ_self _) (decide_eq_true (runs_on fun d _ _ => left0_worth hn hg d))
theorem hang_mem (hn : (B.map (·.1)).Nodup) (hg : GoodBk B) {q : Int × Ent} (h : q ∈ hangF B n name low high) : q ∈ B ∧ q.2.isUndo = false ∧ q.1 ≤ n := left0_mem hn ((hang_facts hn hg).sub.subset h)
theorem hang_nd (hn : (B.map (·.1)).Nodup) (hg : GoodBk B) : ((hangF B n name low high).map (·.1)).Nodup := sub_nd (hang_facts hn hg).sub (left0_nd hn)
theorem hang_good (hn : (B.map (·.1)).Nodup) (hg : GoodBk B) : GoodBk (hangF B n name low high) := fun q hq => hg q (hang_mem hn hg hq).1
theorem hang_len (hn : (B.map (·.1)).Nodup) (hg : GoodBk B) : (hangF B n name low high).length ≤ B.length := Nat.le_trans (hang_facts hn hg).sub.length_le (left0_len B n)
/-- the numbers that are told -/
def hangK (B : Bk) (n : Int) (name : Str) (low high : Int) : List Int := ups ((hangF B n name low high).map (·.1))
theorem hangK_mem {k : Int} : k ∈ hangK B n name low high ↔ k ∈ (hangF B n name low high).map (·.1) := (ups_perm _).mem_iff
theorem hangK_up (hn : (B.map (·.1)).Nodup) (hg : GoodBk B) : (hangK B n name low high).Pairwise (· < ·) := ups_strict (hang_nd hn hg)
theorem hangK_len (hn : (B.map (·.1)).Nodup) (hg : GoodBk B) : (hangK B n name low high).length ≤ B.length := by
  unfold hangK
  rw [(ups_perm _).length_eq, List.length_map]
  exact hang_len hn hg
theorem hangK_in (hn : (B.map (·.1)).Nodup) (hg : GoodBk B) {k : Int} (h : k ∈ hangK B n name low high) : k ∈ B.map (·.1) ∧ k ≤ n := by
  obtain ⟨q, hq, rfl⟩ := List.mem_map.mp (hangK_mem.mp h)
  have := hang_mem hn hg hq
  exact ⟨List.mem_map_of_mem (f := (·.1)) this.1, this.2.2⟩
/-- what the law takes out of the book by such numbers -/
theorem pick_of {L : Bk} (hn : (B.map (·.1)).Nodup) (hL : (L.map (·.1)).Nodup) (hs : ∀ q ∈ L, q ∈ B) {ns : List Int} (hns : ∀ k, k ∈ ns ↔ k ∈ L.map (·.1)) (j : Int) : Bk.at (B.pick ns) j = Bk.at L j := by
  rw [Bk.at_pick]
  by_cases h : j ∈ ns
  · rw [if_pos h]
    obtain ⟨e, he⟩ := Bk.at_isSome ((hns j).mp h)
    rw [he]
    exact Bk.at_of hn (hs _ (Bk.at_mem he))
  · rw [if_neg h]
    cases e : Bk.at L j with
    | none => rfl
    | some x => exact absurd ((hns j).mpr (List.mem_map_of_mem (f := (·.1)) (Bk.at_mem e))) h
theorem pick_worth {L : Bk} (hn : (B.map (·.1)).Nodup) (hL : (L.map (·.1)).Nodup) (hs : ∀ q ∈ L, q ∈ B) {ns : List Int} (hd : ns.Nodup) (hns : ∀ k, k ∈ ns ↔ k ∈ L.map (·.1)) (m : Int) (nm : Str) (d : Int) : worthF (B.pick ns) m nm d = worthF L m nm d := by
  refine worth_local ?_ hL (fun k _ => pick_of hn hL hs hns k) nm d
  rw [Bk.pick_keys fun k hk => ?_]
  · exact hd
  · obtain ⟨q, hq, rfl⟩ := List.mem_map.mp ((hns k).mp hk)
    exact List.mem_map_of_mem (f := (·.1)) (hs q hq)
theorem hang_same (hn : (B.map (·.1)).Nodup) (hg : GoodBk B) {d : Int} (h1 : low ≤ d) (h2 : d ≤ high) : worthF (hangF B n name low high) n name d = worthF B n name d :=
  runs_worth (of_decide_eq_true (hang_facts hn hg).good) h1 h2
theorem hang_other (hn : (B.map (·.1)).Nodup) (hg : GoodBk B) {k : Int} (hk : k ∈ (hangF B n name low high).map (·.1)) : ∃ d, low ≤ d ∧ d ≤ high ∧ worthF ((hangF B n name low high).del k) n name d ≠ worthF B n name d := by
  have h := of_decide_eq_false ((hang_facts hn hg).least k hk)
  refine Classical.byContradiction fun c => h (runs_on fun d h1 h2 => ?_)
  exact Classical.byContradiction fun c2 => c ⟨d, h1, h2, c2⟩
/-- it shows on one of the days on which entries begin or have ended -/
theorem hang_least (hn : (B.map (·.1)).Nodup) (hg : GoodBk B) (hlh : low ≤ high) {ds : List Int} (h0 : low ∈ ds) (hds : ∀ q ∈ B, ∀ s, q.2.span = some s → ∀ y, y = s.1 ∨ y = s.2 + 1 → low ≤ y → y ≤ high → y ∈ ds) {k : Int} (hk : k ∈ (hangF B n name low high).map (·.1)) :
    ∃ d ∈ ds, worthF ((hangF B n name low high).del k) n name d ≠ worthF B n name d := by
  obtain ⟨x, hx1, hx2, hne⟩ := hang_other hn hg hk
  obtain ⟨b, hb, hbx, hmax⟩ := begin_at (B := B) (ns := countF B n) hlh hx1 hx2
  have hf := begF_facts B low high hlh (countF B n)
  have hbb := hf.2.2.2.1 b hb
  have hbd : b ∈ ds := by
    rcases (hf.2.2.2.2 b).mp hb with h | ⟨g1, g2, j, hj, s, hs, hy⟩
    · rw [h]; exact h0
    · cases e : Bk.at B j with
      | none => rw [e] at hs; cases hs
      | some e' =>
        rw [e] at hs
        exact hds _ (Bk.at_mem e) s hs b hy g1 g2
  refine ⟨b, hbd, fun heq => hne ?_⟩
  have e1 : worthF B n name x = worthF B n name b := said_steps hlh (fun k h => h) name b x hb hbx hx2 hmax
  have hsub := Bk.del_sub (hangF B n name low high) k
  have e2 : worthF ((hangF B n name low high).del k) n name x = worthF ((hangF B n name low high).del k) n name b := by
    refine said_between hlh hbb.1 hbx hx2 (fun j hj s' hs' y hy z => ?_) name
    cases e : Bk.at ((hangF B n name low high).del k) j with
    | none => rw [e] at hs'; cases hs'
    | some e' =>
      rw [e] at hs'
      have hm := (hang_facts hn hg).sub.subset (hsub.subset (Bk.at_mem e))
      have hjc : j ∈ countF B n := by
        have : j ∈ (left0 B n).map (·.1) := List.mem_map_of_mem (f := (·.1)) hm
        rw [left0_keys] at this
        exact (List.mem_filter.mp this).1
      have hat : Bk.at B j = some e' := Bk.at_of hn (left0_mem hn hm).1
      exact hmax y ((hf.2.2.2.2 y).mpr (.inr ⟨by omega, by omega, j, hjc, s', by rw [hat]; exact hs', hy⟩)) z
  rw [e1, e2]
  exact heq
end
theorem ups_same {ms ns : List Int} (h1 : ms.Pairwise (· < ·)) (h2 : ns.Pairwise (· < ·)) (h : ∀ k, k ∈ ms ↔ k ∈ ns) : ms = ns := by
  have d1 : ms.Nodup := h1.imp fun {a b} h => by have h : a < b := h; omega
  have d2 : ns.Nodup := h2.imp fun {a b} h => by have h : a < b := h; omega
  have e1 : ms = ups ms := ups_of (List.Perm.refl _) (h1.imp fun {a b} h => Int.le_of_lt h)
  have e2 : ns = ups ns := ups_of (List.Perm.refl _) (h2.imp fun {a b} h => Int.le_of_lt h)
  rw [e1, e2]
  exact ups_congr (perm_of_mem d1 d2 h)
end S
set_option Elab.async false
set_option linter.all false
set_option maxRecDepth 100000
set_option maxHeartbeats 4000000
section
open PySem L2 Evl S
local macro_rules | `(tactic| array_get_dec) => `(tactic| first
  | exact ev_c
  | exact ev_var rfl
  | exact S.eo_no
  | exact ea_nil
  | (apply S.eo_some <;> array_get_dec)
  | (apply ea_cons <;> array_get_dec)
  | (apply S.ev_add <;> array_get_dec)
  | (apply S.ev_sub <;> array_get_dec)
  | (apply S.ev_div <;> first | array_get_dec | exact ⟨by decide, by decide⟩ | exact ⟨by omega, by omega⟩)
  | (apply S.ev_mod <;> first | array_get_dec | decide | omega)
  | (apply S.ev_mulr <;> first | array_get_dec | exact ⟨by decide, by decide⟩ | exact ⟨by omega, by omega⟩)
  | (apply S.ev_mull <;> first | array_get_dec | exact ⟨by decide, by decide⟩ | exact ⟨by omega, by omega⟩)
  | (apply S.ev_neg <;> array_get_dec)
  | (apply S.ev_min <;> array_get_dec)
  | (apply S.ev_max <;> array_get_dec)
  | (apply S.ev_eqI <;> array_get_dec)
  | (apply S.ev_eqS <;> array_get_dec)
  | (apply S.ev_neI <;> array_get_dec)
  | (apply S.ev_neS <;> array_get_dec)
  | (apply S.ev_lt <;> array_get_dec)
  | (apply S.ev_le <;> array_get_dec)
  | (apply S.ev_gt <;> array_get_dec)
  | (apply S.ev_ge <;> array_get_dec)
  | (apply S.ev_intB <;> array_get_dec)
  | (apply et_test <;> array_get_dec)
  | (apply et_B <;> array_get_dec)
  | (apply et_not <;> array_get_dec)
  | (refine' et_and ?_ (fun _ => ?_) <;> array_get_dec)
  | (refine' et_or ?_ (fun _ => ?_) <;> array_get_dec))
namespace S
theorem eqv_rowD : ∀ r s : List (Option Int), PyData.eqv (rowD r) (rowD s) = decide (r = s)
  | [], [] => rfl
  | [], _ :: _ => rfl
  | _ :: _, [] => rfl
  | a :: r, c :: s => by
    have ih := eqv_rowD r s
    show (PyData.eqv (oD a) (oD c) && PyData.eqv (rowD r) (rowD s)) = _
    rw [ih, eqv_oD]
    by_cases h1 : a = c <;> by_cases h2 : r = s <;> simp [h1, h2]
theorem eqv_rowsD : ∀ rs ss : List (List (Option Int)), PyData.eqv (.list (rs.map rowD)) (.list (ss.map rowD)) = decide (rs = ss)
  | [], [] => rfl
  | [], _ :: _ => rfl
  | _ :: _, [] => rfl
  | a :: r, c :: s => by
    have ih := eqv_rowsD r s
    show (PyData.eqv (rowD a) (rowD c) && PyData.eqv (.list (r.map rowD)) (.list (s.map rowD))) = _
    rw [ih, eqv_rowD]
    by_cases h1 : a = c <;> by_cases h2 : r = s <;> simp [h1, h2]
section
variable {K : PySem.W.Frag} {C : CA} {σ : L2.St} {H H' : Hp} {t : TT} {ta tb tc td te tf : TE} {D : Ends} {tu tz : TS} {b : Addr} {B L : Bk} {n : Int}
theorem ev_eqRowsPV {q : Addr} {rs ss : List (List (Option Int))} (ha : EvP ta σ H RowR rs) (hb : Ev tb σ H (.ref q)) (hq : RowsAt H q ss) : Ev (tOp (eqA K) ta tb) σ H (.bl (decide (rs = ss))) := fun H1 e Q k => by
  unfold tOp
  refine ha H1 e _ fun p xs H2 hp e2 h2 hps => hb H2 (e.trans e2) _ fun H3 e3 => ?_
  obtain ⟨ys, g1, g2⟩ := hq.mono ((e.trans e2).trans e3)
  refine .inr (.inl ⟨_, _, dp_rows (e3 p _ h2) (TupR.all e3 hps), dp_rows g1 g2, lay_rows rs, lay_rows ss, ?_⟩)
  rw [eqv_rowsD]
  exact k H3 (e2.trans e3)
theorem ep_runs2 {name : Str} {low high : Int} (ha : Ev ta σ H (.ref b)) (hb : Ev tb σ H (.int n)) (hc : Ev tc σ H (.str name)) (hd : Ev td σ H (.int low)) (he : Ev te σ H (.int high)) (h : BookAt H b B) (h31 : B.length ≤ 31) (hlh : low ≤ high) :
    EvP (tCall (sp_runs_of K C) [] E0 (tCons ta (tCons tb (tCons tc (tCons td (tCons te tNil)))))) σ H RowR (runsF B n name low high) := fun H1 e Q q => by
  unfold tCall
  exact ea_cons ha (ea_cons hb (ea_cons hc (ea_cons hd (ea_cons he ea_nil)))) H1 e _ fun H2 e2 => ⟨b, B, n, name, low, high, rfl, h.mono (e.trans e2), h31, hlh, fun p xs H' hp e' h' hps => q p xs H' (fresh_back e2 hp) (e2.trans e') h' hps⟩
end
/-! ### hangs_on -/
def sp_hangs_on (K : PySem.W.Frag) (C : CA) : Sp := fun vs H Q _ => ∃ (b : Addr) (B : Bk) (n : Int) (name : Str) (low high : Int), vs = [.ref b, .int n, .str name, .int low, .int high] ∧ BookAt H b B ∧ B.length ≤ 30 ∧ GoodBk B ∧ low ≤ high ∧
  ∀ p H', H p = none → Ex H H' → H' p = some (.lst ((hangK B n name low high).map V.int)) → Q (.ref p) H'
theorem len_hangs_on {K : PySem.W.Frag} {C : CA} {vs : List V} {H : Hp} {Q : VK} {E : XK} (h : sp_hangs_on K C vs H Q E) : vs.length = 5 := by
  obtain ⟨b, B, n, name, low, high, rfl, _⟩ := h
  rfl
/-- book 0, n 1, name 2, low 3, high 4, runs 5, left 6, many 7, number 8, fewer 9 -/
def t_hangs_on (K : PySem.W.Frag) (C : CA) : TS :=
 (tSeq (tAsg (tCall (sp_runs_of K C) [] E0 (tCons (tVar 0) (tCons (tVar 1) (tCons (tVar 2) (tCons (tVar 3) (tCons (tVar 4) tNil)))))) (gName 5))
 (tSeq (tAsg (tCall (sp_left_of K C) [] E0 (tCons (tVar 0) (tCons (tLc (iList K (tCall (sp_counting K C) [] E0 (tCons (tVar 0) (tCons (tVar 1) tNil)))) (gName 8) (tTest (tOp (neA K) (tOp (ixA K) (tOp (ixA K) (tVar 0) (tVar 8)) (tC (.int 0))) (tC (.str "undo")))) (tVar 8) [8]) tNil))) (gName 6))
 (tSeq (tAsg (tOp (addA K) (tCB (lenA K) (tCons (tVar 6) tNil)) (tC (.int 1))) (gName 7))
 (tSeq (tWhile (tTest (tOp (ltI) (tCB (lenA K) (tCons (tVar 6) tNil)) (tVar 7))) (tSeq (tAsg (tCB (lenA K) (tCons (tVar 6) tNil)) (gName 7))
 (tFor (iList K (tCB (sortedA K) (tCons (tVar 6) tNil))) (gName 8)
  (tSeq (tAsg (tCall (sp_without K C) [] E0 (tCons (tVar 6) (tCons (tVar 8) tNil))) (gName 9))
 (tIfS (tTest (tOp (eqA K) (tCall (sp_runs_of K C) [] E0 (tCons (tVar 9) (tCons (tVar 1) (tCons (tVar 2) (tCons (tVar 3) (tCons (tVar 4) tNil)))))) (tVar 5))) (tAsg (tVar 9) (gName 6)) tNext)))))
 (tRet (tCB (sortedA K) (tCons (tVar 6) tNil)))))))
theorem pure_hangs_on {K : PySem.W.Frag} {C : CA} {vs : List V} {H : Hp} {Q : VK} {E : XK} (h : sp_hangs_on K C vs H Q E) : t_hangs_on K C { nx := fun _ H' => Q .non H', rt := Q } (startN 10 vs) H := by
  obtain ⟨b, B, n, name, low, high, rfl, hB, hl, hg, hlh, kk⟩ := h
  have hn := hB.nd
  refine q_asgP (ep_runs2 (ev_var rfl) (ev_var rfl) (ev_var rfl) (ev_var rfl) (ev_var rfl) hB (by omega) hlh) fun pr us H0 hpr e0 h0 hus => ?_
  have hRuns : RowsAt H0 pr (runsF B n name low high) := ⟨us, h0, hus⟩
  have hcl : (countF B n).length ≤ 30 := Nat.le_trans (countF_len B n) hl
  have hB0 := hB.mono e0
  have nums := el_ofP V.int (ep_lcN (K := K) (F := ValR V.int) (G := ValR V.int) (zs := countF B n) (tl := tCall (sp_counting K C) [] E0 (tCons (tVar 0) (tCons (tVar 1) tNil))) (j := 8) (vs := [8]) (H := H0) (σ := [some (.ref b), some (.int n), some (.str name), some (.int low), some (.int high), some (.ref pr), none, none, none, none])
    (t := tTest (tOp (neA K) (tOp (ixA K) (tOp (ixA K) (tVar 0) (tVar 8)) (tC (.int 0))) (tC (.str "undo")))) (te := tVar 8)
    (plainK B) (fun k => k) ValR.mo ValR.mo.mo (ep_ofL V.int (el_counting (ev_var rfl) (ev_var rfl) hB0)) (by omega) (fun x => rfl) (fun x z H2 e2 hz hx => by
      have hx' : x = .int z := hx
      subst hx'
      obtain ⟨e, he⟩ := Bk.at_isSome (countF_mem hz).1
      obtain ⟨kv, t, g1, g2, g3⟩ := (hB0.mono e2).get he
      rw [plainK_of he, ← Ent.word_undo]
      exact et_test (S.ev_neS (ev_part 0 (ev_book (ev_var rfl) (ev_var rfl) g1 g2) g3 e.vs0) ev_c)) fun x z H2 e2 hz hx _ => ex_ev (ev_var rfl) fun H3 _ => hx)
  rw [List.map_id'] at nums
  have hkeys := left0_keys B n
  rw [← hkeys] at nums
  have hnd0 := left0_nd (n := n) hn
  have hl0 : (left0 B n).length ≤ 30 := Nat.le_trans (left0_len B n) hl
  refine q_asgRw (at_leftN (ev_var rfl) nums hB0 (fun k hk => ?_) hnd0 (by rw [List.length_map]; omega) fun lb H2 nl => ?_)
  · obtain ⟨q, hq, rfl⟩ := List.mem_map.mp hk
    exact List.mem_map_of_mem (left0_mem hn hq).1
  have hpick : B.pick ((left0 B n).map (·.1)) = left0 B n := by rw [hkeys]; rfl
  rw [hpick] at nl
  have hT0 : sameT B n name low high (left0 B n) = true := decide_eq_true (runs_on fun d _ _ => left0_worth hn hg d)
  have hF : hangF B n name low high = hangLoop (sameT B n name low high) ((left0 B n).length + 1) (left0 B n) := rfl
  generalize left0 B n = L0 at nl hT0 hF hnd0 hl0
  clear hkeys nums
  have hRuns2 : RowsAt H2 pr (runsF B n name low high) := hRuns.mono nl.ex
  have hlen : ∀ {H : Hp} {σ : L2.St} {p : Addr} {kv : List (Key × V)} {L : Bk}, H p = some (.dK kv) → BkRel H kv L → σ[6]? = some (some (.ref p)) → Ev (tCB (lenA K) (tCons (tVar 6) tNil)) σ H (.int (L.length : Int)) := fun h1 h2 h3 => by
    rw [← h2.len]
    exact ev_lenD (ev_var h3) (.inl h1)
  obtain ⟨kv3, hk3, hr3⟩ := nl.dk
  refine q_asg (ev_add (hlen hk3 hr3 rfl) ev_c) fun H4 e4 => ?_
  have nl4 := nl.step e4
  show tSeq _ _ _ ([some (.ref b), some (.int n), some (.str name), some (.int low), some (.int high), some (.ref pr), some (.ref lb), some (.int ((L0.length : Int) + 1)), none, none] : L2.St) H4
  have E02 : Ex H H2 := e0.trans nl.ex
  have nl2 : NewBk H H2 lb L0 := nl.back e0
  have E2n : ∀ {p : Addr} {A : Bk} {H' : Hp}, NewBk H2 H' p A → NewBk H H' p A := fun h => h.back E02
  refine q_while (fun m σ' H' => ∃ lb L many o8 o9, σ' = [some (.ref b), some (.int n), some (.str name), some (.int low), some (.int high), some (.ref pr), some (.ref lb), some (.int many), o8, o9] ∧ many = (m : Int) ∧ NewBk H H' lb L ∧ Ex H2 H' ∧ L.Sublist L0 ∧ sameT B n name low high L = true ∧ (L.length : Int) ≤ many ∧ ((L.length : Int) < many → hangLoop (sameT B n name low high) (L.length + 1) L = hangF B n name low high) ∧ (¬ (L.length : Int) < many → L = hangF B n name low high)) (L0.length + 1)
    ⟨lb, L0, _, none, none, rfl, by omega, nl2.step e4, e4, List.Sublist.refl _, hT0, by omega, fun _ => hF.symm, fun z => absurd (by omega) z⟩ ?_
  rintro m σ' H5 ⟨lb1, L1, many, o8, o9, rfl, hm, n1, E5, hs1, hT1, hle, hgo, hend⟩
  obtain ⟨kv1, hk1, hr1⟩ := n1.dk
  refine ⟨decide ((L1.length : Int) < many), et_test (ev_lt (hlen hk1 hr1 rfl) (ev_var rfl)), fun c H6 e6 => ?_, fun c H6 e6 => ?_⟩
  · have c' := of_decide_eq_true c
    have hgo' := hgo c'
    refine ⟨fun σ' H' => ∃ lb L o8 o9, σ' = [some (.ref b), some (.int n), some (.str name), some (.int low), some (.int high), some (.ref pr), some (.ref lb), some (.int (L1.length : Int)), o8, o9] ∧ NewBk H H' lb L ∧ Ex H2 H' ∧ L = hangPass (sameT B n name low high) L1, fun σ2 H7 ⟨lb2, L2, o8', o9', hσ, n2, E7, hL2⟩ => ?_, ?_⟩
    · obtain ⟨p1, p2, p3, p4⟩ := hang_gen (T := sameT B n name low high) (ups (L1.map (·.1))) hT1
      have p1' : L2.Sublist L1 := by rw [hL2]; exact p1
      have p2' : sameT B n name low high L2 = true := by rw [hL2]; exact p2
      refine ⟨L1.length, by omega, lb2, L2, _, o8', o9', hσ, rfl, n2, E7, p1'.trans hs1, p2', by have := p1'.length_le; omega, fun z => ?_, fun z => ?_⟩
      · have z' : L2.length < L1.length := by omega
        rw [← hgo']
        have e : hangLoop (sameT B n name low high) (L1.length + 1) L1 = hangLoop (sameT B n name low high) L1.length L2 := by
          rw [hL2] at z' ⊢
          exact if_pos z'
        rw [e]
        exact hangLoop_fuel _ _ _ (by omega) z'
      · have z' : ¬ L2.length < L1.length := by omega
        rw [← hgo', hL2]
        rw [hL2] at z'
        exact (if_neg z').symm
    · have n6 := n1.step e6
      obtain ⟨kv6, hk6, hr6⟩ := n6.dk
      refine q_asg (hlen hk6 hr6 rfl) fun H7 e7 => ?_
      have n7 := n6.step e7
      show tFor _ _ _ _ ([some (.ref b), some (.int n), some (.str name), some (.int low), some (.int high), some (.ref pr), some (.ref lb1), some (.int (L1.length : Int)), o8, o9] : L2.St) H7
      refine s_forNL (K := K) (el_ups (ev_var rfl) n7.at) (fun q i σ' H' => ∃ lb' L' o8 o9, σ' = [some (.ref b), some (.int n), some (.str name), some (.int low), some (.int high), some (.ref pr), some (.ref lb'), some (.int (L1.length : Int)), o8, o9] ∧ NewBk H H' lb' L' ∧ Ex H2 H' ∧ H' q = some (.lst ((ups (L1.map (·.1))).map V.int)) ∧ L' = ((ups (L1.map (·.1))).take i).foldl (hangStep (sameT B n name low high)) L1)
        (fun q H8 hq e8 h8 => ⟨lb1, L1, o8, o9, rfl, n7.step e8, ((E5.trans e6).trans e7).trans e8, h8, rfl⟩) (fun q i σ' H' _ ⟨_, _, _, _, _, _, _, h, _⟩ => sq_of h) ?_ (fun q σ' H' ⟨lb', L', o8, o9, h1, h2, h3, _, h5⟩ => ⟨lb', L', o8, o9, h1, h2, h3, by rw [h5, List.length_map, List.take_length]; rfl⟩)
      rintro q i x σ' H8 hx ⟨lb', L', o8', o9', rfl, n8, E8, hq8, hL'⟩
      obtain ⟨k, hk, rfl⟩ := map_get hx
      obtain ⟨p1, p2, p3, p4⟩ := hang_gen (T := sameT B n name low high) ((ups (L1.map (·.1))).take i) hT1
      rw [← hL'] at p1 p4
      have hkL : k ∈ L'.map (·.1) := by
        refine p4 k ((ups_perm _).mem_iff.mp (List.mem_of_getElem? hk)) fun z => ?_
        obtain ⟨j, hj, ej⟩ := List.getElem_of_mem z
        rw [List.length_take] at hj
        rw [List.getElem_take] at ej
        obtain ⟨hi', ek⟩ := List.getElem?_eq_some_iff.mp hk
        have := List.pairwise_iff_getElem.mp (ups_strict n1.nd) j i (by omega) hi' (by omega)
        omega
      have hsub' : L'.Sublist L0 := p1.trans hs1
      have hl' : L'.length ≤ 30 := Nat.le_trans hsub'.length_le hl0
      obtain ⟨kv8, hk8, hr8⟩ := n8.dk
      rw [take_snoc hk, List.foldl_append, ← hL']
      refine q_asgRw (at_without (ev_var rfl) (ev_var rfl) hk8 hr8 n8.nd (by omega) fun p H9 np => ?_)
      have E9 := E8.trans np.ex
      have hdl : (L'.del k).length ≤ 31 := Nat.le_trans (Bk.del_sub L' k).length_le (by omega)
      have hRuns9 : RowsAt H9 pr (runsF B n name low high) := hRuns2.mono E9
      show tIfS _ _ _ _ ([some (.ref b), some (.int n), some (.str name), some (.int low), some (.int high), some (.ref pr), some (.ref lb'), some (.int (L1.length : Int)), some (.int k), some (.ref p)] : L2.St) H9
      refine s_when (et_test (ev_eqRowsPV (ep_runs2 (ev_var rfl) (ev_var rfl) (ev_var rfl) (ev_var rfl) (ev_var rfl) np.at hdl hlh) (ev_var rfl) hRuns9)) (fun c H10 e10 => ?_) (fun c H10 e10 => ?_)
      · have hN : hangN (sameT B n name low high) L' k = true := by
          unfold hangN
          rw [show sameT B n name low high (L'.del k) = true from c, decide_eq_true hkL]
          rfl
        refine s_asg (ev_var rfl) fun H11 e11 => ?_
        refine ⟨p, L'.del k, _, _, rfl, ((np.back n8.ex).step e10).step e11, (E9.trans e10).trans e11, ((np.ex.trans e10).trans e11) q _ hq8, ?_⟩
        show _ = hangStep (sameT B n name low high) L' k
        unfold hangStep
        rw [if_pos hN]
      · have hN : hangN (sameT B n name low high) L' k = false := by
          unfold hangN
          rw [show sameT B n name low high (L'.del k) = false from c]
          rfl
        refine ⟨lb', L', _, _, rfl, (n8.step np.ex).step e10, E9.trans e10, (np.ex.trans e10) q _ hq8, ?_⟩
        show _ = hangStep (sameT B n name low high) L' k
        unfold hangStep
        rw [if_neg (by rw [hN]; decide)]
  · have c' : ¬ (L1.length : Int) < many := fun z => by rw [decide_eq_true z] at c; cases c
    have hfin := hend c'
    have n6 := n1.step e6
    refine s_retL (el_ups (ev_var rfl) n6.at) fun p H7 hp e7 h7 => ?_
    rw [hfin] at h7
    exact kk p H7 (fresh_back n6.ex hp) (n6.ex.trans e7) h7
end S
end
set_option Elab.async false
set_option linter.all false
set_option maxRecDepth 100000
set_option maxHeartbeats 4000000
section
open PySem L2 Evl S
local macro_rules | `(tactic| array_get_dec) => `(tactic| first
  | exact ev_c
  | exact ev_var rfl
  | exact S.eo_no
  | exact ea_nil
  | (apply S.eo_some <;> array_get_dec)
  | (apply ea_cons <;> array_get_dec)
  | (apply S.ev_add <;> array_get_dec)
  | (apply S.ev_sub <;> array_get_dec)
  | (apply S.ev_div <;> first | array_get_dec | exact ⟨by decide, by decide⟩ | exact ⟨by omega, by omega⟩)
  | (apply S.ev_mod <;> first | array_get_dec | decide | omega)
  | (apply S.ev_mulr <;> first | array_get_dec | exact ⟨by decide, by decide⟩ | exact ⟨by omega, by omega⟩)
  | (apply S.ev_mull <;> first | array_get_dec | exact ⟨by decide, by decide⟩ | exact ⟨by omega, by omega⟩)
  | (apply S.ev_neg <;> array_get_dec)
  | (apply S.ev_min <;> array_get_dec)
  | (apply S.ev_max <;> array_get_dec)
  | (apply S.ev_eqI <;> array_get_dec)
  | (apply S.ev_eqS <;> array_get_dec)
  | (apply S.ev_neI <;> array_get_dec)
  | (apply S.ev_neS <;> array_get_dec)
  | (apply S.ev_lt <;> array_get_dec)
  | (apply S.ev_le <;> array_get_dec)
  | (apply S.ev_gt <;> array_get_dec)
  | (apply S.ev_ge <;> array_get_dec)
  | (apply S.ev_intB <;> array_get_dec)
  | (apply et_test <;> array_get_dec)
  | (apply et_B <;> array_get_dec)
  | (apply et_not <;> array_get_dec)
  | (refine' et_and ?_ (fun _ => ?_) <;> array_get_dec)
  | (refine' et_or ?_ (fun _ => ?_) <;> array_get_dec))
namespace S
section
variable {K : PySem.W.Frag} {C : CA} {σ : L2.St} {H H' : Hp} {t : TT} {ta tb tc td te tf : TE} {D : Ends} {tu tz : TS} {b : Addr} {B L : Bk} {n : Int}
/-- sorted(set(xs)) of a rising list -/
theorem el_sortSet {l : Addr} {ns : List Int} (ha : Ev ta σ H (.ref l)) (h : SqL K H l (ns.map V.int)) (hl : ns.length < 64) (hu : ns.Pairwise (· < ·)) : EvL (tSortSetI K ta) σ H (ns.map V.int) := fun H1 e Q q => by
  unfold tSortSetI
  refine ha H1 e _ fun H2 e2 => ⟨l, ns, rfl, ex_l (e.trans e2) h, hl, fun ms p h1 h2 hp => ?_⟩
  rw [ups_same h1 hu h2]
  exact q p _ (fresh_back e2 hp) (e2.trans (Ex.new hp)) upd_same
theorem opt_ints (ns : List Int) : optRow (ns.map some) = ns.map V.int := by unfold optRow; rw [List.map_map]; rfl
theorem sh_listD (r : List (Option Int)) : SeqAt.shaped (listD r) = true := shaped_by ⟨(lay_listD r).1, Nat.le_trans (lay_listD r).2 (by decide)⟩
theorem ev_neOptL {q : Addr} {r s : List (Option Int)} (ha : EvL ta σ H (optRow r)) (hb : Ev tb σ H (.ref q)) (hq : H q = some (.lst (optRow s))) : Ev (tOp (neA K) ta tb) σ H (.bl (!decide (r = s))) := fun H1 e Q k => by
  unfold tOp
  refine ha H1 e _ fun p H2 hp e2 h2 => hb H2 (e.trans e2) _ fun H3 e3 => ?_
  refine .inr (.inl ⟨_, _, dp_list (e3 p _ h2), dp_list (((e.trans e2).trans e3) q _ hq), sh_listD r, sh_listD s, ?_⟩)
  rw [eqv_listD]
  exact k H3 (e2.trans e3)
theorem ev_eqOptL {q : Addr} {r s : List (Option Int)} (ha : EvL ta σ H (optRow r)) (hb : Ev tb σ H (.ref q)) (hq : H q = some (.lst (optRow s))) : Ev (tOp (eqA K) ta tb) σ H (.bl (decide (r = s))) := fun H1 e Q k => by
  unfold tOp
  refine ha H1 e _ fun p H2 hp e2 h2 => hb H2 (e.trans e2) _ fun H3 e3 => ?_
  refine .inr (.inl ⟨_, _, dp_list (e3 p _ h2), dp_list (((e.trans e2).trans e3) q _ hq), sh_listD r, sh_listD s, ?_⟩)
  rw [eqv_listD]
  exact k H3 (e2.trans e3)
theorem ev_eqVOptL {q : Addr} {r s : List (Option Int)} (hb : Ev ta σ H (.ref q)) (hq : H q = some (.lst (optRow s))) (ha : EvL tb σ H (optRow r)) : Ev (tOp (eqA K) ta tb) σ H (.bl (decide (s = r))) := fun H1 e Q k => by
  unfold tOp
  refine hb H1 e _ fun H2 e2 => ha H2 (e.trans e2) _ fun p H3 hp e3 h3 => ?_
  refine .inr (.inl ⟨_, _, dp_list (((e.trans e2).trans e3) q _ hq), dp_list h3, sh_listD s, sh_listD r, ?_⟩)
  rw [eqv_listD]
  exact k H3 (e2.trans e3)
/-- a comprehension over a new tuple -/
theorem ep_lcU {α β : Type} {F : Hp → V → α → Prop} {G : Hp → V → β → Prop} {xs : List V} {zs : List β} {tl : TE} {j : Nat} {vs : List Nat} (f : β → Bool) (v : β → α) (m : MoT F) (mG : Mo G) (h : EvU tl σ H xs) (hp : Paired (G H) xs zs) (hz : zs.length ≤ 40000) (hw : ∀ x, wipe ((wipe σ vs).set j (some x)) vs = wipe σ vs)
    (ht : ∀ x z H1, Ex H H1 → z ∈ zs → G H1 x z → EvT t ((wipe σ vs).set j (some x)) H1 (f z)) (he : ∀ x z H1, Ex H H1 → z ∈ zs → G H1 x z → f z = true → EvX te ((wipe σ vs).set j (some x)) H1 fun H w => F H w (v z)) :
    EvP (tLc (iTup K tl) (gName j) t te vs) σ H F ((zs.filter f).map v) := fun H0 e Q q => h H0 e _ fun a H1 ha e1 hx => ⟨a, rfl, ⟨xs, st_of hx⟩, fun Dl hD =>
  lc_tup (xs := xs) (fun i => Cp H1 F Dl (((zs.take i).filter f).map v)) ⟨hD, Ex.new hD, [], upd_same, .nil⟩ (fun i H' _ p => st_of (p.2.1 a _ hx)) (fun i x H' hi p => by
    obtain ⟨z, hz1, hz2⟩ := paired_get (mG.all (e.trans e1) hp) hi
    have hm := List.mem_of_getElem? hz1
    exact ⟨hw x, cp_turn m hz1 (by have := (List.getElem?_eq_some_iff.mp hz1).1; omega) p (ht x z H1 (e.trans e1) hm hz2) fun hf => he x z H1 (e.trans e1) hm hz2 hf⟩)
    (fun H' p => by
      obtain ⟨p1, p2, acc, p3, p4⟩ := p
      rw [Paired.length hp, List.take_length] at p4
      exact q Dl acc H' (fresh_back e1 p1) (e1.trans p2) p3 p4)⟩
end
/-! ### _law_worths -/
def dueW (B : Bk) (n : Int) (name : Str) (ds : List Int) : List (Option Int) := ds.map fun d => worthF B n name d
def sp_l_worths (K : PySem.W.Frag) (C : CA) : Sp := fun vs H Q _ => ∃ (b pd : Addr) (B : Bk) (n : Int) (name : Str) (ds : List Int), vs = [.ref b, .int n, .str name, .ref pd] ∧ BookAt H b B ∧ SqL K H pd (ds.map V.int) ∧ ds.length ≤ 1000 ∧
  ∀ p H', H p = none → Ex H H' → H' p = some (.lst (optRow (dueW B n name ds))) → Q (.ref p) H'
theorem len_l_worths {K : PySem.W.Frag} {C : CA} {vs : List V} {H : Hp} {Q : VK} {E : XK} (h : sp_l_worths K C vs H Q E) : vs.length = 4 := by
  obtain ⟨b, pd, B, n, name, ds, rfl, _⟩ := h
  rfl
/-- _law_book_here 0, _law_n 1, _law_name 2, _law_days 3, _law_day 4 -/
def t_l_worths (K : PySem.W.Frag) (C : CA) : TS :=
 (tRet (tLc (iList K (tVar 3)) (gName 4) tYes (tDGet2 (tCall (sp_l_said K C) [] E0 (tCons (tVar 0) (tCons (tVar 1) (tCons (tVar 4) tNil)))) (tVar 2) (tC .non)) [4]))
theorem pure_l_worths {K : PySem.W.Frag} {C : CA} {vs : List V} {H : Hp} {Q : VK} {E : XK} (h : sp_l_worths K C vs H Q E) : t_l_worths K C { nx := fun _ H' => Q .non H', rt := Q } (startN 5 vs) H := by
  obtain ⟨b, pd, B, n, name, ds, rfl, hB, hd, hl, kk⟩ := h
  have row := el_ofP optV (ep_lcL (K := K) (F := ValR optV) (G := ValR V.int) (a := pd) (xs := ds.map V.int) (zs := ds) (tl := tVar 3) (j := 4) (vs := [4]) (H := H) (σ := [some (.ref b), some (.int n), some (.str name), some (.ref pd), none]) (t := tYes) (te := tDGet2 (tCall (sp_l_said K C) [] E0 (tCons (tVar 0) (tCons (tVar 1) (tCons (tVar 4) tNil)))) (tVar 2) (tC .non))
      (fun _ => true) (fun d => worthF B n name d) ValR.mo ValR.mo.mo (ev_var rfl) hd (paired_map V.int ds) (by omega) (fun x => rfl) (fun x z H1 e1 _ _ => et_yes) (fun x z H1 e1 hz hx _ => by
        have hx' : x = .int z := hx
        subst hx'
        exact ex_ev (ev_lsaid (ev_var rfl) (ev_var rfl) (ev_var rfl) (ev_var rfl) (hB.mono e1)) fun H2 _ => rfl))
  rw [List.filter_eq_self.mpr fun _ _ => rfl] at row
  exact s_retL row kk
section
variable {K : PySem.W.Frag} {C : CA} {σ : L2.St} {H H' : Hp} {t : TT} {ta tb tc td te tf : TE} {D : Ends} {tu tz : TS} {b : Addr} {B L : Bk} {n : Int}
def BookX (L : Bk) : Hp → V → Prop := fun H v => ∃ p, v = .ref p ∧ BookAt H p L
theorem bx_ev (ha : Ev ta σ H (.ref b)) (h : BookAt H b B) : EvX ta σ H (BookX B) := ex_ev ha fun H1 e => ⟨b, rfl, h.mono e⟩
theorem el_worths {pd : Addr} {name : Str} {ds : List Int} (ha : EvX ta σ H (BookX B)) (hb : Ev tb σ H (.int n)) (hc : Ev tc σ H (.str name)) (hd : Ev td σ H (.ref pd)) (hds : SqL K H pd (ds.map V.int)) (hl : ds.length ≤ 1000) :
    EvL (tCall (sp_l_worths K C) [] E0 (tCons ta (tCons tb (tCons tc (tCons td tNil))))) σ H (optRow (dueW B n name ds)) := fun H1 e Q q => by
  unfold tCall
  refine ha H1 e _ fun v H2 e2 ⟨p, ev, hp⟩ => ?_
  subst ev
  exact ea_cons hb (ea_cons hc (ea_cons hd ea_nil)) H2 (e.trans e2) _ fun H3 e3 => ⟨p, pd, B, n, name, ds, rfl, hp.mono e3, ex_l ((e.trans e2).trans e3) hds, hl, fun r H' hr e' h' => q r H' (fresh_back (e2.trans e3) hr) ((e2.trans e3).trans e') h'⟩
theorem bx_lleft {l : Addr} {ns : List Int} (ha : Ev ta σ H (.ref b)) (hb : Ev tb σ H (.ref l)) (h : BookAt H b B) (hl : SqL K H l (ns.map V.int)) (hns : ∀ k ∈ ns, k ∈ B.map (·.1)) (hn : ns.Nodup) (h60 : ns.length ≤ 60) : EvX (tCall (sp_l_left K C) [] E0 (tCons ta (tCons tb tNil))) σ H (BookX (B.pick ns)) := fun H1 e Q q => by
  unfold tCall
  exact ea_cons ha (ea_cons hb ea_nil) H1 e _ fun H2 e2 => ⟨b, l, B, ns, rfl, h.mono (e.trans e2), ex_l (e.trans e2) hl, hns, hn, h60, fun p H' np => q _ H' (e2.trans np.ex) ⟨p, rfl, np.at⟩⟩
/-- an entry, by what it is -/
def EntR : Hp → V → Ent → Prop := fun H v e => ∃ t, v = .ref t ∧ EntAt H t e
theorem EntR.mo : MoT EntR := fun {H H' v y} e ⟨t, h1, h2⟩ => ⟨t, h1, e _ _ h2⟩
end
/-! ### _law_layered -/
def sp_l_layered (K : PySem.W.Frag) (C : CA) : Sp := fun vs H Q _ => ∃ (a pn : Addr) (ns : List Int) (xs : List Str), vs = [.ref a, .ref pn] ∧ SqL K H a (ns.map V.int) ∧ ns.length ≤ 100 ∧ SqL K H pn (xs.map V.str) ∧ GoodNames xs ∧
  ∀ p L H', NewBk H H' p L → GoodBk L → L.length ≤ 5 → Q (.ref p) H'
theorem len_l_layered {K : PySem.W.Frag} {C : CA} {vs : List V} {H : Hp} {Q : VK} {E : XK} (h : sp_l_layered K C vs H Q E) : vs.length = 2 := by
  obtain ⟨a, pn, ns, xs, rfl, _⟩ := h
  rfl
/-- _law_script 0, _law_names_here 1, _law_base_here 2, _law_cell 3, _law_day 4, _law_worth 5, _law_rows 6, _law_k 7 -/
def t_l_layered (K : PySem.W.Frag) (C : CA) : TS :=
 (tSeq (tAsg (tCall (sp_l_base K C) [] E0 (tCons (tVar 0) tNil)) (gName 2))
 (tSeq (tAsg (tCall (sp_l_of K C) [] E0 (tCons (tVar 0) (tCons (tC (.int 4)) tNil))) (gName 3))
 (tSeq (tAsg (tOp (addA K) (tOp (addA K) (tVar 2) (tC (.int 1))) (tOp (modI) (tVar 3) (tC (.int 4)))) (gName 4))
 (tSeq (tAsg (tOp (modI) (tOp (divI) (tVar 3) (tC (.int 4))) (tC (.int 3))) (gName 5))
 (tSeq (tAsg (tLst (tCons (tTup (tCons (tC (.str "tell")) (tCons (tOp (ixA K) (tVar 1) (tC (.int 0))) (tCons (tVar 2) (tCons (tOp (addA K) (tVar 2) (tC (.int 5))) (tCons (tVar 5) tNil)))))) (tCons (tTup (tCons (tC (.str "tell")) (tCons (tOp (ixA K) (tVar 1) (tC (.int 1))) (tCons (tVar 4) (tCons (tOp (addA K) (tVar 4) (tOp (modI) (tOp (divI) (tVar 3) (tC (.int 12))) (tC (.int 2)))) (tCons (tVar 5) tNil)))))) tNil))) (gName 6))
 (tSeq (tAsg (tOp (addA K) (tVar 6) (tLst (tCons (tTup (tCons (tC (.str "like")) (tCons (tOp (ixA K) (tVar 1) (tC (.int 0))) (tCons (tVar 4) (tCons (tOp (addA K) (tVar 4) (tOp (modI) (tOp (divI) (tVar 3) (tC (.int 24))) (tC (.int 2)))) (tCons (tOp (ixA K) (tVar 1) (tC (.int 1))) tNil)))))) (tCons (tTup (tCons (tC (.str "clear")) (tCons (tOp (ixA K) (tVar 1) (tC (.int 2))) (tCons (tVar 2) (tCons (tVar 4) tNil))))) tNil)))) (gName 6))
 (tSeq (tAsg (tOp (addA K) (tVar 6) (tLst (tCons (tTup (tCons (tC (.str "tell")) (tCons (tOp (ixA K) (tVar 1) (tOp (modI) (tOp (divI) (tVar 3) (tC (.int 48))) (tC (.int 3)))) (tCons (tOp (subI) (tVar 4) (tC (.int 1))) (tCons (tOp (addA K) (tOp (subI) (tVar 4) (tC (.int 1))) (tOp (modI) (tOp (divI) (tVar 3) (tC (.int 144))) (tC (.int 2)))) (tCons (tOp (modI) (tOp (divI) (tVar 3) (tC (.int 288))) (tC (.int 3))) tNil)))))) tNil))) (gName 6))
 (tRet (tCB (dictC K) (tCons (tLc (iRng1 (tCons (tOp (addA K) (tC (.int 3)) (tOp (modI) (tOp (divI) (tVar 3) (tC (.int 864))) (tC (.int 3)))) tNil)) (gName 7) tYes (tTup (tCons (tOp (addA K) (tVar 7) (tC (.int 1))) (tCons (tOp (ixA K) (tVar 6) (tVar 7)) tNil))) [7]) tNil))))))))))
theorem pure_l_layered {K : PySem.W.Frag} {C : CA} {vs : List V} {H : Hp} {Q : VK} {E : XK} (h : sp_l_layered K C vs H Q E) : t_l_layered K C { nx := fun _ H' => Q .non H', rt := Q } (startN 8 vs) H := by
  obtain ⟨a, pn, ns, xs, rfl, hS, hl, hN, hg, kk⟩ := h
  have hb0 := baseF_ok ns
  refine q_asg (ev_base (ev_var rfl) hS hl) fun H1 e1 => ?_
  generalize baseF ns = base at hb0 ⊢
  refine q_asg (ev_of (k := 4) (ev_var rfl) ev_c (ex_l e1 hS) hl) fun H2 e2 => ?_
  generalize ns.getD 4 0 = cell
  have hm4 := mod_lt cell (show (0 : Int) < 4 by decide)
  refine q_asg (ev_add (ev_add (ev_var rfl) ev_c) (ev_mod (ev_var rfl) ev_c (by decide))) fun H3 e3 => ?_
  obtain ⟨day, hday, hd0, hd1⟩ : ∃ day, day = base + 1 + cell % 4 ∧ 1 ≤ day ∧ day ≤ 999990 := ⟨_, rfl, by omega, by omega⟩
  have hdb : base + 1 ≤ day := by omega
  rw [← hday]
  have hmw := mod_lt (cell / 4) (show (0 : Int) < 3 by decide)
  refine q_asg (ev_mod (ev_div (ev_var rfl) ev_c ⟨by decide, by decide⟩) ev_c (by decide)) fun H4 e4 => ?_
  obtain ⟨w, hw, hw0, hw1⟩ : ∃ w, w = cell / 4 % 3 ∧ 0 ≤ w ∧ w ≤ 2 := ⟨_, rfl, by omega, by omega⟩
  rw [← hw]
  have E4 : Ex H H4 := ((e1.trans e2).trans e3).trans e4
  have hN4 := ex_l E4 hN
  have h12 := mod_lt (cell / 12) (show (0 : Int) < 2 by decide)
  have h24 := mod_lt (cell / 24) (show (0 : Int) < 2 by decide)
  have h48 := name_at hg (cell / 48)
  have h144 := mod_lt (cell / 144) (show (0 : Int) < 2 by decide)
  have h288 := mod_lt (cell / 288) (show (0 : Int) < 3 by decide)
  have h864 := mod_lt (cell / 864) (show (0 : Int) < 3 by decide)
  have hx3 : xs.length = 3 := hg.1
  have nm : ∀ i : Nat, i < 3 → NameS (xs.getD i Str.empty) := fun i hi => hg.2 _ (getD_mem _ (by omega))
  have en : ∀ {σ : L2.St} {H5 : Hp} (i : Nat), i < 3 → Ex H4 H5 → σ[1]? = some (some (.ref pn)) → Ev (tOp (ixA K) (tVar 1) (tC (.int (i : Int)))) σ H5 (.str (xs.getD i Str.empty)) := fun i hi e hσ => by
    have := ev_name (K := K) (ta := tVar 1) (tb := tC (.int (i : Int))) (i := (i : Int)) (ev_var hσ) ev_c (ex_l e hN4) (by omega) (by omega)
    rwa [Int.toNat_natCast] at this
  refine q_asgP (F := EntR) (ys := [Ent.tell (xs.getD 0 Str.empty) base (base + 5) w, Ent.tell (xs.getD 1 Str.empty) day (day + cell / 12 % 2) w]) (ep_lst EntR.mo.mo (eap_cons EntR.mo.mo (ex_evU (eu_tup (ea_cons ev_c (ea_cons (en 0 (by omega) (Ex.refl _) rfl) (ea_cons (ev_var rfl) (ea_cons (ev_add (ev_var rfl) ev_c) (ea_cons (ev_var rfl) ea_nil))))) (by simp)) fun p H1 _ h1 => ⟨p, rfl, h1⟩)
    (eap_cons EntR.mo.mo (ex_evU (eu_tup (ea_cons ev_c (ea_cons (en 1 (by omega) (Ex.refl _) rfl) (ea_cons (ev_var rfl) (ea_cons (ev_add (ev_var rfl) (ev_mod (ev_div (ev_var rfl) ev_c ⟨by decide, by decide⟩) ev_c (by decide))) (ea_cons (ev_var rfl) ea_nil))))) (by simp)) fun p H1 _ h1 => ⟨p, rfl, h1⟩) eap_nil)) (by simp)) fun p6 us H5 hp6 e5 h5 hus => ?_
  refine q_asgP (F := EntR) (ys := [Ent.tell (xs.getD 0 Str.empty) base (base + 5) w, Ent.tell (xs.getD 1 Str.empty) day (day + cell / 12 % 2) w] ++ [Ent.like (xs.getD 0 Str.empty) day (day + cell / 24 % 2) (xs.getD 1 Str.empty), Ent.clear (xs.getD 2 Str.empty) base day]) (ep_catV EntR.mo.mo (ev_var rfl) h5 hus (ep_lst EntR.mo.mo (eap_cons EntR.mo.mo (ex_evU (eu_tup (ea_cons ev_c (ea_cons (en 0 (by omega) e5 rfl) (ea_cons (ev_var rfl) (ea_cons (ev_add (ev_var rfl) (ev_mod (ev_div (ev_var rfl) ev_c ⟨by decide, by decide⟩) ev_c (by decide))) (ea_cons (en 1 (by omega) e5 rfl) ea_nil))))) (by simp)) fun p H1 _ h1 => ⟨p, rfl, h1⟩)
    (eap_cons EntR.mo.mo (ex_evU (eu_tup (ea_cons ev_c (ea_cons (en 2 (by omega) e5 rfl) (ea_cons (ev_var rfl) (ea_cons (ev_var rfl) ea_nil)))) (by simp)) fun p H1 _ h1 => ⟨p, rfl, h1⟩) eap_nil)) (by simp)) (by simp)) fun p7 us7 H6 hp7 e6 h6 hus6 => ?_
  refine q_asgP (F := EntR) (ys := ([Ent.tell (xs.getD 0 Str.empty) base (base + 5) w, Ent.tell (xs.getD 1 Str.empty) day (day + cell / 12 % 2) w] ++ [Ent.like (xs.getD 0 Str.empty) day (day + cell / 24 % 2) (xs.getD 1 Str.empty), Ent.clear (xs.getD 2 Str.empty) base day]) ++ [Ent.tell (xs.getD (cell / 48 % 3).toNat Str.empty) (day - 1) (day - 1 + cell / 144 % 2) (cell / 288 % 3)]) (ep_catV EntR.mo.mo (ev_var rfl) h6 hus6 (ep_lst EntR.mo.mo (eap_cons EntR.mo.mo (ex_evU (eu_tup (ea_cons ev_c (ea_cons (ev_name (ev_var rfl) (ev_mod (ev_div (ev_var rfl) ev_c ⟨by decide, by decide⟩) ev_c (by decide)) (ex_l (e5.trans e6) hN4) h48.2.1 h48.2.2) (ea_cons (ev_sub (ev_var rfl) ev_c) (ea_cons (ev_add (ev_sub (ev_var rfl) ev_c) (ev_mod (ev_div (ev_var rfl) ev_c ⟨by decide, by decide⟩) ev_c (by decide))) (ea_cons (ev_mod (ev_div (ev_var rfl) ev_c ⟨by decide, by decide⟩) ev_c (by decide)) ea_nil))))) (by simp)) fun p H1 _ h1 => ⟨p, rfl, h1⟩) eap_nil) (by simp)) (by simp)) fun p8 us8 H7 hp8 e7 h7 hus7 => ?_
  have hok : ∀ k : Int, ∀ e ∈ ([Ent.tell (xs.getD 0 Str.empty) base (base + 5) w, Ent.tell (xs.getD 1 Str.empty) day (day + cell / 12 % 2) w] ++ [Ent.like (xs.getD 0 Str.empty) day (day + cell / 24 % 2) (xs.getD 1 Str.empty), Ent.clear (xs.getD 2 Str.empty) base day]) ++ [Ent.tell (xs.getD (cell / 48 % 3).toNat Str.empty) (day - 1) (day - 1 + cell / 144 % 2) (cell / 288 % 3)], e.ok k := fun k e he => by
    simp only [List.cons_append, List.nil_append, List.mem_cons, List.not_mem_nil, or_false] at he
    rcases he with rfl | rfl | rfl | rfl | rfl
    · exact ⟨nm 0 (by omega), by omega, by omega, by omega, by omega, by omega⟩
    · exact ⟨nm 1 (by omega), by omega, by omega, by omega, by omega, by omega⟩
    · exact ⟨nm 0 (by omega), by omega, by omega, by omega, nm 1 (by omega)⟩
    · exact ⟨nm 2 (by omega), by omega, by omega, by omega⟩
    · exact ⟨h48.1, by omega, by omega, by omega, by omega, by omega⟩
  have hlen5 : (([Ent.tell (xs.getD 0 Str.empty) base (base + 5) w, Ent.tell (xs.getD 1 Str.empty) day (day + cell / 12 % 2) w] ++ [Ent.like (xs.getD 0 Str.empty) day (day + cell / 24 % 2) (xs.getD 1 Str.empty), Ent.clear (xs.getD 2 Str.empty) base day]) ++ [Ent.tell (xs.getD (cell / 48 % 3).toNat Str.empty) (day - 1) (day - 1 + cell / 144 % 2) (cell / 288 % 3)]).length = 5 := rfl
  generalize (([Ent.tell (xs.getD 0 Str.empty) base (base + 5) w, Ent.tell (xs.getD 1 Str.empty) day (day + cell / 12 % 2) w] ++ [Ent.like (xs.getD 0 Str.empty) day (day + cell / 24 % 2) (xs.getD 1 Str.empty), Ent.clear (xs.getD 2 Str.empty) base day]) ++ [Ent.tell (xs.getD (cell / 48 % 3).toNat Str.empty) (day - 1) (day - 1 + cell / 144 % 2) (cell / 288 % 3)]) = es at hus7 hok hlen5
  obtain ⟨m, hm⟩ : ∃ m : Nat, (m : Int) = 3 + cell / 864 % 3 := ⟨(3 + cell / 864 % 3).toNat, Int.toNat_of_nonneg (by omega)⟩
  have hm5 : m ≤ 5 := by omega
  let v : Nat → Int × Ent := fun i => ((i : Int) + 1, es.getD i (.undo 0))
  have hv : ∀ i, i < m → es.getD i (.undo 0) ∈ es := fun i hi => getD_mem _ (by omega)
  have pairs : EvP (tLc (iRng1 (tCons (tOp (addA K) (tC (.int 3)) (tOp (modI) (tOp (divI) (tVar 3) (tC (.int 864))) (tC (.int 3)))) tNil)) (gName 7) tYes (tTup (tCons (tOp (addA K) (tVar 7) (tC (.int 1))) (tCons (tOp (ixA K) (tVar 6) (tVar 7)) tNil))) [7]) ([some (.ref a), some (.ref pn), some (.int base), some (.int cell), some (.int day), some (.int w), some (.ref p8), none] : L2.St) H7 NumR (((List.range m).filter fun _ => true).map v) := fun H8 e8 Q q => by
    unfold tLc iRng1
    refine ea_cons (ev_add ev_c (ev_mod (ev_div (ev_var rfl) ev_c ⟨by decide, by decide⟩) ev_c (by decide))) ea_nil H8 e8 _ fun H9 e9 => ⟨_, rfl, by omega, by omega, ?_⟩
    rw [← hm, Int.toNat_natCast]
    refine lc_walk (F := NumR) (zs := List.range m) (walk_range (lo := 0)) (by simp) (by omega) (fun _ _ => trivial) (fun _ => true) v NumR.mo ?_ fun p xs H4 hp e4 h4 hps => q p xs H4 (fresh_back e9 hp) (e9.trans e4) h4 hps
    rintro i x z H10 H11 hz e10 ⟨rfl, rfl⟩ Qg qg
    obtain ⟨hi1, hi2⟩ := List.getElem?_eq_some_iff.mp hz
    rw [List.getElem_range] at hi2
    subst hi2
    rw [List.length_range] at hi1
    refine qg _ H11 (Ex.refl H11) rfl et_yes fun _ => ?_
    have E11 : Ex H7 H11 := (e8.trans e9).trans e10
    have ht : ∃ t, us8[i]? = some (.ref t) ∧ EntAt H7 t (es.getD i (.undo 0)) := by
      have hl8 := Paired.length hus7
      have hi8 : i < us8.length := by omega
      obtain ⟨y, hy, t, h1, h2⟩ := paired_get hus7 (List.getElem?_eq_getElem hi8)
      refine ⟨t, by rw [List.getElem?_eq_getElem hi8, h1], ?_⟩
      rw [List.getD_eq_getElem?_getD, hy]
      exact h2
    obtain ⟨t, ht1, ht2⟩ := ht
    have e0 : (0 : Int) + (i : Int) = (i : Int) := Int.zero_add _
    show EvX _ ([some (.ref a), some (.ref pn), some (.int base), some (.int cell), some (.int day), some (.int w), some (.ref p8), some (.int ((0 : Int) + (i : Int)))] : L2.St) H11 _
    rw [e0]
    exact ex_evU (eu_tup (ea_cons (ev_add (ev_var rfl) ev_c) (ea_cons (ev_ixL (ev_var rfl) (ev_var rfl) (sq_of (E11 p8 _ h7)) (atI_nat ht1)) ea_nil)) (by simp)) fun p H12 e12 h12 => ⟨p, rfl, t, h12, (E11.trans e12) _ _ ht2⟩
  rw [List.filter_eq_self.mpr fun _ _ => rfl] at pairs
  have hnd : (((List.range m).map v).map (·.1)).Nodup := by
    rw [List.map_map]
    exact List.Pairwise.map _ (fun x y hxy e => hxy (by have e : (x : Int) + 1 = (y : Int) + 1 := e; omega)) (List.nodup_range (n := m))
  have E7 : Ex H H7 := ((E4.trans e5).trans e6).trans e7
  refine at_dictNum (Q := Q) pairs hnd (by rw [List.length_map, List.length_range]; omega) fun p H8 nb => ?_
  refine kk p _ H8 (nb.back E7) (fun q hq => ?_) (by rw [List.length_map, List.length_range]; omega)
  obtain ⟨i, hi, rfl⟩ := List.mem_map.mp hq
  rw [List.mem_range] at hi
  exact ⟨by show 1 ≤ (i : Int) + 1; omega, hok _ _ (hv i hi)⟩
end S
end
set_option Elab.async false
set_option linter.all false
set_option maxRecDepth 100000
set_option maxHeartbeats 4000000
namespace S
open PySem L2 Evl
/-! ### a book and what is added behind it -/
structure MoreOk (last : Int) (M : Bk) : Prop where
  gt : ∀ q ∈ M, last < q.1
  good : GoodBk M
  und : ∀ q ∈ M, ∀ t, q.2 = .undo t → last < t
  nd : (M.map (·.1)).Nodup
theorem at_app {A M : Bk} {k : Int} : Bk.at (A ++ M) k = match Bk.at A k with
    | some e => some e
    | none => Bk.at M k := by
  induction A with
  | nil => rfl
  | cons p A ih =>
    rw [List.cons_append]
    by_cases h : p.1 = k
    · rw [Bk.at_cons_pos h, Bk.at_cons_pos h]
    · rw [Bk.at_cons_neg h, Bk.at_cons_neg h, ih]
theorem at_none {A : Bk} {k : Int} (h : k ∉ A.map (·.1)) : Bk.at A k = none := by
  cases e : Bk.at A k with
  | none => rfl
  | some x => exact absurd (List.mem_map_of_mem (f := (·.1)) (Bk.at_mem e)) h
theorem at_app_left {A M : Bk} {k : Int} (h : k ∈ A.map (·.1)) : Bk.at (A ++ M) k = Bk.at A k := by
  obtain ⟨e, he⟩ := Bk.at_isSome h
  rw [at_app, he]
theorem at_app_right {A M : Bk} {k : Int} (h : k ∉ A.map (·.1)) : Bk.at (A ++ M) k = Bk.at M k := by rw [at_app, at_none h]
section
variable {A M : Bk} {last n : Int}
theorem app_nd (hA : (A.map (·.1)).Nodup) (hle : ∀ q ∈ A, q.1 ≤ last) (hM : MoreOk last M) : ((A ++ M).map (·.1)).Nodup := by
  rw [List.map_append, List.nodup_append]
  refine ⟨hA, hM.nd, fun a ha b hb z => ?_⟩
  obtain ⟨p, hp, rfl⟩ := List.mem_map.mp ha
  obtain ⟨q, hq, rfl⟩ := List.mem_map.mp hb
  have := hle p hp
  have := hM.gt q hq
  omega
theorem app_good (hA : GoodBk A) (hM : MoreOk last M) : GoodBk (A ++ M) := fun q hq => by
  rcases List.mem_append.mp hq with h | h
  · exact hA q h
  · exact hM.good q h
theorem app_downs (hA : (A.map (·.1)).Nodup) (hle : ∀ q ∈ A, q.1 ≤ last) (hM : MoreOk last M) : downs ((A ++ M).map (·.1)) = downs (M.map (·.1)) ++ downs (A.map (·.1)) := by
  refine (downs_of ?_ ?_).symm
  · rw [List.map_append]
    exact ((downs_perm _).append (downs_perm _)).trans List.perm_append_comm
  · rw [List.pairwise_append]
    refine ⟨downs_sorted _, downs_sorted _, fun a ha b hb => ?_⟩
    obtain ⟨p, hp, rfl⟩ := List.mem_map.mp ((downs_perm _).mem_iff.mp ha)
    obtain ⟨q, hq, rfl⟩ := List.mem_map.mp ((downs_perm _).mem_iff.mp hb)
    have := hle q hq
    have := hM.gt p hp
    show p.1 ≥ q.1
    omega
theorem fold_shift {B : Bk} {U0 F0 : List Int} (hn : last ≤ n) (hU : ∀ t ∈ U0, last < t) : ∀ (ys : List Int) (F U : List Int), (∀ y ∈ ys, y ≤ last) → (∀ y ∈ ys, Bk.at B y = Bk.at A y) → ys.foldl (countStep B n) (F0 ++ F, U0 ++ U) = (F0 ++ (ys.foldl (countStep A last) (F, U)).1, U0 ++ (ys.foldl (countStep A last) (F, U)).2)
  | [], F, U, _, _ => rfl
  | y :: ys, F, U, hy, hat => by
    have hy0 := hy y List.mem_cons_self
    have step : countStep B n (F0 ++ F, U0 ++ U) y = (F0 ++ (countStep A last (F, U) y).1, U0 ++ (countStep A last (F, U) y).2) := by
      unfold countStep
      have hc : (y ≤ n ∧ y ∉ U0 ++ U) ↔ (y ≤ last ∧ y ∉ U) := by
        rw [List.mem_append]
        constructor
        · rintro ⟨_, h⟩; exact ⟨hy0, fun z => h (.inr z)⟩
        · rintro ⟨_, h⟩
          refine ⟨by omega, ?_⟩
          rintro (z | z)
          · have := hU y z; omega
          · exact h z
      by_cases h : y ≤ last ∧ y ∉ U
      · rw [if_pos (hc.mpr h), if_pos h, hat y List.mem_cons_self, List.append_assoc, List.append_assoc]
      · rw [if_neg (fun z => h (hc.mp z)), if_neg h]
    rw [List.foldl_cons, List.foldl_cons, step]
    exact fold_shift hn hU ys _ _ (fun z hz => hy z (List.mem_cons_of_mem _ hz)) fun z hz => hat z (List.mem_cons_of_mem _ hz)
theorem undone_gt (hM : MoreOk last M) (ys : List Int) : ∀ t ∈ (countAll M n ys).2, last < t := by
  have : ∀ (ys : List Int) (st : List Int × List Int), (∀ t ∈ st.2, last < t) → ∀ t ∈ (ys.foldl (countStep M n) st).2, last < t := by
    intro ys
    induction ys with
    | nil => intro st h; exact h
    | cons y ys ih =>
      intro st h
      refine ih _ fun t ht => ?_
      unfold countStep at ht
      split at ht
      · rcases List.mem_append.mp ht with ht | ht
        · exact h t ht
        · cases e : Bk.at M y with
          | none => rw [e] at ht; cases ht
          | some x =>
            rw [e] at ht
            have ht : t ∈ x.undoes := ht
            cases x with
            | undo j =>
              have : t = j := List.mem_singleton.mp ht
              rw [this]
              exact hM.und _ (Bk.at_mem e) j rfl
            | tell => cases ht
            | clear => cases ht
            | like => cases ht
      · exact h t ht
  exact this ys ([], []) fun t ht => by cases ht
theorem countF_app (hA : (A.map (·.1)).Nodup) (hle : ∀ q ∈ A, q.1 ≤ last) (hM : MoreOk last M) (hn : last ≤ n) : countF (A ++ M) n = countF A last ++ countF M n := by
  unfold countF
  rw [app_downs hA hle hM]
  have hAk : ∀ k ∈ A.map (·.1), k ≤ last := fun k hk => by obtain ⟨q, hq, rfl⟩ := List.mem_map.mp hk; exact hle q hq
  have h1 : countAll (A ++ M) n (downs (M.map (·.1))) = countAll M n (downs (M.map (·.1))) := countAll_congr fun k hk => by
    refine at_app_right fun z => ?_
    obtain ⟨q, hq, rfl⟩ := List.mem_map.mp ((downs_perm _).mem_iff.mp hk)
    have := hAk _ z
    have := hM.gt q hq
    omega
  have h2 : countAll (A ++ M) n (downs (M.map (·.1)) ++ downs (A.map (·.1))) = (downs (A.map (·.1))).foldl (countStep (A ++ M) n) (countAll M n (downs (M.map (·.1)))) := by
    rw [← h1]
    unfold countAll
    rw [List.foldl_append]
  rw [h2]
  have h3 := fold_shift (A := A) (B := A ++ M) (n := n) (F0 := (countAll M n (downs (M.map (·.1)))).1) (U0 := (countAll M n (downs (M.map (·.1)))).2) hn (undone_gt hM _) (downs (A.map (·.1))) [] [] (fun y hy => hAk y ((downs_perm _).mem_iff.mp hy)) fun y hy => at_app_left ((downs_perm _).mem_iff.mp hy)
  rw [List.append_nil, List.append_nil] at h3
  have e : ((countAll M n (downs (M.map (·.1)))).1, (countAll M n (downs (M.map (·.1)))).2) = countAll M n (downs (M.map (·.1))) := rfl
  rw [e] at h3
  rw [h3]
  show ((countAll M n (downs (M.map (·.1)))).1 ++ (countAll A last (downs (A.map (·.1)))).1).reverse = _
  rw [List.reverse_append]
end
/-- what a name comes to: told, or another name to go on with -/
def saidC (B : Bk) (day : Int) : List Int → Str → Sum (Option Int) Str
  | [], name => .inr name
  | k :: r, name => match Bk.at B k with
    | some (.tell n lo hi w) => if n = name ∧ lo ≤ day ∧ day ≤ hi then .inl (some w) else saidC B day r name
    | some (.clear n lo hi) => if n = name ∧ lo ≤ day ∧ day ≤ hi then .inl none else saidC B day r name
    | some (.like n lo hi o) => if n = name ∧ lo ≤ day ∧ day ≤ hi then saidC B day r o else saidC B day r name
    | _ => saidC B day r name
def goOn (B : Bk) (day : Int) (ys : List Int) : Sum (Option Int) Str → Option Int
  | .inl v => v
  | .inr nm => saidL B day ys nm
theorem saidL_app (B : Bk) (day : Int) (ys : List Int) : ∀ (xs : List Int) (name : Str), saidL B day (xs ++ ys) name = goOn B day ys (saidC B day xs name)
  | [], _ => rfl
  | k :: r, name => by
    have ih := saidL_app B day ys r
    rw [List.cons_append]
    unfold saidL saidC
    cases Bk.at B k with
    | none => exact ih name
    | some e =>
      cases e with
      | tell n lo hi w => dsimp only; split; · rfl
                          · exact ih name
      | clear n lo hi => dsimp only; split; · rfl
                         · exact ih name
      | like n lo hi o => dsimp only; split; · exact ih o
                          · exact ih name
      | undo j => exact ih name
theorem saidC_congr {B B' : Bk} {day : Int} : ∀ {ns : List Int}, (∀ k ∈ ns, Bk.at B k = Bk.at B' k) → ∀ name, saidC B day ns name = saidC B' day ns name
  | [], _, _ => rfl
  | k :: r, h, name => by
    have ih := saidC_congr (B := B) (B' := B') (day := day) (ns := r) fun j hj => h j (List.mem_cons_of_mem _ hj)
    unfold saidC
    rw [h k List.mem_cons_self]
    cases Bk.at B' k with
    | none => exact ih name
    | some e =>
      cases e with
      | tell n lo hi w => dsimp only; rw [ih]
      | clear n lo hi => dsimp only; rw [ih]
      | like n lo hi o => dsimp only; rw [ih, ih]
      | undo j => exact ih name
theorem worth_app {A M : Bk} {last n : Int} (hA : (A.map (·.1)).Nodup) (hle : ∀ q ∈ A, q.1 ≤ last) (hM : MoreOk last M) (hn : last ≤ n) (name : Str) (day : Int) :
    worthF (A ++ M) n name day = match saidC M day (countF M n).reverse name with
      | .inl v => v
      | .inr nm => worthF A last nm day := by
  unfold worthF saidF
  rw [countF_app hA hle hM hn, List.reverse_append, saidL_app]
  rw [saidC_congr (B := A ++ M) (B' := M) fun k hk => ?_]
  · cases saidC M day (countF M n).reverse name with
    | inl v => rfl
    | inr nm =>
      show saidL (A ++ M) day (countF A last).reverse nm = saidL A day (countF A last).reverse nm
      refine saidL_congr (fun k hk => ?_) nm
      exact at_app_left (countF_mem (List.mem_reverse.mp hk)).1
  · refine at_app_right fun z => ?_
    obtain ⟨q, hq, rfl⟩ := List.mem_map.mp (countF_mem (List.mem_reverse.mp hk)).1
    obtain ⟨p, hp, e⟩ := List.mem_map.mp z
    have := hle p hp
    have := hM.gt q hq
    omega
/-- the shorter book goes on like the whole -/
theorem gone_on {B M : Bk} {n : Int} (hn : (B.map (·.1)).Nodup) (hg : GoodBk B) (hM : MoreOk (maxK B) M) (h : maxK B ≤ n) (name : Str) (day : Int) : worthF (shortF B ++ M) n name day = worthF (B ++ M) n name day := by
  rw [worth_app (short_nd hn hg) (fun q hq => short_le hn hg hq) hM h, worth_app hn (fun q hq => maxK_le (List.mem_map_of_mem (f := (·.1)) hq)) hM h]
  cases saidC M day (countF M n).reverse name with
  | inl v => rfl
  | inr nm => exact short_worth hn hg nm day
theorem maxK_app (A M : Bk) : maxK A ≤ maxK (A ++ M) := by
  unfold maxK
  rw [List.map_append]
  have : ∀ l m : List Int, l.foldr max 0 ≤ (l ++ m).foldr max 0 := by
    intro l m
    induction l with
    | nil => exact foldr_max_nn _
    | cons x l ih =>
      rw [List.cons_append, List.foldr_cons, List.foldr_cons]
      omega
  exact this _ _
end S
set_option Elab.async false
set_option linter.all false
set_option maxRecDepth 100000
set_option maxHeartbeats 4000000
namespace S
open PySem L2 Evl
/-! ### a keeper: the mathematics -/
theorem more_nil (m : Int) : MoreOk m [] := ⟨(fun q h => by cases h), (fun q h => by cases h), (fun q h => by cases h), List.nodup_nil⟩
theorem worth_beyond {A : Bk} {m n : Int} (hA : (A.map (·.1)).Nodup) (hle : ∀ q ∈ A, q.1 ≤ m) (hn : m ≤ n) (name : Str) (day : Int) : worthF A n name day = worthF A m name day := by
  have h := worth_app hA hle (more_nil m) hn name day
  rw [List.append_nil] at h
  rw [h]
  have h2 : countF [] n = [] := by
    have := countF_len [] n
    exact List.length_eq_zero_iff.mp (by simpa using this)
  rw [h2]
  rfl
/-- all entries R that were ever added, the keeper's book S, its floor, the last number -/
structure Keeps (R S : Bk) (floor last : Int) : Prop where
  ex : ∃ R0 S0 M, R = R0 ++ M ∧ S = S0 ++ M ∧ (∀ q ∈ R0, q.1 ≤ floor) ∧ (∀ q ∈ S0, q.1 ≤ floor) ∧ MoreOk floor M ∧ (R0.map (·.1)).Nodup ∧ (S0.map (·.1)).Nodup ∧ GoodBk R0 ∧ GoodBk S0 ∧ (∀ name day, worthF S0 floor name day = worthF R0 floor name day)
  le : ∀ q ∈ R, q.1 ≤ last
  leS : ∀ q ∈ S, q.1 ≤ last
  fl : 0 ≤ floor ∧ floor ≤ last
  len : S.length ≤ R.length
theorem Keeps.start : Keeps [] [] 0 0 := ⟨⟨[], [], [], rfl, rfl, (fun q h => by cases h), (fun q h => by cases h), more_nil 0, List.nodup_nil, List.nodup_nil, (fun q h => by cases h), (fun q h => by cases h), fun _ _ => rfl⟩, (fun q h => by cases h), (fun q h => by cases h), ⟨Int.le_refl 0, Int.le_refl 0⟩, Nat.le_refl _⟩
section
variable {R S : Bk} {floor last : Int}
theorem Keeps.nd (h : Keeps R S floor last) : (R.map (·.1)).Nodup ∧ (S.map (·.1)).Nodup := by
  obtain ⟨R0, S0, M, rfl, rfl, h1, h2, h3, h4, h5, h6, h7, h8⟩ := h.ex
  exact ⟨app_nd h4 h1 h3, app_nd h5 h2 h3⟩
theorem Keeps.good (h : Keeps R S floor last) : GoodBk R ∧ GoodBk S := by
  obtain ⟨R0, S0, M, rfl, rfl, h1, h2, h3, h4, h5, h6, h7, h8⟩ := h.ex
  exact ⟨app_good h6 h3, app_good h7 h3⟩
theorem Keeps.worth (h : Keeps R S floor last) {n : Int} (hn : floor ≤ n) (name : Str) (day : Int) : worthF S n name day = worthF R n name day := by
  obtain ⟨R0, S0, M, rfl, rfl, h1, h2, h3, h4, h5, h6, h7, h8⟩ := h.ex
  rw [worth_app h5 h2 h3 hn, worth_app h4 h1 h3 hn]
  cases saidC M day (countF M n).reverse name with
  | inl v => rfl
  | inr nm => exact h8 nm day
theorem Keeps.runs (h : Keeps R S floor last) {n : Int} (hn : floor ≤ n) (name : Str) (low high : Int) : runsF S n name low high = runsF R n name low high := runs_on fun d _ _ => h.worth hn name d
theorem Keeps.add (h : Keeps R S floor last) {e : Ent} (he : e.ok (last + 1)) (hu : ∀ t, e = .undo t → floor < t) : Keeps (R ++ [(last + 1, e)]) (S ++ [(last + 1, e)]) floor (last + 1) := by
  have hle := h.le
  have hleS := h.leS
  have hfl := h.fl
  have hlen := h.len
  obtain ⟨R0, S0, M, hR, hS, h1, h2, h3, h4, h5, h6, h7, h8⟩ := h.ex
  have k1 : ∀ q ∈ [(last + 1, e)], q = (last + 1, e) := fun q hq => List.mem_singleton.mp hq
  refine ⟨⟨R0, S0, M ++ [(last + 1, e)], by rw [hR, List.append_assoc], by rw [hS, List.append_assoc], h1, h2, ⟨fun q hq => ?_, fun q hq => ?_, fun q hq t ht => ?_, ?_⟩, h4, h5, h6, h7, h8⟩, fun q hq => ?_, fun q hq => ?_, ⟨hfl.1, by omega⟩, by rw [List.length_append, List.length_append]; simp; omega⟩
  · rcases List.mem_append.mp hq with g | g
    · exact h3.gt q g
    · rw [k1 q g]; show floor < last + 1; omega
  · rcases List.mem_append.mp hq with g | g
    · exact h3.good q g
    · rw [k1 q g]; exact ⟨by show 1 ≤ last + 1; omega, he⟩
  · rcases List.mem_append.mp hq with g | g
    · exact h3.und q g t ht
    · rw [k1 q g] at ht; exact hu t ht
  · rw [List.map_append]
    refine List.nodup_append.mpr ⟨h3.nd, by simp, fun a ha b hb => ?_⟩
    obtain ⟨q, hq, rfl⟩ := List.mem_map.mp ha
    have : q.1 ≤ last := hle q (by rw [hR]; exact List.mem_append_right _ hq)
    have hb : b = last + 1 := by simpa using hb
    rw [hb]
    omega
  · rcases List.mem_append.mp hq with g | g
    · have := hle q g; omega
    · rw [k1 q g]; exact Int.le_refl _
  · rcases List.mem_append.mp hq with g | g
    · have := hleS q g; omega
    · rw [k1 q g]; exact Int.le_refl _
theorem maxK_below {A : Bk} {m : Int} (h0 : 0 ≤ m) (h : ∀ q ∈ A, q.1 ≤ m) (hg : GoodBk A) : maxK A ≤ m := by
  by_cases c : A = []
  · subst c; exact h0
  · obtain ⟨q, hq, e⟩ := List.mem_map.mp (maxK_mem hg c)
    have := h q hq
    omega
theorem Keeps.short (h : Keeps R S floor last) : Keeps R (shortF S) last last := by
  have hfl := h.fl
  have hl0 : 0 ≤ last := by omega
  have hmx := maxK_below hl0 h.leS h.good.2
  have hle : ∀ q ∈ shortF S, q.1 ≤ last := fun q hq => by have := short_le h.nd.2 h.good.2 hq; omega
  refine ⟨⟨R, shortF S, [], (List.append_nil _).symm, (List.append_nil _).symm, h.le, hle, more_nil last, h.nd.1, short_nd h.nd.2 h.good.2, h.good.1, short_good h.nd.2 h.good.2, fun name day => ?_⟩, h.le, hle, ⟨hl0, Int.le_refl _⟩, Nat.le_trans (short_len h.nd.2 h.good.2) h.len⟩
  rw [worth_beyond (short_nd h.nd.2 h.good.2) (fun q hq => short_le h.nd.2 h.good.2 hq) hmx, short_worth h.nd.2 h.good.2]
  rw [← worth_beyond (n := last) h.nd.2 (fun q hq => maxK_le (List.mem_map_of_mem (f := (·.1)) hq)) hmx]
  exact h.worth hfl.2 name day
end
end S
set_option Elab.async false
set_option linter.all false
set_option maxRecDepth 100000
set_option maxHeartbeats 4000000
section
open PySem L2 Evl S
local macro_rules | `(tactic| array_get_dec) => `(tactic| first
  | exact ev_c
  | exact ev_var rfl
  | exact S.eo_no
  | exact ea_nil
  | (apply S.eo_some <;> array_get_dec)
  | (apply ea_cons <;> array_get_dec)
  | (apply S.ev_add <;> array_get_dec)
  | (apply S.ev_sub <;> array_get_dec)
  | (apply S.ev_div <;> first | array_get_dec | exact ⟨by decide, by decide⟩ | exact ⟨by omega, by omega⟩)
  | (apply S.ev_mod <;> first | array_get_dec | decide | omega)
  | (apply S.ev_mulr <;> first | array_get_dec | exact ⟨by decide, by decide⟩ | exact ⟨by omega, by omega⟩)
  | (apply S.ev_mull <;> first | array_get_dec | exact ⟨by decide, by decide⟩ | exact ⟨by omega, by omega⟩)
  | (apply S.ev_neg <;> array_get_dec)
  | (apply S.ev_min <;> array_get_dec)
  | (apply S.ev_max <;> array_get_dec)
  | (apply S.ev_eqI <;> array_get_dec)
  | (apply S.ev_eqS <;> array_get_dec)
  | (apply S.ev_neI <;> array_get_dec)
  | (apply S.ev_neS <;> array_get_dec)
  | (apply S.ev_lt <;> array_get_dec)
  | (apply S.ev_le <;> array_get_dec)
  | (apply S.ev_gt <;> array_get_dec)
  | (apply S.ev_ge <;> array_get_dec)
  | (apply S.ev_intB <;> array_get_dec)
  | (apply et_test <;> array_get_dec)
  | (apply et_B <;> array_get_dec)
  | (apply et_not <;> array_get_dec)
  | (refine' et_and ?_ (fun _ => ?_) <;> array_get_dec)
  | (refine' et_or ?_ (fun _ => ?_) <;> array_get_dec))
namespace S
/-! ### frames: all but some addresses stays; tuples stay -/
structure Fr (Z : List Addr) (H H' : Hp) : Prop where
  keep : ∀ a o, a ∉ Z → H a = some o → H' a = some o
  tup : ExT H H'
theorem Fr.of {Z : List Addr} {H H' : Hp} (e : Ex H H') : Fr Z H H' := ⟨fun a o _ h => e a o h, ext_of e⟩
theorem Fr.refl {Z : List Addr} {H : Hp} : Fr Z H H := Fr.of (Ex.refl H)
theorem Fr.trans {Z : List Addr} {H1 H2 H3 : Hp} (a : Fr Z H1 H2) (b : Fr Z H2 H3) : Fr Z H1 H3 := ⟨fun x o hx h => b.keep x o hx (a.keep x o hx h), a.tup.trans b.tup⟩
theorem Fr.mono {Z Z' : List Addr} {H H' : Hp} (h : Fr Z H H') (hs : ∀ z ∈ Z, z ∈ Z') : Fr Z' H H' := ⟨fun a o ha e => h.keep a o (fun z => ha (hs a z)) e, h.tup⟩
theorem Fr.upd {a : Addr} {H : Hp} {o o' : HO} (h : H a = some o) (ho : ∀ xs, o ≠ .tup xs) : Fr [a] H (upd H a o') := ⟨fun b x hb e => by rw [upd_ne (fun z => hb (by rw [z]; simp))]; exact e, ExT.put h ho⟩
theorem Fr.ent {Z : List Addr} {H H' : Hp} {t : Addr} {e : Ent} (h : Fr Z H H') (x : EntAt H t e) : EntAt H' t e := h.tup _ _ x
theorem Fr.rel {Z : List Addr} {H H' : Hp} {kvs : List (Key × V)} {B : Bk} (h : Fr Z H H') (x : BkRel H kvs B) : BkRel H' kvs B := Paired.imp (fun p q ⟨h1, t, h2, h3⟩ => ⟨h1, t, h2, h.ent h3⟩) x
/-- what was there, and one new address that went another way -/
theorem Fr.drop {a : Addr} {Z : List Addr} {H H' : Hp} (h : Fr (a :: Z) H H') (ha : H a = none) : Fr Z H H' := ⟨fun b o hb e => h.keep b o (fun z => by
  rcases List.mem_cons.mp z with z | z
  · rw [z, ha] at e; cases e
  · exact hb z) e, h.tup⟩
/-! ### a Keeper -/
structure KCls (K : PySem.W.Frag) (C : CA) : Prop where
  cl : Cls K C.Keeper
  nG : NoAttr K C.Keeper "given"
  nL : NoAttr K C.Keeper "least"
  nR : NoAttr K C.Keeper "rows"
theorem f_rg : ¬ (("rows" : Str) = "given") := by decide +kernel
theorem f_rl : ¬ (("rows" : Str) = "least") := by decide +kernel
theorem f_gl : ¬ (("given" : Str) = "least") := by decide +kernel
def kf (d : Addr) (g l : Int) : List (Str × V) := putF "least" (.int l) (putF "given" (.int g) (putF "rows" (.ref d) []))
theorem kf_eq (d : Addr) (g l : Int) : kf d g l = ([("rows", V.ref d), ("given", V.int g), ("least", V.int l)] : List (Str × V)) := by
  have e1 : putF "given" (.int g) ([("rows", V.ref d)] : List (Str × V)) = ([("rows", V.ref d), ("given", V.int g)] : List (Str × V)) := by
    show (if ("rows" : Str) = "given" then _ else (("rows" : Str), V.ref d) :: putF "given" (V.int g) []) = _
    rw [if_neg f_rg]
    rfl
  unfold kf
  show putF "least" (.int l) (putF "given" (.int g) ([("rows", V.ref d)] : List (Str × V))) = _
  rw [e1]
  show (if ("rows" : Str) = "least" then _ else (("rows" : Str), V.ref d) :: (if ("given" : Str) = "least" then _ else (("given" : Str), V.int g) :: putF "least" (V.int l) [])) = _
  rw [if_neg f_rl, if_neg f_gl]
  rfl
theorem kf_rows (d : Addr) (g l : Int) : (kf d g l).lookup ("rows" : Str) = some (.ref d) := by
  unfold kf
  rw [lookup_putF, if_neg f_rl, lookup_putF, if_neg f_rg, lookup_putF, if_pos rfl]
theorem kf_given (d : Addr) (g l : Int) : (kf d g l).lookup ("given" : Str) = some (.int g) := by
  unfold kf
  rw [lookup_putF, if_neg f_gl, lookup_putF, if_pos rfl]
theorem kf_least (d : Addr) (g l : Int) : (kf d g l).lookup ("least" : Str) = some (.int l) := by
  unfold kf
  rw [lookup_putF, if_pos rfl]
theorem kf_no (d : Addr) (g l : Int) {m : Str} (h1 : ¬ m = "least") (h2 : ¬ m = "given") (h3 : ¬ m = "rows") : (kf d g l).lookup m = none := by
  unfold kf
  rw [lookup_putF, if_neg h1, lookup_putF, if_neg h2, lookup_putF, if_neg h3]
  rfl
theorem kf_len (d : Addr) (g l : Int) : (kf d g l).length = 3 := by rw [kf_eq]; rfl
theorem kf_putG (d : Addr) (g l g' : Int) : putF "given" (.int g') (kf d g l) = kf d g' l := by
  rw [kf_eq, kf_eq]
  show (if ("rows" : Str) = "given" then _ else (("rows" : Str), V.ref d) :: (if ("given" : Str) = "given" then (("given" : Str), V.int g') :: [("least", V.int l)] else _)) = _
  rw [if_neg f_rg, if_pos rfl]
theorem kf_putL (d : Addr) (g l l' : Int) : putF "least" (.int l') (kf d g l) = kf d g l' := by
  rw [kf_eq, kf_eq]
  show (if ("rows" : Str) = "least" then _ else (("rows" : Str), V.ref d) :: (if ("given" : Str) = "least" then _ else (("given" : Str), V.int g) :: (if ("least" : Str) = "least" then [(("least" : Str), V.int l')] else _))) = _
  rw [if_neg f_rl, if_neg f_gl, if_pos rfl]
theorem kf_putR (d d' : Addr) (g l : Int) : putF "rows" (.ref d') (kf d g l) = kf d' g l := by
  rw [kf_eq, kf_eq]
  show (if ("rows" : Str) = "rows" then (("rows" : Str), V.ref d') :: [("given", V.int g), ("least", V.int l)] else _) = _
  rw [if_pos rfl]
structure KeepAt (K : PySem.W.Frag) (C : CA) (H : Hp) (p d : Addr) (B : Bk) (g l : Int) : Prop where
  ob : ∃ dx, H p = some (.ins C.Keeper dx (kf d g l))
  dc : ∃ kvs, H d = some (.dK kvs) ∧ BkRel H kvs B
  nd : (B.map (·.1)).Nodup
  few : B.length ≤ 30
  gd : GoodBk B
  le : ∀ q ∈ B, q.1 ≤ g
  kc : KCls K C
theorem KeepAt.frm {K : PySem.W.Frag} {C : CA} {H H' : Hp} {p d : Addr} {B : Bk} {g l : Int} {Z : List Addr} (h : KeepAt K C H p d B g l) (f : Fr Z H H') (hp : p ∉ Z) (hd : d ∉ Z) : KeepAt K C H' p d B g l :=
  ⟨let ⟨dx, h1⟩ := h.ob; ⟨dx, f.keep p _ hp h1⟩, let ⟨kvs, h1, h2⟩ := h.dc; ⟨kvs, f.keep d _ hd h1, f.rel h2⟩, h.nd, h.few, h.gd, h.le, h.kc⟩
theorem KeepAt.mono {K : PySem.W.Frag} {C : CA} {H H' : Hp} {p d : Addr} {B : Bk} {g l : Int} (h : KeepAt K C H p d B g l) (e : Ex H H') : KeepAt K C H' p d B g l := h.frm (Z := []) (Fr.of e) (fun z => by cases z) (fun z => by cases z)
theorem KeepAt.bk {K : PySem.W.Frag} {C : CA} {H : Hp} {p d : Addr} {B : Bk} {g l : Int} (h : KeepAt K C H p d B g l) : BookAt H d B := ⟨let ⟨kvs, h1, h2⟩ := h.dc; ⟨kvs, .inl h1, h2⟩, h.nd, by have := h.few; omega⟩
theorem KeepAt.ne {K : PySem.W.Frag} {C : CA} {H : Hp} {p d : Addr} {B : Bk} {g l : Int} (h : KeepAt K C H p d B g l) : p ≠ d := fun z => by
  obtain ⟨dx, h1⟩ := h.ob
  obtain ⟨kvs, h2, _⟩ := h.dc
  rw [z, h2] at h1
  cases h1
section
variable {K : PySem.W.Frag} {C : CA} {σ : L2.St} {H H' : Hp} {t : TT} {ta tb tc td te tf : TE} {D : Ends} {tu tz : TS} {p d : Addr} {B L : Bk} {g l n : Int}
theorem ev_rows (ha : Ev ta σ H (.ref p)) (h : KeepAt K C H p d B g l) : Ev (tFld K ta "rows") σ H (.ref d) := fun H1 e Q q => ha H1 e _ fun H2 e2 => by
  obtain ⟨dx, h1⟩ := (h.mono (e.trans e2)).ob
  exact ⟨p, C.Keeper, dx, _, _, rfl, h1, h.kc.cl, h.kc.nR, kf_rows _ _ _, q H2 e2⟩
theorem ev_given (ha : Ev ta σ H (.ref p)) (h : KeepAt K C H p d B g l) : Ev (tFld K ta "given") σ H (.int g) := fun H1 e Q q => ha H1 e _ fun H2 e2 => by
  obtain ⟨dx, h1⟩ := (h.mono (e.trans e2)).ob
  exact ⟨p, C.Keeper, dx, _, _, rfl, h1, h.kc.cl, h.kc.nG, kf_given _ _ _, q H2 e2⟩
theorem ev_least (ha : Ev ta σ H (.ref p)) (h : KeepAt K C H p d B g l) : Ev (tFld K ta "least") σ H (.int l) := fun H1 e Q q => ha H1 e _ fun H2 e2 => by
  obtain ⟨dx, h1⟩ := (h.mono (e.trans e2)).ob
  exact ⟨p, C.Keeper, dx, _, _, rfl, h1, h.kc.cl, h.kc.nL, kf_least _ _ _, q H2 e2⟩
/-- a method of it: what the promise asks, behind the arguments -/
theorem at_meth {m : Str} {sp : Sp} {E : XK} {tA : TA} {vs : List V} {Q : VK} (ha : Ev ta σ H (.ref p)) (hA : EvA tA σ H vs) (h : KeepAt K C H p d B g l) (h1 : ¬ m = "least") (h2 : ¬ m = "given") (h3 : ¬ m = "rows") (q : ∀ H1, Ex H H1 → sp (.ref p :: vs) H1 Q E) : tMeth C.Keeper m sp [] E ta tA σ H Q := by
  unfold tMeth
  refine ha H (Ex.refl H) _ fun H1 e1 => ?_
  obtain ⟨dx, g1⟩ := (h.mono e1).ob
  refine ⟨p, dx, _, rfl, g1, kf_no _ _ _ h1 h2 h3, hA H1 e1 _ fun H2 e2 => ?_⟩
  rw [List.append_nil]
  exact q H2 (e1.trans e2)
end
/-! ### need_entry -/
def sp_need_entry (K : PySem.W.Frag) (C : CA) : Sp := fun vs H Q E => ∃ (v : V) (d : PyData), vs = [v] ∧ Dq H d v ∧ (entryD d = true → ∀ H', Ex H H' → Q v H') ∧ (entryD d = false → ∀ H', Ex H H' → E (.ref C.BadEntry) none H')
theorem len_need_entry {K : PySem.W.Frag} {C : CA} {vs : List V} {H : Hp} {Q : VK} {E : XK} (h : sp_need_entry K C vs H Q E) : vs.length = 1 := by
  obtain ⟨v, d, rfl, _⟩ := h
  rfl
/-- entry 0 -/
def t_need_entry (K : PySem.W.Frag) (C : CA) (E : XK) : TS :=
 (tSeq (tIfS (tNot (tB (tCall (sp_is_entry K C) [] E0 (tCons (tVar 0) tNil)))) (tRaiseC E C.BadEntry) tNext)
 (tRet (tVar 0)))
theorem pure_need_entry {K : PySem.W.Frag} {C : CA} {vs : List V} {H : Hp} {Q : VK} {E : XK} (h : sp_need_entry K C vs H Q E) : t_need_entry K C E { nx := fun _ H' => Q .non H', rt := Q } (startN 1 vs) H := by
  obtain ⟨v, d, rfl, hd, k1, k2⟩ := h
  have he : Ev (tCall (sp_is_entry K C) [] E0 (tCons (tVar 0) tNil)) (startN 1 [v]) H (.bl (entryD d)) := ev_call (ea_cons (ev_var rfl) ea_nil) fun H1 e Q q E => ⟨v, d, rfl, hd.mono e, q⟩
  refine q_when (et_not (et_B he)) (fun c H1 e1 => ?_) (fun c H1 e1 => ?_)
  · exact k2 (by simpa using c) H1 e1
  · exact s_ret (ev_var rfl) fun H2 e2 => k1 (by simpa using c) H2 (e1.trans e2)
/-! ### the methods -/
def sp_Keeper_init (K : PySem.W.Frag) (C : CA) : Sp := fun vs H Q _ => ∃ (p dx : Addr), vs = [.ref p] ∧ H p = some (.ins C.Keeper dx []) ∧ KCls K C ∧ ∀ d H', H d = none → Fr [p] H H' → KeepAt K C H' p d [] 0 0 → Q .non H'
theorem len_Keeper_init {K : PySem.W.Frag} {C : CA} {vs : List V} {H : Hp} {Q : VK} {E : XK} (h : sp_Keeper_init K C vs H Q E) : vs.length = 1 := by
  obtain ⟨p, dx, rfl, _⟩ := h
  rfl
/-- self 0 -/
def t_Keeper_init (K : PySem.W.Frag) (C : CA) : TS :=
 (tSeq (sFld K (tVar 0) tDNewK "rows")
 (tSeq (sFld K (tVar 0) (tC (.int 0)) "given")
 (sFld K (tVar 0) (tC (.int 0)) "least")))
theorem pure_Keeper_init {K : PySem.W.Frag} {C : CA} {vs : List V} {H : Hp} {Q : VK} {E : XK} (h : sp_Keeper_init K C vs H Q E) : t_Keeper_init K C { nx := fun _ H' => Q .non H', rt := Q } (startN 1 vs) H := by
  obtain ⟨p, dx, rfl, hp, kc, k⟩ := h
  intro d hd
  have npd : p ≠ d := ne_of_none hp hd
  have h1 : (upd H d (.dK [])) p = some (.ins C.Keeper dx []) := by rw [upd_ne npd]; exact hp
  refine ⟨_, rfl, p, C.Keeper, dx, [], rfl, h1, kc.cl, kc.nR, (by decide), ?_⟩
  refine ⟨_, rfl, p, C.Keeper, dx, _, rfl, upd_same, kc.cl, kc.nG, (by show 1 < 1000; decide), ?_⟩
  refine ⟨_, rfl, p, C.Keeper, dx, _, rfl, upd_same, kc.cl, kc.nL, ?_, ?_⟩
  · have : ∀ (f : Str) (v : V) (fs : List (Str × V)), (putF f v fs).length ≤ fs.length + 1 := by
      intro f v fs
      induction fs with
      | nil => exact Nat.le_refl _
      | cons a r ih =>
        obtain ⟨a, x⟩ := a
        show (if a = f then (a, v) :: r else (a, x) :: putF f v r).length ≤ _
        split
        · simp
        · rw [List.length_cons, List.length_cons]; omega
    have h1 := this "given" (.int 0) (putF "rows" (.ref d) [])
    have h2 := this "rows" (.ref d) []
    simp only [List.length_nil] at h2
    omega
  · refine k d _ hd ⟨fun b o hb e => ?_, fun q xs hq => ?_⟩ ⟨⟨dx, upd_same⟩, ⟨[], by rw [upd_ne npd.symm, upd_ne npd.symm, upd_ne npd.symm]; exact upd_same, .nil⟩, List.nodup_nil, by simp, (fun q h => by cases h), (fun q h => by cases h), kc⟩
    · have hb' : b ≠ p := fun z => hb (by rw [z]; simp)
      rw [upd_ne hb', upd_ne hb', upd_ne hb', upd_ne (ne_of_none e hd)]
      exact e
    · have hb' : q ≠ p := fun z => by rw [z, hp] at hq; cases hq
      rw [upd_ne hb', upd_ne hb', upd_ne hb', upd_ne (ne_of_none hq hd)]
      exact hq
def sp_Keeper_last (K : PySem.W.Frag) (C : CA) : Sp := fun vs H Q _ => ∃ (p d : Addr) (B : Bk) (g l : Int), vs = [.ref p] ∧ KeepAt K C H p d B g l ∧ ∀ H', Ex H H' → Q (.int g) H'
theorem len_Keeper_last {K : PySem.W.Frag} {C : CA} {vs : List V} {H : Hp} {Q : VK} {E : XK} (h : sp_Keeper_last K C vs H Q E) : vs.length = 1 := by
  obtain ⟨p, d, B, g, l, rfl, _⟩ := h
  rfl
/-- self 0 -/
def t_Keeper_last (K : PySem.W.Frag) (C : CA) : TS :=
 (tRet (tFld K (tVar 0) "given"))
theorem pure_Keeper_last {K : PySem.W.Frag} {C : CA} {vs : List V} {H : Hp} {Q : VK} {E : XK} (h : sp_Keeper_last K C vs H Q E) : t_Keeper_last K C { nx := fun _ H' => Q .non H', rt := Q } (startN 1 vs) H := by
  obtain ⟨p, d, B, g, l, rfl, ka, k⟩ := h
  exact s_ret (ev_given (ev_var rfl) ka) k
def sp_Keeper_book (K : PySem.W.Frag) (C : CA) : Sp := fun vs H Q _ => ∃ (p d : Addr) (B : Bk) (g l : Int), vs = [.ref p] ∧ KeepAt K C H p d B g l ∧ ∀ q H', NewBk H H' q B → Q (.ref q) H'
theorem len_Keeper_book {K : PySem.W.Frag} {C : CA} {vs : List V} {H : Hp} {Q : VK} {E : XK} (h : sp_Keeper_book K C vs H Q E) : vs.length = 1 := by
  obtain ⟨p, d, B, g, l, rfl, _⟩ := h
  rfl
/-- self 0 -/
def t_Keeper_book (K : PySem.W.Frag) (C : CA) : TS :=
 (tRet (tCB (dictC K) (tCons (tFld K (tVar 0) "rows") tNil)))
theorem pure_Keeper_book {K : PySem.W.Frag} {C : CA} {vs : List V} {H : Hp} {Q : VK} {E : XK} (h : sp_Keeper_book K C vs H Q E) : t_Keeper_book K C { nx := fun _ H' => Q .non H', rt := Q } (startN 1 vs) H := by
  obtain ⟨p, d, B, g, l, rfl, ka, k⟩ := h
  exact ed_book (ev_rows (ev_var rfl) ka) ka.bk H (Ex.refl H) _ k
def sp_Keeper_need_known (K : PySem.W.Frag) (C : CA) : Sp := fun vs H Q E => ∃ (p d : Addr) (B : Bk) (g l n : Int), vs = [.ref p, .int n] ∧ KeepAt K C H p d B g l ∧ (l ≤ n → ∀ H', Ex H H' → Q .non H') ∧ (n < l → ∀ H', Ex H H' → E (.ref C.Gone) none H')
theorem len_Keeper_need_known {K : PySem.W.Frag} {C : CA} {vs : List V} {H : Hp} {Q : VK} {E : XK} (h : sp_Keeper_need_known K C vs H Q E) : vs.length = 2 := by
  obtain ⟨p, d, B, g, l, n, rfl, _⟩ := h
  rfl
/-- self 0, n 1 -/
def t_Keeper_need_known (K : PySem.W.Frag) (C : CA) (E : XK) : TS :=
 (tIfS (tTest (tOp (ltI) (tVar 1) (tFld K (tVar 0) "least"))) (tRaiseC E C.Gone) tNext)
theorem pure_Keeper_need_known {K : PySem.W.Frag} {C : CA} {vs : List V} {H : Hp} {Q : VK} {E : XK} (h : sp_Keeper_need_known K C vs H Q E) : t_Keeper_need_known K C E { nx := fun _ H' => Q .non H', rt := Q } (startN 2 vs) H := by
  obtain ⟨p, d, B, g, l, n, rfl, ka, k1, k2⟩ := h
  refine s_when (et_test (ev_lt (ev_var rfl) (ev_least (ev_var rfl) ka))) (fun c H1 e1 => ?_) (fun c H1 e1 => ?_)
  · exact k2 (of_decide_eq_true c) H1 e1
  · exact k1 (by have := of_decide_eq_false c; omega) H1 e1
theorem m_known1 : ¬ (("need_known" : Str) = "least") := by decide +kernel
theorem m_known2 : ¬ (("need_known" : Str) = "given") := by decide +kernel
theorem m_known3 : ¬ (("need_known" : Str) = "rows") := by decide +kernel
/-- self.need_known(n) -/
theorem q_known {K : PySem.W.Frag} {C : CA} {σ : L2.St} {H : Hp} {ta tb : TE} {D : Ends} {tz : TS} {p d : Addr} {B : Bk} {g l n : Int} {E : XK} (ha : Ev ta σ H (.ref p)) (hb : Ev tb σ H (.int n)) (h : KeepAt K C H p d B g l) (k1 : l ≤ n → ∀ H1, Ex H H1 → tz D σ H1) (k2 : n < l → ∀ H1, Ex H H1 → E (.ref C.Gone) none H1) :
    tSeq (tDrop (tMeth C.Keeper "need_known" (sp_Keeper_need_known K C) [] E ta (tCons tb tNil))) tz D σ H :=
  at_meth ha (ea_cons hb ea_nil) h m_known1 m_known2 m_known3 fun H1 e1 => ⟨p, d, B, g, l, n, rfl, h.mono e1, fun c H2 e2 => k1 c H2 (e1.trans e2), fun c H2 e2 => k2 c H2 (e1.trans e2)⟩
def sp_Keeper_worth (K : PySem.W.Frag) (C : CA) : Sp := fun vs H Q E => ∃ (p d : Addr) (B : Bk) (g l n : Int) (name : Str) (day : Int), vs = [.ref p, .int n, .str name, .int day] ∧ KeepAt K C H p d B g l ∧ (l ≤ n → ∀ H', Ex H H' → Q (optV (worthF B n name day)) H') ∧ (n < l → ∀ H', Ex H H' → E (.ref C.Gone) none H')
theorem len_Keeper_worth {K : PySem.W.Frag} {C : CA} {vs : List V} {H : Hp} {Q : VK} {E : XK} (h : sp_Keeper_worth K C vs H Q E) : vs.length = 4 := by
  obtain ⟨p, d, B, g, l, n, name, day, rfl, _⟩ := h
  rfl
/-- self 0, n 1, name 2, day 3 -/
def t_Keeper_worth (K : PySem.W.Frag) (C : CA) (E : XK) : TS :=
 (tSeq (tDrop (tMeth C.Keeper "need_known" (sp_Keeper_need_known K C) [] E (tVar 0) (tCons (tVar 1) tNil)))
 (tRet (tCall (sp_worth_of K C) [] E0 (tCons (tFld K (tVar 0) "rows") (tCons (tVar 1) (tCons (tVar 2) (tCons (tVar 3) tNil)))))))
theorem pure_Keeper_worth {K : PySem.W.Frag} {C : CA} {vs : List V} {H : Hp} {Q : VK} {E : XK} (h : sp_Keeper_worth K C vs H Q E) : t_Keeper_worth K C E { nx := fun _ H' => Q .non H', rt := Q } (startN 4 vs) H := by
  obtain ⟨p, d, B, g, l, n, name, day, rfl, ka, k1, k2⟩ := h
  refine q_known (ev_var rfl) (ev_var rfl) ka (fun c H1 e1 => ?_) k2
  have ka1 := ka.mono e1
  exact s_ret (D := { nx := _, rt := Q }) (ev_worth (ev_rows (ev_var rfl) ka1) (ev_var rfl) (ev_var rfl) (ev_var rfl) ka1.bk) fun H2 e2 => k1 c H2 (e1.trans e2)
def sp_Keeper_runs (K : PySem.W.Frag) (C : CA) : Sp := fun vs H Q E => ∃ (p d : Addr) (B : Bk) (g l n : Int) (name : Str) (low high : Int), vs = [.ref p, .int n, .str name, .int low, .int high] ∧ KeepAt K C H p d B g l ∧ low ≤ high ∧
  (l ≤ n → ∀ q xs H', H q = none → Ex H H' → H' q = some (.lst xs) → Paired (RowR H') xs (runsF B n name low high) → Q (.ref q) H') ∧ (n < l → ∀ H', Ex H H' → E (.ref C.Gone) none H')
theorem len_Keeper_runs {K : PySem.W.Frag} {C : CA} {vs : List V} {H : Hp} {Q : VK} {E : XK} (h : sp_Keeper_runs K C vs H Q E) : vs.length = 5 := by
  obtain ⟨p, d, B, g, l, n, name, low, high, rfl, _⟩ := h
  rfl
/-- self 0, n 1, name 2, low 3, high 4 -/
def t_Keeper_runs (K : PySem.W.Frag) (C : CA) (E : XK) : TS :=
 (tSeq (tDrop (tMeth C.Keeper "need_known" (sp_Keeper_need_known K C) [] E (tVar 0) (tCons (tVar 1) tNil)))
 (tRet (tCall (sp_runs_of K C) [] E0 (tCons (tFld K (tVar 0) "rows") (tCons (tVar 1) (tCons (tVar 2) (tCons (tVar 3) (tCons (tVar 4) tNil))))))))
theorem pure_Keeper_runs {K : PySem.W.Frag} {C : CA} {vs : List V} {H : Hp} {Q : VK} {E : XK} (h : sp_Keeper_runs K C vs H Q E) : t_Keeper_runs K C E { nx := fun _ H' => Q .non H', rt := Q } (startN 5 vs) H := by
  obtain ⟨p, d, B, g, l, n, name, low, high, rfl, ka, hlh, k1, k2⟩ := h
  refine q_known (ev_var rfl) (ev_var rfl) ka (fun c H1 e1 => ?_) k2
  have ka1 := ka.mono e1
  exact s_retP (D := { nx := _, rt := Q }) (ep_runs2 (ev_rows (ev_var rfl) ka1) (ev_var rfl) (ev_var rfl) (ev_var rfl) (ev_var rfl) ka1.bk (by have := ka.few; omega) hlh) fun q xs H2 hq e2 h2 hp => k1 c q xs H2 (fresh_back e1 hq) (e1.trans e2) h2 hp
def sp_Keeper_why (K : PySem.W.Frag) (C : CA) : Sp := fun vs H Q E => ∃ (p d : Addr) (B : Bk) (g l n : Int) (name : Str) (low high : Int), vs = [.ref p, .int n, .str name, .int low, .int high] ∧ KeepAt K C H p d B g l ∧ low ≤ high ∧
  (l ≤ n → ∀ q H', H q = none → Ex H H' → H' q = some (.lst ((hangK B n name low high).map V.int)) → Q (.ref q) H') ∧ (n < l → ∀ H', Ex H H' → E (.ref C.Gone) none H')
theorem len_Keeper_why {K : PySem.W.Frag} {C : CA} {vs : List V} {H : Hp} {Q : VK} {E : XK} (h : sp_Keeper_why K C vs H Q E) : vs.length = 5 := by
  obtain ⟨p, d, B, g, l, n, name, low, high, rfl, _⟩ := h
  rfl
/-- self 0, n 1, name 2, low 3, high 4 -/
def t_Keeper_why (K : PySem.W.Frag) (C : CA) (E : XK) : TS :=
 (tSeq (tDrop (tMeth C.Keeper "need_known" (sp_Keeper_need_known K C) [] E (tVar 0) (tCons (tVar 1) tNil)))
 (tRet (tCall (sp_hangs_on K C) [] E0 (tCons (tFld K (tVar 0) "rows") (tCons (tVar 1) (tCons (tVar 2) (tCons (tVar 3) (tCons (tVar 4) tNil))))))))
theorem el_hangs {K : PySem.W.Frag} {C : CA} {σ : L2.St} {H : Hp} {ta tb tc td te : TE} {b : Addr} {B : Bk} {n : Int} {name : Str} {low high : Int} (ha : Ev ta σ H (.ref b)) (hb : Ev tb σ H (.int n)) (hc : Ev tc σ H (.str name)) (hd : Ev td σ H (.int low)) (he : Ev te σ H (.int high)) (h : BookAt H b B) (hl : B.length ≤ 30) (hg : GoodBk B) (hlh : low ≤ high) :
    EvL (tCall (sp_hangs_on K C) [] E0 (tCons ta (tCons tb (tCons tc (tCons td (tCons te tNil)))))) σ H ((hangK B n name low high).map V.int) :=
  el_call (ea_cons ha (ea_cons hb (ea_cons hc (ea_cons hd (ea_cons he ea_nil))))) fun H1 e1 Q q E => ⟨b, B, n, name, low, high, rfl, h.mono e1, hl, hg, hlh, q⟩
theorem pure_Keeper_why {K : PySem.W.Frag} {C : CA} {vs : List V} {H : Hp} {Q : VK} {E : XK} (h : sp_Keeper_why K C vs H Q E) : t_Keeper_why K C E { nx := fun _ H' => Q .non H', rt := Q } (startN 5 vs) H := by
  obtain ⟨p, d, B, g, l, n, name, low, high, rfl, ka, hlh, k1, k2⟩ := h
  refine q_known (ev_var rfl) (ev_var rfl) ka (fun c H1 e1 => ?_) k2
  have ka1 := ka.mono e1
  exact s_retL (D := { nx := _, rt := Q }) (el_hangs (ev_rows (ev_var rfl) ka1) (ev_var rfl) (ev_var rfl) (ev_var rfl) (ev_var rfl) ka1.bk ka.few ka.gd hlh) fun q H2 hq e2 h2 => k1 c q H2 (fresh_back e1 hq) (e1.trans e2) h2
/-! ### shorten -/
def sp_Keeper_shorten (K : PySem.W.Frag) (C : CA) : Sp := fun vs H Q _ => ∃ (p d : Addr) (B : Bk) (g l : Int), vs = [.ref p] ∧ KeepAt K C H p d B g l ∧ ∀ d' H', H d' = none → Fr [p] H H' → KeepAt K C H' p d' (shortF B) g g → Q (.int ((B.length : Int) - ((shortF B).length : Int))) H'
theorem len_Keeper_shorten {K : PySem.W.Frag} {C : CA} {vs : List V} {H : Hp} {Q : VK} {E : XK} (h : sp_Keeper_shorten K C vs H Q E) : vs.length = 1 := by
  obtain ⟨p, d, B, g, l, rfl, _⟩ := h
  rfl
/-- self 0, many 1 -/
def t_Keeper_shorten (K : PySem.W.Frag) (C : CA) : TS :=
 (tSeq (tAsg (tCB (lenA K) (tCons (tFld K (tVar 0) "rows") tNil)) (gName 1))
 (tSeq (sFld K (tVar 0) (tCall (sp_shortened K C) [] E0 (tCons (tFld K (tVar 0) "rows") tNil)) "rows")
 (tSeq (sFld K (tVar 0) (tFld K (tVar 0) "given") "least")
 (tRet (tOp (subI) (tVar 1) (tCB (lenA K) (tCons (tFld K (tVar 0) "rows") tNil)))))))
theorem s_fld_rows {K : PySem.W.Frag} {C : CA} {σ : L2.St} {H : Hp} {ta te : TE} {f : Str} {v : V} {D : Ends} {p dx : Addr} {fs : List (Str × V)} (h : Ev te σ H v) (ha : Ev ta σ H (.ref p)) (hp : H p = some (.ins C.Keeper dx fs)) (hc : Cls K C.Keeper) (hn : NoAttr K C.Keeper f) (hl : fs.length < 1000) (k : ∀ H1, Ex H H1 → D.nx σ (upd H1 p (.ins C.Keeper dx (putF f v fs)))) : sFld K ta te f D σ H :=
  h H (Ex.refl H) _ fun H1 e1 => ha H1 e1 _ fun H2 e2 => ⟨p, C.Keeper, dx, fs, rfl, (e1.trans e2) p _ hp, hc, hn, hl, k H2 (e1.trans e2)⟩
theorem pure_Keeper_shorten {K : PySem.W.Frag} {C : CA} {vs : List V} {H : Hp} {Q : VK} {E : XK} (h : sp_Keeper_shorten K C vs H Q E) : t_Keeper_shorten K C { nx := fun _ H' => Q .non H', rt := Q } (startN 2 vs) H := by
  obtain ⟨p, d, B, g, l, rfl, ka, k⟩ := h
  obtain ⟨kvs, hd, hr⟩ := ka.dc
  refine q_asg (ev_lenD (ev_rows (ev_var rfl) ka) (.inl hd)) fun H1 e1 => ?_
  have ka1 := ka.mono e1
  obtain ⟨kvs1, hd1, hr1⟩ := ka1.dc
  have hlen : kvs.length = B.length := hr.len
  rw [hlen]
  show tSeq _ _ _ ([some (.ref p), some (.int (B.length : Int))] : L2.St) H1
  have shape : sFld K (tVar 0) (tCall (sp_shortened K C) [] E0 (tCons (tFld K (tVar 0) "rows") tNil)) "rows" { nx := fun σ H' => (tSeq (sFld K (tVar 0) (tFld K (tVar 0) "given") "least") (tRet (tOp subI (tVar 1) (tCB (lenA K) (tCons (tFld K (tVar 0) "rows") tNil))))) { nx := fun _ H' => Q .non H', rt := Q } σ H', rt := Q } ([some (.ref p), some (.int (B.length : Int))] : L2.St) H1 := by
    unfold sFld
    refine (ev_rows (ev_var rfl) ka1) H1 (Ex.refl H1) _ fun H2 e2 => ?_
    have ka2 := ka1.mono e2
    obtain ⟨kvs2, hd2, hr2⟩ := ka2.dc
    refine ⟨d, B, kvs2, rfl, hd2, hr2, ka2.nd, ka2.few, ka2.gd, fun q H3 nq => ?_⟩
    have ka3 := ka2.mono nq.ex
    obtain ⟨dx, hp3⟩ := ka3.ob
    refine (ev_var (i := 0) (v := .ref p) rfl) H3 (Ex.refl H3) _ fun H4 e4 => ?_
    have hp4 := e4 p _ hp3
    refine ⟨p, C.Keeper, dx, _, rfl, hp4, ka.kc.cl, ka.kc.nR, by rw [kf_len]; decide, ?_⟩
    rw [kf_putR]
    have E4 : Ex H H4 := ((e1.trans e2).trans nq.ex).trans e4
    have hqp : q ≠ p := fun z => by
      have := nq.new
      obtain ⟨dx2, hp2⟩ := ka2.ob
      rw [z, hp2] at this
      cases this
    have f5 : Fr [p] H4 (upd H4 p (.ins C.Keeper dx (kf q g l))) := Fr.upd hp4 (fun _ z => by cases z)
    have nq4 := nq.step e4
    obtain ⟨kvq, hkq, hrq⟩ := nq4.dk
    have hsn := short_nd ka.nd ka.gd
    have hsg := short_good ka.nd ka.gd
    have hsl := short_len ka.nd ka.gd
    have ka5 : KeepAt K C (upd H4 p (.ins C.Keeper dx (kf q g l))) p q (shortF B) g l := ⟨⟨dx, upd_same⟩, ⟨kvq, f5.keep q _ (fun z => hqp (List.mem_singleton.mp z)) hkq, f5.rel hrq⟩, hsn, Nat.le_trans hsl ka.few, hsg, fun x hx => ka.le x (short_mem ka.nd ka.gd hx).1, ka.kc⟩
    have hqn : H q = none := fresh_back (e1.trans e2) nq.new
    have F5 : Fr [p] H (upd H4 p (.ins C.Keeper dx (kf q g l))) := (Fr.of E4).trans f5
    generalize upd H4 p (.ins C.Keeper dx (kf q g l)) = H5 at ka5 F5 ⊢
    obtain ⟨dx5, hp5⟩ := ka5.ob
    refine s_fld_rows (D := { nx := _, rt := Q }) (ev_given (ev_var rfl) ka5) (ev_var rfl) hp5 ka.kc.cl ka.kc.nL (by rw [kf_len]; decide) fun H6 e6 => ?_
    rw [kf_putL]
    have f7 : Fr [p] H6 (upd H6 p (.ins C.Keeper dx5 (kf q g g))) := Fr.upd (e6 p _ hp5) (fun _ z => by cases z)
    have ka6 := ka5.mono e6
    obtain ⟨kv6, hd6, hr6⟩ := ka6.dc
    have ka7 : KeepAt K C (upd H6 p (.ins C.Keeper dx5 (kf q g g))) p q (shortF B) g g := ⟨⟨dx5, upd_same⟩, ⟨kv6, f7.keep q _ (fun z => hqp (List.mem_singleton.mp z)) hd6, f7.rel hr6⟩, ka6.nd, ka6.few, ka6.gd, ka6.le, ka.kc⟩
    have F7 := (F5.trans (Fr.of e6)).trans f7
    generalize upd H6 p (.ins C.Keeper dx5 (kf q g g)) = H7 at ka7 F7 ⊢
    obtain ⟨kv7, hd7, hr7⟩ := ka7.dc
    have hl7 := ev_lenD (K := K) (ta := tFld K (tVar 0) "rows") (H := H7) (σ := [some (.ref p), some (.int (B.length : Int))]) (ev_rows (ev_var rfl) ka7) (.inl hd7)
    rw [hr7.len] at hl7
    refine s_ret (ev_sub (ev_var rfl) hl7) fun H8 e8 => ?_
    exact k q H8 hqn (F7.trans (Fr.of e8)) (ka7.mono e8)
  exact shape
end S
end
set_option Elab.async false
set_option linter.all false
set_option maxRecDepth 100000
set_option maxHeartbeats 4000000
namespace S
open PySem L2 Evl
section
variable {K : PySem.W.Frag} {C : CA} {σ : L2.St} {H H' : Hp} {ta tb tc td te tf : TE} {D : Ends} {tu tz : TS} {b : Addr} {B : Bk} {n : Int}
/-- d[k] = v, v told by what holds of it -/
theorem s_putX {p : Addr} {kvs : List (Key × V)} {k : Key} {P : Hp → V → Prop} (h : EvX te σ H P) (ha : Ev ta σ H (.ref p)) (hb : Ev tb σ H (kV k)) (hd : H p = some (.dK kvs)) (hz : kvs.length < 100000) (q : ∀ v H1, Ex H H1 → (∃ H0, Ex H0 H1 ∧ P H0 v) → D.nx σ (upd H1 p (.dK (putK kvs k v)))) : tAsg te (gSub ta tb setA) D σ H :=
  h H (Ex.refl H) _ fun v H1 e1 hv => ha H1 e1 _ fun H2 e2 => hb H2 (e1.trans e2) _ fun H3 e3 => .inr ⟨p, _, rfl, DPut.k (((e1.trans e2).trans e3) p _ hd) (sz_lt hz), q v H3 ((e1.trans e2).trans e3) ⟨H1, e2.trans e3, hv⟩⟩
theorem NewBk.put {p t : Addr} {k : Int} {e : Ent} {kvs : List (Key × V)} {H0 H1 : Hp} (h : NewBk H0 H p B) (hk : H p = some (.dK kvs)) (hr : BkRel H kvs B) (x : Ex H H1) (ht : EntAt H1 t e) (hl : (B.put k e).length ≤ 60) :
    NewBk H0 (upd H1 p (.dK (putK kvs (Sum.inl k : Key) (.ref t)))) p (B.put k e) := by
  have hp1 : H1 p = some (.dK kvs) := x p _ hk
  have exT : ExT H1 (upd H1 p (.dK (putK kvs (Sum.inl k : Key) (.ref t)))) := ExT.put hp1 fun _ z => by cases z
  refine ⟨h.new, Ex.mut (h.ex.trans x) h.new, ⟨_, upd_same, ?_⟩, Bk.put_nd k e h.nd, hl⟩
  have r1 : BkRel H1 kvs B := hr.mono x
  have r2 := r1.put (k := k) ht
  exact Paired.imp (fun a c ⟨h1, t, h2, h3⟩ => ⟨h1, t, h2, exT _ _ h3⟩) r2
theorem q_putX {p : Addr} {kvs : List (Key × V)} {k : Key} {P : Hp → V → Prop} (h : EvX te σ H P) (ha : Ev ta σ H (.ref p)) (hb : Ev tb σ H (kV k)) (hd : H p = some (.dK kvs)) (hz : kvs.length < 100000) (q : ∀ v H1, Ex H H1 → (∃ H0, Ex H0 H1 ∧ P H0 v) → tz D σ (upd H1 p (.dK (putK kvs k v)))) : tSeq (tAsg te (gSub ta tb setA)) tz D σ H :=
  s_putX (D := { D with nx := tz D }) h ha hb hd hz q
end
end S
set_option Elab.async false
set_option linter.all false
set_option maxRecDepth 100000
set_option maxHeartbeats 4000000
section
open PySem L2 Evl S
local macro_rules | `(tactic| array_get_dec) => `(tactic| first
  | exact ev_c
  | exact ev_var rfl
  | exact S.eo_no
  | exact ea_nil
  | (apply S.eo_some <;> array_get_dec)
  | (apply ea_cons <;> array_get_dec)
  | (apply S.ev_add <;> array_get_dec)
  | (apply S.ev_sub <;> array_get_dec)
  | (apply S.ev_div <;> first | array_get_dec | exact ⟨by decide, by decide⟩ | exact ⟨by omega, by omega⟩)
  | (apply S.ev_mod <;> first | array_get_dec | decide | omega)
  | (apply S.ev_mulr <;> first | array_get_dec | exact ⟨by decide, by decide⟩ | exact ⟨by omega, by omega⟩)
  | (apply S.ev_mull <;> first | array_get_dec | exact ⟨by decide, by decide⟩ | exact ⟨by omega, by omega⟩)
  | (apply S.ev_neg <;> array_get_dec)
  | (apply S.ev_min <;> array_get_dec)
  | (apply S.ev_max <;> array_get_dec)
  | (apply S.ev_eqI <;> array_get_dec)
  | (apply S.ev_eqS <;> array_get_dec)
  | (apply S.ev_neI <;> array_get_dec)
  | (apply S.ev_neS <;> array_get_dec)
  | (apply S.ev_lt <;> array_get_dec)
  | (apply S.ev_le <;> array_get_dec)
  | (apply S.ev_gt <;> array_get_dec)
  | (apply S.ev_ge <;> array_get_dec)
  | (apply S.ev_intB <;> array_get_dec)
  | (apply et_test <;> array_get_dec)
  | (apply et_B <;> array_get_dec)
  | (apply et_not <;> array_get_dec)
  | (refine' et_and ?_ (fun _ => ?_) <;> array_get_dec)
  | (refine' et_or ?_ (fun _ => ?_) <;> array_get_dec))
namespace S
/-! ### add -/
theorem name_str {s : Str} (h : nameD (.str s) = true) : NameS s := nameB_iff.mp h
theorem Ent.ok_of {e : Ent} {k : Int} (h : entryD (.tuple e.ds) = true) (hu : ∀ j, e = .undo j → j < k) : e.ok k := by
  have tt : decide (("tell" : Str) = "tell") = true := by decide +kernel
  have ct : decide (("clear" : Str) = "tell") = false := by decide +kernel
  have cc : decide (("clear" : Str) = "clear") = true := by decide +kernel
  have lt : decide (("like" : Str) = "tell") = false := by decide +kernel
  have lc : decide (("like" : Str) = "clear") = false := by decide +kernel
  have ll : decide (("like" : Str) = "like") = true := by decide +kernel
  have ut : decide (("undo" : Str) = "tell") = false := by decide +kernel
  have uc : decide (("undo" : Str) = "clear") = false := by decide +kernel
  have ul : decide (("undo" : Str) = "like") = false := by decide +kernel
  have uu : decide (("undo" : Str) = "undo") = true := by decide +kernel
  have four : ∀ {ds : List PyData} {n : Nat}, saidD ds n = true → nameD (ds.getD 1 .none) = true ∧ dayD (ds.getD 2 .none) = true ∧ dayD (ds.getD 3 .none) = true ∧ leD (ds.getD 2 .none) (ds.getD 3 .none) = true := fun h => by
    unfold saidD at h
    rw [Bool.and_eq_true, Bool.and_eq_true, Bool.and_eq_true, Bool.and_eq_true] at h
    exact ⟨h.1.1.1.2, h.1.1.2, h.1.2, h.2⟩
  have day : ∀ {i : Int}, dayD (.int i) = true → 0 ≤ i ∧ i ≤ 1000000 := fun h => by
    obtain ⟨j, ej, h1⟩ := day_int h
    cases ej
    exact h1
  cases e with
  | tell n lo hi w =>
    have h : entryD (.tuple (.str "tell" :: .str n :: [.int lo, .int hi, .int w])) = true := h
    rw [entryD_eq, if_pos tt, Bool.and_eq_true] at h
    obtain ⟨a, b, c, d⟩ := four h.1
    have hw : (decide (-1000000000 ≤ w) && decide (w ≤ 1000000000)) = true := h.2
    rw [Bool.and_eq_true, decide_eq_true_eq, decide_eq_true_eq] at hw
    have dd : lo ≤ hi := of_decide_eq_true d
    exact ⟨name_str a, (day b).1, dd, (day c).2, hw.1, hw.2⟩
  | clear n lo hi =>
    have h : entryD (.tuple (.str "clear" :: .str n :: [.int lo, .int hi])) = true := h
    rw [entryD_eq, if_neg (by rw [ct]; decide), if_pos cc] at h
    obtain ⟨a, b, c, d⟩ := four h
    have dd : lo ≤ hi := of_decide_eq_true d
    exact ⟨name_str a, (day b).1, dd, (day c).2⟩
  | like n lo hi o =>
    have h : entryD (.tuple (.str "like" :: .str n :: [.int lo, .int hi, .str o])) = true := h
    rw [entryD_eq, if_neg (by rw [lt]; decide), if_neg (by rw [lc]; decide), if_pos ll, Bool.and_eq_true] at h
    obtain ⟨a, b, c, d⟩ := four h.1
    have dd : lo ≤ hi := of_decide_eq_true d
    exact ⟨name_str a, (day b).1, dd, (day c).2, name_str h.2⟩
  | undo j =>
    have h : entryD (.tuple (.str "undo" :: .int j :: [])) = true := h
    rw [entryD_eq, if_neg (by rw [ut]; decide), if_neg (by rw [uc]; decide), if_neg (by rw [ul]; decide), Bool.and_eq_true, Bool.and_eq_true] at h
    exact ⟨of_decide_eq_true h.2.2, hu j rfl⟩
def sp_Keeper_add (K : PySem.W.Frag) (C : CA) : Sp := fun vs H Q E => ∃ (p d : Addr) (B : Bk) (g l : Int) (v : V) (dv : PyData), vs = [.ref p, v] ∧ KeepAt K C H p d B g l ∧ Dq H dv v ∧ 0 ≤ g ∧
  ((entryD dv = false ∧ ∀ H', Ex H H' → E (.ref C.BadEntry) none H') ∨ ∃ (t : Addr) (e : Ent), v = .ref t ∧ EntAt H t e ∧ dv = .tuple e.ds ∧ entryD dv = true ∧
    ((∃ j, e = .undo j ∧ j ≤ l) → ∀ H', Ex H H' → E (.ref C.Closed) none H') ∧
    ((∃ j, e = .undo j ∧ l < j ∧ g < j) → ∀ H', Ex H H' → E (.ref C.NoEntry) none H') ∧
    ((∀ j, e = .undo j → l < j ∧ j ≤ g) → 30 ≤ B.length → ∀ H', Ex H H' → E (.ref C.TooMany) none H') ∧
    ((∀ j, e = .undo j → l < j ∧ j ≤ g) → B.length < 30 → ∀ H', Fr [p, d] H H' → KeepAt K C H' p d (B ++ [(g + 1, e)]) (g + 1) l → Q (.int (g + 1)) H'))
theorem len_Keeper_add {K : PySem.W.Frag} {C : CA} {vs : List V} {H : Hp} {Q : VK} {E : XK} (h : sp_Keeper_add K C vs H Q E) : vs.length = 2 := by
  obtain ⟨p, d, B, g, l, v, dv, rfl, _⟩ := h
  rfl
/-- self 0, entry 1 -/
def t_Keeper_add (K : PySem.W.Frag) (C : CA) (E : XK) : TS :=
 (tSeq (tDrop (tCall (sp_need_entry K C) [] E (tCons (tVar 1) tNil)))
 (tSeq (tIfS (tTest (tOp (eqA K) (tOp (ixA K) (tVar 1) (tC (.int 0))) (tC (.str "undo")))) (tSeq (tIfS (tTest (tOp (leI) (tOp (ixA K) (tVar 1) (tC (.int 1))) (tFld K (tVar 0) "least"))) (tRaiseC E C.Closed) tNext)
 (tIfS (tTest (tOp (gtI) (tOp (ixA K) (tVar 1) (tC (.int 1))) (tFld K (tVar 0) "given"))) (tRaiseC E C.NoEntry) tNext)) tNext)
 (tSeq (tIfS (tTest (tOp (geI) (tCB (lenA K) (tCons (tFld K (tVar 0) "rows") tNil)) (tC (.int 30)))) (tRaiseC E C.TooMany) tNext)
 (tSeq (sFld K (tVar 0) (tOp (addA K) (tFld K (tVar 0) "given") (tC (.int 1))) "given")
 (tSeq (tAsg (tVar 1) (gSub (tFld K (tVar 0) "rows") (tFld K (tVar 0) "given") setA))
 (tRet (tFld K (tVar 0) "given")))))))
theorem pure_Keeper_add {K : PySem.W.Frag} {C : CA} {vs : List V} {H : Hp} {Q : VK} {E : XK} (h : sp_Keeper_add K C vs H Q E) : t_Keeper_add K C E { nx := fun _ H' => Q .non H', rt := Q } (startN 2 vs) H := by
  obtain ⟨p, d, B, g, l, v, dv, rfl, ka, hdv, hg0, hor⟩ := h
  -- need_entry
  unfold t_Keeper_add
  show tCall (sp_need_entry K C) [] E (tCons (tVar 1) tNil) (startN 2 [.ref p, v]) H _
  unfold tCall
  refine ea_cons (ev_var (i := 1) (v := v) rfl) ea_nil H (Ex.refl H) _ fun H1 e1 => ?_
  have ka1 := ka.mono e1
  refine ⟨v, dv, rfl, hdv.mono e1, fun hgood H2 e2 => ?_, fun hbad H2 e2 => ?_⟩
  rotate_left
  · rcases hor with ⟨_, k⟩ | ⟨t, e, _, _, _, hgood, _⟩
    · exact k H2 (e1.trans e2)
    · rw [hbad] at hgood; cases hgood
  rcases hor with ⟨hbad, _⟩ | ⟨t, e, rfl, ht, rfl, _, k1, k2, k3, k4⟩
  · rw [hgood] at hbad; cases hbad
  have E2 := e1.trans e2
  have ka2 := ka.mono E2
  have ht2 := ht.mono E2
  show tSeq _ _ _ ([some (.ref p), some (.ref t)] : L2.St) H2
  -- the middle: behind the looks at an undo
  have rest : (∀ j, e = .undo j → l < j ∧ j ≤ g) → ∀ H3, Ex H2 H3 → (tSeq (tIfS (tTest (tOp (geI) (tCB (lenA K) (tCons (tFld K (tVar 0) "rows") tNil)) (tC (.int 30)))) (tRaiseC E C.TooMany) tNext)
      (tSeq (sFld K (tVar 0) (tOp (addA K) (tFld K (tVar 0) "given") (tC (.int 1))) "given")
      (tSeq (tAsg (tVar 1) (gSub (tFld K (tVar 0) "rows") (tFld K (tVar 0) "given") setA)) (tRet (tFld K (tVar 0) "given"))))) { nx := fun _ H' => Q .non H', rt := Q } ([some (.ref p), some (.ref t)] : L2.St) H3 := fun hu H3 e3 => by
    have ka3 := ka2.mono e3
    obtain ⟨kvs, hd3, hr3⟩ := ka3.dc
    have hl3 := ev_lenD (K := K) (ta := tFld K (tVar 0) "rows") (H := H3) (σ := [some (.ref p), some (.ref t)]) (ev_rows (ev_var rfl) ka3) (.inl hd3)
    rw [hr3.len] at hl3
    refine q_when (et_test (ev_ge hl3 ev_c)) (fun c H4 e4 => ?_) (fun c H4 e4 => ?_)
    · have c' := of_decide_eq_true c
      exact k3 hu (by omega) H4 ((E2.trans e3).trans e4)
    · have c' := of_decide_eq_false c
      have ka4 := ka3.mono e4
      have E4 := (E2.trans e3).trans e4
      obtain ⟨dx, hp4⟩ := ka4.ob
      refine s_fld_rows (D := { nx := _, rt := Q }) (ev_add (ev_given (ev_var rfl) ka4) ev_c) (ev_var rfl) hp4 ka.kc.cl ka.kc.nG (by rw [kf_len]; decide) fun H5 e5 => ?_
      rw [kf_putG]
      have f5 : Fr [p] H5 (upd H5 p (.ins C.Keeper dx (kf d (g + 1) l))) := Fr.upd (e5 p _ hp4) (fun _ z => by cases z)
      have ka5 := ka4.mono e5
      have hdp : d ∉ [p] := fun z => ka.ne (List.mem_singleton.mp z).symm
      obtain ⟨kv5, hd5, hr5⟩ := ka5.dc
      have ka6 : KeepAt K C (upd H5 p (.ins C.Keeper dx (kf d (g + 1) l))) p d B (g + 1) l := ⟨⟨dx, upd_same⟩, ⟨kv5, f5.keep d _ hdp hd5, f5.rel hr5⟩, ka.nd, ka.few, ka.gd, fun q hq => by have := ka.le q hq; omega, ka.kc⟩
      have F6 : Fr [p] H (upd H5 p (.ins C.Keeper dx (kf d (g + 1) l))) := (Fr.of (E4.trans e5)).trans f5
      generalize upd H5 p (.ins C.Keeper dx (kf d (g + 1) l)) = H6 at ka6 F6 ⊢
      have ht6 := F6.ent ht
      obtain ⟨kv6, hd6, hr6⟩ := ka6.dc
      refine q_put (k := (Sum.inl (g + 1) : Key)) (ev_var rfl) (ev_rows (ev_var rfl) ka6) (ev_given (ev_var rfl) ka6) hd6 (by rw [hr6.len]; have := ka.few; omega) fun H7 e7 => ?_
      have hd7 := e7 d _ hd6
      have f8 : Fr [d] H7 (upd H7 d (.dK (putK kv6 (Sum.inl (g + 1) : Key) (.ref t)))) := Fr.upd hd7 (fun _ z => by cases z)
      have hpd : p ∉ [d] := fun z => ka.ne (List.mem_singleton.mp z)
      have hnew : (g + 1) ∉ B.map (·.1) := fun z => by
        obtain ⟨q, hq, e0⟩ := List.mem_map.mp z
        have := ka.le q hq
        omega
      have hput : B.put (g + 1) e = B ++ [(g + 1, e)] := by unfold Bk.put; rw [if_neg hnew]
      have hok : e.ok (g + 1) := Ent.ok_of hgood fun j hj => by have := hu j hj; omega
      have ka7 := ka6.mono e7
      obtain ⟨dx7, hp7⟩ := ka7.ob
      have hrel : BkRel (upd H7 d (.dK (putK kv6 (Sum.inl (g + 1) : Key) (.ref t)))) (putK kv6 (Sum.inl (g + 1) : Key) (.ref t)) (B ++ [(g + 1, e)]) := by
        rw [← hput]
        exact f8.rel ((hr6.mono e7).put (ht6.mono e7))
      have hnd : ((B ++ [(g + 1, e)]).map (·.1)).Nodup := by rw [← hput]; exact Bk.put_nd _ _ ka.nd
      have hgd : GoodBk (B ++ [(g + 1, e)]) := by rw [← hput]; exact Bk.put_good ka.gd (by omega) hok
      have ka8 : KeepAt K C (upd H7 d (.dK (putK kv6 (Sum.inl (g + 1) : Key) (.ref t)))) p d (B ++ [(g + 1, e)]) (g + 1) l := ⟨⟨dx7, f8.keep p _ hpd hp7⟩, ⟨_, upd_same, hrel⟩, hnd, by rw [List.length_append, List.length_singleton]; omega, hgd, fun q hq => by
        rcases List.mem_append.mp hq with z | z
        · have := ka.le q z; omega
        · rw [List.mem_singleton.mp z]; exact Int.le_refl _, ka.kc⟩
      have F8 : Fr [p, d] H (upd H7 d (.dK (putK kv6 (Sum.inl (g + 1) : Key) (.ref t)))) := ((F6.trans (Fr.of e7)).mono (fun z hz => by rw [List.mem_singleton.mp hz]; simp)).trans (f8.mono (fun z hz => by rw [List.mem_singleton.mp hz]; simp))
      generalize upd H7 d (.dK (putK kv6 (Sum.inl (g + 1) : Key) (.ref t))) = H8 at ka8 F8 ⊢
      refine s_ret (ev_given (ev_var rfl) ka8) fun H9 e9 => ?_
      exact k4 hu (by omega) H9 (F8.trans (Fr.of e9)) (ka8.mono e9)
  have tu := et_test (S.ev_eqS (K := K) (H := H2) (ta := tOp (ixA K) (tVar 1) (tC (.int 0))) (tb := tC (.str "undo")) (σ := [some (.ref p), some (.ref t)]) (ev_part 0 (ev_var rfl) ht2 e.vs0) ev_c)
  rw [Ent.word_undo] at tu
  refine q_if tu (fun c H3 e3 => ?_) (fun c H3 e3 => ?_)
  · obtain ⟨j, rfl⟩ : ∃ j, e = .undo j := by
      cases e with
      | undo j => exact ⟨j, rfl⟩
      | _ => cases c
    have ht3 := ht2.mono e3
    have ka3 := ka2.mono e3
    have E3 := E2.trans e3
    refine q_when (D := { nx := _, rt := Q }) (et_test (ev_le (ev_part 1 (ev_var rfl) ht3 rfl) (ev_least (ev_var rfl) ka3))) (fun c1 H4 e4 => ?_) (fun c1 H4 e4 => ?_)
    · exact k1 ⟨j, rfl, of_decide_eq_true c1⟩ H4 (E3.trans e4)
    have c1' := of_decide_eq_false c1
    refine s_when (D := { nx := _, rt := Q }) (et_test (ev_gt (ev_part 1 (ev_var rfl) (ht3.mono e4) rfl) (ev_given (ev_var rfl) (ka3.mono e4)))) (fun c2 H5 e5 => ?_) (fun c2 H5 e5 => ?_)
    · exact k2 ⟨j, rfl, by omega, of_decide_eq_true c2⟩ H5 ((E3.trans e4).trans e5)
    have c2' := of_decide_eq_false c2
    exact rest (fun i hi => by cases hi; omega) H5 ((e3.trans e4).trans e5)
  · exact rest (fun j hj => by rw [hj] at c; cases c) H3 e3
end S
end
set_option Elab.async false
set_option linter.all false
set_option maxRecDepth 100000
set_option maxHeartbeats 4000000
section
open PySem L2 Evl S
local macro_rules | `(tactic| array_get_dec) => `(tactic| first
  | exact ev_c
  | exact ev_var rfl
  | exact S.eo_no
  | exact ea_nil
  | (apply S.eo_some <;> array_get_dec)
  | (apply ea_cons <;> array_get_dec)
  | (apply S.ev_add <;> array_get_dec)
  | (apply S.ev_sub <;> array_get_dec)
  | (apply S.ev_div <;> first | array_get_dec | exact ⟨by decide, by decide⟩ | exact ⟨by omega, by omega⟩)
  | (apply S.ev_mod <;> first | array_get_dec | decide | omega)
  | (apply S.ev_mulr <;> first | array_get_dec | exact ⟨by decide, by decide⟩ | exact ⟨by omega, by omega⟩)
  | (apply S.ev_mull <;> first | array_get_dec | exact ⟨by decide, by decide⟩ | exact ⟨by omega, by omega⟩)
  | (apply S.ev_neg <;> array_get_dec)
  | (apply S.ev_min <;> array_get_dec)
  | (apply S.ev_max <;> array_get_dec)
  | (apply S.ev_eqI <;> array_get_dec)
  | (apply S.ev_eqS <;> array_get_dec)
  | (apply S.ev_neI <;> array_get_dec)
  | (apply S.ev_neS <;> array_get_dec)
  | (apply S.ev_lt <;> array_get_dec)
  | (apply S.ev_le <;> array_get_dec)
  | (apply S.ev_gt <;> array_get_dec)
  | (apply S.ev_ge <;> array_get_dec)
  | (apply S.ev_intB <;> array_get_dec)
  | (apply et_test <;> array_get_dec)
  | (apply et_B <;> array_get_dec)
  | (apply et_not <;> array_get_dec)
  | (refine' et_and ?_ (fun _ => ?_) <;> array_get_dec)
  | (refine' et_or ?_ (fun _ => ?_) <;> array_get_dec))
namespace S
section
variable {K : PySem.W.Frag} {C : CA} {σ : L2.St} {H H' : Hp} {t : TT} {ta tb tc td te tf : TE} {D : Ends} {tu tz : TS} {b : Addr} {B L : Bk} {n : Int} {name : Str} {low high : Int}
theorem ev_neOptLL {r s : List (Option Int)} (ha : EvL ta σ H (optRow r)) (hb : EvL tb σ H (optRow s)) : Ev (tOp (neA K) ta tb) σ H (.bl (!decide (r = s))) := fun H1 e Q k => by
  unfold tOp
  refine ha H1 e _ fun p H2 hp e2 h2 => hb H2 (e.trans e2) _ fun q H3 hq e3 h3 => ?_
  refine .inr (.inl ⟨_, _, dp_list (e3 p _ h2), dp_list h3, sh_listD r, sh_listD s, ?_⟩)
  rw [eqv_listD]
  exact k H3 (e2.trans e3)
theorem ev_eqOptLL {r s : List (Option Int)} (ha : EvL ta σ H (optRow r)) (hb : EvL tb σ H (optRow s)) : Ev (tOp (eqA K) ta tb) σ H (.bl (decide (r = s))) := fun H1 e Q k => by
  unfold tOp
  refine ha H1 e _ fun p H2 hp e2 h2 => hb H2 (e.trans e2) _ fun q H3 hq e3 h3 => ?_
  refine .inr (.inl ⟨_, _, dp_list (e3 p _ h2), dp_list h3, sh_listD r, sh_listD s, ?_⟩)
  rw [eqv_listD]
  exact k H3 (e2.trans e3)
theorem ev_neRowsPV {q : Addr} {rs ss : List (List (Option Int))} (ha : EvP ta σ H RowR rs) (hb : Ev tb σ H (.ref q)) (hq : RowsAt H q ss) : Ev (tOp (neA K) ta tb) σ H (.bl (!decide (rs = ss))) := fun H1 e Q k => by
  unfold tOp
  refine ha H1 e _ fun p xs H2 hp e2 h2 hps => hb H2 (e.trans e2) _ fun H3 e3 => ?_
  obtain ⟨ys, g1, g2⟩ := hq.mono ((e.trans e2).trans e3)
  refine .inr (.inl ⟨_, _, dp_rows (e3 p _ h2) (TupR.all e3 hps), dp_rows g1 g2, lay_rows rs, lay_rows ss, ?_⟩)
  rw [eqv_rowsD]
  exact k H3 (e2.trans e3)
theorem ev_neVRowsP {q : Addr} {rs ss : List (List (Option Int))} (hb : Ev ta σ H (.ref q)) (hq : RowsAt H q ss) (ha : EvP tb σ H RowR rs) : Ev (tOp (neA K) ta tb) σ H (.bl (!decide (ss = rs))) := fun H1 e Q k => by
  unfold tOp
  refine hb H1 e _ fun H2 e2 => ha H2 (e.trans e2) _ fun p xs H3 hp e3 h3 hps => ?_
  obtain ⟨ys, g1, g2⟩ := hq.mono ((e.trans e2).trans e3)
  refine .inr (.inl ⟨_, _, dp_rows g1 g2, dp_rows h3 hps, lay_rows ss, lay_rows rs, ?_⟩)
  rw [eqv_rowsD]
  exact k H3 (e2.trans e3)
theorem ep_lrunsX (ha : EvX ta σ H (BookX B)) (hb : Ev tb σ H (.int n)) (hc : Ev tc σ H (.str name)) (hd : Ev td σ H (.int low)) (he : Ev te σ H (.int high)) (hlh : low ≤ high) (h0 : 0 ≤ low) (h1 : high ≤ 1000000) (h9 : high - low ≤ 900) :
    EvP (tCall (sp_l_runs K C) [] E0 (tCons ta (tCons tb (tCons tc (tCons td (tCons te tNil)))))) σ H RowR (runsF B n name low high) := fun H1 e Q q => by
  unfold tCall
  refine ha H1 e _ fun v H2 e2 ⟨p, ev, hp⟩ => ?_
  subst ev
  exact ea_cons hb (ea_cons hc (ea_cons hd (ea_cons he ea_nil))) H2 (e.trans e2) _ fun H3 e3 => ⟨p, B, n, name, low, high, rfl, hp.mono e3, hlh, h0, h1, h9, fun r xs H' hr e' h' hps => q r xs H' (fresh_back (e2.trans e3) hr) ((e2.trans e3).trans e') h' hps⟩
theorem el_listL {p : Addr} {ys : List V} (ha : Ev ta σ H (.ref p)) (h : SqL K H p ys) : EvL (tCB (listC K) (tCons ta tNil)) σ H ys := fun H1 e Q q =>
  ha H1 e _ fun H2 e2 => .inl ⟨p, ys, rfl, .inl (ex_l (e.trans e2) h), fun l hl => q l _ (fresh_back e2 hl) (e2.trans (Ex.new hl)) upd_same⟩
end
/-! ### _law_hangs, by runs -/
def sp_l_hangs (K : PySem.W.Frag) (C : CA) : Sp := fun vs H Q _ => ∃ (b f : Addr) (B : Bk) (n : Int) (name : Str) (low high : Int), vs = [.ref b, .ref f, .int n, .str name, .int low, .int high] ∧ BookAt H b B ∧ B.length ≤ 30 ∧ GoodBk B ∧ low ≤ high ∧ 0 ≤ low ∧ high ≤ 1000000 ∧ high - low ≤ 900 ∧
  H f = some (.lst ((hangK B n name low high).map V.int)) ∧ ∀ H', Ex H H' → Q (.bl true) H'
theorem len_l_hangs {K : PySem.W.Frag} {C : CA} {vs : List V} {H : Hp} {Q : VK} {E : XK} (h : sp_l_hangs K C vs H Q E) : vs.length = 6 := by
  obtain ⟨b, f, B, n, name, low, high, rfl, _⟩ := h
  rfl
/-- _law_book 0, _law_found 1, _law_n 2, _law_name 3, _law_low 4, _law_high 5, _law_due 6, _law_number 7, _law_fewer 8, _law_one 9, _law_other 10 -/
def t_l_hangs (K : PySem.W.Frag) (C : CA) : TS :=
 (tSeq (tAsg (tCall (sp_l_runs K C) [] E0 (tCons (tVar 0) (tCons (tVar 2) (tCons (tVar 3) (tCons (tVar 4) (tCons (tVar 5) tNil)))))) (gName 6))
 (tSeq (tIfS (tOr (tNot (tB (tCB (rIsi K) (tCons (tVar 1) (tCons (tC (.ty "list")) tNil))))) (tTest (tOp (neA K) (tLc (iList K (tVar 1)) (gName 9) (tOr (tTest (tOp (niA K) (tVar 9) (tVar 0))) (tTest (tOp (gtI) (tVar 9) (tVar 2)))) (tVar 9) [9]) (tLst tNil)))) (tRet (tC (.bl false))) tNext)
 (tSeq (tIfS (tOr (tTest (tOp (neA K) (tSortSetI K (tVar 1)) (tVar 1))) (tTest (tOp (neA K) (tCall (sp_l_runs K C) [] E0 (tCons (tCall (sp_l_left K C) [] E0 (tCons (tVar 0) (tCons (tVar 1) tNil))) (tCons (tVar 2) (tCons (tVar 3) (tCons (tVar 4) (tCons (tVar 5) tNil)))))) (tVar 6)))) (tRet (tC (.bl false))) tNext)
 (tSeq (tFor (iList K (tVar 1)) (gName 7)
  (tSeq (tAsg (tCall (sp_l_left K C) [] E0 (tCons (tVar 0) (tCons (tLc (iList K (tVar 1)) (gName 10) (tTest (tOp (neA K) (tVar 10) (tVar 7))) (tVar 10) [10]) tNil))) (gName 8))
 (tIfS (tTest (tOp (eqA K) (tCall (sp_l_runs K C) [] E0 (tCons (tVar 8) (tCons (tVar 2) (tCons (tVar 3) (tCons (tVar 4) (tCons (tVar 5) tNil)))))) (tVar 6))) (tRet (tC (.bl false))) tNext)))
 (tRet (tC (.bl true)))))))
theorem pure_l_hangs {K : PySem.W.Frag} {C : CA} {vs : List V} {H : Hp} {Q : VK} {E : XK} (h : sp_l_hangs K C vs H Q E) : t_l_hangs K C { nx := fun _ H' => Q .non H', rt := Q } (startN 11 vs) H := by
  obtain ⟨b, f, B, n, name, low, high, rfl, hB, hl, hg, hlh, h0, h1, h9, hf, kk⟩ := h
  have hn := hB.nd
  have hup := hangK_up (n := n) (name := name) (low := low) (high := high) hn hg
  have hlen := hangK_len (n := n) (name := name) (low := low) (high := high) hn hg
  have hin := fun k => hangK_in (n := n) (name := name) (low := low) (high := high) (k := k) hn hg
  have hmm := fun k => hangK_mem (B := B) (n := n) (name := name) (low := low) (high := high) (k := k)
  have hnd : (hangK B n name low high).Nodup := hup.imp fun {a b} h => by have h : a < b := h; omega
  have hsub : ∀ q ∈ hangF B n name low high, q ∈ B := fun q hq => (hang_mem hn hg hq).1
  have hFnd := hang_nd (n := n) (name := name) (low := low) (high := high) hn hg
  refine q_asgP (ep_lrunsX (bx_ev (ev_var rfl) hB) (ev_var rfl) (ev_var rfl) (ev_var rfl) (ev_var rfl) hlh h0 h1 h9) fun pr us H1 hpr e1 h1' hus => ?_
  have hRuns : RowsAt H1 pr (runsF B n name low high) := ⟨us, h1', hus⟩
  have hB1 := hB.mono e1
  show tSeq _ _ _ ([some (.ref b), some (.ref f), some (.int n), some (.str name), some (.int low), some (.int high), some (.ref pr), none, none, none, none] : L2.St) H1
  -- none that is none
  have emp := el_ofP V.int (ep_lcL (K := K) (F := ValR V.int) (G := ValR V.int) (a := f) (xs := (hangK B n name low high).map V.int) (zs := hangK B n name low high) (tl := tVar 1) (j := 9) (vs := [9]) (H := H1) (σ := [some (.ref b), some (.ref f), some (.int n), some (.str name), some (.int low), some (.int high), some (.ref pr), none, none, none, none]) (t := tOr (tTest (tOp (niA K) (tVar 9) (tVar 0))) (tTest (tOp (gtI) (tVar 9) (tVar 2)))) (te := tVar 9)
      (fun _ => false) (fun k => k) ValR.mo ValR.mo.mo (ev_var rfl) (sq_of (e1 f _ hf)) (paired_map V.int _) (by omega) (fun x => rfl) (fun x z H2 e2 hz hx => by
        have hx' : x = .int z := hx
        subst hx'
        obtain ⟨g1, g2⟩ := hin z hz
        obtain ⟨kvs, hrd, hr⟩ := (hB1.mono e2).ex
        have hni := ev_niD (K := K) (H := H2) (ta := tVar 9) (tb := tVar 0) (k := (Sum.inl z : Key)) (σ := [some (.ref b), some (.ref f), some (.int n), some (.str name), some (.int low), some (.int high), some (.ref pr), none, none, some (.int z), none]) (ev_var rfl) (ev_var rfl) hrd
        obtain ⟨e, he⟩ := Bk.at_isSome g1
        have hs : (valV kvs (Sum.inl z : Key)).isSome = true := by
          rcases hr.val z with ⟨_, g⟩ | ⟨t', e', g, _, _⟩
          · rw [he] at g; cases g
          · rw [g]; rfl
        rw [hs] at hni
        have hgt := ev_gt (H := H2) (ta := tVar 9) (tb := tVar 2) (σ := [some (.ref b), some (.ref f), some (.int n), some (.str name), some (.int low), some (.int high), some (.ref pr), none, none, some (.int z), none]) (i := z) (j := n) (ev_var rfl) (ev_var rfl)
        rw [decide_eq_false (by omega : ¬ n < z)] at hgt
        exact et_or (a := false) (b := false) (et_test hni) fun _ => et_test hgt) fun x z H2 e2 hz hx hf => by cases hf)
  have hfn : ((hangK B n name low high).filter fun _ => false) = [] := by simp
  rw [hfn] at emp
  have hne := ev_neOptLL (K := K) (tb := tLst tNil) (r := []) (s := []) emp (el_lst ea_nil (by decide))
  refine q_when (b := false) (et_or (a := false) (b := false) (et_not (a := true) (et_B (ev_isi (ev_var rfl) (fun H6 e6 => .base (.lst ((e1.trans e6) f _ hf))) kit_ll))) fun _ => et_test hne) (fun d => by cases d) fun _ H2 e2 => ?_
  have E2 := e1.trans e2
  -- rising; these alone tell the same
  have srt := el_sortSet (K := K) (H := H2) (ta := tVar 1) (σ := [some (.ref b), some (.ref f), some (.int n), some (.str name), some (.int low), some (.int high), some (.ref pr), none, none, none, none]) (ev_var rfl) (sq_of (E2 f _ hf)) (by omega) hup
  rw [← opt_ints] at srt
  have hne2 := ev_neOptL (K := K) (tb := tVar 1) srt (ev_var rfl) (q := f) (s := (hangK B n name low high).map some) (by rw [opt_ints]; exact E2 f _ hf)
  rw [decide_eq_true rfl] at hne2
  have hsame : runsF (B.pick (hangK B n name low high)) n name low high = runsF B n name low high := runs_on fun d g1 g2 => by
    rw [pick_worth hn hFnd hsub hnd (fun k => hmm k) n name d]
    exact hang_same hn hg g1 g2
  have hd1 := ev_neRowsPV (K := K) (H := H2) (tb := tVar 6) (q := pr) (ss := runsF B n name low high) (ep_lrunsX (K := K) (C := C) (ta := tCall (sp_l_left K C) [] E0 (tCons (tVar 0) (tCons (tVar 1) tNil))) (tb := tVar 2) (tc := tVar 3) (td := tVar 4) (te := tVar 5) (n := n) (name := name) (low := low) (high := high) (σ := [some (.ref b), some (.ref f), some (.int n), some (.str name), some (.int low), some (.int high), some (.ref pr), none, none, none, none])
    (bx_lleft (K := K) (C := C) (ta := tVar 0) (tb := tVar 1) (ev_var rfl) (ev_var rfl) (hB.mono E2) (sq_of (E2 f _ hf)) (fun k hk => (hin k hk).1) hnd (by omega)) (ev_var rfl) (ev_var rfl) (ev_var rfl) (ev_var rfl) hlh h0 h1 h9) (ev_var rfl) (hRuns.mono e2)
  rw [hsame, decide_eq_true rfl] at hd1
  refine q_when (b := false) (et_or (a := false) (b := false) (et_test hne2) fun _ => et_test hd1) (fun d => by cases d) fun _ H3 e3 => ?_
  have E3 := E2.trans e3
  have hRuns3 := hRuns.mono (e2.trans e3)
  -- none can be left out
  refine q_forLn (ev_var rfl) (sq_of (E3 f _ hf)) (fun i σ' H' => ∃ o7 o8, σ' = [some (.ref b), some (.ref f), some (.int n), some (.str name), some (.int low), some (.int high), some (.ref pr), o7, o8, none, none] ∧ Ex H3 H')
    (fun H9 e9 => ⟨none, none, rfl, e9⟩) (fun i σ' H' _ ⟨_, _, _, e⟩ => sq_of ((E3.trans e) f _ hf)) ?_ ?_
  · rintro i x σ' H9 hx ⟨o7, o8, rfl, e9⟩
    obtain ⟨k, hk, rfl⟩ := map_get hx
    have hkm := List.mem_of_getElem? hk
    have E09 := E3.trans e9
    have bl := el_ofP V.int (ep_lcL (K := K) (F := ValR V.int) (G := ValR V.int) (a := f) (xs := (hangK B n name low high).map V.int) (zs := hangK B n name low high) (tl := tVar 1) (j := 10) (vs := [10]) (H := H9) (σ := [some (.ref b), some (.ref f), some (.int n), some (.str name), some (.int low), some (.int high), some (.ref pr), some (.int k), o8, none, none]) (t := tTest (tOp (neA K) (tVar 10) (tVar 7))) (te := tVar 10)
      (fun j => !decide (j = k)) (fun j => j) ValR.mo ValR.mo.mo (ev_var rfl) (sq_of (E09 f _ hf)) (paired_map V.int _) (by omega) (fun x => rfl) (fun x z H2 e2 hz hx => by
        have hx' : x = .int z := hx
        subst hx'
        exact et_test (ev_neI (ev_var rfl) (ev_var rfl))) fun x z H2 e2 hz hx _ => ex_ev (ev_var rfl) fun H3 _ => hx)
    rw [List.map_id'] at bl
    show tSeq _ _ _ ([some (.ref b), some (.ref f), some (.int n), some (.str name), some (.int low), some (.int high), some (.ref pr), some (.int k), o8, none, none] : L2.St) H9
    have hfl : ((hangK B n name low high).filter fun j => !decide (j = k)).length ≤ 60 := Nat.le_trans (List.length_filter_le _ _) (by omega)
    have hfm : ∀ j, j ∈ ((hangK B n name low high).filter fun j => !decide (j = k)) ↔ j ∈ ((hangF B n name low high).del k).map (·.1) := fun j => by
      rw [List.mem_filter, Bk.del_keys, List.mem_filter, hmm]
      simp
    refine q_asgRw (at_lleft (ev_var rfl) bl (hB.mono E09) (fun j hj => (hin j (List.mem_filter.mp hj).1).1) (hnd.filter _) hfl fun p H10 np => ?_)
    have hdel := Bk.del_sub (hangF B n name low high) k
    have hdiff : runsF (B.pick ((hangK B n name low high).filter fun j => !decide (j = k))) n name low high ≠ runsF B n name low high := fun heq => by
      obtain ⟨d, g1, g2, hne⟩ := hang_other (low := low) (high := high) (n := n) (name := name) hn hg ((hmm k).mp hkm)
      have := runs_worth heq g1 g2
      rw [pick_worth hn (sub_nd hdel hFnd) (fun q hq => hsub q (hdel.subset hq)) (hnd.filter _) hfm n name d] at this
      exact hne this
    have hd2 := ev_eqRowsPV (K := K) (H := H10) (tb := tVar 6) (q := pr) (ss := runsF B n name low high) (ep_lrunsX (K := K) (C := C) (ta := tVar 8) (tb := tVar 2) (tc := tVar 3) (td := tVar 4) (te := tVar 5) (n := n) (name := name) (low := low) (high := high) (σ := [some (.ref b), some (.ref f), some (.int n), some (.str name), some (.int low), some (.int high), some (.ref pr), some (.int k), some (.ref p), none, none]) (bx_ev (ev_var rfl) np.at) (ev_var rfl) (ev_var rfl) (ev_var rfl) (ev_var rfl) hlh h0 h1 h9) (ev_var rfl) (hRuns3.mono (e9.trans np.ex))
    rw [decide_eq_false hdiff] at hd2
    refine s_when (b := false) (et_test hd2) (fun d => by cases d) fun _ H11 e11 => ?_
    exact ⟨_, _, rfl, (e9.trans np.ex).trans e11⟩
  · rintro σ' H9 ⟨o7, o8, rfl, e9⟩
    exact s_ret (v := .bl true) ev_c fun H10 e10 => kk H10 ((E3.trans e9).trans e10)
/-! ### what is held: pairs of two objects that are the same as data -/
def Cmp (H : Hp) (u : HO) : Prop := (∃ r : List Int, u = .lst (r.map V.int)) ∨ (∃ xs rs, u = .lst xs ∧ Paired (RowR H) xs rs) ∨ ∃ kvs B, u = .dK kvs ∧ BkRel H kvs B ∧ (B.map (·.1)).Nodup ∧ B.length ≤ 60 ∧ GoodBk B
theorem Cmp.frm {H H' : Hp} {u : HO} {Z : List Addr} (f : Fr Z H H') (h : Cmp H u) : Cmp H' u := by
  rcases h with h | ⟨xs, rs, h1, h2⟩ | ⟨kvs, B, h1, h2, h3⟩
  · exact .inl h
  · exact .inr (.inl ⟨xs, rs, h1, TupR.allT f.tup h2⟩)
  · exact .inr (.inr ⟨kvs, B, h1, f.rel h2, h3⟩)
/-- a pair made since H0 -/
def HPair (H0 H : Hp) (v : V) : Prop := ∃ t a b u, v = .ref t ∧ H t = some (.tup [.ref a, .ref b]) ∧ H0 a = none ∧ H0 b = none ∧ H a = some u ∧ H b = some u ∧ Cmp H u
theorem HPair.frm {H0 H H' : Hp} {v : V} {Z : List Addr} (h : HPair H0 H v) (f : Fr Z H H') (hz : ∀ z ∈ Z, H0 z ≠ none) : HPair H0 H' v := by
  obtain ⟨t, a, b, u, h1, h2, h3, h4, h5, h6, h7⟩ := h
  exact ⟨t, a, b, u, h1, f.tup _ _ h2, h3, h4, f.keep a _ (fun z => hz a z h3) h5, f.keep b _ (fun z => hz b z h4) h6, h7.frm f⟩
theorem HPair.back {H0 H1 H : Hp} {v : V} (h : HPair H1 H v) (e : ∀ a o, H0 a = some o → H1 a ≠ none) : HPair H0 H v := by
  obtain ⟨t, a, b, u, h1, h2, h3, h4, h5, h6, h7⟩ := h
  have g : ∀ a, H1 a = none → H0 a = none := fun a ha => by
    cases e0 : H0 a with
    | none => rfl
    | some o => exact absurd ha (e a o e0)
  exact ⟨t, a, b, u, h1, h2, g a h3, g b h4, h5, h6, h7⟩
/-- a pair of none of the addresses Z -/
def Held (Z : List Addr) (H : Hp) (v : V) : Prop := ∃ t a b u, v = .ref t ∧ H t = some (.tup [.ref a, .ref b]) ∧ a ∉ Z ∧ b ∉ Z ∧ H a = some u ∧ H b = some u ∧ Cmp H u
theorem HPair.held {H0 H : Hp} {v : V} {Z : List Addr} (h : HPair H0 H v) (hz : ∀ z ∈ Z, H0 z ≠ none) : Held Z H v := by
  obtain ⟨t, a, b, u, h1, h2, h3, h4, h5, h6, h7⟩ := h
  exact ⟨t, a, b, u, h1, h2, fun z => hz a z h3, fun z => hz b z h4, h5, h6, h7⟩
theorem Held.frm {H H' : Hp} {v : V} {Z : List Addr} (h : Held Z H v) (f : Fr Z H H') : Held Z H' v := by
  obtain ⟨t, a, b, u, h1, h2, h3, h4, h5, h6, h7⟩ := h
  exact ⟨t, a, b, u, h1, f.tup _ _ h2, h3, h4, f.keep a _ h3 h5, f.keep b _ h4 h6, h7.frm f⟩
theorem Held.more {H : Hp} {v : V} {Z : List Addr} {d : Addr} (h : Held Z H v) (hd : H d = none) : Held (d :: Z) H v := by
  obtain ⟨t, a, b, u, h1, h2, h3, h4, h5, h6, h7⟩ := h
  refine ⟨t, a, b, u, h1, h2, fun z => ?_, fun z => ?_, h5, h6, h7⟩
  · rcases List.mem_cons.mp z with z | z
    · rw [z, hd] at h5; cases h5
    · exact h3 z
  · rcases List.mem_cons.mp z with z | z
    · rw [z, hd] at h6; cases h6
    · exact h4 z
section
variable {K : PySem.W.Frag} {C : CA} {σ : L2.St} {H H0 H' : Hp} {t : TT} {ta tb tc td te tf : TE} {D : Ends} {tu tz : TS} {b : Addr} {B L : Bk} {n : Int} {name : Str} {low high : Int}
/-- a new object -/
def EvO1 (te : TE) (σ : L2.St) (H : Hp) (u : HO) : Prop := ∀ H1, Ex H H1 → ∀ Q : VK, (∀ b H2, H1 b = none → Ex H1 H2 → H2 b = some u → Q (.ref b) H2) → te σ H1 Q
/-- held.append((x, a copy of it)) -/
theorem q_appPair {l a : Addr} {xs : List V} {u : HO} (hl : H l = some (.lst xs)) (hlx : H0 l ≠ none) (hc : Ev tc σ H (.ref l)) (ha : Ev ta σ H (.ref a)) (hb : EvO1 tb σ H u) (hu : H a = some u) (h0 : H0 a = none) (hk : ∀ x o, H0 x = some o → H x ≠ none) (hcm : Cmp H u) (hz : xs.length < 100000) (k : ∀ v H1, Fr [l] H H1 → H1 l = some (.lst (xs ++ [v])) → HPair H0 H1 v → tz D σ H1) :
    tSeq (tDrop (tBM K "list" rAppend tc (tCons (tTup (tCons ta (tCons tb tNil))) tNil))) tz D σ H := by
  have none0 : ∀ {x : Addr}, H x = none → H0 x = none := fun {x} hx => by
    cases e0 : H0 x with
    | none => rfl
    | some o => exact absurd hx (hk x o e0)
  refine hc H (Ex.refl H) _ fun H1 e1 => ⟨Or.inl ⟨rfl, xs, sq_of (e1 l _ hl)⟩, ?_⟩
  refine ha H1 e1 _ fun H2 e2 => hb H2 (e1.trans e2) _ fun b H3 hb3 e3 h3 => ?_
  have E3 := (e1.trans e2).trans e3
  refine ⟨sz_of (by simp), fun p hp => ?_⟩
  have E4 := E3.trans (Ex.new (o := .tup [.ref a, .ref b]) hp)
  refine ⟨l, xs, .ref p, rfl, rfl, E4 l _ hl, sz_lt hz, ?_⟩
  have hl4 := E4 l _ hl
  have f5 : Fr [l] (L2.upd H3 p (.tup [.ref a, .ref b])) (L2.upd (L2.upd H3 p (.tup [.ref a, .ref b])) l (.lst (xs ++ [.ref p]))) := Fr.upd hl4 fun _ z => by cases z
  have hbn : H0 b = none := none0 (fresh_back (e1.trans e2) hb3)
  have hpb : p ≠ b := fun z => by rw [z, h3] at hp; cases hp
  have hbl : b ∉ [l] := fun z => by rw [List.mem_singleton.mp z] at hbn; exact hlx hbn
  have hal : a ∉ [l] := fun z => by rw [List.mem_singleton.mp z] at h0; exact hlx h0
  refine k (.ref p) _ ((Fr.of E4).trans f5) upd_same ⟨p, a, b, u, rfl, f5.tup _ _ upd_same, h0, hbn, f5.keep a _ hal (E4 a _ hu), f5.keep b _ hbl (by rw [upd_ne hpb.symm]; exact h3), (hcm.frm (Fr.of (Z := []) E4)).frm f5⟩
theorem eo1_list {p : Addr} {ys : List V} (ha : Ev ta σ H (.ref p)) (h : H p = some (.lst ys)) : EvO1 (tCB (listC K) (tCons ta tNil)) σ H (.lst ys) := fun H1 e Q q => (el_listL ha (sq_of h)) H1 e Q fun b H2 hb e2 h2 => q b H2 hb e2 h2
theorem eo1_dict {p : Addr} {kvs : List (Key × V)} (ha : Ev ta σ H (.ref p)) (h : H p = some (.dK kvs)) : EvO1 (tCB (dictC K) (tCons ta tNil)) σ H (.dK kvs) := fun H1 e Q q => (ed_copy ha (.inl h)) H1 e Q fun b H2 hb e2 h2 => q b H2 hb e2 h2
end
end S
end
set_option Elab.async false
set_option linter.all false
set_option maxRecDepth 100000
set_option maxHeartbeats 4000000
section
open PySem L2 Evl S
local macro_rules | `(tactic| array_get_dec) => `(tactic| first
  | exact ev_c
  | exact ev_var rfl
  | exact S.eo_no
  | exact ea_nil
  | (apply S.eo_some <;> array_get_dec)
  | (apply ea_cons <;> array_get_dec)
  | (apply S.ev_add <;> array_get_dec)
  | (apply S.ev_sub <;> array_get_dec)
  | (apply S.ev_div <;> first | array_get_dec | exact ⟨by decide, by decide⟩ | exact ⟨by omega, by omega⟩)
  | (apply S.ev_mod <;> first | array_get_dec | decide | omega)
  | (apply S.ev_mulr <;> first | array_get_dec | exact ⟨by decide, by decide⟩ | exact ⟨by omega, by omega⟩)
  | (apply S.ev_mull <;> first | array_get_dec | exact ⟨by decide, by decide⟩ | exact ⟨by omega, by omega⟩)
  | (apply S.ev_neg <;> array_get_dec)
  | (apply S.ev_min <;> array_get_dec)
  | (apply S.ev_max <;> array_get_dec)
  | (apply S.ev_eqI <;> array_get_dec)
  | (apply S.ev_eqS <;> array_get_dec)
  | (apply S.ev_neI <;> array_get_dec)
  | (apply S.ev_neS <;> array_get_dec)
  | (apply S.ev_lt <;> array_get_dec)
  | (apply S.ev_le <;> array_get_dec)
  | (apply S.ev_gt <;> array_get_dec)
  | (apply S.ev_ge <;> array_get_dec)
  | (apply S.ev_intB <;> array_get_dec)
  | (apply et_test <;> array_get_dec)
  | (apply et_B <;> array_get_dec)
  | (apply et_not <;> array_get_dec)
  | (refine' et_and ?_ (fun _ => ?_) <;> array_get_dec)
  | (refine' et_or ?_ (fun _ => ?_) <;> array_get_dec))
namespace S
theorem Fr.alive {Z : List Addr} {H H' : Hp} (f : Fr Z H H') (hz : ∀ z ∈ Z, H' z ≠ none) : ∀ x o, H x = some o → H' x ≠ none := fun x o h => by
  by_cases c : x ∈ Z
  · exact hz x c
  · rw [f.keep x o c h]; simp
theorem ex_alive {H H' : Hp} (e : Ex H H') : ∀ x o, H x = some o → H' x ≠ none := fun x o h => by rw [e x o h]; simp
theorem EvA.later {ta : TA} {σ : L2.St} {H H1 : Hp} {vs : List V} (h : EvA ta σ H vs) (e : Ex H H1) : EvA ta σ H1 vs := fun H2 e2 Q q => h H2 (e.trans e2) Q q
theorem m_why1 : ¬ (("why" : Str) = "least") := by decide +kernel
theorem m_why2 : ¬ (("why" : Str) = "given") := by decide +kernel
theorem m_why3 : ¬ (("why" : Str) = "rows") := by decide +kernel
theorem m_book1 : ¬ (("book" : Str) = "least") := by decide +kernel
theorem m_book2 : ¬ (("book" : Str) = "given") := by decide +kernel
theorem m_book3 : ¬ (("book" : Str) = "rows") := by decide +kernel
theorem m_worth1 : ¬ (("worth" : Str) = "least") := by decide +kernel
theorem m_worth2 : ¬ (("worth" : Str) = "given") := by decide +kernel
theorem m_worth3 : ¬ (("worth" : Str) = "rows") := by decide +kernel
theorem m_runs1 : ¬ (("runs" : Str) = "least") := by decide +kernel
theorem m_runs2 : ¬ (("runs" : Str) = "given") := by decide +kernel
theorem m_runs3 : ¬ (("runs" : Str) = "rows") := by decide +kernel
theorem m_last1 : ¬ (("last" : Str) = "least") := by decide +kernel
theorem m_last2 : ¬ (("last" : Str) = "given") := by decide +kernel
theorem m_last3 : ¬ (("last" : Str) = "rows") := by decide +kernel
theorem m_add1 : ¬ (("add" : Str) = "least") := by decide +kernel
theorem m_add2 : ¬ (("add" : Str) = "given") := by decide +kernel
theorem m_add3 : ¬ (("add" : Str) = "rows") := by decide +kernel
theorem m_short1 : ¬ (("shorten" : Str) = "least") := by decide +kernel
theorem m_short2 : ¬ (("shorten" : Str) = "given") := by decide +kernel
theorem m_short3 : ¬ (("shorten" : Str) = "rows") := by decide +kernel
def askV (n : Int) (name : Str) (low high : Int) : List V := [.int n, .str name, .int low, .int high]
section
variable {K : PySem.W.Frag} {C : CA} {σ : L2.St} {H H0 H' : Hp} {t : TT} {ta tb tc td te tf : TE} {D : Ends} {tu tz : TS} {p d b : Addr} {B L : Bk} {g l n : Int} {name : Str} {low high : Int}
theorem q_tup4 {a : Addr} {v1 v2 v3 v4 : V} {i j k m : Nat} (ha : Ev ta σ H (.ref a)) (h : H a = some (.tup [v1, v2, v3, v4])) (q : ∀ H1, Ex H H1 → tz D ((((σ.set i (some v1)).set j (some v2)).set k (some v3)).set m (some v4)) H1) :
    tSeq (tAsg ta (gTup K 4 (gCons (gName i) (gCons (gName j) (gCons (gName k) (gCons (gName m) gNil)))))) tz D σ H :=
  ha H (Ex.refl H) _ fun H1 e1 => ⟨a, _, rfl, st_of (e1 a _ h), rfl, _, _, rfl, _, _, rfl, _, _, rfl, _, _, rfl, rfl, q H1 e1⟩
theorem el_why (ha : Ev ta σ H (.ref p)) (hb : Ev tb σ H (.int n)) (hc : Ev tc σ H (.str name)) (hd : Ev td σ H (.int low)) (he : Ev te σ H (.int high)) (h : KeepAt K C H p d B g l) (hn : l ≤ n) (hlh : low ≤ high) :
    EvL (tMeth C.Keeper "why" (sp_Keeper_why K C) [] E0 ta (tCons tb (tCons tc (tCons td (tCons te tNil))))) σ H ((hangK B n name low high).map V.int) := fun H1 e Q q =>
  at_meth (ha.mono e) (EvA.later (ea_cons hb (ea_cons hc (ea_cons hd (ea_cons he ea_nil)))) e) (h.mono e) m_why1 m_why2 m_why3 fun H2 e2 => ⟨p, d, B, g, l, n, name, low, high, rfl, h.mono (e.trans e2), hlh, fun _ r H' hr e' h' => q r H' (fresh_back e2 hr) (e2.trans e') h', fun z => absurd hn (by omega)⟩
theorem ev_kworth {day : Int} (ha : Ev ta σ H (.ref p)) (hb : Ev tb σ H (.int n)) (hc : Ev tc σ H (.str name)) (hd : Ev td σ H (.int day)) (h : KeepAt K C H p d B g l) (hn : l ≤ n) :
    Ev (tMeth C.Keeper "worth" (sp_Keeper_worth K C) [] E0 ta (tCons tb (tCons tc (tCons td tNil)))) σ H (optV (worthF B n name day)) := fun H1 e Q q =>
  at_meth (ha.mono e) (EvA.later (ea_cons hb (ea_cons hc (ea_cons hd ea_nil))) e) (h.mono e) m_worth1 m_worth2 m_worth3 fun H2 e2 => ⟨p, d, B, g, l, n, name, day, rfl, h.mono (e.trans e2), fun _ H' e' => q H' (e2.trans e'), fun z => absurd hn (by omega)⟩
theorem ep_kruns (ha : Ev ta σ H (.ref p)) (hb : Ev tb σ H (.int n)) (hc : Ev tc σ H (.str name)) (hd : Ev td σ H (.int low)) (he : Ev te σ H (.int high)) (h : KeepAt K C H p d B g l) (hn : l ≤ n) (hlh : low ≤ high) :
    EvP (tMeth C.Keeper "runs" (sp_Keeper_runs K C) [] E0 ta (tCons tb (tCons tc (tCons td (tCons te tNil))))) σ H RowR (runsF B n name low high) := fun H1 e Q q =>
  at_meth (ha.mono e) (EvA.later (ea_cons hb (ea_cons hc (ea_cons hd (ea_cons he ea_nil)))) e) (h.mono e) m_runs1 m_runs2 m_runs3 fun H2 e2 => ⟨p, d, B, g, l, n, name, low, high, rfl, h.mono (e.trans e2), hlh, fun _ r xs H' hr e' h' hp => q r xs H' (fresh_back e2 hr) (e2.trans e') h' hp, fun z => absurd hn (by omega)⟩
theorem ev_klast (ha : Ev ta σ H (.ref p)) (h : KeepAt K C H p d B g l) : Ev (tMeth C.Keeper "last" (sp_Keeper_last K C) [] E0 ta tNil) σ H (.int g) := fun H1 e Q q =>
  at_meth (ha.mono e) (EvA.later ea_nil e) (h.mono e) m_last1 m_last2 m_last3 fun H2 e2 => ⟨p, d, B, g, l, rfl, h.mono (e.trans e2), fun H' e' => q H' (e2.trans e')⟩
theorem at_kbook {Q : VK} (ha : Ev ta σ H (.ref p)) (h : KeepAt K C H p d B g l) (q : ∀ r H1, NewBk H H1 r B → Q (.ref r) H1) : tMeth C.Keeper "book" (sp_Keeper_book K C) [] E0 ta tNil σ H Q :=
  at_meth ha ea_nil h m_book1 m_book2 m_book3 fun H2 e2 => ⟨p, d, B, g, l, rfl, h.mono e2, fun r H' nb => q r H' (nb.back e2)⟩
theorem bx_kbook (ha : Ev ta σ H (.ref p)) (h : KeepAt K C H p d B g l) : EvX (tMeth C.Keeper "book" (sp_Keeper_book K C) [] E0 ta tNil) σ H (BookX B) := fun H1 e Q q =>
  at_kbook (ha.mono e) (h.mono e) fun r H2 nb => q _ H2 nb.ex ⟨r, rfl, nb.at⟩
theorem ev_lhangsX {f : Addr} (ha : EvX ta σ H (BookX B)) (hf : Ev tf σ H (.ref f)) (hb : Ev tb σ H (.int n)) (hc : Ev tc σ H (.str name)) (hd : Ev td σ H (.int low)) (he : Ev te σ H (.int high)) (hl : B.length ≤ 30) (hg : GoodBk B) (hlh : low ≤ high) (h0 : 0 ≤ low) (h1 : high ≤ 1000000) (h9 : high - low ≤ 900) (hF : H f = some (.lst ((hangK B n name low high).map V.int))) :
    Ev (tCall (sp_l_hangs K C) [] E0 (tCons ta (tCons tf (tCons tb (tCons tc (tCons td (tCons te tNil))))))) σ H (.bl true) := fun H1 e Q q => by
  unfold tCall
  refine ha H1 e _ fun v H2 e2 ⟨p, ev, hp⟩ => ?_
  subst ev
  exact ea_cons hf (ea_cons hb (ea_cons hc (ea_cons hd (ea_cons he ea_nil)))) H2 (e.trans e2) _ fun H3 e3 => ⟨p, f, B, n, name, low, high, rfl, hp.mono e3, hl, hg, hlh, h0, h1, h9, ((e.trans e2).trans e3) f _ hF, fun H' e' => q H' ((e2.trans e3).trans e')⟩
end
/-! ### _law_why -/
def sp_l_why (K : PySem.W.Frag) (C : CA) : Sp := fun vs H Q _ => ∃ (p d t hl : Addr) (B : Bk) (g l n : Int) (name : Str) (low high : Int) (ps : List V), vs = [.ref p, .ref t, .ref hl] ∧ KeepAt K C H p d B g l ∧ H t = some (.tup (askV n name low high)) ∧ H hl = some (.lst ps) ∧ l ≤ n ∧ low ≤ high ∧ 0 ≤ low ∧ high ≤ 1000000 ∧ high - low ≤ 900 ∧ ps.length ≤ 50000 ∧
  ∀ H' v1 v2, Fr [hl] H H' → H' hl = some (.lst (ps ++ [v1, v2])) → HPair H H' v1 → HPair H H' v2 → Q (.bl true) H'
theorem len_l_why {K : PySem.W.Frag} {C : CA} {vs : List V} {H : Hp} {Q : VK} {E : XK} (h : sp_l_why K C vs H Q E) : vs.length = 3 := by
  obtain ⟨p, d, t, hl, B, g, l, n, name, low, high, ps, rfl, _⟩ := h
  rfl
/-- _law_keeper 0, _law_asked 1, _law_held 2, _law_n 3, _law_name 4, _law_low 5, _law_high 6, _law_found 7, _law_book 8 -/
def t_l_why (K : PySem.W.Frag) (C : CA) : TS :=
 (tSeq (tAsg (tVar 1) (gTup K 4 (gCons (gName 3) (gCons (gName 4) (gCons (gName 5) (gCons (gName 6) gNil))))))
 (tSeq (tAsg (tMeth C.Keeper "why" (sp_Keeper_why K C) [] E0 (tVar 0) (tCons (tVar 3) (tCons (tVar 4) (tCons (tVar 5) (tCons (tVar 6) tNil))))) (gName 7))
 (tSeq (tIfS (tOr (tNot (tB (tCall (sp_l_hangs K C) [] E0 (tCons (tMeth C.Keeper "book" (sp_Keeper_book K C) [] E0 (tVar 0) tNil) (tCons (tVar 7) (tCons (tVar 3) (tCons (tVar 4) (tCons (tVar 5) (tCons (tVar 6) tNil))))))))) (tTest (tOp (neA K) (tMeth C.Keeper "why" (sp_Keeper_why K C) [] E0 (tVar 0) (tCons (tVar 3) (tCons (tVar 4) (tCons (tVar 5) (tCons (tVar 6) tNil))))) (tVar 7)))) (tRet (tC (.bl false))) tNext)
 (tSeq (tDrop (tBM K "list" rAppend (tVar 2) (tCons (tTup (tCons (tVar 7) (tCons (tCB (listC K) (tCons (tVar 7) tNil)) tNil))) tNil)))
 (tSeq (tAsg (tMeth C.Keeper "book" (sp_Keeper_book K C) [] E0 (tVar 0) tNil) (gName 8))
 (tSeq (tDrop (tBM K "list" rAppend (tVar 2) (tCons (tTup (tCons (tVar 8) (tCons (tCB (dictC K) (tCons (tVar 8) tNil)) tNil))) tNil)))
 (tRet (tC (.bl true)))))))))
theorem pure_l_why {K : PySem.W.Frag} {C : CA} {vs : List V} {H : Hp} {Q : VK} {E : XK} (h : sp_l_why K C vs H Q E) : t_l_why K C { nx := fun _ H' => Q .non H', rt := Q } (startN 9 vs) H := by
  obtain ⟨p, d, t, hl, B, g, l, n, name, low, high, ps, rfl, ka, ht, hh, hln, hlh, h0, h1, h9, hps, kk⟩ := h
  refine q_tup4 (ev_var rfl) ht fun H1 e1 => ?_
  show tSeq _ _ _ ([some (.ref p), some (.ref t), some (.ref hl), some (.int n), some (.str name), some (.int low), some (.int high), none, none] : L2.St) H1
  have ka1 := ka.mono e1
  refine q_asgL (el_why (ev_var rfl) (ev_var rfl) (ev_var rfl) (ev_var rfl) (ev_var rfl) ka1 hln hlh) fun pf H2 hpf e2 h2 => ?_
  have E2 := e1.trans e2
  have ka2 := ka.mono E2
  show tSeq _ _ _ ([some (.ref p), some (.ref t), some (.ref hl), some (.int n), some (.str name), some (.int low), some (.int high), some (.ref pf), none] : L2.St) H2
  have hg1 := ev_lhangsX (K := K) (C := C) (ta := tMeth C.Keeper "book" (sp_Keeper_book K C) [] E0 (tVar 0) tNil) (tf := tVar 7) (tb := tVar 3) (tc := tVar 4) (td := tVar 5) (te := tVar 6) (σ := [some (.ref p), some (.ref t), some (.ref hl), some (.int n), some (.str name), some (.int low), some (.int high), some (.ref pf), none]) (bx_kbook (ev_var rfl) ka2) (ev_var rfl) (ev_var rfl) (ev_var rfl) (ev_var rfl) (ev_var rfl) ka.few ka.gd hlh h0 h1 h9 h2
  have again := el_why (K := K) (C := C) (ta := tVar 0) (tb := tVar 3) (tc := tVar 4) (td := tVar 5) (te := tVar 6) (σ := [some (.ref p), some (.ref t), some (.ref hl), some (.int n), some (.str name), some (.int low), some (.int high), some (.ref pf), none]) (ev_var rfl) (ev_var rfl) (ev_var rfl) (ev_var rfl) (ev_var rfl) ka2 hln hlh
  rw [← opt_ints] at again
  have hne := ev_neOptL (K := K) (tb := tVar 7) again (ev_var rfl) (q := pf) (s := (hangK B n name low high).map some) (by rw [opt_ints]; exact h2)
  rw [decide_eq_true rfl] at hne
  refine q_when (b := false) (et_or (a := false) (b := false) (et_not (a := true) (et_B hg1)) fun _ => et_test hne) (fun z => by cases z) fun _ H3 e3 => ?_
  have E3 := E2.trans e3
  have hhl0 : H hl ≠ none := by rw [hh]; simp
  have hpfn : H pf = none := fresh_back e1 hpf
  refine q_appPair (H0 := H) (E3 hl _ hh) hhl0 (ev_var rfl) (ev_var rfl) (eo1_list (ev_var rfl) (e3 pf _ h2)) (e3 pf _ h2) hpfn (ex_alive E3) (.inl ⟨_, rfl⟩) (by omega) fun v1 H4 f4 h4 hp1 => ?_
  have F4 : Fr [hl] H H4 := (Fr.of E3).trans f4
  have hpl : p ∉ [hl] := fun z => by
    obtain ⟨dx, hp⟩ := ka.ob
    rw [List.mem_singleton.mp z, hh] at hp; cases hp
  have hdl : d ∉ [hl] := fun z => by
    obtain ⟨kv, hd, _⟩ := ka.dc
    rw [List.mem_singleton.mp z, hh] at hd; cases hd
  have ka4 := ka.frm F4 hpl hdl
  show tSeq _ _ _ ([some (.ref p), some (.ref t), some (.ref hl), some (.int n), some (.str name), some (.int low), some (.int high), some (.ref pf), none] : L2.St) H4
  have al4 := F4.alive (fun z hz => by rw [List.mem_singleton.mp hz, h4]; simp)
  refine q_asgRw (at_kbook (ev_var rfl) ka4 fun pb H5 nb => ?_)
  show tSeq _ _ _ ([some (.ref p), some (.ref t), some (.ref hl), some (.int n), some (.str name), some (.int low), some (.int high), some (.ref pf), some (.ref pb)] : L2.St) H5
  obtain ⟨kvs, hk5, hr5⟩ := nb.dk
  have hpb0 : H pb = none := by
    cases e0 : H pb with
    | none => rfl
    | some o => exact absurd nb.new (al4 pb o e0)
  have h5 := nb.ex hl _ h4
  refine q_appPair (H0 := H) h5 hhl0 (ev_var rfl) (ev_var rfl) (eo1_dict (ev_var rfl) hk5) hk5 hpb0 (fun x o hx => by
    have := al4 x o hx
    cases e0 : H4 x with
    | none => exact absurd e0 this
    | some o' => rw [nb.ex x o' e0]; simp) (.inr (.inr ⟨kvs, B, rfl, hr5, ka.nd, nb.few, ka.gd⟩)) (by rw [List.length_append]; simp; omega) fun v2 H6 f6 h6 hp2 => ?_
  have f46 : Fr [hl] H4 H6 := (Fr.of nb.ex).trans f6
  refine s_ret (v := .bl true) ev_c fun H7 e7 => ?_
  have F7 : Fr [hl] H6 H7 := Fr.of e7
  have hz : ∀ z ∈ [hl], H z ≠ none := fun z hz => by rw [List.mem_singleton.mp hz]; exact hhl0
  refine kk H7 v1 v2 ((F4.trans f46).trans F7) ?_ (hp1.frm (f46.trans F7) hz) (hp2.frm F7 hz)
  have := e7 hl _ h6
  rw [List.append_assoc] at this
  exact this
/-! ### _law_right -/
def sp_l_rightK (K : PySem.W.Frag) (C : CA) : Sp := fun vs H Q _ => ∃ (p d rb t hl : Addr) (S R : Bk) (g l n : Int) (name : Str) (low high turn : Int) (ps : List V), vs = [.ref p, .ref rb, .ref t, .ref hl, .int turn] ∧ KeepAt K C H p d S g l ∧ BookAt H rb R ∧ H t = some (.tup (askV n name low high)) ∧ H hl = some (.lst ps) ∧ l ≤ n ∧ low ≤ high ∧ 0 ≤ low ∧ high ≤ 1000000 ∧ high - low ≤ 900 ∧ ps.length ≤ 50000 ∧
  (∀ day, worthF S n name day = worthF R n name day) ∧ ∀ H' v, Fr [hl] H H' → H' hl = some (.lst (ps ++ [v])) → HPair H H' v → Q (.bl true) H'
theorem len_l_rightK {K : PySem.W.Frag} {C : CA} {vs : List V} {H : Hp} {Q : VK} {E : XK} (h : sp_l_rightK K C vs H Q E) : vs.length = 5 := by
  obtain ⟨p, d, rb, t, hl, S, R, g, l, n, name, low, high, turn, ps, rfl, _⟩ := h
  rfl
/-- _law_keeper 0, _law_rows 1, _law_asked 2, _law_held 3, _law_turn 4, _law_n 5, _law_name 6, _law_low 7, _law_high 8, _law_due 9, _law_runs_here 10 -/
def t_l_rightK (K : PySem.W.Frag) (C : CA) : TS :=
 (tSeq (tAsg (tVar 2) (gTup K 4 (gCons (gName 5) (gCons (gName 6) (gCons (gName 7) (gCons (gName 8) gNil))))))
 (tSeq (tAsg (tDGet2 (tCall (sp_l_said K C) [] E0 (tCons (tVar 1) (tCons (tVar 5) (tCons (tVar 7) tNil)))) (tVar 6) (tC .non)) (gName 9))
 (tSeq (tIfS (tAnd (tTest (tOp (eqA K) (tOp (modI) (tVar 4) (tC (.int 2))) (tC (.int 0)))) (tTest (tOp (neA K) (tMeth C.Keeper "worth" (sp_Keeper_worth K C) [] E0 (tVar 0) (tCons (tVar 5) (tCons (tVar 6) (tCons (tVar 7) tNil)))) (tVar 9)))) (tRet (tC (.bl false))) tNext)
 (tSeq (tAsg (tMeth C.Keeper "runs" (sp_Keeper_runs K C) [] E0 (tVar 0) (tCons (tVar 5) (tCons (tVar 6) (tCons (tVar 7) (tCons (tVar 8) tNil))))) (gName 10))
 (tSeq (tIfS (tAnd (tTest (tOp (eqA K) (tOp (modI) (tVar 4) (tC (.int 2))) (tC (.int 1)))) (tTest (tOp (neA K) (tMeth C.Keeper "worth" (sp_Keeper_worth K C) [] E0 (tVar 0) (tCons (tVar 5) (tCons (tVar 6) (tCons (tVar 7) tNil)))) (tVar 9)))) (tRet (tC (.bl false))) tNext)
 (tSeq (tIfS (tOr (tNot (tB (tCB (rIsi K) (tCons (tVar 10) (tCons (tC (.ty "list")) tNil))))) (tTest (tOp (neA K) (tVar 10) (tCall (sp_l_runs K C) [] E0 (tCons (tVar 1) (tCons (tVar 5) (tCons (tVar 6) (tCons (tVar 7) (tCons (tVar 8) tNil))))))))) (tRet (tC (.bl false))) tNext)
 (tSeq (tDrop (tBM K "list" rAppend (tVar 3) (tCons (tTup (tCons (tVar 10) (tCons (tCB (listC K) (tCons (tVar 10) tNil)) tNil))) tNil)))
 (tRet (tC (.bl true))))))))))
theorem pure_l_rightK {K : PySem.W.Frag} {C : CA} {vs : List V} {H : Hp} {Q : VK} {E : XK} (h : sp_l_rightK K C vs H Q E) : t_l_rightK K C { nx := fun _ H' => Q .non H', rt := Q } (startN 11 vs) H := by
  obtain ⟨p, d, rb, t, hl, S, R, g, l, n, name, low, high, turn, ps, rfl, ka, hR, ht, hh, hln, hlh, h0, h1, h9, hps, heq, kk⟩ := h
  refine q_tup4 (ev_var rfl) ht fun H1 e1 => ?_
  show tSeq _ _ _ ([some (.ref p), some (.ref rb), some (.ref t), some (.ref hl), some (.int turn), some (.int n), some (.str name), some (.int low), some (.int high), none, none] : L2.St) H1
  refine q_asg (ev_lsaid (ev_var rfl) (ev_var rfl) (ev_var rfl) (ev_var rfl) (hR.mono e1)) fun H2 e2 => ?_
  have E2 := e1.trans e2
  have ka2 := ka.mono E2
  show tSeq _ _ _ ([some (.ref p), some (.ref rb), some (.ref t), some (.ref hl), some (.int turn), some (.int n), some (.str name), some (.int low), some (.int high), some (optV (worthF R n name low)), none] : L2.St) H2
  have wne : ∀ {o : Option V} {H3 : Hp}, Ex H2 H3 → EvT (tTest (tOp (neA K) (tMeth C.Keeper "worth" (sp_Keeper_worth K C) [] E0 (tVar 0) (tCons (tVar 5) (tCons (tVar 6) (tCons (tVar 7) tNil)))) (tVar 9))) ([some (.ref p), some (.ref rb), some (.ref t), some (.ref hl), some (.int turn), some (.int n), some (.str name), some (.int low), some (.int high), some (optV (worthF R n name low)), o] : L2.St) H3 false := fun {o H3} e3 => by
    have := et_test (_root_.S.ev_ne (K := K) (ev_kworth (K := K) (C := C) (ta := tVar 0) (tb := tVar 5) (tc := tVar 6) (td := tVar 7) (σ := [some (.ref p), some (.ref rb), some (.ref t), some (.ref hl), some (.int turn), some (.int n), some (.str name), some (.int low), some (.int high), some (optV (worthF R n name low)), o]) (ev_var rfl) (ev_var rfl) (ev_var rfl) (ev_var rfl) (ka2.mono e3) hln) (ev_var (i := 9) rfl) (scal_opt _ (worthF R n name low)))
    rw [heq low, decide_eq_true rfl] at this
    exact this
  refine q_when (et_and (et_test (_root_.S.ev_eqI (_root_.S.ev_mod (ev_var rfl) ev_c (by decide)) ev_c)) fun _ => wne (Ex.refl H2)) (fun z => by rw [Bool.and_false] at z; cases z) fun _ H3 e3 => ?_
  have ka3 := ka2.mono e3
  refine q_asgP (ep_kruns (ev_var rfl) (ev_var rfl) (ev_var rfl) (ev_var rfl) (ev_var rfl) ka3 hln hlh) fun pr us H4 hpr e4 h4 hus => ?_
  show tSeq _ _ _ ([some (.ref p), some (.ref rb), some (.ref t), some (.ref hl), some (.int turn), some (.int n), some (.str name), some (.int low), some (.int high), some (optV (worthF R n name low)), some (.ref pr)] : L2.St) H4
  refine q_when (et_and (et_test (_root_.S.ev_eqI (_root_.S.ev_mod (ev_var rfl) ev_c (by decide)) ev_c)) fun _ => wne (e3.trans e4)) (fun z => by rw [Bool.and_false] at z; cases z) fun _ H5 e5 => ?_
  have E5 := (E2.trans e3).trans (e4.trans e5)
  have hR5 := hR.mono E5
  have hq5 : RowsAt H5 pr (runsF S n name low high) := ⟨us, e5 pr _ h4, TupR.all e5 hus⟩
  have hne := ev_neVRowsP (K := K) (ta := tVar 10) (σ := [some (.ref p), some (.ref rb), some (.ref t), some (.ref hl), some (.int turn), some (.int n), some (.str name), some (.int low), some (.int high), some (optV (worthF R n name low)), some (.ref pr)]) (ev_var rfl) hq5 (ep_lrunsX (K := K) (C := C) (ta := tVar 1) (tb := tVar 5) (tc := tVar 6) (td := tVar 7) (te := tVar 8) (bx_ev (ev_var rfl) hR5) (ev_var rfl) (ev_var rfl) (ev_var rfl) (ev_var rfl) hlh h0 h1 h9)
  rw [runs_on (fun d _ _ => heq d), decide_eq_true rfl] at hne
  refine q_when (b := false) (et_or (a := false) (b := false) (et_not (a := true) (et_B (ev_isi (ev_var rfl) (fun H6 e6 => .base (.lst ((e5.trans e6) pr _ h4))) kit_ll))) fun _ => et_test hne) (fun d => by cases d) fun _ H6 e6 => ?_
  have E6 := E5.trans e6
  have hhl0 : H hl ≠ none := by rw [hh]; simp
  have hprn : H pr = none := fresh_back (E2.trans e3) hpr
  have h6 := (e5.trans e6) pr _ h4
  refine q_appPair (H0 := H) (E6 hl _ hh) hhl0 (ev_var rfl) (ev_var rfl) (eo1_list (ev_var rfl) h6) h6 hprn (ex_alive E6) (.inr (.inl ⟨us, _, rfl, TupR.all (e5.trans e6) hus⟩)) (by omega) fun v H7 f7 h7 hp => ?_
  refine s_ret (v := .bl true) ev_c fun H8 e8 => ?_
  have hz : ∀ z ∈ [hl], H z ≠ none := fun z hz => by rw [List.mem_singleton.mp hz]; exact hhl0
  exact kk H8 v (((Fr.of E6).trans f7).trans (Fr.of e8)) (e8 hl _ h7) (hp.frm (Fr.of (Z := [hl]) e8) hz)
/-! ### _law_all_rightK -/
def sp_l_all_right (K : PySem.W.Frag) (C : CA) : Sp := fun vs H Q _ => ∃ (ks rb as hl : Addr) (pl ts : List Addr) (R : Bk) (g l turn : Int) (ps : List V), vs = [.ref ks, .ref rb, .ref as, .ref hl, .int turn] ∧ H ks = some (.lst (pl.map V.ref)) ∧ H as = some (.lst (ts.map V.ref)) ∧ H hl = some (.lst ps) ∧ ks ≠ hl ∧ as ≠ hl ∧ rb ≠ hl ∧
  (∀ p ∈ pl, ∃ d S l', KeepAt K C H p d S g l' ∧ l' ≤ l ∧ ∀ n, l ≤ n → ∀ name day, worthF S n name day = worthF R n name day) ∧ (∃ kvs, H rb = some (.dK kvs) ∧ BkRel H kvs R) ∧ (R.map (·.1)).Nodup ∧ R.length ≤ 60 ∧
  (∀ t ∈ ts, ∃ n name low high, H t = some (.tup (askV n name low high)) ∧ l ≤ n ∧ low ≤ high ∧ 0 ≤ low ∧ high ≤ 1000000 ∧ high - low ≤ 900) ∧ pl.length ≤ 2 ∧ ts.length ≤ 2 ∧ ps.length ≤ 40000 ∧
  ∀ H' ws, Fr [hl] H H' → H' hl = some (.lst (ps ++ ws)) → ws.length ≤ 4 → (∀ v ∈ ws, HPair H H' v) → Q (.bl true) H'
theorem len_l_all_right {K : PySem.W.Frag} {C : CA} {vs : List V} {H : Hp} {Q : VK} {E : XK} (h : sp_l_all_right K C vs H Q E) : vs.length = 5 := by
  obtain ⟨ks, rb, as, hl, pl, ts, R, g, l, turn, ps, rfl, _⟩ := h
  rfl
/-- _law_keepers 0, _law_rows 1, _law_askings 2, _law_held 3, _law_turn 4, _law_keeper 5, _law_asked 6 -/
def t_l_all_right (K : PySem.W.Frag) (C : CA) : TS :=
 (tSeq (tFor (iList K (tVar 0)) (gName 5)
  (tFor (iList K (tVar 2)) (gName 6)
  (tIfS (tNot (tB (tCall (sp_l_rightK K C) [] E0 (tCons (tVar 5) (tCons (tVar 1) (tCons (tVar 6) (tCons (tVar 3) (tCons (tVar 4) tNil)))))))) (tRet (tC (.bl false))) tNext)))
 (tRet (tC (.bl true))))
theorem pure_l_all_right {K : PySem.W.Frag} {C : CA} {vs : List V} {H : Hp} {Q : VK} {E : XK} (h : sp_l_all_right K C vs H Q E) : t_l_all_right K C { nx := fun _ H' => Q .non H', rt := Q } (startN 7 vs) H := by
  obtain ⟨ks, rb, as, hl, pl, ts, R, g, l, turn, ps, rfl, hks, has, hh, n1, n2, n3, hK, hRb, hnd, h60, hT, hpl, htl, hps, kk⟩ := h
  have hhl0 : H hl ≠ none := by rw [hh]; simp
  have hz : ∀ z ∈ [hl], H z ≠ none := fun z hz => by rw [List.mem_singleton.mp hz]; exact hhl0
  have o1 : ks ∉ [hl] := fun z => n1 (List.mem_singleton.mp z)
  have o2 : as ∉ [hl] := fun z => n2 (List.mem_singleton.mp z)
  have o3 : rb ∉ [hl] := fun z => n3 (List.mem_singleton.mp z)
  refine q_forLn (ev_var rfl) (sq_of hks) (fun i σ' H' => ∃ o5 o6 ws, σ' = [some (.ref ks), some (.ref rb), some (.ref as), some (.ref hl), some (.int turn), o5, o6] ∧ Fr [hl] H H' ∧ H' hl = some (.lst (ps ++ ws)) ∧ ws.length ≤ i * ts.length ∧ ∀ v ∈ ws, HPair H H' v)
    (fun H1 e1 => ⟨none, none, [], rfl, Fr.of e1, by rw [List.append_nil]; exact e1 hl _ hh, by simp, fun v hv => by cases hv⟩) (fun i σ' H' _ ⟨_, _, _, _, f, _⟩ => sq_of (f.keep ks _ o1 hks)) ?_ ?_
  · rintro i x σ' H1 hx ⟨o5, o6, ws, rfl, f1, hw1, hwl, hwp⟩
    obtain ⟨p, hp, rfl⟩ := map_get hx
    have hi2 : i < pl.length := (List.getElem?_eq_some_iff.mp hp).1
    obtain ⟨d, S, l', ka, hll, hwo⟩ := hK p (List.mem_of_getElem? hp)
    have hpp : p ∉ [hl] := fun z => by
      obtain ⟨dx, hp⟩ := ka.ob
      rw [List.mem_singleton.mp z, hh] at hp; cases hp
    have hdd : d ∉ [hl] := fun z => by
      obtain ⟨kv, hd, _⟩ := ka.dc
      rw [List.mem_singleton.mp z, hh] at hd; cases hd
    show tFor _ _ _ _ ([some (.ref ks), some (.ref rb), some (.ref as), some (.ref hl), some (.int turn), some (.ref p), o6] : L2.St) H1
    refine s_forLn (ev_var rfl) (sq_of (f1.keep as _ o2 has)) (fun j σ' H' => ∃ o6 ws, σ' = [some (.ref ks), some (.ref rb), some (.ref as), some (.ref hl), some (.int turn), some (.ref p), o6] ∧ Fr [hl] H H' ∧ H' hl = some (.lst (ps ++ ws)) ∧ ws.length ≤ i * ts.length + j ∧ ∀ v ∈ ws, HPair H H' v)
      (fun H2 e2 => ⟨o6, ws, rfl, f1.trans (Fr.of e2), e2 hl _ hw1, by omega, fun v hv => (hwp v hv).frm (Fr.of (Z := [hl]) e2) hz⟩) (fun j σ' H' _ ⟨_, _, _, f, _⟩ => sq_of (f.keep as _ o2 has)) ?_ ?_
    · rintro j x σ' H2 hx2 ⟨o6', ws2, rfl, f2, hw2, hwl2, hwp2⟩
      obtain ⟨t, ht, rfl⟩ := map_get hx2
      have hj2 : j < ts.length := (List.getElem?_eq_some_iff.mp ht).1
      obtain ⟨n, name, low, high, htt, hln, hlh, h0, h1, h9⟩ := hT t (List.mem_of_getElem? ht)
      obtain ⟨kvs, hrb, hrr⟩ := hRb
      have hib : i * ts.length ≤ 2 * 2 := Nat.mul_le_mul (by omega) htl
      have lr : Ev (tCall (sp_l_rightK K C) [] E0 (tCons (tVar 5) (tCons (tVar 1) (tCons (tVar 6) (tCons (tVar 3) (tCons (tVar 4) tNil)))))) ([some (.ref ks), some (.ref rb), some (.ref as), some (.ref hl), some (.int turn), some (.ref p), some (.ref t)] : L2.St) H2 (.bl true) ∨ True := .inr trivial
      clear lr
      show tIfS _ _ _ _ ([some (.ref ks), some (.ref rb), some (.ref as), some (.ref hl), some (.int turn), some (.ref p), some (.ref t)] : L2.St) H2
      show tCall (sp_l_rightK K C) [] E0 (tCons (tVar 5) (tCons (tVar 1) (tCons (tVar 6) (tCons (tVar 3) (tCons (tVar 4) tNil))))) ([some (.ref ks), some (.ref rb), some (.ref as), some (.ref hl), some (.int turn), some (.ref p), some (.ref t)] : L2.St) H2 _
      unfold tCall
      refine ea_cons (ev_var rfl) (ea_cons (ev_var rfl) (ea_cons (ev_var rfl) (ea_cons (ev_var rfl) (ea_cons (ev_var rfl) ea_nil)))) H2 (Ex.refl H2) _ fun H3 e3 => ?_
      have f3 : Fr [hl] H H3 := f2.trans (Fr.of e3)
      have hw3 := e3 hl _ hw2
      refine ⟨p, d, rb, t, hl, S, R, g, l', n, name, low, high, turn, ps ++ ws2, rfl, ka.frm f3 hpp hdd, ⟨⟨kvs, .inl (f3.keep rb _ o3 hrb), f3.rel hrr⟩, hnd, h60⟩, f3.tup _ _ htt, hw3, by omega, hlh, h0, h1, h9, by rw [List.length_append]; omega, fun day => hwo n hln name day, fun H4 v f4 h4 hp4 => ?_⟩
      refine ⟨true, rfl, ?_⟩
      show ∃ o6 ws, _ ∧ Fr [hl] H H4 ∧ H4 hl = some (.lst (ps ++ ws)) ∧ ws.length ≤ i * ts.length + (j + 1) ∧ ∀ v ∈ ws, HPair H H4 v
      refine ⟨_, ws2 ++ [v], rfl, f3.trans f4, by rw [h4, List.append_assoc], by rw [List.length_append, List.length_singleton]; omega, fun u hu => ?_⟩
      rcases List.mem_append.mp hu with hu | hu
      · exact (hwp2 u hu).frm ((Fr.of (Z := [hl]) e3).trans f4) hz
      · rw [List.mem_singleton.mp hu]
        exact hp4.back (f3.alive fun z hz => by rw [List.mem_singleton.mp hz, hw3]; simp)
    · rintro σ' H2 ⟨o6', ws2, rfl, f2, hw2, hwl2, hwp2⟩
      rw [List.length_map] at hwl2
      exact ⟨_, o6', ws2, rfl, f2, hw2, by rw [Nat.succ_mul]; omega, hwp2⟩
  · rintro σ' H1 ⟨o5, o6, ws, rfl, f1, hw1, hwl, hwp⟩
    rw [List.length_map] at hwl
    refine s_ret (v := .bl true) ev_c fun H2 e2 => kk H2 ws (f1.trans (Fr.of e2)) (e2 hl _ hw1) ?_ fun v hv => (hwp v hv).frm (Fr.of (Z := [hl]) e2) hz
    exact Nat.le_trans hwl (Nat.le_trans (Nat.mul_le_mul hpl htl) (Nat.le_refl 4))
end S
end
set_option Elab.async false
set_option linter.all false
set_option maxRecDepth 100000
set_option maxHeartbeats 4000000
section
open PySem L2 Evl S
local macro_rules | `(tactic| array_get_dec) => `(tactic| first
  | exact ev_c
  | exact ev_var rfl
  | exact S.eo_no
  | exact ea_nil
  | (apply S.eo_some <;> array_get_dec)
  | (apply ea_cons <;> array_get_dec)
  | (apply S.ev_add <;> array_get_dec)
  | (apply S.ev_sub <;> array_get_dec)
  | (apply S.ev_div <;> first | array_get_dec | exact ⟨by decide, by decide⟩ | exact ⟨by omega, by omega⟩)
  | (apply S.ev_mod <;> first | array_get_dec | decide | omega)
  | (apply S.ev_mulr <;> first | array_get_dec | exact ⟨by decide, by decide⟩ | exact ⟨by omega, by omega⟩)
  | (apply S.ev_mull <;> first | array_get_dec | exact ⟨by decide, by decide⟩ | exact ⟨by omega, by omega⟩)
  | (apply S.ev_neg <;> array_get_dec)
  | (apply S.ev_min <;> array_get_dec)
  | (apply S.ev_max <;> array_get_dec)
  | (apply S.ev_eqI <;> array_get_dec)
  | (apply S.ev_eqS <;> array_get_dec)
  | (apply S.ev_neI <;> array_get_dec)
  | (apply S.ev_neS <;> array_get_dec)
  | (apply S.ev_lt <;> array_get_dec)
  | (apply S.ev_le <;> array_get_dec)
  | (apply S.ev_gt <;> array_get_dec)
  | (apply S.ev_ge <;> array_get_dec)
  | (apply S.ev_intB <;> array_get_dec)
  | (apply et_test <;> array_get_dec)
  | (apply et_B <;> array_get_dec)
  | (apply et_not <;> array_get_dec)
  | (refine' et_and ?_ (fun _ => ?_) <;> array_get_dec)
  | (refine' et_or ?_ (fun _ => ?_) <;> array_get_dec))
namespace S
section
variable {K : PySem.W.Frag} {C : CA} {σ : L2.St} {H H' : Hp} {t : TT} {ta tb tc td te tf : TE} {D : Ends} {tA tu tz : TS} {b : Addr} {B L : Bk} {n : Int}
theorem q_mid (M : L2.St → Hp → Prop) (h : ∀ nx : L2.St → Hp → Prop, (∀ σ' H', M σ' H' → nx σ' H') → tA { D with nx := nx } σ H) (r : ∀ σ' H', M σ' H' → tz D σ' H') : tSeq tA tz D σ H := h _ r
theorem at_entryK {pn : Addr} {xs : List Str} {b n k : Int} {Q : VK} (ha : Ev ta σ H (.ref pn)) (hb : Ev tb σ H (.int b)) (hc : Ev tc σ H (.int n)) (hd : Ev td σ H (.int k)) (hn : SqL K H pn (xs.map V.str)) (g : GoodNames xs) (b0 : 0 ≤ b) (b1 : b ≤ 1000000) (k1 : 1 ≤ k) (q : ∀ t e H1, H t = none → Ex H H1 → EntAt H1 t e → e.ok k → Q (.ref t) H1) : tCall (sp_l_entry K C) [] E0 (tCons ta (tCons tb (tCons tc (tCons td tNil)))) σ H Q := by
  unfold tCall
  exact ea_cons ha (ea_cons hb (ea_cons hc (ea_cons hd ea_nil))) H (Ex.refl H) _ fun H1 e1 => ⟨pn, xs, b, n, k, rfl, ex_l e1 hn, g, b0, b1, k1, fun t e H2 ht e2 het hok _ _ => q t e H2 (fresh_back e1 ht) (e1.trans e2) het hok⟩
end
def DictAt (H : Hp) (b : Addr) (B : Bk) : Prop := ∃ kvs, H b = some (.dK kvs) ∧ BkRel H kvs B
theorem DictAt.frm {H H' : Hp} {b : Addr} {B : Bk} {Z : List Addr} (h : DictAt H b B) (f : Fr Z H H') (hb : b ∉ Z) : DictAt H' b B := let ⟨kvs, h1, h2⟩ := h; ⟨kvs, f.keep b _ hb h1, f.rel h2⟩
/-- the two keepers and the dict of all entries, all of them apart -/
structure Two (K : PySem.W.Frag) (C : CA) (H : Hp) (p0 p1 d0 d1 rb : Addr) (R B : Bk) (last floor : Int) : Prop where
  k0 : KeepAt K C H p0 d0 R last 0
  k1 : KeepAt K C H p1 d1 B last floor
  rw : DictAt H rb R
  ks : Keeps R B floor last
  n1 : p0 ≠ p1
  n2 : d0 ≠ d1
  n3 : rb ≠ d0
  n4 : rb ≠ d1
/-! ### _law_deed -/
def sp_l_deed (K : PySem.W.Frag) (C : CA) : Sp := fun vs H Q _ => ∃ (ks rb pn p0 p1 d0 d1 : Addr) (xs : List Str) (R B : Bk) (last floor cell : Int), vs = [.ref ks, .ref rb, .ref pn, .int cell, .int floor] ∧ H ks = some (.lst [.ref p0, .ref p1]) ∧ Two K C H p0 p1 d0 d1 rb R B last floor ∧ H pn = some (.lst (xs.map V.str)) ∧ GoodNames xs ∧ R.length ≤ 20 ∧
  ∀ R' B' H', Fr [p0, p1, d0, d1, rb] H H' → Two K C H' p0 p1 d0 d1 rb R' B' (last + 1) floor → R'.length = R.length + 1 → Q (.bl true) H'
theorem len_l_deed {K : PySem.W.Frag} {C : CA} {vs : List V} {H : Hp} {Q : VK} {E : XK} (h : sp_l_deed K C vs H Q E) : vs.length = 5 := by
  obtain ⟨ks, rb, pn, p0, p1, d0, d1, xs, R, B, last, floor, cell, rfl, _⟩ := h
  rfl
/-- _law_keepers 0, _law_rows 1, _law_names_here 2, _law_cell 3, _law_floor 4, _law_number 5, _law_entry_here 6, _law_keeper 7 -/
def t_l_deed (K : PySem.W.Frag) (C : CA) : TS :=
 (tSeq (tAsg (tOp (addA K) (tMeth C.Keeper "last" (sp_Keeper_last K C) [] E0 (tOp (ixA K) (tVar 0) (tC (.int 0))) tNil) (tC (.int 1))) (gName 5))
 (tSeq (tAsg (tCall (sp_l_entry K C) [] E0 (tCons (tVar 2) (tCons (tC (.int 5)) (tCons (tVar 3) (tCons (tVar 5) tNil))))) (gName 6))
 (tSeq (tIfS (tTest (tOp (eqA K) (tOp (ixA K) (tVar 6) (tC (.int 0))) (tC (.str "undo")))) (tSeq (tAsg (tTup (tCons (tC (.str "undo")) (tCons (tOp (addA K) (tOp (addA K) (tVar 4) (tC (.int 1))) (tOp (modI) (tOp (ixA K) (tVar 6) (tC (.int 1))) (tCB rMax2 (tCons (tC (.int 1)) (tCons (tOp (subI) (tOp (subI) (tVar 5) (tVar 4)) (tC (.int 1))) tNil))))) tNil))) (gName 6))
 (tIfS (tTest (tOp (eqA K) (tVar 5) (tOp (addA K) (tVar 4) (tC (.int 1))))) (tAsg (tTup (tCons (tC (.str "like")) (tCons (tOp (ixA K) (tVar 2) (tC (.int 0))) (tCons (tC (.int 5)) (tCons (tC (.int 9)) (tCons (tOp (ixA K) (tVar 2) (tC (.int 1))) tNil)))))) (gName 6)) tNext)) tNext)
 (tSeq (tAsg (tVar 6) (gSub (tVar 1) (tVar 5) setA))
 (tRet (tOp (eqA K) (tLc (iList K (tVar 0)) (gName 7) tYes (tMeth C.Keeper "add" (sp_Keeper_add K C) [] E0 (tVar 7) (tCons (tVar 6) tNil)) [7]) (tLst (tCons (tVar 5) (tCons (tVar 5) tNil)))))))))
theorem pure_l_deed {K : PySem.W.Frag} {C : CA} {vs : List V} {H : Hp} {Q : VK} {E : XK} (h : sp_l_deed K C vs H Q E) : t_l_deed K C { nx := fun _ H' => Q .non H', rt := Q } (startN 8 vs) H := by
  obtain ⟨ks, rb, pn, p0, p1, d0, d1, xs, R, B, last, floor, cell, rfl, hks, tw, hpn, hgn, hRl, kk⟩ := h
  have hx3 : xs.length = 3 := hgn.1
  have fl := tw.ks.fl
  refine q_asg (ev_add (ev_klast (ev_ixL (ev_var rfl) ev_c (sq_of hks) rfl) tw.k0) ev_c) fun H1 e1 => ?_
  show tSeq _ _ _ ([some (.ref ks), some (.ref rb), some (.ref pn), some (.int cell), some (.int floor), some (.int (last + 1)), none, none] : L2.St) H1
  refine q_asgRw (at_entryK (ev_var rfl) ev_c (ev_var rfl) (ev_var rfl) (sq_of (e1 pn _ hpn)) hgn (by decide) (by decide) (by omega) fun t0 ent0 H2 ht0 e2 het0 hok0 => ?_)
  show tSeq _ _ _ ([some (.ref ks), some (.ref rb), some (.ref pn), some (.int cell), some (.int floor), some (.int (last + 1)), some (.ref t0), none] : L2.St) H2
  have E2 := e1.trans e2
  -- an undo of what is above the floor
  refine q_mid (fun σ' H' => ∃ t e, σ' = [some (.ref ks), some (.ref rb), some (.ref pn), some (.int cell), some (.int floor), some (.int (last + 1)), some (.ref t), none] ∧ Ex H H' ∧ EntAt H' t e ∧ e.ok (last + 1) ∧ ∀ j, e = .undo j → floor < j) (fun nx hnx => ?_) ?_
  · have tu := et_test (ev_eqS (K := K) (H := H2) (ta := tOp (ixA K) (tVar 6) (tC (.int 0))) (tb := tC (.str "undo")) (σ := [some (.ref ks), some (.ref rb), some (.ref pn), some (.int cell), some (.int floor), some (.int (last + 1)), some (.ref t0), none]) (ev_part 0 (ev_var rfl) het0 ent0.vs0) ev_c)
    rw [Ent.word_undo] at tu
    refine s_when tu (fun c H3 e3 => ?_) (fun c H3 e3 => hnx _ _ ⟨t0, ent0, rfl, E2.trans e3, het0.mono e3, hok0, fun j hj => by rw [hj] at c; cases c⟩)
    obtain ⟨m, rfl⟩ : ∃ m, ent0 = .undo m := by
      cases ent0 with
      | undo m => exact ⟨m, rfl⟩
      | _ => cases c
    obtain ⟨mx, hmx, hmx1, hmx2⟩ : ∃ mx, mx = (if last + 1 - floor - 1 > 1 then last + 1 - floor - 1 else 1) ∧ 1 ≤ mx ∧ (floor < last → mx ≤ last - floor) := ⟨_, rfl, by split <;> omega, fun _ => by split <;> omega⟩
    have hmm := mod_lt m (show (0 : Int) < mx by omega)
    refine q_asgU (D := { nx := nx, rt := Q }) (eu_tup (vs := [.str "undo", .int (floor + 1 + m % mx)]) (ea_cons ev_c (ea_cons (ev_add (ev_add (ev_var rfl) ev_c) (ev_mod (ev_part 1 (ev_var rfl) (het0.mono e3) rfl) (by rw [hmx]; exact ev_max ev_c (ev_sub (ev_sub (ev_var rfl) (ev_var rfl)) ev_c)) (by omega))) ea_nil)) (by simp)) fun t1 H4 ht1 e4 h4 => ?_
    show tIfS _ _ _ _ ([some (.ref ks), some (.ref rb), some (.ref pn), some (.int cell), some (.int floor), some (.int (last + 1)), some (.ref t1), none] : L2.St) H4
    have E4 := (E2.trans e3).trans e4
    refine s_when (et_test (ev_eqI (ev_var rfl) (ev_add (ev_var rfl) ev_c))) (fun c2 H5 e5 => ?_) (fun c2 H5 e5 => ?_)
    · have hpn5 := (E4.trans e5) pn _ hpn
      refine s_asgU (D := { nx := nx, rt := Q }) (eu_tup (vs := [.str "like", .str (xs.getD 0 Str.empty), .int 5, .int 9, .str (xs.getD 1 Str.empty)]) (ea_cons ev_c (ea_cons (ev_nameN 0 (ev_var rfl) hpn5 (by omega)) (ea_cons ev_c (ea_cons ev_c (ea_cons (ev_nameN 1 (ev_var rfl) hpn5 (by omega)) ea_nil))))) (by simp)) fun t2 H6 ht2 e6 h6 => ?_
      refine hnx _ _ ⟨t2, .like (xs.getD 0 Str.empty) 5 9 (xs.getD 1 Str.empty), rfl, (E4.trans e5).trans e6, h6, ⟨hgn.2 _ (getD_mem _ (by omega)), by decide, by decide, by decide, hgn.2 _ (getD_mem _ (by omega))⟩, fun j hj => by cases hj⟩
    · have c2' := of_decide_eq_false c2
      have := hmx2 (by omega)
      exact hnx _ _ ⟨t1, .undo (floor + 1 + m % mx), rfl, E4.trans e5, e5 t1 _ h4, ⟨by omega, by omega⟩, fun j hj => by cases hj; omega⟩
  clear E2 het0 hok0 ht0
  rintro σ' H3 ⟨t, e, rfl, E3, het, hok, hund⟩
  have hu0 : ∀ j, e = .undo j → 1 ≤ j ∧ j ≤ last := fun j hj => by rw [hj] at hok; exact ⟨hok.1, by have := hok.2; omega⟩
  -- rows[number] = entry
  obtain ⟨kvr, hrb, hrr⟩ := tw.rw
  have hrl : kvr.length = R.length := hrr.len
  refine q_put (k := (Sum.inl (last + 1) : Key)) (ev_var rfl) (ev_var rfl) (ev_var rfl) (E3 rb _ hrb) (by omega) fun H4 e4 => ?_
  have E4 := E3.trans e4
  have f5 : Fr [rb] H4 (upd H4 rb (.dK (putK kvr (Sum.inl (last + 1) : Key) (.ref t)))) := Fr.upd (E4 rb _ hrb) fun _ z => by cases z
  have F5 : Fr [rb] H (upd H4 rb (.dK (putK kvr (Sum.inl (last + 1) : Key) (.ref t)))) := (Fr.of E4).trans f5
  have hnew : (last + 1) ∉ R.map (·.1) := fun z => by
    obtain ⟨q, hq, e0⟩ := List.mem_map.mp z
    have := tw.ks.le q hq
    omega
  have hput : R.put (last + 1) e = R ++ [(last + 1, e)] := by unfold Bk.put; rw [if_neg hnew]
  have hrow5 : DictAt (upd H4 rb (.dK (putK kvr (Sum.inl (last + 1) : Key) (.ref t)))) rb (R ++ [(last + 1, e)]) := ⟨_, upd_same, by
    rw [← hput]
    exact f5.rel ((hrr.mono E4).put (het.mono e4))⟩
  have het5 := f5.ent (het.mono e4)
  have o1 : p0 ∉ [rb] := fun z => by
    obtain ⟨dx, h1⟩ := tw.k0.ob
    rw [List.mem_singleton.mp z, hrb] at h1; cases h1
  have o2 : p1 ∉ [rb] := fun z => by
    obtain ⟨dx, h1⟩ := tw.k1.ob
    rw [List.mem_singleton.mp z, hrb] at h1; cases h1
  have o3 : d0 ∉ [rb] := fun z => tw.n3 (List.mem_singleton.mp z).symm
  have o4 : d1 ∉ [rb] := fun z => tw.n4 (List.mem_singleton.mp z).symm
  have a5 := tw.k0.frm F5 o1 o3
  have b5 := tw.k1.frm F5 o2 o4
  have hks5 := F5.keep ks _ (fun z => by rw [List.mem_singleton.mp z, hrb] at hks; cases hks) hks
  generalize upd H4 rb (.dK (putK kvr (Sum.inl (last + 1) : Key) (.ref t))) = H5 at F5 hrow5 het5 a5 b5 hks5 ⊢
  clear f5
  show tRet _ _ ([some (.ref ks), some (.ref rb), some (.ref pn), some (.int cell), some (.int floor), some (.int (last + 1)), some (.ref t), none] : L2.St) H5
  unfold tRet tOp tLc iList
  refine (ev_var (i := 0) (v := .ref ks) rfl) H5 (Ex.refl H5) _ fun H6 e6 => ⟨ks, rfl, ⟨_, sq_of (e6 ks _ hks5)⟩, fun Dl hD => ?_⟩
  have a6 := a5.mono e6
  have b6 := b5.mono e6
  have het6 := het5.mono e6
  have hks6 := e6 ks _ hks5
  -- apart
  obtain ⟨dx0, op0⟩ := a6.ob
  obtain ⟨dx1, op1⟩ := b6.ob
  obtain ⟨kd0, od0, _⟩ := a6.dc
  obtain ⟨kd1, od1, _⟩ := b6.dc
  have q00 : p0 ≠ d1 := fun z => by rw [z, od1] at op0; cases op0
  have q01 : p1 ≠ d0 := fun z => by rw [z, od0] at op1; cases op1
  have nD : ∀ {x : Addr} {o : HO}, H6 x = some o → x ≠ Dl := fun {x o} hx z => by rw [z, hD] at hx; cases hx
  have kD : ks ∉ [Dl, p0, p1, d0, d1] := fun z => by
    simp only [List.mem_cons, List.not_mem_nil, or_false] at z
    rcases z with z | z | z | z | z
    · exact nD hks6 z
    · rw [z, op0] at hks6; cases hks6
    · rw [z, op1] at hks6; cases hks6
    · rw [z, od0] at hks6; cases hks6
    · rw [z, od1] at hks6; cases hks6
  have hentry : entryD (.tuple e.ds) = true := Ent.isEntry hok
  -- one keeper
  have one : ∀ (p d : Addr) (A : Bk) (l : Int) (H7 : Hp) (Q7 : VK), KeepAt K C H7 p d A last l → EntAt H7 t e → A.length ≤ 20 → (∀ j, e = .undo j → l < j) →
      (∀ H8, Fr [p, d] H7 H8 → KeepAt K C H8 p d (A ++ [(last + 1, e)]) (last + 1) l → Q7 (.int (last + 1)) H8) →
      tMeth C.Keeper "add" (sp_Keeper_add K C) [] E0 (tVar 7) (tCons (tVar 6) tNil) ([some (.ref ks), some (.ref rb), some (.ref pn), some (.int cell), some (.int floor), some (.int (last + 1)), some (.ref t), some (.ref p)] : L2.St) H7 Q7 := fun p d A l H7 Q7 ka h7 hA hl k => by
    refine at_meth (ev_var rfl) (ea_cons (ev_var rfl) ea_nil) ka m_add1 m_add2 m_add3 fun H8 e8 => ?_
    refine ⟨p, d, A, last, l, .ref t, .tuple e.ds, rfl, ka.mono e8, Ent.dq (h7.mono e8) hok, by omega, .inr ⟨t, e, rfl, h7.mono e8, rfl, hentry, fun ⟨j, hj, hjl⟩ => ?_, fun ⟨j, hj, h1, h2⟩ => ?_, fun _ h30 => ?_, fun _ _ H9 f9 ka9 => k H9 ((Fr.of e8).trans f9) ka9⟩⟩
    · have := hl j hj; omega
    · have := (hu0 j hj).2; omega
    · omega
  refine lc_list (xs := [.ref p0, .ref p1]) (fun i H' => Fr [Dl, p0, p1, d0, d1] H6 H' ∧ H' Dl = some (.lst (List.replicate i (V.int (last + 1)))) ∧ KeepAt K C H' p0 d0 (if 1 ≤ i then R ++ [(last + 1, e)] else R) (if 1 ≤ i then last + 1 else last) 0 ∧ KeepAt K C H' p1 d1 (if 2 ≤ i then B ++ [(last + 1, e)] else B) (if 2 ≤ i then last + 1 else last) floor) ?_ (fun i H' _ p => sq_of (p.1.keep ks _ kD hks6)) ?_ ?_
  · have ex := Ex.new (o := .lst []) hD
    exact ⟨Fr.of ex, upd_same, a6.mono ex, b6.mono ex⟩
  · rintro i x H7 hx ⟨f7, hl7, a7, b7⟩
    have het7 := f7.ent het6
    have close : ∀ (p d : Addr) (j : Nat) (H8 : Hp), Fr [p, d] H7 H8 → p ∈ [p0, p1] → d ∈ [d0, d1] → H7 p ≠ none → H7 Dl = some (.lst (List.replicate j (V.int (last + 1)))) → Dl ≠ p → Dl ≠ d → Fr [Dl, p0, p1, d0, d1] H6 (upd H8 Dl (.lst (List.replicate j (V.int (last + 1)) ++ [V.int (last + 1)]))) ∧ H8 Dl = some (.lst (List.replicate j (V.int (last + 1)))) := fun p d j H8 f8 hp hd _ hl hn1 hn2 => by
      have h8 : H8 Dl = some (.lst (List.replicate j (V.int (last + 1)))) := f8.keep Dl _ (fun z => by
        rcases List.mem_cons.mp z with z | z
        · exact hn1 z
        · exact hn2 (List.mem_singleton.mp z)) hl
      refine ⟨(f7.trans (f8.mono fun z hz => ?_)).trans ((Fr.upd h8 fun _ z => by cases z).mono fun z hz => by rw [List.mem_singleton.mp hz]; simp), h8⟩
      rcases List.mem_cons.mp hz with hz | hz
      · rw [hz]; simp at hp ⊢; rcases hp with hp | hp <;> simp [hp]
      · rw [List.mem_singleton.mp hz]; simp at hd ⊢; rcases hd with hd | hd <;> simp [hd]
    have nd0 := nD od0
    have nd1 := nD od1
    have np0 := nD op0
    have np1 := nD op1
    match i, hx with
    | 0, hx =>
      cases hx
      refine ⟨rfl, ?_⟩
      show tMeth C.Keeper "add" (sp_Keeper_add K C) [] E0 (tVar 7) (tCons (tVar 6) tNil) ([some (.ref ks), some (.ref rb), some (.ref pn), some (.int cell), some (.int floor), some (.int (last + 1)), some (.ref t), some (.ref p0)] : L2.St) H7 _
      refine one p0 d0 R 0 H7 _ a7 het7 hRl (fun j hj => by have := (hu0 j hj).1; omega) fun H8 f8 ka8 => ?_
      obtain ⟨c1, c2⟩ := close p0 d0 0 H8 f8 (by simp) (by simp) (by obtain ⟨dx, h⟩ := a7.ob; rw [h]; simp) hl7 np0.symm nd0.symm
      have fD : Fr [Dl] H8 (upd H8 Dl (.lst (List.replicate 0 (V.int (last + 1)) ++ [V.int (last + 1)]))) := Fr.upd c2 fun _ z => by cases z
      have b8 : KeepAt K C H8 p1 d1 B last floor := (show KeepAt K C H7 p1 d1 B last floor from b7).frm f8 (fun z => by
        rcases List.mem_cons.mp z with z | z
        · exact tw.n1 z.symm
        · exact q01 (List.mem_singleton.mp z)) (fun z => by
        rcases List.mem_cons.mp z with z | z
        · exact q00 z.symm
        · exact tw.n2 (List.mem_singleton.mp z).symm)
      exact ⟨_, c2, sz_lt (by simp), c1, upd_same, ka8.frm fD (fun z => np0 (List.mem_singleton.mp z)) (fun z => nd0 (List.mem_singleton.mp z)), b8.frm fD (fun z => np1 (List.mem_singleton.mp z)) (fun z => nd1 (List.mem_singleton.mp z))⟩
    | 1, hx =>
      cases hx
      refine ⟨rfl, ?_⟩
      show tMeth C.Keeper "add" (sp_Keeper_add K C) [] E0 (tVar 7) (tCons (tVar 6) tNil) ([some (.ref ks), some (.ref rb), some (.ref pn), some (.int cell), some (.int floor), some (.int (last + 1)), some (.ref t), some (.ref p1)] : L2.St) H7 _
      refine one p1 d1 B floor H7 _ b7 het7 (Nat.le_trans tw.ks.len hRl) hund fun H8 f8 ka8 => ?_
      obtain ⟨c1, c2⟩ := close p1 d1 1 H8 f8 (by simp) (by simp) (by obtain ⟨dx, h⟩ := b7.ob; rw [h]; simp) hl7 np1.symm nd1.symm
      have fD : Fr [Dl] H8 (upd H8 Dl (.lst (List.replicate 1 (V.int (last + 1)) ++ [V.int (last + 1)]))) := Fr.upd c2 fun _ z => by cases z
      have a8 : KeepAt K C H8 p0 d0 (R ++ [(last + 1, e)]) (last + 1) 0 := (show KeepAt K C H7 p0 d0 (R ++ [(last + 1, e)]) (last + 1) 0 from a7).frm f8 (fun z => by
        rcases List.mem_cons.mp z with z | z
        · exact tw.n1 z
        · exact q00 (List.mem_singleton.mp z)) (fun z => by
        rcases List.mem_cons.mp z with z | z
        · exact q01 z.symm
        · exact tw.n2 (List.mem_singleton.mp z))
      exact ⟨_, c2, sz_lt (by simp), c1, upd_same, a8.frm fD (fun z => np0 (List.mem_singleton.mp z)) (fun z => nd0 (List.mem_singleton.mp z)), ka8.frm fD (fun z => np1 (List.mem_singleton.mp z)) (fun z => nd1 (List.mem_singleton.mp z))⟩
    | i + 2, hx => simp at hx
  · rintro H7 ⟨f7, hl7, a7, b7⟩
    have a7 : KeepAt K C H7 p0 d0 (R ++ [(last + 1, e)]) (last + 1) 0 := a7
    have b7 : KeepAt K C H7 p1 d1 (B ++ [(last + 1, e)]) (last + 1) floor := b7
    have hl7 : H7 Dl = some (.lst [V.int (last + 1), V.int (last + 1)]) := hl7
    have f7' := f7.drop hD
    refine (el_lst (ea_cons (ev_var rfl) (ea_cons (ev_var rfl) ea_nil)) (by simp)) H7 (Ex.refl H7) _ fun q H8 hq e8 h8 => ?_
    have x1 : H8 Dl = some (.lst (optRow [some (last + 1), some (last + 1)])) := e8 Dl _ hl7
    have x2 : H8 q = some (.lst (optRow [some (last + 1), some (last + 1)])) := h8
    refine .inr (.inl ⟨_, _, dp_list x1, dp_list x2, sh_listD _, sh_listD _, ?_⟩)
    rw [eqv_listD, decide_eq_true rfl]
    have F8 : Fr [p0, p1, d0, d1, rb] H H8 := ((F5.mono (fun z hz => by rw [List.mem_singleton.mp hz]; simp)).trans (Fr.of e6)).trans ((f7'.mono (fun z hz => by simp at hz ⊢; rcases hz with h | h | h | h <;> simp [h])).trans (Fr.of e8))
    have orb : rb ∉ [p0, p1, d0, d1] := fun z => by
      simp only [List.mem_cons, List.not_mem_nil, or_false] at z
      rcases z with z | z | z | z
      · exact o1 (by rw [z]; simp)
      · exact o2 (by rw [z]; simp)
      · exact tw.n3 z
      · exact tw.n4 z
    exact kk _ _ H8 F8 ⟨a7.mono e8, b7.mono e8, ((hrow5.frm (Z := []) (Fr.of e6) (fun z => by cases z)).frm f7' orb).frm (Z := []) (Fr.of e8) (fun z => by cases z), tw.ks.add hok hund, tw.n1, tw.n2, tw.n3, tw.n4⟩ (by rw [List.length_append]; rfl)
end S
end
set_option Elab.async false
set_option linter.all false
set_option maxRecDepth 100000
set_option maxHeartbeats 4000000
section
open PySem L2 Evl S
local macro_rules | `(tactic| array_get_dec) => `(tactic| first
  | exact ev_c
  | exact ev_var rfl
  | exact S.eo_no
  | exact ea_nil
  | (apply S.eo_some <;> array_get_dec)
  | (apply ea_cons <;> array_get_dec)
  | (apply S.ev_add <;> array_get_dec)
  | (apply S.ev_sub <;> array_get_dec)
  | (apply S.ev_div <;> first | array_get_dec | exact ⟨by decide, by decide⟩ | exact ⟨by omega, by omega⟩)
  | (apply S.ev_mod <;> first | array_get_dec | decide | omega)
  | (apply S.ev_mulr <;> first | array_get_dec | exact ⟨by decide, by decide⟩ | exact ⟨by omega, by omega⟩)
  | (apply S.ev_mull <;> first | array_get_dec | exact ⟨by decide, by decide⟩ | exact ⟨by omega, by omega⟩)
  | (apply S.ev_neg <;> array_get_dec)
  | (apply S.ev_min <;> array_get_dec)
  | (apply S.ev_max <;> array_get_dec)
  | (apply S.ev_eqI <;> array_get_dec)
  | (apply S.ev_eqS <;> array_get_dec)
  | (apply S.ev_neI <;> array_get_dec)
  | (apply S.ev_neS <;> array_get_dec)
  | (apply S.ev_lt <;> array_get_dec)
  | (apply S.ev_le <;> array_get_dec)
  | (apply S.ev_gt <;> array_get_dec)
  | (apply S.ev_ge <;> array_get_dec)
  | (apply S.ev_intB <;> array_get_dec)
  | (apply et_test <;> array_get_dec)
  | (apply et_B <;> array_get_dec)
  | (apply et_not <;> array_get_dec)
  | (refine' et_and ?_ (fun _ => ?_) <;> array_get_dec)
  | (refine' et_or ?_ (fun _ => ?_) <;> array_get_dec))
namespace S
/-! ### what an addition comes to -/
def undoOf : Ent → Option Int
  | .undo j => some j
  | _ => none
def badE : Ent → Bool
  | .undo j => decide (j = 0)
  | .clear _ lo hi => decide (hi < lo)
  | _ => false
/-- none: the next number; else the word -/
def outE (oe : Option Ent) (n g l : Int) : Option String :=
  match oe with
  | none => some "bad"
  | some e =>
    if badE e = true then some "bad"
    else match undoOf e with
      | some j => if j ≤ l then some "closed" else if g < j then some "none" else if 30 ≤ n then some "many" else none
      | none => if 30 ≤ n then some "many" else none
def WORDS : List String := ["bad", "closed", "none", "many", "gone"]
def outD (o : Option String) (g : Int) : PyData := match o with
  | some w => .tuple [.str w]
  | none => .int (g + 1)
def OutV (o : Option String) (g : Int) (H : Hp) (v : V) : Prop := match o with
  | some w => w ∈ WORDS ∧ ∃ q, v = .ref q ∧ H q = some (.tup [.str w])
  | none => v = .int (g + 1)
theorem OutV.mono {o : Option String} {g : Int} {H H' : Hp} {v : V} (h : OutV o g H v) (e : ExT H H') : OutV o g H' v := by
  cases o with
  | none => exact h
  | some w =>
    obtain ⟨hw, q, h1, h2⟩ := h
    exact ⟨hw, q, h1, e _ _ h2⟩
theorem OutV.dp {K : PySem.W.Frag} {o : Option String} {g : Int} {H : Hp} {v : V} (h : OutV o g H v) : Dp K H v (outD o g) := by
  cases o with
  | none =>
    have h : v = .int (g + 1) := h
    rw [h]
    exact .int _
  | some w =>
    obtain ⟨hw, q, h1, h2⟩ := h
    rw [h1]
    exact .tup (st_of h2) (.cons (.str _) .nil)
theorem sh_words : ∀ w ∈ WORDS, SeqAt.shaped (.tuple [.str w]) = true := by decide +kernel
theorem OutV.sh {o : Option String} {g : Int} {H : Hp} {v : V} (h : OutV o g H v) : SeqAt.shaped (outD o g) = true := by
  cases o with
  | none => exact shaped_by ⟨rfl, by show 0 ≤ 64; omega⟩
  | some w => exact sh_words w h.1
theorem outE_word {oe : Option Ent} {n g l : Int} {w : String} (h : outE oe n g l = some w) : w ∈ WORDS := by
  unfold outE at h
  cases oe with
  | none => cases h; simp [WORDS]
  | some e =>
    dsimp only at h
    split at h
    · cases h; simp [WORDS]
    · split at h
      · split at h
        · cases h; simp [WORDS]
        · split at h
          · cases h; simp [WORDS]
          · split at h
            · cases h; simp [WORDS]
            · cases h
      · split at h
        · cases h; simp [WORDS]
        · cases h
theorem eqv_words : ∀ w ∈ WORDS, ∀ u ∈ WORDS, PyData.eqv (.tuple [.str w]) (.tuple [.str u]) = decide (w = u) := by decide +kernel
/-! ### what the law tells a keeper -/
def FineE (e : Ent) : Prop := (∃ k, e.ok k) ∨ e = .undo 0 ∨ e = .clear "a" 4 3
def EntL : Hp → V → Option Ent → Prop := fun H v oe => match oe with
  | none => ∃ a, v = .ref a ∧ H a = some (.lst [.str "undo", .int 1])
  | some e => FineE e ∧ ∃ t, v = .ref t ∧ EntAt H t e
theorem EntL.mo : Mo EntL := fun {H H' v y} e h => by
  cases y with
  | none =>
    obtain ⟨a, h1, h2⟩ := h
    exact ⟨a, h1, e _ _ h2⟩
  | some en =>
    obtain ⟨h0, t, h1, h2⟩ := h
    exact ⟨h0, t, h1, e _ _ h2⟩
theorem fine_bad {e : Ent} (h : FineE e) : entryD (.tuple e.ds) = !badE e := by
  rcases h with ⟨k, hk⟩ | rfl | rfl
  · rw [Ent.isEntry hk]
    cases e with
    | undo j =>
      have : badE (.undo j) = false := decide_eq_false (by have := hk.1; omega)
      rw [this]; rfl
    | clear n lo hi =>
      have : badE (.clear n lo hi) = false := decide_eq_false (by have := hk.2.2.1; omega)
      rw [this]; rfl
    | tell n lo hi w => rfl
    | like n lo hi o => rfl
  · decide +kernel
  · decide +kernel
theorem fine_undo {j : Int} (h : FineE (.undo j)) : 0 ≤ j := by
  rcases h with ⟨k, hk⟩ | h | h
  · have := hk.1; omega
  · cases h; omega
  · cases h
theorem fine_dq {H : Hp} {t : Addr} {e : Ent} (h : FineE e) (ht : EntAt H t e) : Dq H (.tuple e.ds) (.ref t) := by
  rcases h with ⟨k, hk⟩ | rfl | rfl
  · exact Ent.dq ht hk
  · refine .tup ht (.cons (.str _ (by decide +kernel)) (.cons (.int _) .nil))
  · exact .tup ht (.cons (.str _ (by decide +kernel)) (.cons (.str _ (by decide +kernel)) (.cons (.int _) (.cons (.int _) .nil))))
theorem EntL.dq {H : Hp} {v : V} {oe : Option Ent} (h : EntL H v oe) : ∃ d, Dq H d v := by
  cases oe with
  | none =>
    obtain ⟨a, rfl, h2⟩ := h
    exact ⟨.list [.str "undo", .int 1], .lst h2 (.cons (.str _ (by decide +kernel)) (.cons (.int _) .nil))⟩
  | some e =>
    obtain ⟨h0, t, rfl, h2⟩ := h
    exact ⟨_, fine_dq h0 h2⟩
/-! ### _law_odd -/
def sp_l_odd (K : PySem.W.Frag) (C : CA) : Sp := fun vs H Q _ => ∃ (cell k g l : Int), vs = [.int cell, .int k, .int g, .int l] ∧ 0 ≤ k ∧ 0 ≤ g ∧ ∀ v oe H', Ex H H' → EntL H' v oe → Q v H'
theorem len_l_odd {K : PySem.W.Frag} {C : CA} {vs : List V} {H : Hp} {Q : VK} {E : XK} (h : sp_l_odd K C vs H Q E) : vs.length = 4 := by
  obtain ⟨cell, k, g, l, rfl, _⟩ := h
  rfl
/-- _law_cell 0, _law_k 1, _law_given 2, _law_floor 3, _law_some 4 -/
def t_l_odd (K : PySem.W.Frag) (C : CA) : TS :=
 (tSeq (tAsg (tLst (tCons (tTup (tCons (tC (.str "undo")) (tCons (tCB rMax2 (tCons (tC (.int 0)) (tCons (tOp (subI) (tVar 3) (tOp (modI) (tVar 1) (tC (.int 3)))) tNil))) tNil))) (tCons (tTup (tCons (tC (.str "undo")) (tCons (tOp (addA K) (tOp (addA K) (tVar 2) (tC (.int 1))) (tOp (modI) (tVar 1) (tC (.int 3)))) tNil))) (tCons (tTup (tCons (tC (.str "clear")) (tCons (tC (.str "a")) (tCons (tC (.int 4)) (tCons (tC (.int 3)) tNil))))) (tCons (tLst (tCons (tC (.str "undo")) (tCons (tC (.int 1)) tNil))) tNil))))) (gName 4))
 (tRet (tOp (ixA K) (tOp (addA K) (tVar 4) (tLst (tCons (tTup (tCons (tC (.str "undo")) (tCons (tC (.int 0)) tNil))) tNil))) (tOp (modI) (tVar 0) (tC (.int 5))))))
section
variable {K : PySem.W.Frag} {C : CA} {σ : L2.St} {H H' : Hp} {t : TT} {ta tb tc td te tf : TE} {D : Ends} {tu tz : TS} {v : V} {d : PyData} {n m : Nat}
theorem ex_ixQ {α : Type} {F : Hp → V → α → Prop} {ys : List α} {i : Int} {y : α} (m : Mo F) (ha : EvP ta σ H F ys) (hb : Ev tb σ H (.int i)) (h0 : 0 ≤ i) (hy : ys[i.toNat]? = some y) : EvX (tOp (ixA K) ta tb) σ H (fun H v => F H v y) := fun H1 e Q q => by
  unfold tOp
  refine ha H1 e _ fun p xs H2 hp e2 h2 hps => hb H2 (e.trans e2) _ fun H3 e3 => ?_
  have hil : i.toNat < xs.length := by
    rw [Paired.length hps]
    exact (List.getElem?_eq_some_iff.mp hy).1
  obtain ⟨y', hy', hr⟩ := paired_get hps (List.getElem?_eq_getElem hil)
  have : y' = y := by rw [hy] at hy'; exact (Option.some.inj hy').symm
  subst this
  have hat : atI xs i = some xs[i.toNat] := by
    have := atI_nat (List.getElem?_eq_getElem hil)
    rwa [Int.toNat_of_nonneg h0] at this
  exact .inl (.inl ⟨p, xs, i, _, rfl, rfl, sq_of (e3 p _ h2), hat, q _ H3 (e2.trans e3) (m e3 hr)⟩)
theorem ex_undo {j : Int} (ha : Ev ta σ H (.int j)) (h : 0 ≤ j) : EvX (tTup (tCons (tC (.str "undo")) (tCons ta tNil))) σ H fun H v => EntL H v (some (.undo j)) :=
  ex_evU (eu_tup (ea_cons ev_c (ea_cons ha ea_nil)) (by simp)) fun p H1 _ h1 => ⟨(by
    by_cases c : j = 0
    · rw [c]; exact .inr (.inl rfl)
    · exact .inl ⟨j + 1, by omega, by omega⟩), p, rfl, h1⟩
end
theorem pure_l_odd {K : PySem.W.Frag} {C : CA} {vs : List V} {H : Hp} {Q : VK} {E : XK} (h : sp_l_odd K C vs H Q E) : t_l_odd K C { nx := fun _ H' => Q .non H', rt := Q } (startN 5 vs) H := by
  obtain ⟨cell, k, g, l, rfl, hk, hg, kk⟩ := h
  have hm := mod_lt k (show (0 : Int) < 3 by decide)
  have hm5 := mod_lt cell (show (0 : Int) < 5 by decide)
  obtain ⟨mx, hmx, hmx0⟩ : ∃ mx, mx = (if l - k % 3 > 0 then l - k % 3 else 0) ∧ 0 ≤ mx := ⟨_, rfl, by split <;> omega⟩
  have e0 : Ev (tCB rMax2 (tCons (tC (.int 0)) (tCons (tOp (subI) (tVar 3) (tOp (modI) (tVar 1) (tC (.int 3)))) tNil))) (startN 5 [.int cell, .int k, .int g, .int l]) H (.int mx) := by
    rw [hmx]
    exact ev_max ev_c (ev_sub (ev_var rfl) (ev_mod (ev_var rfl) ev_c (by decide)))
  refine q_asgP (F := EntL) (ys := [some (.undo mx), some (.undo (g + 1 + k % 3)), some (.clear "a" 4 3), none]) (ep_lst EntL.mo (eap_cons EntL.mo (ex_undo e0 hmx0) (eap_cons EntL.mo (ex_undo (ev_add (ev_add (ev_var rfl) ev_c) (ev_mod (ev_var rfl) ev_c (by decide))) (by omega)) (eap_cons EntL.mo (ex_evU (eu_tup (ea_cons ev_c (ea_cons ev_c (ea_cons ev_c (ea_cons ev_c ea_nil)))) (by simp)) fun p H1 _ h1 => ⟨.inr (.inr rfl), p, rfl, h1⟩)
    (eap_cons EntL.mo (ex_evL (el_lst (ea_cons ev_c (ea_cons ev_c ea_nil)) (by simp)) fun p H1 _ h1 => ⟨p, rfl, h1⟩) eap_nil)))) (by simp)) fun p us H1 hp e1 h1 hus => ?_
  have hi : (cell % 5).toNat < 5 := by omega
  have all : EvP (tOp (addA K) (tVar 4) (tLst (tCons (tTup (tCons (tC (.str "undo")) (tCons (tC (.int 0)) tNil))) tNil))) ([some (.int cell), some (.int k), some (.int g), some (.int l), some (.ref p)] : L2.St) H1 EntL ([some (.undo mx), some (.undo (g + 1 + k % 3)), some (.clear "a" 4 3), none] ++ [some (.undo 0)]) :=
    ep_catV EntL.mo (ev_var rfl) h1 hus (ep_lst EntL.mo (eap_cons EntL.mo (ex_undo ev_c (by omega)) eap_nil) (by simp)) (by simp)
  have hy : ∃ oe, ([some (.undo mx), some (.undo (g + 1 + k % 3)), some (.clear "a" 4 3), none] ++ [some (.undo 0)] : List (Option Ent))[(cell % 5).toNat]? = some oe := ⟨_, List.getElem?_eq_getElem (by simpa using hi)⟩
  obtain ⟨oe, hy⟩ := hy
  exact (ex_ixQ (K := K) (F := EntL) (y := oe) EntL.mo all (ev_mod (ev_var rfl) ev_c (by decide)) hm5.1 hy) H1 (Ex.refl H1) _ fun v H2 e2 hv => kk v oe H2 (e1.trans e2) hv
/-! ### _law_due -/
def sp_l_due (K : PySem.W.Frag) (C : CA) : Sp := fun vs H Q _ => ∃ (v : V) (oe : Option Ent) (b : Addr) (kvs : List (Key × V)) (g l : Int), vs = [v, .ref b, .int g, .int l] ∧ EntL H v oe ∧ H b = some (.dK kvs) ∧
  ∀ u H', Ex H H' → OutV (outE oe kvs.length g l) g H' u → Q u H'
theorem len_l_due {K : PySem.W.Frag} {C : CA} {vs : List V} {H : Hp} {Q : VK} {E : XK} (h : sp_l_due K C vs H Q E) : vs.length = 4 := by
  obtain ⟨v, oe, b, kvs, g, l, rfl, _⟩ := h
  rfl
/-- _law_entry_here 0, _law_rows 1, _law_given 2, _law_floor 3, _law_good 4 -/
def t_l_due (K : PySem.W.Frag) (C : CA) : TS :=
 (tSeq (tAsg (tAndV (tCB (rIsi K) (tCons (tVar 0) (tCons (tC (.ty "tuple")) tNil))) (tOp (inA K) (tOp (ixA K) (tVar 0) (tC (.int 0))) (tTup (tCons (tC (.str "tell")) (tCons (tC (.str "clear")) (tCons (tC (.str "like")) (tCons (tC (.str "undo")) tNil))))))) (gName 4))
 (tSeq (tIfS (tOr (tNot (tB (tVar 4))) (tOr (tAnd (tTest (tOp (eqA K) (tOp (ixA K) (tVar 0) (tC (.int 0))) (tC (.str "undo")))) (tTest (tOp (eqA K) (tOp (ixA K) (tVar 0) (tC (.int 1))) (tC (.int 0))))) (tAnd (tTest (tOp (eqA K) (tOp (ixA K) (tVar 0) (tC (.int 0))) (tC (.str "clear")))) (tTest (tOp (gtI) (tOp (ixA K) (tVar 0) (tC (.int 2))) (tOp (ixA K) (tVar 0) (tC (.int 3)))))))) (tRet (tTup (tCons (tC (.str "bad")) tNil))) tNext)
 (tSeq (tIfS (tAnd (tTest (tOp (eqA K) (tOp (ixA K) (tVar 0) (tC (.int 0))) (tC (.str "undo")))) (tTest (tOp (leI) (tOp (ixA K) (tVar 0) (tC (.int 1))) (tVar 3)))) (tRet (tTup (tCons (tC (.str "closed")) tNil))) tNext)
 (tSeq (tIfS (tAnd (tTest (tOp (eqA K) (tOp (ixA K) (tVar 0) (tC (.int 0))) (tC (.str "undo")))) (tTest (tOp (gtI) (tOp (ixA K) (tVar 0) (tC (.int 1))) (tVar 2)))) (tRet (tTup (tCons (tC (.str "none")) tNil))) tNext)
 (tSeq (tIfS (tTest (tOp (geI) (tCB (lenA K) (tCons (tVar 1) tNil)) (tC (.int 30)))) (tRet (tTup (tCons (tC (.str "many")) tNil))) tNext)
 (tRet (tOp (addA K) (tVar 2) (tC (.int 1)))))))))
section
variable {K : PySem.W.Frag} {C : CA} {σ : L2.St} {H H' : Hp} {t : TT} {ta tb tc td te tf : TE} {D : Ends} {tu tz : TS} {v : V} {d : PyData} {n m : Nat}
theorem s_retW {w : String} {g : Int} (hw : w ∈ WORDS) (k : ∀ u H1, Ex H H1 → OutV (some w) g H1 u → D.rt u H1) : tRet (tTup (tCons (tC (.str w)) tNil)) D σ H :=
  s_retU (eu_tup (ea_cons ev_c ea_nil) (by simp)) fun p H1 hp e h => k _ H1 e ⟨hw, p, rfl, h⟩
theorem ex_part0 {t : Addr} {e : Ent} {w : Str} (h : EntAt H t e) (hw : e.vs[0]? = some (.str w)) (ha : Ev ta σ H (.ref t)) : Ev (tOp (ixA K) ta (tC (.int 0))) σ H (.str w) := ev_ixT (i := 0) ha ev_c (st_of h) (atI_nat (j := 0) hw)
end
theorem tn_tell : inV (.str "tell") [.str "tell", .str "clear", .str "like", .str "undo"] = true := by decide +kernel
theorem tn_clear : inV (.str "clear") [.str "tell", .str "clear", .str "like", .str "undo"] = true := by decide +kernel
theorem tn_like : inV (.str "like") [.str "tell", .str "clear", .str "like", .str "undo"] = true := by decide +kernel
theorem tn_undo : inV (.str "undo") [.str "tell", .str "clear", .str "like", .str "undo"] = true := by decide +kernel
def wordOf : Ent → Str
  | .tell .. => "tell"
  | .clear .. => "clear"
  | .like .. => "like"
  | .undo .. => "undo"
theorem wordOf0 (e : Ent) : e.vs[0]? = some (.str (wordOf e)) := by cases e <;> rfl
theorem wordOf_in (e : Ent) : inV (.str (wordOf e)) [.str "tell", .str "clear", .str "like", .str "undo"] = true := by
  cases e with
  | tell _ _ _ _ => exact tn_tell
  | clear _ _ _ => exact tn_clear
  | like _ _ _ _ => exact tn_like
  | undo _ => exact tn_undo
def isUndo (e : Ent) : Bool := decide (wordOf e = "undo")
def isClear (e : Ent) : Bool := decide (wordOf e = "clear")
theorem isUndo_eq (e : Ent) : isUndo e = (undoOf e).isSome := by
  cases e with
  | tell _ _ _ _ => exact (show decide (("tell" : Str) = "undo") = false by decide +kernel)
  | clear _ _ _ => exact (show decide (("clear" : Str) = "undo") = false by decide +kernel)
  | like _ _ _ _ => exact (show decide (("like" : Str) = "undo") = false by decide +kernel)
  | undo _ => exact (show decide (("undo" : Str) = "undo") = true by decide +kernel)
def clearOf : Ent → Option (Int × Int)
  | .clear _ lo hi => some (lo, hi)
  | _ => none
theorem isClear_eq (e : Ent) : isClear e = (clearOf e).isSome := by
  cases e with
  | tell _ _ _ _ => exact (show decide (("tell" : Str) = "clear") = false by decide +kernel)
  | clear _ _ _ => exact (show decide (("clear" : Str) = "clear") = true by decide +kernel)
  | like _ _ _ _ => exact (show decide (("like" : Str) = "clear") = false by decide +kernel)
  | undo _ => exact (show decide (("undo" : Str) = "clear") = false by decide +kernel)
theorem pure_l_due {K : PySem.W.Frag} {C : CA} {vs : List V} {H : Hp} {Q : VK} {E : XK} (h : sp_l_due K C vs H Q E) : t_l_due K C { nx := fun _ H' => Q .non H', rt := Q } (startN 5 vs) H := by
  obtain ⟨v, oe, b, kvs, g, l, rfl, hv, hb, kk⟩ := h
  cases oe with
  | none =>
    obtain ⟨a, rfl, ha⟩ := hv
    refine q_asg (v := .bl false) (ev_andV (a := false) (b := true) (ev_isi (ev_var rfl) (fun H1 e1 => .base (.lst (e1 a _ ha))) kit_lt) fun z => by cases z) fun H1 e1 => ?_
    show tSeq _ _ _ ([some (.ref a), some (.ref b), some (.int g), some (.int l), some (.bl false)] : L2.St) H1
    refine q_when (b := true) (et_or (a := true) (b := true) (et_not (a := false) (et_B (ev_var rfl))) fun z => by cases z) (fun _ H2 e2 => ?_) (fun z => by cases z)
    exact s_retW (g := g) (by simp [WORDS]) fun u H3 e3 ho => kk u H3 ((e1.trans e2).trans e3) ho
  | some e =>
    obtain ⟨hf, t, rfl, ht⟩ := hv
    have p0 : ∀ {σ : L2.St} {H1 : Hp}, σ[0]? = some (some (.ref t)) → Ex H H1 → Ev (tOp (ixA K) (tVar 0) (tC (.int 0))) σ H1 (.str (wordOf e)) := fun hσ e1 => ex_part0 (ht.mono e1) (wordOf0 e) (ev_var hσ)
    have hin : Ev (tOp (inA K) (tOp (ixA K) (tVar 0) (tC (.int 0))) (tTup (tCons (tC (.str "tell")) (tCons (tC (.str "clear")) (tCons (tC (.str "like")) (tCons (tC (.str "undo")) tNil)))))) (startN 5 [.ref t, .ref b, .int g, .int l]) H (.bl true) := by
      have := ev_inTw (K := K) (xs := [.str "tell", .str "clear", .str "like", .str "undo"]) (p0 (σ := startN 5 [.ref t, .ref b, .int g, .int l]) rfl (Ex.refl H)) (eu_tup (ea_cons ev_c (ea_cons ev_c (ea_cons ev_c (ea_cons ev_c ea_nil)))) (by simp)) rfl (by decide +kernel)
      rwa [wordOf_in] at this
    refine q_asg (v := .bl true) (ev_andV (a := true) (b := true) (ev_isi (ev_var rfl) (fun H1 e1 => .base (.tup (e1 t _ ht))) kit_tt) fun _ => hin) fun H1 e1 => ?_
    show tSeq _ _ _ ([some (.ref t), some (.ref b), some (.int g), some (.int l), some (.bl true)] : L2.St) H1
    have u0 : ∀ {H1 : Hp}, Ex H H1 → EvT (tTest (tOp (eqA K) (tOp (ixA K) (tVar 0) (tC (.int 0))) (tC (.str "undo")))) ([some (.ref t), some (.ref b), some (.int g), some (.int l), some (.bl true)] : L2.St) H1 (isUndo e) := fun e1 => et_test (ev_eqS (p0 rfl e1) ev_c)
    have c0 : ∀ {H1 : Hp}, Ex H H1 → EvT (tTest (tOp (eqA K) (tOp (ixA K) (tVar 0) (tC (.int 0))) (tC (.str "clear")))) ([some (.ref t), some (.ref b), some (.int g), some (.int l), some (.bl true)] : L2.St) H1 (isClear e) := fun e1 => et_test (ev_eqS (p0 rfl e1) ev_c)
    have u1 : ∀ {H1 : Hp}, Ex H H1 → isUndo e = true → Ev (tOp (ixA K) (tVar 0) (tC (.int 1))) ([some (.ref t), some (.ref b), some (.int g), some (.int l), some (.bl true)] : L2.St) H1 (.int ((undoOf e).getD 0)) := fun e1 hu => by
      rw [isUndo_eq] at hu
      cases e with
      | undo j => exact ev_ixT (i := 1) (ev_var rfl) ev_c (st_of (ht.mono e1)) rfl
      | tell _ _ _ _ => cases hu
      | clear _ _ _ => cases hu
      | like _ _ _ _ => cases hu
    have c2 : ∀ {H1 : Hp}, Ex H H1 → isClear e = true → Ev (tOp (ixA K) (tVar 0) (tC (.int 2))) ([some (.ref t), some (.ref b), some (.int g), some (.int l), some (.bl true)] : L2.St) H1 (.int ((clearOf e).getD (0, 0)).1) ∧ Ev (tOp (ixA K) (tVar 0) (tC (.int 3))) ([some (.ref t), some (.ref b), some (.int g), some (.int l), some (.bl true)] : L2.St) H1 (.int ((clearOf e).getD (0, 0)).2) := fun e1 hu => by
      rw [isClear_eq] at hu
      cases e with
      | clear _ _ _ => exact ⟨ev_ixT (i := 2) (ev_var rfl) ev_c (st_of (ht.mono e1)) rfl, ev_ixT (i := 3) (ev_var rfl) ev_c (st_of (ht.mono e1)) rfl⟩
      | tell _ _ _ _ => cases hu
      | undo _ => cases hu
      | like _ _ _ _ => cases hu
    have hbad : (isUndo e && decide ((undoOf e).getD 0 = 0) || (isClear e && decide (((clearOf e).getD (0, 0)).1 > ((clearOf e).getD (0, 0)).2))) = badE e := by
      rw [isUndo_eq, isClear_eq]
      cases e with
      | undo j => show (true && decide (j = 0) || (false && _)) = _; rw [Bool.true_and, Bool.false_and, Bool.or_false]; rfl
      | clear n lo hi => show (false && _ || (true && decide (lo > hi))) = _; rw [Bool.true_and, Bool.false_and, Bool.false_or]; rfl
      | tell _ _ _ _ => rfl
      | like _ _ _ _ => rfl
    refine q_when (b := false || (isUndo e && decide ((undoOf e).getD 0 = 0) || (isClear e && decide (((clearOf e).getD (0, 0)).1 > ((clearOf e).getD (0, 0)).2)))) (et_or (a := false) (et_not (a := true) (et_B (ev_var rfl))) fun _ => et_or (et_and (u0 e1) fun hu => et_test (ev_eqI (u1 e1 hu) ev_c)) fun _ => et_and (c0 e1) fun hc => et_test (ev_gt (c2 e1 hc).1 (c2 e1 hc).2)) (fun c H2 e2 => ?_) (fun c H2 e2 => ?_)
    · rw [Bool.false_or, hbad] at c
      have ho : outE (some e) kvs.length g l = some "bad" := by unfold outE; dsimp only; rw [if_pos c]
      rw [ho] at kk
      exact s_retW (g := g) (by simp [WORDS]) fun u H3 e3 ho => kk u H3 ((e1.trans e2).trans e3) ho
    · rw [Bool.false_or, hbad] at c
      have E2 := e1.trans e2
      refine q_when (et_and (u0 E2) fun hu => et_test (ev_le (u1 E2 hu) (ev_var rfl))) (fun c2 H3 e3 => ?_) (fun c2 H3 e3 => ?_)
      · rw [isUndo_eq, Bool.and_eq_true, decide_eq_true_eq] at c2
        have ho : outE (some e) kvs.length g l = some "closed" := by
          unfold outE; dsimp only; rw [if_neg (by rw [c]; decide)]
          cases hj : undoOf e with
          | none => rw [hj] at c2; cases c2.1
          | some j =>
            have := c2.2
            rw [hj] at this
            exact if_pos this
        rw [ho] at kk
        exact s_retW (g := g) (by simp [WORDS]) fun u H4 e4 ho => kk u H4 ((E2.trans e3).trans e4) ho
      · have E3 := E2.trans e3
        refine q_when (et_and (u0 E3) fun hu => et_test (ev_gt (u1 E3 hu) (ev_var rfl))) (fun c3 H4 e4 => ?_) (fun c3 H4 e4 => ?_)
        · rw [isUndo_eq, Bool.and_eq_true, decide_eq_true_eq] at c3
          have ho : outE (some e) kvs.length g l = some "none" := by
            unfold outE; dsimp only; rw [if_neg (by rw [c]; decide)]
            cases hj : undoOf e with
            | none => rw [hj] at c3; cases c3.1
            | some j =>
              rw [isUndo_eq, hj] at c2
              have c2' : ¬ j ≤ l := of_decide_eq_false c2
              have := c3.2
              rw [hj] at this
              show (if j ≤ l then _ else _) = _
              rw [if_neg c2']
              exact if_pos this
          rw [ho] at kk
          exact s_retW (g := g) (by simp [WORDS]) fun u H5 e5 ho => kk u H5 ((E3.trans e4).trans e5) ho
        · have E4 := E3.trans e4
          have ho : outE (some e) kvs.length g l = if (30 : Int) ≤ kvs.length then some "many" else none := by
            unfold outE; dsimp only; rw [if_neg (by rw [c]; decide)]
            cases hj : undoOf e with
            | none => rfl
            | some j =>
              rw [isUndo_eq, hj] at c2 c3
              have c2' : ¬ j ≤ l := of_decide_eq_false c2
              have c3' : ¬ j > g := of_decide_eq_false c3
              show (if j ≤ l then _ else if g < j then _ else _) = _
              rw [if_neg c2', if_neg c3']
          rw [ho] at kk
          refine q_when (et_test (ev_ge (ev_lenD (ev_var rfl) (.inl (E4 b _ hb))) ev_c)) (fun c4 H5 e5 => ?_) (fun c4 H5 e5 => ?_)
          · rw [if_pos (of_decide_eq_true c4)] at kk
            exact s_retW (g := g) (by simp [WORDS]) fun u H6 e6 ho => kk u H6 ((E4.trans e5).trans e6) ho
          · rw [if_neg (of_decide_eq_false c4)] at kk
            exact s_ret (ev_add (ev_var rfl) ev_c) fun H6 e6 => kk _ H6 ((E4.trans e5).trans e6) rfl
end S
end
set_option Elab.async false
set_option linter.all false
set_option maxRecDepth 100000
set_option maxHeartbeats 4000000
section
open PySem L2 Evl S
local macro_rules | `(tactic| array_get_dec) => `(tactic| first
  | exact ev_c
  | exact ev_var rfl
  | exact S.eo_no
  | exact ea_nil
  | (apply S.eo_some <;> array_get_dec)
  | (apply ea_cons <;> array_get_dec)
  | (apply S.ev_add <;> array_get_dec)
  | (apply S.ev_sub <;> array_get_dec)
  | (apply S.ev_div <;> first | array_get_dec | exact ⟨by decide, by decide⟩ | exact ⟨by omega, by omega⟩)
  | (apply S.ev_mod <;> first | array_get_dec | decide | omega)
  | (apply S.ev_mulr <;> first | array_get_dec | exact ⟨by decide, by decide⟩ | exact ⟨by omega, by omega⟩)
  | (apply S.ev_mull <;> first | array_get_dec | exact ⟨by decide, by decide⟩ | exact ⟨by omega, by omega⟩)
  | (apply S.ev_neg <;> array_get_dec)
  | (apply S.ev_min <;> array_get_dec)
  | (apply S.ev_max <;> array_get_dec)
  | (apply S.ev_eqI <;> array_get_dec)
  | (apply S.ev_eqS <;> array_get_dec)
  | (apply S.ev_neI <;> array_get_dec)
  | (apply S.ev_neS <;> array_get_dec)
  | (apply S.ev_lt <;> array_get_dec)
  | (apply S.ev_le <;> array_get_dec)
  | (apply S.ev_gt <;> array_get_dec)
  | (apply S.ev_ge <;> array_get_dec)
  | (apply S.ev_intB <;> array_get_dec)
  | (apply et_test <;> array_get_dec)
  | (apply et_B <;> array_get_dec)
  | (apply et_not <;> array_get_dec)
  | (refine' et_and ?_ (fun _ => ?_) <;> array_get_dec)
  | (refine' et_or ?_ (fun _ => ?_) <;> array_get_dec))
namespace S
/-! ### the word of an error -/
def bsK (i : Nat) : List Bool := [decide (i = 0), decide (i = 3), decide (i = 2), decide (i = 4)] ++ [decide (i = 5), decide (i = 1), decide (i = 6)]
def jK : Nat → Nat
  | 0 => 0
  | 1 => 5
  | 2 => 2
  | 3 => 1
  | 4 => 3
  | 5 => 4
  | _ => 6
def WK : List String := ["bad", "closed", "none", "many", "gone", "book", "text"]
def wordK (i : Nat) : String := WK.getD (jK i) ""
theorem word_facts : ∀ i, i < 7 → (((bsK i).map V.bl).countP fun z => eqV z (.bl true)) = 1 ∧ (bsK i)[jK i]? = some true ∧ (∀ m, m < jK i → (bsK i)[m]? = some false) ∧ WK[jK i]? = some (wordK i) := by decide +kernel
section
variable {K : PySem.W.Frag} {C : CA} {σ : L2.St} {H H' : Hp} {t : TT} {ta tb tc td te tf : TE} {D : Ends} {tu tz : TS} {v : V} {d : PyData} {n m : Nat}
theorem ev_isEx {i : Nat} {a E X : Addr} {b : Bool} (hσ : σ[i]? = some (some (.ref a))) (hc : ExcC K E) (hk : PySem.W.kitOne K (.ref E) (.ref X) = some b) : Ev (tCB (rIsEx K a (.ref E) none) (tCons (tVar i) (tCons (tC (.ref X)) tNil))) σ H (.bl b) := fun H1 e Q q => by
  unfold tCB
  exact (ea_cons (ev_var hσ) (ea_cons ev_c ea_nil)) H1 e _ fun H2 e2 => ⟨E, .ref X, .ref X, b, rfl, rfl, hc, rfl, (fun u h => by cases h; rfl), hk, q H2 e2⟩
theorem ev_isExT {i : Nat} {a E : Addr} {T : String} {b : Bool} (hσ : σ[i]? = some (some (.ref a))) (hc : ExcC K E) (hk : PySem.W.kitOne K (.ref E) (.type T) = some b) : Ev (tCB (rIsEx K a (.ref E) none) (tCons (tVar i) (tCons (tC (.ty T)) tNil))) σ H (.bl b) := fun H1 e Q q => by
  unfold tCB
  exact (ea_cons (ev_var hσ) (ea_cons ev_c ea_nil)) H1 e _ fun H2 e2 => ⟨E, .ty T, .type T, b, rfl, rfl, hc, rfl, (fun u h => by cases h; rfl), hk, q H2 e2⟩
theorem flat_bools (bs : List Bool) : (bs.map V.bl).all flatV = true := by
  induction bs with
  | nil => rfl
  | cons b bs ih => rw [List.map_cons, List.all_cons, ih]; rfl
theorem ev_count {p : Addr} {ys : List V} (ha : Ev ta σ H (.ref p)) (hb : Ev tb σ H v) (h : H p = some (.lst ys)) (fv : flatV v = true) (fys : ys.all flatV = true) : Ev (tBM K "list" rCountB ta (tCons tb tNil)) σ H (.int ((ys.countP fun z => eqV z v : Nat) : Int)) := fun H1 e Q q => by
  unfold tBM
  refine ha H1 e _ fun H2 e2 => ⟨.inl ⟨rfl, ys, sq_of ((e.trans e2) p _ h)⟩, ?_⟩
  exact (ea_cons hb ea_nil) H2 (e.trans e2) _ fun H3 e3 => ⟨p, ys, v, rfl, rfl, ((e.trans e2).trans e3) p _ h, fv, fys, q H3 (e2.trans e3)⟩
theorem ev_index {p : Addr} {ys : List V} {j : Nat} {z : V} (ha : Ev ta σ H (.ref p)) (hb : Ev tb σ H v) (h : H p = some (.lst ys)) (fv : flatV v = true) (fys : ys.all flatV = true) (hj : ys[j]? = some z) (hz : eqV z v = true) (hno : ∀ (m : Nat) (z' : V), m < j → ys[m]? = some z' → eqV z' v = false) :
    Ev (tBM K "list" (rIndex K) ta (tCons tb tNil)) σ H (.int (j : Int)) := fun H1 e Q q => by
  unfold tBM
  refine ha H1 e _ fun H2 e2 => ⟨.inl ⟨rfl, ys, sq_of ((e.trans e2) p _ h)⟩, ?_⟩
  exact (ea_cons hb ea_nil) H2 (e.trans e2) _ fun H3 e3 => ⟨p, ys, v, j, z, rfl, rfl, sq_of (((e.trans e2).trans e3) p _ h), fv, fys, hj, hz, hno, q H3 (e2.trans e3)⟩
end
def sp_l_word (K : PySem.W.Frag) (C : CA) (a : Addr) (cls : Value) (d : Option Addr) : Sp := fun vs H Q _ => ∃ (D : Addr) (i : Nat), cls = .ref D ∧ d = none ∧ ExF K C D i ∧ i < 7 ∧ vs = [.ref a] ∧ ∀ q H', Ex H H' → H' q = some (.tup [.str (wordK i)]) → Q (.ref q) H'
theorem len_l_word {K : PySem.W.Frag} {C : CA} {a : Addr} {cls : Value} {d : Option Addr} {vs : List V} {H : Hp} {Q : VK} {E : XK} (h : sp_l_word K C a cls d vs H Q E) : vs.length = 1 := by
  obtain ⟨D, i, _, _, _, _, rfl, _⟩ := h
  rfl
/-- _law_e 0, _law_kinds 1 -/
def t_l_word (K : PySem.W.Frag) (C : CA) (a : Addr) (cls : Value) (d : Option Addr) : TS :=
 (tSeq (tAsg (tLst (tCons (tCB (rIsEx K a cls d) (tCons (tVar 0) (tCons (tC (.ref C.BadEntry)) tNil))) (tCons (tCB (rIsEx K a cls d) (tCons (tVar 0) (tCons (tC (.ref C.Closed)) tNil))) (tCons (tCB (rIsEx K a cls d) (tCons (tVar 0) (tCons (tC (.ref C.NoEntry)) tNil))) (tCons (tCB (rIsEx K a cls d) (tCons (tVar 0) (tCons (tC (.ref C.TooMany)) tNil))) tNil))))) (gName 1))
 (tSeq (tAsg (tOp (addA K) (tVar 1) (tLst (tCons (tCB (rIsEx K a cls d) (tCons (tVar 0) (tCons (tC (.ref C.Gone)) tNil))) (tCons (tCB (rIsEx K a cls d) (tCons (tVar 0) (tCons (tC (.ref C.BadBook)) tNil))) (tCons (tCB (rIsEx K a cls d) (tCons (tVar 0) (tCons (tC (.ref C.BadText)) tNil))) tNil))))) (gName 1))
 (tSeq (tIfS (tOr (tTest (tOp (neA K) (tBM K "list" rCountB (tVar 1) (tCons (tC (.bl true)) tNil)) (tC (.int 1)))) (tNot (tB (tCB (rIsEx K a cls d) (tCons (tVar 0) (tCons (tC (.ty "ValueError")) tNil)))))) (tRet (tTup (tCons (tC (.str "other")) tNil))) tNext)
 (tRet (tTup (tCons (tOp (ixA K) (tLst (tCons (tC (.str "bad")) (tCons (tC (.str "closed")) (tCons (tC (.str "none")) (tCons (tC (.str "many")) (tCons (tC (.str "gone")) (tCons (tC (.str "book")) (tCons (tC (.str "text")) tNil)))))))) (tBM K "list" (rIndex K) (tVar 1) (tCons (tC (.bl true)) tNil))) tNil))))))
theorem pure_l_word {K : PySem.W.Frag} {C : CA} {a : Addr} {cls : Value} {d : Option Addr} {vs : List V} {H : Hp} {Q : VK} {E : XK} (h : sp_l_word K C a cls d vs H Q E) : t_l_word K C a cls d { nx := fun _ H' => Q .non H', rt := Q } (startN 2 vs) H := by
  obtain ⟨X, i, rfl, rfl, ef, hi, rfl, kk⟩ := h
  obtain ⟨f1, f2, f3, f4⟩ := word_facts i hi
  refine q_asgL (xs := [decide (i = 0), decide (i = 3), decide (i = 2), decide (i = 4)].map V.bl) (el_lst (ea_cons (ev_isEx rfl ef.c ef.k0) (ea_cons (ev_isEx rfl ef.c ef.k3) (ea_cons (ev_isEx rfl ef.c ef.k2) (ea_cons (ev_isEx rfl ef.c ef.k4) ea_nil)))) (by simp)) fun p H3 hp e3 h3 => ?_
  refine q_asgL (xs := [decide (i = 0), decide (i = 3), decide (i = 2), decide (i = 4)].map V.bl ++ [decide (i = 5), decide (i = 1), decide (i = 6)].map V.bl) (el_catV (ev_var rfl) h3 (el_lst (ea_cons (ev_isEx rfl ef.c ef.k5) (ea_cons (ev_isEx rfl ef.c ef.k1) (ea_cons (ev_isEx rfl ef.c ef.k6) ea_nil))) (by simp)) (by simp)) fun q H4 hq e4 h4 => ?_
  rw [← List.map_append] at h4
  have h4 : H4 q = some (.lst ((bsK i).map V.bl)) := h4
  show tSeq _ _ _ ([some (.ref a), some (.ref q)] : L2.St) H4
  have hc := ev_count (K := K) (ta := tVar 1) (tb := tC (.bl true)) (σ := ([some (.ref a), some (.ref q)] : L2.St)) (ev_var rfl) ev_c h4 rfl (flat_bools _)
  rw [f1] at hc
  refine q_when (b := false) (et_or (a := false) (b := false) (et_test (ev_neI hc ev_c)) fun _ => et_not (a := true) (et_B (ev_isExT rfl ef.c ef.ve))) (fun z => by cases z) (fun _ H5 e5 => ?_)
  have h5 := e5 q _ h4
  have hx : Ev (tBM K "list" (rIndex K) (tVar 1) (tCons (tC (.bl true)) tNil)) ([some (.ref a), some (.ref q)] : L2.St) H5 (.int ((jK i : Nat) : Int)) :=
    ev_index (z := .bl true) (ev_var rfl) ev_c h5 rfl (flat_bools _) (by rw [List.getElem?_map, f2]; rfl) rfl fun m z' hm hz => by
      rw [List.getElem?_map, f3 m hm] at hz
      cases hz
      rfl
  have hat : atI ((WK.map fun w : String => V.str w)) ((jK i : Nat) : Int) = some (V.str (wordK i)) := atI_nat (by rw [List.getElem?_map, f4]; rfl)
  refine s_retU (xs := [.str (wordK i)]) (eu_tup (ea_cons (ev_ixN (xs := WK.map fun w : String => V.str w) (el_lst (ea_cons ev_c (ea_cons ev_c (ea_cons ev_c (ea_cons ev_c (ea_cons ev_c (ea_cons ev_c (ea_cons ev_c ea_nil))))))) (by simp [WK])) hx hat) ea_nil) (by simp)) fun r H6 hr e6 h6 => ?_
  exact kk r H6 (((e3.trans e4).trans e5).trans e6) h6
/-! ### _law_added -/
structure Efs (K : PySem.W.Frag) (C : CA) : Prop where
  e0 : ExF K C C.BadEntry 0
  e2 : ExF K C C.NoEntry 2
  e3 : ExF K C C.Closed 3
  e4 : ExF K C C.TooMany 4
  e5 : ExF K C C.Gone 5
section
variable {K : PySem.W.Frag} {C : CA} {σ : L2.St} {H H' : Hp} {t : TT} {ta tb tc td te tf : TE} {D : Ends} {tu tz : TS} {p d : Addr} {B L : Bk} {g l n : Int}
theorem at_methH {m : Str} {sp : Sp} {E : L2.St → XK} {tA : TA} {vs : List V} {Q : VK} (ha : Ev ta σ H (.ref p)) (hA : EvA tA σ H vs) (h : KeepAt K C H p d B g l) (h1 : ¬ m = "least") (h2 : ¬ m = "given") (h3 : ¬ m = "rows") (q : ∀ H1, Ex H H1 → sp (.ref p :: vs) H1 Q (E σ)) : L2H.tMethH C.Keeper m sp E ta tA σ H Q := by
  unfold L2H.tMethH
  refine ha H (Ex.refl H) _ fun H1 e1 => ?_
  obtain ⟨dx, g1⟩ := (h.mono e1).ob
  exact ⟨p, dx, _, rfl, g1, kf_no _ _ _ h1 h2 h3, hA H1 e1 _ fun H2 e2 => q H2 (e1.trans e2)⟩
theorem q_try {c : Addr} {i : Nat} {tb : WX → TS} {ts : Addr → Value → Option Addr → TS} (h : tb (wAs K (.ref c) i ts (fun _ _ _ _ => False) { D with nx := tz D }) { D with nx := tz D } σ H) : tSeq (tTryAs K c i tb ts) tz D σ H := h
/-- what the suite does with an error -/
theorem at_word {i : Nat} {sl : Nat} {Dc : Addr} {a : Addr} (ef : ExF K C Dc i) (hi : i < 7) (hσ : σ[sl]? = some (some (.ref a))) (q : ∀ r H1, Ex H H1 → H1 r = some (.tup [.str (wordK i)]) → D.rt (.ref r) H1) : tRet (tCallS (sp_l_word K C a (.ref Dc) none) (fun _ => E0) (tCons (tVar sl) tNil)) D σ H := by
  unfold tRet tCallS
  exact (ea_cons (ev_var hσ) ea_nil) H (Ex.refl H) _ fun H1 e1 => ⟨Dc, i, rfl, rfl, ef, hi, rfl, fun r H2 e2 h2 => q r H2 (e1.trans e2) h2⟩
end
def sp_l_added (K : PySem.W.Frag) (C : CA) : Sp := fun vs H Q _ => ∃ (p d : Addr) (B : Bk) (g l : Int) (v : V) (oe : Option Ent), vs = [.ref p, v] ∧ KeepAt K C H p d B g l ∧ EntL H v oe ∧ 0 ≤ l ∧ l ≤ g ∧
  (∀ w, outE oe B.length g l = some w → ∀ u H', Ex H H' → OutV (some w) g H' u → Q u H') ∧
  (∀ e, oe = some e → outE oe B.length g l = none → ∀ H', Fr [p, d] H H' → KeepAt K C H' p d (B ++ [(g + 1, e)]) (g + 1) l → Q (.int (g + 1)) H')
theorem len_l_added {K : PySem.W.Frag} {C : CA} {vs : List V} {H : Hp} {Q : VK} {E : XK} (h : sp_l_added K C vs H Q E) : vs.length = 2 := by
  obtain ⟨p, d, B, g, l, v, oe, rfl, _⟩ := h
  rfl
/-- _law_keeper 0, _law_entry_here 1, _law_e 2 -/
def t_l_added (K : PySem.W.Frag) (C : CA) : TS :=
 (tTryAs K C.BookError 2 (fun W => (tRet (L2H.tMethH C.Keeper "add" (sp_Keeper_add K C) (WE W) (tVar 0) (tCons (tVar 1) tNil)))) (fun a cls d => (tRet (tCallS (sp_l_word K C a cls d) (fun _ => E0) (tCons (tVar 2) tNil)))))
theorem pure_l_added {K : PySem.W.Frag} {C : CA} {vs : List V} {H : Hp} {Q : VK} {E : XK} (ef : Efs K C) (h : sp_l_added K C vs H Q E) : t_l_added K C { nx := fun _ H' => Q .non H', rt := Q } (startN 3 vs) H := by
  obtain ⟨p, d, B, g, l, v, oe, rfl, ka, hv, hl0, hlg, k1, k2⟩ := h
  show L2H.tMethH C.Keeper "add" (sp_Keeper_add K C) _ (tVar 0) (tCons (tVar 1) tNil) (startN 3 [.ref p, v]) H Q
  refine at_methH (ev_var rfl) (ea_cons (ev_var (i := 1) (v := v) rfl) ea_nil) ka m_add1 m_add2 m_add3 fun H1 e1 => ?_
  have raise : ∀ {Dc : Addr} {i : Nat}, ExF K C Dc i → i < 7 → wordK i ∈ WORDS → outE oe B.length g l = some (wordK i) → ∀ H', Ex H1 H' → (WE (wAs K (.ref C.BookError) 2 (fun a cls d => (tRet (tCallS (sp_l_word K C a cls d) (fun _ => E0) (tCons (tVar 2) tNil)))) (fun _ _ _ _ => False) { nx := fun _ H' => Q .non H', rt := Q }) (startN 3 [.ref p, v])) (.ref Dc) none H' := fun {Dc i} fe hi hw ho H2 e2 =>
    ⟨true, fe.bk, fun _ a ha => at_word fe hi rfl fun r H3 e3 h3 => k1 _ ho _ H3 ((e1.trans e2).trans e3) ⟨hw, r, rfl, h3⟩, fun z => by cases z⟩
  have hv1 := EntL.mo e1 hv
  cases oe with
  | none =>
    obtain ⟨a, rfl, ha⟩ := hv1
    exact ⟨p, d, B, g, l, .ref a, .list [.str "undo", .int 1], rfl, ka.mono e1, .lst ha (.cons (.str _ (by decide +kernel)) (.cons (.int _) .nil)), by omega, .inl ⟨rfl, raise ef.e0 (by decide) (by decide) rfl⟩⟩
  | some e =>
    obtain ⟨hf, t, rfl, ht⟩ := hv1
    have hbd := fine_bad hf
    refine ⟨p, d, B, g, l, .ref t, .tuple e.ds, rfl, ka.mono e1, fine_dq hf ht, by omega, ?_⟩
    cases hb : badE e with
    | true =>
      rw [hb] at hbd
      exact .inl ⟨hbd, raise ef.e0 (by decide) (by decide) (by unfold outE; dsimp only; rw [if_pos hb]; rfl)⟩
    | false =>
      rw [hb] at hbd
      refine .inr ⟨t, e, rfl, ht, rfl, hbd, ?_, ?_, ?_, ?_⟩
      · rintro ⟨j, rfl, hj⟩
        refine raise ef.e3 (by decide) (by decide) ?_
        unfold outE; dsimp only; rw [if_neg (by rw [hb]; decide)]
        show (if j ≤ l then _ else _) = _
        rw [if_pos hj]; rfl
      · rintro ⟨j, rfl, hj, hj2⟩
        refine raise ef.e2 (by decide) (by decide) ?_
        unfold outE; dsimp only; rw [if_neg (by rw [hb]; decide)]
        show (if j ≤ l then _ else if g < j then _ else _) = _
        rw [if_neg (by omega), if_pos hj2]; rfl
      · intro hu h30
        refine raise ef.e4 (by decide) (by decide) ?_
        unfold outE; dsimp only; rw [if_neg (by rw [hb]; decide)]
        cases e with
        | undo j =>
          have := hu j rfl
          show (if j ≤ l then _ else if g < j then _ else if 30 ≤ (B.length : Int) then _ else _) = _
          rw [if_neg (by omega), if_neg (by omega), if_pos (by omega)]; rfl
        | tell _ _ _ _ => show (if 30 ≤ (B.length : Int) then _ else _) = _; rw [if_pos (by omega)]; rfl
        | clear _ _ _ => show (if 30 ≤ (B.length : Int) then _ else _) = _; rw [if_pos (by omega)]; rfl
        | like _ _ _ _ => show (if 30 ≤ (B.length : Int) then _ else _) = _; rw [if_pos (by omega)]; rfl
      · intro hu h30 H2 f2 ka2
        refine k2 e rfl ?_ H2 ((Fr.of e1).trans f2) ka2
        unfold outE; dsimp only; rw [if_neg (by rw [hb]; decide)]
        cases e with
        | undo j =>
          have := hu j rfl
          show (if j ≤ l then _ else if g < j then _ else if 30 ≤ (B.length : Int) then _ else _) = _
          rw [if_neg (by omega), if_neg (by omega), if_neg (by omega)]
        | tell _ _ _ _ => show (if 30 ≤ (B.length : Int) then _ else _) = _; rw [if_neg (by omega)]
        | clear _ _ _ => show (if 30 ≤ (B.length : Int) then _ else _) = _; rw [if_neg (by omega)]
        | like _ _ _ _ => show (if 30 ≤ (B.length : Int) then _ else _) = _; rw [if_neg (by omega)]
section
variable {K : PySem.W.Frag} {C : CA} {σ : L2.St} {H H' : Hp} {t : TT} {ta tb tc td te tf : TE} {D : Ends} {tu tz : TS} {p d : Addr} {B L : Bk} {g l n : Int}
theorem at_added {oe : Option Ent} {Q : VK} (ha : Ev ta σ H (.ref p)) (hb : EvX tb σ H fun H v => EntL H v oe) (ka : KeepAt K C H p d B g l) (h0 : 0 ≤ l) (h1 : l ≤ g) (k1 : ∀ w, outE oe B.length g l = some w → ∀ u H', Ex H H' → OutV (some w) g H' u → Q u H')
    (k2 : ∀ e, oe = some e → outE oe B.length g l = none → ∀ H', Fr [p, d] H H' → KeepAt K C H' p d (B ++ [(g + 1, e)]) (g + 1) l → Q (.int (g + 1)) H') : tCall (sp_l_added K C) [] E0 (tCons ta (tCons tb tNil)) σ H Q := by
  unfold tCall tCons tNil
  refine ha H (Ex.refl H) _ fun H1 e1 => hb H1 e1 _ fun v H2 e2 hv => ?_
  have E2 := e1.trans e2
  exact ⟨p, d, B, g, l, v, oe, rfl, ka.mono E2, hv, h0, h1, fun w hw u H3 e3 ho => k1 w hw u H3 (E2.trans e3) ho, fun e he ho H3 f3 ka3 => k2 e he ho H3 ((Fr.of E2).trans f3) ka3⟩
end
/-! ### Keeper.floor -/
def sp_Keeper_floor (K : PySem.W.Frag) (C : CA) : Sp := fun vs H Q _ => ∃ (p d : Addr) (B : Bk) (g l : Int), vs = [.ref p] ∧ KeepAt K C H p d B g l ∧ ∀ H', Ex H H' → Q (.int l) H'
theorem len_Keeper_floor {K : PySem.W.Frag} {C : CA} {vs : List V} {H : Hp} {Q : VK} {E : XK} (h : sp_Keeper_floor K C vs H Q E) : vs.length = 1 := by
  obtain ⟨p, d, B, g, l, rfl, _⟩ := h
  rfl
/-- self 0 -/
def t_Keeper_floor (K : PySem.W.Frag) (C : CA) : TS :=
 (tRet (tFld K (tVar 0) "least"))
theorem pure_Keeper_floor {K : PySem.W.Frag} {C : CA} {vs : List V} {H : Hp} {Q : VK} {E : XK} (h : sp_Keeper_floor K C vs H Q E) : t_Keeper_floor K C { nx := fun _ H' => Q .non H', rt := Q } (startN 1 vs) H := by
  obtain ⟨p, d, B, g, l, rfl, ka, kk⟩ := h
  exact s_ret (ev_least (ev_var rfl) ka) kk
/-! ### _law_whole -/
def sp_l_whole (K : PySem.W.Frag) (C : CA) : Sp := fun vs H Q _ => ∃ i : Int, vs = [.int i] ∧ ∀ H', Ex H H' → Q (.bl true) H'
theorem len_l_whole {K : PySem.W.Frag} {C : CA} {vs : List V} {H : Hp} {Q : VK} {E : XK} (h : sp_l_whole K C vs H Q E) : vs.length = 1 := by
  obtain ⟨i, rfl, _⟩ := h
  rfl
/-- _law_found 0 -/
def t_l_whole (K : PySem.W.Frag) (C : CA) : TS :=
 (tRet (tAndV (tCB (rIsi K) (tCons (tVar 0) (tCons (tC (.ty "int")) tNil))) (tNotV (tCB (rIsi K) (tCons (tVar 0) (tCons (tC (.ty "bool")) tNil))))))
theorem kit_ii : kitB "int" "int" = some true := by decide +kernel
theorem pure_l_whole {K : PySem.W.Frag} {C : CA} {vs : List V} {H : Hp} {Q : VK} {E : XK} (h : sp_l_whole K C vs H Q E) : t_l_whole K C { nx := fun _ H' => Q .non H', rt := Q } (startN 1 vs) H := by
  obtain ⟨i, rfl, kk⟩ := h
  exact s_ret (v := .bl true) (ev_andV (a := true) (b := true) (ev_isi (ev_var rfl) (fun H1 e => .base (.int i)) kit_ii) fun _ => ev_notV (a := false) (ev_isi (ev_var rfl) (fun H1 e => .base (.int i)) kit_ib)) kk
/-! ### _law_gone -/
theorem m_floor1 : ¬ (("floor" : Str) = "least") := by decide +kernel
theorem m_floor2 : ¬ (("floor" : Str) = "given") := by decide +kernel
theorem m_floor3 : ¬ (("floor" : Str) = "rows") := by decide +kernel
def sp_l_gone (K : PySem.W.Frag) (C : CA) : Sp := fun vs H Q _ => ∃ (p d : Addr) (B : Bk) (g l n way : Int), vs = [.ref p, .int n, .int way] ∧ KeepAt K C H p d B g l ∧
  (l ≤ n → ∀ q H', Ex H H' → H' q = some (.tup []) → Q (.ref q) H') ∧ (n < l → ∀ q H', Ex H H' → H' q = some (.tup [.str "gone"]) → Q (.ref q) H')
theorem len_l_gone {K : PySem.W.Frag} {C : CA} {vs : List V} {H : Hp} {Q : VK} {E : XK} (h : sp_l_gone K C vs H Q E) : vs.length = 3 := by
  obtain ⟨p, d, B, g, l, n, way, rfl, _⟩ := h
  rfl
/-- _law_keeper 0, _law_n 1, _law_way 2, _law_e 3 -/
def t_l_gone (K : PySem.W.Frag) (C : CA) : TS :=
 (tSeq (tTryAs K C.BookError 3 (fun W => (tIfS (tTest (tOp (eqA K) (tVar 2) (tC (.int 0)))) (tDrop (L2H.tMethH C.Keeper "worth" (sp_Keeper_worth K C) (WE W) (tVar 0) (tCons (tVar 1) (tCons (tC (.str "a")) (tCons (tC (.int 1)) tNil))))) (tIfS (tTest (tOp (eqA K) (tVar 2) (tC (.int 1)))) (tDrop (L2H.tMethH C.Keeper "runs" (sp_Keeper_runs K C) (WE W) (tVar 0) (tCons (tVar 1) (tCons (tC (.str "a")) (tCons (tC (.int 1)) (tCons (tC (.int 2)) tNil)))))) (tDrop (L2H.tMethH C.Keeper "why" (sp_Keeper_why K C) (WE W) (tVar 0) (tCons (tVar 1) (tCons (tC (.str "a")) (tCons (tC (.int 1)) (tCons (tC (.int 2)) tNil))))))))) (fun a cls d => (tRet (tCallS (sp_l_word K C a cls d) (fun _ => E0) (tCons (tVar 3) tNil)))))
 (tRet (tTup tNil)))
theorem pure_l_gone {K : PySem.W.Frag} {C : CA} {vs : List V} {H : Hp} {Q : VK} {E : XK} (ef : Efs K C) (h : sp_l_gone K C vs H Q E) : t_l_gone K C { nx := fun _ H' => Q .non H', rt := Q } (startN 4 vs) H := by
  obtain ⟨p, d, B, g, l, n, way, rfl, ka, k1, k2⟩ := h
  refine q_try ?_
  have next : l ≤ n → ∀ H', Ex H H' → tRet (tTup tNil) { nx := fun _ H' => Q .non H', rt := Q } ([some (.ref p), some (.int n), some (.int way), none] : L2.St) H' := fun hn H' e =>
    s_retU (eu_tup ea_nil (by simp)) fun q H2 hq e2 h2 => k1 hn q H2 (e.trans e2) h2
  have raise : ∀ {D' : Ends}, D'.rt = Q → n < l → ∀ H', Ex H H' → (WE (wAs K (.ref C.BookError) 3 (fun a cls d => (tRet (tCallS (sp_l_word K C a cls d) (fun _ => E0) (tCons (tVar 3) tNil)))) (fun _ _ _ _ => False) D') ([some (.ref p), some (.int n), some (.int way), none] : L2.St)) (.ref C.Gone) none H' := fun {D'} hD hn H2 e2 =>
    ⟨true, ef.e5.bk, fun _ a ha => at_word ef.e5 (by decide) rfl fun r H3 e3 h3 => by
      show D'.rt _ _
      rw [hD]
      exact k2 hn r H3 (e2.trans e3) h3, fun z => by cases z⟩
  refine s_if (et_test (ev_eqI (ev_var rfl) ev_c)) (fun _ H1 e1 => ?_) (fun _ H1 e1 => ?_)
  · unfold tDrop
    refine at_methH (ev_var rfl) (ea_cons (ev_var (i := 1) (v := .int n) rfl) (ea_cons (ev_c (v := .str "a")) (ea_cons (ev_c (v := .int 1)) ea_nil))) (ka.mono e1) m_worth1 m_worth2 m_worth3 fun H2 e2 => ?_
    exact ⟨p, d, B, g, l, n, "a", 1, rfl, ka.mono (e1.trans e2), fun hn H3 e3 => next hn H3 ((e1.trans e2).trans e3), fun hn H3 e3 => raise rfl hn H3 ((e1.trans e2).trans e3)⟩
  · refine s_if (et_test (ev_eqI (ev_var rfl) ev_c)) (fun _ H2 e2 => ?_) (fun _ H2 e2 => ?_)
    · unfold tDrop
      have E2 := e1.trans e2
      refine at_methH (ev_var rfl) (ea_cons (ev_var (i := 1) (v := .int n) rfl) (ea_cons (ev_c (v := .str "a")) (ea_cons (ev_c (v := .int 1)) (ea_cons (ev_c (v := .int 2)) ea_nil)))) (ka.mono E2) m_runs1 m_runs2 m_runs3 fun H3 e3 => ?_
      exact ⟨p, d, B, g, l, n, "a", 1, 2, rfl, ka.mono (E2.trans e3), by decide, fun hn q xs H4 hq e4 h4 hp => next hn H4 ((E2.trans e3).trans e4), fun hn H4 e4 => raise rfl hn H4 ((E2.trans e3).trans e4)⟩
    · unfold tDrop
      have E2 := e1.trans e2
      refine at_methH (ev_var rfl) (ea_cons (ev_var (i := 1) (v := .int n) rfl) (ea_cons (ev_c (v := .str "a")) (ea_cons (ev_c (v := .int 1)) (ea_cons (ev_c (v := .int 2)) ea_nil)))) (ka.mono E2) m_why1 m_why2 m_why3 fun H3 e3 => ?_
      exact ⟨p, d, B, g, l, n, "a", 1, 2, rfl, ka.mono (E2.trans e3), by decide, fun hn q H4 hq e4 h4 => next hn H4 ((E2.trans e3).trans e4), fun hn H4 e4 => raise rfl hn H4 ((E2.trans e3).trans e4)⟩
end S
end
set_option Elab.async false
set_option linter.all false
set_option maxRecDepth 100000
set_option maxHeartbeats 4000000
section
open PySem L2 Evl S
local macro_rules | `(tactic| array_get_dec) => `(tactic| first
  | exact ev_c
  | exact ev_var rfl
  | exact S.eo_no
  | exact ea_nil
  | (apply S.eo_some <;> array_get_dec)
  | (apply ea_cons <;> array_get_dec)
  | (apply S.ev_add <;> array_get_dec)
  | (apply S.ev_sub <;> array_get_dec)
  | (apply S.ev_div <;> first | array_get_dec | exact ⟨by decide, by decide⟩ | exact ⟨by omega, by omega⟩)
  | (apply S.ev_mod <;> first | array_get_dec | decide | omega)
  | (apply S.ev_mulr <;> first | array_get_dec | exact ⟨by decide, by decide⟩ | exact ⟨by omega, by omega⟩)
  | (apply S.ev_mull <;> first | array_get_dec | exact ⟨by decide, by decide⟩ | exact ⟨by omega, by omega⟩)
  | (apply S.ev_neg <;> array_get_dec)
  | (apply S.ev_min <;> array_get_dec)
  | (apply S.ev_max <;> array_get_dec)
  | (apply S.ev_eqI <;> array_get_dec)
  | (apply S.ev_eqS <;> array_get_dec)
  | (apply S.ev_neI <;> array_get_dec)
  | (apply S.ev_neS <;> array_get_dec)
  | (apply S.ev_lt <;> array_get_dec)
  | (apply S.ev_le <;> array_get_dec)
  | (apply S.ev_gt <;> array_get_dec)
  | (apply S.ev_ge <;> array_get_dec)
  | (apply S.ev_intB <;> array_get_dec)
  | (apply et_test <;> array_get_dec)
  | (apply et_B <;> array_get_dec)
  | (apply et_not <;> array_get_dec)
  | (refine' et_and ?_ (fun _ => ?_) <;> array_get_dec)
  | (refine' et_or ?_ (fun _ => ?_) <;> array_get_dec))
namespace S
section
variable {K : PySem.W.Frag} {C : CA} {σ : L2.St} {H H' : Hp} {t : TT} {ta tb tc td te tf : TE} {D : Ends} {tu tu' tz : TS} {p d : Addr} {B L : Bk} {g l n : Int}
theorem ev_klen (ha : Ev ta σ H (.ref p)) (h : KeepAt K C H p d B g l) : Ev (tCB (lenA K) (tCons (tMeth C.Keeper "book" (sp_Keeper_book K C) [] E0 ta tNil) tNil)) σ H (.int (B.length : Int)) := fun H1 e Q q => by
  unfold tCB tCons
  refine at_kbook (ha.mono e) (h.mono e) fun r H2 nb => ?_
  obtain ⟨kvs, h1, h2⟩ := nb.dk
  have hl : kvs.length = B.length := Paired.length h2
  refine .inr ⟨r, kvs, rfl, .inl h1, ?_⟩
  rw [hl]
  exact q H2 nb.ex
theorem ev_kfloor (ha : Ev ta σ H (.ref p)) (h : KeepAt K C H p d B g l) : Ev (tMeth C.Keeper "floor" (sp_Keeper_floor K C) [] E0 ta tNil) σ H (.int l) := fun H1 e Q q =>
  at_meth (ha.mono e) (EvA.later ea_nil e) (h.mono e) m_floor1 m_floor2 m_floor3 fun H2 e2 => ⟨p, d, B, g, l, rfl, h.mono (e.trans e2), fun H' e' => q H' (e2.trans e')⟩
/-- a != b, a's doing something, both of them the outcome -/
theorem tt_ne {o : Option String} {Qb : Bool → Hp → Prop} (M : Hp → Prop) (h : ∀ Q : VK, (∀ v H1, M H1 → OutV o g H1 v → Q v H1) → te σ H Q) (hb : ∀ H1, M H1 → EvX tb σ H1 (OutV o g)) (k : ∀ H1 H2, M H1 → Ex H1 H2 → Qb false H2) : tTest (tOp (neA K) te tb) σ H Qb := by
  unfold tTest tOp
  refine h _ fun v H1 m hv => hb H1 m H1 (Ex.refl H1) _ fun u H2 e2 hu => ?_
  have hv2 := hv.mono (ext_of e2)
  refine .inr (.inl ⟨outD o g, outD o g, hv2.dp, hu.dp, hv.sh, hv.sh, ?_⟩)
  rw [SeqAt.eqv_refl _ (shaped_of hv.sh).1]
  exact ⟨_, rfl, k H1 H2 m e2⟩
theorem te_eq {o : Option String} {Q : VK} (M : Hp → Prop) (h : ∀ Q : VK, (∀ v H1, M H1 → OutV o g H1 v → Q v H1) → te σ H Q) (hb : ∀ H1, M H1 → EvX tb σ H1 (OutV o g)) (k : ∀ H1 H2, M H1 → Ex H1 H2 → Q (.bl true) H2) : tOp (eqA K) te tb σ H Q := by
  unfold tOp
  refine h _ fun v H1 m hv => hb H1 m H1 (Ex.refl H1) _ fun u H2 e2 hu => ?_
  have hv2 := hv.mono (ext_of e2)
  refine .inr (.inl ⟨outD o g, outD o g, hv2.dp, hu.dp, hv.sh, hv.sh, ?_⟩)
  rw [SeqAt.eqv_refl _ (shaped_of hv.sh).1]
  exact k H1 H2 m e2
theorem ex_wordT {w : String} (hw : w ∈ WORDS) : EvX (tTup (tCons (tC (.str w)) tNil)) σ H (OutV (some w) g) := ex_evU (eu_tup (ea_cons ev_c ea_nil) (by simp)) fun p H1 _ h1 => ⟨hw, p, rfl, h1⟩
theorem at_kadd {e : Ent} {Q : VK} (ha : Ev ta σ H (.ref p)) (hb : EvX tb σ H fun H v => ∃ t, v = .ref t ∧ EntAt H t e) (ka : KeepAt K C H p d B g l) (hg : 0 ≤ g) (hok : e.ok (g + 1)) (hu : ∀ j, e ≠ .undo j) (h30 : B.length < 30)
    (q : ∀ H', Fr [p, d] H H' → KeepAt K C H' p d (B ++ [(g + 1, e)]) (g + 1) l → Q (.int (g + 1)) H') : tMeth C.Keeper "add" (sp_Keeper_add K C) [] E0 ta (tCons tb tNil) σ H Q := by
  unfold tMeth tCons tNil
  refine ha H (Ex.refl H) _ fun H1 e1 => ?_
  obtain ⟨dx, g1⟩ := (ka.mono e1).ob
  refine ⟨p, dx, _, rfl, g1, kf_no _ _ _ m_add1 m_add2 m_add3, hb H1 e1 _ fun v H2 e2 hv => ?_⟩
  obtain ⟨t, rfl, ht⟩ := hv
  have E2 := e1.trans e2
  exact ⟨p, d, B, g, l, .ref t, .tuple e.ds, rfl, ka.mono E2, Ent.dq ht hok, hg, .inr ⟨t, e, rfl, ht, rfl, Ent.isEntry hok, (fun ⟨j, h, _⟩ => absurd h (hu j)), (fun ⟨j, h, _⟩ => absurd h (hu j)), (fun _ h => by omega), fun _ _ H3 f3 ka3 => q H3 ((Fr.of E2).trans f3) ka3⟩⟩
theorem name_a : NameS ("a" : Str) := by
  refine ⟨by decide +kernel, by decide +kernel, ?_⟩
  have h : ((("a" : Str)).cps.toList.all fun c => decide (97 ≤ c) && decide (c ≤ 122)) = true := by decide +kernel
  intro c hc
  have := List.all_eq_true.mp h c hc
  rw [Bool.and_eq_true, decide_eq_true_eq, decide_eq_true_eq] at this
  exact this
theorem name_b : NameS ("b" : Str) := by
  refine ⟨by decide +kernel, by decide +kernel, ?_⟩
  have h : ((("b" : Str)).cps.toList.all fun c => decide (97 ≤ c) && decide (c ≤ 122)) = true := by decide +kernel
  intro c hc
  have := List.all_eq_true.mp h c hc
  rw [Bool.and_eq_true, decide_eq_true_eq, decide_eq_true_eq] at this
  exact this
end
/-! ### _law_full -/
def sp_l_full (K : PySem.W.Frag) (C : CA) : Sp := fun vs H Q _ => ∃ (p d : Addr) (m : Int), vs = [.ref p, .int m] ∧ KeepAt K C H p d [] 0 0 ∧ 26 ≤ m ∧ m ≤ 30 ∧ ∀ H' B, Fr [p, d] H H' → KeepAt K C H' p d B m 0 → Q (.int m) H'
theorem len_l_full {K : PySem.W.Frag} {C : CA} {vs : List V} {H : Hp} {Q : VK} {E : XK} (h : sp_l_full K C vs H Q E) : vs.length = 2 := by
  obtain ⟨p, d, m, rfl, _⟩ := h
  rfl
/-- _law_keeper 0, _law_many 1, _law_k 2, _law_day 3 -/
def t_l_full (K : PySem.W.Frag) (C : CA) : TS :=
 (tSeq (tFor (iRng1 (tCons (tVar 1) tNil)) (gName 2)
  (tSeq (tAsg (tOp (subI) (tVar 2) (tOp (divI) (tOp (modI) (tVar 2) (tC (.int 7))) (tC (.int 6)))) (gName 3))
 (tDrop (tMeth C.Keeper "add" (sp_Keeper_add K C) [] E0 (tVar 0) (tCons (tTup (tCons (tC (.str "tell")) (tCons (tC (.str "a")) (tCons (tOp (mulI) (tC (.int 2)) (tVar 3)) (tCons (tOp (addA K) (tOp (mulI) (tC (.int 2)) (tVar 3)) (tOp (modI) (tVar 3) (tC (.int 2)))) (tCons (tVar 3) tNil)))))) tNil)))))
 (tRet (tVar 1)))
theorem pure_l_full {K : PySem.W.Frag} {C : CA} {vs : List V} {H : Hp} {Q : VK} {E : XK} (h : sp_l_full K C vs H Q E) : t_l_full K C { nx := fun _ H' => Q .non H', rt := Q } (startN 4 vs) H := by
  obtain ⟨p, d, m, rfl, ka, hm0, hm1, kk⟩ := h
  refine q_forZ (n := m) (ea_cons (ev_var rfl) ea_nil) (by omega) (fun i σ' H' => ∃ B o2 o3, σ' = [some (.ref p), some (.int m), o2, o3] ∧ Fr [p, d] H H' ∧ KeepAt K C H' p d B (i : Int) 0 ∧ B.length = i)
    (fun H1 e1 => ⟨[], none, none, rfl, Fr.of e1, ka.mono e1, rfl⟩) ?_ ?_
  · rintro i σ' H1 hi ⟨B, o2, o3, rfl, f1, ka1, hlen⟩
    have hmod := mod_lt (i : Int) (show (0 : Int) < 7 by decide)
    refine q_asg (ev_sub (ev_var rfl) (ev_div (ev_mod (ev_var rfl) ev_c (by decide)) ev_c ⟨by decide, by decide⟩)) fun H2 e2 => ?_
    obtain ⟨day, hday, d0, d1⟩ : ∃ day, day = (i : Int) - (i : Int) % 7 / 6 ∧ 0 ≤ day ∧ day ≤ 30 := ⟨_, rfl, by omega, by omega⟩
    rw [← hday]
    show tDrop _ _ ([some (.ref p), some (.int m), some (.int (i : Int)), some (.int day)] : L2.St) H2
    unfold tDrop
    have hm2 := mod_lt day (show (0 : Int) < 2 by decide)
    refine at_kadd (e := .tell "a" (2 * day) (2 * day + day % 2) day) (ev_var rfl) (ex_evU (eu_tup (ea_cons ev_c (ea_cons ev_c (ea_cons (ev_mull ev_c (ev_var rfl) ⟨by decide, by decide⟩) (ea_cons (ev_add (ev_mull ev_c (ev_var rfl) ⟨by decide, by decide⟩) (ev_mod (ev_var rfl) ev_c (by decide))) (ea_cons (ev_var rfl) ea_nil))))) (by simp)) fun q H3 _ h3 => ⟨q, rfl, h3⟩) (ka1.mono e2) (by omega) ⟨name_a, by omega, by omega, by omega, by omega, by omega⟩ (fun j z => by cases z) (by omega) fun H3 f3 ka3 => ?_
    have hc : ((i + 1 : Nat) : Int) = (i : Int) + 1 := by omega
    refine ⟨B ++ [(((i : Int) + 1), .tell "a" (2 * day) (2 * day + day % 2) day)], _, _, rfl, (f1.trans (Fr.of e2)).trans f3, ?_, by rw [List.length_append, hlen]; rfl⟩
    rw [hc]
    exact ka3
  · rintro σ' H1 ⟨B, o2, o3, rfl, f1, ka1, hlen⟩
    rw [Int.toNat_of_nonneg (by omega)] at ka1
    exact s_ret (ev_var rfl) fun H2 e2 => kk H2 B (f1.trans (Fr.of e2)) (ka1.mono e2)
/-! ### _law_taken_then -/
def sp_l_taken_then (K : PySem.W.Frag) (C : CA) : Sp := fun vs H Q _ => ∃ (p d pm : Addr) (B : Bk) (g l : Int) (ms : List Int), vs = [.ref p, .ref pm, .int g, .int l] ∧ KeepAt K C H p d B g l ∧ H pm = some (.lst (ms.map V.int)) ∧ ms.length ≤ 1000 ∧ 0 ≤ l ∧ l ≤ g ∧ ∀ H', Q (.bl true) H'
theorem len_l_taken_then {K : PySem.W.Frag} {C : CA} {vs : List V} {H : Hp} {Q : VK} {E : XK} (h : sp_l_taken_then K C vs H Q E) : vs.length = 4 := by
  obtain ⟨p, d, pm, B, g, l, ms, rfl, _⟩ := h
  rfl
/-- _law_keeper 0, _law_numbers 1, _law_given 2, _law_floor 3, _law_number 4, _law_due_here 5 -/
def t_l_taken_then (K : PySem.W.Frag) (C : CA) : TS :=
 (tSeq (tFor (iList K (tVar 1)) (gName 4)
  (tIfS (tAnd (tTest (tChain (ltI) (leI) (tVar 3) (tVar 4) (tVar 2))) (tTest (tOp (ltI) (tCB (lenA K) (tCons (tMeth C.Keeper "book" (sp_Keeper_book K C) [] E0 (tVar 0) tNil) tNil)) (tC (.int 30))))) (tSeq (tAsg (tOp (addA K) (tVar 2) (tC (.int 1))) (gName 2))
 (tIfS (tTest (tOp (neA K) (tCall (sp_l_added K C) [] E0 (tCons (tVar 0) (tCons (tTup (tCons (tC (.str "undo")) (tCons (tVar 4) tNil))) tNil))) (tVar 2))) (tRet (tC (.bl false))) tNext)) tNext))
 (tSeq (tIfS (tTest (tOp (ltI) (tCB (lenA K) (tCons (tMeth C.Keeper "book" (sp_Keeper_book K C) [] E0 (tVar 0) tNil) tNil)) (tC (.int 30)))) (tRet (tC (.bl true))) tNext)
 (tSeq (tIfS (tTest (tOp (neA K) (tCall (sp_l_added K C) [] E0 (tCons (tVar 0) (tCons (tTup (tCons (tC (.str "clear")) (tCons (tC (.str "b")) (tCons (tC (.int 0)) (tCons (tC (.int 0)) tNil))))) tNil))) (tTup (tCons (tC (.str "many")) tNil)))) (tRet (tC (.bl false))) tNext)
 (tSeq (tDrop (tMeth C.Keeper "shorten" (sp_Keeper_shorten K C) [] E0 (tVar 0) tNil))
 (tSeq (tAsg (tOp (ixA K) (tLst (tCons (tOp (addA K) (tVar 2) (tC (.int 1))) (tCons (tTup (tCons (tC (.str "many")) tNil)) tNil))) (tCB (intC K) (tCons (tOp (eqA K) (tCB (lenA K) (tCons (tMeth C.Keeper "book" (sp_Keeper_book K C) [] E0 (tVar 0) tNil) tNil)) (tC (.int 30))) tNil))) (gName 5))
 (tRet (tOp (eqA K) (tCall (sp_l_added K C) [] E0 (tCons (tVar 0) (tCons (tTup (tCons (tC (.str "clear")) (tCons (tC (.str "b")) (tCons (tC (.int 0)) (tCons (tC (.int 0)) tNil))))) tNil))) (tVar 5))))))))
theorem pure_l_taken_then {K : PySem.W.Frag} {C : CA} {vs : List V} {H : Hp} {Q : VK} {E : XK} (h : sp_l_taken_then K C vs H Q E) : t_l_taken_then K C { nx := fun _ H' => Q .non H', rt := Q } (startN 6 vs) H := by
  obtain ⟨p, d, pm, B, g, l, ms, rfl, ka, hm, hml, h0, h1, kk⟩ := h
  have npm : pm ∉ [p, d] := fun z => by
    simp only [List.mem_cons, List.not_mem_nil, or_false] at z
    rcases z with z | z
    · obtain ⟨dx, h⟩ := ka.ob
      rw [← z, hm] at h; cases h
    · obtain ⟨kv, h, _⟩ := ka.dc
      rw [← z, hm] at h; cases h
  refine q_forLn (ev_var rfl) (sq_of hm) (fun i σ' H' => ∃ B g o4 o5, σ' = [some (.ref p), some (.ref pm), some (.int g), some (.int l), o4, o5] ∧ KeepAt K C H' p d B g l ∧ H' pm = some (.lst (ms.map V.int)) ∧ l ≤ g)
    (fun H1 e1 => ⟨B, g, none, none, rfl, ka.mono e1, e1 pm _ hm, h1⟩) (fun i σ' H' _ ⟨_, _, _, _, _, _, h, _⟩ => sq_of h) ?_ ?_
  · rintro i x σ' H1 hx ⟨B, g, o4, o5, rfl, ka1, hm1, hlg⟩
    obtain ⟨num, hnum, rfl⟩ : ∃ num, ms[i]? = some num ∧ x = .int num := by
      rw [List.getElem?_map] at hx
      cases e : ms[i]? with
      | none => rw [e] at hx; cases hx
      | some num => rw [e] at hx; exact ⟨num, rfl, (Option.some.inj hx).symm⟩
    refine s_when (et_and (et_test (ev_ltle (ev_var rfl) (ev_var rfl) (ev_var rfl))) fun _ => et_test (ev_lt (ev_klen (ev_var rfl) ka1) ev_c)) (fun c H2 e2 => ?_) (fun _ H2 e2 => ⟨B, g, _, _, rfl, ka1.mono e2, e2 pm _ hm1, hlg⟩)
    rw [Bool.and_eq_true, Bool.and_eq_true, decide_eq_true_eq, decide_eq_true_eq, decide_eq_true_eq] at c
    obtain ⟨⟨c1, c2⟩, c3⟩ := c
    refine q_asg (ev_add (ev_var rfl) ev_c) fun H3 e3 => ?_
    show tIfS _ _ _ _ ([some (.ref p), some (.ref pm), some (.int (g + 1)), some (.int l), some (.int num), o5] : L2.St) H3
    have ka3 := ka1.mono (e2.trans e3)
    have hm3 := (e2.trans e3) pm _ hm1
    have ho : outE (some (.undo num)) B.length g l = none := by
      unfold outE; dsimp only
      have hb : badE (.undo num) = false := decide_eq_false (by omega)
      rw [if_neg (by rw [hb]; decide)]
      show (if num ≤ l then _ else if g < num then _ else if 30 ≤ (B.length : Int) then _ else _) = _
      rw [if_neg (by omega), if_neg (by omega), if_neg (by omega)]
    unfold tIfS
    refine tt_ne (o := none) (g := g) (fun H' => KeepAt K C H' p d (B ++ [(g + 1, .undo num)]) (g + 1) l ∧ H' pm = some (.lst (ms.map V.int))) (fun Q' hQ' => at_added (ev_var rfl) (ex_undo (ev_var rfl) (by omega)) ka3 h0 hlg (fun w hw => by rw [ho] at hw; cases hw) fun e he _ H4 f4 ka4 => by
      cases he
      exact hQ' _ H4 ⟨ka4, f4.keep pm _ npm hm3⟩ rfl) (fun H4 _ => ex_ev (ev_var rfl) fun _ _ => rfl) fun H4 H5 ⟨ka4, hm4⟩ e5 => ?_
    rw [if_neg (by decide)]
    exact ⟨_, _, _, _, rfl, ka4.mono e5, e5 pm _ hm4, by omega⟩
  · rintro σ' H1 ⟨B, g, o4, o5, rfl, ka1, hm1, hlg⟩
    refine q_when (et_test (ev_lt (ev_klen (ev_var rfl) ka1) ev_c)) (fun _ H2 e2 => s_ret (v := .bl true) ev_c fun H3 _ => kk H3) (fun c H2 e2 => ?_)
    have c : ¬ (B.length : Int) < 30 := of_decide_eq_false c
    have hfew := ka1.few
    have ka2 := ka1.mono e2
    have exc : ∀ {σ : L2.St} {H : Hp}, EvX (tTup (tCons (tC (.str "clear")) (tCons (tC (.str "b")) (tCons (tC (.int 0)) (tCons (tC (.int 0)) tNil))))) σ H fun H v => EntL H v (some (.clear "b" 0 0)) := ex_evU (eu_tup (ea_cons ev_c (ea_cons ev_c (ea_cons ev_c (ea_cons ev_c ea_nil)))) (by simp)) fun q H3 _ h3 => ⟨.inl ⟨0, name_b, by decide, by decide, by decide⟩, q, rfl, h3⟩
    have oc : ∀ (n g l : Int), outE (some (.clear "b" 0 0)) n g l = if 30 ≤ n then some "many" else none := fun n g l => by
      unfold outE; dsimp only
      have hb : badE (.clear "b" 0 0) = false := (by rfl)
      rw [if_neg (by rw [hb]; decide)]
      rfl
    have many : "many" ∈ WORDS := by decide
    show tSeq (tIfS (tTest _) _ _) _ _ _ _
    unfold tSeq tIfS
    refine tt_ne (o := some "many") (g := g) (fun H' => KeepAt K C H' p d B g l) (fun Q' hQ' => at_added (ev_var rfl) exc ka2 h0 hlg (fun w hw u H4 e4 ho4 => by
      rw [oc, if_pos (by omega)] at hw
      cases hw
      exact hQ' u H4 (ka2.mono e4) ho4) fun e he ho => by rw [oc, if_pos (by omega)] at ho; cases ho) (fun H4 _ => ex_wordT many) fun H4 H5 ka4 e5 => ?_
    rw [if_neg (by decide)]
    have ka5 := ka4.mono e5
    show tDrop (tMeth C.Keeper "shorten" (sp_Keeper_shorten K C) [] E0 (tVar 0) tNil) { nx := _, rt := Q } ([some (.ref p), some (.ref pm), some (.int g), some (.int l), o4, o5] : L2.St) H5
    unfold tDrop
    refine at_meth (ev_var rfl) ea_nil ka5 m_short1 m_short2 m_short3 fun H6 e6 => ⟨p, d, B, g, l, rfl, ka5.mono e6, fun d' H7 hd7 f7 ka7 => ?_⟩
    -- what is due then
    have hfew7 := ka7.few
    have hlen7 : Ev (tCB (intC K) (tCons (tOp (eqA K) (tCB (lenA K) (tCons (tMeth C.Keeper "book" (sp_Keeper_book K C) [] E0 (tVar 0) tNil) tNil)) (tC (.int 30))) tNil)) ([some (.ref p), some (.ref pm), some (.int g), some (.int l), o4, o5] : L2.St) H7 (.int (if decide (((shortF B).length : Int) = 30) = true then 1 else 0)) := ev_intB (ev_eqI (ev_klen (ev_var rfl) ka7) ev_c)
    have hdue : EvX (tOp (ixA K) (tLst (tCons (tOp (addA K) (tVar 2) (tC (.int 1))) (tCons (tTup (tCons (tC (.str "many")) tNil)) tNil))) (tCB (intC K) (tCons (tOp (eqA K) (tCB (lenA K) (tCons (tMeth C.Keeper "book" (sp_Keeper_book K C) [] E0 (tVar 0) tNil) tNil)) (tC (.int 30))) tNil))) ([some (.ref p), some (.ref pm), some (.int g), some (.int l), o4, o5] : L2.St) H7
        (fun H v => OutV (outE (some (.clear "b" 0 0)) (shortF B).length g g) g H v) := by
      have mo : Mo (fun H v (o : Option String) => OutV o g H v) := fun e h => h.mono (ext_of e)
      refine ex_ixQ (F := fun H v (o : Option String) => OutV o g H v) (ys := [none, some "many"]) mo (ep_lst mo (eap_cons mo (ex_ev (ev_add (ev_var rfl) ev_c) fun _ _ => rfl) (eap_cons mo (ex_wordT many) eap_nil)) (by simp)) hlen7 (by split <;> decide) ?_
      rw [oc]
      by_cases h30 : ((shortF B).length : Int) = 30
      · rw [decide_eq_true h30, if_pos rfl, if_pos (by omega)]; rfl
      · rw [decide_eq_false h30, if_neg (by decide), if_neg (by omega)]; rfl
    refine q_asgX hdue fun v8 H8 e8 ho8 => ?_
    show tRet _ _ ([some (.ref p), some (.ref pm), some (.int g), some (.int l), o4, some v8] : L2.St) H8
    have ka8 := ka7.mono e8
    unfold tRet
    refine te_eq (g := g) (o := outE (some (.clear "b" 0 0)) (shortF B).length g g) (fun H' => ExT H8 H') (fun Q' hQ' => at_added (ev_var rfl) exc ka8 (by omega) (Int.le_refl g) (fun w hw u H9 e9 ho9 => ?_) fun e he ho H9 f9 ka9 => ?_) (fun H9 m9 => ex_ev (ev_var rfl) fun H10 e10 => ho8.mono (ExT.trans m9 (ext_of e10))) fun H9 H10 _ _ => kk H10
    · refine hQ' u H9 (ext_of e9) ?_
      rw [hw]
      exact ho9
    · refine hQ' _ H9 f9.tup ?_
      rw [ho]
      rfl
end S
end
set_option Elab.async false
set_option linter.all false
set_option maxRecDepth 100000
set_option maxHeartbeats 4000000
section
open PySem L2 Evl S
local macro_rules | `(tactic| array_get_dec) => `(tactic| first
  | exact ev_c
  | exact ev_var rfl
  | exact S.eo_no
  | exact ea_nil
  | (apply S.eo_some <;> array_get_dec)
  | (apply ea_cons <;> array_get_dec)
  | (apply S.ev_add <;> array_get_dec)
  | (apply S.ev_sub <;> array_get_dec)
  | (apply S.ev_div <;> first | array_get_dec | exact ⟨by decide, by decide⟩ | exact ⟨by omega, by omega⟩)
  | (apply S.ev_mod <;> first | array_get_dec | decide | omega)
  | (apply S.ev_mulr <;> first | array_get_dec | exact ⟨by decide, by decide⟩ | exact ⟨by omega, by omega⟩)
  | (apply S.ev_mull <;> first | array_get_dec | exact ⟨by decide, by decide⟩ | exact ⟨by omega, by omega⟩)
  | (apply S.ev_neg <;> array_get_dec)
  | (apply S.ev_min <;> array_get_dec)
  | (apply S.ev_max <;> array_get_dec)
  | (apply S.ev_eqI <;> array_get_dec)
  | (apply S.ev_eqS <;> array_get_dec)
  | (apply S.ev_neI <;> array_get_dec)
  | (apply S.ev_neS <;> array_get_dec)
  | (apply S.ev_lt <;> array_get_dec)
  | (apply S.ev_le <;> array_get_dec)
  | (apply S.ev_gt <;> array_get_dec)
  | (apply S.ev_ge <;> array_get_dec)
  | (apply S.ev_intB <;> array_get_dec)
  | (apply et_test <;> array_get_dec)
  | (apply et_B <;> array_get_dec)
  | (apply et_not <;> array_get_dec)
  | (refine' et_and ?_ (fun _ => ?_) <;> array_get_dec)
  | (refine' et_or ?_ (fun _ => ?_) <;> array_get_dec))
namespace S
/-- the script, that no deed touches -/
def Scr (K : PySem.W.Frag) (H : Hp) (Z : List Addr) (a : Addr) (xs : List V) : Prop := (∀ H', SqL K H' a xs) ∨ (Rd H a (.lst xs) ∧ a ∉ Z)
theorem Scr.sq {K : PySem.W.Frag} {H : Hp} {Z : List Addr} {a : Addr} {xs : List V} (h : Scr K H Z a xs) : SqL K H a xs := h.elim (fun h => h H) fun h => .inl h.1
theorem rd_frm {H H' : Hp} {Z : List Addr} {a : Addr} {u : HO} (h : Rd H a u) (f : Fr Z H H') (ha : a ∉ Z) : Rd H' a u := by
  rcases h with h | ⟨o, h⟩
  · exact .inl (f.keep a _ ha h)
  · exact .inr ⟨o, f.keep a _ ha h⟩
theorem rd_some {H : Hp} {a : Addr} {u : HO} (h : Rd H a u) : H a ≠ none := by
  rcases h with h | ⟨o, h⟩ <;> rw [h] <;> simp
theorem Scr.frm {K : PySem.W.Frag} {H H' : Hp} {Z : List Addr} {a : Addr} {xs : List V} (h : Scr K H Z a xs) (f : Fr Z H H') : Scr K H' Z a xs := h.imp id fun ⟨h1, h2⟩ => ⟨rd_frm h1 f h2, h2⟩
theorem Scr.more {K : PySem.W.Frag} {H : Hp} {Z : List Addr} {a d : Addr} {xs : List V} (h : Scr K H Z a xs) (hd : H d = none) : Scr K H (d :: Z) a xs := h.imp id fun ⟨h1, h2⟩ => ⟨h1, fun z => by
  rcases List.mem_cons.mp z with z | z
  · rw [z] at h1; exact rd_some h1 hd
  · exact h2 z⟩
theorem Scr.of {K : PySem.W.Frag} {H : Hp} {a : Addr} {xs : List V} (h : SqL K H a xs) : Scr K H [] a xs := by
  rcases h with h | h
  · exact .inr ⟨h, fun z => by cases z⟩
  · exact .inl fun _ => .inr h
def AskOk (l : Int) (H : Hp) (t : Addr) : Prop := ∃ n name low high, H t = some (.tup (askV n name low high)) ∧ l ≤ n ∧ low ≤ high ∧ 0 ≤ low ∧ high ≤ 1000000 ∧ high - low ≤ 900
theorem AskOk.frm {l : Int} {H H' : Hp} {t : Addr} {Z : List Addr} (h : AskOk l H t) (f : Fr Z H H') : AskOk l H' t := let ⟨n, name, low, high, h1, h2⟩ := h; ⟨n, name, low, high, f.tup _ _ h1, h2⟩
theorem AskOk.mono {l : Int} {H H' : Hp} {t : Addr} (h : AskOk l H t) (e : Ex H H') : AskOk l H' t := h.frm (Fr.of (Z := []) e)
/-- all that stands between two statements of the law's loop -/
structure KW (K : PySem.W.Frag) (C : CA) (H : Hp) (Z : List Addr) (a pn ks rb hl p0 p1 d0 d1 : Addr) (ns : List Int) (xs : List Str) (R B : Bk) (last floor : Int) (ps : List V) : Prop where
  sc : Scr K H Z a (ns.map V.int)
  hp : H pn = some (.lst (xs.map V.str))
  op : pn ∉ Z
  hk : H ks = some (.lst [.ref p0, .ref p1])
  ok : ks ∉ Z
  tw : Two K C H p0 p1 d0 d1 rb R B last floor
  hh : H hl = some (.lst ps)
  hd : ∀ v ∈ ps, Held Z H v
  z1 : ∀ z ∈ [p0, p1, d0, d1, rb, hl], z ∈ Z
  al : ∀ z ∈ Z, H z ≠ none
section
variable {K : PySem.W.Frag} {C : CA} {H H' : Hp} {Z : List Addr} {a pn ks rb hl p0 p1 d0 d1 : Addr} {ns : List Int} {xs : List Str} {R B R' B' : Bk} {last floor : Int} {ps ws : List V}
theorem Two.frm (h : Two K C H p0 p1 d0 d1 rb R B last floor) {Y : List Addr} (f : Fr Y H H') (h1 : p0 ∉ Y) (h2 : p1 ∉ Y) (h3 : d0 ∉ Y) (h4 : d1 ∉ Y) (h5 : rb ∉ Y) : Two K C H' p0 p1 d0 d1 rb R B last floor :=
  ⟨h.k0.frm f h1 h3, h.k1.frm f h2 h4, h.rw.frm f h5, h.ks, h.n1, h.n2, h.n3, h.n4⟩
theorem KW.ex (h : KW K C H Z a pn ks rb hl p0 p1 d0 d1 ns xs R B last floor ps) (e : Ex H H') : KW K C H' Z a pn ks rb hl p0 p1 d0 d1 ns xs R B last floor ps := by
  have no : ∀ x : Addr, x ∉ ([] : List Addr) := fun x z => by cases z
  exact ⟨h.sc.frm (Fr.of e), e pn _ h.hp, h.op, e ks _ h.hk, h.ok, h.tw.frm (Fr.of (Z := []) e) (no _) (no _) (no _) (no _) (no _), e hl _ h.hh, fun v hv => (h.hd v hv).frm (Fr.of e), h.z1, fun z hz => by
    cases e0 : H z with
    | none => exact absurd e0 (h.al z hz)
    | some o => rw [e z o e0]; simp⟩
theorem KW.apart (h : KW K C H Z a pn ks rb hl p0 p1 d0 d1 ns xs R B last floor ps) : p0 ≠ hl ∧ p1 ≠ hl ∧ d0 ≠ hl ∧ d1 ≠ hl ∧ rb ≠ hl := by
  have hh := h.hh
  obtain ⟨_, a1⟩ := h.tw.k0.ob
  obtain ⟨_, a2⟩ := h.tw.k1.ob
  obtain ⟨_, a3, _⟩ := h.tw.k0.dc
  obtain ⟨_, a4, _⟩ := h.tw.k1.dc
  obtain ⟨_, a5, _⟩ := h.tw.rw
  refine ⟨fun z => ?_, fun z => ?_, fun z => ?_, fun z => ?_, fun z => ?_⟩
  · rw [z, hh] at a1; cases a1
  · rw [z, hh] at a2; cases a2
  · rw [z, hh] at a3; cases a3
  · rw [z, hh] at a4; cases a4
  · rw [z, hh] at a5; cases a5
theorem KW.held (h : KW K C H Z a pn ks rb hl p0 p1 d0 d1 ns xs R B last floor ps) (f : Fr [hl] H H') (hw : H' hl = some (.lst (ps ++ ws))) (hp : ∀ v ∈ ws, HPair H H' v) : KW K C H' Z a pn ks rb hl p0 p1 d0 d1 ns xs R B last floor (ps ++ ws) := by
  obtain ⟨n1, n2, n3, n4, n5⟩ := h.apart
  have hz : hl ∈ Z := h.z1 hl (by simp)
  have F : Fr Z H H' := f.mono fun z hz' => by rw [List.mem_singleton.mp hz']; exact hz
  have o : ∀ {x : Addr}, x ≠ hl → x ∉ [hl] := fun hx z => hx (List.mem_singleton.mp z)
  refine ⟨h.sc.frm F, F.keep pn _ h.op h.hp, h.op, F.keep ks _ h.ok h.hk, h.ok, h.tw.frm f (o n1) (o n2) (o n3) (o n4) (o n5), hw, fun v hv => ?_, h.z1, fun z hz => ?_⟩
  · rcases List.mem_append.mp hv with hv | hv
    · exact (h.hd v hv).frm F
    · exact (hp v hv).held h.al
  · by_cases c : z = hl
    · rw [c, hw]; simp
    · cases e0 : H z with
      | none => exact absurd e0 (h.al z hz)
      | some u => rw [f.keep z u (o c) e0]; simp
theorem Two.live (h : Two K C H p0 p1 d0 d1 rb R B last floor) : ∀ z ∈ [p0, p1, d0, d1, rb], H z ≠ none := fun z hz => by
  obtain ⟨_, a1⟩ := h.k0.ob
  obtain ⟨_, a2⟩ := h.k1.ob
  obtain ⟨_, a3, _⟩ := h.k0.dc
  obtain ⟨_, a4, _⟩ := h.k1.dc
  obtain ⟨_, a5, _⟩ := h.rw
  simp only [List.mem_cons, List.not_mem_nil, or_false] at hz
  rcases hz with h | h | h | h | h
  · rw [h, a1]; simp
  · rw [h, a2]; simp
  · rw [h, a3]; simp
  · rw [h, a4]; simp
  · rw [h, a5]; simp
theorem KW.deed {last' : Int} (h : KW K C H Z a pn ks rb hl p0 p1 d0 d1 ns xs R B last floor ps) (f : Fr [p0, p1, d0, d1, rb] H H') (t : Two K C H' p0 p1 d0 d1 rb R' B' last' floor) : KW K C H' Z a pn ks rb hl p0 p1 d0 d1 ns xs R' B' last' floor ps := by
  obtain ⟨n1, n2, n3, n4, n5⟩ := h.apart
  have F : Fr Z H H' := f.mono fun z hz => h.z1 z (by simp only [List.mem_cons, List.not_mem_nil, or_false] at hz ⊢; rcases hz with h | h | h | h | h <;> simp [h])
  have ho : hl ∉ [p0, p1, d0, d1, rb] := fun z => by
    simp only [List.mem_cons, List.not_mem_nil, or_false] at z
    rcases z with z | z | z | z | z
    · exact n1 z.symm
    · exact n2 z.symm
    · exact n3 z.symm
    · exact n4 z.symm
    · exact n5 z.symm
  refine ⟨h.sc.frm F, F.keep pn _ h.op h.hp, h.op, F.keep ks _ h.ok h.hk, h.ok, t, f.keep hl _ ho h.hh, fun v hv => (h.hd v hv).frm F, h.z1, fun z hz => ?_⟩
  by_cases c : z ∈ [p0, p1, d0, d1, rb]
  · exact t.live z c
  · cases e0 : H z with
    | none => exact absurd e0 (h.al z hz)
    | some u => rw [f.keep z u c e0]; simp
theorem KW.short {d' : Addr} (h : KW K C H Z a pn ks rb hl p0 p1 d0 d1 ns xs R B last floor ps) (f : Fr [p1] H H') (hd : H d' = none) (k : KeepAt K C H' p1 d' (shortF B) last last) : KW K C H' (d' :: Z) a pn ks rb hl p0 p1 d0 d' ns xs R (shortF B) last last ps := by
  have hlive : ∀ {x : Addr} {o : HO}, H x = some o → x ≠ d' := fun {x o} hx z => by rw [z, hd] at hx; cases hx
  have F : Fr Z H H' := f.mono fun z hz => by rw [List.mem_singleton.mp hz]; exact h.z1 p1 (by simp)
  obtain ⟨n1, n2, n3, n4, n5⟩ := h.apart
  obtain ⟨dx1, a2⟩ := h.tw.k1.ob
  obtain ⟨kv0, a3, _⟩ := h.tw.k0.dc
  obtain ⟨kvr, a5, _⟩ := h.tw.rw
  have o : ∀ {x : Addr}, x ≠ p1 → x ∉ [p1] := fun hx z => hx (List.mem_singleton.mp z)
  have q3 : d0 ≠ p1 := fun z => by rw [z, a2] at a3; cases a3
  have q5 : rb ≠ p1 := fun z => by rw [z, a2] at a5; cases a5
  have tw : Two K C H' p0 p1 d0 d' rb R (shortF B) last last := ⟨h.tw.k0.frm f (o h.tw.n1) (o q3), k, h.tw.rw.frm f (o q5), h.tw.ks.short, h.tw.n1, hlive a3, h.tw.n3, hlive a5⟩
  have cons : ∀ {x : Addr} {o : HO}, H x = some o → x ∉ Z → x ∉ d' :: Z := fun {x o} hx hz z => by
    rcases List.mem_cons.mp z with z | z
    · exact hlive hx z
    · exact hz z
  have sc' : Scr K H' (d' :: Z) a (ns.map V.int) := by
    have := h.sc.more hd
    exact this.frm (F.mono fun z hz => List.mem_cons_of_mem _ hz)
  refine ⟨sc', F.keep pn _ h.op h.hp, cons h.hp h.op, F.keep ks _ h.ok h.hk, cons h.hk h.ok, tw, f.keep hl _ (o n2.symm) h.hh, fun v hv => ((h.hd v hv).more hd).frm (F.mono fun z hz => List.mem_cons_of_mem _ hz), fun z hz => ?_, fun z hz => ?_⟩
  · simp only [List.mem_cons, List.not_mem_nil, or_false] at hz
    rcases hz with e | e | e | e | e | e
    · exact List.mem_cons_of_mem _ (h.z1 z (by rw [e]; simp))
    · exact List.mem_cons_of_mem _ (h.z1 z (by rw [e]; simp))
    · exact List.mem_cons_of_mem _ (h.z1 z (by rw [e]; simp))
    · rw [e]; exact List.mem_cons_self
    · exact List.mem_cons_of_mem _ (h.z1 z (by rw [e]; simp))
    · exact List.mem_cons_of_mem _ (h.z1 z (by rw [e]; simp))
  · rcases List.mem_cons.mp hz with e | hz
    · obtain ⟨kv, g, _⟩ := k.dc
      rw [e, g]; simp
    · by_cases c : z = p1
      · obtain ⟨dx, g⟩ := k.ob
        rw [c, g]; simp
      · cases e0 : H z with
        | none => exact absurd e0 (h.al z hz)
        | some u => rw [f.keep z u (o c) e0]; simp
end
section
variable {K : PySem.W.Frag} {C : CA} {σ : L2.St} {H H' : Hp} {t : TT} {ta tb tc td te tf : TE} {D : Ends} {tA tu tz : TS} {Z : List Addr} {a pn ks rb hl p0 p1 d0 d1 : Addr} {ns : List Int} {xs : List Str} {R B R' B' : Bk} {last floor : Int} {ps ws : List V} {Q : VK}
/-- a list of askings -/
def AsksX (hl : Addr) (l : Int) : Hp → V → Prop := fun H v => ∃ (as : Addr) (ts : List Addr), v = .ref as ∧ H as = some (.lst (ts.map V.ref)) ∧ ts.length ≤ 2 ∧ as ≠ hl ∧ ∀ t ∈ ts, AskOk l H t
theorem at_all {turn : Int} (h : KW K C H Z a pn ks rb hl p0 p1 d0 d1 ns xs R B last floor ps) (ha : Ev ta σ H (.ref ks)) (hb : Ev tb σ H (.ref rb)) (hc : EvX tc σ H (AsksX hl floor)) (hd : Ev td σ H (.ref hl)) (he : Ev te σ H (.int turn)) (hps : ps.length ≤ 40000) (hR : R.length ≤ 60) (q : ∀ H1 ws, KW K C H1 Z a pn ks rb hl p0 p1 d0 d1 ns xs R B last floor (ps ++ ws) → ws.length ≤ 4 → Fr [hl] H H1 → Q (.bl true) H1) :
    tCall (sp_l_all_right K C) [] E0 (tCons ta (tCons tb (tCons tc (tCons td (tCons te tNil))))) σ H Q := by
  unfold tCall
  refine ha H (Ex.refl H) _ fun H1 e1 => hb H1 e1 _ fun H2 e2 => hc H2 (e1.trans e2) _ fun v H3 e3 ⟨as, ts, ev, h1, h2, h3, h4⟩ => ?_
  subst ev
  have E3 := (e1.trans e2).trans e3
  refine (ea_cons hd (ea_cons he ea_nil)) H3 E3 _ fun H4 e4 => ?_
  have E4 := E3.trans e4
  have h' := h.ex E4
  obtain ⟨n1, n2, n3, n4, n5⟩ := h'.apart
  refine ⟨ks, rb, as, hl, [p0, p1], ts, R, last, floor, turn, ps, rfl, h'.hk, e4 as _ h1, h'.hh, fun z => ?_, h3, n5, fun p hp => ?_, h'.tw.rw, h'.tw.k0.nd, hR, fun t ht => (h4 t ht).mono e4, Nat.le_refl 2, h2, hps, fun H5 ws f5 h5 hwl hwp => q H5 ws (h'.held f5 h5 hwp) hwl ((Fr.of E4).trans f5)⟩
  · have := h'.ok
    rw [z] at this
    exact this (h'.z1 hl (by simp))
  · simp only [List.mem_cons, List.not_mem_nil, or_false] at hp
    rcases hp with rfl | rfl
    · exact ⟨d0, R, 0, h'.tw.k0, h'.tw.ks.fl.1, fun n _ name day => rfl⟩
    · exact ⟨d1, B, floor, h'.tw.k1, Int.le_refl _, fun n hn name day => h'.tw.ks.worth hn name day⟩
theorem at_why {p t : Addr} (h : KW K C H Z a pn ks rb hl p0 p1 d0 d1 ns xs R B last floor ps) (ha : Ev ta σ H (.ref p)) (hp : p = p0 ∨ p = p1) (hb : Ev tb σ H (.ref t)) (ht : AskOk floor H t) (hc : Ev tc σ H (.ref hl)) (hps : ps.length ≤ 40000) (q : ∀ H1 ws, KW K C H1 Z a pn ks rb hl p0 p1 d0 d1 ns xs R B last floor (ps ++ ws) → ws.length ≤ 4 → Fr [hl] H H1 → Q (.bl true) H1) :
    tCall (sp_l_why K C) [] E0 (tCons ta (tCons tb (tCons tc tNil))) σ H Q := by
  unfold tCall
  refine (ea_cons ha (ea_cons hb (ea_cons hc ea_nil))) H (Ex.refl H) _ fun H1 e1 => ?_
  have h' := h.ex e1
  obtain ⟨n, name, low, high, g1, g2, g3, g4, g5, g6⟩ := ht.mono e1
  have k : ∃ d A l, KeepAt K C H1 p d A last l ∧ l ≤ floor := by
    rcases hp with rfl | rfl
    · exact ⟨d0, R, 0, h'.tw.k0, h'.tw.ks.fl.1⟩
    · exact ⟨d1, B, floor, h'.tw.k1, Int.le_refl _⟩
  obtain ⟨d, A, l, ka, hll⟩ := k
  exact ⟨p, d, t, hl, A, last, l, n, name, low, high, ps, rfl, ka, g1, h'.hh, by omega, g3, g4, g5, g6, by omega, fun H2 v1 v2 f2 h2 hp1 hp2 => q H2 [v1, v2] (h'.held f2 h2 fun v hv => by
    simp only [List.mem_cons, List.not_mem_nil, or_false] at hv
    rcases hv with rfl | rfl
    · exact hp1
    · exact hp2) (by simp) ((Fr.of e1).trans f2)⟩
theorem at_deed {cell : Int} (h : KW K C H Z a pn ks rb hl p0 p1 d0 d1 ns xs R B last floor ps) (ha : Ev ta σ H (.ref ks)) (hb : Ev tb σ H (.ref rb)) (hc : Ev tc σ H (.ref pn)) (hd : Ev td σ H (.int cell)) (he : Ev te σ H (.int floor)) (hg : GoodNames xs) (hR : R.length ≤ 20) (q : ∀ H1 R' B', KW K C H1 Z a pn ks rb hl p0 p1 d0 d1 ns xs R' B' (last + 1) floor ps → R'.length = R.length + 1 → Fr [p0, p1, d0, d1, rb] H H1 → Q (.bl true) H1) :
    tCall (sp_l_deed K C) [] E0 (tCons ta (tCons tb (tCons tc (tCons td (tCons te tNil))))) σ H Q := by
  unfold tCall
  refine (ea_cons ha (ea_cons hb (ea_cons hc (ea_cons hd (ea_cons he ea_nil))))) H (Ex.refl H) _ fun H1 e1 => ?_
  have h' := h.ex e1
  exact ⟨ks, rb, pn, p0, p1, d0, d1, xs, R, B, last, floor, cell, rfl, h'.hk, h'.tw, h'.hp, hg, hR, fun R' B' H2 f2 t2 hl => q H2 R' B' (h'.deed f2 t2) hl ((Fr.of e1).trans f2)⟩
theorem at_make {kc : KCls K C} (q : ∀ p d H1, H p = none → H d = none → Ex H H1 → KeepAt K C H1 p d [] 0 0 → Q (.ref p) H1) : tMake C.Keeper (sp_Keeper_init K C) [] E0 tNil σ H Q := by
  unfold tMake tNil
  intro x dx hx hdx hne
  refine ⟨x, dx, rfl, upd_same, kc, fun d H' hd f ka => ⟨rfl, ?_⟩⟩
  have hdn : H d = none := by
    by_cases c1 : d = x
    · rw [c1]; exact hx
    · by_cases c2 : d = dx
      · rw [c2]; exact hdx
      · rw [upd_ne c1, upd_ne c2] at hd; exact hd
  refine q x d H' hx hdn (fun b o hb => ?_) ka
  have n1 : b ≠ x := fun z => by rw [z, hx] at hb; cases hb
  have n2 : b ≠ dx := fun z => by rw [z, hdx] at hb; cases hb
  exact f.keep b o (fun z => n1 (List.mem_singleton.mp z)) (by rw [upd_ne n1, upd_ne n2]; exact hb)
theorem at_shortK (h : KW K C H Z a pn ks rb hl p0 p1 d0 d1 ns xs R B last floor ps) (ha : Ev ta σ H (.ref p1)) (q : ∀ (v : V) H1 d', KW K C H1 (d' :: Z) a pn ks rb hl p0 p1 d0 d' ns xs R (shortF B) last last ps → Fr [p1] H H1 → Q v H1) : tMeth C.Keeper "shorten" (sp_Keeper_shorten K C) [] E0 ta tNil σ H Q := by
  refine at_meth ha ea_nil h.tw.k1 m_short1 m_short2 m_short3 fun H1 e1 => ?_
  have h' := h.ex e1
  exact ⟨p1, d1, B, last, floor, rfl, h'.tw.k1, fun d' H2 hd f ka => q _ H2 d' (h'.short f hd ka) ((Fr.of e1).trans f)⟩
/-- (x,) + a tuple -/
theorem eu_catT {us : List V} {c : Addr} (ha : EvU ta σ H us) (hb : Ev tb σ H (.ref c)) (hc : H c = some (.tup ws)) (h1 : us ≠ []) (h2 : ws ≠ []) (hz : us.length + ws.length ≤ 1000) : EvU (tOp (addA K) ta tb) σ H (us ++ ws) := fun H1 e Q q => by
  unfold tOp
  refine ha H1 e _ fun p H2 hp e2 h2' => hb H2 (e.trans e2) _ fun H3 e3 => ?_
  refine .inr (.inr (.inr ⟨p, c, us, ws, rfl, rfl, st_of (e3 p _ h2'), st_of (((e.trans e2).trans e3) c _ hc), sz_of (by omega), fun z => absurd z h1, fun _ z => absurd z h2, fun _ _ r hr => ?_⟩))
  exact q r _ (fresh_back (e2.trans e3) hr) ((e2.trans e3).trans (Ex.new hr)) upd_same
/-- an if with a test that does something -/
theorem q_andNot {b : Bool} (P : Hp → Prop) (h1 : EvT t σ H b) (h2 : b = true → ∀ H1, Ex H H1 → ∀ Q : VK, (∀ H2, P H2 → Q (.bl true) H2) → te σ H1 Q) (hP : ∀ H2, P H2 → tz D σ H2) (h3 : b = false → ∀ H1, Ex H H1 → tz D σ H1) : tSeq (tIfS (tAnd t (tNot (tB te))) tu tNext) tz D σ H := by
  refine h1 H (Ex.refl H) _ fun H1 e1 => ?_
  cases b with
  | true =>
    show te σ H1 _
    exact h2 rfl H1 e1 _ fun H2 p => ⟨true, rfl, hP H2 p⟩
  | false => exact h3 rfl H1 e1
theorem q_not (P : Hp → Prop) (h2 : ∀ Q : VK, (∀ H2, P H2 → Q (.bl true) H2) → te σ H Q) (hP : ∀ H2, P H2 → tz D σ H2) : tSeq (tIfS (tNot (tB te)) tu tNext) tz D σ H := by
  show te σ H _
  exact h2 _ fun H2 p => ⟨true, rfl, hP H2 p⟩
/-- not a or not b: both done, one behind the other -/
theorem s_orNots {ta' tb' : TE} (P : Hp → Prop) (h1 : ∀ Q : VK, (∀ H2, P H2 → Q (.bl true) H2) → ta' σ H Q) (h2 : ∀ H1, P H1 → ∀ Q : VK, (∀ H2, D.nx σ H2 → Q (.bl true) H2) → tb' σ H1 Q) : tIfS (tOr (tNot (tB ta')) (tNot (tB tb'))) tu tNext D σ H := by
  show ta' σ H _
  refine h1 _ fun H2 p => ⟨true, rfl, ?_⟩
  show tb' σ H2 _
  exact h2 H2 p _ fun H3 p3 => ⟨true, rfl, p3⟩
/-- (test and not a) or not b -/
theorem q_andNotOr {b : Bool} {ta' tb' : TE} (P : Hp → Prop) (h0 : EvT t σ H b) (h1 : b = true → ∀ H1, Ex H H1 → ∀ Q : VK, (∀ H2, P H2 → Q (.bl true) H2) → ta' σ H1 Q) (h1' : b = false → ∀ H1, Ex H H1 → P H1) (h2 : ∀ H1, P H1 → ∀ Q : VK, (∀ H2, tz D σ H2 → Q (.bl true) H2) → tb' σ H1 Q) : tSeq (tIfS (tOr (tAnd t (tNot (tB ta'))) (tNot (tB tb'))) tu tNext) tz D σ H := by
  refine h0 H (Ex.refl H) _ fun H1 e1 => ?_
  cases b with
  | true =>
    show ta' σ H1 _
    refine h1 rfl H1 e1 _ fun H2 p => ⟨true, rfl, ?_⟩
    show tb' σ H2 _
    exact h2 H2 p _ fun H3 p3 => ⟨true, rfl, p3⟩
  | false =>
    show tb' σ H1 _
    exact h2 H1 (h1' rfl H1 e1) _ fun H3 p3 => ⟨true, rfl, p3⟩
end
end S
end
set_option Elab.async false
set_option linter.all false
set_option maxRecDepth 100000
set_option maxHeartbeats 4000000
section
open PySem L2 Evl S
local macro_rules | `(tactic| array_get_dec) => `(tactic| first
  | exact ev_c
  | exact ev_var rfl
  | exact S.eo_no
  | exact ea_nil
  | (apply S.eo_some <;> array_get_dec)
  | (apply ea_cons <;> array_get_dec)
  | (apply S.ev_add <;> array_get_dec)
  | (apply S.ev_sub <;> array_get_dec)
  | (apply S.ev_div <;> first | array_get_dec | exact ⟨by decide, by decide⟩ | exact ⟨by omega, by omega⟩)
  | (apply S.ev_mod <;> first | array_get_dec | decide | omega)
  | (apply S.ev_mulr <;> first | array_get_dec | exact ⟨by decide, by decide⟩ | exact ⟨by omega, by omega⟩)
  | (apply S.ev_mull <;> first | array_get_dec | exact ⟨by decide, by decide⟩ | exact ⟨by omega, by omega⟩)
  | (apply S.ev_neg <;> array_get_dec)
  | (apply S.ev_min <;> array_get_dec)
  | (apply S.ev_max <;> array_get_dec)
  | (apply S.ev_eqI <;> array_get_dec)
  | (apply S.ev_eqS <;> array_get_dec)
  | (apply S.ev_neI <;> array_get_dec)
  | (apply S.ev_neS <;> array_get_dec)
  | (apply S.ev_lt <;> array_get_dec)
  | (apply S.ev_le <;> array_get_dec)
  | (apply S.ev_gt <;> array_get_dec)
  | (apply S.ev_ge <;> array_get_dec)
  | (apply S.ev_intB <;> array_get_dec)
  | (apply et_test <;> array_get_dec)
  | (apply et_B <;> array_get_dec)
  | (apply et_not <;> array_get_dec)
  | (refine' et_and ?_ (fun _ => ?_) <;> array_get_dec)
  | (refine' et_or ?_ (fun _ => ?_) <;> array_get_dec))
namespace S
/-! ### what stands between two statements of the law's loop -/
structure K1 (K : PySem.W.Frag) (C : CA) (H : Hp) (Z : List Addr) (a pn pm p d : Addr) (ns : List Int) (xs : List Str) (B : Bk) (last floor : Int) (ms : List Int) : Prop where
  sc : Scr K H Z a (ns.map V.int)
  hp : H pn = some (.lst (xs.map V.str))
  op : pn ∉ Z
  ka : KeepAt K C H p d B last floor
  hm : H pm = some (.lst (ms.map V.int))
  zp : p ∈ Z
  zd : d ∈ Z
  zm : pm ∈ Z
  f0 : 0 ≤ floor
  f1 : floor ≤ last
section
variable {K : PySem.W.Frag} {C : CA} {H H' : Hp} {Z Y : List Addr} {a pn pm p d : Addr} {ns : List Int} {xs : List Str} {B : Bk} {last floor : Int} {ms : List Int}
theorem K1.nmp (h : K1 K C H Z a pn pm p d ns xs B last floor ms) : pm ≠ p := fun z => by
  obtain ⟨dx, g⟩ := h.ka.ob
  rw [← z, h.hm] at g; cases g
theorem K1.nmd (h : K1 K C H Z a pn pm p d ns xs B last floor ms) : pm ≠ d := fun z => by
  obtain ⟨kv, g, _⟩ := h.ka.dc
  rw [← z, h.hm] at g; cases g
theorem K1.frm (h : K1 K C H Z a pn pm p d ns xs B last floor ms) (f : Fr Y H H') (hY : ∀ y ∈ Y, y ∈ Z) (h1 : p ∉ Y) (h2 : d ∉ Y) (h3 : pm ∉ Y) : K1 K C H' Z a pn pm p d ns xs B last floor ms :=
  ⟨h.sc.frm (f.mono hY), f.keep pn _ (fun z => h.op (hY _ z)) h.hp, h.op, h.ka.frm f h1 h2, f.keep pm _ h3 h.hm, h.zp, h.zd, h.zm, h.f0, h.f1⟩
theorem K1.ex (h : K1 K C H Z a pn pm p d ns xs B last floor ms) (e : Ex H H') : K1 K C H' Z a pn pm p d ns xs B last floor ms :=
  h.frm (Y := []) (Fr.of e) (fun y z => by cases z) (fun z => by cases z) (fun z => by cases z) (fun z => by cases z)
theorem K1.more (h : K1 K C H Z a pn pm p d ns xs B last floor ms) {x : Addr} (hx : H x = none) : K1 K C H (x :: Z) a pn pm p d ns xs B last floor ms :=
  ⟨h.sc.more hx, h.hp, (fun z => by
    rcases List.mem_cons.mp z with z | z
    · exact ne_of_none h.hp hx z
    · exact h.op z), h.ka, h.hm, List.mem_cons_of_mem _ h.zp, List.mem_cons_of_mem _ h.zd, List.mem_cons_of_mem _ h.zm, h.f0, h.f1⟩
/-- the keeper went another way -/
theorem K1.kept (h : K1 K C H Z a pn pm p d ns xs B last floor ms) {d' : Addr} {B' : Bk} {g l : Int} (f : Fr [p, d] H H') (hd : d' ∈ Z) (ka : KeepAt K C H' p d' B' g l) (g0 : 0 ≤ l) (g1 : l ≤ g) : K1 K C H' Z a pn pm p d' ns xs B' g l ms := by
  have hY : ∀ y ∈ [p, d], y ∈ Z := fun y hy => by
    simp only [List.mem_cons, List.not_mem_nil, or_false] at hy
    rcases hy with rfl | rfl
    · exact h.zp
    · exact h.zd
  have npm : pm ∉ [p, d] := fun z => by
    simp only [List.mem_cons, List.not_mem_nil, or_false] at z
    exact z.elim h.nmp h.nmd
  exact ⟨h.sc.frm (f.mono hY), f.keep pn _ (fun z => h.op (hY _ z)) h.hp, h.op, ka, f.keep pm _ npm h.hm, h.zp, hd, h.zm, g0, g1⟩
end
def EntS (H : Hp) (v : V) (oe : Option Ent) : Prop := ∀ e, oe = some e → ∃ t, v = .ref t ∧ EntAt H t e
theorem EntS.tup {H H' : Hp} {v : V} {oe : Option Ent} (h : EntS H v oe) (x : ExT H H') : EntS H' v oe := fun e he => let ⟨t, h1, h2⟩ := h e he; ⟨t, h1, x _ _ h2⟩
theorem EntL.s {H : Hp} {v : V} {oe : Option Ent} (h : EntL H v oe) : EntS H v oe := fun e he => by
  subst he
  exact h.2
theorem bad_none : ¬ (some "bad" : Option String) = some "none" := by decide
theorem many_none : ¬ (some "many" : Option String) = some "none" := by decide
theorem iff_many {n : Int} (h : (if (30 : Int) ≤ n then some "many" else none) = some "none") : False := by
  split at h
  · exact many_none h
  · cases h
theorem outE_none {oe : Option Ent} {n g l : Int} (h : outE oe n g l = some "none") : ∃ j, oe = some (.undo j) := by
  cases oe with
  | none => exact (bad_none h).elim
  | some e =>
    cases e with
    | undo j => exact ⟨j, rfl⟩
    | tell nm lo hi w => exact (iff_many h).elim
    | like nm lo hi o => exact (iff_many h).elim
    | clear nm lo hi =>
      have h : (if badE (.clear nm lo hi) = true then some "bad" else if (30 : Int) ≤ n then some "many" else none) = some "none" := h
      split at h
      · exact (bad_none h).elim
      · exact (iff_many h).elim
section
variable {K : PySem.W.Frag} {C : CA} {σ : L2.St} {H H' : Hp} {t : TT} {ta tb tc td te tf : TE} {D : Ends} {tu tu' tz : TS} {p d : Addr} {B L : Bk} {g l n : Int} {v : V}
theorem q_asgCall {sp : Sp} {dvs vs : List V} {E : XK} {ta : TA} {i : Nat} (ha : EvA ta σ H vs) (h : ∀ H1, Ex H H1 → sp (vs ++ dvs) H1 (fun v H2 => tz D (σ.set i (some v)) H2) E) : tSeq (tAsg (tCall sp dvs E ta) (gName i)) tz D σ H := ha H (Ex.refl H) _ h
theorem s_asgCall {sp : Sp} {dvs vs : List V} {E : XK} {ta : TA} {i : Nat} (ha : EvA ta σ H vs) (h : ∀ H1, Ex H H1 → sp (vs ++ dvs) H1 (fun v H2 => D.nx (σ.set i (some v)) H2) E) : tAsg (tCall sp dvs E ta) (gName i) D σ H := ha H (Ex.refl H) _ h
theorem q_orRaw {tT : TT} {u : TT} (P : Hp → Prop) (h : ∀ Qb : Bool → Hp → Prop, (∀ H1, P H1 → Qb false H1) → tT σ H Qb) (hu : ∀ H1, P H1 → EvT u σ H1 false) (k : ∀ H1 H2, P H1 → Ex H1 H2 → tz D σ H2) : tSeq (tIfS (tOr tT u) tu tNext) tz D σ H := by
  unfold tSeq tIfS tOr
  refine h _ fun H1 p1 => ?_
  rw [if_neg (by decide)]
  exact hu H1 p1 H1 (Ex.refl H1) _ fun H2 e2 => by
    rw [if_neg (by decide)]
    exact k H1 H2 p1 e2
theorem q_ifMid {k : Bool} (M : L2.St → Hp → Prop) (ht : EvT t σ H k) (h1 : k = true → ∀ H1, Ex H H1 → (∀ σ' H', M σ' H' → tz D σ' H') → tu { D with nx := tz D } σ H1) (h2 : k = false → ∀ H1, Ex H H1 → M σ H1) (r : ∀ σ' H', M σ' H' → tz D σ' H') : tSeq (tIfS t tu tNext) tz D σ H :=
  s_when (D := { D with nx := tz D }) ht (fun hb H1 e => h1 hb H1 e r) fun hb H1 e => r _ _ (h2 hb H1 e)
theorem ev_isWord {o : Option String} (ha : Ev ta σ H v) (h : OutV o g H v) : Ev (tOp (eqA K) ta (tTup (tCons (tC (.str "none")) tNil))) σ H (.bl (decide (o = some "none"))) := fun H1 e Q q => by
  unfold tOp
  refine ha H1 e _ fun H2 e2 => (ex_wordT (g := g) (w := "none") (by decide)) H2 (e.trans e2) _ fun u H3 e3 hu => ?_
  have h3 := h.mono (ext_of ((e.trans e2).trans e3))
  refine .inr (.inl ⟨outD o g, outD (some "none") g, h3.dp, hu.dp, h3.sh, hu.sh, ?_⟩)
  have he : PyData.eqv (outD o g) (outD (some "none") g) = decide (o = some "none") := by
    cases o with
    | none => rfl
    | some w =>
      show PyData.eqv (.tuple [.str w]) (.tuple [.str "none"]) = _
      rw [eqv_words w h3.1 "none" (by decide)]
      by_cases c : w = "none"
      · rw [decide_eq_true c, c]; rfl
      · rw [decide_eq_false c, decide_eq_false fun z => c (Option.some.inj z)]
  rw [he]
  exact q H3 (e2.trans e3)
theorem ev_isTup {o : Option String} (ha : Ev ta σ H v) (h : OutV o g H v) : Ev (tCB (rIsi K) (tCons ta (tCons (tC (.ty "tuple")) tNil))) σ H (.bl o.isSome) := by
  cases o with
  | none =>
    have h : v = .int (g + 1) := h
    subst h
    exact ev_isi ha (fun H1 e => .base (.int _)) (by decide +kernel)
  | some w =>
    obtain ⟨hw, q, rfl, hq⟩ := h
    exact ev_isi ha (fun H1 e => .base (.tup (e q _ hq))) kit_tt
theorem ev_neBkX {c : Addr} (ha : EvX ta σ H (BookX B)) (hb : Ev tb σ H (.ref c)) (hc : BookAt H c B) (ho : ∀ p ∈ B, p.2.ok p.1) : Ev (tOp (neA K) ta tb) σ H (.bl false) := fun H1 e Q q => by
  unfold tOp
  refine ha H1 e _ fun v H2 e2 ⟨p, ev, hp⟩ => ?_
  subst ev
  refine hb H2 (e.trans e2) _ fun H3 e3 => ?_
  obtain ⟨ks, f1, f2⟩ := (hp.mono e3).ex
  obtain ⟨ls, g1, g2⟩ := (hc.mono ((e.trans e2).trans e3)).ex
  refine .inr (.inr ⟨p, c, ks, ls, _, _, rfl, rfl, f1, g1, f2.dk, g2.dk, ok_dat ho, ok_dat ho, ?_⟩)
  rw [dkEqv_self hc.nd ho]
  exact q H3 (e2.trans e3)
theorem ev_neTupX {ws : List V} {ds : List PyData} (ha : EvX ta σ H fun H v => ∃ q, v = .ref q ∧ H q = some (.tup ws)) (hb : EvU tb σ H ws) (hd : ∀ H, DpAll K H ws ds) (hs : SeqAt.shaped (.tuple ds) = true) : Ev (tOp (neA K) ta tb) σ H (.bl false) := fun H1 e Q q => by
  unfold tOp
  refine ha H1 e _ fun v H2 e2 ⟨r, ev, hr⟩ => hb H2 (e.trans e2) _ fun p H3 hp e3 h3 => ?_
  subst ev
  refine .inr (.inl ⟨.tuple ds, .tuple ds, .tup (st_of (e3 r _ hr)) (hd H3), .tup (st_of h3) (hd H3), hs, hs, ?_⟩)
  rw [SeqAt.eqv_refl _ (shaped_of hs).1]
  exact q H3 (e2.trans e3)
theorem ex_gone0 {way : Int} (ha : Ev ta σ H (.ref p)) (hb : Ev tb σ H (.int n)) (hc : Ev tc σ H (.int way)) (ka : KeepAt K C H p d B g l) (hn : l ≤ n) : EvX (tCall (sp_l_gone K C) [] E0 (tCons ta (tCons tb (tCons tc tNil)))) σ H fun H v => ∃ q, v = .ref q ∧ H q = some (.tup []) := fun H1 e Q q => by
  unfold tCall
  exact (ea_cons ha (ea_cons hb (ea_cons hc ea_nil))) H1 e _ fun H2 e2 => ⟨p, d, B, g, l, n, way, rfl, ka.mono (e.trans e2), fun _ r H3 e3 h3 => q _ H3 (e2.trans e3) ⟨r, rfl, h3⟩, fun z => by omega⟩
theorem ex_gone1 {way : Int} (ha : Ev ta σ H (.ref p)) (hb : Ev tb σ H (.int n)) (hc : Ev tc σ H (.int way)) (ka : KeepAt K C H p d B g l) (hn : n < l) : EvX (tCall (sp_l_gone K C) [] E0 (tCons ta (tCons tb (tCons tc tNil)))) σ H fun H v => ∃ q, v = .ref q ∧ H q = some (.tup [.str "gone"]) := fun H1 e Q q => by
  unfold tCall
  exact (ea_cons ha (ea_cons hb (ea_cons hc ea_nil))) H1 e _ fun H2 e2 => ⟨p, d, B, g, l, n, way, rfl, ka.mono (e.trans e2), fun z => by omega, fun _ r H3 e3 h3 => q _ H3 (e2.trans e3) ⟨r, rfl, h3⟩⟩
theorem s_clear {b : Addr} {kvs : List (Key × V)} (ha : Ev ta σ H (.ref b)) (h : H b = some (.dK kvs)) (k : ∀ H1, Ex H H1 → tz D σ (upd H1 b (.dK []))) : tSeq (tDrop (tBM0 K "dict" rDClear ta)) tz D σ H := by
  unfold tSeq tDrop tBM0
  exact ha H (Ex.refl H) _ fun H1 e1 => ⟨.inr (.inr (.inl ⟨rfl, .inl ⟨kvs, e1 b _ h⟩⟩)), b, kvs, rfl, rfl, e1 b _ h, k H1 e1⟩
end
end S
end
set_option Elab.async false
set_option linter.all false
set_option maxRecDepth 100000
set_option maxHeartbeats 4000000
section
open PySem L2 Evl S
local macro_rules | `(tactic| array_get_dec) => `(tactic| first
  | exact ev_c
  | exact ev_var rfl
  | exact S.eo_no
  | exact ea_nil
  | (apply S.eo_some <;> array_get_dec)
  | (apply ea_cons <;> array_get_dec)
  | (apply S.ev_add <;> array_get_dec)
  | (apply S.ev_sub <;> array_get_dec)
  | (apply S.ev_div <;> first | array_get_dec | exact ⟨by decide, by decide⟩ | exact ⟨by omega, by omega⟩)
  | (apply S.ev_mod <;> first | array_get_dec | decide | omega)
  | (apply S.ev_mulr <;> first | array_get_dec | exact ⟨by decide, by decide⟩ | exact ⟨by omega, by omega⟩)
  | (apply S.ev_mull <;> first | array_get_dec | exact ⟨by decide, by decide⟩ | exact ⟨by omega, by omega⟩)
  | (apply S.ev_neg <;> array_get_dec)
  | (apply S.ev_min <;> array_get_dec)
  | (apply S.ev_max <;> array_get_dec)
  | (apply S.ev_eqI <;> array_get_dec)
  | (apply S.ev_eqS <;> array_get_dec)
  | (apply S.ev_neI <;> array_get_dec)
  | (apply S.ev_neS <;> array_get_dec)
  | (apply S.ev_lt <;> array_get_dec)
  | (apply S.ev_le <;> array_get_dec)
  | (apply S.ev_gt <;> array_get_dec)
  | (apply S.ev_ge <;> array_get_dec)
  | (apply S.ev_intB <;> array_get_dec)
  | (apply et_test <;> array_get_dec)
  | (apply et_B <;> array_get_dec)
  | (apply et_not <;> array_get_dec)
  | (refine' et_and ?_ (fun _ => ?_) <;> array_get_dec)
  | (refine' et_or ?_ (fun _ => ?_) <;> array_get_dec))
namespace S
def sp_law_k11 (K : PySem.W.Frag) (C : CA) : Sp := fun vs H Q _ => ∃ (a : Addr) (ns : List Int), vs = [.ref a] ∧ SqL K H a (ns.map V.int) ∧ ns.length ≤ 63 ∧ ∀ H', Q (.bl true) H'
theorem len_law_k11 {K : PySem.W.Frag} {C : CA} {vs : List V} {H : Hp} {Q : VK} {E : XK} (h : sp_law_k11 K C vs H Q E) : vs.length = 1 := by
  obtain ⟨a, ns, rfl, _⟩ := h
  rfl
/-- _law_script 0, _law_names_here 1, _law_keeper 2, _law_given 3, _law_floor 4, _law_missing 5, _law_k 6, _law_cell 7, _law_entry_here 8, _law_told 9, _law_rows 10, _law_due_here 11, _law_left 12, _law_way 13, _law_early 14 -/
def t_law_k11 (K : PySem.W.Frag) (C : CA) : TS :=
 (tSeq (tAsg (tCall (sp_l_names K C) [] E0 (tCons (tCall (sp_l_of K C) [] E0 (tCons (tVar 0) (tCons (tC (.int 1)) tNil))) (tCons (tC (.int 3)) tNil))) (gName 1))
 (tSeq (tAsg (tMake C.Keeper (sp_Keeper_init K C) [] E0 tNil) (gName 2))
 (tSeq (tAsg (tC (.int 0)) (gName 3))
 (tSeq (tIfS (tTest (tOp (eqA K) (tOp (modI) (tCall (sp_l_of K C) [] E0 (tCons (tVar 0) (tCons (tC (.int 2)) tNil))) (tC (.int 9))) (tC (.int 1)))) (tAsg (tCall (sp_l_full K C) [] E0 (tCons (tVar 2) (tCons (tOp (addA K) (tC (.int 26)) (tOp (modI) (tOp (divI) (tCall (sp_l_of K C) [] E0 (tCons (tVar 0) (tCons (tC (.int 2)) tNil))) (tC (.int 9))) (tC (.int 5)))) tNil))) (gName 3)) tNext)
 (tSeq (tAsg (tC (.int 0)) (gName 4))
 (tSeq (tAsg (tLst tNil) (gName 5))
 (tSeq (tFor (iRng1 (tCons (tCB rMin2 (tCons (tOp (subI) (tC (.int 14)) (tOp (mulI) (tC (.int 8)) (tCB (intC K) (tCons (tOp (gtI) (tVar 3) (tC (.int 0))) tNil)))) (tCons (tOp (subI) (tCB (lenA K) (tCons (tVar 0) tNil)) (tC (.int 4))) tNil))) tNil)) (gName 6)
  (tSeq (tAsg (tOp (ixA K) (tVar 0) (tOp (addA K) (tC (.int 4)) (tVar 6))) (gName 7))
 (tSeq (tAsg (tCall (sp_l_entry K C) [] E0 (tCons (tVar 1) (tCons (tC (.int 3)) (tCons (tOp (addA K) (tVar 7) (tVar 6)) (tCons (tOp (addA K) (tVar 3) (tC (.int 1))) tNil))))) (gName 8))
 (tSeq (tIfS (tTest (tOp (eqA K) (tOp (modI) (tOp (divI) (tVar 7) (tC (.int 7))) (tC (.int 4))) (tC (.int 1)))) (tAsg (tCall (sp_l_odd K C) [] E0 (tCons (tOp (divI) (tVar 7) (tC (.int 28))) (tCons (tVar 6) (tCons (tVar 3) (tCons (tVar 4) tNil))))) (gName 8)) tNext)
 (tSeq (tAsg (tMeth C.Keeper "book" (sp_Keeper_book K C) [] E0 (tVar 2) tNil) (gName 9))
 (tSeq (tAsg (tCB (dictC K) (tCons (tVar 9) tNil)) (gName 10))
 (tSeq (tAsg (tCall (sp_l_due K C) [] E0 (tCons (tVar 8) (tCons (tVar 10) (tCons (tVar 3) (tCons (tVar 4) tNil))))) (gName 11))
 (tSeq (tIfS (tOr (tTest (tOp (neA K) (tCall (sp_l_added K C) [] E0 (tCons (tVar 2) (tCons (tVar 8) tNil))) (tVar 11))) (tNot (tB (tCB (rIsi K) (tCons (tVar 9) (tCons (tC (.ty "dict")) tNil)))))) (tRet (tC (.bl false))) tNext)
 (tSeq (tDrop (tBM0 K "dict" rDClear (tVar 9)))
 (tSeq (tIfS (tTest (tOp (eqA K) (tVar 11) (tTup (tCons (tC (.str "none")) tNil)))) (tDrop (tBM K "list" rAppend (tVar 5) (tCons (tOp (ixA K) (tVar 8) (tC (.int 1))) tNil))) tNext)
 (tSeq (tIfS (tNot (tB (tCB (rIsi K) (tCons (tVar 11) (tCons (tC (.ty "tuple")) tNil))))) (tSeq (tAsg (tOp (addA K) (tVar 3) (tC (.int 1))) (gName 3))
 (tAsg (tVar 8) (gSub (tVar 10) (tVar 3) setA))) tNext)
 (tSeq (tIfS (tOr (tTest (tOp (neA K) (tMeth C.Keeper "book" (sp_Keeper_book K C) [] E0 (tVar 2) tNil) (tVar 10))) (tOr (tTest (tOp (neA K) (tMeth C.Keeper "last" (sp_Keeper_last K C) [] E0 (tVar 2) tNil) (tVar 3))) (tTest (tOp (neA K) (tMeth C.Keeper "floor" (sp_Keeper_floor K C) [] E0 (tVar 2) tNil) (tVar 4))))) (tRet (tC (.bl false))) tNext)
 (tSeq (tIfS (tTest (tOp (eqA K) (tOp (modI) (tOp (divI) (tVar 7) (tC (.int 140))) (tC (.int 5))) (tC (.int 1)))) (tSeq (tAsg (tMeth C.Keeper "shorten" (sp_Keeper_shorten K C) [] E0 (tVar 2) tNil) (gName 12))
 (tSeq (tAsg (tVar 3) (gName 4))
 (tIfS (tOr (tNot (tB (tCall (sp_l_whole K C) [] E0 (tCons (tVar 12) tNil)))) (tTest (tOp (neA K) (tVar 12) (tOp (subI) (tCB (lenA K) (tCons (tVar 10) tNil)) (tCB (lenA K) (tCons (tMeth C.Keeper "book" (sp_Keeper_book K C) [] E0 (tVar 2) tNil) tNil)))))) (tRet (tC (.bl false))) tNext))) tNext)
 (tFor (iRng1 (tCons (tC (.int 3)) tNil)) (gName 13)
  (tSeq (tAsg (tOp (ixA K) (tLst (tCons (tOp (subI) (tVar 4) (tC (.int 1))) (tCons (tC (.int 0)) tNil))) (tOp (modI) (tVar 6) (tC (.int 2)))) (gName 14))
 (tIfS (tOr (tTest (tOp (neA K) (tCall (sp_l_gone K C) [] E0 (tCons (tVar 2) (tCons (tVar 4) (tCons (tVar 13) tNil)))) (tTup tNil))) (tAnd (tTest (tOp (gtI) (tVar 4) (tC (.int 0)))) (tTest (tOp (neA K) (tCall (sp_l_gone K C) [] E0 (tCons (tVar 2) (tCons (tVar 14) (tCons (tVar 13) tNil)))) (tTup (tCons (tC (.str "gone")) tNil)))))) (tRet (tC (.bl false))) tNext))))))))))))))))
 (tSeq (tIfS (tOr (tTest (tOp (neA K) (tMeth C.Keeper "floor" (sp_Keeper_floor K C) [] E0 (tVar 2) tNil) (tVar 4))) (tTest (tOp (neA K) (tMeth C.Keeper "last" (sp_Keeper_last K C) [] E0 (tVar 2) tNil) (tVar 3)))) (tRet (tC (.bl false))) tNext)
 (tRet (tCall (sp_l_taken_then K C) [] E0 (tCons (tVar 2) (tCons (tVar 5) (tCons (tVar 3) (tCons (tVar 4) tNil))))))))))))))
theorem pure_law_k11 {K : PySem.W.Frag} {C : CA} {vs : List V} {H : Hp} {Q : VK} {E : XK} (kc : KCls K C) (h : sp_law_k11 K C vs H Q E) : t_law_k11 K C { nx := fun _ H' => Q .non H', rt := Q } (startN 15 vs) H := by
  obtain ⟨a, ns, rfl, hS, hl63, kk⟩ := h
  have hl : ns.length ≤ 100 := by omega
  refine q_asgX (ex_names (ev_of (k := 1) (ev_var rfl) ev_c hS hl)) fun v1 H1 e1 ⟨pn, xs, ev1, hpn, hxl, hxn⟩ => ?_
  subst ev1
  have hg : GoodNames xs := ⟨hxl, hxn⟩
  show tSeq _ _ _ ([some (.ref a), some (.ref pn), none, none, none, none, none, none, none, none, none, none, none, none, none] : L2.St) H1
  refine q_asgRw (at_make (kc := kc) fun p d H2 hp2 hd2 e2 ka2 => ?_)
  show tSeq _ _ _ ([some (.ref a), some (.ref pn), some (.ref p), none, none, none, none, none, none, none, none, none, none, none, none] : L2.St) H2
  have sc2 : Scr K H2 [p, d] a (ns.map V.int) := (((Scr.of (ex_l e1 hS)).more hd2).more hp2).frm (Fr.of e2)
  have op2 : pn ∉ [p, d] := fun z => by
    simp only [List.mem_cons, List.not_mem_nil, or_false] at z
    rcases z with z | z
    · rw [z, hp2] at hpn; cases hpn
    · rw [z, hd2] at hpn; cases hpn
  have hpn2 := e2 pn _ hpn
  refine q_asg ev_c fun H3 e3 => ?_
  show tSeq _ _ _ ([some (.ref a), some (.ref pn), some (.ref p), some (.int 0), none, none, none, none, none, none, none, none, none, none, none] : L2.St) H3
  have ka3 := ka2.mono e3
  have sc3 := sc2.frm (Fr.of e3)
  have hpn3 := e3 pn _ hpn2
  have hm5 := mod_lt (ns.getD 2 0 / 9) (show (0 : Int) < 5 by decide)
  refine q_ifMid (fun σ' H' => ∃ B g, σ' = [some (.ref a), some (.ref pn), some (.ref p), some (.int g), none, none, none, none, none, none, none, none, none, none, none] ∧ Scr K H' [p, d] a (ns.map V.int) ∧ H' pn = some (.lst (xs.map V.str)) ∧ KeepAt K C H' p d B g 0 ∧ 0 ≤ g) (et_test (ev_eqI (ev_mod (ev_of (k := 2) (ev_var rfl) ev_c sc3.sq hl) ev_c (by decide)) ev_c)) (fun _ H4 e4 r => ?_) (fun _ H4 e4 => ⟨[], 0, rfl, sc3.frm (Fr.of e4), e4 pn _ hpn3, ka3.mono e4, Int.le_refl 0⟩) ?_
  · refine s_asgCall (ea_cons (ev_var (v := .ref p) rfl) (ea_cons (ev_add ev_c (ev_mod (ev_div (ev_of (k := 2) (ev_var rfl) ev_c (sc3.frm (Fr.of e4)).sq hl) ev_c ⟨by decide, by decide⟩) ev_c (by decide))) ea_nil)) fun H5 e5 => ?_
    refine ⟨p, d, _, rfl, ka3.mono (e4.trans e5), by omega, by omega, fun H6 B f6 ka6 => ?_⟩
    exact r _ _ ⟨B, _, rfl, (sc3.frm (Fr.of (e4.trans e5))).frm f6, f6.keep pn _ op2 ((e4.trans e5) pn _ hpn3), ka6, by omega⟩
  clear sc2 hpn2 ka2 sc3 hpn3 ka3 hpn
  rintro σ4 H4 ⟨B0, g0, rfl, sc4, hpn4, ka4, hg0⟩
  refine q_asg ev_c fun H5 e5 => ?_
  refine q_asgL (el_lst ea_nil (by simp)) fun pm H6 hpm e6 h6 => ?_
  have K0 : K1 K C H6 [pm, p, d] a pn pm p d ns xs B0 g0 0 [] := by
    have s5 := sc4.frm (Fr.of e5)
    exact ⟨(s5.more hpm).frm (Fr.of e6), (e5.trans e6) pn _ hpn4, (fun z => by
      rcases List.mem_cons.mp z with z | z
      · exact ne_of_none (e5 pn _ hpn4) hpm z
      · exact op2 z), ka4.mono (e5.trans e6), h6, by simp, by simp, by simp, Int.le_refl 0, hg0⟩
  clear sc4 hpn4 ka4 h6
  show tSeq _ _ _ ([some (.ref a), some (.ref pn), some (.ref p), some (.int g0), some (.int 0), some (.ref pm), none, none, none, none, none, none, none, none, none] : L2.St) H6
  have hsl : ((ns.map V.int).length : Int) = (ns.length : Int) := by rw [List.length_map]
  have hcount := ev_lenL (K := K) (ta := tVar 0) (H := H6) (σ := [some (.ref a), some (.ref pn), some (.ref p), some (.int g0), some (.int 0), some (.ref pm), none, none, none, none, none, none, none, none, none]) (ev_var rfl) K0.sc.sq
  rw [hsl] at hcount
  obtain ⟨cap, hcap, hc0, hc1⟩ : ∃ cap : Int, cap = 14 - 8 * (if decide (g0 > 0) = true then 1 else 0) ∧ 0 ≤ cap ∧ cap ≤ 14 := ⟨_, rfl, by split <;> omega, by split <;> omega⟩
  have hrng : EvA (tCons (tCB rMin2 (tCons (tOp (subI) (tC (.int 14)) (tOp (mulI) (tC (.int 8)) (tCB (intC K) (tCons (tOp (gtI) (tVar 3) (tC (.int 0))) tNil)))) (tCons (tOp (subI) (tCB (lenA K) (tCons (tVar 0) tNil)) (tC (.int 4))) tNil))) tNil) ([some (.ref a), some (.ref pn), some (.ref p), some (.int g0), some (.int 0), some (.ref pm), none, none, none, none, none, none, none, none, none] : L2.St) H6 [.int (if (ns.length : Int) - 4 < cap then (ns.length : Int) - 4 else cap)] := by
    rw [hcap]
    exact ea_cons (ev_min (ev_sub ev_c (ev_mull ev_c (ev_intB (ev_gt (ev_var rfl) ev_c)) ⟨by decide, by decide⟩)) (ev_sub hcount ev_c)) ea_nil
  refine q_forZ (n := if (ns.length : Int) - 4 < cap then (ns.length : Int) - 4 else cap) hrng (by split <;> constructor <;> omega)
    (fun i σ' H' => ∃ d B last floor ms Z o6 o7 o8 o9 o10 o11 o12 o13 o14, σ' = [some (.ref a), some (.ref pn), some (.ref p), some (.int last), some (.int floor), some (.ref pm), o6, o7, o8, o9, o10, o11, o12, o13, o14] ∧ K1 K C H' Z a pn pm p d ns xs B last floor ms ∧ ms.length ≤ i ∧ i ≤ 14)
    (fun H7 e7 => ⟨d, B0, g0, 0, [], _, none, none, none, none, none, none, none, none, none, rfl, K0.ex e7, by simp, by omega⟩) ?_ ?_
  · rintro i σ' H7 hi ⟨d, B, last, floor, ms, Z, o6, o7, o8, o9, o10, o11, o12, o13, o14, rfl, k7, hms, hi14⟩
    have hi13 : i < 14 := by split at hi <;> omega
    have hi4 : i + 4 < ns.length := by split at hi <;> omega
    have hf0 := k7.f0
    have hf1 := k7.f1
    show tSeq _ _ _ ([some (.ref a), some (.ref pn), some (.ref p), some (.int last), some (.int floor), some (.ref pm), some (.int (i : Int)), o7, o8, o9, o10, o11, o12, o13, o14] : L2.St) H7
    -- the cell
    refine q_asg (ev_ixL (ev_var rfl) (ev_add ev_c (ev_var rfl)) k7.sc.sq (map_getD ns (i := 4 + (i : Int)) (by omega) (by omega))) fun H8 e8 => ?_
    generalize ns.getD (4 + (i : Int)).toNat 0 = cell
    have k8 := k7.ex e8
    -- the entry
    refine q_asgRw (at_entryK (b := 3) (n := cell + (i : Int)) (k := last + 1) (ev_var rfl) ev_c (ev_add (ev_var rfl) (ev_var rfl)) (ev_add (ev_var rfl) ev_c) (sq_of k8.hp) hg (by decide) (by decide) (by omega) fun t e H9 ht e9 het hok => ?_)
    have k9 := k8.ex e9
    show tSeq _ _ _ ([some (.ref a), some (.ref pn), some (.ref p), some (.int last), some (.int floor), some (.ref pm), some (.int (i : Int)), some (.int cell), some (.ref t), o9, o10, o11, o12, o13, o14] : L2.St) H9
    refine q_ifMid (fun σ' H' => ∃ v8 oe, σ' = [some (.ref a), some (.ref pn), some (.ref p), some (.int last), some (.int floor), some (.ref pm), some (.int (i : Int)), some (.int cell), some v8, o9, o10, o11, o12, o13, o14] ∧ K1 K C H' Z a pn pm p d ns xs B last floor ms ∧ EntL H' v8 oe) (et_test (ev_eqI (ev_mod (ev_div (ev_var rfl) ev_c ⟨by decide, by decide⟩) ev_c (by decide)) ev_c)) (fun _ H10 e10 r => ?_) (fun _ H10 e10 => ⟨.ref t, some e, rfl, k9.ex e10, .inl ⟨_, hok⟩, t, rfl, het.mono e10⟩) ?_
    · refine s_asgCall (ea_cons (ev_div (ev_var rfl) ev_c ⟨by decide, by decide⟩) (ea_cons (ev_var (v := .int (i : Int)) rfl) (ea_cons (ev_var (v := .int last) rfl) (ea_cons (ev_var (v := .int floor) rfl) ea_nil)))) fun H11 e11 => ?_
      exact ⟨_, _, _, _, rfl, by omega, by omega, fun v oe H12 e12 hv => r _ _ ⟨v, oe, rfl, k9.ex ((e10.trans e11).trans e12), hv⟩⟩
    clear k7 k8 k9 het hok e8 e9
    rintro σ10 H10 ⟨v8, oe, rfl, k10, hv10⟩
    -- told, rows
    refine q_asgRw (at_kbook (ev_var rfl) k10.ka fun r9 H11 nb11 => ?_)
    have k11 := (k10.more nb11.new).ex nb11.ex
    have hv11 := EntL.mo nb11.ex hv10
    show tSeq _ _ _ ([some (.ref a), some (.ref pn), some (.ref p), some (.int last), some (.int floor), some (.ref pm), some (.int (i : Int)), some (.int cell), some v8, some (.ref r9), o10, o11, o12, o13, o14] : L2.St) H11
    refine q_asgRw (ed_book (ev_var rfl) nb11.at H11 (Ex.refl H11) _ fun r10 H12 nb12 => ?_)
    have k12 := (k11.more nb12.new).ex nb12.ex
    have hv12 := EntL.mo nb12.ex hv11
    have told12 : DictAt H12 r9 B := let ⟨kvs, g1, g2⟩ := nb11.dk; ⟨kvs, nb12.ex r9 _ g1, g2.mono nb12.ex⟩
    have rows12 : DictAt H12 r10 B := nb12.dk
    have n910 : r9 ≠ r10 := fun z => by
      obtain ⟨kvs, g1, _⟩ := nb11.dk
      rw [z, nb12.new] at g1; cases g1
    have nd9 : d ≠ r9 := fun z => by
      obtain ⟨kvs, g1, _⟩ := k10.ka.dc
      rw [z, nb11.new] at g1; cases g1
    have nd10 : d ≠ r10 := fun z => by
      obtain ⟨kvs, g1, _⟩ := k11.ka.dc
      rw [z, nb12.new] at g1; cases g1
    have np9 : p ≠ r9 := fun z => by
      obtain ⟨dx, g1⟩ := k12.ka.ob
      obtain ⟨kvs, g2, _⟩ := told12
      rw [z, g2] at g1; cases g1
    have np10 : p ≠ r10 := fun z => by
      obtain ⟨dx, g1⟩ := k12.ka.ob
      obtain ⟨kvs, g2, _⟩ := rows12
      rw [z, g2] at g1; cases g1
    have nm9 : pm ≠ r9 := fun z => by
      obtain ⟨kvs, g2, _⟩ := told12
      rw [← z, k12.hm] at g2; cases g2
    have nm10 : pm ≠ r10 := fun z => by
      obtain ⟨kvs, g2, _⟩ := rows12
      rw [← z, k12.hm] at g2; cases g2
    clear k10 k11 hv10 hv11 nb11
    show tSeq _ _ _ ([some (.ref a), some (.ref pn), some (.ref p), some (.int last), some (.int floor), some (.ref pm), some (.int (i : Int)), some (.int cell), some v8, some (.ref r9), some (.ref r10), o11, o12, o13, o14] : L2.St) H12
    -- what is due
    refine q_asgCall (ea_cons (ev_var (v := v8) rfl) (ea_cons (ev_var (v := .ref r10) rfl) (ea_cons (ev_var (v := .int last) rfl) (ea_cons (ev_var (v := .int floor) rfl) ea_nil)))) fun H13 e13 => ?_
    obtain ⟨kv10, hk10, hr10⟩ := rows12
    refine ⟨v8, oe, r10, kv10, last, floor, rfl, EntL.mo e13 hv12, e13 r10 _ hk10, fun v11 H14 e14 ho14 => ?_⟩
    rw [hr10.len] at ho14
    have E14 := e13.trans e14
    have k14 := k12.ex E14
    have hv14 := EntL.mo E14 hv12
    have told14 : DictAt H14 r9 B := told12.frm (Fr.of (Z := []) E14) (fun z => by cases z)
    have rows14 : DictAt H14 r10 B := DictAt.frm ⟨kv10, hk10, hr10⟩ (Fr.of (Z := []) E14) (fun z => by cases z)
    clear k12 hv12 told12 hk10 hr10 nb12
    show tSeq _ _ _ ([some (.ref a), some (.ref pn), some (.ref p), some (.int last), some (.int floor), some (.ref pm), some (.int (i : Int)), some (.int cell), some v8, some (.ref r9), some (.ref r10), some v11, o12, o13, o14] : L2.St) H14
    generalize ho : outE oe (B.length : Int) last floor = o at ho14
    -- it is added
    refine q_orRaw (fun H' => ∃ B' last', K1 K C H' (r10 :: r9 :: Z) a pn pm p d ns xs B' last' floor ms ∧ DictAt H' r9 B ∧ DictAt H' r10 B ∧ EntS H' v8 oe ∧ OutV o last H' v11 ∧ ((o = none ∧ last' = last + 1 ∧ ∃ e, oe = some e ∧ B' = B ++ [(last + 1, e)]) ∨ (∃ w, o = some w ∧ B' = B ∧ last' = last))) (fun Qb hQb => ?_) (fun H' ⟨B', last', g1, ⟨kvs, g2, _⟩, _⟩ => et_not (a := true) (et_B (ev_isi (ev_var rfl) (fun H'' e'' => .base (.dK (e'' r9 _ g2))) kit_dd))) (fun H15 H16 m15 e16 => ?_)
    · refine tt_ne (o := o) (g := last) (fun H' => ∃ B' last', K1 K C H' (r10 :: r9 :: Z) a pn pm p d ns xs B' last' floor ms ∧ DictAt H' r9 B ∧ DictAt H' r10 B ∧ EntS H' v8 oe ∧ OutV o last H' v11 ∧ ((o = none ∧ last' = last + 1 ∧ ∃ e, oe = some e ∧ B' = B ++ [(last + 1, e)]) ∨ (∃ w, o = some w ∧ B' = B ∧ last' = last)))
        (fun Q' hQ' => at_added (oe := oe) (ev_var rfl) (ex_ev (ev_var rfl) fun H1 e1 => EntL.mo e1 hv14) k14.ka hf0 hf1 (fun w hw u H15 e15 hu => ?_) fun e he hno H15 f15 ka15 => ?_) (fun H15 ⟨_, _, _, _, _, _, hov, _⟩ => ex_ev (ev_var rfl) fun H16 e16 => hov.mono (ext_of e16)) fun H15 H16 ⟨B', last', m1, m2, m3, m4, m5, m6⟩ e16 => hQb H16 ⟨B', last', m1.ex e16, m2.frm (Fr.of (Z := []) e16) (fun z => by cases z), m3.frm (Fr.of (Z := []) e16) (fun z => by cases z), m4.tup (ext_of e16), m5.mono (ext_of e16), m6⟩
      · rw [ho] at hw
        subst hw
        exact hQ' u H15 ⟨B, last, k14.ex e15, told14.frm (Fr.of (Z := []) e15) (fun z => by cases z), rows14.frm (Fr.of (Z := []) e15) (fun z => by cases z), (EntL.mo e15 hv14).s, ho14.mono (ext_of e15), .inr ⟨w, rfl, rfl, rfl⟩⟩ hu
      · rw [ho] at hno
        subst hno
        have o9 : r9 ∉ [p, d] := fun z => by
          simp only [List.mem_cons, List.not_mem_nil, or_false] at z
          exact z.elim (fun z => np9 z.symm) (fun z => nd9 z.symm)
        have o10 : r10 ∉ [p, d] := fun z => by
          simp only [List.mem_cons, List.not_mem_nil, or_false] at z
          exact z.elim (fun z => np10 z.symm) (fun z => nd10 z.symm)
        exact hQ' _ H15 ⟨_, _, k14.kept f15 k14.zd ka15 hf0 (by omega), told14.frm f15 o9, rows14.frm f15 o10, hv14.s.tup f15.tup, ho14.mono f15.tup, .inl ⟨rfl, rfl, e, he, rfl⟩⟩ rfl
    obtain ⟨B', last', m1, ⟨kv9, hk9, hr9⟩, m3, m4, m5, m6⟩ := m15
    have k16 := m1.ex e16
    have rows16 := m3.frm (Fr.of (Z := []) e16) (fun z => by cases z)
    have ent16 := m4.tup (ext_of e16)
    have due16 := m5.mono (ext_of e16)
    have hk16 := e16 r9 _ hk9
    clear k14 hv14 told14 rows14 m1 m3 m4 m5 ho14 hk9 hr9 E14 e13 e14
    show tSeq _ _ _ ([some (.ref a), some (.ref pn), some (.ref p), some (.int last), some (.int floor), some (.ref pm), some (.int (i : Int)), some (.int cell), some v8, some (.ref r9), some (.ref r10), some v11, o12, o13, o14] : L2.St) H16
    -- told.clear()
    refine s_clear (ev_var rfl) hk16 fun H17 e17 => ?_
    have f18 : Fr [r9] H16 (upd H17 r9 (.dK [])) := (Fr.of e17).trans (Fr.upd (e17 r9 _ hk16) fun _ z => by cases z)
    generalize upd H17 r9 (.dK []) = H18 at f18 ⊢
    have no9 : ∀ {x : Addr}, x ≠ r9 → x ∉ [r9] := fun h z => h (List.mem_singleton.mp z)
    have k18 := k16.frm f18 (fun y hy => by rw [List.mem_singleton.mp hy]; simp) (no9 np9) (no9 nd9) (no9 nm9)
    have rows18 := rows16.frm f18 (no9 fun z => n910 z.symm)
    have ent18 := ent16.tup f18.tup
    have due18 := due16.mono f18.tup
    clear k16 rows16 ent16 due16 hk16 e16 e17 f18
    -- one that is missing
    refine q_ifMid (fun σ' H' => ∃ ms', σ' = [some (.ref a), some (.ref pn), some (.ref p), some (.int last), some (.int floor), some (.ref pm), some (.int (i : Int)), some (.int cell), some v8, some (.ref r9), some (.ref r10), some v11, o12, o13, o14] ∧ K1 K C H' (r10 :: r9 :: Z) a pn pm p d ns xs B' last' floor ms' ∧ ms'.length ≤ i + 1 ∧ DictAt H' r10 B ∧ EntS H' v8 oe ∧ OutV o last H' v11) (et_test (ev_isWord (ev_var rfl) due18)) (fun c H19 e19 r => ?_) (fun _ H19 e19 => ⟨ms, rfl, k18.ex e19, by omega, rows18.frm (Fr.of (Z := []) e19) (fun z => by cases z), ent18.tup (ext_of e19), due18.mono (ext_of e19)⟩) ?_
    · have c := of_decide_eq_true c
      rw [c] at ho
      obtain ⟨j, hj⟩ := outE_none ho
      obtain ⟨t', hv, ht'⟩ := ent18 _ hj
      have k19 := k18.ex e19
      subst hv
      have ht19 := ht'.mono e19
      refine s_app k19.hm (ev_var rfl) (ev_ixT (i := 1) (v := .int j) (ev_var rfl) ev_c (st_of ht19) rfl) (by rw [List.length_map]; omega) fun H20 e20 => ?_
      have f21 : Fr [pm] H19 (upd H20 pm (.lst (ms.map V.int ++ [.int j]))) := (Fr.of e20).trans (Fr.upd (e20 pm _ k19.hm) fun _ z => by cases z)
      have hm21 : (upd H20 pm (.lst (ms.map V.int ++ [.int j]))) pm = some (.lst ((ms ++ [j]).map V.int)) := by rw [List.map_append]; exact upd_same
      generalize upd H20 pm (.lst (ms.map V.int ++ [.int j])) = H21 at f21 hm21 ⊢
      have nom : ∀ {x : Addr}, x ≠ pm → x ∉ [pm] := fun h z => h (List.mem_singleton.mp z)
      have F21 : Fr [pm] H18 H21 := (Fr.of e19).trans f21
      refine r _ _ ⟨ms ++ [j], rfl, ⟨k18.sc.frm (F21.mono fun y hy => by rw [List.mem_singleton.mp hy]; exact k18.zm), F21.keep pn _ (nom fun z => k18.op (by rw [z]; exact k18.zm)) k18.hp, k18.op, k18.ka.frm F21 (nom fun z => k18.nmp z.symm) (nom fun z => k18.nmd z.symm), hm21, k18.zp, k18.zd, k18.zm, hf0, k18.f1⟩, by rw [List.length_append]; simp; omega, rows18.frm F21 (nom fun z => nm10 z.symm), ent18.tup F21.tup, due18.mono F21.tup⟩
    clear k18 rows18 ent18 due18
    rintro σ19 H19 ⟨ms', rfl, k19, hms', rows19, ent19, due19⟩
    -- the number that is given
    refine q_mid (fun σ' H' => σ' = [some (.ref a), some (.ref pn), some (.ref p), some (.int last'), some (.int floor), some (.ref pm), some (.int (i : Int)), some (.int cell), some v8, some (.ref r9), some (.ref r10), some v11, o12, o13, o14] ∧ K1 K C H' (r10 :: r9 :: Z) a pn pm p d ns xs B' last' floor ms' ∧ DictAt H' r10 B') (fun nx hnx => ?_) ?_
    · refine s_when (et_not (et_B (ev_isTup (ev_var rfl) due19))) (fun c H20 e20 => ?_) (fun c H20 e20 => ?_)
      · rcases m6 with ⟨rfl, rfl, e, he, rfl⟩ | ⟨w, rfl, _, _⟩
        · obtain ⟨t', rfl, ht'⟩ := ent19 _ he
          refine q_asg (ev_add (ev_var rfl) ev_c) fun H21 e21 => ?_
          have E21 := e20.trans e21
          obtain ⟨kvr, hkr, hrr⟩ := rows19
          have hfew : B.length ≤ 30 := by
            have := k19.ka.few
            rw [List.length_append] at this
            simp at this
            omega
          show tAsg _ _ { nx := nx, rt := Q } ([some (.ref a), some (.ref pn), some (.ref p), some (.int (last + 1)), some (.int floor), some (.ref pm), some (.int (i : Int)), some (.int cell), some (.ref t'), some (.ref r9), some (.ref r10), some v11, o12, o13, o14] : L2.St) H21
          refine s_put (k := (Sum.inl (last + 1) : Key)) (ev_var rfl) (ev_var rfl) (ev_var rfl) (E21 r10 _ hkr) (by have := hrr.len; omega) fun H22 e22 => ?_
          have E22 := E21.trans e22
          have f23 : Fr [r10] H22 (upd H22 r10 (.dK (putK kvr (Sum.inl (last + 1) : Key) (.ref t')))) := Fr.upd (E22 r10 _ hkr) fun _ z => by cases z
          have F23 : Fr [r10] H19 (upd H22 r10 (.dK (putK kvr (Sum.inl (last + 1) : Key) (.ref t')))) := (Fr.of E22).trans f23
          have hnew : (last + 1) ∉ B.map (·.1) := fun z => by
            have hnd := k19.ka.nd
            rw [List.map_append, List.nodup_append] at hnd
            exact hnd.2.2 _ z (last + 1) (by simp) rfl
          have hput : B.put (last + 1) e = B ++ [(last + 1, e)] := by unfold Bk.put; rw [if_neg hnew]
          have hrow : DictAt (upd H22 r10 (.dK (putK kvr (Sum.inl (last + 1) : Key) (.ref t')))) r10 (B ++ [(last + 1, e)]) := ⟨_, upd_same, by
            rw [← hput]
            exact f23.rel ((hrr.mono E22).put (ht'.mono E22))⟩
          have no10 : ∀ {x : Addr}, x ≠ r10 → x ∉ [r10] := fun h z => h (List.mem_singleton.mp z)
          exact hnx _ _ ⟨rfl, k19.frm F23 (fun y hy => by rw [List.mem_singleton.mp hy]; simp) (no10 np10) (no10 nd10) (no10 nm10), hrow⟩
        · cases c
      · rcases m6 with ⟨rfl, _, _⟩ | ⟨w, rfl, rfl, rfl⟩
        · cases c
        · exact hnx _ _ ⟨rfl, k19.ex e20, rows19.frm (Fr.of (Z := []) e20) (fun z => by cases z)⟩
    clear k19 rows19 ent19 due19 m6
    rintro σ20 H20 ⟨rfl, k20, rows20⟩
    -- the book, the last number, the floor
    have bk20 : BookAt H20 r10 B' := let ⟨kvs, g1, g2⟩ := rows20; ⟨⟨kvs, .inl g1, g2⟩, k20.ka.nd, by have := k20.ka.few; omega⟩
    refine q_when (b := false) (et_or (a := false) (b := false) (et_test (ev_neBkX (bx_kbook (ev_var rfl) k20.ka) (ev_var rfl) bk20 fun q hq => (k20.ka.gd q hq).2)) fun _ => et_or (a := false) (b := false) (by
      have := et_test (ev_neI (K := K) (ev_klast (K := K) (C := C) (ta := tVar 2) (σ := [some (.ref a), some (.ref pn), some (.ref p), some (.int last'), some (.int floor), some (.ref pm), some (.int (i : Int)), some (.int cell), some v8, some (.ref r9), some (.ref r10), some v11, o12, o13, o14]) (ev_var rfl) k20.ka) (ev_var (i := 3) rfl))
      rwa [decide_eq_true rfl] at this) fun _ => by
      have := et_test (ev_neI (K := K) (ev_kfloor (K := K) (C := C) (ta := tVar 2) (σ := [some (.ref a), some (.ref pn), some (.ref p), some (.int last'), some (.int floor), some (.ref pm), some (.int (i : Int)), some (.int cell), some v8, some (.ref r9), some (.ref r10), some v11, o12, o13, o14]) (ev_var rfl) k20.ka) (ev_var (i := 4) rfl))
      rwa [decide_eq_true rfl] at this) (fun z => by cases z) fun _ H21 e21 => ?_
    have k21 := k20.ex e21
    have rows21 := rows20.frm (Fr.of (Z := []) e21) (fun z => by cases z)
    clear k20 rows20 bk20 e21
    -- made shorter, perhaps
    refine q_ifMid (fun σ' H' => ∃ d B last floor Z o12, σ' = [some (.ref a), some (.ref pn), some (.ref p), some (.int last), some (.int floor), some (.ref pm), some (.int (i : Int)), some (.int cell), some v8, some (.ref r9), some (.ref r10), some v11, o12, o13, o14] ∧ K1 K C H' Z a pn pm p d ns xs B last floor ms') (et_test (ev_eqI (ev_mod (ev_div (ev_var rfl) ev_c ⟨by decide, by decide⟩) ev_c (by decide)) ev_c)) (fun _ H22 e22 r => ?_) (fun _ H22 e22 => ⟨d, B', last', floor, _, _, rfl, k21.ex e22⟩) ?_
    · have k22 := k21.ex e22
      refine q_asgRw (at_meth (ev_var rfl) ea_nil k22.ka m_short1 m_short2 m_short3 fun H23 e23 => ⟨p, d, B', last', floor, rfl, k22.ka.mono e23, fun d' H24 hd24 f24 ka24 => ?_⟩)
      have F24 : Fr [p, d] H22 H24 := (Fr.of e23).trans (f24.mono fun z hz => by rw [List.mem_singleton.mp hz]; simp)
      have hd22 : H22 d' = none := fresh_back e23 hd24
      have k24 : K1 K C H24 (d' :: r10 :: r9 :: Z) a pn pm p d' ns xs (shortF B') last' last' ms' := (k22.more hd22).kept F24 (by simp) ka24 (by have := k22.f0; have := k22.f1; omega) (Int.le_refl _)
      have rows24 : DictAt H24 r10 B' := rows21.frm ((Fr.of e22).trans ((Fr.of e23).trans f24)) (fun z => np10 (List.mem_singleton.mp z).symm)
      show tSeq _ _ _ ([some (.ref a), some (.ref pn), some (.ref p), some (.int last'), some (.int floor), some (.ref pm), some (.int (i : Int)), some (.int cell), some v8, some (.ref r9), some (.ref r10), some v11, some (.int ((B'.length : Int) - ((shortF B').length : Int))), o13, o14] : L2.St) H24
      refine q_asg (ev_var rfl) fun H25 e25 => ?_
      have k25 := k24.ex e25
      obtain ⟨kvr, hkr, hrr⟩ := rows24
      show tIfS _ _ _ _ ([some (.ref a), some (.ref pn), some (.ref p), some (.int last'), some (.int last'), some (.ref pm), some (.int (i : Int)), some (.int cell), some v8, some (.ref r9), some (.ref r10), some v11, some (.int ((B'.length : Int) - ((shortF B').length : Int))), o13, o14] : L2.St) H25
      have hln := ev_lenD (K := K) (ta := tVar 10) (σ := [some (.ref a), some (.ref pn), some (.ref p), some (.int last'), some (.int last'), some (.ref pm), some (.int (i : Int)), some (.int cell), some v8, some (.ref r9), some (.ref r10), some v11, some (.int ((B'.length : Int) - ((shortF B').length : Int))), o13, o14]) (ev_var rfl) (.inl (e25 r10 _ hkr))
      rw [hrr.len] at hln
      have hne := et_test (ev_neI (K := K) (ev_var (i := 12) (σ := [some (.ref a), some (.ref pn), some (.ref p), some (.int last'), some (.int last'), some (.ref pm), some (.int (i : Int)), some (.int cell), some v8, some (.ref r9), some (.ref r10), some v11, some (.int ((B'.length : Int) - ((shortF B').length : Int))), o13, o14]) rfl) (ev_sub hln (ev_klen (K := K) (C := C) (ta := tVar 2) (ev_var rfl) k25.ka)))
      rw [decide_eq_true rfl] at hne
      refine s_when (b := false) (et_or (a := false) (b := false) (et_not (a := true) (et_B (ev_call (ea_cons (ev_var rfl) ea_nil) fun H1 e Q q E => ⟨_, rfl, q⟩))) fun _ => hne) (fun z => by cases z) fun _ H26 e26 => r _ _ ⟨d', shortF B', last', last', _, _, rfl, k25.ex e26⟩
    clear k21 rows21 np9 np10 nd9 nd10 nm9 nm10 n910 ho hf0 hf1
    rintro σ22 H22 ⟨d, B, last, floor, Z, o12, rfl, k22⟩
    have hf0 := k22.f0
    have hf1 := k22.f1
    -- what is asked of it
    refine s_forZ (n := 3) (ea_cons ev_c ea_nil) (by decide) (fun j σ' H' => ∃ o13 o14, σ' = [some (.ref a), some (.ref pn), some (.ref p), some (.int last), some (.int floor), some (.ref pm), some (.int (i : Int)), some (.int cell), some v8, some (.ref r9), some (.ref r10), some v11, o12, o13, o14] ∧ K1 K C H' Z a pn pm p d ns xs B last floor ms') (fun H23 e23 => ⟨_, _, rfl, k22.ex e23⟩) ?_ ?_
    · rintro j σ' H23 hj ⟨o13, o14, rfl, k23⟩
      have hm2 := mod_lt (i : Int) (show (0 : Int) < 2 by decide)
      refine q_asg (ev_pick [floor - 1, 0] (ea_cons (ev_sub (ev_var rfl) ev_c) (ea_cons ev_c ea_nil)) (ev_mod (ev_var rfl) ev_c (by decide)) hm2.1 (by show _ < (2 : Int); omega) (by simp)) fun H24 e24 => ?_
      obtain ⟨early, hearly, hel⟩ : ∃ early, early = [floor - 1, 0].getD ((i : Int) % 2).toNat 0 ∧ (0 < floor → early < floor) := ⟨_, rfl, fun h => by
        have : ((i : Int) % 2).toNat = 0 ∨ ((i : Int) % 2).toNat = 1 := by omega
        rcases this with h' | h' <;> rw [h']
        · show floor - 1 < floor; omega
        · exact h⟩
      rw [← hearly]
      have k24 := k23.ex e24
      show tIfS _ _ _ _ ([some (.ref a), some (.ref pn), some (.ref p), some (.int last), some (.int floor), some (.ref pm), some (.int (i : Int)), some (.int cell), some v8, some (.ref r9), some (.ref r10), some v11, o12, some (.int (j : Int)), some (.int early)] : L2.St) H24
      refine s_when (b := false || (decide (floor > 0) && false)) (et_or (a := false) (et_test (ev_neTupX (ws := []) (ds := []) (ex_gone0 (ev_var rfl) (ev_var rfl) (ev_var rfl) k24.ka (Int.le_refl _)) (eu_tup ea_nil (by simp)) (fun _ => .nil) (by decide +kernel))) fun _ => et_and (et_test (ev_gt (ev_var rfl) ev_c)) fun hc => et_test (ev_neTupX (ws := [.str "gone"]) (ds := [.str "gone"]) (ex_gone1 (ev_var rfl) (ev_var rfl) (ev_var rfl) k24.ka (hel (of_decide_eq_true hc))) (eu_tup (ea_cons ev_c ea_nil) (by simp)) (fun _ => .cons (.str _) .nil) (by decide +kernel))) (fun z => by rw [Bool.and_false] at z; cases z) fun _ H25 e25 => ⟨_, _, rfl, k24.ex e25⟩
    · rintro σ' H23 ⟨o13, o14, rfl, k23⟩
      exact ⟨d, B, last, floor, ms', Z, _, _, _, _, _, _, _, _, _, rfl, k23, hms', by omega⟩
  · rintro σ' H7 ⟨d, B, last, floor, ms, Z, o6, o7, o8, o9, o10, o11, o12, o13, o14, rfl, k7, hms, hi14⟩
    have hn : (if (ns.length : Int) - 4 < cap then (ns.length : Int) - 4 else cap).toNat ≤ 14 := by split <;> omega
    refine q_when (b := false) (et_or (a := false) (b := false) (by
      have := et_test (ev_neI (K := K) (ev_kfloor (K := K) (C := C) (ta := tVar 2) (σ := [some (.ref a), some (.ref pn), some (.ref p), some (.int last), some (.int floor), some (.ref pm), o6, o7, o8, o9, o10, o11, o12, o13, o14]) (ev_var rfl) k7.ka) (ev_var (i := 4) rfl))
      rwa [decide_eq_true rfl] at this) fun _ => by
      have := et_test (ev_neI (K := K) (ev_klast (K := K) (C := C) (ta := tVar 2) (σ := [some (.ref a), some (.ref pn), some (.ref p), some (.int last), some (.int floor), some (.ref pm), o6, o7, o8, o9, o10, o11, o12, o13, o14]) (ev_var rfl) k7.ka) (ev_var (i := 3) rfl))
      rwa [decide_eq_true rfl] at this) (fun z => by cases z) fun _ H8 e8 => ?_
    have k8 := k7.ex e8
    unfold tRet tCall
    exact (ea_cons (ev_var (v := .ref p) rfl) (ea_cons (ev_var (v := .ref pm) rfl) (ea_cons (ev_var (v := .int last) rfl) (ea_cons (ev_var (v := .int floor) rfl) ea_nil)))) H8 (Ex.refl H8) _ fun H9 e9 => ⟨p, d, pm, B, last, floor, ms, rfl, k8.ka.mono e9, e9 pm _ k8.hm, by omega, k8.f0, k8.f1, kk⟩
end S
end
namespace R
open PySem L2 S
def top (i : Nat) : Stmt := PySem.Challenge.pw_saidthen_k11_added_and_refused.main.body.getD i (.Pass ⟨0, 0, 0, 0⟩)
abbrev s_l_names : Stmt := top 44
abbrev s_l_of : Stmt := top 43
abbrev s_Keeper_init : Stmt := inClass (top 41) 0
abbrev s_is_name : Stmt := top 24
abbrev s_is_among : Stmt := top 23
abbrev s_is_day : Stmt := top 25
abbrev s_is_said : Stmt := top 28
abbrev s_is_worth : Stmt := top 26
abbrev s_is_number : Stmt := top 27
abbrev s_is_entry : Stmt := top 29
abbrev s_need_entry : Stmt := top 30
abbrev s_Keeper_add : Stmt := inClass (top 41) 1
abbrev s_l_full : Stmt := top 52
abbrev s_l_entry : Stmt := top 45
abbrev s_l_odd : Stmt := top 51
abbrev s_Keeper_book : Stmt := inClass (top 41) 9
abbrev s_l_due : Stmt := top 50
abbrev s_l_word : Stmt := top 47
abbrev s_l_added : Stmt := top 48
abbrev s_Keeper_last : Stmt := inClass (top 41) 7
abbrev s_Keeper_floor : Stmt := inClass (top 41) 8
abbrev s_counting : Stmt := top 1
abbrev s_left_of : Stmt := top 32
abbrev s_names_in : Stmt := top 36
abbrev s_begins_of : Stmt := top 5
abbrev s_said_of : Stmt := top 3
abbrev s_all_said : Stmt := top 37
abbrev s_without : Stmt := top 33
abbrev s_is_needless : Stmt := top 38
abbrev s_shortened : Stmt := top 39
abbrev s_Keeper_shorten : Stmt := inClass (top 41) 2
abbrev s_l_whole : Stmt := top 46
abbrev s_Keeper_need_known : Stmt := inClass (top 41) 3
abbrev s_worth_of : Stmt := top 4
abbrev s_Keeper_worth : Stmt := inClass (top 41) 4
abbrev s_stretches : Stmt := top 6
abbrev s_runs_of : Stmt := top 7
abbrev s_Keeper_runs : Stmt := inClass (top 41) 5
abbrev s_hangs_on : Stmt := top 34
abbrev s_Keeper_why : Stmt := inClass (top 41) 6
abbrev s_l_gone : Stmt := top 49
abbrev s_l_taken_then : Stmt := top 53
abbrev s_law : Stmt := top 54
structure Ad where
  f_l_names : Addr
  f_l_of : Addr
  f_Keeper_init : Addr
  f_is_name : Addr
  f_is_among : Addr
  f_is_day : Addr
  f_is_said : Addr
  f_is_worth : Addr
  f_is_number : Addr
  f_is_entry : Addr
  f_need_entry : Addr
  f_Keeper_add : Addr
  f_l_full : Addr
  f_l_entry : Addr
  f_l_odd : Addr
  f_Keeper_book : Addr
  f_l_due : Addr
  f_l_word : Addr
  f_l_added : Addr
  f_Keeper_last : Addr
  f_Keeper_floor : Addr
  f_counting : Addr
  f_left_of : Addr
  f_names_in : Addr
  f_begins_of : Addr
  f_said_of : Addr
  f_all_said : Addr
  f_without : Addr
  f_is_needless : Addr
  f_shortened : Addr
  f_Keeper_shorten : Addr
  f_l_whole : Addr
  f_Keeper_need_known : Addr
  f_worth_of : Addr
  f_Keeper_worth : Addr
  f_stretches : Addr
  f_runs_of : Addr
  f_Keeper_runs : Addr
  f_hangs_on : Addr
  f_Keeper_why : Addr
  f_l_gone : Addr
  f_l_taken_then : Addr
  f_law : Addr
  t_LETTERS : Tok
  t_MOST : Tok
  t_MOST_DAY : Tok
  t_MOST_LETTERS : Tok
  t_MOST_WORTH : Tok
  C : CA
structure Fd where
  d_l_names : FuncData
  d_l_of : FuncData
  d_Keeper_init : FuncData
  d_is_name : FuncData
  d_is_among : FuncData
  d_is_day : FuncData
  d_is_said : FuncData
  d_is_worth : FuncData
  d_is_number : FuncData
  d_is_entry : FuncData
  d_need_entry : FuncData
  d_Keeper_add : FuncData
  d_l_full : FuncData
  d_l_entry : FuncData
  d_l_odd : FuncData
  d_Keeper_book : FuncData
  d_l_due : FuncData
  d_l_word : FuncData
  d_l_added : FuncData
  d_Keeper_last : FuncData
  d_Keeper_floor : FuncData
  d_counting : FuncData
  d_left_of : FuncData
  d_names_in : FuncData
  d_begins_of : FuncData
  d_said_of : FuncData
  d_all_said : FuncData
  d_without : FuncData
  d_is_needless : FuncData
  d_shortened : FuncData
  d_Keeper_shorten : FuncData
  d_l_whole : FuncData
  d_Keeper_need_known : FuncData
  d_worth_of : FuncData
  d_Keeper_worth : FuncData
  d_stretches : FuncData
  d_runs_of : FuncData
  d_Keeper_runs : FuncData
  d_hangs_on : FuncData
  d_Keeper_why : FuncData
  d_l_gone : FuncData
  d_l_taken_then : FuncData
  d_law : FuncData
structure Txt (K : PySem.W.Frag) (mg : Str → Option Value) (a : Ad) (d : Fd) : Prop where
  F_l_names : Fun K "_law_names" "_law_names" s_l_names a.f_l_names d.d_l_names
  g_l_names : mg "_law_names" = some (.ref a.f_l_names)
  b_l_names : Binds K d.d_l_names ["_law_cell", "_law_many"] []
  F_l_of : Fun K "_law_of" "_law_of" s_l_of a.f_l_of d.d_l_of
  g_l_of : mg "_law_of" = some (.ref a.f_l_of)
  b_l_of : Binds K d.d_l_of ["_law_script", "_law_k"] []
  F_Keeper_init : Fun K "__init__" "Keeper.__init__" s_Keeper_init a.f_Keeper_init d.d_Keeper_init
  b_Keeper_init : Binds K d.d_Keeper_init ["self"] []
  F_is_name : Fun K "is_name" "is_name" s_is_name a.f_is_name d.d_is_name
  g_is_name : mg "is_name" = some (.ref a.f_is_name)
  b_is_name : Binds K d.d_is_name ["thing"] []
  F_is_among : Fun K "is_among" "is_among" s_is_among a.f_is_among d.d_is_among
  g_is_among : mg "is_among" = some (.ref a.f_is_among)
  b_is_among : Binds K d.d_is_among ["thing", "least", "most"] []
  F_is_day : Fun K "is_day" "is_day" s_is_day a.f_is_day d.d_is_day
  g_is_day : mg "is_day" = some (.ref a.f_is_day)
  b_is_day : Binds K d.d_is_day ["thing"] []
  F_is_said : Fun K "is_said" "is_said" s_is_said a.f_is_said d.d_is_said
  g_is_said : mg "is_said" = some (.ref a.f_is_said)
  b_is_said : Binds K d.d_is_said ["entry", "parts"] []
  F_is_worth : Fun K "is_worth" "is_worth" s_is_worth a.f_is_worth d.d_is_worth
  g_is_worth : mg "is_worth" = some (.ref a.f_is_worth)
  b_is_worth : Binds K d.d_is_worth ["thing"] []
  F_is_number : Fun K "is_number" "is_number" s_is_number a.f_is_number d.d_is_number
  g_is_number : mg "is_number" = some (.ref a.f_is_number)
  b_is_number : Binds K d.d_is_number ["thing"] []
  F_is_entry : Fun K "is_entry" "is_entry" s_is_entry a.f_is_entry d.d_is_entry
  g_is_entry : mg "is_entry" = some (.ref a.f_is_entry)
  b_is_entry : Binds K d.d_is_entry ["entry"] []
  F_need_entry : Fun K "need_entry" "need_entry" s_need_entry a.f_need_entry d.d_need_entry
  g_need_entry : mg "need_entry" = some (.ref a.f_need_entry)
  b_need_entry : Binds K d.d_need_entry ["entry"] []
  F_Keeper_add : Fun K "add" "Keeper.add" s_Keeper_add a.f_Keeper_add d.d_Keeper_add
  b_Keeper_add : Binds K d.d_Keeper_add ["self", "entry"] []
  F_l_full : Fun K "_law_full" "_law_full" s_l_full a.f_l_full d.d_l_full
  g_l_full : mg "_law_full" = some (.ref a.f_l_full)
  b_l_full : Binds K d.d_l_full ["_law_keeper", "_law_many"] []
  F_l_entry : Fun K "_law_entry" "_law_entry" s_l_entry a.f_l_entry d.d_l_entry
  g_l_entry : mg "_law_entry" = some (.ref a.f_l_entry)
  b_l_entry : Binds K d.d_l_entry ["_law_names_here", "_law_base", "_law_n", "_law_number"] []
  F_l_odd : Fun K "_law_odd" "_law_odd" s_l_odd a.f_l_odd d.d_l_odd
  g_l_odd : mg "_law_odd" = some (.ref a.f_l_odd)
  b_l_odd : Binds K d.d_l_odd ["_law_cell", "_law_k", "_law_given", "_law_floor"] []
  F_Keeper_book : Fun K "book" "Keeper.book" s_Keeper_book a.f_Keeper_book d.d_Keeper_book
  b_Keeper_book : Binds K d.d_Keeper_book ["self"] []
  F_l_due : Fun K "_law_due" "_law_due" s_l_due a.f_l_due d.d_l_due
  g_l_due : mg "_law_due" = some (.ref a.f_l_due)
  b_l_due : Binds K d.d_l_due ["_law_entry_here", "_law_rows", "_law_given", "_law_floor"] []
  F_l_word : Fun K "_law_word" "_law_word" s_l_word a.f_l_word d.d_l_word
  g_l_word : mg "_law_word" = some (.ref a.f_l_word)
  b_l_word : Binds K d.d_l_word ["_law_e"] []
  F_l_added : Fun K "_law_added" "_law_added" s_l_added a.f_l_added d.d_l_added
  g_l_added : mg "_law_added" = some (.ref a.f_l_added)
  b_l_added : Binds K d.d_l_added ["_law_keeper", "_law_entry_here"] []
  F_Keeper_last : Fun K "last" "Keeper.last" s_Keeper_last a.f_Keeper_last d.d_Keeper_last
  b_Keeper_last : Binds K d.d_Keeper_last ["self"] []
  F_Keeper_floor : Fun K "floor" "Keeper.floor" s_Keeper_floor a.f_Keeper_floor d.d_Keeper_floor
  b_Keeper_floor : Binds K d.d_Keeper_floor ["self"] []
  F_counting : Fun K "counting" "counting" s_counting a.f_counting d.d_counting
  g_counting : mg "counting" = some (.ref a.f_counting)
  b_counting : Binds K d.d_counting ["book", "n"] []
  F_left_of : Fun K "left_of" "left_of" s_left_of a.f_left_of d.d_left_of
  g_left_of : mg "left_of" = some (.ref a.f_left_of)
  b_left_of : Binds K d.d_left_of ["book", "numbers"] []
  F_names_in : Fun K "names_in" "names_in" s_names_in a.f_names_in d.d_names_in
  g_names_in : mg "names_in" = some (.ref a.f_names_in)
  b_names_in : Binds K d.d_names_in ["book"] []
  F_begins_of : Fun K "begins_of" "begins_of" s_begins_of a.f_begins_of d.d_begins_of
  g_begins_of : mg "begins_of" = some (.ref a.f_begins_of)
  b_begins_of : Binds K d.d_begins_of ["book", "numbers", "low", "high"] []
  F_said_of : Fun K "said_of" "said_of" s_said_of a.f_said_of d.d_said_of
  g_said_of : mg "said_of" = some (.ref a.f_said_of)
  b_said_of : Binds K d.d_said_of ["book", "numbers", "name", "day"] []
  F_all_said : Fun K "all_said" "all_said" s_all_said a.f_all_said d.d_all_said
  g_all_said : mg "all_said" = some (.ref a.f_all_said)
  b_all_said : Binds K d.d_all_said ["book", "names", "days"] []
  F_without : Fun K "without" "without" s_without a.f_without d.d_without
  g_without : mg "without" = some (.ref a.f_without)
  b_without : Binds K d.d_without ["book", "number"] []
  F_is_needless : Fun K "is_needless" "is_needless" s_is_needless a.f_is_needless d.d_is_needless
  g_is_needless : mg "is_needless" = some (.ref a.f_is_needless)
  b_is_needless : Binds K d.d_is_needless ["book", "number", "names"] []
  F_shortened : Fun K "shortened" "shortened" s_shortened a.f_shortened d.d_shortened
  g_shortened : mg "shortened" = some (.ref a.f_shortened)
  b_shortened : Binds K d.d_shortened ["book"] []
  F_Keeper_shorten : Fun K "shorten" "Keeper.shorten" s_Keeper_shorten a.f_Keeper_shorten d.d_Keeper_shorten
  b_Keeper_shorten : Binds K d.d_Keeper_shorten ["self"] []
  F_l_whole : Fun K "_law_whole" "_law_whole" s_l_whole a.f_l_whole d.d_l_whole
  g_l_whole : mg "_law_whole" = some (.ref a.f_l_whole)
  b_l_whole : Binds K d.d_l_whole ["_law_found"] []
  F_Keeper_need_known : Fun K "need_known" "Keeper.need_known" s_Keeper_need_known a.f_Keeper_need_known d.d_Keeper_need_known
  b_Keeper_need_known : Binds K d.d_Keeper_need_known ["self", "n"] []
  F_worth_of : Fun K "worth_of" "worth_of" s_worth_of a.f_worth_of d.d_worth_of
  g_worth_of : mg "worth_of" = some (.ref a.f_worth_of)
  b_worth_of : Binds K d.d_worth_of ["book", "n", "name", "day"] []
  F_Keeper_worth : Fun K "worth" "Keeper.worth" s_Keeper_worth a.f_Keeper_worth d.d_Keeper_worth
  b_Keeper_worth : Binds K d.d_Keeper_worth ["self", "n", "name", "day"] []
  F_stretches : Fun K "stretches" "stretches" s_stretches a.f_stretches d.d_stretches
  g_stretches : mg "stretches" = some (.ref a.f_stretches)
  b_stretches : Binds K d.d_stretches ["rows", "high"] []
  F_runs_of : Fun K "runs_of" "runs_of" s_runs_of a.f_runs_of d.d_runs_of
  g_runs_of : mg "runs_of" = some (.ref a.f_runs_of)
  b_runs_of : Binds K d.d_runs_of ["book", "n", "name", "low", "high"] []
  F_Keeper_runs : Fun K "runs" "Keeper.runs" s_Keeper_runs a.f_Keeper_runs d.d_Keeper_runs
  b_Keeper_runs : Binds K d.d_Keeper_runs ["self", "n", "name", "low", "high"] []
  F_hangs_on : Fun K "hangs_on" "hangs_on" s_hangs_on a.f_hangs_on d.d_hangs_on
  g_hangs_on : mg "hangs_on" = some (.ref a.f_hangs_on)
  b_hangs_on : Binds K d.d_hangs_on ["book", "n", "name", "low", "high"] []
  F_Keeper_why : Fun K "why" "Keeper.why" s_Keeper_why a.f_Keeper_why d.d_Keeper_why
  b_Keeper_why : Binds K d.d_Keeper_why ["self", "n", "name", "low", "high"] []
  F_l_gone : Fun K "_law_gone" "_law_gone" s_l_gone a.f_l_gone d.d_l_gone
  g_l_gone : mg "_law_gone" = some (.ref a.f_l_gone)
  b_l_gone : Binds K d.d_l_gone ["_law_keeper", "_law_n", "_law_way"] []
  F_l_taken_then : Fun K "_law_taken_then" "_law_taken_then" s_l_taken_then a.f_l_taken_then d.d_l_taken_then
  g_l_taken_then : mg "_law_taken_then" = some (.ref a.f_l_taken_then)
  b_l_taken_then : Binds K d.d_l_taken_then ["_law_keeper", "_law_numbers", "_law_given", "_law_floor"] []
  F_law : Fun K "law" "law" s_law a.f_law d.d_law
  g_law : mg "law" = some (.ref a.f_law)
  b_law : Binds K d.d_law ["_law_script"] []
  g_Keeper : mg "Keeper" = some (.ref a.C.Keeper)
  c_Keeper : Cls K a.C.Keeper
  M_Keeper : Mk K a.C.Keeper a.f_Keeper_init
  m_Keeper_add : Meth K a.C.Keeper "add" a.f_Keeper_add
  m_Keeper_book : Meth K a.C.Keeper "book" a.f_Keeper_book
  m_Keeper_last : Meth K a.C.Keeper "last" a.f_Keeper_last
  m_Keeper_floor : Meth K a.C.Keeper "floor" a.f_Keeper_floor
  m_Keeper_shorten : Meth K a.C.Keeper "shorten" a.f_Keeper_shorten
  m_Keeper_need_known : Meth K a.C.Keeper "need_known" a.f_Keeper_need_known
  m_Keeper_worth : Meth K a.C.Keeper "worth" a.f_Keeper_worth
  m_Keeper_runs : Meth K a.C.Keeper "runs" a.f_Keeper_runs
  m_Keeper_why : Meth K a.C.Keeper "why" a.f_Keeper_why
  n_Keeper_given : NoAttr K a.C.Keeper "given"
  n_Keeper_least : NoAttr K a.C.Keeper "least"
  n_Keeper_rows : NoAttr K a.C.Keeper "rows"
  g_BadBook : mg "BadBook" = some (.ref a.C.BadBook)
  g_BadEntry : mg "BadEntry" = some (.ref a.C.BadEntry)
  g_BadText : mg "BadText" = some (.ref a.C.BadText)
  g_BookError : mg "BookError" = some (.ref a.C.BookError)
  g_Closed : mg "Closed" = some (.ref a.C.Closed)
  g_Gone : mg "Gone" = some (.ref a.C.Gone)
  g_NoEntry : mg "NoEntry" = some (.ref a.C.NoEntry)
  g_TooMany : mg "TooMany" = some (.ref a.C.TooMany)
  ef_BadEntry : ExF K a.C a.C.BadEntry 0
  ef_Closed : ExF K a.C a.C.Closed 3
  ef_NoEntry : ExF K a.C a.C.NoEntry 2
  ef_TooMany : ExF K a.C a.C.TooMany 4
  ef_Gone : ExF K a.C a.C.Gone 5
  x_BadEntry : PySem.W.excIn K a.C.BadEntry [.type "ValueError", .type "Exception", .type "BaseException", .type "object"] "ValueError.__new__" = true
  kp_BadEntry : PySem.W.keepIn K (.ref a.C.BadEntry) = true
  be_BadEntry : PySem.W.subIn K (.ref a.C.BadEntry) (.type "BaseException") = some true
  ty_BadEntry : PySem.W.typeIn K (.ref a.C.BadEntry) = some (.type "type")
  x_Closed : PySem.W.excIn K a.C.Closed [.type "ValueError", .type "Exception", .type "BaseException", .type "object"] "ValueError.__new__" = true
  kp_Closed : PySem.W.keepIn K (.ref a.C.Closed) = true
  be_Closed : PySem.W.subIn K (.ref a.C.Closed) (.type "BaseException") = some true
  ty_Closed : PySem.W.typeIn K (.ref a.C.Closed) = some (.type "type")
  x_Gone : PySem.W.excIn K a.C.Gone [.type "ValueError", .type "Exception", .type "BaseException", .type "object"] "ValueError.__new__" = true
  kp_Gone : PySem.W.keepIn K (.ref a.C.Gone) = true
  be_Gone : PySem.W.subIn K (.ref a.C.Gone) (.type "BaseException") = some true
  ty_Gone : PySem.W.typeIn K (.ref a.C.Gone) = some (.type "type")
  x_NoEntry : PySem.W.excIn K a.C.NoEntry [.type "ValueError", .type "Exception", .type "BaseException", .type "object"] "ValueError.__new__" = true
  kp_NoEntry : PySem.W.keepIn K (.ref a.C.NoEntry) = true
  be_NoEntry : PySem.W.subIn K (.ref a.C.NoEntry) (.type "BaseException") = some true
  ty_NoEntry : PySem.W.typeIn K (.ref a.C.NoEntry) = some (.type "type")
  x_TooMany : PySem.W.excIn K a.C.TooMany [.type "ValueError", .type "Exception", .type "BaseException", .type "object"] "ValueError.__new__" = true
  kp_TooMany : PySem.W.keepIn K (.ref a.C.TooMany) = true
  be_TooMany : PySem.W.subIn K (.ref a.C.TooMany) (.type "BaseException") = some true
  ty_TooMany : PySem.W.typeIn K (.ref a.C.TooMany) = some (.type "type")
  z_ValueError : mg "ValueError" = none
  z_bool : mg "bool" = none
  z_dict : mg "dict" = none
  z_enumerate : mg "enumerate" = none
  z_int : mg "int" = none
  z_isinstance : mg "isinstance" = none
  z_len : mg "len" = none
  z_max : mg "max" = none
  z_min : mg "min" = none
  z_range : mg "range" = none
  z_reversed : mg "reversed" = none
  z_sorted : mg "sorted" = none
  z_str : mg "str" = none
  z_tuple : mg "tuple" = none
  k_LETTERS : mg "LETTERS" = some (.str "abcdefghijklmnopqrstuvwxyz" a.t_LETTERS)
  k_MOST : mg "MOST" = some (.int 30 a.t_MOST)
  k_MOST_DAY : mg "MOST_DAY" = some (.int 1000000 a.t_MOST_DAY)
  k_MOST_LETTERS : mg "MOST_LETTERS" = some (.int 8 a.t_MOST_LETTERS)
  k_MOST_WORTH : mg "MOST_WORTH" = some (.int 1000000000 a.t_MOST_WORTH)
section
variable {P : Program} {w : World} {K : PySem.W.Frag} {mg : Str → Option Value} {base : Heap} {a : Ad} {d : Fd}
theorem sc_l_names : FnScope ["_law_cell", "_law_many", "_law_some", "_law_names_here", "_law_k", "_law_more", "_law_word_here", "_law_at", "_law_j"] ["_law_cell", "_law_many"] (defScope s_l_names) := ⟨rfl, rfl, rfl, by decide +kernel, rfl, by decide +kernel, by decide +kernel⟩
theorem ok_l_names (T : Txt K mg a d) : FnOk P w K mg base CX0 1 a.f_l_names d.d_l_names ["_law_cell", "_law_many"] (sp_l_names K a.C) :=
  T.F_l_names.ok (k := 0) sc_l_names (fun vs H Q E h => len_l_names h) (fun cdv A outer s H vs Q E hr h => ⟨t_l_names K a.C, by exact
 (pss_cons (ps_set (i := 2) sc_l_names.nd rfl (by first | exact Or.inl rfl | exact Or.inr rfl) pe_str)
 (pss_cons (ps_set (i := 3) sc_l_names.nd rfl (by first | exact Or.inl rfl | exact Or.inr rfl) (pe_lst pa_nil))
 (pss_cons (ps_for PassesOwn.never rfl (pi_range1 (by rfl) T.z_range (pa_cons (pv 1) pa_nil)) (pg_name (i := 4) sc_l_names.nd rfl (by first | exact Or.inl rfl | exact Or.inr rfl))
  (pss_cons (ps_set (i := 5) sc_l_names.nd rfl (by first | exact Or.inl rfl | exact Or.inr rfl) (pe_op uAdd (pe_op uDiv (pv 0) pe_int) (pe_op uMul (pe_op uMul (pv 4) pe_int) (pe_op uMod (pv 0) pe_int))))
 (pss_cons (ps_set (i := 6) sc_l_names.nd rfl (by first | exact Or.inl rfl | exact Or.inr rfl) (pe_join pe_str (pe_lc (own := [("_law_j", 8)]) rfl sc_l_names.nd (pi_range1 (by rfl) T.z_range (pa_cons (pe_op uMod (pv 5) pe_int) pa_nil)) (blkOk_by (own := [("_law_j", 8)]) (N := ["_law_cell", "_law_many", "_law_some", "_law_names_here", "_law_k", "_law_more", "_law_word_here", "_law_at", "_law_j"]) (sc := defScope s_l_names) (by decide +kernel)) (fun _ _ _ _ _ => (pg_name (i := 8) sc_l_names.nd rfl (by first | exact Or.inl rfl | exact Or.inr rfl))) (fun _ _ _ _ _ => pts_nil) (fun _ _ _ _ _ => (pe_ix (uIx (hU hr)) (pv 2) (pe_op uMod (pe_op uAdd (pe_op uDiv (pv 5) pe_int) (pe_op uMul pe_int (pv 8))) pe_int) (fun _ _ => rfl))))))
 (pss_cons (ps_set (i := 7) sc_l_names.nd rfl (by first | exact Or.inl rfl | exact Or.inr rfl) (pe_op uMod (pe_op uDiv (pv 5) pe_int) (pe_op uAdd (pe_callB uLen (by rfl) T.z_len (by decide +kernel) (pa_cons (pv 6) pa_nil)) pe_int)))
 (pss_one (ps_expr (pe_bm PySem.F.plainAttrs_list PySem.F.slot_list_append PySem.F.type_list_append mt_append (pv 3) (pa_cons (pe_op uAdd (pe_op uAdd (pe_op uAdd (pe_slice uSl (pv 6) po_none (po_some (pv 7))) pe_str) (pe_ix (uIx (hU hr)) (pv 2) (pv 4) (fun _ _ => rfl))) (pe_slice uSl (pv 6) (po_some (pv 7)) po_none)) pa_nil))))))))
 (pss_cons (ps_if (PW.pt (pw_and (pt_cmpR (uEq (hU hr)) (pe_op uMod (pv 0) pe_int) pe_int (nomark _)) (pw_and1 (pt_cmpR (uNi (hU hr)) (pe_revA (pe_ix (uIx (hU hr)) (pv 3) pe_int (fun _ _ => rfl))) (pv 3) (by rfl))))) (pss_one (ps_asg (pe_revA (pe_ix (uIx (hU hr)) (pv 3) pe_int (fun _ _ => rfl))) (pg_sub (pv 3) pe_int (uSet (hU hr))))) pss_nil)
 (pss_one (ps_ret (pv 3))))))), pure_l_names h⟩)
theorem sc_l_of : FnScope ["_law_script", "_law_k"] ["_law_script", "_law_k"] (defScope s_l_of) := ⟨rfl, rfl, rfl, by decide +kernel, rfl, by decide +kernel, by decide +kernel⟩
theorem ok_l_of (T : Txt K mg a d) : FnOk P w K mg base CX0 1 a.f_l_of d.d_l_of ["_law_script", "_law_k"] (sp_l_of K a.C) :=
  T.F_l_of.ok (k := 0) sc_l_of (fun vs H Q E h => len_l_of h) (fun cdv A outer s H vs Q E hr h => ⟨t_l_of K a.C, by exact
 (pss_one (ps_ret (pe_ix (uIx (hU hr)) (pe_op uAdd (pe_slice uSl (pv 0) (po_some (pv 1)) (po_some (pe_op uAdd (pv 1) pe_int))) (pe_lst (pa_cons pe_int pa_nil))) pe_int (fun _ _ => rfl)))), pure_l_of h⟩)
theorem sc_Keeper_init : FnScope ["self"] ["self"] (defScope s_Keeper_init) := ⟨rfl, rfl, rfl, by decide +kernel, rfl, by decide +kernel, by decide +kernel⟩
theorem ok_Keeper_init (T : Txt K mg a d) : FnOk P w K mg base CX0 1 a.f_Keeper_init d.d_Keeper_init ["self"] (sp_Keeper_init K a.C) :=
  T.F_Keeper_init.ok (k := 0) sc_Keeper_init (fun vs H Q E h => len_Keeper_init h) (fun cdv A outer s H vs Q E hr h => ⟨t_Keeper_init K a.C, by exact
 (pss_cons (ps_fld (pv 0) pe_dnewK rfl)
 (pss_cons (ps_fld (pv 0) pe_int rfl)
 (pss_one (ps_fld (pv 0) pe_int rfl)))), pure_Keeper_init h⟩)
theorem sc_is_name : FnScope ["thing", "sign"] ["thing"] (defScope s_is_name) := ⟨rfl, rfl, rfl, by decide +kernel, rfl, by decide +kernel, by decide +kernel⟩
theorem ok_is_name (T : Txt K mg a d) : FnOk P w K mg base CX0 1 a.f_is_name d.d_is_name ["thing"] (sp_is_name K a.C) :=
  T.F_is_name.ok (k := 0) sc_is_name (fun vs H Q E h => len_is_name h) (fun cdv A outer s H vs Q E hr h => ⟨t_is_name K a.C, by exact
 (pss_cons (ps_if (PW.pt (pw_or (pt_not (pt_val (pe_callB call_isi (by rfl) T.z_isinstance (by decide +kernel) (pa_cons (pv 0) (pa_cons (pe_bltn (by rfl) T.z_str (by decide +kernel) rfl) pa_nil))))) (pw_or1 (pt_not (pt_chain uLe uLe pe_int (pe_callB uLen (by rfl) T.z_len (by decide +kernel) (pa_cons (pv 0) pa_nil)) (pe_glob rfl T.k_MOST_LETTERS ⟨_, rfl⟩)))))) (pss_one (ps_ret pe_bl)) pss_nil)
 (pss_cons (ps_for PassesOwn.never rfl (pi_str (pv 0)) (pg_name (i := 1) sc_is_name.nd rfl (by first | exact Or.inl rfl | exact Or.inr rfl))
  (pss_one (ps_if (pt_cmpR (uNi (hU hr)) (pv 1) (pe_glob rfl T.k_LETTERS ⟨_, rfl⟩) (by rfl)) (pss_one (ps_ret pe_bl)) pss_nil)))
 (pss_one (ps_ret pe_bl)))), pure_is_name h⟩)
theorem sc_is_among : FnScope ["thing", "least", "most"] ["thing", "least", "most"] (defScope s_is_among) := ⟨rfl, rfl, rfl, by decide +kernel, rfl, by decide +kernel, by decide +kernel⟩
theorem ok_is_among (T : Txt K mg a d) : FnOk P w K mg base CX0 1 a.f_is_among d.d_is_among ["thing", "least", "most"] (sp_is_among K a.C) :=
  T.F_is_among.ok (k := 0) sc_is_among (fun vs H Q E h => len_is_among h) (fun cdv A outer s H vs Q E hr h => ⟨t_is_among K a.C, by exact
 (pss_one (ps_ret (pe_and (pe_callB call_isi (by rfl) T.z_isinstance (by decide +kernel) (pa_cons (pv 0) (pa_cons (pe_bltn (by rfl) T.z_int (by decide +kernel) rfl) pa_nil))) (pe_and (pe_not (pe_callB call_isi (by rfl) T.z_isinstance (by decide +kernel) (pa_cons (pv 0) (pa_cons (pe_bltn (by rfl) T.z_bool (by decide +kernel) rfl) pa_nil)))) (pe_one (pe_chain uLe uLe (pv 1) (pv 0) (pv 2))))))), pure_is_among h⟩)
theorem sc_is_day : FnScope ["thing"] ["thing"] (defScope s_is_day) := ⟨rfl, rfl, rfl, by decide +kernel, rfl, by decide +kernel, by decide +kernel⟩
theorem ok_is_day (T : Txt K mg a d) : FnOk P w K mg base CX0 2 a.f_is_day d.d_is_day ["thing"] (sp_is_day K a.C) :=
  T.F_is_day.ok (k := 1) sc_is_day (fun vs H Q E h => len_is_day h) (fun cdv A outer s H vs Q E hr h => ⟨t_is_day K a.C, by exact
 (pss_one (ps_ret (pe_call (ok_is_among T) (hr.mono (by decide)) (by rfl) T.g_is_among T.F_is_among.kp T.b_is_among .nil pass0 (pa_cons (pv 0) (pa_cons pe_int (pa_cons (pe_glob rfl T.k_MOST_DAY ⟨_, rfl⟩) pa_nil)))))), pure_is_day h⟩)
theorem sc_is_said : FnScope ["entry", "parts"] ["entry", "parts"] (defScope s_is_said) := ⟨rfl, rfl, rfl, by decide +kernel, rfl, by decide +kernel, by decide +kernel⟩
theorem ok_is_said (T : Txt K mg a d) : FnOk P w K mg base CX0 3 a.f_is_said d.d_is_said ["entry", "parts"] (sp_is_said K a.C) :=
  T.F_is_said.ok (k := 2) sc_is_said (fun vs H Q E h => len_is_said h) (fun cdv A outer s H vs Q E hr h => ⟨t_is_said K a.C, by exact
 (pss_cons (ps_if (PW.pt (pw_or (pt_cmpR (uNe (hU hr)) (pe_callB uLen (by rfl) T.z_len (by decide +kernel) (pa_cons (pv 0) pa_nil)) (pv 1) (nomark _)) (pw_or (pt_not (pt_val (pe_call (ok_is_name T) (hr.mono (by decide)) (by rfl) T.g_is_name T.F_is_name.kp T.b_is_name .nil pass0 (pa_cons (pe_ix (uIx (hU hr)) (pv 0) pe_int (fun _ _ => rfl)) pa_nil)))) (pw_or (pt_not (pt_val (pe_call (ok_is_day T) (hr.mono (by decide)) (by rfl) T.g_is_day T.F_is_day.kp T.b_is_day .nil pass0 (pa_cons (pe_ix (uIx (hU hr)) (pv 0) pe_int (fun _ _ => rfl)) pa_nil)))) (pw_or1 (pt_not (pt_val (pe_call (ok_is_day T) (hr.mono (by decide)) (by rfl) T.g_is_day T.F_is_day.kp T.b_is_day .nil pass0 (pa_cons (pe_ix (uIx (hU hr)) (pv 0) pe_int (fun _ _ => rfl)) pa_nil))))))))) (pss_one (ps_ret pe_bl)) pss_nil)
 (pss_one (ps_ret (pe_cmpR uLe (pe_ix (uIx (hU hr)) (pv 0) pe_int (fun _ _ => rfl)) (pe_ix (uIx (hU hr)) (pv 0) pe_int (fun _ _ => rfl)) (nomark _))))), pure_is_said h⟩)
theorem sc_is_worth : FnScope ["thing"] ["thing"] (defScope s_is_worth) := ⟨rfl, rfl, rfl, by decide +kernel, rfl, by decide +kernel, by decide +kernel⟩
theorem ok_is_worth (T : Txt K mg a d) : FnOk P w K mg base CX0 2 a.f_is_worth d.d_is_worth ["thing"] (sp_is_worth K a.C) :=
  T.F_is_worth.ok (k := 1) sc_is_worth (fun vs H Q E h => len_is_worth h) (fun cdv A outer s H vs Q E hr h => ⟨t_is_worth K a.C, by exact
 (pss_one (ps_ret (pe_call (ok_is_among T) (hr.mono (by decide)) (by rfl) T.g_is_among T.F_is_among.kp T.b_is_among .nil pass0 (pa_cons (pv 0) (pa_cons (pe_un un_neg (pe_glob rfl T.k_MOST_WORTH ⟨_, rfl⟩)) (pa_cons (pe_glob rfl T.k_MOST_WORTH ⟨_, rfl⟩) pa_nil)))))), pure_is_worth h⟩)
theorem sc_is_number : FnScope ["thing"] ["thing"] (defScope s_is_number) := ⟨rfl, rfl, rfl, by decide +kernel, rfl, by decide +kernel, by decide +kernel⟩
theorem ok_is_number (T : Txt K mg a d) : FnOk P w K mg base CX0 1 a.f_is_number d.d_is_number ["thing"] (sp_is_number K a.C) :=
  T.F_is_number.ok (k := 0) sc_is_number (fun vs H Q E h => len_is_number h) (fun cdv A outer s H vs Q E hr h => ⟨t_is_number K a.C, by exact
 (pss_one (ps_ret (pe_and (pe_callB call_isi (by rfl) T.z_isinstance (by decide +kernel) (pa_cons (pv 0) (pa_cons (pe_bltn (by rfl) T.z_int (by decide +kernel) rfl) pa_nil))) (pe_and (pe_not (pe_callB call_isi (by rfl) T.z_isinstance (by decide +kernel) (pa_cons (pv 0) (pa_cons (pe_bltn (by rfl) T.z_bool (by decide +kernel) rfl) pa_nil)))) (pe_one (pe_cmpR uGe (pv 0) pe_int (nomark _))))))), pure_is_number h⟩)
theorem sc_is_entry : FnScope ["entry"] ["entry"] (defScope s_is_entry) := ⟨rfl, rfl, rfl, by decide +kernel, rfl, by decide +kernel, by decide +kernel⟩
theorem ok_is_entry (T : Txt K mg a d) : FnOk P w K mg base CX0 4 a.f_is_entry d.d_is_entry ["entry"] (sp_is_entry K a.C) :=
  T.F_is_entry.ok (k := 3) sc_is_entry (fun vs H Q E h => len_is_entry h) (fun cdv A outer s H vs Q E hr h => ⟨t_is_entry K a.C, by exact
 (pss_cons (ps_if (PW.pt (pw_or (pt_not (pt_val (pe_callB call_isi (by rfl) T.z_isinstance (by decide +kernel) (pa_cons (pv 0) (pa_cons (pe_bltn (by rfl) T.z_tuple (by decide +kernel) rfl) pa_nil))))) (pw_or (pt_cmpR uLt (pe_callB uLen (by rfl) T.z_len (by decide +kernel) (pa_cons (pv 0) pa_nil)) pe_int (nomark _)) (pw_or1 (pt_not (pt_val (pe_callB call_isi (by rfl) T.z_isinstance (by decide +kernel) (pa_cons (pe_ix (uIx (hU hr)) (pv 0) pe_int (fun _ _ => rfl)) (pa_cons (pe_bltn (by rfl) T.z_str (by decide +kernel) rfl) pa_nil))))))))) (pss_one (ps_ret pe_bl)) pss_nil)
 (pss_cons (ps_if (pt_cmpR (uEq (hU hr)) (pe_ix (uIx (hU hr)) (pv 0) pe_int (fun _ _ => rfl)) pe_str (nomark _)) (pss_one (ps_ret (pe_and (pe_call (ok_is_said T) (hr.mono (by decide)) (by rfl) T.g_is_said T.F_is_said.kp T.b_is_said .nil pass0 (pa_cons (pv 0) (pa_cons pe_int pa_nil))) (pe_one (pe_call (ok_is_worth T) (hr.mono (by decide)) (by rfl) T.g_is_worth T.F_is_worth.kp T.b_is_worth .nil pass0 (pa_cons (pe_ix (uIx (hU hr)) (pv 0) pe_int (fun _ _ => rfl)) pa_nil)))))) pss_nil)
 (pss_cons (ps_if (pt_cmpR (uEq (hU hr)) (pe_ix (uIx (hU hr)) (pv 0) pe_int (fun _ _ => rfl)) pe_str (nomark _)) (pss_one (ps_ret (pe_call (ok_is_said T) (hr.mono (by decide)) (by rfl) T.g_is_said T.F_is_said.kp T.b_is_said .nil pass0 (pa_cons (pv 0) (pa_cons pe_int pa_nil))))) pss_nil)
 (pss_cons (ps_if (pt_cmpR (uEq (hU hr)) (pe_ix (uIx (hU hr)) (pv 0) pe_int (fun _ _ => rfl)) pe_str (nomark _)) (pss_one (ps_ret (pe_and (pe_call (ok_is_said T) (hr.mono (by decide)) (by rfl) T.g_is_said T.F_is_said.kp T.b_is_said .nil pass0 (pa_cons (pv 0) (pa_cons pe_int pa_nil))) (pe_one (pe_call (ok_is_name T) (hr.mono (by decide)) (by rfl) T.g_is_name T.F_is_name.kp T.b_is_name .nil pass0 (pa_cons (pe_ix (uIx (hU hr)) (pv 0) pe_int (fun _ _ => rfl)) pa_nil)))))) pss_nil)
 (pss_one (ps_ret (pe_and (pe_cmpR (uEq (hU hr)) (pe_ix (uIx (hU hr)) (pv 0) pe_int (fun _ _ => rfl)) pe_str (nomark _)) (pe_and (pe_cmpR (uEq (hU hr)) (pe_callB uLen (by rfl) T.z_len (by decide +kernel) (pa_cons (pv 0) pa_nil)) pe_int (nomark _)) (pe_one (pe_call (ok_is_number T) (hr.mono (by decide)) (by rfl) T.g_is_number T.F_is_number.kp T.b_is_number .nil pass0 (pa_cons (pe_ix (uIx (hU hr)) (pv 0) pe_int (fun _ _ => rfl)) pa_nil))))))))))), pure_is_entry h⟩)
theorem sc_need_entry : FnScope ["entry"] ["entry"] (defScope s_need_entry) := ⟨rfl, rfl, rfl, by decide +kernel, rfl, by decide +kernel, by decide +kernel⟩
theorem ok_need_entry (T : Txt K mg a d) : FnOk P w K mg base (L2.CX P w) 5 a.f_need_entry d.d_need_entry ["entry"] (sp_need_entry K a.C) :=
  T.F_need_entry.okX (k := 4) sc_need_entry (fun vs H Q E h => len_need_entry h) (fun cdv A outer s H vs Q E hr h => ⟨t_need_entry K a.C E, by exact
 (pss_cons (ps_if (pt_not (pt_val (pe_call (ok_is_entry T) (hr.mono (by decide)) (by rfl) T.g_is_entry T.F_is_entry.kp T.b_is_entry .nil pass0 (pa_cons (pv 0) pa_nil)))) (pss_one (ps_raiseC rfl (takes_of rfl rfl rfl rfl) T.x_BadEntry T.g_BadEntry T.kp_BadEntry T.be_BadEntry T.ty_BadEntry (by exact rfl))) pss_nil)
 (pss_one (ps_ret (pv 0)))), pure_need_entry h⟩)
theorem sc_Keeper_add : FnScope ["self", "entry"] ["self", "entry"] (defScope s_Keeper_add) := ⟨rfl, rfl, rfl, by decide +kernel, rfl, by decide +kernel, by decide +kernel⟩
theorem ok_Keeper_add (T : Txt K mg a d) : FnOk P w K mg base (L2.CX P w) 6 a.f_Keeper_add d.d_Keeper_add ["self", "entry"] (sp_Keeper_add K a.C) :=
  T.F_Keeper_add.okX (k := 5) sc_Keeper_add (fun vs H Q E h => len_Keeper_add h) (fun cdv A outer s H vs Q E hr h => ⟨t_Keeper_add K a.C E, by exact
 (pss_cons (ps_expr (pe_call (ok_need_entry T) (hr.mono (by decide)) (by rfl) T.g_need_entry T.F_need_entry.kp T.b_need_entry .nil (passes_call (takes_of rfl rfl rfl rfl) fun _ _ _ _ h => h) (pa_cons (pv 1) pa_nil)))
 (pss_cons (ps_if (pt_cmpR (uEq (hU hr)) (pe_ix (uIx (hU hr)) (pv 1) pe_int (fun _ _ => rfl)) pe_str (nomark _)) (pss_cons (ps_if (pt_cmpR uLe (pe_ix (uIx (hU hr)) (pv 1) pe_int (fun _ _ => rfl)) (pe_fld (pv 0) rfl) (nomark _)) (pss_one (ps_raiseC rfl (takes_of rfl rfl rfl rfl) T.x_Closed T.g_Closed T.kp_Closed T.be_Closed T.ty_Closed (by exact rfl))) pss_nil)
 (pss_one (ps_if (pt_cmpR uGt (pe_ix (uIx (hU hr)) (pv 1) pe_int (fun _ _ => rfl)) (pe_fld (pv 0) rfl) (nomark _)) (pss_one (ps_raiseC rfl (takes_of rfl rfl rfl rfl) T.x_NoEntry T.g_NoEntry T.kp_NoEntry T.be_NoEntry T.ty_NoEntry (by exact rfl))) pss_nil))) pss_nil)
 (pss_cons (ps_if (pt_cmpR uGe (pe_callB uLen (by rfl) T.z_len (by decide +kernel) (pa_cons (pe_fld (pv 0) rfl) pa_nil)) (pe_glob rfl T.k_MOST ⟨_, rfl⟩) (nomark _)) (pss_one (ps_raiseC rfl (takes_of rfl rfl rfl rfl) T.x_TooMany T.g_TooMany T.kp_TooMany T.be_TooMany T.ty_TooMany (by exact rfl))) pss_nil)
 (pss_cons (ps_fld (pv 0) (pe_op uAdd (pe_fld (pv 0) rfl) pe_int) rfl)
 (pss_cons (ps_asg (pv 1) (pg_sub (pe_fld (pv 0) rfl) (pe_fld (pv 0) rfl) (uSet (hU hr))))
 (pss_one (ps_ret (pe_fld (pv 0) rfl)))))))), pure_Keeper_add h⟩)
theorem sc_l_full : FnScope ["_law_keeper", "_law_many", "_law_k", "_law_day"] ["_law_keeper", "_law_many"] (defScope s_l_full) := ⟨rfl, rfl, rfl, by decide +kernel, rfl, by decide +kernel, by decide +kernel⟩
theorem ok_l_full (T : Txt K mg a d) : FnOk P w K mg base CX0 7 a.f_l_full d.d_l_full ["_law_keeper", "_law_many"] (sp_l_full K a.C) :=
  T.F_l_full.ok (k := 6) sc_l_full (fun vs H Q E h => len_l_full h) (fun cdv A outer s H vs Q E hr h => ⟨t_l_full K a.C, by exact
 (pss_cons (ps_for PassesOwn.never rfl (pi_range1 (by rfl) T.z_range (pa_cons (pv 1) pa_nil)) (pg_name (i := 2) sc_l_full.nd rfl (by first | exact Or.inl rfl | exact Or.inr rfl))
  (pss_cons (ps_set (i := 3) sc_l_full.nd rfl (by first | exact Or.inl rfl | exact Or.inr rfl) (pe_op uSub (pv 2) (pe_op uDiv (pe_op uMod (pv 2) pe_int) pe_int)))
 (pss_one (ps_expr (pe_meth (pv 0) T.c_Keeper T.m_Keeper_add (ok_Keeper_add T) (hr.mono (by decide)) T.b_Keeper_add .nil passL (pa_cons (pe_tup (pa_cons pe_str (pa_cons pe_str (pa_cons (pe_op uMul pe_int (pv 3)) (pa_cons (pe_op uAdd (pe_op uMul pe_int (pv 3)) (pe_op uMod (pv 3) pe_int)) (pa_cons (pv 3) pa_nil)))))) pa_nil))))))
 (pss_one (ps_ret (pv 1)))), pure_l_full h⟩)
theorem sc_l_entry : FnScope ["_law_names_here", "_law_base", "_law_n", "_law_number", "_law_low", "_law_high", "_law_name"] ["_law_names_here", "_law_base", "_law_n", "_law_number"] (defScope s_l_entry) := ⟨rfl, rfl, rfl, by decide +kernel, rfl, by decide +kernel, by decide +kernel⟩
theorem ok_l_entry (T : Txt K mg a d) : FnOk P w K mg base CX0 1 a.f_l_entry d.d_l_entry ["_law_names_here", "_law_base", "_law_n", "_law_number"] (sp_l_entry K a.C) :=
  T.F_l_entry.ok (k := 0) sc_l_entry (fun vs H Q E h => len_l_entry h) (fun cdv A outer s H vs Q E hr h => ⟨t_l_entry K a.C, by exact
 (pss_cons (ps_set (i := 2) sc_l_entry.nd rfl (by first | exact Or.inl rfl | exact Or.inr rfl) (pe_op uMod (pe_op uMul (pv 2) pe_int) pe_int))
 (pss_cons (ps_set (i := 4) sc_l_entry.nd rfl (by first | exact Or.inl rfl | exact Or.inr rfl) (pe_callB (call_min2 rfl) (by rfl) T.z_min (by decide +kernel) (pa_cons pe_int (pa_cons (pe_op uAdd (pv 1) (pe_op uMod (pe_op uDiv (pv 2) pe_int) (pe_ix (uIx (hU hr)) (pe_lst (pa_cons pe_int (pa_cons pe_int pa_nil))) (pe_callTy uIntC (by rfl) T.z_int (by decide +kernel) (pa_cons (pe_cmpR (uEq (hU hr)) (pe_op uMod (pe_op uDiv (pv 2) pe_int) pe_int) pe_int (nomark _)) pa_nil)) (fun _ _ => rfl)))) pa_nil))))
 (pss_cons (ps_set (i := 5) sc_l_entry.nd rfl (by first | exact Or.inl rfl | exact Or.inr rfl) (pe_callB (call_min2 rfl) (by rfl) T.z_min (by decide +kernel) (pa_cons pe_int (pa_cons (pe_op uAdd (pv 4) (pe_ix (uIx (hU hr)) (pe_lst (pa_cons pe_int (pa_cons pe_int (pa_cons pe_int (pa_cons pe_int (pa_cons pe_int (pa_cons pe_int (pa_cons pe_int (pa_cons pe_int pa_nil))))))))) (pe_op uMod (pe_op uDiv (pv 2) pe_int) pe_int) (fun _ _ => rfl))) pa_nil))))
 (pss_cons (ps_set (i := 6) sc_l_entry.nd rfl (by first | exact Or.inl rfl | exact Or.inr rfl) (pe_ix (uIx (hU hr)) (pv 0) (pe_op uMod (pe_op uDiv (pv 2) pe_int) pe_int) (fun _ _ => rfl)))
 (pss_cons (ps_if (PW.pt (pw_and (pt_cmpR uGt (pe_op uMod (pv 2) pe_int) pe_int (nomark _)) (pw_and1 (pt_cmpR uGt (pv 3) pe_int (nomark _))))) (pss_one (ps_ret (pe_tup (pa_cons pe_str (pa_cons (pe_op uAdd pe_int (pe_op uMod (pe_op uDiv (pv 2) pe_int) (pe_op uSub (pv 3) pe_int))) pa_nil))))) pss_nil)
 (pss_cons (ps_if (pt_cmpR (uEq (hU hr)) (pe_op uMod (pv 2) pe_int) pe_int (nomark _)) (pss_one (ps_ret (pe_tup (pa_cons pe_str (pa_cons (pv 6) (pa_cons (pv 4) (pa_cons (pv 5) pa_nil))))))) pss_nil)
 (pss_cons (ps_if (pt_cmpR (uIn (hU hr)) (pe_op uMod (pv 2) pe_int) (pe_tup (pa_cons pe_int (pa_cons pe_int pa_nil))) (by rfl)) (pss_one (ps_ret (pe_tup (pa_cons pe_str (pa_cons (pv 6) (pa_cons (pv 4) (pa_cons (pv 5) (pa_cons (pe_ix (uIx (hU hr)) (pv 0) (pe_op uMod (pe_op uDiv (pv 2) pe_int) pe_int) (fun _ _ => rfl)) pa_nil)))))))) pss_nil)
 (pss_one (ps_ret (pe_tup (pa_cons pe_str (pa_cons (pv 6) (pa_cons (pv 4) (pa_cons (pv 5) (pa_cons (pe_ix (uIx (hU hr)) (pe_lst (pa_cons pe_int (pa_cons pe_int (pa_cons pe_int (pa_cons pe_int (pa_cons (pe_un un_neg pe_int) (pa_cons (pe_op uSub (pe_op uMod (pv 2) pe_int) pe_int) pa_nil))))))) (pe_op uMod (pe_op uDiv (pv 2) pe_int) pe_int) (fun _ _ => rfl)) pa_nil))))))))))))))), pure_l_entry h⟩)
theorem sc_l_odd : FnScope ["_law_cell", "_law_k", "_law_given", "_law_floor", "_law_some"] ["_law_cell", "_law_k", "_law_given", "_law_floor"] (defScope s_l_odd) := ⟨rfl, rfl, rfl, by decide +kernel, rfl, by decide +kernel, by decide +kernel⟩
theorem ok_l_odd (T : Txt K mg a d) : FnOk P w K mg base CX0 1 a.f_l_odd d.d_l_odd ["_law_cell", "_law_k", "_law_given", "_law_floor"] (sp_l_odd K a.C) :=
  T.F_l_odd.ok (k := 0) sc_l_odd (fun vs H Q E h => len_l_odd h) (fun cdv A outer s H vs Q E hr h => ⟨t_l_odd K a.C, by exact
 (pss_cons (ps_set (i := 4) sc_l_odd.nd rfl (by first | exact Or.inl rfl | exact Or.inr rfl) (pe_lst (pa_cons (pe_tup (pa_cons pe_str (pa_cons (pe_callB (call_max2 rfl) (by rfl) T.z_max (by decide +kernel) (pa_cons pe_int (pa_cons (pe_op uSub (pv 3) (pe_op uMod (pv 1) pe_int)) pa_nil))) pa_nil))) (pa_cons (pe_tup (pa_cons pe_str (pa_cons (pe_op uAdd (pe_op uAdd (pv 2) pe_int) (pe_op uMod (pv 1) pe_int)) pa_nil))) (pa_cons (pe_tup (pa_cons pe_str (pa_cons pe_str (pa_cons pe_int (pa_cons pe_int pa_nil))))) (pa_cons (pe_lst (pa_cons pe_str (pa_cons pe_int pa_nil))) pa_nil))))))
 (pss_one (ps_ret (pe_ix (uIx (hU hr)) (pe_op uAdd (pv 4) (pe_lst (pa_cons (pe_tup (pa_cons pe_str (pa_cons pe_int pa_nil))) pa_nil))) (pe_op uMod (pv 0) pe_int) (fun _ _ => rfl))))), pure_l_odd h⟩)
theorem sc_Keeper_book : FnScope ["self"] ["self"] (defScope s_Keeper_book) := ⟨rfl, rfl, rfl, by decide +kernel, rfl, by decide +kernel, by decide +kernel⟩
theorem ok_Keeper_book (T : Txt K mg a d) : FnOk P w K mg base CX0 1 a.f_Keeper_book d.d_Keeper_book ["self"] (sp_Keeper_book K a.C) :=
  T.F_Keeper_book.ok (k := 0) sc_Keeper_book (fun vs H Q E h => len_Keeper_book h) (fun cdv A outer s H vs Q E hr h => ⟨t_Keeper_book K a.C, by exact
 (pss_one (ps_ret (pe_callTy (uDictC rfl) (by rfl) T.z_dict (by decide +kernel) (pa_cons (pe_fld (pv 0) rfl) pa_nil)))), pure_Keeper_book h⟩)
theorem sc_l_due : FnScope ["_law_entry_here", "_law_rows", "_law_given", "_law_floor", "_law_good"] ["_law_entry_here", "_law_rows", "_law_given", "_law_floor"] (defScope s_l_due) := ⟨rfl, rfl, rfl, by decide +kernel, rfl, by decide +kernel, by decide +kernel⟩
theorem ok_l_due (T : Txt K mg a d) : FnOk P w K mg base CX0 1 a.f_l_due d.d_l_due ["_law_entry_here", "_law_rows", "_law_given", "_law_floor"] (sp_l_due K a.C) :=
  T.F_l_due.ok (k := 0) sc_l_due (fun vs H Q E h => len_l_due h) (fun cdv A outer s H vs Q E hr h => ⟨t_l_due K a.C, by exact
 (pss_cons (ps_set (i := 4) sc_l_due.nd rfl (by first | exact Or.inl rfl | exact Or.inr rfl) (pe_and (pe_callB call_isi (by rfl) T.z_isinstance (by decide +kernel) (pa_cons (pv 0) (pa_cons (pe_bltn (by rfl) T.z_tuple (by decide +kernel) rfl) pa_nil))) (pe_one (pe_cmpR (uIn (hU hr)) (pe_ix (uIx (hU hr)) (pv 0) pe_int (fun _ _ => rfl)) (pe_tup (pa_cons pe_str (pa_cons pe_str (pa_cons pe_str (pa_cons pe_str pa_nil))))) (by rfl)))))
 (pss_cons (ps_if (PW.pt (pw_or (pt_not (pt_val (pv 4))) (pw_or (PW.pt (pw_and (pt_cmpR (uEq (hU hr)) (pe_ix (uIx (hU hr)) (pv 0) pe_int (fun _ _ => rfl)) pe_str (nomark _)) (pw_and1 (pt_cmpR (uEq (hU hr)) (pe_ix (uIx (hU hr)) (pv 0) pe_int (fun _ _ => rfl)) pe_int (nomark _))))) (pw_or1 (PW.pt (pw_and (pt_cmpR (uEq (hU hr)) (pe_ix (uIx (hU hr)) (pv 0) pe_int (fun _ _ => rfl)) pe_str (nomark _)) (pw_and1 (pt_cmpR uGt (pe_ix (uIx (hU hr)) (pv 0) pe_int (fun _ _ => rfl)) (pe_ix (uIx (hU hr)) (pv 0) pe_int (fun _ _ => rfl)) (nomark _))))))))) (pss_one (ps_ret (pe_tup (pa_cons pe_str pa_nil)))) pss_nil)
 (pss_cons (ps_if (PW.pt (pw_and (pt_cmpR (uEq (hU hr)) (pe_ix (uIx (hU hr)) (pv 0) pe_int (fun _ _ => rfl)) pe_str (nomark _)) (pw_and1 (pt_cmpR uLe (pe_ix (uIx (hU hr)) (pv 0) pe_int (fun _ _ => rfl)) (pv 3) (nomark _))))) (pss_one (ps_ret (pe_tup (pa_cons pe_str pa_nil)))) pss_nil)
 (pss_cons (ps_if (PW.pt (pw_and (pt_cmpR (uEq (hU hr)) (pe_ix (uIx (hU hr)) (pv 0) pe_int (fun _ _ => rfl)) pe_str (nomark _)) (pw_and1 (pt_cmpR uGt (pe_ix (uIx (hU hr)) (pv 0) pe_int (fun _ _ => rfl)) (pv 2) (nomark _))))) (pss_one (ps_ret (pe_tup (pa_cons pe_str pa_nil)))) pss_nil)
 (pss_cons (ps_if (pt_cmpR uGe (pe_callB uLen (by rfl) T.z_len (by decide +kernel) (pa_cons (pv 1) pa_nil)) pe_int (nomark _)) (pss_one (ps_ret (pe_tup (pa_cons pe_str pa_nil)))) pss_nil)
 (pss_one (ps_ret (pe_op uAdd (pv 2) pe_int)))))))), pure_l_due h⟩)
theorem sc_l_word : FnScope ["_law_e", "_law_kinds"] ["_law_e"] (defScope s_l_word) := ⟨rfl, rfl, rfl, by decide +kernel, rfl, by decide +kernel, by decide +kernel⟩
theorem okP_l_word (T : Txt K mg a d) {a0 : Addr} {oe : Obj} {cls : Value} {d0 : Option Addr} (hz : Zc cls d0 oe) (hf : ∃ vs, oe.data = .fields vs) : FnP P w K mg base 1 a.f_l_word d.d_l_word ["_law_e"] (a0, oe) (sp_l_word K a.C a0 cls d0) :=
  fun_okP (k := 0) T.F_l_word sc_l_word (fun vs H Q E h => len_l_word h) (fun cdv A outer s H vs Q E hr h => ⟨t_l_word K a.C a0 cls d0, by exact
 (pss_cons (ps_set (i := 1) sc_l_word.nd rfl (by first | exact Or.inl rfl | exact Or.inr rfl) (pe_lst (pa_cons (pe_callB (call_isExP hz hf List.mem_cons_self) (by rfl) T.z_isinstance (by decide +kernel) (pa_cons (pv 0) (pa_cons (pe_glob rfl T.g_BadEntry rfl) pa_nil))) (pa_cons (pe_callB (call_isExP hz hf List.mem_cons_self) (by rfl) T.z_isinstance (by decide +kernel) (pa_cons (pv 0) (pa_cons (pe_glob rfl T.g_Closed rfl) pa_nil))) (pa_cons (pe_callB (call_isExP hz hf List.mem_cons_self) (by rfl) T.z_isinstance (by decide +kernel) (pa_cons (pv 0) (pa_cons (pe_glob rfl T.g_NoEntry rfl) pa_nil))) (pa_cons (pe_callB (call_isExP hz hf List.mem_cons_self) (by rfl) T.z_isinstance (by decide +kernel) (pa_cons (pv 0) (pa_cons (pe_glob rfl T.g_TooMany rfl) pa_nil))) pa_nil))))))
 (pss_cons (ps_set (i := 1) sc_l_word.nd rfl (by first | exact Or.inl rfl | exact Or.inr rfl) (pe_op uAdd (pv 1) (pe_lst (pa_cons (pe_callB (call_isExP hz hf List.mem_cons_self) (by rfl) T.z_isinstance (by decide +kernel) (pa_cons (pv 0) (pa_cons (pe_glob rfl T.g_Gone rfl) pa_nil))) (pa_cons (pe_callB (call_isExP hz hf List.mem_cons_self) (by rfl) T.z_isinstance (by decide +kernel) (pa_cons (pv 0) (pa_cons (pe_glob rfl T.g_BadBook rfl) pa_nil))) (pa_cons (pe_callB (call_isExP hz hf List.mem_cons_self) (by rfl) T.z_isinstance (by decide +kernel) (pa_cons (pv 0) (pa_cons (pe_glob rfl T.g_BadText rfl) pa_nil))) pa_nil))))))
 (pss_cons (ps_if (PW.pt (pw_or (pt_cmpR (uNe (hUH hr)) (pe_bm PySem.F.plainAttrs_list PySem.F.slot_list_count PySem.F.type_list_count mt_countB (pv 1) (pa_cons pe_bl pa_nil)) pe_int (nomark _)) (pw_or1 (pt_not (pt_val (pe_callB (call_isExP hz hf List.mem_cons_self) (by rfl) T.z_isinstance (by decide +kernel) (pa_cons (pv 0) (pa_cons (pe_bltn (by rfl) T.z_ValueError (by decide +kernel) rfl) pa_nil)))))))) (pss_one (ps_ret (pe_tup (pa_cons pe_str pa_nil)))) pss_nil)
 (pss_one (ps_ret (pe_tup (pa_cons (pe_ix (uIx (hUH hr)) (pe_lst (pa_cons pe_str (pa_cons pe_str (pa_cons pe_str (pa_cons pe_str (pa_cons pe_str (pa_cons pe_str (pa_cons pe_str pa_nil)))))))) (pe_bm PySem.F.plainAttrs_list PySem.F.slot_list_index PySem.F.type_list_index mt_index (pv 1) (pa_cons pe_bl pa_nil)) (fun _ _ => rfl)) pa_nil))))))), pure_l_word h⟩) (fun _ _ => rfl)
theorem sc_l_added : FnScope ["_law_keeper", "_law_entry_here", "_law_e"] ["_law_keeper", "_law_entry_here"] (defScope s_l_added) := ⟨rfl, rfl, rfl, by decide +kernel, rfl, by decide +kernel, by decide +kernel⟩
theorem ok_l_added (T : Txt K mg a d) : FnOk P w K mg base CX0 7 a.f_l_added d.d_l_added ["_law_keeper", "_law_entry_here"] (sp_l_added K a.C) :=
  T.F_l_added.ok (k := 6) sc_l_added (fun vs H Q E h => len_l_added h) (fun cdv A outer s H vs Q E hr h => ⟨t_l_added K a.C, by exact
 (pss_one (ps_tryAs (i := 2) rfl rfl sc_l_added.nd rfl rfl rfl (by decide) T.g_BookError (fun W pn xe tk _ => (pss_one (ps_ret (pe_methS (pv 0) T.c_Keeper T.m_Keeper_add (ok_Keeper_add T) (hr.mono (by decide)) T.b_Keeper_add (fun σ => passAt tk σ) (pa_cons (pv 1) pa_nil))))) (fun a oe cls d pn hz hf => (pss_one (ps_ret (pe_callP (okP_l_word T hz hf) ((roomH_mark (L2H.roomH_of hr)).mono (by decide)) List.mem_cons_self (by rfl) T.g_l_word T.F_l_word.kp T.b_l_word (pa_cons (pv 2) pa_nil))))))), pure_l_added ⟨T.ef_BadEntry, T.ef_NoEntry, T.ef_Closed, T.ef_TooMany, T.ef_Gone⟩ h⟩)
theorem sc_Keeper_last : FnScope ["self"] ["self"] (defScope s_Keeper_last) := ⟨rfl, rfl, rfl, by decide +kernel, rfl, by decide +kernel, by decide +kernel⟩
theorem ok_Keeper_last (T : Txt K mg a d) : FnOk P w K mg base CX0 1 a.f_Keeper_last d.d_Keeper_last ["self"] (sp_Keeper_last K a.C) :=
  T.F_Keeper_last.ok (k := 0) sc_Keeper_last (fun vs H Q E h => len_Keeper_last h) (fun cdv A outer s H vs Q E hr h => ⟨t_Keeper_last K a.C, by exact
 (pss_one (ps_ret (pe_fld (pv 0) rfl))), pure_Keeper_last h⟩)
theorem sc_Keeper_floor : FnScope ["self"] ["self"] (defScope s_Keeper_floor) := ⟨rfl, rfl, rfl, by decide +kernel, rfl, by decide +kernel, by decide +kernel⟩
theorem ok_Keeper_floor (T : Txt K mg a d) : FnOk P w K mg base CX0 1 a.f_Keeper_floor d.d_Keeper_floor ["self"] (sp_Keeper_floor K a.C) :=
  T.F_Keeper_floor.ok (k := 0) sc_Keeper_floor (fun vs H Q E h => len_Keeper_floor h) (fun cdv A outer s H vs Q E hr h => ⟨t_Keeper_floor K a.C, by exact
 (pss_one (ps_ret (pe_fld (pv 0) rfl))), pure_Keeper_floor h⟩)
theorem sc_counting : FnScope ["book", "n", "undone", "found", "number"] ["book", "n"] (defScope s_counting) := ⟨rfl, rfl, rfl, by decide +kernel, rfl, by decide +kernel, by decide +kernel⟩
theorem ok_counting (T : Txt K mg a d) : FnOk P w K mg base CX0 1 a.f_counting d.d_counting ["book", "n"] (sp_counting K a.C) :=
  T.F_counting.ok (k := 0) sc_counting (fun vs H Q E h => len_counting h) (fun cdv A outer s H vs Q E hr h => ⟨t_counting K a.C, by exact
 (pss_cons (ps_set (i := 2) sc_counting.nd rfl (by first | exact Or.inl rfl | exact Or.inr rfl) pe_dnewK)
 (pss_cons (ps_set (i := 3) sc_counting.nd rfl (by first | exact Or.inl rfl | exact Or.inr rfl) (pe_lst pa_nil))
 (pss_cons (ps_for PassesOwn.never rfl (pi_list (pe_callBK (cr_sortRev rfl) (by rfl) T.z_sorted (by decide +kernel) (pa_cons (pv 0) pa_nil) (pk_cons pe_bl pk_nil))) (pg_name (i := 4) sc_counting.nd rfl (by first | exact Or.inl rfl | exact Or.inr rfl))
  (pss_one (ps_if (PW.pt (pw_and (pt_cmpR uLe (pv 4) (pv 1) (nomark _)) (pw_and1 (pt_cmpR (uNi (hU hr)) (pv 4) (pv 2) (by rfl))))) (pss_cons (ps_expr (pe_bm PySem.F.plainAttrs_list PySem.F.slot_list_append PySem.F.type_list_append mt_append (pv 3) (pa_cons (pv 4) pa_nil)))
 (pss_one (ps_if (pt_cmpR (uEq (hU hr)) (pe_ix (uIx (hU hr)) (pe_ix (uIx (hU hr)) (pv 0) (pv 4) (fun _ _ => rfl)) pe_int (fun _ _ => rfl)) pe_str (nomark _)) (pss_one (ps_asg pe_bl (pg_sub (pv 2) (pe_ix (uIx (hU hr)) (pe_ix (uIx (hU hr)) (pv 0) (pv 4) (fun _ _ => rfl)) pe_int (fun _ _ => rfl)) (uSet (hU hr))))) pss_nil))) pss_nil)))
 (pss_one (ps_ret (pe_revA (pv 3))))))), pure_counting h⟩)
theorem sc_left_of : FnScope ["book", "numbers", "number"] ["book", "numbers"] (defScope s_left_of) := ⟨rfl, rfl, rfl, by decide +kernel, rfl, by decide +kernel, by decide +kernel⟩
theorem ok_left_of (T : Txt K mg a d) : FnOk P w K mg base CX0 1 a.f_left_of d.d_left_of ["book", "numbers"] (sp_left_of K a.C) :=
  T.F_left_of.ok (k := 0) sc_left_of (fun vs H Q E h => len_left_of h) (fun cdv A outer s H vs Q E hr h => ⟨t_left_of K a.C, by exact
 (pss_one (ps_ret (pe_callTy (uDictC rfl) (by rfl) T.z_dict (by decide +kernel) (pa_cons (pe_lc (own := [("number", 2)]) rfl sc_left_of.nd (pi_list (pv 1)) (blkOk_by (own := [("number", 2)]) (N := ["book", "numbers", "number"]) (sc := defScope s_left_of) (by decide +kernel)) (fun _ _ _ _ _ => (pg_name (i := 2) sc_left_of.nd rfl (by first | exact Or.inl rfl | exact Or.inr rfl))) (fun _ _ _ _ _ => pts_nil) (fun _ _ _ _ _ => (pe_tup (pa_cons (pv 2) (pa_cons (pe_ix (uIx (hU hr)) (pv 0) (pv 2) (fun _ _ => rfl)) pa_nil))))) pa_nil)))), pure_left_of h⟩)
theorem sc_names_in : FnScope ["book", "found", "number"] ["book"] (defScope s_names_in) := ⟨rfl, rfl, rfl, by decide +kernel, rfl, by decide +kernel, by decide +kernel⟩
theorem ok_names_in (T : Txt K mg a d) : FnOk P w K mg base CX0 1 a.f_names_in d.d_names_in ["book"] (sp_names_in K a.C) :=
  T.F_names_in.ok (k := 0) sc_names_in (fun vs H Q E h => len_names_in h) (fun cdv A outer s H vs Q E hr h => ⟨t_names_in K a.C, by exact
 (pss_cons (ps_set (i := 1) sc_names_in.nd rfl (by first | exact Or.inl rfl | exact Or.inr rfl) pe_dnewK)
 (pss_cons (ps_lock (ps_for PassesOwn.never rfl (pi_keys (pv 0)) (pg_name (i := 2) sc_names_in.nd rfl (by first | exact Or.inl rfl | exact Or.inr rfl))
  (pss_one (ps_if (pt_cmpR (uNe (hU hr)) (pe_ix (uIx (hU hr)) (pe_ix (uIx (hU hr)) (pv 0) (pv 2) (fun _ _ => rfl)) pe_int (fun _ _ => rfl)) pe_str (nomark _)) (pss_one (ps_asg pe_bl (pg_sub (pv 1) (pe_ix (uIx (hU hr)) (pe_ix (uIx (hU hr)) (pv 0) (pv 2) (fun _ _ => rfl)) pe_int (fun _ _ => rfl)) (uSet (hU hr))))) pss_nil))))
 (pss_one (ps_ret (pe_callB (uSorted rfl) (by rfl) T.z_sorted (by decide +kernel) (pa_cons (pv 1) pa_nil)))))), pure_names_in h⟩)
theorem sc_begins_of : FnScope ["book", "numbers", "low", "high", "found", "number", "day"] ["book", "numbers", "low", "high"] (defScope s_begins_of) := ⟨rfl, rfl, rfl, by decide +kernel, rfl, by decide +kernel, by decide +kernel⟩
theorem ok_begins_of (T : Txt K mg a d) : FnOk P w K mg base CX0 1 a.f_begins_of d.d_begins_of ["book", "numbers", "low", "high"] (sp_begins_of K a.C) :=
  T.F_begins_of.ok (k := 0) sc_begins_of (fun vs H Q E h => len_begins_of h) (fun cdv A outer s H vs Q E hr h => ⟨t_begins_of K a.C, by exact
 (pss_cons (ps_set (i := 4) sc_begins_of.nd rfl (by first | exact Or.inl rfl | exact Or.inr rfl) (pe_disp (pps_cons (pv 2) pe_bl pps_nil) (by rfl) (by rfl) (fun z => by cases z) (by decide)))
 (pss_cons (ps_for PassesOwn.never rfl (pi_list (pv 1)) (pg_name (i := 5) sc_begins_of.nd rfl (by first | exact Or.inl rfl | exact Or.inr rfl))
  (pss_one (ps_if (pt_cmpR (uNe (hU hr)) (pe_ix (uIx (hU hr)) (pe_ix (uIx (hU hr)) (pv 0) (pv 5) (fun _ _ => rfl)) pe_int (fun _ _ => rfl)) pe_str (nomark _)) (pss_one (ps_for PassesOwn.never rfl (pi_tup (pe_tup (pa_cons (pe_ix (uIx (hU hr)) (pe_ix (uIx (hU hr)) (pv 0) (pv 5) (fun _ _ => rfl)) pe_int (fun _ _ => rfl)) (pa_cons (pe_op uAdd (pe_ix (uIx (hU hr)) (pe_ix (uIx (hU hr)) (pv 0) (pv 5) (fun _ _ => rfl)) pe_int (fun _ _ => rfl)) pe_int) pa_nil)))) (pg_name (i := 6) sc_begins_of.nd rfl (by first | exact Or.inl rfl | exact Or.inr rfl))
  (pss_one (ps_if (pt_chain uLe uLe (pv 2) (pv 6) (pv 3)) (pss_one (ps_asg pe_bl (pg_sub (pv 4) (pv 6) (uSet (hU hr))))) pss_nil)))) pss_nil)))
 (pss_one (ps_ret (pe_callB (uSorted rfl) (by rfl) T.z_sorted (by decide +kernel) (pa_cons (pv 4) pa_nil)))))), pure_begins_of h⟩)
theorem sc_said_of : FnScope ["book", "numbers", "name", "day", "number", "entry"] ["book", "numbers", "name", "day"] (defScope s_said_of) := ⟨rfl, rfl, rfl, by decide +kernel, rfl, by decide +kernel, by decide +kernel⟩
theorem ok_said_of (T : Txt K mg a d) : FnOk P w K mg base CX0 1 a.f_said_of d.d_said_of ["book", "numbers", "name", "day"] (sp_said_of K a.C) :=
  T.F_said_of.ok (k := 0) sc_said_of (fun vs H Q E h => len_said_of h) (fun cdv A outer s H vs Q E hr h => ⟨t_said_of K a.C, by exact
 (pss_cons (ps_for PassesOwn.never rfl (pi_reversed (by rfl) T.z_reversed (pa_cons (pv 1) pa_nil)) (pg_name (i := 4) sc_said_of.nd rfl (by first | exact Or.inl rfl | exact Or.inr rfl))
  (pss_cons (ps_set (i := 5) sc_said_of.nd rfl (by first | exact Or.inl rfl | exact Or.inr rfl) (pe_ix (uIx (hU hr)) (pv 0) (pv 4) (fun _ _ => rfl)))
 (pss_one (ps_if (PW.pt (pw_and (pt_cmpR (uNe (hU hr)) (pe_ix (uIx (hU hr)) (pv 5) pe_int (fun _ _ => rfl)) pe_str (nomark _)) (pw_and (pt_cmpR (uEq (hU hr)) (pe_ix (uIx (hU hr)) (pv 5) pe_int (fun _ _ => rfl)) (pv 2) (nomark _)) (pw_and1 (pt_chain uLe uLe (pe_ix (uIx (hU hr)) (pv 5) pe_int (fun _ _ => rfl)) (pv 3) (pe_ix (uIx (hU hr)) (pv 5) pe_int (fun _ _ => rfl))))))) (pss_cons (ps_if (pt_cmpR (uEq (hU hr)) (pe_ix (uIx (hU hr)) (pv 5) pe_int (fun _ _ => rfl)) pe_str (nomark _)) (pss_one (ps_ret (pe_ix (uIx (hU hr)) (pv 5) pe_int (fun _ _ => rfl)))) pss_nil)
 (pss_cons (ps_if (pt_cmpR (uEq (hU hr)) (pe_ix (uIx (hU hr)) (pv 5) pe_int (fun _ _ => rfl)) pe_str (nomark _)) (pss_one (ps_ret pe_non)) pss_nil)
 (pss_one (ps_set (i := 2) sc_said_of.nd rfl (by first | exact Or.inl rfl | exact Or.inr rfl) (pe_ix (uIx (hU hr)) (pv 5) pe_int (fun _ _ => rfl)))))) pss_nil))))
 (pss_one (ps_ret pe_non))), pure_said_of h⟩)
theorem sc_all_said : FnScope ["book", "names", "days", "numbers", "day", "name"] ["book", "names", "days"] (defScope s_all_said) := ⟨rfl, rfl, rfl, by decide +kernel, rfl, by decide +kernel, by decide +kernel⟩
theorem ok_all_said (T : Txt K mg a d) : FnOk P w K mg base CX0 2 a.f_all_said d.d_all_said ["book", "names", "days"] (sp_all_said K a.C) :=
  T.F_all_said.ok (k := 1) sc_all_said (fun vs H Q E h => len_all_said h) (fun cdv A outer s H vs Q E hr h => ⟨t_all_said K a.C, by exact
 (pss_cons (ps_set (i := 3) sc_all_said.nd rfl (by first | exact Or.inl rfl | exact Or.inr rfl) (pe_callB (uSorted rfl) (by rfl) T.z_sorted (by decide +kernel) (pa_cons (pv 0) pa_nil)))
 (pss_one (ps_ret (pe_lc (own := [("day", 4)]) rfl sc_all_said.nd (pi_list (pv 2)) (blkOk_by (own := [("day", 4)]) (N := ["book", "names", "days", "numbers", "day", "name"]) (sc := defScope s_all_said) (by decide +kernel)) (fun _ _ _ _ _ => (pg_name (i := 4) sc_all_said.nd rfl (by first | exact Or.inl rfl | exact Or.inr rfl))) (fun _ _ _ _ _ => pts_nil) (fun _ _ _ _ _ => (pe_lc (own := [("name", 5)]) rfl sc_all_said.nd (pi_list (pv 1)) (blkOk_by (own := [("name", 5)]) (N := ["book", "names", "days", "numbers", "day", "name"]) (sc := scDay) (by decide +kernel)) (fun _ _ _ _ _ => (pg_name (i := 5) sc_all_said.nd rfl (by first | exact Or.inl rfl | exact Or.inr rfl))) (fun _ _ _ _ _ => pts_nil) (fun _ _ _ _ _ => (pe_call (ok_said_of T) (hr.mono (by decide)) (by rfl) T.g_said_of T.F_said_of.kp T.b_said_of .nil pass0 (pa_cons (pv 0) (pa_cons (pv 3) (pa_cons (pv 5) (pa_cons (pv 4) pa_nil)))))))))))), pure_all_said h⟩)
theorem sc_without : FnScope ["book", "number", "other"] ["book", "number"] (defScope s_without) := ⟨rfl, rfl, rfl, by decide +kernel, rfl, by decide +kernel, by decide +kernel⟩
theorem ok_without (T : Txt K mg a d) : FnOk P w K mg base CX0 2 a.f_without d.d_without ["book", "number"] (sp_without K a.C) :=
  T.F_without.ok (k := 1) sc_without (fun vs H Q E h => len_without h) (fun cdv A outer s H vs Q E hr h => ⟨t_without K a.C, by exact
 (pss_one (ps_ret (pe_call (ok_left_of T) (hr.mono (by decide)) (by rfl) T.g_left_of T.F_left_of.kp T.b_left_of .nil pass0 (pa_cons (pv 0) (pa_cons (pe_lock (pe_lc (own := [("other", 2)]) rfl sc_without.nd (pi_keys (pv 0)) (blkOk_by (own := [("other", 2)]) (N := ["book", "number", "other"]) (sc := defScope s_without) (by decide +kernel)) (fun _ _ _ _ _ => (pg_name (i := 2) sc_without.nd rfl (by first | exact Or.inl rfl | exact Or.inr rfl))) (fun _ _ _ _ _ => (pts_one (pt_cmpR (uNe (hU hr)) (pv 2) (pv 1) (nomark _)))) (fun _ _ _ _ _ => (pv 2)))) pa_nil))))), pure_without h⟩)
theorem sc_is_needless : FnScope ["book", "number", "names", "days"] ["book", "number", "names"] (defScope s_is_needless) := ⟨rfl, rfl, rfl, by decide +kernel, rfl, by decide +kernel, by decide +kernel⟩
theorem ok_is_needless (T : Txt K mg a d) : FnOk P w K mg base CX0 3 a.f_is_needless d.d_is_needless ["book", "number", "names"] (sp_is_needless K a.C) :=
  T.F_is_needless.ok (k := 2) sc_is_needless (fun vs H Q E h => len_is_needless h) (fun cdv A outer s H vs Q E hr h => ⟨t_is_needless K a.C, by exact
 (pss_cons (ps_set (i := 3) sc_is_needless.nd rfl (by first | exact Or.inl rfl | exact Or.inr rfl) (pe_call (ok_begins_of T) (hr.mono (by decide)) (by rfl) T.g_begins_of T.F_begins_of.kp T.b_begins_of .nil pass0 (pa_cons (pv 0) (pa_cons (pe_callB (uSorted rfl) (by rfl) T.z_sorted (by decide +kernel) (pa_cons (pv 0) pa_nil)) (pa_cons (pe_ix (uIx (hU hr)) (pe_ix (uIx (hU hr)) (pv 0) (pv 1) (fun _ _ => rfl)) pe_int (fun _ _ => rfl)) (pa_cons (pe_ix (uIx (hU hr)) (pe_ix (uIx (hU hr)) (pv 0) (pv 1) (fun _ _ => rfl)) pe_int (fun _ _ => rfl)) pa_nil))))))
 (pss_one (ps_ret (pe_cmpR (uEq (hU hr)) (pe_call (ok_all_said T) (hr.mono (by decide)) (by rfl) T.g_all_said T.F_all_said.kp T.b_all_said .nil pass0 (pa_cons (pe_call (ok_without T) (hr.mono (by decide)) (by rfl) T.g_without T.F_without.kp T.b_without .nil pass0 (pa_cons (pv 0) (pa_cons (pv 1) pa_nil))) (pa_cons (pv 2) (pa_cons (pv 3) pa_nil)))) (pe_call (ok_all_said T) (hr.mono (by decide)) (by rfl) T.g_all_said T.F_all_said.kp T.b_all_said .nil pass0 (pa_cons (pv 0) (pa_cons (pv 2) (pa_cons (pv 3) pa_nil)))) (nomark _))))), pure_is_needless h⟩)
theorem sc_shortened : FnScope ["book", "numbers", "left", "names", "many", "number"] ["book"] (defScope s_shortened) := ⟨rfl, rfl, rfl, by decide +kernel, rfl, by decide +kernel, by decide +kernel⟩
theorem ok_shortened (T : Txt K mg a d) : FnOk P w K mg base CX0 4 a.f_shortened d.d_shortened ["book"] (sp_shortened K a.C) :=
  T.F_shortened.ok (k := 3) sc_shortened (fun vs H Q E h => len_shortened h) (fun cdv A outer s H vs Q E hr h => ⟨t_shortened K a.C, by exact
 (pss_cons (ps_set (i := 1) sc_shortened.nd rfl (by first | exact Or.inl rfl | exact Or.inr rfl) (pe_call (ok_counting T) (hr.mono (by decide)) (by rfl) T.g_counting T.F_counting.kp T.b_counting .nil pass0 (pa_cons (pv 0) (pa_cons (pe_callBK (cr_maxD rfl) (by rfl) T.z_max (by decide +kernel) (pa_cons (pv 0) pa_nil) (pk_cons pe_int pk_nil)) pa_nil))))
 (pss_cons (ps_set (i := 2) sc_shortened.nd rfl (by first | exact Or.inl rfl | exact Or.inr rfl) (pe_call (ok_left_of T) (hr.mono (by decide)) (by rfl) T.g_left_of T.F_left_of.kp T.b_left_of .nil pass0 (pa_cons (pv 0) (pa_cons (pe_lc (own := [("number", 5)]) rfl sc_shortened.nd (pi_list (pv 1)) (blkOk_by (own := [("number", 5)]) (N := ["book", "numbers", "left", "names", "many", "number"]) (sc := defScope s_shortened) (by decide +kernel)) (fun _ _ _ _ _ => (pg_name (i := 5) sc_shortened.nd rfl (by first | exact Or.inl rfl | exact Or.inr rfl))) (fun _ _ _ _ _ => (pts_one (pt_cmpR (uNe (hU hr)) (pe_ix (uIx (hU hr)) (pe_ix (uIx (hU hr)) (pv 0) (pv 5) (fun _ _ => rfl)) pe_int (fun _ _ => rfl)) pe_str (nomark _)))) (fun _ _ _ _ _ => (pv 5))) pa_nil))))
 (pss_cons (ps_set (i := 3) sc_shortened.nd rfl (by first | exact Or.inl rfl | exact Or.inr rfl) (pe_call (ok_names_in T) (hr.mono (by decide)) (by rfl) T.g_names_in T.F_names_in.kp T.b_names_in .nil pass0 (pa_cons (pv 2) pa_nil)))
 (pss_cons (ps_set (i := 4) sc_shortened.nd rfl (by first | exact Or.inl rfl | exact Or.inr rfl) (pe_op uAdd (pe_callB uLen (by rfl) T.z_len (by decide +kernel) (pa_cons (pv 2) pa_nil)) pe_int))
 (pss_cons (ps_while PassesOwn.never (pt_cmpR uLt (pe_callB uLen (by rfl) T.z_len (by decide +kernel) (pa_cons (pv 2) pa_nil)) (pv 4) (nomark _)) (pss_cons (ps_set (i := 4) sc_shortened.nd rfl (by first | exact Or.inl rfl | exact Or.inr rfl) (pe_callB uLen (by rfl) T.z_len (by decide +kernel) (pa_cons (pv 2) pa_nil)))
 (pss_one (ps_for PassesOwn.never rfl (pi_list (pe_callB (uSorted rfl) (by rfl) T.z_sorted (by decide +kernel) (pa_cons (pv 2) pa_nil))) (pg_name (i := 5) sc_shortened.nd rfl (by first | exact Or.inl rfl | exact Or.inr rfl))
  (pss_one (ps_if (pt_val (pe_call (ok_is_needless T) (hr.mono (by decide)) (by rfl) T.g_is_needless T.F_is_needless.kp T.b_is_needless .nil pass0 (pa_cons (pv 2) (pa_cons (pv 5) (pa_cons (pv 3) pa_nil))))) (pss_one (ps_set (i := 2) sc_shortened.nd rfl (by first | exact Or.inl rfl | exact Or.inr rfl) (pe_call (ok_without T) (hr.mono (by decide)) (by rfl) T.g_without T.F_without.kp T.b_without .nil pass0 (pa_cons (pv 2) (pa_cons (pv 5) pa_nil))))) pss_nil))))))
 (pss_one (ps_ret (pv 2)))))))), pure_shortened h⟩)
theorem sc_Keeper_shorten : FnScope ["self", "many"] ["self"] (defScope s_Keeper_shorten) := ⟨rfl, rfl, rfl, by decide +kernel, rfl, by decide +kernel, by decide +kernel⟩
theorem ok_Keeper_shorten (T : Txt K mg a d) : FnOk P w K mg base CX0 5 a.f_Keeper_shorten d.d_Keeper_shorten ["self"] (sp_Keeper_shorten K a.C) :=
  T.F_Keeper_shorten.ok (k := 4) sc_Keeper_shorten (fun vs H Q E h => len_Keeper_shorten h) (fun cdv A outer s H vs Q E hr h => ⟨t_Keeper_shorten K a.C, by exact
 (pss_cons (ps_set (i := 1) sc_Keeper_shorten.nd rfl (by first | exact Or.inl rfl | exact Or.inr rfl) (pe_callB uLen (by rfl) T.z_len (by decide +kernel) (pa_cons (pe_fld (pv 0) rfl) pa_nil)))
 (pss_cons (ps_fld (pv 0) (pe_call (ok_shortened T) (hr.mono (by decide)) (by rfl) T.g_shortened T.F_shortened.kp T.b_shortened .nil pass0 (pa_cons (pe_fld (pv 0) rfl) pa_nil)) rfl)
 (pss_cons (ps_fld (pv 0) (pe_fld (pv 0) rfl) rfl)
 (pss_one (ps_ret (pe_op uSub (pv 1) (pe_callB uLen (by rfl) T.z_len (by decide +kernel) (pa_cons (pe_fld (pv 0) rfl) pa_nil)))))))), pure_Keeper_shorten h⟩)
theorem sc_l_whole : FnScope ["_law_found"] ["_law_found"] (defScope s_l_whole) := ⟨rfl, rfl, rfl, by decide +kernel, rfl, by decide +kernel, by decide +kernel⟩
theorem ok_l_whole (T : Txt K mg a d) : FnOk P w K mg base CX0 1 a.f_l_whole d.d_l_whole ["_law_found"] (sp_l_whole K a.C) :=
  T.F_l_whole.ok (k := 0) sc_l_whole (fun vs H Q E h => len_l_whole h) (fun cdv A outer s H vs Q E hr h => ⟨t_l_whole K a.C, by exact
 (pss_one (ps_ret (pe_and (pe_callB call_isi (by rfl) T.z_isinstance (by decide +kernel) (pa_cons (pv 0) (pa_cons (pe_bltn (by rfl) T.z_int (by decide +kernel) rfl) pa_nil))) (pe_one (pe_not (pe_callB call_isi (by rfl) T.z_isinstance (by decide +kernel) (pa_cons (pv 0) (pa_cons (pe_bltn (by rfl) T.z_bool (by decide +kernel) rfl) pa_nil)))))))), pure_l_whole h⟩)
theorem sc_Keeper_need_known : FnScope ["self", "n"] ["self", "n"] (defScope s_Keeper_need_known) := ⟨rfl, rfl, rfl, by decide +kernel, rfl, by decide +kernel, by decide +kernel⟩
theorem ok_Keeper_need_known (T : Txt K mg a d) : FnOk P w K mg base (L2.CX P w) 1 a.f_Keeper_need_known d.d_Keeper_need_known ["self", "n"] (sp_Keeper_need_known K a.C) :=
  T.F_Keeper_need_known.okX (k := 0) sc_Keeper_need_known (fun vs H Q E h => len_Keeper_need_known h) (fun cdv A outer s H vs Q E hr h => ⟨t_Keeper_need_known K a.C E, by exact
 (pss_one (ps_if (pt_cmpR uLt (pv 1) (pe_fld (pv 0) rfl) (nomark _)) (pss_one (ps_raiseC rfl (takes_of rfl rfl rfl rfl) T.x_Gone T.g_Gone T.kp_Gone T.be_Gone T.ty_Gone (by exact rfl))) pss_nil)), pure_Keeper_need_known h⟩)
theorem sc_worth_of : FnScope ["book", "n", "name", "day"] ["book", "n", "name", "day"] (defScope s_worth_of) := ⟨rfl, rfl, rfl, by decide +kernel, rfl, by decide +kernel, by decide +kernel⟩
theorem ok_worth_of (T : Txt K mg a d) : FnOk P w K mg base CX0 2 a.f_worth_of d.d_worth_of ["book", "n", "name", "day"] (sp_worth_of K a.C) :=
  T.F_worth_of.ok (k := 1) sc_worth_of (fun vs H Q E h => len_worth_of h) (fun cdv A outer s H vs Q E hr h => ⟨t_worth_of K a.C, by exact
 (pss_one (ps_ret (pe_call (ok_said_of T) (hr.mono (by decide)) (by rfl) T.g_said_of T.F_said_of.kp T.b_said_of .nil pass0 (pa_cons (pv 0) (pa_cons (pe_call (ok_counting T) (hr.mono (by decide)) (by rfl) T.g_counting T.F_counting.kp T.b_counting .nil pass0 (pa_cons (pv 0) (pa_cons (pv 1) pa_nil))) (pa_cons (pv 2) (pa_cons (pv 3) pa_nil))))))), pure_worth_of h⟩)
theorem sc_Keeper_worth : FnScope ["self", "n", "name", "day"] ["self", "n", "name", "day"] (defScope s_Keeper_worth) := ⟨rfl, rfl, rfl, by decide +kernel, rfl, by decide +kernel, by decide +kernel⟩
theorem ok_Keeper_worth (T : Txt K mg a d) : FnOk P w K mg base (L2.CX P w) 3 a.f_Keeper_worth d.d_Keeper_worth ["self", "n", "name", "day"] (sp_Keeper_worth K a.C) :=
  T.F_Keeper_worth.okX (k := 2) sc_Keeper_worth (fun vs H Q E h => len_Keeper_worth h) (fun cdv A outer s H vs Q E hr h => ⟨t_Keeper_worth K a.C E, by exact
 (pss_cons (ps_expr (pe_meth (pv 0) T.c_Keeper T.m_Keeper_need_known (ok_Keeper_need_known T) (hr.mono (by decide)) T.b_Keeper_need_known .nil (passes_call (takes_of rfl rfl rfl rfl) fun _ _ _ _ h => h) (pa_cons (pv 1) pa_nil)))
 (pss_one (ps_ret (pe_call (ok_worth_of T) (hr.mono (by decide)) (by rfl) T.g_worth_of T.F_worth_of.kp T.b_worth_of .nil pass0 (pa_cons (pe_fld (pv 0) rfl) (pa_cons (pv 1) (pa_cons (pv 2) (pa_cons (pv 3) pa_nil)))))))), pure_Keeper_worth h⟩)
theorem sc_stretches : FnScope ["rows", "high", "found", "place", "pair", "last"] ["rows", "high"] (defScope s_stretches) := ⟨rfl, rfl, rfl, by decide +kernel, rfl, by decide +kernel, by decide +kernel⟩
theorem ok_stretches (T : Txt K mg a d) : FnOk P w K mg base CX0 1 a.f_stretches d.d_stretches ["rows", "high"] (sp_stretches K a.C) :=
  T.F_stretches.ok (k := 0) sc_stretches (fun vs H Q E h => len_stretches h) (fun cdv A outer s H vs Q E hr h => ⟨t_stretches K a.C, by exact
 (pss_cons (ps_set (i := 2) sc_stretches.nd rfl (by first | exact Or.inl rfl | exact Or.inr rfl) (pe_lst pa_nil))
 (pss_cons (ps_for PassesOwn.never rfl (pi_enum (by rfl) T.z_enumerate (pa_cons (pv 0) pa_nil)) (pg_tup rfl (pgs_cons (pg_name (i := 3) sc_stretches.nd rfl (by first | exact Or.inl rfl | exact Or.inr rfl)) (pgs_cons (pg_name (i := 4) sc_stretches.nd rfl (by first | exact Or.inl rfl | exact Or.inr rfl)) pgs_nil)))
  (pss_cons (ps_set (i := 5) sc_stretches.nd rfl (by first | exact Or.inl rfl | exact Or.inr rfl) (pv 1))
 (pss_cons (ps_if (pt_cmpR uLt (pe_op uAdd (pv 3) pe_int) (pe_callB uLen (by rfl) T.z_len (by decide +kernel) (pa_cons (pv 0) pa_nil)) (nomark _)) (pss_one (ps_set (i := 5) sc_stretches.nd rfl (by first | exact Or.inl rfl | exact Or.inr rfl) (pe_op uSub (pe_ix (uIx (hU hr)) (pe_ix (uIx (hU hr)) (pv 0) (pe_op uAdd (pv 3) pe_int) (fun _ _ => rfl)) pe_int (fun _ _ => rfl)) pe_int))) pss_nil)
 (pss_one (ps_if (PW.pt (pw_and (pt_cmpR (uNe (hU hr)) (pv 2) (pe_lst pa_nil) (nomark _)) (pw_and1 (pt_cmpR (uEq (hU hr)) (pe_ix (uIx (hU hr)) (pe_ix (uIx (hU hr)) (pv 2) (pe_un un_neg pe_int) (fun _ _ => rfl)) pe_int (fun _ _ => rfl)) (pe_ix (uIx (hU hr)) (pv 4) pe_int (fun _ _ => rfl)) (nomark _))))) (pss_one (ps_asg (pe_tup (pa_cons (pe_ix (uIx (hU hr)) (pe_ix (uIx (hU hr)) (pv 2) (pe_un un_neg pe_int) (fun _ _ => rfl)) pe_int (fun _ _ => rfl)) (pa_cons (pv 5) (pa_cons (pe_ix (uIx (hU hr)) (pv 4) pe_int (fun _ _ => rfl)) pa_nil)))) (pg_sub (pv 2) (pe_un un_neg pe_int) (uSet (hU hr))))) (pss_one (ps_expr (pe_bm PySem.F.plainAttrs_list PySem.F.slot_list_append PySem.F.type_list_append mt_append (pv 2) (pa_cons (pe_tup (pa_cons (pe_ix (uIx (hU hr)) (pv 4) pe_int (fun _ _ => rfl)) (pa_cons (pv 5) (pa_cons (pe_ix (uIx (hU hr)) (pv 4) pe_int (fun _ _ => rfl)) pa_nil)))) pa_nil)))))))))
 (pss_one (ps_ret (pv 2))))), pure_stretches h⟩)
theorem sc_runs_of : FnScope ["book", "n", "name", "low", "high", "numbers", "rows", "day", "row"] ["book", "n", "name", "low", "high"] (defScope s_runs_of) := ⟨rfl, rfl, rfl, by decide +kernel, rfl, by decide +kernel, by decide +kernel⟩
theorem ok_runs_of (T : Txt K mg a d) : FnOk P w K mg base CX0 2 a.f_runs_of d.d_runs_of ["book", "n", "name", "low", "high"] (sp_runs_of K a.C) :=
  T.F_runs_of.ok (k := 1) sc_runs_of (fun vs H Q E h => len_runs_of h) (fun cdv A outer s H vs Q E hr h => ⟨t_runs_of K a.C, by exact
 (pss_cons (ps_set (i := 5) sc_runs_of.nd rfl (by first | exact Or.inl rfl | exact Or.inr rfl) (pe_call (ok_counting T) (hr.mono (by decide)) (by rfl) T.g_counting T.F_counting.kp T.b_counting .nil pass0 (pa_cons (pv 0) (pa_cons (pv 1) pa_nil))))
 (pss_cons (ps_setLc (i := 6) (own := [("day", 7)]) rfl sc_runs_of.nd rfl rfl (sw_true rfl rfl rfl (by decide +kernel)) (pi_list (pe_call (ok_begins_of T) (hr.mono (by decide)) (by rfl) T.g_begins_of T.F_begins_of.kp T.b_begins_of .nil pass0 (pa_cons (pv 0) (pa_cons (pv 5) (pa_cons (pv 3) (pa_cons (pv 4) pa_nil)))))) (blkOk_by (own := [("day", 7)]) (N := ["book", "n", "name", "low", "high", "numbers", "rows", "day", "row"]) (sc := defScope s_runs_of) (by decide +kernel)) (fun _ _ _ _ _ => (pg_name (i := 7) sc_runs_of.nd rfl (by first | exact Or.inl rfl | exact Or.inr rfl))) (fun _ _ _ _ _ => pts_nil) (fun _ _ _ _ _ => (pe_tup (pa_cons (pv 7) (pa_cons (pe_call (ok_said_of T) (hr.mono (by decide)) (by rfl) T.g_said_of T.F_said_of.kp T.b_said_of .nil pass0 (pa_cons (pv 0) (pa_cons (pv 5) (pa_cons (pv 2) (pa_cons (pv 7) pa_nil))))) pa_nil)))))
 (pss_one (ps_ret (pe_lc (own := [("row", 8)]) rfl sc_runs_of.nd (pi_list (pe_call (ok_stretches T) (hr.mono (by decide)) (by rfl) T.g_stretches T.F_stretches.kp T.b_stretches .nil pass0 (pa_cons (pv 6) (pa_cons (pv 4) pa_nil)))) (blkOk_by (own := [("row", 8)]) (N := ["book", "n", "name", "low", "high", "numbers", "rows", "day", "row"]) (sc := defScope s_runs_of) (by decide +kernel)) (fun _ _ _ _ _ => (pg_name (i := 8) sc_runs_of.nd rfl (by first | exact Or.inl rfl | exact Or.inr rfl))) (fun _ _ _ _ _ => (pts_one (pt_cmpR uNt (pe_ix (uIx (hU hr)) (pv 8) pe_int (fun _ _ => rfl)) pe_non (nomark _)))) (fun _ _ _ _ _ => (pv 8))))))), pure_runs_of h⟩)
theorem sc_Keeper_runs : FnScope ["self", "n", "name", "low", "high"] ["self", "n", "name", "low", "high"] (defScope s_Keeper_runs) := ⟨rfl, rfl, rfl, by decide +kernel, rfl, by decide +kernel, by decide +kernel⟩
theorem ok_Keeper_runs (T : Txt K mg a d) : FnOk P w K mg base (L2.CX P w) 3 a.f_Keeper_runs d.d_Keeper_runs ["self", "n", "name", "low", "high"] (sp_Keeper_runs K a.C) :=
  T.F_Keeper_runs.okX (k := 2) sc_Keeper_runs (fun vs H Q E h => len_Keeper_runs h) (fun cdv A outer s H vs Q E hr h => ⟨t_Keeper_runs K a.C E, by exact
 (pss_cons (ps_expr (pe_meth (pv 0) T.c_Keeper T.m_Keeper_need_known (ok_Keeper_need_known T) (hr.mono (by decide)) T.b_Keeper_need_known .nil (passes_call (takes_of rfl rfl rfl rfl) fun _ _ _ _ h => h) (pa_cons (pv 1) pa_nil)))
 (pss_one (ps_ret (pe_call (ok_runs_of T) (hr.mono (by decide)) (by rfl) T.g_runs_of T.F_runs_of.kp T.b_runs_of .nil pass0 (pa_cons (pe_fld (pv 0) rfl) (pa_cons (pv 1) (pa_cons (pv 2) (pa_cons (pv 3) (pa_cons (pv 4) pa_nil))))))))), pure_Keeper_runs h⟩)
theorem sc_hangs_on : FnScope ["book", "n", "name", "low", "high", "runs", "left", "many", "number", "fewer"] ["book", "n", "name", "low", "high"] (defScope s_hangs_on) := ⟨rfl, rfl, rfl, by decide +kernel, rfl, by decide +kernel, by decide +kernel⟩
theorem ok_hangs_on (T : Txt K mg a d) : FnOk P w K mg base CX0 3 a.f_hangs_on d.d_hangs_on ["book", "n", "name", "low", "high"] (sp_hangs_on K a.C) :=
  T.F_hangs_on.ok (k := 2) sc_hangs_on (fun vs H Q E h => len_hangs_on h) (fun cdv A outer s H vs Q E hr h => ⟨t_hangs_on K a.C, by exact
 (pss_cons (ps_set (i := 5) sc_hangs_on.nd rfl (by first | exact Or.inl rfl | exact Or.inr rfl) (pe_call (ok_runs_of T) (hr.mono (by decide)) (by rfl) T.g_runs_of T.F_runs_of.kp T.b_runs_of .nil pass0 (pa_cons (pv 0) (pa_cons (pv 1) (pa_cons (pv 2) (pa_cons (pv 3) (pa_cons (pv 4) pa_nil)))))))
 (pss_cons (ps_set (i := 6) sc_hangs_on.nd rfl (by first | exact Or.inl rfl | exact Or.inr rfl) (pe_call (ok_left_of T) (hr.mono (by decide)) (by rfl) T.g_left_of T.F_left_of.kp T.b_left_of .nil pass0 (pa_cons (pv 0) (pa_cons (pe_lc (own := [("number", 8)]) rfl sc_hangs_on.nd (pi_list (pe_call (ok_counting T) (hr.mono (by decide)) (by rfl) T.g_counting T.F_counting.kp T.b_counting .nil pass0 (pa_cons (pv 0) (pa_cons (pv 1) pa_nil)))) (blkOk_by (own := [("number", 8)]) (N := ["book", "n", "name", "low", "high", "runs", "left", "many", "number", "fewer"]) (sc := defScope s_hangs_on) (by decide +kernel)) (fun _ _ _ _ _ => (pg_name (i := 8) sc_hangs_on.nd rfl (by first | exact Or.inl rfl | exact Or.inr rfl))) (fun _ _ _ _ _ => (pts_one (pt_cmpR (uNe (hU hr)) (pe_ix (uIx (hU hr)) (pe_ix (uIx (hU hr)) (pv 0) (pv 8) (fun _ _ => rfl)) pe_int (fun _ _ => rfl)) pe_str (nomark _)))) (fun _ _ _ _ _ => (pv 8))) pa_nil))))
 (pss_cons (ps_set (i := 7) sc_hangs_on.nd rfl (by first | exact Or.inl rfl | exact Or.inr rfl) (pe_op uAdd (pe_callB uLen (by rfl) T.z_len (by decide +kernel) (pa_cons (pv 6) pa_nil)) pe_int))
 (pss_cons (ps_while PassesOwn.never (pt_cmpR uLt (pe_callB uLen (by rfl) T.z_len (by decide +kernel) (pa_cons (pv 6) pa_nil)) (pv 7) (nomark _)) (pss_cons (ps_set (i := 7) sc_hangs_on.nd rfl (by first | exact Or.inl rfl | exact Or.inr rfl) (pe_callB uLen (by rfl) T.z_len (by decide +kernel) (pa_cons (pv 6) pa_nil)))
 (pss_one (ps_for PassesOwn.never rfl (pi_list (pe_callB (uSorted rfl) (by rfl) T.z_sorted (by decide +kernel) (pa_cons (pv 6) pa_nil))) (pg_name (i := 8) sc_hangs_on.nd rfl (by first | exact Or.inl rfl | exact Or.inr rfl))
  (pss_cons (ps_set (i := 9) sc_hangs_on.nd rfl (by first | exact Or.inl rfl | exact Or.inr rfl) (pe_call (ok_without T) (hr.mono (by decide)) (by rfl) T.g_without T.F_without.kp T.b_without .nil pass0 (pa_cons (pv 6) (pa_cons (pv 8) pa_nil))))
 (pss_one (ps_if (pt_cmpR (uEq (hU hr)) (pe_call (ok_runs_of T) (hr.mono (by decide)) (by rfl) T.g_runs_of T.F_runs_of.kp T.b_runs_of .nil pass0 (pa_cons (pv 9) (pa_cons (pv 1) (pa_cons (pv 2) (pa_cons (pv 3) (pa_cons (pv 4) pa_nil)))))) (pv 5) (nomark _)) (pss_one (ps_set (i := 6) sc_hangs_on.nd rfl (by first | exact Or.inl rfl | exact Or.inr rfl) (pv 9))) pss_nil)))))))
 (pss_one (ps_ret (pe_callB (uSorted rfl) (by rfl) T.z_sorted (by decide +kernel) (pa_cons (pv 6) pa_nil)))))))), pure_hangs_on h⟩)
theorem sc_Keeper_why : FnScope ["self", "n", "name", "low", "high"] ["self", "n", "name", "low", "high"] (defScope s_Keeper_why) := ⟨rfl, rfl, rfl, by decide +kernel, rfl, by decide +kernel, by decide +kernel⟩
theorem ok_Keeper_why (T : Txt K mg a d) : FnOk P w K mg base (L2.CX P w) 4 a.f_Keeper_why d.d_Keeper_why ["self", "n", "name", "low", "high"] (sp_Keeper_why K a.C) :=
  T.F_Keeper_why.okX (k := 3) sc_Keeper_why (fun vs H Q E h => len_Keeper_why h) (fun cdv A outer s H vs Q E hr h => ⟨t_Keeper_why K a.C E, by exact
 (pss_cons (ps_expr (pe_meth (pv 0) T.c_Keeper T.m_Keeper_need_known (ok_Keeper_need_known T) (hr.mono (by decide)) T.b_Keeper_need_known .nil (passes_call (takes_of rfl rfl rfl rfl) fun _ _ _ _ h => h) (pa_cons (pv 1) pa_nil)))
 (pss_one (ps_ret (pe_call (ok_hangs_on T) (hr.mono (by decide)) (by rfl) T.g_hangs_on T.F_hangs_on.kp T.b_hangs_on .nil pass0 (pa_cons (pe_fld (pv 0) rfl) (pa_cons (pv 1) (pa_cons (pv 2) (pa_cons (pv 3) (pa_cons (pv 4) pa_nil))))))))), pure_Keeper_why h⟩)
theorem sc_l_gone : FnScope ["_law_keeper", "_law_n", "_law_way", "_law_e"] ["_law_keeper", "_law_n", "_law_way"] (defScope s_l_gone) := ⟨rfl, rfl, rfl, by decide +kernel, rfl, by decide +kernel, by decide +kernel⟩
theorem ok_l_gone (T : Txt K mg a d) : FnOk P w K mg base CX0 5 a.f_l_gone d.d_l_gone ["_law_keeper", "_law_n", "_law_way"] (sp_l_gone K a.C) :=
  T.F_l_gone.ok (k := 4) sc_l_gone (fun vs H Q E h => len_l_gone h) (fun cdv A outer s H vs Q E hr h => ⟨t_l_gone K a.C, by exact
 (pss_cons (ps_tryAs (i := 3) rfl rfl sc_l_gone.nd rfl rfl rfl (by decide) T.g_BookError (fun W pn xe tk _ => (pss_one (ps_if (pt_cmpR (uEq (hU hr)) (pv 2) pe_int (nomark _)) (pss_one (ps_expr (pe_methS (pv 0) T.c_Keeper T.m_Keeper_worth (ok_Keeper_worth T) (hr.mono (by decide)) T.b_Keeper_worth (fun σ => passAt tk σ) (pa_cons (pv 1) (pa_cons pe_str (pa_cons pe_int pa_nil)))))) (pss_one (ps_if (pt_cmpR (uEq (hU hr)) (pv 2) pe_int (nomark _)) (pss_one (ps_expr (pe_methS (pv 0) T.c_Keeper T.m_Keeper_runs (ok_Keeper_runs T) (hr.mono (by decide)) T.b_Keeper_runs (fun σ => passAt tk σ) (pa_cons (pv 1) (pa_cons pe_str (pa_cons pe_int (pa_cons pe_int pa_nil))))))) (pss_one (ps_expr (pe_methS (pv 0) T.c_Keeper T.m_Keeper_why (ok_Keeper_why T) (hr.mono (by decide)) T.b_Keeper_why (fun σ => passAt tk σ) (pa_cons (pv 1) (pa_cons pe_str (pa_cons pe_int (pa_cons pe_int pa_nil)))))))))))) (fun a oe cls d pn hz hf => (pss_one (ps_ret (pe_callP (okP_l_word T hz hf) ((roomH_mark (L2H.roomH_of hr)).mono (by decide)) List.mem_cons_self (by rfl) T.g_l_word T.F_l_word.kp T.b_l_word (pa_cons (pv 3) pa_nil))))))
 (pss_one (ps_ret (pe_tup pa_nil)))), pure_l_gone ⟨T.ef_BadEntry, T.ef_NoEntry, T.ef_Closed, T.ef_TooMany, T.ef_Gone⟩ h⟩)
theorem sc_l_taken_then : FnScope ["_law_keeper", "_law_numbers", "_law_given", "_law_floor", "_law_number", "_law_due_here"] ["_law_keeper", "_law_numbers", "_law_given", "_law_floor"] (defScope s_l_taken_then) := ⟨rfl, rfl, rfl, by decide +kernel, rfl, by decide +kernel, by decide +kernel⟩
theorem ok_l_taken_then (T : Txt K mg a d) : FnOk P w K mg base CX0 8 a.f_l_taken_then d.d_l_taken_then ["_law_keeper", "_law_numbers", "_law_given", "_law_floor"] (sp_l_taken_then K a.C) :=
  T.F_l_taken_then.ok (k := 7) sc_l_taken_then (fun vs H Q E h => len_l_taken_then h) (fun cdv A outer s H vs Q E hr h => ⟨t_l_taken_then K a.C, by exact
 (pss_cons (ps_for PassesOwn.never rfl (pi_list (pv 1)) (pg_name (i := 4) sc_l_taken_then.nd rfl (by first | exact Or.inl rfl | exact Or.inr rfl))
  (pss_one (ps_if (PW.pt (pw_and (pt_chain uLt uLe (pv 3) (pv 4) (pv 2)) (pw_and1 (pt_cmpR uLt (pe_callB uLen (by rfl) T.z_len (by decide +kernel) (pa_cons (pe_meth0 (pv 0) T.c_Keeper T.m_Keeper_book (ok_Keeper_book T) (hr.mono (by decide)) T.b_Keeper_book .nil pass0) pa_nil)) pe_int (nomark _))))) (pss_cons (ps_set (i := 2) sc_l_taken_then.nd rfl (by first | exact Or.inl rfl | exact Or.inr rfl) (pe_op uAdd (pv 2) pe_int))
 (pss_one (ps_if (pt_cmpR (uNe (hU hr)) (pe_call (ok_l_added T) (hr.mono (by decide)) (by rfl) T.g_l_added T.F_l_added.kp T.b_l_added .nil pass0 (pa_cons (pv 0) (pa_cons (pe_tup (pa_cons pe_str (pa_cons (pv 4) pa_nil))) pa_nil))) (pv 2) (nomark _)) (pss_one (ps_ret pe_bl)) pss_nil))) pss_nil)))
 (pss_cons (ps_if (pt_cmpR uLt (pe_callB uLen (by rfl) T.z_len (by decide +kernel) (pa_cons (pe_meth0 (pv 0) T.c_Keeper T.m_Keeper_book (ok_Keeper_book T) (hr.mono (by decide)) T.b_Keeper_book .nil pass0) pa_nil)) pe_int (nomark _)) (pss_one (ps_ret pe_bl)) pss_nil)
 (pss_cons (ps_if (pt_cmpR (uNe (hU hr)) (pe_call (ok_l_added T) (hr.mono (by decide)) (by rfl) T.g_l_added T.F_l_added.kp T.b_l_added .nil pass0 (pa_cons (pv 0) (pa_cons (pe_tup (pa_cons pe_str (pa_cons pe_str (pa_cons pe_int (pa_cons pe_int pa_nil))))) pa_nil))) (pe_tup (pa_cons pe_str pa_nil)) (nomark _)) (pss_one (ps_ret pe_bl)) pss_nil)
 (pss_cons (ps_expr (pe_meth0 (pv 0) T.c_Keeper T.m_Keeper_shorten (ok_Keeper_shorten T) (hr.mono (by decide)) T.b_Keeper_shorten .nil pass0))
 (pss_cons (ps_set (i := 5) sc_l_taken_then.nd rfl (by first | exact Or.inl rfl | exact Or.inr rfl) (pe_ix (uIx (hU hr)) (pe_lst (pa_cons (pe_op uAdd (pv 2) pe_int) (pa_cons (pe_tup (pa_cons pe_str pa_nil)) pa_nil))) (pe_callTy uIntC (by rfl) T.z_int (by decide +kernel) (pa_cons (pe_cmpR (uEq (hU hr)) (pe_callB uLen (by rfl) T.z_len (by decide +kernel) (pa_cons (pe_meth0 (pv 0) T.c_Keeper T.m_Keeper_book (ok_Keeper_book T) (hr.mono (by decide)) T.b_Keeper_book .nil pass0) pa_nil)) pe_int (nomark _)) pa_nil)) (fun _ _ => rfl)))
 (pss_one (ps_ret (pe_cmpR (uEq (hU hr)) (pe_call (ok_l_added T) (hr.mono (by decide)) (by rfl) T.g_l_added T.F_l_added.kp T.b_l_added .nil pass0 (pa_cons (pv 0) (pa_cons (pe_tup (pa_cons pe_str (pa_cons pe_str (pa_cons pe_int (pa_cons pe_int pa_nil))))) pa_nil))) (pv 5) (nomark _))))))))), pure_l_taken_then h⟩)
theorem sc_law : FnScope ["_law_script", "_law_names_here", "_law_keeper", "_law_given", "_law_floor", "_law_missing", "_law_k", "_law_cell", "_law_entry_here", "_law_told", "_law_rows", "_law_due_here", "_law_left", "_law_way", "_law_early"] ["_law_script"] (defScope s_law) := ⟨rfl, rfl, rfl, by decide +kernel, rfl, by decide +kernel, by decide +kernel⟩
theorem ok_law (T : Txt K mg a d) : FnOk P w K mg base CX0 9 a.f_law d.d_law ["_law_script"] (sp_law_k11 K a.C) :=
  T.F_law.ok (k := 8) sc_law (fun vs H Q E h => len_law_k11 h) (fun cdv A outer s H vs Q E hr h => ⟨t_law_k11 K a.C, by exact
 (pss_cons (ps_set (i := 1) sc_law.nd rfl (by first | exact Or.inl rfl | exact Or.inr rfl) (pe_call (ok_l_names T) (hr.mono (by decide)) (by rfl) T.g_l_names T.F_l_names.kp T.b_l_names .nil pass0 (pa_cons (pe_call (ok_l_of T) (hr.mono (by decide)) (by rfl) T.g_l_of T.F_l_of.kp T.b_l_of .nil pass0 (pa_cons (pv 0) (pa_cons pe_int pa_nil))) (pa_cons pe_int pa_nil))))
 (pss_cons (ps_set (i := 2) sc_law.nd rfl (by first | exact Or.inl rfl | exact Or.inr rfl) (pe_make0 T.M_Keeper (ok_Keeper_init T) (hr.mono (by decide)) (by rfl) T.g_Keeper T.b_Keeper_init .nil pass0))
 (pss_cons (ps_set (i := 3) sc_law.nd rfl (by first | exact Or.inl rfl | exact Or.inr rfl) pe_int)
 (pss_cons (ps_if (pt_cmpR (uEq (hU hr)) (pe_op uMod (pe_call (ok_l_of T) (hr.mono (by decide)) (by rfl) T.g_l_of T.F_l_of.kp T.b_l_of .nil pass0 (pa_cons (pv 0) (pa_cons pe_int pa_nil))) pe_int) pe_int (nomark _)) (pss_one (ps_set (i := 3) sc_law.nd rfl (by first | exact Or.inl rfl | exact Or.inr rfl) (pe_call (ok_l_full T) (hr.mono (by decide)) (by rfl) T.g_l_full T.F_l_full.kp T.b_l_full .nil pass0 (pa_cons (pv 2) (pa_cons (pe_op uAdd pe_int (pe_op uMod (pe_op uDiv (pe_call (ok_l_of T) (hr.mono (by decide)) (by rfl) T.g_l_of T.F_l_of.kp T.b_l_of .nil pass0 (pa_cons (pv 0) (pa_cons pe_int pa_nil))) pe_int) pe_int)) pa_nil))))) pss_nil)
 (pss_cons (ps_set (i := 4) sc_law.nd rfl (by first | exact Or.inl rfl | exact Or.inr rfl) pe_int)
 (pss_cons (ps_set (i := 5) sc_law.nd rfl (by first | exact Or.inl rfl | exact Or.inr rfl) (pe_lst pa_nil))
 (pss_cons (ps_for PassesOwn.never rfl (pi_range1 (by rfl) T.z_range (pa_cons (pe_callB (call_min2 rfl) (by rfl) T.z_min (by decide +kernel) (pa_cons (pe_op uSub pe_int (pe_op uMul pe_int (pe_callTy uIntC (by rfl) T.z_int (by decide +kernel) (pa_cons (pe_cmpR uGt (pv 3) pe_int (nomark _)) pa_nil)))) (pa_cons (pe_op uSub (pe_callB uLen (by rfl) T.z_len (by decide +kernel) (pa_cons (pv 0) pa_nil)) pe_int) pa_nil))) pa_nil)) (pg_name (i := 6) sc_law.nd rfl (by first | exact Or.inl rfl | exact Or.inr rfl))
  (pss_cons (ps_set (i := 7) sc_law.nd rfl (by first | exact Or.inl rfl | exact Or.inr rfl) (pe_ix (uIx (hU hr)) (pv 0) (pe_op uAdd pe_int (pv 6)) (fun _ _ => rfl)))
 (pss_cons (ps_set (i := 8) sc_law.nd rfl (by first | exact Or.inl rfl | exact Or.inr rfl) (pe_call (ok_l_entry T) (hr.mono (by decide)) (by rfl) T.g_l_entry T.F_l_entry.kp T.b_l_entry .nil pass0 (pa_cons (pv 1) (pa_cons pe_int (pa_cons (pe_op uAdd (pv 7) (pv 6)) (pa_cons (pe_op uAdd (pv 3) pe_int) pa_nil))))))
 (pss_cons (ps_if (pt_cmpR (uEq (hU hr)) (pe_op uMod (pe_op uDiv (pv 7) pe_int) pe_int) pe_int (nomark _)) (pss_one (ps_set (i := 8) sc_law.nd rfl (by first | exact Or.inl rfl | exact Or.inr rfl) (pe_call (ok_l_odd T) (hr.mono (by decide)) (by rfl) T.g_l_odd T.F_l_odd.kp T.b_l_odd .nil pass0 (pa_cons (pe_op uDiv (pv 7) pe_int) (pa_cons (pv 6) (pa_cons (pv 3) (pa_cons (pv 4) pa_nil))))))) pss_nil)
 (pss_cons (ps_set (i := 9) sc_law.nd rfl (by first | exact Or.inl rfl | exact Or.inr rfl) (pe_meth0 (pv 2) T.c_Keeper T.m_Keeper_book (ok_Keeper_book T) (hr.mono (by decide)) T.b_Keeper_book .nil pass0))
 (pss_cons (ps_set (i := 10) sc_law.nd rfl (by first | exact Or.inl rfl | exact Or.inr rfl) (pe_callTy (uDictC rfl) (by rfl) T.z_dict (by decide +kernel) (pa_cons (pv 9) pa_nil)))
 (pss_cons (ps_set (i := 11) sc_law.nd rfl (by first | exact Or.inl rfl | exact Or.inr rfl) (pe_call (ok_l_due T) (hr.mono (by decide)) (by rfl) T.g_l_due T.F_l_due.kp T.b_l_due .nil pass0 (pa_cons (pv 8) (pa_cons (pv 10) (pa_cons (pv 3) (pa_cons (pv 4) pa_nil))))))
 (pss_cons (ps_if (PW.pt (pw_or (pt_cmpR (uNe (hU hr)) (pe_call (ok_l_added T) (hr.mono (by decide)) (by rfl) T.g_l_added T.F_l_added.kp T.b_l_added .nil pass0 (pa_cons (pv 2) (pa_cons (pv 8) pa_nil))) (pv 11) (nomark _)) (pw_or1 (pt_not (pt_val (pe_callB call_isi (by rfl) T.z_isinstance (by decide +kernel) (pa_cons (pv 9) (pa_cons (pe_bltn (by rfl) T.z_dict (by decide +kernel) rfl) pa_nil)))))))) (pss_one (ps_ret pe_bl)) pss_nil)
 (pss_cons (ps_expr (pe_dclear (pv 9)))
 (pss_cons (ps_if (pt_cmpR (uEq (hU hr)) (pv 11) (pe_tup (pa_cons pe_str pa_nil)) (nomark _)) (pss_one (ps_expr (pe_bm PySem.F.plainAttrs_list PySem.F.slot_list_append PySem.F.type_list_append mt_append (pv 5) (pa_cons (pe_ix (uIx (hU hr)) (pv 8) pe_int (fun _ _ => rfl)) pa_nil)))) pss_nil)
 (pss_cons (ps_if (pt_not (pt_val (pe_callB call_isi (by rfl) T.z_isinstance (by decide +kernel) (pa_cons (pv 11) (pa_cons (pe_bltn (by rfl) T.z_tuple (by decide +kernel) rfl) pa_nil))))) (pss_cons (ps_set (i := 3) sc_law.nd rfl (by first | exact Or.inl rfl | exact Or.inr rfl) (pe_op uAdd (pv 3) pe_int))
 (pss_one (ps_asg (pv 8) (pg_sub (pv 10) (pv 3) (uSet (hU hr)))))) pss_nil)
 (pss_cons (ps_if (PW.pt (pw_or (pt_cmpR (uNe (hU hr)) (pe_meth0 (pv 2) T.c_Keeper T.m_Keeper_book (ok_Keeper_book T) (hr.mono (by decide)) T.b_Keeper_book .nil pass0) (pv 10) (nomark _)) (pw_or (pt_cmpR (uNe (hU hr)) (pe_meth0 (pv 2) T.c_Keeper T.m_Keeper_last (ok_Keeper_last T) (hr.mono (by decide)) T.b_Keeper_last .nil pass0) (pv 3) (nomark _)) (pw_or1 (pt_cmpR (uNe (hU hr)) (pe_meth0 (pv 2) T.c_Keeper T.m_Keeper_floor (ok_Keeper_floor T) (hr.mono (by decide)) T.b_Keeper_floor .nil pass0) (pv 4) (nomark _)))))) (pss_one (ps_ret pe_bl)) pss_nil)
 (pss_cons (ps_if (pt_cmpR (uEq (hU hr)) (pe_op uMod (pe_op uDiv (pv 7) pe_int) pe_int) pe_int (nomark _)) (pss_cons (ps_set (i := 12) sc_law.nd rfl (by first | exact Or.inl rfl | exact Or.inr rfl) (pe_meth0 (pv 2) T.c_Keeper T.m_Keeper_shorten (ok_Keeper_shorten T) (hr.mono (by decide)) T.b_Keeper_shorten .nil pass0))
 (pss_cons (ps_set (i := 4) sc_law.nd rfl (by first | exact Or.inl rfl | exact Or.inr rfl) (pv 3))
 (pss_one (ps_if (PW.pt (pw_or (pt_not (pt_val (pe_call (ok_l_whole T) (hr.mono (by decide)) (by rfl) T.g_l_whole T.F_l_whole.kp T.b_l_whole .nil pass0 (pa_cons (pv 12) pa_nil)))) (pw_or1 (pt_cmpR (uNe (hU hr)) (pv 12) (pe_op uSub (pe_callB uLen (by rfl) T.z_len (by decide +kernel) (pa_cons (pv 10) pa_nil)) (pe_callB uLen (by rfl) T.z_len (by decide +kernel) (pa_cons (pe_meth0 (pv 2) T.c_Keeper T.m_Keeper_book (ok_Keeper_book T) (hr.mono (by decide)) T.b_Keeper_book .nil pass0) pa_nil))) (nomark _))))) (pss_one (ps_ret pe_bl)) pss_nil)))) pss_nil)
 (pss_one (ps_for PassesOwn.never rfl (pi_range1 (by rfl) T.z_range (pa_cons pe_int pa_nil)) (pg_name (i := 13) sc_law.nd rfl (by first | exact Or.inl rfl | exact Or.inr rfl))
  (pss_cons (ps_set (i := 14) sc_law.nd rfl (by first | exact Or.inl rfl | exact Or.inr rfl) (pe_ix (uIx (hU hr)) (pe_lst (pa_cons (pe_op uSub (pv 4) pe_int) (pa_cons pe_int pa_nil))) (pe_op uMod (pv 6) pe_int) (fun _ _ => rfl)))
 (pss_one (ps_if (PW.pt (pw_or (pt_cmpR (uNe (hU hr)) (pe_call (ok_l_gone T) (hr.mono (by decide)) (by rfl) T.g_l_gone T.F_l_gone.kp T.b_l_gone .nil pass0 (pa_cons (pv 2) (pa_cons (pv 4) (pa_cons (pv 13) pa_nil)))) (pe_tup pa_nil) (nomark _)) (pw_or1 (PW.pt (pw_and (pt_cmpR uGt (pv 4) pe_int (nomark _)) (pw_and1 (pt_cmpR (uNe (hU hr)) (pe_call (ok_l_gone T) (hr.mono (by decide)) (by rfl) T.g_l_gone T.F_l_gone.kp T.b_l_gone .nil pass0 (pa_cons (pv 2) (pa_cons (pv 14) (pa_cons (pv 13) pa_nil)))) (pe_tup (pa_cons pe_str pa_nil)) (nomark _)))))))) (pss_one (ps_ret pe_bl)) pss_nil))))))))))))))))))
 (pss_cons (ps_if (PW.pt (pw_or (pt_cmpR (uNe (hU hr)) (pe_meth0 (pv 2) T.c_Keeper T.m_Keeper_floor (ok_Keeper_floor T) (hr.mono (by decide)) T.b_Keeper_floor .nil pass0) (pv 4) (nomark _)) (pw_or1 (pt_cmpR (uNe (hU hr)) (pe_meth0 (pv 2) T.c_Keeper T.m_Keeper_last (ok_Keeper_last T) (hr.mono (by decide)) T.b_Keeper_last .nil pass0) (pv 3) (nomark _))))) (pss_one (ps_ret pe_bl)) pss_nil)
 (pss_one (ps_ret (pe_call (ok_l_taken_then T) (hr.mono (by decide)) (by rfl) T.g_l_taken_then T.F_l_taken_then.kp T.b_l_taken_then .nil pass0 (pa_cons (pv 2) (pa_cons (pv 5) (pa_cons (pv 3) (pa_cons (pv 4) pa_nil))))))))))))))), pure_law_k11 ⟨T.c_Keeper, T.n_Keeper_given, T.n_Keeper_least, T.n_Keeper_rows⟩ h⟩)
end
end R
namespace R
open PySem L2 S
theorem all_mk {l : PySem.W.OpenLaw} {w : World} {K : PySem.W.Frag} {h : Heap} {mg : Str → Option Value} {fa f1 f2 f3 f4 f5 f6 f7 f8 f9 f10 f11 f12 f13 f14 f15 f16 f17 f18 f19 f20 f21 f22 f23 f24 f25 f26 f27 f28 f29 f30 f31 f32 f33 f34 f35 f36 f37 f38 f39 f40 f41 f42 f43 : Addr} (X : K.In h) (G : h.Ns mainGlobals mg) (hfa : mg "law" = some (.ref fa))
    {C_Keeper C_BadBook C_BadEntry C_BadText C_BookError C_Closed C_Gone C_NoEntry C_TooMany : Addr}
    {t_LETTERS t_MOST t_MOST_DAY t_MOST_LETTERS t_MOST_WORTH : Tok}
    {od1 an1 od2 an2 od3 an3 od4 an4 od5 an5 od6 an6 od7 an7 od8 an8 od9 an9 od10 an10 od11 an11 od12 an12 od13 an13 od14 an14 od15 an15 od16 an16 od17 an17 od18 an18 od19 an19 od20 an20 od21 an21 od22 an22 od23 an23 od24 an24 od25 an25 od26 an26 od27 an27 od28 an28 od29 an29 od30 an30 od31 an31 od32 an32 od33 an33 od34 an34 od35 an35 od36 an36 od37 an37 od38 an38 od39 an39 od40 an40 od41 an41 od42 an42 od43 an43 : Option Addr} {sl1 sl2 sl3 sl4 sl5 sl6 sl7 sl8 sl9 sl10 sl11 sl12 sl13 sl14 sl15 sl16 sl17 sl18 sl19 sl20 sl21 sl22 sl23 sl24 sl25 sl26 sl27 sl28 sl29 sl30 sl31 sl32 sl33 sl34 sl35 sl36 sl37 sl38 sl39 sl40 sl41 sl42 sl43 : Array (Option Value)} {oc1 kV1 dc1 pm1 cd1 ct1 oc2 kV2 dc2 pm2 cd2 ct2 oc3 kV3 dc3 pm3 cd3 ct3 oc4 kV4 dc4 pm4 cd4 ct4 oc5 kV5 dc5 pm5 cd5 ct5 oc6 kV6 dc6 pm6 cd6 ct6 oc7 kV7 dc7 pm7 cd7 ct7 oc8 kV8 dc8 pm8 cd8 ct8 oc9 kV9 dc9 pm9 cd9 ct9 oc10 kV10 dc10 pm10 cd10 ct10 oc11 kV11 dc11 pm11 cd11 ct11 oc12 kV12 dc12 pm12 cd12 ct12 oc13 kV13 dc13 pm13 cd13 ct13 oc14 kV14 dc14 pm14 cd14 ct14 oc15 kV15 dc15 pm15 cd15 ct15 oc16 kV16 dc16 pm16 cd16 ct16 oc17 kV17 dc17 pm17 cd17 ct17 oc18 kV18 dc18 pm18 cd18 ct18 oc19 kV19 dc19 pm19 cd19 ct19 oc20 kV20 dc20 pm20 cd20 ct20 oc21 kV21 dc21 pm21 cd21 ct21 oc22 kV22 dc22 pm22 cd22 ct22 oc23 kV23 dc23 pm23 cd23 ct23 oc24 kV24 dc24 pm24 cd24 ct24 oc25 kV25 dc25 pm25 cd25 ct25 oc26 kV26 dc26 pm26 cd26 ct26 oc27 kV27 dc27 pm27 cd27 ct27 oc28 kV28 dc28 pm28 cd28 ct28 oc29 kV29 dc29 pm29 cd29 ct29 oc30 kV30 dc30 pm30 cd30 ct30 oc31 kV31 dc31 pm31 cd31 ct31 oc32 kV32 dc32 pm32 cd32 ct32 oc33 kV33 dc33 pm33 cd33 ct33 oc34 kV34 dc34 pm34 cd34 ct34 oc35 kV35 dc35 pm35 cd35 ct35 oc36 kV36 dc36 pm36 cd36 ct36 oc37 kV37 dc37 pm37 cd37 ct37 oc38 kV38 dc38 pm38 cd38 ct38 oc39 kV39 dc39 pm39 cd39 ct39 oc40 kV40 dc40 pm40 cd40 ct40 oc41 kV41 dc41 pm41 cd41 ct41 oc42 kV42 dc42 pm42 cd42 ct42 oc43 kV43 dc43 pm43 cd43 ct43 : Value}
    (g_Keeper : PySem.W.nsIn K mainGlobals "Keeper" = some (some (.ref C_Keeper)))
    (pg_Keeper : PySem.W.plainGet K C_Keeper Str.empty = true) (hd_Keeper : PySem.W.hasDictIn K C_Keeper = true) (po_Keeper : PySem.W.plainOver K C_Keeper = true) (sa_Keeper : PySem.W.findIn K (.ref C_Keeper) "__setattr__" = some (some (.builtin "object.__setattr__"))) (mk_Keeper : PySem.W.makesIn K C_Keeper = true) (kc_Keeper : PySem.W.keepIn K (.ref C_Keeper) = true)
    (n_Keeper_given : PySem.W.findIn K (.ref C_Keeper) "given" = some none)
    (n_Keeper_least : PySem.W.findIn K (.ref C_Keeper) "least" = some none)
    (n_Keeper_rows : PySem.W.findIn K (.ref C_Keeper) "rows" = some none)
    (g_BadBook : PySem.W.nsIn K mainGlobals "BadBook" = some (some (.ref C_BadBook)))
    (g_BadEntry : PySem.W.nsIn K mainGlobals "BadEntry" = some (some (.ref C_BadEntry)))
    (g_BadText : PySem.W.nsIn K mainGlobals "BadText" = some (some (.ref C_BadText)))
    (g_BookError : PySem.W.nsIn K mainGlobals "BookError" = some (some (.ref C_BookError)))
    (g_Closed : PySem.W.nsIn K mainGlobals "Closed" = some (some (.ref C_Closed)))
    (g_Gone : PySem.W.nsIn K mainGlobals "Gone" = some (some (.ref C_Gone)))
    (g_NoEntry : PySem.W.nsIn K mainGlobals "NoEntry" = some (some (.ref C_NoEntry)))
    (g_TooMany : PySem.W.nsIn K mainGlobals "TooMany" = some (some (.ref C_TooMany)))
    (ehg_BadEntry : PySem.W.findIn K (.ref C_BadEntry) "__getattribute__" = some (some (.builtin "BaseException.__getattribute__")))
    (ehk_BadEntry : PySem.W.findIn K (.ref C_BadEntry) "__getattr__" = some none)
    (ehs_BadEntry : PySem.W.subIn K (.ref C_BadEntry) (.type "BaseException") = some true)
    (ehd_BadEntry : PySem.W.hasDictIn K C_BadEntry = true)
    (eha_BadEntry : PySem.W.findIn K (.ref C_BadEntry) "__class__" = some (some (.builtin "object.__class__")))
    (ehn_BadEntry : PySem.W.specialIn K (.builtin "object.__class__") "__get__" = some (some (.builtin "getset_descriptor.__get__")))
    (eht_BadEntry : PySem.W.takesIn K (.builtin "object.__class__") = some true)
    (ehm_BadEntry : PySem.W.mroIn K C_BadEntry (.type "object") = some true)
    (ebk_BadEntry : PySem.W.exmOne K (.ref C_BadEntry) (.ref C_BookError) = some true)
    (eve_BadEntry : PySem.W.kitOne K (.ref C_BadEntry) (.type "ValueError") = some true)
    (eq0_BadEntry : PySem.W.kitOne K (.ref C_BadEntry) (.ref C_BadEntry) = some true)
    (eq1_BadEntry : PySem.W.kitOne K (.ref C_BadEntry) (.ref C_BadBook) = some false)
    (eq2_BadEntry : PySem.W.kitOne K (.ref C_BadEntry) (.ref C_NoEntry) = some false)
    (eq3_BadEntry : PySem.W.kitOne K (.ref C_BadEntry) (.ref C_Closed) = some false)
    (eq4_BadEntry : PySem.W.kitOne K (.ref C_BadEntry) (.ref C_TooMany) = some false)
    (eq5_BadEntry : PySem.W.kitOne K (.ref C_BadEntry) (.ref C_Gone) = some false)
    (eq6_BadEntry : PySem.W.kitOne K (.ref C_BadEntry) (.ref C_BadText) = some false)
    (ehg_Closed : PySem.W.findIn K (.ref C_Closed) "__getattribute__" = some (some (.builtin "BaseException.__getattribute__")))
    (ehk_Closed : PySem.W.findIn K (.ref C_Closed) "__getattr__" = some none)
    (ehs_Closed : PySem.W.subIn K (.ref C_Closed) (.type "BaseException") = some true)
    (ehd_Closed : PySem.W.hasDictIn K C_Closed = true)
    (eha_Closed : PySem.W.findIn K (.ref C_Closed) "__class__" = some (some (.builtin "object.__class__")))
    (ehn_Closed : PySem.W.specialIn K (.builtin "object.__class__") "__get__" = some (some (.builtin "getset_descriptor.__get__")))
    (eht_Closed : PySem.W.takesIn K (.builtin "object.__class__") = some true)
    (ehm_Closed : PySem.W.mroIn K C_Closed (.type "object") = some true)
    (ebk_Closed : PySem.W.exmOne K (.ref C_Closed) (.ref C_BookError) = some true)
    (eve_Closed : PySem.W.kitOne K (.ref C_Closed) (.type "ValueError") = some true)
    (eq0_Closed : PySem.W.kitOne K (.ref C_Closed) (.ref C_BadEntry) = some false)
    (eq1_Closed : PySem.W.kitOne K (.ref C_Closed) (.ref C_BadBook) = some false)
    (eq2_Closed : PySem.W.kitOne K (.ref C_Closed) (.ref C_NoEntry) = some false)
    (eq3_Closed : PySem.W.kitOne K (.ref C_Closed) (.ref C_Closed) = some true)
    (eq4_Closed : PySem.W.kitOne K (.ref C_Closed) (.ref C_TooMany) = some false)
    (eq5_Closed : PySem.W.kitOne K (.ref C_Closed) (.ref C_Gone) = some false)
    (eq6_Closed : PySem.W.kitOne K (.ref C_Closed) (.ref C_BadText) = some false)
    (ehg_NoEntry : PySem.W.findIn K (.ref C_NoEntry) "__getattribute__" = some (some (.builtin "BaseException.__getattribute__")))
    (ehk_NoEntry : PySem.W.findIn K (.ref C_NoEntry) "__getattr__" = some none)
    (ehs_NoEntry : PySem.W.subIn K (.ref C_NoEntry) (.type "BaseException") = some true)
    (ehd_NoEntry : PySem.W.hasDictIn K C_NoEntry = true)
    (eha_NoEntry : PySem.W.findIn K (.ref C_NoEntry) "__class__" = some (some (.builtin "object.__class__")))
    (ehn_NoEntry : PySem.W.specialIn K (.builtin "object.__class__") "__get__" = some (some (.builtin "getset_descriptor.__get__")))
    (eht_NoEntry : PySem.W.takesIn K (.builtin "object.__class__") = some true)
    (ehm_NoEntry : PySem.W.mroIn K C_NoEntry (.type "object") = some true)
    (ebk_NoEntry : PySem.W.exmOne K (.ref C_NoEntry) (.ref C_BookError) = some true)
    (eve_NoEntry : PySem.W.kitOne K (.ref C_NoEntry) (.type "ValueError") = some true)
    (eq0_NoEntry : PySem.W.kitOne K (.ref C_NoEntry) (.ref C_BadEntry) = some false)
    (eq1_NoEntry : PySem.W.kitOne K (.ref C_NoEntry) (.ref C_BadBook) = some false)
    (eq2_NoEntry : PySem.W.kitOne K (.ref C_NoEntry) (.ref C_NoEntry) = some true)
    (eq3_NoEntry : PySem.W.kitOne K (.ref C_NoEntry) (.ref C_Closed) = some false)
    (eq4_NoEntry : PySem.W.kitOne K (.ref C_NoEntry) (.ref C_TooMany) = some false)
    (eq5_NoEntry : PySem.W.kitOne K (.ref C_NoEntry) (.ref C_Gone) = some false)
    (eq6_NoEntry : PySem.W.kitOne K (.ref C_NoEntry) (.ref C_BadText) = some false)
    (ehg_TooMany : PySem.W.findIn K (.ref C_TooMany) "__getattribute__" = some (some (.builtin "BaseException.__getattribute__")))
    (ehk_TooMany : PySem.W.findIn K (.ref C_TooMany) "__getattr__" = some none)
    (ehs_TooMany : PySem.W.subIn K (.ref C_TooMany) (.type "BaseException") = some true)
    (ehd_TooMany : PySem.W.hasDictIn K C_TooMany = true)
    (eha_TooMany : PySem.W.findIn K (.ref C_TooMany) "__class__" = some (some (.builtin "object.__class__")))
    (ehn_TooMany : PySem.W.specialIn K (.builtin "object.__class__") "__get__" = some (some (.builtin "getset_descriptor.__get__")))
    (eht_TooMany : PySem.W.takesIn K (.builtin "object.__class__") = some true)
    (ehm_TooMany : PySem.W.mroIn K C_TooMany (.type "object") = some true)
    (ebk_TooMany : PySem.W.exmOne K (.ref C_TooMany) (.ref C_BookError) = some true)
    (eve_TooMany : PySem.W.kitOne K (.ref C_TooMany) (.type "ValueError") = some true)
    (eq0_TooMany : PySem.W.kitOne K (.ref C_TooMany) (.ref C_BadEntry) = some false)
    (eq1_TooMany : PySem.W.kitOne K (.ref C_TooMany) (.ref C_BadBook) = some false)
    (eq2_TooMany : PySem.W.kitOne K (.ref C_TooMany) (.ref C_NoEntry) = some false)
    (eq3_TooMany : PySem.W.kitOne K (.ref C_TooMany) (.ref C_Closed) = some false)
    (eq4_TooMany : PySem.W.kitOne K (.ref C_TooMany) (.ref C_TooMany) = some true)
    (eq5_TooMany : PySem.W.kitOne K (.ref C_TooMany) (.ref C_Gone) = some false)
    (eq6_TooMany : PySem.W.kitOne K (.ref C_TooMany) (.ref C_BadText) = some false)
    (ehg_Gone : PySem.W.findIn K (.ref C_Gone) "__getattribute__" = some (some (.builtin "BaseException.__getattribute__")))
    (ehk_Gone : PySem.W.findIn K (.ref C_Gone) "__getattr__" = some none)
    (ehs_Gone : PySem.W.subIn K (.ref C_Gone) (.type "BaseException") = some true)
    (ehd_Gone : PySem.W.hasDictIn K C_Gone = true)
    (eha_Gone : PySem.W.findIn K (.ref C_Gone) "__class__" = some (some (.builtin "object.__class__")))
    (ehn_Gone : PySem.W.specialIn K (.builtin "object.__class__") "__get__" = some (some (.builtin "getset_descriptor.__get__")))
    (eht_Gone : PySem.W.takesIn K (.builtin "object.__class__") = some true)
    (ehm_Gone : PySem.W.mroIn K C_Gone (.type "object") = some true)
    (ebk_Gone : PySem.W.exmOne K (.ref C_Gone) (.ref C_BookError) = some true)
    (eve_Gone : PySem.W.kitOne K (.ref C_Gone) (.type "ValueError") = some true)
    (eq0_Gone : PySem.W.kitOne K (.ref C_Gone) (.ref C_BadEntry) = some false)
    (eq1_Gone : PySem.W.kitOne K (.ref C_Gone) (.ref C_BadBook) = some false)
    (eq2_Gone : PySem.W.kitOne K (.ref C_Gone) (.ref C_NoEntry) = some false)
    (eq3_Gone : PySem.W.kitOne K (.ref C_Gone) (.ref C_Closed) = some false)
    (eq4_Gone : PySem.W.kitOne K (.ref C_Gone) (.ref C_TooMany) = some false)
    (eq5_Gone : PySem.W.kitOne K (.ref C_Gone) (.ref C_Gone) = some true)
    (eq6_Gone : PySem.W.kitOne K (.ref C_Gone) (.ref C_BadText) = some false)
    (x_BadEntry : PySem.W.excIn K C_BadEntry [.type "ValueError", .type "Exception", .type "BaseException", .type "object"] "ValueError.__new__" = true) (kp_BadEntry : PySem.W.keepIn K (.ref C_BadEntry) = true) (be_BadEntry : PySem.W.subIn K (.ref C_BadEntry) (.type "BaseException") = some true) (ty_BadEntry : PySem.W.typeIn K (.ref C_BadEntry) = some (.type "type"))
    (x_Closed : PySem.W.excIn K C_Closed [.type "ValueError", .type "Exception", .type "BaseException", .type "object"] "ValueError.__new__" = true) (kp_Closed : PySem.W.keepIn K (.ref C_Closed) = true) (be_Closed : PySem.W.subIn K (.ref C_Closed) (.type "BaseException") = some true) (ty_Closed : PySem.W.typeIn K (.ref C_Closed) = some (.type "type"))
    (x_Gone : PySem.W.excIn K C_Gone [.type "ValueError", .type "Exception", .type "BaseException", .type "object"] "ValueError.__new__" = true) (kp_Gone : PySem.W.keepIn K (.ref C_Gone) = true) (be_Gone : PySem.W.subIn K (.ref C_Gone) (.type "BaseException") = some true) (ty_Gone : PySem.W.typeIn K (.ref C_Gone) = some (.type "type"))
    (x_NoEntry : PySem.W.excIn K C_NoEntry [.type "ValueError", .type "Exception", .type "BaseException", .type "object"] "ValueError.__new__" = true) (kp_NoEntry : PySem.W.keepIn K (.ref C_NoEntry) = true) (be_NoEntry : PySem.W.subIn K (.ref C_NoEntry) (.type "BaseException") = some true) (ty_NoEntry : PySem.W.typeIn K (.ref C_NoEntry) = some (.type "type"))
    (x_TooMany : PySem.W.excIn K C_TooMany [.type "ValueError", .type "Exception", .type "BaseException", .type "object"] "ValueError.__new__" = true) (kp_TooMany : PySem.W.keepIn K (.ref C_TooMany) = true) (be_TooMany : PySem.W.subIn K (.ref C_TooMany) (.type "BaseException") = some true) (ty_TooMany : PySem.W.typeIn K (.ref C_TooMany) = some (.type "type"))
    (a1 : PySem.W.nsIn K mainGlobals "_law_names" = some (some (.ref f1)))
    (l1 : K.lookup f1 = some ⟨oc1, od1, .func (PySem.W.fnOf "_law_names" "_law_names" (defArgs s_l_names) (defBody s_l_names) (defScope s_l_names) .none kV1 dc1 pm1 an1 cd1 ct1), sl1⟩) (c1 : PySem.W.codeIn K cd1 "_law_names" = true) (k1 : PySem.W.keepIn K (.ref f1) = true)
    (a2 : PySem.W.nsIn K mainGlobals "_law_of" = some (some (.ref f2)))
    (l2 : K.lookup f2 = some ⟨oc2, od2, .func (PySem.W.fnOf "_law_of" "_law_of" (defArgs s_l_of) (defBody s_l_of) (defScope s_l_of) .none kV2 dc2 pm2 an2 cd2 ct2), sl2⟩) (c2 : PySem.W.codeIn K cd2 "_law_of" = true) (k2 : PySem.W.keepIn K (.ref f2) = true)
    (a3 : PySem.W.findIn K (.ref C_Keeper) "__init__" = some (some (.ref f3))) (i3 : PySem.W.isFn K (.ref f3) = true)
    (l3 : K.lookup f3 = some ⟨oc3, od3, .func (PySem.W.fnOf "__init__" "Keeper.__init__" (defArgs s_Keeper_init) (defBody s_Keeper_init) (defScope s_Keeper_init) .none kV3 dc3 pm3 an3 cd3 ct3), sl3⟩) (c3 : PySem.W.codeIn K cd3 "Keeper.__init__" = true) (k3 : PySem.W.keepIn K (.ref f3) = true)
    (a4 : PySem.W.nsIn K mainGlobals "is_name" = some (some (.ref f4)))
    (l4 : K.lookup f4 = some ⟨oc4, od4, .func (PySem.W.fnOf "is_name" "is_name" (defArgs s_is_name) (defBody s_is_name) (defScope s_is_name) .none kV4 dc4 pm4 an4 cd4 ct4), sl4⟩) (c4 : PySem.W.codeIn K cd4 "is_name" = true) (k4 : PySem.W.keepIn K (.ref f4) = true)
    (a5 : PySem.W.nsIn K mainGlobals "is_among" = some (some (.ref f5)))
    (l5 : K.lookup f5 = some ⟨oc5, od5, .func (PySem.W.fnOf "is_among" "is_among" (defArgs s_is_among) (defBody s_is_among) (defScope s_is_among) .none kV5 dc5 pm5 an5 cd5 ct5), sl5⟩) (c5 : PySem.W.codeIn K cd5 "is_among" = true) (k5 : PySem.W.keepIn K (.ref f5) = true)
    (a6 : PySem.W.nsIn K mainGlobals "is_day" = some (some (.ref f6)))
    (l6 : K.lookup f6 = some ⟨oc6, od6, .func (PySem.W.fnOf "is_day" "is_day" (defArgs s_is_day) (defBody s_is_day) (defScope s_is_day) .none kV6 dc6 pm6 an6 cd6 ct6), sl6⟩) (c6 : PySem.W.codeIn K cd6 "is_day" = true) (k6 : PySem.W.keepIn K (.ref f6) = true)
    (a7 : PySem.W.nsIn K mainGlobals "is_said" = some (some (.ref f7)))
    (l7 : K.lookup f7 = some ⟨oc7, od7, .func (PySem.W.fnOf "is_said" "is_said" (defArgs s_is_said) (defBody s_is_said) (defScope s_is_said) .none kV7 dc7 pm7 an7 cd7 ct7), sl7⟩) (c7 : PySem.W.codeIn K cd7 "is_said" = true) (k7 : PySem.W.keepIn K (.ref f7) = true)
    (a8 : PySem.W.nsIn K mainGlobals "is_worth" = some (some (.ref f8)))
    (l8 : K.lookup f8 = some ⟨oc8, od8, .func (PySem.W.fnOf "is_worth" "is_worth" (defArgs s_is_worth) (defBody s_is_worth) (defScope s_is_worth) .none kV8 dc8 pm8 an8 cd8 ct8), sl8⟩) (c8 : PySem.W.codeIn K cd8 "is_worth" = true) (k8 : PySem.W.keepIn K (.ref f8) = true)
    (a9 : PySem.W.nsIn K mainGlobals "is_number" = some (some (.ref f9)))
    (l9 : K.lookup f9 = some ⟨oc9, od9, .func (PySem.W.fnOf "is_number" "is_number" (defArgs s_is_number) (defBody s_is_number) (defScope s_is_number) .none kV9 dc9 pm9 an9 cd9 ct9), sl9⟩) (c9 : PySem.W.codeIn K cd9 "is_number" = true) (k9 : PySem.W.keepIn K (.ref f9) = true)
    (a10 : PySem.W.nsIn K mainGlobals "is_entry" = some (some (.ref f10)))
    (l10 : K.lookup f10 = some ⟨oc10, od10, .func (PySem.W.fnOf "is_entry" "is_entry" (defArgs s_is_entry) (defBody s_is_entry) (defScope s_is_entry) .none kV10 dc10 pm10 an10 cd10 ct10), sl10⟩) (c10 : PySem.W.codeIn K cd10 "is_entry" = true) (k10 : PySem.W.keepIn K (.ref f10) = true)
    (a11 : PySem.W.nsIn K mainGlobals "need_entry" = some (some (.ref f11)))
    (l11 : K.lookup f11 = some ⟨oc11, od11, .func (PySem.W.fnOf "need_entry" "need_entry" (defArgs s_need_entry) (defBody s_need_entry) (defScope s_need_entry) .none kV11 dc11 pm11 an11 cd11 ct11), sl11⟩) (c11 : PySem.W.codeIn K cd11 "need_entry" = true) (k11 : PySem.W.keepIn K (.ref f11) = true)
    (a12 : PySem.W.findIn K (.ref C_Keeper) "add" = some (some (.ref f12))) (i12 : PySem.W.isFn K (.ref f12) = true)
    (l12 : K.lookup f12 = some ⟨oc12, od12, .func (PySem.W.fnOf "add" "Keeper.add" (defArgs s_Keeper_add) (defBody s_Keeper_add) (defScope s_Keeper_add) .none kV12 dc12 pm12 an12 cd12 ct12), sl12⟩) (c12 : PySem.W.codeIn K cd12 "Keeper.add" = true) (k12 : PySem.W.keepIn K (.ref f12) = true)
    (a13 : PySem.W.nsIn K mainGlobals "_law_full" = some (some (.ref f13)))
    (l13 : K.lookup f13 = some ⟨oc13, od13, .func (PySem.W.fnOf "_law_full" "_law_full" (defArgs s_l_full) (defBody s_l_full) (defScope s_l_full) .none kV13 dc13 pm13 an13 cd13 ct13), sl13⟩) (c13 : PySem.W.codeIn K cd13 "_law_full" = true) (k13 : PySem.W.keepIn K (.ref f13) = true)
    (a14 : PySem.W.nsIn K mainGlobals "_law_entry" = some (some (.ref f14)))
    (l14 : K.lookup f14 = some ⟨oc14, od14, .func (PySem.W.fnOf "_law_entry" "_law_entry" (defArgs s_l_entry) (defBody s_l_entry) (defScope s_l_entry) .none kV14 dc14 pm14 an14 cd14 ct14), sl14⟩) (c14 : PySem.W.codeIn K cd14 "_law_entry" = true) (k14 : PySem.W.keepIn K (.ref f14) = true)
    (a15 : PySem.W.nsIn K mainGlobals "_law_odd" = some (some (.ref f15)))
    (l15 : K.lookup f15 = some ⟨oc15, od15, .func (PySem.W.fnOf "_law_odd" "_law_odd" (defArgs s_l_odd) (defBody s_l_odd) (defScope s_l_odd) .none kV15 dc15 pm15 an15 cd15 ct15), sl15⟩) (c15 : PySem.W.codeIn K cd15 "_law_odd" = true) (k15 : PySem.W.keepIn K (.ref f15) = true)
    (a16 : PySem.W.findIn K (.ref C_Keeper) "book" = some (some (.ref f16))) (i16 : PySem.W.isFn K (.ref f16) = true)
    (l16 : K.lookup f16 = some ⟨oc16, od16, .func (PySem.W.fnOf "book" "Keeper.book" (defArgs s_Keeper_book) (defBody s_Keeper_book) (defScope s_Keeper_book) .none kV16 dc16 pm16 an16 cd16 ct16), sl16⟩) (c16 : PySem.W.codeIn K cd16 "Keeper.book" = true) (k16 : PySem.W.keepIn K (.ref f16) = true)
    (a17 : PySem.W.nsIn K mainGlobals "_law_due" = some (some (.ref f17)))
    (l17 : K.lookup f17 = some ⟨oc17, od17, .func (PySem.W.fnOf "_law_due" "_law_due" (defArgs s_l_due) (defBody s_l_due) (defScope s_l_due) .none kV17 dc17 pm17 an17 cd17 ct17), sl17⟩) (c17 : PySem.W.codeIn K cd17 "_law_due" = true) (k17 : PySem.W.keepIn K (.ref f17) = true)
    (a18 : PySem.W.nsIn K mainGlobals "_law_word" = some (some (.ref f18)))
    (l18 : K.lookup f18 = some ⟨oc18, od18, .func (PySem.W.fnOf "_law_word" "_law_word" (defArgs s_l_word) (defBody s_l_word) (defScope s_l_word) .none kV18 dc18 pm18 an18 cd18 ct18), sl18⟩) (c18 : PySem.W.codeIn K cd18 "_law_word" = true) (k18 : PySem.W.keepIn K (.ref f18) = true)
    (a19 : PySem.W.nsIn K mainGlobals "_law_added" = some (some (.ref f19)))
    (l19 : K.lookup f19 = some ⟨oc19, od19, .func (PySem.W.fnOf "_law_added" "_law_added" (defArgs s_l_added) (defBody s_l_added) (defScope s_l_added) .none kV19 dc19 pm19 an19 cd19 ct19), sl19⟩) (c19 : PySem.W.codeIn K cd19 "_law_added" = true) (k19 : PySem.W.keepIn K (.ref f19) = true)
    (a20 : PySem.W.findIn K (.ref C_Keeper) "last" = some (some (.ref f20))) (i20 : PySem.W.isFn K (.ref f20) = true)
    (l20 : K.lookup f20 = some ⟨oc20, od20, .func (PySem.W.fnOf "last" "Keeper.last" (defArgs s_Keeper_last) (defBody s_Keeper_last) (defScope s_Keeper_last) .none kV20 dc20 pm20 an20 cd20 ct20), sl20⟩) (c20 : PySem.W.codeIn K cd20 "Keeper.last" = true) (k20 : PySem.W.keepIn K (.ref f20) = true)
    (a21 : PySem.W.findIn K (.ref C_Keeper) "floor" = some (some (.ref f21))) (i21 : PySem.W.isFn K (.ref f21) = true)
    (l21 : K.lookup f21 = some ⟨oc21, od21, .func (PySem.W.fnOf "floor" "Keeper.floor" (defArgs s_Keeper_floor) (defBody s_Keeper_floor) (defScope s_Keeper_floor) .none kV21 dc21 pm21 an21 cd21 ct21), sl21⟩) (c21 : PySem.W.codeIn K cd21 "Keeper.floor" = true) (k21 : PySem.W.keepIn K (.ref f21) = true)
    (a22 : PySem.W.nsIn K mainGlobals "counting" = some (some (.ref f22)))
    (l22 : K.lookup f22 = some ⟨oc22, od22, .func (PySem.W.fnOf "counting" "counting" (defArgs s_counting) (defBody s_counting) (defScope s_counting) .none kV22 dc22 pm22 an22 cd22 ct22), sl22⟩) (c22 : PySem.W.codeIn K cd22 "counting" = true) (k22 : PySem.W.keepIn K (.ref f22) = true)
    (a23 : PySem.W.nsIn K mainGlobals "left_of" = some (some (.ref f23)))
    (l23 : K.lookup f23 = some ⟨oc23, od23, .func (PySem.W.fnOf "left_of" "left_of" (defArgs s_left_of) (defBody s_left_of) (defScope s_left_of) .none kV23 dc23 pm23 an23 cd23 ct23), sl23⟩) (c23 : PySem.W.codeIn K cd23 "left_of" = true) (k23 : PySem.W.keepIn K (.ref f23) = true)
    (a24 : PySem.W.nsIn K mainGlobals "names_in" = some (some (.ref f24)))
    (l24 : K.lookup f24 = some ⟨oc24, od24, .func (PySem.W.fnOf "names_in" "names_in" (defArgs s_names_in) (defBody s_names_in) (defScope s_names_in) .none kV24 dc24 pm24 an24 cd24 ct24), sl24⟩) (c24 : PySem.W.codeIn K cd24 "names_in" = true) (k24 : PySem.W.keepIn K (.ref f24) = true)
    (a25 : PySem.W.nsIn K mainGlobals "begins_of" = some (some (.ref f25)))
    (l25 : K.lookup f25 = some ⟨oc25, od25, .func (PySem.W.fnOf "begins_of" "begins_of" (defArgs s_begins_of) (defBody s_begins_of) (defScope s_begins_of) .none kV25 dc25 pm25 an25 cd25 ct25), sl25⟩) (c25 : PySem.W.codeIn K cd25 "begins_of" = true) (k25 : PySem.W.keepIn K (.ref f25) = true)
    (a26 : PySem.W.nsIn K mainGlobals "said_of" = some (some (.ref f26)))
    (l26 : K.lookup f26 = some ⟨oc26, od26, .func (PySem.W.fnOf "said_of" "said_of" (defArgs s_said_of) (defBody s_said_of) (defScope s_said_of) .none kV26 dc26 pm26 an26 cd26 ct26), sl26⟩) (c26 : PySem.W.codeIn K cd26 "said_of" = true) (k26 : PySem.W.keepIn K (.ref f26) = true)
    (a27 : PySem.W.nsIn K mainGlobals "all_said" = some (some (.ref f27)))
    (l27 : K.lookup f27 = some ⟨oc27, od27, .func (PySem.W.fnOf "all_said" "all_said" (defArgs s_all_said) (defBody s_all_said) (defScope s_all_said) .none kV27 dc27 pm27 an27 cd27 ct27), sl27⟩) (c27 : PySem.W.codeIn K cd27 "all_said" = true) (k27 : PySem.W.keepIn K (.ref f27) = true)
    (a28 : PySem.W.nsIn K mainGlobals "without" = some (some (.ref f28)))
    (l28 : K.lookup f28 = some ⟨oc28, od28, .func (PySem.W.fnOf "without" "without" (defArgs s_without) (defBody s_without) (defScope s_without) .none kV28 dc28 pm28 an28 cd28 ct28), sl28⟩) (c28 : PySem.W.codeIn K cd28 "without" = true) (k28 : PySem.W.keepIn K (.ref f28) = true)
    (a29 : PySem.W.nsIn K mainGlobals "is_needless" = some (some (.ref f29)))
    (l29 : K.lookup f29 = some ⟨oc29, od29, .func (PySem.W.fnOf "is_needless" "is_needless" (defArgs s_is_needless) (defBody s_is_needless) (defScope s_is_needless) .none kV29 dc29 pm29 an29 cd29 ct29), sl29⟩) (c29 : PySem.W.codeIn K cd29 "is_needless" = true) (k29 : PySem.W.keepIn K (.ref f29) = true)
    (a30 : PySem.W.nsIn K mainGlobals "shortened" = some (some (.ref f30)))
    (l30 : K.lookup f30 = some ⟨oc30, od30, .func (PySem.W.fnOf "shortened" "shortened" (defArgs s_shortened) (defBody s_shortened) (defScope s_shortened) .none kV30 dc30 pm30 an30 cd30 ct30), sl30⟩) (c30 : PySem.W.codeIn K cd30 "shortened" = true) (k30 : PySem.W.keepIn K (.ref f30) = true)
    (a31 : PySem.W.findIn K (.ref C_Keeper) "shorten" = some (some (.ref f31))) (i31 : PySem.W.isFn K (.ref f31) = true)
    (l31 : K.lookup f31 = some ⟨oc31, od31, .func (PySem.W.fnOf "shorten" "Keeper.shorten" (defArgs s_Keeper_shorten) (defBody s_Keeper_shorten) (defScope s_Keeper_shorten) .none kV31 dc31 pm31 an31 cd31 ct31), sl31⟩) (c31 : PySem.W.codeIn K cd31 "Keeper.shorten" = true) (k31 : PySem.W.keepIn K (.ref f31) = true)
    (a32 : PySem.W.nsIn K mainGlobals "_law_whole" = some (some (.ref f32)))
    (l32 : K.lookup f32 = some ⟨oc32, od32, .func (PySem.W.fnOf "_law_whole" "_law_whole" (defArgs s_l_whole) (defBody s_l_whole) (defScope s_l_whole) .none kV32 dc32 pm32 an32 cd32 ct32), sl32⟩) (c32 : PySem.W.codeIn K cd32 "_law_whole" = true) (k32 : PySem.W.keepIn K (.ref f32) = true)
    (a33 : PySem.W.findIn K (.ref C_Keeper) "need_known" = some (some (.ref f33))) (i33 : PySem.W.isFn K (.ref f33) = true)
    (l33 : K.lookup f33 = some ⟨oc33, od33, .func (PySem.W.fnOf "need_known" "Keeper.need_known" (defArgs s_Keeper_need_known) (defBody s_Keeper_need_known) (defScope s_Keeper_need_known) .none kV33 dc33 pm33 an33 cd33 ct33), sl33⟩) (c33 : PySem.W.codeIn K cd33 "Keeper.need_known" = true) (k33 : PySem.W.keepIn K (.ref f33) = true)
    (a34 : PySem.W.nsIn K mainGlobals "worth_of" = some (some (.ref f34)))
    (l34 : K.lookup f34 = some ⟨oc34, od34, .func (PySem.W.fnOf "worth_of" "worth_of" (defArgs s_worth_of) (defBody s_worth_of) (defScope s_worth_of) .none kV34 dc34 pm34 an34 cd34 ct34), sl34⟩) (c34 : PySem.W.codeIn K cd34 "worth_of" = true) (k34 : PySem.W.keepIn K (.ref f34) = true)
    (a35 : PySem.W.findIn K (.ref C_Keeper) "worth" = some (some (.ref f35))) (i35 : PySem.W.isFn K (.ref f35) = true)
    (l35 : K.lookup f35 = some ⟨oc35, od35, .func (PySem.W.fnOf "worth" "Keeper.worth" (defArgs s_Keeper_worth) (defBody s_Keeper_worth) (defScope s_Keeper_worth) .none kV35 dc35 pm35 an35 cd35 ct35), sl35⟩) (c35 : PySem.W.codeIn K cd35 "Keeper.worth" = true) (k35 : PySem.W.keepIn K (.ref f35) = true)
    (a36 : PySem.W.nsIn K mainGlobals "stretches" = some (some (.ref f36)))
    (l36 : K.lookup f36 = some ⟨oc36, od36, .func (PySem.W.fnOf "stretches" "stretches" (defArgs s_stretches) (defBody s_stretches) (defScope s_stretches) .none kV36 dc36 pm36 an36 cd36 ct36), sl36⟩) (c36 : PySem.W.codeIn K cd36 "stretches" = true) (k36 : PySem.W.keepIn K (.ref f36) = true)
    (a37 : PySem.W.nsIn K mainGlobals "runs_of" = some (some (.ref f37)))
    (l37 : K.lookup f37 = some ⟨oc37, od37, .func (PySem.W.fnOf "runs_of" "runs_of" (defArgs s_runs_of) (defBody s_runs_of) (defScope s_runs_of) .none kV37 dc37 pm37 an37 cd37 ct37), sl37⟩) (c37 : PySem.W.codeIn K cd37 "runs_of" = true) (k37 : PySem.W.keepIn K (.ref f37) = true)
    (a38 : PySem.W.findIn K (.ref C_Keeper) "runs" = some (some (.ref f38))) (i38 : PySem.W.isFn K (.ref f38) = true)
    (l38 : K.lookup f38 = some ⟨oc38, od38, .func (PySem.W.fnOf "runs" "Keeper.runs" (defArgs s_Keeper_runs) (defBody s_Keeper_runs) (defScope s_Keeper_runs) .none kV38 dc38 pm38 an38 cd38 ct38), sl38⟩) (c38 : PySem.W.codeIn K cd38 "Keeper.runs" = true) (k38 : PySem.W.keepIn K (.ref f38) = true)
    (a39 : PySem.W.nsIn K mainGlobals "hangs_on" = some (some (.ref f39)))
    (l39 : K.lookup f39 = some ⟨oc39, od39, .func (PySem.W.fnOf "hangs_on" "hangs_on" (defArgs s_hangs_on) (defBody s_hangs_on) (defScope s_hangs_on) .none kV39 dc39 pm39 an39 cd39 ct39), sl39⟩) (c39 : PySem.W.codeIn K cd39 "hangs_on" = true) (k39 : PySem.W.keepIn K (.ref f39) = true)
    (a40 : PySem.W.findIn K (.ref C_Keeper) "why" = some (some (.ref f40))) (i40 : PySem.W.isFn K (.ref f40) = true)
    (l40 : K.lookup f40 = some ⟨oc40, od40, .func (PySem.W.fnOf "why" "Keeper.why" (defArgs s_Keeper_why) (defBody s_Keeper_why) (defScope s_Keeper_why) .none kV40 dc40 pm40 an40 cd40 ct40), sl40⟩) (c40 : PySem.W.codeIn K cd40 "Keeper.why" = true) (k40 : PySem.W.keepIn K (.ref f40) = true)
    (a41 : PySem.W.nsIn K mainGlobals "_law_gone" = some (some (.ref f41)))
    (l41 : K.lookup f41 = some ⟨oc41, od41, .func (PySem.W.fnOf "_law_gone" "_law_gone" (defArgs s_l_gone) (defBody s_l_gone) (defScope s_l_gone) .none kV41 dc41 pm41 an41 cd41 ct41), sl41⟩) (c41 : PySem.W.codeIn K cd41 "_law_gone" = true) (k41 : PySem.W.keepIn K (.ref f41) = true)
    (a42 : PySem.W.nsIn K mainGlobals "_law_taken_then" = some (some (.ref f42)))
    (l42 : K.lookup f42 = some ⟨oc42, od42, .func (PySem.W.fnOf "_law_taken_then" "_law_taken_then" (defArgs s_l_taken_then) (defBody s_l_taken_then) (defScope s_l_taken_then) .none kV42 dc42 pm42 an42 cd42 ct42), sl42⟩) (c42 : PySem.W.codeIn K cd42 "_law_taken_then" = true) (k42 : PySem.W.keepIn K (.ref f42) = true)
    (a43 : PySem.W.nsIn K mainGlobals "law" = some (some (.ref f43)))
    (l43 : K.lookup f43 = some ⟨oc43, od43, .func (PySem.W.fnOf "law" "law" (defArgs s_law) (defBody s_law) (defScope s_law) .none kV43 dc43 pm43 an43 cd43 ct43), sl43⟩) (c43 : PySem.W.codeIn K cd43 "law" = true) (k43 : PySem.W.keepIn K (.ref f43) = true)
    (z_ValueError : PySem.W.nsIn K mainGlobals "ValueError" = some none)
    (z_bool : PySem.W.nsIn K mainGlobals "bool" = some none)
    (z_dict : PySem.W.nsIn K mainGlobals "dict" = some none)
    (z_enumerate : PySem.W.nsIn K mainGlobals "enumerate" = some none)
    (z_int : PySem.W.nsIn K mainGlobals "int" = some none)
    (z_isinstance : PySem.W.nsIn K mainGlobals "isinstance" = some none)
    (z_len : PySem.W.nsIn K mainGlobals "len" = some none)
    (z_max : PySem.W.nsIn K mainGlobals "max" = some none)
    (z_min : PySem.W.nsIn K mainGlobals "min" = some none)
    (z_range : PySem.W.nsIn K mainGlobals "range" = some none)
    (z_reversed : PySem.W.nsIn K mainGlobals "reversed" = some none)
    (z_sorted : PySem.W.nsIn K mainGlobals "sorted" = some none)
    (z_str : PySem.W.nsIn K mainGlobals "str" = some none)
    (z_tuple : PySem.W.nsIn K mainGlobals "tuple" = some none)
    (k_LETTERS : PySem.W.nsIn K mainGlobals "LETTERS" = some (some (.str "abcdefghijklmnopqrstuvwxyz" t_LETTERS)))
    (k_MOST : PySem.W.nsIn K mainGlobals "MOST" = some (some (.int 30 t_MOST)))
    (k_MOST_DAY : PySem.W.nsIn K mainGlobals "MOST_DAY" = some (some (.int 1000000 t_MOST_DAY)))
    (k_MOST_LETTERS : PySem.W.nsIn K mainGlobals "MOST_LETTERS" = some (some (.int 8 t_MOST_LETTERS)))
    (k_MOST_WORTH : PySem.W.nsIn K mainGlobals "MOST_WORTH" = some (some (.int 1000000000 t_MOST_WORTH)))
    : ∃ fd : FuncData, (∀ (s : Shared) (v : Value), BindsTo s fd ⟨[v], []⟩ [("_law_script", v)]) ∧ ∀ base : Heap, K.In base → base.Ns mainGlobals mg → FnOk l.prog w K mg base CX0 9 fa fd ["_law_script"] (sp_law_k11 K ⟨0, 0, 0, 0, 0, 0, 0, 0, 0⟩) := by
  have e := hfa.symm.trans (PySem.W.mg_of X G a43)
  cases e
  have F1 := fun_mk (st := s_l_names) l1 c1 k1
  have b1 := F1.binds (ps := ["_law_cell", "_law_many"]) fun _ _ _ _ _ _ us hl => match us, hl with | [_, _], _ => rfl
  have F2 := fun_mk (st := s_l_of) l2 c2 k2
  have b2 := F2.binds (ps := ["_law_script", "_law_k"]) fun _ _ _ _ _ _ us hl => match us, hl with | [_, _], _ => rfl
  have F3 := fun_mk (st := s_Keeper_init) l3 c3 k3
  have b3 := F3.binds (ps := ["self"]) fun _ _ _ _ _ _ us hl => match us, hl with | [_], _ => rfl
  have F4 := fun_mk (st := s_is_name) l4 c4 k4
  have b4 := F4.binds (ps := ["thing"]) fun _ _ _ _ _ _ us hl => match us, hl with | [_], _ => rfl
  have F5 := fun_mk (st := s_is_among) l5 c5 k5
  have b5 := F5.binds (ps := ["thing", "least", "most"]) fun _ _ _ _ _ _ us hl => match us, hl with | [_, _, _], _ => rfl
  have F6 := fun_mk (st := s_is_day) l6 c6 k6
  have b6 := F6.binds (ps := ["thing"]) fun _ _ _ _ _ _ us hl => match us, hl with | [_], _ => rfl
  have F7 := fun_mk (st := s_is_said) l7 c7 k7
  have b7 := F7.binds (ps := ["entry", "parts"]) fun _ _ _ _ _ _ us hl => match us, hl with | [_, _], _ => rfl
  have F8 := fun_mk (st := s_is_worth) l8 c8 k8
  have b8 := F8.binds (ps := ["thing"]) fun _ _ _ _ _ _ us hl => match us, hl with | [_], _ => rfl
  have F9 := fun_mk (st := s_is_number) l9 c9 k9
  have b9 := F9.binds (ps := ["thing"]) fun _ _ _ _ _ _ us hl => match us, hl with | [_], _ => rfl
  have F10 := fun_mk (st := s_is_entry) l10 c10 k10
  have b10 := F10.binds (ps := ["entry"]) fun _ _ _ _ _ _ us hl => match us, hl with | [_], _ => rfl
  have F11 := fun_mk (st := s_need_entry) l11 c11 k11
  have b11 := F11.binds (ps := ["entry"]) fun _ _ _ _ _ _ us hl => match us, hl with | [_], _ => rfl
  have F12 := fun_mk (st := s_Keeper_add) l12 c12 k12
  have b12 := F12.binds (ps := ["self", "entry"]) fun _ _ _ _ _ _ us hl => match us, hl with | [_, _], _ => rfl
  have F13 := fun_mk (st := s_l_full) l13 c13 k13
  have b13 := F13.binds (ps := ["_law_keeper", "_law_many"]) fun _ _ _ _ _ _ us hl => match us, hl with | [_, _], _ => rfl
  have F14 := fun_mk (st := s_l_entry) l14 c14 k14
  have b14 := F14.binds (ps := ["_law_names_here", "_law_base", "_law_n", "_law_number"]) fun _ _ _ _ _ _ us hl => match us, hl with | [_, _, _, _], _ => rfl
  have F15 := fun_mk (st := s_l_odd) l15 c15 k15
  have b15 := F15.binds (ps := ["_law_cell", "_law_k", "_law_given", "_law_floor"]) fun _ _ _ _ _ _ us hl => match us, hl with | [_, _, _, _], _ => rfl
  have F16 := fun_mk (st := s_Keeper_book) l16 c16 k16
  have b16 := F16.binds (ps := ["self"]) fun _ _ _ _ _ _ us hl => match us, hl with | [_], _ => rfl
  have F17 := fun_mk (st := s_l_due) l17 c17 k17
  have b17 := F17.binds (ps := ["_law_entry_here", "_law_rows", "_law_given", "_law_floor"]) fun _ _ _ _ _ _ us hl => match us, hl with | [_, _, _, _], _ => rfl
  have F18 := fun_mk (st := s_l_word) l18 c18 k18
  have b18 := F18.binds (ps := ["_law_e"]) fun _ _ _ _ _ _ us hl => match us, hl with | [_], _ => rfl
  have F19 := fun_mk (st := s_l_added) l19 c19 k19
  have b19 := F19.binds (ps := ["_law_keeper", "_law_entry_here"]) fun _ _ _ _ _ _ us hl => match us, hl with | [_, _], _ => rfl
  have F20 := fun_mk (st := s_Keeper_last) l20 c20 k20
  have b20 := F20.binds (ps := ["self"]) fun _ _ _ _ _ _ us hl => match us, hl with | [_], _ => rfl
  have F21 := fun_mk (st := s_Keeper_floor) l21 c21 k21
  have b21 := F21.binds (ps := ["self"]) fun _ _ _ _ _ _ us hl => match us, hl with | [_], _ => rfl
  have F22 := fun_mk (st := s_counting) l22 c22 k22
  have b22 := F22.binds (ps := ["book", "n"]) fun _ _ _ _ _ _ us hl => match us, hl with | [_, _], _ => rfl
  have F23 := fun_mk (st := s_left_of) l23 c23 k23
  have b23 := F23.binds (ps := ["book", "numbers"]) fun _ _ _ _ _ _ us hl => match us, hl with | [_, _], _ => rfl
  have F24 := fun_mk (st := s_names_in) l24 c24 k24
  have b24 := F24.binds (ps := ["book"]) fun _ _ _ _ _ _ us hl => match us, hl with | [_], _ => rfl
  have F25 := fun_mk (st := s_begins_of) l25 c25 k25
  have b25 := F25.binds (ps := ["book", "numbers", "low", "high"]) fun _ _ _ _ _ _ us hl => match us, hl with | [_, _, _, _], _ => rfl
  have F26 := fun_mk (st := s_said_of) l26 c26 k26
  have b26 := F26.binds (ps := ["book", "numbers", "name", "day"]) fun _ _ _ _ _ _ us hl => match us, hl with | [_, _, _, _], _ => rfl
  have F27 := fun_mk (st := s_all_said) l27 c27 k27
  have b27 := F27.binds (ps := ["book", "names", "days"]) fun _ _ _ _ _ _ us hl => match us, hl with | [_, _, _], _ => rfl
  have F28 := fun_mk (st := s_without) l28 c28 k28
  have b28 := F28.binds (ps := ["book", "number"]) fun _ _ _ _ _ _ us hl => match us, hl with | [_, _], _ => rfl
  have F29 := fun_mk (st := s_is_needless) l29 c29 k29
  have b29 := F29.binds (ps := ["book", "number", "names"]) fun _ _ _ _ _ _ us hl => match us, hl with | [_, _, _], _ => rfl
  have F30 := fun_mk (st := s_shortened) l30 c30 k30
  have b30 := F30.binds (ps := ["book"]) fun _ _ _ _ _ _ us hl => match us, hl with | [_], _ => rfl
  have F31 := fun_mk (st := s_Keeper_shorten) l31 c31 k31
  have b31 := F31.binds (ps := ["self"]) fun _ _ _ _ _ _ us hl => match us, hl with | [_], _ => rfl
  have F32 := fun_mk (st := s_l_whole) l32 c32 k32
  have b32 := F32.binds (ps := ["_law_found"]) fun _ _ _ _ _ _ us hl => match us, hl with | [_], _ => rfl
  have F33 := fun_mk (st := s_Keeper_need_known) l33 c33 k33
  have b33 := F33.binds (ps := ["self", "n"]) fun _ _ _ _ _ _ us hl => match us, hl with | [_, _], _ => rfl
  have F34 := fun_mk (st := s_worth_of) l34 c34 k34
  have b34 := F34.binds (ps := ["book", "n", "name", "day"]) fun _ _ _ _ _ _ us hl => match us, hl with | [_, _, _, _], _ => rfl
  have F35 := fun_mk (st := s_Keeper_worth) l35 c35 k35
  have b35 := F35.binds (ps := ["self", "n", "name", "day"]) fun _ _ _ _ _ _ us hl => match us, hl with | [_, _, _, _], _ => rfl
  have F36 := fun_mk (st := s_stretches) l36 c36 k36
  have b36 := F36.binds (ps := ["rows", "high"]) fun _ _ _ _ _ _ us hl => match us, hl with | [_, _], _ => rfl
  have F37 := fun_mk (st := s_runs_of) l37 c37 k37
  have b37 := F37.binds (ps := ["book", "n", "name", "low", "high"]) fun _ _ _ _ _ _ us hl => match us, hl with | [_, _, _, _, _], _ => rfl
  have F38 := fun_mk (st := s_Keeper_runs) l38 c38 k38
  have b38 := F38.binds (ps := ["self", "n", "name", "low", "high"]) fun _ _ _ _ _ _ us hl => match us, hl with | [_, _, _, _, _], _ => rfl
  have F39 := fun_mk (st := s_hangs_on) l39 c39 k39
  have b39 := F39.binds (ps := ["book", "n", "name", "low", "high"]) fun _ _ _ _ _ _ us hl => match us, hl with | [_, _, _, _, _], _ => rfl
  have F40 := fun_mk (st := s_Keeper_why) l40 c40 k40
  have b40 := F40.binds (ps := ["self", "n", "name", "low", "high"]) fun _ _ _ _ _ _ us hl => match us, hl with | [_, _, _, _, _], _ => rfl
  have F41 := fun_mk (st := s_l_gone) l41 c41 k41
  have b41 := F41.binds (ps := ["_law_keeper", "_law_n", "_law_way"]) fun _ _ _ _ _ _ us hl => match us, hl with | [_, _, _], _ => rfl
  have F42 := fun_mk (st := s_l_taken_then) l42 c42 k42
  have b42 := F42.binds (ps := ["_law_keeper", "_law_numbers", "_law_given", "_law_floor"]) fun _ _ _ _ _ _ us hl => match us, hl with | [_, _, _, _], _ => rfl
  have F43 := fun_mk (st := s_law) l43 c43 k43
  have b43 := F43.binds (ps := ["_law_script"]) fun _ _ _ _ _ _ us hl => match us, hl with | [_], _ => rfl
  let a : Ad := { f_l_names := f1, f_l_of := f2, f_Keeper_init := f3, f_is_name := f4, f_is_among := f5, f_is_day := f6, f_is_said := f7, f_is_worth := f8, f_is_number := f9, f_is_entry := f10, f_need_entry := f11, f_Keeper_add := f12, f_l_full := f13, f_l_entry := f14, f_l_odd := f15, f_Keeper_book := f16, f_l_due := f17, f_l_word := f18, f_l_added := f19, f_Keeper_last := f20, f_Keeper_floor := f21, f_counting := f22, f_left_of := f23, f_names_in := f24, f_begins_of := f25, f_said_of := f26, f_all_said := f27, f_without := f28, f_is_needless := f29, f_shortened := f30, f_Keeper_shorten := f31, f_l_whole := f32, f_Keeper_need_known := f33, f_worth_of := f34, f_Keeper_worth := f35, f_stretches := f36, f_runs_of := f37, f_Keeper_runs := f38, f_hangs_on := f39, f_Keeper_why := f40, f_l_gone := f41, f_l_taken_then := f42, f_law := fa, t_LETTERS := t_LETTERS, t_MOST := t_MOST, t_MOST_DAY := t_MOST_DAY, t_MOST_LETTERS := t_MOST_LETTERS, t_MOST_WORTH := t_MOST_WORTH, C := ⟨C_BookError, C_BadEntry, C_BadBook, C_NoEntry, C_Closed, C_TooMany, C_Gone, C_BadText, C_Keeper⟩ }
  let d : Fd := { d_l_names := PySem.W.fnOf "_law_names" "_law_names" (defArgs s_l_names) (defBody s_l_names) (defScope s_l_names) .none kV1 dc1 pm1 an1 cd1 ct1, d_l_of := PySem.W.fnOf "_law_of" "_law_of" (defArgs s_l_of) (defBody s_l_of) (defScope s_l_of) .none kV2 dc2 pm2 an2 cd2 ct2, d_Keeper_init := PySem.W.fnOf "__init__" "Keeper.__init__" (defArgs s_Keeper_init) (defBody s_Keeper_init) (defScope s_Keeper_init) .none kV3 dc3 pm3 an3 cd3 ct3, d_is_name := PySem.W.fnOf "is_name" "is_name" (defArgs s_is_name) (defBody s_is_name) (defScope s_is_name) .none kV4 dc4 pm4 an4 cd4 ct4, d_is_among := PySem.W.fnOf "is_among" "is_among" (defArgs s_is_among) (defBody s_is_among) (defScope s_is_among) .none kV5 dc5 pm5 an5 cd5 ct5, d_is_day := PySem.W.fnOf "is_day" "is_day" (defArgs s_is_day) (defBody s_is_day) (defScope s_is_day) .none kV6 dc6 pm6 an6 cd6 ct6, d_is_said := PySem.W.fnOf "is_said" "is_said" (defArgs s_is_said) (defBody s_is_said) (defScope s_is_said) .none kV7 dc7 pm7 an7 cd7 ct7, d_is_worth := PySem.W.fnOf "is_worth" "is_worth" (defArgs s_is_worth) (defBody s_is_worth) (defScope s_is_worth) .none kV8 dc8 pm8 an8 cd8 ct8, d_is_number := PySem.W.fnOf "is_number" "is_number" (defArgs s_is_number) (defBody s_is_number) (defScope s_is_number) .none kV9 dc9 pm9 an9 cd9 ct9, d_is_entry := PySem.W.fnOf "is_entry" "is_entry" (defArgs s_is_entry) (defBody s_is_entry) (defScope s_is_entry) .none kV10 dc10 pm10 an10 cd10 ct10, d_need_entry := PySem.W.fnOf "need_entry" "need_entry" (defArgs s_need_entry) (defBody s_need_entry) (defScope s_need_entry) .none kV11 dc11 pm11 an11 cd11 ct11, d_Keeper_add := PySem.W.fnOf "add" "Keeper.add" (defArgs s_Keeper_add) (defBody s_Keeper_add) (defScope s_Keeper_add) .none kV12 dc12 pm12 an12 cd12 ct12, d_l_full := PySem.W.fnOf "_law_full" "_law_full" (defArgs s_l_full) (defBody s_l_full) (defScope s_l_full) .none kV13 dc13 pm13 an13 cd13 ct13, d_l_entry := PySem.W.fnOf "_law_entry" "_law_entry" (defArgs s_l_entry) (defBody s_l_entry) (defScope s_l_entry) .none kV14 dc14 pm14 an14 cd14 ct14, d_l_odd := PySem.W.fnOf "_law_odd" "_law_odd" (defArgs s_l_odd) (defBody s_l_odd) (defScope s_l_odd) .none kV15 dc15 pm15 an15 cd15 ct15, d_Keeper_book := PySem.W.fnOf "book" "Keeper.book" (defArgs s_Keeper_book) (defBody s_Keeper_book) (defScope s_Keeper_book) .none kV16 dc16 pm16 an16 cd16 ct16, d_l_due := PySem.W.fnOf "_law_due" "_law_due" (defArgs s_l_due) (defBody s_l_due) (defScope s_l_due) .none kV17 dc17 pm17 an17 cd17 ct17, d_l_word := PySem.W.fnOf "_law_word" "_law_word" (defArgs s_l_word) (defBody s_l_word) (defScope s_l_word) .none kV18 dc18 pm18 an18 cd18 ct18, d_l_added := PySem.W.fnOf "_law_added" "_law_added" (defArgs s_l_added) (defBody s_l_added) (defScope s_l_added) .none kV19 dc19 pm19 an19 cd19 ct19, d_Keeper_last := PySem.W.fnOf "last" "Keeper.last" (defArgs s_Keeper_last) (defBody s_Keeper_last) (defScope s_Keeper_last) .none kV20 dc20 pm20 an20 cd20 ct20, d_Keeper_floor := PySem.W.fnOf "floor" "Keeper.floor" (defArgs s_Keeper_floor) (defBody s_Keeper_floor) (defScope s_Keeper_floor) .none kV21 dc21 pm21 an21 cd21 ct21, d_counting := PySem.W.fnOf "counting" "counting" (defArgs s_counting) (defBody s_counting) (defScope s_counting) .none kV22 dc22 pm22 an22 cd22 ct22, d_left_of := PySem.W.fnOf "left_of" "left_of" (defArgs s_left_of) (defBody s_left_of) (defScope s_left_of) .none kV23 dc23 pm23 an23 cd23 ct23, d_names_in := PySem.W.fnOf "names_in" "names_in" (defArgs s_names_in) (defBody s_names_in) (defScope s_names_in) .none kV24 dc24 pm24 an24 cd24 ct24, d_begins_of := PySem.W.fnOf "begins_of" "begins_of" (defArgs s_begins_of) (defBody s_begins_of) (defScope s_begins_of) .none kV25 dc25 pm25 an25 cd25 ct25, d_said_of := PySem.W.fnOf "said_of" "said_of" (defArgs s_said_of) (defBody s_said_of) (defScope s_said_of) .none kV26 dc26 pm26 an26 cd26 ct26, d_all_said := PySem.W.fnOf "all_said" "all_said" (defArgs s_all_said) (defBody s_all_said) (defScope s_all_said) .none kV27 dc27 pm27 an27 cd27 ct27, d_without := PySem.W.fnOf "without" "without" (defArgs s_without) (defBody s_without) (defScope s_without) .none kV28 dc28 pm28 an28 cd28 ct28, d_is_needless := PySem.W.fnOf "is_needless" "is_needless" (defArgs s_is_needless) (defBody s_is_needless) (defScope s_is_needless) .none kV29 dc29 pm29 an29 cd29 ct29, d_shortened := PySem.W.fnOf "shortened" "shortened" (defArgs s_shortened) (defBody s_shortened) (defScope s_shortened) .none kV30 dc30 pm30 an30 cd30 ct30, d_Keeper_shorten := PySem.W.fnOf "shorten" "Keeper.shorten" (defArgs s_Keeper_shorten) (defBody s_Keeper_shorten) (defScope s_Keeper_shorten) .none kV31 dc31 pm31 an31 cd31 ct31, d_l_whole := PySem.W.fnOf "_law_whole" "_law_whole" (defArgs s_l_whole) (defBody s_l_whole) (defScope s_l_whole) .none kV32 dc32 pm32 an32 cd32 ct32, d_Keeper_need_known := PySem.W.fnOf "need_known" "Keeper.need_known" (defArgs s_Keeper_need_known) (defBody s_Keeper_need_known) (defScope s_Keeper_need_known) .none kV33 dc33 pm33 an33 cd33 ct33, d_worth_of := PySem.W.fnOf "worth_of" "worth_of" (defArgs s_worth_of) (defBody s_worth_of) (defScope s_worth_of) .none kV34 dc34 pm34 an34 cd34 ct34, d_Keeper_worth := PySem.W.fnOf "worth" "Keeper.worth" (defArgs s_Keeper_worth) (defBody s_Keeper_worth) (defScope s_Keeper_worth) .none kV35 dc35 pm35 an35 cd35 ct35, d_stretches := PySem.W.fnOf "stretches" "stretches" (defArgs s_stretches) (defBody s_stretches) (defScope s_stretches) .none kV36 dc36 pm36 an36 cd36 ct36, d_runs_of := PySem.W.fnOf "runs_of" "runs_of" (defArgs s_runs_of) (defBody s_runs_of) (defScope s_runs_of) .none kV37 dc37 pm37 an37 cd37 ct37, d_Keeper_runs := PySem.W.fnOf "runs" "Keeper.runs" (defArgs s_Keeper_runs) (defBody s_Keeper_runs) (defScope s_Keeper_runs) .none kV38 dc38 pm38 an38 cd38 ct38, d_hangs_on := PySem.W.fnOf "hangs_on" "hangs_on" (defArgs s_hangs_on) (defBody s_hangs_on) (defScope s_hangs_on) .none kV39 dc39 pm39 an39 cd39 ct39, d_Keeper_why := PySem.W.fnOf "why" "Keeper.why" (defArgs s_Keeper_why) (defBody s_Keeper_why) (defScope s_Keeper_why) .none kV40 dc40 pm40 an40 cd40 ct40, d_l_gone := PySem.W.fnOf "_law_gone" "_law_gone" (defArgs s_l_gone) (defBody s_l_gone) (defScope s_l_gone) .none kV41 dc41 pm41 an41 cd41 ct41, d_l_taken_then := PySem.W.fnOf "_law_taken_then" "_law_taken_then" (defArgs s_l_taken_then) (defBody s_l_taken_then) (defScope s_l_taken_then) .none kV42 dc42 pm42 an42 cd42 ct42, d_law := PySem.W.fnOf "law" "law" (defArgs s_law) (defBody s_law) (defScope s_law) .none kV43 dc43 pm43 an43 cd43 ct43 }
  have T : Txt K mg a d := { F_l_names := F1, b_l_names := b1, g_l_names := PySem.W.mg_of X G a1, F_l_of := F2, b_l_of := b2, g_l_of := PySem.W.mg_of X G a2, F_Keeper_init := F3, b_Keeper_init := b3, F_is_name := F4, b_is_name := b4, g_is_name := PySem.W.mg_of X G a4, F_is_among := F5, b_is_among := b5, g_is_among := PySem.W.mg_of X G a5, F_is_day := F6, b_is_day := b6, g_is_day := PySem.W.mg_of X G a6, F_is_said := F7, b_is_said := b7, g_is_said := PySem.W.mg_of X G a7, F_is_worth := F8, b_is_worth := b8, g_is_worth := PySem.W.mg_of X G a8, F_is_number := F9, b_is_number := b9, g_is_number := PySem.W.mg_of X G a9, F_is_entry := F10, b_is_entry := b10, g_is_entry := PySem.W.mg_of X G a10, F_need_entry := F11, b_need_entry := b11, g_need_entry := PySem.W.mg_of X G a11, F_Keeper_add := F12, b_Keeper_add := b12, m_Keeper_add := ⟨a12, i12, k12⟩, F_l_full := F13, b_l_full := b13, g_l_full := PySem.W.mg_of X G a13, F_l_entry := F14, b_l_entry := b14, g_l_entry := PySem.W.mg_of X G a14, F_l_odd := F15, b_l_odd := b15, g_l_odd := PySem.W.mg_of X G a15, F_Keeper_book := F16, b_Keeper_book := b16, m_Keeper_book := ⟨a16, i16, k16⟩, F_l_due := F17, b_l_due := b17, g_l_due := PySem.W.mg_of X G a17, F_l_word := F18, b_l_word := b18, g_l_word := PySem.W.mg_of X G a18, F_l_added := F19, b_l_added := b19, g_l_added := PySem.W.mg_of X G a19, F_Keeper_last := F20, b_Keeper_last := b20, m_Keeper_last := ⟨a20, i20, k20⟩, F_Keeper_floor := F21, b_Keeper_floor := b21, m_Keeper_floor := ⟨a21, i21, k21⟩, F_counting := F22, b_counting := b22, g_counting := PySem.W.mg_of X G a22, F_left_of := F23, b_left_of := b23, g_left_of := PySem.W.mg_of X G a23, F_names_in := F24, b_names_in := b24, g_names_in := PySem.W.mg_of X G a24, F_begins_of := F25, b_begins_of := b25, g_begins_of := PySem.W.mg_of X G a25, F_said_of := F26, b_said_of := b26, g_said_of := PySem.W.mg_of X G a26, F_all_said := F27, b_all_said := b27, g_all_said := PySem.W.mg_of X G a27, F_without := F28, b_without := b28, g_without := PySem.W.mg_of X G a28, F_is_needless := F29, b_is_needless := b29, g_is_needless := PySem.W.mg_of X G a29, F_shortened := F30, b_shortened := b30, g_shortened := PySem.W.mg_of X G a30, F_Keeper_shorten := F31, b_Keeper_shorten := b31, m_Keeper_shorten := ⟨a31, i31, k31⟩, F_l_whole := F32, b_l_whole := b32, g_l_whole := PySem.W.mg_of X G a32, F_Keeper_need_known := F33, b_Keeper_need_known := b33, m_Keeper_need_known := ⟨a33, i33, k33⟩, F_worth_of := F34, b_worth_of := b34, g_worth_of := PySem.W.mg_of X G a34, F_Keeper_worth := F35, b_Keeper_worth := b35, m_Keeper_worth := ⟨a35, i35, k35⟩, F_stretches := F36, b_stretches := b36, g_stretches := PySem.W.mg_of X G a36, F_runs_of := F37, b_runs_of := b37, g_runs_of := PySem.W.mg_of X G a37, F_Keeper_runs := F38, b_Keeper_runs := b38, m_Keeper_runs := ⟨a38, i38, k38⟩, F_hangs_on := F39, b_hangs_on := b39, g_hangs_on := PySem.W.mg_of X G a39, F_Keeper_why := F40, b_Keeper_why := b40, m_Keeper_why := ⟨a40, i40, k40⟩, F_l_gone := F41, b_l_gone := b41, g_l_gone := PySem.W.mg_of X G a41, F_l_taken_then := F42, b_l_taken_then := b42, g_l_taken_then := PySem.W.mg_of X G a42, F_law := F43, b_law := b43, g_law := PySem.W.mg_of X G a43, g_Keeper := PySem.W.mg_of X G g_Keeper, c_Keeper := ⟨pg_Keeper, hd_Keeper, po_Keeper, sa_Keeper⟩, M_Keeper := ⟨mk_Keeper, a3, i3, kc_Keeper⟩, n_Keeper_given := n_Keeper_given, n_Keeper_least := n_Keeper_least, n_Keeper_rows := n_Keeper_rows, g_BadBook := PySem.W.mg_of X G g_BadBook, g_BadEntry := PySem.W.mg_of X G g_BadEntry, g_BadText := PySem.W.mg_of X G g_BadText, g_BookError := PySem.W.mg_of X G g_BookError, g_Closed := PySem.W.mg_of X G g_Closed, g_Gone := PySem.W.mg_of X G g_Gone, g_NoEntry := PySem.W.mg_of X G g_NoEntry, g_TooMany := PySem.W.mg_of X G g_TooMany, ef_BadEntry := ⟨⟨ehg_BadEntry, ehk_BadEntry, ehs_BadEntry, ehd_BadEntry, eha_BadEntry, ehn_BadEntry, eht_BadEntry, ehm_BadEntry⟩, ebk_BadEntry, eve_BadEntry, eq0_BadEntry, eq1_BadEntry, eq2_BadEntry, eq3_BadEntry, eq4_BadEntry, eq5_BadEntry, eq6_BadEntry⟩, ef_Closed := ⟨⟨ehg_Closed, ehk_Closed, ehs_Closed, ehd_Closed, eha_Closed, ehn_Closed, eht_Closed, ehm_Closed⟩, ebk_Closed, eve_Closed, eq0_Closed, eq1_Closed, eq2_Closed, eq3_Closed, eq4_Closed, eq5_Closed, eq6_Closed⟩, ef_NoEntry := ⟨⟨ehg_NoEntry, ehk_NoEntry, ehs_NoEntry, ehd_NoEntry, eha_NoEntry, ehn_NoEntry, eht_NoEntry, ehm_NoEntry⟩, ebk_NoEntry, eve_NoEntry, eq0_NoEntry, eq1_NoEntry, eq2_NoEntry, eq3_NoEntry, eq4_NoEntry, eq5_NoEntry, eq6_NoEntry⟩, ef_TooMany := ⟨⟨ehg_TooMany, ehk_TooMany, ehs_TooMany, ehd_TooMany, eha_TooMany, ehn_TooMany, eht_TooMany, ehm_TooMany⟩, ebk_TooMany, eve_TooMany, eq0_TooMany, eq1_TooMany, eq2_TooMany, eq3_TooMany, eq4_TooMany, eq5_TooMany, eq6_TooMany⟩, ef_Gone := ⟨⟨ehg_Gone, ehk_Gone, ehs_Gone, ehd_Gone, eha_Gone, ehn_Gone, eht_Gone, ehm_Gone⟩, ebk_Gone, eve_Gone, eq0_Gone, eq1_Gone, eq2_Gone, eq3_Gone, eq4_Gone, eq5_Gone, eq6_Gone⟩, x_BadEntry := x_BadEntry, kp_BadEntry := kp_BadEntry, be_BadEntry := be_BadEntry, ty_BadEntry := ty_BadEntry, x_Closed := x_Closed, kp_Closed := kp_Closed, be_Closed := be_Closed, ty_Closed := ty_Closed, x_Gone := x_Gone, kp_Gone := kp_Gone, be_Gone := be_Gone, ty_Gone := ty_Gone, x_NoEntry := x_NoEntry, kp_NoEntry := kp_NoEntry, be_NoEntry := be_NoEntry, ty_NoEntry := ty_NoEntry, x_TooMany := x_TooMany, kp_TooMany := kp_TooMany, be_TooMany := be_TooMany, ty_TooMany := ty_TooMany, z_ValueError := PySem.W.mg_none_of X G z_ValueError, z_bool := PySem.W.mg_none_of X G z_bool, z_dict := PySem.W.mg_none_of X G z_dict, z_enumerate := PySem.W.mg_none_of X G z_enumerate, z_int := PySem.W.mg_none_of X G z_int, z_isinstance := PySem.W.mg_none_of X G z_isinstance, z_len := PySem.W.mg_none_of X G z_len, z_max := PySem.W.mg_none_of X G z_max, z_min := PySem.W.mg_none_of X G z_min, z_range := PySem.W.mg_none_of X G z_range, z_reversed := PySem.W.mg_none_of X G z_reversed, z_sorted := PySem.W.mg_none_of X G z_sorted, z_str := PySem.W.mg_none_of X G z_str, z_tuple := PySem.W.mg_none_of X G z_tuple, k_LETTERS := PySem.W.mg_of X G k_LETTERS, k_MOST := PySem.W.mg_of X G k_MOST, k_MOST_DAY := PySem.W.mg_of X G k_MOST_DAY, k_MOST_LETTERS := PySem.W.mg_of X G k_MOST_LETTERS, k_MOST_WORTH := PySem.W.mg_of X G k_MOST_WORTH }
  exact ⟨d.d_law, fun s v => .of_eq rfl, fun base _ _ => ok_law T⟩
theorem walk {l : PySem.W.OpenLaw} {q : Program} {loose : List Str} {XP : (Str → Option Value) → Heap → Prop} {YP : World → Heap → Prop} {d : DefRec} {K : Params → PySem.W.Frag} (hn : l.most = some 63) (hdf : d.params.defaults = [])
    (hY : ∀ (w : World) (h : Heap), YP w h → (K w.params).In h)
    (F : ∀ (w : World) (mg : Str → Option Value) (fa : Addr) (h : Heap), (K w.params).In h → h.Ns mainGlobals mg → mg d.name = some (.ref fa) →
      ∃ fd : FuncData, (∀ (s : Shared) (u : Value), BindsTo s fd ⟨[u], []⟩ [("_law_script", u)]) ∧ ∀ base : Heap, (K w.params).In base → base.Ns mainGlobals mg → FnOk l.prog w (K w.params) mg base CX0 9 fa fd ["_law_script"] (sp_law_k11 (K w.params) ⟨0, 0, 0, 0, 0, 0, 0, 0, 0⟩)) :
    PySem.W.WalkO q loose XP YP l.row.toRowW d [] (fun f vs => PySem.call f vs) :=
  L2.walk_of (n := 63) (k := 9) (x := "_law_script") (CX := fun _ => CX0) (sp := fun w => sp_law_k11 (K w.params) ⟨0, 0, 0, 0, 0, 0, 0, 0, 0⟩) hn (by decide) hdf ⟨rfl, by decide, by decide⟩ hY F (fun _ _ a ns hl _ hS => ⟨a, ns, rfl, hS, hl, fun _ => rfl⟩) fun _ _ _ _ _ z => z
end R
open PySem PySem.W PyProof.Rows
set_option maxRecDepth 100000 in
set_option maxHeartbeats 0 in
theorem PySem.Challenge.cw_saidthen_k11_added_and_refused_holds : PySem.Challenge.rw_saidthen_k11_added_and_refused.Holds := by
  w_on; o_law; k_head; (case hw => w_witness2)
  k_fill
  refine R.walk (l := PySem.Challenge.rw_saidthen_k11_added_and_refused) rfl rfl (fun w h Y => PySem.W.kIn_of Y) ?F
  case F =>
    intro w mg fa h KX G hmg
    refine' R.all_mk KX G hmg ?g_Keeper ?pg_Keeper ?hd_Keeper ?po_Keeper ?sa_Keeper ?mk_Keeper ?kc_Keeper ?n_Keeper_given ?n_Keeper_least ?n_Keeper_rows ?g_BadBook ?g_BadEntry ?g_BadText ?g_BookError ?g_Closed ?g_Gone ?g_NoEntry ?g_TooMany ?ehg_BadEntry ?ehk_BadEntry ?ehs_BadEntry ?ehd_BadEntry ?eha_BadEntry ?ehn_BadEntry ?eht_BadEntry ?ehm_BadEntry ?ebk_BadEntry ?eve_BadEntry ?eq0_BadEntry ?eq1_BadEntry ?eq2_BadEntry ?eq3_BadEntry ?eq4_BadEntry ?eq5_BadEntry ?eq6_BadEntry ?ehg_Closed ?ehk_Closed ?ehs_Closed ?ehd_Closed ?eha_Closed ?ehn_Closed ?eht_Closed ?ehm_Closed ?ebk_Closed ?eve_Closed ?eq0_Closed ?eq1_Closed ?eq2_Closed ?eq3_Closed ?eq4_Closed ?eq5_Closed ?eq6_Closed ?ehg_NoEntry ?ehk_NoEntry ?ehs_NoEntry ?ehd_NoEntry ?eha_NoEntry ?ehn_NoEntry ?eht_NoEntry ?ehm_NoEntry ?ebk_NoEntry ?eve_NoEntry ?eq0_NoEntry ?eq1_NoEntry ?eq2_NoEntry ?eq3_NoEntry ?eq4_NoEntry ?eq5_NoEntry ?eq6_NoEntry ?ehg_TooMany ?ehk_TooMany ?ehs_TooMany ?ehd_TooMany ?eha_TooMany ?ehn_TooMany ?eht_TooMany ?ehm_TooMany ?ebk_TooMany ?eve_TooMany ?eq0_TooMany ?eq1_TooMany ?eq2_TooMany ?eq3_TooMany ?eq4_TooMany ?eq5_TooMany ?eq6_TooMany ?ehg_Gone ?ehk_Gone ?ehs_Gone ?ehd_Gone ?eha_Gone ?ehn_Gone ?eht_Gone ?ehm_Gone ?ebk_Gone ?eve_Gone ?eq0_Gone ?eq1_Gone ?eq2_Gone ?eq3_Gone ?eq4_Gone ?eq5_Gone ?eq6_Gone ?x_BadEntry ?kp_BadEntry ?be_BadEntry ?ty_BadEntry ?x_Closed ?kp_Closed ?be_Closed ?ty_Closed ?x_Gone ?kp_Gone ?be_Gone ?ty_Gone ?x_NoEntry ?kp_NoEntry ?be_NoEntry ?ty_NoEntry ?x_TooMany ?kp_TooMany ?be_TooMany ?ty_TooMany ?a1 ?l1 ?c1 ?k1 ?a2 ?l2 ?c2 ?k2 ?a3 ?i3 ?l3 ?c3 ?k3 ?a4 ?l4 ?c4 ?k4 ?a5 ?l5 ?c5 ?k5 ?a6 ?l6 ?c6 ?k6 ?a7 ?l7 ?c7 ?k7 ?a8 ?l8 ?c8 ?k8 ?a9 ?l9 ?c9 ?k9 ?a10 ?l10 ?c10 ?k10 ?a11 ?l11 ?c11 ?k11 ?a12 ?i12 ?l12 ?c12 ?k12 ?a13 ?l13 ?c13 ?k13 ?a14 ?l14 ?c14 ?k14 ?a15 ?l15 ?c15 ?k15 ?a16 ?i16 ?l16 ?c16 ?k16 ?a17 ?l17 ?c17 ?k17 ?a18 ?l18 ?c18 ?k18 ?a19 ?l19 ?c19 ?k19 ?a20 ?i20 ?l20 ?c20 ?k20 ?a21 ?i21 ?l21 ?c21 ?k21 ?a22 ?l22 ?c22 ?k22 ?a23 ?l23 ?c23 ?k23 ?a24 ?l24 ?c24 ?k24 ?a25 ?l25 ?c25 ?k25 ?a26 ?l26 ?c26 ?k26 ?a27 ?l27 ?c27 ?k27 ?a28 ?l28 ?c28 ?k28 ?a29 ?l29 ?c29 ?k29 ?a30 ?l30 ?c30 ?k30 ?a31 ?i31 ?l31 ?c31 ?k31 ?a32 ?l32 ?c32 ?k32 ?a33 ?i33 ?l33 ?c33 ?k33 ?a34 ?l34 ?c34 ?k34 ?a35 ?i35 ?l35 ?c35 ?k35 ?a36 ?l36 ?c36 ?k36 ?a37 ?l37 ?c37 ?k37 ?a38 ?i38 ?l38 ?c38 ?k38 ?a39 ?l39 ?c39 ?k39 ?a40 ?i40 ?l40 ?c40 ?k40 ?a41 ?l41 ?c41 ?k41 ?a42 ?l42 ?c42 ?k42 ?a43 ?l43 ?c43 ?k43 ?z_ValueError ?z_bool ?z_dict ?z_enumerate ?z_int ?z_isinstance ?z_len ?z_max ?z_min ?z_range ?z_reversed ?z_sorted ?z_str ?z_tuple ?k_LETTERS ?k_MOST ?k_MOST_DAY ?k_MOST_LETTERS ?k_MOST_WORTH
    (case g_Keeper => k_is)
    (case pg_Keeper => k_is)
    (case hd_Keeper => k_is)
    (case po_Keeper => k_is)
    (case sa_Keeper => k_is)
    (case mk_Keeper => k_is)
    (case kc_Keeper => k_is)
    (case n_Keeper_given => k_is)
    (case n_Keeper_least => k_is)
    (case n_Keeper_rows => k_is)
    (case g_BadBook => k_is)
    (case g_BadEntry => k_is)
    (case g_BadText => k_is)
    (case g_BookError => k_is)
    (case g_Closed => k_is)
    (case g_Gone => k_is)
    (case g_NoEntry => k_is)
    (case g_TooMany => k_is)
    (case ehg_BadEntry => k_is)
    (case ehk_BadEntry => k_is)
    (case ehs_BadEntry => k_is)
    (case ehd_BadEntry => k_is)
    (case eha_BadEntry => k_is)
    (case ehn_BadEntry => k_is)
    (case eht_BadEntry => k_is)
    (case ehm_BadEntry => k_is)
    (case ebk_BadEntry => (first | k_is | rfl | decide +kernel))
    (case eve_BadEntry => (first | k_is | rfl | decide +kernel))
    (case eq0_BadEntry => (first | k_is | rfl | decide +kernel))
    (case eq1_BadEntry => (first | k_is | rfl | decide +kernel))
    (case eq2_BadEntry => (first | k_is | rfl | decide +kernel))
    (case eq3_BadEntry => (first | k_is | rfl | decide +kernel))
    (case eq4_BadEntry => (first | k_is | rfl | decide +kernel))
    (case eq5_BadEntry => (first | k_is | rfl | decide +kernel))
    (case eq6_BadEntry => (first | k_is | rfl | decide +kernel))
    (case ehg_Closed => k_is)
    (case ehk_Closed => k_is)
    (case ehs_Closed => k_is)
    (case ehd_Closed => k_is)
    (case eha_Closed => k_is)
    (case ehn_Closed => k_is)
    (case eht_Closed => k_is)
    (case ehm_Closed => k_is)
    (case ebk_Closed => (first | k_is | rfl | decide +kernel))
    (case eve_Closed => (first | k_is | rfl | decide +kernel))
    (case eq0_Closed => (first | k_is | rfl | decide +kernel))
    (case eq1_Closed => (first | k_is | rfl | decide +kernel))
    (case eq2_Closed => (first | k_is | rfl | decide +kernel))
    (case eq3_Closed => (first | k_is | rfl | decide +kernel))
    (case eq4_Closed => (first | k_is | rfl | decide +kernel))
    (case eq5_Closed => (first | k_is | rfl | decide +kernel))
    (case eq6_Closed => (first | k_is | rfl | decide +kernel))
    (case ehg_NoEntry => k_is)
    (case ehk_NoEntry => k_is)
    (case ehs_NoEntry => k_is)
    (case ehd_NoEntry => k_is)
    (case eha_NoEntry => k_is)
    (case ehn_NoEntry => k_is)
    (case eht_NoEntry => k_is)
    (case ehm_NoEntry => k_is)
    (case ebk_NoEntry => (first | k_is | rfl | decide +kernel))
    (case eve_NoEntry => (first | k_is | rfl | decide +kernel))
    (case eq0_NoEntry => (first | k_is | rfl | decide +kernel))
    (case eq1_NoEntry => (first | k_is | rfl | decide +kernel))
    (case eq2_NoEntry => (first | k_is | rfl | decide +kernel))
    (case eq3_NoEntry => (first | k_is | rfl | decide +kernel))
    (case eq4_NoEntry => (first | k_is | rfl | decide +kernel))
    (case eq5_NoEntry => (first | k_is | rfl | decide +kernel))
    (case eq6_NoEntry => (first | k_is | rfl | decide +kernel))
    (case ehg_TooMany => k_is)
    (case ehk_TooMany => k_is)
    (case ehs_TooMany => k_is)
    (case ehd_TooMany => k_is)
    (case eha_TooMany => k_is)
    (case ehn_TooMany => k_is)
    (case eht_TooMany => k_is)
    (case ehm_TooMany => k_is)
    (case ebk_TooMany => (first | k_is | rfl | decide +kernel))
    (case eve_TooMany => (first | k_is | rfl | decide +kernel))
    (case eq0_TooMany => (first | k_is | rfl | decide +kernel))
    (case eq1_TooMany => (first | k_is | rfl | decide +kernel))
    (case eq2_TooMany => (first | k_is | rfl | decide +kernel))
    (case eq3_TooMany => (first | k_is | rfl | decide +kernel))
    (case eq4_TooMany => (first | k_is | rfl | decide +kernel))
    (case eq5_TooMany => (first | k_is | rfl | decide +kernel))
    (case eq6_TooMany => (first | k_is | rfl | decide +kernel))
    (case ehg_Gone => k_is)
    (case ehk_Gone => k_is)
    (case ehs_Gone => k_is)
    (case ehd_Gone => k_is)
    (case eha_Gone => k_is)
    (case ehn_Gone => k_is)
    (case eht_Gone => k_is)
    (case ehm_Gone => k_is)
    (case ebk_Gone => (first | k_is | rfl | decide +kernel))
    (case eve_Gone => (first | k_is | rfl | decide +kernel))
    (case eq0_Gone => (first | k_is | rfl | decide +kernel))
    (case eq1_Gone => (first | k_is | rfl | decide +kernel))
    (case eq2_Gone => (first | k_is | rfl | decide +kernel))
    (case eq3_Gone => (first | k_is | rfl | decide +kernel))
    (case eq4_Gone => (first | k_is | rfl | decide +kernel))
    (case eq5_Gone => (first | k_is | rfl | decide +kernel))
    (case eq6_Gone => (first | k_is | rfl | decide +kernel))
    (case x_BadEntry => k_exc)
    (case kp_BadEntry => k_is)
    (case be_BadEntry => k_is)
    (case ty_BadEntry => k_is)
    (case x_Closed => k_exc)
    (case kp_Closed => k_is)
    (case be_Closed => k_is)
    (case ty_Closed => k_is)
    (case x_Gone => k_exc)
    (case kp_Gone => k_is)
    (case be_Gone => k_is)
    (case ty_Gone => k_is)
    (case x_NoEntry => k_exc)
    (case kp_NoEntry => k_is)
    (case be_NoEntry => k_is)
    (case ty_NoEntry => k_is)
    (case x_TooMany => k_exc)
    (case kp_TooMany => k_is)
    (case be_TooMany => k_is)
    (case ty_TooMany => k_is)
    (case a1 => k_is)
    (case l1 => k_is)
    (case c1 => k_is)
    (case k1 => k_is)
    (case a2 => k_is)
    (case l2 => k_is)
    (case c2 => k_is)
    (case k2 => k_is)
    (case a3 => k_is)
    (case i3 => k_is)
    (case l3 => k_is)
    (case c3 => k_is)
    (case k3 => k_is)
    (case a4 => k_is)
    (case l4 => k_is)
    (case c4 => k_is)
    (case k4 => k_is)
    (case a5 => k_is)
    (case l5 => k_is)
    (case c5 => k_is)
    (case k5 => k_is)
    (case a6 => k_is)
    (case l6 => k_is)
    (case c6 => k_is)
    (case k6 => k_is)
    (case a7 => k_is)
    (case l7 => k_is)
    (case c7 => k_is)
    (case k7 => k_is)
    (case a8 => k_is)
    (case l8 => k_is)
    (case c8 => k_is)
    (case k8 => k_is)
    (case a9 => k_is)
    (case l9 => k_is)
    (case c9 => k_is)
    (case k9 => k_is)
    (case a10 => k_is)
    (case l10 => k_is)
    (case c10 => k_is)
    (case k10 => k_is)
    (case a11 => k_is)
    (case l11 => k_is)
    (case c11 => k_is)
    (case k11 => k_is)
    (case a12 => k_is)
    (case i12 => k_is)
    (case l12 => k_is)
    (case c12 => k_is)
    (case k12 => k_is)
    (case a13 => k_is)
    (case l13 => k_is)
    (case c13 => k_is)
    (case k13 => k_is)
    (case a14 => k_is)
    (case l14 => k_is)
    (case c14 => k_is)
    (case k14 => k_is)
    (case a15 => k_is)
    (case l15 => k_is)
    (case c15 => k_is)
    (case k15 => k_is)
    (case a16 => k_is)
    (case i16 => k_is)
    (case l16 => k_is)
    (case c16 => k_is)
    (case k16 => k_is)
    (case a17 => k_is)
    (case l17 => k_is)
    (case c17 => k_is)
    (case k17 => k_is)
    (case a18 => k_is)
    (case l18 => k_is)
    (case c18 => k_is)
    (case k18 => k_is)
    (case a19 => k_is)
    (case l19 => k_is)
    (case c19 => k_is)
    (case k19 => k_is)
    (case a20 => k_is)
    (case i20 => k_is)
    (case l20 => k_is)
    (case c20 => k_is)
    (case k20 => k_is)
    (case a21 => k_is)
    (case i21 => k_is)
    (case l21 => k_is)
    (case c21 => k_is)
    (case k21 => k_is)
    (case a22 => k_is)
    (case l22 => k_is)
    (case c22 => k_is)
    (case k22 => k_is)
    (case a23 => k_is)
    (case l23 => k_is)
    (case c23 => k_is)
    (case k23 => k_is)
    (case a24 => k_is)
    (case l24 => k_is)
    (case c24 => k_is)
    (case k24 => k_is)
    (case a25 => k_is)
    (case l25 => k_is)
    (case c25 => k_is)
    (case k25 => k_is)
    (case a26 => k_is)
    (case l26 => k_is)
    (case c26 => k_is)
    (case k26 => k_is)
    (case a27 => k_is)
    (case l27 => k_is)
    (case c27 => k_is)
    (case k27 => k_is)
    (case a28 => k_is)
    (case l28 => k_is)
    (case c28 => k_is)
    (case k28 => k_is)
    (case a29 => k_is)
    (case l29 => k_is)
    (case c29 => k_is)
    (case k29 => k_is)
    (case a30 => k_is)
    (case l30 => k_is)
    (case c30 => k_is)
    (case k30 => k_is)
    (case a31 => k_is)
    (case i31 => k_is)
    (case l31 => k_is)
    (case c31 => k_is)
    (case k31 => k_is)
    (case a32 => k_is)
    (case l32 => k_is)
    (case c32 => k_is)
    (case k32 => k_is)
    (case a33 => k_is)
    (case i33 => k_is)
    (case l33 => k_is)
    (case c33 => k_is)
    (case k33 => k_is)
    (case a34 => k_is)
    (case l34 => k_is)
    (case c34 => k_is)
    (case k34 => k_is)
    (case a35 => k_is)
    (case i35 => k_is)
    (case l35 => k_is)
    (case c35 => k_is)
    (case k35 => k_is)
    (case a36 => k_is)
    (case l36 => k_is)
    (case c36 => k_is)
    (case k36 => k_is)
    (case a37 => k_is)
    (case l37 => k_is)
    (case c37 => k_is)
    (case k37 => k_is)
    (case a38 => k_is)
    (case i38 => k_is)
    (case l38 => k_is)
    (case c38 => k_is)
    (case k38 => k_is)
    (case a39 => k_is)
    (case l39 => k_is)
    (case c39 => k_is)
    (case k39 => k_is)
    (case a40 => k_is)
    (case i40 => k_is)
    (case l40 => k_is)
    (case c40 => k_is)
    (case k40 => k_is)
    (case a41 => k_is)
    (case l41 => k_is)
    (case c41 => k_is)
    (case k41 => k_is)
    (case a42 => k_is)
    (case l42 => k_is)
    (case c42 => k_is)
    (case k42 => k_is)
    (case a43 => k_is)
    (case l43 => k_is)
    (case c43 => k_is)
    (case k43 => k_is)
    (case z_ValueError => k_is)
    (case z_bool => k_is)
    (case z_dict => k_is)
    (case z_enumerate => k_is)
    (case z_int => k_is)
    (case z_isinstance => k_is)
    (case z_len => k_is)
    (case z_max => k_is)
    (case z_min => k_is)
    (case z_range => k_is)
    (case z_reversed => k_is)
    (case z_sorted => k_is)
    (case z_str => k_is)
    (case z_tuple => k_is)
    (case k_LETTERS => k_is)
    (case k_MOST => k_is)
    (case k_MOST_DAY => k_is)
    (case k_MOST_LETTERS => k_is)
    (case k_MOST_WORTH => k_is)
#print axioms PySem.Challenge.cw_saidthen_k11_added_and_refused_holds
