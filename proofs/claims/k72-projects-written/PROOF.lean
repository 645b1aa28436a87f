import PyProof.Rows.All
import Wide.All
import OpenK.AllK
import Wide.FinOn
import HandS.ForMost
import HandS.Exc
import HandS.TryOnly
import HandS.ExcOwn
import HandS.WordsExc
import HandS.TupAny
import HandS.IsInst
import HandS.FStr
import HandS.ReplaceLit
import HandS.ReplaceDef
import HandS.ReplaceList
import PyProof.Rows.StrSplitCount
import PyProof.Rows.StrPartPair
import HandS.More
import PyProof.Rows.StrMeet
import PyProof.Rows.SortStr
import HandS.ExcInit
import HandS.ExcField
import PySem.Challenge.RW_askwright_k72_projects_written
import HandS.NoneIn
import HandS.ListItems
import HandS.Style
import KE.KSortTup
import KE.KSortTupAny
import HandS.TupSets
set_option Elab.async false
set_option linter.all false
set_option maxRecDepth 100000
set_option maxHeartbeats 4000000
namespace Aw
open PySem PySem.Spec PyProof.Rows L2

/-! ### heaps: what stays -/
/-- all but l stays -/
def Bt (l : Addr) (H H' : Hp) : Prop := ∀ b o, b ≠ l → H b = some o → H' b = some o
/-- tuples stay -/
structure Stay (H H' : Hp) : Prop where
  t : ∀ b xs, H b = some (.tup xs) → H' b = some (.tup xs)
  z : ∀ b o u, H b = some (.frz o u) → H' b = some (.frz o u)
theorem Stay.refl (H : Hp) : Stay H H := ⟨fun _ _ h => h, fun _ _ _ h => h⟩
theorem Stay.trans {H H1 H2 : Hp} (a : Stay H H1) (b : Stay H1 H2) : Stay H H2 := ⟨fun x xs h => b.t _ _ (a.t _ _ h), fun x o u h => b.z _ _ _ (a.z _ _ _ h)⟩
theorem Stay.same {H H' : Hp} (a : Same H H') : Stay H H' := ⟨fun b xs h => a _ _ h, fun b o u h => a _ _ h⟩
theorem Bt.ne {H H' : Hp} {l b : Addr} {o u : HO} (h : Bt l H H') (hl : H l = some o) (hb : H b = some u) (d : u ≠ o) : H' b = some u :=
  h b u (ne_of hb hl d) hb
theorem Stay.but {H H' : Hp} {l : Addr} {xs : List V} (a : Bt l H H') (h : H l = some (.lst xs)) : Stay H H' :=
  ⟨fun b ys e => a.ne h e (fun z => nomatch z), fun b o u e => a.ne h e (fun z => nomatch z)⟩
theorem Bt.upd {H : Hp} {l : Addr} {o : HO} : Bt l H (upd H l o) := fun b u n e => by rw [upd_ne n]; exact e
theorem same_new {H : Hp} {p : Addr} (h : H p = none) (o : HO) : Same H (L2.upd H p o) := fun b u q => by rw [upd_ne (ne_of_none q h)]; exact q
theorem Same.but {H0 H H' : Hp} {l : Addr} (a : Same H0 H) (f : H0 l = none) (b : Bt l H H') : Same H0 H' := fun c o e => b c o (ne_of_none e f) (a c o e)
theorem sqT_tt {K : PySem.W.Frag} {H H' : Hp} {a : Addr} {xs : List V} (t : Stay H H') (h : SqT K H a xs) : SqT K H' a xs := by
  rcases h with (h | ⟨o, h⟩) | h
  · exact .inl (.inl (t.t _ _ h))
  · exact .inl (.inr ⟨o, t.z _ _ _ h⟩)
  · exact .inr h

/-! ### immutable data -/
mutual
def Dt (K : PySem.W.Frag) (H : Hp) : PyData → V → Prop
  | .none, v => v = .non
  | .bool b, v => v = .bl b
  | .int i, v => v = .int i
  | .str s, v => v = .str s
  | .tuple ds, v => ∃ a xs, v = .ref a ∧ SqT K H a xs ∧ Dts K H ds xs
  | .list _, _ => False
  | .dict _, _ => False
def Dts (K : PySem.W.Frag) (H : Hp) : List PyData → List V → Prop
  | [], xs => xs = []
  | d :: ds, xs => ∃ v vs, xs = v :: vs ∧ Dt K H d v ∧ Dts K H ds vs
end
section
variable {K : PySem.W.Frag} {H H' : Hp}
mutual
theorem Dt.mono (t : Stay H H') : ∀ {d : PyData} {v : V}, Dt K H d v → Dt K H' d v
  | .none, _, h => by unfold Dt at h ⊢; exact h
  | .bool _, _, h => by unfold Dt at h ⊢; exact h
  | .int _, _, h => by unfold Dt at h ⊢; exact h
  | .str _, _, h => by unfold Dt at h ⊢; exact h
  | .tuple ds, _, h => by
    unfold Dt at h ⊢
    obtain ⟨a, xs, e, s, q⟩ := h
    exact ⟨a, xs, e, sqT_tt t s, Dts.mono t q⟩
  | .list _, _, h => by unfold Dt at h; exact h.elim
  | .dict _, _, h => by unfold Dt at h; exact h.elim
theorem Dts.mono (t : Stay H H') : ∀ {ds : List PyData} {vs : List V}, Dts K H ds vs → Dts K H' ds vs
  | [], _, h => by unfold Dts at h ⊢; exact h
  | d :: ds, _, h => by
    unfold Dts at h ⊢
    obtain ⟨v, vs, e, q, r⟩ := h
    exact ⟨v, vs, e, Dt.mono t q, Dts.mono t r⟩
end
mutual
theorem Dt.dp : ∀ {d : PyData} {v : V}, Dt K H d v → Dp K H v d
  | .none, _, h => by unfold Dt at h; subst h; exact .non
  | .bool _, _, h => by unfold Dt at h; subst h; exact .bl _
  | .int _, _, h => by unfold Dt at h; subst h; exact .int _
  | .str _, _, h => by unfold Dt at h; subst h; exact .str _
  | .tuple ds, _, h => by
    unfold Dt at h
    obtain ⟨a, xs, e, s, q⟩ := h
    subst e
    exact .tup s (Dts.dp q)
  | .list _, _, h => by unfold Dt at h; exact h.elim
  | .dict _, _, h => by unfold Dt at h; exact h.elim
theorem Dts.dp : ∀ {ds : List PyData} {vs : List V}, Dts K H ds vs → DpAll K H vs ds
  | [], _, h => by unfold Dts at h; subst h; exact .nil
  | d :: ds, _, h => by
    unfold Dts at h
    obtain ⟨v, vs, e, q, r⟩ := h
    subst e
    exact .cons (Dt.dp q) (Dts.dp r)
end
theorem dt_str {s : Str} : Dt K H (.str s) (.str s) := by unfold Dt; rfl
theorem dt_int {i : Int} : Dt K H (.int i) (.int i) := by unfold Dt; rfl
theorem dt_bl {b : Bool} : Dt K H (.bool b) (.bl b) := by unfold Dt; rfl
theorem dt_non : Dt K H .none .non := by unfold Dt; rfl
theorem dt_tup {a : Addr} {xs : List V} {ds : List PyData} (s : SqT K H a xs) (q : Dts K H ds xs) : Dt K H (.tuple ds) (.ref a) := by unfold Dt; exact ⟨a, xs, rfl, s, q⟩
theorem dts_nil : Dts K H [] [] := by unfold Dts; rfl
theorem dts_cons {d : PyData} {v : V} {ds : List PyData} {vs : List V} (h : Dt K H d v) (r : Dts K H ds vs) : Dts K H (d :: ds) (v :: vs) := by unfold Dts; exact ⟨v, vs, rfl, h, r⟩
theorem Dt.str {s : Str} {v : V} (h : Dt K H (.str s) v) : v = .str s := by unfold Dt at h; exact h
theorem Dt.int {s : Int} {v : V} (h : Dt K H (.int s) v) : v = .int s := by unfold Dt at h; exact h
theorem Dt.non {v : V} (h : Dt K H .none v) : v = .non := by unfold Dt at h; exact h
theorem Dt.tup {ds : List PyData} {v : V} (h : Dt K H (.tuple ds) v) : ∃ a xs, v = .ref a ∧ SqT K H a xs ∧ Dts K H ds xs := by unfold Dt at h; exact h
theorem Dts.nil {vs : List V} (h : Dts K H [] vs) : vs = [] := by unfold Dts at h; exact h
theorem Dts.cons {d : PyData} {ds : List PyData} {vs : List V} (h : Dts K H (d :: ds) vs) : ∃ v r, vs = v :: r ∧ Dt K H d v ∧ Dts K H ds r := by unfold Dts at h; exact h
theorem Dts.length : ∀ {ds : List PyData} {vs : List V}, Dts K H ds vs → vs.length = ds.length
  | [], _, h => by rw [h.nil]; rfl
  | d :: ds, _, h => by
    obtain ⟨v, r, rfl, _, q⟩ := h.cons
    rw [List.length_cons, List.length_cons, Dts.length q]
theorem Dts.get : ∀ {ds : List PyData} {vs : List V} {i : Nat} {v : V}, Dts K H ds vs → vs[i]? = some v → ∃ d, ds[i]? = some d ∧ Dt K H d v
  | [], _, i, v, h, e => by rw [h.nil] at e; simp at e
  | d :: ds, _, 0, v, h, e => by
    obtain ⟨u, r, rfl, q, _⟩ := h.cons
    have e : u = v := Option.some.inj e
    subst e
    exact ⟨d, rfl, q⟩
  | d :: ds, _, i + 1, v, h, e => by
    obtain ⟨u, r, rfl, _, q⟩ := h.cons
    exact Dts.get (ds := ds) q (i := i) e
theorem Dts.at' : ∀ {ds : List PyData} {vs : List V} {i : Nat} {d : PyData}, Dts K H ds vs → ds[i]? = some d → ∃ v, vs[i]? = some v ∧ Dt K H d v := fun {ds vs i d} h e => by
  have hl := h.length
  obtain ⟨hi, _⟩ := List.getElem?_eq_some_iff.mp e
  have hv : vs[i]? = some vs[i] := List.getElem?_eq_getElem (by omega)
  obtain ⟨d', e', q⟩ := h.get hv
  rw [e] at e'
  cases e'
  exact ⟨_, hv, q⟩
theorem Dts.snoc : ∀ {ds : List PyData} {vs : List V} {d : PyData} {v : V}, Dts K H ds vs → Dt K H d v → Dts K H (ds ++ [d]) (vs ++ [v])
  | [], _, _, _, h, q => by rw [h.nil]; exact dts_cons q dts_nil
  | e :: ds, _, _, _, h, q => by
    obtain ⟨u, r, rfl, p, k⟩ := h.cons
    exact dts_cons p (Dts.snoc k q)
theorem Dts.append : ∀ {ds es : List PyData} {vs us : List V}, Dts K H ds vs → Dts K H es us → Dts K H (ds ++ es) (vs ++ us)
  | [], _, _, _, h, q => by rw [h.nil]; exact q
  | e :: ds, _, _, _, h, q => by
    obtain ⟨u, r, rfl, p, k⟩ := h.cons
    exact dts_cons p (Dts.append k q)
theorem dts_strs : ∀ {ss : List Str}, Dts K H (ss.map .str) (ss.map V.str)
  | [] => dts_nil
  | s :: ss => dts_cons dt_str dts_strs
end

/-! ### universal operators, by the values -/
section
variable {X : Cx}
def rAddI : R2 := rI0 fun i j => .int (i + j)
def rAddS : R2 := fun x y H Q => ∃ i j, x = .str i ∧ y = .str j ∧ i.length + j.length ≤ sizeLine ∧ Q (.str (i ++ j)) H
def rAddU (K : PySem.W.Frag) : R2 := fun x y H Q => rAddI x y H Q ∨ (rAddS x y H Q ∨ (rCatA K x y H Q ∨ rCat x y H Q))
theorem op_addU0 : OpR X (binaryOp .Add) (rAddU X.K) := OpR.or op_add (OpR.or op_add_str (OpR.or op_catA op_cat))
def rSubI : R2 := rI0 fun i j => .int (i - j)
theorem op_subU : OpR X (binaryOp .Sub) rSubI := op_sub
def rModI : R2 := rI (fun _ j => j ≠ 0) fun i j => .int (i.fmod j)
theorem op_modU : OpR X (binaryOp .Mod) rModI := op_modN
def rFdvI : R2 := rI CDivN fun i j => .int (i.fdiv j)
theorem op_fdvU : OpR X (binaryOp .FloorDiv) rFdvI := op_fdivN
def rMulS : R2 := fun x y H Q => ∃ z i, x = .str z ∧ y = .int i ∧ PySem.MulOk z i ∧ Q (.str (Txt.mul z i)) H
theorem op_mulS : OpR X (binaryOp .Mult) rMulS := by
  intro pins s σ H x y v u Q I rx ry h
  obtain ⟨z, i, rfl, rfl, ok, q⟩ := h
  obtain ⟨t, rfl⟩ := rx
  obtain ⟨t', rfl⟩ := ry
  exact PySem.SB.mul ok fun t'' k => ⟨.str _, H, I.tok _, ⟨_, rfl⟩, q⟩
def rMulI : R2 := rI CMul fun i j => .int (i * j)
def rMulU : R2 := fun x y H Q => rMulI x y H Q ∨ rMulS x y H Q
theorem op_mulU : OpR X (binaryOp .Mult) rMulU := OpR.or op_mul op_mulS
def rPowI : R2 := rI CPow fun i j => .int (i ^ j.toNat)
theorem op_powU : OpR X (binaryOp .Pow) rPowI := op_pow
def rIpAdd : TIp := fun x y H Q => rAddI x y H Q ∨ rAddS x y H Q
theorem ip_addU : PIp X .Add rIpAdd := OpR.or iop_add iop_add_str
def rEqU (K : PySem.W.Frag) : R2 := fun x y H Q => rEq x y H Q ∨ rEqD K x y H Q
theorem op_eqU0 (hu : X.A.units + 64 < cLine) : OpR X (compareOp .Eq) (rEqU X.K) := OpR.or op_eq (op_eqD hu)
def rNeU (K : PySem.W.Frag) : R2 := fun x y H Q => rNe x y H Q ∨ rNeD K x y H Q
theorem op_neU0 (hu : X.A.units + 64 < cLine) : OpR X (compareOp .NotEq) (rNeU X.K) := OpR.or op_ne (op_neD hu)
def rLtS : R2 := fun x y H Q => ∃ i j, x = .str i ∧ y = .str j ∧ Q (.bl (decide (i.cps.toList < j.cps.toList))) H
def rLeS : R2 := fun x y H Q => ∃ i j, x = .str i ∧ y = .str j ∧ Q (.bl (!decide (j.cps.toList < i.cps.toList))) H
def rGtS : R2 := fun x y H Q => ∃ i j, x = .str i ∧ y = .str j ∧ Q (.bl (decide (j.cps.toList < i.cps.toList))) H
def rGeS : R2 := fun x y H Q => ∃ i j, x = .str i ∧ y = .str j ∧ Q (.bl (!decide (i.cps.toList < j.cps.toList))) H
def rLtI : R2 := rI0 fun i j => .bl (decide (i < j))
def rLeI : R2 := rI0 fun i j => .bl (decide (i ≤ j))
def rGtI : R2 := rI0 fun i j => .bl (decide (i > j))
def rGeI : R2 := rI0 fun i j => .bl (decide (i ≥ j))
def rLtU : R2 := fun x y H Q => rLtI x y H Q ∨ rLtS x y H Q
def rLeU : R2 := fun x y H Q => rLeI x y H Q ∨ rLeS x y H Q
def rGtU : R2 := fun x y H Q => rGtI x y H Q ∨ rGtS x y H Q
def rGeU : R2 := fun x y H Q => rGeI x y H Q ∨ rGeS x y H Q
theorem op_ltU : OpR X (compareOp .Lt) rLtU := OpR.or op_lt op_lt_str
theorem op_leU : OpR X (compareOp .LtE) rLeU := OpR.or op_le op_le_str
theorem op_gtU : OpR X (compareOp .Gt) rGtU := OpR.or op_gt op_gt_str
theorem op_geU : OpR X (compareOp .GtE) rGeU := OpR.or op_ge op_ge_str
def rInC : R2 := fun x y H Q => ∃ (c : Nat) (z : Str), x = .str ⟨#[c]⟩ ∧ y = .str z ∧ Q (.bl (decide (c ∈ z.cps.toList))) H
def rNinC : R2 := fun x y H Q => ∃ (c : Nat) (z : Str), x = .str ⟨#[c]⟩ ∧ y = .str z ∧ Q (.bl (!decide (c ∈ z.cps.toList))) H
def rInU (K : PySem.W.Frag) : R2 := fun x y H Q => rInC x y H Q ∨ rIn K false x y H Q
def rNinU (K : PySem.W.Frag) : R2 := fun x y H Q => rNinC x y H Q ∨ rIn K true x y H Q
theorem op_inU0 : OpR X (compareOp .In) (rInU X.K) := OpR.or op_in_sign op_in_seq
theorem op_ninU0 : OpR X (compareOp .NotIn) (rNinU X.K) := OpR.or op_notIn_sign op_notIn_seq
def rIsNo : R2 := fun x y H Q => y = .non ∧ Q (.bl (decide (x = .non))) H
def rNotNo : R2 := fun x y H Q => y = .non ∧ Q (.bl (!decide (x = .non))) H
theorem op_isNo : OpR X (compareOp .Is) rIsNo := op_isN
theorem op_notNo : OpR X (compareOp .IsNot) rNotNo := op_notN
def rSlU (K : PySem.W.Frag) : V → Option Int → Option Int → Hp → VK → Prop := fun x lo hi H Q => rSlL K x lo hi H Q ∨ (rSlA K x lo hi H Q ∨ rSlS x lo hi H Q)
theorem sl_U0 : SlR X (rSlU X.K) := SlR.or sl_list (SlR.or sl_tupA sl_str)
def rLenU (K : PySem.W.Frag) : List V → Hp → VK → Prop := fun xs H Q => (∃ x n, xs = [x] ∧ LenV K x H n ∧ Q (.int n) H) ∨ ∃ a kvs, xs = [V.ref a] ∧ H a = some (.dK kvs) ∧ Q (.int kvs.length) H
theorem call_lenU0 : CallR X (.builtin "len") (rLenU X.K) := CallR.or call_len call_lenD
def rTupOf (K : PySem.W.Frag) : List V → Hp → VK → Prop := fun xs H Q => ∃ p ys, xs = [.ref p] ∧ ((SqL K H p ys ∧ ∀ l, H l = none → Q (.ref l) (upd H l (.tup ys))) ∨ (SqT K H p ys ∧ Q (.ref p) H))
theorem call_tupU0 : CallR X (.type "tuple") (rTupOf X.K) := call_tuple_of
def rIntU : List V → Hp → VK → Prop := fun xs H Q => (∃ i, xs = [.int i] ∧ Q (.int i) H) ∨ ∃ k, xs = [.bl k] ∧ Q (.int (if k then 1 else 0)) H
theorem call_intU : CallR X (.type "int") rIntU := call_int1
def rStrI : List V → Hp → VK → Prop := fun xs H Q => ∃ i, xs = [.int i] ∧ i.natAbs.log2 < 1920 ∧ Q (.str (toString i)) H
theorem call_strU : CallR X (.type "str") rStrI := call_str_int
def rAbs : List V → Hp → VK → Prop := fun xs H Q => ∃ i, xs = [.int i] ∧ Q (.int (if i < 0 then -i else i)) H
theorem call_absU : CallR X (.builtin "abs") rAbs := call_abs
def rMin2 : List V → Hp → VK → Prop := fun xs H Q => ∃ i j, xs = [.int i, .int j] ∧ Q (.int (if j < i then j else i)) H
theorem call_minU (hc : X.calm = true) : CallR X (.builtin "min") rMin2 := call_min2 hc
def rMax2 : List V → Hp → VK → Prop := fun xs H Q => ∃ i j, xs = [.int i, .int j] ∧ Q (.int (if j > i then j else i)) H
theorem call_maxU (hc : X.calm = true) : CallR X (.builtin "max") rMax2 := call_max2 hc
end

section
variable {X : Cx} (K : PySem.W.Frag)
theorem op_addU (h : X.K = K := by rfl) : OpR X (binaryOp .Add) (rAddU K) := h ▸ op_addU0
theorem op_inU (h : X.K = K := by rfl) : OpR X (compareOp .In) (rInU K) := h ▸ op_inU0
theorem op_ninU (h : X.K = K := by rfl) : OpR X (compareOp .NotIn) (rNinU K) := h ▸ op_ninU0
theorem sl_U (h : X.K = K := by rfl) : SlR X (rSlU K) := h ▸ sl_U0
theorem call_lenU (h : X.K = K := by rfl) : CallR X (.builtin "len") (rLenU K) := h ▸ call_lenU0
theorem call_tupU (h : X.K = K := by rfl) : CallR X (.type "tuple") (rTupOf K) := h ▸ call_tupU0
theorem op_eqU (hu : X.A.units + 64 < cLine) (h : X.K = K := by rfl) : OpR X (compareOp .Eq) (rEqU K) := h ▸ op_eqU0 hu
theorem op_neU (hu : X.A.units + 64 < cLine) (h : X.K = K := by rfl) : OpR X (compareOp .NotEq) (rNeU K) := h ▸ op_neU0 hu
theorem ix_U (h : X.K = K := by rfl) : IxR X (rIx K) := h ▸ ix_seq
theorem call_isiU (h : X.K = K := by rfl) : CallR X (.builtin "isinstance") (rIsi K) := h ▸ call_isi
theorem call_allU (hc : X.calm = true) (h : X.K = K := by rfl) : CallR X (.builtin "all") (rAll K) := h ▸ cr_all hc
theorem call_anyU (hc : X.calm = true) (h : X.K = K := by rfl) : CallR X (.builtin "any") (rAny K) := h ▸ cr_any hc
theorem call_sumU (hc : X.calm = true) (h : X.K = K := by rfl) : CallR X (.builtin "sum") (rSum K) := h ▸ cr_sum hc
def rSortS (K : PySem.W.Frag) : List V → Hp → VK → Prop := rSortedS K
theorem call_sortSU (h : X.K = K := by rfl) : CallR X (.builtin "sorted") (rSortS K) := h ▸ cr_sortedS
def rJoin (K : PySem.W.Frag) : V → List V → Hp → VK → Prop := fun x xs H Q => ∃ a p, ∃ ys : List Str, x = .str a ∧ xs = [.ref p] ∧ (SqL K H p (ys.map V.str) ∨ SqT K H p (ys.map V.str)) ∧ (ys.map (·.length)).sum + ys.length * a.length ≤ 16777216 ∧ Q (.str (Txt.join a ys)) H
theorem mt_joinU (h : X.K = K := by rfl) : MtR X "str.join" (rJoin K) := h ▸ mt_join
variable {o e : Expr} {to te : TE} {pos apos cpos : Pos}
theorem pe_joinU (ho : PE X o to) (he : PE X e te) (h : X.K = K := by rfl) (hs : starEach [e] X.env = [(false, eval e X.env)] := by rfl) (hbase : attributeBase o "join" X.env (eval o X.env) = eval o X.env := by rfl) (hline : (apos.endLine == pos.line) = true := by rfl) :
    PE X (.Call (.Attribute o "join" apos) [e] [] pos) (tM1 (rJoin K) to te) := pe_m1 F.slot_str_join F.type_str_join (mt_joinU K h) ho he hs hbase hline
def rSplit : V → List V → Hp → VK → Prop := fun x xs H Q => ∃ a b, x = .str a ∧ xs = [.str b] ∧ (b.length == 0) = false ∧ a.length + 2 ≤ sizeLine ∧ rNewStrs (Txt.split a b) H Q
theorem pe_splitU (ho : PE X o to) (he : PE X e te) (hs : starEach [e] X.env = [(false, eval e X.env)] := by rfl) (hbase : attributeBase o "split" X.env (eval o X.env) = eval o X.env := by rfl) (hline : (apos.endLine == pos.line) = true := by rfl) :
    PE X (.Call (.Attribute o "split" apos) [e] [] pos) (tM1 rSplit to te) := pe_split ho he hs hbase hline
def rPartition : V → List V → Hp → VK → Prop := fun x xs H Q => ∃ a b, x = .str a ∧ xs = [.str b] ∧ (b.length == 0) = false ∧ a.length ≤ sizeLine ∧
      ∀ p, H p = none → Q (.ref p) (upd H p (.tup [.str (Txt.partition a b).1, .str (Txt.partition a b).2.1, .str (Txt.partition a b).2.2]))
theorem pe_partitionU (ho : PE X o to) (he : PE X e te) (hs : starEach [e] X.env = [(false, eval e X.env)] := by rfl) (hbase : attributeBase o "partition" X.env (eval o X.env) = eval o X.env := by rfl) (hline : (apos.endLine == pos.line) = true := by rfl) :
    PE X (.Call (.Attribute o "partition" apos) [e] [] pos) (tM1 rPartition to te) := pe_partition ho he hs hbase hline
variable {es : List Expr} {T : String} {name : Str} {id : String} {r : V → List V → Hp → VK → Prop} {t : TA}
theorem pe_bmU (pa : PlainAttrs T) (slot : Slot T name id) (hty : typeOf (.builtin id) = pure (.type "method_descriptor")) (hm : MtR X id r) (ho : PE X o to) (ha : PA X (e :: es) t) (h : X.K = K := by rfl)
    (hbase : attributeBase o name X.env (eval o X.env) = eval o X.env := by rfl)
    (hfew : ((backTo cpos (starEach (e :: es) X.env)).all (fun x => !x.1) && (backToKw cpos (keywordEach [] X.env)).all (fun x => x.1.isSome)
      && decide ((e :: es).length + ([] : List Keyword).length + (if ([] : List Keyword).isEmpty then 0 else 1) < 30)) = true := by rfl)
    (hline : (apos.endLine == cpos.line) = true := by rfl) (hs : starEach (e :: es) X.env = (false, eval e X.env) :: starEach es X.env := by rfl) (hplain : (backTo cpos (starEach es X.env)).any (·.1) = false := by rfl) :
    PE X (.Call (.Attribute o name apos) (e :: es) [] cpos) (tBM K T r to t) := h ▸ pe_bm pa slot hty hm ho ha hbase hfew hline hs hplain
theorem pe_bm0U (pa : PlainAttrs T) (slot : Slot T name id) (hty : typeOf (.builtin id) = pure (.type "method_descriptor")) (hm : MtR X id r) (ho : PE X o to) (h : X.K = K := by rfl)
    (hbase : attributeBase o name X.env (eval o X.env) = eval o X.env := by rfl) (hline : (apos.endLine == cpos.line) = true := by rfl) : PE X (.Call (.Attribute o name apos) [] [] cpos) (tBM0 K T r to) := h ▸ pe_bm0 pa slot hty hm ho hbase hline
theorem pi_listU {tg : Expr} (hl : PE X e te) (h : X.K = K := by rfl) : PI X tg e (iList K te) := h ▸ pi_list hl
theorem pi_tupU {tg : Expr} (hl : PE X e te) (h : X.K = K := by rfl) : PI X tg e (iTup K te) := h ▸ pi_tup hl
theorem pi_enumU {ta : TA} {p tpos : Pos} {elts : List Expr} {kk : Nat} (hg : Gl X "enumerate") (hm : X.mg "enumerate" = none) (ha : PA X [e] ta) (h : X.K = K := by rfl) (hs : starEach [e] X.env = [(false, eval e X.env)] := by rfl) :
    PI X (.Tuple elts kk tpos) (.Call (.Name "enumerate" p) [e] [] pos) (iEnum K ta) := h ▸ pi_enum hg hm ha hs
theorem pg_tupU {k : Nat} {tt : TGs} {n : Nat} (hc : X.calm = true) (hp : PGs X es tt) (h : X.K = K := by rfl)
    (hn : (assignEach es X.env).length = n := by rfl) (hst : (assignEach es X.env).findIdx? (·.1) = none := by rfl) : PG X (.Tuple es k pos) (gTup K n tt) := h ▸ pg_tup hc hp hn hst
theorem pe_fldU {f : Str} (he : PE X e te) (hb : attributeBase e f X.env (eval e X.env) = eval e X.env) (h : X.K = K := by rfl) : PE X (.Attribute e f pos) (tFld K te f) := h ▸ pe_fld he hb
theorem ps_fldU {f : Str} {pos' : Pos} (ho : PE X o to) (he : PE X e te) (hs : swapsWith e (some (.Attribute o f pos')) pos.line X.env = pure false) (h : X.K = K := by rfl) : PS X (.Assign [.Attribute o f pos'] e pos) (sFld K to te f) := h ▸ ps_fld ho he hs
end
/-- a constant of the module -/
def GV (mg : Str → Option Value) (x : Str) (v : V) : Prop := ∃ u, mg x = some u ∧ RelV v u
theorem pe_gv {X : Cx} {x : Str} {v : V} {pos : Pos} (hg : Gl X x) (h : GV X.mg x v) (hd : (x == ("__debug__" : Str)) = false := by decide) : PE X (.Name x pos) (tC v) := by
  obtain ⟨u, e, r⟩ := h
  exact pe_glob hg e r hd
theorem i_join {K : PySem.W.Frag} {H : Hp} {Q : VK} {z : Str} {p : Addr} {ys : List Str} (s : SqL K H p (ys.map V.str) ∨ SqT K H p (ys.map V.str)) (l : (ys.map (·.length)).sum + ys.length * z.length ≤ 16777216) (q : Q (.str (Txt.join z ys)) H) : rJoin K (.str z) [.ref p] H Q := ⟨z, p, ys, rfl, rfl, s, l, q⟩
theorem i_split {H : Hp} {Q : VK} {a b : Str} (h : (b.length == 0) = false) (l : a.length + 2 ≤ sizeLine) (q : ∀ p H', H p = none → Same H H' → H' p = some (.lst ((Txt.split a b).map V.str)) → Q (.ref p) H') : rSplit (.str a) [.str b] H Q :=
  ⟨a, b, rfl, rfl, h, l, fun p hp => q p _ hp (same_new hp _) upd_same⟩
theorem i_partition {H : Hp} {Q : VK} {a b : Str} (h : (b.length == 0) = false) (l : a.length ≤ sizeLine) (q : ∀ p H', H p = none → Same H H' → H' p = some (.tup [.str (Txt.partition a b).1, .str (Txt.partition a b).2.1, .str (Txt.partition a b).2.2]) → Q (.ref p) H') : rPartition (.str a) [.str b] H Q :=
  ⟨a, b, rfl, rfl, h, l, fun p hp => q p _ hp (same_new hp _) upd_same⟩

/-! ### a def that is called: its promise and where it stands -/
structure Cal (P : Program) (w : World) (K : PySem.W.Frag) (mg : Str → Option Value) (base : Heap) (CX : CXT) (x : Str) (ps : List Str) (k : Nat) (sp : Sp) : Prop where
  ex : ∃ (f : Addr) (fd : FuncData), FnOk P w K mg base CX k f fd ps sp ∧ mg x = some (.ref f) ∧ PySem.W.keepIn K (.ref f) = true ∧ Binds K fd ps []
section
variable {X : Cx} {k n : Nat} {x : Str} {ps : List Str} {sp : Sp} {E : XK} {CX : CXT} {e : Expr} {es : List Expr} {t : TA} {p pos : Pos}
theorem pe_calE (C : Cal X.prog X.w X.K X.mg X.base CX x ps k sp) (hr : Room n X.A) (hg : Gl X x) (hp : Passes CX X E) (ha : PA X (e :: es) t) (hk : k ≤ n := by decide) (hdb : (x == ("__debug__" : Str)) = false := by decide)
    (he : starEach (e :: es) X.env = (false, eval e X.env) :: starEach es X.env := by rfl) (hpl : (backTo pos (starEach es X.env)).any (·.1) = false := by rfl) : PE X (.Call (.Name x p) (e :: es) [] pos) (tCall sp [] E t) := by
  obtain ⟨f, fd, F, hm, hkp, hb⟩ := C.ex
  exact pe_call F (hr.mono hk) hg hm hkp hb .nil hp ha hdb he hpl
theorem pe_cal (C : Cal X.prog X.w X.K X.mg X.base CX0 x ps k sp) (hr : Room n X.A) (hg : Gl X x) (ha : PA X (e :: es) t) (hk : k ≤ n := by decide) (hdb : (x == ("__debug__" : Str)) = false := by decide)
    (he : starEach (e :: es) X.env = (false, eval e X.env) :: starEach es X.env := by rfl) (hpl : (backTo pos (starEach es X.env)).any (·.1) = false := by rfl) : PE X (.Call (.Name x p) (e :: es) [] pos) (tCall sp [] E0 t) :=
  pe_calE C hr hg pass0 ha hk hdb he hpl
theorem pe_ty {T : String} (hg : Gl X x) (hm : X.mg x = none) (hv : bootBuiltins x = some (.type T)) (hn : x ≠ "__name__" := by decide) (hd : (x == ("__debug__" : Str)) = false := by decide) : PE X (.Name x pos) (tC (.ty T)) := pe_bltn hg hm hv rfl hn hd
end

/-! ### readings, piece by piece -/
section
variable {K : PySem.W.Frag} {σ : L2.St} {H : Hp} {Q : VK} {D : Ends} {ta tb tc te : TE} {t u : TT} {i j : Int} {x y v : V}
theorem i_var {n : Nat} (h : σ[n]? = some (some v)) (q : Q v H) : tVar n σ H Q := ⟨v, h, q⟩
theorem i_c (q : Q v H) : tC v σ H Q := q
theorem i_op {r : R2} (h : ta σ H fun x H1 => tb σ H1 fun y H2 => r x y H2 Q) : tOp r ta tb σ H Q := h
theorem i_un {r : V → Hp → VK → Prop} (h : ta σ H fun x H1 => r x H1 Q) : tUn r ta σ H Q := h
theorem i_test {Q : Bool → Hp → Prop} (h : te σ H fun x H' => ∃ k, x = .bl k ∧ Q k H') : tTest te σ H Q := h
theorem i_tB {Q : Bool → Hp → Prop} (h : te σ H fun x H' => ∃ k, x = .bl k ∧ Q k H') : tB te σ H Q := h
theorem i_bl {R : Bool → Prop} {b : Bool} (h : R b) : ∃ k, V.bl b = .bl k ∧ R k := ⟨b, rfl, h⟩
theorem i_and {Q : Bool → Hp → Prop} (h : t σ H fun c H1 => if c = true then u σ H1 Q else Q false H1) : tAnd t u σ H Q := h
theorem i_or {Q : Bool → Hp → Prop} (h : t σ H fun c H1 => if c = true then Q true H1 else u σ H1 Q) : tOr t u σ H Q := h
theorem i_not {Q : Bool → Hp → Prop} (h : t σ H fun c H1 => Q (!c) H1) : tNot t σ H Q := h
theorem i_andV (h : ta σ H fun x H1 => ∃ c, x = .bl c ∧ if c = true then tb σ H1 Q else Q (.bl false) H1) : tAndV ta tb σ H Q := h
theorem i_orV (h : ta σ H fun x H1 => ∃ c, x = .bl c ∧ if c = true then Q (.bl true) H1 else tb σ H1 Q) : tOrV ta tb σ H Q := h
theorem i_notV (h : ta σ H fun x H1 => ∃ c, x = .bl c ∧ Q (.bl (!c)) H1) : tNotV ta σ H Q := h
theorem i_if (h : t σ H fun c H1 => if c = true then ta σ H1 Q else tb σ H1 Q) : tIf t ta tb σ H Q := h
theorem i_chain {r r' : R2} (h : ta σ H fun x H1 => tb σ H1 fun y H2 => r x y H2 fun z H3 => ∃ k, z = .bl k ∧ (if k = true then tc σ H3 fun w' H4 => r' y w' H4 Q else Q (.bl false) H3)) : tChain r r' ta tb tc σ H Q := h
theorem i_nil {Q : List V → Hp → Prop} (h : Q [] H) : tNil σ H Q := h
theorem i_cons {Q : List V → Hp → Prop} {tr : TA} (h : ta σ H fun x H1 => tr σ H1 fun xs H2 => Q (x :: xs) H2) : tCons ta tr σ H Q := h
def UK (xs : List V) (H : Hp) (Q : VK) : Prop := xs.length ≤ sizeLine ∧ ∀ p, H p = none → Q (.ref p) (upd H p (.tup xs))
def LK (xs : List V) (H : Hp) (Q : VK) : Prop := xs.length ≤ sizeLine ∧ ∀ p, H p = none → Q (.ref p) (upd H p (.lst xs))
theorem i_tup {t : TA} (h : t σ H fun xs H1 => UK xs H1 Q) : tTup t σ H Q := h
theorem i_lst {t : TA} (h : t σ H fun xs H1 => LK xs H1 Q) : tLst t σ H Q := h
theorem i_cb {r : List V → Hp → VK → Prop} {t : TA} (h : t σ H fun vs H1 => r vs H1 Q) : tCB r t σ H Q := h
theorem i_call {sp : Sp} {dvs : List V} {E : XK} {t : TA} (h : t σ H fun vs H1 => sp (vs ++ dvs) H1 Q E) : tCall sp dvs E t σ H Q := h
theorem i_bm {T : String} {r : V → List V → Hp → VK → Prop} {to : TE} {t : TA} (h : to σ H fun x H1 => tyV K T x H1 ∧ t σ H1 fun xs H2 => r x xs H2 Q) : tBM K T r to t σ H Q := h
theorem i_m1 {r : V → List V → Hp → VK → Prop} (h : ta σ H fun x H1 => (∃ a, x = .str a) ∧ te σ H1 fun y H2 => r x [y] H2 Q) : tM1 r ta te σ H Q := h
theorem i_m0 {r : V → List V → Hp → VK → Prop} (h : ta σ H fun x H1 => (∃ a, x = .str a) ∧ r x [] H1 Q) : tM0 r ta σ H Q := h
theorem i_exstr {z : Str} {R : Prop} (h : R) : (∃ a, V.str z = .str a) ∧ R := ⟨⟨z, rfl⟩, h⟩
theorem i_sl {r : V → Option Int → Option Int → Hp → VK → Prop} {tl th : TO} (h : te σ H fun x H1 => tl σ H1 fun l H2 => th σ H2 fun u H3 => r x l u H3 Q) : tSl r te tl th σ H Q := h
theorem i_nopart {Q : Option Int → Hp → Prop} (h : Q none H) : tNoPart σ H Q := h
theorem i_part {Q : Option Int → Hp → Prop} (h : te σ H fun x H1 => ∃ i, x = .int i ∧ Q (some i) H1) : tPart te σ H Q := h
theorem i_int {R : Int → Prop} (h : R i) : ∃ k, V.int i = .int k ∧ R k := ⟨i, rfl, h⟩
theorem i_strE {R : Str → Prop} {z : Str} (h : R z) : ∃ k, V.str z = .str k ∧ R k := ⟨z, rfl, h⟩
/- statements -/
variable {s1 s2 : TS} {g : TG}
theorem i_seq (h : s1 { D with nx := s2 D } σ H) : tSeq s1 s2 D σ H := h
theorem i_next (h : D.nx σ H) : tNext D σ H := h
theorem i_asg (h : te σ H fun x H1 => g x σ H1 D.nx) : tAsg te g D σ H := h
theorem i_gname {n : Nat} {Q : L2.St → Hp → Prop} (h : Q (σ.set n (some v)) H) : gName n v σ H Q := h
theorem i_ret (h : te σ H D.rt) : tRet te D σ H := h
theorem i_retN (h : D.rt .non H) : tRetN D σ H := h
theorem i_drop (h : te σ H fun _ H1 => D.nx σ H1) : tDrop te D σ H := h
theorem i_ifS (h : t σ H fun b H1 => if b = true then s1 D σ H1 else s2 D σ H1) : tIfS t s1 s2 D σ H := h
theorem i_aug {n : Nat} {ti : TIp} {x : V} (hx : σ[n]? = some (some x)) (h : te σ H fun y H1 => ti x y H1 fun z H2 => D.nx (σ.set n (some z)) H2) : tAug n te ti D σ H := ⟨x, hx, h⟩
theorem i_break (h : D.bk σ H) : tBreak D σ H := h
theorem i_cont (h : D.ct σ H) : tCont D σ H := h
/- operators -/
theorem i_add_i (q : Q (.int (i + j)) H) : rAddU K (.int i) (.int j) H Q := .inl ⟨i, j, rfl, rfl, q⟩
theorem i_add_s {a b : Str} (z : a.length + b.length ≤ sizeLine) (q : Q (.str (a ++ b)) H) : rAddU K (.str a) (.str b) H Q := .inr (.inl ⟨a, b, rfl, rfl, z, q⟩)
theorem i_add_l {p r : Addr} {xs ys : List V} (hx : H p = some (.lst xs)) (hy : H r = some (.lst ys)) (z : xs.length + ys.length ≤ sizeLine) (q : ∀ l H', H l = none → Same H H' → H' l = some (.lst (xs ++ ys)) → Q (.ref l) H') : rAddU K (.ref p) (.ref r) H Q :=
  .inr (.inr (.inr ⟨p, r, xs, ys, rfl, rfl, hx, hy, z, fun l hl => q l _ hl (same_new hl _) upd_same⟩))
theorem i_add_t {p r : Addr} {xs ys : List V} (hx : SqT K H p xs) (hy : SqT K H r ys) (z : xs.length + ys.length ≤ sizeLine) (q : ∀ l H', Same H H' → SqT K H' l (xs ++ ys) → Q (.ref l) H') : rAddU K (.ref p) (.ref r) H Q := by
  refine .inr (.inr (.inl ⟨p, r, xs, ys, rfl, rfl, hx, hy, z, fun e => ?_, fun _ e => ?_, fun _ _ l hl => ?_⟩))
  · exact q r H (Same.refl H) (by rw [e]; exact hy)
  · exact q p H (Same.refl H) (by rw [e, List.append_nil]; exact hx)
  · exact q l _ (same_new hl _) (.inl (.inl upd_same))
theorem i_sub (q : Q (.int (i - j)) H) : rSubI (.int i) (.int j) H Q := ⟨i, j, rfl, rfl, q⟩
theorem i_mod (z : j ≠ 0) (q : Q (.int (i.fmod j)) H) : rModI (.int i) (.int j) H Q := ⟨i, j, rfl, rfl, z, q⟩
theorem i_fdv (z : j ≠ 0 ∧ j.natAbs < 1073741824) (q : Q (.int (i.fdiv j)) H) : rFdvI (.int i) (.int j) H Q := ⟨i, j, rfl, rfl, z, q⟩
theorem i_mul_l (z : -(2 ^ 64) < i ∧ i < 2 ^ 64) (q : Q (.int (i * j)) H) : rMulU (.int i) (.int j) H Q := .inl ⟨i, j, rfl, rfl, .inl z, q⟩
theorem i_mul_r (z : -(2 ^ 64) < j ∧ j < 2 ^ 64) (q : Q (.int (i * j)) H) : rMulU (.int i) (.int j) H Q := .inl ⟨i, j, rfl, rfl, .inr z, q⟩
theorem i_mul_s {z : Str} (ok : PySem.MulOk z i) (q : Q (.str (Txt.mul z i)) H) : rMulU (.str z) (.int i) H Q := .inr ⟨z, i, rfl, rfl, ok, q⟩
theorem i_pow (z : CPow i j) (q : Q (.int (i ^ j.toNat)) H) : rPowI (.int i) (.int j) H Q := ⟨i, j, rfl, rfl, z, q⟩
theorem i_neg (q : Q (.int (-i)) H) : (rU fun i => .int (-i)) (.int i) H Q := ⟨i, rfl, q⟩
theorem i_ipadd_i (q : Q (.int (i + j)) H) : rIpAdd (.int i) (.int j) H Q := .inl ⟨i, j, rfl, rfl, q⟩
theorem i_ipadd_s {a b : Str} (z : a.length + b.length ≤ sizeLine) (q : Q (.str (a ++ b)) H) : rIpAdd (.str a) (.str b) H Q := .inr ⟨a, b, rfl, rfl, z, q⟩
theorem i_eq (h : scal x y = true) (q : Q (.bl (decide (x = y))) H) : rEqU K x y H Q := .inl ⟨h, q⟩
theorem i_ne (h : scal x y = true) (q : Q (.bl (!decide (x = y))) H) : rNeU K x y H Q := .inl ⟨h, q⟩
theorem i_lt (q : Q (.bl (decide (i < j))) H) : rLtU (.int i) (.int j) H Q := .inl ⟨i, j, rfl, rfl, q⟩
theorem i_le (q : Q (.bl (decide (i ≤ j))) H) : rLeU (.int i) (.int j) H Q := .inl ⟨i, j, rfl, rfl, q⟩
theorem i_gt (q : Q (.bl (decide (i > j))) H) : rGtU (.int i) (.int j) H Q := .inl ⟨i, j, rfl, rfl, q⟩
theorem i_ge (q : Q (.bl (decide (i ≥ j))) H) : rGeU (.int i) (.int j) H Q := .inl ⟨i, j, rfl, rfl, q⟩
theorem i_lt_s {a b : Str} (q : Q (.bl (decide (a.cps.toList < b.cps.toList))) H) : rLtU (.str a) (.str b) H Q := .inr ⟨a, b, rfl, rfl, q⟩
theorem i_le_s {a b : Str} (q : Q (.bl (!decide (b.cps.toList < a.cps.toList))) H) : rLeU (.str a) (.str b) H Q := .inr ⟨a, b, rfl, rfl, q⟩
theorem i_gt_s {a b : Str} (q : Q (.bl (decide (b.cps.toList < a.cps.toList))) H) : rGtU (.str a) (.str b) H Q := .inr ⟨a, b, rfl, rfl, q⟩
theorem i_ge_s {a b : Str} (q : Q (.bl (!decide (a.cps.toList < b.cps.toList))) H) : rGeU (.str a) (.str b) H Q := .inr ⟨a, b, rfl, rfl, q⟩
theorem i_isN (q : Q (.bl (decide (x = .non))) H) : rIsNo x .non H Q := ⟨rfl, q⟩
theorem i_notN (q : Q (.bl (!decide (x = .non))) H) : rNotNo x .non H Q := ⟨rfl, q⟩
theorem i_in_c {c : Nat} {z : Str} (q : Q (.bl (decide (c ∈ z.cps.toList))) H) : rInU K (.str ⟨#[c]⟩) (.str z) H Q := .inl ⟨c, z, rfl, rfl, q⟩
theorem i_nin_c {c : Nat} {z : Str} (q : Q (.bl (!decide (c ∈ z.cps.toList))) H) : rNinU K (.str ⟨#[c]⟩) (.str z) H Q := .inl ⟨c, z, rfl, rfl, q⟩
theorem i_in_t {p : Addr} {xs : List V} (s : SqT K H p xs) (f : flatV x = true) (fs : xs.all flatV = true) (q : Q (.bl (inV x xs)) H) : rInU K x (.ref p) H Q := .inr ⟨p, xs, rfl, .inr s, f, fs, q⟩
theorem i_in_l {p : Addr} {xs : List V} (s : SqL K H p xs) (f : flatV x = true) (fs : xs.all flatV = true) (q : Q (.bl (inV x xs)) H) : rInU K x (.ref p) H Q := .inr ⟨p, xs, rfl, .inl s, f, fs, q⟩
theorem i_nin_t {p : Addr} {xs : List V} (s : SqT K H p xs) (f : flatV x = true) (fs : xs.all flatV = true) (q : Q (.bl (!inV x xs)) H) : rNinU K x (.ref p) H Q := .inr ⟨p, xs, rfl, .inr s, f, fs, q⟩
theorem i_nin_l {p : Addr} {xs : List V} (s : SqL K H p xs) (f : flatV x = true) (fs : xs.all flatV = true) (q : Q (.bl (!inV x xs)) H) : rNinU K x (.ref p) H Q := .inr ⟨p, xs, rfl, .inl s, f, fs, q⟩
theorem i_ix_l {p : Addr} {xs : List V} (s : SqL K H p xs) (e : atI xs i = some v) (q : Q v H) : rIx K (.ref p) (.int i) H Q := .inl ⟨p, xs, i, v, rfl, rfl, s, e, q⟩
theorem i_ix_t {p : Addr} {xs : List V} (s : SqT K H p xs) (e : atI xs i = some v) (q : Q v H) : rIx K (.ref p) (.int i) H Q := .inr (.inl ⟨p, xs, i, v, rfl, rfl, s, e, q⟩)
theorem i_ix_s {z : Str} {c : Nat} (l : z.length ≤ sizeLine) (e : atI z.cps.toList i = some c) (q : Q (.str ⟨#[c]⟩) H) : rIx K (.str z) (.int i) H Q := .inr (.inr ⟨z, i, c, rfl, rfl, l, e, q⟩)
theorem i_sl_s {z : Str} {lo hi : Option Int} (l : z.length ≤ sizeLine) (q : Q (.str (cutS z lo hi)) H) : rSlU K (.str z) lo hi H Q := .inr (.inr ⟨z, rfl, l, q⟩)
theorem i_sl_l {p : Addr} {xs : List V} {lo hi : Option Int} (s : SqL K H p xs) (q : ∀ r H', H r = none → Same H H' → H' r = some (.lst (cutV xs lo hi)) → Q (.ref r) H') : rSlU K (.ref p) lo hi H Q :=
  .inl ⟨p, xs, rfl, s, fun r hr => q r _ hr (same_new hr _) upd_same⟩
theorem cutV_whole {xs : List V} {lo hi : Option Int} (a : HT.sIx xs.length 0 lo = 0) (b : HT.sIx xs.length xs.length hi = xs.length) : cutV xs lo hi = xs := by
  unfold cutV
  rw [a, b, List.drop_zero, Nat.sub_zero, List.take_length]
theorem i_sl_t {p : Addr} {xs : List V} {lo hi : Option Int} (s : SqT K H p xs) (q : ∀ r H', Same H H' → SqT K H' r (cutV xs lo hi) → Q (.ref r) H') : rSlU K (.ref p) lo hi H Q :=
  .inr (.inl ⟨p, xs, rfl, s, fun e => q p H (Same.refl H) (by rw [cutV_whole e.1 e.2]; exact s), fun _ r hr => q r _ (same_new hr _) (.inl (.inl upd_same))⟩)
theorem i_len_s {z : Str} (l : z.length ≤ sizeLine) (q : Q (.int z.length) H) : rLenU K [.str z] H Q := .inl ⟨_, z.length, rfl, ⟨l, rfl⟩, q⟩
theorem i_len_l {p : Addr} {xs : List V} (s : SqL K H p xs) (q : Q (.int xs.length) H) : rLenU K [.ref p] H Q := .inl ⟨_, xs.length, rfl, .inl ⟨xs, s, rfl⟩, q⟩
theorem i_len_t {p : Addr} {xs : List V} (s : SqT K H p xs) (q : Q (.int xs.length) H) : rLenU K [.ref p] H Q := .inl ⟨_, xs.length, rfl, .inr ⟨xs, s, rfl⟩, q⟩
theorem i_len_d {p : Addr} {kvs : List (Key × V)} (e : H p = some (.dK kvs)) (q : Q (.int kvs.length) H) : rLenU K [.ref p] H Q := .inr ⟨p, kvs, rfl, e, q⟩
theorem i_tupof_l {p : Addr} {xs : List V} (s : SqL K H p xs) (q : ∀ l H', H l = none → Same H H' → H' l = some (.tup xs) → Q (.ref l) H') : rTupOf K [.ref p] H Q := ⟨p, xs, rfl, .inl ⟨s, fun l hl => q l _ hl (same_new hl _) upd_same⟩⟩
theorem i_tupof_t {p : Addr} {xs : List V} (s : SqT K H p xs) (q : Q (.ref p) H) : rTupOf K [.ref p] H Q := ⟨p, xs, rfl, .inr ⟨s, q⟩⟩
theorem i_int_b {b : Bool} (q : Q (.int (if b then 1 else 0)) H) : rIntU [.bl b] H Q := .inr ⟨b, rfl, q⟩
theorem i_str_i (l : i.natAbs.log2 < 1920) (q : Q (.str (toString i)) H) : rStrI [.int i] H Q := ⟨i, rfl, l, q⟩
theorem i_abs (q : Q (.int (if i < 0 then -i else i)) H) : rAbs [.int i] H Q := ⟨i, rfl, q⟩
theorem i_min2 (q : Q (.int (if j < i then j else i)) H) : rMin2 [.int i, .int j] H Q := ⟨i, j, rfl, q⟩
theorem i_all {p : Addr} {bs : List Bool} (s : SqL K H p (bs.map V.bl)) (q : Q (.bl (bs.all id)) H) : rAll K [.ref p] H Q := ⟨p, bs, rfl, s, q⟩
theorem i_sum {p : Addr} {ns : List Int} (s : SqL K H p (ns.map V.int)) (q : Q (.int ns.sum) H) : rSum K [.ref p] H Q := ⟨p, ns, rfl, s, q⟩
/- new objects: the heap behind it is a letter -/
theorem i_new_t {xs : List V} (hl : xs.length ≤ sizeLine) (q : ∀ p H', H p = none → Same H H' → H' p = some (.tup xs) → Q (.ref p) H') : UK xs H Q :=
  ⟨hl, fun p hp => q p _ hp (same_new hp _) upd_same⟩
theorem i_new_l {xs : List V} (hl : xs.length ≤ sizeLine) (q : ∀ p H', H p = none → Same H H' → H' p = some (.lst xs) → Q (.ref p) H') : LK xs H Q :=
  ⟨hl, fun p hp => q p _ hp (same_new hp _) upd_same⟩
theorem i_append {l : Addr} {xs : List V} (h : H l = some (.lst xs)) (z : xs.length < sizeLine) (q : ∀ H', Bt l H H' → H' l = some (.lst (xs ++ [y])) → Q .non H') : rAppend (.ref l) [y] H Q :=
  ⟨l, xs, y, rfl, rfl, h, z, q _ Bt.upd upd_same⟩
theorem i_extend {l b : Addr} {xs zs : List V} (h : H l = some (.lst xs)) (hb : H b = some (.lst zs)) (z : xs.length + zs.length ≤ sizeLine) (q : ∀ H', Bt l H H' → H' l = some (.lst (xs ++ zs)) → Q .non H') : rExtend (.ref l) [.ref b] H Q :=
  ⟨l, b, xs, zs, rfl, rfl, h, hb, z, q _ Bt.upd upd_same⟩
theorem i_setL {l : Addr} {xs : List V} {n : Nat} {Q : Hp → Prop} (h : H l = some (.lst xs)) (e : ixN xs.length i = some n) (q : ∀ H', Bt l H H' → H' l = some (.lst (xs.set n v)) → Q H') : rSetL (.ref l) (.int i) v H Q :=
  ⟨l, xs, i, n, rfl, rfl, h, e, q _ Bt.upd upd_same⟩
theorem i_tyl {l : Addr} {xs : List V} {R : Prop} (h : H l = some (.lst xs)) (r : R) : tyV K "list" (.ref l) H ∧ R := ⟨.inl ⟨rfl, _, .inl (.inl h)⟩, r⟩
/- isinstance -/
theorem ty_sq {p : Addr} {xs : List V} (s : SqT K H p xs) : TyX K H (.ref p) (.type "tuple") := by
  rcases s with (h | ⟨o, h⟩) | ⟨o, its, n, h, c, _⟩
  · exact .base (.tup h)
  · exact .fTuple h
  · exact .kTuple h c
theorem i_isi {T U : String} {b : Bool} (ty : TyX K H x (.type U)) (e : kitB U T = some b) (q : Q (.bl b) H) : rIsi K [x, .ty T] H Q := ⟨x, _, _, _, b, rfl, .ty T, ty, kit_ty e, q⟩
/- targets -/
theorem i_gtup {n : Nat} {t : TGs} {a : Addr} {xs : List V} {Q : L2.St → Hp → Prop} (s : SqT K H a xs) (e : xs.length = n) (h : t xs σ H Q) : gTup K n t (.ref a) σ H Q := ⟨a, xs, rfl, s, e, h⟩
theorem i_gcons {t : TG} {u : TGs} {r : List V} {Q : L2.St → Hp → Prop} (h : t v σ H fun σ' H' => u r σ' H' Q) : gCons t u (v :: r) σ H Q := ⟨v, r, rfl, h⟩
theorem i_gnil {Q : L2.St → Hp → Prop} (h : Q σ H) : gNil [] σ H Q := ⟨rfl, h⟩
theorem i_gsub {to ti : TE} {t : TSet} {Q : L2.St → Hp → Prop} (h : to σ H fun o H1 => ti σ H1 fun i H2 => t o i v H2 fun H3 => Q σ H3) : gSub to ti t v σ H Q := h
end

/-! ### loops -/
section
variable {K : PySem.W.Frag} {σ : L2.St} {H : Hp} {D : Ends} {g : TG} {tb : TS} {tl : TE} {a : Addr} {xs : List V}
theorem i_forL (h : tl σ H fun x H1 => ∃ a xs, x = .ref a ∧ SqL K H1 a xs ∧ ∃ Pv : Nat → L2.St → Hp → Prop, Pv 0 σ H1 ∧ (∀ i σ H, i ≤ xs.length → Pv i σ H → SqL K H a xs) ∧
    (∀ i x σ H, xs[i]? = some x → Pv i σ H → g x σ H fun σ2 H2 => tb { D with nx := Pv (i + 1), ct := Pv (i + 1), bk := D.nx } σ2 H2) ∧ ∀ σ H, Pv xs.length σ H → D.nx σ H)
    (mono : ∀ Q Q' : VK, (∀ v H1, Q v H1 → Q' v H1) → tl σ H Q → tl σ H Q') : tFor (iList K tl) g tb D σ H :=
  mono _ _ (fun x H1 ⟨a, xs, e, s, Pv, h0, hl, hs, hd⟩ => ⟨a, e, ⟨xs, s⟩, for_list Pv h0 hl hs hd⟩) h
theorem f_list (s : SqL K H a xs) (Pv : Nat → L2.St → Hp → Prop) (h0 : Pv 0 σ H) (hl : ∀ i σ H, i ≤ xs.length → Pv i σ H → SqL K H a xs)
    (hs : ∀ i x σ H, xs[i]? = some x → Pv i σ H → g x σ H fun σ2 H2 => tb { D with nx := Pv (i + 1), ct := Pv (i + 1), bk := D.nx } σ2 H2) (hd : ∀ σ H, Pv xs.length σ H → D.nx σ H) :
    ∃ a', V.ref a = .ref a' ∧ (∃ xs, SqL K H a' xs) ∧ ∃ W : Nat → Nat → L2.St → Hp → Prop, (∃ m, W 0 m σ H) ∧ ∀ i m σ H, W i m σ H →
      ((Itl K a').stop i H ∧ D.nx σ H) ∨ ((Itl K a').go i H ∧ ∃ N : L2.St → Hp → Prop, (∀ σ' H', N σ' H' → ∃ m', m' < m ∧ W (i + 1) m' σ' H') ∧ ∀ x H', (Itl K a').yld i H x H' → g x σ H' fun σ2 H2 => tb { D with nx := N, ct := N, bk := D.nx } σ2 H2) :=
  ⟨a, rfl, ⟨xs, s⟩, for_list Pv h0 hl hs hd⟩
theorem f_tup (s : SqT K H a xs) (Pv : Nat → L2.St → Hp → Prop) (h0 : Pv 0 σ H) (hl : ∀ i σ H, i ≤ xs.length → Pv i σ H → SqT K H a xs)
    (hs : ∀ i x σ H, xs[i]? = some x → Pv i σ H → g x σ H fun σ2 H2 => tb { D with nx := Pv (i + 1), ct := Pv (i + 1), bk := D.nx } σ2 H2) (hd : ∀ σ H, Pv xs.length σ H → D.nx σ H) :
    ∃ a', V.ref a = .ref a' ∧ (∃ xs, SqT K H a' xs) ∧ ∃ W : Nat → Nat → L2.St → Hp → Prop, (∃ m, W 0 m σ H) ∧ ∀ i m σ H, W i m σ H →
      ((Itt K a').stop i H ∧ D.nx σ H) ∨ ((Itt K a').go i H ∧ ∃ N : L2.St → Hp → Prop, (∀ σ' H', N σ' H' → ∃ m', m' < m ∧ W (i + 1) m' σ' H') ∧ ∀ x H', (Itt K a').yld i H x H' → g x σ H' fun σ2 H2 => tb { D with nx := N, ct := N, bk := D.nx } σ2 H2) :=
  ⟨a, rfl, ⟨xs, s⟩, for_tup Pv h0 hl hs hd⟩
theorem f_range {n : Nat} (hn : n < 2 ^ 62) (Pv : Nat → L2.St → Hp → Prop) (h0 : Pv 0 σ H)
    (hs : ∀ i σ H, i < n → Pv i σ H → g (.int (i : Nat)) σ H fun σ2 H2 => tb { D with nx := Pv (i + 1), ct := Pv (i + 1), bk := D.nx } σ2 H2) (hd : ∀ σ H, Pv n σ H → D.nx σ H) {k : Int} (e : k = (n : Nat)) :
    ∃ j : Int, [V.int k] = [.int j] ∧ -(2 ^ 62) ≤ j ∧ j < 2 ^ 62 ∧ ∃ W : Nat → Nat → L2.St → Hp → Prop, (∃ m, W 0 m σ H) ∧ ∀ i m σ H, W i m σ H →
      ((Itr 0 j.toNat).stop i H ∧ D.nx σ H) ∨ ((Itr 0 j.toNat).go i H ∧ ∃ N : L2.St → Hp → Prop, (∀ σ' H', N σ' H' → ∃ m', m' < m ∧ W (i + 1) m' σ' H') ∧ ∀ x H', (Itr 0 j.toNat).yld i H x H' → g x σ H' fun σ2 H2 => tb { D with nx := N, ct := N, bk := D.nx } σ2 H2) := by
  subst e
  refine ⟨(n : Int), rfl, by omega, by omega, ?_⟩
  rw [Int.toNat_natCast]
  refine for_range Pv h0 (fun i σ H hi p => ?_) hd
  rw [Int.zero_add]
  exact hs i σ H hi p
theorem i_while {c : TT} (W : Nat → L2.St → Hp → Prop) (m0 : Nat) (h0 : W m0 σ H)
    (hs : ∀ m σ H, W m σ H → c σ H fun b H1 => if b = true then ∃ N : L2.St → Hp → Prop, (∀ σ' H', N σ' H' → ∃ m', m' < m ∧ W m' σ' H') ∧ tb { D with nx := N, ct := N, bk := D.nx } σ H1 else D.nx σ H1) : tWhile c tb D σ H := ⟨W, ⟨m0, h0⟩, hs⟩
end
/-! ### comprehensions -/
/-- what a turn of a comprehension comes to with its item y -/
def CK (D : Addr) (Nx : Hp → Prop) (y : V) (H : Hp) : Prop := ∃ acc, H D = some (.lst acc) ∧ acc.length < sizeLine ∧ Nx (upd H D (.lst (acc ++ [y])))
def CN (Pv : Addr → Nat → List V → Hp → Prop) (D : Addr) (i : Nat) (H : Hp) : Prop := ∃ acc, acc.length ≤ i ∧ H D = some (.lst acc) ∧ Pv D i acc H
theorem i_ck {Pv : Addr → Nat → List V → Hp → Prop} {D : Addr} {i : Nat} {y : V} {H : Hp} {acc : List V} (h : H D = some (.lst acc)) (hl : acc.length ≤ i) (hi : i < sizeLine)
    (k : ∀ H5, Bt D H H5 → H5 D = some (.lst (acc ++ [y])) → Pv D (i + 1) (acc ++ [y]) H5) : CK D (CN Pv D (i + 1)) y H :=
  ⟨acc, h, Nat.lt_of_le_of_lt hl hi, acc ++ [y], by rw [List.length_append]; exact Nat.succ_le_succ hl, upd_same, k _ Bt.upd upd_same⟩
section
variable {K : PySem.W.Frag} {σ : L2.St} {H : Hp} {Qd : Addr → Hp → Prop} {te : TE} {tt : L2.TT} {vs : List Nat} {a : Addr} {xs : List V} {g : TG}
theorem c_core (J : It) (n : Nat) (hn : n < sizeLine) (item : Nat → V → Prop) (Pv : Addr → Nat → List V → Hp → Prop) (h0 : ∀ D H1, H D = none → Same H H1 → H1 D = some (.lst []) → Pv D 0 [] H1)
    (go : ∀ D i acc H1, H D = none → i < n → Pv D i acc H1 → J.go i H1) (yl : ∀ D i acc x H1 H', H D = none → Pv D i acc H1 → J.yld i H1 x H' → H' = H1 ∧ item i x) (st : ∀ D acc H1, H D = none → Pv D n acc H1 → J.stop n H1)
    (hs : ∀ D i x acc H1, H D = none → i < n → item i x → acc.length ≤ i → H1 D = some (.lst acc) → Pv D i acc H1 → g x (wipe σ vs) H1 fun σ2 H2 => wipe σ2 vs = wipe σ vs ∧ tt σ2 H2 fun b H3 =>
      if b = true then te σ2 H3 fun y H4 => CK D (CN Pv D (i + 1)) y H4 else CN Pv D (i + 1) H3)
    (hd : ∀ D acc H1, H D = none → acc.length ≤ n → H1 D = some (.lst acc) → Pv D n acc H1 → Qd D H1) :
    ∀ D, H D = none → ∃ W : Nat → Nat → Hp → Prop, (∃ m, W 0 m (upd H D (.lst []))) ∧ ∀ i m H, W i m H →
      (J.stop i H ∧ Qd D H) ∨ (J.go i H ∧ ∃ Nx : Hp → Prop, (∀ H', Nx H' → ∃ m', m' < m ∧ W (i + 1) m' H') ∧ ∀ x H', J.yld i H x H' → g x (wipe σ vs) H' fun σ2 H2 => wipe σ2 vs = wipe σ vs ∧ tt σ2 H2 fun b H3 =>
        if b = true then te σ2 H3 fun y H4 => ∃ acc, H4 D = some (.lst acc) ∧ acc.length < sizeLine ∧ Nx (upd H4 D (.lst (acc ++ [y]))) else Nx H3) := by
  intro D hD
  refine ⟨fun i m H1 => m = n - i ∧ i ≤ n ∧ CN Pv D i H1, ⟨n, by simp, Nat.zero_le _, [], Nat.le_refl _, upd_same, h0 D _ hD (same_new hD _) upd_same⟩, ?_⟩
  rintro i m H1 ⟨rfl, hi, acc, ha, hac, p⟩
  by_cases hlt : i < n
  · refine .inr ⟨go D i acc H1 hD hlt p, CN Pv D (i + 1), fun H' p' => ⟨n - (i + 1), by omega, rfl, hlt, p'⟩, fun x H' y => ?_⟩
    obtain ⟨e, y2⟩ := yl D i acc x H1 H' hD p y
    subst e
    exact hs D i x acc _ hD hlt y2 ha hac p
  · have e : i = n := by omega
    subst e
    exact .inl ⟨st D acc H1 hD p, hd D acc H1 hD ha hac p⟩
theorem c_list (s : SqL K H a xs) (hz : xs.length < sizeLine) (Pv : Addr → Nat → List V → Hp → Prop) (h0 : ∀ D H1, H D = none → Same H H1 → H1 D = some (.lst []) → Pv D 0 [] H1) (hl : ∀ D i acc H1, H D = none → Pv D i acc H1 → SqL K H1 a xs)
    (hs : ∀ D i x acc H1, H D = none → xs[i]? = some x → acc.length ≤ i → i < sizeLine → H1 D = some (.lst acc) → Pv D i acc H1 → g x (wipe σ vs) H1 fun σ2 H2 => wipe σ2 vs = wipe σ vs ∧ tt σ2 H2 fun b H3 =>
      if b = true then te σ2 H3 fun y H4 => CK D (CN Pv D (i + 1)) y H4 else CN Pv D (i + 1) H3)
    (hd : ∀ D acc H1, H D = none → acc.length ≤ xs.length → H1 D = some (.lst acc) → Pv D xs.length acc H1 → Qd D H1) :
    ∃ a', V.ref a = .ref a' ∧ (∃ xs, SqL K H a' xs) ∧ ∀ D, H D = none → ∃ W : Nat → Nat → Hp → Prop, (∃ m, W 0 m (upd H D (.lst []))) ∧ ∀ i m H, W i m H →
      ((Itl K a').stop i H ∧ Qd D H) ∨ ((Itl K a').go i H ∧ ∃ Nx : Hp → Prop, (∀ H', Nx H' → ∃ m', m' < m ∧ W (i + 1) m' H') ∧ ∀ x H', (Itl K a').yld i H x H' → g x (wipe σ vs) H' fun σ2 H2 => wipe σ2 vs = wipe σ vs ∧ tt σ2 H2 fun b H3 =>
        if b = true then te σ2 H3 fun y H4 => ∃ acc, H4 D = some (.lst acc) ∧ acc.length < sizeLine ∧ Nx (upd H4 D (.lst (acc ++ [y]))) else Nx H3) := by
  refine ⟨a, rfl, ⟨xs, s⟩, c_core (Itl K a) xs.length hz (fun i x => xs[i]? = some x) Pv h0 (fun D i acc H1 hD hi p => ?_) (fun D i acc x H1 H' hD p y => ?_) (fun D acc H1 hD p => ?_) (fun D i x acc H1 hD hi y ha hac p => hs D i x acc H1 hD y ha (Nat.lt_trans hi hz) hac p) hd⟩
  · exact ⟨xs, xs[i], hl D i acc H1 hD p, by simp [hi]⟩
  · obtain ⟨e, y⟩ := y
    subst e
    exact ⟨rfl, y xs (hl D i acc _ hD p)⟩
  · exact ⟨xs, hl D _ acc H1 hD p, Nat.le_refl _⟩
theorem c_tup (s : SqT K H a xs) (hz : xs.length < sizeLine) (Pv : Addr → Nat → List V → Hp → Prop) (h0 : ∀ D H1, H D = none → Same H H1 → H1 D = some (.lst []) → Pv D 0 [] H1) (hl : ∀ D i acc H1, H D = none → Pv D i acc H1 → SqT K H1 a xs)
    (hs : ∀ D i x acc H1, H D = none → xs[i]? = some x → acc.length ≤ i → i < sizeLine → H1 D = some (.lst acc) → Pv D i acc H1 → g x (wipe σ vs) H1 fun σ2 H2 => wipe σ2 vs = wipe σ vs ∧ tt σ2 H2 fun b H3 =>
      if b = true then te σ2 H3 fun y H4 => CK D (CN Pv D (i + 1)) y H4 else CN Pv D (i + 1) H3)
    (hd : ∀ D acc H1, H D = none → acc.length ≤ xs.length → H1 D = some (.lst acc) → Pv D xs.length acc H1 → Qd D H1) :
    ∃ a', V.ref a = .ref a' ∧ (∃ xs, SqT K H a' xs) ∧ ∀ D, H D = none → ∃ W : Nat → Nat → Hp → Prop, (∃ m, W 0 m (upd H D (.lst []))) ∧ ∀ i m H, W i m H →
      ((Itt K a').stop i H ∧ Qd D H) ∨ ((Itt K a').go i H ∧ ∃ Nx : Hp → Prop, (∀ H', Nx H' → ∃ m', m' < m ∧ W (i + 1) m' H') ∧ ∀ x H', (Itt K a').yld i H x H' → g x (wipe σ vs) H' fun σ2 H2 => wipe σ2 vs = wipe σ vs ∧ tt σ2 H2 fun b H3 =>
        if b = true then te σ2 H3 fun y H4 => ∃ acc, H4 D = some (.lst acc) ∧ acc.length < sizeLine ∧ Nx (upd H4 D (.lst (acc ++ [y]))) else Nx H3) := by
  refine ⟨a, rfl, ⟨xs, s⟩, c_core (Itt K a) xs.length hz (fun i x => xs[i]? = some x) Pv h0 (fun D i acc H1 hD hi p => ?_) (fun D i acc x H1 H' hD p y => ?_) (fun D acc H1 hD p => ?_) (fun D i x acc H1 hD hi y ha hac p => hs D i x acc H1 hD y ha (Nat.lt_trans hi hz) hac p) hd⟩
  · exact ⟨xs, xs[i], hl D i acc H1 hD p, by simp [hi]⟩
  · obtain ⟨e, y⟩ := y
    subst e
    exact ⟨rfl, y xs (hl D i acc _ hD p)⟩
  · exact ⟨xs, hl D _ acc H1 hD p, Nat.le_refl _⟩
theorem c_str {z : Str} (hz : z.length < sizeLine) (Pv : Addr → Nat → List V → Hp → Prop) (h0 : ∀ D H1, H D = none → Same H H1 → H1 D = some (.lst []) → Pv D 0 [] H1)
    (hs : ∀ D i c acc H1, H D = none → z.cps.toList[i]? = some c → acc.length ≤ i → i < sizeLine → H1 D = some (.lst acc) → Pv D i acc H1 → g (.str ⟨#[c]⟩) (wipe σ vs) H1 fun σ2 H2 => wipe σ2 vs = wipe σ vs ∧ tt σ2 H2 fun b H3 =>
      if b = true then te σ2 H3 fun y H4 => CK D (CN Pv D (i + 1)) y H4 else CN Pv D (i + 1) H3)
    (hd : ∀ D acc H1, H D = none → acc.length ≤ z.length → H1 D = some (.lst acc) → Pv D z.length acc H1 → Qd D H1) :
    ∃ z', V.str z = .str z' ∧ ∀ D, H D = none → ∃ W : Nat → Nat → Hp → Prop, (∃ m, W 0 m (upd H D (.lst []))) ∧ ∀ i m H, W i m H →
      ((Its z').stop i H ∧ Qd D H) ∨ ((Its z').go i H ∧ ∃ Nx : Hp → Prop, (∀ H', Nx H' → ∃ m', m' < m ∧ W (i + 1) m' H') ∧ ∀ x H', (Its z').yld i H x H' → g x (wipe σ vs) H' fun σ2 H2 => wipe σ2 vs = wipe σ vs ∧ tt σ2 H2 fun b H3 =>
        if b = true then te σ2 H3 fun y H4 => ∃ acc, H4 D = some (.lst acc) ∧ acc.length < sizeLine ∧ Nx (upd H4 D (.lst (acc ++ [y]))) else Nx H3) := by
  refine ⟨z, rfl, c_core (Its z) z.length hz (fun i x => ∃ c, z.cps.toList[i]? = some c ∧ x = .str ⟨#[c]⟩) Pv h0 (fun D i acc H1 hD hi p => hi) (fun D i acc x H1 H' hD p y => ?_) (fun D acc H1 hD p => Nat.le_refl _) (fun D i x acc H1 hD hi y ha hac p => ?_) hd⟩
  · obtain ⟨e, c, y, ex⟩ := y
    exact ⟨e, c, by rw [Array.getElem?_toList]; exact y, ex⟩
  · obtain ⟨c, e, ex⟩ := y
    subst ex
    exact hs D i c acc H1 hD e ha (Nat.lt_trans hi hz) hac p
theorem c_range {n : Nat} (hz : n < sizeLine) (Pv : Addr → Nat → List V → Hp → Prop) (h0 : ∀ D H1, H D = none → Same H H1 → H1 D = some (.lst []) → Pv D 0 [] H1)
    (hs : ∀ D i acc H1, H D = none → i < n → acc.length ≤ i → i < sizeLine → H1 D = some (.lst acc) → Pv D i acc H1 → g (.int (i : Nat)) (wipe σ vs) H1 fun σ2 H2 => wipe σ2 vs = wipe σ vs ∧ tt σ2 H2 fun b H3 =>
      if b = true then te σ2 H3 fun y H4 => CK D (CN Pv D (i + 1)) y H4 else CN Pv D (i + 1) H3)
    (hd : ∀ D acc H1, H D = none → acc.length ≤ n → H1 D = some (.lst acc) → Pv D n acc H1 → Qd D H1) {k : Int} (e : k = (n : Nat)) :
    ∃ j : Int, [V.int k] = [.int j] ∧ -(2 ^ 62) ≤ j ∧ j < 2 ^ 62 ∧ ∀ D, H D = none → ∃ W : Nat → Nat → Hp → Prop, (∃ m, W 0 m (upd H D (.lst []))) ∧ ∀ i m H, W i m H →
      ((Itr 0 j.toNat).stop i H ∧ Qd D H) ∨ ((Itr 0 j.toNat).go i H ∧ ∃ Nx : Hp → Prop, (∀ H', Nx H' → ∃ m', m' < m ∧ W (i + 1) m' H') ∧ ∀ x H', (Itr 0 j.toNat).yld i H x H' → g x (wipe σ vs) H' fun σ2 H2 => wipe σ2 vs = wipe σ vs ∧ tt σ2 H2 fun b H3 =>
        if b = true then te σ2 H3 fun y H4 => ∃ acc, H4 D = some (.lst acc) ∧ acc.length < sizeLine ∧ Nx (upd H4 D (.lst (acc ++ [y]))) else Nx H3) := by
  subst e
  have hb : n < 2 ^ 62 := Nat.lt_trans hz (by decide)
  refine ⟨(n : Int), rfl, by omega, by omega, ?_⟩
  rw [Int.toNat_natCast]
  refine c_core (Itr 0 n) n hz (fun i x => x = .int (i : Nat)) Pv h0 (fun D i acc H1 hD hi p => hi) (fun D i acc x H1 H' hD p y => ?_) (fun D acc H1 hD p => Nat.le_refl _) (fun D i x acc H1 hD hi y ha hac p => ?_) hd
  · obtain ⟨e, y⟩ := y
    rw [Int.zero_add] at y
    exact ⟨e, y⟩
  · subst y
    exact hs D i acc H1 hD hi ha (Nat.lt_trans hi hz) hac p
end
theorem i_iList {K : PySem.W.Frag} {tl : TE} {σ : L2.St} {H : Hp} {R : It → Hp → Prop} (h : tl σ H fun x H1 => ∃ a, x = .ref a ∧ (∃ xs, SqL K H1 a xs) ∧ R (Itl K a) H1) : iList K tl σ H R := h
theorem i_iTup {K : PySem.W.Frag} {tl : TE} {σ : L2.St} {H : Hp} {R : It → Hp → Prop} (h : tl σ H fun x H1 => ∃ a, x = .ref a ∧ (∃ xs, SqT K H1 a xs) ∧ R (Itt K a) H1) : iTup K tl σ H R := h
theorem i_iStr {te : TE} {σ : L2.St} {H : Hp} {R : It → Hp → Prop} (h : te σ H fun v H1 => ∃ x, v = .str x ∧ R (Its x) H1) : iStr te σ H R := h
theorem i_iRng1 {ta : TA} {σ : L2.St} {H : Hp} {R : It → Hp → Prop} (h : ta σ H fun vs H1 => ∃ j : Int, vs = [.int j] ∧ -(2 ^ 62) ≤ j ∧ j < 2 ^ 62 ∧ R (Itr 0 j.toNat) H1) : iRng1 ta σ H R := h
theorem i_lc {wi : TI} {g : TG} {tt : L2.TT} {te : TE} {vs : List Nat} {σ : L2.St} {H : Hp} {Q : VK} (h : wi σ H fun J H1 => ∀ D, H1 D = none → ∃ W : Nat → Nat → Hp → Prop, (∃ m, W 0 m (upd H1 D (.lst []))) ∧ ∀ i m H, W i m H →
  (J.stop i H ∧ Q (.ref D) H) ∨ (J.go i H ∧ ∃ Nx : Hp → Prop, (∀ H', Nx H' → ∃ m', m' < m ∧ W (i + 1) m' H') ∧ ∀ x H', J.yld i H x H' → g x (wipe σ vs) H' fun σ2 H2 => wipe σ2 vs = wipe σ vs ∧ tt σ2 H2 fun b H3 =>
    if b = true then te σ2 H3 fun y H4 => ∃ acc, H4 D = some (.lst acc) ∧ acc.length < sizeLine ∧ Nx (upd H4 D (.lst (acc ++ [y]))) else Nx H3)) : tLc wi g tt te vs σ H Q := h
theorem i_for {wi : TI} {g : TG} {tb : TS} {D : Ends} {σ : L2.St} {H : Hp} (h : wi σ H fun J H1 => ∃ W : Nat → Nat → L2.St → Hp → Prop, (∃ m, W 0 m σ H1) ∧ ∀ i m σ H, W i m σ H →
  (J.stop i H ∧ D.nx σ H) ∨ (J.go i H ∧ ∃ N : L2.St → Hp → Prop, (∀ σ' H', N σ' H' → ∃ m', m' < m ∧ W (i + 1) m' σ' H') ∧ ∀ x H', J.yld i H x H' → g x σ H' fun σ2 H2 => tb { D with nx := N, ct := N, bk := D.nx } σ2 H2)) : tFor wi g tb D σ H := h
theorem i_yes {σ : L2.St} {H : Hp} {Q : Bool → Hp → Prop} (h : Q true H) : tYes σ H Q := h
end Aw
namespace Aw
open PySem PySem.Spec PyProof.Rows L2
theorem take_snoc {α : Type} {l : List α} {i : Nat} {c : α} (h : l[i]? = some c) : l.take (i + 1) = l.take i ++ [c] := by
  rw [List.take_add_one, h]; rfl
theorem cmpc1 {c d : Nat} {s : Str} (h : s.cps.toList = [d]) : decide ((⟨#[c]⟩ : Str).cps.toList < s.cps.toList) = decide (c < d) := by
  rw [h]
  show decide ([c] < [d]) = decide (c < d)
  by_cases e : c < d
  · rw [decide_eq_true e]; exact decide_eq_true (List.Lex.rel e)
  · rw [decide_eq_false e, decide_eq_false]
    intro z
    cases z with
    | rel r => exact e r
    | cons r => cases r
theorem cmpc2 {c d : Nat} {s : Str} (h : s.cps.toList = [d]) : decide (s.cps.toList < (⟨#[c]⟩ : Str).cps.toList) = decide (d < c) := by
  rw [h]
  show decide ([d] < [c]) = decide (d < c)
  by_cases e : d < c
  · rw [decide_eq_true e]; exact decide_eq_true (List.Lex.rel e)
  · rw [decide_eq_false e, decide_eq_false]
    intro z
    cases z with
    | rel r => exact e r
    | cons r => cases r
theorem szl {n : Nat} (h : n ≤ 100000) : n ≤ sizeLine := Nat.le_trans h (by decide)
theorem szlt {n : Nat} (h : n ≤ 100000) : n < sizeLine := Nat.lt_of_le_of_lt h (by decide)
theorem iteNT {A B : Prop} (h : B) : if (!true) = true then A else B := h
theorem iteNF {A B : Prop} (h : A) : if (!false) = true then A else B := h
theorem i_ip {f : Int → Int → Int} {i j : Int} {H : Hp} {Q : VK} (q : Q (.int (f i j)) H) : ipI f (.int i) (.int j) H Q := ⟨i, j, rfl, rfl, q⟩
theorem decI {a b : Int} : decide (V.int a = V.int b) = decide (a = b) := by simp
theorem decS {a b : Str} : decide (V.str a = V.str b) = decide (a = b) := by simp
/-- the built-ins that the module has no name of its own for -/
structure NoB (mg : Str → Option Value) : Prop where
  m_isinstance : mg "isinstance" = none
  m_str : mg "str" = none
  m_int : mg "int" = none
  m_tuple : mg "tuple" = none
  m_list : mg "list" = none
  m_bool : mg "bool" = none
  m_len : mg "len" = none
  m_all : mg "all" = none
  m_any : mg "any" = none
  m_sum : mg "sum" = none
  m_min : mg "min" = none
  m_max : mg "max" = none
  m_abs : mg "abs" = none
  m_range : mg "range" = none
  m_enumerate : mg "enumerate" = none
  m_sorted : mg "sorted" = none
/-- a def of the text -/
structure Df (K : PySem.W.Frag) (mg : Str → Option Value) (x qual : Str) (st : Stmt) (ps : List Str) : Prop where
  ex : ∃ (f : Addr) (fd : FuncData), Fun K x qual st f fd ∧ mg x = some (.ref f) ∧ Binds K fd ps []
section
variable {P : Program} {w : World} {K : PySem.W.Frag} {mg : Str → Option Value} {base : Heap} {CX : CXT} {x qual : Str} {st : Stmt} {ps : List Str} {k : Nat} {sp : Sp}
theorem Df.cal (D : Df K mg x qual st ps) (h : ∀ f fd, Fun K x qual st f fd → FnOk P w K mg base CX k f fd ps sp) : Cal P w K mg base CX x ps k sp := by
  obtain ⟨f, fd, F, hm, hb⟩ := D.ex
  exact ⟨f, fd, h f fd F, hm, F.kp, hb⟩
theorem fn_never {f : Addr} {fd : FuncData} (h : ∀ vs H Q E, ¬ sp vs H Q E) : FnOk P w K mg base CX k f fd ps sp := ⟨fun vs H Q E q => absurd q (h vs H Q E), fun A outer s H args us vs Q E _ _ _ _ q => absurd q (h vs H Q E)⟩
/-- a def that calls itself: each further depth by the one before -/
theorem Df.turns (D : Df K mg x qual st ps) (lv : Nat → Nat) (sp : Nat → Sp) (h0 : ∀ vs H Q E, ¬ sp 0 vs H Q E) (h : ∀ n f fd, Fun K x qual st f fd → Cal P w K mg base CX x ps (lv n) (sp n) → FnOk P w K mg base CX (lv (n + 1)) f fd ps (sp (n + 1))) :
    ∀ n, Cal P w K mg base CX x ps (lv n) (sp n)
  | 0 => D.cal fun f fd _ => fn_never h0
  | n + 1 => D.cal fun f fd F => h n f fd F (Df.turns D lv sp h0 h n)
end
section
variable {P : Program} {w : World} {K : PySem.W.Frag} {mg : Str → Option Value} {base : Heap}
theorem fun_okT {x qual : Str} {st : Stmt} {f : Addr} {fd : FuncData} {N ps : List Str} {k : Nat} {sp : Sp} (F : Fun K x qual st f fd) (S : FnScope N ps (defScope st)) (hnc : ∀ y ∈ (defScope st).names, y.2 ≠ .cell) (hps : 1 ≤ ps.length) (len : ∀ vs H Q E, sp vs H Q E → vs.length = ps.length)
    (hbody : ∀ (cdv : Value) (A : Around) (outer : List Env) (s : Shared) (H : Hp) (vs : List V) (Q : VK) (E : XK), Room k (A.deeper (envOfC qual (defScope st) s.heap.objs.size f cdv)) → sp vs H Q E →
      ∃ t, PSsT (cxOf CX0 P w K mg base N qual (defScope st) f cdv A outer s H E) (defBody st) t ∧ t { nx := fun _ H' => Q .non H', rt := Q } (L2.start N vs) H) : FnOk P w K mg base CX0 (k + 1) f fd ps sp := by
  obtain ⟨oc, od, kV, doc, pm, an, cdv, ct, osl, rfl, lk, hcd⟩ := F.ex
  exact fn_ofT lk hcd S hnc hps len fun A outer s H vs Q E hr hsp => hbody cdv A outer s H vs Q E hr hsp
end
theorem i_repl {to : TE} {y z : Str} {σ : L2.St} {H : Hp} {Q : VK} (h : to σ H fun v H1 => ∃ x, v = .str x ∧ x.length + (x.length + 1) * z.length ≤ 16777216 ∧ Q (.str (Txt.replace x y z)) H1) : CwR.tReplC to y z σ H Q := h
theorem i_strB {R : Str → Prop} {B : Str → Prop} {z : Str} (b : B z) (h : R z) : ∃ x, V.str z = .str x ∧ B x ∧ R x := ⟨z, rfl, b, h⟩
end Aw

namespace Aw
open PySem PySem.Builtin PySem.Builtin.Str PySem.StrLaws
/-- a text of codes -/
def S (l : List Nat) : Str := ⟨l.toArray⟩
theorem S_list (l : List Nat) : (S l).cps.toList = l := rfl
theorem S_len (l : List Nat) : (S l).length = l.length := rfl
theorem S_of (z : Str) : S z.cps.toList = z := by cases z; rfl
theorem S_ext {z y : Str} (h : z.cps.toList = y.cps.toList) : z = y := by rw [← S_of z, ← S_of y, h]
theorem S_inj {l m : List Nat} (h : S l = S m) : l = m := by rw [← S_list l, h, S_list]
theorem S_app (l m : List Nat) : S l ++ S m = S (l ++ m) := S_ext (by show (Array.append _ _).toList = _; simp [S])
theorem app_list (a b : Str) : (a ++ b).cps.toList = a.cps.toList ++ b.cps.toList := by show (Array.append _ _).toList = _; simp
theorem app_len (a b : Str) : (a ++ b).length = a.length + b.length := by
  have h := congrArg List.length (app_list a b)
  rw [List.length_append] at h
  simpa [Str.length] using h
theorem len_list (a : Str) : a.cps.toList.length = a.length := by simp [Str.length]
theorem S_one (c : Nat) : (⟨#[c]⟩ : Str) = S [c] := rfl
/-- written between -/
def inter (z : List Nat) : List (List Nat) → List Nat
  | [] => []
  | [p] => p
  | p :: q :: r => p ++ z ++ inter z (q :: r)
theorem inter_nil : ∀ ps : List (List Nat), inter [] ps = ps.flatten
  | [] => rfl
  | [p] => by simp [inter]
  | p :: q :: r => by rw [inter, inter_nil (q :: r)]; simp
theorem glueT_inter (z : List Nat) : ∀ ps : List Str, glueT z ps = inter z (ps.map (·.cps.toList))
  | [] => rfl
  | [p] => by simp [glueT, glueL, inter]
  | p :: q :: r => by
    have h := glueT_inter z (q :: r)
    show p.cps.toList ++ (z ++ (q.cps.toList ++ glueL z r)) = _
    have h2 : q.cps.toList ++ glueL z r = inter z ((q :: r).map (·.cps.toList)) := h
    rw [h2]
    simp [inter]
theorem join_list (z : Str) (ps : List Str) : (Txt.join z ps).cps.toList = inter z.cps.toList (ps.map (·.cps.toList)) := by
  cases ps with
  | nil => rfl
  | cons p r => exact (glued_list z p r).trans (glueT_inter _ _)
theorem join_S (z : List Nat) (ps : List (List Nat)) : Txt.join (S z) (ps.map S) = S (inter z ps) := S_ext (by
  rw [join_list, List.map_map]
  show inter z (List.map (fun l => l) ps) = _
  rw [List.map_id']; rfl)
theorem inter_length (z : List Nat) : ∀ ps : List (List Nat), (inter z ps).length ≤ (ps.map List.length).sum + ps.length * z.length
  | [] => by simp [inter]
  | [p] => by simp [inter]
  | p :: q :: r => by
    have := inter_length z (q :: r)
    simp only [inter, List.length_append, List.map_cons, List.sum_cons, List.length_cons] at this ⊢
    rw [Nat.succ_mul]
    omega
/-! ### split -/
theorem inter_inj {c : Nat} : ∀ {ps qs : List (List Nat)}, (∀ p ∈ ps, c ∉ p) → (∀ q ∈ qs, c ∉ q) → ps ≠ [] → qs ≠ [] → inter [c] ps = inter [c] qs → ps = qs
  | [], _, _, _, h, _, _ => absurd rfl h
  | _, [], _, _, _, h, _ => absurd rfl h
  | [p], [q], _, _, _, _, e => by rw [show p = q from e]
  | [p], q :: q2 :: r, hp, _, _, _, e => by
    exfalso
    refine hp p (List.mem_singleton.mpr rfl) ?_
    rw [show p = q ++ [c] ++ inter [c] (q2 :: r) from e]
    simp
  | p :: p2 :: r, [q], _, hq, _, _, e => by
    exfalso
    refine hq q (List.mem_singleton.mpr rfl) ?_
    rw [← show p ++ [c] ++ inter [c] (p2 :: r) = q from e]
    simp
  | p :: p2 :: r, q :: q2 :: t, hp, hq, _, _, e => by
    have e : p ++ [c] ++ inter [c] (p2 :: r) = q ++ [c] ++ inter [c] (q2 :: t) := e
    rw [List.append_assoc, List.append_assoc] at e
    have hp1 := hp p (List.mem_cons_self ..)
    have hq1 := hq q (List.mem_cons_self ..)
    have key : ∀ {a b x y : List Nat}, c ∉ a → c ∉ b → a ++ ([c] ++ x) = b ++ ([c] ++ y) → a = b ∧ x = y := by
      intro a
      induction a with
      | nil =>
        intro b x y _ hb h
        cases b with
        | nil => simpa using h
        | cons d b => simp at h; exact absurd (by simp [h.1]) hb
      | cons d a ih =>
        intro b x y ha hb h
        cases b with
        | nil => simp at h; exact absurd (by simp [h.1]) ha
        | cons f b =>
          simp only [List.cons_append, List.cons.injEq] at h
          obtain ⟨h1, h2⟩ := ih (fun z => ha (List.mem_cons_of_mem _ z)) (fun z => hb (List.mem_cons_of_mem _ z)) h.2
          exact ⟨by rw [h.1, h1], h2⟩
    obtain ⟨e1, e2⟩ := key hp1 hq1 e
    rw [e1, inter_inj (fun z hz => hp z (List.mem_cons_of_mem _ hz)) (fun z hz => hq z (List.mem_cons_of_mem _ hz)) (by simp) (by simp) e2]
theorem join_eq (sep : Str) (l : List Str) : Txt.join sep l = Str.join sep l := by
  have h := PyProof.Rows.join_plain_closes sep l
  simpa using h
theorem split_S {c : Nat} {ps : List (List Nat)} (h : ∀ p ∈ ps, c ∉ p) (h0 : ps ≠ []) : Txt.split (S (inter [c] ps)) ⟨#[c]⟩ = ps.map S := by
  have h1 := join_split (S (inter [c] ps)) ⟨#[c]⟩
  rw [← join_eq] at h1
  have h2 := congrArg (fun z : Str => z.cps.toList) h1
  rw [join_list] at h2
  have h3 := split_free (S (inter [c] ps)) c
  have hp := PyProof.Rows.split_pos (S (inter [c] ps)) ⟨#[c]⟩
  have e : (Txt.split (S (inter [c] ps)) ⟨#[c]⟩).map (·.cps.toList) = ps := by
    refine inter_inj (c := c) (fun p hp => ?_) h (fun z => ?_) h0 h2
    · obtain ⟨z, hz, rfl⟩ := List.mem_map.mp hp
      exact h3 z hz
    · rw [List.map_eq_nil_iff] at z
      rw [z] at hp
      simp at hp
  generalize Txt.split (S (inter [c] ps)) ⟨#[c]⟩ = L at e
  rw [← e, List.map_map]
  have k : ∀ z : Str, (S ∘ fun x : Str => x.cps.toList) z = z := fun z => S_of z
  rw [show (S ∘ fun x : Str => x.cps.toList) = _root_.id from funext k, List.map_id]
/-! ### partition -/
theorem partition_S {c : Nat} {a b : List Nat} (h : c ∉ a) : Txt.partition (S (a ++ c :: b)) ⟨#[c]⟩ = (S a, S [c], S b) := by
  have key : ∀ i, StrLaws.At (S (a ++ c :: b)) ⟨#[c]⟩ (S (a ++ c :: b)).length i ↔ (a ++ c :: b)[i]? = some c := fun i => StrLaws.subAt_one (S (a ++ c :: b)) c i
  rcases PyProof.Rows.partition_whole (S (a ++ c :: b)) ⟨#[c]⟩ with ⟨_, h2⟩ | ⟨i, e, hi, hk⟩
  · exact absurd ((key a.length).mpr (by simp)) (h2 a.length)
  · rw [key] at hi
    have h1 : i = a.length := by
      rcases Nat.lt_trichotomy i a.length with q | q | q
      · rw [List.getElem?_append_left q] at hi
        exact absurd (List.mem_of_getElem? hi) h
      · exact q
      · exact absurd ((key a.length).mpr (by simp)) (hk _ q)
    subst h1
    rw [e]
    refine Prod.ext (S_ext ?_) (Prod.ext rfl (S_ext ?_))
    · show (strSub _ _ _).cps.toList = a
      simp [strSub, S]
    · show (strSub _ _ _).cps.toList = b
      simp [strSub, S, Str.length]
      exact List.take_of_length_le (by omega)
theorem partition_none {c : Nat} {a : List Nat} (h : c ∉ a) : Txt.partition (S a) ⟨#[c]⟩ = (S a, S [], S []) := by
  rcases PyProof.Rows.partition_whole (S a) ⟨#[c]⟩ with ⟨h1, h2⟩ | ⟨i, e, hi, hk⟩
  · rw [h1]; rfl
  · have hi : a[i]? = some c := (StrLaws.subAt_one (S a) c i).mp hi
    exact absurd (List.mem_of_getElem? hi) h
/-! ### signs escaped -/
def esc (l : List Nat) : List Nat := l.flatMap fun c => if c = 92 ∨ c = 34 then [92, c] else [c]
theorem repl_one (y : Nat) (z : List Nat) : ∀ l : List Nat, replL [y] z l = l.flatMap fun d => if d = y then z else [d]
  | [] => by rw [replL_nil]; rfl
  | d :: r => by
    by_cases h : d = y
    · rw [replL_hit (by simp) (by simp [h]), List.flatMap_cons, if_pos h]
      show z ++ replL [y] z r = _
      rw [repl_one y z r]
    · rw [replL_miss (by simp [h]), List.flatMap_cons, if_neg h, repl_one y z r]; rfl
theorem esc_two (z : Str) : Txt.replace (Txt.replace z "\\" "\\\\") "\"" "\\\"" = S (esc z.cps.toList) := S_ext (by
  rw [replace_list (by decide), replace_list (by decide)]
  show replL [34] [92, 34] (replL [92] [92, 92] z.cps.toList) = esc z.cps.toList
  rw [repl_one, repl_one, List.flatMap_assoc]
  unfold esc
  congr 1
  funext c
  by_cases h1 : c = 92
  · subst h1; rfl
  · rw [if_neg h1]
    by_cases h2 : c = 34
    · subst h2; rfl
    · simp [h1, h2])
theorem esc_app (a b : List Nat) : esc (a ++ b) = esc a ++ esc b := by unfold esc; rw [List.flatMap_append]
theorem esc_cons (c : Nat) (b : List Nat) : esc (c :: b) = (if c = 92 ∨ c = 34 then [92, c] else [c]) ++ esc b := by unfold esc; rw [List.flatMap_cons]
theorem esc_nil : esc [] = [] := rfl
/-- text[at:at+1] -/
theorem cut_one {T : Str} {p c : Nat} {r : List Nat} (h : T.cps.toList.drop p = c :: r) : L2.cutS T (some (p : Int)) (some ((p : Int) + 1)) = ⟨#[c]⟩ := by
  have hp : p < T.length := by
    rw [← len_list]
    exact Nat.lt_of_not_le fun q => by rw [List.drop_eq_nil_of_le q] at h; cases h
  apply S_ext
  unfold L2.cutS
  rw [show ((p : Int) + 1) = ((p + 1 : Nat) : Int) by omega, HT.sIx_nat, HT.sIx_nat, Nat.min_eq_left (Nat.le_of_lt hp), Nat.min_eq_left (by omega), h, show p + 1 - p = 1 by omega]
  rfl
theorem cut_none {T : Str} {p : Nat} (h : T.cps.toList.drop p = []) : L2.cutS T (some (p : Int)) (some ((p : Int) + 1)) = S [] := by
  apply S_ext
  unfold L2.cutS
  rw [show ((p : Int) + 1) = ((p + 1 : Nat) : Int) by omega, HT.sIx_nat, HT.sIx_nat]
  have hp : T.length ≤ p := by rw [← len_list]; exact List.drop_eq_nil_iff.mp h
  rw [Nat.min_eq_right hp, Nat.min_eq_right (by omega), Nat.sub_self, List.take_zero]
  rfl
theorem drop_next {T : List Nat} {p c : Nat} {r : List Nat} (h : T.drop p = c :: r) : T.drop (p + 1) = r := by
  rw [← List.drop_drop, h]; rfl
theorem drop_lt {T : Str} {p c : Nat} {r : List Nat} (h : T.cps.toList.drop p = c :: r) : p < T.length := by
  rw [← len_list]
  exact Nat.lt_of_not_le fun q => by rw [List.drop_eq_nil_of_le q] at h; cases h
theorem drop_at {T : List Nat} {p c : Nat} {r : List Nat} (h : T.drop p = c :: r) : T[p]? = some c := by
  have e := List.getElem?_drop (xs := T) (i := p) (j := 0)
  rw [h] at e
  simpa using e.symm
theorem drop_app {T : List Nat} {p : Nat} {a r : List Nat} (h : T.drop p = a ++ r) : T.drop (p + a.length) = r := by
  rw [← List.drop_drop, h, List.drop_left]
end Aw

namespace Aw
open PySem
/-! ### trees: what is good, how large, how deep; the program's own look; how they are written -/
def plainC (c : Nat) : Bool := (decide (32 ≤ c) && decide (c ≤ 36)) || (decide (38 ≤ c) && decide (c ≤ 126))
mutual
def good : PyData → Bool
  | .str z => decide (z.length ≤ 300) && z.cps.toList.all plainC
  | .tuple ds => decide (ds.length ≤ 40) && goods ds
  | .none | .bool _ | .int _ | .list _ | .dict _ => false
def goods : List PyData → Bool
  | [] => true
  | d :: ds => good d && goods ds
end
mutual
def tsize : PyData → Nat
  | .str z => z.length + 1
  | .tuple ds => tsizes ds + 1
  | .none | .bool _ | .int _ | .list _ | .dict _ => 0
def tsizes : List PyData → Nat
  | [] => 0
  | d :: ds => tsize d + tsizes ds
end
mutual
def tdeep : PyData → Nat
  | .tuple ds => tdeeps ds + 1
  | .str _ | .none | .bool _ | .int _ | .list _ | .dict _ => 1
def tdeeps : List PyData → Nat
  | [] => 0
  | d :: ds => max (tdeep d) (tdeeps ds)
end
mutual
def roomL : PyData → Nat → Nat → Option Nat
  | .tuple ds, n + 1, r => if ds.length > 40 ∨ r < 1 then none else roomLs ds n (r - 1)
  | .str z, _ + 1, r => if z.length > 300 ∨ r ≤ z.length ∨ z.cps.toList.all plainC = false then none else some (r - z.length - 1)
  | .tuple _, 0, _ | .str _, 0, _ => none
  | .none, _, _ | .bool _, _, _ | .int _, _, _ | .list _, _, _ | .dict _, _, _ => none
def roomLs : List PyData → Nat → Nat → Option Nat
  | [], _, r => some r
  | d :: ds, n, r => match roomL d n r with
    | none => none
    | some r' => roomLs ds n r'
end
def treeOk (d : PyData) : Bool := (roomL d 12 600).isSome
mutual
theorem roomL_good : ∀ (d : PyData) (n r : Nat), good d = true → tdeep d ≤ n → tsize d ≤ r → roomL d n r = some (r - tsize d)
  | .str z, 0, r, _, h, _ => by simp [tdeep] at h
  | .str z, n + 1, r, g, _, h => by
    simp only [good, tsize, Bool.and_eq_true, decide_eq_true_eq] at g h
    simp only [roomL, tsize]
    rw [if_neg (by rw [g.2]; simp; omega)]
    rw [show r - z.length - 1 = r - (z.length + 1) by omega]
  | .tuple ds, 0, r, _, h, _ => by simp [tdeep] at h
  | .tuple ds, n + 1, r, g, h1, h2 => by
    simp only [good, tsize, tdeep, Bool.and_eq_true, decide_eq_true_eq] at g h1 h2
    simp only [roomL, tsize]
    rw [if_neg (by omega), roomLs_good ds n (r - 1) g.2 (by omega) (by omega)]
    rw [show r - 1 - tsizes ds = r - (tsizes ds + 1) by omega]
  | .none, _, _, g, _, _ => by simp [good] at g
  | .bool _, _, _, g, _, _ => by simp [good] at g
  | .int _, _, _, g, _, _ => by simp [good] at g
  | .list _, _, _, g, _, _ => by simp [good] at g
  | .dict _, _, _, g, _, _ => by simp [good] at g
theorem roomLs_good : ∀ (ds : List PyData) (n r : Nat), goods ds = true → tdeeps ds ≤ n → tsizes ds ≤ r → roomLs ds n r = some (r - tsizes ds)
  | [], n, r, _, _, _ => by simp [roomLs, tsizes]
  | d :: ds, n, r, g, h1, h2 => by
    simp only [goods, tsizes, tdeeps, Bool.and_eq_true] at g h1 h2
    rw [roomLs, roomL_good d n r g.1 (by omega) (by omega)]
    show roomLs ds n (r - tsize d) = _
    rw [roomLs_good ds n (r - tsize d) g.2 (by omega) (by omega)]
    simp only [tsizes]
    rw [show r - tsize d - tsizes ds = r - (tsize d + tsizes ds) by omega]
end
structure GoodT (d : PyData) (n m : Nat) : Prop where
  g : good d = true
  dp : tdeep d ≤ n
  sz : tsize d ≤ m
theorem GoodT.ok {d : PyData} {n m : Nat} (h : GoodT d n m) (hn : n ≤ 12) (hm : m ≤ 600) : treeOk d = true := by
  unfold treeOk
  rw [roomL_good d 12 600 h.g (Nat.le_trans h.dp hn) (Nat.le_trans h.sz hm)]; rfl
theorem GoodT.mono {d : PyData} {n m n' m' : Nat} (h : GoodT d n m) (hn : n ≤ n') (hm : m ≤ m') : GoodT d n' m' := ⟨h.g, Nat.le_trans h.dp hn, Nat.le_trans h.sz hm⟩
mutual
theorem roomL_back : ∀ (d : PyData) (n r r' : Nat), roomL d n r = some r' → good d = true ∧ tdeep d ≤ n ∧ tsize d + r' = r
  | .str z, 0, r, r', h => by simp [roomL] at h
  | .str z, n + 1, r, r', h => by
    simp only [roomL] at h
    split at h
    · cases h
    · rename_i k
      have e : r - z.length - 1 = r' := Option.some.inj h
      have k1 : z.length ≤ 300 := by omega
      have k2 : ¬ r ≤ z.length := fun q => k (.inr (.inl q))
      have k3 : z.cps.toList.all plainC = true := by
        cases q : z.cps.toList.all plainC with
        | true => rfl
        | false => exact absurd (.inr (.inr q)) k
      refine ⟨?_, ?_, ?_⟩
      · simp only [good, k3, Bool.and_true, decide_eq_true_eq]; exact k1
      · simp [tdeep]
      · simp only [tsize]; omega
  | .tuple ds, 0, r, r', h => by simp [roomL] at h
  | .tuple ds, n + 1, r, r', h => by
    simp only [roomL] at h
    split at h
    · cases h
    · rename_i k
      obtain ⟨a, b, c⟩ := roomLs_back ds n (r - 1) r' h
      simp only [good, tsize, tdeep, a]
      simp
      omega
  | .none, _, _, _, h => by simp [roomL] at h
  | .bool _, _, _, _, h => by simp [roomL] at h
  | .int _, _, _, _, h => by simp [roomL] at h
  | .list _, _, _, _, h => by simp [roomL] at h
  | .dict _, _, _, _, h => by simp [roomL] at h
theorem roomLs_back : ∀ (ds : List PyData) (n r r' : Nat), roomLs ds n r = some r' → goods ds = true ∧ tdeeps ds ≤ n ∧ tsizes ds + r' = r
  | [], n, r, r', h => by simp [roomLs] at h; simp [goods, tdeeps, tsizes, h]
  | d :: ds, n, r, r', h => by
    rw [roomLs] at h
    cases e : roomL d n r with
    | none => rw [e] at h; cases h
    | some r1 =>
      rw [e] at h
      have h : roomLs ds n r1 = some r' := h
      obtain ⟨a, b, c⟩ := roomL_back d n r r1 e
      obtain ⟨a', b', c'⟩ := roomLs_back ds n r1 r' h
      simp only [goods, tdeeps, tsizes, a, a']
      simp
      omega
end
theorem treeOk_good {d : PyData} (h : treeOk d = true) : GoodT d 12 600 := by
  unfold treeOk at h
  cases e : roomL d 12 600 with
  | none => rw [e] at h; cases h
  | some r =>
    obtain ⟨a, b, c⟩ := roomL_back d 12 600 r e
    exact ⟨a, b, by omega⟩
/-! how they are written -/
mutual
def wr : PyData → List Nat
  | .str z => 34 :: (esc z.cps.toList ++ [34])
  | .tuple ds => 40 :: (wrs ds ++ [41])
  | .none | .bool _ | .int _ | .list _ | .dict _ => []
def wrs : List PyData → List Nat
  | [] => []
  | [d] => wr d
  | d :: e :: ds => wr d ++ 32 :: wrs (e :: ds)
end
theorem wrs_inter : ∀ ds : List PyData, wrs ds = inter [32] (ds.map wr)
  | [] => by simp [wrs, inter]
  | [d] => by simp [wrs, inter]
  | d :: e :: ds => by
    rw [wrs, wrs_inter (e :: ds)]
    simp [inter]
theorem esc_len : ∀ l : List Nat, (esc l).length ≤ 2 * l.length
  | [] => by simp [esc]
  | c :: r => by
    have ih := esc_len r
    unfold esc at ih ⊢
    rw [List.flatMap_cons, List.length_append, List.length_cons]
    have : (if c = 92 ∨ c = 34 then [92, c] else [c]).length ≤ 2 := by split <;> simp
    omega
mutual
theorem wr_len : ∀ d : PyData, good d = true → (wr d).length + 1 ≤ 4 * tsize d
  | .str z, _ => by
    have := esc_len z.cps.toList
    rw [len_list] at this
    simp only [wr, tsize, List.length_cons, List.length_append, List.length_nil]
    omega
  | .tuple ds, g => by
    simp only [good, Bool.and_eq_true] at g
    have := wrs_len ds g.2
    simp only [wr, tsize, List.length_cons, List.length_append, List.length_nil]
    omega
  | .none, g => by simp [good] at g
  | .bool _, g => by simp [good] at g
  | .int _, g => by simp [good] at g
  | .list _, g => by simp [good] at g
  | .dict _, g => by simp [good] at g
theorem wrs_len : ∀ ds : List PyData, goods ds = true → (wrs ds).length ≤ 4 * tsizes ds
  | [], _ => by simp [wrs]
  | [d], g => by
    simp only [goods, Bool.and_eq_true] at g
    have := wr_len d g.1
    simp only [wrs, tsizes]
    omega
  | d :: e :: ds, g => by
    simp only [goods, Bool.and_eq_true] at g
    have h1 := wr_len d g.1
    have h2 := wrs_len (e :: ds) (by simp only [goods, Bool.and_eq_true]; exact g.2)
    rw [wrs]
    simp only [List.length_append, List.length_cons, tsizes] at h2 ⊢
    omega
end
theorem goods_mem : ∀ {ds : List PyData} {d : PyData}, goods ds = true → d ∈ ds → good d = true
  | e :: ds, d, g, h => by
    simp only [goods, Bool.and_eq_true] at g
    rcases List.mem_cons.mp h with rfl | h
    · exact g.1
    · exact goods_mem g.2 h
theorem tdeeps_mem : ∀ {ds : List PyData} {d : PyData}, d ∈ ds → tdeep d ≤ tdeeps ds
  | e :: ds, d, h => by
    simp only [tdeeps]
    rcases List.mem_cons.mp h with rfl | h
    · omega
    · have := tdeeps_mem h; omega
theorem tsizes_mem : ∀ {ds : List PyData} {d : PyData}, d ∈ ds → tsize d ≤ tsizes ds
  | e :: ds, d, h => by
    simp only [tsizes]
    rcases List.mem_cons.mp h with rfl | h
    · omega
    · have := tsizes_mem h; omega
theorem goods_of : ∀ {ds : List PyData}, (∀ d ∈ ds, good d = true) → goods ds = true
  | [], _ => rfl
  | d :: ds, h => by
    simp only [goods, Bool.and_eq_true]
    exact ⟨h d (List.mem_cons_self ..), goods_of fun e he => h e (List.mem_cons_of_mem _ he)⟩
theorem tdeeps_of {n : Nat} : ∀ {ds : List PyData}, (∀ d ∈ ds, tdeep d ≤ n) → tdeeps ds ≤ n
  | [], _ => by simp [tdeeps]
  | d :: ds, h => by
    simp only [tdeeps]
    have h1 := h d (List.mem_cons_self ..)
    have h2 := tdeeps_of fun e he => h e (List.mem_cons_of_mem _ he)
    omega
theorem tsizes_of {m : Nat} : ∀ {ds : List PyData}, (∀ d ∈ ds, tsize d ≤ m) → tsizes ds ≤ ds.length * m
  | [], _ => by simp [tsizes]
  | d :: ds, h => by
    simp only [tsizes, List.length_cons]
    have h1 := h d (List.mem_cons_self ..)
    have h2 := tsizes_of fun e he => h e (List.mem_cons_of_mem _ he)
    rw [Nat.succ_mul]
    omega
theorem GoodT.row {ds : List PyData} {n m k : Nat} (h : ∀ d ∈ ds, GoodT d n m) (hk : ds.length ≤ k) (h40 : k ≤ 40) : GoodT (.tuple ds) (n + 1) (k * m + 1) := by
  have h1 := goods_of fun d hd => (h d hd).g
  have h2 := tdeeps_of fun d hd => (h d hd).dp
  have h3 := tsizes_of fun d hd => (h d hd).sz
  refine ⟨?_, ?_, ?_⟩
  · simp only [good, h1, Bool.and_true, decide_eq_true_eq]; omega
  · simp only [tdeep]; omega
  · simp only [tsize]
    have := Nat.mul_le_mul_right m hk
    omega
theorem GoodT.text {z : Str} {m : Nat} (h : z.length + 1 ≤ m) (hm : m ≤ 301) (p : z.cps.toList.all plainC = true) : GoodT (.str z) 1 m := by
  refine ⟨?_, ?_, ?_⟩
  · simp only [good, p, Bool.and_true, decide_eq_true_eq]; omega
  · simp [tdeep]
  · simp only [tsize]; omega
end Aw

namespace Aw
open PySem PySem.Spec PyProof.Rows L2
/-! ### methods and makings, bundled -/
structure CalM (P : Program) (w : World) (K : PySem.W.Frag) (mg : Str → Option Value) (base : Heap) (CX : CXT) (C : Addr) (m : Str) (ps : List Str) (k : Nat) (sp : Sp) : Prop where
  ex : ∃ (f : Addr) (fd : FuncData), FnOk P w K mg base CX k f fd ps sp ∧ Meth K C m f ∧ Binds K fd ps []
structure CalI (P : Program) (w : World) (K : PySem.W.Frag) (mg : Str → Option Value) (base : Heap) (CX : CXT) (C : Addr) (x : Str) (ps : List Str) (k : Nat) (sp : Sp) : Prop where
  ex : ∃ (f : Addr) (fd : FuncData), FnOk P w K mg base CX k f fd ps sp ∧ Mk K C f ∧ Binds K fd ps []
  hm : mg x = some (.ref C)
/-- a method, a maker, of the text -/
structure DfM (K : PySem.W.Frag) (C : Addr) (m qual : Str) (st : Stmt) (ps : List Str) : Prop where
  ex : ∃ (f : Addr) (fd : FuncData), Fun K m qual st f fd ∧ Meth K C m f ∧ Binds K fd ps []
structure DfI (K : PySem.W.Frag) (mg : Str → Option Value) (C : Addr) (x qual : Str) (st : Stmt) (ps : List Str) : Prop where
  ex : ∃ (f : Addr) (fd : FuncData), Fun K "__init__" qual st f fd ∧ Mk K C f ∧ Binds K fd ps []
  hm : mg x = some (.ref C)
section
variable {P : Program} {w : World} {K : PySem.W.Frag} {mg : Str → Option Value} {base : Heap} {CX : CXT} {x qual : Str} {st : Stmt} {ps : List Str} {k : Nat} {sp : Sp} {C : Addr} {m : Str}
theorem DfM.cal (D : DfM K C m qual st ps) (h : ∀ f fd, Fun K m qual st f fd → FnOk P w K mg base CX k f fd ps sp) : CalM P w K mg base CX C m ps k sp := by
  obtain ⟨f, fd, F, hm, hb⟩ := D.ex
  exact ⟨f, fd, h f fd F, hm, hb⟩
theorem DfI.cal (D : DfI K mg C x qual st ps) (h : ∀ f fd, Fun K "__init__" qual st f fd → FnOk P w K mg base CX k f fd ps sp) : CalI P w K mg base CX C x ps k sp := by
  obtain ⟨f, fd, F, hm, hb⟩ := D.ex
  exact ⟨⟨f, fd, h f fd F, hm, hb⟩, D.hm⟩
end
section
variable {X : Cx} {k n : Nat} {x m : Str} {ps : List Str} {sp : Sp} {E : XK} {CX : CXT} {o e : Expr} {es : List Expr} {t : TA} {ta : TE} {p pos apos : Pos} {C : Addr}
theorem pe_mcal {pl : Sem Bool} (M : CalM X.prog X.w X.K X.mg X.base CX0 C m ps k sp) (c : Cls X.K C) (hr : Room n X.A) (he : PE X o ta) (ha : PA X (e :: es) t) (hk : k ≤ n := by decide)
    (hst : starEach (e :: es) X.env = (false, eval e X.env) :: starEach es X.env := by rfl) (hpl : (backTo pos (starEach es X.env)).any (·.1) = false := by rfl)
    (ht : eval (.Call (.Attribute o m apos) (e :: es) [] pos) X.env = (do
      let ov ← eval o X.env
      standAt apos.atName
      let (f, first) ← holding [ov] (getMethod ov m pl)
      callWith pos f first (backTo pos (starEach (e :: es) X.env)) (backToKw pos (keywordEach [] X.env))) := by rfl) :
    PE X (.Call (.Attribute o m apos) (e :: es) [] pos) (tMeth C m sp [] E0 ta t) := by
  obtain ⟨f, fd, F, hm, hb⟩ := M.ex
  exact pe_meth he c hm F (hr.mono hk) hb .nil pass0 ha hst hpl ht
theorem pe_mcal0 {pl : Sem Bool} (M : CalM X.prog X.w X.K X.mg X.base CX0 C m ps k sp) (c : Cls X.K C) (hr : Room n X.A) (he : PE X o ta) (hk : k ≤ n := by decide)
    (ht : eval (.Call (.Attribute o m apos) [] [] pos) X.env = (do
      let ov ← eval o X.env
      standAt apos.atName
      let (f, first) ← holding [ov] (getMethod ov m pl)
      callWith pos f first (backTo pos (starEach [] X.env)) (backToKw pos (keywordEach [] X.env))) := by rfl) :
    PE X (.Call (.Attribute o m apos) [] [] pos) (tMeth C m sp [] E0 ta tNil) := by
  obtain ⟨f, fd, F, hm, hb⟩ := M.ex
  exact pe_meth0 he c hm F (hr.mono hk) hb .nil pass0 ht
theorem pe_icalE (M : CalI X.prog X.w X.K X.mg X.base CX C x ps k sp) (hr : Room n X.A) (hg : Gl X x) (hp : Passes CX X E) (ha : PA X (e :: es) t) (hk : k + 1 ≤ n := by decide) (hdb : (x == ("__debug__" : Str)) = false := by decide)
    (he : starEach (e :: es) X.env = (false, eval e X.env) :: starEach es X.env := by rfl) (hpl : (backTo pos (starEach es X.env)).any (·.1) = false := by rfl) : PE X (.Call (.Name x p) (e :: es) [] pos) (tMake C sp [] E t) := by
  obtain ⟨f, fd, F, hm, hb⟩ := M.ex
  exact pe_make hm F (hr.mono hk) hg M.hm hb .nil hp ha hdb he hpl
theorem pe_ical (M : CalI X.prog X.w X.K X.mg X.base CX0 C x ps k sp) (hr : Room n X.A) (hg : Gl X x) (ha : PA X (e :: es) t) (hk : k + 1 ≤ n := by decide) (hdb : (x == ("__debug__" : Str)) = false := by decide)
    (he : starEach (e :: es) X.env = (false, eval e X.env) :: starEach es X.env := by rfl) (hpl : (backTo pos (starEach es X.env)).any (·.1) = false := by rfl) : PE X (.Call (.Name x p) (e :: es) [] pos) (tMake C sp [] E0 t) :=
  pe_icalE M hr hg pass0 ha hk hdb he hpl
theorem pe_ical0 (M : CalI X.prog X.w X.K X.mg X.base CX0 C x ps k sp) (hr : Room n X.A) (hg : Gl X x) (hk : k + 1 ≤ n := by decide) (hdb : (x == ("__debug__" : Str)) = false := by decide) : PE X (.Call (.Name x p) [] [] pos) (tMake C sp [] E0 tNil) := by
  obtain ⟨f, fd, F, hm, hb⟩ := M.ex
  exact pe_make0 hm F (hr.mono hk) hg M.hm hb .nil pass0 hdb
end
/-! ### readings -/
section
variable {K : PySem.W.Frag} {σ : L2.St} {H : Hp} {Q : VK} {D : Ends} {ta tb tv te td ty : TE} {C a : Addr} {m f : Str} {fs : List (Str × V)} {dx : Addr} {v y : V}
def MK (C : Addr) (m : Str) (sp : Sp) (dvs : List V) (E : XK) (t : TA) (σ : L2.St) (Q : VK) (x : V) (H1 : Hp) : Prop := ∃ a dx fs, x = .ref a ∧ H1 a = some (.ins C dx fs) ∧ fs.lookup m = none ∧ t σ H1 fun vs H2 => sp (x :: (vs ++ dvs)) H2 Q E
theorem i_meth {sp : Sp} {dvs : List V} {E : XK} {t : TA} (h : ta σ H fun x H1 => MK C m sp dvs E t σ Q x H1) : tMeth C m sp dvs E ta t σ H Q := h
theorem i_mk {sp : Sp} {dvs : List V} {E : XK} {t : TA} (e : H a = some (.ins C dx fs)) (n : fs.lookup m = none) (h : t σ H fun vs H2 => sp (.ref a :: (vs ++ dvs)) H2 Q E) : MK C m sp dvs E t σ Q (.ref a) H := ⟨a, dx, fs, rfl, e, n, h⟩
def FK (K : PySem.W.Frag) (f : Str) (x : V) (H1 : Hp) (Q : VK) : Prop := ∃ a C dx fs v, x = .ref a ∧ H1 a = some (.ins C dx fs) ∧ Cls K C ∧ NoAttr K C f ∧ fs.lookup f = some v ∧ Q v H1
theorem i_fld (h : ta σ H fun x H1 => FK K f x H1 Q) : tFld K ta f σ H Q := h
theorem i_fk (e : H a = some (.ins C dx fs)) (c : Cls K C) (n : NoAttr K C f) (l : fs.lookup f = some v) (q : Q v H) : FK K f (.ref a) H Q := ⟨a, C, dx, fs, v, rfl, e, c, n, l, q⟩
def SK (K : PySem.W.Frag) (f : Str) (y x : V) (H2 : Hp) (R : Hp → Prop) : Prop := ∃ a C dx fs, x = .ref a ∧ H2 a = some (.ins C dx fs) ∧ Cls K C ∧ NoAttr K C f ∧ fs.length < 1000 ∧ R (upd H2 a (.ins C dx (putF f y fs)))
theorem i_sfld (h : tv σ H fun y H1 => ta σ H1 fun x H2 => SK K f y x H2 (D.nx σ)) : sFld K ta tv f D σ H := h
theorem i_sk {R : Hp → Prop} (e : H a = some (.ins C dx fs)) (c : Cls K C) (n : NoAttr K C f) (l : fs.length < 1000) (q : ∀ H', Bt a H H' → H' a = some (.ins C dx (putF f y fs)) → R H') : SK K f y (.ref a) H R := ⟨a, C, dx, fs, rfl, e, c, n, l, q _ Bt.upd upd_same⟩
/- dicts with keys of texts -/
def DIK (y x : V) (H2 : Hp) (Q : VK) : Prop := ∃ a o, x = .ref a ∧ DGet H2 a y o ∧ Q (.bl o.isSome) H2
theorem i_din (h : ty σ H fun y H1 => td σ H1 fun x H2 => DIK y x H2 Q) : tDIn ty td σ H Q := h
theorem i_dik {z : Str} {kvs : List (Key × V)} (e : H a = some (.dK kvs)) (q : Q (.bl (valV kvs (Sum.inr z : Key)).isSome) H) : DIK (.str z) (.ref a) H Q := ⟨a, _, rfl, DGet.k (k := Sum.inr z) e, q⟩
def DNK (y x : V) (H2 : Hp) (Q : VK) : Prop := ∃ a o, x = .ref a ∧ DGet H2 a y o ∧ Q (.bl (!o.isSome)) H2
theorem i_dnin (h : ty σ H fun y H1 => td σ H1 fun x H2 => DNK y x H2 Q) : tDNotIn ty td σ H Q := h
theorem i_dnk {z : Str} {kvs : List (Key × V)} (e : H a = some (.dK kvs)) (q : Q (.bl (!(valV kvs (Sum.inr z : Key)).isSome)) H) : DNK (.str z) (.ref a) H Q := ⟨a, _, rfl, DGet.k (k := Sum.inr z) e, q⟩
def DGK (x y : V) (H2 : Hp) (Q : VK) : Prop := ∃ a v, x = .ref a ∧ DGet H2 a y (some v) ∧ Q v H2
theorem i_dget (h : td σ H fun x H1 => ty σ H1 fun y H2 => DGK x y H2 Q) : tDGet td ty σ H Q := h
theorem i_dgk {z : Str} {kvs : List (Key × V)} (e : H a = some (.dK kvs)) (g : valV kvs (Sum.inr z : Key) = some v) (q : Q v H) : DGK (.ref a) (.str z) H Q := ⟨a, v, rfl, by rw [← g]; exact DGet.k (k := Sum.inr z) e, q⟩
def DPK (v x y : V) (H3 : Hp) (R : Hp → Prop) : Prop := ∃ a H4, x = .ref a ∧ DPut H3 a y v H4 ∧ R H4
theorem i_dput (h : tv σ H fun v H1 => td σ H1 fun x H2 => ty σ H2 fun y H3 => DPK v x y H3 (D.nx σ)) : sDPut td ty tv D σ H := h
theorem i_dpk {z : Str} {kvs : List (Key × V)} {R : Hp → Prop} (e : H a = some (.dK kvs)) (l : kvs.length < sizeLine) (q : ∀ H', Bt a H H' → H' a = some (.dK (putK kvs (Sum.inr z : Key) v)) → R H') : DPK v (.ref a) (.str z) H R :=
  ⟨a, _, rfl, DPut.k (k := Sum.inr z) e l, q _ Bt.upd upd_same⟩
theorem i_dnew (q : ∀ p H', H p = none → Same H H' → H' p = some (.dK []) → Q (.ref p) H') : tDNewK σ H Q := fun p hp => q p _ hp (same_new hp _) upd_same
def rListDk : List V → Hp → VK → Prop := fun xs H Q => ∃ (a : Addr) (kvs : List (Key × V)), xs = [.ref a] ∧ Rd H a (.dK kvs) ∧ ∀ p, H p = none → Q (.ref p) (upd H p (.lst (kvs.map fun kv => kV kv.1)))
theorem call_listDk {X : Cx} (hc : X.calm = true) : CallR X (.type "list") rListDk := call_listD hc
theorem i_listDk {kvs : List (Key × V)} (e : H a = some (.dK kvs)) (q : ∀ p H', H p = none → Same H H' → H' p = some (.lst (kvs.map fun kv => kV kv.1)) → Q (.ref p) H') : rListDk [.ref a] H Q := ⟨a, kvs, rfl, .inl e, fun p hp => q p _ hp (same_new hp _) upd_same⟩
end
/-! ### what stays when an object of ours is written -/
theorem Stay.butI {H H' : Hp} {l : Addr} {C dx : Addr} {fs : List (Str × V)} (a : Bt l H H') (h : H l = some (.ins C dx fs)) : Stay H H' := ⟨fun b ys e => a.ne h e (fun z => nomatch z), fun b o u e => a.ne h e (fun z => nomatch z)⟩
theorem Stay.butD {H H' : Hp} {l : Addr} {kvs : List (Key × V)} (a : Bt l H H') (h : H l = some (.dK kvs)) : Stay H H' := ⟨fun b ys e => a.ne h e (fun z => nomatch z), fun b o u e => a.ne h e (fun z => nomatch z)⟩
/-! ### texts in their order -/
def strLe (a b : Str) : Bool := !decide (b.cps.toList < a.cps.toList)
end Aw

namespace Aw
open PySem PyProof.Rows
/-! ### texts in order -/
def leS (a b : Str) : Bool := !decide (b.cps.toList < a.cps.toList)
theorem lt_irr (a : List Nat) : ¬ a < a := List.lt_irrefl a
theorem leS_total (a b : Str) : (leS a b || leS b a) = true := by
  unfold leS
  by_cases h : b.cps.toList < a.cps.toList
  · rw [decide_eq_true h, decide_eq_false (List.lt_asymm h)]; rfl
  · rw [decide_eq_false h]; rfl
theorem leS_iff {a b : Str} : leS a b = true ↔ a.cps.toList ≤ b.cps.toList := by unfold leS; simp
theorem leS_trans (a b c : Str) (h1 : leS a b = true) (h2 : leS b c = true) : leS a c = true := by
  rw [leS_iff] at *
  exact List.le_trans h1 h2
theorem leS_anti {a b : Str} (h1 : leS a b = true) (h2 : leS b a = true) : a = b := by
  rw [leS_iff] at *
  exact S_ext (List.le_antisymm h1 h2)
def srtN (l : List Str) : List Str := l.mergeSort leS
theorem srtN_perm (l : List Str) : (srtN l).Perm l := List.mergeSort_perm l leS
theorem srtN_pw (l : List Str) : (srtN l).Pairwise fun a b => leS a b = true := List.pairwise_mergeSort leS_trans leS_total l
theorem sortedS_pw : ∀ {l : List Str}, sortedS l = true → l.Pairwise fun a b => leS a b = true
  | [], _ => .nil
  | [x], _ => List.pairwise_singleton _ _
  | x :: y :: r, h => by
    have h : risingS x (y :: r) = true := h
    simp only [risingS, Bool.and_eq_true] at h
    have h2 := sortedS_pw (l := y :: r) h.2
    refine List.pairwise_cons.mpr ⟨fun z hz => ?_, h2⟩
    have h1 : leS x y = true := by unfold leS; rw [← ltCps_eq]; exact h.1
    rcases List.mem_cons.mp hz with rfl | hz
    · exact h1
    · exact leS_trans _ _ _ h1 (List.rel_of_pairwise_cons h2 hz)
theorem pw_unique : ∀ {l m : List Str}, l.Perm m → (l.Pairwise fun a b => leS a b = true) → (m.Pairwise fun a b => leS a b = true) → l = m
  | [], m, p, _, _ => by rw [List.nil_perm.mp p]
  | x :: l, [], p, _, _ => by have := p.length_eq; simp at this
  | x :: l, y :: m, p, h1, h2 => by
    have e : x = y := by
      have a : x ∈ y :: m := p.mem_iff.mp (List.mem_cons_self ..)
      have b : y ∈ x :: l := p.mem_iff.mpr (List.mem_cons_self ..)
      rcases List.mem_cons.mp a with r | a
      · exact r
      · rcases List.mem_cons.mp b with r | b
        · exact r.symm
        · exact leS_anti (List.rel_of_pairwise_cons h1 b) (List.rel_of_pairwise_cons h2 a)
    subst e
    rw [pw_unique (List.Perm.cons_inv p) (List.pairwise_cons.mp h1).2 (List.pairwise_cons.mp h2).2]
theorem srtN_of {ys l : List Str} (p : ys.Perm l) (s : sortedS ys = true) : ys = srtN l := pw_unique (p.trans (srtN_perm l).symm) (sortedS_pw s) (srtN_pw l)
theorem srtN_unique {ys l : List Str} (p : ys.Perm l) (s : ys.Pairwise fun a b => leS a b = true) : ys = srtN l := pw_unique (p.trans (srtN_perm l).symm) s (srtN_pw l)
/-! ### names, sources -/
def letC (c : Nat) : Bool := decide (97 ≤ c) && decide (c ≤ 122)
def nameC (c : Nat) : Bool := letC c || (decide (46 ≤ c) && decide (c ≤ 57))
def nameOk (z : Str) : Bool := decide (1 ≤ z.length) && decide (z.length ≤ 24) && (z.cps.toList.head?.all letC) && z.cps.toList.all nameC
theorem nameOk_len {z : Str} (h : nameOk z = true) : 1 ≤ z.length ∧ z.length ≤ 24 := by
  unfold nameOk at h
  simp only [Bool.and_eq_true, decide_eq_true_eq] at h
  exact ⟨h.1.1.1, h.1.1.2⟩
theorem nameOk_all {z : Str} (h : nameOk z = true) {c : Nat} (hc : c ∈ z.cps.toList) : 46 ≤ c ∧ c ≤ 122 := by
  unfold nameOk at h
  simp only [Bool.and_eq_true, List.all_eq_true] at h
  have := h.2 c hc
  simp only [nameC, letC, Bool.or_eq_true, Bool.and_eq_true, decide_eq_true_eq] at this
  omega
/-- a source: its word, what it is -/
structure Src where
  k : Str
  x : PyData
def Src.py (s : Src) : PyData := .tuple [.str s.k, s.x]
def Src.ok (s : Src) : Prop := (s.k = "made" ∧ ∃ z, s.x = .str z ∧ nameOk z = true) ∨ ((s.k = "leaf" ∨ s.k = "rule") ∧ treeOk s.x = true)
def Src.what (s : Src) : List Nat := if s.k = "made" then (match s.x with | .str z => z.cps.toList | _ => []) else wr s.x
abbrev Prs := List (Str × Src)
def prPy (p : Str × Src) : PyData := .tuple [.str p.1, p.2.py]
def names (prs : Prs) : List Str := prs.map (·.1)
structure PrsOk (prs : Prs) : Prop where
  nm : ∀ p ∈ prs, nameOk p.1 = true
  sr : ∀ p ∈ prs, p.2.ok
  nd : (names prs).Nodup
  ln : prs.length ≤ 60
/-- by rising names -/
def srtP (prs : Prs) : Prs := (srtN (names prs)).filterMap fun n => prs.find? fun p => p.1 == n
def lineOf (p : Str × Src) : List Nat := p.2.k.cps.toList ++ 32 :: (p.1.cps.toList ++ 32 :: p.2.what)
theorem find_nd : ∀ {prs : Prs} {p : Str × Src}, (names prs).Nodup → p ∈ prs → prs.find? (fun q => q.1 == p.1) = some p
  | q :: r, p, nd, h => by
    unfold names at nd
    rw [List.map_cons, List.nodup_cons] at nd
    rcases List.mem_cons.mp h with rfl | h
    · rw [List.find?_cons]; simp
    · rw [List.find?_cons]
      have : (q.1 == p.1) = false := by
        apply beq_eq_false_iff_ne.mpr
        intro e
        exact nd.1 (e ▸ List.mem_map_of_mem h)
      rw [this]
      exact find_nd nd.2 h
theorem fm_names : ∀ {ys : List Str} {prs : Prs}, (∀ y ∈ ys, y ∈ names prs) → (ys.filterMap fun n => prs.find? fun p => p.1 == n).map (·.1) = ys
  | [], _, _ => rfl
  | y :: r, prs, h => by
    obtain ⟨p, hp, e⟩ := List.mem_map.mp (h y (List.mem_cons_self ..))
    have hs : (prs.find? fun q => q.1 == y).isSome = true := by rw [List.find?_isSome]; exact ⟨p, hp, by simpa using e⟩
    obtain ⟨q, hq⟩ := Option.isSome_iff_exists.mp hs
    rw [List.filterMap_cons, hq]
    have e2 : q.1 = y := by simpa using List.find?_some hq
    rw [List.map_cons, e2, fm_names fun z hz => h z (List.mem_cons_of_mem _ hz)]
theorem srtP_names (prs : Prs) : names (srtP prs) = srtN (names prs) := fm_names fun y hy => (srtN_perm _).mem_iff.mp hy
theorem srtP_mem {prs : Prs} {p : Str × Src} (h : p ∈ srtP prs) : p ∈ prs := by
  unfold srtP at h
  obtain ⟨n, _, e⟩ := List.mem_filterMap.mp h
  exact List.mem_of_find?_eq_some e
theorem srtP_ok {prs : Prs} (h : PrsOk prs) : PrsOk (srtP prs) where
  nm := fun p hp => h.nm p (srtP_mem hp)
  sr := fun p hp => h.sr p (srtP_mem hp)
  nd := by rw [srtP_names]; exact (srtN_perm _).nodup_iff.mpr h.nd
  ln := by
    have := congrArg List.length (srtP_names prs)
    unfold names at this
    rw [List.length_map, (srtN_perm _).length_eq, List.length_map] at this
    rw [this]; exact h.ln
theorem srtP_len (prs : Prs) : (srtP prs).length = prs.length := by
  have := congrArg List.length (srtP_names prs)
  unfold names at this
  rw [List.length_map, (srtN_perm _).length_eq, List.length_map] at this
  exact this
/-- what has the same names, rising, and is of the same pairs -/
theorem srtP_unique {prs qs : Prs} (nd : (names prs).Nodup) (hm : ∀ q ∈ qs, q ∈ prs) (hn : names qs = srtN (names prs)) : qs = srtP prs := by
  unfold srtP
  rw [← hn]
  have : ∀ {qs : Prs}, (∀ q ∈ qs, q ∈ prs) → qs = (names qs).filterMap fun n => prs.find? fun p => p.1 == n := by
    intro qs
    induction qs with
    | nil => intro _; rfl
    | cons q r ih =>
      intro h
      show q :: r = (q.1 :: names r).filterMap _
      rw [List.filterMap_cons, find_nd nd (h q (List.mem_cons_self ..))]
      show q :: r = q :: _
      rw [← ih fun z hz => h z (List.mem_cons_of_mem _ hz)]
  exact this hm
theorem srtP_srtP {prs : Prs} (h : PrsOk prs) : srtP (srtP prs) = srtP prs := by
  refine (srtP_unique (srtP_ok h).nd (fun q hq => hq) ?_).symm
  rw [srtP_names]
  exact srtN_unique (.refl _) (srtN_pw _)
/-! ### what lines hold -/
mutual
theorem wr_low : ∀ (d : PyData), good d = true → ∀ c ∈ wr d, 32 ≤ c
  | .str z, g, c, hc => by
    simp only [good, Bool.and_eq_true, List.all_eq_true] at g
    simp only [wr, List.mem_cons, List.mem_append, List.not_mem_nil, or_false] at hc
    rcases hc with rfl | hc | rfl
    · omega
    · unfold esc at hc
      obtain ⟨d, hd, hc⟩ := List.mem_flatMap.mp hc
      have := g.2 d hd
      simp only [plainC, Bool.or_eq_true, Bool.and_eq_true, decide_eq_true_eq] at this
      split at hc
      · simp only [List.mem_cons, List.not_mem_nil, or_false] at hc
        rcases hc with rfl | rfl <;> omega
      · rw [List.mem_singleton.mp hc]; omega
    · omega
  | .tuple ds, g, c, hc => by
    simp only [good, Bool.and_eq_true] at g
    simp only [wr, List.mem_cons, List.mem_append, List.not_mem_nil, or_false] at hc
    rcases hc with rfl | hc | rfl
    · omega
    · exact wrs_low ds g.2 c hc
    · omega
  | .none, g, _, _ => by simp [good] at g
  | .bool _, g, _, _ => by simp [good] at g
  | .int _, g, _, _ => by simp [good] at g
  | .list _, g, _, _ => by simp [good] at g
  | .dict _, g, _, _ => by simp [good] at g
theorem wrs_low : ∀ (ds : List PyData), goods ds = true → ∀ c ∈ wrs ds, 32 ≤ c
  | [], _, c, hc => by simp [wrs] at hc
  | [d], g, c, hc => by
    simp only [goods, Bool.and_eq_true] at g
    exact wr_low d g.1 c hc
  | d :: e :: ds, g, c, hc => by
    simp only [goods, Bool.and_eq_true] at g
    rw [wrs, List.mem_append, List.mem_cons] at hc
    rcases hc with hc | rfl | hc
    · exact wr_low d g.1 c hc
    · omega
    · exact wrs_low (e :: ds) (by simp only [goods, Bool.and_eq_true]; exact g.2) c hc
end
theorem what_low {s : Src} (h : s.ok) : ∀ c ∈ s.what, 32 ≤ c := by
  unfold Src.what
  rcases h with ⟨h1, z, h2, h3⟩ | ⟨h1, h2⟩
  · rw [if_pos h1, h2]
    intro c hc
    have := nameOk_all h3 hc
    omega
  · have : ¬ s.k = "made" := by rcases h1 with e | e <;> rw [e] <;> decide
    rw [if_neg this]
    exact wr_low _ (treeOk_good h2).g
theorem kind_cases {s : Src} (h : s.ok) : s.k = "made" ∨ s.k = "leaf" ∨ s.k = "rule" := by
  rcases h with ⟨h, _⟩ | ⟨h, _⟩
  · exact .inl h
  · exact .inr h
theorem kind_len {s : Src} (h : s.ok) : s.k.length = 4 := by
  rcases kind_cases h with e | e | e <;> rw [e] <;> decide
theorem kind_low {s : Src} (h : s.ok) : ∀ c ∈ s.k.cps.toList, 33 ≤ c := by
  rcases kind_cases h with e | e | e <;> rw [e] <;> decide
theorem what_len {s : Src} (h : s.ok) : s.what.length ≤ 2400 := by
  unfold Src.what
  rcases h with ⟨h1, z, h2, h3⟩ | ⟨h1, h2⟩
  · rw [if_pos h1, h2]
    have := nameOk_len h3
    show z.cps.toList.length ≤ 2400
    rw [len_list]; omega
  · have : ¬ s.k = "made" := by rcases h1 with e | e <;> rw [e] <;> decide
    rw [if_neg this]
    have h3 := treeOk_good h2
    have := wr_len s.x h3.g
    have := h3.sz
    omega
theorem line_len {p : Str × Src} (hn : nameOk p.1 = true) (h : p.2.ok) : (lineOf p).length ≤ 2430 := by
  unfold lineOf
  have h1 := kind_len h
  have h2 := what_len h
  have h3 := nameOk_len hn
  rw [List.length_append, List.length_cons, List.length_append, List.length_cons, len_list, len_list]
  omega
theorem line_low {p : Str × Src} (hn : nameOk p.1 = true) (h : p.2.ok) : 10 ∉ lineOf p := by
  intro hc
  unfold lineOf at hc
  rw [List.mem_append, List.mem_cons, List.mem_append, List.mem_cons] at hc
  rcases hc with hc | hc | hc | hc | hc
  · have := kind_low h _ hc; omega
  · omega
  · have := nameOk_all hn hc; omega
  · omega
  · have := what_low h _ hc; omega
/-- a project written -/
def prTxt (prs : Prs) : List Nat := prs.flatMap fun p => lineOf p ++ [10]
theorem prTxt_inter : ∀ prs : Prs, prTxt prs = inter [10] (prs.map lineOf ++ [[]])
  | [] => rfl
  | [p] => by simp [prTxt, inter]
  | p :: q :: r => by
    have ih := prTxt_inter (q :: r)
    unfold prTxt at ih ⊢
    rw [List.flatMap_cons, ih]
    simp [inter]
theorem split_prTxt {prs : Prs} (h : PrsOk prs) (post : List Nat) (hp : 10 ∉ post) : Txt.split (S (prTxt prs ++ post)) ⟨#[10]⟩ = prs.map (fun p => S (lineOf p)) ++ [S post] := by
  have e : prTxt prs ++ post = inter [10] (prs.map lineOf ++ [post]) := by
    rw [prTxt_inter]
    clear h
    induction prs with
    | nil => simp [inter]
    | cons p r ih =>
      cases r with
      | nil => simp [inter]
      | cons q r =>
        simp only [List.map_cons, List.cons_append, inter] at ih ⊢
        rw [List.append_assoc, ih]
  rw [e, split_S (c := 10) (ps := prs.map lineOf ++ [post]) ?_ (by simp)]
  · rw [List.map_append, List.map_map]; rfl
  · intro l hl
    rcases List.mem_append.mp hl with hl | hl
    · obtain ⟨p, hp, rfl⟩ := List.mem_map.mp hl
      exact line_low (h.nm p hp) (h.sr p hp)
    · rw [List.mem_singleton.mp hl]; exact hp
theorem i_sortS {K : PySem.W.Frag} {H : L2.Hp} {Q : L2.VK} {a : Addr} {xs : List Str} (s : L2.SqL K H a (xs.map L2.V.str)) (l : xs.length < 64) (q : ∀ p H', H p = none → L2.Same H H' → H' p = some (.lst ((srtN xs).map L2.V.str)) → Q (.ref p) H') : rSortS K [.ref a] H Q :=
  ⟨a, xs, rfl, s, l, fun ys p hy hs hp => by rw [srtN_of hy hs]; exact q p _ hp (same_new hp _) L2.upd_same⟩
end Aw

namespace Aw
open PySem PySem.Spec PyProof.Rows L2
/-! ### joined texts -/
def tJoined (ts : List TE) : TE := fun σ H Q => tJs ts Str.empty σ H fun out H1 => Q (.str out) H1
theorem pe_joinedU {X : Cx} {v1 v2 : Expr} {rest : List Expr} {ts : List TE} {pos : Pos} (h : PJ X (v1 :: v2 :: rest) ts) : PE X (.JoinedStr (v1 :: v2 :: rest) pos) (tJoined ts) := pe_joined h
def FmK (x : V) (H1 : Hp) (Q : VK) : Prop := (∃ y : Str, x = .str y ∧ y.length ≤ sizeLine ∧ Q (.str y) H1) ∨ ∃ i : Int, x = .int i ∧ i.natAbs.log2 < 1920 ∧ Q (.str (toString i)) H1
def JK (ts : List TE) (acc : Str) (σ : L2.St) (Q : Str → Hp → Prop) (x : V) (H1 : Hp) : Prop := ∃ y : Str, x = .str y ∧ (acc ++ y).length ≤ sizeLine ∧ tJs ts (acc ++ y) σ H1 Q
section
variable {K : PySem.W.Frag} {σ : L2.St} {H : Hp} {Q : VK} {R : Str → Hp → Prop} {te : TE} {ts : List TE} {acc y : Str}
theorem i_joined (h : tJs ts Str.empty σ H fun out H1 => Q (.str out) H1) : tJoined ts σ H Q := h
theorem i_fmt (h : te σ H fun x H1 => FmK x H1 Q) : tFmt te σ H Q := h
theorem i_fmk (l : y.length ≤ sizeLine) (q : Q (.str y) H) : FmK (.str y) H Q := .inl ⟨y, rfl, l, q⟩
theorem i_jcons (h : te σ H fun x H1 => JK ts acc σ R x H1) : tJs (te :: ts) acc σ H R := h
theorem i_jk (l : (acc ++ y).length ≤ sizeLine) (h : tJs ts (acc ++ y) σ H R) : JK ts acc σ R (.str y) H := ⟨y, rfl, l, h⟩
theorem i_jnil (h : R acc H) : tJs [] acc σ H R := h
end
/-! ### BadText -/
structure XCls (K : PySem.W.Frag) (mg : Str → Option Value) (x f : Str) (C : Addr) : Prop where
  oe : OexC K C
  xf : XfC K C
  nf : PySem.W.findIn K (.ref C) f = some none
  hm : mg x = some (.ref C)
  te : PySem.W.exmOne K (.ref C) (.ref C) = some true
structure DfX (K : PySem.W.Frag) (C : Addr) (qual : Str) (st : Stmt) (ps : List Str) : Prop where
  ex : ∃ (f : Addr) (fd : FuncData), Fun K "__init__" qual st f fd ∧ PySem.W.findIn K (.ref C) "__init__" = some (some (.ref f)) ∧ PySem.W.typeIn K (.ref f) = some (.type "function") ∧ Binds K fd ps []
def spBt (C : Addr) : Sp := fun vs H Q _ => ∃ (a : Addr) (v : V), vs = [.ref a, v] ∧ H a = some (exo a C none) ∧ ∀ dx, H dx = none → dx ≠ a → Q .non (upd (upd H dx (exd dx [("row", v)])) a (exo a C (some dx)))
def tBt (C : Addr) (t : TA) : L2.St → Hp → XK → Prop := tMkO C (spBt C) [] t
def BtK (C : Addr) (Q : XK) (vs : List V) (H1 : Hp) : Prop := vs.length ≤ 1000 ∧ ∀ a, H1 a = none → spBt C (.ref a :: (vs ++ [])) (upd H1 a (exo a C none))
  (fun v H2 => v = .non ∧ ∃ (d : Addr) (fs : List (Str × V)), H2 a = some (exo a C (some d)) ∧ H2 d = some (exd d fs) ∧ H1 d = none ∧ Q (.ref C) (some d) (upd (del H2 a) d (.xd fs))) (fun _ _ _ => False)
theorem i_bt {C : Addr} {t : TA} {σ : L2.St} {H : Hp} {Q : XK} (h : t σ H fun vs H1 => BtK C Q vs H1) : tBt C t σ H Q := h
theorem i_btk {C : Addr} {H1 : Hp} {Q : XK} {v : V} (q : ∀ d H', H1 d = none → Same H1 H' → H' d = some (.xd [("row", v)]) → Q (.ref C) (some d) H') : BtK C Q [v] H1 := by
  refine ⟨(show 1 ≤ 1000 by decide), fun a ha => ⟨a, v, rfl, upd_same, fun dx hd hn => ?_⟩⟩
  have hd1 : H1 dx = none := by rw [upd_ne hn] at hd; exact hd
  refine ⟨rfl, dx, _, upd_same, ?_, hd1, q dx _ hd1 ?_ upd_same⟩
  · rw [upd_ne hn, upd_same]
  · intro b o e
    have n1 : b ≠ a := ne_of_none e ha
    have n2 : b ≠ dx := ne_of_none e hd1
    rw [upd_ne n2, del_ne n1, upd_ne n1, upd_ne n2, upd_ne n1]
    exact e
/-! ### a list told with numbers -/
section
variable {K : PySem.W.Frag} {σ : L2.St} {H : Hp} {D : Ends} {g : TG} {tb : TS} {a : Addr} {xs : List V}
theorem i_iEnum {ta : TA} {R : It → Hp → Prop} (h : ta σ H fun vs H1 => ∃ a xs, vs = [.ref a] ∧ SqL K H1 a xs ∧ R (Ite K a) H1) : iEnum K ta σ H R := h
theorem f_enum (s : SqL K H a xs) (Pv : Nat → L2.St → Hp → Prop) (h0 : Pv 0 σ H) (hl : ∀ i σ H, i ≤ xs.length → Pv i σ H → SqL K H a xs)
    (hs : ∀ i x σ H T H1, xs[i]? = some x → Pv i σ H → H T = none → Same H H1 → H1 T = some (.tup [.int (i : Nat), x]) → g (.ref T) σ H1 fun σ2 H2 => tb { D with nx := Pv (i + 1), ct := Pv (i + 1), bk := D.nx } σ2 H2) (hd : ∀ σ H, Pv xs.length σ H → D.nx σ H) :
    ∃ a' xs', [V.ref a] = [.ref a'] ∧ SqL K H a' xs' ∧ ∃ W : Nat → Nat → L2.St → Hp → Prop, (∃ m, W 0 m σ H) ∧ ∀ i m σ H, W i m σ H →
      ((Ite K a').stop i H ∧ D.nx σ H) ∨ ((Ite K a').go i H ∧ ∃ N : L2.St → Hp → Prop, (∀ σ' H', N σ' H' → ∃ m', m' < m ∧ W (i + 1) m' σ' H') ∧ ∀ x H', (Ite K a').yld i H x H' → g x σ H' fun σ2 H2 => tb { D with nx := N, ct := N, bk := D.nx } σ2 H2) := by
  refine ⟨a, xs, rfl, s, fun i m σ H => m = xs.length - i ∧ i ≤ xs.length ∧ Pv i σ H, ⟨xs.length, by simp, Nat.zero_le _, h0⟩, ?_⟩
  rintro i m σ H ⟨rfl, hi, p⟩
  have sq := hl i σ H hi p
  by_cases hlt : i < xs.length
  · have hx : xs[i]? = some xs[i] := List.getElem?_eq_getElem hlt
    refine .inr ⟨⟨xs, xs[i], sq, hx⟩, Pv (i + 1), fun σ' H' p' => ⟨xs.length - (i + 1), by omega, rfl, hlt, p'⟩, fun x H' y => ?_⟩
    obtain ⟨T, z, rfl, hT, rfl, q⟩ := y
    have e := q xs sq
    exact hs i z σ H T _ e p hT (same_new hT _) upd_same
  · have e : i = xs.length := by omega
    subst e
    exact .inl ⟨⟨xs, sq, Nat.le_refl _⟩, hd σ H p⟩
end
/-! ### cuts -/
theorem szM {n : Nat} (h : n ≤ 1000000) : n ≤ sizeLine := Nat.le_trans h (by decide)
theorem cutV_last {xs : List V} {x : V} : cutV (xs ++ [x]) none (some (-1)) = xs := by
  have e1 : HT.sIx (xs ++ [x]).length 0 none = 0 := rfl
  have e2 : HT.sIx (xs ++ [x]).length (xs ++ [x]).length (some (-1)) = xs.length := by
    unfold HT.sIx
    show (if (-1 : Int) < 0 then (-1 + ((xs ++ [x]).length : Int)).toNat else min (-1 : Int).toNat (xs ++ [x]).length) = _
    rw [if_pos (by decide), List.length_append, List.length_singleton]
    omega
  unfold cutV
  rw [e1, e2, List.drop_zero, Nat.sub_zero]
  exact List.take_left (l₁ := xs)
theorem none_back {H H' : Hp} {a : Addr} (s : Same H H') (e : H' a = none) : H a = none := by
  cases h : H a with
  | none => rfl
  | some o => have := s _ _ h; rw [e] at this; cases this
theorem atI_m1 {α : Type} {xs : List α} {j : Nat} {v : α} (h : xs.length = j + 1) (e : xs[j]? = some v) : atI xs (-1) = some v := by
  unfold atI
  have e1 : ixN xs.length (-1) = some j := by
    unfold ixN
    have h1 : ¬ (0 : Int) ≤ -1 := by decide
    rw [h, if_neg h1, if_pos (by omega)]
    congr 1
    omega
  rw [e1]
  exact e
theorem atI_last {xs : List V} {x : V} : atI (xs ++ [x]) (-1) = some x := by
  unfold atI
  have e : ixN (xs ++ [x]).length (-1) = some xs.length := by
    unfold ixN
    rw [List.length_append, List.length_singleton]
    have h1 : ¬ (0 : Int) ≤ -1 := by decide
    rw [if_neg h1, if_pos (by omega)]
    congr 1
    omega
  rw [e]
  simp
end Aw
namespace Aw
open PySem PySem.Spec PyProof.Rows L2
/-! ### what can be compared -/
mutual
theorem good_lay : ∀ (d : PyData), good d = true → PyData.canLay0 d = true
  | .str z, g => by
    simp only [good, Bool.and_eq_true, List.all_eq_true] at g
    simp only [PyData.canLay0, PyData.strOk]
    rw [← Array.all_toList, List.all_eq_true]
    intro c hc
    have := g.2 c hc
    simp only [plainC, Bool.or_eq_true, Bool.and_eq_true, decide_eq_true_eq] at this
    exact decide_eq_true (by omega)
  | .tuple ds, g => by
    simp only [good, Bool.and_eq_true] at g
    simp only [PyData.canLay0]
    exact goods_lay ds g.2
  | .none, g => by simp [good] at g
  | .bool _, g => by simp [good] at g
  | .int _, g => by simp [good] at g
  | .list _, g => by simp [good] at g
  | .dict _, g => by simp [good] at g
theorem goods_lay : ∀ (ds : List PyData), goods ds = true → PyData.canLayAll0 ds = true
  | [], _ => rfl
  | d :: ds, g => by
    simp only [goods, Bool.and_eq_true] at g
    simp only [PyData.canLayAll0, Bool.and_eq_true]
    exact ⟨good_lay d g.1, goods_lay ds g.2⟩
end
mutual
theorem depth_tdeep : ∀ (d : PyData), good d = true → d.depth ≤ tdeep d
  | .str z, _ => by simp only [PyData.depth]; omega
  | .tuple ds, g => by
    simp only [good, Bool.and_eq_true] at g
    have := depths_tdeep ds g.2
    simp only [PyData.depth, tdeep]
    omega
  | .none, g => by simp [good] at g
  | .bool _, g => by simp [good] at g
  | .int _, g => by simp [good] at g
  | .list _, g => by simp [good] at g
  | .dict _, g => by simp [good] at g
theorem depths_tdeep : ∀ (ds : List PyData), goods ds = true → PyData.depthAll ds ≤ tdeeps ds
  | [], _ => Nat.le_refl _
  | d :: ds, g => by
    simp only [goods, Bool.and_eq_true] at g
    have h1 := depth_tdeep d g.1
    have h2 := depths_tdeep ds g.2
    simp only [PyData.depthAll, tdeeps]
    omega
end
def cmpOk (d : PyData) : Prop := d.canLay0 = true ∧ d.depth ≤ 20
theorem lay_all {ds : List PyData} (h : ∀ d ∈ ds, cmpOk d) : PyData.canLayAll0 ds = true ∧ PyData.depthAll ds ≤ 20 := by
  induction ds with
  | nil => exact ⟨rfl, Nat.zero_le _⟩
  | cons d r ih =>
    obtain ⟨h1, h2⟩ := h d (List.mem_cons_self ..)
    obtain ⟨h3, h4⟩ := ih fun e he => h e (List.mem_cons_of_mem _ he)
    simp only [PyData.canLayAll0, PyData.depthAll, h1, h3]
    exact ⟨rfl, by omega⟩
theorem shaped_l {ds : List PyData} (h : ∀ d ∈ ds, cmpOk d) : SeqAt.shaped (.list ds) = true := by
  obtain ⟨h1, h2⟩ := lay_all h
  unfold SeqAt.shaped
  simp only [PyData.canLay0, PyData.depth, h1, Bool.true_and]
  exact decide_eq_true (by omega)
theorem shaped_t {ds : List PyData} (h : ∀ d ∈ ds, cmpOk d) : SeqAt.shaped (.tuple ds) = true := by
  obtain ⟨h1, h2⟩ := lay_all h
  unfold SeqAt.shaped
  simp only [PyData.canLay0, PyData.depth, h1, Bool.true_and]
  exact decide_eq_true (by omega)
theorem strOk_lt {z : Str} (h : ∀ c ∈ z.cps.toList, c < 1114112) : PyData.strOk z = true := by
  unfold PyData.strOk
  rw [← Array.all_toList, List.all_eq_true]
  exact fun c hc => decide_eq_true (h c hc)
theorem cmp_src {s : Src} (h : s.ok) : PyData.canLay0 s.py = true ∧ s.py.depth ≤ 14 := by
  have hk : PyData.strOk s.k = true := by rcases kind_cases h with e | e | e <;> rw [e] <;> decide +kernel
  unfold Src.py
  simp only [PyData.canLay0, PyData.canLayAll0, PyData.depth, PyData.depthAll, hk, Bool.true_and, Bool.and_true]
  rcases h with ⟨h1, z, h2, h3⟩ | ⟨h1, h2⟩
  · rw [h2]
    have : PyData.strOk z = true := strOk_lt fun c hc => by have := nameOk_all h3 hc; omega
    simp only [PyData.canLay0, this, PyData.depth]
    exact ⟨trivial, by omega⟩
  · have g := treeOk_good h2
    have := depth_tdeep _ g.g
    have := g.dp
    exact ⟨good_lay _ g.g, by omega⟩
theorem cmp_pr {p : Str × Src} (hn : nameOk p.1 = true) (h : p.2.ok) : cmpOk (prPy p) := by
  obtain ⟨h1, h2⟩ := cmp_src h
  have : PyData.strOk p.1 = true := strOk_lt fun c hc => by have := nameOk_all hn hc; omega
  unfold cmpOk prPy
  simp only [PyData.canLay0, PyData.canLayAll0, PyData.depth, PyData.depthAll, this, h1, Bool.and_true, Bool.true_and]
  exact ⟨trivial, by omega⟩
section
variable {K : PySem.W.Frag} {H : Hp} {Q : VK}
theorem i_ne_l {a b : Addr} {xs ys : List V} {ds es : List PyData} (sa : SqL K H a xs) (sb : SqL K H b ys) (da : Dts K H ds xs) (db : Dts K H es ys) (ca : ∀ d ∈ ds, cmpOk d) (cb : ∀ d ∈ es, cmpOk d) (q : Q (.bl (!PyData.eqvAll ds es)) H) : rNeU K (.ref a) (.ref b) H Q :=
  .inr ⟨.list ds, .list es, .lst sa da.dp, .lst sb db.dp, shaped_l ca, shaped_l cb, by rw [PyData.eqv]; exact q⟩
theorem i_eq_t {x y : V} {ds es : List PyData} (da : Dt K H (.tuple ds) x) (db : Dt K H (.tuple es) y) (ca : ∀ d ∈ ds, cmpOk d) (cb : ∀ d ∈ es, cmpOk d) (q : Q (.bl (PyData.eqvAll ds es)) H) : rEqU K x y H Q :=
  .inr ⟨.tuple ds, .tuple es, da.dp, db.dp, shaped_t ca, shaped_t cb, by rw [PyData.eqv]; exact q⟩
theorem i_ne_t {x y : V} {ds es : List PyData} (da : Dt K H (.tuple ds) x) (db : Dt K H (.tuple es) y) (ca : ∀ d ∈ ds, cmpOk d) (cb : ∀ d ∈ es, cmpOk d) (q : Q (.bl (!PyData.eqvAll ds es)) H) : rNeU K x y H Q :=
  .inr ⟨.tuple ds, .tuple es, da.dp, db.dp, shaped_t ca, shaped_t cb, by rw [PyData.eqv]; exact q⟩
theorem eqvAll_self {ds : List PyData} (ca : ∀ d ∈ ds, cmpOk d) : PyData.eqvAll ds ds = true := SeqAt.eqvAll_refl _ (lay_all ca).1
/- a making -/
def MKO (C : Addr) (sp : Sp) (dvs : List V) (E : XK) (Q : VK) (vs : List V) (H1 : Hp) : Prop := ∀ x dx, H1 x = none → H1 dx = none → dx ≠ x → sp (.ref x :: (vs ++ dvs)) (upd (upd H1 dx (.own x)) x (.ins C dx [])) (fun v H2 => v = .non ∧ Q (.ref x) H2) E
theorem i_make {C : Addr} {sp : Sp} {dvs : List V} {E : XK} {t : TA} {σ : L2.St} (h : t σ H fun vs H1 => MKO C sp dvs E Q vs H1) : tMake C sp dvs E t σ H Q := h
theorem i_mko {C : Addr} {sp : Sp} {dvs : List V} {E : XK} {vs : List V} (h : ∀ x dx H', H x = none → Same H H' → H' x = some (.ins C dx []) → sp (.ref x :: (vs ++ dvs)) H' (fun v H2 => v = .non ∧ Q (.ref x) H2) E) : MKO C sp dvs E Q vs H := fun x dx hx hd hn =>
  h x dx _ hx (fun b o e => by rw [upd_ne (ne_of_none e hx), upd_ne (ne_of_none e hd)]; exact e) upd_same
end
end Aw

namespace Aw
open PySem
def topS (i : Nat) : Stmt := PySem.Challenge.pw_askwright_k72_projects_written.main.body.getD i (.Pass ⟨0, 0, 0, 0⟩)
end Aw

namespace Aw
open PySem PySem.Spec PyProof.Rows L2
abbrev s_is_plain : Stmt := topS 15
theorem sc_is_plain : FnScope ["value", "sign"] ["value"] (defScope s_is_plain) := ⟨rfl, rfl, rfl, by decide +kernel, rfl, by decide +kernel, by decide +kernel⟩
abbrev s_is_name : Stmt := topS 18
theorem sc_is_name : FnScope ["value", "sign"] ["value"] (defScope s_is_name) := ⟨rfl, rfl, rfl, by decide +kernel, rfl, by decide +kernel, by decide +kernel⟩
local macro_rules | `(tactic| walk_at "rd1") => `(tactic| first
  | ((with_reducible apply i_var); exact rfl)
  | with_reducible refine i_c ?_
  | with_reducible refine i_op ?_
  | with_reducible refine i_test ?_
  | with_reducible refine i_tB ?_
  | with_reducible refine i_bl ?_
  | with_reducible refine i_and ?_
  | with_reducible refine i_or ?_
  | with_reducible refine i_not ?_
  | with_reducible refine i_andV ?_
  | with_reducible refine i_orV ?_
  | with_reducible refine i_notV ?_
  | with_reducible refine i_if ?_
  | with_reducible refine i_chain ?_
  | with_reducible refine i_nil ?_
  | with_reducible refine i_cons ?_
  | with_reducible refine i_tup ?_
  | with_reducible refine i_lst ?_
  | with_reducible refine i_cb ?_
  | with_reducible refine i_call ?_
  | with_reducible refine i_bm ?_
  | with_reducible refine i_m1 ?_
  | with_reducible refine i_m0 ?_
  | with_reducible refine i_exstr ?_
  | with_reducible refine i_sl ?_
  | with_reducible refine i_nopart ?_
  | with_reducible refine i_part ?_
  | with_reducible refine i_int ?_
  | with_reducible refine i_seq ?_
  | with_reducible refine i_next ?_
  | with_reducible refine i_asg ?_
  | with_reducible refine i_gname ?_
  | with_reducible refine i_ret ?_
  | with_reducible refine i_retN ?_
  | with_reducible refine i_drop ?_
  | with_reducible refine i_ifS ?_
  | with_reducible refine i_break ?_
  | with_reducible refine i_cont ?_
  | ((with_reducible apply i_aug); exact rfl)
  | with_reducible refine i_add_i ?_
  | with_reducible refine i_sub ?_
  | with_reducible refine i_neg ?_
  | with_reducible refine i_ipadd_i ?_
  | with_reducible refine i_ip ?_
  | with_reducible refine i_lt ?_
  | with_reducible refine i_le ?_
  | with_reducible refine i_gt ?_
  | with_reducible refine i_ge ?_
  | with_reducible refine i_lt_s ?_
  | with_reducible refine i_le_s ?_
  | with_reducible refine i_gt_s ?_
  | with_reducible refine i_ge_s ?_
  | with_reducible refine i_isN ?_
  | with_reducible refine i_notN ?_
  | with_reducible refine i_in_c ?_
  | with_reducible refine i_nin_c ?_
  | with_reducible refine i_gsub ?_
  | with_reducible refine i_gcons ?_
  | with_reducible refine i_gnil ?_
  | with_reducible refine i_iList ?_
  | with_reducible refine i_iTup ?_
  | with_reducible refine i_iStr ?_
  | with_reducible refine i_iRng1 ?_
  | with_reducible refine i_lc ?_
  | with_reducible refine i_for ?_
  | with_reducible refine i_yes ?_
  | with_reducible refine i_repl ?_
  | with_reducible refine i_meth ?_
  | with_reducible refine i_fld ?_
  | with_reducible refine i_sfld ?_
  | with_reducible refine i_din ?_
  | with_reducible refine i_dnin ?_
  | with_reducible refine i_dget ?_
  | with_reducible refine i_dput ?_
  | with_reducible refine iteT ?_
  | with_reducible refine iteF ?_
  | with_reducible refine iteNT ?_
  | with_reducible refine iteNF ?_
  | ((with_reducible refine i_len_s ?_ ?_); (first | assumption | exact szl (by assumption)))
  | ((with_reducible refine i_sl_s ?_ ?_); (first | assumption | exact szl (by assumption)))
  | with_reducible refine i_int_b ?_
  | with_reducible refine i_abs ?_
  | with_reducible refine i_min2 ?_
  | with_reducible refine i_eq rfl ?_
  | with_reducible refine i_ne rfl ?_)
local macro_rules | `(tactic| walk_at "rd") => `(tactic| repeat walk_at "rd1")

section
variable {P : Program} {w : World} {K : PySem.W.Frag} {mg : Str → Option Value} {base : Heap}
def spIsPlain : Sp := fun vs H Q _ => ∃ z : Str, vs = [.str z] ∧ z.length ≤ 100000 ∧ ∀ H', Same H H' → Q (.bl (z.cps.toList.all plainC)) H'
theorem ok_is_plain (D : Df K mg "is_plain" "is_plain" s_is_plain ["value"]) (B : NoB mg) : Cal P w K mg base CX0 "is_plain" ["value"] 1 spIsPlain := by
  refine D.cal fun f fd F => ?_
  refine F.ok sc_is_plain (fun vs H Q E h => ?_) (fun cdv A outer s H vs Q E hr h => ?_)
  · obtain ⟨z, rfl, _⟩ := h
    rfl
  · obtain ⟨z, rfl, hz, q⟩ := h
    refine ⟨_, (pss_one (ps_ret (pe_and (pe_callB (call_isiU K) (by rfl) B.m_isinstance (by decide +kernel) (pa_cons (pv 0) (pa_cons (pe_ty (T := "str") (by rfl) B.m_str (by decide +kernel)) pa_nil))) (pe_one (pe_callB (call_allU K rfl) (by rfl) B.m_all (by decide +kernel) (pa_cons (pe_lc (own := [("sign", 1)]) (by rfl) sc_is_plain.nd (pi_str (pv 0)) (blkOk_by (own := [("sign", 1)]) (N := ["value", "sign"]) (sc := defScope s_is_plain) (by decide +kernel)) (fun _ _ _ _ _ => pg_name (i := 1) sc_is_plain.nd rfl (Or.inl rfl)) (fun _ _ _ _ _ => pts_nil) (fun _ _ _ _ _ => (pe_or (pe_chain op_leU op_leU pe_str (pv 1) pe_str) (pe_one (pe_chain op_leU op_leU pe_str (pv 1) pe_str))))) pa_nil)))))), ?_⟩
    walk_at "rd"
    refine i_isi (b := true) (.base (.str z)) (by decide +kernel) ?_
    walk_at "rd"
    refine c_str (szlt hz) (fun D i acc H1 => Same H H1 ∧ acc = ((z.cps.toList.take i).map plainC).map V.bl) ?_ ?_ ?_
    · exact fun D H1 _ s _ => ⟨s, rfl⟩
    · intro D i c acc H1 hD hc hl hi ha hp
      obtain ⟨sm, rfl⟩ := hp
      have fin : ∀ b : Bool, b = plainC c → CK D (CN (fun D i acc H1 => Same H H1 ∧ acc = ((z.cps.toList.take i).map plainC).map V.bl) D (i + 1)) (.bl b) H1 := fun b hb =>
        i_ck ha hl hi fun H5 bt e5 => ⟨Same.but sm hD bt, by rw [take_snoc hc, hb, List.map_append, List.map_append]; rfl⟩
      walk_at "rd"
      refine ⟨rfl, ?_⟩
      walk_at "rd"
      rw [cmpc1 (d := 32) (by decide)]
      refine ite2 (fun h1 => ?_) (fun h1 => ?_)
      all_goals walk_at "rd"
      · rw [cmpc2 (d := 36) (by decide)]
        refine ite2 (fun h2 => ?_) (fun h2 => ?_)
        · refine fin _ ?_
          simp at h1 h2
          rw [Bool.eq_iff_iff]; simp [plainC]; omega
        · walk_at "rd"
          rw [cmpc1 (d := 38) (by decide)]
          refine ite2 (fun h3 => ?_) (fun h3 => ?_)
          all_goals walk_at "rd"
          · rw [cmpc2 (d := 126) (by decide)]
            refine fin _ ?_
            simp at h1 h2 h3
            rw [Bool.eq_iff_iff]; simp [plainC]; omega
          · refine fin _ ?_
            simp at h1 h2 h3
            rw [Bool.eq_iff_iff]; simp [plainC]; omega
      · rw [cmpc1 (d := 38) (by decide)]
        refine ite2 (fun h3 => ?_) (fun h3 => ?_)
        all_goals walk_at "rd"
        · rw [cmpc2 (d := 126) (by decide)]
          refine fin _ ?_
          simp at h1 h3
          omega
        · refine fin _ ?_
          simp at h1 h3
          rw [Bool.eq_iff_iff]; simp [plainC]; omega
    · intro D acc H1 hD hl ha hp
      obtain ⟨sm, rfl⟩ := hp
      walk_at "rd"
      refine i_all (.inl (.inl ha)) ?_
      rw [show List.take z.length z.cps.toList = z.cps.toList from List.take_of_length_le (Nat.le_of_eq Array.length_toList), List.all_map]
      exact q _ sm
/-! is_name -/
structure GNames (mg : Str → Option Value) : Prop where
  most : GV mg "MOST_NAME" (.int 24)
  lets : GV mg "LETTERS" (.str "abcdefghijklmnopqrstuvwxyz")
  sgns : GV mg "NAME_SIGNS" (.str "abcdefghijklmnopqrstuvwxyz0123456789./")
theorem letC_mem (c : Nat) : decide (c ∈ (Str.ofString "abcdefghijklmnopqrstuvwxyz").cps.toList) = letC c := by
  rw [show (Str.ofString "abcdefghijklmnopqrstuvwxyz").cps.toList = (List.range 26).map (97 + ·) by decide +kernel, Bool.eq_iff_iff]
  simp only [letC, decide_eq_true_eq, List.mem_map, List.mem_range, Bool.and_eq_true]
  constructor
  · rintro ⟨k, h, rfl⟩
    omega
  · rintro ⟨h1, h2⟩
    exact ⟨c - 97, by omega, by omega⟩
theorem nameC_mem (c : Nat) : decide (c ∈ (Str.ofString "abcdefghijklmnopqrstuvwxyz0123456789./").cps.toList) = nameC c := by
  rw [show (Str.ofString "abcdefghijklmnopqrstuvwxyz0123456789./").cps.toList = (List.range 26).map (97 + ·) ++ ((List.range 10).map (48 + ·) ++ [46, 47]) by decide +kernel, Bool.eq_iff_iff]
  simp only [nameC, letC, decide_eq_true_eq, List.mem_append, List.mem_map, List.mem_range, Bool.and_eq_true, Bool.or_eq_true, List.mem_cons, List.not_mem_nil, or_false]
  constructor
  · rintro (⟨k, h, rfl⟩ | ⟨k, h, rfl⟩ | rfl | rfl) <;> omega
  · rintro (⟨h1, h2⟩ | ⟨h1, h2⟩)
    · exact .inl ⟨c - 97, by omega, by omega⟩
    · by_cases h : 48 ≤ c
      · exact .inr (.inl ⟨c - 48, by omega, by omega⟩)
      · exact .inr (.inr (by omega))
def spIsName : Sp := fun vs H Q _ => ∃ z : Str, vs = [.str z] ∧ z.length ≤ 100000 ∧ ∀ H', Same H H' → Q (.bl (nameOk z)) H'
theorem ok_is_name (D : Df K mg "is_name" "is_name" s_is_name ["value"]) (B : NoB mg) (G : GNames mg) : Cal P w K mg base CX0 "is_name" ["value"] 1 spIsName := by
  refine D.cal fun f fd F => ?_
  have g_MOST_NAME := G.most
  have g_LETTERS := G.lets
  have g_NAME_SIGNS := G.sgns
  refine F.ok sc_is_name (fun vs H Q E h => ?_) (fun cdv A outer s H vs Q E hr h => ?_)
  · obtain ⟨z, rfl, _⟩ := h
    rfl
  · obtain ⟨z, rfl, hz, q⟩ := h
    refine ⟨_, (pss_cons (ps_if (PW.pt (pw_or (pt_not (pt_val (pe_callB (call_isiU K) (by rfl) B.m_isinstance (by decide +kernel) (pa_cons (pv 0) (pa_cons (pe_ty (T := "str") (by rfl) B.m_str (by decide +kernel)) pa_nil))))) (pw_or (pt_not (pt_chain op_leU op_leU pe_int (pe_callB (call_lenU K) (by rfl) B.m_len (by decide +kernel) (pa_cons (pv 0) pa_nil)) (pe_gv (by rfl) g_MOST_NAME))) (pw_or1 (pt_cmpR (op_ninU K) (pe_ix (ix_U K) (pv 0) pe_int (fun _ _ => rfl)) (pe_gv (by rfl) g_LETTERS) (by with_unfolding_all rfl)))))) (pss_one (ps_ret pe_bl)) pss_nil)
      (pss_one (ps_ret (pe_callB (call_allU K rfl) (by rfl) B.m_all (by decide +kernel) (pa_cons (pe_lc (own := [("sign", 1)]) (by rfl) sc_is_name.nd (pi_str (pv 0)) (blkOk_by (own := [("sign", 1)]) (N := ["value", "sign"]) (sc := defScope s_is_name) (by decide +kernel)) (fun _ _ _ _ _ => pg_name (i := 1) sc_is_name.nd rfl (Or.inl rfl)) (fun _ _ _ _ _ => pts_nil) (fun _ _ _ _ _ => (pe_cmpR (op_inU K) (pv 1) (pe_gv (by rfl) g_NAME_SIGNS) (by with_unfolding_all rfl)))) pa_nil))))), ?_⟩
    walk_at "rd"
    refine i_isi (b := true) (.base (.str z)) (by decide +kernel) ?_
    walk_at "rd"
    refine ite2 (fun h1 => ?_) (fun h1 => ?_)
    all_goals walk_at "rd"
    · refine ite2 (fun h2 => ?_) (fun h2 => ?_)
      all_goals walk_at "rd"
      · have e : nameOk z = false := by simp at h1 h2; unfold nameOk; rw [decide_eq_false (by omega : ¬ z.length ≤ 24)]; simp
        rw [← e]
        exact q _ (Same.refl H)
      · have hl : 1 ≤ z.length ∧ z.length ≤ 24 := by simp at h1 h2; omega
        have h0 : 0 < z.cps.toList.length := by rw [Array.length_toList]; exact hl.1
        have e0 : z.cps.toList[0]? = some (z.cps.toList[0]'h0) := List.getElem?_eq_getElem h0
        have eh : z.cps.toList.head? = some (z.cps.toList[0]'h0) := by rw [List.head?_eq_getElem?]; exact e0
        generalize (z.cps.toList[0]'h0) = c at e0 eh
        refine i_ix_s (c := c) (szl hz) (atI_nat (j := 0) e0) ?_
        walk_at "rd"
        rw [letC_mem]
        refine ite2 (fun h3 => ?_) (fun h3 => ?_)
        all_goals walk_at "rd"
        · have e : nameOk z = false := by unfold nameOk; rw [eh]; simp at h3; simp [h3]
          rw [← e]
          exact q _ (Same.refl H)
        · have e : nameOk z = z.cps.toList.all nameC := by unfold nameOk; rw [eh, decide_eq_true hl.1, decide_eq_true hl.2]; simp at h3; simp [h3]
          refine c_str (szlt hz) (fun D i acc H1 => Same H H1 ∧ acc = ((z.cps.toList.take i).map nameC).map V.bl) ?_ ?_ ?_
          · exact fun D H1 _ s _ => ⟨s, rfl⟩
          · intro D i c acc H1 hD hc hl hi ha hp
            obtain ⟨sm, rfl⟩ := hp
            walk_at "rd"
            refine ⟨rfl, ?_⟩
            walk_at "rd"
            refine i_ck ha hl hi fun H5 bt e5 => ⟨Same.but sm hD bt, ?_⟩
            rw [take_snoc hc, nameC_mem, List.map_append, List.map_append]; rfl
          · intro D acc H1 hD hl ha hp
            obtain ⟨sm, rfl⟩ := hp
            walk_at "rd"
            refine i_all (.inl (.inl ha)) ?_
            rw [show List.take z.length z.cps.toList = z.cps.toList from List.take_of_length_le (Nat.le_of_eq Array.length_toList), List.all_map]
            show Q _ _
            rw [e] at q
            exact q _ sm
    · have e : nameOk z = false := by simp at h1; unfold nameOk; rw [decide_eq_false (by omega : ¬ 1 ≤ z.length)]; simp
      rw [← e]
      exact q _ (Same.refl H)
end
end Aw

namespace Aw
open PySem PySem.Spec PyProof.Rows L2

local macro_rules | `(tactic| walk_at "rd1") => `(tactic| first
  | ((with_reducible apply i_var); exact rfl)
  | with_reducible refine i_c ?_
  | with_reducible refine i_op ?_
  | with_reducible refine i_test ?_
  | with_reducible refine i_tB ?_
  | with_reducible refine i_bl ?_
  | with_reducible refine i_and ?_
  | with_reducible refine i_or ?_
  | with_reducible refine i_not ?_
  | with_reducible refine i_andV ?_
  | with_reducible refine i_orV ?_
  | with_reducible refine i_notV ?_
  | with_reducible refine i_if ?_
  | with_reducible refine i_chain ?_
  | with_reducible refine i_nil ?_
  | with_reducible refine i_cons ?_
  | with_reducible refine i_tup ?_
  | with_reducible refine i_lst ?_
  | with_reducible refine i_cb ?_
  | with_reducible refine i_call ?_
  | with_reducible refine i_bm ?_
  | with_reducible refine i_m1 ?_
  | with_reducible refine i_m0 ?_
  | with_reducible refine i_exstr ?_
  | with_reducible refine i_sl ?_
  | with_reducible refine i_nopart ?_
  | with_reducible refine i_part ?_
  | with_reducible refine i_int ?_
  | with_reducible refine i_seq ?_
  | with_reducible refine i_next ?_
  | with_reducible refine i_asg ?_
  | with_reducible refine i_gname ?_
  | with_reducible refine i_ret ?_
  | with_reducible refine i_retN ?_
  | with_reducible refine i_drop ?_
  | with_reducible refine i_ifS ?_
  | with_reducible refine i_break ?_
  | with_reducible refine i_cont ?_
  | ((with_reducible apply i_aug); exact rfl)
  | with_reducible refine i_add_i ?_
  | with_reducible refine i_sub ?_
  | with_reducible refine i_neg ?_
  | with_reducible refine i_ipadd_i ?_
  | with_reducible refine i_ip ?_
  | with_reducible refine i_lt ?_
  | with_reducible refine i_le ?_
  | with_reducible refine i_gt ?_
  | with_reducible refine i_ge ?_
  | with_reducible refine i_lt_s ?_
  | with_reducible refine i_le_s ?_
  | with_reducible refine i_gt_s ?_
  | with_reducible refine i_ge_s ?_
  | with_reducible refine i_isN ?_
  | with_reducible refine i_notN ?_
  | with_reducible refine i_in_c ?_
  | with_reducible refine i_nin_c ?_
  | with_reducible refine i_gsub ?_
  | with_reducible refine i_gcons ?_
  | with_reducible refine i_gnil ?_
  | with_reducible refine i_iList ?_
  | with_reducible refine i_iTup ?_
  | with_reducible refine i_iStr ?_
  | with_reducible refine i_iRng1 ?_
  | with_reducible refine i_lc ?_
  | with_reducible refine i_for ?_
  | with_reducible refine i_yes ?_
  | with_reducible refine i_repl ?_
  | with_reducible refine i_meth ?_
  | with_reducible refine i_fld ?_
  | with_reducible refine i_sfld ?_
  | with_reducible refine i_din ?_
  | with_reducible refine i_dnin ?_
  | with_reducible refine i_dget ?_
  | with_reducible refine i_dput ?_
  | with_reducible refine iteT ?_
  | with_reducible refine iteF ?_
  | with_reducible refine iteNT ?_
  | with_reducible refine iteNF ?_
  | ((with_reducible refine i_len_s ?_ ?_); (first | assumption | exact szl (by assumption)))
  | ((with_reducible refine i_sl_s ?_ ?_); (first | assumption | exact szl (by assumption)))
  | with_reducible refine i_int_b ?_
  | with_reducible refine i_abs ?_
  | with_reducible refine i_min2 ?_
  | with_reducible refine i_eq rfl ?_
  | with_reducible refine i_ne rfl ?_)
local macro_rules | `(tactic| walk_at "rd") => `(tactic| repeat walk_at "rd1")

abbrev s_room_left : Stmt := topS 16
theorem sc_room_left : FnScope ["value", "deep", "room", "part"] ["value", "deep", "room"] (defScope s_room_left) := ⟨rfl, rfl, rfl, by decide +kernel, rfl, by decide +kernel, by decide +kernel⟩
abbrev s_is_tree : Stmt := topS 17
theorem sc_is_tree : FnScope ["value"] ["value"] (defScope s_is_tree) := ⟨rfl, rfl, rfl, by decide +kernel, rfl, by decide +kernel, by decide +kernel⟩
theorem len_S_le {n : Nat} (h : n ≤ 100000) : n ≤ sizeLine := szl h
mutual
/-- texts and rows are not larger than the line -/
def lim : PyData → Bool
  | .str z => decide (z.length ≤ 100000)
  | .tuple ds => decide (ds.length ≤ 100000) && lims ds
  | .none | .bool _ | .int _ | .list _ | .dict _ => true
def lims : List PyData → Bool
  | [] => true
  | d :: ds => lim d && lims ds
end
mutual
theorem lim_good : ∀ d, good d = true → lim d = true
  | .str z, h => by simp only [good, lim, Bool.and_eq_true, decide_eq_true_eq] at h ⊢; omega
  | .tuple ds, h => by
    simp only [good, lim, Bool.and_eq_true, decide_eq_true_eq] at h ⊢
    exact ⟨by omega, lims_good ds h.2⟩
  | .none, _ => rfl
  | .bool _, _ => rfl
  | .int _, _ => rfl
  | .list _, _ => rfl
  | .dict _, _ => rfl
theorem lims_good : ∀ ds, goods ds = true → lims ds = true
  | [], _ => rfl
  | d :: ds, h => by
    simp only [goods, lims, Bool.and_eq_true] at h ⊢
    exact ⟨lim_good d h.1, lims_good ds h.2⟩
end
theorem lims_get : ∀ {ds : List PyData} {i : Nat} {d : PyData}, lims ds = true → ds[i]? = some d → lim d = true
  | e :: ds, 0, d, h, q => by
    simp only [lims, Bool.and_eq_true] at h
    rw [← show e = d from Option.some.inj q]; exact h.1
  | e :: ds, i + 1, d, h, q => by
    simp only [lims, Bool.and_eq_true] at h
    exact lims_get (ds := ds) (i := i) h.2 q
  | [], _, _, _, q => by simp at q
def optV : Option Nat → V
  | none => .non
  | some r => .int (r : Nat)
section
variable {P : Program} {w : World} {K : PySem.W.Frag} {mg : Str → Option Value} {base : Heap}
structure GTrees (mg : Str → Option Value) : Prop where
  signs : GV mg "MOST_SIGNS" (.int 300)
  parts : GV mg "MOST_PARTS" (.int 40)
  size : GV mg "MOST_SIZE" (.int 600)
  deep : GV mg "MOST_DEEP" (.int 12)
def spRoom (K : PySem.W.Frag) (n : Nat) : Sp := fun vs H Q _ => ∃ (v : V) (d : PyData) (k r : Nat), vs = [v, .int (k : Nat), .int (r : Nat)] ∧ Dt K H d v ∧ lim d = true ∧ k < n ∧ ∀ H', Same H H' → Q (optV (roomL d k r)) H'
theorem ty_dt {H : Hp} {d : PyData} {v : V} (h : Dt K H d v) : (∃ z, d = .str z ∧ v = .str z) ∨ (∃ ds a xs, d = .tuple ds ∧ v = .ref a ∧ SqT K H a xs ∧ Dts K H ds xs) ∨
    ((∃ T, TyX K H v (.type T) ∧ kitB T "str" = some false ∧ kitB T "tuple" = some false) ∧ ∀ n r, roomL d n r = none) := by
  cases d with
  | str z => exact .inl ⟨z, rfl, h.str⟩
  | tuple ds =>
    obtain ⟨a, xs, e, s, q⟩ := h.tup
    exact .inr (.inl ⟨ds, a, xs, rfl, e, s, q⟩)
  | none => rw [h.non]; exact .inr (.inr ⟨⟨_, .base .non, by decide +kernel, by decide +kernel⟩, fun n r => by simp [roomL]⟩)
  | bool b => unfold Dt at h; rw [h]; exact .inr (.inr ⟨⟨_, .base (.bl b), by decide +kernel, by decide +kernel⟩, fun n r => by simp [roomL]⟩)
  | int b => unfold Dt at h; rw [h]; exact .inr (.inr ⟨⟨_, .base (.int b), by decide +kernel, by decide +kernel⟩, fun n r => by simp [roomL]⟩)
  | list b => unfold Dt at h; exact h.elim
  | dict b => unfold Dt at h; exact h.elim
theorem ok_room (D : Df K mg "room_left" "room_left" s_room_left ["value", "deep", "room"]) (B : NoB mg) (G : GTrees mg) (C_is_plain : Cal P w K mg base CX0 "is_plain" ["value"] 1 spIsPlain) :
    ∀ n, Cal P w K mg base CX0 "room_left" ["value", "deep", "room"] (n + 1) (spRoom K n) := by
  refine D.turns (fun n => n + 1) (spRoom K) (fun vs H Q E h => ?_) (fun n f fd F C_room_left => ?_)
  · obtain ⟨_, _, _, _, _, _, _, h, _⟩ := h
    omega
  have g_MOST_SIGNS := G.signs
  have g_MOST_PARTS := G.parts
  refine F.ok sc_room_left (fun vs H Q E h => ?_) (fun cdv A outer s H vs Q E hr h => ?_)
  · obtain ⟨_, _, _, _, rfl, _⟩ := h
    rfl
  · obtain ⟨v, d, kk, r, rfl, hd, hl, hkn, q⟩ := h
    refine ⟨_, (pss_cons (ps_if (pt_cmpR (op_eqU K hr.units) (pv 1) pe_int (nomark _)) (pss_one (ps_ret pe_non)) pss_nil)
      (pss_cons (ps_if (pt_val (pe_callB (call_isiU K) (by rfl) B.m_isinstance (by decide +kernel) (pa_cons (pv 0) (pa_cons (pe_ty (T := "tuple") (by rfl) B.m_tuple (by decide +kernel)) pa_nil)))) (pss_cons (ps_if (PW.pt (pw_or (pt_cmpR op_gtU (pe_callB (call_lenU K) (by rfl) B.m_len (by decide +kernel) (pa_cons (pv 0) pa_nil)) (pe_gv (by rfl) g_MOST_PARTS) (nomark _)) (pw_or1 (pt_cmpR op_ltU (pv 2) pe_int (nomark _))))) (pss_one (ps_ret pe_non)) pss_nil)
      (pss_cons (ps_aug (i := 2) sc_room_left.nd rfl (.inl rfl) pe_int ip_sub)
      (pss_cons (ps_for PassesOwn.never rfl (pi_tupU K (pv 0)) (pg_name (i := 3) sc_room_left.nd rfl (.inl rfl)) (pss_cons (ps_set (i := 2) sc_room_left.nd rfl (.inl rfl) (pe_cal C_room_left hr (by rfl) (pa_cons (pv 3) (pa_cons (pe_op op_subU (pv 1) pe_int) (pa_cons (pv 2) pa_nil))) (by omega)))
      (pss_one (ps_if (pt_cmpR op_isNo (pv 2) pe_non (nomark _)) (pss_one (ps_ret pe_non)) pss_nil))))
      (pss_one (ps_ret (pv 2)))))) pss_nil)
      (pss_cons (ps_if (PW.pt (pw_or (pt_not (pt_val (pe_callB (call_isiU K) (by rfl) B.m_isinstance (by decide +kernel) (pa_cons (pv 0) (pa_cons (pe_ty (T := "str") (by rfl) B.m_str (by decide +kernel)) pa_nil))))) (pw_or (pt_cmpR op_gtU (pe_callB (call_lenU K) (by rfl) B.m_len (by decide +kernel) (pa_cons (pv 0) pa_nil)) (pe_gv (by rfl) g_MOST_SIGNS) (nomark _)) (pw_or (pt_cmpR op_geU (pe_callB (call_lenU K) (by rfl) B.m_len (by decide +kernel) (pa_cons (pv 0) pa_nil)) (pv 2) (nomark _)) (pw_or1 (pt_not (pt_val (pe_cal C_is_plain hr (by rfl) (pa_cons (pv 0) pa_nil) (by omega))))))))) (pss_one (ps_ret pe_non)) pss_nil)
      (pss_one (ps_ret (pe_op op_subU (pe_op op_subU (pv 2) (pe_callB (call_lenU K) (by rfl) B.m_len (by decide +kernel) (pa_cons (pv 0) pa_nil))) pe_int)))))), ?_⟩
    walk_at "rd"
    refine ite2 (fun h0 => ?_) (fun h0 => ?_)
    · have e : kk = 0 := by simpa using h0
      subst e
      walk_at "rd"
      have e : roomL d 0 r = none := by cases d <;> simp [roomL]
      rw [e] at q
      exact q _ (Same.refl H)
    · obtain ⟨m, rfl⟩ : ∃ m, kk = m + 1 := ⟨kk - 1, by simp at h0; omega⟩
      rcases ty_dt hd with ⟨z, rfl, rfl⟩ | ⟨ds, a, xs, rfl, rfl, hs, hq⟩ | ⟨⟨T, ty, t1, t2⟩, hn⟩
      · have hz : z.length ≤ 100000 := by simpa [lim] using hl
        walk_at "rd"
        refine i_isi (.base (.str z)) (b := false) (by decide +kernel) ?_
        walk_at "rd"
        refine i_isi (.base (.str z)) (b := true) (by decide +kernel) ?_
        walk_at "rd"
        refine ite2 (fun h1 => ?_) (fun h1 => ?_)
        · walk_at "rd"
          have e : roomL (.str z) (m + 1) r = none := by simp at h1; simp only [roomL]; rw [if_pos (by omega)]
          rw [e] at q
          exact q _ (Same.refl H)
        · walk_at "rd"
          refine ite2 (fun h2 => ?_) (fun h2 => ?_)
          · walk_at "rd"
            have e : roomL (.str z) (m + 1) r = none := by simp at h1 h2; simp only [roomL]; rw [if_pos (by omega)]
            rw [e] at q
            exact q _ (Same.refl H)
          · walk_at "rd"
            refine ⟨z, rfl, hz, fun H1 s1 => ?_⟩
            walk_at "rd"
            refine ite2 (fun h3 => ?_) (fun h3 => ?_)
            · walk_at "rd"
              have e : roomL (.str z) (m + 1) r = none := by simp only [Bool.not_eq_true'] at h3; simp only [roomL]; rw [if_pos (.inr (.inr h3))]
              rw [e] at q
              exact q _ s1
            · walk_at "rd"
              have e : roomL (.str z) (m + 1) r = some (r - z.length - 1) := by
                simp at h1 h2
                simp only [roomL]
                rw [if_neg]
                rintro (k | k | k)
                · omega
                · omega
                · rw [k] at h3; exact h3 rfl
              rw [e] at q
              have e2 : ((r : Int) - (z.length : Nat) - 1) = ((r - z.length - 1 : Nat) : Int) := by simp at h1 h2; omega
              rw [e2]
              exact q _ s1
      · walk_at "rd"
        refine i_isi (ty_sq hs) (b := true) (by decide +kernel) ?_
        walk_at "rd"
        refine i_len_t hs ?_
        walk_at "rd"
        have hlen := hq.length
        refine ite2 (fun h1 => ?_) (fun h1 => ?_)
        · walk_at "rd"
          have e : roomL (.tuple ds) (m + 1) r = none := by simp at h1; simp only [roomL]; rw [if_pos (by omega)]
          rw [e] at q
          exact q _ (Same.refl H)
        · walk_at "rd"
          refine ite2 (fun h2 => ?_) (fun h2 => ?_)
          · walk_at "rd"
            have e : roomL (.tuple ds) (m + 1) r = none := by simp at h1 h2; simp only [roomL]; rw [if_pos (by omega)]
            rw [e] at q
            exact q _ (Same.refl H)
          · walk_at "rd"
            have e : roomL (.tuple ds) (m + 1) r = roomLs ds m (r - 1) := by simp at h1 h2; simp only [roomL]; rw [if_neg (by omega)]
            rw [e] at q
            have hls : lims ds = true := by simp only [lim, Bool.and_eq_true] at hl; exact hl.2
            have e1 : ((r : Int) - 1) = ((r - 1 : Nat) : Int) := by simp at h2; omega
            rw [e1]
            refine f_tup hs (fun i σ H1 => ∃ (r' : Nat) (y : Option V), σ = [some (.ref a), some (.int ((m + 1 : Nat) : Int)), some (.int (r' : Nat)), y] ∧ Same H H1 ∧ roomLs ds m (r - 1) = roomLs (ds.drop i) m r') ?_ ?_ ?_ ?_
            · exact ⟨r - 1, none, rfl, Same.refl H, rfl⟩
            · rintro i σ H1 _ ⟨r', y, rfl, s1, _⟩
              exact sqT_tt (.same s1) hs
            · rintro i x σ H1 hx ⟨r', y, rfl, s1, e1⟩
              obtain ⟨d, hdi, hdx⟩ := hq.get hx
              walk_at "rd"
              have e2 : (((m + 1 : Nat) : Int) - 1) = (m : Int) := by omega
              rw [e2]
              refine ⟨x, d, m, r', rfl, hdx.mono (.same s1), lims_get hls hdi, by omega, fun H2 s2 => ?_⟩
              walk_at "rd"
              have e3 : roomLs (ds.drop i) m r' = match roomL d m r' with | none => none | some q => roomLs (ds.drop (i + 1)) m q := by
                obtain ⟨hi, hg⟩ := List.getElem?_eq_some_iff.mp hdi
                rw [List.drop_eq_getElem_cons hi, hg, roomLs]
                all_goals (cases roomL d m r' <;> rfl)
              cases e4 : roomL d m r' with
              | none =>
                rw [e4] at e3
                walk_at "rd"
                refine iteT ?_
                walk_at "rd"
                rw [e1, e3] at q
                exact q _ (s1.trans s2)
              | some r2 =>
                rw [e4] at e3
                walk_at "rd"
                refine iteF ?_
                walk_at "rd"
                exact ⟨r2, some x, rfl, s1.trans s2, e1.trans e3⟩
            · rintro σ H1 ⟨r', y, rfl, s1, e1⟩
              walk_at "rd"
              rw [e1, hlen, List.drop_length] at q
              exact q _ s1
      · walk_at "rd"
        refine i_isi ty t2 ?_
        walk_at "rd"
        refine i_isi ty t1 ?_
        walk_at "rd"
        rw [hn] at q
        exact q _ (Same.refl H)
/-! is_tree -/
def spIsTree (K : PySem.W.Frag) : Sp := fun vs H Q _ => ∃ (v : V) (d : PyData), vs = [v] ∧ Dt K H d v ∧ lim d = true ∧ ∀ H', Same H H' → Q (.bl (treeOk d)) H'
theorem ok_is_tree (D : Df K mg "is_tree" "is_tree" s_is_tree ["value"]) (B : NoB mg) (G : GTrees mg) (C_room_left : Cal P w K mg base CX0 "room_left" ["value", "deep", "room"] 14 (spRoom K 13)) : Cal P w K mg base CX0 "is_tree" ["value"] 15 (spIsTree K) := by
  have g_MOST_DEEP := G.deep
  have g_MOST_SIZE := G.size
  refine D.cal fun f fd F => F.ok sc_is_tree (fun vs H Q E h => ?_) (fun cdv A outer s H vs Q E hr h => ?_)
  · obtain ⟨_, _, rfl, _⟩ := h
    rfl
  · obtain ⟨v, d, rfl, hd, hl, q⟩ := h
    refine ⟨_, (pss_one (ps_ret (pe_cmpR op_notNo (pe_cal C_room_left hr (by rfl) (pa_cons (pv 0) (pa_cons (pe_gv (by rfl) g_MOST_DEEP) (pa_cons (pe_gv (by rfl) g_MOST_SIZE) pa_nil)))) pe_non (nomark _)))), ?_⟩
    walk_at "rd"
    refine ⟨v, d, 12, 600, rfl, hd, hl, by omega, fun H1 s1 => ?_⟩
    walk_at "rd"
    have q := q H1 s1
    unfold treeOk at q
    cases e : roomL d 12 600 with
    | none => rw [e] at q; exact q
    | some r => rw [e] at q; exact q
end
end Aw

namespace Aw
open PySem PySem.Spec PyProof.Rows L2

local macro_rules | `(tactic| walk_at "rd1") => `(tactic| first
  | ((with_reducible apply i_var); exact rfl)
  | with_reducible refine i_c ?_
  | with_reducible refine i_op ?_
  | with_reducible refine i_test ?_
  | with_reducible refine i_tB ?_
  | with_reducible refine i_bl ?_
  | with_reducible refine i_and ?_
  | with_reducible refine i_or ?_
  | with_reducible refine i_not ?_
  | with_reducible refine i_andV ?_
  | with_reducible refine i_orV ?_
  | with_reducible refine i_notV ?_
  | with_reducible refine i_if ?_
  | with_reducible refine i_chain ?_
  | with_reducible refine i_nil ?_
  | with_reducible refine i_cons ?_
  | with_reducible refine i_tup ?_
  | with_reducible refine i_lst ?_
  | with_reducible refine i_cb ?_
  | with_reducible refine i_call ?_
  | with_reducible refine i_bm ?_
  | with_reducible refine i_m1 ?_
  | with_reducible refine i_m0 ?_
  | with_reducible refine i_exstr ?_
  | with_reducible refine i_sl ?_
  | with_reducible refine i_nopart ?_
  | with_reducible refine i_part ?_
  | with_reducible refine i_int ?_
  | with_reducible refine i_seq ?_
  | with_reducible refine i_next ?_
  | with_reducible refine i_asg ?_
  | with_reducible refine i_gname ?_
  | with_reducible refine i_ret ?_
  | with_reducible refine i_retN ?_
  | with_reducible refine i_drop ?_
  | with_reducible refine i_ifS ?_
  | with_reducible refine i_break ?_
  | with_reducible refine i_cont ?_
  | ((with_reducible apply i_aug); exact rfl)
  | with_reducible refine i_add_i ?_
  | with_reducible refine i_sub ?_
  | with_reducible refine i_neg ?_
  | with_reducible refine i_ipadd_i ?_
  | with_reducible refine i_ip ?_
  | with_reducible refine i_lt ?_
  | with_reducible refine i_le ?_
  | with_reducible refine i_gt ?_
  | with_reducible refine i_ge ?_
  | with_reducible refine i_lt_s ?_
  | with_reducible refine i_le_s ?_
  | with_reducible refine i_gt_s ?_
  | with_reducible refine i_ge_s ?_
  | with_reducible refine i_isN ?_
  | with_reducible refine i_notN ?_
  | with_reducible refine i_in_c ?_
  | with_reducible refine i_nin_c ?_
  | with_reducible refine i_gsub ?_
  | with_reducible refine i_gcons ?_
  | with_reducible refine i_gnil ?_
  | with_reducible refine i_iList ?_
  | with_reducible refine i_iTup ?_
  | with_reducible refine i_iStr ?_
  | with_reducible refine i_iRng1 ?_
  | with_reducible refine i_lc ?_
  | with_reducible refine i_for ?_
  | with_reducible refine i_yes ?_
  | with_reducible refine i_repl ?_
  | with_reducible refine i_meth ?_
  | with_reducible refine i_fld ?_
  | with_reducible refine i_sfld ?_
  | with_reducible refine i_din ?_
  | with_reducible refine i_dnin ?_
  | with_reducible refine i_dget ?_
  | with_reducible refine i_dput ?_
  | with_reducible refine iteT ?_
  | with_reducible refine iteF ?_
  | with_reducible refine iteNT ?_
  | with_reducible refine iteNF ?_
  | ((with_reducible refine i_len_s ?_ ?_); (first | assumption | exact szl (by assumption)))
  | ((with_reducible refine i_sl_s ?_ ?_); (first | assumption | exact szl (by assumption)))
  | with_reducible refine i_int_b ?_
  | with_reducible refine i_abs ?_
  | with_reducible refine i_min2 ?_
  | with_reducible refine i_eq rfl ?_
  | with_reducible refine i_ne rfl ?_)
local macro_rules | `(tactic| walk_at "rd") => `(tactic| repeat walk_at "rd1")

abbrev s_tree_text : Stmt := topS 19
theorem sc_tree_text : FnScope ["tree", "part"] ["tree"] (defScope s_tree_text) := ⟨rfl, rfl, rfl, by decide +kernel, rfl, by decide +kernel, by decide +kernel⟩
abbrev s_text_from : Stmt := topS 20
theorem sc_text_from : FnScope ["text", "at", "signs"] ["text", "at"] (defScope s_text_from) := ⟨rfl, rfl, rfl, by decide +kernel, rfl, by decide +kernel, by decide +kernel⟩
theorem good_cases {d : PyData} (h : good d = true) : (∃ z, d = .str z ∧ z.length ≤ 300 ∧ z.cps.toList.all plainC = true) ∨ ∃ ds, d = .tuple ds ∧ ds.length ≤ 40 ∧ goods ds = true := by
  cases d with
  | str z => simp only [good, Bool.and_eq_true, decide_eq_true_eq] at h; exact .inl ⟨z, rfl, h.1, h.2⟩
  | tuple ds => simp only [good, Bool.and_eq_true, decide_eq_true_eq] at h; exact .inr ⟨ds, rfl, h.1, h.2⟩
  | none => simp [good] at h
  | bool b => simp [good] at h
  | int b => simp [good] at h
  | list b => simp [good] at h
  | dict b => simp [good] at h
theorem goods_get {ds : List PyData} {i : Nat} {d : PyData} (h : goods ds = true) (e : ds[i]? = some d) : good d = true := goods_mem h (List.mem_of_getElem? e)
section
variable {P : Program} {w : World} {K : PySem.W.Frag} {mg : Str → Option Value} {base : Heap}
def spTreeText (K : PySem.W.Frag) (n : Nat) : Sp := fun vs H Q _ => ∃ (v : V) (d : PyData), vs = [v] ∧ Dt K H d v ∧ good d = true ∧ tsize d ≤ 2000 ∧ tdeep d < n ∧ ∀ H', Same H H' → Q (.str (S (wr d))) H'
theorem ok_tree_text (D : Df K mg "tree_text" "tree_text" s_tree_text ["tree"]) (B : NoB mg) : ∀ n, Cal P w K mg base CX0 "tree_text" ["tree"] (n + 1) (spTreeText K n) := by
  refine D.turns (fun n => n + 1) (spTreeText K) (fun vs H Q E h => ?_) (fun n f fd F C_tree_text => ?_)
  · obtain ⟨_, _, _, _, _, _, h, _⟩ := h
    omega
  refine fun_okT F sc_tree_text (by decide +kernel) (by decide) (fun vs H Q E h => ?_) (fun cdv A outer s H vs Q E hr h => ?_)
  · obtain ⟨_, _, rfl, _⟩ := h
    rfl
  · obtain ⟨v, d, rfl, hd, hg, hz, hn, q⟩ := h
    refine ⟨_, psst_cons (CwR.pst_if (pt_val (pe_callB (call_isiU K) (by rfl) B.m_isinstance (by decide +kernel) (pa_cons (pv 0) (pa_cons (pe_ty (T := "str") (by rfl) B.m_str (by decide +kernel)) pa_nil))))
        (CwR.psst_one (CwR.pst_ret (CwR.pet_op (op_addU K) (CwR.pet_op (op_addU K) (CwR.PET.of pe_str) (CwR.pet_replT (CwR.pet_replC (pv 0)))) (CwR.PET.of pe_str)))) CwR.psst_nil)
      (CwR.psst_one (PST.of (ps_ret (pe_op (op_addU K) (pe_op (op_addU K) pe_str (pe_joinU K pe_str
        (pe_lc (own := [("part", 1)]) (by rfl) sc_tree_text.nd (pi_tupU K (pv 0)) (blkOk_by (own := [("part", 1)]) (N := ["tree", "part"]) (sc := defScope s_tree_text) (by decide +kernel)) (fun _ _ _ _ _ => pg_name (i := 1) sc_tree_text.nd rfl (Or.inl rfl)) (fun _ _ _ _ _ => pts_nil)
          (fun _ _ _ _ _ => (pe_cal C_tree_text hr (by rfl) (pa_cons (pv 1) pa_nil) (by omega)))))) pe_str)))), ?_⟩
    rcases good_cases hg with ⟨z, rfl, hl, hp⟩ | ⟨ds, rfl, hl, hgs⟩
    · have e := hd.str
      subst e
      walk_at "rd"
      refine i_isi (.base (.str z)) (b := true) (by decide +kernel) ?_
      walk_at "rd"
      have l1 : (Txt.replace z "\\" "\\\\").length ≤ z.length + (z.length + 1) * 2 := TK.replace_len _ _ _
      refine i_strB (by show z.length + (z.length + 1) * 2 ≤ 16777216; omega) ?_
      refine i_strB (by show _ + (_ + 1) * 2 ≤ 16777216; omega) ?_
      rw [esc_two]
      have l2 := esc_len z.cps.toList
      rw [len_list] at l2
      refine i_add_s (szl (by show 1 + (esc _).length ≤ 100000; omega)) ?_
      walk_at "rd"
      refine i_add_s (szl (by rw [app_len]; show 1 + (esc _).length + 1 ≤ 100000; omega)) ?_
      have e : Str.ofString "\"" ++ S (esc z.cps.toList) ++ Str.ofString "\"" = S (wr (.str z)) := S_ext (by rw [app_list, app_list]; rfl)
      rw [e]
      exact q _ (Same.refl H)
    · obtain ⟨a, xs, rfl, hs, hq⟩ := hd.tup
      walk_at "rd"
      refine i_isi (ty_sq hs) (b := false) (by decide +kernel) ?_
      walk_at "rd"
      have hlen := hq.length
      refine c_tup hs (szlt (by omega)) (fun D i acc H1 => Same H H1 ∧ acc = (ds.take i).map fun d => V.str (S (wr d))) ?_ ?_ ?_ ?_
      · exact fun D H1 _ s1 _ => ⟨s1, rfl⟩
      · exact fun D i acc H1 _ h => sqT_tt (.same h.1) hs
      · intro D i x acc H1 hD hx hl hi ha hp
        obtain ⟨s1, rfl⟩ := hp
        obtain ⟨d, hdi, hdx⟩ := hq.get hx
        have hm := List.mem_of_getElem? hdi
        walk_at "rd"
        refine ⟨rfl, ?_⟩
        walk_at "rd"
        have h1 := tsizes_mem hm
        have h2 := tdeeps_mem hm
        simp only [tsize, tdeep] at hz hn
        refine ⟨x, d, rfl, hdx.mono (.same s1), goods_get hgs hdi, by omega, by omega, fun H2 s2 => ?_⟩
        refine i_ck (s2 _ _ ha) hl hi fun H3 b3 e3 => ⟨Same.but (s1.trans s2) hD b3, ?_⟩
        rw [take_snoc hdi, List.map_append]; rfl
      · rintro D acc H1 hD hl ha ⟨s1, rfl⟩
        rw [hlen, List.take_length] at ha
        have e1 : (ds.map fun d => V.str (S (wr d))) = (ds.map fun d => S (wr d)).map V.str := by rw [List.map_map]; rfl
        rw [e1] at ha
        have hw := wrs_len ds hgs
        have hwl := inter_length [32] (ds.map wr)
        have hsm : ∀ es : List PyData, goods es = true → ((es.map fun d => S (wr d)).map (·.length)).sum ≤ 4 * tsizes es := by
          intro es
          induction es with
          | nil => intro _; simp
          | cons e r ih =>
            intro g
            simp only [goods, Bool.and_eq_true] at g
            have k1 := ih g.2
            have k2 := wr_len e g.1
            simp only [List.map_cons, List.sum_cons, tsizes, S_len] at k1 ⊢
            omega
        have hsm := hsm ds hgs
        simp only [tsize] at hz
        refine i_join (.inl (.inl (.inl ha))) (by rw [List.length_map]; show _ + _ * 1 ≤ _; omega) ?_
        have e2 : Txt.join (Str.ofString " ") (ds.map fun d => S (wr d)) = S (wrs ds) := by
          rw [wrs_inter, ← join_S, List.map_map]; rfl
        rw [e2]
        refine i_add_s (szl (by show 1 + (wrs ds).length ≤ 100000; omega)) ?_
        walk_at "rd"
        refine i_add_s (szl (by rw [app_len]; show 1 + (wrs ds).length + 1 ≤ 100000; omega)) ?_
        have e : Str.ofString "(" ++ S (wrs ds) ++ Str.ofString ")" = S (wr (.tuple ds)) := S_ext (by rw [app_list, app_list]; rfl)
        rw [e]
        exact q _ s1
end
end Aw

namespace Aw
open PySem PySem.Spec PyProof.Rows L2

local macro_rules | `(tactic| walk_at "rd1") => `(tactic| first
  | ((with_reducible apply i_var); exact rfl)
  | with_reducible refine i_c ?_
  | with_reducible refine i_op ?_
  | with_reducible refine i_test ?_
  | with_reducible refine i_tB ?_
  | with_reducible refine i_bl ?_
  | with_reducible refine i_and ?_
  | with_reducible refine i_or ?_
  | with_reducible refine i_not ?_
  | with_reducible refine i_andV ?_
  | with_reducible refine i_orV ?_
  | with_reducible refine i_notV ?_
  | with_reducible refine i_if ?_
  | with_reducible refine i_chain ?_
  | with_reducible refine i_nil ?_
  | with_reducible refine i_cons ?_
  | with_reducible refine i_tup ?_
  | with_reducible refine i_lst ?_
  | with_reducible refine i_cb ?_
  | with_reducible refine i_call ?_
  | with_reducible refine i_bm ?_
  | with_reducible refine i_m1 ?_
  | with_reducible refine i_m0 ?_
  | with_reducible refine i_exstr ?_
  | with_reducible refine i_sl ?_
  | with_reducible refine i_nopart ?_
  | with_reducible refine i_part ?_
  | with_reducible refine i_int ?_
  | with_reducible refine i_seq ?_
  | with_reducible refine i_next ?_
  | with_reducible refine i_asg ?_
  | with_reducible refine i_gname ?_
  | with_reducible refine i_ret ?_
  | with_reducible refine i_retN ?_
  | with_reducible refine i_drop ?_
  | with_reducible refine i_ifS ?_
  | with_reducible refine i_break ?_
  | with_reducible refine i_cont ?_
  | ((with_reducible apply i_aug); exact rfl)
  | with_reducible refine i_add_i ?_
  | with_reducible refine i_sub ?_
  | with_reducible refine i_neg ?_
  | with_reducible refine i_ipadd_i ?_
  | with_reducible refine i_ip ?_
  | with_reducible refine i_lt ?_
  | with_reducible refine i_le ?_
  | with_reducible refine i_gt ?_
  | with_reducible refine i_ge ?_
  | with_reducible refine i_lt_s ?_
  | with_reducible refine i_le_s ?_
  | with_reducible refine i_gt_s ?_
  | with_reducible refine i_ge_s ?_
  | with_reducible refine i_isN ?_
  | with_reducible refine i_notN ?_
  | with_reducible refine i_in_c ?_
  | with_reducible refine i_nin_c ?_
  | with_reducible refine i_gsub ?_
  | with_reducible refine i_gcons ?_
  | with_reducible refine i_gnil ?_
  | with_reducible refine i_iList ?_
  | with_reducible refine i_iTup ?_
  | with_reducible refine i_iStr ?_
  | with_reducible refine i_iRng1 ?_
  | with_reducible refine i_lc ?_
  | with_reducible refine i_for ?_
  | with_reducible refine i_yes ?_
  | with_reducible refine i_repl ?_
  | with_reducible refine i_meth ?_
  | with_reducible refine i_fld ?_
  | with_reducible refine i_sfld ?_
  | with_reducible refine i_din ?_
  | with_reducible refine i_dnin ?_
  | with_reducible refine i_dget ?_
  | with_reducible refine i_dput ?_
  | with_reducible refine iteT ?_
  | with_reducible refine iteF ?_
  | with_reducible refine iteNT ?_
  | with_reducible refine iteNF ?_
  | ((with_reducible refine i_len_s ?_ ?_); (first | assumption | exact szl (by assumption)))
  | ((with_reducible refine i_sl_s ?_ ?_); (first | assumption | exact szl (by assumption)))
  | with_reducible refine i_int_b ?_
  | with_reducible refine i_abs ?_
  | with_reducible refine i_min2 ?_
  | with_reducible refine i_eq rfl ?_
  | with_reducible refine i_ne rfl ?_)
local macro_rules | `(tactic| walk_at "rd") => `(tactic| repeat walk_at "rd1")

abbrev s_row_from : Stmt := topS 21
theorem sc_row_from : FnScope ["text", "at", "deep", "parts", "part"] ["text", "at", "deep"] (defScope s_row_from) := ⟨rfl, rfl, rfl, by decide +kernel, rfl, by decide +kernel, by decide +kernel⟩
abbrev s_tree_from : Stmt := topS 22
theorem sc_tree_from : FnScope ["text", "at", "deep"] ["text", "at", "deep"] (defScope s_tree_from) := ⟨rfl, rfl, rfl, by decide +kernel, rfl, by decide +kernel, by decide +kernel⟩
abbrev s_read_tree : Stmt := topS 23
theorem sc_read_tree : FnScope ["text", "tree"] ["text"] (defScope s_read_tree) := ⟨rfl, rfl, rfl, by decide +kernel, rfl, by decide +kernel, by decide +kernel⟩
section
variable {P : Program} {w : World} {K : PySem.W.Frag} {mg : Str → Option Value} {base : Heap}
def chrV (c : Nat) : V := .str ⟨#[c]⟩
theorem esc_snoc {l : List Nat} {k c : Nat} (h : l[k]? = some c) : esc (l.take (k + 1)) = esc (l.take k) ++ (if c = 92 ∨ c = 34 then [92, c] else [c]) := by
  rw [take_snoc h, esc_app, esc_cons, esc_nil, List.append_nil]
theorem esc_ge : ∀ L : List Nat, L.length ≤ (esc L).length
  | [] => Nat.le_refl _
  | d :: r => by
    have ih := esc_ge r
    rw [esc_cons, List.length_append, List.length_cons]
    split <;> simp <;> omega
/-- a text that is written: read from behind its first sign -/
def spTextFrom (K : PySem.W.Frag) : Sp := fun vs H Q _ => ∃ (T z : Str) (p : Nat) (post : List Nat), vs = [.str T, .int (p : Nat)] ∧ T.length ≤ 100000 ∧ T.cps.toList.drop p = esc z.cps.toList ++ 34 :: post ∧
  ∀ H' v, Same H H' → Dt K H' (.tuple [.str z, .int ((p + (esc z.cps.toList).length + 1 : Nat) : Int)]) v → Q v H'
theorem ok_text_from (D : Df K mg "text_from" "text_from" s_text_from ["text", "at"]) (B : NoB mg) : Cal P w K mg base CX0 "text_from" ["text", "at"] 1 (spTextFrom K) := by
  refine D.cal fun f fd F => F.ok sc_text_from (fun vs H Q E h => ?_) (fun cdv A outer s H vs Q E hr h => ?_)
  · obtain ⟨_, _, _, _, rfl, _⟩ := h
    rfl
  · obtain ⟨T, z, p, post, rfl, hT, hd, q⟩ := h
    refine ⟨_, (pss_cons (ps_set (i := 2) sc_text_from.nd rfl (.inl rfl) (pe_lst pa_nil))
      (pss_cons (ps_while PassesOwn.never (pt_cmpR (op_neU K hr.units) (pe_slice (sl_U K) (pv 0) (po_some (pv 1)) (po_some (pe_op (op_addU K) (pv 1) pe_int))) pe_str (nomark _)) (pss_cons (ps_if (pt_cmpR (op_eqU K hr.units) (pe_slice (sl_U K) (pv 0) (po_some (pv 1)) (po_some (pe_op (op_addU K) (pv 1) pe_int))) pe_str (nomark _)) (pss_one (ps_aug (i := 1) sc_text_from.nd rfl (.inl rfl) pe_int ip_addU)) pss_nil)
      (pss_cons (ps_if (pt_cmpR op_geU (pv 1) (pe_callB (call_lenU K) (by rfl) B.m_len (by decide +kernel) (pa_cons (pv 0) pa_nil)) (nomark _)) (pss_one ps_never) pss_nil)
      (pss_cons (ps_expr (pe_bmU K PySem.F.plainAttrs_list PySem.F.slot_list_append PySem.F.type_list_append mt_append (pv 2) (pa_cons (pe_ix (ix_U K) (pv 0) (pv 1) (fun _ _ => rfl)) pa_nil)))
      (pss_one (ps_aug (i := 1) sc_text_from.nd rfl (.inl rfl) pe_int ip_addU))))))
      (pss_one (ps_ret (pe_tup (pa_cons (pe_joinU K pe_str (pv 2)) (pa_cons (pe_op (op_addU K) (pv 1) pe_int) pa_nil))))))), ?_⟩
    walk_at "rd"
    refine i_new_l (by exact Nat.zero_le _) fun l H0 nl s0 e0 => ?_
    walk_at "rd"
    refine i_while (fun m σ H1 => ∃ k, k ≤ z.cps.toList.length ∧ m = z.cps.toList.length - k ∧ σ = [some (.str T), some (.int ((p + (esc (z.cps.toList.take k)).length : Nat) : Int)), some (.ref l)] ∧ Same H H1 ∧ H1 l = some (.lst ((z.cps.toList.take k).map chrV))) z.cps.toList.length ⟨0, Nat.zero_le _, rfl, rfl, s0, e0⟩ ?_
    rintro m σ H1 ⟨k, hk, rfl, rfl, s1, e1⟩
    have hp : T.cps.toList.drop (p + (esc (z.cps.toList.take k)).length) = esc (z.cps.toList.drop k) ++ 34 :: post := by
      refine drop_app (a := esc (z.cps.toList.take k)) ?_
      rw [hd, ← List.append_assoc, ← esc_app, List.take_append_drop]
    walk_at "rd"
    by_cases hk2 : k < z.cps.toList.length
    · -- a sign more
      have hc : z.cps.toList[k]? = some (z.cps.toList[k]'hk2) := List.getElem?_eq_getElem hk2
      have hdr : z.cps.toList.drop k = (z.cps.toList[k]'hk2) :: z.cps.toList.drop (k + 1) := List.drop_eq_getElem_cons hk2
      generalize (z.cps.toList[k]'hk2) = c at hc hdr
      rw [hdr, esc_cons] at hp
      have hes := esc_snoc hc
      by_cases he : c = 92 ∨ c = 34
      · rw [if_pos he] at hp hes
        have hp1 : T.cps.toList.drop (p + (esc (z.cps.toList.take k)).length) = 92 :: (c :: (esc (z.cps.toList.drop (k + 1)) ++ 34 :: post)) := hp
        have hp2 := drop_next hp1
        have hlt := drop_lt hp2
        rw [cut_one hp1]
        refine iteT ?_
        refine ⟨_, fun σ' H' h => h, ?_⟩
        walk_at "rd"
        rw [cut_one hp1]
        refine iteT ?_
        walk_at "rd"
        have e2 : (((p + (esc (z.cps.toList.take k)).length : Nat) : Int) + 1) = ((p + (esc (z.cps.toList.take k)).length + 1 : Nat) : Int) := by omega
        rw [e2]
        rw [decide_eq_false (by omega : ¬ (((p + (esc (z.cps.toList.take k)).length + 1 : Nat) : Int) ≥ (T.length : Int)))]
        walk_at "rd"
        refine i_tyl e1 ?_
        walk_at "rd"
        refine i_ix_s (szl hT) (atI_nat (drop_at hp2)) ?_
        walk_at "rd"
        refine i_append e1 (szlt (by
          rw [List.length_map, List.length_take]
          have h3 := congrArg List.length hd
          rw [List.length_drop, len_list, List.length_append] at h3
          have := esc_ge z.cps.toList
          omega)) fun H2 b2 e3 => ?_
        walk_at "rd"
        refine ⟨z.cps.toList.length - (k + 1), by omega, k + 1, hk2, rfl, ?_, Same.but s1 nl b2, ?_⟩
        · rw [hes, List.length_append]
          show [_, _, _] = _
          have e4 : (((p + (esc (z.cps.toList.take k)).length + 1 : Nat) : Int) + 1) = ((p + ((esc (z.cps.toList.take k)).length + [92, c].length) : Nat) : Int) := by simp only [List.length_cons, List.length_nil]; omega
          rw [e4]
        · rw [e3, take_snoc hc, List.map_append]; rfl
      · rw [if_neg he] at hp hes
        have hp1 : T.cps.toList.drop (p + (esc (z.cps.toList.take k)).length) = c :: (esc (z.cps.toList.drop (k + 1)) ++ 34 :: post) := hp
        have hlt := drop_lt hp1
        have n1 : ¬ c = 34 := fun q => he (.inr q)
        have n2 : ¬ c = 92 := fun q => he (.inl q)
        have d1 : decide (V.str ⟨#[c]⟩ = V.str (Str.ofString "\"")) = false := by
          rw [decS]; exact decide_eq_false fun q => n1 (by have := S_inj (show S [c] = S [34] from q); simpa using this)
        have d2 : decide (V.str ⟨#[c]⟩ = V.str (Str.ofString "\\")) = false := by
          rw [decS]; exact decide_eq_false fun q => n2 (by have := S_inj (show S [c] = S [92] from q); simpa using this)
        rw [cut_one hp1, d1]
        walk_at "rd"
        refine ⟨_, fun σ' H' h => h, ?_⟩
        walk_at "rd"
        rw [cut_one hp1, d2]
        walk_at "rd"
        rw [decide_eq_false (by omega : ¬ (((p + (esc (z.cps.toList.take k)).length : Nat) : Int) ≥ (T.length : Int)))]
        walk_at "rd"
        refine i_tyl e1 ?_
        walk_at "rd"
        refine i_ix_s (szl hT) (atI_nat (drop_at hp1)) ?_
        walk_at "rd"
        refine i_append e1 (szlt (by
          rw [List.length_map, List.length_take]
          have h3 := congrArg List.length hd
          rw [List.length_drop, len_list, List.length_append] at h3
          have := esc_ge z.cps.toList
          omega)) fun H2 b2 e3 => ?_
        walk_at "rd"
        refine ⟨z.cps.toList.length - (k + 1), by omega, k + 1, hk2, rfl, ?_, Same.but s1 nl b2, ?_⟩
        · rw [hes, List.length_append]
          show [_, _, _] = _
          have e4 : (((p + (esc (z.cps.toList.take k)).length : Nat) : Int) + 1) = ((p + ((esc (z.cps.toList.take k)).length + [c].length) : Nat) : Int) := by simp only [List.length_cons, List.length_nil]; omega
          rw [e4]
        · rw [e3, take_snoc hc, List.map_append]; rfl
    · -- the end
      have ek : k = z.cps.toList.length := by omega
      subst ek
      rw [List.drop_length, esc_nil, List.nil_append] at hp
      rw [cut_one hp]
      refine iteF ?_
      walk_at "rd"
      rw [List.take_length] at e1 ⊢
      have e5 : z.cps.toList.map chrV = (z.cps.toList.map fun c => S [c]).map V.str := by rw [List.map_map]; rfl
      rw [e5] at e1
      have hzl : z.cps.toList.length ≤ 100000 := by
        have h3 := congrArg List.length hd
        rw [List.length_drop, len_list, List.length_append] at h3
        have := esc_ge z.cps.toList
        omega
      have hsum : ∀ L : List Nat, ((L.map fun c => S [c]).map (·.length)).sum = L.length := by
        intro L
        induction L with
        | nil => rfl
        | cons c r ih => rw [List.map_cons, List.map_cons, List.sum_cons, ih, List.length_cons]; show 1 + _ = _; omega
      refine i_join (.inl (.inl (.inl e1))) (by rw [hsum]; show _ + _ * 0 ≤ _; omega) ?_
      have e6 : Txt.join (Str.ofString "") (z.cps.toList.map fun c => S [c]) = z := by
        have h := join_S [] (z.cps.toList.map fun c => [c])
        rw [List.map_map, inter_nil] at h
        have h2 : (z.cps.toList.map fun c => [c]).flatten = z.cps.toList := by
          generalize z.cps.toList = L
          induction L with
          | nil => rfl
          | cons c r ih => rw [List.map_cons, List.flatten_cons, ih]; rfl
        rw [h2, S_of] at h
        exact h
      rw [e6]
      walk_at "rd"
      refine i_new_t (by show 2 ≤ sizeLine; decide) fun t H2 nt s2 e7 => ?_
      refine q H2 _ (s1.trans s2) (dt_tup (.inl (.inl e7)) (dts_cons dt_str (dts_cons ?_ dts_nil)))
      have e8 : (((p + (esc z.cps.toList).length : Nat) : Int) + 1) = ((p + (esc z.cps.toList).length + 1 : Nat) : Int) := by omega
      rw [e8]
      exact dt_int
theorem wr_head {d : PyData} (h : good d = true) : ∃ c r, wr d = c :: r ∧ (c = 34 ∨ c = 40) := by
  rcases good_cases h with ⟨z, rfl, _⟩ | ⟨ds, rfl, _⟩
  · exact ⟨34, _, rfl, .inl rfl⟩
  · exact ⟨40, _, rfl, .inr rfl⟩
theorem wrs_cons (d : PyData) (ds : List PyData) : wrs (d :: ds) = wr d ++ (if ds = [] then [] else 32 :: wrs ds) := by
  cases ds with
  | nil => rw [if_pos rfl, List.append_nil]; rfl
  | cons e r => rw [if_neg (by simp)]; rfl
theorem dS {c : Nat} {z : Str} {d : Nat} (h : z = S [d]) : decide (V.str ⟨#[c]⟩ = V.str z) = decide (c = d) := by
  rw [decS, h]
  by_cases e : c = d
  · subst e; rw [decide_eq_true rfl]; exact decide_eq_true rfl
  · rw [decide_eq_false e]; exact decide_eq_false fun q => e (by have := S_inj (show S [c] = S [d] from q); simpa using this)
theorem Dt.pair {H : Hp} {a b : PyData} {v : V} (h : Dt K H (.tuple [a, b]) v) : ∃ p x y, v = .ref p ∧ SqT K H p [x, y] ∧ Dt K H a x ∧ Dt K H b y := by
  obtain ⟨p, xs, e, s, q⟩ := h.tup
  obtain ⟨x, r, rfl, qx, q⟩ := q.cons
  obtain ⟨y, r, rfl, qy, q⟩ := q.cons
  rw [q.nil] at s
  exact ⟨p, x, y, e, s, qx, qy⟩
def spTreeFrom (K : PySem.W.Frag) (n : Nat) : Sp := fun vs H Q _ => ∃ (T : Str) (d : PyData) (p k : Nat) (post : List Nat), vs = [.str T, .int (p : Nat), .int (k : Nat)] ∧ T.length ≤ 100000 ∧ T.cps.toList.drop p = wr d ++ post ∧ good d = true ∧ tdeep d ≤ k ∧ tdeep d < n ∧
  ∀ H' v, Same H H' → Dt K H' (.tuple [d, .int ((p + (wr d).length : Nat) : Int)]) v → Q v H'
def spRowFrom (K : PySem.W.Frag) (n : Nat) : Sp := fun vs H Q _ => ∃ (T : Str) (ds : List PyData) (p k : Nat) (post : List Nat), vs = [.str T, .int (p : Nat), .int (k : Nat)] ∧ T.length ≤ 100000 ∧ T.cps.toList.drop p = wrs ds ++ 41 :: post ∧ goods ds = true ∧ ds.length ≤ 40 ∧ tdeeps ds ≤ k ∧ tdeeps ds < n ∧
  ∀ H' v, Same H H' → Dt K H' (.tuple [.tuple ds, .int ((p + (wrs ds).length + 1 : Nat) : Int)]) v → Q v H'
theorem ok_row_from (D : Df K mg "row_from" "row_from" s_row_from ["text", "at", "deep"]) (B : NoB mg) {n k : Nat} (C_tree_from : Cal P w K mg base CX0 "tree_from" ["text", "at", "deep"] k (spTreeFrom K n)) : Cal P w K mg base CX0 "row_from" ["text", "at", "deep"] (k + 1) (spRowFrom K n) := by
  refine D.cal fun f fd F => F.ok sc_row_from (fun vs H Q E h => ?_) (fun cdv A outer s H vs Q E hr h => ?_)
  · obtain ⟨_, _, _, _, _, rfl, _⟩ := h
    rfl
  · obtain ⟨T, ds, p, kk, post, rfl, hT, hd, hg, h40, hk, hn, q⟩ := h
    refine ⟨_, (pss_cons (ps_set (i := 3) sc_row_from.nd rfl (.inl rfl) (pe_lst pa_nil))
      (pss_cons (ps_while PassesOwn.never (pt_cmpR (op_neU K hr.units) (pe_slice (sl_U K) (pv 0) (po_some (pv 1)) (po_some (pe_op (op_addU K) (pv 1) pe_int))) pe_str (nomark _)) (pss_cons (ps_asg (pe_cal C_tree_from hr (by rfl) (pa_cons (pv 0) (pa_cons (pv 1) (pa_cons (pv 2) pa_nil))) (by omega)) (pg_tupU K (by rfl) (pgs_cons (pg_name (i := 4) sc_row_from.nd rfl (.inl rfl)) (pgs_cons (pg_name (i := 1) sc_row_from.nd rfl (.inl rfl)) pgs_nil))))
      (pss_cons (ps_expr (pe_bmU K PySem.F.plainAttrs_list PySem.F.slot_list_append PySem.F.type_list_append mt_append (pv 3) (pa_cons (pv 4) pa_nil)))
      (pss_one (ps_if (pt_cmpR (op_eqU K hr.units) (pe_slice (sl_U K) (pv 0) (po_some (pv 1)) (po_some (pe_op (op_addU K) (pv 1) pe_int))) pe_str (nomark _)) (pss_one (ps_aug (i := 1) sc_row_from.nd rfl (.inl rfl) pe_int ip_addU)) (pss_one (ps_if (pt_cmpR (op_neU K hr.units) (pe_slice (sl_U K) (pv 0) (po_some (pv 1)) (po_some (pe_op (op_addU K) (pv 1) pe_int))) pe_str (nomark _)) (pss_one ps_never) pss_nil)))))))
      (pss_one (ps_ret (pe_tup (pa_cons (pe_callTy (call_tupU K) (by rfl) B.m_tuple (by decide +kernel) (pa_cons (pv 3) pa_nil)) (pa_cons (pe_op (op_addU K) (pv 1) pe_int) pa_nil))))))), ?_⟩
    walk_at "rd"
    refine i_new_l (by exact Nat.zero_le _) fun l H0 nl s0 e0 => ?_
    walk_at "rd"
    refine i_while (fun m σ H1 => ∃ (i p' : Nat) (y : Option V) (xs : List V), i ≤ ds.length ∧ m = ds.length - i ∧ σ = [some (.str T), some (.int (p' : Nat)), some (.int (kk : Nat)), some (.ref l), y] ∧ Same H H1 ∧ H1 l = some (.lst xs) ∧ Dts K H1 (ds.take i) xs ∧
        T.cps.toList.drop p' = wrs (ds.drop i) ++ 41 :: post ∧ p' + (wrs (ds.drop i)).length = p + (wrs ds).length) ds.length ⟨0, p, none, [], Nat.zero_le _, rfl, rfl, s0, e0, dts_nil, hd, rfl⟩ ?_
    rintro m σ H1 ⟨i, p', y, xs, hi, rfl, rfl, s1, e1, hx, hp, hpp⟩
    walk_at "rd"
    by_cases hi2 : i < ds.length
    · have hc : ds[i]? = some (ds[i]'hi2) := List.getElem?_eq_getElem hi2
      have hdr : ds.drop i = (ds[i]'hi2) :: ds.drop (i + 1) := List.drop_eq_getElem_cons hi2
      generalize (ds[i]'hi2) = d at hc hdr
      have gd := goods_get hg hc
      have hm := List.mem_of_getElem? hc
      obtain ⟨c, r, ew, ec⟩ := wr_head gd
      rw [hdr, wrs_cons] at hp hpp
      have hp1 : T.cps.toList.drop p' = c :: (r ++ (if ds.drop (i + 1) = [] then [] else 32 :: wrs (ds.drop (i + 1))) ++ 41 :: post) := by rw [hp, ew]; rfl
      rw [cut_one hp1, dS (z := ")") (d := 41) rfl, decide_eq_false (by omega : ¬ c = 41)]
      refine iteNF ?_
      refine ⟨_, fun σ' H' h => h, ?_⟩
      walk_at "rd"
      have t1 := tdeeps_mem hm
      refine ⟨T, d, p', kk, _, rfl, hT, (by rw [hp, List.append_assoc]), gd, by omega, by omega, fun H2 v s2 hv => ?_⟩
      obtain ⟨a, x, y2, rfl, hs, hvx, hvy⟩ := hv.pair
      cases hvy.int
      walk_at "rd"
      refine i_gtup hs rfl ?_
      walk_at "rd"
      have e2 := s2 _ _ e1
      refine i_tyl e2 ?_
      walk_at "rd"
      have hxl := hx.length
      rw [List.length_take] at hxl
      refine i_append e2 (szlt (by omega)) fun H3 b3 e3 => ?_
      have hx3 : Dts K H3 (ds.take (i + 1)) (xs ++ [x]) := by
        rw [take_snoc hc]
        exact ((hx.mono (.same s2)).snoc hvx).mono (.but b3 e2)
      walk_at "rd"
      have hp2 := drop_app (a := wr d) (r := (if ds.drop (i + 1) = [] then [] else 32 :: wrs (ds.drop (i + 1))) ++ 41 :: post) (by rw [hp, List.append_assoc])
      by_cases hlast : ds.drop (i + 1) = []
      · rw [if_pos hlast] at hp2 hpp
        rw [List.nil_append] at hp2
        rw [cut_one hp2, dS (z := " ") (d := 32) rfl, decide_eq_false (by omega : ¬ 41 = 32)]
        walk_at "rd"
        rw [cut_one hp2, dS (z := ")") (d := 41) rfl, decide_eq_true rfl]
        walk_at "rd"
        rw [List.append_nil] at hpp
        refine ⟨ds.length - (i + 1), by omega, i + 1, _, _, _, hi2, rfl, rfl, Same.but (s1.trans s2) nl b3, e3, hx3, ?_, ?_⟩
        · rw [hlast]; exact hp2
        · rw [hlast]; show _ + 0 = _; omega
      · rw [if_neg hlast] at hp2 hpp
        rw [cut_one hp2, dS (z := " ") (d := 32) rfl, decide_eq_true rfl]
        walk_at "rd"
        refine ⟨ds.length - (i + 1), by omega, i + 1, p' + (wr d).length + 1, some x, _, hi2, rfl, ?_, Same.but (s1.trans s2) nl b3, e3, hx3, ?_, ?_⟩
        · show [_, _, _, _, _] = _
          have e4 : (((p' + (wr d).length : Nat) : Int) + 1) = ((p' + (wr d).length + 1 : Nat) : Int) := by omega
          rw [e4]
        · exact drop_next hp2
        · rw [List.length_append, List.length_cons] at hpp
          omega
    · have ei : i = ds.length := by omega
      subst ei
      rw [List.drop_length] at hp hpp
      have hp1 : T.cps.toList.drop p' = 41 :: post := hp
      rw [cut_one hp1, dS (z := ")") (d := 41) rfl, decide_eq_true rfl]
      refine iteNT ?_
      walk_at "rd"
      refine i_tupof_l (.inl (.inl e1)) fun t H2 nt s2 e2 => ?_
      walk_at "rd"
      refine i_new_t (by show 2 ≤ sizeLine; decide) fun u H3 nu s3 e3 => ?_
      rw [List.take_length] at hx
      refine q H3 _ ((s1.trans s2).trans s3) (dt_tup (.inl (.inl e3)) (dts_cons (dt_tup (.inl (.inl (s3 _ _ e2))) (hx.mono (.same (s2.trans s3)))) (dts_cons ?_ dts_nil)))
      have e8 : ((p' : Nat) : Int) + 1 = ((p + (wrs ds).length + 1 : Nat) : Int) := by
        have : (wrs ([] : List PyData)).length = 0 := rfl
        omega
      rw [e8]
      exact dt_int
theorem ok_tree_from (D : Df K mg "tree_from" "tree_from" s_tree_from ["text", "at", "deep"]) (DR : Df K mg "row_from" "row_from" s_row_from ["text", "at", "deep"]) (B : NoB mg) (C_text_from : Cal P w K mg base CX0 "text_from" ["text", "at"] 1 (spTextFrom K)) :
    ∀ n, Cal P w K mg base CX0 "tree_from" ["text", "at", "deep"] (2 * n + 2) (spTreeFrom K n) := by
  refine D.turns (fun n => 2 * n + 2) (spTreeFrom K) (fun vs H Q E h => ?_) (fun n f fd F C => ?_)
  · obtain ⟨_, _, _, _, _, _, _, _, _, _, h, _⟩ := h
    omega
  have C_row_from := ok_row_from DR B C
  show FnOk P w K mg base CX0 ((2 * n + 2 + 1) + 1) f fd _ _
  refine F.ok sc_tree_from (fun vs H Q E h => ?_) (fun cdv A outer s H vs Q E hr h => ?_)
  · obtain ⟨_, _, _, _, _, rfl, _⟩ := h
    rfl
  · obtain ⟨T, d, p, kk, post, rfl, hT, hd, hg, hk, hn, q⟩ := h
    refine ⟨_, (pss_cons (ps_if (pt_cmpR (op_eqU K hr.units) (pv 2) pe_int (nomark _)) (pss_one ps_never) pss_nil)
      (pss_cons (ps_if (pt_cmpR (op_eqU K hr.units) (pe_slice (sl_U K) (pv 0) (po_some (pv 1)) (po_some (pe_op (op_addU K) (pv 1) pe_int))) pe_str (nomark _)) (pss_one (ps_ret (pe_cal C_text_from hr (by rfl) (pa_cons (pv 0) (pa_cons (pe_op (op_addU K) (pv 1) pe_int) pa_nil)) (by omega)))) pss_nil)
      (pss_cons (ps_if (pt_cmpR (op_eqU K hr.units) (pe_slice (sl_U K) (pv 0) (po_some (pv 1)) (po_some (pe_op (op_addU K) (pv 1) pe_int))) pe_str (nomark _)) (pss_one (ps_ret (pe_cal C_row_from hr (by rfl) (pa_cons (pv 0) (pa_cons (pe_op (op_addU K) (pv 1) pe_int) (pa_cons (pe_op op_subU (pv 2) pe_int) pa_nil))) (by omega)))) pss_nil)
      (pss_one ps_never)))), ?_⟩
    have hk1 : 1 ≤ tdeep d := by cases d <;> simp [tdeep]
    walk_at "rd"
    rw [decI, decide_eq_false (by omega : ¬ (kk : Int) = 0)]
    walk_at "rd"
    rcases good_cases hg with ⟨z, rfl, hl, hp⟩ | ⟨ds, rfl, hl, hgs⟩
    · have hp1 : T.cps.toList.drop p = 34 :: (esc z.cps.toList ++ 34 :: post) := by rw [hd]; simp [wr]
      rw [cut_one hp1, dS (z := "\"") (d := 34) rfl, decide_eq_true rfl]
      walk_at "rd"
      refine ⟨T, z, p + 1, post, ?_, hT, drop_next hp1, fun H1 v s1 hv => ?_⟩
      · show [_, _] = _
        have e : ((p : Int) + 1) = ((p + 1 : Nat) : Int) := by omega
        rw [e]
      · refine q H1 v s1 ?_
        have e : p + (wr (.str z)).length = p + 1 + (esc z.cps.toList).length + 1 := by simp [wr]; omega
        rw [e]
        exact hv
    · have hp1 : T.cps.toList.drop p = 40 :: (wrs ds ++ 41 :: post) := by rw [hd]; simp [wr]
      rw [cut_one hp1, dS (z := "\"") (d := 34) rfl, decide_eq_false (by omega : ¬ 40 = 34)]
      walk_at "rd"
      rw [cut_one hp1, dS (z := "(") (d := 40) rfl, decide_eq_true rfl]
      walk_at "rd"
      simp only [tdeep] at hk hn
      refine ⟨T, ds, p + 1, kk - 1, post, ?_, hT, drop_next hp1, hgs, hl, by omega, by omega, fun H1 v s1 hv => ?_⟩
      · show [_, _, _] = _
        have e : ((p : Int) + 1) = ((p + 1 : Nat) : Int) := by omega
        have e2 : ((kk : Int) - 1) = ((kk - 1 : Nat) : Int) := by omega
        rw [e, e2]
      · refine q H1 v s1 ?_
        have e : p + (wr (.tuple ds)).length = p + 1 + (wrs ds).length + 1 := by simp [wr]; omega
        rw [e]
        exact hv
/-- what is written of a good tree is read -/
def spReadTree (K : PySem.W.Frag) : Sp := fun vs H Q _ => ∃ d : PyData, vs = [.str (S (wr d))] ∧ treeOk d = true ∧ ∀ H' v, Same H H' → Dt K H' d v → Q v H'
theorem ok_read_tree (D : Df K mg "read_tree" "read_tree" s_read_tree ["text"]) (B : NoB mg) (G : GTrees mg) (C_tree_from : Cal P w K mg base CX0 "tree_from" ["text", "at", "deep"] 28 (spTreeFrom K 13))
    (C_is_tree : Cal P w K mg base CX0 "is_tree" ["value"] 15 (spIsTree K)) (C_tree_text : Cal P w K mg base CX0 "tree_text" ["tree"] 14 (spTreeText K 13)) : Cal P w K mg base CX0 "read_tree" ["text"] 29 (spReadTree K) := by
  have g_MOST_DEEP := G.deep
  refine D.cal fun f fd F => F.ok sc_read_tree (fun vs H Q E h => ?_) (fun cdv A outer s H vs Q E hr h => ?_)
  · obtain ⟨_, rfl, _⟩ := h
    rfl
  · obtain ⟨d, rfl, hok, q⟩ := h
    have hgd := treeOk_good hok
    have hwl := wr_len d hgd.g
    have hsz := hgd.sz
    have hdp := hgd.dp
    refine ⟨_, (pss_cons (ps_set (i := 1) sc_read_tree.nd rfl (.inl rfl) (pe_ix (ix_U K) (pe_cal C_tree_from hr (by rfl) (pa_cons (pv 0) (pa_cons pe_int (pa_cons (pe_gv (by rfl) g_MOST_DEEP) pa_nil)))) pe_int (fun _ _ => rfl)))
      (pss_cons (ps_if (PW.pt (pw_or (pt_not (pt_val (pe_cal C_is_tree hr (by rfl) (pa_cons (pv 1) pa_nil)))) (pw_or1 (pt_cmpR (op_neU K hr.units) (pe_cal C_tree_text hr (by rfl) (pa_cons (pv 1) pa_nil)) (pv 0) (nomark _))))) (pss_one ps_never) pss_nil)
      (pss_one (ps_ret (pv 1))))), ?_⟩
    walk_at "rd"
    refine ⟨S (wr d), d, 0, 12, [], rfl, by rw [S_len]; omega, by rw [List.append_nil]; rfl, hgd.g, hdp, by omega, fun H1 v s1 hv => ?_⟩
    obtain ⟨a, x, y, rfl, hs, hvx, hvy⟩ := hv.pair
    walk_at "rd"
    refine i_ix_t hs (atI_nat (j := 0) rfl) ?_
    walk_at "rd"
    refine ⟨x, d, rfl, hvx, lim_good d hgd.g, fun H2 s2 => ?_⟩
    rw [hok]
    walk_at "rd"
    refine ⟨x, d, rfl, hvx.mono (.same s2), hgd.g, by omega, by omega, fun H3 s3 => ?_⟩
    walk_at "rd"
    rw [decide_eq_true rfl]
    walk_at "rd"
    exact q H3 x ((s1.trans s2).trans s3) (hvx.mono (.same (s2.trans s3)))
end
end Aw

namespace Aw
open PySem PySem.Spec PyProof.Rows L2

local macro_rules | `(tactic| walk_at "rd1") => `(tactic| first
  | ((with_reducible apply i_var); exact rfl)
  | with_reducible refine i_c ?_
  | with_reducible refine i_op ?_
  | with_reducible refine i_un ?_
  | with_reducible refine i_test ?_
  | with_reducible refine i_tB ?_
  | with_reducible refine i_bl ?_
  | with_reducible refine i_and ?_
  | with_reducible refine i_or ?_
  | with_reducible refine i_not ?_
  | with_reducible refine i_andV ?_
  | with_reducible refine i_orV ?_
  | with_reducible refine i_notV ?_
  | with_reducible refine i_if ?_
  | with_reducible refine i_chain ?_
  | with_reducible refine i_nil ?_
  | with_reducible refine i_cons ?_
  | with_reducible refine i_tup ?_
  | with_reducible refine i_lst ?_
  | with_reducible refine i_cb ?_
  | with_reducible refine i_call ?_
  | with_reducible refine i_bm ?_
  | with_reducible refine i_m1 ?_
  | with_reducible refine i_m0 ?_
  | with_reducible refine i_exstr ?_
  | with_reducible refine i_sl ?_
  | with_reducible refine i_nopart ?_
  | with_reducible refine i_part ?_
  | with_reducible refine i_int ?_
  | with_reducible refine i_seq ?_
  | with_reducible refine i_next ?_
  | with_reducible refine i_asg ?_
  | with_reducible refine i_gname ?_
  | with_reducible refine i_ret ?_
  | with_reducible refine i_retN ?_
  | with_reducible refine i_drop ?_
  | with_reducible refine i_ifS ?_
  | with_reducible refine i_break ?_
  | with_reducible refine i_cont ?_
  | ((with_reducible apply i_aug); exact rfl)
  | with_reducible refine i_add_i ?_
  | with_reducible refine i_sub ?_
  | with_reducible refine i_neg ?_
  | with_reducible refine i_ipadd_i ?_
  | with_reducible refine i_ip ?_
  | with_reducible refine i_lt ?_
  | with_reducible refine i_le ?_
  | with_reducible refine i_gt ?_
  | with_reducible refine i_ge ?_
  | with_reducible refine i_lt_s ?_
  | with_reducible refine i_le_s ?_
  | with_reducible refine i_gt_s ?_
  | with_reducible refine i_ge_s ?_
  | with_reducible refine i_isN ?_
  | with_reducible refine i_notN ?_
  | with_reducible refine i_in_c ?_
  | with_reducible refine i_nin_c ?_
  | with_reducible refine i_gsub ?_
  | with_reducible refine i_gcons ?_
  | with_reducible refine i_gnil ?_
  | with_reducible refine i_iList ?_
  | with_reducible refine i_iTup ?_
  | with_reducible refine i_iStr ?_
  | with_reducible refine i_iRng1 ?_
  | with_reducible refine i_lc ?_
  | with_reducible refine i_for ?_
  | with_reducible refine i_yes ?_
  | with_reducible refine i_repl ?_
  | with_reducible refine i_meth ?_
  | with_reducible refine i_fld ?_
  | with_reducible refine i_sfld ?_
  | with_reducible refine i_din ?_
  | with_reducible refine i_dnin ?_
  | with_reducible refine i_dget ?_
  | with_reducible refine i_dput ?_
  | with_reducible refine i_joined ?_
  | with_reducible refine i_fmt ?_
  | with_reducible refine i_jcons ?_
  | with_reducible refine i_jnil ?_
  | with_reducible refine i_iEnum ?_
  | with_reducible refine iteT ?_
  | with_reducible refine iteF ?_
  | with_reducible refine iteNT ?_
  | with_reducible refine iteNF ?_
  | ((with_reducible refine i_len_s ?_ ?_); (first | assumption | exact szl (by assumption)))
  | ((with_reducible refine i_sl_s ?_ ?_); (first | assumption | exact szl (by assumption)))
  | with_reducible refine i_int_b ?_
  | with_reducible refine i_abs ?_
  | with_reducible refine i_min2 ?_
  | with_reducible refine i_eq rfl ?_
  | with_reducible refine i_ne rfl ?_)
local macro_rules | `(tactic| walk_at "rd") => `(tactic| repeat walk_at "rd1")

abbrev s_is_source : Stmt := topS 26
theorem sc_is_source : FnScope ["value"] ["value"] (defScope s_is_source) := ⟨rfl, rfl, rfl, by decide +kernel, rfl, by decide +kernel, by decide +kernel⟩
abbrev s_Project___init__ : Stmt := inClass (topS 27) 0
theorem sc_Project___init__ : FnScope ["self", "sources", "table", "name", "source"] ["self", "sources"] (defScope s_Project___init__) := ⟨rfl, rfl, rfl, by decide +kernel, rfl, by decide +kernel, by decide +kernel⟩
abbrev s_Project_sources : Stmt := inClass (topS 27) 1
theorem sc_Project_sources : FnScope ["self", "name"] ["self"] (defScope s_Project_sources) := ⟨rfl, rfl, rfl, by decide +kernel, rfl, by decide +kernel, by decide +kernel⟩
section
variable {P : Program} {w : World} {K : PySem.W.Frag} {mg : Str → Option Value} {base : Heap}
def spIsSource (K : PySem.W.Frag) : Sp := fun vs H Q _ => ∃ (v : V) (s : Src), vs = [v] ∧ Dt K H s.py v ∧ s.ok ∧ ∀ H', Same H H' → Q (.bl true) H'
theorem ok_is_source (D : Df K mg "is_source" "is_source" s_is_source ["value"]) (B : NoB mg) (C_is_name : Cal P w K mg base CX0 "is_name" ["value"] 1 spIsName) (C_is_tree : Cal P w K mg base CX0 "is_tree" ["value"] 15 (spIsTree K)) :
    Cal P w K mg base CX0 "is_source" ["value"] 16 (spIsSource K) := by
  refine D.cal fun f fd F => F.ok sc_is_source (fun vs H Q E h => ?_) (fun cdv A outer s H vs Q E hr h => ?_)
  · obtain ⟨_, _, rfl, _⟩ := h
    rfl
  · obtain ⟨v, s, rfl, hd, hok, q⟩ := h
    refine ⟨_, (pss_cons (ps_if (PW.pt (pw_or (pt_not (pt_val (pe_callB (call_isiU K) (by rfl) B.m_isinstance (by decide +kernel) (pa_cons (pv 0) (pa_cons (pe_ty (T := "tuple") (by rfl) B.m_tuple (by decide +kernel)) pa_nil))))) (pw_or (pt_cmpR (op_neU K hr.units) (pe_callB (call_lenU K) (by rfl) B.m_len (by decide +kernel) (pa_cons (pv 0) pa_nil)) pe_int (nomark _)) (pw_or1 (pt_not (pt_val (pe_callB (call_isiU K) (by rfl) B.m_isinstance (by decide +kernel) (pa_cons (pe_ix (ix_U K) (pv 0) pe_int (fun _ _ => rfl)) (pa_cons (pe_ty (T := "str") (by rfl) B.m_str (by decide +kernel)) pa_nil))))))))) (pss_one (ps_ret pe_bl)) pss_nil)
      (pss_cons (ps_if (pt_cmpR (op_eqU K hr.units) (pe_ix (ix_U K) (pv 0) pe_int (fun _ _ => rfl)) pe_str (nomark _)) (pss_one (ps_ret (pe_cal C_is_name hr (by rfl) (pa_cons (pe_ix (ix_U K) (pv 0) pe_int (fun _ _ => rfl)) pa_nil)))) pss_nil)
      (pss_one (ps_ret (pe_and (pe_cmpR (op_inU K) (pe_ix (ix_U K) (pv 0) pe_int (fun _ _ => rfl)) (pe_tup (pa_cons pe_str (pa_cons pe_str pa_nil))) (by with_unfolding_all rfl)) (pe_one (pe_cal C_is_tree hr (by rfl) (pa_cons (pe_ix (ix_U K) (pv 0) pe_int (fun _ _ => rfl)) pa_nil)))))))), ?_⟩
    obtain ⟨p, x, y, rfl, hs, hx, hy⟩ := hd.pair
    have e := hx.str
    subst e
    walk_at "rd"
    refine i_isi (ty_sq hs) (b := true) (by decide +kernel) ?_
    walk_at "rd"
    refine i_len_t hs ?_
    walk_at "rd"
    rw [show decide (V.int (([V.str s.k, y].length : Nat) : Int) = V.int 2) = true from decide_eq_true rfl]
    walk_at "rd"
    refine i_ix_t hs (atI_nat (j := 0) rfl) ?_
    walk_at "rd"
    refine i_isi (.base (.str s.k)) (b := true) (by decide +kernel) ?_
    walk_at "rd"
    refine i_ix_t hs (atI_nat (j := 0) rfl) ?_
    walk_at "rd"
    rcases hok with ⟨h1, z, h2, h3⟩ | ⟨h1, h2⟩
    · rw [h1, show decide (V.str "made" = V.str "made") = true from decide_eq_true rfl]
      walk_at "rd"
      refine i_ix_t hs (atI_nat (j := 1) rfl) ?_
      walk_at "rd"
      rw [h2] at hy
      have e := hy.str
      subst e
      refine ⟨z, rfl, by have := nameOk_len h3; omega, fun H1 s1 => ?_⟩
      rw [h3]
      exact q H1 s1
    · have hn : ¬ s.k = "made" := by rcases h1 with e | e <;> rw [e] <;> decide
      rw [decS, decide_eq_false hn]
      walk_at "rd"
      refine i_ix_t hs (atI_nat (j := 0) rfl) ?_
      walk_at "rd"
      refine i_new_t (by show 2 ≤ sizeLine; decide) fun t H1 nt s1 e1 => ?_
      refine i_in_t (.inl (.inl e1)) rfl rfl ?_
      have hin : inV (V.str s.k) [V.str "leaf", V.str "rule"] = true := by rcases h1 with e | e <;> rw [e] <;> decide
      rw [hin]
      walk_at "rd"
      refine i_ix_t (sqT_tt (.same s1) hs) (atI_nat (j := 1) rfl) ?_
      walk_at "rd"
      refine ⟨y, s.x, rfl, hy.mono (.same s1), lim_good _ (treeOk_good h2).g, fun H2 s2 => ?_⟩
      rw [h2]
      exact q H2 (s1.trans s2)
/-! ### Project -/
structure PCls (K : PySem.W.Frag) (mg : Str → Option Value) (C : Addr) : Prop where
  cl : Cls K C
  nT : NoAttr K C "table"
def KVs (K : PySem.W.Frag) (H : Hp) : List (Key × V) → Prs → Prop
  | [], [] => True
  | kv :: r, p :: s => kv.1 = Sum.inr p.1 ∧ Dt K H p.2.py kv.2 ∧ KVs K H r s
  | _, _ => False
theorem KVs.mono {H H' : Hp} (t : Stay H H') : ∀ {kvs : List (Key × V)} {prs : Prs}, KVs K H kvs prs → KVs K H' kvs prs
  | [], [], _ => trivial
  | kv :: r, p :: s, h => ⟨h.1, h.2.1.mono t, KVs.mono t h.2.2⟩
  | [], _ :: _, h => h.elim
  | _ :: _, [], h => h.elim
theorem KVs.length {H : Hp} : ∀ {kvs : List (Key × V)} {prs : Prs}, KVs K H kvs prs → kvs.length = prs.length
  | [], [], _ => rfl
  | kv :: r, p :: s, h => by rw [List.length_cons, List.length_cons, KVs.length h.2.2]
  | [], _ :: _, h => h.elim
  | _ :: _, [], h => h.elim
theorem KVs.keys {H : Hp} : ∀ {kvs : List (Key × V)} {prs : Prs}, KVs K H kvs prs → kvs.map (·.1) = (names prs).map Sum.inr
  | [], [], _ => rfl
  | kv :: r, p :: s, h => by
    have := KVs.keys h.2.2
    unfold names at this ⊢
    rw [List.map_cons, List.map_cons, List.map_cons, this, h.1]
  | [], _ :: _, h => h.elim
  | _ :: _, [], h => h.elim
theorem KVs.none {H : Hp} : ∀ {kvs : List (Key × V)} {prs : Prs} {z : Str}, KVs K H kvs prs → z ∉ names prs → valV kvs (Sum.inr z : Key) = none
  | [], [], z, _, _ => rfl
  | kv :: r, p :: s, z, h, n => by
    have hne : ¬ kv.1 = Sum.inr z := by
      rw [h.1]
      intro e
      apply n
      unfold names
      rw [List.map_cons, Sum.inr.inj e]
      exact List.mem_cons_self ..
    rw [show valV (kv :: r) (Sum.inr z : Key) = valV r (Sum.inr z : Key) by simp [valV, List.find?_cons, hne]]
    exact KVs.none h.2.2 fun e => n (List.mem_cons_of_mem _ e)
  | [], _ :: _, _, h, _ => h.elim
  | _ :: _, [], _, h, _ => h.elim
theorem KVs.some {H : Hp} : ∀ {kvs : List (Key × V)} {prs : Prs} {p : Str × Src}, KVs K H kvs prs → (names prs).Nodup → p ∈ prs → ∃ v, valV kvs (Sum.inr p.1 : Key) = some v ∧ Dt K H p.2.py v
  | kv :: r, q :: s, p, h, nd, hp => by
    unfold names at nd
    rw [List.map_cons, List.nodup_cons] at nd
    rcases List.mem_cons.mp hp with rfl | hp
    · exact ⟨kv.2, valV_pos h.1, h.2.1⟩
    · have hne : ¬ kv.1 = Sum.inr p.1 := by
        rw [h.1]
        intro e
        exact nd.1 (Sum.inr.inj e ▸ List.mem_map_of_mem hp)
      obtain ⟨v, e, d⟩ := KVs.some h.2.2 nd.2 hp
      exact ⟨v, by rw [← e]; simp [valV, List.find?_cons, hne], d⟩
  | [], _ :: _, _, h, _, _ => h.elim
  | _, [], _, _, _, hp => by cases hp
theorem KVs.snoc {H : Hp} {n : Str} {s : Src} {v : V} : ∀ {kvs : List (Key × V)} {prs : Prs}, KVs K H kvs prs → Dt K H s.py v → KVs K H (kvs ++ [(Sum.inr n, v)]) (prs ++ [(n, s)])
  | [], [], _, d => ⟨rfl, d, trivial⟩
  | kv :: r, p :: t, h, d => ⟨h.1, h.2.1, KVs.snoc h.2.2 d⟩
  | [], _ :: _, h, _ => h.elim
  | _ :: _, [], h, _ => h.elim
/-- a project stands at p -/
def IsPr (K : PySem.W.Frag) (C : Addr) (H : Hp) (p : Addr) (prs : Prs) : Prop := ∃ dx t kvs, H p = some (.ins C dx [("table", .ref t)]) ∧ H t = some (.dK kvs) ∧ KVs K H kvs prs
theorem IsPr.same {C p : Addr} {H H' : Hp} {prs : Prs} (h : IsPr K C H p prs) (s : Same H H') : IsPr K C H' p prs := by
  obtain ⟨dx, t, kvs, e1, e2, k⟩ := h
  exact ⟨dx, t, kvs, s _ _ e1, s _ _ e2, k.mono (.same s)⟩
theorem IsPr.but {C p l : Addr} {H H' : Hp} {prs : Prs} {xs : List V} (h : IsPr K C H p prs) (b : Bt l H H') (e : H l = some (.lst xs)) : IsPr K C H' p prs := by
  obtain ⟨dx, t, kvs, e1, e2, k⟩ := h
  exact ⟨dx, t, kvs, b.ne e e1 (fun z => nomatch z), b.ne e e2 (fun z => nomatch z), k.mono (.but b e)⟩
def spPrInit (K : PySem.W.Frag) (C : Addr) : Sp := fun vs H Q _ => ∃ (p dx : Addr) (v : V) (prs : Prs), vs = [.ref p, v] ∧ H p = some (.ins C dx []) ∧ Dt K H (.tuple (prs.map prPy)) v ∧ PrsOk prs ∧
  ∀ H', (∀ b o, H b = some o → b ≠ p → H' b = some o) → IsPr K C H' p prs → Q .non H'
theorem putF_nil (f : Str) (v : V) : putF f v [] = [(f, v)] := rfl
theorem ok_pr_init {C : Addr} (D : DfI K mg C "Project" "Project.__init__" s_Project___init__ ["self", "sources"]) (T : PCls K mg C) (B : NoB mg) (G : GV mg "MOST_THINGS" (.int 60))
    (C_is_name : Cal P w K mg base CX0 "is_name" ["value"] 1 spIsName) (C_is_source : Cal P w K mg base CX0 "is_source" ["value"] 16 (spIsSource K)) : CalI P w K mg base CX0 C "Project" ["self", "sources"] 17 (spPrInit K C) := by
  have g_MOST_THINGS := G
  refine D.cal fun f fd F => F.ok sc_Project___init__ (fun vs H Q E h => ?_) (fun cdv A outer s H vs Q E hr h => ?_)
  · obtain ⟨_, _, _, _, rfl, _⟩ := h
    rfl
  · obtain ⟨p, dx, v, prs, rfl, hp, hd, hok, q⟩ := h
    refine ⟨_, (pss_cons (ps_set (i := 2) sc_Project___init__.nd rfl (.inl rfl) pe_dnewK)
      (pss_cons (ps_for PassesOwn.never rfl (pi_tupU K (pv 1)) (pg_tupU K (by rfl) (pgs_cons (pg_name (i := 3) sc_Project___init__.nd rfl (.inl rfl)) (pgs_cons (pg_name (i := 4) sc_Project___init__.nd rfl (.inl rfl)) pgs_nil))) (pss_cons (ps_if (pt_not (pt_val (pe_cal C_is_name hr (by rfl) (pa_cons (pv 3) pa_nil)))) (pss_one ps_never) pss_nil)
      (pss_cons (ps_if (PW.pt (pw_or (pt_not (pt_val (pe_cal C_is_source hr (by rfl) (pa_cons (pv 4) pa_nil)))) (pw_or (pt_cmp (pc_din (hu_of hr) (pv 3) (pv 2))) (pw_or1 (pt_cmpR op_geU (pe_callB (call_lenU K) (by rfl) B.m_len (by decide +kernel) (pa_cons (pv 2) pa_nil)) (pe_gv (by rfl) g_MOST_THINGS) (nomark _)))))) (pss_one ps_never) pss_nil)
      (pss_one (ps_dput (hu_of hr) (pv 2) (pv 3) (pv 4) rfl)))))
      (pss_one (ps_fldU K (pv 0) (pv 2) rfl)))), ?_⟩
    obtain ⟨a, xs, rfl, hs, hq⟩ := hd.tup
    have hlen := hq.length
    rw [List.length_map] at hlen
    walk_at "rd"
    refine i_dnew fun t H0 nt s0 e0 => ?_
    walk_at "rd"
    refine f_tup (sqT_tt (.same s0) hs) (fun i σ H1 => ∃ (kvs : List (Key × V)) (y1 y2 : Option V), σ = [some (.ref p), some (.ref a), some (.ref t), y1, y2] ∧ Same H H1 ∧ H1 t = some (.dK kvs) ∧ KVs K H1 kvs (prs.take i)) ?_ ?_ ?_ ?_
    · exact ⟨[], none, none, rfl, s0, e0, by rw [List.take_zero]; exact trivial⟩
    · rintro i σ H1 _ ⟨kvs, y1, y2, rfl, s1, _⟩
      exact sqT_tt (.same s1) hs
    · rintro i x σ H1 hx ⟨kvs, y1, y2, rfl, s1, e1, hk⟩
      obtain ⟨d, hdi, hdx⟩ := hq.get hx
      rw [List.getElem?_map] at hdi
      cases hpi : prs[i]? with
      | none => rw [hpi] at hdi; cases hdi
      | some pr =>
      rw [hpi] at hdi
      cases (Option.some.inj hdi)
      have hm := List.mem_of_getElem? hpi
      obtain ⟨b, x1, x2, rfl, hb, hx1, hx2⟩ := (hdx.mono (.same s1)).pair
      have e := hx1.str
      subst e
      walk_at "rd"
      refine i_gtup hb rfl ?_
      walk_at "rd"
      have hn := hok.nm _ hm
      refine ⟨pr.1, rfl, by have := nameOk_len hn; omega, fun H2 s2 => ?_⟩
      rw [hn]
      walk_at "rd"
      refine ⟨x2, pr.2, rfl, hx2.mono (.same s2), hok.sr _ hm, fun H3 s3 => ?_⟩
      walk_at "rd"
      have e3 := s3 _ _ (s2 _ _ e1)
      refine i_dik e3 ?_
      have hil : i < prs.length := (List.getElem?_eq_some_iff.mp hpi).1
      have hnn : pr.1 ∉ names (prs.take i) := by
        have nd := hok.nd
        unfold names at nd ⊢
        intro hmem
        rw [List.map_take] at hmem
        obtain ⟨j, hj, ej⟩ := List.mem_iff_getElem.mp hmem
        rw [List.length_take, List.length_map] at hj
        rw [List.getElem_take] at ej
        have e5 : (prs.map (·.1))[i]? = some pr.1 := by rw [List.getElem?_map, hpi]; rfl
        have e6 : (prs.map (·.1))[j]? = some pr.1 := by rw [List.getElem?_eq_getElem (by rw [List.length_map]; omega), ej]
        have := nd_ix nd e5 e6
        omega
      rw [hk.none hnn, show (Option.none : Option V).isSome = false from rfl]
      walk_at "rd"
      refine i_len_d e3 ?_
      walk_at "rd"
      have hkl := hk.length
      rw [List.length_take] at hkl
      have hln := hok.ln
      rw [decide_eq_false (by omega : ¬ ((kvs.length : Int) ≥ 60))]
      walk_at "rd"
      refine i_dpk e3 (szlt (by omega)) fun H4 b4 e4 => ?_
      rw [putK_new _ (hk.none hnn)] at e4
      have st : Stay H1 H4 := (Stay.same (s2.trans s3)).trans (.butD b4 e3)
      refine ⟨_, _, _, rfl, Same.but ((s1.trans s2).trans s3) nt b4, e4, ?_⟩
      rw [take_snoc hpi]
      exact (hk.mono st).snoc (hx2.mono st)
    · rintro σ H1 ⟨kvs, y1, y2, rfl, s1, e1, hk⟩
      rw [List.take_of_length_le (by omega)] at hk
      walk_at "rd"
      refine i_sk (s1 _ _ hp) T.cl T.nT (by decide) fun H2 b2 e2 => ?_
      rw [putF_nil] at e2
      have npt : t ≠ p := fun e => by rw [e] at nt; rw [nt] at hp; cases hp
      exact q H2 (fun b o e n => b2 b o n (s1 b o e)) ⟨dx, t, kvs, e2, b2 _ _ npt e1, hk.mono (.butI b2 (s1 _ _ hp))⟩
/-- the pairs, rising -/
def spPrSources (K : PySem.W.Frag) (C : Addr) : Sp := fun vs H Q _ => ∃ (p : Addr) (prs : Prs), vs = [.ref p] ∧ IsPr K C H p prs ∧ PrsOk prs ∧ ∀ H' v, Same H H' → Dt K H' (.tuple ((srtP prs).map prPy)) v → Q v H'
theorem ok_pr_sources {C : Addr} (D : DfM K C "sources" "Project.sources" s_Project_sources ["self"]) (T : PCls K mg C) (B : NoB mg) : CalM P w K mg base CX0 C "sources" ["self"] 1 (spPrSources K C) := by
  refine D.cal fun f fd F => F.ok sc_Project_sources (fun vs H Q E h => ?_) (fun cdv A outer s H vs Q E hr h => ?_)
  · obtain ⟨_, _, rfl, _⟩ := h
    rfl
  · obtain ⟨p, prs, rfl, hp, hok, q⟩ := h
    refine ⟨_, (pss_one (ps_ret (pe_callTy (call_tupU K) (by rfl) B.m_tuple (by decide +kernel) (pa_cons (pe_lc (own := [("name", 1)]) (by rfl) sc_Project_sources.nd (pi_listU K (pe_callB (call_sortSU K) (by rfl) B.m_sorted (by decide +kernel) (pa_cons (pe_callTy (call_listDk rfl) (by rfl) B.m_list (by decide +kernel) (pa_cons (pe_fldU K (pv 0) rfl) pa_nil)) pa_nil))) (blkOk_by (own := [("name", 1)]) (N := ["self", "name"]) (sc := defScope s_Project_sources) (by decide +kernel)) (fun _ _ _ _ _ => pg_name (i := 1) sc_Project_sources.nd rfl (Or.inl rfl)) (fun _ _ _ _ _ => pts_nil) (fun _ _ _ _ _ => (pe_tup (pa_cons (pv 1) (pa_cons (pe_dget (hu_of hr) (pe_fldU K (pv 0) rfl) (pv 1) (fun _ _ => rfl)) pa_nil))))) pa_nil)))), ?_⟩
    obtain ⟨dx, t, kvs, e1, e2, hk⟩ := id hp
    walk_at "rd"
    refine i_fk e1 T.cl T.nT rfl ?_
    walk_at "rd"
    refine i_listDk e2 fun l1 H1 n1 s1 e3 => ?_
    have e4 : (kvs.map fun kv => kV kv.1) = (names prs).map V.str := by
      have := congrArg (List.map kV) hk.keys
      rw [List.map_map, List.map_map] at this
      exact this
    rw [e4] at e3
    walk_at "rd"
    have hln := hok.ln
    refine i_sortS (.inl (.inl e3)) (by unfold names; rw [List.length_map]; omega) fun l2 H2 n2 s2 e5 => ?_
    have hsl : (srtN (names prs)).length = prs.length := by rw [(srtN_perm _).length_eq]; unfold names; rw [List.length_map]
    have s12 := s1.trans s2
    refine c_list (.inl (.inl e5)) (szlt (by rw [List.length_map]; omega)) (fun D i acc H3 => Same H2 H3 ∧ Dts K H3 (((srtP prs).take i).map prPy) acc) ?_ ?_ ?_ ?_
    · exact fun D H3 _ s3 _ => ⟨s3, dts_nil⟩
    · exact fun D i acc H3 _ h => h.1.seq (.inl (.inl e5))
    · rintro D i x acc H3 hD hx hl hi ha ⟨s3, hacc⟩
      rw [List.getElem?_map] at hx
      cases hy : (srtN (names prs))[i]? with
      | none => rw [hy] at hx; cases hx
      | some y =>
      rw [hy] at hx
      cases (Option.some.inj hx)
      have hpr : ∃ pr, (srtP prs)[i]? = some pr ∧ pr.1 = y := by
        have e6 := srtP_names prs
        unfold names at e6
        rw [← show names prs = prs.map (·.1) from rfl] at e6
        rw [← e6, List.getElem?_map] at hy
        cases e7 : (srtP prs)[i]? with
        | none => rw [e7] at hy; cases hy
        | some pr => rw [e7] at hy; exact ⟨pr, rfl, Option.some.inj hy⟩
      obtain ⟨pr, hpr, rfl⟩ := hpr
      have hm := srtP_mem (List.mem_of_getElem? hpr)
      obtain ⟨v, ev, dv⟩ := hk.some hok.nd hm
      walk_at "rd"
      refine ⟨rfl, ?_⟩
      walk_at "rd"
      refine i_fk (s3 _ _ (s12 _ _ e1)) T.cl T.nT rfl ?_
      walk_at "rd"
      refine i_dgk (s3 _ _ (s12 _ _ e2)) ev ?_
      walk_at "rd"
      refine i_new_t (by show 2 ≤ sizeLine; decide) fun u H4 nu s4 e8 => ?_
      refine i_ck (s4 _ _ ha) hl hi fun H5 b5 e9 => ⟨Same.but (s3.trans s4) hD b5, ?_⟩
      rw [take_snoc hpr, List.map_append]
      have st : Stay H H4 := .same ((s12.trans s3).trans s4)
      have d4 : Dt K H4 (prPy pr) (.ref u) := dt_tup (.inl (.inl e8)) (dts_cons dt_str (dts_cons (dv.mono st) dts_nil))
      exact ((hacc.mono (.same s4)).snoc d4).mono (.but b5 (s4 _ _ ha))
    · rintro D acc H3 hD hl ha ⟨s3, hacc⟩
      walk_at "rd"
      refine i_tupof_l (.inl (.inl ha)) fun u H4 nu s4 e8 => ?_
      rw [List.length_map, hsl, ← srtP_len, List.take_length] at hacc
      exact q H4 _ ((s12.trans s3).trans s4) (dt_tup (.inl (.inl e8)) (hacc.mono (.same s4)))
end
end Aw

namespace Aw
open PySem PySem.Spec PyProof.Rows L2

local macro_rules | `(tactic| walk_at "rd1") => `(tactic| first
  | ((with_reducible apply i_var); exact rfl)
  | with_reducible refine i_c ?_
  | with_reducible refine i_op ?_
  | with_reducible refine i_un ?_
  | with_reducible refine i_test ?_
  | with_reducible refine i_tB ?_
  | with_reducible refine i_bl ?_
  | with_reducible refine i_and ?_
  | with_reducible refine i_or ?_
  | with_reducible refine i_not ?_
  | with_reducible refine i_andV ?_
  | with_reducible refine i_orV ?_
  | with_reducible refine i_notV ?_
  | with_reducible refine i_if ?_
  | with_reducible refine i_chain ?_
  | with_reducible refine i_nil ?_
  | with_reducible refine i_cons ?_
  | with_reducible refine i_tup ?_
  | with_reducible refine i_lst ?_
  | with_reducible refine i_cb ?_
  | with_reducible refine i_call ?_
  | with_reducible refine i_bm ?_
  | with_reducible refine i_m1 ?_
  | with_reducible refine i_m0 ?_
  | with_reducible refine i_exstr ?_
  | with_reducible refine i_sl ?_
  | with_reducible refine i_nopart ?_
  | with_reducible refine i_part ?_
  | with_reducible refine i_int ?_
  | with_reducible refine i_seq ?_
  | with_reducible refine i_next ?_
  | with_reducible refine i_asg ?_
  | with_reducible refine i_gname ?_
  | with_reducible refine i_ret ?_
  | with_reducible refine i_retN ?_
  | with_reducible refine i_drop ?_
  | with_reducible refine i_ifS ?_
  | with_reducible refine i_break ?_
  | with_reducible refine i_cont ?_
  | ((with_reducible apply i_aug); exact rfl)
  | with_reducible refine i_add_i ?_
  | with_reducible refine i_sub ?_
  | with_reducible refine i_neg ?_
  | with_reducible refine i_ipadd_i ?_
  | with_reducible refine i_ip ?_
  | with_reducible refine i_lt ?_
  | with_reducible refine i_le ?_
  | with_reducible refine i_gt ?_
  | with_reducible refine i_ge ?_
  | with_reducible refine i_lt_s ?_
  | with_reducible refine i_le_s ?_
  | with_reducible refine i_gt_s ?_
  | with_reducible refine i_ge_s ?_
  | with_reducible refine i_isN ?_
  | with_reducible refine i_notN ?_
  | with_reducible refine i_in_c ?_
  | with_reducible refine i_nin_c ?_
  | with_reducible refine i_gsub ?_
  | with_reducible refine i_gcons ?_
  | with_reducible refine i_gnil ?_
  | with_reducible refine i_iList ?_
  | with_reducible refine i_iTup ?_
  | with_reducible refine i_iStr ?_
  | with_reducible refine i_iRng1 ?_
  | with_reducible refine i_lc ?_
  | with_reducible refine i_for ?_
  | with_reducible refine i_yes ?_
  | with_reducible refine i_repl ?_
  | with_reducible refine i_meth ?_
  | with_reducible refine i_fld ?_
  | with_reducible refine i_sfld ?_
  | with_reducible refine i_din ?_
  | with_reducible refine i_dnin ?_
  | with_reducible refine i_dget ?_
  | with_reducible refine i_dput ?_
  | with_reducible refine i_joined ?_
  | with_reducible refine i_fmt ?_
  | with_reducible refine i_jcons ?_
  | with_reducible refine i_jnil ?_
  | with_reducible refine i_iEnum ?_
  | with_reducible refine iteT ?_
  | with_reducible refine iteF ?_
  | with_reducible refine iteNT ?_
  | with_reducible refine iteNF ?_
  | ((with_reducible refine i_len_s ?_ ?_); (first | assumption | exact szl (by assumption)))
  | ((with_reducible refine i_sl_s ?_ ?_); (first | assumption | exact szl (by assumption)))
  | with_reducible refine i_int_b ?_
  | with_reducible refine i_abs ?_
  | with_reducible refine i_min2 ?_
  | with_reducible refine i_eq rfl ?_
  | with_reducible refine i_ne rfl ?_)
local macro_rules | `(tactic| walk_at "rd") => `(tactic| repeat walk_at "rd1")

abbrev s_tree_written : Stmt := topS 29
theorem sc_tree_written : FnScope ["text", "found"] ["text"] (defScope s_tree_written) := ⟨rfl, rfl, rfl, by decide +kernel, rfl, by decide +kernel, by decide +kernel⟩
abbrev s_project_line : Stmt := topS 30
theorem sc_project_line : FnScope ["line", "kind", "blank", "rest", "name", "what", "tree"] ["line"] (defScope s_project_line) := ⟨rfl, rfl, rfl, by decide +kernel, rfl, by decide +kernel, by decide +kernel⟩
abbrev s_project_text : Stmt := topS 32
theorem sc_project_text : FnScope ["project", "rows", "name", "source", "word", "what"] ["project"] (defScope s_project_text) := ⟨rfl, rfl, rfl, by decide +kernel, rfl, by decide +kernel, by decide +kernel⟩
abbrev s_ended_lines : Stmt := topS 33
theorem sc_ended_lines : FnScope ["text", "rows"] ["text"] (defScope s_ended_lines) := ⟨rfl, rfl, rfl, by decide +kernel, rfl, by decide +kernel, by decide +kernel⟩
section
variable {P : Program} {w : World} {K : PySem.W.Frag} {mg : Str → Option Value} {base : Heap}
theorem ok_tree_written (D : Df K mg "tree_written" "tree_written" s_tree_written ["text"]) (C_read_tree : Cal P w K mg base CX0 "read_tree" ["text"] 29 (spReadTree K)) : Cal P w K mg base CX0 "tree_written" ["text"] 30 (spReadTree K) := by
  refine D.cal fun f fd F => F.ok sc_tree_written (fun vs H Q E h => ?_) (fun cdv A outer s H vs Q E hr h => ?_)
  · obtain ⟨d, rfl, _⟩ := h
    rfl
  · obtain ⟨d, rfl, hok, q⟩ := h
    refine ⟨_, (pss_cons (ps_try_thru0 (pss_one (ps_set (i := 1) sc_tree_written.nd rfl (.inl rfl) (pe_cal C_read_tree hr (by rfl) (pa_cons (pv 0) pa_nil)))))
      (pss_one (ps_ret (pv 1)))), ?_⟩
    walk_at "rd"
    refine ⟨d, rfl, hok, fun H1 v s1 hv => ?_⟩
    walk_at "rd"
    exact q H1 v s1 hv
def spProjectLine (K : PySem.W.Frag) : Sp := fun vs H Q _ => ∃ p : Str × Src, vs = [.str (S (lineOf p))] ∧ nameOk p.1 = true ∧ p.2.ok ∧ ∀ H' v, Same H H' → Dt K H' (prPy p) v → Q v H'
theorem ok_project_line (D : Df K mg "project_line" "project_line" s_project_line ["line"]) (B : NoB mg) (C_is_name : Cal P w K mg base CX0 "is_name" ["value"] 1 spIsName) (C_tree_written : Cal P w K mg base CX0 "tree_written" ["text"] 30 (spReadTree K)) :
    Cal P w K mg base CX0 "project_line" ["line"] 31 (spProjectLine K) := by
  refine D.cal fun f fd F => F.ok sc_project_line (fun vs H Q E h => ?_) (fun cdv A outer s H vs Q E hr h => ?_)
  · obtain ⟨p, rfl, _⟩ := h
    rfl
  · obtain ⟨⟨nm, src⟩, rfl, hn, hok, q⟩ := h
    refine ⟨_, (pss_cons (ps_asg (pe_partitionU (pv 0) pe_str) (pg_tupU K (by rfl) (pgs_cons (pg_name (i := 1) sc_project_line.nd rfl (.inl rfl)) (pgs_cons (pg_name (i := 2) sc_project_line.nd rfl (.inl rfl)) (pgs_cons (pg_name (i := 3) sc_project_line.nd rfl (.inl rfl)) pgs_nil)))))
      (pss_cons (ps_asg (pe_partitionU (pv 3) pe_str) (pg_tupU K (by rfl) (pgs_cons (pg_name (i := 4) sc_project_line.nd rfl (.inl rfl)) (pgs_cons (pg_name (i := 2) sc_project_line.nd rfl (.inl rfl)) (pgs_cons (pg_name (i := 5) sc_project_line.nd rfl (.inl rfl)) pgs_nil)))))
      (pss_cons (ps_if (pt_not (pt_val (pe_cal C_is_name hr (by rfl) (pa_cons (pv 4) pa_nil)))) (pss_one (ps_ret pe_non)) pss_nil)
      (pss_cons (ps_if (PW.pt (pw_and (pt_cmpR (op_eqU K hr.units) (pv 1) pe_str (nomark _)) (pw_and1 (pt_val (pe_cal C_is_name hr (by rfl) (pa_cons (pv 5) pa_nil)))))) (pss_one (ps_ret (pe_tup (pa_cons (pv 4) (pa_cons (pe_tup (pa_cons (pv 1) (pa_cons (pv 5) pa_nil))) pa_nil))))) pss_nil)
      (pss_cons (ps_set (i := 6) sc_project_line.nd rfl (.inl rfl) (pe_cal C_tree_written hr (by rfl) (pa_cons (pv 5) pa_nil)))
      (pss_cons (ps_if (PW.pt (pw_or (pt_cmpR (op_ninU K) (pv 1) (pe_tup (pa_cons pe_str (pa_cons pe_str pa_nil))) (by with_unfolding_all rfl)) (pw_or1 (pt_cmpR op_isNo (pv 6) pe_non (nomark _))))) (pss_one (ps_ret pe_non)) pss_nil)
      (pss_one (ps_ret (pe_tup (pa_cons (pv 4) (pa_cons (pe_tup (pa_cons (pv 1) (pa_cons (pv 6) pa_nil))) pa_nil))))))))))), ?_⟩
    have hll := line_len (p := (nm, src)) hn hok
    have hk32 : 32 ∉ src.k.cps.toList := fun h => by have := kind_low hok _ h; omega
    have hn32 : 32 ∉ nm.cps.toList := fun h => by have := nameOk_all hn h; omega
    have hp1 : Txt.partition (S (lineOf (nm, src))) ⟨#[32]⟩ = (src.k, S [32], S (nm.cps.toList ++ 32 :: src.what)) := by
      unfold lineOf
      rw [partition_S hk32, S_of]
    have hp2 : Txt.partition (S (nm.cps.toList ++ 32 :: src.what)) ⟨#[32]⟩ = (nm, S [32], S src.what) := by
      rw [partition_S hn32, S_of]
    have hwl : src.what.length ≤ 2400 := what_len hok
    have hnl : 1 ≤ nm.length ∧ nm.length ≤ 24 := nameOk_len hn
    walk_at "rd"
    refine i_partition (by decide) (szl (by rw [S_len]; omega)) fun t1 H1 n1 s1 e1 => ?_
    rw [show (Str.ofString " ") = ⟨#[32]⟩ from rfl, hp1] at e1
    refine i_gtup (.inl (.inl e1)) rfl ?_
    walk_at "rd"
    refine i_partition (by decide) (szl (by rw [S_len, List.length_append, List.length_cons, len_list]; omega)) fun t2 H2 n2 s2 e2 => ?_
    rw [show (Str.ofString " ") = ⟨#[32]⟩ from rfl, hp2] at e2
    refine i_gtup (.inl (.inl e2)) rfl ?_
    walk_at "rd"
    refine ⟨nm, rfl, by omega, fun H3 s3 => ?_⟩
    rw [hn]
    walk_at "rd"
    have s13 := (s1.trans s2).trans s3
    rw [decS]
    rcases hok with ⟨h1, z, h2, h3⟩ | ⟨h1, h2⟩
    · rw [decide_eq_true (p := src.k = "made") h1]
      walk_at "rd"
      have hw : S src.what = z := by unfold Src.what; rw [if_pos h1, h2]; exact S_of z
      have hzl := nameOk_len h3
      rw [hw]
      refine ⟨z, rfl, by omega, fun H4 s4 => ?_⟩
      rw [h3]
      walk_at "rd"
      refine i_new_t (by show 2 ≤ sizeLine; decide) fun t4 H5 n5 s5 e5 => ?_
      walk_at "rd"
      refine i_new_t (by show 2 ≤ sizeLine; decide) fun t5 H6 n6 s6 e6 => ?_
      refine q H6 _ ((s13.trans s4).trans (s5.trans s6)) (dt_tup (.inl (.inl e6)) (dts_cons dt_str (dts_cons ?_ dts_nil)))
      refine dt_tup (.inl (.inl (s6 _ _ e5))) (dts_cons dt_str (dts_cons ?_ dts_nil))
      rw [h2]
      exact dt_str
    · have hnm : ¬ src.k = "made" := by rcases h1 with e | e <;> rw [e] <;> decide
      rw [decide_eq_false (p := src.k = "made") hnm]
      walk_at "rd"
      have hw : src.what = wr src.x := by unfold Src.what; rw [if_neg hnm]
      rw [hw]
      refine ⟨src.x, rfl, h2, fun H4 v s4 hv => ?_⟩
      walk_at "rd"
      refine i_new_t (by show 2 ≤ sizeLine; decide) fun t4 H5 n5 s5 e5 => ?_
      refine i_nin_t (.inl (.inl e5)) rfl rfl ?_
      have hin : inV (V.str src.k) [V.str "leaf", V.str "rule"] = true := by rcases h1 with e | e <;> rw [e] <;> decide
      rw [hin]
      walk_at "rd"
      rw [decide_eq_false (fun e : v = V.non => by
        have hg := (treeOk_good h2).g
        rcases good_cases hg with ⟨z, ez, _⟩ | ⟨ds, ez, _⟩
        · rw [ez] at hv; rw [hv.str] at e; cases e
        · rw [ez] at hv; obtain ⟨a, _, ea, _⟩ := hv.tup; rw [ea] at e; cases e)]
      walk_at "rd"
      refine i_new_t (by show 2 ≤ sizeLine; decide) fun t6 H6 n6 s6 e6 => ?_
      walk_at "rd"
      refine i_new_t (by show 2 ≤ sizeLine; decide) fun t7 H7 n7 s7 e7 => ?_
      refine q H7 _ ((s13.trans s4).trans ((s5.trans s6).trans s7)) (dt_tup (.inl (.inl e7)) (dts_cons dt_str (dts_cons ?_ dts_nil)))
      exact dt_tup (.inl (.inl (s7 _ _ e6))) (dts_cons dt_str (dts_cons (hv.mono (.same ((s5.trans s6).trans s7))) dts_nil))
/-- the lines, and what is behind the last end -/
def spEndedLines (K : PySem.W.Frag) : Sp := fun vs H Q _ => ∃ (ls : List (List Nat)) (l : List Nat), vs = [.str (S (inter [10] (ls ++ [l])))] ∧ (∀ p ∈ ls ++ [l], 10 ∉ p) ∧ (inter [10] (ls ++ [l])).length ≤ 900000 ∧
  ∀ H' v a, Same H H' → SqT K H' v [.ref a, .str (S l)] → H' a = some (.lst (ls.map fun p => .str (S p))) → Q (.ref v) H'
theorem ok_ended_lines (D : Df K mg "ended_lines" "ended_lines" s_ended_lines ["text"]) : Cal P w K mg base CX0 "ended_lines" ["text"] 1 (spEndedLines K) := by
  refine D.cal fun f fd F => F.ok sc_ended_lines (fun vs H Q E h => ?_) (fun cdv A outer s H vs Q E hr h => ?_)
  · obtain ⟨_, _, rfl, _⟩ := h
    rfl
  · obtain ⟨ls, l, rfl, h10, hl, q⟩ := h
    refine ⟨_, (pss_cons (ps_set (i := 1) sc_ended_lines.nd rfl (.inl rfl) (pe_splitU (pv 0) pe_str))
      (pss_one (ps_ret (pe_tup (pa_cons (pe_slice (sl_U K) (pv 1) po_none (po_some (pe_un un_neg pe_int))) (pa_cons (pe_ix (ix_U K) (pv 1) (pe_un un_neg pe_int) (fun _ _ => rfl)) pa_nil)))))), ?_⟩
    walk_at "rd"
    refine i_split (by decide) (szM (by rw [S_len]; omega)) fun p H1 n1 s1 e1 => ?_
    rw [show (Str.ofString "\n") = ⟨#[10]⟩ from rfl, split_S h10 (by simp), List.map_append, List.map_append] at e1
    walk_at "rd"
    refine i_sl_l (.inl (.inl e1)) fun r H2 n2 s2 e2 => ?_
    rw [show (List.map V.str (List.map S [l])) = [V.str (S l)] from rfl, cutV_last] at e2
    walk_at "rd"
    refine i_ix_l (.inl (.inl (s2 _ _ e1))) (v := .str (S l)) (by exact atI_last) ?_
    walk_at "rd"
    refine i_new_t (by show 2 ≤ sizeLine; decide) fun t H3 n3 s3 e3 => ?_
    refine q H3 t r ((s1.trans s2).trans s3) (.inl (.inl e3)) ?_
    rw [List.map_map] at e2
    exact s3 _ _ e2
/-- what is written of a project -/
def spProjectText (K : PySem.W.Frag) (C : Addr) : Sp := fun vs H Q _ => ∃ (p : Addr) (prs : Prs), vs = [.ref p] ∧ IsPr K C H p prs ∧ PrsOk prs ∧ ∀ H', Same H H' → Q (.str (S (prTxt (srtP prs)))) H'
theorem prTxt_snoc {prs : Prs} {i : Nat} {p : Str × Src} (h : prs[i]? = some p) : prTxt (prs.take (i + 1)) = prTxt (prs.take i) ++ (lineOf p ++ [10]) := by
  rw [take_snoc h]; unfold prTxt; rw [List.flatMap_append]; simp
theorem prTxt_len {prs : Prs} (h : PrsOk prs) : (prTxt prs).length ≤ 2431 * prs.length := by
  have : ∀ {qs : Prs}, (∀ p ∈ qs, nameOk p.1 = true ∧ p.2.ok) → (prTxt qs).length ≤ 2431 * qs.length := by
    intro qs
    induction qs with
    | nil => intro _; exact Nat.le_refl _
    | cons q r ih =>
      intro hq
      have h1 := line_len (p := q) (hq q (List.mem_cons_self ..)).1 (hq q (List.mem_cons_self ..)).2
      have h2 := ih fun z hz => hq z (List.mem_cons_of_mem _ hz)
      unfold prTxt at h2 ⊢
      rw [List.flatMap_cons, List.length_append, List.length_append, List.length_cons, List.length_nil, List.length_cons]
      omega
  exact this fun p hp => ⟨h.nm p hp, h.sr p hp⟩
theorem what_made {s : Src} (h1 : s.k = "made") {z : Str} (h2 : s.x = .str z) : S s.what = z := by unfold Src.what; rw [if_pos h1, h2]; exact S_of z
theorem what_tree {s : Src} (h1 : ¬ s.k = "made") : s.what = wr s.x := by unfold Src.what; rw [if_neg h1]
theorem lineS (k n : Str) (what : List Nat) : ((((((Str.empty ++ k) ++ (Str.ofString " ")) ++ n) ++ (Str.ofString " ")) ++ S what) ++ (Str.ofString "\n")) = S (k.cps.toList ++ 32 :: (n.cps.toList ++ 32 :: what) ++ [10]) := S_ext (by
  simp only [app_list, S_list, List.append_assoc]
  show ([] : List Nat) ++ (_ ++ ([32] ++ (_ ++ ([32] ++ (_ ++ [10]))))) = _
  simp)
theorem ok_project_text {C : Addr} (D : Df K mg "project_text" "project_text" s_project_text ["project"]) (T : PCls K mg C) (B : NoB mg) (M_sources : CalM P w K mg base CX0 C "sources" ["self"] 1 (spPrSources K C))
    (C_tree_text : Cal P w K mg base CX0 "tree_text" ["tree"] 14 (spTreeText K 13)) : Cal P w K mg base CX0 "project_text" ["project"] 15 (spProjectText K C) := by
  refine D.cal fun f fd F => F.ok sc_project_text (fun vs H Q E h => ?_) (fun cdv A outer s H vs Q E hr h => ?_)
  · obtain ⟨_, _, rfl, _⟩ := h
    rfl
  · obtain ⟨p, prs, rfl, hp, hok, q⟩ := h
    refine ⟨_, (pss_cons (ps_set (i := 1) sc_project_text.nd rfl (.inl rfl) (pe_lst pa_nil))
      (pss_cons (ps_for PassesOwn.never rfl (pi_tupU K (pe_mcal0 M_sources T.cl hr (pv 0))) (pg_tupU K (by rfl) (pgs_cons (pg_name (i := 2) sc_project_text.nd rfl (.inl rfl)) (pgs_cons (pg_name (i := 3) sc_project_text.nd rfl (.inl rfl)) pgs_nil))) (pss_cons (ps_asg (pv 3) (pg_tupU K (by rfl) (pgs_cons (pg_name (i := 4) sc_project_text.nd rfl (.inl rfl)) (pgs_cons (pg_name (i := 5) sc_project_text.nd rfl (.inl rfl)) pgs_nil))))
      (pss_cons (ps_if (pt_cmpR (op_neU K hr.units) (pv 4) pe_str (nomark _)) (pss_one (ps_set (i := 5) sc_project_text.nd rfl (.inl rfl) (pe_cal C_tree_text hr (by rfl) (pa_cons (pv 5) pa_nil)))) pss_nil)
      (pss_one (ps_expr (pe_bmU K PySem.F.plainAttrs_list PySem.F.slot_list_append PySem.F.type_list_append mt_append (pv 1) (pa_cons (pe_joinedU (.cons (pe_fmt (pv 4)) (.cons pe_str (.cons (pe_fmt (pv 2)) (.cons pe_str (.cons (pe_fmt (pv 5)) (.cons pe_str .nil))))))) pa_nil)))))))
      (pss_one (ps_ret (pe_joinU K pe_str (pv 1)))))), ?_⟩
    have hso := srtP_ok hok
    walk_at "rd"
    refine i_new_l (by exact Nat.zero_le _) fun l H0 nl s0 e0 => ?_
    walk_at "rd"
    obtain ⟨dx, t, kvs, f1, f2, f3⟩ := id (hp.same s0)
    refine i_mk f1 rfl ?_
    walk_at "rd"
    refine ⟨p, prs, rfl, hp.same s0, hok, fun H1 v s1 hv => ?_⟩
    obtain ⟨a, xs, rfl, hs, hq⟩ := hv.tup
    have hlen := hq.length
    rw [List.length_map] at hlen
    have s01 := s0.trans s1
    refine f_tup hs (fun i σ H2 => ∃ (y1 y2 y3 y4 : Option V), σ = [some (.ref p), some (.ref l), y1, y2, y3, y4] ∧ Same H H2 ∧ Stay H1 H2 ∧ H2 l = some (.lst (((srtP prs).take i).map fun p => .str (S (lineOf p ++ [10]))))) ?_ ?_ ?_ ?_
    · exact ⟨none, none, none, none, rfl, s01, .refl _, s1 _ _ e0⟩
    · rintro i σ H2 _ ⟨y1, y2, y3, y4, rfl, s2, t2, e2⟩
      exact sqT_tt t2 hs
    · rintro i x σ H2 hx ⟨y1, y2, y3, y4, rfl, s2, t2, e2⟩
      obtain ⟨d, hdi, hdx⟩ := hq.get hx
      rw [List.getElem?_map] at hdi
      cases hpi : (srtP prs)[i]? with
      | none => rw [hpi] at hdi; cases hdi
      | some pr =>
      rw [hpi] at hdi
      cases (Option.some.inj hdi)
      have hm := List.mem_of_getElem? hpi
      have hnm := hso.nm _ hm
      have hsr := hso.sr _ hm
      obtain ⟨b, x1, x2, rfl, hb, hx1, hx2⟩ := (hdx.mono t2).pair
      have e := hx1.str
      subst e
      walk_at "rd"
      refine i_gtup hb rfl ?_
      walk_at "rd"
      obtain ⟨c, z1, z2, rfl, hc, hz1, hz2⟩ := hx2.pair
      have e := hz1.str
      subst e
      refine i_gtup hc rfl ?_
      walk_at "rd"
      have hil : i < (srtP prs).length := (List.getElem?_eq_some_iff.mp hpi).1
      have hsl := hso.ln
      have hkl := kind_len hsr
      have hnl := nameOk_len hnm
      have hwl := what_len hsr
      have tail : ∀ H3, Same H2 H3 → ∀ (σ : L2.St) , σ = [some (.ref p), some (.ref l), some (.str pr.1), some (.ref c), some (.str pr.2.k), some (.str (S pr.2.what))] → Same H H3 → Stay H1 H3 →
          True := fun _ _ _ _ _ _ => trivial
      clear tail
      rw [decS]
      by_cases hmade : pr.2.k = "made"
      · rw [decide_eq_true (p := pr.2.k = "made") hmade]
        walk_at "rd"
        rcases hsr with ⟨h1, z, h2, h3⟩ | ⟨h1, h2⟩
        · rw [h2] at hz2
          have e := hz2.str
          subst e
          have hw := what_made h1 h2
          rw [← hw]
          refine i_tyl e2 ?_
          walk_at "rd"
          refine i_fmk (szl (by omega)) (i_jk (szl (by rw [app_len]; show 0 + _ ≤ _; omega)) ?_)
          walk_at "rd"
          refine i_jk (szl (by rw [app_len, app_len]; show 0 + _ + 1 ≤ _; omega)) ?_
          walk_at "rd"
          refine i_fmk (szl (by omega)) (i_jk (szl (by rw [app_len, app_len, app_len]; show 0 + _ + 1 + _ ≤ _; omega)) ?_)
          walk_at "rd"
          refine i_jk (szl (by rw [app_len, app_len, app_len, app_len]; show 0 + _ + 1 + _ + 1 ≤ _; omega)) ?_
          walk_at "rd"
          refine i_fmk (szl (by rw [S_len]; omega)) (i_jk (szl (by rw [app_len, app_len, app_len, app_len, app_len, S_len]; show 0 + _ + 1 + _ + 1 + _ ≤ _; omega)) ?_)
          walk_at "rd"
          refine i_jk (szl (by rw [app_len, app_len, app_len, app_len, app_len, app_len, S_len]; show 0 + _ + 1 + _ + 1 + _ + 1 ≤ _; omega)) ?_
          walk_at "rd"
          rw [lineS]
          refine i_append e2 (szlt (by rw [List.length_map, List.length_take]; omega)) fun H3 b3 e3 => ?_
          walk_at "rd"
          refine ⟨_, _, _, _, rfl, Same.but s2 ?_ b3, t2.trans (.but b3 e2), ?_⟩
          · exact nl
          · rw [e3, take_snoc hpi, List.map_append]
            rfl
        · exact absurd hmade (by rcases h1 with e | e <;> rw [e] <;> decide)
      · rw [decide_eq_false (p := pr.2.k = "made") hmade]
        walk_at "rd"
        rcases hsr with ⟨h1, z, h2, h3⟩ | ⟨h1, h2⟩
        · exact absurd h1 hmade
        · have hgd := treeOk_good h2
          have hg2 := hgd.sz
          have hg3 := hgd.dp
          refine ⟨z2, pr.2.x, rfl, hz2, hgd.g, by omega, by omega, fun H4 s4 => ?_⟩
          rw [← what_tree hmade]
          have e4 := s4 _ _ e2
          walk_at "rd"
          refine i_tyl e4 ?_
          walk_at "rd"
          refine i_fmk (szl (by omega)) (i_jk (szl (by rw [app_len]; show 0 + _ ≤ _; omega)) ?_)
          walk_at "rd"
          refine i_jk (szl (by rw [app_len, app_len]; show 0 + _ + 1 ≤ _; omega)) ?_
          walk_at "rd"
          refine i_fmk (szl (by omega)) (i_jk (szl (by rw [app_len, app_len, app_len]; show 0 + _ + 1 + _ ≤ _; omega)) ?_)
          walk_at "rd"
          refine i_jk (szl (by rw [app_len, app_len, app_len, app_len]; show 0 + _ + 1 + _ + 1 ≤ _; omega)) ?_
          walk_at "rd"
          refine i_fmk (szl (by rw [S_len]; omega)) (i_jk (szl (by rw [app_len, app_len, app_len, app_len, app_len, S_len]; show 0 + _ + 1 + _ + 1 + _ ≤ _; omega)) ?_)
          walk_at "rd"
          refine i_jk (szl (by rw [app_len, app_len, app_len, app_len, app_len, app_len, S_len]; show 0 + _ + 1 + _ + 1 + _ + 1 ≤ _; omega)) ?_
          walk_at "rd"
          rw [lineS]
          refine i_append e4 (szlt (by rw [List.length_map, List.length_take]; omega)) fun H3 b3 e3 => ?_
          walk_at "rd"
          refine ⟨_, _, _, _, rfl, Same.but (s2.trans s4) ?_ b3, (t2.trans (.same s4)).trans (.but b3 e4), ?_⟩
          · exact nl
          · rw [e3, take_snoc hpi, List.map_append]
            rfl
    · rintro σ H2 ⟨y1, y2, y3, y4, rfl, s2, t2, e2⟩
      have hsl := srtP_len prs
      rw [List.take_of_length_le (by omega)] at e2
      have e5 : ((srtP prs).map fun p => V.str (S (lineOf p ++ [10]))) = ((srtP prs).map fun p => S (lineOf p ++ [10])).map V.str := by rw [List.map_map]; rfl
      rw [e5] at e2
      walk_at "rd"
      have hj : Txt.join (Str.ofString "") ((srtP prs).map fun p => S (lineOf p ++ [10])) = S (prTxt (srtP prs)) := by
        have h := join_S [] ((srtP prs).map fun p => lineOf p ++ [10])
        rw [List.map_map, inter_nil] at h
        rw [show (Str.ofString "") = S [] from rfl]
        refine Eq.trans h ?_
        unfold prTxt
        rw [List.flatMap_def]
      have hsum : (((srtP prs).map fun p => S (lineOf p ++ [10])).map (·.length)).sum = (prTxt (srtP prs)).length := by
        generalize srtP prs = L
        induction L with
        | nil => rfl
        | cons c r ih =>
          rw [List.map_cons, List.map_cons, List.sum_cons, ih]
          unfold prTxt
          rw [List.flatMap_cons, List.length_append, S_len]
      have hpl := prTxt_len hso
      have hsn := hso.ln
      refine i_join (.inl (.inl (.inl e2))) (by rw [hsum]; show _ + _ * 0 ≤ _; omega) ?_
      rw [hj]
      exact q H2 s2
end
end Aw

namespace Aw
open PySem PySem.Spec PyProof.Rows L2

local macro_rules | `(tactic| walk_at "rd1") => `(tactic| first
  | ((with_reducible apply i_var); exact rfl)
  | with_reducible refine i_c ?_
  | with_reducible refine i_op ?_
  | with_reducible refine i_un ?_
  | with_reducible refine i_test ?_
  | with_reducible refine i_tB ?_
  | with_reducible refine i_bl ?_
  | with_reducible refine i_and ?_
  | with_reducible refine i_or ?_
  | with_reducible refine i_not ?_
  | with_reducible refine i_andV ?_
  | with_reducible refine i_orV ?_
  | with_reducible refine i_notV ?_
  | with_reducible refine i_if ?_
  | with_reducible refine i_chain ?_
  | with_reducible refine i_nil ?_
  | with_reducible refine i_cons ?_
  | with_reducible refine i_tup ?_
  | with_reducible refine i_lst ?_
  | with_reducible refine i_cb ?_
  | with_reducible refine i_call ?_
  | with_reducible refine i_bm ?_
  | with_reducible refine i_m1 ?_
  | with_reducible refine i_m0 ?_
  | with_reducible refine i_exstr ?_
  | with_reducible refine i_sl ?_
  | with_reducible refine i_nopart ?_
  | with_reducible refine i_part ?_
  | with_reducible refine i_int ?_
  | with_reducible refine i_seq ?_
  | with_reducible refine i_next ?_
  | with_reducible refine i_asg ?_
  | with_reducible refine i_gname ?_
  | with_reducible refine i_ret ?_
  | with_reducible refine i_retN ?_
  | with_reducible refine i_drop ?_
  | with_reducible refine i_ifS ?_
  | with_reducible refine i_break ?_
  | with_reducible refine i_cont ?_
  | ((with_reducible apply i_aug); exact rfl)
  | with_reducible refine i_add_i ?_
  | with_reducible refine i_sub ?_
  | with_reducible refine i_neg ?_
  | with_reducible refine i_ipadd_i ?_
  | with_reducible refine i_ip ?_
  | with_reducible refine i_lt ?_
  | with_reducible refine i_le ?_
  | with_reducible refine i_gt ?_
  | with_reducible refine i_ge ?_
  | with_reducible refine i_lt_s ?_
  | with_reducible refine i_le_s ?_
  | with_reducible refine i_gt_s ?_
  | with_reducible refine i_ge_s ?_
  | with_reducible refine i_isN ?_
  | with_reducible refine i_notN ?_
  | with_reducible refine i_in_c ?_
  | with_reducible refine i_nin_c ?_
  | with_reducible refine i_gsub ?_
  | with_reducible refine i_gcons ?_
  | with_reducible refine i_gnil ?_
  | with_reducible refine i_iList ?_
  | with_reducible refine i_iTup ?_
  | with_reducible refine i_iStr ?_
  | with_reducible refine i_iRng1 ?_
  | with_reducible refine i_lc ?_
  | with_reducible refine i_for ?_
  | with_reducible refine i_yes ?_
  | with_reducible refine i_repl ?_
  | with_reducible refine i_meth ?_
  | with_reducible refine i_fld ?_
  | with_reducible refine i_sfld ?_
  | with_reducible refine i_din ?_
  | with_reducible refine i_dnin ?_
  | with_reducible refine i_dget ?_
  | with_reducible refine i_dput ?_
  | with_reducible refine i_joined ?_
  | with_reducible refine i_items ?_
  | with_reducible refine i_stepL ?_
  | with_reducible refine i_make ?_
  | with_reducible refine i_fmt ?_
  | with_reducible refine i_jcons ?_
  | with_reducible refine i_jnil ?_
  | with_reducible refine i_iEnum ?_
  | with_reducible refine iteT ?_
  | with_reducible refine iteF ?_
  | with_reducible refine iteNT ?_
  | with_reducible refine iteNF ?_
  | ((with_reducible refine i_len_s ?_ ?_); (first | assumption | exact szl (by assumption)))
  | ((with_reducible refine i_sl_s ?_ ?_); (first | assumption | exact szl (by assumption)))
  | with_reducible refine i_int_b ?_
  | with_reducible refine i_abs ?_
  | with_reducible refine i_min2 ?_
  | with_reducible refine i_eq rfl ?_
  | with_reducible refine i_ne rfl ?_)
local macro_rules | `(tactic| walk_at "rd") => `(tactic| repeat walk_at "rd1")

abbrev s_BadText___init__ : Stmt := inClass (topS 6) 0
theorem sc_BadText___init__ : FnScope ["self", "row"] ["self", "row"] (defScope s_BadText___init__) := ⟨rfl, rfl, rfl, by decide +kernel, rfl, by decide +kernel, by decide +kernel⟩
abbrev s_read_project : Stmt := topS 34
theorem sc_read_project : FnScope ["text", "rows", "rest", "pairs", "at", "row", "pair"] ["text"] (defScope s_read_project) := ⟨rfl, rfl, rfl, by decide +kernel, rfl, by decide +kernel, by decide +kernel⟩
section
variable {P : Program} {w : World} {K : PySem.W.Frag} {mg : Str → Option Value} {base : Heap}
structure CalX (P : Program) (w : World) (K : PySem.W.Frag) (mg : Str → Option Value) (base : Heap) (C : Addr) : Prop where
  ex : ∃ (f : Addr) (fd : FuncData), FnOk P w K mg base CX0 1 f fd ["self", "row"] (spBt C) ∧ PySem.W.findIn K (.ref C) "__init__" = some (some (.ref f)) ∧ PySem.W.typeIn K (.ref f) = some (.type "function") ∧ Binds K fd ["self", "row"] []
theorem ok_bt {C : Addr} (D : DfX K C "BadText.__init__" s_BadText___init__ ["self", "row"]) (T : XCls K mg "BadText" "row" C) : CalX P w K mg base C := by
  obtain ⟨f, fd, F, h1, h2, h3⟩ := D.ex
  refine ⟨f, fd, F.ok sc_BadText___init__ (fun vs H Q E h => ?_) (fun cdv A outer s H vs Q E hr h => ?_), h1, h2, h3⟩
  · obtain ⟨_, _, rfl, _⟩ := h
    rfl
  · obtain ⟨a, v, rfl, e, q⟩ := h
    refine ⟨_, (pss_one (ps_ost (pv 0) (pv 1))), ?_⟩
    exact ⟨v, rfl, .ref a, rfl, a, C, rfl, T.oe, T.nf, .inl ⟨e, q⟩⟩
def tRaiseBt (C : Addr) (W : WX) (ta : TA) : TS := fun _ σ H => tBt C ta σ H fun cls d H' => W cls d σ H'
theorem ps_raiseBt {X : Cx} {W : WX} {n : Nat} {C : Addr} {ta : TA} {e : Expr} {p pos pos2 : Pos} (T : XCls X.K X.mg "BadText" "row" C) (M : CalX X.prog X.w X.K X.mg X.base C) (hr : Room n X.A) (tk : Takes X W) (ha : PA X [e] ta) (hn : 2 ≤ n := by decide) (hc : X.calm = true := by rfl) (hg : Gl X "BadText" := by rfl)
    (he : starEach [e] X.env = (false, eval e X.env) :: starEach [] X.env := by rfl) (hpl : (backTo pos (starEach [] X.env)).any (·.1) = false := by rfl) :
    PS X (.Raise (some (.Call (.Name "BadText" p) [e] [] pos)) none pos2) (tRaiseBt C W ta) := by
  obtain ⟨f, fd, F, h1, h2, h3⟩ := M.ex
  exact ps_raise hc tk (pmk_oex T.oe h1 h2 F (hr.mono hn) h3 .nil pass0 hg T.hm ha (by decide) he hpl)
theorem i_raiseBt {C : Addr} {W : WX} {ta : TA} {D : Ends} {σ : L2.St} {H : Hp} (h : tBt C ta σ H fun cls d H' => W cls d σ H') : tRaiseBt C W ta D σ H := h
/-- lines read: a project; a sixty-first line: refused -/
def spReadProject (K : PySem.W.Frag) (C CB : Addr) : Sp := fun vs H Q E => ∃ (prs : Prs) (tl : List (List Nat)), vs = [.str (S (inter [10] (prs.map lineOf ++ tl)))] ∧ PrsOk prs ∧ srtP prs = prs ∧
  ((tl = [[]] ∧ ∀ H' p, Same H H' → IsPr K C H' p prs → Q (.ref p) H') ∨
    (prs.length = 60 ∧ ∃ (p : Str × Src) (more : List (List Nat)) (l : List Nat), tl = lineOf p :: (more ++ [l]) ∧ (∀ q ∈ more ++ [l], 10 ∉ q) ∧ (inter [10] (more ++ [l])).length ≤ 1000 ∧ nameOk p.1 = true ∧ p.2.ok ∧
      ∀ d H', H d = none → Same H H' → H' d = some (.xd [("row", .int 61)]) → E (.ref CB) (some d) H') ∨
    (∃ l : List Nat, tl = [l] ∧ l ≠ [] ∧ 10 ∉ l ∧ l.length ≤ 1000 ∧ ∀ d H', H d = none → Same H H' → H' d = some (.xd [("row", .int ((prs.length : Nat) + 1 : Int))]) → E (.ref CB) (some d) H'))
theorem inter_cons {z : List Nat} : ∀ {a : List (List Nat)} {b : List (List Nat)}, b ≠ [] → inter z (a ++ b) = (a.flatMap fun l => l ++ z) ++ inter z b
  | [], b, _ => rfl
  | [x], y :: b, _ => by simp [inter]
  | x :: y :: a, b, h => by
    have ih := inter_cons (z := z) (a := y :: a) h
    show x ++ z ++ inter z (y :: a ++ b) = _
    rw [ih, List.flatMap_cons]
    simp
  | [x], [], h => absurd rfl h
theorem inter_prs (prs : Prs) {tl : List (List Nat)} (h : tl ≠ []) : inter [10] (prs.map lineOf ++ tl) = prTxt prs ++ inter [10] tl := by
  rw [inter_cons h]; unfold prTxt; rw [List.flatMap_map]
theorem rising {prs : Prs} (h : PrsOk prs) (hs : srtP prs = prs) {i : Nat} {a b : Str × Src} (ha : prs[i]? = some a) (hb : prs[i + 1]? = some b) : a.1.cps.toList < b.1.cps.toList := by
  have hn := srtP_names prs
  rw [hs] at hn
  have pw := srtN_pw (names prs)
  rw [← hn] at pw
  have ea : (names prs)[i]? = some a.1 := by unfold names; rw [List.getElem?_map, ha]; rfl
  have eb : (names prs)[i + 1]? = some b.1 := by unfold names; rw [List.getElem?_map, hb]; rfl
  obtain ⟨hi, ea'⟩ := List.getElem?_eq_some_iff.mp ea
  obtain ⟨hj, eb'⟩ := List.getElem?_eq_some_iff.mp eb
  have h1 := (List.pairwise_iff_getElem.mp pw) i (i + 1) hi hj (by omega)
  rw [ea', eb'] at h1
  have h2 : a.1 ≠ b.1 := fun e => by
    have := nd_ix h.nd ea (e ▸ eb)
    omega
  by_cases h : a.1.cps.toList < b.1.cps.toList
  · exact h
  · exact absurd (leS_anti h1 (by unfold leS; rw [decide_eq_false h]; rfl)) h2
theorem ok_read_project {C CB' : Addr} (D : Df K mg "read_project" "read_project" s_read_project ["text"]) (T : PCls K mg C) (TB : XCls K mg "BadText" "row" CB') (CB : CalX P w K mg base CB') (B : NoB mg) (g_MOST_THINGS : GV mg "MOST_THINGS" (.int 60))
    (C_ended_lines : Cal P w K mg base CX0 "ended_lines" ["text"] 1 (spEndedLines K)) (C_project_line : Cal P w K mg base CX0 "project_line" ["line"] 31 (spProjectLine K)) (M_Project : CalI P w K mg base CX0 C "Project" ["self", "sources"] 17 (spPrInit K C)) :
    Cal P w K mg base (L2.CX P w) "read_project" ["text"] 32 (spReadProject K C CB') := by
  refine D.cal fun f fd F => F.okX sc_read_project (fun vs H Q E h => ?_) (fun cdv A outer s H vs Q E hr h => ?_)
  · obtain ⟨_, _, rfl, _⟩ := h
    rfl
  · obtain ⟨prs, tl, rfl, hok, hsr, cases⟩ := h
    refine ⟨_, (pss_cons (ps_asg (pe_cal C_ended_lines hr (by rfl) (pa_cons (pv 0) pa_nil)) (pg_tupU K (by rfl) (pgs_cons (pg_name (i := 1) sc_read_project.nd rfl (.inl rfl)) (pgs_cons (pg_name (i := 2) sc_read_project.nd rfl (.inl rfl)) pgs_nil))))
      (pss_cons (ps_set (i := 3) sc_read_project.nd rfl (.inl rfl) (pe_lst pa_nil))
      (pss_cons (ps_for (passes_of rfl) rfl (pi_enumU K (by rfl) B.m_enumerate (pa_cons (pv 1) pa_nil)) (pg_tupU K (by rfl) (pgs_cons (pg_name (i := 4) sc_read_project.nd rfl (.inl rfl)) (pgs_cons (pg_name (i := 5) sc_read_project.nd rfl (.inl rfl)) pgs_nil))) (pss_cons (ps_set (i := 6) sc_read_project.nd rfl (.inl rfl) (pe_cal C_project_line hr (by rfl) (pa_cons (pv 5) pa_nil)))
      (pss_cons (ps_if (PW.pt (pw_or (pt_cmpR op_isNo (pv 6) pe_non (nomark _)) (pw_or (pt_cmpR (op_eqU K hr.units) (pe_callB (call_lenU K) (by rfl) B.m_len (by decide +kernel) (pa_cons (pv 3) pa_nil)) (pe_gv (by rfl) g_MOST_THINGS) (nomark _)) (pw_or1 (PW.pt (pw_and (pt_cmpR (op_neU K hr.units) (pv 3) (pe_lst pa_nil) (nomark _)) (pw_and1 (pt_cmpR op_leU (pe_ix (ix_U K) (pv 6) pe_int (fun _ _ => rfl)) (pe_ix (ix_U K) (pe_ix (ix_U K) (pv 3) (pe_un un_neg pe_int) (fun _ _ => rfl)) pe_int (fun _ _ => rfl)) (nomark _))))))))) (pss_one (ps_raiseBt TB CB hr (takes_of rfl rfl rfl rfl) (pa_cons (pe_op (op_addU K) (pv 4) pe_int) pa_nil))) pss_nil)
      (pss_one (ps_expr (pe_bmU K PySem.F.plainAttrs_list PySem.F.slot_list_append PySem.F.type_list_append mt_append (pv 3) (pa_cons (pv 6) pa_nil)))))))
      (pss_cons (ps_if (pt_cmpR (op_neU K hr.units) (pv 2) pe_str (nomark _)) (pss_one (ps_raiseBt TB CB hr (takes_of rfl rfl rfl rfl) (pa_cons (pe_op (op_addU K) (pe_callB (call_lenU K) (by rfl) B.m_len (by decide +kernel) (pa_cons (pv 1) pa_nil)) pe_int) pa_nil))) pss_nil)
      (pss_one (ps_ret (pe_ical M_Project hr (by rfl) (pa_cons (pe_callTy (call_tupU K) (by rfl) B.m_tuple (by decide +kernel) (pa_cons (pv 3) pa_nil)) pa_nil)))))))), ?_⟩
    have htl : ∃ more l, tl = more ++ [l] ∧ (∀ q ∈ more ++ [l], 10 ∉ q) ∧ (inter [10] (more ++ [l])).length ≤ 4000 ∧ ((more = [] ∧ l = [] ∧ ∀ H' p, Same H H' → IsPr K C H' p prs → Q (.ref p) H') ∨
        (prs.length = 60 ∧ ∃ (p : Str × Src) (r : List (List Nat)), more = lineOf p :: r ∧ nameOk p.1 = true ∧ p.2.ok ∧ ∀ d H', H d = none → Same H H' → H' d = some (.xd [("row", .int 61)]) → E (.ref CB') (some d) H') ∨
        (more = [] ∧ l ≠ [] ∧ ∀ d H', H d = none → Same H H' → H' d = some (.xd [("row", .int ((prs.length : Nat) + 1 : Int))]) → E (.ref CB') (some d) H')) := by
      rcases cases with ⟨rfl, h⟩ | ⟨h0, p, more, l, rfl, h1, h2, h3, h4, h5⟩ | ⟨l, rfl, h1, h2, h3, h4⟩
      · exact ⟨[], [], rfl, by simp, by decide, .inl ⟨rfl, rfl, h⟩⟩
      rotate_left
      · refine ⟨[], l, rfl, ?_, ?_, .inr (.inr ⟨rfl, h1, h4⟩)⟩
        · intro q hq
          rw [List.mem_singleton.mp hq]
          exact h2
        · show l.length ≤ 4000
          omega
      · refine ⟨lineOf p :: more, l, rfl, ?_, ?_, .inr (.inl ⟨h0, p, more, rfl, h3, h4, h5⟩)⟩
        · intro q hq
          rcases List.mem_cons.mp hq with rfl | hq
          · exact line_low h3 h4
          · exact h1 q hq
        · have := line_len h3 h4
          have e := inter_cons (z := [10]) (a := [lineOf p]) (b := more ++ [l]) (by simp)
          show (inter [10] ([lineOf p] ++ (more ++ [l]))).length ≤ 4000
          rw [e, List.length_append]
          simp
          omega
    clear cases
    obtain ⟨more, l, rfl, htl1, htl2, cases⟩ := htl
    have hpl := prTxt_len hok
    have hn60 := hok.ln
    walk_at "rd"
    have hrows : ∀ q ∈ (prs.map lineOf ++ more) ++ [l], 10 ∉ q := by
      intro q hq
      rw [List.append_assoc] at hq
      rcases List.mem_append.mp hq with hq | hq
      · obtain ⟨p, hp, rfl⟩ := List.mem_map.mp hq
        exact line_low (hok.nm p hp) (hok.sr p hp)
      · exact htl1 q hq
    refine ⟨prs.map lineOf ++ more, l, by rw [List.append_assoc]; rfl, hrows, ?_, fun H1 v a s1 hv hl => ?_⟩
    · rw [List.append_assoc, inter_prs prs (by simp), List.length_append]
      omega
    refine i_gtup hv rfl ?_
    walk_at "rd"
    refine i_new_l (by exact Nat.zero_le _) fun lp H2 nl s2 e2 => ?_
    walk_at "rd"
    have s12 := s1.trans s2
    refine f_enum (.inl (.inl (s2 _ _ hl))) (fun i σ H3 => ∃ (xs : List V) (y1 y2 y3 : Option V), i ≤ prs.length ∧ σ = [some (.str (S (inter [10] (prs.map lineOf ++ (more ++ [l]))))), some (.ref a), some (.str (S l)), some (.ref lp), y1, y2, y3] ∧ Same H H3 ∧ H3 a = some (.lst ((prs.map lineOf ++ more).map fun p => .str (S p))) ∧ H3 lp = some (.lst xs) ∧ Dts K H3 ((prs.take i).map prPy) xs) ?_ ?_ ?_ ?_
    · exact ⟨[], none, none, none, Nat.zero_le _, rfl, s12, s2 _ _ hl, e2, by rw [List.take_zero]; exact dts_nil⟩
    · rintro i σ H3 _ ⟨xs, y1, y2, y3, hi, rfl, s3, e3, e4, hx⟩
      exact .inl (.inl e3)
    · rintro i x σ H3 t H4 hx ⟨xs, y1, y2, y3, hi, rfl, s3, e3, e4, hd⟩ ht s4 e5
      have hpr : ∃ pr, x = .str (S (lineOf pr)) ∧ nameOk pr.1 = true ∧ pr.2.ok ∧ ((i < prs.length ∧ prs[i]? = some pr) ∨ (i = 60 ∧ prs.length = 60 ∧ ∀ d H', H d = none → Same H H' → H' d = some (.xd [("row", .int 61)]) → E (.ref CB') (some d) H')) := by
        by_cases hlt : i < prs.length
        · have hp : prs[i]? = some prs[i] := List.getElem?_eq_getElem hlt
          have hm := List.mem_of_getElem? hp
          rw [List.getElem?_map, List.getElem?_append_left (by rw [List.length_map]; exact hlt), List.getElem?_map, hp] at hx
          exact ⟨prs[i], (Option.some.inj hx).symm, hok.nm _ hm, hok.sr _ hm, .inl ⟨hlt, hp⟩⟩
        · have ei : i = prs.length := by omega
          subst ei
          rcases cases with ⟨rfl, _⟩ | ⟨h60, p, r, rfl, h3, h4, h5⟩ | ⟨rfl, _⟩
          rotate_left 2
          · rw [List.append_nil, List.getElem?_map, List.getElem?_eq_none (by rw [List.length_map]; exact Nat.le_refl _)] at hx
            cases hx
          · rw [List.append_nil, List.getElem?_map, List.getElem?_eq_none (by rw [List.length_map]; exact Nat.le_refl _)] at hx
            cases hx
          · rw [List.getElem?_map, List.getElem?_append_right (by rw [List.length_map]; exact Nat.le_refl _), List.length_map, Nat.sub_self] at hx
            exact ⟨p, (Option.some.inj hx).symm, h3, h4, .inr ⟨h60, h60, h5⟩⟩
      obtain ⟨pr, rfl, hnm, hsc, hcase⟩ := hpr
      walk_at "rd"
      refine i_gtup (.inl (.inl e5)) rfl ?_
      walk_at "rd"
      refine ⟨pr, rfl, hnm, hsc, fun H5 v s5 hv => ?_⟩
      obtain ⟨b, x1, x2, rfl, hb, hx1, hx2⟩ := hv.pair
      have e := hx1.str
      subst e
      walk_at "rd"
      rw [decide_eq_false (fun e : V.ref b = V.non => by cases e)]
      walk_at "rd"
      have e4' := s5 _ _ (s4 _ _ e4)
      have e3' := s5 _ _ (s4 _ _ e3)
      have hxl := hd.length
      rw [List.length_map, List.length_take] at hxl
      have st : Stay H3 H5 := .same (s4.trans s5)
      have hd' := hd.mono st
      refine i_len_l (.inl (.inl e4')) ?_
      walk_at "rd"
      rw [decI]
      rcases hcase with ⟨hlt, hp⟩ | ⟨rfl, h60, hE⟩
      · rw [decide_eq_false (by omega : ¬ ((xs.length : Int) = 60))]
        walk_at "rd"
        refine i_new_l (by exact Nat.zero_le _) fun le H6 ne s6 e6 => ?_
        have e4'' := s6 _ _ e4'
        refine i_ne_l (.inl (.inl e4'')) (.inl (.inl e6)) (hd'.mono (.same s6)) dts_nil ?_ (by simp) ?_
        · intro d hdm
          obtain ⟨q, hq, rfl⟩ := List.mem_map.mp hdm
          have hq := List.mem_of_mem_take hq
          exact cmp_pr (hok.nm _ hq) (hok.sr _ hq)
        have sx : Same H H6 := (s3.trans s4).trans (s5.trans s6)
        have nlH := none_back s1 nl
        have nal : a ≠ lp := ne_of_none hl nl
        have fin : ∀ H8, Bt lp H6 H8 → H8 lp = some (.lst (xs ++ [.ref b])) → Same H H8 ∧ H8 a = some (.lst ((prs.map lineOf ++ more).map fun p => .str (S p))) ∧ Dts K H8 ((prs.take (i + 1)).map prPy) (xs ++ [.ref b]) := by
          intro H8 b8 e8
          refine ⟨Same.but sx nlH b8, b8 _ _ nal (s6 _ _ e3'), ?_⟩
          rw [take_snoc hp, List.map_append]
          have t8 : Stay H5 H8 := (Stay.same s6).trans (.but b8 e4'')
          exact (hd'.mono t8).snoc (hv.mono t8)
        rcases Nat.eq_zero_or_pos i with rfl | hpos
        · rw [List.take_zero, show PyData.eqvAll (List.map prPy []) [] = true from rfl]
          walk_at "rd"
          refine i_tyl e4'' ?_
          walk_at "rd"
          refine i_append e4'' (szlt (by omega)) fun H8 b8 e8 => ?_
          walk_at "rd"
          obtain ⟨g1, g2, g3⟩ := fin H8 b8 e8
          exact ⟨_, _, _, _, hlt, rfl, g1, g2, e8, g3⟩
        · obtain ⟨j, rfl⟩ : ∃ j, i = j + 1 := ⟨i - 1, by omega⟩
          have hj : prs[j]? = some (prs[j]'(by omega)) := List.getElem?_eq_getElem (by omega)
          generalize (prs[j]'(by omega)) = pj at hj
          have hris := rising hok hsr hj hp
          have htk : ((prs.take (j + 1)).map prPy) = (prs.take j).map prPy ++ [prPy pj] := by rw [take_snoc hj, List.map_append]; rfl
          have hfl : PyData.eqvAll ((prs.take (j + 1)).map prPy) [] = false := by
            rw [htk]
            cases (prs.take j).map prPy <;> rfl
          rw [hfl]
          walk_at "rd"
          refine i_ix_t (sqT_tt (.same s6) hb) (atI_nat (j := 0) rfl) ?_
          walk_at "rd"
          have hget : ((prs.take (j + 1)).map prPy)[j]? = some (prPy pj) := by
            rw [List.getElem?_map, List.getElem?_take]
            rw [if_pos (by omega), hj]
            rfl
          obtain ⟨u, hu, hdu⟩ := (hd'.mono (.same s6)).at' hget
          obtain ⟨c, z1, z2, rfl, hc, hz1, hz2⟩ := hdu.pair
          have e := hz1.str
          subst e
          refine i_ix_l (.inl (.inl e4'')) (atI_m1 (by omega) hu) ?_
          walk_at "rd"
          refine i_ix_t hc (atI_nat (j := 0) rfl) ?_
          walk_at "rd"
          rw [decide_eq_true hris]
          walk_at "rd"
          refine i_tyl e4'' ?_
          walk_at "rd"
          refine i_append e4'' (szlt (by omega)) fun H8 b8 e8 => ?_
          walk_at "rd"
          obtain ⟨g1, g2, g3⟩ := fin H8 b8 e8
          exact ⟨_, _, _, _, hlt, rfl, g1, g2, e8, g3⟩
      · rw [decide_eq_true (by omega : ((xs.length : Int) = 60))]
        walk_at "rd"
        refine i_raiseBt (i_bt ?_)
        walk_at "rd"
        refine i_btk fun d H6 nd s6 e6 => ?_
        have sx : Same H H5 := (s3.trans s4).trans s5
        exact hE d H6 (none_back sx nd) (sx.trans s6) e6
    · rintro σ H3 ⟨xs, y1, y2, y3, hi, rfl, s3, e3, e4, hd⟩
      rw [List.length_map, List.length_append, List.length_map] at hi hd
      rcases cases with ⟨rfl, rfl, hQ⟩ | ⟨h60, p, r, rfl, h3, h4, h5⟩ | ⟨rfl, hne, hE⟩
      rotate_left 2
      · walk_at "rd"
        rw [decS, decide_eq_false (fun e => hne (S_inj (show S l = S [] from e)) : ¬ S l = Str.ofString "")]
        walk_at "rd"
        refine i_raiseBt (i_bt ?_)
        walk_at "rd"
        refine i_len_l (.inl (.inl e3)) ?_
        walk_at "rd"
        refine i_btk fun d H6 nd s6 e6 => ?_
        rw [List.length_map, List.length_append, List.length_map] at e6
        exact hE d H6 (none_back s3 nd) (s3.trans s6) e6
      · rw [show prs.length + ([] : List (List Nat)).length = prs.length from rfl, List.take_length] at hd
        walk_at "rd"
        rw [decS, show decide (S [] = Str.ofString "") = true from rfl]
        walk_at "rd"
        refine i_tupof_l (.inl (.inl e4)) fun t H4 nt s4 e5 => ?_
        walk_at "rd"
        refine i_mko fun x dx H5 nx s5 e6 => ?_
        have hd5 := hd.mono (.same (s4.trans s5))
        have sx := (s3.trans s4).trans s5
        refine ⟨x, dx, .ref t, prs, rfl, e6, dt_tup (.inl (.inl (s5 _ _ e5))) hd5, hok, fun H6 k6 ip => ⟨rfl, ?_⟩⟩
        refine hQ H6 x (fun b o e => k6 b o (sx _ _ e) ?_) ip
        exact ne_of_none (s4 _ _ (s3 _ _ e)) nx
      · rw [List.length_cons] at hi
        omega
end
end Aw

namespace Aw
open PySem PySem.Spec PyProof.Rows L2
/-! ### a pot of digits: a list of one number, and what is drawn -/
def Pot (H : Hp) (p : Addr) : Prop := ∃ n : Int, H p = some (.lst [.int n])
theorem Pot.same {H H' : Hp} {p : Addr} (h : Pot H p) (s : Same H H') : Pot H' p := by
  obtain ⟨n, e⟩ := h
  exact ⟨n, s _ _ e⟩
theorem Pot.but {H H' : Hp} {p l : Addr} (h : Pot H p) (b : Bt l H H') (n : p ≠ l) : Pot H' p := by
  obtain ⟨k, e⟩ := h
  exact ⟨k, b _ _ n e⟩
theorem Bt.trans {l : Addr} {H H1 H2 : Hp} (a : Bt l H H1) (b : Bt l H1 H2) : Bt l H H2 := fun c o n e => b c o n (a c o n e)
theorem Bt.refl (l : Addr) (H : Hp) : Bt l H H := fun _ _ _ e => e
theorem Bt.same {l : Addr} {H H' : Hp} (a : Same H H') : Bt l H H' := fun c o _ e => a c o e
theorem Bt.but {p D : Addr} {H0 H H' : Hp} (a : Bt p H0 H) (f : H0 D = none) (b : Bt D H H') : Bt p H0 H' := fun c o n e => b c o (ne_of_none e f) (a c o n e)
theorem Pot.ne {H : Hp} {p D : Addr} (h : Pot H p) (d : H D = none) : p ≠ D := by
  obtain ⟨k, e⟩ := h
  exact ne_of_none e d
theorem Pot.stay {H H' : Hp} {p : Addr} (h : Pot H p) (b : Bt p H H') : Stay H H' := by
  obtain ⟨k, e⟩ := h
  exact .but b e
theorem none_bt {H H' : Hp} {p a : Addr} (s : Bt p H H') (e : H' a = none) (n : a ≠ p) : H a = none := by
  cases h : H a with
  | none => rfl
  | some o => have := s _ _ n h; rw [e] at this; cases this
theorem Stay.pot {H H' : Hp} {p : Addr} (h : Pot H p) (b : Bt p H H') : Stay H H' := h.stay b
theorem dig (n : Int) {m : Nat} (h : 0 < m) : ∃ d : Nat, n.fmod (m : Int) = (d : Int) ∧ d < m := by
  have h1 : 0 ≤ n.fmod (m : Int) := Int.fmod_nonneg_of_pos n (by omega)
  have h2 : n.fmod (m : Int) < m := Int.fmod_lt_of_pos n (by omega)
  exact ⟨(n.fmod m).toNat, by omega, by omega⟩
/-! ### texts that may be parts of a tree -/
def txOk (n : Nat) (z : Str) : Prop := z.length ≤ n ∧ z.cps.toList.all plainC = true
theorem txOk.mono {n m : Nat} {z : Str} (h : txOk n z) (k : n ≤ m) : txOk m z := ⟨Nat.le_trans h.1 k, h.2⟩
theorem txOk.app {n m : Nat} {a b : Str} (h : txOk n a) (k : txOk m b) : txOk (n + m) (a ++ b) := by
  refine ⟨by rw [app_len]; exact Nat.add_le_add h.1 k.1, ?_⟩
  rw [app_list, List.all_append, h.2, k.2]; rfl
theorem txOk.gd {n : Nat} {z : Str} (h : txOk n z) (k : n ≤ 300) : GoodT (.str z) 1 (n + 1) := by
  refine ⟨?_, ?_, ?_⟩
  · simp only [good, h.2, Bool.and_true, decide_eq_true_eq]; have := h.1; omega
  · simp [tdeep]
  · simp only [tsize]; have := h.1; omega
theorem txOk.join {n : Nat} {z : Str} {k : Nat} : ∀ {ys : List Str}, (∀ y ∈ ys, txOk n y) → txOk k z → txOk (ys.length * (n + k)) (Txt.join z ys) := by
  intro ys h hz
  have e := join_list z ys
  refine ⟨?_, ?_⟩
  · have h1 : (Txt.join z ys).length = (inter z.cps.toList (ys.map (·.cps.toList))).length := by rw [← e, len_list]
    rw [h1]
    refine Nat.le_trans (inter_length _ _) ?_
    rw [List.length_map, len_list]
    have h2 : ((ys.map (·.cps.toList)).map List.length).sum ≤ ys.length * n := by
      clear e h1
      induction ys with
      | nil => simp
      | cons y r ih =>
        have := (h y (List.mem_cons_self ..)).1
        have := ih fun w hw => h w (List.mem_cons_of_mem _ hw)
        rw [List.map_cons, List.map_cons, List.sum_cons, List.length_cons, Nat.succ_mul, len_list]
        omega
    have h3 := Nat.mul_le_mul_left ys.length hz.1
    rw [Nat.mul_add]
    omega
  · rw [e]
    clear e
    induction ys with
    | nil => rfl
    | cons y r ih =>
      have h1 := (h y (List.mem_cons_self ..)).2
      have h2 := ih fun w hw => h w (List.mem_cons_of_mem _ hw)
      cases r with
      | nil => exact h1
      | cons x r =>
        rw [List.map_cons, List.map_cons] at *
        simp only [inter, List.all_append, h1, hz.2, Bool.true_and]
        exact h2
theorem name_tx {n : Nat} {z : Str} (h : nameOk z = true) (k : z.length ≤ n) : txOk n z := by
  refine ⟨k, ?_⟩
  rw [List.all_eq_true]
  intro c hc
  have := nameOk_all h hc
  simp only [plainC, Bool.or_eq_true, Bool.and_eq_true, decide_eq_true_eq]
  omega
/-- a list of names to draw from -/
structure Nms (H : Hp) (a : Addr) (ns : List Str) : Prop where
  at' : H a = some (.lst (ns.map V.str))
  ne : 1 ≤ ns.length
  le : ns.length ≤ 8
  ok : ∀ n ∈ ns, nameOk n = true ∧ n.length ≤ 3
theorem Nms.same {H H' : Hp} {a : Addr} {ns : List Str} (h : Nms H a ns) (s : Same H H') : Nms H' a ns := ⟨s _ _ h.at', h.ne, h.le, h.ok⟩
theorem Nms.bt {H H' : Hp} {a p : Addr} {ns : List Str} (h : Nms H a ns) (hp : Pot H p) (b : Bt p H H') : Nms H' a ns := by
  obtain ⟨n, e⟩ := hp
  refine ⟨b.ne e h.at' (fun z => ?_), h.ne, h.le, h.ok⟩
  have h1 := h.ne
  cases ns with
  | nil => simp at h1
  | cons x r =>
    have z : (HO.lst (V.str x :: r.map V.str)) = .lst [V.int n] := z
    injection z with z
    have := (List.cons.inj z).1
    cases this
theorem Nms.but {H H' : Hp} {a D : Addr} {ns : List Str} (h : Nms H a ns) (b : Bt D H H') (n : a ≠ D) : Nms H' a ns := ⟨b _ _ n h.at', h.ne, h.le, h.ok⟩
theorem i_unl {K : PySem.W.Frag} {σ : L2.St} {H : Hp} {n : Nat} {t : TGs} {a : Addr} {xs : List V} {Q : L2.St → Hp → Prop} (s : SqL K H a xs) (e : xs.length = n) (h : t xs σ H Q) : gUnl K n t (.ref a) σ H Q := ⟨a, xs, rfl, s, e, h⟩
theorem pg_unlU {X : Cx} (K : PySem.W.Frag) {es : List Expr} {k n : Nat} {t : TGs} {pos : Pos} (hc : X.calm = true) (hp : PGs X es t) (h : X.K = K := by rfl)
    (hn : (assignEach es X.env).length = n := by rfl) (hst : (assignEach es X.env).findIdx? (·.1) = none := by rfl) : PG X (.Tuple es k pos) (gUnl K n t) := h ▸ pg_unl hc hp hn hst
/-! ### a slice with a step, of a list of ints -/
def StepK (K : PySem.W.Frag) (x : V) (l t : Option Int) (H : Hp) (Q : VK) : Prop := t ≠ some 0 ∧ ∃ (a : Addr) (ns : List Int), x = .ref a ∧ SqL K H a (ns.map V.int) ∧ ∀ p, H p = none → Q (.ref p) (upd H p (.lst ((pickNums ns l none t).map V.int)))
def tStepL (K : PySem.W.Frag) (te tl ts : TE) : TE := fun σ H Q => te σ H fun x H1 => tPart tl σ H1 fun l H2 => tPart ts σ H2 fun t H3 => StepK K x l t H3 Q
theorem i_stepL {K : PySem.W.Frag} {te tl ts : TE} {σ : L2.St} {H : Hp} {Q : VK} (h : te σ H fun x H1 => tPart tl σ H1 fun l H2 => tPart ts σ H2 fun t H3 => StepK K x l t H3 Q) : tStepL K te tl ts σ H Q := h
theorem i_stepk {K : PySem.W.Frag} {H : Hp} {Q : VK} {a : Addr} {ns : List Int} {l t : Option Int} (s : SqL K H a (ns.map V.int)) (ht : t ≠ some 0) (q : ∀ p H', H p = none → Same H H' → H' p = some (.lst ((pickNums ns l none t).map V.int)) → Q (.ref p) H') : StepK K (.ref a) l t H Q :=
  ⟨ht, a, ns, rfl, s, fun p hp => q p _ hp (same_new hp _) upd_same⟩
theorem pe_stepL {X : Cx} {K : PySem.W.Frag} {e lo st : Expr} {te tl ts : TE} {p3 pos : Pos} (he : PE X e te) (hl : PE X lo tl) (hs : PE X st ts) (hK : X.K = K := by rfl) : PE X (.Subscript e (.Slice (some lo) none (some st) p3) pos) (tStepL K te tl ts) := by
  subst hK
  refine ⟨fun pins s σ H Q I h => ?_⟩
  refine Subscript_ (thn (he.run pins s σ H _ I h) fun v s1 ⟨x, H1, I1, r1, q1⟩ => ?_)
  refine wpAny_Slice (thn ((po_some hl).run pins s1 σ H1 _ I1 q1) fun vl s2 ⟨l, H2, I2, pl, q2⟩ => ?_)
  refine thn (po_none.run pins s2 σ H2 (fun o H3 => o = none ∧ H3 = H2) I2 ⟨rfl, rfl⟩) fun vu s3 ⟨u, H3, I3, pu, eu, e3⟩ => ?_
  subst eu e3
  refine thn ((po_some hs).run pins s3 σ H3 _ I3 q2) fun vs s4 ⟨o, H4, I4, ps, q3⟩ => ?_
  obtain ⟨ht, a, ns, ex, hx, q⟩ := q3
  subst ex
  cases r1
  have I5 : Inv X pins σ H4 { s4 with heap := s4.heap.push { cls := .type "slice", data := .fields #[vl, vu, vs] } } := I4.kept (t' := s4.toks) fun b ob q => Heap.get?_push_of_some _ q
  obtain ⟨its, r, hli, hz⟩ := I5.list hx
  have hlen := r.length
  show wpAny (model X.prog X.w) X.A (subscriptTail e (.Slice (some lo) none (some st) p3) (.ref a) (.ref s4.heap.objs.size)) (EP X pins σ Q) X.xe { s4 with heap := s4.heap.push { cls := .type "slice", data := .fields #[vl, vu, vs] } }
  refine tail_any (ops := [.ref a, .ref s4.heap.objs.size]) hli.isList.typeIs (PySem.slot_list_getitem.lookup) ?_ (by with_unfolding_all rfl)
  refine wpAny_getItem_list_slice hli.isList (Heap.IsSliceOf.new _ vl vu vs) pl pu ps ht ?_ (by rw [List.size_toArray]; omega)
  have hi := r.ints.pick l none o
  refine ⟨.ref _, _, I5.laid (t' := s4.toks) (o := .lst ((pickNums ns l none o).map V.int)) (fun b ob q => Heap.get?_push_of_some _ q) (Nat.le_refl _) ?_, rfl, q _ (I5.hok.fresh (Nat.le_refl _))⟩
  exact ⟨by rw [List.length_map]; exact Nat.le_trans (length_pickNums_le r.ints l none o) (by rw [List.length_map] at hz; exact hz), _, 0, vals_of_ints hi, Heap.get?_push_size _ rfl⟩
theorem pe_cal0 {X : Cx} {k n : Nat} {x : Str} {ps : List Str} {sp : Sp} {p pos : Pos} (C : Cal X.prog X.w X.K X.mg X.base CX0 x ps k sp) (hr : Room n X.A) (hg : Gl X x) (hk : k ≤ n := by decide) (hdb : (x == ("__debug__" : Str)) = false := by decide) : PE X (.Call (.Name x p) [] [] pos) (tCall sp [] E0 tNil) := by
  obtain ⟨f, fd, F, hm, hkp, hb⟩ := C.ex
  exact pe_call0 F (hr.mono hk) hg hm hkp hb .nil pass0 hdb
/-! ### list(d.items()) -/
def ItK (x : V) (H : Hp) (Q : VK) : Prop := LiI.rItemsL x H Q
theorem i_items {te : TE} {σ : L2.St} {H : Hp} {Q : VK} (h : te σ H fun x H1 => ItK x H1 Q) : LiI.tListItems te σ H Q := h
theorem i_itk {H : Hp} {Q : VK} {d : Addr} {kvs : List (Key × V)} (e : H d = some (.dK kvs)) (q : ∀ (H' : Hp) (p : Addr) (ts : List Addr), Same H H' → H p = none → H' p = some (.lst (ts.map V.ref)) → Paired (fun (t : Addr) (q : Key × V) => H' t = some (.tup [kV q.1, q.2])) ts kvs → Q (.ref p) H') : ItK (.ref d) H Q :=
  ⟨d, kvs, rfl, e, fun H' p ts k hp _ _ e' pr => q H' p ts k hp e' pr⟩
end Aw

namespace Aw
open PySem PySem.Spec PyProof.Rows L2

local macro_rules | `(tactic| walk_at "rd1") => `(tactic| first
  | ((with_reducible apply i_var); exact rfl)
  | with_reducible refine i_c ?_
  | with_reducible refine i_op ?_
  | with_reducible refine i_un ?_
  | with_reducible refine i_test ?_
  | with_reducible refine i_tB ?_
  | with_reducible refine i_bl ?_
  | with_reducible refine i_and ?_
  | with_reducible refine i_or ?_
  | with_reducible refine i_not ?_
  | with_reducible refine i_andV ?_
  | with_reducible refine i_orV ?_
  | with_reducible refine i_notV ?_
  | with_reducible refine i_if ?_
  | with_reducible refine i_chain ?_
  | with_reducible refine i_nil ?_
  | with_reducible refine i_cons ?_
  | with_reducible refine i_tup ?_
  | with_reducible refine i_lst ?_
  | with_reducible refine i_cb ?_
  | with_reducible refine i_call ?_
  | with_reducible refine i_bm ?_
  | with_reducible refine i_m1 ?_
  | with_reducible refine i_m0 ?_
  | with_reducible refine i_exstr ?_
  | with_reducible refine i_sl ?_
  | with_reducible refine i_nopart ?_
  | with_reducible refine i_part ?_
  | with_reducible refine i_int ?_
  | with_reducible refine i_seq ?_
  | with_reducible refine i_next ?_
  | with_reducible refine i_asg ?_
  | with_reducible refine i_gname ?_
  | with_reducible refine i_ret ?_
  | with_reducible refine i_retN ?_
  | with_reducible refine i_drop ?_
  | with_reducible refine i_ifS ?_
  | with_reducible refine i_break ?_
  | with_reducible refine i_cont ?_
  | ((with_reducible apply i_aug); exact rfl)
  | with_reducible refine i_add_i ?_
  | with_reducible refine i_sub ?_
  | with_reducible refine i_neg ?_
  | with_reducible refine i_ipadd_i ?_
  | with_reducible refine i_ip ?_
  | with_reducible refine i_lt ?_
  | with_reducible refine i_le ?_
  | with_reducible refine i_gt ?_
  | with_reducible refine i_ge ?_
  | with_reducible refine i_lt_s ?_
  | with_reducible refine i_le_s ?_
  | with_reducible refine i_gt_s ?_
  | with_reducible refine i_ge_s ?_
  | with_reducible refine i_isN ?_
  | with_reducible refine i_notN ?_
  | with_reducible refine i_in_c ?_
  | with_reducible refine i_nin_c ?_
  | with_reducible refine i_gsub ?_
  | with_reducible refine i_gcons ?_
  | with_reducible refine i_gnil ?_
  | with_reducible refine i_iList ?_
  | with_reducible refine i_iTup ?_
  | with_reducible refine i_iStr ?_
  | with_reducible refine i_iRng1 ?_
  | with_reducible refine i_lc ?_
  | with_reducible refine i_for ?_
  | with_reducible refine i_yes ?_
  | with_reducible refine i_repl ?_
  | with_reducible refine i_meth ?_
  | with_reducible refine i_fld ?_
  | with_reducible refine i_sfld ?_
  | with_reducible refine i_din ?_
  | with_reducible refine i_dnin ?_
  | with_reducible refine i_dget ?_
  | with_reducible refine i_dput ?_
  | with_reducible refine i_joined ?_
  | with_reducible refine i_items ?_
  | with_reducible refine i_stepL ?_
  | with_reducible refine i_make ?_
  | with_reducible refine i_fmt ?_
  | with_reducible refine i_jcons ?_
  | with_reducible refine i_jnil ?_
  | with_reducible refine i_iEnum ?_
  | with_reducible refine iteT ?_
  | with_reducible refine iteF ?_
  | with_reducible refine iteNT ?_
  | with_reducible refine iteNF ?_
  | ((with_reducible refine i_len_s ?_ ?_); (first | assumption | exact szl (by assumption)))
  | ((with_reducible refine i_sl_s ?_ ?_); (first | assumption | exact szl (by assumption)))
  | with_reducible refine i_int_b ?_
  | with_reducible refine i_abs ?_
  | with_reducible refine i_min2 ?_
  | with_reducible refine i_eq rfl ?_
  | with_reducible refine i_ne rfl ?_)
local macro_rules | `(tactic| walk_at "rd") => `(tactic| repeat walk_at "rd1")

abbrev s__law_cell_at : Stmt := topS 36
theorem sc__law_cell_at : FnScope ["script", "k"] ["script", "k"] (defScope s__law_cell_at) := ⟨rfl, rfl, rfl, by decide +kernel, rfl, by decide +kernel, by decide +kernel⟩
abbrev s__law_pot : Stmt := topS 37
theorem sc__law_pot : FnScope ["cell", "salt", "step", "big", "k"] ["cell", "salt"] (defScope s__law_pot) := ⟨rfl, rfl, rfl, by decide +kernel, rfl, by decide +kernel, by decide +kernel⟩
abbrev s__law_take : Stmt := topS 38
theorem sc__law_take : FnScope ["pot", "many", "digit"] ["pot", "many"] (defScope s__law_take) := ⟨rfl, rfl, rfl, by decide +kernel, rfl, by decide +kernel, by decide +kernel⟩
abbrev s__law_word : Stmt := topS 39
theorem sc__law_word : FnScope ["pot", "names", "some"] ["pot", "names"] (defScope s__law_word) := ⟨rfl, rfl, rfl, by decide +kernel, rfl, by decide +kernel, by decide +kernel⟩
section
variable {P : Program} {w : World} {K : PySem.W.Frag} {mg : Str → Option Value} {base : Heap}
def spCellAt (K : PySem.W.Frag) : Sp := fun vs H Q _ => ∃ (a : Addr) (ns : List Int) (k : Nat), vs = [.ref a, .int (k : Nat)] ∧ SqL K H a (ns.map V.int) ∧ ∀ n : Int, Q (.int n) H
theorem ok_cell_at (D : Df K mg "_law_cell_at" "_law_cell_at" s__law_cell_at ["script", "k"]) (B : NoB mg) : Cal P w K mg base CX0 "_law_cell_at" ["script", "k"] 1 (spCellAt K) := by
  refine D.cal fun f fd F => F.ok sc__law_cell_at (fun vs H Q E h => ?_) (fun cdv A outer s H vs Q E hr h => ?_)
  · obtain ⟨_, _, _, rfl, _⟩ := h
    rfl
  · obtain ⟨a, ns, k, rfl, hs, q⟩ := h
    refine ⟨_, (pss_cons (ps_if (pt_cmpR op_ltU (pv 1) (pe_callB (call_lenU K) (by rfl) B.m_len (by decide +kernel) (pa_cons (pv 0) pa_nil)) (nomark _)) (pss_one (ps_ret (pe_ix (ix_U K) (pv 0) (pv 1) (fun _ _ => rfl)))) pss_nil)
      (pss_one (ps_ret pe_int))), ?_⟩
    walk_at "rd"
    refine i_len_l hs ?_
    walk_at "rd"
    rw [List.length_map]
    by_cases hk : k < ns.length
    · rw [decide_eq_true (by omega : (k : Int) < (ns.length : Int))]
      walk_at "rd"
      refine i_ix_l hs (atI_nat (j := k) (v := .int ns[k]) (by rw [List.getElem?_map, List.getElem?_eq_getElem hk]; rfl)) ?_
      exact q _
    · rw [decide_eq_false (by omega : ¬ (k : Int) < (ns.length : Int))]
      walk_at "rd"
      exact q _
/-- a pot is made -/
def spPot : Sp := fun vs H Q _ => ∃ (c : Int) (k : Nat), vs = [.int c, .int (k : Nat)] ∧ k ≤ 1000 ∧ ∀ H' p, H p = none → Same H H' → Pot H' p → Q (.ref p) H'
theorem fm_lo (x : Int) : 0 ≤ x.fmod 2147483629 ∧ x.fmod 2147483629 < 2147483629 := ⟨Int.fmod_nonneg_of_pos x (by decide), Int.fmod_lt_of_pos x (by decide)⟩
theorem fm_lp (x : Int) : 0 ≤ x.fmod 2147483647 ∧ x.fmod 2147483647 < 2147483647 := ⟨Int.fmod_nonneg_of_pos x (by decide), Int.fmod_lt_of_pos x (by decide)⟩
theorem ok_pot (D : Df K mg "_law_pot" "_law_pot" s__law_pot ["cell", "salt"]) (B : NoB mg) : Cal P w K mg base CX0 "_law_pot" ["cell", "salt"] 1 spPot := by
  refine D.cal fun f fd F => F.ok sc__law_pot (fun vs H Q E h => ?_) (fun cdv A outer s H vs Q E hr h => ?_)
  · obtain ⟨_, _, rfl, _⟩ := h
    rfl
  · obtain ⟨c, k, rfl, hk, q⟩ := h
    refine ⟨_, (pss_cons (ps_if (pt_cmpR op_geU (pe_callB call_absU (by rfl) B.m_abs (by decide +kernel) (pa_cons (pv 0) pa_nil)) (pe_op op_powU pe_int pe_int) (nomark _)) (pss_one (ps_ret (pe_lst (pa_cons (pe_callB call_absU (by rfl) B.m_abs (by decide +kernel) (pa_cons (pv 0) pa_nil)) pa_nil)))) pss_nil)
      (pss_cons (ps_set (i := 2) sc__law_pot.nd rfl (.inl rfl) (pe_op op_modU (pe_op op_mulU (pe_op (op_addU K) (pe_op (op_addU K) (pe_op op_modU (pv 0) pe_int) (pe_op op_mulU pe_int (pv 1))) pe_int) pe_int) pe_int))
      (pss_cons (ps_set (i := 3) sc__law_pot.nd rfl (.inl rfl) pe_int)
      (pss_cons (ps_for PassesOwn.never rfl (pi_range1 (by rfl) B.m_range (pa_cons pe_int pa_nil)) (pg_name (i := 4) sc__law_pot.nd rfl (.inl rfl)) (pss_cons (ps_set (i := 2) sc__law_pot.nd rfl (.inl rfl) (pe_op op_modU (pe_op (op_addU K) (pe_op (op_addU K) (pe_op op_mulU (pv 2) (pv 2)) (pe_op op_mulU pe_int (pv 4))) pe_int) pe_int))
      (pss_one (ps_set (i := 3) sc__law_pot.nd rfl (.inl rfl) (pe_op (op_addU K) (pe_op op_mulU (pv 3) pe_int) (pv 2))))))
      (pss_one (ps_ret (pe_lst (pa_cons (pv 3) pa_nil)))))))), ?_⟩
    walk_at "rd"
    refine i_pow ⟨by decide, by decide, by decide⟩ ?_
    walk_at "rd"
    refine ite2 (fun _ => ?_) fun _ => ?_
    · walk_at "rd"
      refine i_new_l (by show 1 ≤ sizeLine; decide) fun p H1 n1 s1 e1 => ?_
      exact q H1 p n1 s1 ⟨_, e1⟩
    · walk_at "rd"
      refine i_mod (by decide) ?_
      walk_at "rd"
      refine i_mul_l (by decide) ?_
      walk_at "rd"
      refine i_mul_r (by decide) ?_
      walk_at "rd"
      refine i_mod (by decide) ?_
      walk_at "rd"
      have h0 := fm_lp ((c.fmod 2147483647 + 7919 * (k : Int) + 11) * 48271)
      generalize ((c.fmod 2147483647 + 7919 * (k : Int) + 11) * 48271).fmod 2147483647 = st at h0 ⊢
      refine f_range (n := 9) (by decide) (fun i σ H1 => ∃ (st big : Int) (y : Option V), 0 ≤ st ∧ st < 2147483647 ∧ σ = [some (.int c), some (.int (k : Nat)), some (.int st), some (.int big), y] ∧ H1 = H) ?_ ?_ ?_ rfl
      · exact ⟨st, 0, none, h0.1, h0.2, rfl, rfl⟩
      · rintro i σ H1 hi ⟨st, big, y, h1, h2, rfl, rfl⟩
        walk_at "rd"
        refine i_mul_l (by omega) ?_
        walk_at "rd"
        refine i_mul_l (by decide) ?_
        walk_at "rd"
        refine i_mod (by decide) ?_
        walk_at "rd"
        refine i_mul_r (by decide) ?_
        walk_at "rd"
        have h3 := fm_lo (st * st + 40692 * (i : Int) + 3)
        exact ⟨_, _, _, h3.1, by omega, rfl, rfl⟩
      · rintro σ H1 ⟨st, big, y, h1, h2, rfl, rfl⟩
        walk_at "rd"
        refine i_new_l (by show 1 ≤ sizeLine; decide) fun p H1 n1 s1 e1 => ?_
        exact q H1 p n1 s1 ⟨_, e1⟩
/-- a digit is drawn -/
def spTake : Sp := fun vs H Q _ => ∃ (p : Addr) (m : Nat), vs = [.ref p, .int (m : Nat)] ∧ Pot H p ∧ 0 < m ∧ m ≤ 1000 ∧ ∀ H' (d : Nat), Bt p H H' → Pot H' p → d < m → Q (.int (d : Nat)) H'
theorem ok_take (D : Df K mg "_law_take" "_law_take" s__law_take ["pot", "many"]) : Cal P w K mg base CX0 "_law_take" ["pot", "many"] 1 spTake := by
  refine D.cal fun f fd F => F.ok sc__law_take (fun vs H Q E h => ?_) (fun cdv A outer s H vs Q E hr h => ?_)
  · obtain ⟨_, _, rfl, _⟩ := h
    rfl
  · obtain ⟨p, m, rfl, ⟨n, hp⟩, hm, hm2, q⟩ := h
    refine ⟨_, (pss_cons (ps_set (i := 2) sc__law_take.nd rfl (.inl rfl) (pe_op op_modU (pe_ix (ix_U K) (pv 0) pe_int (fun _ _ => rfl)) (pv 1)))
      (pss_cons (ps_asg (pe_op op_fdvU (pe_ix (ix_U K) (pv 0) pe_int (fun _ _ => rfl)) (pv 1)) (pg_sub (pv 0) pe_int set_list))
      (pss_one (ps_ret (pv 2))))), ?_⟩
    walk_at "rd"
    refine i_ix_l (.inl (.inl hp)) (atI_nat (j := 0) rfl) ?_
    walk_at "rd"
    refine i_mod (by omega) ?_
    walk_at "rd"
    refine i_ix_l (.inl (.inl hp)) (atI_nat (j := 0) rfl) ?_
    walk_at "rd"
    refine i_fdv ⟨by omega, by omega⟩ ?_
    walk_at "rd"
    refine i_setL hp (n := 0) rfl fun H1 b1 e1 => ?_
    walk_at "rd"
    obtain ⟨d, hd, hdm⟩ := dig n hm
    rw [hd]
    exact q H1 d b1 ⟨_, e1⟩ hdm
/-- a word: a name or another text -/
def spWord : Sp := fun vs H Q _ => ∃ (p a : Addr) (ns : List Str), vs = [.ref p, .ref a] ∧ Pot H p ∧ Nms H a ns ∧ ∀ H' z, Bt p H H' → Pot H' p → txOk 4 z → Q (.str z) H'
theorem ok_word (D : Df K mg "_law_word" "_law_word" s__law_word ["pot", "names"]) (B : NoB mg) (C__law_take : Cal P w K mg base CX0 "_law_take" ["pot", "many"] 1 spTake) : Cal P w K mg base CX0 "_law_word" ["pot", "names"] 2 spWord := by
  refine D.cal fun f fd F => F.ok sc__law_word (fun vs H Q E h => ?_) (fun cdv A outer s H vs Q E hr h => ?_)
  · obtain ⟨_, _, _, rfl, _⟩ := h
    rfl
  · obtain ⟨p, a, ns, rfl, hp, hn, q⟩ := h
    refine ⟨_, (pss_cons (ps_set (i := 2) sc__law_word.nd rfl (.inl rfl) (pe_op (op_addU K) (pv 1) (pe_lst (pa_cons pe_str (pa_cons pe_str (pa_cons pe_str (pa_cons pe_str (pa_cons pe_str pa_nil))))))))
      (pss_one (ps_ret (pe_ix (ix_U K) (pv 2) (pe_cal C__law_take hr (by rfl) (pa_cons (pv 0) (pa_cons (pe_callB (call_lenU K) (by rfl) B.m_len (by decide +kernel) (pa_cons (pv 2) pa_nil)) pa_nil))) (fun _ _ => rfl))))), ?_⟩
    have hle := hn.le
    walk_at "rd"
    refine i_new_l (by show 5 ≤ sizeLine; decide) fun l1 H1 n1 s1 e1 => ?_
    refine i_add_l (s1 _ _ hn.at') e1 (szl (by rw [List.length_map]; show _ + 5 ≤ _; omega)) fun l2 H2 n2 s2 e2 => ?_
    rw [show [V.str (Str.ofString ""), V.str (Str.ofString "x"), V.str (Str.ofString "b1 g"), V.str (Str.ofString "yes"), V.str (Str.ofString "c/d")] = ([Str.ofString "", Str.ofString "x", Str.ofString "b1 g", Str.ofString "yes", Str.ofString "c/d"] : List Str).map V.str from rfl, ← List.map_append] at e2
    have hall : ∀ z ∈ (ns ++ [Str.ofString "", Str.ofString "x", Str.ofString "b1 g", Str.ofString "yes", Str.ofString "c/d"]), txOk 4 z := by
      intro z hz
      rcases List.mem_append.mp hz with hz | hz
      · have := hn.ok z hz
        exact name_tx this.1 (by omega)
      · simp only [List.mem_cons, List.not_mem_nil, or_false] at hz
        rcases hz with rfl | rfl | rfl | rfl | rfl <;> exact ⟨by decide, by decide +kernel⟩
    have hlen : (ns ++ [Str.ofString "", Str.ofString "x", Str.ofString "b1 g", Str.ofString "yes", Str.ofString "c/d"]).length = ns.length + 5 := by rw [List.length_append]; rfl
    generalize (ns ++ [Str.ofString "", Str.ofString "x", Str.ofString "b1 g", Str.ofString "yes", Str.ofString "c/d"]) = ws at e2 hall hlen
    walk_at "rd"
    refine i_len_l (.inl (.inl e2)) ?_
    walk_at "rd"
    have hp2 : Pot H2 p := hp.same (s1.trans s2)
    refine ⟨p, ns.length + 5, by rw [List.length_map, hlen]; rfl, hp2, by omega, by omega, fun H3 d b3 p3 hd => ?_⟩
    have hne : l2 ≠ p := by
      obtain ⟨k, e⟩ := hp
      exact fun z => (ne_of_none (s1 _ _ e) n2) z.symm
    have hdl : d < ws.length := by omega
    refine i_ix_l (.inl (.inl (b3 _ _ hne e2))) (atI_nat (j := d) (v := .str ws[d]) (by rw [List.getElem?_map, List.getElem?_eq_getElem hdl]; rfl)) ?_
    exact q H3 _ ((Bt.same (s1.trans s2)).trans b3) p3 (hall _ (List.getElem_mem hdl))
end
end Aw

namespace Aw
open PySem PySem.Spec PyProof.Rows L2

local macro_rules | `(tactic| walk_at "rd1") => `(tactic| first
  | ((with_reducible apply i_var); exact rfl)
  | with_reducible refine i_c ?_
  | with_reducible refine i_op ?_
  | with_reducible refine i_un ?_
  | with_reducible refine i_test ?_
  | with_reducible refine i_tB ?_
  | with_reducible refine i_bl ?_
  | with_reducible refine i_and ?_
  | with_reducible refine i_or ?_
  | with_reducible refine i_not ?_
  | with_reducible refine i_andV ?_
  | with_reducible refine i_orV ?_
  | with_reducible refine i_notV ?_
  | with_reducible refine i_if ?_
  | with_reducible refine i_chain ?_
  | with_reducible refine i_nil ?_
  | with_reducible refine i_cons ?_
  | with_reducible refine i_tup ?_
  | with_reducible refine i_lst ?_
  | with_reducible refine i_cb ?_
  | with_reducible refine i_call ?_
  | with_reducible refine i_bm ?_
  | with_reducible refine i_m1 ?_
  | with_reducible refine i_m0 ?_
  | with_reducible refine i_exstr ?_
  | with_reducible refine i_sl ?_
  | with_reducible refine i_nopart ?_
  | with_reducible refine i_part ?_
  | with_reducible refine i_int ?_
  | with_reducible refine i_seq ?_
  | with_reducible refine i_next ?_
  | with_reducible refine i_asg ?_
  | with_reducible refine i_gname ?_
  | with_reducible refine i_ret ?_
  | with_reducible refine i_retN ?_
  | with_reducible refine i_drop ?_
  | with_reducible refine i_ifS ?_
  | with_reducible refine i_break ?_
  | with_reducible refine i_cont ?_
  | ((with_reducible apply i_aug); exact rfl)
  | with_reducible refine i_add_i ?_
  | with_reducible refine i_sub ?_
  | with_reducible refine i_neg ?_
  | with_reducible refine i_ipadd_i ?_
  | with_reducible refine i_ip ?_
  | with_reducible refine i_lt ?_
  | with_reducible refine i_le ?_
  | with_reducible refine i_gt ?_
  | with_reducible refine i_ge ?_
  | with_reducible refine i_lt_s ?_
  | with_reducible refine i_le_s ?_
  | with_reducible refine i_gt_s ?_
  | with_reducible refine i_ge_s ?_
  | with_reducible refine i_isN ?_
  | with_reducible refine i_notN ?_
  | with_reducible refine i_in_c ?_
  | with_reducible refine i_nin_c ?_
  | with_reducible refine i_gsub ?_
  | with_reducible refine i_gcons ?_
  | with_reducible refine i_gnil ?_
  | with_reducible refine i_iList ?_
  | with_reducible refine i_iTup ?_
  | with_reducible refine i_iStr ?_
  | with_reducible refine i_iRng1 ?_
  | with_reducible refine i_lc ?_
  | with_reducible refine i_for ?_
  | with_reducible refine i_yes ?_
  | with_reducible refine i_repl ?_
  | with_reducible refine i_meth ?_
  | with_reducible refine i_fld ?_
  | with_reducible refine i_sfld ?_
  | with_reducible refine i_din ?_
  | with_reducible refine i_dnin ?_
  | with_reducible refine i_dget ?_
  | with_reducible refine i_dput ?_
  | with_reducible refine i_joined ?_
  | with_reducible refine i_items ?_
  | with_reducible refine i_stepL ?_
  | with_reducible refine i_make ?_
  | with_reducible refine i_fmt ?_
  | with_reducible refine i_jcons ?_
  | with_reducible refine i_jnil ?_
  | with_reducible refine i_iEnum ?_
  | with_reducible refine iteT ?_
  | with_reducible refine iteF ?_
  | with_reducible refine iteNT ?_
  | with_reducible refine iteNF ?_
  | ((with_reducible refine i_len_s ?_ ?_); (first | assumption | exact szl (by assumption)))
  | ((with_reducible refine i_sl_s ?_ ?_); (first | assumption | exact szl (by assumption)))
  | with_reducible refine i_int_b ?_
  | with_reducible refine i_abs ?_
  | with_reducible refine i_min2 ?_
  | with_reducible refine i_eq rfl ?_
  | with_reducible refine i_ne rfl ?_)
local macro_rules | `(tactic| walk_at "rd") => `(tactic| repeat walk_at "rd1")

abbrev s__law_line : Stmt := topS 40
theorem sc__law_line : FnScope ["pot", "names", "many", "k", "words", "word", "one", "two", "three", "at", "j"] ["pot", "names", "many", "k"] (defScope s__law_line) := ⟨rfl, rfl, rfl, by decide +kernel, rfl, by decide +kernel, by decide +kernel⟩


section
variable {P : Program} {w : World} {K : PySem.W.Frag} {mg : Str → Option Value} {base : Heap}
def lawWords : List (List Nat) := [[97, 115, 107], [97, 115, 107], [97, 115, 107], [104, 97, 115], [110, 97, 109, 101, 115], [116, 101, 120, 116], [116, 101, 120, 116], [99, 111, 112, 121], [112, 117, 116], [112, 117, 116], [106, 111, 105, 110], [102, 105, 114, 115, 116], [102, 105, 114, 115, 116], [114, 101, 115, 116], [115, 105, 122, 101], [99, 117, 116], [103, 108, 117, 101], [108, 105, 107, 101], [110, 111, 110, 101], [114, 111, 119, 101, 100], [103, 111], [115, 97, 121], [102, 97, 117, 108, 116], [115, 101, 108, 102]]
theorem lawWords_split : Txt.split (Str.ofString "ask ask ask has names text text copy put put join first first rest size cut glue like none rowed" ++ Str.ofString " go say fault self") (Str.ofString " ") = lawWords.map S := by
  have e : Str.ofString "ask ask ask has names text text copy put put join first first rest size cut glue like none rowed" ++ Str.ofString " go say fault self" = S (inter [32] lawWords) := S_ext (by decide +kernel)
  rw [e]
  exact split_S (by decide +kernel) (by simp [lawWords])
theorem lawWords_ok : ∀ z ∈ lawWords.map S, txOk 5 z := by
  intro z hz
  obtain ⟨l, hl, rfl⟩ := List.mem_map.mp hz
  have : ∀ l ∈ lawWords, l.length ≤ 5 ∧ l.all plainC = true := by decide +kernel
  exact this l hl
theorem abcdh_ok : ∀ c ∈ (Str.ofString "abcdh").cps.toList, txOk 1 ⟨#[c]⟩ := by
  have : ∀ c ∈ (Str.ofString "abcdh").cps.toList, plainC c = true := by decide +kernel
  intro c hc
  refine ⟨Nat.le_refl _, ?_⟩
  show [c].all plainC = true
  rw [List.all_cons, this c hc]; rfl
theorem num_ok : ∀ n : Nat, n ≤ 12 → txOk 2 (Str.ofString (toString (n : Int))) := by
  have : ∀ n : Fin 13, (Str.ofString (toString ((n : Nat) : Int))).length ≤ 2 ∧ (Str.ofString (toString ((n : Nat) : Int))).cps.toList.all plainC = true := by decide +kernel
  intro n hn
  exact this ⟨n, by omega⟩
theorem lit_ok {z : Str} (n : Nat) (h : (decide (z.length ≤ n) && z.cps.toList.all plainC) = true) : txOk n z := by
  rw [Bool.and_eq_true, decide_eq_true_eq] at h
  exact h
def spLine : Sp := fun vs H Q _ => ∃ (p a : Addr) (ns : List Str) (m k : Nat), vs = [.ref p, .ref a, .int (m : Nat), .int (k : Nat)] ∧ Pot H p ∧ Nms H a ns ∧ 1 ≤ m ∧ m ≤ 12 ∧ k ≤ 8 ∧ ∀ H' z, Bt p H H' → Pot H' p → txOk 24 z → Q (.str z) H'
theorem ok_line (D : Df K mg "_law_line" "_law_line" s__law_line ["pot", "names", "many", "k"]) (B : NoB mg) (C__law_take : Cal P w K mg base CX0 "_law_take" ["pot", "many"] 1 spTake) (C__law_word : Cal P w K mg base CX0 "_law_word" ["pot", "names"] 2 spWord) :
    Cal P w K mg base CX0 "_law_line" ["pot", "names", "many", "k"] 3 spLine := by
  refine D.cal fun f fd F => F.ok sc__law_line (fun vs H Q E h => ?_) (fun cdv A outer s H vs Q E hr h => ?_)
  · obtain ⟨_, _, _, _, _, rfl, _⟩ := h
    rfl
  · obtain ⟨p, a, ns, m, k, rfl, hp, hn, hm1, hm, hk, q⟩ := h
    refine ⟨_, (pss_cons (ps_set (i := 4) sc__law_line.nd rfl (.inl rfl) pe_str)
      (pss_cons (ps_set (i := 5) sc__law_line.nd rfl (.inl rfl) (pe_ix (ix_U K) (pe_splitU (pe_op (op_addU K) (pv 4) pe_str) pe_str) (pe_cal C__law_take hr (by rfl) (pa_cons (pv 0) (pa_cons pe_int pa_nil))) (fun _ _ => rfl)))
      (pss_cons (ps_asg (pe_lc (own := [("j", 10)]) (by rfl) sc__law_line.nd (pi_range1 (by rfl) B.m_range (pa_cons pe_int pa_nil)) (blkOk_by (own := [("j", 10)]) (N := ["pot", "names", "many", "k", "words", "word", "one", "two", "three", "at", "j"]) (sc := defScope s__law_line) (by decide +kernel)) (fun _ _ _ _ _ => pg_name (i := 10) sc__law_line.nd rfl (Or.inl rfl)) (fun _ _ _ _ _ => pts_nil) (fun _ _ _ _ _ => (pe_ix (ix_U K) pe_str (pe_cal C__law_take hr (by rfl) (pa_cons (pv 0) (pa_cons pe_int pa_nil))) (fun _ _ => rfl)))) (pg_unlU K (by rfl) (pgs_cons (pg_name (i := 6) sc__law_line.nd rfl (.inl rfl)) (pgs_cons (pg_name (i := 7) sc__law_line.nd rfl (.inl rfl)) (pgs_cons (pg_name (i := 8) sc__law_line.nd rfl (.inl rfl)) pgs_nil)))))
      (pss_cons (ps_set (i := 9) sc__law_line.nd rfl (.inl rfl) (pe_callTy call_strU (by rfl) B.m_str (by decide +kernel) (pa_cons (pe_callB (call_minU rfl) (by rfl) B.m_min (by decide +kernel) (pa_cons (pv 2) (pa_cons (pe_op (op_addU K) (pe_op (op_addU K) (pv 3) pe_int) (pe_cal C__law_take hr (by rfl) (pa_cons (pv 0) (pa_cons (pv 2) pa_nil)))) pa_nil))) pa_nil)))
      (pss_cons (ps_if (pt_cmpR (op_eqU K hr.units) (pv 5) pe_str (nomark _)) (pss_one (ps_ret (pe_op (op_addU K) (pe_op (op_addU K) (pe_op (op_addU K) pe_str (pv 6)) pe_str) (pe_cal C__law_word hr (by rfl) (pa_cons (pv 0) (pa_cons (pv 1) pa_nil)))))) pss_nil)
      (pss_cons (ps_if (pt_cmpR (op_inU K) (pv 5) (pe_lst (pa_cons pe_str (pa_cons pe_str pa_nil))) (by with_unfolding_all rfl)) (pss_one (ps_ret (pe_op (op_addU K) (pe_op (op_addU K) (pv 5) pe_str) (pv 6)))) pss_nil)
      (pss_cons (ps_if (pt_cmpR (op_eqU K hr.units) (pv 5) pe_str (nomark _)) (pss_one (ps_ret (pv 5))) pss_nil)
      (pss_cons (ps_if (pt_cmpR (op_eqU K hr.units) (pv 5) pe_str (nomark _)) (pss_one (ps_ret (pe_op (op_addU K) pe_str (pv 9)))) pss_nil)
      (pss_cons (ps_if (pt_cmpR (op_inU K) (pv 5) (pe_lst (pa_cons pe_str (pa_cons pe_str pa_nil))) (by with_unfolding_all rfl)) (pss_one (ps_ret (pe_joinU K pe_str (pe_lst (pa_cons (pv 5) (pa_cons (pv 6) (pa_cons (pv 9) pa_nil))))))) pss_nil)
      (pss_cons (ps_if (pt_cmpR (op_eqU K hr.units) (pv 5) pe_str (nomark _)) (pss_one (ps_ret (pe_joinU K pe_str (pe_lst (pa_cons (pv 5) (pa_cons (pv 6) (pa_cons (pv 7) (pa_cons (pv 9) pa_nil)))))))) pss_nil)
      (pss_cons (ps_if (pt_cmpR (op_inU K) (pv 5) (pe_lst (pa_cons pe_str (pa_cons pe_str pa_nil))) (by with_unfolding_all rfl)) (pss_one (ps_ret (pe_joinU K pe_str (pe_lst (pa_cons (pv 5) (pa_cons (pv 6) (pa_cons (pv 7) (pa_cons (pv 8) pa_nil)))))))) pss_nil)
      (pss_one (ps_ret (pe_joinU K pe_str (pe_lst (pa_cons (pv 5) (pa_cons (pv 6) (pa_cons (pv 7) pa_nil)))))))))))))))))), ?_⟩
    walk_at "rd"
    refine i_add_s (by decide) ?_
    walk_at "rd"
    refine i_split (by decide) (by decide) fun l1 H1 n1 s1 e1 => ?_
    rw [lawWords_split] at e1
    walk_at "rd"
    refine ⟨p, 24, rfl, hp.same s1, by decide, by decide, fun H2 d b2 p2 hd => ?_⟩
    have b02 : Bt p H H2 := (Bt.same s1).trans b2
    have hne : l1 ≠ p := fun z => by
      obtain ⟨k, e⟩ := hp
      rw [z] at n1; rw [n1] at e; cases e
    have hl : (lawWords.map S).length = 24 := by decide +kernel
    have hw := lawWords_ok _ (List.getElem_mem (l := lawWords.map S) (n := d) (by omega))
    have hix : (lawWords.map S)[d]? = some (lawWords.map S)[d] := List.getElem?_eq_getElem (by omega)
    generalize (lawWords.map S)[d] = word at hw hix
    refine i_ix_l (.inl (.inl (b2 _ _ hne e1))) (atI_nat (j := d) (v := .str word) (by rw [List.getElem?_map, hix]; rfl)) ?_
    walk_at "rd"
    refine c_range (n := 3) (by decide) (fun D i acc H3 => Bt p H H3 ∧ Pot H3 p ∧ acc.length = i ∧ ∀ x ∈ acc, ∃ z, x = .str z ∧ txOk 1 z) ?_ ?_ ?_ rfl
    · exact fun D H3 _ s3 _ => ⟨b02.trans (.same s3), p2.same s3, rfl, by simp⟩
    · rintro D i acc H3 hD hi hl hi2 ha ⟨b3, p3, hal, hac⟩
      walk_at "rd"
      refine ⟨rfl, ?_⟩
      walk_at "rd"
      refine ⟨p, 5, rfl, p3, by decide, by decide, fun H4 d2 b4 p4 hd2 => ?_⟩
      have hc : (Str.ofString "abcdh").cps.toList[d2]? = some ((Str.ofString "abcdh").cps.toList[d2]'(by exact hd2)) := List.getElem?_eq_getElem _
      have hco := abcdh_ok _ (List.getElem_mem (l := (Str.ofString "abcdh").cps.toList) (n := d2) hd2)
      generalize ((Str.ofString "abcdh").cps.toList[d2]'(by exact hd2)) = c at hc hco
      refine i_ix_s (by decide) (atI_nat hc) ?_
      have hpD : p ≠ D := p2.ne hD
      refine i_ck (b4 _ _ (Ne.symm hpD) ha) hl hi2 fun H5 b5 e5 => ⟨(b3.trans b4).but (none_bt b02 hD (Ne.symm hpD)) b5, p4.but b5 hpD, by rw [List.length_append, hal]; rfl, ?_⟩
      intro x hx
      rcases List.mem_append.mp hx with hx | hx
      · exact hac x hx
      · rw [List.mem_singleton.mp hx]
        exact ⟨_, rfl, hco⟩
    · rintro D acc H3 hD hl ha ⟨b3, p3, hal, hac⟩
      obtain ⟨x1, x2, x3, rfl⟩ : ∃ x1 x2 x3, acc = [x1, x2, x3] := by
        match acc, hal with
        | [x1, x2, x3], _ => exact ⟨x1, x2, x3, rfl⟩
      obtain ⟨z1, rfl, t1⟩ := hac x1 (by simp)
      obtain ⟨z2, rfl, t2⟩ := hac x2 (by simp)
      obtain ⟨z3, rfl, t3⟩ := hac x3 (by simp)
      refine i_unl (.inl (.inl ha)) rfl ?_
      walk_at "rd"
      refine ⟨p, m, rfl, p3, by omega, by omega, fun H4 d4 b4 p4 hd4 => ?_⟩
      walk_at "rd"
      have hv : ∃ v : Nat, v ≤ 12 ∧ (if (k : Int) + 5 + (d4 : Int) < (m : Int) then (k : Int) + 5 + (d4 : Int) else (m : Int)) = (v : Nat) := by
        by_cases hc : (k : Int) + 5 + (d4 : Int) < (m : Int)
        · exact ⟨k + 5 + d4, by omega, by rw [if_pos hc]; omega⟩
        · exact ⟨m, hm, by rw [if_neg hc]⟩
      obtain ⟨v, hv12, hv⟩ := hv
      rw [hv]
      refine i_str_i (by
        have : v.log2 ≤ v := Nat.log2_le_self v
        show (v : Int).natAbs.log2 < 1920
        rw [Int.natAbs_natCast]
        omega) ?_
      have hat := num_ok v hv12
      have b04 := b3.trans b4
      have hn4 : Nms H4 a ns := hn.bt hp b04
      walk_at "rd"
      refine ite2 (fun _ => ?_) fun _ => ?_
      · walk_at "rd"
        have o1 := (lit_ok (z := Str.ofString "text ") 5 (by decide +kernel)).app t1
        refine i_add_s (szl (by have := t1.1; show 5 + _ ≤ _; omega)) ?_
        walk_at "rd"
        have o2 := o1.app (lit_ok (z := Str.ofString " ") 1 (by decide +kernel))
        refine i_add_s (szl (by have := o1.1; show _ + 1 ≤ _; omega)) ?_
        walk_at "rd"
        refine ⟨p, a, ns, rfl, p4, hn4, fun H5 z b5 p5 hz => ?_⟩
        refine i_add_s (szl (by have := o2.1; have := hz.1; omega)) ?_
        exact q H5 _ (b04.trans b5) p5 ((o2.app hz).mono (by decide))
      · walk_at "rd"
        refine i_new_l (by show 2 ≤ sizeLine; decide) fun l5 H5 n5 s5 e5 => ?_
        refine i_in_l (.inl (.inl e5)) rfl rfl ?_
        walk_at "rd"
        have p5 := p4.same s5
        have b05 := b04.trans (.same s5)
        refine ite2 (fun _ => ?_) fun _ => ?_
        · walk_at "rd"
          have o1 := hw.app (lit_ok (z := Str.ofString " ") 1 (by decide +kernel))
          refine i_add_s (szl (by have := hw.1; show _ + 1 ≤ _; omega)) ?_
          walk_at "rd"
          refine i_add_s (szl (by have := o1.1; have := t1.1; omega)) ?_
          exact q H5 _ b05 p5 ((o1.app t1).mono (by decide))
        · walk_at "rd"
          refine ite2 (fun _ => ?_) fun _ => ?_
          · walk_at "rd"
            exact q H5 _ b05 p5 (hw.mono (by decide))
          · walk_at "rd"
            refine ite2 (fun _ => ?_) fun _ => ?_
            · walk_at "rd"
              refine i_add_s (szl (by have := hat.1; show 3 + _ ≤ _; omega)) ?_
              exact q H5 _ b05 p5 (((lit_ok (z := Str.ofString "go ") 3 (by decide +kernel)).app hat).mono (by decide))
            · have fin : ∀ (ys : List Str) (R : VK) {H6 H7 : Hp} {j : Addr}, (∀ y ∈ ys, txOk 5 y) → ys.length ≤ 4 → Bt p H H6 → Pot H6 p → H6 j = some (.lst (ys.map V.str)) → (∀ z, txOk 24 z → R (.str z) H6) → rJoin K (.str (Str.ofString " ")) [.ref j] H6 R := by
                intro ys R H6 H7 j hy hl b6 p6 e6 k6
                have hj := txOk.join hy (lit_ok (z := Str.ofString " ") 1 (by decide +kernel))
                refine i_join (.inl (.inl (.inl e6))) ?_ (k6 _ (hj.mono (by omega)))
                have hs : (ys.map (·.length)).sum ≤ ys.length * 5 := by
                  clear hj k6 e6 hl
                  induction ys with
                  | nil => simp
                  | cons y r ih =>
                    have := (hy y (List.mem_cons_self ..)).1
                    have := ih fun w hw => hy w (List.mem_cons_of_mem _ hw)
                    rw [List.map_cons, List.sum_cons, List.length_cons, Nat.succ_mul]
                    omega
                show _ + _ * 1 ≤ _
                omega
              have t1' : txOk 5 z1 := t1.mono (by decide)
              have t2' : txOk 5 z2 := t2.mono (by decide)
              have t3' : txOk 5 z3 := t3.mono (by decide)
              have hat' := hat.mono (show 2 ≤ 5 by decide)
              walk_at "rd"
              refine i_new_l (by show 2 ≤ sizeLine; decide) fun l6 H6 n6 s6 e6 => ?_
              refine i_in_l (.inl (.inl e6)) rfl rfl ?_
              walk_at "rd"
              have p6 := p5.same s6
              have b06 := b05.trans (.same s6)
              refine ite2 (fun _ => ?_) fun _ => ?_
              · walk_at "rd"
                refine i_new_l (by show 3 ≤ sizeLine; decide) fun l7 H7 n7 s7 e7 => ?_
                refine fin (H7 := H7) [word, z1, _] _ ?_ (by simp) (b06.trans (.same s7)) (p6.same s7) e7 fun z hz => q H7 z (b06.trans (.same s7)) (p6.same s7) hz
                intro y hy
                simp only [List.mem_cons, List.not_mem_nil, or_false] at hy
                rcases hy with rfl | rfl | rfl
                · exact hw
                · exact t1'
                · exact hat'
              · walk_at "rd"
                refine ite2 (fun _ => ?_) fun _ => ?_
                · walk_at "rd"
                  refine i_new_l (by show 4 ≤ sizeLine; decide) fun l7 H7 n7 s7 e7 => ?_
                  refine fin (H7 := H7) [word, z1, z2, _] _ ?_ (by simp) (b06.trans (.same s7)) (p6.same s7) e7 fun z hz => q H7 z (b06.trans (.same s7)) (p6.same s7) hz
                  intro y hy
                  simp only [List.mem_cons, List.not_mem_nil, or_false] at hy
                  rcases hy with rfl | rfl | rfl | rfl
                  · exact hw
                  · exact t1'
                  · exact t2'
                  · exact hat'
                · walk_at "rd"
                  refine i_new_l (by show 2 ≤ sizeLine; decide) fun l7 H7 n7 s7 e7 => ?_
                  refine i_in_l (.inl (.inl e7)) rfl rfl ?_
                  walk_at "rd"
                  have p7 := p6.same s7
                  have b07 := b06.trans (.same s7)
                  refine ite2 (fun _ => ?_) fun _ => ?_
                  · walk_at "rd"
                    refine i_new_l (by show 4 ≤ sizeLine; decide) fun l8 H8 n8 s8 e8 => ?_
                    refine fin (H7 := H8) [word, z1, z2, z3] _ ?_ (by simp) (b07.trans (.same s8)) (p7.same s8) e8 fun z hz => q H8 z (b07.trans (.same s8)) (p7.same s8) hz
                    intro y hy
                    simp only [List.mem_cons, List.not_mem_nil, or_false] at hy
                    rcases hy with rfl | rfl | rfl | rfl
                    · exact hw
                    · exact t1'
                    · exact t2'
                    · exact t3'
                  · walk_at "rd"
                    refine i_new_l (by show 3 ≤ sizeLine; decide) fun l8 H8 n8 s8 e8 => ?_
                    refine fin (H7 := H8) [word, z1, z2] _ ?_ (by simp) (b07.trans (.same s8)) (p7.same s8) e8 fun z hz => q H8 z (b07.trans (.same s8)) (p7.same s8) hz
                    intro y hy
                    simp only [List.mem_cons, List.not_mem_nil, or_false] at hy
                    rcases hy with rfl | rfl | rfl
                    · exact hw
                    · exact t1'
                    · exact t2'
end
end Aw

namespace Aw
open PySem PySem.Spec PyProof.Rows L2

local macro_rules | `(tactic| walk_at "rd1") => `(tactic| first
  | ((with_reducible apply i_var); exact rfl)
  | with_reducible refine i_c ?_
  | with_reducible refine i_op ?_
  | with_reducible refine i_un ?_
  | with_reducible refine i_test ?_
  | with_reducible refine i_tB ?_
  | with_reducible refine i_bl ?_
  | with_reducible refine i_and ?_
  | with_reducible refine i_or ?_
  | with_reducible refine i_not ?_
  | with_reducible refine i_andV ?_
  | with_reducible refine i_orV ?_
  | with_reducible refine i_notV ?_
  | with_reducible refine i_if ?_
  | with_reducible refine i_chain ?_
  | with_reducible refine i_nil ?_
  | with_reducible refine i_cons ?_
  | with_reducible refine i_tup ?_
  | with_reducible refine i_lst ?_
  | with_reducible refine i_cb ?_
  | with_reducible refine i_call ?_
  | with_reducible refine i_bm ?_
  | with_reducible refine i_m1 ?_
  | with_reducible refine i_m0 ?_
  | with_reducible refine i_exstr ?_
  | with_reducible refine i_sl ?_
  | with_reducible refine i_nopart ?_
  | with_reducible refine i_part ?_
  | with_reducible refine i_int ?_
  | with_reducible refine i_seq ?_
  | with_reducible refine i_next ?_
  | with_reducible refine i_asg ?_
  | with_reducible refine i_gname ?_
  | with_reducible refine i_ret ?_
  | with_reducible refine i_retN ?_
  | with_reducible refine i_drop ?_
  | with_reducible refine i_ifS ?_
  | with_reducible refine i_break ?_
  | with_reducible refine i_cont ?_
  | ((with_reducible apply i_aug); exact rfl)
  | with_reducible refine i_add_i ?_
  | with_reducible refine i_sub ?_
  | with_reducible refine i_neg ?_
  | with_reducible refine i_ipadd_i ?_
  | with_reducible refine i_ip ?_
  | with_reducible refine i_lt ?_
  | with_reducible refine i_le ?_
  | with_reducible refine i_gt ?_
  | with_reducible refine i_ge ?_
  | with_reducible refine i_lt_s ?_
  | with_reducible refine i_le_s ?_
  | with_reducible refine i_gt_s ?_
  | with_reducible refine i_ge_s ?_
  | with_reducible refine i_isN ?_
  | with_reducible refine i_notN ?_
  | with_reducible refine i_in_c ?_
  | with_reducible refine i_nin_c ?_
  | with_reducible refine i_gsub ?_
  | with_reducible refine i_gcons ?_
  | with_reducible refine i_gnil ?_
  | with_reducible refine i_iList ?_
  | with_reducible refine i_iTup ?_
  | with_reducible refine i_iStr ?_
  | with_reducible refine i_iRng1 ?_
  | with_reducible refine i_lc ?_
  | with_reducible refine i_for ?_
  | with_reducible refine i_yes ?_
  | with_reducible refine i_repl ?_
  | with_reducible refine i_meth ?_
  | with_reducible refine i_fld ?_
  | with_reducible refine i_sfld ?_
  | with_reducible refine i_din ?_
  | with_reducible refine i_dnin ?_
  | with_reducible refine i_dget ?_
  | with_reducible refine i_dput ?_
  | with_reducible refine i_joined ?_
  | with_reducible refine i_items ?_
  | with_reducible refine i_stepL ?_
  | with_reducible refine i_make ?_
  | with_reducible refine i_fmt ?_
  | with_reducible refine i_jcons ?_
  | with_reducible refine i_jnil ?_
  | with_reducible refine i_iEnum ?_
  | with_reducible refine iteT ?_
  | with_reducible refine iteF ?_
  | with_reducible refine iteNT ?_
  | with_reducible refine iteNF ?_
  | ((with_reducible refine i_len_s ?_ ?_); (first | assumption | exact szl (by assumption)))
  | ((with_reducible refine i_sl_s ?_ ?_); (first | assumption | exact szl (by assumption)))
  | with_reducible refine i_int_b ?_
  | with_reducible refine i_abs ?_
  | with_reducible refine i_min2 ?_
  | with_reducible refine i_eq rfl ?_
  | with_reducible refine i_ne rfl ?_)
local macro_rules | `(tactic| walk_at "rd") => `(tactic| repeat walk_at "rd1")

abbrev s__law_rule : Stmt := topS 41
theorem sc__law_rule : FnScope ["pot", "names", "body", "many", "lines", "k"] ["pot", "names"] (defScope s__law_rule) := ⟨rfl, rfl, rfl, by decide +kernel, rfl, by decide +kernel, by decide +kernel⟩
abbrev s__law_maker : Stmt := topS 42
theorem sc__law_maker : FnScope ["pot", "names", "asked", "lines"] ["pot", "names"] (defScope s__law_maker) := ⟨rfl, rfl, rfl, by decide +kernel, rfl, by decide +kernel, by decide +kernel⟩
abbrev s__law_leaf : Stmt := topS 43
theorem sc__law_leaf : FnScope ["pot", "names", "kind", "k"] ["pot", "names"] (defScope s__law_leaf) := ⟨rfl, rfl, rfl, by decide +kernel, rfl, by decide +kernel, by decide +kernel⟩
abbrev s__law_source : Stmt := topS 44
theorem sc__law_source : FnScope ["pot", "names", "kind"] ["pot", "names"] (defScope s__law_source) := ⟨rfl, rfl, rfl, by decide +kernel, rfl, by decide +kernel, by decide +kernel⟩
section
variable {P : Program} {w : World} {K : PySem.W.Frag} {mg : Str → Option Value} {base : Heap}
theorem strs_of {xs : List V} {R : Str → Prop} (h : ∀ x ∈ xs, ∃ z, x = .str z ∧ R z) : ∃ ys : List Str, xs = ys.map V.str ∧ ∀ y ∈ ys, R y := by
  induction xs with
  | nil => exact ⟨[], rfl, by simp⟩
  | cons x r ih =>
    obtain ⟨z, rfl, hz⟩ := h x (List.mem_cons_self ..)
    obtain ⟨ys, rfl, hy⟩ := ih fun w hw => h w (List.mem_cons_of_mem _ hw)
    refine ⟨z :: ys, rfl, fun y hm => ?_⟩
    rcases List.mem_cons.mp hm with rfl | hm
    · exact hz
    · exact hy y hm
theorem row_tx {ys : List Str} {n k : Nat} (h : ∀ y ∈ ys, txOk n y) (hn : n ≤ 300) (hk : ys.length ≤ k) (h40 : k ≤ 40) : GoodT (.tuple (ys.map .str)) 2 (k * (n + 1) + 1) := by
  refine GoodT.row (n := 1) (fun d hd => ?_) (by rw [List.length_map]; exact hk) h40
  obtain ⟨y, hy, rfl⟩ := List.mem_map.mp hd
  exact (h y hy).gd hn
/-- a tree, drawn -/
def spDrawn (K : PySem.W.Frag) (dp sz : Nat) : Sp := fun vs H Q _ => ∃ (p a : Addr) (ns : List Str), vs = [.ref p, .ref a] ∧ Pot H p ∧ Nms H a ns ∧ ∀ H' v d, Bt p H H' → Pot H' p → Dt K H' d v → GoodT d dp sz → Q v H'
theorem ok_rule (D : Df K mg "_law_rule" "_law_rule" s__law_rule ["pot", "names"]) (B : NoB mg) (C__law_take : Cal P w K mg base CX0 "_law_take" ["pot", "many"] 1 spTake) (C__law_word : Cal P w K mg base CX0 "_law_word" ["pot", "names"] 2 spWord)
    (C__law_line : Cal P w K mg base CX0 "_law_line" ["pot", "names", "many", "k"] 3 spLine) : Cal P w K mg base CX0 "_law_rule" ["pot", "names"] 4 (spDrawn K 3 301) := by
  refine D.cal fun f fd F => F.ok sc__law_rule (fun vs H Q E h => ?_) (fun cdv A outer s H vs Q E hr h => ?_)
  · obtain ⟨_, _, _, rfl, _⟩ := h
    rfl
  · obtain ⟨p, a, ns, rfl, hp, hn, q⟩ := h
    refine ⟨_, (pss_cons (ps_set (i := 2) sc__law_rule.nd rfl (.inl rfl) (pe_op (op_addU K) pe_int (pe_cal C__law_take hr (by rfl) (pa_cons (pv 0) (pa_cons pe_int pa_nil)))))
      (pss_cons (ps_set (i := 3) sc__law_rule.nd rfl (.inr rfl) (pe_op (op_addU K) (pv 2) pe_int))
      (pss_cons (ps_set (i := 4) sc__law_rule.nd rfl (.inl rfl) (pe_lst (pa_cons (pe_op (op_addU K) pe_str (pe_cal C__law_word hr (by rfl) (pa_cons (pv 0) (pa_cons (pv 1) pa_nil)))) (pa_cons (pe_op (op_addU K) pe_str (pe_cal C__law_word hr (by rfl) (pa_cons (pv 0) (pa_cons (pv 1) pa_nil)))) (pa_cons pe_str pa_nil)))))
      (pss_cons (ps_expr (pe_bmU K PySem.F.plainAttrs_list PySem.F.slot_list_extend PySem.F.type_list_extend mt_extend (pv 4) (pa_cons (pe_lc (own := [("k", 5)]) (by rfl) sc__law_rule.nd (pi_range1 (by rfl) B.m_range (pa_cons (pv 2) pa_nil)) (blkOk_by (own := [("k", 5)]) (N := ["pot", "names", "body", "many", "lines", "k"]) (sc := defScope s__law_rule) (by decide +kernel)) (fun _ _ _ _ _ => pg_name (i := 5) sc__law_rule.nd rfl (Or.inl rfl)) (fun _ _ _ _ _ => pts_nil) (fun _ _ _ _ _ => (pe_cal C__law_line hr (by rfl) (pa_cons (pv 0) (pa_cons (pv 1) (pa_cons (pv 3) (pa_cons (pv 5) pa_nil))))))) pa_nil)))
      (pss_one (ps_ret (pe_callTy (call_tupU K) (by rfl) B.m_tuple (by decide +kernel) (pa_cons (pe_op (op_addU K) (pv 4) (pe_lst (pa_cons (pe_op (op_addU K) pe_str (pe_ix (ix_U K) pe_str (pe_cal C__law_take hr (by rfl) (pa_cons (pv 0) (pa_cons pe_int pa_nil))) (fun _ _ => rfl))) pa_nil))) pa_nil)))))))), ?_⟩
    walk_at "rd"
    refine ⟨p, 8, rfl, hp, by decide, by decide, fun H1 d b1 p1 hd => ?_⟩
    walk_at "rd"
    refine ⟨p, a, ns, rfl, p1, hn.bt hp b1, fun H2 z1 b2 p2 hz1 => ?_⟩
    have t0 := lit_ok (z := Str.ofString "text a ") 7 (by decide +kernel)
    refine i_add_s (szl (by have := hz1.1; show 7 + _ ≤ _; omega)) ?_
    walk_at "rd"
    have b02 := b1.trans b2
    refine ⟨p, a, ns, rfl, p2, hn.bt hp b02, fun H3 z2 b3 p3 hz2 => ?_⟩
    have t1 := lit_ok (z := Str.ofString "text b ") 7 (by decide +kernel)
    refine i_add_s (szl (by have := hz2.1; show 7 + _ ≤ _; omega)) ?_
    walk_at "rd"
    have b03 := b02.trans b3
    refine i_new_l (by show 3 ≤ sizeLine; decide) fun l H4 n4 s4 e4 => ?_
    have o1 := (t0.app hz1).mono (show 7 + 4 ≤ 24 by decide)
    have o2 := (t1.app hz2).mono (show 7 + 4 ≤ 24 by decide)
    generalize (Str.ofString "text a " ++ z1) = w1 at o1 e4
    generalize (Str.ofString "text b " ++ z2) = w2 at o2 e4
    have p4 := p3.same s4
    have b04 := b03.trans (.same s4)
    have hn4 := hn.bt hp b04
    have hlp : l ≠ p := by
      obtain ⟨k, e⟩ := p3
      exact fun z => (ne_of_none e n4) z.symm
    walk_at "rd"
    refine i_tyl e4 ?_
    walk_at "rd"
    refine c_range (n := 1 + d) (szlt (by omega)) (fun D i acc H5 => Bt p H H5 ∧ Pot H5 p ∧ H5 l = some (.lst [.str w1, .str w2, .str (Str.ofString "row h")]) ∧ ∀ x ∈ acc, ∃ z, x = .str z ∧ txOk 24 z) ?_ ?_ ?_ (by omega)
    · exact fun D H5 _ s5 _ => ⟨b04.trans (.same s5), p4.same s5, s5 _ _ e4, by simp⟩
    · rintro D i acc H5 hD hi hl hi2 ha ⟨b5, p5, e5, hac⟩
      walk_at "rd"
      refine ⟨rfl, ?_⟩
      walk_at "rd"
      have hlD : l ≠ D := ne_of_none e4 hD
      have haD : a ≠ D := ne_of_none hn4.at' hD
      have hpD : p ≠ D := p4.ne hD
      refine ⟨p, a, ns, 1 + d + 4, i, ?_, p5, hn.bt hp b5, by omega, by omega, by omega, fun H6 z b6 p6 hz => ?_⟩
      · have e : ((1 : Int) + (d : Int) + 4) = ((1 + d + 4 : Nat) : Int) := by omega
        rw [e]
        rfl
      refine i_ck (b6 _ _ (Ne.symm hpD) ha) hl hi2 fun H7 b7 e7 => ⟨(b5.trans b6).but (none_bt b04 hD (Ne.symm hpD)) b7, p6.but b7 hpD, b7 _ _ hlD (b6 _ _ hlp e5), ?_⟩
      intro x hx
      rcases List.mem_append.mp hx with hx | hx
      · exact hac x hx
      · rw [List.mem_singleton.mp hx]
        exact ⟨_, rfl, hz⟩
    · rintro D acc H5 hD hl ha ⟨b5, p5, e5, hac⟩
      walk_at "rd"
      obtain ⟨ys, rfl, hys⟩ := strs_of hac
      rw [List.length_map] at hl
      have hlD : l ≠ D := ne_of_none e4 hD
      refine i_extend e5 ha (szl (by show 3 + _ ≤ _; rw [List.length_map]; omega)) fun H6 b6 e6 => ?_
      walk_at "rd"
      have b06 : Bt p H H6 := b5.but (none_bt b03 n4 hlp) b6
      have p6 := p5.but b6 (Ne.symm hlp)
      refine ⟨p, 5, rfl, p6, by decide, by decide, fun H7 d2 b7 p7 hd2 => ?_⟩
      have hc : (Str.ofString "abcdh").cps.toList[d2]? = some ((Str.ofString "abcdh").cps.toList[d2]'(by exact hd2)) := List.getElem?_eq_getElem _
      have hco := abcdh_ok _ (List.getElem_mem (l := (Str.ofString "abcdh").cps.toList) (n := d2) hd2)
      generalize ((Str.ofString "abcdh").cps.toList[d2]'(by exact hd2)) = c at hc hco
      refine i_ix_s (by decide) (atI_nat hc) ?_
      refine i_add_s (by show 4 + 1 ≤ _; decide) ?_
      walk_at "rd"
      have o3 := ((lit_ok (z := Str.ofString "say ") 4 (by decide +kernel)).app hco).mono (show 4 + 1 ≤ 24 by decide)
      generalize (Str.ofString "say " ++ (⟨#[c]⟩ : Str)) = w3 at o3 ⊢
      refine i_new_l (by show 1 ≤ sizeLine; decide) fun l8 H8 n8 s8 e8 => ?_
      have e6' := s8 _ _ (b7 _ _ hlp e6)
      refine i_add_l e6' e8 (szl (by rw [List.length_append, List.length_map]; show 3 + _ + 1 ≤ _; omega)) fun l9 H9 n9 s9 e9 => ?_
      walk_at "rd"
      refine i_tupof_l (.inl (.inl e9)) fun t H10 n10 s10 e10 => ?_
      have hd' : ([V.str w1, .str w2, .str (Str.ofString "row h")] ++ ys.map V.str) ++ [V.str w3] = (([w1, w2, Str.ofString "row h"] ++ ys) ++ [w3]).map V.str := by simp
      rw [hd'] at e10
      refine q H10 (.ref t) (.tuple ((([w1, w2, Str.ofString "row h"] ++ ys) ++ [w3]).map .str)) ((b06.trans b7).trans (.same ((s8.trans s9).trans s10))) (p7.same ((s8.trans s9).trans s10)) (dt_tup (.inl (.inl e10)) dts_strs) ?_
      refine (row_tx (n := 24) (k := 12) ?_ (by decide) ?_ (by decide)).mono (by decide) (by decide)
      · intro y hy
        simp only [List.mem_append, List.mem_cons, List.not_mem_nil, or_false] at hy
        rcases hy with ((rfl | rfl | rfl) | hy) | rfl
        · exact o1
        · exact o2
        · exact lit_ok 24 (by decide +kernel)
        · exact hys y hy
        · exact o3
      · rw [List.length_append, List.length_append]
        show 3 + _ + 1 ≤ 12
        omega
theorem ok_maker (D : Df K mg "_law_maker" "_law_maker" s__law_maker ["pot", "names"]) (B : NoB mg) (C__law_take : Cal P w K mg base CX0 "_law_take" ["pot", "many"] 1 spTake) : Cal P w K mg base CX0 "_law_maker" ["pot", "names"] 2 (spDrawn K 3 301) := by
  refine D.cal fun f fd F => F.ok sc__law_maker (fun vs H Q E h => ?_) (fun cdv A outer s H vs Q E hr h => ?_)
  · obtain ⟨_, _, _, rfl, _⟩ := h
    rfl
  · obtain ⟨p, a, ns, rfl, hp, hn, q⟩ := h
    refine ⟨_, (pss_cons (ps_set (i := 2) sc__law_maker.nd rfl (.inl rfl) (pe_ix (ix_U K) (pv 1) (pe_cal C__law_take hr (by rfl) (pa_cons (pv 0) (pa_cons (pe_callB (call_lenU K) (by rfl) B.m_len (by decide +kernel) (pa_cons (pv 1) pa_nil)) pa_nil))) (fun _ _ => rfl)))
      (pss_cons (ps_set (i := 3) sc__law_maker.nd rfl (.inl rfl) (pe_lst (pa_cons pe_str (pa_cons (pe_op (op_addU K) pe_str (pv 2)) (pa_cons pe_str (pa_cons pe_str (pa_cons pe_str (pa_cons pe_str pa_nil))))))))
      (pss_cons (ps_set (i := 3) sc__law_maker.nd rfl (.inl rfl) (pe_op (op_addU K) (pv 3) (pe_lst (pa_cons pe_str (pa_cons pe_str (pa_cons pe_str (pa_cons pe_str (pa_cons pe_str pa_nil))))))))
      (pss_one (ps_ret (pe_callTy (call_tupU K) (by rfl) B.m_tuple (by decide +kernel) (pa_cons (pv 3) pa_nil))))))), ?_⟩
    have h1 := hn.ne
    have h2 := hn.le
    walk_at "rd"
    refine i_len_l (.inl (.inl hn.at')) ?_
    walk_at "rd"
    refine ⟨p, ns.length, by rw [List.length_map]; rfl, hp, by omega, by omega, fun H1 d b1 p1 hd => ?_⟩
    have hn1 := hn.bt hp b1
    have hg := hn.ok _ (List.getElem_mem hd)
    refine i_ix_l (.inl (.inl hn1.at')) (atI_nat (j := d) (v := .str ns[d]) (by rw [List.getElem?_map, List.getElem?_eq_getElem hd]; rfl)) ?_
    walk_at "rd"
    generalize ns[d] = nm at hg ⊢
    have o0 := (lit_ok (z := Str.ofString "text b ") 7 (by decide +kernel)).app (name_tx hg.1 hg.2)
    refine i_add_s (szl (by have := hg.2; show 7 + _ ≤ _; omega)) ?_
    walk_at "rd"
    refine i_new_l (by show 6 ≤ sizeLine; decide) fun l2 H2 n2 s2 e2 => ?_
    walk_at "rd"
    refine i_new_l (by show 5 ≤ sizeLine; decide) fun l3 H3 n3 s3 e3 => ?_
    refine i_add_l (s3 _ _ e2) e3 (by show 6 + 5 ≤ _; decide) fun l4 H4 n4 s4 e4 => ?_
    walk_at "rd"
    refine i_tupof_l (.inl (.inl e4)) fun t H5 n5 s5 e5 => ?_
    generalize (Str.ofString "text b " ++ nm) = wd at o0 e5
    refine q H5 (.ref t) (.tuple ([Str.ofString "row h", wd, Str.ofString "ask c b", Str.ofString "text a text d ", Str.ofString "join a c", Str.ofString "put h a", Str.ofString "text a ask e d", Str.ofString "put h a", Str.ofString "text a say e", Str.ofString "put h a", Str.ofString "say h"].map .str)) (b1.trans (.same ((s2.trans s3).trans (s4.trans s5)))) (p1.same ((s2.trans s3).trans (s4.trans s5))) (dt_tup (.inl (.inl e5)) dts_strs) ?_
    refine (row_tx (n := 24) (k := 12) ?_ (by decide) (by simp) (by decide)).mono (by decide) (by decide)
    intro y hy
    simp only [List.mem_cons, List.not_mem_nil, or_false] at hy
    rcases hy with rfl | rfl | rfl | rfl | rfl | rfl | rfl | rfl | rfl | rfl | rfl
    · exact lit_ok 24 (by decide +kernel)
    · exact o0.mono (by decide)
    all_goals exact lit_ok 24 (by decide +kernel)
theorem dt_nul {H : Hp} {t : Addr} (e : H t = some (.tup [])) : Dt K H (.tuple []) (.ref t) := dt_tup (.inl (.inl e)) dts_nil
theorem good_nul : GoodT (.tuple []) 1 1 := ⟨rfl, by decide, by decide⟩
theorem ok_leaf (D : Df K mg "_law_leaf" "_law_leaf" s__law_leaf ["pot", "names"]) (B : NoB mg) (C__law_take : Cal P w K mg base CX0 "_law_take" ["pot", "many"] 1 spTake) (C__law_word : Cal P w K mg base CX0 "_law_word" ["pot", "names"] 2 spWord)
    (C__law_rule : Cal P w K mg base CX0 "_law_rule" ["pot", "names"] 4 (spDrawn K 3 301)) : Cal P w K mg base CX0 "_law_leaf" ["pot", "names"] 5 (spDrawn K 3 301) := by
  refine D.cal fun f fd F => F.ok sc__law_leaf (fun vs H Q E h => ?_) (fun cdv A outer s H vs Q E hr h => ?_)
  · obtain ⟨_, _, _, rfl, _⟩ := h
    rfl
  · obtain ⟨p, a, ns, rfl, hp, hn, q⟩ := h
    refine ⟨_, (pss_cons (ps_set (i := 2) sc__law_leaf.nd rfl (.inl rfl) (pe_cal C__law_take hr (by rfl) (pa_cons (pv 0) (pa_cons pe_int pa_nil))))
      (pss_cons (ps_if (pt_cmpR op_ltU (pv 2) pe_int (nomark _)) (pss_one (ps_ret (pe_cal C__law_word hr (by rfl) (pa_cons (pv 0) (pa_cons (pv 1) pa_nil))))) pss_nil)
      (pss_cons (ps_if (pt_cmpR (op_eqU K hr.units) (pv 2) pe_int (nomark _)) (pss_one (ps_ret (pe_callTy (call_tupU K) (by rfl) B.m_tuple (by decide +kernel) (pa_cons (pe_lc (own := [("k", 3)]) (by rfl) sc__law_leaf.nd (pi_range1 (by rfl) B.m_range (pa_cons (pe_cal C__law_take hr (by rfl) (pa_cons (pv 0) (pa_cons pe_int pa_nil))) pa_nil)) (blkOk_by (own := [("k", 3)]) (N := ["pot", "names", "kind", "k"]) (sc := defScope s__law_leaf) (by decide +kernel)) (fun _ _ _ _ _ => pg_name (i := 3) sc__law_leaf.nd rfl (Or.inl rfl)) (fun _ _ _ _ _ => pts_nil) (fun _ _ _ _ _ => (pe_cal C__law_word hr (by rfl) (pa_cons (pv 0) (pa_cons (pv 1) pa_nil))))) pa_nil)))) pss_nil)
      (pss_cons (ps_if (pt_cmpR (op_eqU K hr.units) (pv 2) pe_int (nomark _)) (pss_one (ps_ret (pe_tup (pa_cons (pe_tup (pa_cons (pe_cal C__law_word hr (by rfl) (pa_cons (pv 0) (pa_cons (pv 1) pa_nil))) (pa_cons (pe_tup pa_nil) pa_nil))) (pa_cons (pe_cal C__law_word hr (by rfl) (pa_cons (pv 0) (pa_cons (pv 1) pa_nil))) pa_nil))))) pss_nil)
      (pss_cons (ps_if (pt_cmpR (op_eqU K hr.units) (pv 2) pe_int (nomark _)) (pss_one (ps_ret (pe_cal C__law_rule hr (by rfl) (pa_cons (pv 0) (pa_cons (pv 1) pa_nil))))) pss_nil)
      (pss_one (ps_ret (pe_tup (pa_cons (pe_op (op_addU K) pe_str (pe_cal C__law_word hr (by rfl) (pa_cons (pv 0) (pa_cons (pv 1) pa_nil)))) (pa_cons pe_str (pa_cons pe_str pa_nil))))))))))), ?_⟩
    walk_at "rd"
    refine ⟨p, 6, rfl, hp, by decide, by decide, fun H1 d b1 p1 hd => ?_⟩
    have hn1 := hn.bt hp b1
    walk_at "rd"
    refine ite2 (fun _ => ?_) fun _ => ?_
    · walk_at "rd"
      refine ⟨p, a, ns, rfl, p1, hn1, fun H2 z b2 p2 hz => ?_⟩
      exact q H2 _ (.str z) (b1.trans b2) p2 dt_str ((hz.gd (by decide)).mono (by decide) (by decide))
    · walk_at "rd"
      refine ite2 (fun _ => ?_) fun _ => ?_
      · walk_at "rd"
        refine ⟨p, 4, rfl, p1, by decide, by decide, fun H2 d2 b2 p2 hd2 => ?_⟩
        have b02 := b1.trans b2
        refine c_range (n := d2) (szlt (by omega)) (fun D i acc H3 => Bt p H H3 ∧ Pot H3 p ∧ ∀ x ∈ acc, ∃ z, x = .str z ∧ txOk 4 z) ?_ ?_ ?_ rfl
        · exact fun D H3 _ s3 _ => ⟨b02.trans (.same s3), p2.same s3, by simp⟩
        · rintro D i acc H3 hD hi hl hi2 ha ⟨b3, p3, hac⟩
          walk_at "rd"
          refine ⟨rfl, ?_⟩
          walk_at "rd"
          refine ⟨p, a, ns, rfl, p3, hn.bt hp b3, fun H4 z b4 p4 hz => ?_⟩
          have hpD : p ≠ D := p2.ne hD
          refine i_ck (b4 _ _ (Ne.symm hpD) ha) hl hi2 fun H5 b5 e5 => ⟨(b3.trans b4).but (none_bt b02 hD (Ne.symm hpD)) b5, p4.but b5 hpD, ?_⟩
          intro x hx
          rcases List.mem_append.mp hx with hx | hx
          · exact hac x hx
          · rw [List.mem_singleton.mp hx]
            exact ⟨_, rfl, hz⟩
        · rintro D acc H3 hD hl ha ⟨b3, p3, hac⟩
          walk_at "rd"
          obtain ⟨ys, rfl, hys⟩ := strs_of hac
          rw [List.length_map] at hl
          refine i_tupof_l (.inl (.inl ha)) fun t H5 n5 s5 e5 => ?_
          exact q H5 (.ref t) (.tuple (ys.map .str)) (b3.trans (.same s5)) (p3.same s5) (dt_tup (.inl (.inl e5)) dts_strs) ((row_tx (n := 4) (k := 3) hys (by decide) (by omega) (by decide)).mono (by decide) (by decide))
      · walk_at "rd"
        refine ite2 (fun _ => ?_) fun _ => ?_
        · walk_at "rd"
          refine ⟨p, a, ns, rfl, p1, hn1, fun H2 z1 b2 p2 hz1 => ?_⟩
          walk_at "rd"
          refine i_new_t (by exact Nat.zero_le _) fun t3 H3 n3 s3 e3 => ?_
          walk_at "rd"
          refine i_new_t (by show 2 ≤ sizeLine; decide) fun t4 H4 n4 s4 e4 => ?_
          walk_at "rd"
          have b04 := (b1.trans b2).trans (.same (s3.trans s4))
          refine ⟨p, a, ns, rfl, p2.same (s3.trans s4), hn.bt hp b04, fun H5 z2 b5 p5 hz2 => ?_⟩
          walk_at "rd"
          refine i_new_t (by show 2 ≤ sizeLine; decide) fun t6 H6 n6 s6 e6 => ?_
          have st : Stay H4 H6 := ((p2.same (s3.trans s4)).stay b5).trans (.same s6)
          refine q H6 (.ref t6) (.tuple [.tuple [.str z1, .tuple []], .str z2]) ((b04.trans b5).trans (.same s6)) (p5.same s6) (dt_tup (.inl (.inl e6)) (dts_cons ?_ (dts_cons dt_str dts_nil))) ?_
          · have d4 : Dt K H4 (.tuple [.str z1, .tuple []]) (.ref t4) := dt_tup (.inl (.inl e4)) (dts_cons dt_str (dts_cons (dt_nul (s4 _ _ e3)) dts_nil))
            exact d4.mono st
          · have g1 : GoodT (.tuple [.str z1, .tuple []]) 2 (2 * 5 + 1) := GoodT.row (n := 1) (fun d hd => by
              simp only [List.mem_cons, List.not_mem_nil, or_false] at hd
              rcases hd with rfl | rfl
              · exact hz1.gd (by decide)
              · exact good_nul.mono (by decide) (by decide)) (by simp) (by decide)
            refine (GoodT.row (n := 2) (m := 11) (k := 2) (fun d hd => ?_) (by simp) (by decide)).mono (by decide) (by decide)
            simp only [List.mem_cons, List.not_mem_nil, or_false] at hd
            rcases hd with rfl | rfl
            · exact g1
            · exact (hz2.gd (by decide)).mono (by decide) (by decide)
        · walk_at "rd"
          refine ite2 (fun _ => ?_) fun _ => ?_
          · walk_at "rd"
            refine ⟨p, a, ns, rfl, p1, hn1, fun H2 v d b2 p2 hv hg => ?_⟩
            exact q H2 v d (b1.trans b2) p2 hv hg
          · walk_at "rd"
            refine ⟨p, a, ns, rfl, p1, hn1, fun H2 z1 b2 p2 hz1 => ?_⟩
            refine i_add_s (szl (by have := hz1.1; show 7 + _ ≤ _; omega)) ?_
            walk_at "rd"
            have o1 := (lit_ok (z := Str.ofString "text a ") 7 (by decide +kernel)).app hz1
            generalize (Str.ofString "text a " ++ z1) = w1 at o1 ⊢
            refine i_new_t (by show 3 ≤ sizeLine; decide) fun t3 H3 n3 s3 e3 => ?_
            refine q H3 (.ref t3) (.tuple ([w1, Str.ofString "ask b a", Str.ofString "say b"].map .str)) ((b1.trans b2).trans (.same s3)) (p2.same s3) (dt_tup (.inl (.inl e3)) dts_strs) ((row_tx (n := 11) (k := 3) ?_ (by decide) (by simp) (by decide)).mono (by decide) (by decide))
            intro y hy
            simp only [List.mem_cons, List.not_mem_nil, or_false] at hy
            rcases hy with rfl | rfl | rfl
            · exact o1
            all_goals exact lit_ok 11 (by decide +kernel)
def spSource (K : PySem.W.Frag) : Sp := fun vs H Q _ => ∃ (p a : Addr) (ns : List Str), vs = [.ref p, .ref a] ∧ Pot H p ∧ Nms H a ns ∧ ∀ H' v s, Bt p H H' → Pot H' p → Dt K H' (Src.py s) v → s.ok → Q v H'
theorem ok_source (D : Df K mg "_law_source" "_law_source" s__law_source ["pot", "names"]) (B : NoB mg) (C__law_take : Cal P w K mg base CX0 "_law_take" ["pot", "many"] 1 spTake) (C__law_leaf : Cal P w K mg base CX0 "_law_leaf" ["pot", "names"] 5 (spDrawn K 3 301))
    (C__law_rule : Cal P w K mg base CX0 "_law_rule" ["pot", "names"] 4 (spDrawn K 3 301)) (C__law_maker : Cal P w K mg base CX0 "_law_maker" ["pot", "names"] 2 (spDrawn K 3 301)) : Cal P w K mg base CX0 "_law_source" ["pot", "names"] 6 (spSource K) := by
  refine D.cal fun f fd F => F.ok sc__law_source (fun vs H Q E h => ?_) (fun cdv A outer s H vs Q E hr h => ?_)
  · obtain ⟨_, _, _, rfl, _⟩ := h
    rfl
  · obtain ⟨p, a, ns, rfl, hp, hn, q⟩ := h
    refine ⟨_, (pss_cons (ps_set (i := 2) sc__law_source.nd rfl (.inl rfl) (pe_cal C__law_take hr (by rfl) (pa_cons (pv 0) (pa_cons pe_int pa_nil))))
      (pss_cons (ps_if (pt_cmpR op_ltU (pv 2) pe_int (nomark _)) (pss_one (ps_ret (pe_tup (pa_cons pe_str (pa_cons (pe_cal C__law_leaf hr (by rfl) (pa_cons (pv 0) (pa_cons (pv 1) pa_nil))) pa_nil))))) pss_nil)
      (pss_cons (ps_if (pt_cmpR op_ltU (pv 2) pe_int (nomark _)) (pss_one (ps_ret (pe_tup (pa_cons pe_str (pa_cons (pe_cal C__law_rule hr (by rfl) (pa_cons (pv 0) (pa_cons (pv 1) pa_nil))) pa_nil))))) pss_nil)
      (pss_cons (ps_if (pt_cmpR (op_eqU K hr.units) (pv 2) pe_int (nomark _)) (pss_one (ps_ret (pe_tup (pa_cons pe_str (pa_cons (pe_cal C__law_maker hr (by rfl) (pa_cons (pv 0) (pa_cons (pv 1) pa_nil))) pa_nil))))) pss_nil)
      (pss_cons (ps_if (PW.pt (pw_and (pt_cmpR (op_eqU K hr.units) (pv 2) pe_int (nomark _)) (pw_and1 (pt_cmpR (op_eqU K hr.units) (pe_cal C__law_take hr (by rfl) (pa_cons (pv 0) (pa_cons pe_int pa_nil))) pe_int (nomark _))))) (pss_one (ps_ret (pe_tup (pa_cons pe_str (pa_cons (pe_cal C__law_leaf hr (by rfl) (pa_cons (pv 0) (pa_cons (pv 1) pa_nil))) pa_nil))))) pss_nil)
      (pss_one (ps_ret (pe_tup (pa_cons pe_str (pa_cons (pe_ix (ix_U K) (pv 1) (pe_cal C__law_take hr (by rfl) (pa_cons (pv 0) (pa_cons (pe_callB (call_lenU K) (by rfl) B.m_len (by decide +kernel) (pa_cons (pv 1) pa_nil)) pa_nil))) (fun _ _ => rfl)) pa_nil)))))))))), ?_⟩
    have fin : ∀ (k : Str) (H1 H2 : Hp) (v : V) (d : PyData), (k = "leaf" ∨ k = "rule") → Bt p H H1 → Pot H1 p → Dt K H1 d v → GoodT d 3 301 → UK [.str k, v] H1 Q := by
      intro k H1 H2 v d hk b1 p1 hv hg
      refine i_new_t (by show 2 ≤ sizeLine; decide) fun t H3 n3 s3 e3 => ?_
      exact q H3 (.ref t) ⟨k, d⟩ (b1.trans (.same s3)) (p1.same s3) (dt_tup (.inl (.inl e3)) (dts_cons dt_str (dts_cons (hv.mono (.same s3)) dts_nil))) (.inr ⟨hk, hg.ok (by decide) (by decide)⟩)
    walk_at "rd"
    refine ⟨p, 10, rfl, hp, by decide, by decide, fun H1 d b1 p1 hd => ?_⟩
    have hn1 := hn.bt hp b1
    have made : ∀ H2, Bt p H H2 → Pot H2 p → tRet (tTup (tCons (tC (V.str (Str.ofString "made"))) (tCons (tOp (rIx K) (tVar 1) (tCall spTake [] E0 (tCons (tVar 0) (tCons (tCB (rLenU K) (tCons (tVar 1) tNil)) tNil)))) tNil)))
        { nx := fun x H' => Q V.non H', rt := Q } [some (.ref p), some (.ref a), some (.int d)] H2 := by
      intro H2 b2 p2
      have hn2 := hn.bt hp b2
      have h1 := hn2.ne
      have h2 := hn2.le
      walk_at "rd"
      refine i_len_l (.inl (.inl hn2.at')) ?_
      walk_at "rd"
      refine ⟨p, ns.length, by rw [List.length_map]; rfl, p2, by omega, by omega, fun H3 d3 b3 p3 hd3 => ?_⟩
      have hn3 := hn2.bt p2 b3
      have hg := hn.ok _ (List.getElem_mem hd3)
      refine i_ix_l (.inl (.inl hn3.at')) (atI_nat (j := d3) (v := .str ns[d3]) (by rw [List.getElem?_map, List.getElem?_eq_getElem hd3]; rfl)) ?_
      walk_at "rd"
      refine i_new_t (by show 2 ≤ sizeLine; decide) fun t H4 n4 s4 e4 => ?_
      exact q H4 (.ref t) ⟨"made", .str ns[d3]⟩ ((b2.trans b3).trans (.same s4)) (p3.same s4) (dt_tup (.inl (.inl e4)) (dts_cons dt_str (dts_cons dt_str dts_nil))) (.inl ⟨rfl, _, rfl, hg.1⟩)
    walk_at "rd"
    refine ite2 (fun _ => ?_) fun _ => ?_
    · walk_at "rd"
      refine ⟨p, a, ns, rfl, p1, hn1, fun H2 v d b2 p2 hv hg => ?_⟩
      walk_at "rd"
      exact fin _ H2 H2 v d (.inl rfl) (b1.trans b2) p2 hv hg
    · walk_at "rd"
      refine ite2 (fun _ => ?_) fun _ => ?_
      · walk_at "rd"
        refine ⟨p, a, ns, rfl, p1, hn1, fun H2 v d b2 p2 hv hg => ?_⟩
        walk_at "rd"
        exact fin _ H2 H2 v d (.inr rfl) (b1.trans b2) p2 hv hg
      · walk_at "rd"
        refine ite2 (fun _ => ?_) fun _ => ?_
        · walk_at "rd"
          refine ⟨p, a, ns, rfl, p1, hn1, fun H2 v d b2 p2 hv hg => ?_⟩
          walk_at "rd"
          exact fin _ H2 H2 v d (.inr rfl) (b1.trans b2) p2 hv hg
        · walk_at "rd"
          refine ite2 (fun _ => ?_) fun _ => ?_
          · walk_at "rd"
            refine ⟨p, 4, rfl, p1, by decide, by decide, fun H2 d2 b2 p2 hd2 => ?_⟩
            walk_at "rd"
            refine ite2 (fun _ => ?_) fun _ => ?_
            · walk_at "rd"
              refine ⟨p, a, ns, rfl, p2, hn.bt hp (b1.trans b2), fun H3 v d b3 p3 hv hg => ?_⟩
              walk_at "rd"
              exact fin _ H3 H3 v d (.inr rfl) ((b1.trans b2).trans b3) p3 hv hg
            · refine i_next ?_
              exact made H2 (b1.trans b2) p2
          · refine iteF ?_
            refine i_next ?_
            exact made H1 b1 p1
end
end Aw

namespace Aw
open PySem PySem.Spec PyProof.Rows L2

local macro_rules | `(tactic| walk_at "rd1") => `(tactic| first
  | ((with_reducible apply i_var); exact rfl)
  | with_reducible refine i_c ?_
  | with_reducible refine i_op ?_
  | with_reducible refine i_un ?_
  | with_reducible refine i_test ?_
  | with_reducible refine i_tB ?_
  | with_reducible refine i_bl ?_
  | with_reducible refine i_and ?_
  | with_reducible refine i_or ?_
  | with_reducible refine i_not ?_
  | with_reducible refine i_andV ?_
  | with_reducible refine i_orV ?_
  | with_reducible refine i_notV ?_
  | with_reducible refine i_if ?_
  | with_reducible refine i_chain ?_
  | with_reducible refine i_nil ?_
  | with_reducible refine i_cons ?_
  | with_reducible refine i_tup ?_
  | with_reducible refine i_lst ?_
  | with_reducible refine i_cb ?_
  | with_reducible refine i_call ?_
  | with_reducible refine i_bm ?_
  | with_reducible refine i_m1 ?_
  | with_reducible refine i_m0 ?_
  | with_reducible refine i_exstr ?_
  | with_reducible refine i_sl ?_
  | with_reducible refine i_nopart ?_
  | with_reducible refine i_part ?_
  | with_reducible refine i_int ?_
  | with_reducible refine i_seq ?_
  | with_reducible refine i_next ?_
  | with_reducible refine i_asg ?_
  | with_reducible refine i_gname ?_
  | with_reducible refine i_ret ?_
  | with_reducible refine i_retN ?_
  | with_reducible refine i_drop ?_
  | with_reducible refine i_ifS ?_
  | with_reducible refine i_break ?_
  | with_reducible refine i_cont ?_
  | ((with_reducible apply i_aug); exact rfl)
  | with_reducible refine i_add_i ?_
  | with_reducible refine i_sub ?_
  | with_reducible refine i_neg ?_
  | with_reducible refine i_ipadd_i ?_
  | with_reducible refine i_ip ?_
  | with_reducible refine i_lt ?_
  | with_reducible refine i_le ?_
  | with_reducible refine i_gt ?_
  | with_reducible refine i_ge ?_
  | with_reducible refine i_lt_s ?_
  | with_reducible refine i_le_s ?_
  | with_reducible refine i_gt_s ?_
  | with_reducible refine i_ge_s ?_
  | with_reducible refine i_isN ?_
  | with_reducible refine i_notN ?_
  | with_reducible refine i_in_c ?_
  | with_reducible refine i_nin_c ?_
  | with_reducible refine i_gsub ?_
  | with_reducible refine i_gcons ?_
  | with_reducible refine i_gnil ?_
  | with_reducible refine i_iList ?_
  | with_reducible refine i_iTup ?_
  | with_reducible refine i_iStr ?_
  | with_reducible refine i_iRng1 ?_
  | with_reducible refine i_lc ?_
  | with_reducible refine i_for ?_
  | with_reducible refine i_yes ?_
  | with_reducible refine i_repl ?_
  | with_reducible refine i_meth ?_
  | with_reducible refine i_fld ?_
  | with_reducible refine i_sfld ?_
  | with_reducible refine i_din ?_
  | with_reducible refine i_dnin ?_
  | with_reducible refine i_dget ?_
  | with_reducible refine i_dput ?_
  | with_reducible refine i_joined ?_
  | with_reducible refine i_items ?_
  | with_reducible refine i_stepL ?_
  | with_reducible refine i_make ?_
  | with_reducible refine i_fmt ?_
  | with_reducible refine i_jcons ?_
  | with_reducible refine i_jnil ?_
  | with_reducible refine i_iEnum ?_
  | with_reducible refine iteT ?_
  | with_reducible refine iteF ?_
  | with_reducible refine iteNT ?_
  | with_reducible refine iteNF ?_
  | ((with_reducible refine i_len_s ?_ ?_); (first | assumption | exact szl (by assumption)))
  | ((with_reducible refine i_sl_s ?_ ?_); (first | assumption | exact szl (by assumption)))
  | with_reducible refine i_int_b ?_
  | with_reducible refine i_abs ?_
  | with_reducible refine i_min2 ?_
  | with_reducible refine i_eq rfl ?_
  | with_reducible refine i_ne rfl ?_)
local macro_rules | `(tactic| walk_at "rd") => `(tactic| repeat walk_at "rd1")

abbrev s__law_sources : Stmt := topS 45
theorem sc__law_sources : FnScope ["script", "names", "pairs", "k", "cell"] ["script"] (defScope s__law_sources) := ⟨rfl, rfl, rfl, by decide +kernel, rfl, by decide +kernel, by decide +kernel⟩
section
variable {P : Program} {w : World} {K : PySem.W.Frag} {mg : Str → Option Value} {base : Heap}
def eight : List Str := [Str.ofString "a", Str.ofString "b1", Str.ofString "c/d", Str.ofString "e.f", Str.ofString "g", Str.ofString "h9", Str.ofString "k", Str.ofString "m/n"]
theorem eight_ok : ∀ n ∈ eight, nameOk n = true ∧ n.length ≤ 3 := by decide +kernel
theorem eight_nd : eight.Nodup := by decide +kernel
theorem nd_take {l : List Str} (h : l.Nodup) {i : Nat} {x : Str} (e : l[i]? = some x) : x ∉ l.take i := by
  intro hm
  obtain ⟨j, hj, ej⟩ := List.mem_iff_getElem.mp hm
  rw [List.length_take] at hj
  rw [List.getElem_take] at ej
  have e2 : l[j]? = some x := by rw [List.getElem?_eq_getElem (by omega), ej]
  have := nd_ix h e e2
  omega
theorem cutV_take {xs : List V} {k : Nat} (h : k ≤ xs.length) : cutV xs none (some (k : Int)) = xs.take k := by
  unfold cutV
  rw [HT.sIx_none, HT.sIx_nat, List.drop_zero, Nat.sub_zero, Nat.min_eq_left h]
/-- sources for some of the names -/
def spSources (K : PySem.W.Frag) : Sp := fun vs H Q _ => ∃ (a : Addr) (ns : List Int), vs = [.ref a] ∧ SqL K H a (ns.map V.int) ∧ ∀ H' l prs xs, Same H H' → H l = none → H' l = some (.lst xs) → Dts K H' (prs.map prPy) xs → PrsOk prs → Q (.ref l) H'
theorem ok_sources (D : Df K mg "_law_sources" "_law_sources" s__law_sources ["script"]) (B : NoB mg) (C__law_cell_at : Cal P w K mg base CX0 "_law_cell_at" ["script", "k"] 1 (spCellAt K)) (C__law_pot : Cal P w K mg base CX0 "_law_pot" ["cell", "salt"] 1 spPot)
    (C__law_source : Cal P w K mg base CX0 "_law_source" ["pot", "names"] 6 (spSource K)) : Cal P w K mg base CX0 "_law_sources" ["script"] 7 (spSources K) := by
  refine D.cal fun f fd F => F.ok sc__law_sources (fun vs H Q E h => ?_) (fun cdv A outer s H vs Q E hr h => ?_)
  · obtain ⟨_, _, rfl, _⟩ := h
    rfl
  · obtain ⟨a, ns, rfl, hs, q⟩ := h
    refine ⟨_, (pss_cons (ps_set (i := 1) sc__law_sources.nd rfl (.inl rfl) (pe_slice (sl_U K) (pe_lst (pa_cons pe_str (pa_cons pe_str (pa_cons pe_str (pa_cons pe_str (pa_cons pe_str (pa_cons pe_str (pa_cons pe_str (pa_cons pe_str pa_nil))))))))) po_none (po_some (pe_op (op_addU K) pe_int (pe_op op_modU (pe_cal C__law_cell_at hr (by rfl) (pa_cons (pv 0) (pa_cons pe_int pa_nil))) pe_int)))))
      (pss_cons (ps_set (i := 2) sc__law_sources.nd rfl (.inl rfl) (pe_lst pa_nil))
      (pss_cons (ps_for PassesOwn.never rfl (pi_range1 (by rfl) B.m_range (pa_cons (pe_callB (call_lenU K) (by rfl) B.m_len (by decide +kernel) (pa_cons (pv 1) pa_nil)) pa_nil)) (pg_name (i := 3) sc__law_sources.nd rfl (.inl rfl)) (pss_cons (ps_set (i := 4) sc__law_sources.nd rfl (.inl rfl) (pe_callB (call_sumU K rfl) (by rfl) B.m_sum (by decide +kernel) (pa_cons (pe_stepL (K := K) (pv 0) (pe_op (op_addU K) pe_int (pv 3)) pe_int) pa_nil)))
      (pss_one (ps_if (pt_cmpR (op_neU K hr.units) (pe_op op_modU (pv 4) pe_int) pe_int (nomark _)) (pss_one (ps_expr (pe_bmU K PySem.F.plainAttrs_list PySem.F.slot_list_append PySem.F.type_list_append mt_append (pv 2) (pa_cons (pe_tup (pa_cons (pe_ix (ix_U K) (pv 1) (pv 3) (fun _ _ => rfl)) (pa_cons (pe_cal C__law_source hr (by rfl) (pa_cons (pe_cal C__law_pot hr (by rfl) (pa_cons (pv 4) (pa_cons (pv 3) pa_nil))) (pa_cons (pv 1) pa_nil))) pa_nil))) pa_nil)))) pss_nil))))
      (pss_one (ps_ret (pv 2)))))), ?_⟩
    walk_at "rd"
    refine i_new_l (by show 8 ≤ sizeLine; decide) fun l1 H1 n1 s1 e1 => ?_
    walk_at "rd"
    refine ⟨a, ns, 0, rfl, s1.seq hs, fun c => ?_⟩
    walk_at "rd"
    refine i_mod (by decide) ?_
    walk_at "rd"
    obtain ⟨d, hd, hd8⟩ := dig c (m := 8) (by decide)
    have hd : c.fmod 8 = (d : Int) := hd
    rw [hd, show (1 : Int) + (d : Int) = ((1 + d : Nat) : Int) by omega]
    refine i_sl_l (.inl (.inl e1)) fun l2 H2 n2 s2 e2 => ?_
    rw [cutV_take (by show _ ≤ 8; omega)] at e2
    have e2 : H2 l2 = some (.lst ((eight.take (1 + d)).map V.str)) := by rw [e2, List.map_take]; rfl
    have hN : Nms H2 l2 (eight.take (1 + d)) := ⟨e2, by rw [List.length_take]; show 1 ≤ min _ 8; omega, by rw [List.length_take]; show min _ 8 ≤ 8; omega, fun n hn => eight_ok n (List.mem_of_mem_take hn)⟩
    have hnd : (eight.take (1 + d)).Nodup := eight_nd.sublist (List.take_sublist _ _)
    generalize (eight.take (1 + d)) = nms at e2 hN hnd
    have hle := hN.le
    walk_at "rd"
    refine i_new_l (by exact Nat.zero_le _) fun l3 H3 n3 s3 e3 => ?_
    walk_at "rd"
    refine i_len_l (.inl (.inl (s3 _ _ e2))) ?_
    have s13 := s1.trans (s2.trans s3)
    have nl3 : H l3 = none := none_back (s1.trans s2) n3
    refine f_range (n := nms.length) (by omega) (fun i σ H4 => ∃ (prs : Prs) (xs : List V) (y1 y2 : Option V), σ = [some (.ref a), some (.ref l2), some (.ref l3), y1, y2] ∧ Same H H4 ∧ Nms H4 l2 nms ∧ H4 l3 = some (.lst xs) ∧ Dts K H4 (prs.map prPy) xs ∧ (names prs).Nodup ∧ (∀ n ∈ names prs, n ∈ nms.take i) ∧ prs.length ≤ i ∧ ∀ p ∈ prs, nameOk p.1 = true ∧ p.2.ok) ?_ ?_ ?_ (by rw [List.length_map])
    · exact ⟨[], [], none, none, rfl, s13, hN.same s3, e3, dts_nil, List.nodup_nil, by simp [names], Nat.zero_le _, by simp⟩
    · rintro i σ H4 hi ⟨prs, xs, y1, y2, rfl, s4, hN4, e4, hx, nd, hsub, hpl, hpo⟩
      walk_at "rd"
      refine i_stepk (s4.seq hs) (by decide) fun p5 H5 n5 s5 e5 => ?_
      walk_at "rd"
      refine i_sum (.inl (.inl e5)) ?_
      walk_at "rd"
      refine i_mod (by decide) ?_
      walk_at "rd"
      have s05 := s4.trans s5
      have hN5 := hN4.same s5
      refine ite2 (fun _ => ?_) fun _ => ?_
      · walk_at "rd"
        refine i_tyl (s5 _ _ e4) ?_
        have hi' : nms[i]? = some nms[i] := List.getElem?_eq_getElem hi
        have hok := hN.ok _ (List.getElem_mem hi)
        generalize nms[i] = nm at hi' hok
        walk_at "rd"
        refine i_ix_l (.inl (.inl hN5.at')) (atI_nat (j := i) (v := .str nm) (by rw [List.getElem?_map, hi']; rfl)) ?_
        walk_at "rd"
        refine ⟨_, i, rfl, by omega, fun H6 p6 n6 s6 hp6 => ?_⟩
        walk_at "rd"
        refine ⟨p6, l2, nms, rfl, hp6, hN5.same s6, fun H7 v sr b7 p7 hv hsr => ?_⟩
        have s57 : Same H5 H7 := Same.but s6 n6 b7
        walk_at "rd"
        refine i_new_t (by show 2 ≤ sizeLine; decide) fun t8 H8 n8 s8 e8 => ?_
        walk_at "rd"
        have s48 := s5.trans (s57.trans s8)
        have e48 := s48 _ _ e4
        have hxl := hx.length
        rw [List.length_map] at hxl
        refine i_append e48 (szlt (by omega)) fun H9 b9 e9 => ?_
        walk_at "rd"
        have nl3' : l2 ≠ l3 := ne_of_none e2 n3
        refine ⟨prs ++ [(nm, sr)], _, _, _, rfl, Same.but (s4.trans s48) nl3 b9, (hN4.same s48).but b9 nl3', e9, ?_, ?_, ?_, by rw [List.length_append]; show _ + 1 ≤ _; omega, ?_⟩
        · rw [List.map_append]
          have st : Stay H4 H9 := (Stay.same s48).trans (.but b9 e48)
          refine (hx.mono st).snoc ?_
          have d8 : Dt K H8 (prPy (nm, sr)) (.ref t8) := dt_tup (.inl (.inl e8)) (dts_cons dt_str (dts_cons (hv.mono (.same s8)) dts_nil))
          exact d8.mono (.but b9 e48)
        · unfold names at nd hsub ⊢
          rw [List.map_append]
          refine List.nodup_append.mpr ⟨nd, List.nodup_cons.mpr ⟨by simp, List.nodup_nil⟩, ?_⟩
          intro x hx1 y hy1 e
          rw [List.mem_singleton.mp hy1] at e
          have := hsub x hx1
          rw [e] at this
          exact nd_take hnd hi' this
        · unfold names at hsub ⊢
          rw [List.map_append, take_snoc hi']
          intro n hn
          rcases List.mem_append.mp hn with hn | hn
          · exact List.mem_append_left _ (hsub n hn)
          · exact List.mem_append_right _ (by rw [List.mem_singleton.mp hn]; exact List.mem_singleton_self _)
        · intro p hp
          rcases List.mem_append.mp hp with hp | hp
          · exact hpo p hp
          · rw [List.mem_singleton.mp hp]
            exact ⟨hok.1, hsr⟩
      · walk_at "rd"
        refine ⟨prs, xs, _, _, rfl, s05, hN5, s5 _ _ e4, hx.mono (.same s5), nd, fun n hn => ?_, by omega, hpo⟩
        have h1 : nms.take i = (nms.take (i + 1)).take i := by rw [List.take_take]; congr 1; omega
        have := hsub n hn
        rw [h1] at this
        exact List.mem_of_mem_take this
    · rintro σ H4 ⟨prs, xs, y1, y2, rfl, s4, hN4, e4, hx, nd, hsub, hpl, hpo⟩
      walk_at "rd"
      exact q H4 l3 prs xs s4 nl3 e4 hx ⟨fun p hp => (hpo p hp).1, fun p hp => (hpo p hp).2, nd, by omega⟩
end
end Aw

namespace Aw
open PySem PySem.Spec PyProof.Rows L2

local macro_rules | `(tactic| walk_at "rd1") => `(tactic| first
  | ((with_reducible apply i_var); exact rfl)
  | with_reducible refine i_c ?_
  | with_reducible refine i_op ?_
  | with_reducible refine i_un ?_
  | with_reducible refine i_test ?_
  | with_reducible refine i_tB ?_
  | with_reducible refine i_bl ?_
  | with_reducible refine i_and ?_
  | with_reducible refine i_or ?_
  | with_reducible refine i_not ?_
  | with_reducible refine i_andV ?_
  | with_reducible refine i_orV ?_
  | with_reducible refine i_notV ?_
  | with_reducible refine i_if ?_
  | with_reducible refine i_chain ?_
  | with_reducible refine i_nil ?_
  | with_reducible refine i_cons ?_
  | with_reducible refine i_tup ?_
  | with_reducible refine i_lst ?_
  | with_reducible refine i_cb ?_
  | with_reducible refine i_call ?_
  | with_reducible refine i_bm ?_
  | with_reducible refine i_m1 ?_
  | with_reducible refine i_m0 ?_
  | with_reducible refine i_exstr ?_
  | with_reducible refine i_sl ?_
  | with_reducible refine i_nopart ?_
  | with_reducible refine i_part ?_
  | with_reducible refine i_int ?_
  | with_reducible refine i_seq ?_
  | with_reducible refine i_next ?_
  | with_reducible refine i_asg ?_
  | with_reducible refine i_gname ?_
  | with_reducible refine i_ret ?_
  | with_reducible refine i_retN ?_
  | with_reducible refine i_drop ?_
  | with_reducible refine i_ifS ?_
  | with_reducible refine i_break ?_
  | with_reducible refine i_cont ?_
  | ((with_reducible apply i_aug); exact rfl)
  | with_reducible refine i_add_i ?_
  | with_reducible refine i_sub ?_
  | with_reducible refine i_neg ?_
  | with_reducible refine i_ipadd_i ?_
  | with_reducible refine i_ip ?_
  | with_reducible refine i_lt ?_
  | with_reducible refine i_le ?_
  | with_reducible refine i_gt ?_
  | with_reducible refine i_ge ?_
  | with_reducible refine i_lt_s ?_
  | with_reducible refine i_le_s ?_
  | with_reducible refine i_gt_s ?_
  | with_reducible refine i_ge_s ?_
  | with_reducible refine i_isN ?_
  | with_reducible refine i_notN ?_
  | with_reducible refine i_in_c ?_
  | with_reducible refine i_nin_c ?_
  | with_reducible refine i_gsub ?_
  | with_reducible refine i_gcons ?_
  | with_reducible refine i_gnil ?_
  | with_reducible refine i_iList ?_
  | with_reducible refine i_iTup ?_
  | with_reducible refine i_iStr ?_
  | with_reducible refine i_iRng1 ?_
  | with_reducible refine i_lc ?_
  | with_reducible refine i_for ?_
  | with_reducible refine i_yes ?_
  | with_reducible refine i_repl ?_
  | with_reducible refine i_meth ?_
  | with_reducible refine i_fld ?_
  | with_reducible refine i_sfld ?_
  | with_reducible refine i_din ?_
  | with_reducible refine i_dnin ?_
  | with_reducible refine i_dget ?_
  | with_reducible refine i_dput ?_
  | with_reducible refine i_joined ?_
  | with_reducible refine i_items ?_
  | with_reducible refine i_stepL ?_
  | with_reducible refine i_make ?_
  | with_reducible refine i_fmt ?_
  | with_reducible refine i_jcons ?_
  | with_reducible refine i_jnil ?_
  | with_reducible refine i_iEnum ?_
  | with_reducible refine iteT ?_
  | with_reducible refine iteF ?_
  | with_reducible refine iteNT ?_
  | with_reducible refine iteNF ?_
  | ((with_reducible refine i_len_s ?_ ?_); (first | assumption | exact szl (by assumption)))
  | ((with_reducible refine i_sl_s ?_ ?_); (first | assumption | exact szl (by assumption)))
  | with_reducible refine i_int_b ?_
  | with_reducible refine i_abs ?_
  | with_reducible refine i_min2 ?_
  | with_reducible refine i_eq rfl ?_
  | with_reducible refine i_ne rfl ?_)
local macro_rules | `(tactic| walk_at "rd") => `(tactic| repeat walk_at "rd1")

abbrev s__law_signs : Stmt := topS 46
theorem sc__law_signs : FnScope ["signs"] [] (defScope s__law_signs) := ⟨rfl, rfl, rfl, by decide +kernel, rfl, by decide +kernel, by decide +kernel⟩
abbrev s__law_any_text : Stmt := topS 47
theorem sc__law_any_text : FnScope ["pot", "most", "signs", "k"] ["pot", "most"] (defScope s__law_any_text) := ⟨rfl, rfl, rfl, by decide +kernel, rfl, by decide +kernel, by decide +kernel⟩
abbrev s__law_any_tree : Stmt := topS 48
theorem sc__law_any_tree : FnScope ["pot", "deep", "k"] ["pot", "deep"] (defScope s__law_any_tree) := ⟨rfl, rfl, rfl, by decide +kernel, rfl, by decide +kernel, by decide +kernel⟩
abbrev s__law_any_name : Stmt := topS 49
theorem sc__law_any_name : FnScope ["pot", "signs", "name", "k"] ["pot"] (defScope s__law_any_name) := ⟨rfl, rfl, rfl, by decide +kernel, rfl, by decide +kernel, by decide +kernel⟩
section
variable {P : Program} {w : World} {K : PySem.W.Frag} {mg : Str → Option Value} {base : Heap}
def sgns : Str := Str.ofString " !\"#$&'()*+,-./0123456789:;<=>?@ABCDEFGHIJKLMNOPQRSTUVWXYZ" ++ Str.ofString "[\\]^_`abcdefghijklmnopqrstuvwxyz{|}~"
theorem sgns_len : sgns.length = 94 := by decide +kernel
theorem sgns_ok : sgns.cps.toList.all plainC = true := by decide +kernel
def spSigns : Sp := fun vs H Q _ => vs = [] ∧ Q (.str sgns) H
theorem ok_signs (D : Df K mg "_law_signs" "_law_signs" s__law_signs []) : Cal P w K mg base CX0 "_law_signs" [] 1 spSigns := by
  refine D.cal fun f fd F => F.ok sc__law_signs (fun vs H Q E h => ?_) (fun cdv A outer s H vs Q E hr h => ?_)
  · obtain ⟨rfl, _⟩ := h
    rfl
  · obtain ⟨rfl, q⟩ := h
    refine ⟨_, (pss_cons (ps_set (i := 0) sc__law_signs.nd rfl (.inl rfl) pe_str)
      (pss_one (ps_ret (pe_op (op_addU K) (pv 0) pe_str)))), ?_⟩
    walk_at "rd"
    refine i_add_s (by decide) ?_
    exact q
/-- any text of at most so many signs -/
def spAnyText : Sp := fun vs H Q _ => ∃ (p : Addr) (m : Nat), vs = [.ref p, .int (m : Nat)] ∧ Pot H p ∧ m ≤ 20 ∧ ∀ H' z, Bt p H H' → Pot H' p → txOk m z → Q (.str z) H'
theorem ok_any_text (D : Df K mg "_law_any_text" "_law_any_text" s__law_any_text ["pot", "most"]) (B : NoB mg) (C__law_take : Cal P w K mg base CX0 "_law_take" ["pot", "many"] 1 spTake) (C__law_signs : Cal P w K mg base CX0 "_law_signs" [] 1 spSigns) :
    Cal P w K mg base CX0 "_law_any_text" ["pot", "most"] 2 spAnyText := by
  refine D.cal fun f fd F => F.ok sc__law_any_text (fun vs H Q E h => ?_) (fun cdv A outer s H vs Q E hr h => ?_)
  · obtain ⟨_, _, rfl, _⟩ := h
    rfl
  · obtain ⟨p, m, rfl, hp, hm, q⟩ := h
    refine ⟨_, (pss_cons (ps_set (i := 2) sc__law_any_text.nd rfl (.inr rfl) (pe_cal0 C__law_signs hr (by rfl)))
      (pss_one (ps_ret (pe_joinU K pe_str (pe_lc (own := [("k", 3)]) (by rfl) sc__law_any_text.nd (pi_range1 (by rfl) B.m_range (pa_cons (pe_cal C__law_take hr (by rfl) (pa_cons (pv 0) (pa_cons (pe_op (op_addU K) (pv 1) pe_int) pa_nil))) pa_nil)) (blkOk_by (own := [("k", 3)]) (N := ["pot", "most", "signs", "k"]) (sc := defScope s__law_any_text) (by decide +kernel)) (fun _ _ _ _ _ => pg_name (i := 3) sc__law_any_text.nd rfl (Or.inl rfl)) (fun _ _ _ _ _ => pts_nil) (fun _ _ _ _ _ => (pe_ix (ix_U K) (pv 2) (pe_cal C__law_take hr (by rfl) (pa_cons (pv 0) (pa_cons (pe_callB (call_lenU K) (by rfl) B.m_len (by decide +kernel) (pa_cons (pv 2) pa_nil)) pa_nil))) (fun _ _ => rfl)))))))), ?_⟩
    walk_at "rd"
    refine ⟨rfl, ?_⟩
    walk_at "rd"
    refine ⟨p, m + 1, rfl, hp, by omega, by omega, fun H1 d b1 p1 hd => ?_⟩
    refine c_range (n := d) (szlt (by omega)) (fun D i acc H3 => Bt p H H3 ∧ Pot H3 p ∧ ∀ x ∈ acc, ∃ z, x = .str z ∧ txOk 1 z) ?_ ?_ ?_ rfl
    · exact fun D H3 _ s3 _ => ⟨b1.trans (.same s3), p1.same s3, by simp⟩
    · rintro D i acc H3 hD hi hl hi2 ha ⟨b3, p3, hac⟩
      walk_at "rd"
      refine ⟨rfl, ?_⟩
      have hsl := sgns_len
      walk_at "rd"
      refine i_len_s (szl (by omega)) ?_
      walk_at "rd"
      refine ⟨p, 94, by rw [hsl]; rfl, p3, by decide, by decide, fun H4 d2 b4 p4 hd2 => ?_⟩
      have hc : sgns.cps.toList[d2]? = some (sgns.cps.toList[d2]'(by rw [len_list]; omega)) := List.getElem?_eq_getElem _
      have hco := (List.all_eq_true.mp sgns_ok) _ (List.getElem_mem (l := sgns.cps.toList) (n := d2) (by rw [len_list]; omega))
      generalize (sgns.cps.toList[d2]'(by rw [len_list]; omega)) = c at hc hco
      refine i_ix_s (szl (by omega)) (atI_nat hc) ?_
      have hpD : p ≠ D := p1.ne hD
      refine i_ck (b4 _ _ (Ne.symm hpD) ha) hl hi2 fun H5 b5 e5 => ⟨(b3.trans b4).but (none_bt b1 hD (Ne.symm hpD)) b5, p4.but b5 hpD, ?_⟩
      intro x hx
      rcases List.mem_append.mp hx with hx | hx
      · exact hac x hx
      · rw [List.mem_singleton.mp hx]
        exact ⟨_, rfl, Nat.le_refl _, by show [c].all plainC = true; rw [List.all_cons, hco]; rfl⟩
    · rintro D acc H3 hD hl ha ⟨b3, p3, hac⟩
      obtain ⟨ys, rfl, hys⟩ := strs_of hac
      rw [List.length_map] at hl
      have hj := txOk.join hys (lit_ok (z := Str.ofString "") 0 (by decide +kernel))
      refine i_join (.inl (.inl (.inl ha))) ?_ (q H3 _ b3 p3 (hj.mono (by omega)))
      have hs : (ys.map (·.length)).sum ≤ ys.length * 1 := by
        clear hj ha hl hac
        induction ys with
        | nil => simp
        | cons y r ih =>
          have := (hys y (List.mem_cons_self ..)).1
          have := ih fun w hw => hys w (List.mem_cons_of_mem _ hw)
          rw [List.map_cons, List.sum_cons, List.length_cons, Nat.succ_mul]
          omega
      show _ + _ * 0 ≤ _
      omega
def anySz : Nat → Nat
  | 0 => 5
  | k + 1 => 3 * anySz k + 1
theorem anySz_le : ∀ k, 5 ≤ anySz k
  | 0 => Nat.le_refl _
  | k + 1 => by have := anySz_le k; show 5 ≤ 3 * anySz k + 1; omega
theorem anySz_up (k : Nat) : anySz k ≤ anySz (k + 1) := by show _ ≤ 3 * anySz k + 1; omega
def spAnyTree (K : PySem.W.Frag) (n : Nat) : Sp := fun vs H Q _ => ∃ (p : Addr) (k : Nat), vs = [.ref p, .int (k : Nat)] ∧ Pot H p ∧ k < n ∧ k ≤ 5 ∧ ∀ H' v d, Bt p H H' → Pot H' p → Dt K H' d v → GoodT d (k + 1) (anySz k) → Q v H'
theorem ok_any_tree (D : Df K mg "_law_any_tree" "_law_any_tree" s__law_any_tree ["pot", "deep"]) (B : NoB mg) (C__law_take : Cal P w K mg base CX0 "_law_take" ["pot", "many"] 1 spTake) (C__law_any_text : Cal P w K mg base CX0 "_law_any_text" ["pot", "most"] 2 spAnyText) :
    ∀ n, Cal P w K mg base CX0 "_law_any_tree" ["pot", "deep"] (n + 3) (spAnyTree K n) := by
  refine D.turns (fun n => n + 3) (spAnyTree K) (fun vs H Q E h => ?_) (fun n f fd F C__law_any_tree => ?_)
  · obtain ⟨_, _, _, _, h, _⟩ := h
    omega
  show FnOk P w K mg base CX0 ((n + 3) + 1) f fd _ _
  refine F.ok sc__law_any_tree (fun vs H Q E h => ?_) (fun cdv A outer s H vs Q E hr h => ?_)
  · obtain ⟨_, _, rfl, _⟩ := h
    rfl
  · obtain ⟨p, k, rfl, hp, hk, hk5, q⟩ := h
    refine ⟨_, (pss_cons (ps_if (PW.pt (pw_or (pt_cmpR (op_eqU K hr.units) (pv 1) pe_int (nomark _)) (pw_or1 (pt_cmpR op_gtU (pe_cal C__law_take hr (by rfl) (pa_cons (pv 0) (pa_cons pe_int pa_nil)) (by omega)) pe_int (nomark _))))) (pss_one (ps_ret (pe_cal C__law_any_text hr (by rfl) (pa_cons (pv 0) (pa_cons pe_int pa_nil)) (by omega)))) pss_nil)
      (pss_one (ps_ret (pe_callTy (call_tupU K) (by rfl) B.m_tuple (by decide +kernel) (pa_cons (pe_lc (own := [("k", 2)]) (by rfl) sc__law_any_tree.nd (pi_range1 (by rfl) B.m_range (pa_cons (pe_cal C__law_take hr (by rfl) (pa_cons (pv 0) (pa_cons pe_int pa_nil)) (by omega)) pa_nil)) (blkOk_by (own := [("k", 2)]) (N := ["pot", "deep", "k"]) (sc := defScope s__law_any_tree) (by decide +kernel)) (fun _ _ _ _ _ => pg_name (i := 2) sc__law_any_tree.nd rfl (Or.inl rfl)) (fun _ _ _ _ _ => pts_nil) (fun _ _ _ _ _ => (pe_cal C__law_any_tree hr (by rfl) (pa_cons (pv 0) (pa_cons (pe_op op_subU (pv 1) pe_int) pa_nil)) (by omega)))) pa_nil))))), ?_⟩
    have txt : ∀ H1, Bt p H H1 → Pot H1 p → tRet (tCall spAnyText [] E0 (tCons (tVar 0) (tCons (tC (.int 4)) tNil))) { nx := fun _ H' => Q .non H', rt := Q } [some (.ref p), some (.int (k : Nat)), none] H1 := by
      intro H1 b1 p1
      walk_at "rd"
      refine ⟨p, 4, rfl, p1, by decide, fun H2 z b2 p2 hz => ?_⟩
      refine q H2 _ (.str z) (b1.trans b2) p2 dt_str ((hz.gd (by decide)).mono (by omega) (anySz_le k))
    walk_at "rd"
    rw [decI]
    by_cases h0 : (k : Int) = 0
    · rw [decide_eq_true h0]
      refine iteT ?_
      refine iteT ?_
      exact txt H (Bt.refl p H) hp
    · rw [decide_eq_false h0]
      refine iteF ?_
      walk_at "rd"
      refine ⟨p, 3, rfl, hp, by decide, by decide, fun H1 d1 b1 p1 hd1 => ?_⟩
      walk_at "rd"
      refine ite2 (fun _ => ?_) fun _ => ?_
      · exact txt H1 b1 p1
      · refine i_next ?_
        walk_at "rd"
        refine ⟨p, 4, rfl, p1, by decide, by decide, fun H2 d2 b2 p2 hd2 => ?_⟩
        have b02 := b1.trans b2
        refine c_range (n := d2) (szlt (by omega)) (fun D i acc H3 => Bt p H H3 ∧ Pot H3 p ∧ ∃ ds, Dts K H3 ds acc ∧ ∀ d ∈ ds, GoodT d k (anySz (k - 1))) ?_ ?_ ?_ rfl
        · exact fun D H3 _ s3 _ => ⟨b02.trans (.same s3), p2.same s3, [], dts_nil, by simp⟩
        · rintro D i acc H3 hD hi hl hi2 ha ⟨b3, p3, ds, hds, hg⟩
          walk_at "rd"
          refine ⟨rfl, ?_⟩
          walk_at "rd"
          have hpD : p ≠ D := p2.ne hD
          refine ⟨p, k - 1, ?_, p3, by omega, by omega, fun H4 v d b4 p4 hv hgd => ?_⟩
          · have e : ((k : Int) - 1) = ((k - 1 : Nat) : Int) := by omega
            rw [e]
            rfl
          have e4 := b4 _ _ (Ne.symm hpD) ha
          refine i_ck e4 hl hi2 fun H5 b5 e5 => ⟨(b3.trans b4).but (none_bt b02 hD (Ne.symm hpD)) b5, p4.but b5 hpD, ds ++ [d], ?_, ?_⟩
          · have st := p3.stay b4
            exact ((hds.mono st).snoc hv).mono (.but b5 e4)
          · intro x hx
            rcases List.mem_append.mp hx with hx | hx
            · exact hg x hx
            · rw [List.mem_singleton.mp hx]
              exact hgd.mono (by omega) (Nat.le_refl _)
        · rintro D acc H3 hD hl ha ⟨b3, p3, ds, hds, hg⟩
          walk_at "rd"
          refine i_tupof_l (.inl (.inl ha)) fun t H5 n5 s5 e5 => ?_
          have hdl := hds.length
          refine q H5 (.ref t) (.tuple ds) (b3.trans (.same s5)) (p3.same s5) (dt_tup (.inl (.inl e5)) (hds.mono (.same s5))) ?_
          obtain ⟨j, rfl⟩ : ∃ j, k = j + 1 := ⟨k - 1, by omega⟩
          exact GoodT.row (n := j + 1) (m := anySz j) (k := 3) hg (by omega) (by decide)
def nm38 : Str := Str.ofString "abcdefghijklmnopqrstuvwxyz0123456789./"
theorem nm38_ok : nm38.length = 38 ∧ nm38.cps.toList.all nameC = true ∧ (nm38.cps.toList.take 26).all letC = true := by decide +kernel
def spAnyName : Sp := fun vs H Q _ => ∃ p : Addr, vs = [.ref p] ∧ Pot H p ∧ ∀ H' z, Bt p H H' → Pot H' p → nameOk z = true → z.length ≤ 4 → Q (.str z) H'
theorem join0 (ys : List Str) : (Txt.join (Str.ofString "") ys).cps.toList = (ys.map (·.cps.toList)).flatten := by
  rw [join_list]
  exact inter_nil _
theorem join0_one : ∀ {ys : List Str}, (∀ y ∈ ys, ∃ c, y = ⟨#[c]⟩ ∧ nameC c = true) → ((ys.map (·.cps.toList)).flatten).length = ys.length ∧ ((ys.map (·.cps.toList)).flatten).all nameC = true
  | [], _ => ⟨rfl, rfl⟩
  | y :: r, h => by
    obtain ⟨c, rfl, hc⟩ := h y (List.mem_cons_self ..)
    obtain ⟨h1, h2⟩ := join0_one (ys := r) fun w hw => h w (List.mem_cons_of_mem _ hw)
    rw [List.map_cons, List.flatten_cons]
    have hone : ((⟨#[c]⟩ : Str).cps.toList).length = 1 := rfl
    refine ⟨by rw [List.length_append, h1, hone]; show 1 + r.length = r.length + 1; omega, ?_⟩
    rw [List.all_append, h2]
    show ([c].all nameC && true) = true
    rw [List.all_cons, hc]; rfl
theorem ok_any_name (D : Df K mg "_law_any_name" "_law_any_name" s__law_any_name ["pot"]) (B : NoB mg) (C__law_take : Cal P w K mg base CX0 "_law_take" ["pot", "many"] 1 spTake) : Cal P w K mg base CX0 "_law_any_name" ["pot"] 2 spAnyName := by
  refine D.cal fun f fd F => F.ok sc__law_any_name (fun vs H Q E h => ?_) (fun cdv A outer s H vs Q E hr h => ?_)
  · obtain ⟨_, rfl, _⟩ := h
    rfl
  · obtain ⟨p, rfl, hp, q⟩ := h
    refine ⟨_, (pss_cons (ps_set (i := 1) sc__law_any_name.nd rfl (.inr rfl) pe_str)
      (pss_cons (ps_set (i := 2) sc__law_any_name.nd rfl (.inl rfl) (pe_ix (ix_U K) (pv 1) (pe_cal C__law_take hr (by rfl) (pa_cons (pv 0) (pa_cons pe_int pa_nil))) (fun _ _ => rfl)))
      (pss_one (ps_ret (pe_op (op_addU K) (pv 2) (pe_joinU K pe_str (pe_lc (own := [("k", 3)]) (by rfl) sc__law_any_name.nd (pi_range1 (by rfl) B.m_range (pa_cons (pe_cal C__law_take hr (by rfl) (pa_cons (pv 0) (pa_cons pe_int pa_nil))) pa_nil)) (blkOk_by (own := [("k", 3)]) (N := ["pot", "signs", "name", "k"]) (sc := defScope s__law_any_name) (by decide +kernel)) (fun _ _ _ _ _ => pg_name (i := 3) sc__law_any_name.nd rfl (Or.inl rfl)) (fun _ _ _ _ _ => pts_nil) (fun _ _ _ _ _ => (pe_ix (ix_U K) (pv 1) (pe_cal C__law_take hr (by rfl) (pa_cons (pv 0) (pa_cons pe_int pa_nil))) (fun _ _ => rfl)))))))))), ?_⟩
    obtain ⟨k1, k2, k3⟩ := nm38_ok
    walk_at "rd"
    refine ⟨p, 26, rfl, hp, by decide, by decide, fun H1 d b1 p1 hd => ?_⟩
    have hc : nm38.cps.toList[d]? = some (nm38.cps.toList[d]'(by rw [len_list]; omega)) := List.getElem?_eq_getElem _
    have hco : letC (nm38.cps.toList[d]'(by rw [len_list]; omega)) = true := by
      refine (List.all_eq_true.mp k3) _ ?_
      rw [List.mem_iff_getElem]
      exact ⟨d, by rw [List.length_take, len_list]; omega, List.getElem_take ..⟩
    generalize (nm38.cps.toList[d]'(by rw [len_list]; omega)) = c0 at hc hco
    refine i_ix_s (z := nm38) (szl (by omega)) (atI_nat hc) ?_
    walk_at "rd"
    refine ⟨p, 4, rfl, p1, by decide, by decide, fun H2 d2 b2 p2 hd2 => ?_⟩
    have b02 := b1.trans b2
    refine c_range (n := d2) (szlt (by omega)) (fun D i acc H3 => Bt p H H3 ∧ Pot H3 p ∧ ∀ x ∈ acc, ∃ z, x = .str z ∧ ∃ c, z = ⟨#[c]⟩ ∧ nameC c = true) ?_ ?_ ?_ rfl
    · exact fun D H3 _ s3 _ => ⟨b02.trans (.same s3), p2.same s3, by simp⟩
    · rintro D i acc H3 hD hi hl hi2 ha ⟨b3, p3, hac⟩
      walk_at "rd"
      refine ⟨rfl, ?_⟩
      walk_at "rd"
      refine ⟨p, 38, rfl, p3, by decide, by decide, fun H4 d4 b4 p4 hd4 => ?_⟩
      have hc2 : nm38.cps.toList[d4]? = some (nm38.cps.toList[d4]'(by rw [len_list]; omega)) := List.getElem?_eq_getElem _
      have hco2 := (List.all_eq_true.mp k2) _ (List.getElem_mem (l := nm38.cps.toList) (n := d4) (by rw [len_list]; omega))
      generalize (nm38.cps.toList[d4]'(by rw [len_list]; omega)) = c at hc2 hco2
      refine i_ix_s (z := nm38) (szl (by omega)) (atI_nat hc2) ?_
      have hpD : p ≠ D := p2.ne hD
      refine i_ck (b4 _ _ (Ne.symm hpD) ha) hl hi2 fun H5 b5 e5 => ⟨(b3.trans b4).but (none_bt b02 hD (Ne.symm hpD)) b5, p4.but b5 hpD, ?_⟩
      intro x hx
      rcases List.mem_append.mp hx with hx | hx
      · exact hac x hx
      · rw [List.mem_singleton.mp hx]
        exact ⟨_, rfl, c, rfl, hco2⟩
    · rintro D acc H3 hD hl ha ⟨b3, p3, hac⟩
      obtain ⟨ys, rfl, hys⟩ := strs_of hac
      rw [List.length_map] at hl
      have hj := join0 ys
      obtain ⟨j1, j2⟩ := join0_one hys
      rw [← hj] at j1 j2
      rw [len_list] at j1
      have hs : (ys.map (·.length)).sum = ys.length := by
        clear hj ha hl hac j1 j2
        induction ys with
        | nil => rfl
        | cons y r ih =>
          obtain ⟨c, rfl, _⟩ := hys y (List.mem_cons_self ..)
          have := ih fun w hw => hys w (List.mem_cons_of_mem _ hw)
          rw [List.map_cons, List.sum_cons, List.length_cons, this]
          show 1 + _ = _
          omega
      refine i_join (.inl (.inl (.inl ha))) (by show _ + _ * 0 ≤ _; omega) ?_
      generalize Txt.join (Str.ofString "") ys = jn at j1 j2 ⊢
      refine i_add_s (szl (by show 1 + _ ≤ _; omega)) ?_
      have hle : ((⟨#[c0]⟩ : Str) ++ jn).length = 1 + ys.length := by rw [app_len, j1]; rfl
      refine q H3 _ b3 p3 ?_ (by rw [hle]; omega)
      unfold nameOk
      rw [hle, app_list, List.all_append, j2]
      have hn0 : nameC c0 = true := by unfold nameC; rw [hco]; rfl
      show (decide (1 ≤ 1 + ys.length) && decide (1 + ys.length ≤ 24) && letC c0 && ((nameC c0 && true) && true)) = true
      rw [hco, hn0, decide_eq_true (by omega : 1 ≤ 1 + ys.length), decide_eq_true (by omega : 1 + ys.length ≤ 24)]
      rfl
end
end Aw

/-! sorted of a list of pairs whose first items are texts, no two alike -/
namespace AwS
open PySem PyProof.Rows
/-- v is a pair, its first item the text n -/
def HasNm (h : Heap) (v : Value) (n : Str) : Prop := ∃ (a : Addr) (o : Obj) (k : Nat) (t : Tok) (y : Addr), v = .ref a ∧ h.get? a = some o ∧ o.cls = .type "tuple" ∧ o.data = .seq #[.str n t, .ref y] k
theorem HasNm.keeps {h h' : Heap} {v : Value} {n : Str} (x : HasNm h v n) (k : ∀ b o, h.get? b = some o → o.cls = .type "tuple" → h'.get? b = some o) : HasNm h' v n := by
  obtain ⟨a, o, j, t, y, e, ho, hc, hd⟩ := x
  exact ⟨a, o, j, t, y, e, k a o ho hc, hc, hd⟩
theorem HasNm.fn {h : Heap} {v : Value} {n m : Str} (x : HasNm h v n) (y : HasNm h v m) : n = m := by
  obtain ⟨a, o, j, t, b, rfl, ho, _, hd⟩ := x
  obtain ⟨a', o', j', t', b', e, ho', _, hd'⟩ := y
  cases e
  rw [ho] at ho'
  cases ho'
  rw [hd] at hd'
  injection hd' with e1 e2
  have := congrArg (fun q : Array Value => q[0]?) e1
  simp at this
  exact this.1
section
variable {prog : Program} {w : World} {A : Around} {E : Value → Shared → Prop} {s : Shared}
theorem eqBool_self {b : Addr} {Q : Bool → Shared → Prop} (h : Q true s) : wpAny (model prog w) A (eqBool (.ref b) (.ref b)) Q E s := by
  unfold eqBool
  refine wpAny_holding ?_
  refine wpAny_ite_split (fun _ => wpAny_bind (wpAny_rule (wpAny_pure h))) (fun hab => absurd (beq_self_eq_true _) hab)
theorem firsts_nm {h : Heap} : ∀ vs : List Value, (∀ v ∈ vs, ∃ n, HasNm h v n) → ∃ fs, PySem.W.KatTups h vs fs ∧ fs.length = vs.length ∧ ∀ f, f ∈ fs → ∃ n t, f = Value.str n t
  | [], _ => ⟨[], PySem.W.KatTups.nil, rfl, fun f hf => by simp at hf⟩
  | v :: vs, x => by
    obtain ⟨fs, k, hl, hi⟩ := firsts_nm vs fun u hu => x u (List.mem_cons_of_mem _ hu)
    obtain ⟨n, a, o, j, t, y, rfl, ho, hc, hd⟩ := x v (List.mem_cons_self ..)
    refine ⟨.str n t :: fs, PySem.W.KatTups.cons ho hc hd rfl k, by simp [hl], ?_⟩
    intro f hf
    rcases List.mem_cons.mp hf with rfl | hf
    · exact ⟨n, t, rfl⟩
    · exact hi f hf
theorem kind_nms {vs : List Value} (h2 : 2 ≤ vs.length) (x : ∀ v ∈ vs, ∃ n, HasNm s.heap v n) (u : ∀ v ∈ vs, ∀ y ∈ vs, ∀ n, HasNm s.heap v n → HasNm s.heap y n → v = y) (r : Value → Int)
    (hr : ∀ v ∈ vs, ∀ n, HasNm s.heap v n → ∀ y ∈ vs, ∀ m, HasNm s.heap y m → decide (r v < r y) = decide (n.cps.toList < m.cps.toList)) (Q : SortKind → Shared → Prop)
    (h : ∀ κ, TS.Cmp prog w A s κ (pairsOf vs) r → Q κ s) : wpAny (model prog w) A (keyKind' vs.toArray) Q E s := by
  obtain ⟨fs, k, hl, hi⟩ := firsts_nm vs x
  refine PySem.W.kat_kind (T := Value.type "str") k (by omega) (fun f hf => ?_) rfl (h _ ?_)
  · obtain ⟨n, t, rfl⟩ := hi f hf
    exact PySem.W.Looks.of_pure rfl
  · intro p q hp hq Q' E' hQ
    rw [pairsOf_toList] at hp hq
    have mp := (PyProof.Rows.mem_zip_self hp).2
    have mq := (PyProof.Rows.mem_zip_self hq).2
    obtain ⟨n, hn⟩ := x _ mp
    obtain ⟨m, hm⟩ := x _ mq
    have e := hr _ mp _ hn _ mq _ hm
    rw [e] at hQ
    have un := u _ mp _ mq
    obtain ⟨a, o, j, t, y, e1, ho, hc, hd⟩ := id hn
    obtain ⟨a', o', j', t', y', e2, ho', hc', hd'⟩ := id hm
    by_cases hnm : n = m
    · subst hnm
      have ev := un n hn hm
      rw [e1, e2] at ev
      have ea : a = a' := by injection ev
      subst ea
      rw [ho] at ho'
      cases ho'
      rw [hd] at hd'
      have ey : y = y' := by
        injection hd' with z1 z2
        have := congrArg (fun q : Array Value => q[1]?) z1
        simpa using this
      subst ey
      rw [e1, e2]
      refine PySem.W.kat_lt ho hd ho (by rw [hd, hd']) ?_
      have hq : Q' false s := by
        rw [decide_eq_false (List.lt_irrefl _)] at hQ
        exact hQ
      refine PySem.W.kat_cons (wpAny_eqBool_str ?_)
      rw [decide_eq_true rfl]
      refine PySem.W.kat_yes ?_
      refine PySem.W.kat_cons (eqBool_self ?_)
      refine PySem.W.kat_yes ?_
      exact PySem.W.kat_nil hq
    · rw [e1, e2]
      refine PySem.W.kat_lt ho hd ho' hd' ?_
      refine PySem.W.kat_cons (wpAny_eqBool_str ?_)
      rw [decide_eq_false hnm]
      exact PySem.W.kat_no (PyProof.Rows.oneLt_any_str hQ)
theorem sort_nms {a : Addr} {vs : List Value} {n : Nat} {P : PySem.Fin → Shared → Prop} (ho : s.heap.get? a = some (seqObj "list" vs.toArray n)) (h64 : vs.length < 64) (x : ∀ v ∈ vs, ∃ n, HasNm s.heap v n) (u : ∀ v ∈ vs, ∀ y ∈ vs, ∀ n, HasNm s.heap v n → HasNm s.heap y n → v = y) (r : Value → Int)
    (hr : ∀ v ∈ vs, ∀ n, HasNm s.heap v n → ∀ y ∈ vs, ∀ m, HasNm s.heap y m → decide (r v < r y) = decide (n.cps.toList < m.cps.toList))
    (h : ∀ out : Array Value, out.toList.Perm vs → out.toList.Pairwise (fun u v => r u ≤ r v) → P (.done (.ret .none)) { s with heap := sortedHeap s.heap a vs out }) :
    wpAny (model prog w) A (Builtin.«list.sort» ⟨[.ref a], []⟩) P E s := by
  have keep : ∀ b o, s.heap.get? b = some o → o.cls = .type "tuple" → (TS.midHeap s.heap a vs).get? b = some o := fun b o e hc => by
    refine TS.midHeap_old ?_ e
    rintro rfl
    rw [ho] at e
    have e' : seqObj "list" vs.toArray n = o := Option.some.inj e
    rw [← e'] at hc
    have c' : Value.type "list" = Value.type "tuple" := hc
    injection c' with c''
    exact absurd c'' (by decide)
  have back : ∀ v ∈ vs, ∀ n, HasNm (TS.midHeap s.heap a vs) v n → HasNm s.heap v n := fun v hv n q => by
    obtain ⟨m, hm⟩ := x v hv
    have := (hm.keeps keep).fn q
    rw [← this]; exact hm
  refine SK.plain_sort (r := r) ho h64 (fun h2 Q hQ => ?_) fun ps out h1 h2 h3 => ?_
  · refine kind_nms (s := { s with heap := TS.midHeap s.heap a vs }) h2 (fun v hv => ?_) (fun v hv y hy n q1 q2 => u v hv y hy n (back v hv n q1) (back y hy n q2)) r (fun v hv n q1 y hy m q2 => hr v hv n (back v hv n q1) y hy m (back y hy m q2)) Q hQ
    obtain ⟨n, hn⟩ := x v hv
    exact ⟨n, hn.keeps keep⟩
  · obtain ⟨p, o⟩ := TS.out_rank h1 h2 h3
    exact h out p o
theorem sorted_nms {l : Addr} {vs : List Value} {Q : Value → Shared → Prop} (hl : s.heap.IsList l vs.toArray) (h64 : vs.length < 64) (x : ∀ v ∈ vs, ∃ n, HasNm s.heap v n) (u : ∀ v ∈ vs, ∀ y ∈ vs, ∀ n, HasNm s.heap v n → HasNm s.heap y n → v = y) (r : Value → Int)
    (hr : ∀ v ∈ vs, ∀ n, HasNm s.heap v n → ∀ y ∈ vs, ∀ m, HasNm s.heap y m → decide (r v < r y) = decide (n.cps.toList < m.cps.toList))
    (h : ∀ out : Array Value, out.toList.Perm vs → out.toList.Pairwise (fun u v => r u ≤ r v) → Q (.ref (s.heap.objs.size + 1)) { s with heap := sortedAll s.heap vs out }) :
    wpAny (model prog w) A (call (.builtin "sorted") [.ref l]) Q E s := by
  refine Calls.call_function_entry kind_sorted plain_sorted entry_sorted (args_sorted1 _) ?_
  unfold Builtin.«sorted»
  refine wpAny_bind (m := checkCount "sorted" 1 1 _) (wpAny_pure ?_)
  refine wpAny_bind (collect_list hl ?_ (by rw [sizeLine_eq]; omega))
  refine wpAny_bind (wpAny_newList ?_ (by rw [sizeLine_eq]; omega))
  have hsz : ((s.heap.push (seqObj "list" #[] 0)).update s.heap.objs.size (Obj.mapSeq (· ++ vs.toArray))).objs.size = s.heap.objs.size + 1 := by
    rw [Heap.size_update, size_push']
  have hoL : (((s.heap.push (seqObj "list" #[] 0)).update s.heap.objs.size (Obj.mapSeq (· ++ vs.toArray))).push (seqObj "list" vs.toArray 0)).get? (s.heap.objs.size + 1) = some (seqObj "list" vs.toArray 0) := by
    rw [← hsz]; exact Heap.get?_push_size _ rfl
  have keep : ∀ b o, s.heap.get? b = some o → o.cls = .type "tuple" → (((s.heap.push (seqObj "list" #[] 0)).update s.heap.objs.size (Obj.mapSeq (· ++ vs.toArray))).push (seqObj "list" vs.toArray 0)).get? b = some o := fun b o q _ => by
    have hlt : b < s.heap.objs.size := Heap.lt_size q
    rw [Heap.get?_push_ne _ _ _ (by rw [hsz]; exact Nat.ne_of_lt (Nat.lt_succ_of_lt hlt)), Heap.get?_update_ne _ _ _ _ (Nat.ne_of_lt hlt), Heap.get?_push_ne _ _ _ (Nat.ne_of_lt hlt)]
    exact q
  have back : ∀ v ∈ vs, ∀ n, HasNm (((s.heap.push (seqObj "list" #[] 0)).update s.heap.objs.size (Obj.mapSeq (· ++ vs.toArray))).push (seqObj "list" vs.toArray 0)) v n → HasNm s.heap v n := fun v hv n q => by
    obtain ⟨m, hm⟩ := x v hv
    have := (hm.keeps keep).fn q
    rw [← this]; exact hm
  show wpAny _ _ _ _ _ { s with heap := ((s.heap.push (seqObj "list" #[] 0)).update s.heap.objs.size (Obj.mapSeq (· ++ vs.toArray))).push (seqObj "list" vs.toArray 0) }
  rw [hsz]
  refine wpAny_bind (wpAny_holding (wpAny_call_entry slot_list_sort ⟨_, hoL, rfl⟩ entry_list_sort (sort_nms hoL h64 (fun v hv => ?_) (fun v hv y hy n q1 q2 => u v hv y hy n (back v hv n q1) (back y hy n q2)) r (fun v hv n q1 y hy m q2 => hr v hv n (back v hv n q1) y hy m (back y hy m q2)) fun out a1 a2 => ⟨_, rfl, ?_⟩) (args_list_sort _)))
  · obtain ⟨n, hn⟩ := x v hv
    exact ⟨n, hn.keeps keep⟩
  · exact wpAny_pure ⟨_, rfl, h out a1 a2⟩
end
end AwS
namespace AwS
open PySem PyProof.Rows
theorem lt_or_ge' (a b : List Nat) : a < b ∨ ¬ a < b := Classical.em _
theorem lt_trans' {a b c : List Nat} (h1 : a < b) (h2 : b < c) : a < c := List.lt_trans h1 h2
/-- how many of ns stand ahead of n -/
def rk (ns : List Str) (n : Str) : Nat := ns.countP fun m => decide (m.cps.toList < n.cps.toList)
theorem rk_le {ns : List Str} {n m : Str} (h : ¬ n.cps.toList < m.cps.toList) : rk ns m ≤ rk ns n := by
  unfold rk
  refine List.countP_mono_left fun x _ hx => ?_
  have hx := of_decide_eq_true hx
  refine decide_eq_true ?_
  by_cases k : x.cps.toList < n.cps.toList
  · exact k
  · exact absurd (List.lt_of_le_of_lt (show n.cps.toList ≤ x.cps.toList from k) hx) h
theorem count_lt {p q : Str → Bool} : ∀ {l : List Str} {x : Str}, x ∈ l → (∀ y, p y = true → q y = true) → p x = false → q x = true → l.countP p < l.countP q
  | y :: l, x, hm, h, h1, h2 => by
    rcases List.mem_cons.mp hm with rfl | hm
    · rw [List.countP_cons_of_neg (by rw [h1]; decide), List.countP_cons_of_pos h2]
      exact Nat.lt_succ_of_le (List.countP_mono_left fun z _ => h z)
    · have ih := count_lt hm h h1 h2
      rw [List.countP_cons, List.countP_cons]
      have : (if p y = true then 1 else 0) ≤ (if q y = true then 1 else 0) := by
        by_cases e : p y = true
        · rw [if_pos e, if_pos (h y e)]; exact Nat.le_refl _
        · rw [if_neg e]; exact Nat.zero_le _
      omega
theorem rk_lt {ns : List Str} {n m : Str} (hn : n ∈ ns) (h : n.cps.toList < m.cps.toList) : rk ns n < rk ns m := by
  unfold rk
  refine count_lt hn (fun y hy => ?_) (decide_eq_false (List.lt_irrefl _)) (decide_eq_true h)
  exact decide_eq_true (lt_trans' (of_decide_eq_true hy) h)
theorem rk_dec {ns : List Str} {n m : Str} (hn : n ∈ ns) : decide ((rk ns n : Int) < (rk ns m : Int)) = decide (n.cps.toList < m.cps.toList) := by
  by_cases h : n.cps.toList < m.cps.toList
  · have := rk_lt hn h
    rw [decide_eq_true h]
    exact decide_eq_true (by omega)
  · have := rk_le (ns := ns) h
    rw [decide_eq_false h]
    exact decide_eq_false (by omega)
open Classical in
noncomputable def nmOf (h : Heap) (v : Value) : Str := if x : ∃ n, HasNm h v n then x.choose else Str.empty
theorem nmOf_eq {h : Heap} {v : Value} {n : Str} (x : HasNm h v n) : nmOf h v = n := by
  unfold nmOf
  have e : ∃ n, HasNm h v n := ⟨n, x⟩
  rw [dif_pos e]
  exact e.choose_spec.fn x
end AwS
namespace Aw
open PySem PySem.Spec PyProof.Rows L2
def rSortNm (K : PySem.W.Frag) : List V → Hp → VK → Prop := fun vs H Q => ∃ (a : Addr) (xs : List V) (prs : Prs), vs = [.ref a] ∧ SqL K H a xs ∧ Dts K H (prs.map prPy) xs ∧ (names prs).Nodup ∧ prs.length < 64 ∧
  ∀ ys p, Dts K H ((srtP prs).map prPy) ys → H p = none → Q (.ref p) (upd H p (.lst ys))
theorem dt_pr {K : PySem.W.Frag} {X : Cx} {pins : List (Addr × Obj)} {σ : L2.St} {H : Hp} {s : Shared} (I : Inv X pins σ H s) {p : Str × Src} {v : V} (h : Dt X.K H (prPy p) v) {u : Value} (r : RelV v u) : ∃ t, u = .ref t ∧ v = .ref t ∧ AwS.HasNm s.heap u p.1 := by
  have h : Dt X.K H (.tuple [.str p.1, p.2.py]) v := h
  obtain ⟨t, xs, rfl, hs, hq⟩ := h.tup
  obtain ⟨x, r1, rfl, hx, hq⟩ := hq.cons
  obtain ⟨y, r2, rfl, hy, hq⟩ := hq.cons
  rw [hq.nil] at hs
  cases r
  have e := hx.str
  subst e
  obtain ⟨b, _, rfl, _⟩ := hy.tup
  obtain ⟨its, rv, ht, _⟩ := I.tuple hs
  refine ⟨t, rfl, rfl, ?_⟩
  cases rv with
  | cons r1 r2 =>
    cases r2 with
    | cons r2 r3 =>
      cases r3
      obtain ⟨tk, rfl⟩ := r1
      cases r2
      obtain ⟨o, ho, hc, k, hd⟩ := ht
      exact ⟨t, o, k, tk, b, rfl, ho, hc, hd⟩
theorem dts_vals {X : Cx} {pins : List (Addr × Obj)} {σ : L2.St} {H : Hp} {s : Shared} (I : Inv X pins σ H s) : ∀ {prs : Prs} {xs : List V} {us : List Value}, Dts X.K H (prs.map prPy) xs → Vals xs us → us.map (AwS.nmOf s.heap) = names prs ∧ xs = us.map bkV ∧
    ∀ u ∈ us, ∃ p ∈ prs, AwS.HasNm s.heap u p.1 ∧ Dt X.K H (prPy p) (bkV u) ∧ ∃ t, u = .ref t
  | [], xs, us, h, r => by
    have e := h.nil
    subst e
    cases r
    exact ⟨rfl, rfl, fun u hu => absurd hu (by simp)⟩
  | p :: prs, xs, us, h, r => by
    obtain ⟨v, vs, rfl, hv, hr⟩ := h.cons
    cases r with
    | cons r1 r2 =>
      obtain ⟨t, rfl, rfl, hn⟩ := dt_pr (K := X.K) I hv r1
      obtain ⟨k1, k2, k3⟩ := dts_vals I hr r2
      refine ⟨?_, ?_, ?_⟩
      · rw [List.map_cons, k1, AwS.nmOf_eq hn]; rfl
      · rw [List.map_cons, ← k2]; rfl
      · intro u hu
        rcases List.mem_cons.mp hu with rfl | hu
        · exact ⟨p, List.mem_cons_self .., hn, hv, t, rfl⟩
        · obtain ⟨q, hq, h1, h2, h3⟩ := k3 u hu
          exact ⟨q, List.mem_cons_of_mem _ hq, h1, h2, h3⟩
theorem dts_out {X : Cx} {H : Hp} {h : Heap} {prs : Prs} : ∀ {us : List Value}, (∀ u ∈ us, ∃ p ∈ prs, AwS.HasNm h u p.1 ∧ Dt X.K H (prPy p) (bkV u) ∧ ∃ t, u = .ref t) → ∃ qs : Prs, Dts X.K H (qs.map prPy) (us.map bkV) ∧ (∀ q ∈ qs, q ∈ prs) ∧ names qs = us.map (AwS.nmOf h)
  | [], _ => ⟨[], dts_nil, by simp, rfl⟩
  | u :: us, k => by
    obtain ⟨qs, h1, h2, h3⟩ := dts_out (us := us) fun z hz => k z (List.mem_cons_of_mem _ hz)
    obtain ⟨p, hp, g1, g2, _⟩ := k u (List.mem_cons_self ..)
    refine ⟨p :: qs, dts_cons g2 h1, ?_, ?_⟩
    · intro q hq
      rcases List.mem_cons.mp hq with rfl | hq
      · exact hp
      · exact h2 q hq
    · show p.1 :: names qs = _
      rw [h3, List.map_cons, AwS.nmOf_eq g1]
theorem cr_sortNm {X : Cx} : CallR X (.builtin "sorted") (rSortNm X.K) := by
  intro pins s σ H vs us Q I r h
  obtain ⟨a, xs, prs, rfl, hs, hd, nd, h64, q⟩ := h
  obtain ⟨its, rv, hl, hz⟩ := I.list hs
  rw [Vals.ref1 r]
  obtain ⟨e1, e2, e3⟩ := dts_vals I hd rv
  have hlen : its.length = prs.length := by
    have := congrArg List.length e1
    unfold names at this
    rw [List.length_map, List.length_map] at this
    exact this
  have hmem : ∀ v ∈ its, ∀ n, AwS.HasNm s.heap v n → n ∈ names prs := fun v hv n hn => by
    rw [← e1, ← AwS.nmOf_eq hn]
    exact List.mem_map_of_mem hv
  have hun : ∀ v ∈ its, ∀ y ∈ its, ∀ n, AwS.HasNm s.heap v n → AwS.HasNm s.heap y n → v = y := by
    intro v hv y hy n h1 h2
    obtain ⟨i, hi, ei⟩ := List.mem_iff_getElem.mp hv
    obtain ⟨j, hj, ej⟩ := List.mem_iff_getElem.mp hy
    have a1 : (names prs)[i]? = some n := by rw [← e1, List.getElem?_map, List.getElem?_eq_getElem hi, ei]; show some (AwS.nmOf s.heap v) = _; rw [AwS.nmOf_eq h1]
    have a2 : (names prs)[j]? = some n := by rw [← e1, List.getElem?_map, List.getElem?_eq_getElem hj, ej]; show some (AwS.nmOf s.heap y) = _; rw [AwS.nmOf_eq h2]
    have := nd_ix nd a1 a2
    subst this
    rw [← ei, ← ej]
  refine AwS.sorted_nms hl.isList (by omega) (fun v hv => ?_) hun (fun v => (AwS.rk (names prs) (AwS.nmOf s.heap v) : Nat)) (fun v hv n hn y hy m hm => ?_) fun out h1 h2 => ?_
  · obtain ⟨p, _, hp, _⟩ := e3 v hv
    exact ⟨_, hp⟩
  · rw [AwS.nmOf_eq hn, AwS.nmOf_eq hm]
    exact AwS.rk_dec (hmem v hv n hn)
  · obtain ⟨ep, he'⟩ := PyProof.Rows.sortedAll_at s.heap its out
    obtain ⟨qs, g1, g2, g3⟩ := dts_out (X := X) (H := H) (h := s.heap) (prs := prs) (us := out.toList) fun u hu => e3 u (h1.mem_iff.mp hu)
    have hq : qs = srtP prs := by
      refine srtP_unique nd g2 ?_
      refine srtN_unique ?_ ?_
      · rw [g3, ← e1]
        exact h1.map _
      · rw [g3, List.pairwise_map]
        refine List.Pairwise.imp_of_mem (fun {u v} hu hv h => ?_) h2
        unfold leS
        have hm2 : AwS.nmOf s.heap v ∈ names prs := by
          rw [← e1]
          exact List.mem_map_of_mem (h1.mem_iff.mp hv)
        have : ¬ (AwS.nmOf s.heap v).cps.toList < (AwS.nmOf s.heap u).cps.toList := fun hlt => by
          have := AwS.rk_lt hm2 hlt
          omega
        rw [decide_eq_false this]; rfl
    subst hq
    have h3 : ∀ u ∈ out.toList, ∃ a, u = Value.ref a := fun u hu => by
      obtain ⟨_, _, _, _, t, e⟩ := e3 u (h1.mem_iff.mp hu)
      exact ⟨t, e⟩
    have hzz : (out.toList.map bkV).length ≤ sizeLine := by
      rw [List.length_map, h1.length_eq, hlen, sizeLine_eq]
      omega
    exact ⟨.ref _, upd H (s.heap.objs.size + 1) (.lst (out.toList.map bkV)), I.laid (t' := s.toks) (fun _ _ => PyProof.Rows.sortedAll_old) (Nat.le_succ _) ⟨hzz, out.toList, ep, bkV_vals h3, he'⟩, rfl, q _ _ g1 (I.hok.fresh (Nat.le_succ _))⟩
theorem call_sortNmU {X : Cx} (K : PySem.W.Frag) (h : X.K = K := by rfl) : CallR X (.builtin "sorted") (rSortNm K) := h ▸ cr_sortNm
theorem i_sortNm {K : PySem.W.Frag} {H : Hp} {Q : VK} {a : Addr} {xs : List V} {prs : Prs} (s : SqL K H a xs) (d : Dts K H (prs.map prPy) xs) (nd : (names prs).Nodup) (l : prs.length < 64) (q : ∀ p H' ys, H p = none → Same H H' → H' p = some (.lst ys) → Dts K H' ((srtP prs).map prPy) ys → Q (.ref p) H') : rSortNm K [.ref a] H Q :=
  ⟨a, xs, prs, rfl, s, d, nd, l, fun ys p hd hp => q p _ ys hp (same_new hp _) upd_same (hd.mono (.same (same_new hp _)))⟩
end Aw

namespace Aw
open PySem PySem.Spec PyProof.Rows L2

local macro_rules | `(tactic| walk_at "rd1") => `(tactic| first
  | ((with_reducible apply i_var); exact rfl)
  | with_reducible refine i_c ?_
  | with_reducible refine i_op ?_
  | with_reducible refine i_un ?_
  | with_reducible refine i_test ?_
  | with_reducible refine i_tB ?_
  | with_reducible refine i_bl ?_
  | with_reducible refine i_and ?_
  | with_reducible refine i_or ?_
  | with_reducible refine i_not ?_
  | with_reducible refine i_andV ?_
  | with_reducible refine i_orV ?_
  | with_reducible refine i_notV ?_
  | with_reducible refine i_if ?_
  | with_reducible refine i_chain ?_
  | with_reducible refine i_nil ?_
  | with_reducible refine i_cons ?_
  | with_reducible refine i_tup ?_
  | with_reducible refine i_lst ?_
  | with_reducible refine i_cb ?_
  | with_reducible refine i_call ?_
  | with_reducible refine i_bm ?_
  | with_reducible refine i_m1 ?_
  | with_reducible refine i_m0 ?_
  | with_reducible refine i_exstr ?_
  | with_reducible refine i_sl ?_
  | with_reducible refine i_nopart ?_
  | with_reducible refine i_part ?_
  | with_reducible refine i_int ?_
  | with_reducible refine i_seq ?_
  | with_reducible refine i_next ?_
  | with_reducible refine i_asg ?_
  | with_reducible refine i_gname ?_
  | with_reducible refine i_ret ?_
  | with_reducible refine i_retN ?_
  | with_reducible refine i_drop ?_
  | with_reducible refine i_ifS ?_
  | with_reducible refine i_break ?_
  | with_reducible refine i_cont ?_
  | ((with_reducible apply i_aug); exact rfl)
  | with_reducible refine i_add_i ?_
  | with_reducible refine i_sub ?_
  | with_reducible refine i_neg ?_
  | with_reducible refine i_ipadd_i ?_
  | with_reducible refine i_ip ?_
  | with_reducible refine i_lt ?_
  | with_reducible refine i_le ?_
  | with_reducible refine i_gt ?_
  | with_reducible refine i_ge ?_
  | with_reducible refine i_lt_s ?_
  | with_reducible refine i_le_s ?_
  | with_reducible refine i_gt_s ?_
  | with_reducible refine i_ge_s ?_
  | with_reducible refine i_isN ?_
  | with_reducible refine i_notN ?_
  | with_reducible refine i_in_c ?_
  | with_reducible refine i_nin_c ?_
  | with_reducible refine i_gsub ?_
  | with_reducible refine i_gcons ?_
  | with_reducible refine i_gnil ?_
  | with_reducible refine i_iList ?_
  | with_reducible refine i_iTup ?_
  | with_reducible refine i_iStr ?_
  | with_reducible refine i_iRng1 ?_
  | with_reducible refine i_lc ?_
  | with_reducible refine i_for ?_
  | with_reducible refine i_yes ?_
  | with_reducible refine i_repl ?_
  | with_reducible refine i_meth ?_
  | with_reducible refine i_fld ?_
  | with_reducible refine i_sfld ?_
  | with_reducible refine i_din ?_
  | with_reducible refine i_dnin ?_
  | with_reducible refine i_dget ?_
  | with_reducible refine i_dput ?_
  | with_reducible refine i_joined ?_
  | with_reducible refine i_items ?_
  | with_reducible refine i_stepL ?_
  | with_reducible refine i_make ?_
  | with_reducible refine i_fmt ?_
  | with_reducible refine i_jcons ?_
  | with_reducible refine i_jnil ?_
  | with_reducible refine i_iEnum ?_
  | with_reducible refine iteT ?_
  | with_reducible refine iteF ?_
  | with_reducible refine iteNT ?_
  | with_reducible refine iteNF ?_
  | ((with_reducible refine i_len_s ?_ ?_); (first | assumption | exact szl (by assumption)))
  | ((with_reducible refine i_sl_s ?_ ?_); (first | assumption | exact szl (by assumption)))
  | with_reducible refine i_int_b ?_
  | with_reducible refine i_abs ?_
  | with_reducible refine i_min2 ?_
  | with_reducible refine i_eq rfl ?_
  | with_reducible refine i_ne rfl ?_)
local macro_rules | `(tactic| walk_at "rd") => `(tactic| repeat walk_at "rd1")

abbrev s__law_written : Stmt := topS 50
theorem sc__law_written : FnScope ["tree", "sign", "part"] ["tree"] (defScope s__law_written) := ⟨rfl, rfl, rfl, by decide +kernel, rfl, by decide +kernel, by decide +kernel⟩
abbrev s__law_many : Stmt := topS 52
theorem sc__law_many : FnScope ["script", "pairs", "k", "pot", "kind", "name"] ["script"] (defScope s__law_many) := ⟨rfl, rfl, rfl, by decide +kernel, rfl, by decide +kernel, by decide +kernel⟩
section
variable {P : Program} {w : World} {K : PySem.W.Frag} {mg : Str → Option Value} {base : Heap}
theorem mulBs (b : Bool) : MulOk (Str.ofString "\\") (if b = true then 1 else 0) ∧ Txt.mul (Str.ofString "\\") (if b = true then 1 else 0) = S (if b = true then [92] else []) := by
  cases b with
  | true => exact ⟨by unfold MulOk; decide +kernel, by decide +kernel⟩
  | false => exact ⟨by unfold MulOk; decide +kernel, by decide +kernel⟩
theorem escS (c : Nat) : S (if decide (c ∈ (Str.ofString "\"\\").cps.toList) = true then [92] else []) ++ (⟨#[c]⟩ : Str) = S (if c = 92 ∨ c = 34 then [92, c] else [c]) := by
  have e : (c ∈ (Str.ofString "\"\\").cps.toList) ↔ (c = 92 ∨ c = 34) := by
    show c ∈ [34, 92] ↔ _
    simp only [List.mem_cons, List.not_mem_nil, or_false]
    exact Or.comm
  by_cases h : c = 92 ∨ c = 34
  · rw [if_pos h, decide_eq_true (e.mpr h), if_pos rfl, S_one, S_app]
    rfl
  · rw [if_neg h, decide_eq_false (fun q => h (e.mp q)), if_neg (by simp), S_one, S_app]
    rfl
theorem ok_law_written (D : Df K mg "_law_written" "_law_written" s__law_written ["tree"]) (B : NoB mg) : ∀ n, Cal P w K mg base CX0 "_law_written" ["tree"] (n + 1) (spTreeText K n) := by
  refine D.turns (fun n => n + 1) (spTreeText K) (fun vs H Q E h => ?_) (fun n f fd F C__law_written => ?_)
  · obtain ⟨_, _, _, _, _, _, h, _⟩ := h
    omega
  refine F.ok sc__law_written (fun vs H Q E h => ?_) (fun cdv A outer s H vs Q E hr h => ?_)
  · obtain ⟨_, _, rfl, _⟩ := h
    rfl
  · obtain ⟨v, d, rfl, hd, hg, hz, hn, q⟩ := h
    refine ⟨_, (pss_cons (ps_if (pt_val (pe_callB (call_isiU K) (by rfl) B.m_isinstance (by decide +kernel) (pa_cons (pv 0) (pa_cons (pe_ty (T := "str") (by rfl) B.m_str (by decide +kernel)) pa_nil)))) (pss_one (ps_ret (pe_op (op_addU K) (pe_op (op_addU K) pe_str (pe_joinU K pe_str (pe_lc (own := [("sign", 1)]) (by rfl) sc__law_written.nd (pi_str (pv 0)) (blkOk_by (own := [("sign", 1)]) (N := ["tree", "sign", "part"]) (sc := defScope s__law_written) (by decide +kernel)) (fun _ _ _ _ _ => pg_name (i := 1) sc__law_written.nd rfl (Or.inl rfl)) (fun _ _ _ _ _ => pts_nil) (fun _ _ _ _ _ => (pe_op (op_addU K) (pe_op op_mulU pe_str (pe_callTy call_intU (by rfl) B.m_int (by decide +kernel) (pa_cons (pe_cmpR (op_inU K) (pv 1) pe_str (by with_unfolding_all rfl)) pa_nil))) (pv 1)))))) pe_str))) pss_nil)
      (pss_one (ps_ret (pe_op (op_addU K) (pe_op (op_addU K) pe_str (pe_joinU K pe_str (pe_lc (own := [("part", 2)]) (by rfl) sc__law_written.nd (pi_tupU K (pv 0)) (blkOk_by (own := [("part", 2)]) (N := ["tree", "sign", "part"]) (sc := defScope s__law_written) (by decide +kernel)) (fun _ _ _ _ _ => pg_name (i := 2) sc__law_written.nd rfl (Or.inl rfl)) (fun _ _ _ _ _ => pts_nil) (fun _ _ _ _ _ => (pe_cal C__law_written hr (by rfl) (pa_cons (pv 2) pa_nil) (by omega)))))) pe_str)))), ?_⟩
    rcases good_cases hg with ⟨z, rfl, hl, hp⟩ | ⟨ds, rfl, hl, hgs⟩
    · have e := hd.str
      subst e
      walk_at "rd"
      refine i_isi (.base (.str z)) (b := true) (by decide +kernel) ?_
      walk_at "rd"
      refine c_str (szlt (by omega)) (fun D i acc H1 => Same H H1 ∧ acc = (z.cps.toList.take i).map fun c => V.str (S (if c = 92 ∨ c = 34 then [92, c] else [c]))) ?_ ?_ ?_
      · exact fun D H1 _ s1 _ => ⟨s1, rfl⟩
      · rintro D i c acc H1 hD hc hl1 hi ha ⟨s1, rfl⟩
        walk_at "rd"
        refine ⟨rfl, ?_⟩
        walk_at "rd"
        obtain ⟨m1, m2⟩ := mulBs (decide (c ∈ (Str.ofString "\"\\").cps.toList))
        refine i_mul_s m1 ?_
        rw [m2]
        walk_at "rd"
        refine i_add_s (szl (by rw [S_len]; split <;> show _ + 1 ≤ _ <;> simp)) ?_
        rw [escS]
        refine i_ck ha hl1 hi fun H3 b3 e3 => ⟨Same.but s1 hD b3, ?_⟩
        rw [take_snoc hc, List.map_append]; rfl
      · rintro D acc H1 hD hl1 ha ⟨s1, rfl⟩
        rw [← len_list, List.take_length] at ha
        have e1 : (z.cps.toList.map fun c => V.str (S (if c = 92 ∨ c = 34 then [92, c] else [c]))) = (z.cps.toList.map fun c => S (if c = 92 ∨ c = 34 then [92, c] else [c])).map V.str := by rw [List.map_map]; rfl
        rw [e1] at ha
        have hsum : ∀ L : List Nat, ((L.map fun c => S (if c = 92 ∨ c = 34 then [92, c] else [c])).map (·.length)).sum ≤ 2 * L.length := by
          intro L
          induction L with
          | nil => simp
          | cons c r ih =>
            rw [List.map_cons, List.map_cons, List.sum_cons, List.length_cons, S_len]
            have : (if c = 92 ∨ c = 34 then [92, c] else [c]).length ≤ 2 := by split <;> simp
            omega
        have hsm := hsum z.cps.toList
        rw [len_list] at hsm
        refine i_join (.inl (.inl (.inl ha))) (by show _ + _ * 0 ≤ _; omega) ?_
        have e2 : Txt.join (Str.ofString "") (z.cps.toList.map fun c => S (if c = 92 ∨ c = 34 then [92, c] else [c])) = S (esc z.cps.toList) := by
          have h := join_S [] (z.cps.toList.map fun c => if c = 92 ∨ c = 34 then [92, c] else [c])
          rw [List.map_map, inter_nil] at h
          unfold esc
          rw [List.flatMap_def]
          exact h
        rw [e2]
        have l2 := esc_len z.cps.toList
        rw [len_list] at l2
        refine i_add_s (szl (by show 1 + (esc _).length ≤ 100000; omega)) ?_
        walk_at "rd"
        refine i_add_s (szl (by rw [app_len]; show 1 + (esc _).length + 1 ≤ 100000; omega)) ?_
        have e : Str.ofString "\"" ++ S (esc z.cps.toList) ++ Str.ofString "\"" = S (wr (.str z)) := S_ext (by rw [app_list, app_list]; rfl)
        rw [e]
        exact q _ s1
    · obtain ⟨a, xs, rfl, hs, hq⟩ := hd.tup
      walk_at "rd"
      refine i_isi (ty_sq hs) (b := false) (by decide +kernel) ?_
      walk_at "rd"
      have hlen := hq.length
      refine c_tup hs (szlt (by omega)) (fun D i acc H1 => Same H H1 ∧ acc = (ds.take i).map fun d => V.str (S (wr d))) ?_ ?_ ?_ ?_
      · exact fun D H1 _ s1 _ => ⟨s1, rfl⟩
      · exact fun D i acc H1 _ h => sqT_tt (.same h.1) hs
      · intro D i x acc H1 hD hx hl hi ha hp
        obtain ⟨s1, rfl⟩ := hp
        obtain ⟨d, hdi, hdx⟩ := hq.get hx
        have hm := List.mem_of_getElem? hdi
        walk_at "rd"
        refine ⟨rfl, ?_⟩
        walk_at "rd"
        have h1 := tsizes_mem hm
        have h2 := tdeeps_mem hm
        simp only [tsize, tdeep] at hz hn
        refine ⟨x, d, rfl, hdx.mono (.same s1), goods_get hgs hdi, by omega, by omega, fun H2 s2 => ?_⟩
        refine i_ck (s2 _ _ ha) hl hi fun H3 b3 e3 => ⟨Same.but (s1.trans s2) hD b3, ?_⟩
        rw [take_snoc hdi, List.map_append]; rfl
      · rintro D acc H1 hD hl ha ⟨s1, rfl⟩
        rw [hlen, List.take_length] at ha
        have e1 : (ds.map fun d => V.str (S (wr d))) = (ds.map fun d => S (wr d)).map V.str := by rw [List.map_map]; rfl
        rw [e1] at ha
        have hw := wrs_len ds hgs
        have hsm : ∀ es : List PyData, goods es = true → ((es.map fun d => S (wr d)).map (·.length)).sum ≤ 4 * tsizes es := by
          intro es
          induction es with
          | nil => intro _; simp
          | cons e r ih =>
            intro g
            simp only [goods, Bool.and_eq_true] at g
            have k1 := ih g.2
            have k2 := wr_len e g.1
            simp only [List.map_cons, List.sum_cons, tsizes, S_len] at k1 ⊢
            omega
        have hsm := hsm ds hgs
        simp only [tsize] at hz
        refine i_join (.inl (.inl (.inl ha))) (by rw [List.length_map]; show _ + _ * 1 ≤ _; omega) ?_
        have e2 : Txt.join (Str.ofString " ") (ds.map fun d => S (wr d)) = S (wrs ds) := by
          rw [wrs_inter, ← join_S, List.map_map]; rfl
        rw [e2]
        refine i_add_s (szl (by show 1 + (wrs ds).length ≤ 100000; omega)) ?_
        walk_at "rd"
        refine i_add_s (szl (by rw [app_len]; show 1 + (wrs ds).length + 1 ≤ 100000; omega)) ?_
        have e : Str.ofString "(" ++ S (wrs ds) ++ Str.ofString ")" = S (wr (.tuple ds)) := S_ext (by rw [app_list, app_list]; rfl)
        rw [e]
        exact q _ s1
/-! a dict of sources -/
theorem KVs.any {H : Hp} {n : Str} : ∀ {kvs : List (Key × V)} {prs : Prs}, KVs K H kvs prs → (kvs.any fun kv => decide (kv.1 = (Sum.inr n : Key))) = decide (n ∈ names prs)
  | [], [], _ => by simp [names]
  | kv :: r, p :: s, h => by
    have ih := KVs.any (n := n) h.2.2
    rw [List.any_cons, ih, h.1]
    unfold names
    rw [List.map_cons]
    by_cases e : p.1 = n
    · simp [e]
    · have e1 : ¬ n = p.1 := fun q => e q.symm
      have e2 : ¬ ((Sum.inr p.1 : Key) = Sum.inr n) := fun q => e (Sum.inr.inj q)
      simp [e1, e]
  | [], _ :: _, h => h.elim
  | _ :: _, [], h => h.elim
theorem KVs.over {H : Hp} {n : Str} {s : Src} {v : V} (d : Dt K H s.py v) : ∀ {kvs : List (Key × V)} {prs : Prs}, KVs K H kvs prs → KVs K H (kvs.map fun kv => if kv.1 = (Sum.inr n : Key) then (kv.1, v) else kv) (prs.map fun p => if p.1 = n then (p.1, s) else p)
  | [], [], _ => trivial
  | kv :: r, p :: t, h => by
    have ih := KVs.over (n := n) d h.2.2
    rw [List.map_cons, List.map_cons]
    by_cases e : p.1 = n
    · have e2 : kv.1 = (Sum.inr n : Key) := by rw [h.1, e]
      rw [if_pos e, if_pos e2]
      exact ⟨by rw [h.1], d, ih⟩
    · have e2 : ¬ kv.1 = (Sum.inr n : Key) := by rw [h.1]; exact fun q => e (Sum.inr.inj q)
      rw [if_neg e, if_neg e2]
      exact ⟨h.1, h.2.1, ih⟩
  | [], _ :: _, h => h.elim
  | _ :: _, [], h => h.elim
def prPut (prs : Prs) (n : Str) (s : Src) : Prs := if n ∈ names prs then prs.map (fun p => if p.1 = n then (p.1, s) else p) else prs ++ [(n, s)]
theorem KVs.put {H : Hp} {n : Str} {s : Src} {v : V} (d : Dt K H s.py v) {kvs : List (Key × V)} {prs : Prs} (h : KVs K H kvs prs) : KVs K H (putK kvs (Sum.inr n : Key) v) (prPut prs n s) := by
  unfold putK prPut
  rw [h.any]
  by_cases e : n ∈ names prs
  · rw [decide_eq_true e, if_pos rfl, if_pos e]
    exact h.over d
  · rw [decide_eq_false e, if_neg (by simp), if_neg e]
    exact h.snoc d
theorem prPut_ok {prs : Prs} {n : Str} {s : Src} {i : Nat} (nd : (names prs).Nodup) (hl : prs.length ≤ i) (ho : ∀ p ∈ prs, nameOk p.1 = true ∧ p.2.ok) (hn : nameOk n = true) (hs : s.ok) :
    (names (prPut prs n s)).Nodup ∧ (prPut prs n s).length ≤ i + 1 ∧ ∀ p ∈ prPut prs n s, nameOk p.1 = true ∧ p.2.ok := by
  unfold prPut
  by_cases e : n ∈ names prs
  · rw [if_pos e]
    refine ⟨?_, by rw [List.length_map]; omega, fun p hp => ?_⟩
    · have : names (prs.map fun p => if p.1 = n then (p.1, s) else p) = names prs := by
        unfold names
        rw [List.map_map]
        refine List.map_congr_left fun p _ => ?_
        show (if p.1 = n then (p.1, s) else p).1 = p.1
        split <;> rfl
      rw [this]; exact nd
    · obtain ⟨q, hq, rfl⟩ := List.mem_map.mp hp
      have := ho q hq
      by_cases e2 : q.1 = n
      · rw [if_pos e2]; exact ⟨this.1, hs⟩
      · rw [if_neg e2]; exact this
  · rw [if_neg e]
    refine ⟨?_, by rw [List.length_append]; show _ + 1 ≤ _; omega, fun p hp => ?_⟩
    · unfold names at nd e ⊢
      rw [List.map_append]
      refine List.nodup_append.mpr ⟨nd, List.nodup_cons.mpr ⟨by simp, List.nodup_nil⟩, ?_⟩
      intro x hx y hy h
      rw [List.mem_singleton.mp hy] at h
      rw [h] at hx
      exact e hx
    · rcases List.mem_append.mp hp with hp | hp
      · exact ho p hp
      · rw [List.mem_singleton.mp hp]; exact ⟨hn, hs⟩
theorem kvs_items {H H' : Hp} (s : Same H H') : ∀ {kvs : List (Key × V)} {prs : Prs} {ts : List Addr}, KVs K H kvs prs → Paired (fun (t : Addr) (q : Key × V) => H' t = some (.tup [kV q.1, q.2])) ts kvs → Dts K H' (prs.map prPy) (ts.map V.ref)
  | [], [], ts, _, p => by cases p; exact dts_nil
  | kv :: r, q :: t, ts, h, p => by
    cases p with
    | cons e k =>
      refine dts_cons ?_ (kvs_items s h.2.2 k)
      rw [h.1] at e
      exact dt_tup (.inl (.inl e)) (dts_cons dt_str (dts_cons (h.2.1.mono (.same s)) dts_nil))
  | [], _ :: _, _, h, _ => h.elim
  | _ :: _, [], _, h, _ => h.elim
/-- sources under drawn names -/
theorem ok_many (D : Df K mg "_law_many" "_law_many" s__law_many ["script"]) (B : NoB mg) (C__law_pot : Cal P w K mg base CX0 "_law_pot" ["cell", "salt"] 1 spPot) (C__law_take : Cal P w K mg base CX0 "_law_take" ["pot", "many"] 1 spTake)
    (C__law_any_name : Cal P w K mg base CX0 "_law_any_name" ["pot"] 2 spAnyName) (C__law_any_tree : Cal P w K mg base CX0 "_law_any_tree" ["pot", "deep"] 7 (spAnyTree K 4)) : Cal P w K mg base CX0 "_law_many" ["script"] 8 (spSources K) := by
  refine D.cal fun f fd F => F.ok sc__law_many (fun vs H Q E h => ?_) (fun cdv A outer s H vs Q E hr h => ?_)
  · obtain ⟨_, _, rfl, _⟩ := h
    rfl
  · obtain ⟨a, ns, rfl, hs, q⟩ := h
    refine ⟨_, (pss_cons (ps_set (i := 1) sc__law_many.nd rfl (.inl rfl) pe_dnewK)
      (pss_cons (ps_for PassesOwn.never rfl (pi_range1 (by rfl) B.m_range (pa_cons (pe_callB (call_minU rfl) (by rfl) B.m_min (by decide +kernel) (pa_cons (pe_callB (call_lenU K) (by rfl) B.m_len (by decide +kernel) (pa_cons (pv 0) pa_nil)) (pa_cons pe_int pa_nil))) pa_nil)) (pg_name (i := 2) sc__law_many.nd rfl (.inl rfl)) (pss_cons (ps_set (i := 3) sc__law_many.nd rfl (.inl rfl) (pe_cal C__law_pot hr (by rfl) (pa_cons (pe_ix (ix_U K) (pv 0) (pv 2) (fun _ _ => rfl)) (pa_cons (pv 2) pa_nil))))
      (pss_cons (ps_set (i := 4) sc__law_many.nd rfl (.inl rfl) (pe_ix (ix_U K) (pe_lst (pa_cons pe_str (pa_cons pe_str (pa_cons pe_str pa_nil)))) (pe_cal C__law_take hr (by rfl) (pa_cons (pv 3) (pa_cons pe_int pa_nil))) (fun _ _ => rfl)))
      (pss_cons (ps_set (i := 5) sc__law_many.nd rfl (.inl rfl) (pe_cal C__law_any_name hr (by rfl) (pa_cons (pv 3) pa_nil)))
      (pss_one (ps_if (pt_cmpR (op_eqU K hr.units) (pv 4) pe_str (nomark _)) (pss_one (ps_dput (hu_of hr) (pv 1) (pv 5) (pe_tup (pa_cons (pv 4) (pa_cons (pe_cal C__law_any_name hr (by rfl) (pa_cons (pv 3) pa_nil)) pa_nil))) rfl)) (pss_one (ps_dput (hu_of hr) (pv 1) (pv 5) (pe_tup (pa_cons (pv 4) (pa_cons (pe_cal C__law_any_tree hr (by rfl) (pa_cons (pv 3) (pa_cons pe_int pa_nil))) pa_nil))) rfl))))))))
      (pss_one (ps_ret (LiI.pe_listItems rfl (pv 1) (by rfl) B.m_list (by rfl)))))), ?_⟩
    walk_at "rd"
    refine i_dnew fun t H0 nt s0 e0 => ?_
    walk_at "rd"
    refine i_len_l (s0.seq hs) ?_
    walk_at "rd"
    have hmin : ∃ m : Nat, m ≤ 59 ∧ m ≤ ns.length ∧ (if (59 : Int) < ((ns.map V.int).length : Int) then (59 : Int) else ((ns.map V.int).length : Int)) = (m : Nat) := by
      rw [List.length_map]
      by_cases hc : (59 : Int) < (ns.length : Int)
      · exact ⟨59, by omega, by omega, by rw [if_pos hc]; rfl⟩
      · exact ⟨ns.length, by omega, by omega, by rw [if_neg hc]⟩
    obtain ⟨m, hm1, hm2, hm⟩ := hmin
    rw [hm]
    refine f_range (n := m) (by omega) (fun i σ H1 => ∃ (kvs : List (Key × V)) (prs : Prs) (y1 y2 y3 y4 : Option V), σ = [some (.ref a), some (.ref t), y1, y2, y3, y4] ∧ Same H H1 ∧ H1 t = some (.dK kvs) ∧ KVs K H1 kvs prs ∧ (names prs).Nodup ∧ prs.length ≤ i ∧ ∀ p ∈ prs, nameOk p.1 = true ∧ p.2.ok) ?_ ?_ ?_ rfl
    · exact ⟨[], [], none, none, none, none, rfl, s0, e0, trivial, List.nodup_nil, Nat.zero_le _, by simp⟩
    · rintro i σ H1 hi ⟨kvs, prs, y1, y2, y3, y4, rfl, s1, e1, hk, nd, hpl, hpo⟩
      walk_at "rd"
      have hxi : (ns.map V.int)[i]? = some (V.int ns[i]) := by rw [List.getElem?_map, List.getElem?_eq_getElem (by omega)]; rfl
      refine i_ix_l (s1.seq hs) (atI_nat (j := i) hxi) ?_
      walk_at "rd"
      refine ⟨ns[i], i, rfl, by omega, fun H2 p n2 s2 p2 => ?_⟩
      walk_at "rd"
      refine i_new_l (by show 3 ≤ sizeLine; decide) fun l3 H3 n3 s3 e3 => ?_
      walk_at "rd"
      have p3 := p2.same s3
      refine ⟨p, 3, rfl, p3, by decide, by decide, fun H4 d b4 p4 hd => ?_⟩
      have hlp : l3 ≠ p := by
        obtain ⟨k, e⟩ := p2
        exact fun z => (ne_of_none e n3) z.symm
      have hkd : ∃ kd : Str, ([V.str "leaf", V.str "rule", V.str "made"] : List V)[d]? = some (.str kd) ∧ (kd = "made" ∨ (kd = "leaf" ∨ kd = "rule")) := by
        match d, hd with
        | 0, _ => exact ⟨"leaf", rfl, .inr (.inl rfl)⟩
        | 1, _ => exact ⟨"rule", rfl, .inr (.inr rfl)⟩
        | 2, _ => exact ⟨"made", rfl, .inl rfl⟩
      obtain ⟨kd, hkx, hkk⟩ := hkd
      refine i_ix_l (.inl (.inl (b4 _ _ hlp e3))) (atI_nat (j := d) hkx) ?_
      walk_at "rd"
      refine ⟨p, rfl, p4, fun H5 nm b5 p5 hnm hnl => ?_⟩
      walk_at "rd"
      rw [decS]
      have s15 : Same H1 H5 := Same.but s2 n2 ((Bt.same s3).trans (b4.trans b5))
      have put : ∀ (H6 : Hp) (b : Addr) (sr : Src) (y4' : Option V), Same H1 H6 → Dt K H6 sr.py (.ref b) → sr.ok → ∀ H8, Bt t H6 H8 → H8 t = some (.dK (putK kvs (Sum.inr nm : Key) (.ref b))) → (∃ (kvs : List (Key × V)) (prs : Prs) (y1 y2 y3 y4 : Option V), ([some (.ref a), some (.ref t), some (.int (i : Nat)), some (.ref p), some (.str kd), y4'] : L2.St) = [some (.ref a), some (.ref t), y1, y2, y3, y4] ∧ Same H H8 ∧ H8 t = some (.dK kvs) ∧ KVs K H8 kvs prs ∧ (names prs).Nodup ∧ prs.length ≤ i + 1 ∧ ∀ p ∈ prs, nameOk p.1 = true ∧ p.2.ok) := by
        intro H6 b sr y4' s16 hv hsr H8 b8 e8
        have e6 := s16 _ _ e1
        obtain ⟨g1, g2, g3⟩ := prPut_ok nd hpl hpo hnm hsr
        refine ⟨_, prPut prs nm sr, _, _, _, _, rfl, Same.but (s1.trans s16) nt b8, e8, ?_, g1, g2, g3⟩
        exact ((hk.mono (.same s16)).put hv).mono (.butD b8 e6)
      have hpt : p ≠ t := fun z => by rw [z] at n2; rw [n2] at e1; cases e1
      by_cases hmade : kd = "made"
      · rw [decide_eq_true (p := kd = "made") hmade]
        walk_at "rd"
        refine ⟨p, rfl, p5, fun H6 nm2 b6 p6 hnm2 _ => ?_⟩
        walk_at "rd"
        refine i_new_t (by show 2 ≤ sizeLine; decide) fun t7 H7 n7 s7 e7 => ?_
        have s17 : Same H1 H7 := Same.but s2 n2 ((Bt.same s3).trans (b4.trans (b5.trans (b6.trans (.same s7)))))
        walk_at "rd"
        refine i_dpk (s17 _ _ e1) (szlt (by rw [hk.length]; omega)) fun H8 b8 e8 => ?_
        exact put H7 t7 ⟨kd, .str nm2⟩ _ s17 (dt_tup (.inl (.inl e7)) (dts_cons dt_str (dts_cons dt_str dts_nil))) (.inl ⟨hmade, _, rfl, hnm2⟩) H8 b8 e8
      · rw [decide_eq_false (p := kd = "made") hmade]
        walk_at "rd"
        refine ⟨p, 3, rfl, p5, by decide, by decide, fun H6 v d6 b6 p6 hv hg => ?_⟩
        walk_at "rd"
        refine i_new_t (by show 2 ≤ sizeLine; decide) fun t7 H7 n7 s7 e7 => ?_
        have s17 : Same H1 H7 := Same.but s2 n2 ((Bt.same s3).trans (b4.trans (b5.trans (b6.trans (.same s7)))))
        walk_at "rd"
        refine i_dpk (s17 _ _ e1) (szlt (by rw [hk.length]; omega)) fun H8 b8 e8 => ?_
        exact put H7 t7 ⟨kd, d6⟩ _ s17 (dt_tup (.inl (.inl e7)) (dts_cons dt_str (dts_cons (hv.mono (.same s7)) dts_nil))) (.inr ⟨hkk.resolve_left hmade, hg.ok (by decide) (by decide)⟩) H8 b8 e8
    · rintro σ H1 ⟨kvs, prs, y1, y2, y3, y4, rfl, s1, e1, hk, nd, hpl, hpo⟩
      walk_at "rd"
      refine i_itk e1 fun H2 l ts s2 n2 e2 pr => ?_
      exact q H2 l prs _ (s1.trans s2) (none_back s1 n2) e2 (kvs_items s2 hk pr) ⟨fun p hp => (hpo p hp).1, fun p hp => (hpo p hp).2, nd, by omega⟩
end
end Aw

namespace Aw
open PySem PySem.Spec PyProof.Rows L2

local macro_rules | `(tactic| walk_at "rd1") => `(tactic| first
  | ((with_reducible apply i_var); exact rfl)
  | with_reducible refine i_c ?_
  | with_reducible refine i_op ?_
  | with_reducible refine i_un ?_
  | with_reducible refine i_test ?_
  | with_reducible refine i_tB ?_
  | with_reducible refine i_bl ?_
  | with_reducible refine i_and ?_
  | with_reducible refine i_or ?_
  | with_reducible refine i_not ?_
  | with_reducible refine i_andV ?_
  | with_reducible refine i_orV ?_
  | with_reducible refine i_notV ?_
  | with_reducible refine i_if ?_
  | with_reducible refine i_chain ?_
  | with_reducible refine i_nil ?_
  | with_reducible refine i_cons ?_
  | with_reducible refine i_tup ?_
  | with_reducible refine i_lst ?_
  | with_reducible refine i_cb ?_
  | with_reducible refine i_call ?_
  | with_reducible refine i_bm ?_
  | with_reducible refine i_m1 ?_
  | with_reducible refine i_m0 ?_
  | with_reducible refine i_exstr ?_
  | with_reducible refine i_sl ?_
  | with_reducible refine i_nopart ?_
  | with_reducible refine i_part ?_
  | with_reducible refine i_int ?_
  | with_reducible refine i_seq ?_
  | with_reducible refine i_next ?_
  | with_reducible refine i_asg ?_
  | with_reducible refine i_gname ?_
  | with_reducible refine i_ret ?_
  | with_reducible refine i_retN ?_
  | with_reducible refine i_drop ?_
  | with_reducible refine i_ifS ?_
  | with_reducible refine i_break ?_
  | with_reducible refine i_cont ?_
  | ((with_reducible apply i_aug); exact rfl)
  | with_reducible refine i_add_i ?_
  | with_reducible refine i_sub ?_
  | with_reducible refine i_neg ?_
  | with_reducible refine i_ipadd_i ?_
  | with_reducible refine i_ip ?_
  | with_reducible refine i_lt ?_
  | with_reducible refine i_le ?_
  | with_reducible refine i_gt ?_
  | with_reducible refine i_ge ?_
  | with_reducible refine i_lt_s ?_
  | with_reducible refine i_le_s ?_
  | with_reducible refine i_gt_s ?_
  | with_reducible refine i_ge_s ?_
  | with_reducible refine i_isN ?_
  | with_reducible refine i_notN ?_
  | with_reducible refine i_in_c ?_
  | with_reducible refine i_nin_c ?_
  | with_reducible refine i_gsub ?_
  | with_reducible refine i_gcons ?_
  | with_reducible refine i_gnil ?_
  | with_reducible refine i_iList ?_
  | with_reducible refine i_iTup ?_
  | with_reducible refine i_iStr ?_
  | with_reducible refine i_iRng1 ?_
  | with_reducible refine i_lc ?_
  | with_reducible refine i_for ?_
  | with_reducible refine i_yes ?_
  | with_reducible refine i_repl ?_
  | with_reducible refine i_meth ?_
  | with_reducible refine i_fld ?_
  | with_reducible refine i_sfld ?_
  | with_reducible refine i_din ?_
  | with_reducible refine i_dnin ?_
  | with_reducible refine i_dget ?_
  | with_reducible refine i_dput ?_
  | with_reducible refine i_joined ?_
  | with_reducible refine i_items ?_
  | with_reducible refine i_stepL ?_
  | with_reducible refine i_make ?_
  | with_reducible refine i_fmt ?_
  | with_reducible refine i_jcons ?_
  | with_reducible refine i_jnil ?_
  | with_reducible refine i_iEnum ?_
  | with_reducible refine iteT ?_
  | with_reducible refine iteF ?_
  | with_reducible refine iteNT ?_
  | with_reducible refine iteNF ?_
  | ((with_reducible refine i_len_s ?_ ?_); (first | assumption | exact szl (by assumption)))
  | ((with_reducible refine i_sl_s ?_ ?_); (first | assumption | exact szl (by assumption)))
  | with_reducible refine i_int_b ?_
  | with_reducible refine i_abs ?_
  | with_reducible refine i_min2 ?_
  | with_reducible refine i_eq rfl ?_
  | with_reducible refine i_ne rfl ?_)
local macro_rules | `(tactic| walk_at "rd") => `(tactic| repeat walk_at "rd1")

abbrev s__law_right : Stmt := topS 53
theorem sc__law_right : FnScope ["pairs", "project", "rows", "name", "source", "what", "text", "back"] ["pairs"] (defScope s__law_right) := ⟨rfl, rfl, rfl, by decide +kernel, rfl, by decide +kernel, by decide +kernel⟩
section
variable {P : Program} {w : World} {K : PySem.W.Frag} {mg : Str → Option Value} {base : Heap}
structure InsC (K : PySem.W.Frag) (C : Addr) : Prop where
  ha : PySem.W.findIn K (.ref C) "__class__" = some (some (.builtin "object.__class__"))
  hn : PySem.W.specialIn K (.builtin "object.__class__") "__get__" = some (some (.builtin "getset_descriptor.__get__"))
  htk : PySem.W.takesIn K (.builtin "object.__class__") = some true
  hm : PySem.W.mroIn K C (.type "object") = some true
theorem i_isiC {C a dx : Addr} {fs : List (Str × V)} {H : Hp} {Q : VK} (T : InsC K C) (c : Cls K C) (e : H a = some (.ins C dx fs)) (q : Q (.bl true) H) : rIsi K [.ref a, .ref C] H Q :=
  ⟨.ref a, .ref C, .ref C, .ref C, true, rfl, .own C, .base (.ins e c T.ha T.hn T.htk T.hm), by unfold PySem.W.kitOne; rw [if_pos (by exact beq_self_eq_true _)], q⟩
theorem lineS2 (k n : Str) (what : List Nat) : (((((k ++ (Str.ofString " ")) ++ n) ++ (Str.ofString " ")) ++ S what) ++ (Str.ofString "\n")) = S (k.cps.toList ++ 32 :: (n.cps.toList ++ 32 :: what) ++ [10]) := S_ext (by
  simp only [app_list, S_list, List.append_assoc]
  show _ ++ ([32] ++ (_ ++ ([32] ++ (_ ++ [10])))) = _
  simp)
theorem prTxt_join (prs : Prs) : Txt.join (Str.ofString "") (prs.map fun p => S (lineOf p ++ [10])) = S (prTxt prs) := by
  have h := join_S [] (prs.map fun p => lineOf p ++ [10])
  rw [List.map_map, inter_nil] at h
  rw [show (Str.ofString "") = S [] from rfl]
  refine Eq.trans h ?_
  unfold prTxt
  rw [List.flatMap_def]
theorem prTxt_sum (prs : Prs) : ((prs.map fun p => S (lineOf p ++ [10])).map (·.length)).sum = (prTxt prs).length := by
  induction prs with
  | nil => rfl
  | cons c r ih =>
    rw [List.map_cons, List.map_cons, List.sum_cons, ih]
    unfold prTxt
    rw [List.flatMap_cons, List.length_append, S_len]
/-- it is read as it is written -/
def spRight (K : PySem.W.Frag) : Sp := fun vs H Q _ => ∃ (l : Addr) (xs : List V) (prs : Prs), vs = [.ref l] ∧ H l = some (.lst xs) ∧ Dts K H (prs.map prPy) xs ∧ PrsOk prs ∧ ∀ H', Same H H' → Q (.bl true) H'
theorem ok_right {C CB : Addr} (D : Df K mg "_law_right" "_law_right" s__law_right ["pairs"]) (T : PCls K mg C) (TI : InsC K C) (g_Project : GV mg "Project" (.ref C)) (B : NoB mg) (M_Project : CalI P w K mg base CX0 C "Project" ["self", "sources"] 17 (spPrInit K C))
    (M_sources : CalM P w K mg base CX0 C "sources" ["self"] 1 (spPrSources K C)) (C__law_written : Cal P w K mg base CX0 "_law_written" ["tree"] 14 (spTreeText K 13)) (C_project_text : Cal P w K mg base CX0 "project_text" ["project"] 15 (spProjectText K C))
    (C_read_project : Cal P w K mg base (L2.CX P w) "read_project" ["text"] 32 (spReadProject K C CB)) : Cal P w K mg base CX0 "_law_right" ["pairs"] 33 (spRight K) := by
  refine D.cal fun f fd F => F.ok sc__law_right (fun vs H Q E h => ?_) (fun cdv A outer s H vs Q E hr h => ?_)
  · obtain ⟨_, _, _, rfl, _⟩ := h
    rfl
  · obtain ⟨l, xs, prs, rfl, el, hd, hok, q⟩ := h
    refine ⟨_, (pss_cons (ps_set (i := 1) sc__law_right.nd rfl (.inl rfl) (pe_ical M_Project hr (by rfl) (pa_cons (pe_callTy (call_tupU K) (by rfl) B.m_tuple (by decide +kernel) (pa_cons (pv 0) pa_nil)) pa_nil)))
      (pss_cons (ps_set (i := 2) sc__law_right.nd rfl (.inl rfl) (pe_lst pa_nil))
      (pss_cons (ps_for PassesOwn.never rfl (pi_listU K (pe_callB (call_sortNmU K) (by rfl) B.m_sorted (by decide +kernel) (pa_cons (pv 0) pa_nil))) (pg_tupU K (by rfl) (pgs_cons (pg_name (i := 3) sc__law_right.nd rfl (.inl rfl)) (pgs_cons (pg_name (i := 4) sc__law_right.nd rfl (.inl rfl)) pgs_nil))) (pss_cons (ps_set (i := 5) sc__law_right.nd rfl (.inl rfl) (pe_ix (ix_U K) (pv 4) pe_int (fun _ _ => rfl)))
      (pss_cons (ps_if (pt_cmpR (op_neU K hr.units) (pe_ix (ix_U K) (pv 4) pe_int (fun _ _ => rfl)) pe_str (nomark _)) (pss_one (ps_set (i := 5) sc__law_right.nd rfl (.inl rfl) (pe_cal C__law_written hr (by rfl) (pa_cons (pe_ix (ix_U K) (pv 4) pe_int (fun _ _ => rfl)) pa_nil)))) pss_nil)
      (pss_one (ps_expr (pe_bmU K PySem.F.plainAttrs_list PySem.F.slot_list_append PySem.F.type_list_append mt_append (pv 2) (pa_cons (pe_op (op_addU K) (pe_op (op_addU K) (pe_op (op_addU K) (pe_op (op_addU K) (pe_op (op_addU K) (pe_ix (ix_U K) (pv 4) pe_int (fun _ _ => rfl)) pe_str) (pv 3)) pe_str) (pv 5)) pe_str) pa_nil)))))))
      (pss_cons (ps_set (i := 6) sc__law_right.nd rfl (.inl rfl) (pe_cal C_project_text hr (by rfl) (pa_cons (pv 1) pa_nil)))
      (pss_cons (ps_if (PW.pt (pw_or (pt_not (pt_val (pe_callB (call_isiU K) (by rfl) B.m_isinstance (by decide +kernel) (pa_cons (pv 6) (pa_cons (pe_ty (T := "str") (by rfl) B.m_str (by decide +kernel)) pa_nil))))) (pw_or1 (pt_cmpR (op_neU K hr.units) (pv 6) (pe_joinU K pe_str (pv 2)) (nomark _))))) (pss_one (ps_ret pe_bl)) pss_nil)
      (pss_cons (ps_set (i := 7) sc__law_right.nd rfl (.inl rfl) (pe_calE C_read_project hr (by rfl) passL (pa_cons (pv 6) pa_nil)))
      (pss_one (ps_ret (pe_and (pe_callB (call_isiU K) (by rfl) B.m_isinstance (by decide +kernel) (pa_cons (pv 7) (pa_cons (pe_gv (by rfl) g_Project) pa_nil))) (pe_and (pe_cmpR (op_eqU K hr.units) (pe_mcal0 M_sources T.cl hr (pv 7)) (pe_mcal0 M_sources T.cl hr (pv 1)) (nomark _)) (pe_one (pe_cmpR (op_eqU K hr.units) (pe_cal C_project_text hr (by rfl) (pa_cons (pv 7) pa_nil)) (pv 6) (nomark _))))))))))))), ?_⟩
    have hso := srtP_ok hok
    have hln := hok.ln
    have hsl := srtP_len prs
    walk_at "rd"
    refine i_tupof_l (.inl (.inl el)) fun t1 H1 n1 s1 e1 => ?_
    walk_at "rd"
    refine i_mko fun p dx H2 n2 s2 e2 => ?_
    refine ⟨p, dx, .ref t1, prs, rfl, e2, dt_tup (.inl (.inl (s2 _ _ e1))) (hd.mono (.same (s1.trans s2))), hok, fun H3 k3 ip => ⟨rfl, ?_⟩⟩
    have s13 : Same H1 H3 := fun b o e => k3 b o (s2 _ _ e) (ne_of_none e n2)
    have s03 := s1.trans s13
    walk_at "rd"
    refine i_new_l (by exact Nat.zero_le _) fun lr H4 nr s4 e4 => ?_
    have s04 := s03.trans s4
    walk_at "rd"
    refine i_sortNm (.inl (.inl (s04 _ _ el))) (hd.mono (.same s04)) hok.nd (by omega) fun ls H5 ys n5 s5 e5 hy => ?_
    have s05 := s04.trans s5
    have hyl := hy.length
    rw [List.length_map] at hyl
    have ip5 := (ip.same s4).same s5
    have nrH := none_back s03 nr
    refine f_list (.inl (.inl e5)) (fun i σ H6 => ∃ (y1 y2 y3 : Option V), σ = [some (.ref l), some (.ref p), some (.ref lr), y1, y2, y3, none, none] ∧ Same H H6 ∧ Stay H5 H6 ∧ H6 ls = some (.lst ys) ∧ IsPr K C H6 p prs ∧ H6 lr = some (.lst (((srtP prs).take i).map fun p => .str (S (lineOf p ++ [10]))))) ?_ ?_ ?_ ?_
    · exact ⟨none, none, none, rfl, s05, .refl _, e5, ip5, s5 _ _ e4⟩
    · rintro i σ H6 _ ⟨y1, y2, y3, rfl, s6, t6, e6, ip6, r6⟩
      exact .inl (.inl e6)
    · rintro i x σ H6 hx ⟨y1, y2, y3, rfl, s6, t6, e6, ip6, r6⟩
      obtain ⟨d, hdi, hdx⟩ := hy.get hx
      rw [List.getElem?_map] at hdi
      cases hpi : (srtP prs)[i]? with
      | none => rw [hpi] at hdi; cases hdi
      | some pr =>
      rw [hpi] at hdi
      cases (Option.some.inj hdi)
      have hm := List.mem_of_getElem? hpi
      have hnm := hso.nm _ hm
      have hsr := hso.sr _ hm
      have hil : i < (srtP prs).length := (List.getElem?_eq_some_iff.mp hpi).1
      have hkl := kind_len hsr
      have hnl := nameOk_len hnm
      have hwl := what_len hsr
      obtain ⟨b, x1, x2, rfl, hb, hx1, hx2⟩ := (hdx.mono t6).pair
      have e := hx1.str
      subst e
      walk_at "rd"
      refine i_gtup hb rfl ?_
      walk_at "rd"
      obtain ⟨c, z1, z2, rfl, hc, hz1, hz2⟩ := hx2.pair
      have e := hz1.str
      subst e
      refine i_ix_t hc (atI_nat (j := 1) rfl) ?_
      walk_at "rd"
      refine i_ix_t hc (atI_nat (j := 0) rfl) ?_
      walk_at "rd"
      have nls : ls ≠ lr := fun z => by rw [z] at n5; rw [n5] at e4; cases e4
      have fin : ∀ H7 (R : VK), Same H6 H7 → (∀ H8, Bt lr H7 H8 → (∃ (y1 y2 y3 : Option V), ([some (.ref l), some (.ref p), some (.ref lr), some (.str pr.1), some (.ref c), some (.str (S pr.2.what)), none, none] : L2.St) = [some (.ref l), some (.ref p), some (.ref lr), y1, y2, y3, none, none] ∧ Same H H8 ∧ Stay H5 H8 ∧ H8 ls = some (.lst ys) ∧ IsPr K C H8 p prs ∧ H8 lr = some (.lst (((srtP prs).take (i + 1)).map fun p => .str (S (lineOf p ++ [10]))))) → R .non H8) → rAppend (.ref lr) [.str (S (lineOf pr ++ [10]))] H7 R := by
        intro H7 R s7 k
        have e7 := s7 _ _ r6
        refine i_append e7 (szlt (by rw [List.length_map, List.length_take]; omega)) fun H8 b8 e8 => ?_
        refine k H8 b8 ⟨_, _, _, rfl, Same.but (s6.trans s7) nrH b8, (t6.trans (.same s7)).trans (.but b8 e7), b8 _ _ nls (s7 _ _ e6), (ip6.same s7).but b8 e7, ?_⟩
        rw [e8, take_snoc hpi, List.map_append]
        rfl
      rw [decS]
      by_cases hmade : pr.2.k = "made"
      · rw [decide_eq_true (p := pr.2.k = "made") hmade]
        walk_at "rd"
        rcases id hsr with ⟨h1, z, h2, h3⟩ | ⟨h1, h2⟩
        · rw [h2] at hz2
          have e := hz2.str
          subst e
          rw [← what_made h1 h2]
          refine i_tyl r6 ?_
          walk_at "rd"
          refine i_ix_t hc (atI_nat (j := 0) rfl) ?_
          walk_at "rd"
          refine i_add_s (szl (by show _ + 1 ≤ _; omega)) ?_
          walk_at "rd"
          refine i_add_s (szl (by rw [app_len]; show _ + 1 + _ ≤ _; omega)) ?_
          walk_at "rd"
          refine i_add_s (szl (by rw [app_len, app_len]; show _ + 1 + _ + 1 ≤ _; omega)) ?_
          walk_at "rd"
          refine i_add_s (szl (by rw [app_len, app_len, app_len, S_len]; show _ + 1 + _ + 1 + _ ≤ _; omega)) ?_
          walk_at "rd"
          refine i_add_s (szl (by rw [app_len, app_len, app_len, app_len, S_len]; show _ + 1 + _ + 1 + _ + 1 ≤ _; omega)) ?_
          rw [lineS2]
          walk_at "rd"
          refine fin H6 _ (.refl _) fun H8 b8 hf => ?_
          walk_at "rd"
          exact hf
        · exact absurd hmade (by rcases h1 with e | e <;> rw [e] <;> decide)
      · rw [decide_eq_false (p := pr.2.k = "made") hmade]
        walk_at "rd"
        rcases id hsr with ⟨h1, z, h2, h3⟩ | ⟨h1, h2⟩
        · exact absurd h1 hmade
        · have hgd := treeOk_good h2
          have hg2 := hgd.sz
          have hg3 := hgd.dp
          refine i_ix_t hc (atI_nat (j := 1) rfl) ?_
          walk_at "rd"
          refine ⟨z2, pr.2.x, rfl, hz2, hgd.g, by omega, by omega, fun H7 s7 => ?_⟩
          rw [← what_tree hmade]
          walk_at "rd"
          refine i_tyl (s7 _ _ r6) ?_
          walk_at "rd"
          refine i_ix_t (sqT_tt (.same s7) hc) (atI_nat (j := 0) rfl) ?_
          walk_at "rd"
          refine i_add_s (szl (by show _ + 1 ≤ _; omega)) ?_
          walk_at "rd"
          refine i_add_s (szl (by rw [app_len]; show _ + 1 + _ ≤ _; omega)) ?_
          walk_at "rd"
          refine i_add_s (szl (by rw [app_len, app_len]; show _ + 1 + _ + 1 ≤ _; omega)) ?_
          walk_at "rd"
          refine i_add_s (szl (by rw [app_len, app_len, app_len, S_len]; show _ + 1 + _ + 1 + _ ≤ _; omega)) ?_
          walk_at "rd"
          refine i_add_s (szl (by rw [app_len, app_len, app_len, app_len, S_len]; show _ + 1 + _ + 1 + _ + 1 ≤ _; omega)) ?_
          rw [lineS2]
          walk_at "rd"
          refine fin H7 _ s7 fun H8 b8 hf => ?_
          walk_at "rd"
          exact hf
    · rintro σ H6 ⟨y1, y2, y3, rfl, s6, t6, e6, ip6, r6⟩
      rw [List.take_of_length_le (by omega)] at r6
      have e5 : ((srtP prs).map fun p => V.str (S (lineOf p ++ [10]))) = ((srtP prs).map fun p => S (lineOf p ++ [10])).map V.str := by rw [List.map_map]; rfl
      rw [e5] at r6
      have hpl := prTxt_len hso
      have hsn := hso.ln
      walk_at "rd"
      refine ⟨p, prs, rfl, ip6, hok, fun H7 s7 => ?_⟩
      walk_at "rd"
      refine i_isi (.base (.str _)) (b := true) (by decide +kernel) ?_
      walk_at "rd"
      refine i_join (.inl (.inl (.inl (s7 _ _ r6)))) (by rw [prTxt_sum]; show _ + _ * 0 ≤ _; omega) ?_
      rw [prTxt_join]
      walk_at "rd"
      rw [decide_eq_true rfl]
      walk_at "rd"
      refine ⟨srtP prs, [[]], ?_, hso, srtP_srtP hok, .inl ⟨rfl, fun H8 p8 s8 ip8 => ?_⟩⟩
      · rw [inter_prs _ (by simp)]
        show [V.str (S (prTxt (srtP prs)))] ++ [] = [V.str (S (prTxt (srtP prs) ++ []))]
        rw [List.append_nil, List.append_nil]
      walk_at "rd"
      obtain ⟨dx8, t8, kv8, f1, f2, f3⟩ := id ip8
      refine i_isiC TI T.cl f1 ?_
      walk_at "rd"
      refine i_mk f1 rfl ?_
      walk_at "rd"
      refine ⟨p8, srtP prs, rfl, ip8, hso, fun H9 v9 s9 d9 => ?_⟩
      walk_at "rd"
      have ip9 : IsPr K C H9 p prs := ((ip6.same s7).same s8).same s9
      obtain ⟨dx9, t9, kv9, g1, g2, g3⟩ := id ip9
      refine i_mk g1 rfl ?_
      walk_at "rd"
      refine ⟨p, prs, rfl, ip9, hok, fun H10 v10 s10 d10 => ?_⟩
      rw [srtP_srtP hok] at d9
      have hcmp : ∀ d ∈ (srtP prs).map prPy, cmpOk d := by
        intro d hdm
        obtain ⟨q, hq, rfl⟩ := List.mem_map.mp hdm
        exact cmp_pr (hso.nm _ hq) (hso.sr _ hq)
      refine i_eq_t (d9.mono (.same s10)) d10 hcmp hcmp ?_
      rw [eqvAll_self hcmp]
      walk_at "rd"
      refine ⟨p8, srtP prs, rfl, (ip8.same s9).same s10, hso, fun H11 s11 => ?_⟩
      rw [srtP_srtP hok]
      walk_at "rd"
      rw [decide_eq_true rfl]
      exact q H11 (s6.trans (s7.trans (s8.trans (s9.trans (s10.trans s11)))))
end
end Aw

namespace Aw
open PySem PySem.Spec PyProof.Rows L2
section
variable {X : Cx} {k n : Nat} {x : Str} {ps : List Str} {sp : Sp} {E : L2.St → XK} {CX : CXT} {e : Expr} {es : List Expr} {t : TA} {p pos : Pos}
theorem pe_calS (C : Cal X.prog X.w X.K X.mg X.base CX x ps k sp) (hr : Room n X.A) (hg : Gl X x) (hx : ∀ σ, PassesAt CX X σ (E σ)) (ha : PA X (e :: es) t) (hk : k ≤ n := by decide) (hdb : (x == ("__debug__" : Str)) = false := by decide)
    (he : starEach (e :: es) X.env = (false, eval e X.env) :: starEach es X.env := by rfl) (hpl : (backTo pos (starEach es X.env)).any (·.1) = false := by rfl) : PE X (.Call (.Name x p) (e :: es) [] pos) (tCallS sp E t) := by
  obtain ⟨f, fd, F, hm, hkp, hb⟩ := C.ex
  exact pe_callS F (hr.mono hk) hg hm hkp hb hx ha hdb he hpl
end
theorem i_callS {sp : Sp} {E : L2.St → XK} {t : TA} {σ : L2.St} {H : Hp} {Q : VK} (h : t σ H fun vs H1 => sp vs H1 Q (E σ)) : tCallS sp E t σ H Q := h
def XFK (a : Addr) (cls : Value) (d : Option Addr) (C : Addr) (f : Str) (x : V) (H1 : Hp) (Q : VK) : Prop := x = .ref a ∧ cls = .ref C ∧ ∃ (dd : Addr) (fs : List (Str × V)) (v : V), d = some dd ∧ H1 dd = some (.xd fs) ∧ fs.lookup f = some v ∧ Q v H1
theorem i_xf {a C : Addr} {cls : Value} {d : Option Addr} {f : Str} {te : TE} {σ : L2.St} {H : Hp} {Q : VK} (h : te σ H fun x H1 => XFK a cls d C f x H1 Q) : tXf a cls d C f te σ H Q := h
theorem i_xfk {a C dd : Addr} {f : Str} {H1 : Hp} {Q : VK} {fs : List (Str × V)} {v : V} (e : H1 dd = some (.xd fs)) (l : fs.lookup f = some v) (q : Q v H1) : XFK a (.ref C) (some dd) C f (.ref a) H1 Q := ⟨rfl, rfl, dd, fs, v, rfl, e, l, q⟩
def RVK (K : PySem.W.Frag) (x : V) (H1 : Hp) (Q : VK) : Prop := ∃ a xs, x = .ref a ∧ SqL K H1 a xs ∧ ∀ p, H1 p = none → Q (.ref p) (upd H1 p (.lst xs.reverse))
theorem i_revL {K : PySem.W.Frag} {te : TE} {σ : L2.St} {H : Hp} {Q : VK} (h : te σ H fun x H1 => RVK K x H1 Q) : tRevL K te σ H Q := h
theorem i_rvk {K : PySem.W.Frag} {H1 : Hp} {Q : VK} {a : Addr} {xs : List V} (s : SqL K H1 a xs) (q : ∀ p H', H1 p = none → Same H1 H' → H' p = some (.lst xs.reverse) → Q (.ref p) H') : RVK K (.ref a) H1 Q := ⟨a, xs, rfl, s, fun p hp => q p _ hp (same_new hp _) upd_same⟩
theorem pe_revLU {X : Cx} (K : PySem.W.Frag) {e : Expr} {te : TE} {k : Nat} {p1 p2 p3 pos : Pos} (he : PE X e te) (h : X.K = K := by rfl) : PE X (.Subscript e (.Slice none none (some (.UnaryOp .USub (.Constant (.int 1) k p1) p2)) p3) pos) (tRevL K te) := h ▸ pe_revL he
theorem Dts.reverse {K : PySem.W.Frag} {H : Hp} : ∀ {ds : List PyData} {vs : List V}, Dts K H ds vs → Dts K H ds.reverse vs.reverse
  | [], _, h => by rw [h.nil]; exact dts_nil
  | d :: ds, _, h => by
    obtain ⟨v, r, rfl, hv, hr⟩ := h.cons
    rw [List.reverse_cons, List.reverse_cons]
    exact (Dts.reverse hr).snoc hv
theorem PrsOk.reverse {prs : Prs} (h : PrsOk prs) : PrsOk prs.reverse where
  nm := fun p hp => h.nm p (List.mem_reverse.mp hp)
  sr := fun p hp => h.sr p (List.mem_reverse.mp hp)
  nd := by
    unfold names
    rw [List.map_reverse]
    exact (List.reverse_perm _).nodup_iff.mpr h.nd
  ln := by rw [List.length_reverse]; exact h.ln
end Aw

namespace Aw
open PySem PySem.Spec PyProof.Rows L2

local macro_rules | `(tactic| walk_at "rd1") => `(tactic| first
  | ((with_reducible apply i_var); exact rfl)
  | with_reducible refine i_c ?_
  | with_reducible refine i_op ?_
  | with_reducible refine i_un ?_
  | with_reducible refine i_test ?_
  | with_reducible refine i_tB ?_
  | with_reducible refine i_bl ?_
  | with_reducible refine i_and ?_
  | with_reducible refine i_or ?_
  | with_reducible refine i_not ?_
  | with_reducible refine i_andV ?_
  | with_reducible refine i_orV ?_
  | with_reducible refine i_notV ?_
  | with_reducible refine i_if ?_
  | with_reducible refine i_chain ?_
  | with_reducible refine i_nil ?_
  | with_reducible refine i_cons ?_
  | with_reducible refine i_tup ?_
  | with_reducible refine i_lst ?_
  | with_reducible refine i_cb ?_
  | with_reducible refine i_call ?_
  | with_reducible refine i_bm ?_
  | with_reducible refine i_m1 ?_
  | with_reducible refine i_m0 ?_
  | with_reducible refine i_exstr ?_
  | with_reducible refine i_sl ?_
  | with_reducible refine i_nopart ?_
  | with_reducible refine i_part ?_
  | with_reducible refine i_int ?_
  | with_reducible refine i_seq ?_
  | with_reducible refine i_next ?_
  | with_reducible refine i_asg ?_
  | with_reducible refine i_gname ?_
  | with_reducible refine i_ret ?_
  | with_reducible refine i_retN ?_
  | with_reducible refine i_drop ?_
  | with_reducible refine i_ifS ?_
  | with_reducible refine i_break ?_
  | with_reducible refine i_cont ?_
  | ((with_reducible apply i_aug); exact rfl)
  | with_reducible refine i_add_i ?_
  | with_reducible refine i_sub ?_
  | with_reducible refine i_neg ?_
  | with_reducible refine i_ipadd_i ?_
  | with_reducible refine i_ip ?_
  | with_reducible refine i_lt ?_
  | with_reducible refine i_le ?_
  | with_reducible refine i_gt ?_
  | with_reducible refine i_ge ?_
  | with_reducible refine i_lt_s ?_
  | with_reducible refine i_le_s ?_
  | with_reducible refine i_gt_s ?_
  | with_reducible refine i_ge_s ?_
  | with_reducible refine i_isN ?_
  | with_reducible refine i_notN ?_
  | with_reducible refine i_in_c ?_
  | with_reducible refine i_nin_c ?_
  | with_reducible refine i_gsub ?_
  | with_reducible refine i_gcons ?_
  | with_reducible refine i_gnil ?_
  | with_reducible refine i_iList ?_
  | with_reducible refine i_iTup ?_
  | with_reducible refine i_iStr ?_
  | with_reducible refine i_iRng1 ?_
  | with_reducible refine i_lc ?_
  | with_reducible refine i_for ?_
  | with_reducible refine i_yes ?_
  | with_reducible refine i_repl ?_
  | with_reducible refine i_meth ?_
  | with_reducible refine i_fld ?_
  | with_reducible refine i_sfld ?_
  | with_reducible refine i_din ?_
  | with_reducible refine i_dnin ?_
  | with_reducible refine i_dget ?_
  | with_reducible refine i_dput ?_
  | with_reducible refine i_joined ?_
  | with_reducible refine i_callS ?_
  | with_reducible refine i_xf ?_
  | with_reducible refine i_revL ?_
  | with_reducible refine i_items ?_
  | with_reducible refine i_stepL ?_
  | with_reducible refine i_make ?_
  | with_reducible refine i_fmt ?_
  | with_reducible refine i_jcons ?_
  | with_reducible refine i_jnil ?_
  | with_reducible refine i_iEnum ?_
  | with_reducible refine iteT ?_
  | with_reducible refine iteF ?_
  | with_reducible refine iteNT ?_
  | with_reducible refine iteNF ?_
  | ((with_reducible refine i_len_s ?_ ?_); (first | assumption | exact szl (by assumption)))
  | ((with_reducible refine i_sl_s ?_ ?_); (first | assumption | exact szl (by assumption)))
  | with_reducible refine i_int_b ?_
  | with_reducible refine i_abs ?_
  | with_reducible refine i_min2 ?_
  | with_reducible refine i_eq rfl ?_
  | with_reducible refine i_ne rfl ?_)
local macro_rules | `(tactic| walk_at "rd") => `(tactic| repeat walk_at "rd1")

abbrev s__law_sixty : Stmt := topS 54
theorem sc__law_sixty : FnScope ["cell", "pot", "rows", "k", "text", "project", "row", "e"] ["cell"] (defScope s__law_sixty) := ⟨rfl, rfl, rfl, by decide +kernel, rfl, by decide +kernel, by decide +kernel⟩
abbrev s_law : Stmt := topS 55
theorem sc_law : FnScope ["script", "pairs", "empty"] ["script"] (defScope s_law) := ⟨rfl, rfl, rfl, by decide +kernel, rfl, by decide +kernel, by decide +kernel⟩
section
variable {P : Program} {w : World} {K : PySem.W.Frag} {mg : Str → Option Value} {base : Heap}
def nmK (k : Nat) : Str := Str.ofString "n" ++ Str.ofString (toString (100 + (k : Int)))
def nms60 : List Str := (List.range 60).map nmK
theorem nms60_ok : nms60.Nodup ∧ (∀ n ∈ nms60, nameOk n = true) ∧ nms60.Pairwise (fun a b => leS a b = true) := by decide +kernel
theorem nmK_line (k : Nat) (z : List Nat) : (((Str.ofString "leaf n" ++ Str.ofString (toString (100 + (k : Int)))) ++ Str.ofString " ") ++ S z) ++ Str.ofString "\n" = S (Str.cps (Str.ofString "leaf") |>.toList |> (· ++ 32 :: ((nmK k).cps.toList ++ 32 :: z) ++ [10])) := S_ext (by
  unfold nmK
  simp only [app_list, S_list, List.append_assoc]
  show [108, 101, 97, 102, 32, 110] ++ (_ ++ ([32] ++ (_ ++ [10]))) = [108, 101, 97, 102] ++ (32 :: (([110] ++ _) ++ 32 :: _) ++ [10])
  simp)
theorem srtP_nil : srtP [] = [] := by simp [srtP, srtN, names]
theorem num3 (k : Nat) (h : k < 60) : (Str.ofString (toString (100 + (k : Int)))).length ≤ 3 := by
  have : ∀ k : Fin 60, (Str.ofString (toString (100 + ((k : Nat) : Int)))).length ≤ 3 := by decide +kernel
  exact this ⟨k, h⟩
def spSixty : Sp := fun vs H Q _ => ∃ c : Int, vs = [.int c] ∧ ∀ H', Same H H' → Q (.bl true) H'
theorem ok_sixty {C CB : Addr} (D : Df K mg "_law_sixty" "_law_sixty" s__law_sixty ["cell"]) (T : PCls K mg C) (TB : XCls K mg "BadText" "row" CB) (B : NoB mg) (M_sources : CalM P w K mg base CX0 C "sources" ["self"] 1 (spPrSources K C)) (C__law_pot : Cal P w K mg base CX0 "_law_pot" ["cell", "salt"] 1 spPot)
    (C__law_any_tree : Cal P w K mg base CX0 "_law_any_tree" ["pot", "deep"] 7 (spAnyTree K 4)) (C__law_written : Cal P w K mg base CX0 "_law_written" ["tree"] 14 (spTreeText K 13)) (C_project_text : Cal P w K mg base CX0 "project_text" ["project"] 15 (spProjectText K C))
    (C_read_project : Cal P w K mg base (L2.CX P w) "read_project" ["text"] 32 (spReadProject K C CB)) : Cal P w K mg base CX0 "_law_sixty" ["cell"] 33 spSixty := by
  refine D.cal fun f fd F => F.ok sc__law_sixty (fun vs H Q E h => ?_) (fun cdv A outer s H vs Q E hr h => ?_)
  · obtain ⟨_, rfl, _⟩ := h
    rfl
  · obtain ⟨c, rfl, q⟩ := h
    refine ⟨_, (pss_cons (ps_set (i := 1) sc__law_sixty.nd rfl (.inl rfl) (pe_cal C__law_pot hr (by rfl) (pa_cons (pv 0) (pa_cons pe_int pa_nil))))
      (pss_cons (ps_set (i := 2) sc__law_sixty.nd rfl (.inl rfl) (pe_lst pa_nil))
      (pss_cons (ps_for PassesOwn.never rfl (pi_range1 (by rfl) B.m_range (pa_cons pe_int pa_nil)) (pg_name (i := 3) sc__law_sixty.nd rfl (.inl rfl)) (pss_one (ps_expr (pe_bmU K PySem.F.plainAttrs_list PySem.F.slot_list_append PySem.F.type_list_append mt_append (pv 2) (pa_cons (pe_op (op_addU K) (pe_op (op_addU K) (pe_op (op_addU K) (pe_op (op_addU K) pe_str (pe_callTy call_strU (by rfl) B.m_str (by decide +kernel) (pa_cons (pe_op (op_addU K) pe_int (pv 3)) pa_nil))) pe_str) (pe_cal C__law_written hr (by rfl) (pa_cons (pe_cal C__law_any_tree hr (by rfl) (pa_cons (pv 1) (pa_cons pe_int pa_nil))) pa_nil))) pe_str) pa_nil)))))
      (pss_cons (ps_set (i := 4) sc__law_sixty.nd rfl (.inl rfl) (pe_joinU K pe_str (pv 2)))
      (pss_cons (ps_set (i := 5) sc__law_sixty.nd rfl (.inl rfl) (pe_calE C_read_project hr (by rfl) passL (pa_cons (pv 4) pa_nil)))
      (pss_cons (ps_if (PW.pt (pw_or (pt_cmpR (op_neU K hr.units) (pe_callB (call_lenU K) (by rfl) B.m_len (by decide +kernel) (pa_cons (pe_mcal0 M_sources T.cl hr (pv 5)) pa_nil)) pe_int (nomark _)) (pw_or1 (pt_cmpR (op_neU K hr.units) (pe_cal C_project_text hr (by rfl) (pa_cons (pv 5) pa_nil)) (pv 4) (nomark _))))) (pss_one (ps_ret pe_bl)) pss_nil)
      (pss_cons (ps_set (i := 6) sc__law_sixty.nd rfl (.inl rfl) pe_int)
      (pss_cons (ps_try_as (i := 7) rfl rfl sc__law_sixty.nd rfl rfl ⟨rfl, by decide, .inl TB.hm⟩ takes0 (fun W pn xe tk _ => (pss_one (ps_expr (pe_calS C_read_project hr (by rfl) (fun σ => passAt tk σ) (pa_cons (pe_op (op_addU K) (pv 4) (pe_ix (ix_U K) (pe_lst (pa_cons pe_str (pa_cons pe_str (pa_cons pe_str pa_nil)))) (pe_op op_modU (pv 0) pe_int) (fun _ _ => rfl))) pa_nil))))) (fun a oe cls d pn hz hf => (pss_one (ps_set (i := 6) sc__law_sixty.nd rfl (.inl rfl) (pe_xf TB.xf TB.nf hz hf (pv 7))))))
      (pss_one (ps_ret (pe_cmpR (op_eqU K hr.units) (pv 6) pe_int (nomark _)))))))))))), ?_⟩
    walk_at "rd"
    refine ⟨c, 7, rfl, by decide, fun H1 p n1 s1 p1 => ?_⟩
    walk_at "rd"
    refine i_new_l (by exact Nat.zero_le _) fun lr H2 n2 s2 e2 => ?_
    walk_at "rd"
    have p2 := p1.same s2
    have hlp : lr ≠ p := by
      obtain ⟨k, e⟩ := p1
      exact fun z => (ne_of_none e n2) z.symm
    have nrH := none_back s1 n2
    refine f_range (n := 60) (by decide) (fun i σ H3 => ∃ (prs : Prs) (y1 : Option V), σ = [some (.int c), some (.ref p), some (.ref lr), y1, none, none, none, none] ∧ Same H H3 ∧ Pot H3 p ∧ names prs = nms60.take i ∧ prs.length = i ∧ (∀ q ∈ prs, nameOk q.1 = true ∧ q.2.ok) ∧ H3 lr = some (.lst (prs.map fun p => .str (S (lineOf p ++ [10]))))) ?_ ?_ ?_ rfl
    · exact ⟨[], none, rfl, s1.trans s2, p2, rfl, rfl, by simp, e2⟩
    · rintro i σ H3 hi ⟨prs, y1, rfl, s3, p3, hnm, hl, hpo, e3⟩
      walk_at "rd"
      refine i_tyl e3 ?_
      walk_at "rd"
      refine i_str_i (by
        have : (100 + (i : Int)).natAbs.log2 ≤ (100 + (i : Int)).natAbs := Nat.log2_le_self _
        omega) ?_
      have hn3 := num3 i hi
      refine i_add_s (szl (by show 6 + _ ≤ _; omega)) ?_
      walk_at "rd"
      refine i_add_s (szl (by rw [app_len]; show 6 + _ + 1 ≤ _; omega)) ?_
      walk_at "rd"
      refine ⟨p, 1, rfl, p3, by decide, by decide, fun H4 v d b4 p4 hv hg => ?_⟩
      walk_at "rd"
      have hgs := hg.sz
      have hgd := hg.dp
      have hgs' : tsize d ≤ 16 := hgs
      refine ⟨v, d, rfl, hv, hg.g, by omega, by omega, fun H5 s5 => ?_⟩
      have hwl := wr_len d hg.g
      refine i_add_s (szl (by rw [app_len, app_len, S_len]; show 6 + _ + 1 + _ ≤ _; omega)) ?_
      walk_at "rd"
      refine i_add_s (szl (by rw [app_len, app_len, app_len, S_len]; show 6 + _ + 1 + _ + 1 ≤ _; omega)) ?_
      rw [nmK_line]
      walk_at "rd"
      have hne : ¬ (Str.ofString "leaf") = "made" := by decide
      have hsr : (⟨"leaf", d⟩ : Src).ok := .inr ⟨.inl rfl, (hg.mono (show 1 + 1 ≤ 12 by decide) (show anySz 1 ≤ 600 by decide)).ok (by decide) (by decide)⟩
      have hline : S ((Str.ofString "leaf").cps.toList ++ 32 :: ((nmK i).cps.toList ++ 32 :: wr d) ++ [10]) = S (lineOf (nmK i, ⟨"leaf", d⟩) ++ [10]) := by
        unfold lineOf
        rw [what_tree (s := ⟨"leaf", d⟩) hne]
      have e5 := s5 _ _ (b4 _ _ hlp e3)
      refine i_append e5 (szlt (by rw [List.length_map]; omega)) fun H6 b6 e6 => ?_
      walk_at "rd"
      have hgi : nms60[i]? = some (nmK i) := by
        unfold nms60
        rw [List.getElem?_map, List.getElem?_range hi]
        rfl
      have hmem : nmK i ∈ nms60 := List.mem_of_getElem? hgi
      have n1H : H p = none := n1
      refine ⟨prs ++ [(nmK i, ⟨"leaf", d⟩)], _, rfl, Same.but ((Same.but s3 n1H b4).trans s5) nrH b6, (p4.same s5).but b6 (Ne.symm hlp), ?_, by rw [List.length_append, hl]; rfl, ?_, ?_⟩
      · unfold names at hnm ⊢
        rw [List.map_append, hnm, take_snoc hgi]
        first | rfl | done
      · intro q hq
        rcases List.mem_append.mp hq with hq | hq
        · exact hpo q hq
        · rw [List.mem_singleton.mp hq]
          exact ⟨nms60_ok.2.1 _ hmem, hsr⟩
      · rw [e6, List.map_append]
        show some (HO.lst (_ ++ [V.str _])) = some (HO.lst (_ ++ [V.str _]))
        rw [← hline]
    · rintro σ H3 ⟨prs, y1, rfl, s3, p3, hnm, hl, hpo, e3⟩
      have hl60 : nms60.length = 60 := by unfold nms60; rw [List.length_map, List.length_range]
      rw [List.take_of_length_le (by omega)] at hnm
      have hok : PrsOk prs := ⟨fun q hq => (hpo q hq).1, fun q hq => (hpo q hq).2, by rw [hnm]; exact nms60_ok.1, by omega⟩
      have hsr : srtP prs = prs := by
        refine (srtP_unique hok.nd (fun q hq => hq) ?_).symm
        exact srtN_unique (.refl _) (by rw [hnm]; exact nms60_ok.2.2)
      have hpl := prTxt_len hok
      have e4 : (prs.map fun p => V.str (S (lineOf p ++ [10]))) = (prs.map fun p => S (lineOf p ++ [10])).map V.str := by rw [List.map_map]; rfl
      rw [e4] at e3
      walk_at "rd"
      refine i_join (.inl (.inl (.inl e3))) (by rw [prTxt_sum]; show _ + _ * 0 ≤ _; omega) ?_
      rw [prTxt_join]
      walk_at "rd"
      refine ⟨prs, [[]], ?_, hok, hsr, .inl ⟨rfl, fun H4 p4 s4 ip => ?_⟩⟩
      · rw [inter_prs _ (by simp)]
        show [V.str (S (prTxt prs))] ++ [] = [V.str (S (prTxt prs ++ []))]
        rw [List.append_nil, List.append_nil]
      walk_at "rd"
      obtain ⟨dx, t, kvs, f1, f2, f3⟩ := id ip
      refine i_mk f1 rfl ?_
      walk_at "rd"
      refine ⟨p4, prs, rfl, ip, hok, fun H5 v s5 hv => ?_⟩
      obtain ⟨a5, x5, rfl, hs5, hq5⟩ := hv.tup
      have hl5 := hq5.length
      rw [List.length_map, hsr, hl] at hl5
      walk_at "rd"
      refine i_len_t hs5 ?_
      walk_at "rd"
      rw [hl5, decI, decide_eq_true (p := ((60 : Nat) : Int) = 60) rfl]
      walk_at "rd"
      refine ⟨p4, prs, rfl, ip.same s5, hok, fun H6 s6 => ?_⟩
      rw [hsr]
      walk_at "rd"
      rw [decide_eq_true rfl]
      walk_at "rd"
      have s36 := s4.trans (s5.trans s6)
      have s06 := s3.trans s36
      refine i_new_l (by show 3 ≤ sizeLine; decide) fun l7 H7 n7 s7 e7 => ?_
      walk_at "rd"
      refine i_mod (by decide) ?_
      walk_at "rd"
      obtain ⟨d, hd, hd3⟩ := dig c (m := 3) (by decide)
      have hd : c.fmod 3 = (d : Int) := hd
      rw [hd]
      have s07 := s06.trans s7
      have end0 : ∀ (z : Str) (tl : List (List Nat)), ([V.str (Str.ofString "made o a\n"), V.str (Str.ofString "made o a\nx\n"), V.str (Str.ofString "leaf o ()")] : List V)[d]? = some (.str z) → z.length ≤ 20 → tl ≠ [] → z.cps.toList = inter [10] tl →
          ((∃ (p : Str × Src) (more : List (List Nat)) (l : List Nat), tl = lineOf p :: (more ++ [l]) ∧ (∀ q ∈ more ++ [l], 10 ∉ q) ∧ (inter [10] (more ++ [l])).length ≤ 1000 ∧ nameOk p.1 = true ∧ p.2.ok) ∨ (∃ l : List Nat, tl = [l] ∧ l ≠ [] ∧ 10 ∉ l ∧ l.length ≤ 1000)) →
          rIx K (V.ref l7) (V.int d) H7 fun y H2 => rAddU K (V.str (S (prTxt prs))) y H2 fun x H1 => spReadProject K C CB [x] H1
            (fun x H1 => tRet (tOp (rEqU K) (tVar 6) (tC (V.int 61))) { nx := fun x H' => Q V.non H', rt := Q } [some (.int c), some (.ref p), some (.ref lr), y1, some (.str (S (prTxt prs))), some (.ref p4), some (.int 0), none] H1)
            (WE (wAs K (Value.ref CB) 7 (fun a cls d => tAsg (tXf a cls d CB (Str.ofString "row") (tVar 7)) (gName 6)) (fun x x_1 x_2 x_3 => False)
              { nx := tRet (tOp (rEqU K) (tVar 6) (tC (V.int 61))) { nx := fun x H' => Q V.non H', rt := Q }, rt := Q }) [some (.int c), some (.ref p), some (.ref lr), y1, some (.str (S (prTxt prs))), some (.ref p4), some (.int 0), none]) := by
        intro z tl hz hzl htl hzt hcase
        refine i_ix_l (.inl (.inl e7)) (atI_nat hz) ?_
        refine i_add_s (szM (by rw [S_len]; omega)) ?_
        have ht : S (prTxt prs) ++ z = S (inter [10] (prs.map lineOf ++ tl)) := S_ext (by rw [app_list, S_list, S_list, inter_prs prs htl, hzt])
        rw [ht]
        have hE : ∀ dd H', H7 dd = none → Same H7 H' → H' dd = some (.xd [("row", .int 61)]) → WE (wAs K (Value.ref CB) 7 (fun a cls d => tAsg (tXf a cls d CB (Str.ofString "row") (tVar 7)) (gName 6)) (fun x x_1 x_2 x_3 => False)
              { nx := tRet (tOp (rEqU K) (tVar 6) (tC (V.int 61))) { nx := fun x H' => Q V.non H', rt := Q }, rt := Q }) [some (.int c), some (.ref p), some (.ref lr), y1, some (.str (S (prTxt prs))), some (.ref p4), some (.int 0), none] (.ref CB) (some dd) H' := by
          intro dd H' nd s8 e8
          refine ⟨true, TB.te, fun _ a ha => ?_, fun q => Bool.noConfusion q⟩
          walk_at "rd"
          refine i_xfk e8 rfl ?_
          walk_at "rd"
          rw [decI, decide_eq_true rfl]
          exact q H' (s07.trans s8)
        rcases hcase with ⟨p', more, l, h1, h2, h3, h4, h5⟩ | ⟨l, h1, h2, h3, h4⟩
        · exact ⟨prs, tl, rfl, hok, hsr, .inr (.inl ⟨hl, p', more, l, h1, h2, h3, h4, h5, hE⟩)⟩
        · refine ⟨prs, tl, rfl, hok, hsr, .inr (.inr ⟨l, h1, h2, h3, h4, fun dd H' a1 a2 a3 => hE dd H' a1 a2 ?_⟩)⟩
          rw [hl] at a3
          exact a3
      have o1 : (⟨"made", .str "a"⟩ : Src).ok := .inl ⟨rfl, _, rfl, by decide +kernel⟩
      match d, hd3, end0 with
      | 0, _, end0 => exact end0 (Str.ofString "made o a\n") (lineOf (Str.ofString "o", ⟨"made", .str "a"⟩) :: ([] ++ [[]])) rfl (by decide +kernel) (by simp) (by decide +kernel) (.inl ⟨_, [], [], rfl, by simp, by decide, by decide +kernel, o1⟩)
      | 1, _, end0 => exact end0 (Str.ofString "made o a\nx\n") (lineOf (Str.ofString "o", ⟨"made", .str "a"⟩) :: ([[120]] ++ [[]])) rfl (by decide +kernel) (by simp) (by decide +kernel) (.inl ⟨_, [[120]], [], rfl, by simp, by decide, by decide +kernel, o1⟩)
      | 2, _, end0 => exact end0 (Str.ofString "leaf o ()") [(Str.ofString "leaf o ()").cps.toList] rfl (by decide +kernel) (by simp) rfl (.inr ⟨_, rfl, by decide +kernel, by decide +kernel, by decide +kernel⟩)
def spLaw (K : PySem.W.Frag) : Sp := fun vs H Q _ => ∃ (a : Addr) (ns : List Int), vs = [.ref a] ∧ SqL K H a (ns.map V.int) ∧ ∀ H', Q (.bl true) H'
theorem ok_law {C CB f : Addr} {fd : FuncData} (F : Fun K "law" "law" s_law f fd) (T : PCls K mg C) (TI : InsC K C) (g_Project : GV mg "Project" (.ref C)) (B : NoB mg) (M_sources : CalM P w K mg base CX0 C "sources" ["self"] 1 (spPrSources K C)) (C__law_many : Cal P w K mg base CX0 "_law_many" ["script"] 8 (spSources K))
    (C__law_sources : Cal P w K mg base CX0 "_law_sources" ["script"] 7 (spSources K)) (C__law_sixty : Cal P w K mg base CX0 "_law_sixty" ["cell"] 33 spSixty) (C__law_right : Cal P w K mg base CX0 "_law_right" ["pairs"] 33 (spRight K)) (C_project_text : Cal P w K mg base CX0 "project_text" ["project"] 15 (spProjectText K C))
    (C_read_project : Cal P w K mg base (L2.CX P w) "read_project" ["text"] 32 (spReadProject K C CB)) : FnOk P w K mg base CX0 34 f fd ["script"] (spLaw K) := by
  refine F.ok sc_law (fun vs H Q E h => ?_) (fun cdv A outer s H vs Q E hr h => ?_)
  · obtain ⟨_, _, rfl, _⟩ := h
    rfl
  · obtain ⟨a, ns, rfl, hs, q⟩ := h
    refine ⟨_, (pss_cons (ps_set (i := 1) sc_law.nd rfl (.inl rfl) (pe_cal C__law_many hr (by rfl) (pa_cons (pv 0) pa_nil)))
      (pss_cons (ps_set (i := 2) sc_law.nd rfl (.inl rfl) (pe_calE C_read_project hr (by rfl) passL (pa_cons pe_str pa_nil)))
      (pss_cons (ps_if (PW.pt (pw_or (pt_not (pt_val (pe_callB (call_isiU K) (by rfl) B.m_isinstance (by decide +kernel) (pa_cons (pv 2) (pa_cons (pe_gv (by rfl) g_Project) pa_nil))))) (pw_or (pt_cmpR (op_neU K hr.units) (pe_mcal0 M_sources T.cl hr (pv 2)) (pe_tup pa_nil) (nomark _)) (pw_or1 (pt_cmpR (op_neU K hr.units) (pe_cal C_project_text hr (by rfl) (pa_cons (pv 2) pa_nil)) pe_str (nomark _)))))) (pss_one (ps_ret pe_bl)) pss_nil)
      (pss_cons (ps_if (pt_not (pt_val (pe_cal C__law_sixty hr (by rfl) (pa_cons (pe_callB (call_sumU K rfl) (by rfl) B.m_sum (by decide +kernel) (pa_cons (pv 0) pa_nil)) pa_nil)))) (pss_one (ps_ret pe_bl)) pss_nil)
      (pss_one (ps_ret (pe_and (pe_cal C__law_right hr (by rfl) (pa_cons (pe_cal C__law_sources hr (by rfl) (pa_cons (pv 0) pa_nil)) pa_nil)) (pe_and (pe_cal C__law_right hr (by rfl) (pa_cons (pv 1) pa_nil)) (pe_one (pe_cal C__law_right hr (by rfl) (pa_cons (pe_revLU K (pv 1)) pa_nil))))))))))), ?_⟩
    have ok0 : PrsOk [] := ⟨by simp, by simp, List.nodup_nil, Nat.zero_le _⟩
    walk_at "rd"
    refine ⟨a, ns, rfl, hs, fun H1 l prs xs s1 n1 e1 hd hok => ?_⟩
    walk_at "rd"
    refine ⟨[], [[]], rfl, ok0, srtP_nil, .inl ⟨rfl, fun H2 p s2 ip => ?_⟩⟩
    walk_at "rd"
    obtain ⟨dx, t, kvs, f1, f2, f3⟩ := id ip
    refine i_isiC TI T.cl f1 ?_
    walk_at "rd"
    refine i_mk f1 rfl ?_
    walk_at "rd"
    refine ⟨p, [], rfl, ip, ok0, fun H3 v s3 hv => ?_⟩
    rw [srtP_nil] at hv
    walk_at "rd"
    refine i_new_t (by exact Nat.zero_le _) fun t4 H4 n4 s4 e4 => ?_
    refine i_ne_t (hv.mono (.same s4)) (dt_nul e4) (by simp) (by simp) ?_
    rw [show PyData.eqvAll (List.map prPy []) [] = true from rfl]
    walk_at "rd"
    refine ⟨p, [], rfl, (ip.same s3).same s4, ok0, fun H5 s5 => ?_⟩
    rw [srtP_nil]
    walk_at "rd"
    rw [decS, show decide (S (prTxt []) = Str.ofString "") = true from rfl]
    walk_at "rd"
    have s05 : Same H1 H5 := s2.trans (s3.trans (s4.trans s5))
    refine i_sum ((s1.trans s05).seq hs) ?_
    walk_at "rd"
    refine ⟨_, rfl, fun H6 s6 => ?_⟩
    walk_at "rd"
    have s06 := s05.trans s6
    refine ⟨a, ns, rfl, (s1.trans s06).seq hs, fun H7 l7 prs7 xs7 s7 n7 e7 hd7 hok7 => ?_⟩
    walk_at "rd"
    refine ⟨l7, xs7, prs7, rfl, e7, hd7, hok7, fun H8 s8 => ?_⟩
    walk_at "rd"
    have s08 := s06.trans (s7.trans s8)
    refine ⟨l, xs, prs, rfl, s08 _ _ e1, hd.mono (.same s08), hok, fun H9 s9 => ?_⟩
    walk_at "rd"
    have s09 := s08.trans s9
    refine i_rvk (.inl (.inl (s09 _ _ e1))) fun l10 H10 n10 s10 e10 => ?_
    walk_at "rd"
    have hd10 := (hd.mono (.same (s09.trans s10))).reverse
    rw [← List.map_reverse] at hd10
    exact ⟨l10, xs.reverse, prs.reverse, rfl, e10, hd10, hok.reverse, fun H11 _ => q H11⟩
end
end Aw

namespace Aw
open PySem PySem.Spec PyProof.Rows L2

theorem df_is_plain {K : PySem.W.Frag} {h : Heap} {mg : Str → Option Value} (X : K.In h) (G : h.Ns mainGlobals mg) {f : Addr} {od an : Option Addr} {sl : Array (Option Value)} {oc kV dc pm cd ct : Value} (a : PySem.W.nsIn K mainGlobals "is_plain" = some (some (.ref f))) (l : K.lookup f = some ⟨oc, od, .func (PySem.W.fnOf "is_plain" "is_plain" (defArgs s_is_plain) (defBody s_is_plain) (defScope s_is_plain) .none kV dc pm an cd ct), sl⟩) (c : PySem.W.codeIn K cd "is_plain" = true) (k : PySem.W.keepIn K (.ref f) = true) : Df K mg "is_plain" "is_plain" s_is_plain ["value"] := by
  have F := fun_mk (st := s_is_plain) l c k
  exact ⟨f, _, F, PySem.W.mg_of X G a, F.binds (ps := ["value"]) fun _ _ _ _ _ _ us hl => match us, hl with | [_], _ => rfl⟩
theorem df_room_left {K : PySem.W.Frag} {h : Heap} {mg : Str → Option Value} (X : K.In h) (G : h.Ns mainGlobals mg) {f : Addr} {od an : Option Addr} {sl : Array (Option Value)} {oc kV dc pm cd ct : Value} (a : PySem.W.nsIn K mainGlobals "room_left" = some (some (.ref f))) (l : K.lookup f = some ⟨oc, od, .func (PySem.W.fnOf "room_left" "room_left" (defArgs s_room_left) (defBody s_room_left) (defScope s_room_left) .none kV dc pm an cd ct), sl⟩) (c : PySem.W.codeIn K cd "room_left" = true) (k : PySem.W.keepIn K (.ref f) = true) : Df K mg "room_left" "room_left" s_room_left ["value", "deep", "room"] := by
  have F := fun_mk (st := s_room_left) l c k
  exact ⟨f, _, F, PySem.W.mg_of X G a, F.binds (ps := ["value", "deep", "room"]) fun _ _ _ _ _ _ us hl => match us, hl with | [_, _, _], _ => rfl⟩
theorem df_is_tree {K : PySem.W.Frag} {h : Heap} {mg : Str → Option Value} (X : K.In h) (G : h.Ns mainGlobals mg) {f : Addr} {od an : Option Addr} {sl : Array (Option Value)} {oc kV dc pm cd ct : Value} (a : PySem.W.nsIn K mainGlobals "is_tree" = some (some (.ref f))) (l : K.lookup f = some ⟨oc, od, .func (PySem.W.fnOf "is_tree" "is_tree" (defArgs s_is_tree) (defBody s_is_tree) (defScope s_is_tree) .none kV dc pm an cd ct), sl⟩) (c : PySem.W.codeIn K cd "is_tree" = true) (k : PySem.W.keepIn K (.ref f) = true) : Df K mg "is_tree" "is_tree" s_is_tree ["value"] := by
  have F := fun_mk (st := s_is_tree) l c k
  exact ⟨f, _, F, PySem.W.mg_of X G a, F.binds (ps := ["value"]) fun _ _ _ _ _ _ us hl => match us, hl with | [_], _ => rfl⟩
theorem df_is_name {K : PySem.W.Frag} {h : Heap} {mg : Str → Option Value} (X : K.In h) (G : h.Ns mainGlobals mg) {f : Addr} {od an : Option Addr} {sl : Array (Option Value)} {oc kV dc pm cd ct : Value} (a : PySem.W.nsIn K mainGlobals "is_name" = some (some (.ref f))) (l : K.lookup f = some ⟨oc, od, .func (PySem.W.fnOf "is_name" "is_name" (defArgs s_is_name) (defBody s_is_name) (defScope s_is_name) .none kV dc pm an cd ct), sl⟩) (c : PySem.W.codeIn K cd "is_name" = true) (k : PySem.W.keepIn K (.ref f) = true) : Df K mg "is_name" "is_name" s_is_name ["value"] := by
  have F := fun_mk (st := s_is_name) l c k
  exact ⟨f, _, F, PySem.W.mg_of X G a, F.binds (ps := ["value"]) fun _ _ _ _ _ _ us hl => match us, hl with | [_], _ => rfl⟩
theorem df_tree_text {K : PySem.W.Frag} {h : Heap} {mg : Str → Option Value} (X : K.In h) (G : h.Ns mainGlobals mg) {f : Addr} {od an : Option Addr} {sl : Array (Option Value)} {oc kV dc pm cd ct : Value} (a : PySem.W.nsIn K mainGlobals "tree_text" = some (some (.ref f))) (l : K.lookup f = some ⟨oc, od, .func (PySem.W.fnOf "tree_text" "tree_text" (defArgs s_tree_text) (defBody s_tree_text) (defScope s_tree_text) .none kV dc pm an cd ct), sl⟩) (c : PySem.W.codeIn K cd "tree_text" = true) (k : PySem.W.keepIn K (.ref f) = true) : Df K mg "tree_text" "tree_text" s_tree_text ["tree"] := by
  have F := fun_mk (st := s_tree_text) l c k
  exact ⟨f, _, F, PySem.W.mg_of X G a, F.binds (ps := ["tree"]) fun _ _ _ _ _ _ us hl => match us, hl with | [_], _ => rfl⟩
theorem df_text_from {K : PySem.W.Frag} {h : Heap} {mg : Str → Option Value} (X : K.In h) (G : h.Ns mainGlobals mg) {f : Addr} {od an : Option Addr} {sl : Array (Option Value)} {oc kV dc pm cd ct : Value} (a : PySem.W.nsIn K mainGlobals "text_from" = some (some (.ref f))) (l : K.lookup f = some ⟨oc, od, .func (PySem.W.fnOf "text_from" "text_from" (defArgs s_text_from) (defBody s_text_from) (defScope s_text_from) .none kV dc pm an cd ct), sl⟩) (c : PySem.W.codeIn K cd "text_from" = true) (k : PySem.W.keepIn K (.ref f) = true) : Df K mg "text_from" "text_from" s_text_from ["text", "at"] := by
  have F := fun_mk (st := s_text_from) l c k
  exact ⟨f, _, F, PySem.W.mg_of X G a, F.binds (ps := ["text", "at"]) fun _ _ _ _ _ _ us hl => match us, hl with | [_, _], _ => rfl⟩
theorem df_row_from {K : PySem.W.Frag} {h : Heap} {mg : Str → Option Value} (X : K.In h) (G : h.Ns mainGlobals mg) {f : Addr} {od an : Option Addr} {sl : Array (Option Value)} {oc kV dc pm cd ct : Value} (a : PySem.W.nsIn K mainGlobals "row_from" = some (some (.ref f))) (l : K.lookup f = some ⟨oc, od, .func (PySem.W.fnOf "row_from" "row_from" (defArgs s_row_from) (defBody s_row_from) (defScope s_row_from) .none kV dc pm an cd ct), sl⟩) (c : PySem.W.codeIn K cd "row_from" = true) (k : PySem.W.keepIn K (.ref f) = true) : Df K mg "row_from" "row_from" s_row_from ["text", "at", "deep"] := by
  have F := fun_mk (st := s_row_from) l c k
  exact ⟨f, _, F, PySem.W.mg_of X G a, F.binds (ps := ["text", "at", "deep"]) fun _ _ _ _ _ _ us hl => match us, hl with | [_, _, _], _ => rfl⟩
theorem df_tree_from {K : PySem.W.Frag} {h : Heap} {mg : Str → Option Value} (X : K.In h) (G : h.Ns mainGlobals mg) {f : Addr} {od an : Option Addr} {sl : Array (Option Value)} {oc kV dc pm cd ct : Value} (a : PySem.W.nsIn K mainGlobals "tree_from" = some (some (.ref f))) (l : K.lookup f = some ⟨oc, od, .func (PySem.W.fnOf "tree_from" "tree_from" (defArgs s_tree_from) (defBody s_tree_from) (defScope s_tree_from) .none kV dc pm an cd ct), sl⟩) (c : PySem.W.codeIn K cd "tree_from" = true) (k : PySem.W.keepIn K (.ref f) = true) : Df K mg "tree_from" "tree_from" s_tree_from ["text", "at", "deep"] := by
  have F := fun_mk (st := s_tree_from) l c k
  exact ⟨f, _, F, PySem.W.mg_of X G a, F.binds (ps := ["text", "at", "deep"]) fun _ _ _ _ _ _ us hl => match us, hl with | [_, _, _], _ => rfl⟩
theorem df_read_tree {K : PySem.W.Frag} {h : Heap} {mg : Str → Option Value} (X : K.In h) (G : h.Ns mainGlobals mg) {f : Addr} {od an : Option Addr} {sl : Array (Option Value)} {oc kV dc pm cd ct : Value} (a : PySem.W.nsIn K mainGlobals "read_tree" = some (some (.ref f))) (l : K.lookup f = some ⟨oc, od, .func (PySem.W.fnOf "read_tree" "read_tree" (defArgs s_read_tree) (defBody s_read_tree) (defScope s_read_tree) .none kV dc pm an cd ct), sl⟩) (c : PySem.W.codeIn K cd "read_tree" = true) (k : PySem.W.keepIn K (.ref f) = true) : Df K mg "read_tree" "read_tree" s_read_tree ["text"] := by
  have F := fun_mk (st := s_read_tree) l c k
  exact ⟨f, _, F, PySem.W.mg_of X G a, F.binds (ps := ["text"]) fun _ _ _ _ _ _ us hl => match us, hl with | [_], _ => rfl⟩
theorem df_is_source {K : PySem.W.Frag} {h : Heap} {mg : Str → Option Value} (X : K.In h) (G : h.Ns mainGlobals mg) {f : Addr} {od an : Option Addr} {sl : Array (Option Value)} {oc kV dc pm cd ct : Value} (a : PySem.W.nsIn K mainGlobals "is_source" = some (some (.ref f))) (l : K.lookup f = some ⟨oc, od, .func (PySem.W.fnOf "is_source" "is_source" (defArgs s_is_source) (defBody s_is_source) (defScope s_is_source) .none kV dc pm an cd ct), sl⟩) (c : PySem.W.codeIn K cd "is_source" = true) (k : PySem.W.keepIn K (.ref f) = true) : Df K mg "is_source" "is_source" s_is_source ["value"] := by
  have F := fun_mk (st := s_is_source) l c k
  exact ⟨f, _, F, PySem.W.mg_of X G a, F.binds (ps := ["value"]) fun _ _ _ _ _ _ us hl => match us, hl with | [_], _ => rfl⟩
theorem df_tree_written {K : PySem.W.Frag} {h : Heap} {mg : Str → Option Value} (X : K.In h) (G : h.Ns mainGlobals mg) {f : Addr} {od an : Option Addr} {sl : Array (Option Value)} {oc kV dc pm cd ct : Value} (a : PySem.W.nsIn K mainGlobals "tree_written" = some (some (.ref f))) (l : K.lookup f = some ⟨oc, od, .func (PySem.W.fnOf "tree_written" "tree_written" (defArgs s_tree_written) (defBody s_tree_written) (defScope s_tree_written) .none kV dc pm an cd ct), sl⟩) (c : PySem.W.codeIn K cd "tree_written" = true) (k : PySem.W.keepIn K (.ref f) = true) : Df K mg "tree_written" "tree_written" s_tree_written ["text"] := by
  have F := fun_mk (st := s_tree_written) l c k
  exact ⟨f, _, F, PySem.W.mg_of X G a, F.binds (ps := ["text"]) fun _ _ _ _ _ _ us hl => match us, hl with | [_], _ => rfl⟩
theorem df_project_line {K : PySem.W.Frag} {h : Heap} {mg : Str → Option Value} (X : K.In h) (G : h.Ns mainGlobals mg) {f : Addr} {od an : Option Addr} {sl : Array (Option Value)} {oc kV dc pm cd ct : Value} (a : PySem.W.nsIn K mainGlobals "project_line" = some (some (.ref f))) (l : K.lookup f = some ⟨oc, od, .func (PySem.W.fnOf "project_line" "project_line" (defArgs s_project_line) (defBody s_project_line) (defScope s_project_line) .none kV dc pm an cd ct), sl⟩) (c : PySem.W.codeIn K cd "project_line" = true) (k : PySem.W.keepIn K (.ref f) = true) : Df K mg "project_line" "project_line" s_project_line ["line"] := by
  have F := fun_mk (st := s_project_line) l c k
  exact ⟨f, _, F, PySem.W.mg_of X G a, F.binds (ps := ["line"]) fun _ _ _ _ _ _ us hl => match us, hl with | [_], _ => rfl⟩
theorem df_project_text {K : PySem.W.Frag} {h : Heap} {mg : Str → Option Value} (X : K.In h) (G : h.Ns mainGlobals mg) {f : Addr} {od an : Option Addr} {sl : Array (Option Value)} {oc kV dc pm cd ct : Value} (a : PySem.W.nsIn K mainGlobals "project_text" = some (some (.ref f))) (l : K.lookup f = some ⟨oc, od, .func (PySem.W.fnOf "project_text" "project_text" (defArgs s_project_text) (defBody s_project_text) (defScope s_project_text) .none kV dc pm an cd ct), sl⟩) (c : PySem.W.codeIn K cd "project_text" = true) (k : PySem.W.keepIn K (.ref f) = true) : Df K mg "project_text" "project_text" s_project_text ["project"] := by
  have F := fun_mk (st := s_project_text) l c k
  exact ⟨f, _, F, PySem.W.mg_of X G a, F.binds (ps := ["project"]) fun _ _ _ _ _ _ us hl => match us, hl with | [_], _ => rfl⟩
theorem df_ended_lines {K : PySem.W.Frag} {h : Heap} {mg : Str → Option Value} (X : K.In h) (G : h.Ns mainGlobals mg) {f : Addr} {od an : Option Addr} {sl : Array (Option Value)} {oc kV dc pm cd ct : Value} (a : PySem.W.nsIn K mainGlobals "ended_lines" = some (some (.ref f))) (l : K.lookup f = some ⟨oc, od, .func (PySem.W.fnOf "ended_lines" "ended_lines" (defArgs s_ended_lines) (defBody s_ended_lines) (defScope s_ended_lines) .none kV dc pm an cd ct), sl⟩) (c : PySem.W.codeIn K cd "ended_lines" = true) (k : PySem.W.keepIn K (.ref f) = true) : Df K mg "ended_lines" "ended_lines" s_ended_lines ["text"] := by
  have F := fun_mk (st := s_ended_lines) l c k
  exact ⟨f, _, F, PySem.W.mg_of X G a, F.binds (ps := ["text"]) fun _ _ _ _ _ _ us hl => match us, hl with | [_], _ => rfl⟩
theorem df_read_project {K : PySem.W.Frag} {h : Heap} {mg : Str → Option Value} (X : K.In h) (G : h.Ns mainGlobals mg) {f : Addr} {od an : Option Addr} {sl : Array (Option Value)} {oc kV dc pm cd ct : Value} (a : PySem.W.nsIn K mainGlobals "read_project" = some (some (.ref f))) (l : K.lookup f = some ⟨oc, od, .func (PySem.W.fnOf "read_project" "read_project" (defArgs s_read_project) (defBody s_read_project) (defScope s_read_project) .none kV dc pm an cd ct), sl⟩) (c : PySem.W.codeIn K cd "read_project" = true) (k : PySem.W.keepIn K (.ref f) = true) : Df K mg "read_project" "read_project" s_read_project ["text"] := by
  have F := fun_mk (st := s_read_project) l c k
  exact ⟨f, _, F, PySem.W.mg_of X G a, F.binds (ps := ["text"]) fun _ _ _ _ _ _ us hl => match us, hl with | [_], _ => rfl⟩
theorem df__law_cell_at {K : PySem.W.Frag} {h : Heap} {mg : Str → Option Value} (X : K.In h) (G : h.Ns mainGlobals mg) {f : Addr} {od an : Option Addr} {sl : Array (Option Value)} {oc kV dc pm cd ct : Value} (a : PySem.W.nsIn K mainGlobals "_law_cell_at" = some (some (.ref f))) (l : K.lookup f = some ⟨oc, od, .func (PySem.W.fnOf "_law_cell_at" "_law_cell_at" (defArgs s__law_cell_at) (defBody s__law_cell_at) (defScope s__law_cell_at) .none kV dc pm an cd ct), sl⟩) (c : PySem.W.codeIn K cd "_law_cell_at" = true) (k : PySem.W.keepIn K (.ref f) = true) : Df K mg "_law_cell_at" "_law_cell_at" s__law_cell_at ["script", "k"] := by
  have F := fun_mk (st := s__law_cell_at) l c k
  exact ⟨f, _, F, PySem.W.mg_of X G a, F.binds (ps := ["script", "k"]) fun _ _ _ _ _ _ us hl => match us, hl with | [_, _], _ => rfl⟩
theorem df__law_pot {K : PySem.W.Frag} {h : Heap} {mg : Str → Option Value} (X : K.In h) (G : h.Ns mainGlobals mg) {f : Addr} {od an : Option Addr} {sl : Array (Option Value)} {oc kV dc pm cd ct : Value} (a : PySem.W.nsIn K mainGlobals "_law_pot" = some (some (.ref f))) (l : K.lookup f = some ⟨oc, od, .func (PySem.W.fnOf "_law_pot" "_law_pot" (defArgs s__law_pot) (defBody s__law_pot) (defScope s__law_pot) .none kV dc pm an cd ct), sl⟩) (c : PySem.W.codeIn K cd "_law_pot" = true) (k : PySem.W.keepIn K (.ref f) = true) : Df K mg "_law_pot" "_law_pot" s__law_pot ["cell", "salt"] := by
  have F := fun_mk (st := s__law_pot) l c k
  exact ⟨f, _, F, PySem.W.mg_of X G a, F.binds (ps := ["cell", "salt"]) fun _ _ _ _ _ _ us hl => match us, hl with | [_, _], _ => rfl⟩
theorem df__law_take {K : PySem.W.Frag} {h : Heap} {mg : Str → Option Value} (X : K.In h) (G : h.Ns mainGlobals mg) {f : Addr} {od an : Option Addr} {sl : Array (Option Value)} {oc kV dc pm cd ct : Value} (a : PySem.W.nsIn K mainGlobals "_law_take" = some (some (.ref f))) (l : K.lookup f = some ⟨oc, od, .func (PySem.W.fnOf "_law_take" "_law_take" (defArgs s__law_take) (defBody s__law_take) (defScope s__law_take) .none kV dc pm an cd ct), sl⟩) (c : PySem.W.codeIn K cd "_law_take" = true) (k : PySem.W.keepIn K (.ref f) = true) : Df K mg "_law_take" "_law_take" s__law_take ["pot", "many"] := by
  have F := fun_mk (st := s__law_take) l c k
  exact ⟨f, _, F, PySem.W.mg_of X G a, F.binds (ps := ["pot", "many"]) fun _ _ _ _ _ _ us hl => match us, hl with | [_, _], _ => rfl⟩
theorem df__law_word {K : PySem.W.Frag} {h : Heap} {mg : Str → Option Value} (X : K.In h) (G : h.Ns mainGlobals mg) {f : Addr} {od an : Option Addr} {sl : Array (Option Value)} {oc kV dc pm cd ct : Value} (a : PySem.W.nsIn K mainGlobals "_law_word" = some (some (.ref f))) (l : K.lookup f = some ⟨oc, od, .func (PySem.W.fnOf "_law_word" "_law_word" (defArgs s__law_word) (defBody s__law_word) (defScope s__law_word) .none kV dc pm an cd ct), sl⟩) (c : PySem.W.codeIn K cd "_law_word" = true) (k : PySem.W.keepIn K (.ref f) = true) : Df K mg "_law_word" "_law_word" s__law_word ["pot", "names"] := by
  have F := fun_mk (st := s__law_word) l c k
  exact ⟨f, _, F, PySem.W.mg_of X G a, F.binds (ps := ["pot", "names"]) fun _ _ _ _ _ _ us hl => match us, hl with | [_, _], _ => rfl⟩
theorem df__law_line {K : PySem.W.Frag} {h : Heap} {mg : Str → Option Value} (X : K.In h) (G : h.Ns mainGlobals mg) {f : Addr} {od an : Option Addr} {sl : Array (Option Value)} {oc kV dc pm cd ct : Value} (a : PySem.W.nsIn K mainGlobals "_law_line" = some (some (.ref f))) (l : K.lookup f = some ⟨oc, od, .func (PySem.W.fnOf "_law_line" "_law_line" (defArgs s__law_line) (defBody s__law_line) (defScope s__law_line) .none kV dc pm an cd ct), sl⟩) (c : PySem.W.codeIn K cd "_law_line" = true) (k : PySem.W.keepIn K (.ref f) = true) : Df K mg "_law_line" "_law_line" s__law_line ["pot", "names", "many", "k"] := by
  have F := fun_mk (st := s__law_line) l c k
  exact ⟨f, _, F, PySem.W.mg_of X G a, F.binds (ps := ["pot", "names", "many", "k"]) fun _ _ _ _ _ _ us hl => match us, hl with | [_, _, _, _], _ => rfl⟩
theorem df__law_rule {K : PySem.W.Frag} {h : Heap} {mg : Str → Option Value} (X : K.In h) (G : h.Ns mainGlobals mg) {f : Addr} {od an : Option Addr} {sl : Array (Option Value)} {oc kV dc pm cd ct : Value} (a : PySem.W.nsIn K mainGlobals "_law_rule" = some (some (.ref f))) (l : K.lookup f = some ⟨oc, od, .func (PySem.W.fnOf "_law_rule" "_law_rule" (defArgs s__law_rule) (defBody s__law_rule) (defScope s__law_rule) .none kV dc pm an cd ct), sl⟩) (c : PySem.W.codeIn K cd "_law_rule" = true) (k : PySem.W.keepIn K (.ref f) = true) : Df K mg "_law_rule" "_law_rule" s__law_rule ["pot", "names"] := by
  have F := fun_mk (st := s__law_rule) l c k
  exact ⟨f, _, F, PySem.W.mg_of X G a, F.binds (ps := ["pot", "names"]) fun _ _ _ _ _ _ us hl => match us, hl with | [_, _], _ => rfl⟩
theorem df__law_maker {K : PySem.W.Frag} {h : Heap} {mg : Str → Option Value} (X : K.In h) (G : h.Ns mainGlobals mg) {f : Addr} {od an : Option Addr} {sl : Array (Option Value)} {oc kV dc pm cd ct : Value} (a : PySem.W.nsIn K mainGlobals "_law_maker" = some (some (.ref f))) (l : K.lookup f = some ⟨oc, od, .func (PySem.W.fnOf "_law_maker" "_law_maker" (defArgs s__law_maker) (defBody s__law_maker) (defScope s__law_maker) .none kV dc pm an cd ct), sl⟩) (c : PySem.W.codeIn K cd "_law_maker" = true) (k : PySem.W.keepIn K (.ref f) = true) : Df K mg "_law_maker" "_law_maker" s__law_maker ["pot", "names"] := by
  have F := fun_mk (st := s__law_maker) l c k
  exact ⟨f, _, F, PySem.W.mg_of X G a, F.binds (ps := ["pot", "names"]) fun _ _ _ _ _ _ us hl => match us, hl with | [_, _], _ => rfl⟩
theorem df__law_leaf {K : PySem.W.Frag} {h : Heap} {mg : Str → Option Value} (X : K.In h) (G : h.Ns mainGlobals mg) {f : Addr} {od an : Option Addr} {sl : Array (Option Value)} {oc kV dc pm cd ct : Value} (a : PySem.W.nsIn K mainGlobals "_law_leaf" = some (some (.ref f))) (l : K.lookup f = some ⟨oc, od, .func (PySem.W.fnOf "_law_leaf" "_law_leaf" (defArgs s__law_leaf) (defBody s__law_leaf) (defScope s__law_leaf) .none kV dc pm an cd ct), sl⟩) (c : PySem.W.codeIn K cd "_law_leaf" = true) (k : PySem.W.keepIn K (.ref f) = true) : Df K mg "_law_leaf" "_law_leaf" s__law_leaf ["pot", "names"] := by
  have F := fun_mk (st := s__law_leaf) l c k
  exact ⟨f, _, F, PySem.W.mg_of X G a, F.binds (ps := ["pot", "names"]) fun _ _ _ _ _ _ us hl => match us, hl with | [_, _], _ => rfl⟩
theorem df__law_source {K : PySem.W.Frag} {h : Heap} {mg : Str → Option Value} (X : K.In h) (G : h.Ns mainGlobals mg) {f : Addr} {od an : Option Addr} {sl : Array (Option Value)} {oc kV dc pm cd ct : Value} (a : PySem.W.nsIn K mainGlobals "_law_source" = some (some (.ref f))) (l : K.lookup f = some ⟨oc, od, .func (PySem.W.fnOf "_law_source" "_law_source" (defArgs s__law_source) (defBody s__law_source) (defScope s__law_source) .none kV dc pm an cd ct), sl⟩) (c : PySem.W.codeIn K cd "_law_source" = true) (k : PySem.W.keepIn K (.ref f) = true) : Df K mg "_law_source" "_law_source" s__law_source ["pot", "names"] := by
  have F := fun_mk (st := s__law_source) l c k
  exact ⟨f, _, F, PySem.W.mg_of X G a, F.binds (ps := ["pot", "names"]) fun _ _ _ _ _ _ us hl => match us, hl with | [_, _], _ => rfl⟩
theorem df__law_sources {K : PySem.W.Frag} {h : Heap} {mg : Str → Option Value} (X : K.In h) (G : h.Ns mainGlobals mg) {f : Addr} {od an : Option Addr} {sl : Array (Option Value)} {oc kV dc pm cd ct : Value} (a : PySem.W.nsIn K mainGlobals "_law_sources" = some (some (.ref f))) (l : K.lookup f = some ⟨oc, od, .func (PySem.W.fnOf "_law_sources" "_law_sources" (defArgs s__law_sources) (defBody s__law_sources) (defScope s__law_sources) .none kV dc pm an cd ct), sl⟩) (c : PySem.W.codeIn K cd "_law_sources" = true) (k : PySem.W.keepIn K (.ref f) = true) : Df K mg "_law_sources" "_law_sources" s__law_sources ["script"] := by
  have F := fun_mk (st := s__law_sources) l c k
  exact ⟨f, _, F, PySem.W.mg_of X G a, F.binds (ps := ["script"]) fun _ _ _ _ _ _ us hl => match us, hl with | [_], _ => rfl⟩
theorem df__law_signs {K : PySem.W.Frag} {h : Heap} {mg : Str → Option Value} (X : K.In h) (G : h.Ns mainGlobals mg) {f : Addr} {od an : Option Addr} {sl : Array (Option Value)} {oc kV dc pm cd ct : Value} (a : PySem.W.nsIn K mainGlobals "_law_signs" = some (some (.ref f))) (l : K.lookup f = some ⟨oc, od, .func (PySem.W.fnOf "_law_signs" "_law_signs" (defArgs s__law_signs) (defBody s__law_signs) (defScope s__law_signs) .none kV dc pm an cd ct), sl⟩) (c : PySem.W.codeIn K cd "_law_signs" = true) (k : PySem.W.keepIn K (.ref f) = true) : Df K mg "_law_signs" "_law_signs" s__law_signs [] := by
  have F := fun_mk (st := s__law_signs) l c k
  exact ⟨f, _, F, PySem.W.mg_of X G a, F.binds (ps := []) fun _ _ _ _ _ _ us hl => match us, hl with | [], _ => rfl⟩
theorem df__law_any_text {K : PySem.W.Frag} {h : Heap} {mg : Str → Option Value} (X : K.In h) (G : h.Ns mainGlobals mg) {f : Addr} {od an : Option Addr} {sl : Array (Option Value)} {oc kV dc pm cd ct : Value} (a : PySem.W.nsIn K mainGlobals "_law_any_text" = some (some (.ref f))) (l : K.lookup f = some ⟨oc, od, .func (PySem.W.fnOf "_law_any_text" "_law_any_text" (defArgs s__law_any_text) (defBody s__law_any_text) (defScope s__law_any_text) .none kV dc pm an cd ct), sl⟩) (c : PySem.W.codeIn K cd "_law_any_text" = true) (k : PySem.W.keepIn K (.ref f) = true) : Df K mg "_law_any_text" "_law_any_text" s__law_any_text ["pot", "most"] := by
  have F := fun_mk (st := s__law_any_text) l c k
  exact ⟨f, _, F, PySem.W.mg_of X G a, F.binds (ps := ["pot", "most"]) fun _ _ _ _ _ _ us hl => match us, hl with | [_, _], _ => rfl⟩
theorem df__law_any_tree {K : PySem.W.Frag} {h : Heap} {mg : Str → Option Value} (X : K.In h) (G : h.Ns mainGlobals mg) {f : Addr} {od an : Option Addr} {sl : Array (Option Value)} {oc kV dc pm cd ct : Value} (a : PySem.W.nsIn K mainGlobals "_law_any_tree" = some (some (.ref f))) (l : K.lookup f = some ⟨oc, od, .func (PySem.W.fnOf "_law_any_tree" "_law_any_tree" (defArgs s__law_any_tree) (defBody s__law_any_tree) (defScope s__law_any_tree) .none kV dc pm an cd ct), sl⟩) (c : PySem.W.codeIn K cd "_law_any_tree" = true) (k : PySem.W.keepIn K (.ref f) = true) : Df K mg "_law_any_tree" "_law_any_tree" s__law_any_tree ["pot", "deep"] := by
  have F := fun_mk (st := s__law_any_tree) l c k
  exact ⟨f, _, F, PySem.W.mg_of X G a, F.binds (ps := ["pot", "deep"]) fun _ _ _ _ _ _ us hl => match us, hl with | [_, _], _ => rfl⟩
theorem df__law_any_name {K : PySem.W.Frag} {h : Heap} {mg : Str → Option Value} (X : K.In h) (G : h.Ns mainGlobals mg) {f : Addr} {od an : Option Addr} {sl : Array (Option Value)} {oc kV dc pm cd ct : Value} (a : PySem.W.nsIn K mainGlobals "_law_any_name" = some (some (.ref f))) (l : K.lookup f = some ⟨oc, od, .func (PySem.W.fnOf "_law_any_name" "_law_any_name" (defArgs s__law_any_name) (defBody s__law_any_name) (defScope s__law_any_name) .none kV dc pm an cd ct), sl⟩) (c : PySem.W.codeIn K cd "_law_any_name" = true) (k : PySem.W.keepIn K (.ref f) = true) : Df K mg "_law_any_name" "_law_any_name" s__law_any_name ["pot"] := by
  have F := fun_mk (st := s__law_any_name) l c k
  exact ⟨f, _, F, PySem.W.mg_of X G a, F.binds (ps := ["pot"]) fun _ _ _ _ _ _ us hl => match us, hl with | [_], _ => rfl⟩
theorem df__law_written {K : PySem.W.Frag} {h : Heap} {mg : Str → Option Value} (X : K.In h) (G : h.Ns mainGlobals mg) {f : Addr} {od an : Option Addr} {sl : Array (Option Value)} {oc kV dc pm cd ct : Value} (a : PySem.W.nsIn K mainGlobals "_law_written" = some (some (.ref f))) (l : K.lookup f = some ⟨oc, od, .func (PySem.W.fnOf "_law_written" "_law_written" (defArgs s__law_written) (defBody s__law_written) (defScope s__law_written) .none kV dc pm an cd ct), sl⟩) (c : PySem.W.codeIn K cd "_law_written" = true) (k : PySem.W.keepIn K (.ref f) = true) : Df K mg "_law_written" "_law_written" s__law_written ["tree"] := by
  have F := fun_mk (st := s__law_written) l c k
  exact ⟨f, _, F, PySem.W.mg_of X G a, F.binds (ps := ["tree"]) fun _ _ _ _ _ _ us hl => match us, hl with | [_], _ => rfl⟩
theorem df__law_many {K : PySem.W.Frag} {h : Heap} {mg : Str → Option Value} (X : K.In h) (G : h.Ns mainGlobals mg) {f : Addr} {od an : Option Addr} {sl : Array (Option Value)} {oc kV dc pm cd ct : Value} (a : PySem.W.nsIn K mainGlobals "_law_many" = some (some (.ref f))) (l : K.lookup f = some ⟨oc, od, .func (PySem.W.fnOf "_law_many" "_law_many" (defArgs s__law_many) (defBody s__law_many) (defScope s__law_many) .none kV dc pm an cd ct), sl⟩) (c : PySem.W.codeIn K cd "_law_many" = true) (k : PySem.W.keepIn K (.ref f) = true) : Df K mg "_law_many" "_law_many" s__law_many ["script"] := by
  have F := fun_mk (st := s__law_many) l c k
  exact ⟨f, _, F, PySem.W.mg_of X G a, F.binds (ps := ["script"]) fun _ _ _ _ _ _ us hl => match us, hl with | [_], _ => rfl⟩
theorem df__law_right {K : PySem.W.Frag} {h : Heap} {mg : Str → Option Value} (X : K.In h) (G : h.Ns mainGlobals mg) {f : Addr} {od an : Option Addr} {sl : Array (Option Value)} {oc kV dc pm cd ct : Value} (a : PySem.W.nsIn K mainGlobals "_law_right" = some (some (.ref f))) (l : K.lookup f = some ⟨oc, od, .func (PySem.W.fnOf "_law_right" "_law_right" (defArgs s__law_right) (defBody s__law_right) (defScope s__law_right) .none kV dc pm an cd ct), sl⟩) (c : PySem.W.codeIn K cd "_law_right" = true) (k : PySem.W.keepIn K (.ref f) = true) : Df K mg "_law_right" "_law_right" s__law_right ["pairs"] := by
  have F := fun_mk (st := s__law_right) l c k
  exact ⟨f, _, F, PySem.W.mg_of X G a, F.binds (ps := ["pairs"]) fun _ _ _ _ _ _ us hl => match us, hl with | [_], _ => rfl⟩
theorem df__law_sixty {K : PySem.W.Frag} {h : Heap} {mg : Str → Option Value} (X : K.In h) (G : h.Ns mainGlobals mg) {f : Addr} {od an : Option Addr} {sl : Array (Option Value)} {oc kV dc pm cd ct : Value} (a : PySem.W.nsIn K mainGlobals "_law_sixty" = some (some (.ref f))) (l : K.lookup f = some ⟨oc, od, .func (PySem.W.fnOf "_law_sixty" "_law_sixty" (defArgs s__law_sixty) (defBody s__law_sixty) (defScope s__law_sixty) .none kV dc pm an cd ct), sl⟩) (c : PySem.W.codeIn K cd "_law_sixty" = true) (k : PySem.W.keepIn K (.ref f) = true) : Df K mg "_law_sixty" "_law_sixty" s__law_sixty ["cell"] := by
  have F := fun_mk (st := s__law_sixty) l c k
  exact ⟨f, _, F, PySem.W.mg_of X G a, F.binds (ps := ["cell"]) fun _ _ _ _ _ _ us hl => match us, hl with | [_], _ => rfl⟩
theorem dfi_Project___init__ {K : PySem.W.Frag} {h : Heap} {mg : Str → Option Value} {C : Addr} (X : K.In h) (G : h.Ns mainGlobals mg) {f : Addr} {od an : Option Addr} {sl : Array (Option Value)} {oc kV dc pm cd ct : Value} (aC : PySem.W.nsIn K mainGlobals "Project" = some (some (.ref C))) (mk : PySem.W.makesIn K C = true) (a : PySem.W.findIn K (.ref C) "__init__" = some (some (.ref f))) (i : PySem.W.isFn K (.ref f) = true) (l : K.lookup f = some ⟨oc, od, .func (PySem.W.fnOf "__init__" "Project.__init__" (defArgs s_Project___init__) (defBody s_Project___init__) (defScope s_Project___init__) .none kV dc pm an cd ct), sl⟩) (c : PySem.W.codeIn K cd "Project.__init__" = true) (k : PySem.W.keepIn K (.ref f) = true) (kc : PySem.W.keepIn K (.ref C) = true) : DfI K mg C "Project" "Project.__init__" s_Project___init__ ["self", "sources"] := by
  have F := fun_mk (st := s_Project___init__) l c k
  exact ⟨⟨f, _, F, ⟨mk, a, i, kc⟩, F.binds (ps := ["self", "sources"]) fun _ _ _ _ _ _ us hl => match us, hl with | [_, _], _ => rfl⟩, PySem.W.mg_of X G aC⟩
theorem dfm_Project_sources {K : PySem.W.Frag} {C : Addr} {f : Addr} {od an : Option Addr} {sl : Array (Option Value)} {oc kV dc pm cd ct : Value} (a : PySem.W.findIn K (.ref C) "sources" = some (some (.ref f))) (i : PySem.W.isFn K (.ref f) = true) (l : K.lookup f = some ⟨oc, od, .func (PySem.W.fnOf "sources" "Project.sources" (defArgs s_Project_sources) (defBody s_Project_sources) (defScope s_Project_sources) .none kV dc pm an cd ct), sl⟩) (c : PySem.W.codeIn K cd "Project.sources" = true) (k : PySem.W.keepIn K (.ref f) = true) : DfM K C "sources" "Project.sources" s_Project_sources ["self"] := by
  have F := fun_mk (st := s_Project_sources) l c k
  exact ⟨f, _, F, ⟨a, i, k⟩, F.binds (ps := ["self"]) fun _ _ _ _ _ _ us hl => match us, hl with | [_], _ => rfl⟩
theorem dfx_BadText___init__ {K : PySem.W.Frag} {C : Addr} {f : Addr} {od an : Option Addr} {sl : Array (Option Value)} {oc kV dc pm cd ct : Value} (a : PySem.W.findIn K (.ref C) "__init__" = some (some (.ref f))) (t : PySem.W.typeIn K (.ref f) = some (.type "function")) (l : K.lookup f = some ⟨oc, od, .func (PySem.W.fnOf "__init__" "BadText.__init__" (defArgs s_BadText___init__) (defBody s_BadText___init__) (defScope s_BadText___init__) .none kV dc pm an cd ct), sl⟩) (c : PySem.W.codeIn K cd "BadText.__init__" = true) (k : PySem.W.keepIn K (.ref f) = true) : DfX K C "BadText.__init__" s_BadText___init__ ["self", "row"] := by
  have F := fun_mk (st := s_BadText___init__) l c k
  exact ⟨f, _, F, a, t, F.binds (ps := ["self", "row"]) fun _ _ _ _ _ _ us hl => match us, hl with | [_, _], _ => rfl⟩
theorem gv_int {K : PySem.W.Frag} {h : Heap} {mg : Str → Option Value} {x : Str} {i : Int} {t : Tok} (X : K.In h) (G : h.Ns mainGlobals mg) (a : PySem.W.nsIn K mainGlobals x = some (some (.int i t))) : GV mg x (.int i) := ⟨_, PySem.W.mg_of X G a, t, rfl⟩
theorem gv_str {K : PySem.W.Frag} {h : Heap} {mg : Str → Option Value} {x z : Str} {t : Tok} (X : K.In h) (G : h.Ns mainGlobals mg) (a : PySem.W.nsIn K mainGlobals x = some (some (.str z t))) : GV mg x (.str z) := ⟨_, PySem.W.mg_of X G a, t, rfl⟩
theorem gv_ref {K : PySem.W.Frag} {h : Heap} {mg : Str → Option Value} {x : Str} {C : Addr} (X : K.In h) (G : h.Ns mainGlobals mg) (a : PySem.W.nsIn K mainGlobals x = some (some (.ref C))) : GV mg x (.ref C) := ⟨_, PySem.W.mg_of X G a, rfl⟩
theorem gv_loose {h : Heap} {mg : Str → Option Value} {p : Program} {x z : Str} (V : PySem.W.XL p [(x, PySem.W.WData.str z)] mg h) : GV mg x (.str z) := by
  obtain ⟨v, e, r⟩ := V.2.val _ (List.mem_singleton_self _)
  cases r with
  | str _ t => exact ⟨_, e, t, rfl⟩
/-- an error of the class at S is what «except S» names -/
theorem exm_self {K : PySem.W.Frag} {S : Addr} (h1 : PySem.W.subIn K (.ref S) (.type "BaseException") = some true) (h2 : PySem.W.isClsIn K S = true) (h3 : PySem.W.typeIn K (.ref S) = some (.type "type")) (h4 : PySem.W.subIn K (.ref S) (.ref S) = some true) :
    PySem.W.exmOne K (.ref S) (.ref S) = some true := by
  have e1 : (PySem.W.subIn K (.ref S) (.type "BaseException") == some true) = true := by rw [h1] <;> rfl
  have e2 : ((PySem.W.clsIn K S).isSome && PySem.W.typeIn K (.ref S) == some (.type "type")) = true := by
    have h2' : (PySem.W.clsIn K S).isSome = true := h2
    rw [h2', h3] <;> rfl
  show (if (PySem.W.subIn K (.ref S) (.type "BaseException") == some true) = true then (if ((PySem.W.clsIn K S).isSome && PySem.W.typeIn K (.ref S) == some (.type "type")) = true then PySem.W.subIn K (.ref S) (.ref S) else none) else none) = some true
  rw [if_pos e1, if_pos e2]
  exact h4
theorem xcls_mk {K : PySem.W.Frag} {h : Heap} {mg : Str → Option Value} {x f : Str} {C cw : Addr} (X : K.In h) (G : h.Ns mainGlobals mg)
    {nm q : Str} {N : Addr} {bs : List Value} {sn : List Str} {sub : List Value} {ab : Bool} {col : Option Bool} {dd : Option Addr} {m0 m1 m2 m3 m5 : Option Value}
    (aC : PySem.W.nsIn K mainGlobals x = some (some (.ref C)))
    (xL : K.lookup C = some (excClassObj nm q C N bs [.ref cw, .type "ValueError", .type "Exception", .type "BaseException", .type "object"] true sn sub ab col dd m0 m1 m2 m3 m5 "ValueError.__new__"))
    (sa : PySem.W.findIn K (.ref C) "__setattr__" = some (some (.builtin "object.__setattr__"))) (ga : PySem.W.findIn K (.ref C) "__getattribute__" = some (some (.builtin "BaseException.__getattribute__"))) (gg : PySem.W.findIn K (.ref C) "__getattr__" = some none) (nb : PySem.W.findIn K (.ref C) f = some none)
    (kC : PySem.W.keepIn K (.ref C) = true) (eC : PySem.W.subIn K (.ref C) (.type "BaseException") = some true) (tC : PySem.W.typeIn K (.ref C) = some (.type "type")) (hC : PySem.W.hasDictIn K C = true) (iC : PySem.W.isClsIn K C = true) (sC : PySem.W.subIn K (.ref C) (.ref C) = some true) : XCls K mg x f C :=
  ⟨⟨⟨nm, q, N, bs, _, sn, sub, ab, col, dd, m0, m1, m2, m3, m5, xL, rfl⟩, sa, eC, tC, kC⟩, ⟨ga, gg, eC, hC⟩, nb, PySem.W.mg_of X G aC, exm_self eC iC tC sC⟩
section
variable {P : Program} {w : World} {K : PySem.W.Frag} {mg : Str → Option Value} {base : Heap}
theorem law_all {C CB f : Addr} {fd : FuncData} (B : NoB mg) (GN : GNames mg) (GT : GTrees mg) (gT : GV mg "MOST_THINGS" (.int 60)) (gP : GV mg "Project" (.ref C)) (T : PCls K mg C) (TI : InsC K C) (TB : XCls K mg "BadText" "row" CB)
    (d_is_plain : Df K mg "is_plain" "is_plain" s_is_plain ["value"])
    (d_room_left : Df K mg "room_left" "room_left" s_room_left ["value", "deep", "room"])
    (d_is_tree : Df K mg "is_tree" "is_tree" s_is_tree ["value"])
    (d_is_name : Df K mg "is_name" "is_name" s_is_name ["value"])
    (d_tree_text : Df K mg "tree_text" "tree_text" s_tree_text ["tree"])
    (d_text_from : Df K mg "text_from" "text_from" s_text_from ["text", "at"])
    (d_row_from : Df K mg "row_from" "row_from" s_row_from ["text", "at", "deep"])
    (d_tree_from : Df K mg "tree_from" "tree_from" s_tree_from ["text", "at", "deep"])
    (d_read_tree : Df K mg "read_tree" "read_tree" s_read_tree ["text"])
    (d_is_source : Df K mg "is_source" "is_source" s_is_source ["value"])
    (d_tree_written : Df K mg "tree_written" "tree_written" s_tree_written ["text"])
    (d_project_line : Df K mg "project_line" "project_line" s_project_line ["line"])
    (d_project_text : Df K mg "project_text" "project_text" s_project_text ["project"])
    (d_ended_lines : Df K mg "ended_lines" "ended_lines" s_ended_lines ["text"])
    (d_read_project : Df K mg "read_project" "read_project" s_read_project ["text"])
    (d__law_cell_at : Df K mg "_law_cell_at" "_law_cell_at" s__law_cell_at ["script", "k"])
    (d__law_pot : Df K mg "_law_pot" "_law_pot" s__law_pot ["cell", "salt"])
    (d__law_take : Df K mg "_law_take" "_law_take" s__law_take ["pot", "many"])
    (d__law_word : Df K mg "_law_word" "_law_word" s__law_word ["pot", "names"])
    (d__law_line : Df K mg "_law_line" "_law_line" s__law_line ["pot", "names", "many", "k"])
    (d__law_rule : Df K mg "_law_rule" "_law_rule" s__law_rule ["pot", "names"])
    (d__law_maker : Df K mg "_law_maker" "_law_maker" s__law_maker ["pot", "names"])
    (d__law_leaf : Df K mg "_law_leaf" "_law_leaf" s__law_leaf ["pot", "names"])
    (d__law_source : Df K mg "_law_source" "_law_source" s__law_source ["pot", "names"])
    (d__law_sources : Df K mg "_law_sources" "_law_sources" s__law_sources ["script"])
    (d__law_signs : Df K mg "_law_signs" "_law_signs" s__law_signs [])
    (d__law_any_text : Df K mg "_law_any_text" "_law_any_text" s__law_any_text ["pot", "most"])
    (d__law_any_tree : Df K mg "_law_any_tree" "_law_any_tree" s__law_any_tree ["pot", "deep"])
    (d__law_any_name : Df K mg "_law_any_name" "_law_any_name" s__law_any_name ["pot"])
    (d__law_written : Df K mg "_law_written" "_law_written" s__law_written ["tree"])
    (d__law_many : Df K mg "_law_many" "_law_many" s__law_many ["script"])
    (d__law_right : Df K mg "_law_right" "_law_right" s__law_right ["pairs"])
    (d__law_sixty : Df K mg "_law_sixty" "_law_sixty" s__law_sixty ["cell"])
    (d_init : DfI K mg C "Project" "Project.__init__" s_Project___init__ ["self", "sources"]) (d_sources : DfM K C "sources" "Project.sources" s_Project_sources ["self"]) (d_bt : DfX K CB "BadText.__init__" s_BadText___init__ ["self", "row"])
    (F : Fun K "law" "law" s_law f fd) : FnOk P w K mg base CX0 34 f fd ["script"] (spLaw K) := by
  have c1 : Cal P w K mg base CX0 "is_plain" ["value"] 1 spIsPlain := ok_is_plain d_is_plain B
  have c2 := ok_room d_room_left B GT c1 13
  have c3 := ok_is_tree d_is_tree B GT c2
  have c4 : Cal P w K mg base CX0 "is_name" ["value"] 1 spIsName := ok_is_name d_is_name B GN
  have c5 : Cal P w K mg base CX0 "tree_text" ["tree"] 14 (spTreeText K 13) := ok_tree_text d_tree_text B 13
  have c6 : Cal P w K mg base CX0 "text_from" ["text", "at"] 1 (spTextFrom K) := ok_text_from d_text_from B
  have c7 := ok_tree_from d_tree_from d_row_from B c6 13
  have c8 := ok_read_tree d_read_tree B GT c7 c3 c5
  have c9 := ok_is_source d_is_source B c4 c3
  have m1 := ok_pr_init d_init T B gT c4 c9
  have m2 : CalM P w K mg base CX0 C "sources" ["self"] 1 (spPrSources K C) := ok_pr_sources d_sources T B
  have c10 := ok_tree_written d_tree_written c8
  have c11 := ok_project_line d_project_line B c4 c10
  have c12 := ok_project_text d_project_text T B m2 c5
  have c13 : Cal P w K mg base CX0 "ended_lines" ["text"] 1 (spEndedLines K) := ok_ended_lines d_ended_lines
  have xb : CalX P w K mg base CB := ok_bt d_bt TB
  have c14 := ok_read_project d_read_project T TB xb B gT c13 c11 m1
  have l1 : Cal P w K mg base CX0 "_law_cell_at" ["script", "k"] 1 (spCellAt K) := ok_cell_at d__law_cell_at B
  have l2 : Cal P w K mg base CX0 "_law_pot" ["cell", "salt"] 1 spPot := ok_pot d__law_pot B
  have l3 : Cal P w K mg base CX0 "_law_take" ["pot", "many"] 1 spTake := ok_take d__law_take
  have l4 := ok_word d__law_word B l3
  have l5 := ok_line d__law_line B l3 l4
  have l6 := ok_rule d__law_rule B l3 l4 l5
  have l7 := ok_maker d__law_maker B l3
  have l8 := ok_leaf d__law_leaf B l3 l4 l6
  have l9 := ok_source d__law_source B l3 l8 l6 l7
  have l10 := ok_sources d__law_sources B l1 l2 l9
  have l11 : Cal P w K mg base CX0 "_law_signs" [] 1 spSigns := ok_signs d__law_signs
  have l12 := ok_any_text d__law_any_text B l3 l11
  have l13 := ok_any_tree d__law_any_tree B l3 l12 4
  have l14 := ok_any_name d__law_any_name B l3
  have l15 : Cal P w K mg base CX0 "_law_written" ["tree"] 14 (spTreeText K 13) := ok_law_written d__law_written B 13
  have l16 := ok_many d__law_many B l2 l3 l14 l13
  have l17 := ok_right d__law_right T TI gP B m1 m2 l15 c12 c14
  have l18 := ok_sixty d__law_sixty T TB B m2 l2 l13 l15 c12 c14
  exact ok_law F T TI gP B m2 l16 l10 l18 l17 c12 c14
end
theorem all_mk {l : PySem.W.OpenLaw} {w : World} {K : PySem.W.Frag} {h : Heap} {mg : Str → Option Value} {fa C CB f : Addr} (X : K.In h) (G : h.Ns mainGlobals mg) (hfa : mg "law" = some (.ref fa))
    {od an : Option Addr} {sl : Array (Option Value)} {oc kV dc pm cd ct : Value} {t1 t2 t3 t4 t5 t6 t7 : Tok}
    (aL : PySem.W.nsIn K mainGlobals "law" = some (some (.ref f))) (lL : K.lookup f = some ⟨oc, od, .func (PySem.W.fnOf "law" "law" (defArgs s_law) (defBody s_law) (defScope s_law) .none kV dc pm an cd ct), sl⟩) (cL : PySem.W.codeIn K cd "law" = true) (kL : PySem.W.keepIn K (.ref f) = true)
    (aC : PySem.W.nsIn K mainGlobals "Project" = some (some (.ref C))) (aB : PySem.W.nsIn K mainGlobals "BadText" = some (some (.ref CB)))
    (z_isinstance : PySem.W.nsIn K mainGlobals "isinstance" = some none) (z_str : PySem.W.nsIn K mainGlobals "str" = some none) (z_int : PySem.W.nsIn K mainGlobals "int" = some none) (z_tuple : PySem.W.nsIn K mainGlobals "tuple" = some none) (z_list : PySem.W.nsIn K mainGlobals "list" = some none) (z_bool : PySem.W.nsIn K mainGlobals "bool" = some none) (z_len : PySem.W.nsIn K mainGlobals "len" = some none) (z_all : PySem.W.nsIn K mainGlobals "all" = some none) (z_any : PySem.W.nsIn K mainGlobals "any" = some none) (z_sum : PySem.W.nsIn K mainGlobals "sum" = some none) (z_min : PySem.W.nsIn K mainGlobals "min" = some none) (z_max : PySem.W.nsIn K mainGlobals "max" = some none) (z_abs : PySem.W.nsIn K mainGlobals "abs" = some none) (z_range : PySem.W.nsIn K mainGlobals "range" = some none) (z_enumerate : PySem.W.nsIn K mainGlobals "enumerate" = some none) (z_sorted : PySem.W.nsIn K mainGlobals "sorted" = some none)
    (g1 : PySem.W.nsIn K mainGlobals "MOST_SIGNS" = some (some (.int 300 t1))) (g2 : PySem.W.nsIn K mainGlobals "MOST_PARTS" = some (some (.int 40 t2))) (g3 : PySem.W.nsIn K mainGlobals "MOST_SIZE" = some (some (.int 600 t3))) (g4 : PySem.W.nsIn K mainGlobals "MOST_DEEP" = some (some (.int 12 t4))) (g5 : PySem.W.nsIn K mainGlobals "MOST_NAME" = some (some (.int 24 t5))) (g6 : PySem.W.nsIn K mainGlobals "LETTERS" = some (some (.str "abcdefghijklmnopqrstuvwxyz" t6))) (g7 : PySem.W.nsIn K mainGlobals "MOST_THINGS" = some (some (.int 60 t7))) (g8 : GV mg "NAME_SIGNS" (.str "abcdefghijklmnopqrstuvwxyz0123456789./"))
    (pg : PySem.W.plainGet K C Str.empty = true) (hd : PySem.W.hasDictIn K C = true) (po : PySem.W.plainOver K C = true) (sa : PySem.W.findIn K (.ref C) "__setattr__" = some (some (.builtin "object.__setattr__"))) (nT : PySem.W.findIn K (.ref C) "table" = some none)
    (i1 : PySem.W.findIn K (.ref C) "__class__" = some (some (.builtin "object.__class__"))) (i2 : PySem.W.specialIn K (.builtin "object.__class__") "__get__" = some (some (.builtin "getset_descriptor.__get__"))) (i3 : PySem.W.takesIn K (.builtin "object.__class__") = some true) (i4 : PySem.W.mroIn K C (.type "object") = some true)
    (TB : XCls K mg "BadText" "row" CB)
    (d_is_plain : Df K mg "is_plain" "is_plain" s_is_plain ["value"])
    (d_room_left : Df K mg "room_left" "room_left" s_room_left ["value", "deep", "room"])
    (d_is_tree : Df K mg "is_tree" "is_tree" s_is_tree ["value"])
    (d_is_name : Df K mg "is_name" "is_name" s_is_name ["value"])
    (d_tree_text : Df K mg "tree_text" "tree_text" s_tree_text ["tree"])
    (d_text_from : Df K mg "text_from" "text_from" s_text_from ["text", "at"])
    (d_row_from : Df K mg "row_from" "row_from" s_row_from ["text", "at", "deep"])
    (d_tree_from : Df K mg "tree_from" "tree_from" s_tree_from ["text", "at", "deep"])
    (d_read_tree : Df K mg "read_tree" "read_tree" s_read_tree ["text"])
    (d_is_source : Df K mg "is_source" "is_source" s_is_source ["value"])
    (d_tree_written : Df K mg "tree_written" "tree_written" s_tree_written ["text"])
    (d_project_line : Df K mg "project_line" "project_line" s_project_line ["line"])
    (d_project_text : Df K mg "project_text" "project_text" s_project_text ["project"])
    (d_ended_lines : Df K mg "ended_lines" "ended_lines" s_ended_lines ["text"])
    (d_read_project : Df K mg "read_project" "read_project" s_read_project ["text"])
    (d__law_cell_at : Df K mg "_law_cell_at" "_law_cell_at" s__law_cell_at ["script", "k"])
    (d__law_pot : Df K mg "_law_pot" "_law_pot" s__law_pot ["cell", "salt"])
    (d__law_take : Df K mg "_law_take" "_law_take" s__law_take ["pot", "many"])
    (d__law_word : Df K mg "_law_word" "_law_word" s__law_word ["pot", "names"])
    (d__law_line : Df K mg "_law_line" "_law_line" s__law_line ["pot", "names", "many", "k"])
    (d__law_rule : Df K mg "_law_rule" "_law_rule" s__law_rule ["pot", "names"])
    (d__law_maker : Df K mg "_law_maker" "_law_maker" s__law_maker ["pot", "names"])
    (d__law_leaf : Df K mg "_law_leaf" "_law_leaf" s__law_leaf ["pot", "names"])
    (d__law_source : Df K mg "_law_source" "_law_source" s__law_source ["pot", "names"])
    (d__law_sources : Df K mg "_law_sources" "_law_sources" s__law_sources ["script"])
    (d__law_signs : Df K mg "_law_signs" "_law_signs" s__law_signs [])
    (d__law_any_text : Df K mg "_law_any_text" "_law_any_text" s__law_any_text ["pot", "most"])
    (d__law_any_tree : Df K mg "_law_any_tree" "_law_any_tree" s__law_any_tree ["pot", "deep"])
    (d__law_any_name : Df K mg "_law_any_name" "_law_any_name" s__law_any_name ["pot"])
    (d__law_written : Df K mg "_law_written" "_law_written" s__law_written ["tree"])
    (d__law_many : Df K mg "_law_many" "_law_many" s__law_many ["script"])
    (d__law_right : Df K mg "_law_right" "_law_right" s__law_right ["pairs"])
    (d__law_sixty : Df K mg "_law_sixty" "_law_sixty" s__law_sixty ["cell"])
    (d_init : DfI K mg C "Project" "Project.__init__" s_Project___init__ ["self", "sources"]) (d_sources : DfM K C "sources" "Project.sources" s_Project_sources ["self"]) (d_bt : DfX K CB "BadText.__init__" s_BadText___init__ ["self", "row"]) :
    ∃ fd : FuncData, (∀ (s : Shared) (u : Value), BindsTo s fd ⟨[u], []⟩ [("script", u)]) ∧ ∀ base : Heap, K.In base → base.Ns mainGlobals mg → FnOk l.prog w K mg base CX0 34 fa fd ["script"] (spLaw K) := by
  have e := hfa.symm.trans (PySem.W.mg_of X G aL)
  cases e
  have B : NoB mg := ⟨PySem.W.mg_none_of X G z_isinstance, PySem.W.mg_none_of X G z_str, PySem.W.mg_none_of X G z_int, PySem.W.mg_none_of X G z_tuple, PySem.W.mg_none_of X G z_list, PySem.W.mg_none_of X G z_bool, PySem.W.mg_none_of X G z_len, PySem.W.mg_none_of X G z_all, PySem.W.mg_none_of X G z_any, PySem.W.mg_none_of X G z_sum, PySem.W.mg_none_of X G z_min, PySem.W.mg_none_of X G z_max, PySem.W.mg_none_of X G z_abs, PySem.W.mg_none_of X G z_range, PySem.W.mg_none_of X G z_enumerate, PySem.W.mg_none_of X G z_sorted⟩
  have F := fun_mk (st := s_law) lL cL kL
  exact ⟨PySem.W.fnOf "law" "law" (defArgs s_law) (defBody s_law) (defScope s_law) .none kV dc pm an cd ct, fun s u => .of_eq rfl, fun base _ _ => law_all B ⟨gv_int X G g5, gv_str X G g6, g8⟩ ⟨gv_int X G g1, gv_int X G g2, gv_int X G g3, gv_int X G g4⟩ (gv_int X G g7) (gv_ref X G aC) ⟨⟨pg, hd, po, sa⟩, nT⟩ ⟨i1, i2, i3, i4⟩ TB d_is_plain d_room_left d_is_tree d_is_name d_tree_text d_text_from d_row_from d_tree_from d_read_tree d_is_source d_tree_written d_project_line d_project_text d_ended_lines d_read_project d__law_cell_at d__law_pot d__law_take d__law_word d__law_line d__law_rule d__law_maker d__law_leaf d__law_source d__law_sources d__law_signs d__law_any_text d__law_any_tree d__law_any_name d__law_written d__law_many d__law_right d__law_sixty d_init d_sources d_bt F⟩
theorem walk {l : PySem.W.OpenLaw} {q : Program} {loose : List Str} {XP : (Str → Option Value) → Heap → Prop} {YP : World → Heap → Prop} {d : DefRec} {K : Params → PySem.W.Frag} (hn : l.most = some 63) (hdf : d.params.defaults = [])
    (hY : ∀ (w : World) (h : Heap), YP w h → (K w.params).In h)
    (F : ∀ (w : World) (mg : Str → Option Value) (fa : Addr) (h : Heap), (K w.params).In h → h.Ns mainGlobals mg → XP mg h → mg d.name = some (.ref fa) →
      ∃ fd : FuncData, (∀ (s : Shared) (u : Value), BindsTo s fd ⟨[u], []⟩ [("script", u)]) ∧ ∀ base : Heap, (K w.params).In base → base.Ns mainGlobals mg → FnOk l.prog w (K w.params) mg base CX0 34 fa fd ["script"] (spLaw (K w.params))) :
    PySem.W.WalkO q loose XP YP l.row.toRowW d [] (fun f vs => PySem.call f vs) := by
  refine Att.attach_call hn hdf fun w s₀ s₁ mg mb fa o pm cd doc a vs ns G Y ho hd hcd hmg hobj hints hlen hg => ?_
  have KX := hY w _ Y
  obtain ⟨fd, hb, hF⟩ := F w mg fa _ KX G.T.g G.X hmg
  exact law_call (x := "script") (CX := CX0) (sp := spLaw (K w.params)) KX G.T.g G.T.b G.T.builtins G.T.nolimit hg hobj hints (Nat.le_trans hlen (by decide)) ⟨rfl, by decide, by decide⟩ hF hb (fun H hO hS => ⟨a, ns, rfl, hS, fun _ => rfl⟩) fun H e s' z => z
end Aw

open PySem PySem.W PyProof.Rows
set_option maxRecDepth 100000 in
set_option maxHeartbeats 0 in
theorem PySem.Challenge.cw_askwright_k72_projects_written_holds : PySem.Challenge.rw_askwright_k72_projects_written.Holds := by
  w_on; o_law; k_head; (case hw => w_witness2)
  k_fill
  refine Aw.walk (l := PySem.Challenge.rw_askwright_k72_projects_written) rfl rfl (fun w h Y => PySem.W.kIn_of Y) ?F
  case F =>
    intro w mg fa h KX G XX hmg
    refine' Aw.all_mk KX G hmg ?aL ?lL ?cL ?kL ?aC ?aB ?z_isinstance ?z_str ?z_int ?z_tuple ?z_list ?z_bool ?z_len ?z_all ?z_any ?z_sum ?z_min ?z_max ?z_abs ?z_range ?z_enumerate ?z_sorted ?g1 ?g2 ?g3 ?g4 ?g5 ?g6 ?g7 ?g8 ?pg ?hd ?po ?sa ?nT ?i1 ?i2 ?i3 ?i4 ?TB ?d_is_plain ?d_room_left ?d_is_tree ?d_is_name ?d_tree_text ?d_text_from ?d_row_from ?d_tree_from ?d_read_tree ?d_is_source ?d_tree_written ?d_project_line ?d_project_text ?d_ended_lines ?d_read_project ?d__law_cell_at ?d__law_pot ?d__law_take ?d__law_word ?d__law_line ?d__law_rule ?d__law_maker ?d__law_leaf ?d__law_source ?d__law_sources ?d__law_signs ?d__law_any_text ?d__law_any_tree ?d__law_any_name ?d__law_written ?d__law_many ?d__law_right ?d__law_sixty ?d_init ?d_sources ?d_bt
    (case aL => k_is)
    (case lL => k_is)
    (case cL => k_is)
    (case kL => k_is)
    (case aC => k_is)
    (case aB => k_is)
    (case z_isinstance => k_is)
    (case z_str => k_is)
    (case z_int => k_is)
    (case z_tuple => k_is)
    (case z_list => k_is)
    (case z_bool => k_is)
    (case z_len => k_is)
    (case z_all => k_is)
    (case z_any => k_is)
    (case z_sum => k_is)
    (case z_min => k_is)
    (case z_max => k_is)
    (case z_abs => k_is)
    (case z_range => k_is)
    (case z_enumerate => k_is)
    (case z_sorted => k_is)
    (case g1 => k_is)
    (case g2 => k_is)
    (case g3 => k_is)
    (case g4 => k_is)
    (case g5 => k_is)
    (case g6 => k_is)
    (case g7 => k_is)
    (case g8 => exact Aw.gv_loose XX)
    (case pg => k_is)
    (case hd => k_is)
    (case po => k_is)
    (case sa => k_is)
    (case nT => k_is)
    (case i1 => k_is)
    (case i2 => k_is)
    (case i3 => k_is)
    (case i4 => k_is)
    (case TB => (refine' Aw.xcls_mk KX G ?aC ?xL ?sa ?ga ?gg ?nb ?kC ?eC ?tC ?hC ?iC ?sC); (case aC => k_is); (case xL => k_is); (case sa => k_is); (case ga => k_is); (case gg => k_is); (case nb => k_is); (case kC => k_is); (case eC => k_is); (case tC => k_is); (case hC => k_is); (case iC => k_is); (case sC => first | rfl | k_is))
    (case d_is_plain => (refine' Aw.df_is_plain KX G ?a ?l ?c ?k); (case a => k_is); (case l => k_is); (case c => k_is); (case k => k_is))
    (case d_room_left => (refine' Aw.df_room_left KX G ?a ?l ?c ?k); (case a => k_is); (case l => k_is); (case c => k_is); (case k => k_is))
    (case d_is_tree => (refine' Aw.df_is_tree KX G ?a ?l ?c ?k); (case a => k_is); (case l => k_is); (case c => k_is); (case k => k_is))
    (case d_is_name => (refine' Aw.df_is_name KX G ?a ?l ?c ?k); (case a => k_is); (case l => k_is); (case c => k_is); (case k => k_is))
    (case d_tree_text => (refine' Aw.df_tree_text KX G ?a ?l ?c ?k); (case a => k_is); (case l => k_is); (case c => k_is); (case k => k_is))
    (case d_text_from => (refine' Aw.df_text_from KX G ?a ?l ?c ?k); (case a => k_is); (case l => k_is); (case c => k_is); (case k => k_is))
    (case d_row_from => (refine' Aw.df_row_from KX G ?a ?l ?c ?k); (case a => k_is); (case l => k_is); (case c => k_is); (case k => k_is))
    (case d_tree_from => (refine' Aw.df_tree_from KX G ?a ?l ?c ?k); (case a => k_is); (case l => k_is); (case c => k_is); (case k => k_is))
    (case d_read_tree => (refine' Aw.df_read_tree KX G ?a ?l ?c ?k); (case a => k_is); (case l => k_is); (case c => k_is); (case k => k_is))
    (case d_is_source => (refine' Aw.df_is_source KX G ?a ?l ?c ?k); (case a => k_is); (case l => k_is); (case c => k_is); (case k => k_is))
    (case d_tree_written => (refine' Aw.df_tree_written KX G ?a ?l ?c ?k); (case a => k_is); (case l => k_is); (case c => k_is); (case k => k_is))
    (case d_project_line => (refine' Aw.df_project_line KX G ?a ?l ?c ?k); (case a => k_is); (case l => k_is); (case c => k_is); (case k => k_is))
    (case d_project_text => (refine' Aw.df_project_text KX G ?a ?l ?c ?k); (case a => k_is); (case l => k_is); (case c => k_is); (case k => k_is))
    (case d_ended_lines => (refine' Aw.df_ended_lines KX G ?a ?l ?c ?k); (case a => k_is); (case l => k_is); (case c => k_is); (case k => k_is))
    (case d_read_project => (refine' Aw.df_read_project KX G ?a ?l ?c ?k); (case a => k_is); (case l => k_is); (case c => k_is); (case k => k_is))
    (case d__law_cell_at => (refine' Aw.df__law_cell_at KX G ?a ?l ?c ?k); (case a => k_is); (case l => k_is); (case c => k_is); (case k => k_is))
    (case d__law_pot => (refine' Aw.df__law_pot KX G ?a ?l ?c ?k); (case a => k_is); (case l => k_is); (case c => k_is); (case k => k_is))
    (case d__law_take => (refine' Aw.df__law_take KX G ?a ?l ?c ?k); (case a => k_is); (case l => k_is); (case c => k_is); (case k => k_is))
    (case d__law_word => (refine' Aw.df__law_word KX G ?a ?l ?c ?k); (case a => k_is); (case l => k_is); (case c => k_is); (case k => k_is))
    (case d__law_line => (refine' Aw.df__law_line KX G ?a ?l ?c ?k); (case a => k_is); (case l => k_is); (case c => k_is); (case k => k_is))
    (case d__law_rule => (refine' Aw.df__law_rule KX G ?a ?l ?c ?k); (case a => k_is); (case l => k_is); (case c => k_is); (case k => k_is))
    (case d__law_maker => (refine' Aw.df__law_maker KX G ?a ?l ?c ?k); (case a => k_is); (case l => k_is); (case c => k_is); (case k => k_is))
    (case d__law_leaf => (refine' Aw.df__law_leaf KX G ?a ?l ?c ?k); (case a => k_is); (case l => k_is); (case c => k_is); (case k => k_is))
    (case d__law_source => (refine' Aw.df__law_source KX G ?a ?l ?c ?k); (case a => k_is); (case l => k_is); (case c => k_is); (case k => k_is))
    (case d__law_sources => (refine' Aw.df__law_sources KX G ?a ?l ?c ?k); (case a => k_is); (case l => k_is); (case c => k_is); (case k => k_is))
    (case d__law_signs => (refine' Aw.df__law_signs KX G ?a ?l ?c ?k); (case a => k_is); (case l => k_is); (case c => k_is); (case k => k_is))
    (case d__law_any_text => (refine' Aw.df__law_any_text KX G ?a ?l ?c ?k); (case a => k_is); (case l => k_is); (case c => k_is); (case k => k_is))
    (case d__law_any_tree => (refine' Aw.df__law_any_tree KX G ?a ?l ?c ?k); (case a => k_is); (case l => k_is); (case c => k_is); (case k => k_is))
    (case d__law_any_name => (refine' Aw.df__law_any_name KX G ?a ?l ?c ?k); (case a => k_is); (case l => k_is); (case c => k_is); (case k => k_is))
    (case d__law_written => (refine' Aw.df__law_written KX G ?a ?l ?c ?k); (case a => k_is); (case l => k_is); (case c => k_is); (case k => k_is))
    (case d__law_many => (refine' Aw.df__law_many KX G ?a ?l ?c ?k); (case a => k_is); (case l => k_is); (case c => k_is); (case k => k_is))
    (case d__law_right => (refine' Aw.df__law_right KX G ?a ?l ?c ?k); (case a => k_is); (case l => k_is); (case c => k_is); (case k => k_is))
    (case d__law_sixty => (refine' Aw.df__law_sixty KX G ?a ?l ?c ?k); (case a => k_is); (case l => k_is); (case c => k_is); (case k => k_is))
    (case d_init => (refine' Aw.dfi_Project___init__ KX G ?aC ?mk ?a ?i ?l ?c ?k ?kc); (case aC => k_is); (case mk => k_is); (case a => k_is); (case i => k_is); (case l => k_is); (case c => k_is); (case k => k_is); (case kc => k_is))
    (case d_sources => (refine' Aw.dfm_Project_sources ?a ?i ?l ?c ?k); (case a => k_is); (case i => k_is); (case l => k_is); (case c => k_is); (case k => k_is))
    (case d_bt => (refine' Aw.dfx_BadText___init__ ?a ?t ?l ?c ?k); (case a => k_is); (case t => k_is); (case l => k_is); (case c => k_is); (case k => k_is))
