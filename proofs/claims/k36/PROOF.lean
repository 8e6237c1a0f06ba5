import PyProof.Rows.All
import Wide.All
import OpenK.AllK
import Wide.FinOn
import HandS.ForMost
import HandS.Wide
import HandS.TupAny
import HandS.TupMul
import HandS.IsInst
import HandS.Codes
import HandS.GenBody
import HandS.GenYield
import HandS.GenList
import HandS.Deep
import HandS.Text
import HandS.ExcValue
import HandS.ExcOwn
import KE.SortData
import HandS.Style
import HandS.Iter
import HandS.Conv
import KE.KDictSum
import HandS.TupSets
import KE.KDictZip
import HandS.ListItems
import HandS.More
import HandS.SortKw
import HandS.Keys
import KE.SortKeyHeap
import HandS.SortInts
import HandS.Walk
import HandS.Zip
import HandS.Lambda
import HandS.EndTab
import PySem.Challenge.RW_eitherhalf_k36_whole_trees_of_turns
set_option Elab.async false
set_option linter.all false
set_option maxRecDepth 100000
set_option maxHeartbeats 4000000
namespace EH
open PySem L2

/-! ### what is kept but for some addresses -/
structure Kp (S : List Addr) (H H' : Hp) : Prop where
  keep : ∀ b o, H b = some o → b ∉ S → H' b = some o
  tup : ∀ b xs, H b = some (.tup xs) → H' b = some (.tup xs)
  ext : ∀ b φ, H b = some (.ext φ) → H' b = some (.ext φ)
theorem Kp.refl {S : List Addr} {H : Hp} : Kp S H H := ⟨fun _ _ h _ => h, fun _ _ h => h, fun _ _ h => h⟩
theorem Kp.trans {S : List Addr} {H H1 H2 : Hp} (a : Kp S H H1) (b : Kp S H1 H2) : Kp S H H2 := ⟨fun c o h n => b.keep c o (a.keep c o h n) n, fun c xs h => b.tup c xs (a.tup c xs h), fun c φ h => b.ext c φ (a.ext c φ h)⟩
theorem Kp.sub {S S' : List Addr} {H H1 : Hp} (a : Kp S H H1) (h : ∀ b, b ∈ S → b ∈ S') : Kp S' H H1 := ⟨fun c o e n => a.keep c o e fun z => n (h c z), a.tup, a.ext⟩
theorem Kp.at {H H1 : Hp} {b : Addr} {o : HO} (a : Kp [] H H1) (h : H b = some o) : H1 b = some o := a.keep b o h (by simp)
theorem Kp.free {S : List Addr} {H H1 : Hp} {p : Addr} (a : Kp S H H1) (h : H1 p = none) (n : p ∉ S) : H p = none := by
  cases e : H p with
  | none => rfl
  | some o =>
    rw [a.keep p o e n] at h
    cases h
theorem Kp.step {S S1 : List Addr} {H H1 H2 : Hp} (a : Kp S H H1) (b : Kp S1 H1 H2) (h : ∀ p ∈ S1, p ∈ S ∨ H p = none) : Kp S H H2 :=
  ⟨fun c o e n => b.keep c o (a.keep c o e n) fun z => (h c z).elim n fun y => (by rw [y] at e; cases e), fun c xs e => b.tup c xs (a.tup c xs e), fun c φ e => b.ext c φ (a.ext c φ e)⟩
theorem Kp.step0 {S : List Addr} {H H1 H2 : Hp} (a : Kp S H H1) (b : Kp [] H1 H2) : Kp S H H2 := a.step b fun _ z => nomatch z
theorem Kp.step1 {S : List Addr} {H H1 H2 : Hp} {p : Addr} (a : Kp S H H1) (b : Kp [p] H1 H2) (h : p ∈ S ∨ H p = none) : Kp S H H2 := a.step b fun _ z => by
  rcases List.mem_cons.mp z with rfl | z
  · exact h
  · cases z
theorem Kp.step2 {S : List Addr} {H H1 H2 : Hp} {p q : Addr} (a : Kp S H H1) (b : Kp [p, q] H1 H2) (h : p ∈ S ∨ H p = none) (h2 : q ∈ S ∨ H q = none) : Kp S H H2 := a.step b fun _ z => by
  rcases List.mem_cons.mp z with rfl | z
  · exact h
  · rcases List.mem_cons.mp z with rfl | z
    · exact h2
    · cases z
theorem Kp.new {H : Hp} {p : Addr} {u : HO} (h : H p = none) : Kp [] H (upd H p u) := ⟨fun c o e _ => by rw [upd_ne (ne_of_none e h)]; exact e, fun c o e => by rw [upd_ne (ne_of_none e h)]; exact e, fun c o e => by rw [upd_ne (ne_of_none e h)]; exact e⟩
theorem Kp.put {H : Hp} {p : Addr} {u v : HO} (h : H p = some v) (hv : ∀ xs, v ≠ .tup xs) (he : ∀ φ, v ≠ .ext φ := by intro φ z; cases z) : Kp [p] H (upd H p u) := ⟨fun c o e n => by rw [upd_ne (by intro z; subst z; exact n (by simp))]; exact e,
  fun c xs e => by rw [upd_ne (by intro z; subst z; rw [h] at e; exact hv xs (Option.some.inj e))]; exact e,
  fun c φ e => by rw [upd_ne (by intro z; subst z; rw [h] at e; exact he φ (Option.some.inj e))]; exact e⟩
theorem Kp.seq {K : PySem.W.Frag} {S : List Addr} {H H' : Hp} {a : Addr} {xs : List V} (k : Kp S H H') (h : SqL K H a xs) (n : a ∉ S) : SqL K H' a xs := by
  rcases h with (h | ⟨o, h⟩) | h
  · exact .inl (.inl (k.keep _ _ h n))
  · exact .inl (.inr ⟨o, k.keep _ _ h n⟩)
  · exact .inr h
theorem ne1 {a p : Addr} (h : a ≠ p) : a ∉ [p] := by simp [h]
theorem ne2 {a p q : Addr} (h : a ≠ p) (h2 : a ≠ q) : a ∉ [p, q] := by simp [h, h2]

/-! ### rules whose new heaps are letters -/
section
variable {X : Cx} {e : Expr} {es : List Expr} {pos : Pos}
theorem PE.imp {t t' : TE} (h : PE X e t) (i : ∀ σ H Q, t' σ H Q → t σ H Q) : PE X e t' := ⟨fun pins s σ H Q I q => h.run pins s σ H Q I (i σ H Q q)⟩
theorem OpR.imp {f : Value → Value → Sem Value} {r r' : R2} (h : OpR X f r) (i : ∀ x y H Q, r' x y H Q → r x y H Q) : OpR X f r' := fun pins s σ H x y v u Q I a b q => h pins s σ H x y v u Q I a b (i x y H Q q)
theorem CallR.imp {f : Value} {r r' : List V → Hp → VK → Prop} (h : CallR X f r) (i : ∀ xs H Q, r' xs H Q → r xs H Q) : CallR X f r' := fun pins s σ H xs us Q I a q => h pins s σ H xs us Q I a (i xs H Q q)
theorem SlR.imp {r r' : V → Option Int → Option Int → Hp → VK → Prop} (h : SlR X r) (i : ∀ x lo hi H Q, r' x lo hi H Q → r x lo hi H Q) : SlR X r' := fun pins s σ H x v vl vu lo hi sl Q I rx hs pl pu q => h pins s σ H x v vl vu lo hi sl Q I rx hs pl pu (i x lo hi H Q q)
theorem MtR.imp {id : String} {r r' : V → List V → Hp → VK → Prop} (h : MtR X id r) (i : ∀ x xs H Q, r' x xs H Q → r x xs H Q) : MtR X id r' := fun pins s σ H x xs v us Q I a b q => h pins s σ H x xs v us Q I a b (i x xs H Q q)
theorem PSet.imp {t t' : TSet} (h : PSet X t) (i : ∀ o k v H Q, t' o k v H Q → t o k v H Q) : PSet X t' := fun pins s σ H o k v ov iv u Q I a b c q => h pins s σ H o k v ov iv u Q I a b c (i o k v H Q q)
/-- a new object at p -/
def NewQ (H : Hp) (o : HO) (Q : VK) : Prop := ∀ p H2, H p = none → H2 p = some o → Kp [] H H2 → Q (.ref p) H2
theorem NewQ.to {H : Hp} {o : HO} {Q : VK} (h : NewQ H o Q) : ∀ p, H p = none → Q (.ref p) (upd H p o) := fun p hp => h p _ hp upd_same (Kp.new hp)
theorem newQ_iff {H : Hp} {o : HO} {Q : VK} (S : Prop) : (S ∧ ∀ p H2, H p = none → H2 = upd H p o → Q (.ref p) H2) = (S ∧ ∀ p, H p = none → Q (.ref p) (upd H p o)) :=
  propext ⟨fun h => ⟨h.1, fun p hp => h.2 p _ hp rfl⟩, fun h => ⟨h.1, fun p H2 hp e => e ▸ h.2 p hp⟩⟩
def tTupA (t : TA) : TE := fun σ H Q => t σ H fun xs H1 => xs.length ≤ sizeLine ∧ ∀ p H2, H1 p = none → H2 = upd H1 p (.tup xs) → Q (.ref p) H2
def tLstA (t : TA) : TE := fun σ H Q => t σ H fun xs H1 => xs.length ≤ sizeLine ∧ ∀ p H2, H1 p = none → H2 = upd H1 p (.lst xs) → Q (.ref p) H2
theorem pe_tupA {x1} {t : TA} (h : PA X es t) : PE X (.Tuple es x1 pos) (tTupA t) := PE.imp (pe_tup h) fun σ H Q q => by
  unfold tTup
  unfold tTupA at q
  simp only [newQ_iff] at q
  exact q
theorem pe_lstA {t : TA} (h : PA X es t) : PE X (.List es pos) (tLstA t) := PE.imp (pe_lst h) fun σ H Q q => by
  unfold tLst
  unfold tLstA at q
  simp only [newQ_iff] at q
  exact q
theorem new_at {H H2 : Hp} {p : Addr} {o : HO} (e : H2 = upd H p o) : H2 p = some o := by rw [e]; exact upd_same
theorem new_kp {H H2 : Hp} {p : Addr} {o : HO} (h : H p = none) (e : H2 = upd H p o) : Kp [] H H2 := by rw [e]; exact Kp.new h
/-- what follows a store at p -/
def PutQ (H : Hp) (p : Addr) (o : HO) (Q : Hp → Prop) : Prop := ∀ H2, H2 p = some o → Kp [p] H H2 → Q H2
theorem PutQ.to {H : Hp} {p : Addr} {o v : HO} {Q : Hp → Prop} (h : PutQ H p o Q) (e : H p = some v) (hv : ∀ xs, v ≠ .tup xs) (he : ∀ φ, v ≠ .ext φ := by intro φ z; cases z) : Q (upd H p o) := h _ upd_same (Kp.put e hv he)
def rSetA : TSet := fun o i v H Q => ∃ p xs k j, o = .ref p ∧ i = .int k ∧ H p = some (.lst xs) ∧ ixN xs.length k = some j ∧ PutQ H p (.lst (xs.set j v)) Q
theorem set_listA : PSet X rSetA := PSet.imp set_list fun o i v H Q ⟨p, xs, k, j, a, b, c, d, q⟩ => ⟨p, xs, k, j, a, b, c, d, q.to c (fun _ z => by cases z)⟩
def rAppendA : V → List V → Hp → VK → Prop := fun x vs H Q => ∃ l xs y, x = .ref l ∧ vs = [y] ∧ H l = some (.lst xs) ∧ xs.length < sizeLine ∧ PutQ H l (.lst (xs ++ [y])) (Q .non)
def rExtendA : V → List V → Hp → VK → Prop := fun x vs H Q => ∃ l b xs zs, x = .ref l ∧ vs = [.ref b] ∧ H l = some (.lst xs) ∧ H b = some (.lst zs) ∧ xs.length + zs.length ≤ sizeLine ∧ PutQ H l (.lst (xs ++ zs)) (Q .non)
def rCatLA : R2 := fun x y H Q => ∃ l b xs zs, x = .ref l ∧ y = .ref b ∧ H l = some (.lst xs) ∧ H b = some (.lst zs) ∧ xs.length + zs.length ≤ sizeLine ∧ NewQ H (.lst (xs ++ zs)) Q
theorem op_catL : OpR X (binaryOp .Add) rCatLA := OpR.imp op_cat fun x y H Q ⟨l, b, xs, zs, e1, e2, h1, h2, z, q⟩ => ⟨l, b, xs, zs, e1, e2, h1, h2, z, q.to⟩
def rRepA : R2 := fun x y H Q => ∃ l k xs, x = .ref l ∧ y = .int k ∧ H l = some (.lst xs) ∧ 0 ≤ k ∧ k ≤ 1000000 ∧ xs.length * k.toNat ≤ 1000000 ∧ NewQ H (.lst (List.replicate k.toNat xs).flatten) Q
theorem op_repL : OpR X (binaryOp .Mult) rRepA := OpR.imp op_rep fun x y H Q ⟨l, k, xs, e1, e2, h1, h2, h3, z, q⟩ => ⟨l, k, xs, e1, e2, h1, by omega, by omega, Nat.le_trans z (by decide), q.to⟩
/-- tuple + tuple: some tuple of both -/
def rCatTA (K : PySem.W.Frag) : R2 := fun x y H Q => ∃ a b xs ys, x = .ref a ∧ y = .ref b ∧ H a = some (.tup xs) ∧ H b = some (.tup ys) ∧ xs.length + ys.length ≤ sizeLine ∧ ∀ p H2, H2 p = some (.tup (xs ++ ys)) → Kp [] H H2 → Q (.ref p) H2
theorem op_catT2 : OpR X (binaryOp .Add) (rCatTA X.K) := OpR.imp op_catA fun x y H Q ⟨a, b, xs, ys, e1, e2, h1, h2, z, q⟩ => by
  refine ⟨a, b, xs, ys, e1, e2, SqT.of h1, SqT.of h2, z, fun e => ?_, fun _ e => ?_, fun _ _ p hp => q p _ upd_same (Kp.new hp)⟩
  · subst e; exact q b H h2 Kp.refl
  · subst e; exact q a H (by rw [List.append_nil]; exact h1) Kp.refl
def rSlLA (K : PySem.W.Frag) : V → Option Int → Option Int → Hp → VK → Prop := fun x lo hi H Q => ∃ a xs, x = .ref a ∧ SqL K H a xs ∧ NewQ H (.lst (cutV xs lo hi)) Q
theorem sl_listA : SlR X (rSlLA X.K) := SlR.imp sl_list fun x lo hi H Q ⟨a, xs, e, h, q⟩ => ⟨a, xs, e, h, q.to⟩
theorem cutV_whole {xs : List V} {lo hi : Option Int} (h : HT.sIx xs.length 0 lo = 0 ∧ HT.sIx xs.length xs.length hi = xs.length) : cutV xs lo hi = xs := by
  unfold cutV
  rw [h.1, h.2]
  simp
def rSlTA (K : PySem.W.Frag) : V → Option Int → Option Int → Hp → VK → Prop := fun x lo hi H Q => ∃ a xs, x = .ref a ∧ H a = some (.tup xs) ∧ ∀ p H2, H2 p = some (.tup (cutV xs lo hi)) → Kp [] H H2 → Q (.ref p) H2
theorem sl_tupB : SlR X (rSlTA X.K) := SlR.imp sl_tupA fun x lo hi H Q ⟨a, xs, e, h, q⟩ => by
  refine ⟨a, xs, e, SqT.of h, fun z => ?_, fun _ p hp => q p _ upd_same (Kp.new hp)⟩
  exact q a H (by rw [cutV_whole z]; exact h) Kp.refl
theorem mt_appendA : MtR X "list.append" rAppendA := MtR.imp mt_append fun x vs H Q ⟨l, xs, y, e1, e2, h1, z, q⟩ => ⟨l, xs, y, e1, e2, h1, z, q.to h1 (fun _ z => by cases z)⟩
theorem mt_extendA : MtR X "list.extend" rExtendA := MtR.imp mt_extend fun x vs H Q ⟨l, b, xs, zs, e1, e2, h1, h2, z, q⟩ => ⟨l, b, xs, zs, e1, e2, h1, h2, z, q.to h1 (fun _ z => by cases z)⟩
/-- tuple(xs) of a list: a new tuple -/
def rTupOfA (K : PySem.W.Frag) : List V → Hp → VK → Prop := fun xs H Q => ∃ p ys, xs = [.ref p] ∧ SqL K H p ys ∧ NewQ H (.tup ys) Q
theorem call_tupleA : CallR X (.type "tuple") (rTupOfA X.K) := CallR.imp call_tuple_of fun xs H Q ⟨p, ys, e, h, q⟩ => ⟨p, ys, e, .inl ⟨h, q.to⟩⟩
/-- a loop, a cut: what is said there is said by hand -/
structure Lp (p : Prop) : Prop where
  h : p
theorem Lp.eq (p : Prop) : Lp p = p := propext ⟨fun x => x.h, fun x => ⟨x⟩⟩
def tForA (wi : TI) (g : TG) (tb : TS) : TS := fun D σ H => wi σ H fun J H1 => Lp (∃ W : Nat → Nat → L2.St → Hp → Prop, (∃ m, W 0 m σ H1) ∧ ∀ i m σ H, W i m σ H →
  (J.stop i H ∧ D.nx σ H) ∨ (J.go i H ∧ ∃ N : L2.St → Hp → Prop, (∀ σ' H', N σ' H' → ∃ m', m' < m ∧ W (i + 1) m' σ' H') ∧ ∀ x H', J.yld i H x H' → g x σ H' fun σ2 H2 => tb { D with nx := N, ct := N, bk := D.nx } σ2 H2))
theorem tForA_eq (wi : TI) (g : TG) (tb : TS) : tForA wi g tb = tFor wi g tb := by
  funext D σ H
  unfold tForA tFor
  simp only [Lp.eq]
theorem ps_forA {tg iter : Expr} {body : List Stmt} {wi : TI} {g : TG} {tb : TS} (h : PS X (.For tg iter body [] pos) (tFor wi g tb)) : PS X (.For tg iter body [] pos) (tForA wi g tb) := by rw [tForA_eq]; exact h
def tWhileA (c : TT) (tb : TS) : TS := fun D σ H => Lp (tWhile c tb D σ H)
theorem ps_whileA {c : Expr} {body : List Stmt} {tc : TT} {tb : TS} (h : PS X (.While c body [] pos) (tWhile tc tb)) : PS X (.While c body [] pos) (tWhileA tc tb) := by
  have e : tWhileA tc tb = tWhile tc tb := by
    funext D σ H
    unfold tWhileA
    rw [Lp.eq]
  rw [e]
  exact h
def tCutA (t u : TS) : TS := fun D σ H => Lp (C8.tCut t u D σ H)
theorem pss_cutA {st : Stmt} {rest : List Stmt} {t u : TS} (h1 : PS X st t) (h2 : PSs X rest u) : PSs X (st :: rest) (tCutA t u) := by
  have e : tCutA t u = C8.tCut t u := by
    funext D σ H
    unfold tCutA
    rw [Lp.eq]
  rw [e]
  exact C8.pss_cut h1 h2
/-! the same rules over a written part that is told by a letter -/
variable {K : PySem.W.Frag}
theorem cr_sumK (hK : X.K = K) (hc : X.calm = true) : CallR X (.builtin "sum") (rSum K) := hK ▸ cr_sum hc
theorem ix_listK (hK : X.K = K) : IxR X (rIxL K) := hK ▸ ix_list
theorem ix_tupK (hK : X.K = K) : IxR X (rIxT K) := hK ▸ ix_tup
theorem op_in_seqK (hK : X.K = K) : OpR X (compareOp .In) (rIn K false) := hK ▸ op_in_seq
theorem op_notIn_seqK (hK : X.K = K) : OpR X (compareOp .NotIn) (rIn K true) := hK ▸ op_notIn_seq
def rLenK (K : PySem.W.Frag) : List V → Hp → VK → Prop := fun xs H Q => ∃ p ys, xs = [.ref p] ∧ (SqL K H p ys ∨ SqT K H p ys) ∧ Q (.int ys.length) H
theorem call_lenK (hK : X.K = K) : CallR X (.builtin "len") (rLenK K) := hK ▸ call_len_seq
theorem call_isiK (hK : X.K = K) : CallR X (.builtin "isinstance") (rIsi K) := hK ▸ call_isi
theorem call_tupleK (hK : X.K = K) : CallR X (.type "tuple") (rTupOfA K) := hK ▸ call_tupleA
theorem sl_listK (hK : X.K = K) : SlR X (rSlLA K) := hK ▸ sl_listA
theorem sl_tupK (hK : X.K = K) : SlR X (rSlTA K) := hK ▸ sl_tupB
theorem op_catTK (hK : X.K = K) : OpR X (binaryOp .Add) (rCatTA K) := hK ▸ op_catT2
theorem op_eqDK (hK : X.K = K) (hu : X.A.units + 64 < cLine) : OpR X (compareOp .Eq) (rEqD K) := hK ▸ op_eqD hu
theorem op_neDK (hK : X.K = K) (hu : X.A.units + 64 < cLine) : OpR X (compareOp .NotEq) (rNeD K) := hK ▸ op_neD hu
theorem pi_listK {tg l : Expr} {tl : TE} (hK : X.K = K) (hl : PE X l tl) : PI X tg l (iList K tl) := hK ▸ pi_list hl
theorem pi_tupK {tg l : Expr} {tl : TE} (hK : X.K = K) (hl : PE X l tl) : PI X tg l (iTup K tl) := hK ▸ pi_tup hl
theorem pe_bmK {T name id : String} {o e : Expr} {es : List Expr} {r : V → List V → Hp → VK → Prop} {to : TE} {t : TA} {apos cpos : Pos} (hK : X.K = K) (pa : PlainAttrs T) (slot : Slot T name id) (hty : typeOf (.builtin id) = pure (.type "method_descriptor")) (hm : MtR X id r) (ho : PE X o to) (ha : PA X (e :: es) t)
    (hbase : attributeBase o name X.env (eval o X.env) = eval o X.env := by rfl)
    (hfew : ((backTo cpos (starEach (e :: es) X.env)).all (fun x => !x.1) && (backToKw cpos (keywordEach [] X.env)).all (fun x => x.1.isSome) && decide ((e :: es).length + ([] : List Keyword).length + (if ([] : List Keyword).isEmpty then 0 else 1) < 30)) = true := by rfl)
    (hline : (apos.endLine == cpos.line) = true := by rfl) (hs : starEach (e :: es) X.env = (false, eval e X.env) :: starEach es X.env := by rfl) (hplain : (backTo cpos (starEach es X.env)).any (·.1) = false := by rfl) :
    PE X (.Call (.Attribute o name apos) (e :: es) [] cpos) (tBM K T r to t) := hK ▸ pe_bm pa slot hty hm ho ha hbase hfew hline hs hplain
/-- d[x] = e, x a text -/
def sDPutS (td ty tv : TE) : TS := fun D σ H => tv σ H fun v H1 => td σ H1 fun o H2 => ty σ H2 fun y H3 => ∃ a kvs x, o = .ref a ∧ y = .str x ∧ H3 a = some (.dK kvs) ∧ kvs.length < sizeLine ∧ ∀ H4, H4 = upd H3 a (.dK (putK kvs (Sum.inr x) v)) → D.nx σ H4
theorem ps_dputS {o i value : Expr} {td ty tv : TE} {pos' : Pos} (hu : X.A.units + 1 < cLine) (ho : PE X o td) (hi : PE X i ty) (hv : PE X value tv) (hs : swapsWith value (some (.Subscript o i pos')) pos.line X.env = pure false := by rfl) : PS X (.Assign [.Subscript o i pos'] value pos) (sDPutS td ty tv) := by
  constructor
  intro pins s σ H D I h
  refine wpAny_Assign_Subscript (thn (hv.run pins s σ H _ I h) fun r s1 h1 => ?_) hs
  obtain ⟨v, H1, I1, rv, q1⟩ := h1
  refine thn (ho.run pins s1 σ H1 _ I1 q1) fun u s2 h2 => ?_
  obtain ⟨x, H2, I2, rx, q2⟩ := h2
  refine thn (hi.run pins s2 σ H2 _ I2 q2) fun iv s3 h3 => ?_
  obtain ⟨y, H3, I3, ry, a, kvs, z, ex, ey, hd, hz, q3⟩ := h3
  subst ex
  subst ey
  cases (show u = Value.ref a from rx)
  exact d_setItem hu I3 (DPut.k (k := Sum.inr z) hd hz) ry rv fun s4 I4 => ⟨σ, _, I4, q3 _ rfl⟩
theorem pe_fldK {o : Expr} {f : Str} {ta : TE} (hK : X.K = K) (he : PE X o ta) (hb : attributeBase o f X.env (eval o X.env) = eval o X.env := by rfl) : PE X (.Attribute o f pos) (tFld K ta f) := hK ▸ pe_fld he hb
/-- o.f = e -/
def sFldA (K : PySem.W.Frag) (ta tv : TE) (f : Str) : TS := fun D σ H => tv σ H fun y H1 => ta σ H1 fun x H2 => ∃ a C dx fs, x = .ref a ∧ H2 a = some (.ins C dx fs) ∧ Cls K C ∧ NoAttr K C f ∧ fs.length < 1000 ∧ PutQ H2 a (.ins C dx (putF f y fs)) (D.nx σ)
theorem ps_fldA {o value : Expr} {f : Str} {ta tv : TE} {pos' : Pos} (hK : X.K = K) (ha : PE X o ta) (hv : PE X value tv) (hs : swapsWith value (some (.Attribute o f pos')) pos.line X.env = pure false := by rfl) : PS X (.Assign [.Attribute o f pos'] value pos) (sFldA K ta tv f) := by
  subst hK
  constructor
  intro pins s σ H D I h
  refine plainObj_wpAny_Assign_Attribute (thn (hv.run pins s σ H _ I h) fun u s1 h1 => ?_) hs
  obtain ⟨y, H1, I1, ry, q⟩ := h1
  refine thn (ha.run pins s1 σ H1 _ I1 q) fun ov s2 h2 => ?_
  obtain ⟨x, H2, I2, rx, a, C, dx, fs, ex, ea, c, n, l, q2⟩ := h2
  subst ex
  cases (show ov = Value.ref a from rx)
  exact setattr_ok I2 ea c n l ry fun s3 I3 => ⟨σ, _, I3, q2.to ea (fun _ z => by cases z)⟩
theorem ps_fldK {o value : Expr} {f : Str} {ta tv : TE} {pos' : Pos} (hK : X.K = K) (ha : PE X o ta) (hv : PE X value tv) (hs : swapsWith value (some (.Attribute o f pos')) pos.line X.env = pure false := by rfl) : PS X (.Assign [.Attribute o f pos'] value pos) (sFld K ta tv f) := hK ▸ ps_fld ha hv hs
end

/-! ### the deck: its cells at c, how many numbers were drawn -/
structure DkOk (cs : List Int) (n : Int) : Prop where
  len : cs.length ≤ 63
  pos : ∀ x ∈ cs, (0 : Int) ≤ x
  n0 : 0 ≤ n
structure Deck (H : Hp) (a c : Addr) (n : Int) : Prop where
  ex : ∃ cs : List Int, H a = some (.lst [.ref c, .int n]) ∧ H c = some (.lst (cs.map V.int)) ∧ DkOk cs n
theorem Deck.ne {H : Hp} {a c : Addr} {n : Int} (d : Deck H a c n) : a ≠ c := by
  obtain ⟨cs, h1, h2, ok⟩ := d.ex
  refine ne_of h1 h2 fun z => ?_
  have z1 := HO.lst.inj z
  cases cs with
  | nil => cases z1
  | cons x r => cases z1
theorem Deck.kp {S : List Addr} {H H' : Hp} {a c : Addr} {n : Int} (d : Deck H a c n) (k : Kp S H H') (ha : a ∉ S) (hc : c ∉ S) : Deck H' a c n := by
  obtain ⟨cs, h1, h2, ok⟩ := d.ex
  exact ⟨cs, k.keep _ _ h1 ha, k.keep _ _ h2 hc, ok⟩
theorem Deck.kp0 {H H' : Hp} {a c : Addr} {n : Int} (d : Deck H a c n) (k : Kp [] H H') : Deck H' a c n := d.kp k (by simp) (by simp)
theorem Deck.a_some {H : Hp} {a c : Addr} {n : Int} (d : Deck H a c n) : ∃ xs, H a = some (.lst xs) := by
  obtain ⟨cs, h1, h2, ok⟩ := d.ex
  exact ⟨_, h1⟩
theorem Deck.c_some {H : Hp} {a c : Addr} {n : Int} (d : Deck H a c n) : ∃ xs, H c = some (.lst xs) := by
  obtain ⟨cs, h1, h2, ok⟩ := d.ex
  exact ⟨_, h2⟩
/-- a new address is not the deck's -/
theorem Deck.off {H : Hp} {a c p : Addr} {n : Int} (d : Deck H a c n) (h : H p = none) : p ∉ [a, c] := by
  obtain ⟨xs, h1⟩ := d.a_some
  obtain ⟨ys, h2⟩ := d.c_some
  exact ne2 (ne_of_none h1 h).symm (ne_of_none h2 h).symm
abbrev MANY : Int := 1000000000
def spDraw : Sp := fun vs H Q _ => ∃ (a c : Addr) (n many : Int), vs = [.ref a, .int many] ∧ Deck H a c n ∧ n ≤ MANY ∧ 0 < many ∧ many.natAbs < 2 ^ 1000 ∧
  ∀ (r : Int) (H' : Hp), 0 ≤ r → r < many → Deck H' a c (n + 1) → Kp [a, c] H H' → Q (.int r) H'
def spDeck (K : PySem.W.Frag) : Sp := fun vs H Q _ => ∃ (s : Addr) (ns : List Int), vs = [.ref s] ∧ SqL K H s (ns.map V.int) ∧ ns.length ≤ 63 ∧
  ∀ (a c : Addr) (H' : Hp), H a = none → H c = none → Kp [] H H' → Deck H' a c 0 → Q (.ref a) H'
/-- an item of a list that is drawn -/
def spOne (K : PySem.W.Frag) : Sp := fun vs H Q _ => ∃ (a c l : Addr) (n : Int) (xs : List V), vs = [.ref a, .ref l] ∧ Deck H a c n ∧ n ≤ MANY ∧ SqL K H l xs ∧ l ∉ [a, c] ∧ 0 < xs.length ∧ xs.length ≤ 1000000 ∧
  ∀ (x : V) (H' : Hp), x ∈ xs → Deck H' a c (n + 1) → Kp [a, c] H H' → Q x H'
/-- a sign of a text that is drawn -/
def spOneS : Sp := fun vs H Q _ => ∃ (a c : Addr) (n : Int) (z : Str), vs = [.ref a, .str z] ∧ Deck H a c n ∧ n ≤ MANY ∧ 0 < z.length ∧ z.length ≤ 1000000 ∧ ∀ (ch : Nat) (H' : Hp), ch ∈ z.cps.toList → Deck H' a c (n + 1) → Kp [a, c] H H' → Q (.str ⟨#[ch]⟩) H'
def spOne2 (K : PySem.W.Frag) : Sp := fun vs H Q E => spOne K vs H Q E ∨ spOneS vs H Q E
theorem pow1000 {m : Nat} (h : m ≤ 1000000) : ((m : Int)).natAbs < 2 ^ 1000 := by
  have e : ((m : Int)).natAbs < 2 ^ 30 := by
    have e2 : (2 : Nat) ^ 30 = 1073741824 := by decide
    rw [e2]
    omega
  exact Nat.lt_of_lt_of_le e (Nat.pow_le_pow_right (by decide) (by decide))
/-- a def of the text, as the top has left it -/
structure DA (K : PySem.W.Frag) (mg : Str → Option Value) (x : Str) (st : Stmt) (ps : List Str) where
  f : Addr
  fd : FuncData
  F : Fun K x x st f fd
  b : Binds K fd ps []
  g : mg x = some (.ref f)
/-- a class of the text, a method of it -/
structure CA (K : PySem.W.Frag) (mg : Str → Option Value) (x : Str) where
  C : Addr
  cl : Cls K C
  g : mg x = some (.ref C)
  mks : PySem.W.makesIn K C = true
  kp : PySem.W.keepIn K (.ref C) = true
structure DM (K : PySem.W.Frag) (C : Addr) (m q : Str) (st : Stmt) (ps : List Str) where
  f : Addr
  fd : FuncData
  F : Fun K m q st f fd
  b : Binds K fd ps []
  m : Meth K C m f
theorem atI_mem {α : Type} {xs : List α} {i : Int} (h0 : 0 ≤ i) (h : i < (xs.length : Int)) : ∃ v, atI xs i = some v ∧ v ∈ xs := by
  have hi : i.toNat < xs.length := by omega
  have e : i = ((i.toNat : Nat) : Int) := by omega
  have q : atI xs ((i.toNat : Nat) : Int) = some xs[i.toNat] := atI_nat (List.getElem?_eq_getElem hi)
  rw [← e] at q
  exact ⟨xs[i.toNat], q, List.getElem_mem hi⟩
theorem ixN_nat {n : Nat} {i : Int} (h0 : 0 ≤ i) (h : i < (n : Int)) : ixN n i = some i.toNat := by
  unfold ixN
  rw [if_pos h0, if_pos h]
theorem isi_ss : kitB "str" "str" = some true := by decide +kernel
theorem isi_is : kitB "int" "str" = some false := by decide +kernel
theorem isi_ts : kitB "tuple" "str" = some false := by decide +kernel
theorem isi_si : kitB "str" "int" = some false := by decide +kernel
theorem isi_ii : kitB "int" "int" = some true := by decide +kernel
theorem isi_ti : kitB "tuple" "int" = some false := by decide +kernel
theorem isi_st : kitB "str" "tuple" = some false := by decide +kernel
theorem isi_it : kitB "int" "tuple" = some false := by decide +kernel
theorem isi_tt : kitB "tuple" "tuple" = some true := by decide +kernel
theorem cpow_of {i j : Int} (h : 0 ≤ j ∧ j ≤ 1000000 ∧ i.natAbs < 2 ^ 64) : CPow i j := h
theorem cmul_of {i j : Int} (h : -(2 ^ 64) < i ∧ i < 2 ^ 64) : CMul i j := .inl h
theorem cdivn_of {i j : Int} (h : j ≠ 0 ∧ j.natAbs < 1073741824) : CDivN i j := h
theorem lt_lit {n : Nat} (h : Nat.ble (n + 1) 1000 = true) : n < 1000 := Nat.le_of_ble_eq_true h
theorem le_lit {n : Nat} (h : Nat.ble n 1000 = true) : n ≤ 1000000 := Nat.le_trans (Nat.le_of_ble_eq_true h) (by decide)
theorem pos_lit {n : Nat} (h : Nat.ble 1 n = true) : 0 < n := Nat.le_of_ble_eq_true h
theorem sz_lit {n : Nat} (h : Nat.ble n 1000 = true) : n ≤ sizeLine := Nat.le_trans (Nat.le_of_ble_eq_true h) (by decide)
theorem sz_lt {n : Nat} (h : n ≤ 1000000) : n < sizeLine := Nat.lt_of_le_of_lt h (by decide)
theorem sz_le {n : Nat} (h : n ≤ 1000000) : n ≤ sizeLine := Nat.le_of_lt (sz_lt h)
end EH
/-! a for in a generator's body: own work -/
namespace EH
open PySem PySem.Spec PyProof.Rows GenW L2

section
variable {M : Model} {A : Around} {R : GenEnd} {Y : Protocol} {n : Nat} {s₀ : Shared} {c : Code} {fs : List Frame} {s : Shared} {env : Env}
  {H : Value → Sem PySem.Fin} {gd : Bool → Bool} {lv : List Value → List Value}
theorem segb {α β : Type} {m : Sem α} {f : α → Sem β} {K : β → Sem PySem.Fin}
    (h : wpAny M (A.over c fs) m (fun a s' => Seg M A R Y n s₀ c ((f a).wrap K H gd lv) fs s') (fun x s' => Seg M A R Y n s₀ c (H x) fs s') s) :
    Seg M A R Y n s₀ c ((m >>= f).wrap K H gd lv) fs s := by
  rw [Sem.bind_eq_wrap', Sem.wrap_wrap]
  exact seg_wrap h
theorem seg_For {tg iter : Expr} {body orelse : List Stmt} {pos : Pos} {K : Flow → Sem PySem.Fin}
    (h : wpAny M (A.over c fs) (eval iter env) (fun x s1 => wpAny M (A.over c fs) (pyIter x) (fun it s2 => ∀ p, Seg M A R Y n s₀ (.forLoop tg it body orelse env) (M.den (.forLoop tg it body orelse env))
      (.ret (fun r => ((match r with | .ok f => (.pure f : Sem Flow) | .error e => .raise e).onRaise fun (x : Value) => do
        if (← field x 1) == Value.none then unsupported "frame.own-activation:exception-without-traceback"
        setFlight x env.frame).wrap K H gd lv) none (gd false) (lv []) c p [] :: fs) s2) (fun x s' => Seg M A R Y n s₀ c (H x) fs s') s1) (fun x s' => Seg M A R Y n s₀ c (H x) fs s') s)
    (hs : ∀ x, foldedSetIterable iter env x = pure x := by intro _; rfl) :
    Seg M A R Y n s₀ c ((exec (.For tg iter body orelse pos) env).wrap K H gd lv) fs s := by
  rw [exec_For]
  refine segb (wpAny_standAt ?_)
  refine segb (wpAny_mono h (fun x s1 h1 => ?_) fun _ _ q => q)
  refine segb (wpAny_of_eq (hs x) ?_)
  refine segb (wpAny_standAt ?_)
  refine segb (wpAny_holding (wpAny_mono h1 (fun it s2 h2 => ?_) fun _ _ q => q))
  exact seg_call h2
end
section
variable {prog : Program} {w : World} {A : Around} {R : GenEnd} {Y : Protocol} {n : Nat} {s₀ : Shared} {fs : List Frame} {s : Shared} {env : Env}
abbrev eJ (env : Env) (e : Value) : Sem PySem.Fin := (do noteFrame e env; theTreesLotGoes e : Sem Unit).wrap (fun _ => .raise e) .raise id id
theorem seg_forLoop {tg : Expr} {it : Value} {body : List Stmt}
    (h : wpAny (model prog w) (A.over (.forLoop tg it body [] env) fs) (pyNext it) (fun r s1 => match r with
        | none => Seg (model prog w) A R Y n s₀ (.forLoop tg it body [] env) (.pure (.again (.block [] env))) fs s1
        | some v => wpAny (model prog w) (A.over (.forLoop tg it body [] env) fs) (letOwnedTupleGo tg it v) (fun _ s2 =>
            wpAny (model prog w) (A.over (.forLoop tg it body [] env) fs) (assign tg env v) (fun _ s3 =>
              Seg (model prog w) A R Y n s₀ (.forLoop tg it body [] env) ((execs body env).wrap (fun f => match f with
                | .next | .cont => .pure (.again (.forLoop tg it body [] env))
                | .brk => .pure (.done .next)
                | .ret v => .pure (.done (.ret v))) (eJ env) id id) fs s3)
              (fun x s' => Seg (model prog w) A R Y n s₀ (.forLoop tg it body [] env) (eJ env x) fs s') s2)
            (fun x s' => Seg (model prog w) A R Y n s₀ (.forLoop tg it body [] env) (eJ env x) fs s') s1)
      (fun x s' => Seg (model prog w) A R Y n s₀ (.forLoop tg it body [] env) (eJ env x) fs s') s) :
    Seg (model prog w) A R Y n s₀ (.forLoop tg it body [] env) ((model prog w).den (.forLoop tg it body [] env)) fs s := by
  show Seg _ A R Y n s₀ _ ((forTurn tg it body [] env).onRaise (fun x => do noteFrame x env; theTreesLotGoes x)) fs s
  unfold forTurn
  rw [Sem.onRaise_eq_wrap]
  rw [Sem.wrap_congr _ _ _ (K' := fun f => (.pure f : Sem PySem.Fin)) (H' := eJ env) (fun f => by rfl)
        (fun e => by first | exact Sem.bind_eq_wrap _ _ | (show (do noteFrame e env; theTreesLotGoes e : Sem Unit).bind (fun _ => .raise e) = _; rw [Sem.bind_eq_wrap]))]
  refine segb (wpAny_standAt ?_)
  refine segb (wpAny_onRaise (wpAny_mono h (fun r s1 h1 => ?_) fun _ _ q => wpAny_standAt q))
  cases r with
  | none => exact h1
  | some v =>
    refine segb (wpAny_mono h1 (fun _ s2 h2 => ?_) fun _ _ q => q)
    refine segb (wpAny_mono h2 (fun _ s3 h3 => ?_) fun _ _ q => q)
    show Seg _ _ _ _ _ _ _ (Sem.wrap _ _ _ _ (execs body env >>= _)) _ _
    rw [Sem.bind_eq_wrap', Sem.wrap_wrap]
    rw [Sem.wrap_congr (execs body env) _ _ (K' := fun f => match f with
                | .next | .cont => .pure (.again (.forLoop tg it body [] env))
                | .brk => .pure (.done .next)
                | .ret v => .pure (.done (.ret v))) (H' := eJ env) (fun f => by cases f <;> rfl) (fun e => by rfl)]
    exact h3
end

section
variable {X : Cx}
def tGFor (wi : TI) (g : TG) (tb : TGn) : TGn := fun D ys σ H => wi σ H fun J H1 => ∃ W : Nat → Nat → List V → L2.St → Hp → Prop, (∃ m, W 0 m ys σ H1) ∧ ∀ i m ys σ H, W i m ys σ H →
  (J.stop i H ∧ D.nx ys σ H) ∨ (J.go i H ∧ ∃ N : List V → L2.St → Hp → Prop, (∀ ys' σ' H', N ys' σ' H' → ∃ m', m' < m ∧ W (i + 1) m' ys' σ' H') ∧ ∀ x H', J.yld i H x H' → g x σ H' fun σ2 H2 => tb { D with nx := N, ct := N, bk := D.nx } ys σ2 H2)
theorem gs_for {tg iter : Expr} {body : List Stmt} {wi : TI} {g : TG} {tb : TGn} {pos : Pos} (hp : PassesOwn (model X.prog X.w) X.A X.env X.xe) (hc : X.calm = true) (hi : PI X tg iter wi) (hg : PG X tg g) (hb : GSs X body tb)
    (hs : ∀ x, foldedSetIterable iter X.env x = pure x := by intro _; rfl) : GS X (.For tg iter body [] pos) (tGFor wi g tb) := by
  refine ⟨fun A S ip R n ys s₀ c fs K J gd lv s σ H D gc hn k hI ht => ?_⟩
  obtain ⟨acc, cc, r, I⟩ := hI
  refine seg_For ?_ hs
  rw [gc.over]
  refine wpAny_mono (hi.run _ s σ H _ I ht) (fun v s1 h1 => wpAny_mono h1 (fun itv s2 h2 p => ?_) fun x s' hx => k.exc n s₀ x s' hx) fun x s' hx => k.exc n s₀ x s' hx
  obtain ⟨it, fp, tn, Jt, H2, e, I2, T, st2, f2, W, ⟨m0, w0⟩, turn⟩ := h2
  subst e
  have stat : ∀ {H' : Hp} {acc' : Array Value} {c' : Nat}, (∀ b ∈ fp, H' b = none) → ∀ b ∈ fp, FpOk X ((S, lstObj acc' c') :: ip) H' b := fun {H' acc' c'} hn b hb => by
    obtain ⟨q1, q2, q3, q4, q5, q6⟩ := f2 b hb
    refine ⟨hn b hb, q2, q3, q4, q5, fun p hp => ?_⟩
    rcases List.mem_append.mp hp with hp | hp
    · exact q6 p (List.mem_append_left _ hp)
    · rcases List.mem_cons.mp hp with hp | hp
      · rw [hp]; exact q6 (S, lstObj acc cc) (List.mem_append_right _ List.mem_cons_self)
      · exact q6 p (List.mem_append_right _ (List.mem_cons_of_mem _ hp))
  have fpS : ∀ b ∈ fp, b ≠ S := fun b hb => (((f2 b hb).2.2.2.2.2) (S, lstObj acc cc) (List.mem_append_right _ List.mem_cons_self)).symm
  have gl := fun (kk : Result → Sem PySem.Fin) => gc_loop (k := kk) (c' := .forLoop tg (.ref it) body [] X.env) (l := lv []) (kp := []) (p := p) gc rfl rfl
  have loop : ∀ (m n i : Nat) (ys : List V) (s₀ s : Shared) (σ : L2.St) (H : Hp), n + ys.length = sizeLine → W i m ys σ H → GI X S ip ys σ H s → tn i s.heap → (∀ b ∈ fp, H b = none) →
      Seg (model X.prog X.w) A R (GY X S) n s₀ (.forLoop tg (.ref it) body [] X.env) ((model X.prog X.w).den (.forLoop tg (.ref it) body [] X.env))
        (.ret (fun r => ((match r with | .ok f => (.pure f : Sem Flow) | .error e => .raise e).onRaise (cameBack X.env)).wrap K J gd lv) none (gd false) (lv []) c p [] :: fs) s := by
    intro m
    induction m using Nat.strongRecOn with
    | ind m ih =>
      intro n i ys s₀ s σ H hn w hI st fr
      have ee : ∀ (n : Nat) (s₀ : Shared) (x : Value) (s' : Shared), X.xe x s' → Seg (model X.prog X.w) A R (GY X S) n s₀ (.forLoop tg (.ref it) body [] X.env)
          (eJ X.env x)
          (.ret (fun r => ((match r with | .ok f => (.pure f : Sem Flow) | .error e => .raise e).onRaise (cameBack X.env)).wrap K J gd lv) none (gd false) (lv []) c p [] :: fs) s' := fun n s₀ x s' hx => by
        refine seg_wrap ?_
        rw [(gl _).over]
        refine wpAny_bind (wpAny_mono (hp x s' hx) (fun _ s'' hcb => wpAny_theTreesLotGoes ?_) fun y s'' hcb => ?_)
        · exact seg_leaf (.error x) (seg_cameBack gc k hcb)
        · exact seg_leaf (.error y) (seg_cameBack gc k hcb)
      refine seg_forLoop ?_
      rw [(gl _).over]
      obtain ⟨acc, cc, r, I⟩ := hI
      rcases turn i m ys σ H w with ⟨stop, qn⟩ | ⟨go, N, hN, step⟩
      · refine wpAny_mono (T.done X rfl rfl rfl hc i _ s σ H X.xe I (stat fr) st stop) (fun rr s4 h4 => ?_) fun x s' hx => ee n s₀ x s' hx
        obtain ⟨hr, I4⟩ := h4
        subst hr
        refine seg_again rfl ?_
        exact seg_leaf (.ok .next) (k.ok n ys s₀ s4 .next hn ⟨σ, H, ⟨acc, cc, r, I4⟩, qn⟩)
      · refine wpAny_mono (T.item X rfl rfl rfl hc i _ s σ H X.xe I (stat fr) st go) (fun rr s4 h4 => ?_) fun x s' hx => ee n s₀ x s' hx
        obtain ⟨u, hr, h4⟩ := h4
        subst hr
        refine wpAny_mono h4 (fun _ s5 h5 => ?_) fun x s' hx => ee n s₀ x s' hx
        obtain ⟨x, H5, I5, r5, y5, st5, fr5⟩ := h5
        have I5' := I5.pinned (stat fr5) (T.obj _ _ st5)
        refine wpAny_mono (hg.run _ s5 σ H5 x u _ I5' r5 (step x H5 y5)) (fun _ s6 h6 => ?_) fun x s' hx => ee n s₀ x s' hx
        obtain ⟨σ6, H6, I6, q6⟩ := h6
        have gl2 : GC X S (ip ++ pinsAt fp s5.heap) A (.forLoop tg (.ref it) body [] X.env) (.ret (fun r => ((match r with | .ok f => (.pure f : Sem Flow) | .error e => .raise e).onRaise (cameBack X.env)).wrap K J gd lv) none (gd false) (lv []) c p [] :: fs) id :=
          { gl _ with ip := fun q hq => (List.mem_append.mp hq).elim (gc.ip q) fun z => fpS _ (of_pinsAt z).1 }
        refine hb.run A S (ip ++ pinsAt fp s5.heap) R n ys s₀ _ _ _ _ id id s6 σ6 H6 { D with nx := N, ct := N, bk := D.nx } gl2 hn ⟨fun n' ys' s₀' s7 f hn' hs => ?_, fun n' s₀' x s7 hx => ee n' s₀' x s7 hx⟩ ⟨acc, cc, r, I6⟩ q6
        have unp : ∀ {ys7 : List V} {σ7 : L2.St} {H7 : Hp}, GI X S (ip ++ pinsAt fp s5.heap) ys7 σ7 H7 s7 → GI X S ip ys7 σ7 H7 s7 := fun ⟨a7, c7, r7, I7⟩ => ⟨a7, c7, r7, Inv.unpinned (pins := (S, lstObj a7 c7) :: ip) I7⟩
        have again : ∀ {σ7 : L2.St} {H7 : Hp}, GI X S (ip ++ pinsAt fp s5.heap) ys' σ7 H7 s7 → N ys' σ7 H7 → Seg (model X.prog X.w) A R (GY X S) n' s₀' (.forLoop tg (.ref it) body [] X.env) (.pure (.again (.forLoop tg (.ref it) body [] X.env)))
            (.ret (fun r => ((match r with | .ok f => (.pure f : Sem Flow) | .error e => .raise e).onRaise (cameBack X.env)).wrap K J gd lv) none (gd false) (lv []) c p [] :: fs) s7 := fun {σ7 H7} I7 n7 => by
          obtain ⟨m', hm, w7⟩ := hN ys' σ7 H7 n7
          refine seg_again rfl (ih m' hm n' (i + 1) ys' s₀' s7 σ7 H7 hn' w7 (unp I7) ?_ ?_)
          · obtain ⟨a7, c7, r7, I7⟩ := I7
            exact T.keep _ _ _ st5 fun b hb o e => (I7.pin (b, o) (List.mem_append_right _ (List.mem_cons_of_mem _ (List.mem_append_right _ (mem_pinsAt hb e))))).1
          · intro b hb
            obtain ⟨a7, c7, r7, I7⟩ := I7
            obtain ⟨o, e, d⟩ := T.obj _ _ st5 b hb
            exact (I7.pin (b, o) (List.mem_append_right _ (List.mem_cons_of_mem _ (List.mem_append_right _ (mem_pinsAt hb e))))).2.1
        cases f with
        | next => obtain ⟨σ7, H7, I7, n7⟩ := hs; exact again I7 n7
        | cont => obtain ⟨σ7, H7, I7, n7⟩ := hs; exact again I7 n7
        | brk => obtain ⟨σ7, H7, I7, q7⟩ := hs; exact seg_leaf (.ok .next) (k.ok n' ys' s₀' s7 .next hn' ⟨σ7, H7, unp I7, q7⟩)
        | ret v => obtain ⟨x7, σ7, H7, I7, r7, q7⟩ := hs; exact seg_leaf (.ok (.ret v)) (k.ok n' ys' s₀' s7 (.ret v) hn' ⟨x7, σ7, H7, unp I7, r7, q7⟩)
  exact loop m0 n 0 ys s₀ s2 σ H2 hn w0 ⟨acc, cc, r, I2⟩ st2 fun b hb => (f2 b hb).1
end

section
variable {X : Cx}
def tGForA (wi : TI) (g : TG) (tb : TGn) : TGn := fun D ys σ H => wi σ H fun J H1 => Lp (∃ W : Nat → Nat → List V → L2.St → Hp → Prop, (∃ m, W 0 m ys σ H1) ∧ ∀ i m ys σ H, W i m ys σ H →
  (J.stop i H ∧ D.nx ys σ H) ∨ (J.go i H ∧ ∃ N : List V → L2.St → Hp → Prop, (∀ ys' σ' H', N ys' σ' H' → ∃ m', m' < m ∧ W (i + 1) m' ys' σ' H') ∧ ∀ x H', J.yld i H x H' → g x σ H' fun σ2 H2 => tb { D with nx := N, ct := N, bk := D.nx } ys σ2 H2))
theorem tGForA_eq (wi : TI) (g : TG) (tb : TGn) : tGForA wi g tb = tGFor wi g tb := by
  funext D ys σ H
  unfold tGForA tGFor
  simp only [Lp.eq]
theorem gs_forA {st : Stmt} {wi : TI} {g : TG} {tb : TGn} (h : GS X st (tGFor wi g tb)) : GS X st (tGForA wi g tb) := by rw [tGForA_eq]; exact h
/-- over a list that the body leaves as it is -/
theorem gfor_list {K : PySem.W.Frag} {a : Addr} {xs : List V} {g : TG} {tb : TGn} {D : GEnds} {ys : List V} {σ : L2.St} {H : Hp} (Pv : Nat → List V → L2.St → Hp → Prop) (h0 : Pv 0 ys σ H) (hl : ∀ i ys σ H, i ≤ xs.length → Pv i ys σ H → SqL K H a xs)
    (hs : ∀ i x ys σ H, xs[i]? = some x → Pv i ys σ H → g x σ H fun σ2 H2 => tb { D with nx := Pv (i + 1), ct := Pv (i + 1), bk := D.nx } ys σ2 H2) (hd : ∀ ys σ H, Pv xs.length ys σ H → D.nx ys σ H) :
    ∃ W : Nat → Nat → List V → L2.St → Hp → Prop, (∃ m, W 0 m ys σ H) ∧ ∀ i m ys σ H, W i m ys σ H →
      ((Itl K a).stop i H ∧ D.nx ys σ H) ∨ ((Itl K a).go i H ∧ ∃ N : List V → L2.St → Hp → Prop, (∀ ys' σ' H', N ys' σ' H' → ∃ m', m' < m ∧ W (i + 1) m' ys' σ' H') ∧ ∀ x H', (Itl K a).yld i H x H' → g x σ H' fun σ2 H2 => tb { D with nx := N, ct := N, bk := D.nx } ys σ2 H2) := by
  refine ⟨fun i m ys σ H => m = xs.length - i ∧ i ≤ xs.length ∧ Pv i ys σ H, ⟨xs.length, by simp, Nat.zero_le _, h0⟩, ?_⟩
  rintro i m ys σ H ⟨rfl, hi, p⟩
  have q := hl i ys σ H hi p
  by_cases hlt : i < xs.length
  · refine .inr ⟨⟨xs, xs[i], q, by simp [hlt]⟩, Pv (i + 1), fun ys' σ' H' p' => ⟨xs.length - (i + 1), by omega, rfl, hlt, p'⟩, fun x H' y => ?_⟩
    obtain ⟨e, y⟩ := y
    subst e
    exact hs i x ys σ _ (y xs q) p
  · have e : i = xs.length := by omega
    subst e
    exact .inl ⟨⟨xs, q, by simp⟩, hd ys σ H p⟩
end
section
variable {P : Program} {w : World} {K : PySem.W.Frag} {mg : Str → Option Value} {base : Heap}
theorem _root_.L2.Fun.gen {x qual : Str} {st : Stmt} {f : Addr} {fd : FuncData} {N ps : List Str} {k : Nat} {sp : SpG} (F : Fun K x qual st f fd) (S : GScope N ps (defScope st)) (len : ∀ vs H Q E, sp vs H Q E → vs.length = ps.length)
    (hbody : ∀ (cdv : Value) (A : Around) (outer : List Env) (s : Shared) (H : Hp) (vs : List V) (Q : List V → Hp → Prop) (E : XK) (pn : List (Addr × Obj)), Room k (A.deeper (envOfC qual (defScope st) s.heap.objs.size f cdv)) → sp vs H Q E →
      ∃ t, GSs (gcxOf P w K mg base N qual (defScope st) f cdv A outer s H E pn) (defBody st) t ∧ t { nx := fun ys _ H' => Q ys H', rt := fun ys v H' => v = .non ∧ Q ys H' } [] (start N vs) H) : GFn P w K mg base (k + 1) f fd ps sp := by
  obtain ⟨oc, od, kV, doc, pm, an, cdv, ct, osl, rfl, lk, hcd⟩ := F.ex
  exact gfn_of lk hcd S len fun A outer s H vs Q E pn hr h => hbody cdv A outer s H vs Q E pn hr h
end
section
variable {X : Cx}
abbrev EN : XK := fun _ _ _ => False
theorem nostop0 {K : PySem.W.Frag} : NoStop K EN := fun _ _ _ h => h.elim
theorem pass_none {prog : Program} {w : World} : Passes (CX prog w) X EN := by
  intro pins σ H s e s' I h
  obtain ⟨_, _, _, _, _, _, _, _, _, _, _, _, z⟩ := h
  exact z.elim
def tListGA (tg : TGen) : TE := fun σ H Q => tg σ H fun out H2 => ∀ p H3, H2 p = none → H3 p = some (.lst out) → Kp [] H2 H3 → Q (.ref p) H3
theorem pe_listGA {k : Nat} {e : Expr} {tg : TGen} {nm : Str} {p pos : Pos} (h : PGen X k e tg EN) (hmono : ∀ σ H (c1 c2 : List V → Hp → Prop), (∀ ys H', c1 ys H' → c2 ys H') → tg σ H c1 → tg σ H c2) (hr : Room (k + 3) X.A) (hg : Gl X nm) (hmg : X.mg nm = none) (hv : bootBuiltins nm = some (.type "list")) (hnm : nm ≠ "__name__" := by decide) (hdb : (nm == ("__debug__" : Str)) = false := by decide)
    (he : starEach [e] X.env = (false, eval e X.env) :: starEach [] X.env := by rfl) : PE X (.Call (.Name nm p) [e] [] pos) (tListGA tg) := PE.imp (pe_listG h pass_none nostop0 hr hg hmg hv hnm hdb he) fun σ H Q q => hmono σ H _ _ (fun ys H' z p hp => z p _ hp upd_same (Kp.new hp)) q
end
end EH
namespace EH
open PySem L2
def topS (i : Nat) : Stmt := PySem.Challenge.pw_eitherhalf_k36_whole_trees_of_turns.main.body.getD i (.Pass ⟨0, 0, 0, 0⟩)
abbrev s_blocks_of : Stmt := topS 1
theorem sc_blocks_of : FnScope ["statement"] ["statement"] (defScope s_blocks_of) := ⟨rfl, rfl, rfl, by decide +kernel, rfl, by decide +kernel, by decide +kernel⟩
abbrev s_places_in : Stmt := topS 2
theorem sc_places_in : FnScope ["statement", "block", "item"] ["statement"] (defScope s_places_in) := ⟨rfl, rfl, rfl, by decide +kernel, rfl, by decide +kernel, by decide +kernel⟩
abbrev s_value_of : Stmt := topS 6
theorem sc_value_of : FnScope ["expression", "names", "sort", "first", "second"] ["expression", "names"] (defScope s_value_of) := ⟨rfl, rfl, rfl, by decide +kernel, rfl, by decide +kernel, by decide +kernel⟩
abbrev s_is_true : Stmt := topS 7
theorem sc_is_true : FnScope ["test", "names"] ["test", "names"] (defScope s_is_true) := ⟨rfl, rfl, rfl, by decide +kernel, rfl, by decide +kernel, by decide +kernel⟩
abbrev s_Course_init : Stmt := inClass (topS 8) 0
theorem sc_Course_init : FnScope ["self", "number", "choices", "ways", "rule"] ["self", "number", "choices", "ways", "rule"] (defScope s_Course_init) := ⟨rfl, rfl, rfl, by decide +kernel, rfl, by decide +kernel, by decide +kernel⟩
abbrev s_Course_choice : Stmt := inClass (topS 8) 1
theorem sc_Course_choice : FnScope ["self", "value", "place"] ["self", "value", "place"] (defScope s_Course_choice) := ⟨rfl, rfl, rfl, by decide +kernel, rfl, by decide +kernel, by decide +kernel⟩
abbrev s_Course_halved : Stmt := inClass (topS 8) 2
theorem sc_Course_halved : FnScope ["self", "value", "place", "way"] ["self", "value", "place"] (defScope s_Course_halved) := ⟨rfl, rfl, rfl, by decide +kernel, rfl, by decide +kernel, by decide +kernel⟩
abbrev s_Course_do : Stmt := inClass (topS 8) 3
theorem sc_Course_do : FnScope ["self", "statement", "place"] ["self", "statement", "place"] (defScope s_Course_do) := ⟨rfl, rfl, rfl, by decide +kernel, rfl, by decide +kernel, by decide +kernel⟩
abbrev s_Course_parts : Stmt := inClass (topS 8) 4
theorem sc_Course_parts : FnScope ["self", "statement", "place", "item"] ["self", "statement", "place"] (defScope s_Course_parts) := ⟨rfl, rfl, rfl, by decide +kernel, rfl, by decide +kernel, by decide +kernel⟩
abbrev s_Course_go : Stmt := inClass (topS 8) 5
theorem sc_Course_go : FnScope ["self", "block", "place", "statement", "word", "part", "begin"] ["self", "block", "place"] (defScope s_Course_go) := ⟨rfl, rfl, rfl, by decide +kernel, rfl, by decide +kernel, by decide +kernel⟩
abbrev s_course_of : Stmt := topS 9
theorem sc_course_of : FnScope ["program", "number", "choices", "ways", "rule", "course", "word"] ["program", "number", "choices", "ways", "rule"] (defScope s_course_of) := ⟨rfl, rfl, rfl, by decide +kernel, rfl, by decide +kernel, by decide +kernel⟩
abbrev s_run_of : Stmt := topS 10
theorem sc_run_of : FnScope ["program", "number", "choices", "ways"] ["program", "number", "choices", "ways"] (defScope s_run_of) := ⟨rfl, rfl, rfl, by decide +kernel, rfl, by decide +kernel, by decide +kernel⟩
abbrev s_run : Stmt := topS 11
theorem sc_run : FnScope ["program", "number", "choices"] ["program", "number", "choices"] (defScope s_run) := ⟨rfl, rfl, rfl, by decide +kernel, rfl, by decide +kernel, by decide +kernel⟩
abbrev s_next_choices : Stmt := topS 12
theorem sc_next_choices : FnScope ["turns", "at"] ["turns"] (defScope s_next_choices) := ⟨rfl, rfl, rfl, by decide +kernel, rfl, by decide +kernel, by decide +kernel⟩
abbrev s_runs_on : Stmt := topS 13
theorem sc_runs_on : FnScope ["program", "number", "ways", "left", "found", "items", "word", "turns"] ["program", "number", "ways"] (defScope s_runs_on) := ⟨rfl, rfl, rfl, by decide +kernel, rfl, by decide +kernel, by decide +kernel⟩
abbrev s_each_run : Stmt := topS 14
theorem sc_each_run : GScope ["program", "number", "row"] ["program", "number"] (defScope s_each_run) := ⟨rfl, rfl, rfl, by decide +kernel, rfl, by decide +kernel, by decide +kernel⟩
abbrev s_l_deck : Stmt := topS 16
theorem sc_l_deck : FnScope ["_law_script", "_law_cell"] ["_law_script"] (defScope s_l_deck) := ⟨rfl, rfl, rfl, by decide +kernel, rfl, by decide +kernel, by decide +kernel⟩
abbrev s_l_draw : Stmt := topS 17
theorem sc_l_draw : FnScope ["_law_deck_here", "_law_many", "_law_cell", "_law_at", "_law_mixed"] ["_law_deck_here", "_law_many"] (defScope s_l_draw) := ⟨rfl, rfl, rfl, by decide +kernel, rfl, by decide +kernel, by decide +kernel⟩
abbrev s_l_one : Stmt := topS 18
theorem sc_l_one : FnScope ["_law_deck_here", "_law_items"] ["_law_deck_here", "_law_items"] (defScope s_l_one) := ⟨rfl, rfl, rfl, by decide +kernel, rfl, by decide +kernel, by decide +kernel⟩
abbrev s_l_names : Stmt := topS 19
theorem sc_l_names : FnScope ["_law_deck_here", "_law_letters", "_law_left", "_law_signs", "_law_right_here", "_law_k"] ["_law_deck_here"] (defScope s_l_names) := ⟨rfl, rfl, rfl, by decide +kernel, rfl, by decide +kernel, by decide +kernel⟩
abbrev s_l_expression : Stmt := topS 20
theorem sc_l_expression : FnScope ["_law_deck_here", "_law_names_here", "_law_deep", "_law_way", "_law_factor", "_law_first"] ["_law_deck_here", "_law_names_here", "_law_deep"] (defScope s_l_expression) := ⟨rfl, rfl, rfl, by decide +kernel, rfl, by decide +kernel, by decide +kernel⟩
abbrev s_l_test : Stmt := topS 21
theorem sc_l_test : FnScope ["_law_deck_here", "_law_names_here", "_law_left", "_law_times", "_law_nots", "_law_test_here", "_law_k"] ["_law_deck_here", "_law_names_here", "_law_left", "_law_times"] (defScope s_l_test) := ⟨rfl, rfl, rfl, by decide +kernel, rfl, by decide +kernel, by decide +kernel⟩
abbrev s_l_plain : Stmt := topS 22
theorem sc_l_plain : FnScope ["_law_deck_here", "_law_names_here", "_law_left", "_law_times", "_law_way", "_law_name"] ["_law_deck_here", "_law_names_here", "_law_left", "_law_times"] (defScope s_l_plain) := ⟨rfl, rfl, rfl, by decide +kernel, rfl, by decide +kernel, by decide +kernel⟩
abbrev s_l_row : Stmt := topS 23
theorem sc_l_row : FnScope ["_law_deck_here", "_law_names_here", "_law_left", "_law_times", "_law_depth", "_law_way", "_law_test_here", "_law_yes", "_law_no", "_law_again", "_law_block_here"] ["_law_deck_here", "_law_names_here", "_law_left", "_law_times", "_law_depth"] (defScope s_l_row) := ⟨rfl, rfl, rfl, by decide +kernel, rfl, by decide +kernel, by decide +kernel⟩
abbrev s_l_block : Stmt := topS 24
theorem sc_l_block : FnScope ["_law_deck_here", "_law_names_here", "_law_left", "_law_times", "_law_depth", "_law_many", "_law_rows", "_law_k", "_law_row_here"] ["_law_deck_here", "_law_names_here", "_law_left", "_law_times", "_law_depth"] (defScope s_l_block) := ⟨rfl, rfl, rfl, by decide +kernel, rfl, by decide +kernel, by decide +kernel⟩
abbrev s_l_program : Stmt := topS 25
theorem sc_l_program : FnScope ["_law_deck_here", "_law_names_here", "_law_left", "_law_program_here", "_law_k"] ["_law_deck_here", "_law_names_here"] (defScope s_l_program) := ⟨rfl, rfl, rfl, by decide +kernel, rfl, by decide +kernel, by decide +kernel⟩
abbrev s_l_number : Stmt := topS 26
theorem sc_l_number : FnScope ["_law_deck_here", "_law_way", "_law_sign"] ["_law_deck_here"] (defScope s_l_number) := ⟨rfl, rfl, rfl, by decide +kernel, rfl, by decide +kernel, by decide +kernel⟩
abbrev s_l_right : Stmt := topS 27
theorem sc_l_right : FnScope ["_law_program_here", "_law_number_here", "_law_rows", "_law_turns", "_law_one_here", "_law_other", "_law_row_here"] ["_law_program_here", "_law_number_here"] (defScope s_l_right) := ⟨rfl, rfl, rfl, by decide +kernel, rfl, by decide +kernel, by decide +kernel⟩
abbrev s_law : Stmt := topS 28
theorem sc_law : FnScope ["_law_script", "_law_deck_here", "_law_turn", "_law_program_here", "_law_k"] ["_law_script"] (defScope s_law) := ⟨rfl, rfl, rfl, by decide +kernel, rfl, by decide +kernel, by decide +kernel⟩
set_option genInjectivity false in
set_option genSizeOfSpec false in
structure Top (K : PySem.W.Frag) (mg : Str → Option Value) where
  blocks_of : DA K mg "blocks_of" s_blocks_of ["statement"]
  places_in : DA K mg "places_in" s_places_in ["statement"]
  value_of : DA K mg "value_of" s_value_of ["expression", "names"]
  is_true : DA K mg "is_true" s_is_true ["test", "names"]
  course_of : DA K mg "course_of" s_course_of ["program", "number", "choices", "ways", "rule"]
  run_of : DA K mg "run_of" s_run_of ["program", "number", "choices", "ways"]
  run : DA K mg "run" s_run ["program", "number", "choices"]
  next_choices : DA K mg "next_choices" s_next_choices ["turns"]
  runs_on : DA K mg "runs_on" s_runs_on ["program", "number", "ways"]
  each_run : DA K mg "each_run" s_each_run ["program", "number"]
  l_deck : DA K mg "_law_deck" s_l_deck ["_law_script"]
  l_draw : DA K mg "_law_draw" s_l_draw ["_law_deck_here", "_law_many"]
  l_one : DA K mg "_law_one" s_l_one ["_law_deck_here", "_law_items"]
  l_names : DA K mg "_law_names" s_l_names ["_law_deck_here"]
  l_expression : DA K mg "_law_expression" s_l_expression ["_law_deck_here", "_law_names_here", "_law_deep"]
  l_test : DA K mg "_law_test" s_l_test ["_law_deck_here", "_law_names_here", "_law_left", "_law_times"]
  l_plain : DA K mg "_law_plain" s_l_plain ["_law_deck_here", "_law_names_here", "_law_left", "_law_times"]
  l_row : DA K mg "_law_row" s_l_row ["_law_deck_here", "_law_names_here", "_law_left", "_law_times", "_law_depth"]
  l_block : DA K mg "_law_block" s_l_block ["_law_deck_here", "_law_names_here", "_law_left", "_law_times", "_law_depth"]
  l_program : DA K mg "_law_program" s_l_program ["_law_deck_here", "_law_names_here"]
  l_number : DA K mg "_law_number" s_l_number ["_law_deck_here"]
  l_right : DA K mg "_law_right" s_l_right ["_law_program_here", "_law_number_here"]
  law : DA K mg "law" s_law ["_law_script"]
  Course : CA K mg "Course"
  Course_init : DM K Course.C "__init__" "Course.__init__" s_Course_init ["self", "number", "choices", "ways", "rule"]
  Course_choice : DM K Course.C "choice" "Course.choice" s_Course_choice ["self", "value", "place"]
  Course_halved : DM K Course.C "halved" "Course.halved" s_Course_halved ["self", "value", "place"]
  Course_do : DM K Course.C "do" "Course.do" s_Course_do ["self", "statement", "place"]
  Course_parts : DM K Course.C "parts" "Course.parts" s_Course_parts ["self", "statement", "place"]
  Course_go : DM K Course.C "go" "Course.go" s_Course_go ["self", "block", "place"]
  mk_Course : Mk K Course.C Course_init.f
  n_Course_names : NoAttr K Course.C "names"
  n_Course_said : NoAttr K Course.C "said"
  n_Course_turns : NoAttr K Course.C "turns"
  n_Course_choices : NoAttr K Course.C "choices"
  n_Course_ways : NoAttr K Course.C "ways"
  n_Course_rule : NoAttr K Course.C "rule"
  t_DOWN : Tok
  g_DOWN : mg "DOWN" = some (.int 0 t_DOWN)
  t_INPUT : Tok
  g_INPUT : mg "INPUT" = some (.str "n" t_INPUT)
  abs : mg "abs" = none
  all : mg "all" = none
  int : mg "int" = none
  isinstance : mg "isinstance" = none
  len : mg "len" = none
  list : mg "list" = none
  max : mg "max" = none
  range : mg "range" = none
  repr : mg "repr" = none
  set : mg "set" = none
  sorted : mg "sorted" = none
  str : mg "str" = none
  sum : mg "sum" = none
  tuple : mg "tuple" = none
  zip : mg "zip" = none
end EH
namespace EH
open PySem L2
local macro_rules | `(tactic| walk_at "sd") => `(tactic| first | assumption | ((with_reducible show (_ : Int) ≤ _); omega) | ((with_reducible show (_ : Int) < _); omega) | rfl | exact SqL.of (by assumption) | exact SqT.of (by assumption) | exact atI_nat (j := 0) rfl | exact atI_nat (j := 1) rfl | exact atI_nat (j := 2) rfl | exact atI_nat (j := 3) rfl | exact sz_lit rfl | exact lt_lit rfl | exact pos_lit rfl | exact le_lit rfl | exact Or.inl (SqL.of (by assumption)) | exact ⟨_, SqL.of (by assumption)⟩ | exact ⟨_, SqT.of (by assumption)⟩ | exact Or.inr (SqT.of (by assumption)) | exact ClsV.ty _ | exact TyX.base (TyOf.int _) | exact TyX.base (TyOf.str _) | exact TyX.base (TyOf.tup (by assumption)) | exact kit_ty isi_ss | exact kit_ty isi_is | exact kit_ty isi_ts | exact kit_ty isi_si | exact kit_ty isi_ii | exact kit_ty isi_ti | exact kit_ty isi_st | exact kit_ty isi_it | exact kit_ty isi_tt | exact Or.inl ⟨_, Or.inl (by assumption)⟩ | exact DGet.k (k := Sum.inr _) (by assumption) | exact DGet.k (k := Sum.inl _) (by assumption) | (refine cpow_of ?_; decide) | (refine cmul_of ?_; decide) | (show (_ : Int) ≠ 0; first | decide | omega) | (refine cdivn_of ?_; decide) | exact Or.inl ⟨rfl, _, SqL.of (by assumption)⟩ | omega)
local macro_rules | `(tactic| walk_at "st") => `(tactic| first | (apply Exists.intro) | (refine And.intro ?_ ?_; focus (walk_at "sd")) | (apply Or.inl; apply Exists.intro; refine And.intro ?_ ?_; focus rfl) | (apply Or.inr; apply Exists.intro; refine And.intro ?_ ?_; focus rfl))
local macro_rules | `(tactic| walk_at "go") => `(tactic| repeat (walk_at "st"))
section
variable {P : Program} {w : World} {K : PySem.W.Frag} {mg : Str → Option Value} {base : Heap}
theorem ok_l_draw (T : Top K mg) {k : Nat} : FnOk P w K mg base CX0 (k + 1) T.l_draw.f T.l_draw.fd ["_law_deck_here", "_law_many"] spDraw := by
  refine T.l_draw.F.ok sc_l_draw (fun vs H Q E h => ?_) (fun cdv A outer s H vs Q E hr h => ?_)
  · obtain ⟨a, c, n, many, rfl, _⟩ := h
    rfl
  obtain ⟨a, c, n, many, rfl, hD, hn, hm, hm2, q⟩ := h
  refine ⟨_, (pss_cons (ps_asg (pe_op op_add (pe_ix (ix_listK (K := K) rfl) (pv 0) pe_int (fun _ _ => rfl)) pe_int) (pg_sub (pv 0) pe_int set_listA))
      (pss_cons (ps_asg (pe_tupA (pa_cons pe_int (pa_cons (pe_un un_neg pe_int) pa_nil))) (pg_tup (by rfl) (pgs_cons (pg_name (i := 2) sc_l_draw.nd rfl (.inl rfl)) (pgs_cons (pg_name (i := 3) sc_l_draw.nd rfl (.inl rfl)) pgs_nil))))
      (pss_cons (ps_if (pt_cmpR op_gt (pe_callB (id := "len") (call_lenK (K := K) rfl) (by rfl) T.len PySem.boot_len (pa_cons (pe_ix (ix_listK (K := K) rfl) (pv 0) pe_int (fun _ _ => rfl)) pa_nil)) pe_int (nomark _)) (pss_cons (ps_set (i := 3) sc_l_draw.nd rfl (.inl rfl) (pe_op op_modN (pe_callTy (T := "int") call_int1 (by rfl) T.int (by decide +kernel) (pa_cons (pe_ix (ix_listK (K := K) rfl) (pv 0) pe_int (fun _ _ => rfl)) pa_nil)) (pe_callB (id := "len") (call_lenK (K := K) rfl) (by rfl) T.len PySem.boot_len (pa_cons (pe_ix (ix_listK (K := K) rfl) (pv 0) pe_int (fun _ _ => rfl)) pa_nil))))
      (pss_one (ps_set (i := 2) sc_l_draw.nd rfl (.inl rfl) (pe_ix (ix_listK (K := K) rfl) (pe_ix (ix_listK (K := K) rfl) (pv 0) pe_int (fun _ _ => rfl)) (pv 3) (fun _ _ => rfl))))) pss_nil)
      (pss_cons (ps_if (pt_cmpR op_ge (pv 2) (pe_op op_pow pe_int pe_int) (nomark _)) (pss_cons (ps_asg (pe_op op_fdivW (pe_callTy (T := "int") call_int1 (by rfl) T.int (by decide +kernel) (pa_cons (pv 2) pa_nil)) (pv 1)) (pg_sub (pe_ix (ix_listK (K := K) rfl) (pv 0) pe_int (fun _ _ => rfl)) (pv 3) set_listA))
      (pss_one (ps_ret (pe_op op_modN (pe_callTy (T := "int") call_int1 (by rfl) T.int (by decide +kernel) (pa_cons (pv 2) pa_nil)) (pv 1))))) pss_nil)
      (pss_cons (ps_set (i := 4) sc_l_draw.nd rfl (.inl rfl) (pe_op op_add (pe_op op_add (pe_op op_modN (pe_callTy (T := "int") call_int1 (by rfl) T.int (by decide +kernel) (pa_cons (pv 2) pa_nil)) pe_int) (pe_op op_mul pe_int (pe_ix (ix_listK (K := K) rfl) (pv 0) pe_int (fun _ _ => rfl)))) pe_int))
      (pss_one (ps_ret (pe_op op_modN (pe_callTy (T := "int") call_int1 (by rfl) T.int (by decide +kernel) (pa_cons (pe_op op_modN (pe_callTy (T := "int") call_int1 (by rfl) T.int (by decide +kernel) (pa_cons (pe_op op_pow (pv 4) pe_int) pa_nil)) pe_int) pa_nil)) (pv 1))))))))), ?_⟩
  obtain ⟨cs, h1, h2, ok⟩ := hD.ex
  have hn1 : n ≤ 1000000000 := hn
  have nac : a ≠ c := hD.ne
  walk_at "go"
  intro H1 g1 k1
  replace g1 : H1 a = some (.lst [V.ref c, V.int (n + 1)]) := g1
  walk_at "go"
  intro t H2 ht e2
  have g2 := new_at e2
  have k2 := new_kp ht e2
  have a2 := k2.at g1
  have c1 := k1.keep _ _ h2 (ne1 nac.symm)
  have c2 := k2.at c1
  clear e2
  walk_at "go"
  have len1 : ((cs.map V.int).length : Int) = (cs.length : Int) := by rw [List.length_map]
  have l63 := ok.len
  have n0 := ok.n0
  refine ite2 (fun hc => ?_) (fun hc => ?_)
  · have hc1 : (0 : Int) < ((cs.map V.int).length : Int) := of_decide_eq_true hc
    have f0 := Int.fmod_nonneg_of_pos (a := n + 1) hc1
    have f1 := Int.fmod_lt_of_pos (a := n + 1) hc1
    obtain ⟨v, hv, vm⟩ := atI_mem f0 f1
    obtain ⟨x, xm, rfl⟩ := List.mem_map.mp vm
    have x0 := ok.pos x xm
    walk_at "go"
    refine ite2 (fun hd => ?_) (fun hd => ?_)
    · walk_at "go"
      refine ⟨⟨hm, Nat.lt_of_lt_of_le (PySem.Flt.log2_lt_of (by decide) hm2) (by decide)⟩, ?_⟩
      walk_at "go"
      refine ⟨ixN_nat f0 f1, ?_⟩
      intro H3 g3 k3
      walk_at "go"
      refine q _ H3 (Int.fmod_nonneg_of_pos _ hm) (Int.fmod_lt_of_pos _ hm) ⟨cs.set ((n + 1).fmod ((cs.map V.int).length : Int)).toNat (x / many), k3.keep _ _ a2 (ne1 nac), ?_, ?_, ?_, by omega⟩ ((((Kp.refl.step1 k1 (.inl (by simp))).step0 k2)).step1 k3 (.inl (by simp)))
      · rw [g3, List.map_set]
      · rw [List.length_set]
        exact l63
      · intro y hy
        rcases List.mem_or_eq_of_mem_set hy with hy | rfl
        · exact ok.pos y hy
        · exact Int.ediv_nonneg x0 (Int.le_of_lt hm)
    · walk_at "go"
      have m0 := Int.fmod_nonneg_of_pos x (b := 2147483563) (by decide)
      have m1 := Int.fmod_lt_of_pos x (b := 2147483563) (by decide)
      refine ⟨⟨by decide, by decide, ?_⟩, ?_⟩
      · show (x.fmod 2147483563 + 8117 * (n + 1) + 3).natAbs < 2 ^ 64
        have e : (2 : Nat) ^ 64 = 18446744073709551616 := by decide
        rw [e]
        omega
      walk_at "go"
      exact q _ H2 (Int.fmod_nonneg_of_pos _ hm) (Int.fmod_lt_of_pos _ hm) ⟨cs, a2, c2, l63, ok.pos, by omega⟩ ((Kp.refl.step1 k1 (.inl (by simp))).step0 k2)
  · walk_at "go"
    refine ⟨⟨by decide, by decide, ?_⟩, ?_⟩
    · show ((0 : Int).fmod 2147483563 + 8117 * (n + 1) + 3).natAbs < 2 ^ 64
      have e : (2 : Nat) ^ 64 = 18446744073709551616 := by decide
      have e2 : (0 : Int).fmod 2147483563 = 0 := by decide
      rw [e, e2]
      omega
    walk_at "go"
    exact q _ H2 (Int.fmod_nonneg_of_pos _ hm) (Int.fmod_lt_of_pos _ hm) ⟨cs, a2, c2, l63, ok.pos, by omega⟩ ((Kp.refl.step1 k1 (.inl (by simp))).step0 k2)
theorem ok_l_one2 (T : Top K mg) {k : Nat} : FnOk P w K mg base CX0 (k + 2) T.l_one.f T.l_one.fd ["_law_deck_here", "_law_items"] (spOne2 K) := by
  have G_l_draw : FnOk P w K mg base CX0 (k + 1) T.l_draw.f T.l_draw.fd ["_law_deck_here", "_law_many"] spDraw := ok_l_draw T
  refine T.l_one.F.ok sc_l_one (fun vs H Q E h => ?_) (fun cdv A outer s H vs Q E hr h => ?_)
  · rcases h with ⟨a, c, l, n, xs, rfl, _⟩ | ⟨a, c, n, z, rfl, _⟩ <;> rfl
  refine ⟨_, (pss_one (ps_ret (pe_ix (IxR.or (ix_listK (K := K) rfl) ix_str) (pv 1) (pe_call G_l_draw (hr.mono (by omega)) (by rfl) T.l_draw.g T.l_draw.F.kp T.l_draw.b .nil pass0 (pa_cons (pv 0) (pa_cons (pe_callB (id := "len") (CallR.or (call_lenK (K := K) rfl) call_len_str) (by rfl) T.len PySem.boot_len (pa_cons (pv 1) pa_nil)) pa_nil))) (fun _ _ => rfl)))), ?_⟩
  rcases h with ⟨a, c, l, n, xs, rfl, hD, hn, hS, hl, h0, hz, q⟩ | ⟨a, c, n, z, rfl, hD, hn, h0, hz, q⟩
  · refine ⟨_, rfl, _, rfl, _, rfl, .inl ⟨l, xs, rfl, .inl hS, a, c, n, _, rfl, hD, hn, by omega, pow1000 hz, fun r H1 r0 r1 D1 k1 => ?_⟩⟩
    obtain ⟨v, hv, vm⟩ := atI_mem r0 r1
    exact .inl ⟨l, xs, _, _, rfl, rfl, k1.seq hS hl, hv, q _ H1 vm D1 k1⟩
  · refine ⟨_, rfl, _, rfl, _, rfl, .inr ⟨z, rfl, sz_le hz, a, c, n, _, rfl, hD, hn, by omega, pow1000 hz, fun r H1 r0 r1 D1 k1 => ?_⟩⟩
    have r2 : r < (z.cps.toList.length : Int) := by rw [Array.length_toList]; exact r1
    obtain ⟨v, hv, vm⟩ := atI_mem r0 r2
    exact .inr ⟨z, _, v, rfl, rfl, sz_le hz, hv, q _ H1 vm D1 k1⟩
theorem ok_l_one (T : Top K mg) {k : Nat} : FnOk P w K mg base CX0 (k + 2) T.l_one.f T.l_one.fd ["_law_deck_here", "_law_items"] (spOne K) := (ok_l_one2 T).imp fun _ _ _ _ h => .inl h
theorem ok_l_oneS (T : Top K mg) {k : Nat} : FnOk P w K mg base CX0 (k + 2) T.l_one.f T.l_one.fd ["_law_deck_here", "_law_items"] spOneS := (ok_l_one2 T).imp fun _ _ _ _ h => .inr h
end
end EH
namespace EH
open PySem L2
local macro_rules | `(tactic| walk_at "sd") => `(tactic| first | assumption | ((with_reducible show (_ : Int) ≤ _); omega) | ((with_reducible show (_ : Int) < _); omega) | rfl | exact SqL.of (by assumption) | exact SqT.of (by assumption) | exact atI_nat (j := 0) rfl | exact atI_nat (j := 1) rfl | exact atI_nat (j := 2) rfl | exact atI_nat (j := 3) rfl | exact sz_lit rfl | exact lt_lit rfl | exact pos_lit rfl | exact le_lit rfl | exact Or.inl (SqL.of (by assumption)) | exact ⟨_, SqL.of (by assumption)⟩ | exact ⟨_, SqT.of (by assumption)⟩ | exact Or.inr (SqT.of (by assumption)) | exact ClsV.ty _ | exact TyX.base (TyOf.int _) | exact TyX.base (TyOf.str _) | exact TyX.base (TyOf.tup (by assumption)) | exact kit_ty isi_ss | exact kit_ty isi_is | exact kit_ty isi_ts | exact kit_ty isi_si | exact kit_ty isi_ii | exact kit_ty isi_ti | exact kit_ty isi_st | exact kit_ty isi_it | exact kit_ty isi_tt | exact Or.inl ⟨_, Or.inl (by assumption)⟩ | exact DGet.k (k := Sum.inr _) (by assumption) | exact DGet.k (k := Sum.inl _) (by assumption) | (refine cpow_of ?_; decide) | (refine cmul_of ?_; decide) | (show (_ : Int) ≠ 0; first | decide | omega) | (refine cdivn_of ?_; decide) | exact Or.inl ⟨rfl, _, SqL.of (by assumption)⟩ | omega)
local macro_rules | `(tactic| walk_at "st") => `(tactic| first | (apply Exists.intro) | (refine And.intro ?_ ?_; focus (walk_at "sd")) | (apply Or.inl; apply Exists.intro; refine And.intro ?_ ?_; focus rfl) | (apply Or.inr; apply Exists.intro; refine And.intro ?_ ?_; focus rfl))
local macro_rules | `(tactic| walk_at "go") => `(tactic| repeat (walk_at "st"))
section
variable {P : Program} {w : World} {K : PySem.W.Frag} {mg : Str → Option Value} {base : Heap}
theorem ok_l_deck (T : Top K mg) {k : Nat} : FnOk P w K mg base CX0 (k + 1) T.l_deck.f T.l_deck.fd ["_law_script"] (spDeck K) := by
  refine T.l_deck.F.ok sc_l_deck (fun vs H Q E h => ?_) (fun cdv A outer s H vs Q E hr h => ?_)
  · obtain ⟨a, ns, rfl, _⟩ := h
    rfl
  obtain ⟨a, ns, rfl, hS, hl, q⟩ := h
  refine ⟨_, (pss_one (ps_ret (pe_lstA (pa_cons (pe_lc (own := [("_law_cell", 1)]) (by rfl) sc_l_deck.nd (pi_listK (K := K) rfl (pe_slice (sl_listK (K := K) rfl) (pv 0) po_none (po_some pe_int))) (blkOk_by (N := ["_law_script", "_law_cell"]) (sc := defScope s_l_deck) (own := [("_law_cell", 1)]) (by decide +kernel)) (fun _ _ _ _ _ => (pg_name (i := 1) sc_l_deck.nd rfl (.inl rfl))) (fun _ _ _ _ _ => pts_nil) (fun _ _ _ _ _ => (pe_callB (id := "abs") call_abs (by rfl) T.abs (by decide +kernel) (pa_cons (pv 1) pa_nil)))) (pa_cons pe_int pa_nil))))), ?_⟩
  have hc : cutV (ns.map V.int) none (some 63) = ns.map V.int := by
    apply cutV_whole
    refine ⟨rfl, ?_⟩
    show HT.sIx _ _ (some ((63 : Nat) : Int)) = _
    rw [HT.sIx_nat, List.length_map]
    omega
  walk_at "go"
  intro p H1 hp g1 k1
  rw [hc] at g1
  refine ⟨p, rfl, ⟨_, SqL.of g1⟩, fun D hD => ?_⟩
  refine lc_list (K := K) (a := p) (xs := ns.map V.int) (fun i H2 => Kp [D] H1 H2 ∧ H2 D = some (.lst ((ns.take i).map fun x => V.int (if x < 0 then -x else x)))) ⟨(Kp.new hD).sub (by simp), upd_same⟩ ?_ ?_ ?_
  · rintro i H2 _ ⟨k2, _⟩
    exact SqL.of (k2.keep _ _ g1 (ne1 (ne_of_none g1 hD)))
  · rintro i x H2 hx ⟨k2, d2⟩
    rw [List.getElem?_map] at hx
    cases e : ns[i]? with
    | none => rw [e] at hx; cases hx
    | some z =>
      rw [e] at hx
      cases hx
      have hz : (List.map (fun x => V.int (if x < 0 then -x else x)) (List.take i ns)).length < sizeLine := by
        rw [List.length_map, List.length_take]
        exact sz_lt (by omega)
      walk_at "go"
      refine ⟨k2.step1 (Kp.put d2 (fun _ y => by cases y)) (.inl (by simp)), ?_⟩
      rw [upd_same, List.take_add_one, e, List.map_append]
      rfl
  · rintro H2 ⟨k2, d2⟩
    rw [List.length_map, List.take_length] at d2
    walk_at "go"
    intro r H3 hr3 e3
    have k3 := new_kp hr3 e3
    have k4 : Kp [] H H3 := ((k1.step1 k2 (.inr (k1.free hD (by simp)))).step0 k3)
    refine q r D H3 (((k1.step1 k2 (.inr (k1.free hD (by simp))))).free hr3 (by simp)) (k1.free hD (by simp)) k4 ⟨⟨ns.map fun x => if x < 0 then -x else x, new_at e3, ?_, ?_, ?_, by decide⟩⟩
    · rw [k3.at d2, List.map_map]
      rfl
    · rw [List.length_map]
      exact hl
    · intro x hx
      obtain ⟨y, _, rfl⟩ := List.mem_map.mp hx
      split <;> omega
end
end EH
namespace EH
open PySem L2 PyProof.Rows
/-! ### defs that write texts of displays: nothing of that sort is under way around them -/
def Free (A : Around) : Prop := A.guards = some []
structure FnG (P : Program) (w : World) (K : PySem.W.Frag) (mg : Str → Option Value) (base : Heap) (CX : CXT) (k : Nat) (f : Addr) (fd : FuncData) (ps : List Str) (sp : Sp) : Prop where
  len : ∀ vs H Q E, sp vs H Q E → vs.length = ps.length
  run : ∀ (A : Around) (outer : List Env) (s : Shared) (H : Hp) (args : Args) (us : List Value) (vs : List V) (Q : VK) (E : XK),
    Free A → Room k A → Env0 P w K mg base A outer s H → BindsTo s fd args (ps.zip us) → Vals vs us → sp vs H Q E → codeAny (model P w) A (.call (.ref f) args) (CR CX outer P w H s Q E) s
section
variable {P : Program} {w : World} {K : PySem.W.Frag} {mg : Str → Option Value} {base : Heap} {CX : CXT}
theorem FnOk.toG {k : Nat} {f : Addr} {fd : FuncData} {ps : List Str} {sp : Sp} (F : FnOk P w K mg base CX k f fd ps sp) : FnG P w K mg base CX k f fd ps sp :=
  ⟨F.len, fun A outer s H args us vs Q E _ => F.run A outer s H args us vs Q E⟩
theorem Fun.okG {x qual : Str} {st : Stmt} {f : Addr} {fd : FuncData} {N ps : List Str} {k : Nat} {sp : Sp} (F : Fun K x qual st f fd) (S : FnScope N ps (defScope st)) (len : ∀ vs H Q E, sp vs H Q E → vs.length = ps.length)
    (body : ∀ (cdv : Value) (A : Around) (outer : List Env) (s : Shared) (H : Hp) (vs : List V) (Q : VK) (E : XK), Free (A.deeper (envOfC qual (defScope st) s.heap.objs.size f cdv)) →
      Room k (A.deeper (envOfC qual (defScope st) s.heap.objs.size f cdv)) → sp vs H Q E →
      ∃ t, PSs (cxOf CX0 P w K mg base N qual (defScope st) f cdv A outer s H E).nox (defBody st) t ∧ t { nx := fun _ H' => Q .non H', rt := Q } (start N vs) H) : FnG P w K mg base CX0 (k + 1) f fd ps sp := by
  refine ⟨len, fun A outer s H args us vs Q E fr hr e0 hb r hsp => ?_⟩
  obtain ⟨oc, od, kV, doc, pm, an, cdv, ct, osl, rfl, lk, hcd⟩ := F.ex
  have hl := len _ _ _ _ hsp
  have KX : K.In s.heap := e0.mod.kin.keeps fun b o e => (e0.bs b o e).1
  have lim : s.heap.NoLimit := e0.mod.nolimit.keeps fun b o e => (e0.bs b o e).1
  have kinds : ∀ y ∈ ps.zip us, (defScope st).names.lookup y.1 = some .local ∨ ((defScope st).names.lookup y.1 = some .cell ∧ ((cellsFrom (s.heap.objs.size + 1) (defScope st).names []).lookup y.1).isSome = true) := by
    rintro ⟨n, v⟩ hy
    rcases S.par n (List.of_mem_zip hy).1 with q | q
    · exact .inl q
    · exact .inr ⟨q, PySem.W.cellsFrom_some _ _ _ (.inl q)⟩
  refine codeAny_call_function hr.depth (KX _ _ lk) rfl S.co S.gen rfl (PySem.W.codeRec_of KX hcd) (hb _ _ _ _ ?_)
  refine wpAny_newFunctionEnv_cells S.kind kinds fun env he s1 y => ?_
  subst he
  refine ⟨lim.keeps y.toInCall.keep, codeAny_func ?_⟩
  obtain ⟨t, ht, hq⟩ := body cdv A outer s H vs Q E fr (hr.deeper _) hsp
  have I0 : Inv (cxOf CX0 P w K mg base N qual (defScope st) f cdv A outer s H E) [] (start N vs) H s1 := inv_start S hr.hd e0 hl r y
  refine wpAny_mono (ht.nox.run [] s1 (start N vs) H _ I0 hq) (fun fl s' hs => ?_) fun _ _ z => z
  have close : ∀ {σ' : L2.St} {H' : Hp} {v : V} {u : Value}, Inv (cxOf CX0 P w K mg base N qual (defScope st) f cdv A outer s H E) [] σ' H' s' → RelV v u → Q v H' → CE outer P w H s Q u s' :=
    fun J rv q => ⟨_, _, J.os, J.bare, J.base, J.hok, rv, q⟩
  cases fl with
  | ret u => obtain ⟨v, σ', H', J, rv, q⟩ := hs; exact close J rv q
  | next => obtain ⟨σ', H', J, q⟩ := hs; exact close (v := V.non) (u := Value.none) J rfl q
  | brk => obtain ⟨_, _, _, q⟩ := hs; exact q.elim
  | cont => obtain ⟨_, _, _, q⟩ := hs; exact q.elim
end
section
variable {X : Cx} {CX : CXT} {k : Nat} {f C : Addr} {fd : FuncData} {ps : List Str} {sp : Sp} {dvs : List V} {ds : List Value} {E : XK} {x m : Str} {p pos apos : Pos} {e o : Expr} {es : List Expr} {ta : TE} {t : TA}
theorem run_fnG {pins : List (Addr × Obj)} {σ : L2.St} {H : Hp} {s : Shared} {Q : VK} {us : List Value} {vs : List V} (F : FnG X.prog X.w X.K X.mg X.base CX k f fd ps sp) (fr : Free X.A) (hr : Room k X.A) (hb : Binds X.K fd ps ds) (hd : Vals dvs ds)
    (hx : Passes CX X E) (I : Inv X pins σ H s) (r : Vals vs us) (h : sp (vs ++ dvs) H Q E) : wpAny (model X.prog X.w) X.A (call (.ref f) us) (EP X pins σ Q) X.xe s := by
  have rr : Vals (vs ++ dvs) (us ++ ds) := r.append hd
  have hl : (us ++ ds).length = ps.length := rr.length.symm.trans (F.len _ _ _ _ h)
  refine wpAny_call (codeAny_mono (F.run X.A X.stack s H ⟨us, []⟩ _ _ Q E fr hr I.env0 (hb s us I.kIn hl) rr h) fun z s' hq => ?_)
  cases z with
  | error e => exact hx pins σ H s e s' I hq
  | ok fl => cases fl with
    | ret u => exact I.after hq
    | next => exact hq.elim
    | brk => exact hq.elim
    | cont => exact hq.elim
theorem pe_callG (F : FnG X.prog X.w X.K X.mg X.base CX k f fd ps sp) (fr : Free X.A) (hr : Room k X.A) (hg : Gl X x) (hm : X.mg x = some (.ref f)) (hk : PySem.W.keepIn X.K (.ref f) = true) (hb : Binds X.K fd ps ds) (hd : Vals dvs ds)
    (hx : Passes CX X E) (ha : PA X (e :: es) t) (hdb : (x == ("__debug__" : Str)) = false := by decide) (he : starEach (e :: es) X.env = (false, eval e X.env) :: starEach es X.env := by rfl)
    (hpl : (backTo pos (starEach es X.env)).any (·.1) = false := by rfl) : PE X (.Call (.Name x p) (e :: es) [] pos) (tCall sp dvs E t) := by
  constructor
  intro pins s σ H Q I h
  refine wpAny_Call_Name_kw (ld_glob I hg hm ?_ hdb)
  exact PySem.W.callWith_K (h₀ := X.base) I.ok.mod.kin hk (thn (ha.run pos pins s σ H _ I h) fun us s1 ⟨vs, H1, I1, r, q⟩ => ⟨I1.kIn, run_fnG F fr hr hb hd hx I1 r q⟩) he hpl
end
/-! ### repr -/
section
variable {X : Cx}
/-- repr of data: the text of the data -/
def rReprD (K : PySem.W.Frag) : List V → Hp → VK → Prop := fun xs H Q => ∃ x d, xs = [x] ∧ Dp K H x d ∧ d.showable = true ∧ d.shown.length ≤ sizeLine ∧ d.depth ≤ 60 ∧ Q (.str d.shown) H
theorem call_reprD (fr : Free X.A) (hu : X.A.units + 64 < cLine) : CallR X (.builtin "repr") (rReprD X.K) := by
  intro pins s σ H xs us Q I r h
  obtain ⟨x, d, rfl, hd, sh, sz, dp, q⟩ := h
  obtain ⟨u, rfl, rx⟩ := vals1 r
  obtain ⟨as, rd⟩ := Dp.reads I d x u hd rx
  have nd : d.hasDict = false := by
    have all : ∀ (d : PyData) (v : V), Dp X.K H v d → d.hasDict = false := by
      intro d v h
      exact Dp.rec (motive_1 := fun v d _ => d.hasDict = false) (motive_2 := fun vs ds _ => PyData.hasDictAll ds = false) (by simp only [PyData.hasDict]) (fun _ => by simp only [PyData.hasDict]) (fun _ => by simp only [PyData.hasDict])
        (fun _ => by simp only [PyData.hasDict]) (fun _ _ ih => by simp only [PyData.hasDict]; exact ih) (fun _ _ ih => by simp only [PyData.hasDict]; exact ih) (by simp only [PyData.hasDictAll]) (fun _ _ i1 i2 => by simp only [PyData.hasDictAll, i1, i2, Bool.or_self]) h
    exact all d x hd
  cases hd with
  | non => cases (show u = Value.none from rx); exact PySem.P.repr_of_none ⟨.str _, H, I.tok _, ⟨_, rfl⟩, q⟩
  | bl b =>
    cases (show u = Value.bool b from rx)
    refine PySem.P.repr_of_bool ⟨.str _, H, I.tok _, ⟨_, rfl⟩, ?_⟩
    rw [PyData.shown_bool] at q
    exact q
  | int i =>
    obtain ⟨t, rfl⟩ := (show ∃ t, u = Value.int i t from rx)
    refine PySem.P.repr_of_int (by simpa [PyData.showable] using sh) ⟨.str _, H, I.tok _, ⟨_, rfl⟩, ?_⟩
    rw [PyData.shown_int] at q
    exact q
  | str y =>
    obtain ⟨t, rfl⟩ := (show ∃ t, u = Value.str y t from rx)
    refine PySem.P.repr_of_str ⟨.str _, H, I.tok _, ⟨_, rfl⟩, ?_⟩ ?_
    · simp only [PyData.shown] at q; exact q
    · simp only [PyData.shown] at sz; exact sz
  | lst h1 h2 =>
    cases rx
    exact repr_of_reads' rd sh (PyData.noDict_hsm nd) fr (by omega) (fun _ _ z => z) (fun h' t tk hk => ⟨.str _, H, I.kept hk, ⟨_, rfl⟩, q⟩) sz
  | tup h1 h2 =>
    cases rx
    exact repr_of_reads' rd sh (PyData.noDict_hsm nd) fr (by omega) (fun _ _ z => z) (fun h' t tk hk => ⟨.str _, H, I.kept hk, ⟨_, rfl⟩, q⟩) sz
end
end EH
namespace EH
open PySem L2 PyProof.Rows
/-! ### a law's own head, its def of the kind FnG -/
section
variable {P : Program} {w : World} {K : PySem.W.Frag} {mg mb : Str → Option Value} {CX : CXT} {k : Nat} {fa a : Addr} {fd : FuncData} {x : Str} {sp : Sp} {s₁ : Shared} {vs : List Value} {ns : List Int}
theorem law_coreG (KX : K.In s₁.heap) (hns : s₁.heap.Ns mainGlobals mg) (hb : s₁.heap.Ns builtinsNs mb) (hbb : ∀ x : Str, x ≠ "__name__" → mb x = bootBuiltins x) (hlim : s₁.heap.NoLimit) (hg : s₁.gens = #[])
    (ha : s₁.heap.get? a = some { cls := .type "list", data := .seq vs.toArray }) (hr : Room k callerA)
    (F : ∀ base : Heap, K.In base → base.Ns mainGlobals mg → FnG P w K mg base CX k fa fd [x] sp) (hbind : ∀ (s : Shared) (u : Value), BindsTo s fd ⟨[u], []⟩ [(x, u)])
    (hCX : ∀ H e s', CX [] H s₁ (fun _ _ _ => False) e s' → False) (H : Hp) (hO : Only H) (hsp : sp [.ref a] H (fun v _ => v = .bl true) fun _ _ _ => False) (hok : HOk P w H s₁.heap) (hA : ∀ b, H b ≠ none → b = a) (hK : H a ≠ none → K.lookup a = none) :
    codeAny (model P w) callerA (.call (.ref fa) ⟨[.ref a], []⟩) (fun r s' => r = .ok (.ret (.bool true)) ∧ OldK s₁.heap s'.heap ∧ s'.os = s₁.os ∧ AllBare s'.gens) s₁ := by
  have un_a : ∀ {b : Addr}, b ≠ a → H b = none := fun {b} h => by
    cases q : H b with
    | none => rfl
    | some u => exact absurd (hA b (by rw [q]; exact fun z => nomatch z)) h
  have dictFree : ∀ {b : Addr} {o : Obj} {es : Array DictEntry} {ep : Nat}, s₁.heap.get? b = some o → o.data = .dict es ep → H b = none := fun {b o es ep} e d => by
    refine un_a fun z => ?_
    subst z
    rw [ha] at e
    cases e
    cases (show Data.seq vs.toArray _ = Data.dict es ep from d)
  have nsK : ∀ {b : Addr} {m : Str → Option Value}, s₁.heap.Ns b m → (hidT s₁.heap H).Ns b m := fun ⟨o, es, ep, e, d, r⟩ => ⟨o, es, ep, hidT_get e (dictFree e d), d, r⟩
  have kin : K.In (hidT s₁.heap H) := fun b o e => by
    refine hidT_get (KX b o e) ?_
    by_cases z : b = a
    · subst z
      cases q : H b with
      | none => rfl
      | some u => rw [hK (by rw [q]; exact fun z => nomatch z)] at e; cases e
    · exact un_a z
  have md : Mod K mg (hidT s₁.heap H) := ⟨kin, nsK hns, ⟨mb, nsK hb, hbb⟩, by obtain ⟨mc, h1, h2⟩ := hlim; exact ⟨mc, nsK h1, h2⟩⟩
  have e0 : Env0 P w K mg (hidT s₁.heap H) callerA [] s₁ H := ⟨rfl, md, fun _ _ e => of_hidT e, Nat.le_of_eq (hidT_size _ _), trivial, (fun b z => absurd (show b ∈ ([] : List Addr) from z) (by simp)), hok, .of_eq hg⟩
  refine codeAny_mono ((F _ kin (nsK hns)).run callerA [] s₁ H ⟨[.ref a], []⟩ [.ref a] [.ref a] _ _ rfl hr e0 (hbind s₁ (.ref a)) (.cons rfl .nil) hsp) fun r s' h => ?_
  cases r with
  | error e => exact (hCX H e s' h).elim
  | ok fl => cases fl with
    | next => exact h.elim
    | brk => exact h.elim
    | cont => exact h.elim
    | ret u =>
      obtain ⟨v, H', os, bare, un, hok', rv, q⟩ := h
      cases (show v = .bl true from q)
      cases (show u = Value.bool true from rv)
      refine ⟨rfl, OldK.of_keep fun b o e => ?_, os, bare⟩
      rcases hO b with z | ⟨ob, xs, z⟩
      · exact un.keep b o e z (fun y => nomatch (show b ∈ ([] : List Addr) from y)) (fun y => nomatch y)
      · obtain ⟨e1, _⟩ := hok b _ z
        obtain ⟨e2, _⟩ := hok' b _ (un.frzs b ob _ z)
        rw [e] at e1
        cases e1
        exact e2
theorem law_callG (KX : K.In s₁.heap) (hns : s₁.heap.Ns mainGlobals mg) (hb : s₁.heap.Ns builtinsNs mb) (hbb : ∀ x : Str, x ≠ "__name__" → mb x = bootBuiltins x) (hlim : s₁.heap.NoLimit) (hg : s₁.gens = #[])
    (ha : s₁.heap.get? a = some { cls := .type "list", data := .seq vs.toArray }) (hi : IntsAre vs ns) (hl : ns.length ≤ sizeLine) (hr : Room k callerA)
    (F : ∀ base : Heap, K.In base → base.Ns mainGlobals mg → FnG P w K mg base CX k fa fd [x] sp) (hbind : ∀ (s : Shared) (u : Value), BindsTo s fd ⟨[u], []⟩ [(x, u)])
    (hsp : ∀ H : Hp, Only H → SqL K H a (ns.map V.int) → sp [.ref a] H (fun v _ => v = .bl true) fun _ _ _ => False) (hCX : ∀ H e s', CX [] H s₁ (fun _ _ _ => False) e s' → False) :
    codeAny (model P w) callerA (.call (.ref fa) ⟨[.ref a], []⟩) (fun r s' => r = .ok (.ret (.bool true)) ∧ OldK s₁.heap s'.heap ∧ s'.os = s₁.os ∧ AllBare s'.gens) s₁ := by
  have rv := vals_ints hi
  have core := law_coreG (k := k) (fa := fa) (sp := sp) KX hns hb hbb hlim hg ha hr F hbind hCX
  cases hk : K.lookup a with
  | some o =>
    have e := KX a o hk
    rw [ha] at e
    cases e
    have hS : SqL K (fun _ => none) a (ns.map V.int) := .inr ⟨_, vs.toArray, _, hk, rfl, rfl, rfl, by rw [List.size_toArray, hi.length]; exact hl, by simpa using rv⟩
    exact core (fun _ => none) (fun _ => .inl rfl) (hsp _ (fun _ => .inl rfl) hS) (fun b u z => nomatch (show (none : Option HO) = some u from z)) (fun b z => absurd rfl z) fun z => absurd rfl z
  | none =>
    have at_a : ∀ b : Addr, b = a → (fun b => if b = a then some (HO.frz { cls := .type "list", data := .seq vs.toArray } (.lst (ns.map V.int))) else none) b = some (.frz { cls := .type "list", data := .seq vs.toArray } (.lst (ns.map V.int))) := fun b z => if_pos z
    have off_a : ∀ b : Addr, b ≠ a → (fun b => if b = a then some (HO.frz { cls := .type "list", data := .seq vs.toArray } (.lst (ns.map V.int))) else none) b = none := fun b z => if_neg z
    generalize (fun b => if b = a then some (HO.frz { cls := .type "list", data := .seq vs.toArray } (.lst (ns.map V.int))) else none) = H0 at at_a off_a
    have only : Only H0 := fun b => by
      by_cases z : b = a
      · exact .inr ⟨_, _, at_a b z⟩
      · exact .inl (off_a b z)
    refine core H0 only (hsp H0 only (.inl (.inr ⟨_, at_a a rfl⟩))) (fun b u z => ?_) (fun b z => ?_) fun _ => hk
    · by_cases y : b = a
      · have e := (at_a b y).symm.trans z
        cases e
        subst y
        exact ⟨ha, by rw [List.length_map]; exact hl, vs, _, rv, ha⟩
      · exact nomatch (off_a b y).symm.trans z
    · by_cases y : b = a
      · exact y
      · exact absurd (off_a b y) z
end
theorem walk_ofG {l : PySem.W.OpenLaw} {n k : Nat} {q : Program} {loose : List Str} {XP : (Str → Option Value) → Heap → Prop} {YP : World → Heap → Prop} {d : DefRec} {K : Params → PySem.W.Frag} {sp : PySem.W.Frag → Sp} {x : Str}
    (hn : l.most = some n) (hn2 : n ≤ sizeLine) (hdf : d.params.defaults = []) (hr : Room k callerA) (hY : ∀ (w : World) (h : Heap), YP w h → (K w.params).In h)
    (F : ∀ (w : World) (mg : Str → Option Value) (fa : Addr) (h : Heap), (K w.params).In h → h.Ns mainGlobals mg → mg d.name = some (.ref fa) →
      ∃ fd : FuncData, (∀ (s : Shared) (u : Value), BindsTo s fd ⟨[u], []⟩ [(x, u)]) ∧ ∀ base : Heap, (K w.params).In base → base.Ns mainGlobals mg → FnG l.prog w (K w.params) mg base CX0 k fa fd [x] (sp (K w.params)))
    (hsp : ∀ (K : PySem.W.Frag) (H : Hp) (a : Addr) (ns : List Int), ns.length ≤ n → SqL K H a (ns.map V.int) → sp K [.ref a] H (fun v _ => v = .bl true) fun _ _ _ => False) :
    PySem.W.WalkO q loose XP YP l.row.toRowW d [] (fun f vs => PySem.call f vs) := by
  refine Att.attach_call hn hdf fun w s₀ s₁ mg mb fa o pm cd doc a vs ns G Y ho hd hcd hmg hobj hints hlen hg => ?_
  obtain ⟨fd, hb, hF⟩ := F w mg fa _ (hY w _ Y) G.T.g hmg
  exact law_callG (hY w _ Y) G.T.g G.T.b G.T.builtins G.T.nolimit hg hobj hints (Nat.le_trans hlen hn2) hr hF hb (fun H _ hS => hsp _ H a ns hlen hS) fun _ _ _ z => z
def spLaw (K : PySem.W.Frag) : Sp := fun vs H Q _ => ∃ (a : Addr) (ns : List Int), vs = [.ref a] ∧ SqL K H a (ns.map V.int) ∧ ns.length ≤ 63 ∧ ∀ H', Q (.bl true) H'
end EH
namespace EH
open PySem L2
/-! ### programs as plain data -/
inductive Ex where
  | num (i : Int) | var (x : Str) | plus (a b : Ex) | minus (a b : Ex) | times (k : Int) (a : Ex)
inductive Ts where
  | less (a b : Ex) | odd (a : Ex) | not (t : Ts)
inductive Sm where
  | set (x : Str) (e : Ex) | half (x : Str) (e : Ex) | tell (e : Ex) | say (w : Str) | stop (w : Str)
  | ite (t : Ts) (yes no : List Sm) | rep (k : Nat) (b : List Sm)
/-! what a value is in the heap: tuples of tuples, ints, texts -/
mutual
def Tr (H : Hp) : PyData → V → Prop
  | .none, v => v = .non
  | .bool b, v => v = .bl b
  | .int i, v => v = .int i
  | .str x, v => v = .str x
  | .tuple ds, v => ∃ a xs, v = .ref a ∧ H a = some (.tup xs) ∧ TrAll H ds xs
  | .list _, _ => False
  | .dict _, _ => False
def TrAll (H : Hp) : List PyData → List V → Prop
  | [], xs => xs = []
  | d :: ds, xs => ∃ v vs, xs = v :: vs ∧ Tr H d v ∧ TrAll H ds vs
end
mutual
theorem Tr.mono {H H' : Hp} (k : ∀ b xs, H b = some (.tup xs) → H' b = some (.tup xs)) : ∀ (d : PyData) (v : V), Tr H d v → Tr H' d v
  | .none, v, h => by simp only [Tr] at h ⊢; exact h
  | .bool b, v, h => by simp only [Tr] at h ⊢; exact h
  | .int i, v, h => by simp only [Tr] at h ⊢; exact h
  | .str x, v, h => by simp only [Tr] at h ⊢; exact h
  | .tuple ds, v, h => by
    simp only [Tr] at h ⊢
    obtain ⟨a, xs, e, h1, h2⟩ := h
    exact ⟨a, xs, e, k a xs h1, TrAll.mono k ds xs h2⟩
  | .list _, v, h => by simp only [Tr] at h
  | .dict _, v, h => by simp only [Tr] at h
theorem TrAll.mono {H H' : Hp} (k : ∀ b xs, H b = some (.tup xs) → H' b = some (.tup xs)) : ∀ (ds : List PyData) (vs : List V), TrAll H ds vs → TrAll H' ds vs
  | [], vs, h => by simp only [TrAll] at h ⊢; exact h
  | d :: ds, vs, h => by
    simp only [TrAll] at h ⊢
    obtain ⟨v, r, e, h1, h2⟩ := h
    exact ⟨v, r, e, Tr.mono k d v h1, TrAll.mono k ds r h2⟩
end
theorem Kp.tr {S : List Addr} {H H' : Hp} {d : PyData} {v : V} (k : Kp S H H') (h : Tr H d v) : Tr H' d v := Tr.mono k.tup d v h
theorem Kp.trAll {S : List Addr} {H H' : Hp} {d : List PyData} {v : List V} (k : Kp S H H') (h : TrAll H d v) : TrAll H' d v := TrAll.mono k.tup d v h
mutual
theorem Tr.dp {K : PySem.W.Frag} {H : Hp} : ∀ (d : PyData) (v : V), Tr H d v → Dp K H v d
  | .none, v, h => by simp only [Tr] at h; subst h; exact .non
  | .bool b, v, h => by simp only [Tr] at h; subst h; exact .bl b
  | .int i, v, h => by simp only [Tr] at h; subst h; exact .int i
  | .str x, v, h => by simp only [Tr] at h; subst h; exact .str x
  | .tuple ds, v, h => by
    simp only [Tr] at h
    obtain ⟨a, xs, e, h1, h2⟩ := h
    subst e
    exact .tup (SqT.of h1) (TrAll.dp ds xs h2)
  | .list _, v, h => by simp only [Tr] at h
  | .dict _, v, h => by simp only [Tr] at h
theorem TrAll.dp {K : PySem.W.Frag} {H : Hp} : ∀ (ds : List PyData) (vs : List V), TrAll H ds vs → DpAll K H vs ds
  | [], vs, h => by simp only [TrAll] at h; subst h; exact .nil
  | d :: ds, vs, h => by
    simp only [TrAll] at h
    obtain ⟨v, r, e, h1, h2⟩ := h
    subst e
    exact .cons (Tr.dp d v h1) (TrAll.dp ds r h2)
end
theorem TrAll.length {H : Hp} : ∀ {ds : List PyData} {vs : List V}, TrAll H ds vs → vs.length = ds.length
  | [], vs, h => by simp only [TrAll] at h; subst h; rfl
  | d :: ds, vs, h => by
    simp only [TrAll] at h
    obtain ⟨v, r, e, h1, h2⟩ := h
    subst e
    rw [List.length_cons, List.length_cons, TrAll.length h2]
theorem TrAll.get {H : Hp} : ∀ {ds : List PyData} {vs : List V} {i : Nat} {d : PyData}, TrAll H ds vs → ds[i]? = some d → ∃ v, vs[i]? = some v ∧ Tr H d v
  | [], vs, i, d, h, e => by simp at e
  | d :: ds, vs, 0, d', h, e => by
    simp only [TrAll] at h
    obtain ⟨v, r, rfl, h1, h2⟩ := h
    cases e
    exact ⟨v, rfl, h1⟩
  | d :: ds, vs, i + 1, d', h, e => by
    simp only [TrAll] at h
    obtain ⟨v, r, rfl, h1, h2⟩ := h
    exact TrAll.get (i := i) h2 e
theorem TrAll.append {H : Hp} : ∀ {ds es : List PyData} {vs ws : List V}, TrAll H ds vs → TrAll H es ws → TrAll H (ds ++ es) (vs ++ ws)
  | [], es, vs, ws, h, g => by simp only [TrAll] at h; subst h; exact g
  | d :: ds, es, vs, ws, h, g => by
    simp only [TrAll] at h
    obtain ⟨v, r, rfl, h1, h2⟩ := h
    simp only [List.cons_append, TrAll]
    exact ⟨v, r ++ ws, rfl, h1, TrAll.append h2 g⟩
/-! what a tuple is -/
theorem tr_int {H : Hp} {i : Int} {v : V} (h : Tr H (.int i) v) : v = .int i := by simp only [Tr] at h; exact h
theorem tr_str {H : Hp} {x : Str} {v : V} (h : Tr H (.str x) v) : v = .str x := by simp only [Tr] at h; exact h
theorem tr_tup {H : Hp} {ds : List PyData} {v : V} (h : Tr H (.tuple ds) v) : ∃ a xs, v = .ref a ∧ H a = some (.tup xs) ∧ TrAll H ds xs := by simp only [Tr] at h; exact h
theorem tr_tup1 {H : Hp} {d1 : PyData} {v : V} (h : Tr H (.tuple [d1]) v) : ∃ a x1, v = .ref a ∧ H a = some (.tup [x1]) ∧ Tr H d1 x1 := by
  simp only [Tr, TrAll] at h
  obtain ⟨a, xs, rfl, h1, x1, _, rfl, t1, rfl⟩ := h
  exact ⟨a, x1, rfl, h1, t1⟩
theorem tr_tup2 {H : Hp} {d1 d2 : PyData} {v : V} (h : Tr H (.tuple [d1, d2]) v) : ∃ a x1 x2, v = .ref a ∧ H a = some (.tup [x1, x2]) ∧ Tr H d1 x1 ∧ Tr H d2 x2 := by
  simp only [Tr, TrAll] at h
  obtain ⟨a, xs, rfl, h1, x1, _, rfl, t1, x2, _, rfl, t2, rfl⟩ := h
  exact ⟨a, x1, x2, rfl, h1, t1, t2⟩
theorem tr_tup3 {H : Hp} {d1 d2 d3 : PyData} {v : V} (h : Tr H (.tuple [d1, d2, d3]) v) : ∃ a x1 x2 x3, v = .ref a ∧ H a = some (.tup [x1, x2, x3]) ∧ Tr H d1 x1 ∧ Tr H d2 x2 ∧ Tr H d3 x3 := by
  simp only [Tr, TrAll] at h
  obtain ⟨a, xs, rfl, h1, x1, _, rfl, t1, x2, _, rfl, t2, x3, _, rfl, t3, rfl⟩ := h
  exact ⟨a, x1, x2, x3, rfl, h1, t1, t2, t3⟩
theorem tr_tup4 {H : Hp} {d1 d2 d3 d4 : PyData} {v : V} (h : Tr H (.tuple [d1, d2, d3, d4]) v) : ∃ a x1 x2 x3 x4, v = .ref a ∧ H a = some (.tup [x1, x2, x3, x4]) ∧ Tr H d1 x1 ∧ Tr H d2 x2 ∧ Tr H d3 x3 ∧ Tr H d4 x4 := by
  simp only [Tr, TrAll] at h
  obtain ⟨a, xs, rfl, h1, x1, _, rfl, t1, x2, _, rfl, t2, x3, _, rfl, t3, x4, _, rfl, t4, rfl⟩ := h
  exact ⟨a, x1, x2, x3, x4, rfl, h1, t1, t2, t3, t4⟩
theorem mk_tup {H : Hp} {ds : List PyData} {a : Addr} {xs : List V} (h : H a = some (.tup xs)) (t : TrAll H ds xs) : Tr H (.tuple ds) (.ref a) := by simp only [Tr]; exact ⟨a, xs, rfl, h, t⟩
theorem trs_nil {H : Hp} : TrAll H [] [] := by simp only [TrAll]
theorem trs_cons {H : Hp} {d : PyData} {ds : List PyData} {v : V} {vs : List V} (h : Tr H d v) (t : TrAll H ds vs) : TrAll H (d :: ds) (v :: vs) := by simp only [TrAll]; exact ⟨v, vs, rfl, h, t⟩
theorem mk_int {H : Hp} {i : Int} : Tr H (.int i) (.int i) := by simp only [Tr]
theorem mk_str {H : Hp} {x : Str} : Tr H (.str x) (.str x) := by simp only [Tr]
theorem mk_non {H : Hp} : Tr H .none .non := by simp only [Tr]
/-! their data -/
def Ex.d : Ex → PyData
  | .num i => .int i
  | .var x => .str x
  | .plus a b => .tuple [.str "plus", a.d, b.d]
  | .minus a b => .tuple [.str "minus", a.d, b.d]
  | .times k a => .tuple [.str "times", .int k, a.d]
def Ts.d : Ts → PyData
  | .less a b => .tuple [.str "less", a.d, b.d]
  | .odd a => .tuple [.str "odd", a.d]
  | .not t => .tuple [.str "not", t.d]
mutual
def Sm.d : Sm → PyData
  | .set x e => .tuple [.str "set", .str x, e.d]
  | .half x e => .tuple [.str "half", .str x, e.d]
  | .tell e => .tuple [.str "tell", e.d]
  | .say w => .tuple [.str "say", .str w]
  | .stop w => .tuple [.str "stop", .str w]
  | .ite t y n => .tuple [.str "if", t.d, .tuple (Sm.ds y), .tuple (Sm.ds n)]
  | .rep k b => .tuple [.str "repeat", .int k, .tuple (Sm.ds b)]
def Sm.ds : List Sm → List PyData
  | [] => []
  | s :: r => s.d :: Sm.ds r
end
/-! ### what they are worth -/
def Ex.ev (env : Str → Int) : Ex → Int
  | .num i => i
  | .var x => env x
  | .plus a b => a.ev env + b.ev env
  | .minus a b => a.ev env - b.ev env
  | .times k a => k * a.ev env
def Ts.ev (env : Str → Int) : Ts → Bool
  | .less a b => decide (a.ev env < b.ev env)
  | .odd a => decide ((a.ev env) % 2 = 1)
  | .not t => !t.ev env
/-- a name that can be shown -/
def NmOk (x : Str) : Prop := PyData.strOk x = true ∧ x.length ≤ 1000
/-- factors are small -/
def Ex.ok : Ex → Prop
  | .num i => -99 ≤ i ∧ i ≤ 99
  | .var x => NmOk x
  | .plus a b => a.ok ∧ b.ok
  | .minus a b => a.ok ∧ b.ok
  | .times k a => -9 ≤ k ∧ k ≤ 9 ∧ a.ok
def Ex.deep : Ex → Nat
  | .num _ => 1
  | .var _ => 1
  | .plus a b => max a.deep b.deep + 1
  | .minus a b => max a.deep b.deep + 1
  | .times _ a => a.deep + 1
/-! ### places -/
mutual
def Sm.pl : Sm → Nat
  | .ite _ y n => 1 + (Sm.pls y + Sm.pls n)
  | .rep _ b => 1 + Sm.pls b
  | .set _ _ => 1
  | .half _ _ => 1
  | .tell _ => 1
  | .say _ => 1
  | .stop _ => 1
def Sm.pls : List Sm → Nat
  | [] => 0
  | s :: r => s.pl + Sm.pls r
end
mutual
def Sm.nest : Sm → Nat
  | .ite _ y n => max (Sm.nests y) (Sm.nests n) + 1
  | .rep _ b => Sm.nests b + 1
  | .set _ _ => 0
  | .half _ _ => 0
  | .tell _ => 0
  | .say _ => 0
  | .stop _ => 0
def Sm.nests : List Sm → Nat
  | [] => 0
  | s :: r => max s.nest (Sm.nests r)
end
def Sm.blks : Sm → List (List Sm)
  | .ite _ y n => [y, n]
  | .rep _ b => [b]
  | .set _ _ => []
  | .half _ _ => []
  | .tell _ => []
  | .say _ => []
  | .stop _ => []
theorem Sm.pl_blks : ∀ s : Sm, s.pl = 1 + ((Sm.blks s).map Sm.pls).sum
  | .ite _ y n => by simp [Sm.pl, Sm.blks]
  | .rep _ b => by simp [Sm.pl, Sm.blks]
  | .set _ _ => by simp [Sm.pl, Sm.blks]
  | .half _ _ => by simp [Sm.pl, Sm.blks]
  | .tell _ => by simp [Sm.pl, Sm.blks]
  | .say _ => by simp [Sm.pl, Sm.blks]
  | .stop _ => by simp [Sm.pl, Sm.blks]
theorem Sm.pl_pos (s : Sm) : 0 < s.pl := by rw [Sm.pl_blks]; omega
theorem Sm.pls_map : ∀ l : List Sm, Sm.pls l = (l.map Sm.pl).sum
  | [] => by simp [Sm.pls]
  | s :: r => by simp [Sm.pls, Sm.pls_map r]
theorem Sm.len_pls : ∀ l : List Sm, l.length ≤ Sm.pls l
  | [] => by simp
  | s :: r => by
    have := Sm.len_pls r
    have := s.pl_pos
    simp only [Sm.pls, List.length_cons]
    omega
theorem Sm.nest_mem : ∀ {l : List Sm} {s : Sm}, s ∈ l → s.nest ≤ Sm.nests l
  | [], s, h => by cases h
  | t :: r, s, h => by
    simp only [Sm.nests]
    rcases List.mem_cons.mp h with rfl | h
    · omega
    · have := Sm.nest_mem h
      omega
theorem Sm.pl_mem : ∀ {l : List Sm} {s : Sm}, s ∈ l → s.pl ≤ Sm.pls l
  | [], s, h => by cases h
  | t :: r, s, h => by
    simp only [Sm.pls]
    rcases List.mem_cons.mp h with rfl | h
    · omega
    · have := Sm.pl_mem h
      omega
theorem Sm.blk_nest : ∀ {s : Sm} {b : List Sm}, b ∈ s.blks → Sm.nests b + 1 ≤ s.nest
  | .ite _ y n, b, h => by
    simp only [Sm.blks, List.mem_cons, List.not_mem_nil, or_false] at h
    simp only [Sm.nest]
    rcases h with rfl | rfl <;> omega
  | .rep _ _, b, h => by
    simp only [Sm.blks, List.mem_cons, List.not_mem_nil, or_false] at h
    subst h
    simp only [Sm.nest]
    omega
  | .set _ _, b, h => by simp [Sm.blks] at h
  | .half _ _, b, h => by simp [Sm.blks] at h
  | .tell _, b, h => by simp [Sm.blks] at h
  | .say _, b, h => by simp [Sm.blks] at h
  | .stop _, b, h => by simp [Sm.blks] at h
theorem Sm.blk_pls : ∀ {s : Sm} {b : List Sm}, b ∈ s.blks → Sm.pls b + 1 ≤ s.pl
  | .ite _ y n, b, h => by
    simp only [Sm.blks, List.mem_cons, List.not_mem_nil, or_false] at h
    simp only [Sm.pl]
    rcases h with rfl | rfl <;> omega
  | .rep _ _, b, h => by
    simp only [Sm.blks, List.mem_cons, List.not_mem_nil, or_false] at h
    subst h
    simp only [Sm.pl]
    omega
  | .set _ _, b, h => by simp [Sm.blks] at h
  | .half _ _, b, h => by simp [Sm.blks] at h
  | .tell _, b, h => by simp [Sm.blks] at h
  | .say _, b, h => by simp [Sm.blks] at h
  | .stop _, b, h => by simp [Sm.blks] at h
theorem Sm.blks_le : ∀ s : Sm, s.blks.length ≤ 2
  | .ite _ y n => by simp [Sm.blks]
  | .rep _ b => by simp [Sm.blks]
  | .set _ _ => by simp [Sm.blks]
  | .half _ _ => by simp [Sm.blks]
  | .tell _ => by simp [Sm.blks]
  | .say _ => by simp [Sm.blks]
  | .stop _ => by simp [Sm.blks]
theorem Sm.ds_map : ∀ l : List Sm, Sm.ds l = l.map Sm.d
  | [] => by simp [Sm.ds]
  | s :: r => by simp [Sm.ds, Sm.ds_map r]
theorem pls_sum (b : List Sm) : (b.map fun t => (Sm.pl t : Int)).sum = (Sm.pls b : Int) := by
  rw [Sm.pls_map]
  induction b with
  | nil => rfl
  | cons t r ih =>
    rw [List.map_cons, List.map_cons, List.sum_cons, List.sum_cons, ih]
    omega
theorem flat_rep {α : Type} (x : α) : ∀ k : Nat, (List.replicate k [x]).flatten = List.replicate k x
  | 0 => rfl
  | k + 1 => by rw [List.replicate_succ, List.flatten_cons, flat_rep x k, List.replicate_succ]; rfl
theorem trs_rep {H : Hp} {d : PyData} {v : V} (h : Tr H d v) : ∀ k : Nat, TrAll H (List.replicate k d) (List.replicate k v)
  | 0 => trs_nil
  | k + 1 => trs_cons h (trs_rep h k)
def spBlocks : Sp := fun vs H Q _ => ∃ (v : V) (s : Sm), vs = [v] ∧ Tr H s.d v ∧ ∀ (p : Addr) (bs : List V) (H' : Hp), H p = none → H' p = some (.lst bs) → TrAll H' (s.blks.map fun b => .tuple (Sm.ds b)) bs → Kp [] H H' → Q (.ref p) H'
def spPlaces (n : Nat) : Sp := fun vs H Q _ => ∃ (v : V) (s : Sm), vs = [v] ∧ Tr H s.d v ∧ s.nest ≤ n ∧ s.pl ≤ 1000000 ∧ ∀ (H' : Hp), Kp [] H H' → Q (.int (s.pl : Int)) H'
def sp0 (f : Nat → Sp) : Nat → Sp
  | 0 => fun _ _ _ _ => False
  | n + 1 => f n
theorem fn_no {P : Program} {w : World} {K : PySem.W.Frag} {mg : Str → Option Value} {base : Heap} {k : Nat} {f : Addr} {fd : FuncData} {ps : List Str} {sp : Sp} (no : ∀ vs H Q E, ¬ sp vs H Q E) : FnOk P w K mg base CX0 k f fd ps sp :=
  ⟨fun vs H Q E h => absurd h (no vs H Q E), fun A outer s H args us vs Q E _ _ _ _ h => absurd h (no vs H Q E)⟩
/-! ### the names of a run -/
def EnvRel (kvs : List (Key × V)) (env : Str → Int) : Prop := ∀ y : Str, (valV kvs (Sum.inr y)).getD (.int 0) = .int (env y)
def spValue (n : Nat) : Sp := fun vs H Q _ => ∃ (v : V) (nd : Addr) (e : Ex) (kvs : List (Key × V)) (env : Str → Int), vs = [v, .ref nd] ∧ Tr H e.d v ∧ H nd = some (.dK kvs) ∧ EnvRel kvs env ∧ e.ok ∧ e.deep ≤ n ∧ Q (.int (e.ev env)) H
/-- expressions at most three deep -/
def Ts.ok : Ts → Prop
  | .less a b => (a.ok ∧ a.deep ≤ 3) ∧ b.ok ∧ b.deep ≤ 3
  | .odd a => a.ok ∧ a.deep ≤ 3
  | .not t => t.ok
def Ts.nots : Ts → Nat
  | .less _ _ => 0
  | .odd _ => 0
  | .not t => t.nots + 1
def spTrue (n : Nat) : Sp := fun vs H Q _ => ∃ (v : V) (nd : Addr) (t : Ts) (kvs : List (Key × V)) (env : Str → Int), vs = [v, .ref nd] ∧ Tr H t.d v ∧ H nd = some (.dK kvs) ∧ EnvRel kvs env ∧ t.ok ∧ t.nots ≤ n ∧ Q (.bl (t.ev env)) H
def spTrue' : Nat → Sp
  | 0 => fun _ _ _ _ => False
  | n + 1 => spTrue n
theorem Ex.deep_pos : ∀ e : Ex, 0 < e.deep
  | .num _ => Nat.one_pos
  | .var _ => Nat.one_pos
  | .plus _ _ => Nat.succ_pos _
  | .minus _ _ => Nat.succ_pos _
  | .times _ _ => Nat.succ_pos _
theorem dec_int (a b : Int) : decide (V.int a = V.int b) = decide (a = b) := decide_eq_decide.mpr ⟨fun h => V.int.inj h, fun h => by rw [h]⟩
theorem fmod2 (v : Int) : v.fmod 2 = v % 2 := Int.fmod_eq_emod_of_nonneg v (by decide)
theorem fdiv2 (v : Int) : v.fdiv 2 = v / 2 := Int.fdiv_eq_ediv_of_nonneg v (by decide)
end EH
namespace EH
open PySem L2
local macro_rules | `(tactic| walk_at "sd") => `(tactic| first | assumption | ((with_reducible show (_ : Int) ≤ _); omega) | ((with_reducible show (_ : Int) < _); omega) | rfl | exact SqL.of (by assumption) | exact SqT.of (by assumption) | exact atI_nat (j := 0) rfl | exact atI_nat (j := 1) rfl | exact atI_nat (j := 2) rfl | exact atI_nat (j := 3) rfl | exact sz_lit rfl | exact lt_lit rfl | exact pos_lit rfl | exact le_lit rfl | exact Or.inl (SqL.of (by assumption)) | exact ⟨_, SqL.of (by assumption)⟩ | exact ⟨_, SqT.of (by assumption)⟩ | exact Or.inr (SqT.of (by assumption)) | exact ClsV.ty _ | exact TyX.base (TyOf.int _) | exact TyX.base (TyOf.str _) | exact TyX.base (TyOf.tup (by assumption)) | exact kit_ty isi_ss | exact kit_ty isi_is | exact kit_ty isi_ts | exact kit_ty isi_si | exact kit_ty isi_ii | exact kit_ty isi_ti | exact kit_ty isi_st | exact kit_ty isi_it | exact kit_ty isi_tt | exact Or.inl ⟨_, Or.inl (by assumption)⟩ | exact DGet.k (k := Sum.inr _) (by assumption) | exact DGet.k (k := Sum.inl _) (by assumption) | (refine cpow_of ?_; decide) | (refine cmul_of ?_; decide) | (show (_ : Int) ≠ 0; first | decide | omega) | (refine cdivn_of ?_; decide) | exact Or.inl ⟨rfl, _, SqL.of (by assumption)⟩ | omega)
local macro_rules | `(tactic| walk_at "st") => `(tactic| first | (apply Exists.intro) | (refine And.intro ?_ ?_; focus (walk_at "sd")) | (apply Or.inl; apply Exists.intro; refine And.intro ?_ ?_; focus rfl) | (apply Or.inr; apply Exists.intro; refine And.intro ?_ ?_; focus rfl))
local macro_rules | `(tactic| walk_at "go") => `(tactic| repeat (walk_at "st"))
section
variable {P : Program} {w : World} {K : PySem.W.Frag} {mg : Str → Option Value} {base : Heap}
theorem st_plus : ¬ (("plus" : Str) = "times") := by decide +kernel
theorem st_minus : ¬ (("minus" : Str) = "times") := by decide +kernel
theorem st_minus2 : ¬ (("minus" : Str) = "plus") := by decide +kernel
theorem ok_value_of (T : Top K mg) : ∀ n : Nat, FnOk P w K mg base CX0 n T.value_of.f T.value_of.fd ["expression", "names"] (spValue n)
  | 0 => by
    have no : ∀ vs H Q E, ¬ spValue 0 vs H Q E := by
      rintro vs H Q E ⟨v, nd, e, kvs, env, _, _, _, _, _, h, _⟩
      have := e.deep_pos
      omega
    exact ⟨fun vs H Q E h => absurd h (no vs H Q E), fun A outer s H args us vs Q E _ _ _ _ h => absurd h (no vs H Q E)⟩
  | n + 1 => by
    have G_value_of := ok_value_of T n
    refine T.value_of.F.ok sc_value_of (fun vs H Q E h => ?_) (fun cdv A outer s H vs Q E hr h => ?_)
    · obtain ⟨v, nd, e, kvs, env, rfl, _⟩ := h
      rfl
    obtain ⟨v, nd, e, kvs, env, rfl, hT, hn, he, hok, hdp, q⟩ := h
    have hu := hu_of hr
    refine ⟨_, (pss_cons (ps_if (pt_val (pe_callB (id := "isinstance") (call_isiK (K := K) rfl) (by rfl) T.isinstance (by decide +kernel) (pa_cons (pv 0) (pa_cons (pe_bltn (v := .ty "str") (u := .type "str") (by rfl) T.str (by decide +kernel) rfl) pa_nil)))) (pss_one (ps_ret (pe_dget2 hu (pv 1) (pv 0) pe_int ⟨by rfl, by rfl, by rfl, by rfl⟩))) pss_nil)
      (pss_cons (ps_if (pt_val (pe_callB (id := "isinstance") (call_isiK (K := K) rfl) (by rfl) T.isinstance (by decide +kernel) (pa_cons (pv 0) (pa_cons (pe_bltn (v := .ty "int") (u := .type "int") (by rfl) T.int (by decide +kernel) rfl) pa_nil)))) (pss_one (ps_ret (pv 0))) pss_nil)
      (pss_cons (ps_asg (pv 0) (pg_tup (by rfl) (pgs_cons (pg_name (i := 2) sc_value_of.nd rfl (.inl rfl)) (pgs_cons (pg_name (i := 3) sc_value_of.nd rfl (.inl rfl)) (pgs_cons (pg_name (i := 4) sc_value_of.nd rfl (.inl rfl)) pgs_nil)))))
      (pss_cons (ps_if (pt_cmpR op_eq (pv 2) pe_str (nomark _)) (pss_one (ps_ret (pe_op op_mul (pv 3) (pe_call G_value_of (hr.mono (by omega)) (by rfl) T.value_of.g T.value_of.F.kp T.value_of.b .nil pass0 (pa_cons (pv 4) (pa_cons (pv 1) pa_nil)))))) pss_nil)
      (pss_cons (ps_if (pt_cmpR op_eq (pv 2) pe_str (nomark _)) (pss_one (ps_ret (pe_op op_add (pe_call G_value_of (hr.mono (by omega)) (by rfl) T.value_of.g T.value_of.F.kp T.value_of.b .nil pass0 (pa_cons (pv 3) (pa_cons (pv 1) pa_nil))) (pe_call G_value_of (hr.mono (by omega)) (by rfl) T.value_of.g T.value_of.F.kp T.value_of.b .nil pass0 (pa_cons (pv 4) (pa_cons (pv 1) pa_nil)))))) pss_nil)
      (pss_one (ps_ret (pe_op op_sub (pe_call G_value_of (hr.mono (by omega)) (by rfl) T.value_of.g T.value_of.F.kp T.value_of.b .nil pass0 (pa_cons (pv 3) (pa_cons (pv 1) pa_nil))) (pe_call G_value_of (hr.mono (by omega)) (by rfl) T.value_of.g T.value_of.F.kp T.value_of.b .nil pass0 (pa_cons (pv 4) (pa_cons (pv 1) pa_nil))))))))))), ?_⟩
    cases e with
    | var x =>
      cases tr_str hT
      walk_at "go"
      rw [he x]
      exact q
    | num i =>
      cases tr_int hT
      walk_at "go"
      exact q
    | plus a b =>
      obtain ⟨p, x1, x2, x3, rfl, h1, t1, t2, t3⟩ := tr_tup3 hT
      cases tr_str t1
      have d2 : max a.deep b.deep + 1 ≤ n + 1 := hdp
      obtain ⟨o1, o2⟩ := (show a.ok ∧ b.ok from hok)
      walk_at "go"
      exact q
    | minus a b =>
      obtain ⟨p, x1, x2, x3, rfl, h1, t1, t2, t3⟩ := tr_tup3 hT
      cases tr_str t1
      have d2 : max a.deep b.deep + 1 ≤ n + 1 := hdp
      obtain ⟨o1, o2⟩ := (show a.ok ∧ b.ok from hok)
      walk_at "go"
      exact q
    | times k a =>
      obtain ⟨p, x1, x2, x3, rfl, h1, t1, t2, t3⟩ := tr_tup3 hT
      cases tr_str t1
      cases tr_int t2
      have d2 : a.deep + 1 ≤ n + 1 := hdp
      obtain ⟨o1, o2, o3⟩ := (show -9 ≤ k ∧ k ≤ 9 ∧ a.ok from hok)
      have o4 : CMul k (a.ev env) := .inl ⟨by omega, by omega⟩
      walk_at "go"
      exact q
theorem ok_is_true (T : Top K mg) : ∀ n : Nat, FnOk P w K mg base CX0 (n + 4) T.is_true.f T.is_true.fd ["test", "names"] (spTrue n)
  | n => by
    have G_value_of : FnOk P w K mg base CX0 3 T.value_of.f T.value_of.fd ["expression", "names"] (spValue 3) := ok_value_of T 3
    have G_is_true : FnOk P w K mg base CX0 (n + 3) T.is_true.f T.is_true.fd ["test", "names"] (spTrue' n) := by
      cases n with
      | zero =>
        have no : ∀ vs H Q E, ¬ spTrue' 0 vs H Q E := fun _ _ _ _ h => h
        exact ⟨fun vs H Q E h => absurd h (no vs H Q E), fun A outer s H args us vs Q E _ _ _ _ h => absurd h (no vs H Q E)⟩
      | succ m => exact ok_is_true T m
    refine T.is_true.F.ok sc_is_true (fun vs H Q E h => ?_) (fun cdv A outer s H vs Q E hr h => ?_)
    · obtain ⟨v, nd, t, kvs, env, rfl, _⟩ := h
      rfl
    obtain ⟨v, nd, t, kvs, env, rfl, hT, hn, he, hok, hdp, q⟩ := h
    have hu := hu_of hr
    refine ⟨_, (pss_cons (ps_if (pt_cmpR op_eq (pe_ix (ix_tupK (K := K) rfl) (pv 0) pe_int (fun _ _ => rfl)) pe_str (nomark _)) (pss_one (ps_ret (pe_not (pe_call G_is_true (hr.mono (by omega)) (by rfl) T.is_true.g T.is_true.F.kp T.is_true.b .nil pass0 (pa_cons (pe_ix (ix_tupK (K := K) rfl) (pv 0) pe_int (fun _ _ => rfl)) (pa_cons (pv 1) pa_nil)))))) pss_nil)
      (pss_cons (ps_if (pt_cmpR op_eq (pe_ix (ix_tupK (K := K) rfl) (pv 0) pe_int (fun _ _ => rfl)) pe_str (nomark _)) (pss_one (ps_ret (pe_cmpR op_eq (pe_op op_modN (pe_call G_value_of (hr.mono (by omega)) (by rfl) T.value_of.g T.value_of.F.kp T.value_of.b .nil pass0 (pa_cons (pe_ix (ix_tupK (K := K) rfl) (pv 0) pe_int (fun _ _ => rfl)) (pa_cons (pv 1) pa_nil))) pe_int) pe_int (nomark _)))) pss_nil)
      (pss_one (ps_ret (pe_cmpR op_lt (pe_call G_value_of (hr.mono (by omega)) (by rfl) T.value_of.g T.value_of.F.kp T.value_of.b .nil pass0 (pa_cons (pe_ix (ix_tupK (K := K) rfl) (pv 0) pe_int (fun _ _ => rfl)) (pa_cons (pv 1) pa_nil))) (pe_call G_value_of (hr.mono (by omega)) (by rfl) T.value_of.g T.value_of.F.kp T.value_of.b .nil pass0 (pa_cons (pe_ix (ix_tupK (K := K) rfl) (pv 0) pe_int (fun _ _ => rfl)) (pa_cons (pv 1) pa_nil))) (nomark _)))))), ?_⟩
    cases t with
    | less a b =>
      obtain ⟨p, x1, x2, x3, rfl, h1, t1, t2, t3⟩ := tr_tup3 hT
      cases tr_str t1
      obtain ⟨⟨o1, d1⟩, o2, d2⟩ := (show (a.ok ∧ a.deep ≤ 3) ∧ b.ok ∧ b.deep ≤ 3 from hok)
      walk_at "go"
      exact q
    | odd a =>
      obtain ⟨p, x1, x2, rfl, h1, t1, t2⟩ := tr_tup2 hT
      cases tr_str t1
      obtain ⟨o1, d1⟩ := (show a.ok ∧ a.deep ≤ 3 from hok)
      walk_at "go"
      have e : decide (V.int ((a.ev env).fmod 2) = V.int 1) = decide ((a.ev env) % 2 = 1) := by rw [dec_int, fmod2]
      exact e ▸ q
    | not t =>
      obtain ⟨p, x1, x2, rfl, h1, t1, t2⟩ := tr_tup2 hT
      cases tr_str t1
      have d1 : t.nots + 1 ≤ n := hdp
      obtain ⟨m, rfl⟩ : ∃ m, n = m + 1 := ⟨n - 1, by omega⟩
      have o1 : t.ok := hok
      walk_at "go"
      exact q
end
end EH
namespace EH
open PySem L2
local macro_rules | `(tactic| walk_at "sd") => `(tactic| first | assumption | ((with_reducible show (_ : Int) ≤ _); omega) | ((with_reducible show (_ : Int) < _); omega) | rfl | exact SqL.of (by assumption) | exact SqT.of (by assumption) | exact atI_nat (j := 0) rfl | exact atI_nat (j := 1) rfl | exact atI_nat (j := 2) rfl | exact atI_nat (j := 3) rfl | exact sz_lit rfl | exact lt_lit rfl | exact pos_lit rfl | exact le_lit rfl | exact Or.inl (SqL.of (by assumption)) | exact ⟨_, SqL.of (by assumption)⟩ | exact ⟨_, SqT.of (by assumption)⟩ | exact Or.inr (SqT.of (by assumption)) | exact ClsV.ty _ | exact TyX.base (TyOf.int _) | exact TyX.base (TyOf.str _) | exact TyX.base (TyOf.tup (by assumption)) | exact kit_ty isi_ss | exact kit_ty isi_is | exact kit_ty isi_ts | exact kit_ty isi_si | exact kit_ty isi_ii | exact kit_ty isi_ti | exact kit_ty isi_st | exact kit_ty isi_it | exact kit_ty isi_tt | exact Or.inl ⟨_, Or.inl (by assumption)⟩ | exact DGet.k (k := Sum.inr _) (by assumption) | exact DGet.k (k := Sum.inl _) (by assumption) | (refine cpow_of ?_; decide) | (refine cmul_of ?_; decide) | (show (_ : Int) ≠ 0; first | decide | omega) | (refine cdivn_of ?_; decide) | exact Or.inl ⟨rfl, _, SqL.of (by assumption)⟩ | omega)
local macro_rules | `(tactic| walk_at "st") => `(tactic| first | (apply Exists.intro) | (refine And.intro ?_ ?_; focus (walk_at "sd")) | (apply Or.inl; apply Exists.intro; refine And.intro ?_ ?_; focus rfl) | (apply Or.inr; apply Exists.intro; refine And.intro ?_ ?_; focus rfl))
local macro_rules | `(tactic| walk_at "go") => `(tactic| repeat (walk_at "st"))
section
variable {P : Program} {w : World} {K : PySem.W.Frag} {mg : Str → Option Value} {base : Heap}
theorem ok_blocks_of (T : Top K mg) {k : Nat} : FnOk P w K mg base CX0 (k + 1) T.blocks_of.f T.blocks_of.fd ["statement"] spBlocks := by
  refine T.blocks_of.F.ok sc_blocks_of (fun vs H Q E h => ?_) (fun cdv A outer s H vs Q E hr h => ?_)
  · obtain ⟨v, s, rfl, _⟩ := h
    rfl
  obtain ⟨v, st, rfl, hT, q⟩ := h
  refine ⟨_, (pss_cons (ps_if (pt_cmpR op_eq (pe_ix (ix_tupK (K := K) rfl) (pv 0) pe_int (fun _ _ => rfl)) pe_str (nomark _)) (pss_one (ps_ret (pe_lstA (pa_cons (pe_ix (ix_tupK (K := K) rfl) (pv 0) pe_int (fun _ _ => rfl)) (pa_cons (pe_ix (ix_tupK (K := K) rfl) (pv 0) pe_int (fun _ _ => rfl)) pa_nil))))) pss_nil)
      (pss_one (ps_ret (pe_ifExp (pt_cmpR op_eq (pe_ix (ix_tupK (K := K) rfl) (pv 0) pe_int (fun _ _ => rfl)) pe_str (nomark _)) (pe_lstA (pa_cons (pe_ix (ix_tupK (K := K) rfl) (pv 0) pe_int (fun _ _ => rfl)) pa_nil)) (pe_lstA pa_nil))))), ?_⟩
  cases st with
  | ite t y n =>
    obtain ⟨p, x1, x2, x3, x4, rfl, h1, t1, t2, t3, t4⟩ := tr_tup4 hT
    cases tr_str t1
    walk_at "go"
    intro r H1 hr1 e1
    have k1 := new_kp hr1 e1
    exact q r _ H1 hr1 (new_at e1) (trs_cons (k1.tr t3) (trs_cons (k1.tr t4) trs_nil)) k1
  | rep n b =>
    obtain ⟨p, x1, x2, x3, rfl, h1, t1, t2, t3⟩ := tr_tup3 hT
    cases tr_str t1
    walk_at "go"
    intro r H1 hr1 e1
    have k1 := new_kp hr1 e1
    exact q r _ H1 hr1 (new_at e1) (trs_cons (k1.tr t3) trs_nil) k1
  | set x e =>
    obtain ⟨p, x1, x2, x3, rfl, h1, t1, t2, t3⟩ := tr_tup3 hT
    cases tr_str t1
    walk_at "go"
    intro r H1 hr1 e1
    exact q r _ H1 hr1 (new_at e1) trs_nil (new_kp hr1 e1)
  | half x e =>
    obtain ⟨p, x1, x2, x3, rfl, h1, t1, t2, t3⟩ := tr_tup3 hT
    cases tr_str t1
    walk_at "go"
    intro r H1 hr1 e1
    exact q r _ H1 hr1 (new_at e1) trs_nil (new_kp hr1 e1)
  | tell e =>
    obtain ⟨p, x1, x2, rfl, h1, t1, t2⟩ := tr_tup2 hT
    cases tr_str t1
    walk_at "go"
    intro r H1 hr1 e1
    exact q r _ H1 hr1 (new_at e1) trs_nil (new_kp hr1 e1)
  | say e =>
    obtain ⟨p, x1, x2, rfl, h1, t1, t2⟩ := tr_tup2 hT
    cases tr_str t1
    walk_at "go"
    intro r H1 hr1 e1
    exact q r _ H1 hr1 (new_at e1) trs_nil (new_kp hr1 e1)
  | stop e =>
    obtain ⟨p, x1, x2, rfl, h1, t1, t2⟩ := tr_tup2 hT
    cases tr_str t1
    walk_at "go"
    intro r H1 hr1 e1
    exact q r _ H1 hr1 (new_at e1) trs_nil (new_kp hr1 e1)
theorem ok_places_in (T : Top K mg) : ∀ n : Nat, FnOk P w K mg base CX0 (n + 2) T.places_in.f T.places_in.fd ["statement"] (spPlaces n)
  | n => by
    have G_blocks_of : FnOk P w K mg base CX0 1 T.blocks_of.f T.blocks_of.fd ["statement"] spBlocks := ok_blocks_of T
    have G_places_in : FnOk P w K mg base CX0 (n + 1) T.places_in.f T.places_in.fd ["statement"] (sp0 spPlaces n) := by
      cases n with
      | zero => exact fn_no fun _ _ _ _ h => h
      | succ m => exact ok_places_in T m
    refine T.places_in.F.ok sc_places_in (fun vs H Q E h => ?_) (fun cdv A outer s H vs Q E hr h => ?_)
    · obtain ⟨v, s, rfl, _⟩ := h
      rfl
    obtain ⟨v, st, rfl, hT, hn, hp, q⟩ := h
    refine ⟨_, (pss_one (ps_ret (pe_op op_add pe_int (pe_callB (id := "sum") (cr_sumK (K := K) rfl (by rfl)) (by rfl) T.sum (by decide +kernel) (pa_cons (pe_lc (own := [("block", 1)]) (by rfl) sc_places_in.nd (pi_listK (K := K) rfl (pe_call G_blocks_of (hr.mono (by omega)) (by rfl) T.blocks_of.g T.blocks_of.F.kp T.blocks_of.b .nil pass0 (pa_cons (pv 0) pa_nil))) (blkOk_by (N := ["statement", "block", "item"]) (sc := defScope s_places_in) (own := [("block", 1)]) (by decide +kernel)) (fun _ _ _ _ _ => (pg_name (i := 1) sc_places_in.nd rfl (.inl rfl))) (fun _ _ _ _ _ => pts_nil) (fun _ _ _ _ _ => by exact (pe_callB (id := "sum") (cr_sumK (K := K) rfl (by rfl)) (by rfl) T.sum (by decide +kernel) (pa_cons (pe_lc (own := [("item", 2)]) (by rfl) sc_places_in.nd (pi_tupK (K := K) rfl (pv 1)) (blkOk_by (own := [("item", 2)]) (by kernel_rfl)) (fun _ _ _ _ _ => (pg_name (i := 2) sc_places_in.nd rfl (.inl rfl))) (fun _ _ _ _ _ => pts_nil) (fun _ _ _ _ _ => (pe_call G_places_in (hr.mono (by omega)) (by rfl) T.places_in.g T.places_in.F.kp T.places_in.b .nil pass0 (pa_cons (pv 2) pa_nil)))) pa_nil)))) pa_nil))))), ?_⟩
    walk_at "go"
    intro p bs H1 hp1 g1 tb k1
    refine ⟨p, rfl, ⟨_, SqL.of g1⟩, fun D hD => ?_⟩
    have lb : bs.length = st.blks.length := by rw [tb.length, List.length_map]
    refine lc_list (K := K) (a := p) (xs := bs) (fun i H2 => Kp [D] H1 H2 ∧ H2 D = some (.lst ((st.blks.take i).map fun b => V.int (Sm.pls b : Int)))) ⟨(Kp.new hD).sub (by simp), upd_same⟩ ?_ ?_ ?_
    · rintro i H2 _ ⟨k2, _⟩
      exact SqL.of (k2.keep _ _ g1 (ne1 (ne_of_none g1 hD)))
    · rintro i x H2 hx ⟨k2, d2⟩
      have hi : i < st.blks.length := by
        have := (List.getElem?_eq_some_iff.mp hx).1
        omega
      have eb : st.blks[i]? = some st.blks[i] := List.getElem?_eq_getElem hi
      have mb : st.blks[i] ∈ st.blks := List.getElem_mem hi
      generalize st.blks[i] = b at eb mb
      have n1 := Sm.blk_nest mb
      have n2 := Sm.blk_pls mb
      obtain ⟨x', hx', tx⟩ := TrAll.get (i := i) tb (by rw [List.getElem?_map, eb]; rfl)
      rw [hx] at hx'
      cases hx'
      obtain ⟨a, xs, rfl, ha, ta⟩ := tr_tup tx
      have ha2 : H2 a = some (.tup xs) := k2.tup _ _ ha
      have ta2 : TrAll H2 (Sm.ds b) xs := k2.trAll ta
      rw [Sm.ds_map] at ta2
      have lx : xs.length = b.length := by rw [ta2.length, List.length_map]
      have ll := Sm.len_pls b
      have hz : ((st.blks.take i).map fun b => V.int (Sm.pls b : Int)).length < sizeLine := by
        rw [List.length_map, List.length_take]
        have := st.blks_le
        exact sz_lt (by omega)
      walk_at "go"
      intro D2 hD2
      refine lc_tup (K := K) (a := a) (xs := xs) (fun j H3 => Kp [D2] H2 H3 ∧ H3 D2 = some (.lst ((b.take j).map fun t => V.int (Sm.pl t : Int)))) ⟨(Kp.new hD2).sub (by simp), upd_same⟩ ?_ ?_ ?_
      · rintro j H3 _ ⟨k3, _⟩
        exact SqT.of (k3.tup _ _ ha2)
      · rintro j y H3 hy ⟨k3, d3⟩
        have hj : j < b.length := by
          have := (List.getElem?_eq_some_iff.mp hy).1
          omega
        have et : b[j]? = some b[j] := List.getElem?_eq_getElem hj
        have mt : b[j] ∈ b := List.getElem_mem hj
        generalize b[j] = t at et mt
        have m1 := Sm.nest_mem mt
        have m2 := Sm.pl_mem mt
        obtain ⟨y', hy', ty⟩ := TrAll.get (i := j) ta2 (by rw [List.getElem?_map, et]; rfl)
        rw [hy] at hy'
        cases hy'
        have ty3 := k3.tr ty
        obtain ⟨m, rfl⟩ : ∃ m, n = m + 1 := ⟨n - 1, by omega⟩
        have hz2 : ((b.take j).map fun t => V.int (Sm.pl t : Int)).length < sizeLine := by
          rw [List.length_map, List.length_take]
          exact sz_lt (by omega)
        walk_at "go"
        intro H4 k4
        have d4 := k4.at d3
        walk_at "go"
        refine ⟨(k3.step0 k4).step1 (Kp.put d4 (fun _ z => by cases z)) (.inl (by simp)), ?_⟩
        rw [upd_same, List.take_add_one, et, List.map_append]
        rfl
      · rintro H3 ⟨k3, d3⟩
        rw [lx, List.take_length] at d3
        have d3' : H3 D2 = some (.lst ((b.map fun t => (Sm.pl t : Int)).map V.int)) := by
          rw [d3, List.map_map]
          rfl
        have es : (b.map fun t => (Sm.pl t : Int)).sum = (Sm.pls b : Int) := by
          rw [Sm.pls_map]
          clear d3 d3' ll lx ta2 ha2 ha ta tx hx eb mb n1 n2
          induction b with
          | nil => rfl
          | cons t r ih =>
            rw [List.map_cons, List.map_cons, List.sum_cons, List.sum_cons, ih]
            omega
        have dD : H3 D = some (.lst ((st.blks.take i).map fun b => V.int (Sm.pls b : Int))) := k3.keep _ _ d2 (ne1 (ne_of_none d2 hD2))
        walk_at "go"
        rw [es]
        refine ⟨(k2.step1 k3 (.inr (k2.free hD2 (ne1 (ne_of_none d2 hD2).symm)))).step1 (Kp.put dD (fun _ z => by cases z)) (.inl (by simp)), ?_⟩
        rw [upd_same, List.take_add_one, eb, List.map_append]
        rfl
    · rintro H2 ⟨k2, d2⟩
      rw [lb, List.take_length] at d2
      have d2' : H2 D = some (.lst ((st.blks.map fun b => (Sm.pls b : Int)).map V.int)) := by
        rw [d2, List.map_map]
        rfl
      have es : 1 + (st.blks.map fun b => (Sm.pls b : Int)).sum = (st.pl : Int) := by
        rw [Sm.pl_blks]
        generalize st.blks = bb
        have : (bb.map fun b => (Sm.pls b : Int)).sum = (((bb.map Sm.pls).sum : Nat) : Int) := by
          induction bb with
          | nil => rfl
          | cons t r ih =>
            rw [List.map_cons, List.map_cons, List.sum_cons, List.sum_cons, ih]
            omega
        omega
      walk_at "go"
      have q2 := q H2 (k1.step1 k2 (.inr (k1.free hD (by simp))))
      rw [← es] at q2
      exact q2
end
end EH
namespace EH
open PySem L2
/-! ### runs as plain functions -/
structure Cs where
  env : Str → Int
  said : List Key
  turns : List Int
def setE (env : Str → Int) (x : Str) (v : Int) : Str → Int := fun y => if y = x then v else env y
section
variable (dec : Nat → Int → Int → Int) (ways : Int → Option Int)
def halv (s : Cs) (v p : Int) : Int × Cs :=
  if v % 2 = 0 then (v / 2, s) else
    match ways p with
    | some c => (v / 2 + c, s)
    | none => (v / 2 + dec s.turns.length v p, { s with turns := s.turns ++ [dec s.turns.length v p] })
def iterN : Nat → (Cs → Option Str × Cs) → Cs → Option Str × Cs
  | 0, _, s => (none, s)
  | n + 1, f, s => match f s with
    | (some c, s') => (some c, s')
    | (none, s') => iterN n f s'
mutual
def Sm.run : Sm → Int → Cs → Option Str × Cs
  | .set x e, _, s => (none, { s with env := setE s.env x (e.ev s.env) })
  | .half x e, p, s => (none, { (halv dec ways s (e.ev s.env) p).2 with env := setE s.env x (halv dec ways s (e.ev s.env) p).1 })
  | .tell e, _, s => (none, { s with said := s.said ++ [Sum.inl (e.ev s.env)] })
  | .say c, _, s => (none, { s with said := s.said ++ [Sum.inr c] })
  | .stop c, _, s => (some c, s)
  | .ite t y n, p, s => if t.ev s.env then Sm.runs y (p + 1) s else Sm.runs n (p + 1 + (Sm.pls y : Int)) s
  | .rep k b, p, s => iterN k (fun s => Sm.runs b (p + 1) s) s
def Sm.runs : List Sm → Int → Cs → Option Str × Cs
  | [], _, s => (none, s)
  | t :: r, p, s => match t.run p s with
    | (some c, s') => (some c, s')
    | (none, s') => Sm.runs r (p + (t.pl : Int)) s'
end
end
mutual
def Sm.wt : Sm → Nat
  | .ite _ y n => 1 + (Sm.wts y + Sm.wts n)
  | .rep k b => 1 + k * Sm.wts b
  | .set _ _ => 1
  | .half _ _ => 1
  | .tell _ => 1
  | .say _ => 1
  | .stop _ => 1
def Sm.wts : List Sm → Nat
  | [] => 0
  | s :: r => s.wt + Sm.wts r
end
mutual
def Sm.ok : Sm → Prop
  | .ite t y n => t.ok ∧ t.nots ≤ 2 ∧ Sm.oks y ∧ Sm.oks n
  | .rep k b => k ≤ 8 ∧ Sm.oks b
  | .set x e => (e.ok ∧ e.deep ≤ 3) ∧ NmOk x
  | .half x e => (e.ok ∧ e.deep ≤ 3) ∧ NmOk x
  | .tell e => e.ok ∧ e.deep ≤ 3
  | .say c => PyData.strOk c = true ∧ c.length ≤ 20
  | .stop c => PyData.strOk c = true ∧ c.length ≤ 20
def Sm.oks : List Sm → Prop
  | [] => True
  | s :: r => s.ok ∧ Sm.oks r
end
/-! ### the object of a run -/
structure Cad where
  x : Addr
  dx : Addr
  nd : Addr
  sd : Addr
  td : Addr
  cd : Addr
  wd : Addr
def cfs (a : Cad) (r : V) : List (Str × V) := [("names", .ref a.nd), ("said", .ref a.sd), ("turns", .ref a.td), ("choices", .ref a.cd), ("ways", .ref a.wd), ("rule", r)]
def WaysRel (kvs : List (Key × V)) (ways : Int → Option Int) : Prop := ∀ p : Int, valV kvs (Sum.inl p) = (ways p).map V.int
structure CAt (C : Addr) (H : Hp) (a : Cad) (r : V) (chs : List Int) (wk : List (Key × V)) (n : Nat) (s : Cs) : Prop where
  ob : H a.x = some (.ins C a.dx (cfs a r))
  nm : ∃ kvs, H a.nd = some (.dK kvs) ∧ EnvRel kvs s.env ∧ kvs.length ≤ n + 1
  sa : H a.sd = some (.lst (s.said.map kV))
  tu : H a.td = some (.lst (s.turns.map V.int))
  ch : H a.cd = some (.tup (chs.map V.int))
  wy : H a.wd = some (.dK wk)
  ls : s.said.length ≤ n
  lt : s.turns.length ≤ n
  ne1 : a.nd ≠ a.wd
  ne2 : a.sd ≠ a.td
  lc : chs.length ≤ 1000000
def wV : Option Str → V
  | none => .non
  | some c => .str c
def decC (chs : List Int) : Nat → Int → Int → Int := fun k _ _ => chs.getD k 0
theorem CAt.mono {C : Addr} {H : Hp} {a : Cad} {r : V} {chs : List Int} {wk : List (Key × V)} {n m : Nat} {s : Cs} (c : CAt C H a r chs wk n s) (h : n ≤ m) : CAt C H a r chs wk m s := by
  obtain ⟨kvs, h1, h2, h3⟩ := c.nm
  have := c.ls
  have := c.lt
  exact ⟨c.ob, ⟨kvs, h1, h2, by omega⟩, c.sa, c.tu, c.ch, c.wy, by omega, by omega, c.ne1, c.ne2, c.lc⟩
theorem CAt.kp0 {C : Addr} {H H' : Hp} {a : Cad} {r : V} {chs : List Int} {wk : List (Key × V)} {n : Nat} {s : Cs} (c : CAt C H a r chs wk n s) (k : Kp [] H H') : CAt C H' a r chs wk n s := by
  obtain ⟨kvs, h1, h2, h3⟩ := c.nm
  exact ⟨k.at c.ob, ⟨kvs, k.at h1, h2, h3⟩, k.at c.sa, k.at c.tu, k.tup _ _ c.ch, k.at c.wy, c.ls, c.lt, c.ne1, c.ne2, c.lc⟩
theorem EnvRel.put {kvs : List (Key × V)} {env : Str → Int} (h : EnvRel kvs env) (x : Str) (v : Int) : EnvRel (putK kvs (Sum.inr x) (.int v)) (setE env x v) := by
  intro y
  rw [valV_put]
  unfold setE
  by_cases e : y = x
  · subst e
    rw [if_pos rfl, if_pos rfl]
    rfl
  · rw [if_neg e, if_neg (fun z => e (Sum.inr.inj z))]
    exact h y
/-- the name x stands for v behind a store -/
theorem CAt.put {C : Addr} {H H1 : Hp} {a : Cad} {r : V} {chs : List Int} {wk : List (Key × V)} {n : Nat} {s : Cs} {kvs : List (Key × V)} {x : Str} {v : Int} (c : CAt C H a r chs wk n s) (hk : H a.nd = some (.dK kvs)) (he : EnvRel kvs s.env)
    (hl : kvs.length ≤ n + 1) (e : H1 = upd H a.nd (.dK (putK kvs (Sum.inr x) (.int v)))) : CAt C H1 a r chs wk (n + 1) { s with env := setE s.env x v } ∧ Kp [a.nd, a.sd, a.td] H H1 := by
  have k : Kp [a.nd] H H1 := by rw [e]; exact Kp.put hk (fun _ z => by cases z)
  have l2 := length_putK kvs (Sum.inr x : Key) (V.int v)
  have := c.ls
  have := c.lt
  refine ⟨⟨k.keep _ _ c.ob (EH.ne1 (ne_of c.ob hk (fun z => by cases z))), ⟨_, by rw [e]; exact upd_same, he.put x v, by omega⟩, k.keep _ _ c.sa (EH.ne1 (ne_of c.sa hk (fun z => by cases z))), k.keep _ _ c.tu (EH.ne1 (ne_of c.tu hk (fun z => by cases z))),
    k.tup _ _ c.ch, k.keep _ _ c.wy (EH.ne1 c.ne1.symm), by show s.said.length ≤ _; omega, by show s.turns.length ≤ _; omega, c.ne1, c.ne2, c.lc⟩, k.sub (by simp)⟩
theorem CAt.say {C : Addr} {H H1 : Hp} {a : Cad} {r : V} {chs : List Int} {wk : List (Key × V)} {n : Nat} {s : Cs} {v : Key} (c : CAt C H a r chs wk n s) (h1 : H1 a.sd = some (.lst (s.said.map kV ++ [kV v]))) (k : Kp [a.sd] H H1) :
    CAt C H1 a r chs wk (n + 1) { s with said := s.said ++ [v] } ∧ Kp [a.nd, a.sd, a.td] H H1 := by
  obtain ⟨kvs, g1, g2, g3⟩ := c.nm
  have := c.ls
  have := c.lt
  refine ⟨⟨k.keep _ _ c.ob (EH.ne1 (ne_of c.ob c.sa (fun z => by cases z))), ⟨kvs, k.keep _ _ g1 (EH.ne1 (ne_of g1 c.sa (fun z => by cases z))), g2, by omega⟩, by rw [h1, List.map_append]; rfl, k.keep _ _ c.tu (EH.ne1 c.ne2.symm),
    k.tup _ _ c.ch, k.keep _ _ c.wy (EH.ne1 (ne_of c.wy c.sa (fun z => by cases z))), by show (s.said ++ [v]).length ≤ _; rw [List.length_append, List.length_singleton]; omega, by show s.turns.length ≤ _; omega, c.ne1, c.ne2, c.lc⟩, k.sub (by simp)⟩
theorem CAt.turn {C : Addr} {H H1 : Hp} {a : Cad} {r : V} {chs : List Int} {wk : List (Key × V)} {n : Nat} {s : Cs} {v : Int} (c : CAt C H a r chs wk n s) (h1 : H1 a.td = some (.lst (s.turns.map V.int ++ [.int v]))) (k : Kp [a.td] H H1) :
    CAt C H1 a r chs wk (n + 1) { s with turns := s.turns ++ [v] } ∧ Kp [a.nd, a.sd, a.td] H H1 := by
  obtain ⟨kvs, g1, g2, g3⟩ := c.nm
  have := c.ls
  have := c.lt
  refine ⟨⟨k.keep _ _ c.ob (EH.ne1 (ne_of c.ob c.tu (fun z => by cases z))), ⟨kvs, k.keep _ _ g1 (EH.ne1 (ne_of g1 c.tu (fun z => by cases z))), g2, by omega⟩, k.keep _ _ c.sa (EH.ne1 c.ne2), by rw [h1, List.map_append]; rfl,
    k.tup _ _ c.ch, k.keep _ _ c.wy (EH.ne1 (ne_of c.wy c.tu (fun z => by cases z))), by show s.said.length ≤ _; omega, by show (s.turns ++ [v]).length ≤ _; rw [List.length_append, List.length_singleton]; omega, c.ne1, c.ne2, c.lc⟩, k.sub (by simp)⟩
/-! ### the promises -/
def spChoice (C : Addr) : Sp := fun vs H Q _ => ∃ (a : Cad) (r : V) (chs : List Int) (wk : List (Key × V)) (n : Nat) (s : Cs) (v p : Int), vs = [.ref a.x, .int v, .int p] ∧ CAt C H a r chs wk n s ∧ r = .non ∧ n ≤ 1000000 ∧ Q (.int (decC chs s.turns.length v p)) H
def spHalved (C : Addr) : Sp := fun vs H Q _ => ∃ (a : Cad) (r : V) (chs : List Int) (wk : List (Key × V)) (ways : Int → Option Int) (n : Nat) (s : Cs) (v p : Int), vs = [.ref a.x, .int v, .int p] ∧ CAt C H a r chs wk n s ∧ r = .non ∧ WaysRel wk ways ∧ n < 1000000 ∧
  ∀ H', CAt C H' a r chs wk (n + 1) (halv (decC chs) ways s v p).2 → Kp [a.nd, a.sd, a.td] H H' → Q (.int (halv (decC chs) ways s v p).1) H'
def Sm.plain : Sm → Prop
  | .ite _ _ _ => False
  | .rep _ _ => False
  | .set _ _ => True
  | .half _ _ => True
  | .tell _ => True
  | .say _ => True
  | .stop _ => True
def spDo (C : Addr) : Sp := fun vs H Q _ => ∃ (a : Cad) (r : V) (chs : List Int) (wk : List (Key × V)) (ways : Int → Option Int) (n : Nat) (s : Cs) (v : V) (st : Sm) (p : Int), vs = [.ref a.x, v, .int p] ∧ CAt C H a r chs wk n s ∧ r = .non ∧ WaysRel wk ways ∧ n + 2 ≤ 1000000 ∧
  Tr H st.d v ∧ st.plain ∧ st.ok ∧ ∀ H', CAt C H' a r chs wk (n + 2) (st.run (decC chs) ways p s).2 → Kp [a.nd, a.sd, a.td] H H' → Q (wV (st.run (decC chs) ways p s).1) H'
/-! ### the parts of a statement with blocks -/
def partsOf (env : Str → Int) (p : Int) : Sm → List (List Sm × Int)
  | .ite t y n => if t.ev env then [(y, p + 1)] else [(n, p + 1 + (Sm.pls y : Int))]
  | .rep k b => List.replicate k (b, p + 1)
  | _ => []
def partD (q : List Sm × Int) : PyData := .tuple [.tuple (Sm.ds q.1), .int q.2]
def spParts (C : Addr) (m : Nat) : Sp := fun vs H Q _ => ∃ (a : Cad) (r : V) (chs : List Int) (wk : List (Key × V)) (n : Nat) (s : Cs) (v : V) (st : Sm) (p : Int), vs = [.ref a.x, v, .int p] ∧ CAt C H a r chs wk n s ∧
  Tr H st.d v ∧ ¬ st.plain ∧ st.ok ∧ st.pl ≤ 1000000 ∧ st.nest ≤ m ∧ ∀ (l : Addr) (ts : List V) (H' : Hp), H l = none → H' l = some (.lst ts) → TrAll H' ((partsOf s.env p st).map partD) ts → Kp [] H H' → Q (.ref l) H'
section
variable (dec : Nat → Int → Int → Int) (ways : Int → Option Int)
def foldP : List (List Sm × Int) → Option Str × Cs → Option Str × Cs
  | [], r => r
  | q :: l, (none, s) => foldP l (Sm.runs dec ways q.1 q.2 s)
  | q :: l, (some c, s) => foldP l (some c, s)
theorem foldP_some (c : Str) (s : Cs) : ∀ l, foldP dec ways l (some c, s) = (some c, s)
  | [] => rfl
  | q :: l => foldP_some c s l
theorem foldP_rep (b : List Sm) (p : Int) : ∀ (k : Nat) (s : Cs), foldP dec ways (List.replicate k (b, p)) (none, s) = iterN k (fun s => Sm.runs dec ways b p s) s
  | 0, s => rfl
  | k + 1, s => by
    show foldP dec ways (List.replicate k (b, p)) (Sm.runs dec ways b p s) = _
    rw [iterN]
    cases h : Sm.runs dec ways b p s with
    | mk c s' =>
      cases c with
      | none =>
        dsimp only
        exact foldP_rep b p k s'
      | some c => exact foldP_some dec ways c s' _
theorem run_parts : ∀ {st : Sm} (h : ¬ st.plain) (p : Int) (s : Cs), st.run dec ways p s = foldP dec ways (partsOf s.env p st) (none, s)
  | .ite t y n, h, p, s => by
    simp only [Sm.run, partsOf]
    split <;> rfl
  | .rep k b, h, p, s => by
    simp only [Sm.run, partsOf]
    exact (foldP_rep dec ways b (p + 1) k s).symm
  | .set _ _, h, _, _ => absurd trivial h
  | .half _ _, h, _, _ => absurd trivial h
  | .tell _, h, _, _ => absurd trivial h
  | .say _, h, _, _ => absurd trivial h
  | .stop _, h, _, _ => absurd trivial h
end
theorem parts_mem {env : Str → Int} {p : Int} {q : List Sm × Int} : ∀ {st : Sm}, q ∈ partsOf env p st → q.1 ∈ st.blks
  | .ite t y n, h => by
    simp only [partsOf] at h
    split at h
    · simp at h; subst h; simp [Sm.blks]
    · simp at h; subst h; simp [Sm.blks]
  | .rep k b, h => by
    simp only [partsOf] at h
    have := List.eq_of_mem_replicate h
    subst this
    simp [Sm.blks]
  | .set _ _, h => by simp [partsOf] at h
  | .half _ _, h => by simp [partsOf] at h
  | .tell _, h => by simp [partsOf] at h
  | .say _, h => by simp [partsOf] at h
  | .stop _, h => by simp [partsOf] at h
theorem parts_wt {env : Str → Int} {p : Int} : ∀ {st : Sm}, (((partsOf env p st).map fun q => Sm.wts q.1).sum) + 1 ≤ st.wt
  | .ite t y n => by
    simp only [partsOf, Sm.wt]
    split <;> simp <;> omega
  | .rep k b => by
    simp only [partsOf, Sm.wt, List.map_replicate, List.sum_replicate_nat]
    omega
  | .set _ _ => by simp [partsOf, Sm.wt]
  | .half _ _ => by simp [partsOf, Sm.wt]
  | .tell _ => by simp [partsOf, Sm.wt]
  | .say _ => by simp [partsOf, Sm.wt]
  | .stop _ => by simp [partsOf, Sm.wt]
theorem parts_len {env : Str → Int} {p : Int} : ∀ {st : Sm}, st.ok → (partsOf env p st).length ≤ 1000
  | .ite t y n, h => by
    simp only [partsOf]
    split <;> simp
  | .rep k b, h => by
    simp only [partsOf, List.length_replicate]
    exact Nat.le_trans (show k ≤ 8 ∧ Sm.oks b by simpa only [Sm.ok] using h).1 (by decide)
  | .set _ _, h => by simp [partsOf]
  | .half _ _, h => by simp [partsOf]
  | .tell _, h => by simp [partsOf]
  | .say _, h => by simp [partsOf]
  | .stop _, h => by simp [partsOf]
theorem oks_mem : ∀ {l : List Sm} {s : Sm}, Sm.oks l → s ∈ l → s.ok
  | [], s, _, h => by cases h
  | t :: r, s, o, h => by
    simp only [Sm.oks] at o
    rcases List.mem_cons.mp h with rfl | h
    · exact o.1
    · exact oks_mem o.2 h
theorem ok_blk : ∀ {st : Sm} {b : List Sm}, st.ok → b ∈ st.blks → Sm.oks b
  | .ite t y n, b, o, h => by
    simp only [Sm.ok] at o
    simp only [Sm.blks, List.mem_cons, List.not_mem_nil, or_false] at h
    rcases h with rfl | rfl
    · exact o.2.2.1
    · exact o.2.2.2
  | .rep k b', b, o, h => by
    simp only [Sm.ok] at o
    simp only [Sm.blks, List.mem_cons, List.not_mem_nil, or_false] at h
    subst h
    exact o.2
  | .set _ _, b, o, h => by simp [Sm.blks] at h
  | .half _ _, b, o, h => by simp [Sm.blks] at h
  | .tell _, b, o, h => by simp [Sm.blks] at h
  | .say _, b, o, h => by simp [Sm.blks] at h
  | .stop _, b, o, h => by simp [Sm.blks] at h
def Sm.kw : Sm → Str
  | .ite _ _ _ => "if"
  | .rep _ _ => "repeat"
  | .set _ _ => "set"
  | .half _ _ => "half"
  | .tell _ => "tell"
  | .say _ => "say"
  | .stop _ => "stop"
theorem Sm.head {H : Hp} {v : V} : ∀ {t : Sm}, Tr H t.d v → ∃ u rest, v = .ref u ∧ H u = some (.tup (.str t.kw :: rest))
  | .ite _ _ _, h => by obtain ⟨u, x1, x2, x3, x4, rfl, h1, t1, _⟩ := tr_tup4 h; cases tr_str t1; exact ⟨u, _, rfl, h1⟩
  | .rep _ _, h => by obtain ⟨u, x1, x2, x3, rfl, h1, t1, _⟩ := tr_tup3 h; cases tr_str t1; exact ⟨u, _, rfl, h1⟩
  | .set _ _, h => by obtain ⟨u, x1, x2, x3, rfl, h1, t1, _⟩ := tr_tup3 h; cases tr_str t1; exact ⟨u, _, rfl, h1⟩
  | .half _ _, h => by obtain ⟨u, x1, x2, x3, rfl, h1, t1, _⟩ := tr_tup3 h; cases tr_str t1; exact ⟨u, _, rfl, h1⟩
  | .tell _, h => by obtain ⟨u, x1, x2, rfl, h1, t1, _⟩ := tr_tup2 h; cases tr_str t1; exact ⟨u, _, rfl, h1⟩
  | .say _, h => by obtain ⟨u, x1, x2, rfl, h1, t1, _⟩ := tr_tup2 h; cases tr_str t1; exact ⟨u, _, rfl, h1⟩
  | .stop _, h => by obtain ⟨u, x1, x2, rfl, h1, t1, _⟩ := tr_tup2 h; cases tr_str t1; exact ⟨u, _, rfl, h1⟩
theorem Sm.kw_in (t : Sm) : (inV (.str t.kw) [.str "if", .str "repeat"] = true ∧ ¬ t.plain) ∨ (inV (.str t.kw) [.str "if", .str "repeat"] = false ∧ t.plain) := by
  cases t with
  | ite _ _ _ => exact .inl ⟨(by decide +kernel : inV (.str "if") [.str "if", .str "repeat"] = true), id⟩
  | rep _ _ => exact .inl ⟨(by decide +kernel : inV (.str "repeat") [.str "if", .str "repeat"] = true), id⟩
  | set _ _ => exact .inr ⟨(by decide +kernel : inV (.str "set") [.str "if", .str "repeat"] = false), trivial⟩
  | half _ _ => exact .inr ⟨(by decide +kernel : inV (.str "half") [.str "if", .str "repeat"] = false), trivial⟩
  | tell _ => exact .inr ⟨(by decide +kernel : inV (.str "tell") [.str "if", .str "repeat"] = false), trivial⟩
  | say _ => exact .inr ⟨(by decide +kernel : inV (.str "say") [.str "if", .str "repeat"] = false), trivial⟩
  | stop _ => exact .inr ⟨(by decide +kernel : inV (.str "stop") [.str "if", .str "repeat"] = false), trivial⟩
theorem Sm.wt_pos : ∀ t : Sm, 1 ≤ t.wt
  | .ite _ _ _ => by simp only [Sm.wt]; omega
  | .rep _ _ => by simp only [Sm.wt]; omega
  | .set _ _ => by simp [Sm.wt]
  | .half _ _ => by simp [Sm.wt]
  | .tell _ => by simp [Sm.wt]
  | .say _ => by simp [Sm.wt]
  | .stop _ => by simp [Sm.wt]
theorem Sm.nests_pos {t : Sm} (h : ¬ t.plain) : 1 ≤ t.nest := by
  cases t with
  | ite _ _ _ => simp only [Sm.nest]; omega
  | rep _ _ => simp only [Sm.nest]; omega
  | set _ _ => exact absurd trivial h
  | half _ _ => exact absurd trivial h
  | tell _ => exact absurd trivial h
  | say _ => exact absurd trivial h
  | stop _ => exact absurd trivial h
def wsum (l : List (List Sm × Int)) : Nat := (l.map fun q => Sm.wts q.1).sum
def spGo (C : Addr) (m : Nat) : Sp := fun vs H Q _ => ∃ (a : Cad) (r : V) (chs : List Int) (wk : List (Key × V)) (ways : Int → Option Int) (n : Nat) (s : Cs) (v : V) (b : List Sm) (p : Int), vs = [.ref a.x, v, .int p] ∧ CAt C H a r chs wk n s ∧ r = .non ∧ WaysRel wk ways ∧ n + 2 * Sm.wts b ≤ 1000000 ∧
  Tr H (.tuple (Sm.ds b)) v ∧ Sm.oks b ∧ Sm.pls b ≤ 1000000 ∧ Sm.nests b ≤ m ∧ ∀ H', CAt C H' a r chs wk (n + 2 * Sm.wts b) (Sm.runs (decC chs) ways b p s).2 → Kp [a.nd, a.sd, a.td] H H' → Q (wV (Sm.runs (decC chs) ways b p s).1) H'
/-! ### what a run tells -/
def kD : Key → PyData
  | .inl i => .int i
  | .inr x => .str x
def wD : Option Str → PyData
  | none => .none
  | some c => .str c
theorem tr_kD {H : Hp} : ∀ k : Key, Tr H (kD k) (kV k)
  | .inl _ => mk_int
  | .inr _ => mk_str
theorem trs_kD {H : Hp} : ∀ ks : List Key, TrAll H (ks.map kD) (ks.map kV)
  | [] => trs_nil
  | k :: r => trs_cons (tr_kD k) (trs_kD r)
theorem trs_int {H : Hp} : ∀ ks : List Int, TrAll H (ks.map PyData.int) (ks.map V.int)
  | [] => trs_nil
  | _ :: r => trs_cons mk_int (trs_int r)
theorem tr_wD {H : Hp} : ∀ o : Option Str, Tr H (wD o) (wV o)
  | none => mk_non
  | some _ => mk_str
def env0 (n : Int) : Str → Int := fun y => if y = "n" then n else 0
def cs0 (n : Int) : Cs := ⟨env0 n, [], []⟩
/-- items, word, turns -/
def resD (r : Option Str × Cs) : PyData := .tuple [.tuple (r.2.said.map kD), wD r.1, .tuple (r.2.turns.map PyData.int)]
def spInit (C : Addr) : Sp := fun vs H Q _ => ∃ (x dx cd wd : Addr) (num : Int) (r : V) (chs : List Int) (wk : List (Key × V)), vs = [.ref x, .int num, .ref cd, .ref wd, r] ∧ H x = some (.ins C dx []) ∧ H cd = some (.tup (chs.map V.int)) ∧ H wd = some (.dK wk) ∧ chs.length ≤ 1000000 ∧
  ∀ (a : Cad) (H' : Hp), a.x = x → CAt C H' a r chs wk 0 (cs0 num) → Kp [x] H H' → (∀ b ∈ [a.nd, a.sd, a.td], H b = none) → Q .non H'
def spCourseOf (m : Nat) : Sp := fun vs H Q _ => ∃ (v : V) (b : List Sm) (num : Int) (cd wd : Addr) (chs : List Int) (wk : List (Key × V)) (ways : Int → Option Int), vs = [v, .int num, .ref cd, .ref wd, .non] ∧ Tr H (.tuple (Sm.ds b)) v ∧ H cd = some (.tup (chs.map V.int)) ∧
  H wd = some (.dK wk) ∧ WaysRel wk ways ∧ chs.length ≤ 1000000 ∧ Sm.oks b ∧ Sm.wts b ≤ 100000 ∧ Sm.pls b ≤ 1000000 ∧ Sm.nests b ≤ m ∧ ∀ (t : V) (H' : Hp), Tr H' (resD (Sm.runs (decC chs) ways b 0 (cs0 num))) t → Kp [] H H' → Q t H'
def spRunOf (m : Nat) : Sp := fun vs H Q _ => ∃ (v : V) (b : List Sm) (num : Int) (cd wd : Addr) (chs : List Int) (wk : List (Key × V)) (ways : Int → Option Int), vs = [v, .int num, .ref cd, .ref wd] ∧ Tr H (.tuple (Sm.ds b)) v ∧ H cd = some (.tup (chs.map V.int)) ∧
  H wd = some (.dK wk) ∧ WaysRel wk ways ∧ chs.length ≤ 1000000 ∧ Sm.oks b ∧ Sm.wts b ≤ 100000 ∧ Sm.pls b ≤ 1000000 ∧ Sm.nests b ≤ m ∧ ∀ (t : V) (H' : Hp), Tr H' (resD (Sm.runs (decC chs) ways b 0 (cs0 num))) t → Kp [] H H' → Q t H'
def noWay : Int → Option Int := fun _ => none
theorem noWay_rel : WaysRel [] noWay := fun _ => rfl
def spRun (m : Nat) : Sp := fun vs H Q _ => ∃ (v : V) (b : List Sm) (num : Int) (cd : Addr) (chs : List Int), vs = [v, .int num, .ref cd] ∧ Tr H (.tuple (Sm.ds b)) v ∧ H cd = some (.tup (chs.map V.int)) ∧
  chs.length ≤ 1000000 ∧ Sm.oks b ∧ Sm.wts b ≤ 100000 ∧ Sm.pls b ≤ 1000000 ∧ Sm.nests b ≤ m ∧ ∀ (t : V) (H' : Hp), Tr H' (resD (Sm.runs (decC chs) noWay b 0 (cs0 num))) t → Kp [] H H' → Q t H'
end EH
namespace EH
open PySem L2
local macro_rules | `(tactic| walk_at "sd") => `(tactic| first | assumption | ((with_reducible show (_ : Int) ≤ _); omega) | ((with_reducible show (_ : Int) < _); omega) | rfl | exact SqL.of (by assumption) | exact SqT.of (by assumption) | exact atI_nat (j := 0) rfl | exact atI_nat (j := 1) rfl | exact atI_nat (j := 2) rfl | exact atI_nat (j := 3) rfl | exact sz_lit rfl | exact lt_lit rfl | exact pos_lit rfl | exact le_lit rfl | exact Or.inl (SqL.of (by assumption)) | exact ⟨_, SqL.of (by assumption)⟩ | exact ⟨_, SqT.of (by assumption)⟩ | exact Or.inr (SqT.of (by assumption)) | exact ClsV.ty _ | exact TyX.base (TyOf.int _) | exact TyX.base (TyOf.str _) | exact TyX.base (TyOf.tup (by assumption)) | exact kit_ty isi_ss | exact kit_ty isi_is | exact kit_ty isi_ts | exact kit_ty isi_si | exact kit_ty isi_ii | exact kit_ty isi_ti | exact kit_ty isi_st | exact kit_ty isi_it | exact kit_ty isi_tt | exact Or.inl ⟨_, Or.inl (by assumption)⟩ | exact DGet.k (k := Sum.inr _) (by assumption) | exact DGet.k (k := Sum.inl _) (by assumption) | (refine cpow_of ?_; decide) | (refine cmul_of ?_; decide) | (show (_ : Int) ≠ 0; first | decide | omega) | (refine cdivn_of ?_; decide) | exact Or.inl ⟨rfl, _, SqL.of (by assumption)⟩ | omega)
local macro_rules | `(tactic| walk_at "st") => `(tactic| first | (apply Exists.intro) | (refine And.intro ?_ ?_; focus (walk_at "sd")) | (apply Or.inl; apply Exists.intro; refine And.intro ?_ ?_; focus rfl) | (apply Or.inr; apply Exists.intro; refine And.intro ?_ ?_; focus rfl))
local macro_rules | `(tactic| walk_at "go") => `(tactic| repeat (walk_at "st"))
section
variable {P : Program} {w : World} {K : PySem.W.Frag} {mg : Str → Option Value} {base : Heap}
theorem ok_Course_choice (T : Top K mg) {k : Nat} : FnOk P w K mg base CX0 (k + 1) T.Course_choice.f T.Course_choice.fd ["self", "value", "place"] (spChoice T.Course.C) := by
  refine T.Course_choice.F.ok sc_Course_choice (fun vs H Q E h => ?_) (fun cdv A outer s H vs Q E hr h => ?_)
  · obtain ⟨a, r, chs, wk, n, s, v, p, rfl, _⟩ := h
    rfl
  obtain ⟨a, r, chs, wk, n, s, v, p, rfl, c, rfl, hn, q⟩ := h
  refine ⟨_, (pss_cons (ps_if (pt_cmpR op_notN (pe_fldK (K := K) rfl (pv 0)) pe_non (nomark _)) (pss_one ps_never) pss_nil)
      (pss_one (ps_ret (pe_ifExp (pt_cmpR op_lt (pe_callB (id := "len") (call_lenK (K := K) rfl) (by rfl) T.len PySem.boot_len (pa_cons (pe_fldK (K := K) rfl (pv 0)) pa_nil)) (pe_callB (id := "len") (call_lenK (K := K) rfl) (by rfl) T.len PySem.boot_len (pa_cons (pe_fldK (K := K) rfl (pv 0)) pa_nil)) (nomark _)) (pe_ix (ix_tupK (K := K) rfl) (pe_fldK (K := K) rfl (pv 0)) (pe_callB (id := "len") (call_lenK (K := K) rfl) (by rfl) T.len PySem.boot_len (pa_cons (pe_fldK (K := K) rfl (pv 0)) pa_nil)) (fun _ _ => rfl)) (pe_glob (v := .int 0) (by rfl) T.g_DOWN ⟨_, rfl⟩))))), ?_⟩
  have cl := T.Course.cl
  have n1 := T.n_Course_rule
  have n2 := T.n_Course_turns
  have n3 := T.n_Course_choices
  have ob := c.ob
  have tu := c.tu
  have ch := c.ch
  walk_at "go"
  refine ite2 (fun hc => ?_) (fun hc => ?_)
  · have hc1 : (((s.turns.map V.int).length : Nat) : Int) < (((chs.map V.int).length : Nat) : Int) := of_decide_eq_true hc
    rw [List.length_map, List.length_map] at hc1
    have e : atI (chs.map V.int) (((s.turns.map V.int).length : Nat) : Int) = some (.int (decC chs s.turns.length v p)) := by
      rw [List.length_map]
      refine atI_nat ?_
      rw [List.getElem?_map, decC, List.getD_eq_getElem?_getD, List.getElem?_eq_getElem (by omega)]
      rfl
    walk_at "go"
    exact q
  · have hc1 : ¬ (((s.turns.map V.int).length : Nat) : Int) < (((chs.map V.int).length : Nat) : Int) := of_decide_eq_false (Bool.eq_false_iff.mpr hc)
    rw [List.length_map, List.length_map] at hc1
    have e : decC chs s.turns.length v p = 0 := by
      rw [decC, List.getD_eq_getElem?_getD, List.getElem?_eq_none (by omega)]
      rfl
    rw [e] at q
    exact q
theorem ok_Course_halved (T : Top K mg) {k : Nat} : FnOk P w K mg base CX0 (k + 2) T.Course_halved.f T.Course_halved.fd ["self", "value", "place"] (spHalved T.Course.C) := by
  have G_Course_choice : FnOk P w K mg base CX0 (k + 1) T.Course_choice.f T.Course_choice.fd ["self", "value", "place"] (spChoice T.Course.C) := ok_Course_choice T
  refine T.Course_halved.F.ok sc_Course_halved (fun vs H Q E h => ?_) (fun cdv A outer s H vs Q E hr h => ?_)
  · obtain ⟨a, r, chs, wk, ways, n, s, v, p, rfl, _⟩ := h
    rfl
  obtain ⟨a, r, chs, wk, ways, n, s, v, p, rfl, c, rfl, hw, hn, q⟩ := h
  have hu := hu_of hr
  refine ⟨_, (pss_cons (ps_if (pt_cmpR op_eq (pe_op op_modN (pv 1) pe_int) pe_int (nomark _)) (pss_one (ps_ret (pe_op op_fdivN (pv 1) pe_int))) pss_nil)
      (pss_cons (ps_if (pt_cmp (pc_din hu (pv 2) (pe_fldK (K := K) rfl (pv 0)))) (pss_one (ps_ret (pe_op op_add (pe_op op_fdivN (pv 1) pe_int) (pe_dget hu (pe_fldK (K := K) rfl (pv 0)) (pv 2) (fun _ _ => rfl))))) pss_nil)
      (pss_cons (ps_set (i := 3) sc_Course_halved.nd rfl (.inl rfl) (pe_meth (pv 0) T.Course.cl T.Course_choice.m G_Course_choice (hr.mono (by omega)) T.Course_choice.b .nil pass0 (pa_cons (pv 1) (pa_cons (pv 2) pa_nil))))
      (pss_cons (ps_expr (pe_bmK (K := K) rfl PySem.F.plainAttrs_list PySem.F.slot_list_append PySem.F.type_list_append mt_appendA (pe_fldK (K := K) rfl (pv 0)) (pa_cons (pv 3) pa_nil)))
      (pss_one (ps_ret (pe_op op_add (pe_op op_fdivN (pv 1) pe_int) (pv 3)))))))), ?_⟩
  have cl := T.Course.cl
  have n1 := T.n_Course_ways
  have n2 := T.n_Course_turns
  have ob := c.ob
  have tu := c.tu
  have wy := c.wy
  walk_at "go"
  refine ite2 (fun hc => ?_) (fun hc => ?_)
  · have hc1 : v % 2 = 0 := by
      have := of_decide_eq_true hc
      rw [← fmod2]
      exact V.int.inj this
    walk_at "go"
    have e : halv (decC chs) ways s v p = (v / 2, s) := by rw [halv, if_pos hc1]
    rw [e] at q
    have q1 := q H (c.mono (Nat.le_succ n)) Kp.refl
    show Q (.int (v.fdiv 2)) H
    rw [fdiv2]
    exact q1
  · have hc1 : ¬ v % 2 = 0 := by
      have := of_decide_eq_false (Bool.eq_false_iff.mpr hc)
      rw [← fmod2]
      exact fun z => this (congrArg V.int z)
    have hg : DGet H a.wd (.int p) (valV wk (Sum.inl p)) := DGet.k (k := Sum.inl p) wy
    have hp := hw p
    cases e : ways p with
    | some c1 =>
      rw [e] at hp
      rw [hp] at hg
      have hg2 : DGet H a.wd (.int p) (some (.int c1)) := hg
      have e2 : halv (decC chs) ways s v p = (v / 2 + c1, s) := by rw [halv, if_neg hc1, e]
      rw [e2] at q
      refine ⟨_, rfl, _, rfl, a.x, _, _, _, _, rfl, ob, cl, n1, rfl, a.wd, _, rfl, hg2, _, rfl, ?_⟩
      refine iteT ?_
      walk_at "go"
      have q1 := q H (c.mono (Nat.le_succ n)) Kp.refl
      show Q (.int (v.fdiv 2 + c1)) H
      rw [fdiv2]
      exact q1
    | none =>
      rw [e] at hp
      rw [hp] at hg
      have hg2 : DGet H a.wd (.int p) none := hg
      have e2 : halv (decC chs) ways s v p = (v / 2 + decC chs s.turns.length v p, { s with turns := s.turns ++ [decC chs s.turns.length v p] }) := by rw [halv, if_neg hc1, e]
      rw [e2] at q
      refine ⟨_, rfl, _, rfl, a.x, _, _, _, _, rfl, ob, cl, n1, rfl, a.wd, _, rfl, hg2, _, rfl, ?_⟩
      refine iteF ?_
      have lt := c.lt
      have hz : (s.turns.map V.int).length < sizeLine := by
        rw [List.length_map]
        exact sz_lt (by omega)
      have hn2 : n ≤ 1000000 := Nat.le_of_lt hn
      walk_at "go"
      intro H1 g1 k1
      walk_at "go"
      obtain ⟨c1, k2⟩ := c.turn g1 k1
      have q1 := q H1 c1 k2
      show Q (.int (v.fdiv 2 + decC chs s.turns.length v p)) H1
      rw [fdiv2]
      exact q1
end
end EH
namespace EH
open PySem L2
local macro_rules | `(tactic| walk_at "sd") => `(tactic| first | assumption | ((with_reducible show (_ : Int) ≤ _); omega) | ((with_reducible show (_ : Int) < _); omega) | rfl | exact SqL.of (by assumption) | exact SqT.of (by assumption) | exact atI_nat (j := 0) rfl | exact atI_nat (j := 1) rfl | exact atI_nat (j := 2) rfl | exact atI_nat (j := 3) rfl | exact sz_lit rfl | exact lt_lit rfl | exact pos_lit rfl | exact le_lit rfl | exact Or.inl (SqL.of (by assumption)) | exact ⟨_, SqL.of (by assumption)⟩ | exact ⟨_, SqT.of (by assumption)⟩ | exact Or.inr (SqT.of (by assumption)) | exact ClsV.ty _ | exact TyX.base (TyOf.int _) | exact TyX.base (TyOf.str _) | exact TyX.base (TyOf.tup (by assumption)) | exact kit_ty isi_ss | exact kit_ty isi_is | exact kit_ty isi_ts | exact kit_ty isi_si | exact kit_ty isi_ii | exact kit_ty isi_ti | exact kit_ty isi_st | exact kit_ty isi_it | exact kit_ty isi_tt | exact Or.inl ⟨_, Or.inl (by assumption)⟩ | exact DGet.k (k := Sum.inr _) (by assumption) | exact DGet.k (k := Sum.inl _) (by assumption) | (refine cpow_of ?_; decide) | (refine cmul_of ?_; decide) | (show (_ : Int) ≠ 0; first | decide | omega) | (refine cdivn_of ?_; decide) | exact Or.inl ⟨rfl, _, SqL.of (by assumption)⟩ | omega)
local macro_rules | `(tactic| walk_at "st") => `(tactic| first | (apply Exists.intro) | (refine And.intro ?_ ?_; focus (walk_at "sd")) | (apply Or.inl; apply Exists.intro; refine And.intro ?_ ?_; focus rfl) | (apply Or.inr; apply Exists.intro; refine And.intro ?_ ?_; focus rfl))
local macro_rules | `(tactic| walk_at "go") => `(tactic| repeat (walk_at "st"))
section
variable {P : Program} {w : World} {K : PySem.W.Frag} {mg : Str → Option Value} {base : Heap}
theorem ok_Course_do (T : Top K mg) {k : Nat} : FnOk P w K mg base CX0 (k + 4) T.Course_do.f T.Course_do.fd ["self", "statement", "place"] (spDo T.Course.C) := by
  have G_value_of : FnOk P w K mg base CX0 3 T.value_of.f T.value_of.fd ["expression", "names"] (spValue 3) := ok_value_of T 3
  have G_Course_halved : FnOk P w K mg base CX0 2 T.Course_halved.f T.Course_halved.fd ["self", "value", "place"] (spHalved T.Course.C) := ok_Course_halved T
  refine T.Course_do.F.ok sc_Course_do (fun vs H Q E h => ?_) (fun cdv A outer s H vs Q E hr h => ?_)
  · obtain ⟨a, r, chs, wk, ways, n, s, v, st, p, rfl, _⟩ := h
    rfl
  obtain ⟨a, r, chs, wk, ways, n, s, v, st, p, rfl, c, rfl, hw, hn, hT, hpl, hok, q⟩ := h
  have hu := hu_of hr
  refine ⟨_, (pss_cons (ps_if (pt_cmpR op_eq (pe_ix (ix_tupK (K := K) rfl) (pv 1) pe_int (fun _ _ => rfl)) pe_str (nomark _)) (pss_one (ps_dputS hu (pe_fldK (K := K) rfl (pv 0)) (pe_ix (ix_tupK (K := K) rfl) (pv 1) pe_int (fun _ _ => rfl)) (pe_call G_value_of (hr.mono (by omega)) (by rfl) T.value_of.g T.value_of.F.kp T.value_of.b .nil pass0 (pa_cons (pe_ix (ix_tupK (K := K) rfl) (pv 1) pe_int (fun _ _ => rfl)) (pa_cons (pe_fldK (K := K) rfl (pv 0)) pa_nil))))) (pss_one (ps_if (pt_cmpR op_eq (pe_ix (ix_tupK (K := K) rfl) (pv 1) pe_int (fun _ _ => rfl)) pe_str (nomark _)) (pss_one (ps_dputS hu (pe_fldK (K := K) rfl (pv 0)) (pe_ix (ix_tupK (K := K) rfl) (pv 1) pe_int (fun _ _ => rfl)) (pe_meth (pv 0) T.Course.cl T.Course_halved.m G_Course_halved (hr.mono (by omega)) T.Course_halved.b .nil pass0 (pa_cons (pe_call G_value_of (hr.mono (by omega)) (by rfl) T.value_of.g T.value_of.F.kp T.value_of.b .nil pass0 (pa_cons (pe_ix (ix_tupK (K := K) rfl) (pv 1) pe_int (fun _ _ => rfl)) (pa_cons (pe_fldK (K := K) rfl (pv 0)) pa_nil))) (pa_cons (pv 2) pa_nil))))) (pss_one (ps_if (pt_cmpR op_eq (pe_ix (ix_tupK (K := K) rfl) (pv 1) pe_int (fun _ _ => rfl)) pe_str (nomark _)) (pss_one (ps_expr (pe_bmK (K := K) rfl PySem.F.plainAttrs_list PySem.F.slot_list_append PySem.F.type_list_append mt_appendA (pe_fldK (K := K) rfl (pv 0)) (pa_cons (pe_call G_value_of (hr.mono (by omega)) (by rfl) T.value_of.g T.value_of.F.kp T.value_of.b .nil pass0 (pa_cons (pe_ix (ix_tupK (K := K) rfl) (pv 1) pe_int (fun _ _ => rfl)) (pa_cons (pe_fldK (K := K) rfl (pv 0)) pa_nil))) pa_nil)))) (pss_one (ps_if (pt_cmpR op_eq (pe_ix (ix_tupK (K := K) rfl) (pv 1) pe_int (fun _ _ => rfl)) pe_str (nomark _)) (pss_one (ps_expr (pe_bmK (K := K) rfl PySem.F.plainAttrs_list PySem.F.slot_list_append PySem.F.type_list_append mt_appendA (pe_fldK (K := K) rfl (pv 0)) (pa_cons (pe_ix (ix_tupK (K := K) rfl) (pv 1) pe_int (fun _ _ => rfl)) pa_nil)))) (pss_one (ps_ret (pe_ix (ix_tupK (K := K) rfl) (pv 1) pe_int (fun _ _ => rfl)))))))))))
      (pss_one (ps_ret pe_non))), ?_⟩
  have cl := T.Course.cl
  have n1 := T.n_Course_names
  have n2 := T.n_Course_said
  have ob := c.ob
  have sa := c.sa
  obtain ⟨kvs, nm, er, lk⟩ := c.nm
  cases st with
  | ite t y m => exact absurd hpl id
  | rep j b => exact absurd hpl id
  | set x e =>
    obtain ⟨u, x1, x2, x3, rfl, h1, t1, t2, t3⟩ := tr_tup3 hT
    cases tr_str t1
    cases tr_str t2
    obtain ⟨⟨o1, o2⟩, _⟩ := (show (e.ok ∧ e.deep ≤ 3) ∧ NmOk x by simpa only [Sm.ok] using hok)
    have hz : kvs.length < sizeLine := sz_lt (by omega)
    walk_at "go"
    intro H1 e1
    obtain ⟨c1, k1⟩ := c.put nm er lk e1
    exact q H1 (c1.mono (by omega)) k1
  | half x e =>
    obtain ⟨u, x1, x2, x3, rfl, h1, t1, t2, t3⟩ := tr_tup3 hT
    cases tr_str t1
    cases tr_str t2
    obtain ⟨⟨o1, o2⟩, _⟩ := (show (e.ok ∧ e.deep ≤ 3) ∧ NmOk x by simpa only [Sm.ok] using hok)
    have hn1 : n < 1000000 := by omega
    walk_at "go"
    intro H1 c1 k1
    obtain ⟨kvs1, nm1, er1, lk1⟩ := c1.nm
    have ob1 := c1.ob
    have hz : kvs1.length < sizeLine := sz_lt (by omega)
    have h11 := k1.tup _ _ h1
    walk_at "go"
    intro H2 e2
    obtain ⟨c2, k2⟩ := c1.put nm1 er1 lk1 e2
    have ee : (halv (decC chs) ways s (e.ev s.env) p).2.env = s.env := by
      unfold halv
      split
      · rfl
      · split <;> rfl
    rw [ee] at c2
    exact q H2 c2 (k1.trans k2)
  | tell e =>
    obtain ⟨u, x1, x2, rfl, h1, t1, t2⟩ := tr_tup2 hT
    cases tr_str t1
    obtain ⟨o1, o2⟩ := (show e.ok ∧ e.deep ≤ 3 by simpa only [Sm.ok] using hok)
    have hz : (s.said.map kV).length < sizeLine := by rw [List.length_map]; exact sz_lt (by have := c.ls; omega)
    walk_at "go"
    intro H1 g1 k1
    obtain ⟨c1, k2⟩ := c.say (v := Sum.inl (e.ev s.env)) g1 k1
    exact q H1 (c1.mono (by omega)) k2
  | say y =>
    obtain ⟨u, x1, x2, rfl, h1, t1, t2⟩ := tr_tup2 hT
    cases tr_str t1
    cases tr_str t2
    have hz : (s.said.map kV).length < sizeLine := by rw [List.length_map]; exact sz_lt (by have := c.ls; omega)
    walk_at "go"
    intro H1 g1 k1
    obtain ⟨c1, k2⟩ := c.say (v := Sum.inr y) g1 k1
    exact q H1 (c1.mono (by omega)) k2
  | stop y =>
    obtain ⟨u, x1, x2, rfl, h1, t1, t2⟩ := tr_tup2 hT
    cases tr_str t1
    cases tr_str t2
    walk_at "go"
    exact q H (c.mono (by omega)) Kp.refl
end
end EH
namespace EH
open PySem L2
local macro_rules | `(tactic| walk_at "sd") => `(tactic| first | assumption | ((with_reducible show (_ : Int) ≤ _); omega) | ((with_reducible show (_ : Int) < _); omega) | rfl | exact SqL.of (by assumption) | exact SqT.of (by assumption) | exact atI_nat (j := 0) rfl | exact atI_nat (j := 1) rfl | exact atI_nat (j := 2) rfl | exact atI_nat (j := 3) rfl | exact sz_lit rfl | exact lt_lit rfl | exact pos_lit rfl | exact le_lit rfl | exact Or.inl (SqL.of (by assumption)) | exact ⟨_, SqL.of (by assumption)⟩ | exact ⟨_, SqT.of (by assumption)⟩ | exact Or.inr (SqT.of (by assumption)) | exact ClsV.ty _ | exact TyX.base (TyOf.int _) | exact TyX.base (TyOf.str _) | exact TyX.base (TyOf.tup (by assumption)) | exact kit_ty isi_ss | exact kit_ty isi_is | exact kit_ty isi_ts | exact kit_ty isi_si | exact kit_ty isi_ii | exact kit_ty isi_ti | exact kit_ty isi_st | exact kit_ty isi_it | exact kit_ty isi_tt | exact Or.inl ⟨_, Or.inl (by assumption)⟩ | exact DGet.k (k := Sum.inr _) (by assumption) | exact DGet.k (k := Sum.inl _) (by assumption) | (refine cpow_of ?_; decide) | (refine cmul_of ?_; decide) | (show (_ : Int) ≠ 0; first | decide | omega) | (refine cdivn_of ?_; decide) | exact Or.inl ⟨rfl, _, SqL.of (by assumption)⟩ | omega)
local macro_rules | `(tactic| walk_at "st") => `(tactic| first | (apply Exists.intro) | (refine And.intro ?_ ?_; focus (walk_at "sd")) | (apply Or.inl; apply Exists.intro; refine And.intro ?_ ?_; focus rfl) | (apply Or.inr; apply Exists.intro; refine And.intro ?_ ?_; focus rfl))
local macro_rules | `(tactic| walk_at "go") => `(tactic| repeat (walk_at "st"))
section
variable {P : Program} {w : World} {K : PySem.W.Frag} {mg : Str → Option Value} {base : Heap}
theorem ok_Course_parts (T : Top K mg) (m : Nat) : FnOk P w K mg base CX0 (m + 7) T.Course_parts.f T.Course_parts.fd ["self", "statement", "place"] (spParts T.Course.C m) := by
  have G_is_true : FnOk P w K mg base CX0 6 T.is_true.f T.is_true.fd ["test", "names"] (spTrue 2) := ok_is_true T 2
  have G_places_in : FnOk P w K mg base CX0 (m + 2) T.places_in.f T.places_in.fd ["statement"] (spPlaces m) := ok_places_in T m
  refine T.Course_parts.F.ok sc_Course_parts (fun vs H Q E h => ?_) (fun cdv A outer s H vs Q E hr h => ?_)
  · obtain ⟨a, r, chs, wk, n, s, v, st, p, rfl, _⟩ := h
    rfl
  obtain ⟨a, r, chs, wk, n, s, v, st, p, rfl, c, hT, hpl, hok, hp, hm, q⟩ := h
  refine ⟨_, (pss_cons (ps_if (pt_cmpR op_eq (pe_ix (ix_tupK (K := K) rfl) (pv 1) pe_int (fun _ _ => rfl)) pe_str (nomark _)) (pss_one (ps_ret (pe_op op_repL (pe_lstA (pa_cons (pe_tupA (pa_cons (pe_ix (ix_tupK (K := K) rfl) (pv 1) pe_int (fun _ _ => rfl)) (pa_cons (pe_op op_add (pv 2) pe_int) pa_nil))) pa_nil)) (pe_ix (ix_tupK (K := K) rfl) (pv 1) pe_int (fun _ _ => rfl))))) pss_nil)
      (pss_cons (ps_if (pt_val (pe_call G_is_true (hr.mono (by omega)) (by rfl) T.is_true.g T.is_true.F.kp T.is_true.b .nil pass0 (pa_cons (pe_ix (ix_tupK (K := K) rfl) (pv 1) pe_int (fun _ _ => rfl)) (pa_cons (pe_fldK (K := K) rfl (pv 0)) pa_nil)))) (pss_one (ps_ret (pe_lstA (pa_cons (pe_tupA (pa_cons (pe_ix (ix_tupK (K := K) rfl) (pv 1) pe_int (fun _ _ => rfl)) (pa_cons (pe_op op_add (pv 2) pe_int) pa_nil))) pa_nil)))) pss_nil)
      (pss_one (ps_ret (pe_lstA (pa_cons (pe_tupA (pa_cons (pe_ix (ix_tupK (K := K) rfl) (pv 1) pe_int (fun _ _ => rfl)) (pa_cons (pe_op op_add (pe_op op_add (pv 2) pe_int) (pe_callB (id := "sum") (cr_sumK (K := K) rfl (by rfl)) (by rfl) T.sum (by decide +kernel) (pa_cons (pe_lc (own := [("item", 3)]) (by rfl) sc_Course_parts.nd (pi_tupK (K := K) rfl (pe_ix (ix_tupK (K := K) rfl) (pv 1) pe_int (fun _ _ => rfl))) (blkOk_by (N := ["self", "statement", "place", "item"]) (sc := defScope s_Course_parts) (own := [("item", 3)]) (by decide +kernel)) (fun _ _ _ _ _ => (pg_name (i := 3) sc_Course_parts.nd rfl (.inl rfl))) (fun _ _ _ _ _ => pts_nil) (fun _ _ _ _ _ => (pe_call G_places_in (hr.mono (by omega)) (by rfl) T.places_in.g T.places_in.F.kp T.places_in.b .nil pass0 (pa_cons (pv 3) pa_nil)))) pa_nil))) pa_nil))) pa_nil)))))), ?_⟩
  have cl := T.Course.cl
  have n1 := T.n_Course_names
  have ob := c.ob
  obtain ⟨kvs, nm, er, lk⟩ := c.nm
  cases st with
  | set x e => exact absurd trivial hpl
  | half x e => exact absurd trivial hpl
  | tell e => exact absurd trivial hpl
  | say e => exact absurd trivial hpl
  | stop e => exact absurd trivial hpl
  | rep k b =>
    obtain ⟨u, x1, x2, x3, rfl, h1, t1, t2, t3⟩ := tr_tup3 hT
    cases tr_str t1
    cases tr_int t2
    obtain ⟨o1, o2⟩ := (show k ≤ 8 ∧ Sm.oks b by simpa only [Sm.ok] using hok)
    walk_at "go"
    intro r1 H1 hr1 e1
    have k1 := new_kp hr1 e1
    have a1 := new_at e1
    walk_at "go"
    intro r2 H2 hr2 e2
    have k2 := new_kp hr2 e2
    have a2 := new_at e2
    have h12 := k2.at (k1.at h1)
    have z1 : (0 : Int) ≤ (k : Int) := by omega
    have z2 : (k : Int) ≤ 1000000 := by omega
    have z3 : [V.ref r1].length * ((k : Int)).toNat ≤ 1000000 := by
      show 1 * ((k : Int)).toNat ≤ 1000000
      omega
    walk_at "go"
    intro r3 H3 hr3 a3 k3
    refine q r3 _ H3 ((k1.step0 k2).free hr3 (by simp)) a3 ?_ ((k1.step0 k2).step0 k3)
    rw [Int.toNat_natCast, flat_rep]
    show TrAll H3 (List.map partD (List.replicate k (b, p + 1))) _
    have tp : Tr H3 (partD (b, p + 1)) (.ref r1) := mk_tup (k3.at (k2.at a1)) (trs_cons (k3.tr (k2.tr (k1.tr t3))) (trs_cons mk_int trs_nil))
    rw [List.map_replicate]
    exact trs_rep tp k
  | ite t y m1 =>
    obtain ⟨u, x1, x2, x3, x4, rfl, h1, t1, t2, t3, t4⟩ := tr_tup4 hT
    cases tr_str t1
    obtain ⟨o1, o2, o3, o4⟩ := (show t.ok ∧ t.nots ≤ 2 ∧ Sm.oks y ∧ Sm.oks m1 by simpa only [Sm.ok] using hok)
    walk_at "go"
    refine ite2 (fun hc => ?_) (fun hc => ?_)
    · have ep : partsOf s.env p (.ite t y m1) = [(y, p + 1)] := by rw [partsOf, if_pos hc]
      rw [ep] at q
      walk_at "go"
      intro r1 H1 hr1 e1
      have k1 := new_kp hr1 e1
      have a1 := new_at e1
      walk_at "go"
      intro r2 H2 hr2 e2
      have k2 := new_kp hr2 e2
      exact q r2 _ H2 (k1.free hr2 (by simp)) (new_at e2) (trs_cons (mk_tup (k2.at a1) (trs_cons (k2.tr (k1.tr t3)) (trs_cons mk_int trs_nil))) trs_nil) (k1.step0 k2)
    · have ep : partsOf s.env p (.ite t y m1) = [(m1, p + 1 + (Sm.pls y : Int))] := by rw [partsOf, if_neg hc]
      rw [ep] at q
      obtain ⟨ya, ys, rfl, hya, tya⟩ := tr_tup t3
      rw [Sm.ds_map] at tya
      have ly : ys.length = y.length := by rw [tya.length, List.length_map]
      have ll := Sm.len_pls y
      have mb : y ∈ (Sm.ite t y m1).blks := by simp [Sm.blks]
      have b1 := Sm.blk_nest mb
      have b2 := Sm.blk_pls mb
      walk_at "go"
      intro D hD
      refine lc_tup (K := K) (a := ya) (xs := ys) (fun j H3 => Kp [D] H H3 ∧ H3 D = some (.lst ((y.take j).map fun t => V.int (Sm.pl t : Int)))) ⟨(Kp.new hD).sub (by simp), upd_same⟩ ?_ ?_ ?_
      · rintro j H3 _ ⟨k3, _⟩
        exact SqT.of (k3.tup _ _ hya)
      · rintro j z H3 hy ⟨k3, d3⟩
        have hj : j < y.length := by
          have := (List.getElem?_eq_some_iff.mp hy).1
          omega
        have et : y[j]? = some y[j] := List.getElem?_eq_getElem hj
        have mt : y[j] ∈ y := List.getElem_mem hj
        generalize y[j] = st at et mt
        have m1 := Sm.nest_mem mt
        have m2 := Sm.pl_mem mt
        obtain ⟨z', hz', tz⟩ := TrAll.get (i := j) tya (by rw [List.getElem?_map, et]; rfl)
        rw [hy] at hz'
        cases hz'
        have tz3 := k3.tr tz
        have hz2 : ((y.take j).map fun t => V.int (Sm.pl t : Int)).length < sizeLine := by
          rw [List.length_map, List.length_take]
          exact sz_lt (by omega)
        walk_at "go"
        intro H4 k4
        have d4 := k4.at d3
        walk_at "go"
        refine ⟨(k3.step0 k4).step1 (Kp.put d4 (fun _ z => by cases z)) (.inl (by simp)), ?_⟩
        rw [upd_same, List.take_add_one, et, List.map_append]
        rfl
      · rintro H3 ⟨k3, d3⟩
        rw [ly, List.take_length] at d3
        have d3' : H3 D = some (.lst ((y.map fun t => (Sm.pl t : Int)).map V.int)) := by
          rw [d3, List.map_map]
          rfl
        have es : (y.map fun t => (Sm.pl t : Int)).sum = (Sm.pls y : Int) := pls_sum y
        have k3' : Kp [] H H3 := Kp.refl.step1 k3 (.inr hD)
        walk_at "go"
        rw [es]
        intro r1 H4 hr1 e1
        have k4 := new_kp hr1 e1
        have a4 := new_at e1
        walk_at "go"
        intro r2 H5 hr2 e2
        have k5 := new_kp hr2 e2
        exact q r2 _ H5 ((k3'.step0 k4).free hr2 (by simp)) (new_at e2) (trs_cons (mk_tup (k5.at a4) (trs_cons (k5.tr (k4.tr (k3'.tr t4))) (trs_cons mk_int trs_nil))) trs_nil) ((k3'.step0 k4).step0 k5)
end
end EH
namespace EH
open PySem L2
local macro_rules | `(tactic| walk_at "sd") => `(tactic| first | assumption | ((with_reducible show (_ : Int) ≤ _); omega) | ((with_reducible show (_ : Int) < _); omega) | rfl | exact SqL.of (by assumption) | exact SqT.of (by assumption) | exact atI_nat (j := 0) rfl | exact atI_nat (j := 1) rfl | exact atI_nat (j := 2) rfl | exact atI_nat (j := 3) rfl | exact sz_lit rfl | exact lt_lit rfl | exact pos_lit rfl | exact le_lit rfl | exact Or.inl (SqL.of (by assumption)) | exact ⟨_, SqL.of (by assumption)⟩ | exact ⟨_, SqT.of (by assumption)⟩ | exact Or.inr (SqT.of (by assumption)) | exact ClsV.ty _ | exact TyX.base (TyOf.int _) | exact TyX.base (TyOf.str _) | exact TyX.base (TyOf.tup (by assumption)) | exact kit_ty isi_ss | exact kit_ty isi_is | exact kit_ty isi_ts | exact kit_ty isi_si | exact kit_ty isi_ii | exact kit_ty isi_ti | exact kit_ty isi_st | exact kit_ty isi_it | exact kit_ty isi_tt | exact Or.inl ⟨_, Or.inl (by assumption)⟩ | exact DGet.k (k := Sum.inr _) (by assumption) | exact DGet.k (k := Sum.inl _) (by assumption) | (refine cpow_of ?_; decide) | (refine cmul_of ?_; decide) | (show (_ : Int) ≠ 0; first | decide | omega) | (refine cdivn_of ?_; decide) | exact Or.inl ⟨rfl, _, SqL.of (by assumption)⟩ | omega)
local macro_rules | `(tactic| walk_at "st") => `(tactic| first | (apply Exists.intro) | (refine And.intro ?_ ?_; focus (walk_at "sd")) | (apply Or.inl; apply Exists.intro; refine And.intro ?_ ?_; focus rfl) | (apply Or.inr; apply Exists.intro; refine And.intro ?_ ?_; focus rfl))
local macro_rules | `(tactic| walk_at "go") => `(tactic| repeat (walk_at "st"))
section
variable {P : Program} {w : World} {K : PySem.W.Frag} {mg : Str → Option Value} {base : Heap}
theorem ok_Course_go (T : Top K mg) : ∀ m : Nat, FnOk P w K mg base CX0 (m + 8) T.Course_go.f T.Course_go.fd ["self", "block", "place"] (spGo T.Course.C m)
  | m => by
    have G_Course_parts : FnOk P w K mg base CX0 (m + 7) T.Course_parts.f T.Course_parts.fd ["self", "statement", "place"] (spParts T.Course.C m) := ok_Course_parts T m
    have G_Course_do : FnOk P w K mg base CX0 4 T.Course_do.f T.Course_do.fd ["self", "statement", "place"] (spDo T.Course.C) := ok_Course_do T
    have G_places_in : FnOk P w K mg base CX0 (m + 2) T.places_in.f T.places_in.fd ["statement"] (spPlaces m) := ok_places_in T m
    have G_Course_go : FnOk P w K mg base CX0 (m + 7) T.Course_go.f T.Course_go.fd ["self", "block", "place"] (sp0 (spGo T.Course.C) m) := by
      cases m with
      | zero => exact fn_no fun _ _ _ _ h => h
      | succ j => exact ok_Course_go T j
    refine T.Course_go.F.ok sc_Course_go (fun vs H Q E h => ?_) (fun cdv A outer s H vs Q E hr h => ?_)
    · obtain ⟨a, r, chs, wk, ways, n, s, v, b, p, rfl, _⟩ := h
      rfl
    obtain ⟨a, r, chs, wk, ways, n, s, v, b, p, rfl, c, rfl, hw, hn, hT, hok, hp, hm, q⟩ := h
    refine ⟨_, (pss_cons (ps_forA (ps_for PassesOwn.never rfl (pi_tupK (K := K) rfl (pv 1)) (pg_name (i := 3) sc_Course_go.nd rfl (.inl rfl)) (pss_cons (ps_set (i := 4) sc_Course_go.nd rfl (.inl rfl) pe_non)
      (pss_cutA (ps_if (pt_cmpR (op_in_seqK (K := K) rfl) (pe_ix (ix_tupK (K := K) rfl) (pv 3) pe_int (fun _ _ => rfl)) (pe_tupA (pa_cons pe_str (pa_cons pe_str pa_nil))) (by rfl)) (pss_one (ps_forA (ps_for PassesOwn.never rfl (pi_listK (K := K) rfl (pe_meth (pv 0) T.Course.cl T.Course_parts.m G_Course_parts (hr.mono (by omega)) T.Course_parts.b .nil pass0 (pa_cons (pv 3) (pa_cons (pv 2) pa_nil)))) (pg_tup (by rfl) (pgs_cons (pg_name (i := 5) sc_Course_go.nd rfl (.inl rfl)) (pgs_cons (pg_name (i := 6) sc_Course_go.nd rfl (.inl rfl)) pgs_nil))) (pss_one (ps_if (pt_cmpR op_isN (pv 4) pe_non (nomark _)) (pss_one (ps_set (i := 4) sc_Course_go.nd rfl (.inl rfl) (pe_meth (pv 0) T.Course.cl T.Course_go.m G_Course_go (hr.mono (by omega)) T.Course_go.b .nil pass0 (pa_cons (pv 5) (pa_cons (pv 6) pa_nil))))) pss_nil))))) (pss_one (ps_set (i := 4) sc_Course_go.nd rfl (.inl rfl) (pe_meth (pv 0) T.Course.cl T.Course_do.m G_Course_do (hr.mono (by omega)) T.Course_do.b .nil pass0 (pa_cons (pv 3) (pa_cons (pv 2) pa_nil))))))
      (pss_cons (ps_if (pt_cmpR op_notN (pv 4) pe_non (nomark _)) (pss_one (ps_ret (pv 4))) pss_nil)
      (pss_one (ps_aug (i := 2) sc_Course_go.nd rfl (.inl rfl) (pe_call G_places_in (hr.mono (by omega)) (by rfl) T.places_in.g T.places_in.F.kp T.places_in.b .nil pass0 (pa_cons (pv 3) pa_nil)) ip_add)))))))
      (pss_one (ps_ret pe_non))), ?_⟩
    have cl := T.Course.cl
    obtain ⟨ba, bv, rfl, hb, tb⟩ := tr_tup hT
    rw [Sm.ds_map] at tb
    have lb : bv.length = b.length := by rw [tb.length, List.length_map]
    walk_at "go"
    refine ⟨for_tup (K := K) (a := ba) (xs := bv) (fun i σ H1 => Lp (∃ (s1 : Cs) (n1 : Nat) (p1 : Int) (w3 w4 w5 w6 : Option V), σ = [some (.ref a.x), some (.ref ba), some (.int p1), w3, w4, w5, w6] ∧ CAt T.Course.C H1 a .non chs wk n1 s1 ∧
      n1 + 2 * Sm.wts (b.drop i) ≤ n + 2 * Sm.wts b ∧ Sm.runs (decC chs) ways (b.drop i) p1 s1 = Sm.runs (decC chs) ways b p s ∧ Kp [a.nd, a.sd, a.td] H H1)) ⟨s, n, p, none, none, none, none, rfl, c, by simp, by simp, Kp.refl⟩ ?_ ?_ ?_⟩
    · rintro i σ H1 _ ⟨⟨s1, n1, p1, w3, w4, w5, w6, rfl, c1, hn1, e1, k1⟩⟩
      exact SqT.of (k1.tup _ _ hb)
    · rintro i x σ H1 hx ⟨⟨s1, n1, p1, w3, w4, w5, w6, rfl, c1, hn1, e1, k1⟩⟩
      have hi : i < b.length := by
        have := (List.getElem?_eq_some_iff.mp hx).1
        omega
      have et : b[i]? = some b[i] := List.getElem?_eq_getElem hi
      have mt : b[i] ∈ b := List.getElem_mem hi
      rw [List.drop_eq_getElem_cons hi] at hn1 e1
      generalize b[i] = t at et mt hn1 e1
      simp only [Sm.wts] at hn1
      obtain ⟨x', hx', tx⟩ := TrAll.get (i := i) tb (by rw [List.getElem?_map, et]; rfl)
      rw [hx] at hx'
      cases hx'
      have ok1 := oks_mem hok mt
      have nt := Sm.nest_mem mt
      have pt := Sm.pl_mem mt
      have wt := t.wt_pos
      have tx1 := k1.tr tx
      obtain ⟨u, rest, rfl, hu1⟩ := Sm.head tx1
      refine ⟨⟨fun σ2 H2 => Lp (∃ (n2 : Nat) (w5 w6 : Option V), σ2 = [some (.ref a.x), some (.ref ba), some (.int p1), some (.ref u), some (wV (t.run (decC chs) ways p1 s1).1), w5, w6] ∧ CAt T.Course.C H2 a .non chs wk n2 (t.run (decC chs) ways p1 s1).2 ∧
        n2 ≤ n1 + 2 * t.wt ∧ Kp [a.nd, a.sd, a.td] H1 H2), ?_, ?_⟩⟩
      · walk_at "go"
        intro tp H2 htp e2
        have k2 := new_kp htp e2
        have a2 := new_at e2
        have c2 := c1.kp0 k2
        have ob2 := c2.ob
        have tx2 := k2.tr tx1
        have fl : ([.str "if", .str "repeat"] : List V).all flatV = true := by decide +kernel
        refine ⟨tp, _, rfl, .inr (SqT.of a2), rfl, fl, _, rfl, ?_⟩
        rcases t.kw_in with ⟨hin, hpl⟩ | ⟨hin, hpl⟩
        · show if inV (.str t.kw) [.str "if", .str "repeat"] = true then _ else _
          rw [hin]
          refine iteT ?_
          have hn0 := Sm.nests_pos hpl
          have hm1 : t.nest ≤ m := by omega
          have hp1 : t.pl ≤ 1000000 := by omega
          walk_at "go"
          intro l ts H3 hl3 g3 tt k3
          have lt : ts.length = (partsOf s1.env p1 t).length := by rw [tt.length, List.length_map]
          have c3 := c2.kp0 k3
          have er := run_parts (decC chs) ways hpl p1 s1
          have hws := parts_wt (env := s1.env) (p := p1) (st := t)
          have noff : l ∉ [a.nd, a.sd, a.td] := by
            obtain ⟨kvs, g1, _⟩ := c2.nm
            simp [(ne_of_none g1 hl3).symm, (ne_of_none c2.sa hl3).symm, (ne_of_none c2.tu hl3).symm]
          refine ⟨l, rfl, ⟨_, SqL.of g3⟩, ⟨for_list (K := K) (a := l) (xs := ts) (fun j σ H4 => Lp (∃ (wr : Option Str × Cs) (n4 : Nat) (w5 w6 : Option V), σ = [some (.ref a.x), some (.ref ba), some (.int p1), some (.ref u), some (wV wr.1), w5, w6] ∧
            CAt T.Course.C H4 a .non chs wk n4 wr.2 ∧ n4 + 2 * wsum ((partsOf s1.env p1 t).drop j) ≤ n1 + 2 * wsum (partsOf s1.env p1 t) ∧
            foldP (decC chs) ways ((partsOf s1.env p1 t).drop j) wr = foldP (decC chs) ways (partsOf s1.env p1 t) (none, s1) ∧ Kp [a.nd, a.sd, a.td] H3 H4)) ⟨(none, s1), n1, _, _, rfl, c3, by simp, by simp, Kp.refl⟩ ?_ ?_ ?_⟩⟩
          · rintro j σ H4 _ ⟨⟨wr, n4, w5, w6, rfl, c4, hn4, e4, k4⟩⟩
            exact SqL.of (k4.keep _ _ g3 noff)
          · rintro j y σ H4 hy ⟨⟨wr, n4, w5, w6, rfl, c4, hn4, e4, k4⟩⟩
            have hj : j < (partsOf s1.env p1 t).length := by
              have := (List.getElem?_eq_some_iff.mp hy).1
              omega
            have ep : (partsOf s1.env p1 t)[j]? = some (partsOf s1.env p1 t)[j] := List.getElem?_eq_getElem hj
            have mp : (partsOf s1.env p1 t)[j] ∈ partsOf s1.env p1 t := List.getElem_mem hj
            rw [List.drop_eq_getElem_cons hj] at hn4 e4
            generalize (partsOf s1.env p1 t)[j] = pq at ep mp hn4 e4
            have mb := parts_mem mp
            have b1 := Sm.blk_nest mb
            have b2 := Sm.blk_pls mb
            have b3 := ok_blk ok1 mb
            obtain ⟨y', hy', ty⟩ := TrAll.get (i := j) tt (by rw [List.getElem?_map, ep]; rfl)
            rw [hy] at hy'
            cases hy'
            obtain ⟨z, z1, z2, rfl, hz, tz1, tz2⟩ := tr_tup2 (k4.tr ty)
            cases tr_int tz2
            obtain ⟨wo, ws⟩ := wr
            have hws4 : n4 + 2 * (Sm.wts pq.1 + wsum ((partsOf s1.env p1 t).drop (j + 1))) ≤ n1 + 2 * wsum (partsOf s1.env p1 t) := hn4
            have ob4 := c4.ob
            cases wo with
            | some cc =>
              walk_at "go"
              exact ⟨(some cc, ws), n4, _, _, rfl, c4, by omega, e4, k4⟩
            | none =>
              have hb4 : n4 + 2 * Sm.wts pq.1 ≤ 1000000 := by
                have : wsum (partsOf s1.env p1 t) + 1 ≤ t.wt := hws
                omega
              have hp4 : Sm.pls pq.1 ≤ 1000000 := by omega
              obtain ⟨m', rfl⟩ : ∃ m', m = m' + 1 := ⟨m - 1, by omega⟩
              have hm4 : Sm.nests pq.1 ≤ m' := by omega
              walk_at "go"
              intro H5 c5 k5
              exact ⟨Sm.runs (decC chs) ways pq.1 pq.2 ws, n4 + 2 * Sm.wts pq.1, _, _, rfl, c5, by omega, e4, k4.trans k5⟩
          · rintro σ H4 ⟨⟨wr, n4, w5, w6, rfl, c4, hn4, e4, k4⟩⟩
            rw [lt, List.drop_length] at hn4 e4
            have e5 : wr = t.run (decC chs) ways p1 s1 := by
              rw [er]
              exact e4
            subst e5
            have hws2 : wsum (partsOf s1.env p1 t) + 1 ≤ t.wt := hws
            exact ⟨n4, _, _, rfl, c4, by omega, ((k2.step0 k3).sub (by simp)).trans k4⟩
        · show if inV (.str t.kw) [.str "if", .str "repeat"] = true then _ else _
          rw [hin]
          refine iteF ?_
          have hn2 : n1 + 2 ≤ 1000000 := by omega
          walk_at "go"
          intro H3 c3 k3
          exact ⟨n1 + 2, _, _, rfl, c3, by omega, (k2.sub (by simp)).trans k3⟩
      · rintro σ2 H2 ⟨⟨n2, w5', w6', rfl, c2, hn2, k2⟩⟩
        have tx2 := k2.tr tx1
        cases er : t.run (decC chs) ways p1 s1 with
        | mk o s2 =>
          rw [er] at c2
          cases o with
          | none =>
            have e2 : Sm.runs (decC chs) ways (b.drop (i + 1)) (p1 + (t.pl : Int)) s2 = Sm.runs (decC chs) ways b p s := by
              rw [← e1, Sm.runs, er]
            have hp1 : t.pl ≤ 1000000 := by omega
            have hm1 : t.nest ≤ m := by omega
            walk_at "go"
            intro H3 k3
            walk_at "go"
            exact ⟨s2, n2, p1 + (t.pl : Int), _, _, _, _, rfl, c2.kp0 k3, by omega, e2, (k1.trans k2).step0 k3⟩
          | some y =>
            have e2 : Sm.runs (decC chs) ways b p s = (some y, s2) := by
              rw [← e1, Sm.runs, er]
            rw [e2] at q
            walk_at "go"
            exact q H2 (c2.mono (by omega)) (k1.trans k2)
    · rintro σ H1 ⟨⟨s1, n1, p1, w3, w4, w5, w6, rfl, c1, hn1, e1, k1⟩⟩
      rw [lb, List.drop_length] at hn1 e1
      rw [← e1] at q
      exact q H1 (c1.mono (by simp only [Sm.wts] at hn1; omega)) k1
end
end EH
namespace EH
open PySem L2
local macro_rules | `(tactic| walk_at "sd") => `(tactic| first | assumption | ((with_reducible show (_ : Int) ≤ _); omega) | ((with_reducible show (_ : Int) < _); omega) | rfl | exact SqL.of (by assumption) | exact SqT.of (by assumption) | exact atI_nat (j := 0) rfl | exact atI_nat (j := 1) rfl | exact atI_nat (j := 2) rfl | exact atI_nat (j := 3) rfl | exact sz_lit rfl | exact lt_lit rfl | exact pos_lit rfl | exact le_lit rfl | exact Or.inl (SqL.of (by assumption)) | exact ⟨_, SqL.of (by assumption)⟩ | exact ⟨_, SqT.of (by assumption)⟩ | exact Or.inr (SqT.of (by assumption)) | exact ClsV.ty _ | exact TyX.base (TyOf.int _) | exact TyX.base (TyOf.str _) | exact TyX.base (TyOf.tup (by assumption)) | exact kit_ty isi_ss | exact kit_ty isi_is | exact kit_ty isi_ts | exact kit_ty isi_si | exact kit_ty isi_ii | exact kit_ty isi_ti | exact kit_ty isi_st | exact kit_ty isi_it | exact kit_ty isi_tt | exact Or.inl ⟨_, Or.inl (by assumption)⟩ | exact DGet.k (k := Sum.inr _) (by assumption) | exact DGet.k (k := Sum.inl _) (by assumption) | (refine cpow_of ?_; decide) | (refine cmul_of ?_; decide) | (show (_ : Int) ≠ 0; first | decide | omega) | (refine cdivn_of ?_; decide) | exact Or.inl ⟨rfl, _, SqL.of (by assumption)⟩ | omega)
local macro_rules | `(tactic| walk_at "st") => `(tactic| first | (apply Exists.intro) | (refine And.intro ?_ ?_; focus (walk_at "sd")) | (apply Or.inl; apply Exists.intro; refine And.intro ?_ ?_; focus rfl) | (apply Or.inr; apply Exists.intro; refine And.intro ?_ ?_; focus rfl))
local macro_rules | `(tactic| walk_at "go") => `(tactic| repeat (walk_at "st"))
section
variable {P : Program} {w : World} {K : PySem.W.Frag} {mg : Str → Option Value} {base : Heap}
theorem ok_Course_init (T : Top K mg) {k : Nat} : FnOk P w K mg base CX0 (k + 1) T.Course_init.f T.Course_init.fd ["self", "number", "choices", "ways", "rule"] (spInit T.Course.C) := by
  refine T.Course_init.F.ok sc_Course_init (fun vs H Q E h => ?_) (fun cdv A outer s H vs Q E hr h => ?_)
  · obtain ⟨x, dx, cd, wd, num, r, chs, wk, rfl, _⟩ := h
    rfl
  obtain ⟨x, dx, cd, wd, num, r, chs, wk, rfl, hx, hc, hd, lc, q⟩ := h
  refine ⟨_, (pss_cons (ps_fldA (K := K) rfl (pv 0) (pe_disp (pps_cons (pe_glob (v := .str "n") (by rfl) T.g_INPUT ⟨_, rfl⟩) (pv 1) pps_nil) (by rfl) (by rfl) (fun z => by cases z) (by decide)))
      (pss_cons (ps_fldA (K := K) rfl (pv 0) (pe_lstA pa_nil))
      (pss_cons (ps_fldA (K := K) rfl (pv 0) (pe_lstA pa_nil))
      (pss_cons (ps_fldA (K := K) rfl (pv 0) (pv 2))
      (pss_cons (ps_fldA (K := K) rfl (pv 0) (pv 3))
      (pss_one (ps_fldA (K := K) rfl (pv 0) (pv 4)))))))), ?_⟩
  have cl := T.Course.cl
  have n1 := T.n_Course_names
  have n2 := T.n_Course_said
  have n3 := T.n_Course_turns
  have n4 := T.n_Course_choices
  have n5 := T.n_Course_ways
  have n6 := T.n_Course_rule
  walk_at "go"
  intro nd hnd
  walk_at "go"
  refine ⟨upd_same, [(Sum.inr "n", .int num)], rfl, by show 1 ≤ 15; decide, ?_⟩
  have a1 : (upd (upd H nd (.dK [])) nd (.dK (mergeK [] [(Sum.inr "n", .int num)]))) nd = some (.dK [(Sum.inr "n", .int num)]) := by
    rw [upd_same]
    rfl
  have k1 : Kp [] H (upd (upd H nd (.dK [])) nd (.dK (mergeK [] [(Sum.inr "n", .int num)]))) := (Kp.new hnd).step1 (Kp.put upd_same (fun _ z => by cases z)) (.inr hnd)
  generalize upd (upd H nd (.dK [])) nd (.dK (mergeK [] [(Sum.inr "n", V.int num)])) = H1 at a1 k1 ⊢
  have x1 := k1.at hx
  walk_at "go"
  intro H2 x2 k2
  have nxd : x ≠ nd := ne_of_none hx hnd
  have a2 := k2.keep _ _ a1 (ne1 nxd.symm)
  walk_at "go"
  intro sd H3 hsd e3
  have s3 := new_at e3
  have k3 := new_kp hsd e3
  have x3 := k3.at x2
  have a3 := k3.at a2
  walk_at "go"
  intro H4 x4 k4
  have nxs : x ≠ sd := ne_of_none x2 hsd
  have a4 := k4.keep _ _ a3 (ne1 nxd.symm)
  have s4 := k4.keep _ _ s3 (ne1 nxs.symm)
  walk_at "go"
  intro td H5 htd e5
  have t5 := new_at e5
  have k5 := new_kp htd e5
  have x5 := k5.at x4
  have a5 := k5.at a4
  have s5 := k5.at s4
  walk_at "go"
  intro H6 x6 k6
  have nxt : x ≠ td := ne_of_none x4 htd
  have a6 := k6.keep _ _ a5 (ne1 nxd.symm)
  have s6 := k6.keep _ _ s5 (ne1 nxs.symm)
  have t6 := k6.keep _ _ t5 (ne1 nxt.symm)
  walk_at "go"
  intro H7 x7 k7
  have a7 := k7.keep _ _ a6 (ne1 nxd.symm)
  have s7 := k7.keep _ _ s6 (ne1 nxs.symm)
  have t7 := k7.keep _ _ t6 (ne1 nxt.symm)
  walk_at "go"
  intro H8 x8 k8
  have a8 := k8.keep _ _ a7 (ne1 nxd.symm)
  have s8 := k8.keep _ _ s7 (ne1 nxs.symm)
  have t8 := k8.keep _ _ t7 (ne1 nxt.symm)
  walk_at "go"
  intro H9 x9 k9
  have a9 := k9.keep _ _ a8 (ne1 nxd.symm)
  have s9 := k9.keep _ _ s8 (ne1 nxs.symm)
  have t9 := k9.keep _ _ t8 (ne1 nxt.symm)
  have kx : Kp [x] H H2 := (k1.sub (by simp)).trans k2
  have ky : Kp [x] H H4 := (kx.step0 k3).trans k4
  have ka : Kp [x] H H9 := ((((ky.step0 k5).trans k6).trans k7).trans k8).trans k9
  have nst : sd ≠ td := ne_of_none s4 htd
  have nwd : nd ≠ wd := (ne_of_none hd hnd).symm
  have hw9 := ka.keep _ _ hd (ne1 (ne_of hd hx (fun z => by cases z)))
  have hc9 := ka.tup _ _ hc
  have fsd : H sd = none := kx.free hsd (ne1 nxs.symm)
  have ftd : H td = none := ky.free htd (ne1 nxt.symm)
  refine q ⟨x, dx, nd, sd, td, cd, wd⟩ H9 rfl ⟨x9, ⟨_, a9, ?_, by show 1 ≤ 1; decide⟩, s9, t9, hc9, hw9, Nat.le_refl _, Nat.le_refl _, nwd, nst, lc⟩ ka ?_
  · intro y
    show (valV [((Sum.inr "n" : Key), V.int num)] (Sum.inr y)).getD (.int 0) = .int (env0 num y)
    unfold env0 valV
    by_cases e : y = "n"
    · subst e
      rfl
    · rw [if_neg e, List.find?_cons_of_neg (by simp; intro z; exact e z.symm)]
      rfl
  · intro b hb
    simp only [List.mem_cons, List.not_mem_nil, or_false] at hb
    rcases hb with rfl | rfl | rfl
    · exact hnd
    · exact fsd
    · exact ftd
end
section
variable {P : Program} {w : World} {K : PySem.W.Frag} {mg : Str → Option Value} {base : Heap}
theorem ok_course_of (T : Top K mg) (m : Nat) : FnOk P w K mg base CX0 (m + 9) T.course_of.f T.course_of.fd ["program", "number", "choices", "ways", "rule"] (spCourseOf m) := by
  have G_Course_init : FnOk P w K mg base CX0 1 T.Course_init.f T.Course_init.fd ["self", "number", "choices", "ways", "rule"] (spInit T.Course.C) := ok_Course_init T
  have G_Course_go : FnOk P w K mg base CX0 (m + 8) T.Course_go.f T.Course_go.fd ["self", "block", "place"] (spGo T.Course.C m) := ok_Course_go T m
  refine T.course_of.F.ok sc_course_of (fun vs H Q E h => ?_) (fun cdv A outer s H vs Q E hr h => ?_)
  · obtain ⟨v, b, num, cd, wd, chs, wk, ways, rfl, _⟩ := h
    rfl
  obtain ⟨v, b, num, cd, wd, chs, wk, ways, rfl, hT, hc, hd, hw, lc, hok, hwt, hp, hm, q⟩ := h
  refine ⟨_, (pss_cons (ps_set (i := 5) sc_course_of.nd rfl (.inl rfl) (pe_make T.mk_Course G_Course_init (hr.mono (by omega)) (by rfl) T.Course.g T.Course_init.b .nil pass0 (pa_cons (pv 1) (pa_cons (pv 2) (pa_cons (pv 3) (pa_cons (pv 4) pa_nil))))))
      (pss_cons (ps_set (i := 6) sc_course_of.nd rfl (.inl rfl) (pe_meth (pv 5) T.Course.cl T.Course_go.m G_Course_go (hr.mono (by omega)) T.Course_go.b .nil pass0 (pa_cons (pv 0) (pa_cons pe_int pa_nil))))
      (pss_one (ps_ret (pe_tupA (pa_cons (pe_callTy (T := "tuple") (call_tupleK (K := K) rfl) (by rfl) T.tuple (by decide +kernel) (pa_cons (pe_fldK (K := K) rfl (pv 5)) pa_nil)) (pa_cons (pv 6) (pa_cons (pe_callTy (T := "tuple") (call_tupleK (K := K) rfl) (by rfl) T.tuple (by decide +kernel) (pa_cons (pe_fldK (K := K) rfl (pv 5)) pa_nil)) pa_nil)))))))), ?_⟩
  have cl := T.Course.cl
  have n2 := T.n_Course_said
  have n3 := T.n_Course_turns
  walk_at "go"
  intro x dx hx hdx hne
  have k1 : Kp [] H (upd (upd H dx (.own x)) x (.ins T.Course.C dx [])) := (Kp.new hdx).step0 (Kp.new (by rw [upd_ne hne.symm]; exact hx))
  refine ⟨x, dx, cd, wd, num, .non, chs, wk, rfl, upd_same, k1.tup _ _ hc, k1.at hd, lc, fun a H2 ea c2 k2 fr => ⟨rfl, ?_⟩⟩
  subst ea
  have k3 : Kp [] H H2 := k1.step1 k2 (.inr hx)
  have t2 := k3.tr hT
  have ob2 := c2.ob
  have hz : 0 + 2 * Sm.wts b ≤ 1000000 := by omega
  have hcr : H cd ≠ none := by rw [hc]; exact fun z => nomatch z
  walk_at "go"
  intro H3 c3 k4
  have ob3 := c3.ob
  have sa3 := c3.sa
  have tu3 := c3.tu
  have f1 : ∀ b ∈ [a.nd, a.sd, a.td], H b = none := fun b hb => k1.free (fr b hb) (by simp)
  have k5 : Kp [] H H3 := k3.step k4 (fun b hb => .inr (f1 b hb))
  walk_at "go"
  intro r1 H4 hr1 a4 k6
  have ob4 := k6.at ob3
  have tu4 := k6.at tu3
  walk_at "go"
  intro r2 H5 hr2 a5 k7
  have a45 := k7.at a4
  walk_at "go"
  intro r3 H6 hr3 e6
  have k8 := new_kp hr3 e6
  refine q (.ref r3) H6 ?_ (((k5.step0 k6).step0 k7).step0 k8)
  exact mk_tup (new_at e6) (trs_cons (mk_tup (k8.at a45) (trs_kD _)) (trs_cons (tr_wD _) (trs_cons (mk_tup (k8.at a5) (trs_int _)) trs_nil)))
theorem ok_run_of (T : Top K mg) (m : Nat) : FnOk P w K mg base CX0 (m + 10) T.run_of.f T.run_of.fd ["program", "number", "choices", "ways"] (spRunOf m) := by
  have G_course_of : FnOk P w K mg base CX0 (m + 9) T.course_of.f T.course_of.fd ["program", "number", "choices", "ways", "rule"] (spCourseOf m) := ok_course_of T m
  refine T.run_of.F.ok sc_run_of (fun vs H Q E h => ?_) (fun cdv A outer s H vs Q E hr h => ?_)
  · obtain ⟨v, b, num, cd, wd, chs, wk, ways, rfl, _⟩ := h
    rfl
  obtain ⟨v, b, num, cd, wd, chs, wk, ways, rfl, hT, hc, hd, hw, lc, hok, hwt, hp, hm, q⟩ := h
  refine ⟨_, (pss_one (ps_ret (pe_call G_course_of (hr.mono (by omega)) (by rfl) T.course_of.g T.course_of.F.kp T.course_of.b .nil pass0 (pa_cons (pv 0) (pa_cons (pv 1) (pa_cons (pv 2) (pa_cons (pv 3) (pa_cons pe_non pa_nil)))))))), ?_⟩
  refine ⟨_, rfl, _, rfl, _, rfl, _, rfl, v, b, num, cd, wd, chs, wk, ways, rfl, hT, hc, hd, hw, lc, hok, hwt, hp, hm, q⟩
end
section
variable {P : Program} {w : World} {K : PySem.W.Frag} {mg : Str → Option Value} {base : Heap}
theorem ok_run (T : Top K mg) (m : Nat) : FnOk P w K mg base CX0 (m + 11) T.run.f T.run.fd ["program", "number", "choices"] (spRun m) := by
  have G_run_of : FnOk P w K mg base CX0 (m + 10) T.run_of.f T.run_of.fd ["program", "number", "choices", "ways"] (spRunOf m) := ok_run_of T m
  refine T.run.F.ok sc_run (fun vs H Q E h => ?_) (fun cdv A outer s H vs Q E hr h => ?_)
  · obtain ⟨v, b, num, cd, chs, rfl, _⟩ := h
    rfl
  obtain ⟨v, b, num, cd, chs, rfl, hT, hc, lc, hok, hwt, hp, hm, q⟩ := h
  refine ⟨_, (pss_one (ps_ret (pe_call G_run_of (hr.mono (by omega)) (by rfl) T.run_of.g T.run_of.F.kp T.run_of.b .nil pass0 (pa_cons (pv 0) (pa_cons (pv 1) (pa_cons (pv 2) (pa_cons pe_dnewK pa_nil))))))), ?_⟩
  refine ⟨_, rfl, _, rfl, _, rfl, fun wd hwd => ?_⟩
  have k1 : Kp [] H (upd H wd (.dK [])) := Kp.new hwd
  exact ⟨v, b, num, cd, wd, chs, [], noWay, rfl, k1.tr hT, k1.tup _ _ hc, upd_same, noWay_rel, lc, hok, hwt, hp, hm, fun t H' ht k2 => q t H' ht (k1.step0 k2)⟩
end
end EH
namespace EH
open PySem L2
/-! ### programs that are drawn -/
theorem Deck.cast {H : Hp} {a c : Addr} {n n' : Int} (d : Deck H a c n) (e : n = n') : Deck H a c n' := e ▸ d
/-- the names stand at nm -/
structure Nms (H : Hp) (nm a c : Addr) (names : List Str) : Prop where
  at_ : H nm = some (.lst (names.map V.str))
  off : nm ∉ [a, c]
  len : 0 < names.length ∧ names.length ≤ 1000
  oks : ∀ x ∈ names, NmOk x
theorem Nms.kp {S : List Addr} {H H' : Hp} {nm a c : Addr} {names : List Str} (x : Nms H nm a c names) (k : Kp S H H') (h : nm ∉ S) : Nms H' nm a c names := ⟨k.keep _ _ x.at_ h, x.off, x.len, x.oks⟩
theorem Nms.kp0 {H H' : Hp} {nm a c : Addr} {names : List Str} (x : Nms H nm a c names) (k : Kp [] H H') : Nms H' nm a c names := x.kp k (by simp)
theorem Nms.kpD {H H' : Hp} {nm a c : Addr} {names : List Str} (x : Nms H nm a c names) (k : Kp [a, c] H H') : Nms H' nm a c names := x.kp k x.off
/-! names that come from a list, words that come from the law's own lists -/
def Ex.inN (N : List Str) : Ex → Prop
  | .num _ => True
  | .var x => x ∈ N
  | .plus a b => a.inN N ∧ b.inN N
  | .minus a b => a.inN N ∧ b.inN N
  | .times _ a => a.inN N
def Ts.inN (N : List Str) : Ts → Prop
  | .less a b => a.inN N ∧ b.inN N
  | .odd a => a.inN N
  | .not t => t.inN N
def WdIn (c : Str) : Prop := c ∈ (["go", "7", "half", "odd", "end", "0", "not"] : List Str)
mutual
def Sm.inN (N : List Str) : Sm → Prop
  | .ite t y n => t.inN N ∧ Sm.insN N y ∧ Sm.insN N n
  | .rep _ b => Sm.insN N b
  | .set x e => e.inN N ∧ x ∈ N
  | .half x e => e.inN N ∧ x ∈ N
  | .tell e => e.inN N
  | .say c => WdIn c
  | .stop c => WdIn c
def Sm.insN (N : List Str) : List Sm → Prop
  | [] => True
  | s :: r => s.inN N ∧ Sm.insN N r
end
theorem Sm.insN_app {N : List Str} : ∀ {b c : List Sm}, Sm.insN N b → Sm.insN N c → Sm.insN N (b ++ c)
  | [], c, _, h => h
  | s :: r, c, h, g => by
    simp only [Sm.insN] at h
    simp only [List.cons_append, Sm.insN]
    exact ⟨h.1, Sm.insN_app h.2 g⟩
def costE : Nat → Int
  | 0 => 0
  | n + 1 => 3 + 2 * costE n
def spExpr (n : Nat) : Sp := fun vs H Q _ => ∃ (a c nm : Addr) (m deep : Int) (names : List Str), vs = [.ref a, .ref nm, .int deep] ∧ Deck H a c m ∧ m + costE n ≤ 900000000 ∧ Nms H nm a c names ∧ 1 ≤ deep ∧ deep ≤ n ∧ n ≤ 3 ∧
  ∀ (v : V) (e : Ex) (H' : Hp) (m' : Int), Tr H' e.d v → e.ok → e.inN names → (e.deep : Int) ≤ deep → m ≤ m' → m' ≤ m + costE n → Deck H' a c m' → Kp [a, c] H H' → Q v H'
theorem costE_nn : ∀ n, 0 ≤ costE n
  | 0 => Int.le_refl 0
  | n + 1 => by
    have := costE_nn n
    show 0 ≤ 3 + 2 * costE n
    omega
theorem mem_ints {P : Int → Prop} {x : V} : ∀ {l : List Int}, x ∈ l.map V.int → (∀ i ∈ l, P i) → ∃ i, x = .int i ∧ P i := fun {l} h q => by
  obtain ⟨i, hi, rfl⟩ := List.mem_map.mp h
  exact ⟨i, rfl, q i hi⟩
/-- what the counters are -/
structure Lf where
  p : Int
  w : Int
  h : Int
  c : Int
def Lf.vs (l : Lf) : List V := [.int l.p, .int l.w, .int l.h, .int l.c]
structure Gs (H : Hp) (a c nm lf : Addr) (m : Int) (names : List Str) (l : Lf) : Prop where
  dk : Deck H a c m
  nms : Nms H nm a c names
  lft : H lf = some (.lst l.vs)
  off : lf ∉ [a, c, nm]
theorem Gs.kp0 {H H' : Hp} {a c nm lf : Addr} {m : Int} {names : List Str} {l : Lf} (g : Gs H a c nm lf m names l) (k : Kp [] H H') : Gs H' a c nm lf m names l := ⟨g.dk.kp0 k, g.nms.kp0 k, k.at g.lft, g.off⟩
theorem Gs.nac {H : Hp} {a c nm lf : Addr} {m : Int} {names : List Str} {l : Lf} (g : Gs H a c nm lf m names l) : lf ∉ [a, c] := by
  have := g.off
  simp only [List.mem_cons, List.not_mem_nil, or_false, not_or] at this ⊢
  exact ⟨this.1, this.2.1⟩
theorem Gs.drawn {H H' : Hp} {a c nm lf : Addr} {m m' : Int} {names : List Str} {l : Lf} (g : Gs H a c nm lf m names l) (d : Deck H' a c m') (k : Kp [a, c] H H') : Gs H' a c nm lf m' names l :=
  ⟨d, g.nms.kpD k, k.keep _ _ g.lft g.nac, g.off⟩
theorem Gs.left {H H' : Hp} {a c nm lf : Addr} {m : Int} {names : List Str} {l l' : Lf} (g : Gs H a c nm lf m names l) (h : H' lf = some (.lst l'.vs)) (k : Kp [lf] H H') : Gs H' a c nm lf m names l' := by
  have o := g.off
  simp only [List.mem_cons, List.not_mem_nil, or_false, not_or] at o
  exact ⟨g.dk.kp k (ne1 (fun z => o.1 z.symm)) (ne1 (fun z => o.2.1 z.symm)), g.nms.kp k (ne1 (fun z => o.2.2 z.symm)), h, g.off⟩
theorem Gs.kpF {H0 H H' : Hp} {a c nm lf p : Addr} {m0 m : Int} {names : List Str} {l0 l : Lf} (g0 : Gs H0 a c nm lf m0 names l0) (hp : H0 p = none) (g : Gs H a c nm lf m names l) (k : Kp [p] H H') : Gs H' a c nm lf m names l := by
  have o := g0.dk.off hp
  simp only [List.mem_cons, List.not_mem_nil, or_false, not_or] at o
  exact ⟨g.dk.kp k (ne1 (fun z => o.1 z.symm)) (ne1 (fun z => o.2 z.symm)), g.nms.kp k (ne1 (ne_of_none g0.nms.at_ hp)), k.keep _ _ g.lft (ne1 (ne_of_none g0.lft hp)), g.off⟩
/-! data that are tuples of tuples: what == asks -/
def rEqT : R2 := fun x y H Q => ∃ d e, Tr H d x ∧ Tr H e y ∧ SeqAt.shaped d = true ∧ SeqAt.shaped e = true ∧ Q (.bl (PyData.eqv d e)) H
def rNeT : R2 := fun x y H Q => ∃ d e, Tr H d x ∧ Tr H e y ∧ SeqAt.shaped d = true ∧ SeqAt.shaped e = true ∧ Q (.bl (!PyData.eqv d e)) H
theorem shaped_of {d : PyData} (h1 : d.canLay0 = true) (h2 : d.depth ≤ 64) : SeqAt.shaped d = true := by
  show (d.canLay0 && decide (d.depth ≤ 64)) = true
  rw [h1, decide_eq_true h2]
  rfl
theorem shaped_nil : SeqAt.shaped (.tuple []) = true := shaped_of (by simp [PyData.canLay0, PyData.canLayAll0]) (by simp [PyData.depth, PyData.depthAll])
section
variable {X : Cx}
theorem op_eqT (hu : X.A.units + 64 < cLine) : OpR X (compareOp .Eq) rEqT := OpR.imp (op_eqD hu) fun x y H Q ⟨d, e, h1, h2, h3, h4, q⟩ => ⟨d, e, Tr.dp d x h1, Tr.dp e y h2, h3, h4, q⟩
theorem op_neT (hu : X.A.units + 64 < cLine) : OpR X (compareOp .NotEq) rNeT := OpR.imp (op_neD hu) fun x y H Q ⟨d, e, h1, h2, h3, h4, q⟩ => ⟨d, e, Tr.dp d x h1, Tr.dp e y h2, h3, h4, q⟩
end
theorem Ex.dep : ∀ e : Ex, e.d.depth + 1 ≤ e.deep
  | .num _ => by simp [Ex.d, Ex.deep, PyData.depth]
  | .var _ => by simp [Ex.d, Ex.deep, PyData.depth]
  | .plus a b => by
    have := Ex.dep a
    have := Ex.dep b
    simp only [Ex.d, Ex.deep, PyData.depth, PyData.depthAll]
    omega
  | .minus a b => by
    have := Ex.dep a
    have := Ex.dep b
    simp only [Ex.d, Ex.deep, PyData.depth, PyData.depthAll]
    omega
  | .times _ a => by
    have := Ex.dep a
    simp only [Ex.d, Ex.deep, PyData.depth, PyData.depthAll]
    omega
theorem Ts.dep : ∀ {t : Ts}, t.ok → t.d.depth ≤ t.nots + 4
  | .less a b, h => by
    have := Ex.dep a
    have := Ex.dep b
    obtain ⟨⟨_, h1⟩, _, h2⟩ := (show (a.ok ∧ a.deep ≤ 3) ∧ b.ok ∧ b.deep ≤ 3 from h)
    simp only [Ts.d, Ts.nots, PyData.depth, PyData.depthAll]
    omega
  | .odd a, h => by
    have := Ex.dep a
    obtain ⟨_, h1⟩ := (show a.ok ∧ a.deep ≤ 3 from h)
    simp only [Ts.d, Ts.nots, PyData.depth, PyData.depthAll]
    omega
  | .not t, h => by
    have := Ts.dep (t := t) h
    simp only [Ts.d, Ts.nots, PyData.depth, PyData.depthAll]
    omega
theorem Ex.lay : ∀ {e : Ex}, e.ok → e.d.canLay0 = true
  | .num _, _ => by simp [Ex.d, PyData.canLay0]
  | .var x, h => by
    simp only [Ex.d, PyData.canLay0]
    exact h.1
  | .plus a b, h => by
    obtain ⟨h1, h2⟩ := (show a.ok ∧ b.ok from h)
    simp only [Ex.d, PyData.canLay0, PyData.canLayAll0, Ex.lay h1, Ex.lay h2]
    decide +kernel
  | .minus a b, h => by
    obtain ⟨h1, h2⟩ := (show a.ok ∧ b.ok from h)
    simp only [Ex.d, PyData.canLay0, PyData.canLayAll0, Ex.lay h1, Ex.lay h2]
    decide +kernel
  | .times k a, h => by
    obtain ⟨_, _, h2⟩ := (show -9 ≤ k ∧ k ≤ 9 ∧ a.ok from h)
    simp only [Ex.d, PyData.canLay0, PyData.canLayAll0, Ex.lay h2]
    decide +kernel
theorem Ts.lay : ∀ {t : Ts}, t.ok → t.d.canLay0 = true
  | .less a b, h => by
    obtain ⟨⟨h1, _⟩, h2, _⟩ := (show (a.ok ∧ a.deep ≤ 3) ∧ b.ok ∧ b.deep ≤ 3 from h)
    simp only [Ts.d, PyData.canLay0, PyData.canLayAll0, Ex.lay h1, Ex.lay h2]
    decide +kernel
  | .odd a, h => by
    obtain ⟨h1, _⟩ := (show a.ok ∧ a.deep ≤ 3 from h)
    simp only [Ts.d, PyData.canLay0, PyData.canLayAll0, Ex.lay h1]
    decide +kernel
  | .not t, h => by
    simp only [Ts.d, PyData.canLay0, PyData.canLayAll0, Ts.lay (t := t) h]
    decide +kernel
theorem Ts.shaped {t : Ts} (h : t.ok) (h2 : t.nots ≤ 2) : SeqAt.shaped t.d = true := shaped_of (Ts.lay h) (by have := Ts.dep h; omega)
theorem Ts.ne0 (t : Ts) : PyData.eqv t.d (.tuple []) = false := by cases t <;> simp [Ts.d, PyData.eqv, PyData.eqvAll]
def Ts.isOdd : Ts → Bool
  | .less _ _ => false
  | .odd _ => true
  | .not t => t.isOdd
def notN : Nat → Ts → Ts
  | 0, t => t
  | n + 1, t => .not (notN n t)
theorem notN_ok {t : Ts} (h : t.ok) : ∀ n, (notN n t).ok
  | 0 => h
  | n + 1 => notN_ok h n
theorem notN_in {N : List Str} {t : Ts} (h : t.inN N) : ∀ n, (notN n t).inN N
  | 0 => h
  | n + 1 => notN_in h n
theorem notN_nots {t : Ts} : ∀ n, (notN n t).nots = t.nots + n
  | 0 => rfl
  | n + 1 => by
    show (notN n t).nots + 1 = _
    rw [notN_nots n]
    omega
theorem notN_odd {t : Ts} : ∀ n, (notN n t).isOdd = t.isOdd
  | 0 => rfl
  | n + 1 => notN_odd n
/-! what a statement counts -/
mutual
def Sm.hv : Sm → Nat
  | .ite t y n => (if t.isOdd then 1 else 0) + (Sm.hvs y + Sm.hvs n)
  | .rep k b => k * Sm.hvs b
  | .half _ _ => 1
  | .set _ _ => 0
  | .tell _ => 0
  | .say _ => 0
  | .stop _ => 0
def Sm.hvs : List Sm → Nat
  | [] => 0
  | s :: r => s.hv + Sm.hvs r
end
mutual
def Sm.cp : Sm → Nat
  | .ite t y n => (if t.isOdd then 0 else 1) + (Sm.cps y + Sm.cps n)
  | .rep k b => k * Sm.cps b
  | .half _ _ => 0
  | .set _ _ => 0
  | .tell _ => 0
  | .say _ => 0
  | .stop _ => 0
def Sm.cps : List Sm → Nat
  | [] => 0
  | s :: r => s.cp + Sm.cps r
end
/-- words and names are those of the text; times at most eight -/
def Lf.nn (l : Lf) : Prop := 0 ≤ l.p ∧ 0 ≤ l.w ∧ 0 ≤ l.h ∧ 0 ≤ l.c
def Lf.le (l l' : Lf) : Prop := l'.p ≤ l.p ∧ l'.w ≤ l.w ∧ l'.h ≤ l.h ∧ l'.c ≤ l.c
/-- a test that may be lacking -/
def tD : Option Ts → PyData
  | none => .tuple []
  | some t => t.d
def spTest : Sp := fun vs H Q _ => ∃ (a c nm lf : Addr) (m t : Int) (names : List Str) (l : Lf), vs = [.ref a, .ref nm, .ref lf, .int t] ∧ Gs H a c nm lf m names l ∧ m ≤ 800000000 ∧ l.nn ∧ 0 ≤ t ∧
  ∀ (v : V) (o : Option Ts) (H' : Hp) (m' : Int) (l' : Lf), Tr H' (tD o) v → (∀ s, o = some s → (s.ok ∧ s.inN names) ∧ s.nots ≤ 2 ∧ t * (if s.isOdd then 1 else 0) ≤ l.h - l'.h ∧ t * (if s.isOdd then 0 else 1) ≤ l.c - l'.c) → l'.nn → l'.p = l.p → l'.w = l.w → l'.h ≤ l.h → l'.c ≤ l.c →
    m ≤ m' → m' ≤ m + 50 → Gs H' a c nm lf m' names l' → Kp [a, c, lf] H H' → Q v H'
def spPlain : Sp := fun vs H Q _ => ∃ (a c nm lf : Addr) (m t : Int) (names : List Str) (l : Lf), vs = [.ref a, .ref nm, .ref lf, .int t] ∧ Gs H a c nm lf m names l ∧ m ≤ 800000000 ∧ l.nn ∧ 0 ≤ t ∧
  ∀ (v : V) (s : Sm) (H' : Hp) (m' : Int) (l' : Lf), Tr H' s.d v → s.ok → s.inN names → s.plain → t * (s.hv : Int) ≤ l.h - l'.h → l'.nn → l'.p = l.p → l'.w = l.w → l'.h ≤ l.h → l'.c = l.c → m ≤ m' → m' ≤ m + 50 → Gs H' a c nm lf m' names l' → Kp [a, c, lf] H H' → Q v H'
/-! ### statements and blocks that are drawn -/
def rD : Option Sm → PyData
  | none => .tuple []
  | some s => s.d
def costB : Nat → Int
  | 0 => 0
  | k + 1 => 1 + 4 * (110 + 2 * costB k)
def costR (k : Nat) : Int := 110 + 2 * costB k
theorem costB_nn : ∀ n, 0 ≤ costB n
  | 0 => Int.le_refl 0
  | n + 1 => by
    have := costB_nn n
    show 0 ≤ 1 + 4 * (110 + 2 * costB n)
    omega
/-- what is left behind a statement, a block -/
structure Took (t : Int) (pl wt hv cp : Nat) (l l' : Lf) : Prop where
  p : (pl : Int) ≤ l.p - l'.p
  w : t * (wt : Int) ≤ l.w - l'.w
  h : t * (hv : Int) ≤ l.h - l'.h
  c : t * (cp : Int) ≤ l.c - l'.c
theorem Took.add {t : Int} {p1 w1 h1 c1 p2 w2 h2 c2 : Nat} {l l1 l2 : Lf} (a : Took t p1 w1 h1 c1 l l1) (b : Took t p2 w2 h2 c2 l1 l2) : Took t (p1 + p2) (w1 + w2) (h1 + h2) (c1 + c2) l l2 := by
  have := a.p; have := a.w; have := a.h; have := a.c; have := b.p; have := b.w; have := b.h; have := b.c
  refine ⟨?_, ?_, ?_, ?_⟩ <;> (simp only [Int.natCast_add, Int.mul_add]; omega)
theorem Took.le {t : Int} (ht : 0 ≤ t) {p w h c : Nat} {l l' : Lf} (a : Took t p w h c l l') : l.le l' := by
  have := a.p; have := a.w; have := a.h; have := a.c
  have z1 : 0 ≤ t * (w : Int) := Int.mul_nonneg ht (Int.natCast_nonneg _)
  have z2 : 0 ≤ t * (h : Int) := Int.mul_nonneg ht (Int.natCast_nonneg _)
  have z3 : 0 ≤ t * (c : Int) := Int.mul_nonneg ht (Int.natCast_nonneg _)
  exact ⟨by omega, by omega, by omega, by omega⟩
theorem Took.none {t : Int} {l : Lf} : Took t 0 0 0 0 l l := by
  refine ⟨?_, ?_, ?_, ?_⟩ <;> simp
theorem Took.of {t : Int} {p w h c p' w' h' c' : Nat} {l l' : Lf} (a : Took t p w h c l l') (e1 : p = p') (e2 : w = w') (e3 : h = h') (e4 : c = c') : Took t p' w' h' c' l l' := by subst e1 e2 e3 e4; exact a
theorem Took.rep {t : Int} {k p w h c : Nat} {l l' : Lf} (a : Took (t * (k : Int)) p w h c l l') : Took t p (k * w) (k * h) (k * c) l l' := by
  refine ⟨a.p, ?_, ?_, ?_⟩
  · have := a.w
    rw [Int.natCast_mul, ← Int.mul_assoc]
    exact this
  · have := a.h
    rw [Int.natCast_mul, ← Int.mul_assoc]
    exact this
  · have := a.c
    rw [Int.natCast_mul, ← Int.mul_assoc]
    exact this
/-- what a drawn statement keeps -/
structure SOk (N : List Str) (t depth : Int) (l l' : Lf) (s : Sm) : Prop where
  ok : s.ok
  inn : s.inN N
  nest : (s.nest : Int) + depth ≤ 4
  took : Took t s.pl s.wt s.hv s.cp l l'
structure BOk (N : List Str) (t depth : Int) (l l' : Lf) (b : List Sm) : Prop where
  ok : Sm.oks b
  inn : Sm.insN N b
  nest : b = [] ∨ (Sm.nests b : Int) + depth ≤ 4
  took : Took t (Sm.pls b) (Sm.wts b) (Sm.hvs b) (Sm.cps b) l l'
def spRow (k : Nat) : Sp := fun vs H Q _ => ∃ (a c nm lf : Addr) (m t depth : Int) (names : List Str) (l : Lf), vs = [.ref a, .ref nm, .ref lf, .int t, .int depth] ∧ Gs H a c nm lf m names l ∧ m + costR k ≤ 700000000 ∧ l.nn ∧ 0 ≤ t ∧ depth = 3 - (k : Int) ∧ 0 ≤ depth ∧
  ∀ (v : V) (o : Option Sm) (H' : Hp) (m' : Int) (l' : Lf), Tr H' (rD o) v → (∀ s, o = some s → SOk names t depth l l' s) → (o = none → l' = l) → l'.nn → m ≤ m' → m' ≤ m + costR k → Gs H' a c nm lf m' names l' → Kp [a, c, lf] H H' → Q v H'
def spBlock (k : Nat) : Sp := fun vs H Q _ => ∃ (a c nm lf : Addr) (m t depth : Int) (names : List Str) (l : Lf), vs = [.ref a, .ref nm, .ref lf, .int t, .int depth] ∧ Gs H a c nm lf m names l ∧ m + costB k ≤ 700000000 ∧ l.nn ∧ 0 ≤ t ∧ depth = 4 - (k : Int) ∧ 0 ≤ depth ∧
  ∀ (v : V) (b : List Sm) (H' : Hp) (m' : Int) (l' : Lf), Tr H' (.tuple (Sm.ds b)) v → BOk names t depth l l' b → l'.nn → m ≤ m' → m' ≤ m + costB k → Gs H' a c nm lf m' names l' → Kp [a, c, lf] H H' → Q v H'
mutual
theorem Sm.lay : ∀ {s : Sm}, s.ok → s.d.canLay0 = true
  | .set x e, h => by
    simp only [Sm.ok] at h
    simp only [Sm.d, PyData.canLay0, PyData.canLayAll0, h.2.1, Ex.lay h.1.1]
    decide +kernel
  | .half x e, h => by
    simp only [Sm.ok] at h
    simp only [Sm.d, PyData.canLay0, PyData.canLayAll0, h.2.1, Ex.lay h.1.1]
    decide +kernel
  | .tell e, h => by
    simp only [Sm.ok] at h
    simp only [Sm.d, PyData.canLay0, PyData.canLayAll0, Ex.lay h.1]
    decide +kernel
  | .say c, h => by
    simp only [Sm.ok] at h
    simp only [Sm.d, PyData.canLay0, PyData.canLayAll0, h.1]
    decide +kernel
  | .stop c, h => by
    simp only [Sm.ok] at h
    simp only [Sm.d, PyData.canLay0, PyData.canLayAll0, h.1]
    decide +kernel
  | .ite t y n, h => by
    simp only [Sm.ok] at h
    simp only [Sm.d, PyData.canLay0, PyData.canLayAll0, Ts.lay h.1, Sm.lays h.2.2.1, Sm.lays h.2.2.2]
    decide +kernel
  | .rep k b, h => by
    simp only [Sm.ok] at h
    simp only [Sm.d, PyData.canLay0, PyData.canLayAll0, Sm.lays h.2]
    decide +kernel
theorem Sm.lays : ∀ {b : List Sm}, Sm.oks b → PyData.canLayAll0 (Sm.ds b) = true
  | [], _ => by simp [Sm.ds, PyData.canLayAll0]
  | s :: r, h => by
    simp only [Sm.oks] at h
    simp only [Sm.ds, PyData.canLayAll0, Sm.lay h.1, Sm.lays h.2]
    rfl
end
mutual
theorem Sm.dep : ∀ {s : Sm}, s.ok → s.d.depth ≤ 2 * s.nest + 8
  | .set x e, h => by
    simp only [Sm.ok] at h
    have := e.dep
    simp only [Sm.d, PyData.depth, PyData.depthAll]
    omega
  | .half x e, h => by
    simp only [Sm.ok] at h
    have := e.dep
    simp only [Sm.d, PyData.depth, PyData.depthAll]
    omega
  | .tell e, h => by
    simp only [Sm.ok] at h
    have := e.dep
    simp only [Sm.d, PyData.depth, PyData.depthAll]
    omega
  | .say c, h => by simp [Sm.d, PyData.depth, PyData.depthAll]
  | .stop c, h => by simp [Sm.d, PyData.depth, PyData.depthAll]
  | .ite t y n, h => by
    simp only [Sm.ok] at h
    have := Ts.dep h.1
    have := Sm.deps h.2.2.1
    have := Sm.deps h.2.2.2
    simp only [Sm.d, PyData.depth, PyData.depthAll, Sm.nest]
    omega
  | .rep k b, h => by
    simp only [Sm.ok] at h
    have := Sm.deps h.2
    simp only [Sm.d, PyData.depth, PyData.depthAll, Sm.nest]
    omega
theorem Sm.deps : ∀ {b : List Sm}, Sm.oks b → PyData.depthAll (Sm.ds b) ≤ 2 * Sm.nests b + 8
  | [], _ => by simp [Sm.ds, PyData.depthAll]
  | s :: r, h => by
    simp only [Sm.oks] at h
    have := Sm.dep h.1
    have := Sm.deps h.2
    simp only [Sm.ds, PyData.depthAll, Sm.nests]
    omega
end
theorem Sm.shaped {s : Sm} (h : s.ok) (h2 : s.nest ≤ 10) : SeqAt.shaped s.d = true := shaped_of (Sm.lay h) (by have := Sm.dep h; omega)
theorem Sm.ne0 (t : Sm) : PyData.eqv t.d (.tuple []) = false := by cases t <;> simp [Sm.d, PyData.eqv, PyData.eqvAll]
theorem Sm.ds_app : ∀ (b c : List Sm), Sm.ds (b ++ c) = Sm.ds b ++ Sm.ds c
  | [], c => by simp only [List.nil_append, Sm.ds]
  | s :: r, c => by simp only [List.cons_append, Sm.ds, Sm.ds_app r c]
theorem Sm.oks_app : ∀ {b c : List Sm}, Sm.oks b → Sm.oks c → Sm.oks (b ++ c)
  | [], c, _, h => h
  | s :: r, c, h, g => by
    simp only [Sm.oks] at h
    simp only [List.cons_append, Sm.oks]
    exact ⟨h.1, Sm.oks_app h.2 g⟩
theorem Sm.pls_app : ∀ (b c : List Sm), Sm.pls (b ++ c) = Sm.pls b + Sm.pls c
  | [], c => by simp only [List.nil_append, Sm.pls]; omega
  | s :: r, c => by simp only [List.cons_append, Sm.pls, Sm.pls_app r c]; omega
theorem Sm.wts_app : ∀ (b c : List Sm), Sm.wts (b ++ c) = Sm.wts b + Sm.wts c
  | [], c => by simp only [List.nil_append, Sm.wts]; omega
  | s :: r, c => by simp only [List.cons_append, Sm.wts, Sm.wts_app r c]; omega
theorem Sm.hvs_app : ∀ (b c : List Sm), Sm.hvs (b ++ c) = Sm.hvs b + Sm.hvs c
  | [], c => by simp only [List.nil_append, Sm.hvs]; omega
  | s :: r, c => by simp only [List.cons_append, Sm.hvs, Sm.hvs_app r c]; omega
theorem Sm.cps_app : ∀ (b c : List Sm), Sm.cps (b ++ c) = Sm.cps b + Sm.cps c
  | [], c => by simp only [List.nil_append, Sm.cps]; omega
  | s :: r, c => by simp only [List.cons_append, Sm.cps, Sm.cps_app r c]; omega
theorem Sm.nests_app : ∀ (b c : List Sm), Sm.nests (b ++ c) ≤ Sm.nests b ∨ Sm.nests (b ++ c) ≤ Sm.nests c
  | [], c => .inr (by simp only [List.nil_append]; omega)
  | s :: r, c => by
    have := Sm.nests_app r c
    simp only [List.cons_append, Sm.nests]
    omega
theorem BOk.nil {N : List Str} {t d : Int} {l : Lf} : BOk N t d l l [] := ⟨by simp only [Sm.oks], by simp only [Sm.insN], .inl rfl, by simp only [Sm.pls, Sm.wts, Sm.hvs, Sm.cps]; exact Took.none⟩
theorem BOk.cat {N : List Str} {t d : Int} {l l1 l2 : Lf} {b c : List Sm} (x : BOk N t d l l1 b) (y : BOk N t d l1 l2 c) : BOk N t d l l2 (b ++ c) := by
  refine ⟨Sm.oks_app x.ok y.ok, Sm.insN_app x.inn y.inn, ?_, (x.took.add y.took).of (Sm.pls_app b c).symm (Sm.wts_app b c).symm (Sm.hvs_app b c).symm (Sm.cps_app b c).symm⟩
  rcases x.nest with rfl | h1
  · exact y.nest
  · rcases y.nest with rfl | h2
    · rw [List.append_nil]
      exact .inr h1
    · have := Sm.nests_app b c
      exact .inr (by omega)
theorem BOk.one {N : List Str} {t d : Int} {l l1 : Lf} {s : Sm} (x : SOk N t d l l1 s) : BOk N t d l l1 [s] := by
  refine ⟨by simp only [Sm.oks]; exact ⟨x.ok, trivial⟩, by simp only [Sm.insN]; exact ⟨x.inn, trivial⟩, .inr ?_, x.took.of ?_ ?_ ?_ ?_⟩
  · have := x.nest
    simp only [Sm.nests]
    omega
  · simp only [Sm.pls]; omega
  · simp only [Sm.wts]; omega
  · simp only [Sm.hvs]; omega
  · simp only [Sm.cps]; omega
theorem rD_shaped {N : List Str} {t d : Int} {l l' : Lf} {o : Option Sm} (hd : 0 ≤ d) (h : ∀ s, o = some s → SOk N t d l l' s) : SeqAt.shaped (rD o) = true := by
  cases o with
  | none => exact shaped_nil
  | some s =>
    have x := h s rfl
    exact Sm.shaped x.ok (by have := x.nest; omega)
/-- the statements among what was drawn -/
def smsOf : List (Option Sm) → List Sm
  | [] => []
  | none :: r => smsOf r
  | some s :: r => s :: smsOf r
theorem smsOf_app : ∀ (a b : List (Option Sm)), smsOf (a ++ b) = smsOf a ++ smsOf b
  | [], _ => rfl
  | none :: r, b => smsOf_app r b
  | some s :: r, b => congrArg (s :: ·) (smsOf_app r b)
theorem Sm.ds_le : ∀ b : List Sm, (Sm.ds b).length ≤ Sm.pls b
  | [] => by simp only [Sm.ds, Sm.pls]; exact Nat.le_refl _
  | s :: r => by
    have := Sm.ds_le r
    have := s.pl_pos
    simp only [Sm.ds, Sm.pls, List.length_cons]
    omega
theorem at_last {α : Type} {xs : List α} {x : α} (h : xs.getLast? = some x) : atI xs (-1) = some x := by
  have e : xs ≠ [] := by
    intro z
    rw [z] at h
    cases h
  have l : 0 < xs.length := List.length_pos_iff.mpr e
  unfold atI ixN
  rw [if_neg (by decide), if_pos (by omega)]
  rw [List.getLast?_eq_getElem?] at h
  show xs[(-1 + (xs.length : Int)).toNat]? = some x
  rw [show (-1 + (xs.length : Int)).toNat = xs.length - 1 by omega]
  exact h
/-! ### programs, numbers, choices -/
structure PrOk (b : List Sm) : Prop where
  ok : Sm.oks b
  nest : Sm.nests b ≤ 4
  pl : Sm.pls b ≤ 24
  wt : Sm.wts b ≤ 60
  hv : Sm.hvs b ≤ 4
  cp : Sm.cps b ≤ 3
theorem BOk.pr {N : List Str} {l : Lf} {b : List Sm} (x : BOk N 1 0 ⟨24, 60, 4, 3⟩ l b) (h : l.nn) : PrOk b := by
  obtain ⟨h1, h2, h3, h4⟩ := h
  have a1 : _ ≤ 24 - l.p := x.took.p
  have a2 : _ ≤ 60 - l.w := x.took.w
  have a3 : _ ≤ 4 - l.h := x.took.h
  have a4 : _ ≤ 3 - l.c := x.took.c
  refine ⟨x.ok, ?_, by omega, by omega, by omega, by omega⟩
  rcases x.nest with rfl | h
  · simp only [Sm.nests]; omega
  · omega
def spProgram : Sp := fun vs H Q _ => ∃ (a c nm : Addr) (m : Int) (names : List Str), vs = [.ref a, .ref nm] ∧ Deck H a c m ∧ m ≤ 600000000 ∧ Nms H nm a c names ∧
  ∀ (v : V) (b : List Sm) (H' : Hp) (m' : Int), Tr H' (.tuple (Sm.ds b)) v → PrOk b → m ≤ m' → m' ≤ m + 1100000 → Deck H' a c m' → Kp [a, c] H H' → Q v H'
/-- as spProgram, and the names come from the list -/
def spProgramN : Sp := fun vs H Q _ => ∃ (a c nm : Addr) (m : Int) (names : List Str), vs = [.ref a, .ref nm] ∧ Deck H a c m ∧ m ≤ 600000000 ∧ Nms H nm a c names ∧
  ∀ (v : V) (b : List Sm) (H' : Hp) (m' : Int), Tr H' (.tuple (Sm.ds b)) v → PrOk b → Sm.insN names b → m ≤ m' → m' ≤ m + 1100000 → Deck H' a c m' → Kp [a, c] H H' → Q v H'
def BIG : Int := 1000000000000000000000000000000000000000000000000000000000000
def spNumber : Sp := fun vs H Q _ => ∃ (a c : Addr) (m : Int), vs = [.ref a] ∧ Deck H a c m ∧ m ≤ 600000000 ∧
  ∀ (n : Int) (H' : Hp) (m' : Int), -BIG ≤ n → n ≤ BIG → m ≤ m' → m' ≤ m + 10 → Deck H' a c m' → Kp [a, c] H H' → Q (.int n) H'
def spChoices : Sp := fun vs H Q _ => ∃ (a c : Addr) (m : Int), vs = [.ref a] ∧ Deck H a c m ∧ m ≤ 600000000 ∧
  ∀ (p : Addr) (cs : List Int) (H' : Hp) (m' : Int), H' p = some (.tup (cs.map V.int)) → (∀ i ∈ cs, i = 0 ∨ i = 1) → cs.length ≤ 8 → m ≤ m' → m' ≤ m + 10 → Deck H' a c m' → Kp [a, c] H H' → Q (.ref p) H'
end EH
namespace EH
open PySem L2
/-! ### texts -/
def rJoinA : V → List V → Hp → VK → Prop := fun x xs H Q => ∃ a p, ∃ ys : List Str, x = .str a ∧ xs = [.ref p] ∧ H p = some (.lst (ys.map V.str)) ∧ (ys.map (·.length)).sum + ys.length * a.length ≤ 16777216 ∧ Q (.str (Txt.join a ys)) H
section
variable {X : Cx}
theorem mt_joinA : MtR X "str.join" rJoinA := fun pins s σ H x xs v us Q I rx rxs ⟨a, p, ys, e1, e2, h, z, q⟩ => mt_join pins s σ H x xs v us Q I rx rxs ⟨a, p, ys, e1, e2, .inl (SqL.of h), z, q⟩
theorem pe_joinA {o e : Expr} {to te : TE} {apos pos : Pos} (ho : PE X o to) (he : PE X e te) (hs : starEach [e] X.env = [(false, eval e X.env)] := by rfl) (hbase : attributeBase o "join" X.env (eval o X.env) = eval o X.env := by rfl) (hline : (apos.endLine == pos.line) = true := by rfl) :
    PE X (.Call (.Attribute o "join" apos) [e] [] pos) (tM1 rJoinA to te) := pe_m1 F.slot_str_join F.type_str_join mt_joinA ho he hs hbase hline
end
theorem strOk_app {a b : Str} (h1 : PyData.strOk a = true) (h2 : PyData.strOk b = true) : PyData.strOk (a ++ b) = true := by
  show (a.cps ++ b.cps).all _ = true
  rw [Array.all_append]
  rw [show a.cps.all (· < 0x110000) = true from h1, show b.cps.all (· < 0x110000) = true from h2]
  rfl
theorem strOk_of {a : Str} (h : ∀ c ∈ a.cps.toList, c < 0x110000) : PyData.strOk a = true := by
  show a.cps.all _ = true
  rw [← Array.all_toList, List.all_eq_true]
  intro c hc
  exact decide_eq_true (h c hc)
theorem app_cps (a b : Str) : (a ++ b).cps.toList = a.cps.toList ++ b.cps.toList := by
  show (a.cps ++ b.cps).toList = _
  rw [Array.toList_append]
/-- single signs, joined -/
def sgl (cs : List Nat) : List Str := cs.map fun c => ⟨#[c]⟩
theorem join_sgl0 : ∀ cs : List Nat, Str.join (Str.ofString "") (sgl cs) = ⟨cs.toArray⟩
  | [] => rfl
  | [c] => rfl
  | c :: d :: r => by
    have e : Str.join (Str.ofString "") (sgl (c :: d :: r)) = (⟨#[c]⟩ ++ Str.ofString "" ++ Str.join (Str.ofString "") (sgl (d :: r)) : Str) := rfl
    rw [e, join_sgl0 (d :: r)]
    show (⟨(#[c] ++ (Str.ofString "").cps) ++ (d :: r).toArray⟩ : Str) = _
    rw [show (Str.ofString "").cps = #[] by decide +kernel]
    simp
theorem join_sgl (cs : List Nat) : Txt.join (Str.ofString "") (sgl cs) = ⟨cs.toArray⟩ := by
  rw [TL.join_eq]
  exact join_sgl0 cs
theorem sgl_len : ∀ cs : List Nat, ((sgl cs).map (·.length)).sum = cs.length
  | [] => rfl
  | c :: r => by
    show 1 + ((sgl r).map (·.length)).sum = r.length + 1
    rw [sgl_len r]
    omega
theorem sgl_ok (cs : List Nat) (h : cs.length ≤ 1000) : ((sgl cs).map (·.length)).sum + (sgl cs).length * (Str.ofString "").length ≤ 16777216 := by
  rw [sgl_len, show (Str.ofString "").length = 0 by decide +kernel]
  omega
def letters : Str := "abcdefgijkmoqruvwxyz"
def signs : Str := letters ++ "0123456789"
def nmsOf (L R : Str) : List Str := ["n", L ++ "q" ++ R, L ++ "x" ++ R, L ++ "z" ++ R]
structure LR (L R : Str) : Prop where
  l : ∀ c ∈ L.cps.toList, c ∈ letters.cps.toList
  r : ∀ c ∈ R.cps.toList, c ∈ signs.cps.toList
  ll : L.length ≤ 8
  rl : R.length ≤ 8
def spNames : Sp := fun vs H Q _ => ∃ (a c : Addr) (m : Int), vs = [.ref a] ∧ Deck H a c m ∧ m ≤ 600000000 ∧
  ∀ (nm : Addr) (L R : Str) (H' : Hp) (m' : Int), H nm = none → LR L R → Nms H' nm a c (nmsOf L R) → m ≤ m' → m' ≤ m + 100 → Deck H' a c m' → Kp [a, c] H H' → Q (.ref nm) H'
theorem sign_ok {c : Nat} (h : c ∈ signs.cps.toList) : c < 0x110000 := by
  have : ∀ c ∈ signs.cps.toList, c < 0x110000 := by decide +kernel
  exact this c h
theorem letter_sign {c : Nat} (h : c ∈ letters.cps.toList) : c ∈ signs.cps.toList := by
  have : ∀ c ∈ letters.cps.toList, c ∈ signs.cps.toList := by decide +kernel
  exact this c h
theorem LR.oks {L R : Str} (x : LR L R) : ∀ y ∈ nmsOf L R, NmOk y := by
  have h1 : PyData.strOk L = true := strOk_of fun c hc => sign_ok (letter_sign (x.l c hc))
  have h2 : PyData.strOk R = true := strOk_of fun c hc => sign_ok (x.r c hc)
  intro y hy
  simp only [nmsOf, List.mem_cons, List.not_mem_nil, or_false] at hy
  have ln : ∀ q : Str, q.length ≤ 8 → (L ++ q ++ R).length ≤ 1000 := by
    intro q hq
    have a1 := x.ll
    have a2 := x.rl
    have e : (L ++ q ++ R).length = L.length + q.length + R.length := by
      show ((L.cps ++ q.cps) ++ R.cps).size = _
      rw [Array.size_append, Array.size_append]
      rfl
    omega
  rcases hy with rfl | rfl | rfl | rfl
  · exact ⟨by decide +kernel, by decide +kernel⟩
  · exact ⟨strOk_app (strOk_app h1 (by decide +kernel)) h2, ln _ (by decide +kernel)⟩
  · exact ⟨strOk_app (strOk_app h1 (by decide +kernel)) h2, ln _ (by decide +kernel)⟩
  · exact ⟨strOk_app (strOk_app h1 (by decide +kernel)) h2, ln _ (by decide +kernel)⟩
end EH
namespace EH
open PySem L2
/-! ### what every run keeps -/
section
variable {J : Nat → Nat → Cs → Prop}
theorem iterN_inv {f : Cs → Option Str × Cs} {dw dh : Nat} (mono : ∀ w h w' h' s, J w h s → w ≤ w' → h ≤ h' → J w' h' s) (st : ∀ w h s, J w h s → J (w + dw) (h + dh) (f s).2) : ∀ (k w h : Nat) (s : Cs), J w h s → J (w + k * dw) (h + k * dh) (iterN k f s).2
  | 0, w, h, s, j => mono _ _ _ _ _ j (Nat.le_add_right _ _) (Nat.le_add_right _ _)
  | k + 1, w, h, s, j => by
    have j1 := st w h s j
    rw [iterN, Nat.succ_mul, Nat.succ_mul]
    cases e : f s with
    | mk c s' =>
      rw [e] at j1
      cases c with
      | none => exact mono _ _ _ _ _ (iterN_inv mono st k _ _ s' j1) (by omega) (by omega)
      | some c => exact mono _ _ _ _ _ j1 (by omega) (by omega)
variable {dec : Nat → Int → Int → Int} {ways : Int → Option Int}
mutual
theorem Sm.inv (mono : ∀ w h w' h' s, J w h s → w ≤ w' → h ≤ h' → J w' h' s) (pl : ∀ st : Sm, st.plain → st.ok → ∀ p w h s, J w h s → J (w + 1) (h + st.hv) (st.run dec ways p s).2) :
    ∀ (t : Sm), t.ok → ∀ (p : Int) (w h : Nat) (s : Cs), J w h s → J (w + t.wt) (h + t.hv) (t.run dec ways p s).2
  | .ite t y n, o, p, w, h, s, j => by
    simp only [Sm.ok] at o
    simp only [Sm.run, Sm.wt, Sm.hv]
    by_cases hc : t.ev s.env = true
    · have jj := Sm.invs mono pl y o.2.2.1 (p + 1) w h s j
      rw [if_pos hc]
      refine mono _ _ _ _ _ jj ?_ ?_ <;> omega
    · have jj := Sm.invs mono pl n o.2.2.2 (p + 1 + (Sm.pls y : Int)) w h s j
      rw [if_neg hc]
      refine mono _ _ _ _ _ jj ?_ ?_ <;> omega
  | .rep k b, o, p, w, h, s, j => by
    simp only [Sm.ok] at o
    simp only [Sm.run, Sm.wt, Sm.hv]
    have jj := iterN_inv mono (fun w h s j => Sm.invs mono pl b o.2 (p + 1) w h s j) k w h s j
    refine mono _ _ _ _ _ jj ?_ ?_ <;> omega
  | .set x e, o, p, w, h, s, j => by
    have := pl (.set x e) trivial o p w h s j
    simp only [Sm.wt]
    exact this
  | .half x e, o, p, w, h, s, j => by
    have := pl (.half x e) trivial o p w h s j
    simp only [Sm.wt]
    exact this
  | .tell e, o, p, w, h, s, j => by
    have := pl (.tell e) trivial o p w h s j
    simp only [Sm.wt]
    exact this
  | .say c, o, p, w, h, s, j => by
    have := pl (.say c) trivial o p w h s j
    simp only [Sm.wt]
    exact this
  | .stop c, o, p, w, h, s, j => by
    have := pl (.stop c) trivial o p w h s j
    simp only [Sm.wt]
    exact this
theorem Sm.invs (mono : ∀ w h w' h' s, J w h s → w ≤ w' → h ≤ h' → J w' h' s) (pl : ∀ st : Sm, st.plain → st.ok → ∀ p w h s, J w h s → J (w + 1) (h + st.hv) (st.run dec ways p s).2) :
    ∀ (b : List Sm), Sm.oks b → ∀ (p : Int) (w h : Nat) (s : Cs), J w h s → J (w + Sm.wts b) (h + Sm.hvs b) (Sm.runs dec ways b p s).2
  | [], _, p, w, h, s, j => by
    simp only [Sm.runs]
    exact mono _ _ _ _ _ j (Nat.le_add_right _ _) (Nat.le_add_right _ _)
  | t :: r, o, p, w, h, s, j => by
    simp only [Sm.oks] at o
    have j1 := Sm.inv mono pl t o.1 p w h s j
    simp only [Sm.runs, Sm.wts, Sm.hvs]
    cases e : Sm.run dec ways t p s with
    | mk c s' =>
      rw [e] at j1
      cases c with
      | none => exact mono _ _ _ _ _ (Sm.invs mono pl r o.2 _ _ _ s' j1) (by omega) (by omega)
      | some c => exact mono _ _ _ _ _ j1 (by omega) (by omega)
end
end
section
variable {dec : Nat → Int → Int → Int} {ways : Int → Option Int}
theorem halv_turns (s : Cs) (v p : Int) : (halv dec ways s v p).2.turns = s.turns ∨ (halv dec ways s v p).2.turns = s.turns ++ [dec s.turns.length v p] := by
  unfold halv
  split
  · exact .inl rfl
  · split
    · exact .inl rfl
    · exact .inr rfl
theorem plain_turns (st : Sm) (h : st.plain) (p : Int) (s : Cs) : (st.run dec ways p s).2.turns = s.turns ∨ (st.hv = 1 ∧ ∃ v, (st.run dec ways p s).2.turns = s.turns ++ [dec s.turns.length v p]) := by
  cases st with
  | ite _ _ _ => exact h.elim
  | rep _ _ => exact h.elim
  | set x e => exact .inl (by simp only [Sm.run])
  | half x e =>
    simp only [Sm.run, Sm.hv]
    rcases halv_turns (dec := dec) (ways := ways) s (e.ev s.env) p with h | h
    · exact .inl h
    · exact .inr ⟨trivial, _, h⟩
  | tell e => exact .inl (by simp only [Sm.run])
  | say c => exact .inl (by simp only [Sm.run])
  | stop c => exact .inl (by simp only [Sm.run])
theorem turns_le (b : List Sm) (o : Sm.oks b) (p : Int) (s : Cs) : (Sm.runs dec ways b p s).2.turns.length ≤ s.turns.length + Sm.hvs b := by
  have := Sm.invs (J := fun _ h s' => s'.turns.length ≤ s.turns.length + h) (dec := dec) (ways := ways) (fun _ _ _ _ _ j _ hh => Nat.le_trans j (by omega)) (fun st hp ho p w h s' j => by
    rcases plain_turns (dec := dec) (ways := ways) st hp p s' with e | ⟨e1, v, e2⟩
    · rw [e]; omega
    · rw [e2, e1, List.length_append]
      simp only [List.length_singleton]
      omega) b o p 0 0 s (Nat.le_refl _)
  simpa using this
theorem turns_ge (b : List Sm) (o : Sm.oks b) (p : Int) (s : Cs) : s.turns.length ≤ (Sm.runs dec ways b p s).2.turns.length :=
  Sm.invs (J := fun _ _ s' => s.turns.length ≤ s'.turns.length) (dec := dec) (ways := ways) (fun _ _ _ _ _ j _ _ => j) (fun st hp ho p w h s' j => by
    rcases plain_turns (dec := dec) (ways := ways) st hp p s' with e | ⟨e1, v, e2⟩
    · rw [e]; exact j
    · rw [e2, List.length_append]
      omega) b o p 0 0 s (Nat.le_refl _)
theorem turn_ge (t : Sm) (o : t.ok) (p : Int) (s : Cs) : s.turns.length ≤ (Sm.run dec ways t p s).2.turns.length :=
  Sm.inv (J := fun _ _ s' => s.turns.length ≤ s'.turns.length) (dec := dec) (ways := ways) (fun _ _ _ _ _ j _ _ => j) (fun st hp ho p w h s' j => by
    rcases plain_turns (dec := dec) (ways := ways) st hp p s' with e | ⟨e1, v, e2⟩
    · rw [e]; exact j
    · rw [e2, List.length_append]
      omega) t o p 0 0 s (Nat.le_refl _)
end
/-- the first n choices -/
def tk (chs : List Int) (n : Nat) : List Int := (List.range n).map fun i => chs.getD i 0
theorem tk_succ (chs : List Int) (n : Nat) : tk chs (n + 1) = tk chs n ++ [chs.getD n 0] := by
  unfold tk
  rw [List.range_succ, List.map_append]
  rfl
theorem tk_len (chs : List Int) (n : Nat) : (tk chs n).length = n := by
  unfold tk
  rw [List.length_map, List.length_range]
theorem turns_tk {chs : List Int} {ways : Int → Option Int} (b : List Sm) (o : Sm.oks b) (p : Int) (n : Int) : (Sm.runs (decC chs) ways b p (cs0 n)).2.turns = tk chs (Sm.runs (decC chs) ways b p (cs0 n)).2.turns.length :=
  Sm.invs (J := fun _ _ s' => s'.turns = tk chs s'.turns.length) (dec := decC chs) (ways := ways) (fun _ _ _ _ _ j _ _ => j) (fun st hp ho p w h s' j => by
    rcases plain_turns (dec := decC chs) (ways := ways) st hp p s' with e | ⟨e1, v, e2⟩
    · rw [e]; exact j
    · rw [e2, List.length_append, List.length_singleton, tk_succ, ← j]
      rfl) b o p 0 0 (cs0 n) rfl
/-! ### runs that differ from the turn j on -/
def Rl (j : Nat) (a b : Option Str × Cs) : Prop := a = b ∨ (j < a.2.turns.length ∧ j < b.2.turns.length)
theorem iterN_ge {f : Cs → Option Str × Cs} (mf : ∀ s, s.turns.length ≤ (f s).2.turns.length) : ∀ (k : Nat) (s : Cs), s.turns.length ≤ (iterN k f s).2.turns.length
  | 0, s => Nat.le_refl _
  | k + 1, s => by
    have h := mf s
    rw [iterN]
    cases e : f s with
    | mk c s' =>
      rw [e] at h
      cases c with
      | none => exact Nat.le_trans h (iterN_ge mf k s')
      | some c => exact h
theorem iterN_ge1 {f : Cs → Option Str × Cs} (mf : ∀ s, s.turns.length ≤ (f s).2.turns.length) (k : Nat) (s : Cs) : (f s).2.turns.length ≤ (iterN (k + 1) f s).2.turns.length := by
  rw [iterN]
  cases e : f s with
  | mk c s' =>
    cases c with
    | none => exact iterN_ge mf k s'
    | some c => exact Nat.le_refl _
theorem iterN_rel {j : Nat} {f g : Cs → Option Str × Cs} (mf : ∀ s, s.turns.length ≤ (f s).2.turns.length) (mg : ∀ s, s.turns.length ≤ (g s).2.turns.length) (r : ∀ s, Rl j (f s) (g s)) : ∀ (k : Nat) (s : Cs), Rl j (iterN k f s) (iterN k g s)
  | 0, s => .inl rfl
  | k + 1, s => by
    rcases r s with h | ⟨h1, h2⟩
    · rw [iterN, iterN, ← h]
      cases e : f s with
      | mk c s' =>
        cases c with
        | none => exact iterN_rel mf mg r k s'
        | some c => exact .inl rfl
    · exact .inr ⟨Nat.lt_of_lt_of_le h1 (iterN_ge1 mf k s), Nat.lt_of_lt_of_le h2 (iterN_ge1 mg k s)⟩
section
variable {d1 d2 : Nat → Int → Int → Int} {ways : Int → Option Int} {j : Nat}
theorem runs_ge1 {dec : Nat → Int → Int → Int} (t : Sm) (r : List Sm) (o : Sm.oks r) (p : Int) (s : Cs) : (Sm.run dec ways t p s).2.turns.length ≤ (Sm.runs dec ways (t :: r) p s).2.turns.length := by
  simp only [Sm.runs]
  cases e : Sm.run dec ways t p s with
  | mk c s' =>
    cases c with
    | none => exact turns_ge r o _ s'
    | some c => exact Nat.le_refl _
mutual
theorem Sm.rel (ag : ∀ k v p, k < j → d1 k v p = d2 k v p) : ∀ (t : Sm), t.ok → ∀ (p : Int) (s : Cs), Rl j (t.run d1 ways p s) (t.run d2 ways p s)
  | .ite t y n, o, p, s => by
    simp only [Sm.ok] at o
    simp only [Sm.run]
    split
    · exact Sm.rels ag y o.2.2.1 _ s
    · exact Sm.rels ag n o.2.2.2 _ s
  | .rep k b, o, p, s => by
    simp only [Sm.ok] at o
    simp only [Sm.run]
    exact iterN_rel (fun s => turns_ge b o.2 _ s) (fun s => turns_ge b o.2 _ s) (fun s => Sm.rels ag b o.2 _ s) k s
  | .set x e, o, p, s => by simp only [Sm.run]; exact .inl rfl
  | .half x e, o, p, s => by
    by_cases h : s.turns.length < j
    · refine .inl ?_
      simp only [Sm.run, halv, ag _ _ _ h]
    · simp only [Sm.run, halv]
      split
      · exact .inl rfl
      · split
        · exact .inl rfl
        · refine .inr ⟨?_, ?_⟩
          · show j < (s.turns ++ [_]).length
            rw [List.length_append, List.length_singleton]
            omega
          · show j < (s.turns ++ [_]).length
            rw [List.length_append, List.length_singleton]
            omega
  | .tell e, o, p, s => by simp only [Sm.run]; exact .inl rfl
  | .say c, o, p, s => by simp only [Sm.run]; exact .inl rfl
  | .stop c, o, p, s => by simp only [Sm.run]; exact .inl rfl
theorem Sm.rels (ag : ∀ k v p, k < j → d1 k v p = d2 k v p) : ∀ (b : List Sm), Sm.oks b → ∀ (p : Int) (s : Cs), Rl j (Sm.runs d1 ways b p s) (Sm.runs d2 ways b p s)
  | [], _, p, s => by simp only [Sm.runs]; exact .inl rfl
  | t :: r, o, p, s => by
    simp only [Sm.oks] at o
    rcases Sm.rel ag t o.1 p s with h | ⟨h1, h2⟩
    · simp only [Sm.runs, ← h]
      cases e : Sm.run d1 ways t p s with
      | mk c s' =>
        cases c with
        | none => exact Sm.rels ag r o.2 _ s'
        | some c => exact .inl rfl
    · exact .inr ⟨Nat.lt_of_lt_of_le h1 (runs_ge1 t r o.2 p s), Nat.lt_of_lt_of_le h2 (runs_ge1 t r o.2 p s)⟩
end
end
/-- the same turns at the start, the same run -/
theorem runs_same {c1 c2 : List Int} {ways : Int → Option Int} (b : List Sm) (o : Sm.oks b) (p n : Int) (h : ∀ k, k < (Sm.runs (decC c1) ways b p (cs0 n)).2.turns.length → c1.getD k 0 = c2.getD k 0) : Sm.runs (decC c2) ways b p (cs0 n) = Sm.runs (decC c1) ways b p (cs0 n) := by
  rcases Sm.rels (d1 := decC c1) (d2 := decC c2) (ways := ways) (j := (Sm.runs (decC c1) ways b p (cs0 n)).2.turns.length) (fun k _ _ hk => h k hk) b o p (cs0 n) with e | ⟨h1, _⟩
  · exact e.symm
  · exact absurd h1 (Nat.lt_irrefl _)
theorem runs_other {c1 c2 : List Int} {ways : Int → Option Int} (b : List Sm) (o : Sm.oks b) (p n : Int) (j : Nat) (hj : j < (Sm.runs (decC c1) ways b p (cs0 n)).2.turns.length) (h : ∀ k, k < j → c1.getD k 0 = c2.getD k 0) :
    (Sm.runs (decC c2) ways b p (cs0 n)).2.turns.take (j + 1) = tk c2 (j + 1) := by
  have l : j < (Sm.runs (decC c2) ways b p (cs0 n)).2.turns.length := by
    rcases Sm.rels (d1 := decC c1) (d2 := decC c2) (ways := ways) (j := j) (fun k _ _ hk => h k hk) b o p (cs0 n) with e | ⟨_, h2⟩
    · rw [← e]; exact hj
    · exact h2
  rw [turns_tk b o p n]
  unfold tk
  rw [← List.map_take, List.take_range, Nat.min_eq_left l]
/-! ### how large the numbers are -/
theorem Ex.ev_le {env : Str → Int} {M : Nat} (hM : 99 ≤ M) (h : ∀ x, (env x).natAbs ≤ M) : ∀ {e : Ex}, e.ok → (e.ev env).natAbs ≤ M * 9 ^ e.deep
  | .num i, o => by
    obtain ⟨h1, h2⟩ := (show -99 ≤ i ∧ i ≤ 99 from o)
    show i.natAbs ≤ M * 9 ^ 1
    omega
  | .var x, o => by
    have := h x
    show (env x).natAbs ≤ M * 9 ^ 1
    omega
  | .plus a b, o => by
    have h1 := Ex.ev_le hM h (e := a) (show a.ok ∧ b.ok from o).1
    have h2 := Ex.ev_le hM h (e := b) (show a.ok ∧ b.ok from o).2
    show (a.ev env + b.ev env).natAbs ≤ M * 9 ^ (max a.deep b.deep + 1)
    have p1 : M * 9 ^ a.deep ≤ M * 9 ^ max a.deep b.deep := Nat.mul_le_mul_left _ (Nat.pow_le_pow_right (by decide) (Nat.le_max_left _ _))
    have p2 : M * 9 ^ b.deep ≤ M * 9 ^ max a.deep b.deep := Nat.mul_le_mul_left _ (Nat.pow_le_pow_right (by decide) (Nat.le_max_right _ _))
    rw [Nat.pow_succ, ← Nat.mul_assoc]
    omega
  | .minus a b, o => by
    have h1 := Ex.ev_le hM h (e := a) (show a.ok ∧ b.ok from o).1
    have h2 := Ex.ev_le hM h (e := b) (show a.ok ∧ b.ok from o).2
    show (a.ev env - b.ev env).natAbs ≤ M * 9 ^ (max a.deep b.deep + 1)
    have p1 : M * 9 ^ a.deep ≤ M * 9 ^ max a.deep b.deep := Nat.mul_le_mul_left _ (Nat.pow_le_pow_right (by decide) (Nat.le_max_left _ _))
    have p2 : M * 9 ^ b.deep ≤ M * 9 ^ max a.deep b.deep := Nat.mul_le_mul_left _ (Nat.pow_le_pow_right (by decide) (Nat.le_max_right _ _))
    rw [Nat.pow_succ, ← Nat.mul_assoc]
    omega
  | .times k a, o => by
    obtain ⟨k1, k2, oa⟩ := (show -9 ≤ k ∧ k ≤ 9 ∧ a.ok from o)
    have h1 := Ex.ev_le hM h (e := a) oa
    show (k * a.ev env).natAbs ≤ M * 9 ^ (a.deep + 1)
    rw [Int.natAbs_mul, Nat.pow_succ, ← Nat.mul_assoc, Nat.mul_comm]
    exact Nat.mul_le_mul h1 (by omega)
/-- a number, a text that a run may tell -/
def kOk (M : Nat) : Key → Prop
  | .inl i => i.natAbs ≤ M
  | .inr c => PyData.strOk c = true ∧ c.length ≤ 20
theorem kOk.mono {M M' : Nat} (h : M ≤ M') : ∀ {k : Key}, kOk M k → kOk M' k
  | .inl _, o => Nat.le_trans o h
  | .inr _, o => o
def BN : Nat := 10 ^ 60
structure Mag (w : Nat) (s : Cs) : Prop where
  env : ∀ x, (s.env x).natAbs ≤ BN * 729 ^ w
  said : ∀ k ∈ s.said, kOk (BN * 729 ^ w) k
  len : s.said.length ≤ w
theorem bn_mono {w w' : Nat} (h : w ≤ w') : BN * 729 ^ w ≤ BN * 729 ^ w' := Nat.mul_le_mul_left _ (Nat.pow_le_pow_right (by decide) h)
theorem bn_99 (w : Nat) : 99 ≤ BN * 729 ^ w := Nat.le_trans (by decide : 99 ≤ BN * 1) (Nat.mul_le_mul_left _ (Nat.one_le_pow _ _ (by decide)))
theorem Mag.mono {w w' : Nat} {s : Cs} (m : Mag w s) (h : w ≤ w') : Mag w' s := ⟨fun x => Nat.le_trans (m.env x) (bn_mono h), fun k hk => (m.said k hk).mono (bn_mono h), Nat.le_trans m.len h⟩
theorem Mag.ev {w : Nat} {s : Cs} (m : Mag w s) {e : Ex} (o : e.ok) (d : e.deep ≤ 3) : (e.ev s.env).natAbs ≤ BN * 729 ^ (w + 1) := by
  have h := Ex.ev_le (bn_99 w) m.env o
  refine Nat.le_trans h ?_
  rw [Nat.pow_succ, ← Nat.mul_assoc]
  exact Nat.mul_le_mul_left _ (Nat.le_trans (Nat.pow_le_pow_right (by decide) d) (by decide))
theorem setE_le {env : Str → Int} {x : Str} {v : Int} {M : Nat} (h : ∀ x, (env x).natAbs ≤ M) (hv : v.natAbs ≤ M) : ∀ y, (setE env x v y).natAbs ≤ M := by
  intro y
  unfold setE
  split
  · exact hv
  · exact h y
section
variable {dec : Nat → Int → Int → Int} {ways : Int → Option Int}
theorem halv_le (hd : ∀ k v p, dec k v p = 0 ∨ dec k v p = 1) (hw : ∀ p c, ways p = some c → c = 0 ∨ c = 1) (s : Cs) (v p : Int) : (halv dec ways s v p).1.natAbs ≤ v.natAbs := by
  unfold halv
  split
  · show (v / 2).natAbs ≤ _
    omega
  · split
    · rename_i c hc
      have := hw p c hc
      show (v / 2 + c).natAbs ≤ _
      omega
    · have := hd s.turns.length v p
      show (v / 2 + dec s.turns.length v p).natAbs ≤ _
      omega
theorem halv_said (s : Cs) (v p : Int) : (halv dec ways s v p).2.said = s.said := by
  unfold halv
  split
  · rfl
  · split <;> rfl
theorem runs_mag (hd : ∀ k v p, dec k v p = 0 ∨ dec k v p = 1) (hw : ∀ p c, ways p = some c → c = 0 ∨ c = 1) (b : List Sm) (o : Sm.oks b) (p : Int) (s : Cs) (m : Mag 0 s) : Mag (Sm.wts b) (Sm.runs dec ways b p s).2 := by
  have := Sm.invs (J := fun w _ s' => Mag w s') (dec := dec) (ways := ways) (fun _ _ _ _ _ j hw _ => j.mono hw) (fun st hp ho p w h s' j => by
    cases st with
    | ite _ _ _ => exact hp.elim
    | rep _ _ => exact hp.elim
    | set x e =>
      simp only [Sm.ok] at ho
      simp only [Sm.run]
      have j' := j.mono (Nat.le_succ w)
      exact ⟨setE_le j'.env (j.ev ho.1.1 ho.1.2), j'.said, j'.len⟩
    | half x e =>
      simp only [Sm.ok] at ho
      simp only [Sm.run]
      have j' := j.mono (Nat.le_succ w)
      refine ⟨setE_le j'.env (Nat.le_trans (halv_le hd hw s' _ p) (j.ev ho.1.1 ho.1.2)), ?_, ?_⟩
      · show ∀ k ∈ (halv dec ways s' _ p).2.said, _
        rw [halv_said]
        exact j'.said
      · show (halv dec ways s' _ p).2.said.length ≤ _
        rw [halv_said]
        exact j'.len
    | tell e =>
      simp only [Sm.ok] at ho
      simp only [Sm.run]
      have j' := j.mono (Nat.le_succ w)
      refine ⟨j'.env, ?_, ?_⟩
      · intro k hk
        rcases List.mem_append.mp hk with h | h
        · exact j'.said k h
        · cases List.mem_singleton.mp h
          exact j.ev ho.1 ho.2
      · show (s'.said ++ [_]).length ≤ _
        have := j.len
        rw [List.length_append, List.length_singleton]
        omega
    | say c =>
      simp only [Sm.ok] at ho
      simp only [Sm.run]
      have j' := j.mono (Nat.le_succ w)
      refine ⟨j'.env, ?_, ?_⟩
      · intro k hk
        rcases List.mem_append.mp hk with h | h
        · exact j'.said k h
        · cases List.mem_singleton.mp h
          exact ho
      · show (s'.said ++ [_]).length ≤ _
        have := j.len
        rw [List.length_append, List.length_singleton]
        omega
    | stop c =>
      simp only [Sm.run]
      exact j.mono (Nat.le_succ w)) b o p 0 0 s m
  rw [Nat.zero_add] at this
  exact this
theorem iterN_word {Pz : Str → Prop} {f : Cs → Option Str × Cs} (h : ∀ s c, (f s).1 = some c → Pz c) : ∀ (k : Nat) (s : Cs) (c : Str), (iterN k f s).1 = some c → Pz c
  | 0, s, c, e => nomatch (show (none : Option Str) = some c from e)
  | k + 1, s, c, e => by
    rw [iterN] at e
    have h1 := h s
    cases z : f s with
    | mk d s' =>
      rw [z] at e h1
      cases d with
      | none => exact iterN_word h k s' c e
      | some d => exact h1 c e
mutual
theorem Sm.word : ∀ (t : Sm), t.ok → ∀ (p : Int) (s : Cs) (c : Str), (t.run dec ways p s).1 = some c → PyData.strOk c = true ∧ c.length ≤ 20
  | .ite t y n, o, p, s, c, e => by
    simp only [Sm.ok] at o
    simp only [Sm.run] at e
    by_cases hc : t.ev s.env = true
    · rw [if_pos hc] at e
      exact Sm.words y o.2.2.1 _ s c e
    · rw [if_neg hc] at e
      exact Sm.words n o.2.2.2 _ s c e
  | .rep k b, o, p, s, c, e => by
    simp only [Sm.ok] at o
    simp only [Sm.run] at e
    exact iterN_word (fun s c e => Sm.words b o.2 _ s c e) k s c e
  | .set x e', o, p, s, c, e => by simp only [Sm.run] at e; exact nomatch e
  | .half x e', o, p, s, c, e => by simp only [Sm.run] at e; exact nomatch e
  | .tell e', o, p, s, c, e => by simp only [Sm.run] at e; exact nomatch e
  | .say c', o, p, s, c, e => by simp only [Sm.run] at e; exact nomatch e
  | .stop c', o, p, s, c, e => by
    simp only [Sm.ok] at o
    simp only [Sm.run] at e
    cases e
    exact o
theorem Sm.words : ∀ (b : List Sm), Sm.oks b → ∀ (p : Int) (s : Cs) (c : Str), (Sm.runs dec ways b p s).1 = some c → PyData.strOk c = true ∧ c.length ≤ 20
  | [], _, p, s, c, e => by simp only [Sm.runs] at e; exact nomatch e
  | t :: r, o, p, s, c, e => by
    simp only [Sm.oks] at o
    have h1 := Sm.word t o.1 p s
    simp only [Sm.runs] at e
    cases z : Sm.run dec ways t p s with
    | mk d s' =>
      rw [z] at e h1
      cases d with
      | none => exact Sm.words r o.2 _ s' c e
      | some d => exact h1 c e
end
end
/-! ### what is told can be shown -/
def BM : Nat := 10 ^ 240
theorem bm_ok {w : Nat} (h : w ≤ 60) : BN * 729 ^ w < BM := Nat.lt_of_le_of_lt (bn_mono h) (by decide +kernel)
structure ROk (r : Option Str × Cs) : Prop where
  said : ∀ k ∈ r.2.said, kOk (BM - 1) k
  len : r.2.said.length ≤ 60
  word : ∀ c, r.1 = some c → PyData.strOk c = true ∧ c.length ≤ 20
  turns : ∀ i ∈ r.2.turns, i = 0 ∨ i = 1
  tlen : r.2.turns.length ≤ 4
theorem decC_01 {chs : List Int} (h : ∀ i ∈ chs, i = 0 ∨ i = 1) (k : Nat) (v p : Int) : decC chs k v p = 0 ∨ decC chs k v p = 1 := by
  show chs.getD k 0 = 0 ∨ chs.getD k 0 = 1
  rw [List.getD_eq_getElem?_getD]
  cases e : chs[k]? with
  | none => exact .inl rfl
  | some i => exact h i (List.mem_of_getElem? e)
theorem tk_01 {chs : List Int} (h : ∀ i ∈ chs, i = 0 ∨ i = 1) (n : Nat) : ∀ i ∈ tk chs n, i = 0 ∨ i = 1 := by
  intro i hi
  unfold tk at hi
  obtain ⟨k, _, rfl⟩ := List.mem_map.mp hi
  exact decC_01 h k 0 0
theorem noWay_01 : ∀ p c, noWay p = some c → c = 0 ∨ c = 1 := fun _ _ h => nomatch h
theorem runs_ok {chs : List Int} (h : ∀ i ∈ chs, i = 0 ∨ i = 1) {b : List Sm} (pr : PrOk b) {n : Int} (h1 : -BIG ≤ n) (h2 : n ≤ BIG) : ROk (Sm.runs (decC chs) noWay b 0 (cs0 n)) := by
  have hn : n.natAbs ≤ BN := by
    have e : (BN : Int) = BIG := by decide +kernel
    omega
  have he : ∀ x, ((cs0 n).env x).natAbs ≤ BN * 729 ^ 0 := by
    intro x
    show (env0 n x).natAbs ≤ _
    unfold env0
    rw [Nat.pow_zero, Nat.mul_one]
    split
    · exact hn
    · exact Nat.zero_le _
  have m : Mag (Sm.wts b) _ := runs_mag (dec := decC chs) (ways := noWay) (decC_01 h) noWay_01 b pr.ok 0 (cs0 n) ⟨he, (fun k hk => nomatch hk), Nat.le_refl _⟩
  have hb := bm_ok pr.wt
  refine ⟨fun k hk => (m.said k hk).mono (by omega), Nat.le_trans m.len pr.wt, fun c e => Sm.words b pr.ok 0 (cs0 n) c e, ?_, ?_⟩
  · rw [turns_tk b pr.ok 0 n]
    exact tk_01 h _
  · have := turns_le (dec := decC chs) (ways := noWay) b pr.ok 0 (cs0 n)
    have hh := pr.hv
    have e : (cs0 n).turns.length = 0 := rfl
    omega
theorem log_le {i : Int} (h : i.natAbs ≤ BM - 1) : i.natAbs.log2 < 900 := by
  by_cases z : i.natAbs = 0
  · rw [z]; decide
  · rw [Nat.log2_lt z]
    exact Nat.lt_of_le_of_lt h (by decide +kernel)
theorem kD_showable {k : Key} (h : kOk (BM - 1) k) : (kD k).showable = true := by
  cases k with
  | inl i =>
    show PyData.showable (.int i) = true
    simp only [PyData.showable, decide_eq_true_eq]
    have := log_le (show i.natAbs ≤ BM - 1 from h)
    omega
  | inr c => simp only [kD, PyData.showable]
theorem kDs_showable : ∀ {ks : List Key}, (∀ k ∈ ks, kOk (BM - 1) k) → PyData.showableAll (ks.map kD) = true
  | [], _ => by simp only [List.map_nil, PyData.showableAll]
  | k :: r, h => by
    simp only [List.map_cons, PyData.showableAll, kD_showable (h k List.mem_cons_self), kDs_showable (fun x hx => h x (List.mem_cons_of_mem _ hx))]
    rfl
def ty01 (l : List Int) : Prop := ∀ i ∈ l, i = 0 ∨ i = 1
theorem key01 {l : List Int} (h : ty01 l) : ∀ k ∈ l.map (fun i => (Sum.inl i : Key)), kOk (BM - 1) k := by
  intro k hk
  obtain ⟨i, hi, rfl⟩ := List.mem_map.mp hk
  show i.natAbs ≤ BM - 1
  have hb : 2 ≤ BM - 1 := by decide +kernel
  rcases h i hi with rfl | rfl
  · exact Nat.zero_le _
  · exact Nat.le_trans (by decide) hb
theorem key01D (l : List Int) : (l.map (fun i => (Sum.inl i : Key))).map kD = l.map PyData.int := by
  rw [List.map_map]
  rfl
theorem kD_short {k : Key} (h : kOk (BM - 1) k) : (kD k).leavesShort 241 = true := by
  cases k with
  | inl i =>
    show PyData.leavesShort 241 (.int i) = true
    simp only [PyData.leavesShort, decide_eq_true_eq]
    have hi : i.natAbs < 10 ^ 240 := by
      have : 0 < BM := by decide +kernel
      exact Nat.lt_of_le_of_lt (show i.natAbs ≤ BM - 1 from h) (by show BM - 1 < BM; omega)
    have e := int_text_length_le10 (k := 240) (by decide) hi
    show (Str.ofString (toString i)).length ≤ 241
    rw [ofString_length]
    exact e
  | inr c =>
    show PyData.leavesShort 241 (.str c) = true
    exact PyData.leavesShort_of_canLay0 241 (.str c) (by simp only [PyData.canLay0]; exact h.1) (by simp only [PyData.intsShort])
theorem kDs_short : ∀ {ks : List Key}, (∀ k ∈ ks, kOk (BM - 1) k) → PyData.leavesShortAll 241 (ks.map kD) = true
  | [], _ => by simp only [List.map_nil, PyData.leavesShortAll]
  | k :: r, h => by
    simp only [List.map_cons, PyData.leavesShortAll, kD_short (h k List.mem_cons_self), kDs_short (fun x hx => h x (List.mem_cons_of_mem _ hx))]
    rfl
theorem kD_weight {k : Key} (h : kOk (BM - 1) k) : (kD k).weight ≤ 1000 := by
  cases k with
  | inl i =>
    show PyData.weight (.int i) ≤ 1000
    simp only [PyData.weight]
    have := log_le (show i.natAbs ≤ BM - 1 from h)
    split <;> omega
  | inr c =>
    show PyData.weight (.str c) ≤ 1000
    simp only [PyData.weight]
    exact Nat.le_trans h.2 (by decide)
theorem kDs_weight : ∀ {ks : List Key}, (∀ k ∈ ks, kOk (BM - 1) k) → PyData.weightAll (ks.map kD) ≤ 1001 * ks.length
  | [], _ => by simp only [List.map_nil, PyData.weightAll]; exact Nat.zero_le _
  | k :: r, h => by
    have h1 := kD_weight (h k List.mem_cons_self)
    have h2 := kDs_weight (fun x hx => h x (List.mem_cons_of_mem _ hx))
    simp only [List.map_cons, PyData.weightAll, List.length_cons]
    omega
theorem kD_depth (k : Key) : (kD k).depth = 0 := by cases k <;> simp only [kD, PyData.depth]
theorem kDs_depth : ∀ ks : List Key, PyData.depthAll (ks.map kD) = 0
  | [] => by simp only [List.map_nil, PyData.depthAll]
  | k :: r => by simp only [List.map_cons, PyData.depthAll, kD_depth, kDs_depth r]; rfl
/-- data that repr may be asked of -/
structure Shw (d : PyData) : Prop where
  sh : d.showable = true
  sz : d.shown.length ≤ sizeLine
  dp : d.depth ≤ 60
theorem shw_of {d : PyData} {W : Nat} (h1 : d.showable = true) (h2 : d.leavesShort 241 = true) (h3 : d.weight ≤ W) (h4 : (243 : Nat) * W + 241 ≤ 16777216) (h5 : d.depth ≤ 60) : Shw d := by
  refine ⟨h1, Nat.le_trans (PyData.shown_le 241 (by decide) d h2) ?_, h5⟩
  refine Nat.le_trans (Nat.add_le_add_right (Nat.mul_le_mul_left 243 h3) 241) ?_
  exact Nat.le_trans h4 (by decide +kernel)
theorem kDs_shw {ks : List Key} (h : ∀ k ∈ ks, kOk (BM - 1) k) (l : ks.length ≤ 60) : Shw (.tuple (ks.map kD)) := by
  refine shw_of (W := 60060) ?_ ?_ ?_ (by decide) ?_
  · simp only [PyData.showable]; exact kDs_showable h
  · simp only [PyData.leavesShort]; exact kDs_short h
  · have := kDs_weight h
    simp only [PyData.weight]
    omega
  · simp only [PyData.depth, kDs_depth]
    decide
theorem ints_shw {l : List Int} (h : ty01 l) (hl : l.length ≤ 60) : Shw (.tuple (l.map PyData.int)) := by
  rw [← key01D]
  exact kDs_shw (key01 h) (by rw [List.length_map]; exact hl)
theorem int_shw {i : Int} (h : i = 0 ∨ i = 1) : Shw (.int i) := by
  rcases h with rfl | rfl <;> exact ⟨by decide +kernel, by decide +kernel, by decide +kernel⟩
theorem res_shw {r : Option Str × Cs} (o : ROk r) : Shw (resD r) := by
  have kt := key01 o.turns
  have wd : (wD r.1).showable = true ∧ (wD r.1).leavesShort 241 = true ∧ (wD r.1).weight ≤ 1000 ∧ (wD r.1).depth = 0 := by
    have h := o.word
    cases e : r.1 with
    | none => exact ⟨by simp only [wD, PyData.showable], by simp only [wD, PyData.leavesShort], by simp only [wD, PyData.weight]; decide, by simp only [wD, PyData.depth]⟩
    | some c =>
      rw [e] at h
      have k := h c rfl
      exact ⟨kD_showable (k := .inr c) k, kD_short (k := .inr c) k, kD_weight (k := .inr c) k, kD_depth (.inr c)⟩
  have w1 := kDs_weight o.said
  have w2 := kDs_weight kt
  have l1 := o.len
  have l2 := o.tlen
  rw [List.length_map] at w2
  unfold resD
  rw [← key01D]
  refine shw_of (W := 66000) ?_ ?_ ?_ (by decide) ?_
  · simp only [PyData.showable, PyData.showableAll, kDs_showable o.said, kDs_showable kt, wd.1]
    rfl
  · simp only [PyData.leavesShort, PyData.leavesShortAll, kDs_short o.said, kDs_short kt, wd.2.1]
    rfl
  · simp only [PyData.weight, PyData.weightAll]
    omega
  · simp only [PyData.depth, PyData.depthAll, kDs_depth, wd.2.2.2]
    decide
end EH
namespace EH
open PySem L2
section
variable {X : Cx}
def rReprT : List V → Hp → VK → Prop := fun xs H Q => ∃ x d, xs = [x] ∧ Tr H d x ∧ Shw d ∧ ∀ z, z = d.shown → Q (.str z) H
theorem call_reprT (fr : Free X.A) (hu : X.A.units + 64 < cLine) : CallR X (.builtin "repr") rReprT := CallR.imp (call_reprD fr hu) fun xs H Q ⟨x, d, e, t, s, q⟩ => ⟨x, d, e, Tr.dp d x t, s.sh, s.sz, s.dp, q _ rfl⟩
theorem cr_allK {K : PySem.W.Frag} (hK : X.K = K) (hc : X.calm = true) : CallR X (.builtin "all") (rAll K) := hK ▸ cr_all hc
end
/-! ### short: the trailing noughts go -/
def spShort : Sp := fun vs H Q _ => ∃ (p : Addr) (cs : List Int), vs = [.ref p] ∧ H p = some (.tup (cs.map V.int)) ∧ cs.length ≤ 60 ∧ ty01 cs ∧
  ∀ (p' : Addr) (cs' : List Int) (H' : Hp), H' p' = some (.tup (cs'.map V.int)) → (∀ k, cs'.getD k 0 = cs.getD k 0) → cs'.length ≤ 60 → ty01 cs' → Kp [] H H' → Q (.ref p') H'
theorem ints_shaped {cs : List Int} : SeqAt.shaped (.tuple (cs.map PyData.int)) = true := by
  have h1 : ∀ cs : List Int, PyData.canLayAll0 (cs.map PyData.int) = true := by
    intro cs
    induction cs with
    | nil => simp [PyData.canLayAll0]
    | cons x r ih => simp [PyData.canLayAll0, PyData.canLay0, ih]
  have h2 : ∀ cs : List Int, PyData.depthAll (cs.map PyData.int) = 0 := by
    intro cs
    induction cs with
    | nil => simp [PyData.depthAll]
    | cons x r ih => simp [PyData.depthAll, PyData.depth, ih]
  exact shaped_of (by simp only [PyData.canLay0]; exact h1 cs) (by simp only [PyData.depth, h2]; decide)
theorem ints_ne0 : ∀ cs : List Int, (!PyData.eqv (.tuple (cs.map PyData.int)) (.tuple [])) = !cs.isEmpty
  | [] => by simp [PyData.eqv, PyData.eqvAll]
  | x :: r => by simp [PyData.eqv, PyData.eqvAll]
theorem cut_last (xs : List V) : cutV xs none (some (-1)) = xs.dropLast := by
  unfold cutV
  rw [HT.sIx_none, List.drop_zero, List.dropLast_eq_take]
  show xs.take ((-1 + (xs.length : Int)).toNat - 0) = _
  rw [show (-1 + (xs.length : Int)).toNat - 0 = xs.length - 1 by omega]
theorem cut_to (xs : List V) (k : Nat) : cutV xs none (some (k : Int)) = xs.take k := by
  unfold cutV
  rw [HT.sIx_none, List.drop_zero, HT.sIx_nat]
  rw [Nat.sub_zero, ← List.take_take, List.take_length]
theorem getD_dropLast {cs : List Int} (h : cs.getLast? = some 0) (k : Nat) : cs.dropLast.getD k 0 = cs.getD k 0 := by
  obtain ⟨ys, rfl⟩ := List.getLast?_eq_some_iff.mp h
  rw [List.dropLast_concat, List.getD_eq_getElem?_getD, List.getD_eq_getElem?_getD]
  by_cases l : k < ys.length
  · rw [List.getElem?_append_left l]
  · rw [List.getElem?_append_right (by omega), List.getElem?_eq_none (by omega)]
    by_cases e : k - ys.length = 0
    · rw [e]; rfl
    · rw [List.getElem?_eq_none (by simp only [List.length_singleton]; omega)]
theorem map_dropLast (cs : List Int) : (cs.map V.int).dropLast = cs.dropLast.map V.int := by rw [List.map_dropLast]
theorem tr_ints {H : Hp} {p : Addr} {cs : List Int} (h : H p = some (.tup (cs.map V.int))) : Tr H (.tuple (cs.map PyData.int)) (.ref p) := mk_tup h (trs_int cs)
def spRight : Sp := fun vs H Q _ => ∃ (a c : Addr) (m : Int) (v : V) (b : List Sm) (n : Int), vs = [.ref a, v, .int n] ∧ Deck H a c m ∧ m ≤ 500000000 ∧ Tr H (.tuple (Sm.ds b)) v ∧ PrOk b ∧ -BIG ≤ n ∧ n ≤ BIG ∧
  ∀ (H' : Hp) (m' : Int), m ≤ m' → m' ≤ m + 100 → Deck H' a c m' → Kp [a, c] H H' → Q (.bl true) H'
theorem ints_of {H : Hp} : ∀ {ts : List Int} {vs : List V}, TrAll H (ts.map PyData.int) vs → vs = ts.map V.int
  | [], vs, h => by simp only [List.map_nil, TrAll] at h; subst h; rfl
  | t :: r, vs, h => by
    simp only [List.map_cons, TrAll] at h
    obtain ⟨v, ws, rfl, h1, h2⟩ := h
    cases tr_int h1
    rw [ints_of h2]
    rfl
theorem tk_getD {chs : List Int} {n k : Nat} (h : k < n) : (tk chs n).getD k 0 = chs.getD k 0 := by
  unfold tk
  rw [List.getD_eq_getElem?_getD, List.getElem?_map, List.getElem?_range h]
  rfl
theorem getD_app {a b : List Int} {k : Nat} (h : k < a.length) : (a ++ b).getD k 0 = a.getD k 0 := by
  rw [List.getD_eq_getElem?_getD, List.getD_eq_getElem?_getD, List.getElem?_append_left h]
theorem tk_self (c : List Int) : tk c c.length = c := by
  refine List.ext_getElem? fun k => ?_
  unfold tk
  rw [List.getElem?_map]
  by_cases h : k < c.length
  · rw [List.getElem?_range h, List.getElem?_eq_getElem h]
    show some (c.getD k 0) = _
    rw [List.getD_eq_getElem?_getD, List.getElem?_eq_getElem h]
    rfl
  · rw [List.getElem?_eq_none (by rw [List.length_range]; omega), List.getElem?_eq_none (by omega)]
    rfl
theorem ty01.take {l : List Int} (h : ty01 l) (k : Nat) : ty01 (l.take k) := fun i hi => h i (List.mem_of_mem_take hi)
theorem ty01.flip {l : List Int} (h : ty01 l) {t : Int} (ht : t = 0 ∨ t = 1) : ty01 (l ++ [1 - t]) := by
  intro i hi
  rcases List.mem_append.mp hi with z | z
  · exact h i z
  · cases List.mem_singleton.mp z
    omega
end EH
namespace EH
open PySem L2
/-! ### all runs on a number, one behind another -/
def nxt : List Int → Option (List Int)
  | [] => none
  | x :: r => match nxt r with
    | some c => some (x :: c)
    | none => if x = 1 then none else some [1]
theorem nxt_ones : ∀ {t : List Int}, (∀ x ∈ t, x = 1) → nxt t = none
  | [], _ => rfl
  | x :: r, h => by
    rw [nxt, nxt_ones (fun y hy => h y (List.mem_cons_of_mem _ hy))]
    show (if x = 1 then none else some [1]) = none
    rw [if_pos (h x List.mem_cons_self)]
theorem nxt_at {x : Int} {r : List Int} (hx : x ≠ 1) (hr : ∀ y ∈ r, y = 1) : ∀ p : List Int, nxt (p ++ x :: r) = some (p ++ [1])
  | [] => by
    show nxt (x :: r) = _
    rw [nxt, nxt_ones hr]
    show (if x = 1 then none else some [1]) = _
    rw [if_neg hx]
    rfl
  | y :: p => by
    show nxt (y :: (p ++ x :: r)) = _
    rw [nxt, nxt_at hx hr p]
    rfl
theorem nxt_cases : ∀ t : List Int, (nxt t = none ∧ ∀ x ∈ t, x = 1) ∨ ∃ p x r, t = p ++ x :: r ∧ x ≠ 1 ∧ (∀ y ∈ r, y = 1) ∧ nxt t = some (p ++ [1])
  | [] => .inl ⟨rfl, fun x h => nomatch h⟩
  | x :: r => by
    rcases nxt_cases r with ⟨h1, h2⟩ | ⟨p, y, q, rfl, hy, hq, e⟩
    · by_cases hx : x = 1
      · refine .inl ⟨nxt_ones ?_, ?_⟩ <;>
        · intro z hz
          rcases List.mem_cons.mp hz with rfl | hz
          · exact hx
          · exact h2 z hz
      · exact .inr ⟨[], x, r, rfl, hx, h2, nxt_at hx h2 []⟩
    · exact .inr ⟨x :: p, y, q, rfl, hy, hq, nxt_at hy hq (x :: p)⟩
/-- the number that a row of turns writes, k figures -/
def wl : Nat → List Int → Int
  | _, [] => 0
  | 0, _ :: _ => 0
  | k + 1, x :: r => x * (2 : Int) ^ k + wl k r
/-- the part of the whole that turns stand for -/
def pw (k : Nat) (t : List Int) : Int := (2 : Int) ^ (k - t.length)
theorem pw_pos (k : Nat) (t : List Int) : 1 ≤ pw k t := by
  have : (0 : Int) < (2 : Int) ^ (k - t.length) := Int.pow_pos (by decide)
  unfold pw
  omega
theorem pw_cons (k : Nat) (x : Int) (r : List Int) : pw (k + 1) (x :: r) = pw k r := by
  unfold pw
  rw [List.length_cons, Nat.add_sub_add_right]
theorem pow2_succ (k : Nat) : (2 : Int) ^ (k + 1) = 2 * (2 : Int) ^ k := by rw [Int.pow_succ, Int.mul_comm]
theorem wl_nil (k : Nat) : wl k [] = 0 := by cases k <;> rfl
theorem wl_ones : ∀ {k : Nat} {t : List Int}, (∀ x ∈ t, x = 1) → t.length ≤ k → wl k t + pw k t = (2 : Int) ^ k
  | k, [], _, _ => by rw [wl_nil]; unfold pw; simp
  | 0, x :: r, _, l => absurd l (Nat.not_succ_le_zero _)
  | k + 1, x :: r, h, l => by
    have ih := wl_ones (k := k) (t := r) (fun y hy => h y (List.mem_cons_of_mem _ hy)) (Nat.le_of_succ_le_succ l)
    rw [pw_cons, pow2_succ, wl, h x List.mem_cons_self]
    omega
theorem ty01.tail {x : Int} {r : List Int} (h : ty01 (x :: r)) : ty01 r := fun i hi => h i (List.mem_cons_of_mem _ hi)
theorem ty01.head {x : Int} {r : List Int} (h : ty01 (x :: r)) : x = 0 ∨ x = 1 := h x List.mem_cons_self
theorem wl_nxt : ∀ {k : Nat} {t c : List Int}, ty01 t → t.length ≤ k → nxt t = some c → wl k c = wl k t + pw k t
  | k, [], c, _, _, e => nomatch (show (none : Option (List Int)) = some c from e)
  | 0, x :: r, c, _, l, _ => absurd l (Nat.not_succ_le_zero _)
  | k + 1, x :: r, c, h, l, e => by
    rcases nxt_cases r with ⟨h1, h2⟩ | ⟨p, y, q, rfl, hy, hq, e1⟩
    · rw [nxt, h1] at e
      have e : (if x = 1 then none else some [1]) = some c := e
      by_cases hx : x = 1
      · rw [if_pos hx] at e; cases e
      · rw [if_neg hx] at e
        cases e
        have x0 : x = 0 := by
          rcases h.head with z | z
          · exact z
          · exact absurd z hx
        have o := wl_ones (k := k) h2 (Nat.le_of_succ_le_succ l)
        rw [pw_cons]
        show 1 * (2 : Int) ^ k + wl k [] = (x * (2 : Int) ^ k + wl k r) + pw k r
        rw [wl_nil, x0]
        omega
    · have ih := wl_nxt (k := k) h.tail (Nat.le_of_succ_le_succ l) e1
      rw [nxt, e1] at e
      cases e
      rw [pw_cons, wl, wl, ih]
      omega
theorem nxt_none {t : List Int} (h : nxt t = none) : ∀ x ∈ t, x = 1 := by
  rcases nxt_cases t with ⟨_, h2⟩ | ⟨p, x, r, _, _, _, e⟩
  · exact h2
  · rw [e] at h; cases h
theorem wl_rng : ∀ {k : Nat} {t : List Int}, ty01 t → t.length ≤ k → 0 ≤ wl k t ∧ wl k t + pw k t ≤ (2 : Int) ^ k
  | k, [], _, _ => by rw [wl_nil]; unfold pw; simp
  | 0, x :: r, _, l => absurd l (Nat.not_succ_le_zero _)
  | k + 1, x :: r, h, l => by
    have ih := wl_rng (k := k) h.tail (Nat.le_of_succ_le_succ l)
    have p := pw_pos k r
    rw [pw_cons, pow2_succ, wl]
    rcases h.head with z | z <;> rw [z] <;> constructor <;> omega
theorem wl_zeros : ∀ (k : Nat) (c : List Int) (m : Nat), wl k (c ++ List.replicate m 0) = wl k c
  | k, [], 0 => rfl
  | 0, [], m + 1 => rfl
  | k + 1, [], m + 1 => by
    have := wl_zeros k [] m
    rw [List.nil_append] at this
    show 0 * (2 : Int) ^ k + wl k (List.replicate m 0) = 0
    rw [this, wl_nil]
    omega
  | 0, x :: r, m => rfl
  | k + 1, x :: r, m => by
    show x * (2 : Int) ^ k + wl k (r ++ List.replicate m 0) = _
    rw [wl_zeros k r m]
    rfl
theorem tk_zeros {c : List Int} {n : Nat} (h : c.length ≤ n) : tk c n = c ++ List.replicate (n - c.length) 0 := by
  refine List.ext_getElem? fun i => ?_
  unfold tk
  rw [List.getElem?_map]
  by_cases l : i < n
  · rw [List.getElem?_range l]
    show some (c.getD i 0) = _
    rw [List.getD_eq_getElem?_getD]
    by_cases l2 : i < c.length
    · rw [List.getElem?_append_left l2, List.getElem?_eq_getElem l2]
      rfl
    · rw [List.getElem?_append_right (by omega), List.getElem?_eq_none (by omega), List.getElem?_replicate, if_pos (by omega)]
      rfl
  · rw [List.getElem?_eq_none (by rw [List.length_range]; omega), List.getElem?_eq_none (by rw [List.length_append, List.length_replicate]; omega)]
    rfl
theorem wl_tk {k : Nat} {c : List Int} {n : Nat} (h : c.length ≤ n) : wl k (tk c n) = wl k c := by rw [tk_zeros h, wl_zeros]
/-- a number between those of t begins with t -/
theorem wl_pre : ∀ {k : Nat} {t v : List Int}, ty01 t → ty01 v → v.length = k → t.length ≤ k → wl k t ≤ wl k v → wl k v < wl k t + pw k t → ∃ s, v = t ++ s
  | k, [], v, _, _, _, _, _, _ => ⟨v, rfl⟩
  | 0, x :: r, v, _, _, _, l, _, _ => absurd l (Nat.not_succ_le_zero _)
  | k + 1, x :: r, [], _, _, lv, _, _, _ => nomatch lv
  | k + 1, x :: r, y :: w, h, g, lv, l, a, b => by
    have l1 := Nat.le_of_succ_le_succ l
    have lw : w.length = k := Nat.succ.inj lv
    have r1 := wl_rng (k := k) h.tail l1
    have r2 := wl_rng (k := k) g.tail (Nat.le_of_eq lw)
    have p1 := pw_pos k w
    have p2 := pw_pos k r
    rw [pw_cons] at b
    rw [wl, wl] at a b
    have e : x = y := by
      rcases h.head with z | z <;> rcases g.head with u | u <;> rw [z, u] at a b <;> rw [z, u] <;> omega
    subst e
    obtain ⟨s, rfl⟩ := wl_pre (k := k) h.tail g.tail lw l1 (by omega) (by omega)
    exact ⟨s, rfl⟩
/-- t comes ahead of u, and is no beginning of it -/
inductive Ahd : List Int → List Int → Prop
  | lt {r w : List Int} : Ahd (0 :: r) (1 :: w)
  | eq {x : Int} {r w : List Int} : Ahd r w → Ahd (x :: r) (x :: w)
theorem wl_ahd : ∀ {k : Nat} {t u : List Int}, ty01 t → ty01 u → t.length ≤ k → u.length ≤ k → wl k t + pw k t ≤ wl k u → Ahd t u
  | k, [], u, _, g, _, lu, a => by
    have r := wl_rng g lu
    have p := pw_pos k u
    rw [wl_nil] at a
    have e : pw k [] = (2 : Int) ^ k := by unfold pw; simp
    omega
  | 0, x :: r, u, _, _, l, _, _ => absurd l (Nat.not_succ_le_zero _)
  | k + 1, x :: r, [], h, _, l, _, a => by
    have r1 := wl_rng h l
    have p := pw_pos (k + 1) (x :: r)
    rw [wl_nil] at a
    omega
  | k + 1, x :: r, y :: w, h, g, l, lu, a => by
    have l1 := Nat.le_of_succ_le_succ l
    have lw := Nat.le_of_succ_le_succ lu
    have r1 := wl_rng (k := k) h.tail l1
    have r2 := wl_rng (k := k) g.tail lw
    have p1 := pw_pos k w
    have p2 := pw_pos k r
    rw [pw_cons] at a
    rw [wl, wl] at a
    rcases h.head with z | z <;> rcases g.head with v | v <;> rw [z, v] at a ⊢
    · exact .eq (wl_ahd (k := k) h.tail g.tail l1 lw (by omega))
    · exact .lt
    · omega
    · exact .eq (wl_ahd (k := k) h.tail g.tail l1 lw (by omega))
theorem Ahd.no_pre {t u : List Int} (h : Ahd t u) : ∀ n, u.take n ≠ t ∨ n ≠ t.length := by
  induction h with
  | lt =>
    intro n
    by_cases e : n = 0
    · subst e; exact .inr (by simp)
    · obtain ⟨m, rfl⟩ : ∃ m, n = m + 1 := ⟨n - 1, by omega⟩
      exact .inl (by simp)
  | eq _ ih =>
    intro n
    by_cases e : n = 0
    · subst e; exact .inr (by simp)
    · obtain ⟨m, rfl⟩ : ∃ m, n = m + 1 := ⟨n - 1, by omega⟩
      rcases ih m with z | z
      · exact .inl (by simpa using z)
      · exact .inr (by simpa using z)
section
variable (ways : Int → Option Int) (b : List Sm) (n : Int)
abbrev rn (c : List Int) : Option Str × Cs := Sm.runs (decC c) ways b 0 (cs0 n)
/-- the runs so far, and the choices of the next one -/
inductive Chn : List (Option Str × Cs) → Option (List Int) → Prop
  | nil : Chn [] (some [])
  | snoc {Rs : List (Option Str × Cs)} {c : List Int} : Chn Rs (some c) → Chn (Rs ++ [rn ways b n c]) (nxt (rn ways b n c).2.turns)
end
def topO (k : Nat) : Option (List Int) → Int
  | some c => wl k c
  | none => (2 : Int) ^ k
structure ChOk (ways : Int → Option Int) (b : List Sm) (n : Int) (k : Nat) (Rs : List (Option Str × Cs)) (o : Option (List Int)) : Prop where
  self : ∀ R ∈ Rs, rn ways b n R.2.turns = R ∧ ty01 R.2.turns ∧ R.2.turns.length ≤ k ∧ wl k R.2.turns + pw k R.2.turns ≤ topO k o
  sum : (Rs.map fun R => pw k R.2.turns).sum = topO k o
  cs : ∀ c, o = some c → ty01 c ∧ c.length ≤ (rn ways b n c).2.turns.length
  all : ∀ v : List Int, v.length = k → ty01 v → wl k v < topO k o → rn ways b n v ∈ Rs
  ord : Rs.Pairwise fun R S => Ahd R.2.turns S.2.turns
section
variable {ways : Int → Option Int} {b : List Sm} {n : Int} {k : Nat}
theorem rn_turns (o : Sm.oks b) (c : List Int) : (rn ways b n c).2.turns = tk c (rn ways b n c).2.turns.length := turns_tk b o 0 n
theorem rn_len (o : Sm.oks b) (hv : Sm.hvs b ≤ k) (c : List Int) : (rn ways b n c).2.turns.length ≤ k := by
  have := turns_le (dec := decC c) (ways := ways) b o 0 (cs0 n)
  have e : (cs0 n).turns.length = 0 := rfl
  show (Sm.runs (decC c) ways b 0 (cs0 n)).2.turns.length ≤ k
  omega
theorem rn_self (o : Sm.oks b) (c : List Int) : rn ways b n (rn ways b n c).2.turns = rn ways b n c := by
  refine runs_same (c1 := c) (c2 := (rn ways b n c).2.turns) (ways := ways) b o 0 n fun i hi => ?_
  have e := tk_getD (chs := c) hi
  rw [← rn_turns o c] at e
  exact e.symm
theorem ChOk.nil (o : Sm.oks b) : ChOk ways b n k [] (some []) := by
  refine ⟨(fun R h => nomatch h), ?_, ?_, ?_, .nil⟩
  · show (0 : Int) = wl k []
    rw [wl_nil]
  · rintro c ⟨⟩
    exact ⟨(fun i h => nomatch h), Nat.zero_le _⟩
  · intro v l h a
    have := (wl_rng h (Nat.le_of_eq l)).1
    have a : wl k v < wl k [] := a
    rw [wl_nil] at a
    omega
theorem ChOk.snoc (o : Sm.oks b) (hv : Sm.hvs b ≤ k) {Rs : List (Option Str × Cs)} {c : List Int} (h : ChOk ways b n k Rs (some c)) : ChOk ways b n k (Rs ++ [rn ways b n c]) (nxt (rn ways b n c).2.turns) := by
  obtain ⟨c01, cl⟩ := h.cs c rfl
  have tt := rn_turns (ways := ways) (n := n) o c
  have tl := rn_len (ways := ways) (n := n) o hv c
  have t01 : ty01 (rn ways b n c).2.turns := by
    rw [tt]
    exact tk_01 c01 _
  have wc : wl k (rn ways b n c).2.turns = wl k c := by
    rw [tt]
    exact wl_tk cl
  have top : topO k (nxt (rn ways b n c).2.turns) = wl k c + pw k (rn ways b n c).2.turns := by
    cases e : nxt (rn ways b n c).2.turns with
    | none =>
      have := wl_ones (k := k) (nxt_none e) tl
      show (2 : Int) ^ k = _
      omega
    | some c2 =>
      have := wl_nxt t01 tl e
      show wl k c2 = _
      omega
  have p := pw_pos k (rn ways b n c).2.turns
  have tc : topO k (some c) = wl k c := rfl
  refine ⟨?_, ?_, ?_, ?_, ?_⟩
  · intro R hR
    rcases List.mem_append.mp hR with z | z
    · obtain ⟨a1, a2, a3, a4⟩ := h.self R z
      exact ⟨a1, a2, a3, by omega⟩
    · cases List.mem_singleton.mp z
      exact ⟨rn_self o c, t01, tl, by omega⟩
  · rw [List.map_append, List.sum_append, h.sum, top]
    show wl k c + (pw k _ + 0) = _
    omega
  · intro c2 e
    rcases nxt_cases (rn ways b n c).2.turns with ⟨z, _⟩ | ⟨q, x, r, et, hx, hr, e2⟩
    · rw [z] at e; cases e
    · rw [e2] at e
      cases e
      have q01 : ty01 (q ++ [1]) := by
        intro i hi
        rcases List.mem_append.mp hi with z | z
        · exact t01 i (by rw [et]; exact List.mem_append_left _ z)
        · cases List.mem_singleton.mp z
          exact .inr rfl
      refine ⟨q01, ?_⟩
      have hj : q.length < (rn ways b n c).2.turns.length := by
        rw [et, List.length_append, List.length_cons]
        omega
      have ot := runs_other (c1 := c) (c2 := q ++ [1]) (ways := ways) b o 0 n q.length hj (by
        intro i hi
        have e := tk_getD (chs := c) (show i < (rn ways b n c).2.turns.length by omega)
        rw [← tt, et] at e
        rw [← e, List.getD_eq_getElem?_getD, List.getD_eq_getElem?_getD, List.getElem?_append_left hi, List.getElem?_append_left hi])
      have := congrArg List.length ot
      rw [List.length_take, tk_len] at this
      rw [List.length_append, List.length_singleton]
      show q.length + 1 ≤ (Sm.runs (decC (q ++ [1])) ways b 0 (cs0 n)).2.turns.length
      omega
  · intro v l v01 a
    by_cases z : wl k v < wl k c
    · exact List.mem_append_left _ (h.all v l v01 z)
    · refine List.mem_append_right _ (List.mem_singleton.mpr ?_)
      obtain ⟨s, rfl⟩ := wl_pre t01 v01 l tl (by omega) (by omega)
      refine runs_same (c1 := c) (c2 := (rn ways b n c).2.turns ++ s) (ways := ways) b o 0 n fun i hi => ?_
      rw [getD_app hi]
      have e := tk_getD (chs := c) hi
      rw [← rn_turns o c] at e
      exact e.symm
  · rw [List.pairwise_append]
    refine ⟨h.ord, List.pairwise_singleton _ _, ?_⟩
    intro R hR S hS
    cases List.mem_singleton.mp hS
    obtain ⟨a1, a2, a3, a4⟩ := h.self R hR
    exact wl_ahd a2 t01 a3 tl (by omega)
theorem Chn.ok (o : Sm.oks b) (hv : Sm.hvs b ≤ k) {Rs : List (Option Str × Cs)} {c : Option (List Int)} (h : Chn ways b n Rs c) : ChOk ways b n k Rs c := by
  generalize e : c = c' at h
  induction h generalizing c with
  | nil => exact ChOk.nil o
  | snoc h ih => exact (ih rfl).snoc o hv
theorem sum_ge {Rs : List (Option Str × Cs)} : (Rs.length : Int) ≤ (Rs.map fun R => pw k R.2.turns).sum := by
  induction Rs with
  | nil => exact Int.le_refl 0
  | cons R r ih =>
    have := pw_pos k R.2.turns
    rw [List.map_cons, List.sum_cons, List.length_cons]
    omega
theorem topO_le {o : Option (List Int)} (h : ∀ c, o = some c → ty01 c ∧ c.length ≤ k) : topO k o ≤ (2 : Int) ^ k := by
  cases o with
  | none => exact Int.le_refl _
  | some c =>
    obtain ⟨h1, h2⟩ := h c rfl
    have := wl_rng h1 h2
    have := pw_pos k c
    show wl k c ≤ _
    omega
theorem ChOk.len (o : Sm.oks b) (hv : Sm.hvs b ≤ k) {Rs : List (Option Str × Cs)} {c : Option (List Int)} (h : ChOk ways b n k Rs c) : (Rs.length : Int) ≤ (2 : Int) ^ k := by
  refine Int.le_trans (sum_ge (k := k)) ?_
  rw [h.sum]
  refine topO_le fun c e => ?_
  obtain ⟨h1, h2⟩ := h.cs c e
  exact ⟨h1, Nat.le_trans h2 (rn_len o hv c)⟩
end
end EH
namespace EH
open PySem PySem.Spec PyProof.Rows L2
/-! ### sorted of a tuple of data, x in a list of data, repr of a list -/
section
variable {X : Cx}
def rNotInT : R2 := fun x y H Q => ∃ a vs d ds, y = .ref a ∧ H a = some (.lst vs) ∧ TrAll H ds vs ∧ Tr H d x ∧ SeqAt.shaped d = true ∧ SeqAt.shaped (.list ds) = true ∧ Q (.bl (!ds.any fun z => PyData.eqv z d)) H
theorem op_notInT (hu : X.A.units + 65 < cLine) : OpR X (compareOp .NotIn) rNotInT := OpR.imp (op_notInD hu) fun x y H Q ⟨a, vs, d, ds, e, h, t, td, s1, s2, q⟩ => by
  subst e
  exact ⟨d, ds, Tr.dp d x td, .lst (SqL.of h) (TrAll.dp ds vs t), s1, s2, q⟩
def rReprLs : List V → Hp → VK → Prop := fun xs H Q => ∃ a vs ds, xs = [.ref a] ∧ H a = some (.lst vs) ∧ TrAll H ds vs ∧ Shw (.list ds) ∧ ∀ z, z = (PyData.list ds).shown → Q (.str z) H
theorem call_reprLs (fr : Free X.A) (hu : X.A.units + 64 < cLine) : CallR X (.builtin "repr") rReprLs := CallR.imp (call_reprD fr hu) fun xs H Q ⟨a, vs, ds, e, h, t, s, q⟩ => ⟨.ref a, .list ds, e, .lst (SqL.of h) (TrAll.dp ds vs t), s.sh, s.sz, s.dp, q _ rfl⟩
def rSortD : List V → Hp → VK → Prop := fun xs H Q => ∃ a vs ds, xs = [.ref a] ∧ H a = some (.tup vs) ∧ TrAll H ds vs ∧ PySem.W.AllAlike ds ∧ PySem.W.Sortable ds ∧ (∀ d ∈ ds, d.depth ≤ 60) ∧
  ∀ p ws H', H' p = some (.lst ws) → TrAll H' (ds.mergeSort (PySem.W.dataLe false id)) ws → Kp [] H H' → Q (.ref p) H'
theorem each_tr {H : Hp} : ∀ {ds : List PyData} {vs : List V} {us : List Value}, TrAll H ds vs → Vals vs us → PySem.W.EachIs (fun u d => ∃ v, RelV v u ∧ Tr H d v) us ds
  | [], vs, us, t, r => by
    simp only [TrAll] at t
    subst t
    cases r
    exact .nil
  | d :: ds, vs, us, t, r => by
    simp only [TrAll] at t
    obtain ⟨v, ws, rfl, h1, h2⟩ := t
    cases r with
    | cons r1 r2 => exact .cons ⟨v, r1, h1⟩ (each_tr h2 r2)
theorem tr_each {H : Hp} : ∀ {ds : List PyData} {us : List Value}, PySem.W.EachIs (fun u d => ∃ v, RelV v u ∧ Tr H d v) us ds → ∃ vs, Vals vs us ∧ TrAll H ds vs
  | [], us, e => by
    cases e
    exact ⟨[], .nil, trs_nil⟩
  | d :: ds, us, e => by
    cases e with
    | cons h t =>
      obtain ⟨v, r, t1⟩ := h
      obtain ⟨vs, r2, t2⟩ := tr_each t
      exact ⟨v :: vs, .cons r r2, trs_cons t1 t2⟩
theorem cr_sortedD (hu : X.A.units + 64 < cLine) : CallR X (.builtin "sorted") rSortD := by
  intro pins s σ H xs us Q I r h
  obtain ⟨a, vs, ds, rfl, ha, t, al, so, hd, q⟩ := h
  rw [Vals.ref1 r]
  obtain ⟨its, rv, ⟨o, ho, hc, n, hdat⟩, hz⟩ := I.tuple (SqT.of ha)
  have hL : its.length ≤ sizeLine := by rw [← rv.length]; exact hz
  refine Calls.call_function_entry PyProof.Rows.kind_sorted PyProof.Rows.plain_sorted PyProof.Rows.entry_sorted (PyProof.Rows.args_sorted1 _) ?_
  unfold Builtin.«sorted»
  refine wpAny_bind (m := checkCount "sorted" 1 1 _) (wpAny_pure ?_)
  refine wpAny_bind (wpAny_collect_seq a (.inr rfl) ho hc hdat (fun h1 kp1 => ?_) (by rw [List.size_toArray]; exact hL))
  show wpAny _ _ _ _ _ _
  refine wpAny_bind (wpAny_newList ?_ (by simpa using hL))
  have hoL : (h1.push (seqObj "list" its.toArray 0)).get? h1.objs.size = some (seqObj "list" its.toArray 0) := Heap.get?_push_size _ rfl
  have old : ∀ b o, s.heap.get? b = some o → b ≠ h1.objs.size ∧ (h1.push (seqObj "list" its.toArray 0)).get? b = some o := fun b o e =>
    ⟨Nat.ne_of_lt (Heap.lt_size (kp1 b o e)), Heap.get?_push_of_some _ (kp1 b o e)⟩
  have er : PySem.W.EachIs (fun v (d : PyData) => ∃ as, Reads (PySem.W.sortingHeap (h1.push (seqObj "list" its.toArray 0)) h1.objs.size its) v (id d) as) its ds := (each_tr t rv).mono fun u d ⟨v, r, td⟩ => by
    obtain ⟨as, rd⟩ := Dp.reads I d v u (Tr.dp d v td) r
    exact ⟨as, PyProof.Rows.Reads.keeps (fun b o e => PySem.W.sortingHeap_old (old b o e).1 (old b o e).2) rd⟩
  have al' : PySem.W.AllAlike (ds.map id) := by rw [List.map_id]; exact al
  have so' : PySem.W.Sortable (ds.map id) := by rw [List.map_id]; exact so
  have no1 : s.heap.get? h1.objs.size = none := by
    cases e : s.heap.get? h1.objs.size with
    | none => rfl
    | some o => exact absurd rfl (old _ o e).1
  have no2 : H h1.objs.size = none := I.hok.gone no1
  refine wpAny_bind (wpAny_holding (wpAny_call_entry slot_list_sort ⟨_, hoL, rfl⟩ entry_list_sort (PySem.W.list_sort_vals (κ := PySem.W.dataKind (PySem.W.sortingHeap (h1.push (seqObj "list" its.toArray 0)) h1.objs.size its) (ds.map id)) hoL
    (PySem.W.SortsAt.data (s := { s with heap := PySem.W.sortingHeap (h1.push (seqObj "list" its.toArray 0)) h1.objs.size its }) (PySem.W.each_map (R := fun v d => ∃ as, Reads (PySem.W.sortingHeap (h1.push (seqObj "list" its.toArray 0)) h1.objs.size its) v d as) id er) al' so' ?_) hL ⟨_, rfl, ?_⟩) (args_list_sort _)))
  · intro d hd2
    rw [List.map_id] at hd2
    have := hd d hd2
    show X.A.units + 1 + 1 + d.depth < cLine
    omega
  refine wpAny_pure ⟨_, rfl, ?_⟩
  have ev := PySem.W.sortVals_data (h' := PySem.W.sortingHeap (h1.push (seqObj "list" its.toArray 0)) h1.objs.size its) (R := fun u (d : PyData) => ∃ v, RelV v u ∧ Tr H d v) (enc := id) false (each_tr t rv) er al'
  obtain ⟨ws, rw1, tw⟩ := tr_each ev
  obtain ⟨ep, he⟩ := sortedHeap_at (h := h1.push (seqObj "list" its.toArray 0)) (out := (PySem.W.sortVals (PySem.W.dataKind (PySem.W.sortingHeap (h1.push (seqObj "list" its.toArray 0)) h1.objs.size its) (ds.map id)) false its its).toArray) hoL
  have hlen : ws.length ≤ sizeLine := by
    rw [rw1.length, PySem.W.sortVals_length false rfl]
    exact hL
  have kk : Kp [] H (upd H h1.objs.size (.lst ws)) := Kp.new no2
  refine ⟨.ref _, upd H h1.objs.size (.lst ws), I.laidN (t' := s.toks) (fun b o e => ?_) no1 no2 ⟨hlen, _, ep, rw1, he⟩, rfl, q _ ws _ upd_same (kk.trAll tw) kk⟩
  rw [sortedHeap_old (old b o e).1 (Heap.lt_size (old b o e).2)]
  exact (old b o e).2
end
end EH
namespace EH
open PySem L2
theorem hu65_of {A : Around} {k : Nat} (hr : Room k A) : A.units + 65 < cLine := by have := hr.un; omega
/-- what stands in left -/
def LeftAt (H : Hp) (l : Addr) : Option (List Int) → Prop
  | none => H l = some (.lst [])
  | some c => ∃ q, H l = some (.lst [.ref q]) ∧ H q = some (.tup (c.map V.int))
def spNext : Sp := fun vs H Q _ => ∃ (p : Addr) (ts : List Int), vs = [.ref p] ∧ H p = some (.tup (ts.map V.int)) ∧ ts.length ≤ 1000 ∧
  ∀ (l : Addr) (H' : Hp), H l = none → LeftAt H' l (nxt ts) → Kp [] H H' → Q (.ref l) H'
theorem nxt_none_of {ts : List Int} (h : ∀ i, i < ts.length → ts[i]? = some 1) : nxt ts = none := nxt_ones fun x hx => by
  obtain ⟨i, hi, e⟩ := List.getElem_of_mem hx
  have := h i hi
  rw [List.getElem?_eq_getElem hi, e] at this
  exact Option.some.inj this
theorem nxt_some_of {ts : List Int} {m : Nat} {x : Int} (hm : ts[m]? = some x) (hx : x ≠ 1) (h : ∀ i, m < i → i < ts.length → ts[i]? = some 1) : nxt ts = some (ts.take m ++ [1]) := by
  have hl : m < ts.length := by
    by_cases z : m < ts.length
    · exact z
    · rw [List.getElem?_eq_none (by omega)] at hm; cases hm
  have e : ts = ts.take m ++ x :: ts.drop (m + 1) := by
    rw [List.getElem?_eq_getElem hl] at hm
    cases hm
    rw [List.getElem_cons_drop hl, List.take_append_drop]
  have := nxt_at (x := x) (r := ts.drop (m + 1)) hx (by
    intro y hy
    obtain ⟨i, hi, e⟩ := List.getElem_of_mem hy
    rw [List.length_drop] at hi
    have z := h (m + 1 + i) (by omega) (by omega)
    rw [List.getElem_drop] at e
    rw [List.getElem?_eq_getElem (by omega), e] at z
    exact Option.some.inj z) (ts.take m)
  rw [← e] at this
  exact this
/-- a run as runs_on tells it -/
def runD (r : Option Str × Cs) : PyData := .tuple [.tuple (r.2.turns.map PyData.int), .tuple (r.2.said.map kD), wD r.1]
def outD (r : Option Str × Cs) : PyData := .tuple [.tuple (r.2.said.map kD), wD r.1]
def spRunsOn (m : Nat) : Sp := fun vs H Q _ => ∃ (v : V) (b : List Sm) (num : Int) (wd : Addr) (wk : List (Key × V)) (ways : Int → Option Int), vs = [v, .int num, .ref wd] ∧ Tr H (.tuple (Sm.ds b)) v ∧
  H wd = some (.dK wk) ∧ WaysRel wk ways ∧ Sm.oks b ∧ Sm.wts b ≤ 100000 ∧ Sm.pls b ≤ 1000000 ∧ Sm.nests b ≤ m ∧ Sm.hvs b ≤ 8 ∧ ∀ (l : Addr) (Rs : List (Option Str × Cs)) (xs : List V) (H' : Hp), H l = none → Chn ways b num Rs none → H' l = some (.lst xs) → TrAll H' (Rs.map runD) xs → Kp [] H H' → Q (.ref l) H'
def msr (k : Nat) (o : Option (List Int)) : Nat := ((2 : Int) ^ k - topO k o).toNat
section
variable {ways : Int → Option Int} {b : List Sm} {n : Int} {k : Nat}
theorem ChOk.top_le (o : Sm.oks b) (hv : Sm.hvs b ≤ k) {Rs : List (Option Str × Cs)} {c : Option (List Int)} (h : ChOk ways b n k Rs c) : topO k c ≤ (2 : Int) ^ k := by
  refine topO_le fun c e => ?_
  obtain ⟨h1, h2⟩ := h.cs c e
  exact ⟨h1, Nat.le_trans h2 (rn_len o hv c)⟩
theorem msr_lt (o : Sm.oks b) (hv : Sm.hvs b ≤ k) {Rs : List (Option Str × Cs)} {c : List Int} (h : Chn ways b n Rs (some c)) : msr k (nxt (rn ways b n c).2.turns) < msr k (some c) := by
  have h1 := h.ok (k := k) o hv
  have h2 := h.snoc.ok (k := k) o hv
  have t2 := h2.top_le o hv
  have s1 := h1.sum
  have s2 := h2.sum
  rw [List.map_append, List.sum_append, s1] at s2
  have p := pw_pos k (rn ways b n c).2.turns
  have e : ([rn ways b n c].map fun R => pw k R.2.turns).sum = pw k (rn ways b n c).2.turns := by
    show pw k _ + 0 = _
    omega
  rw [e] at s2
  unfold msr
  omega
theorem Chn.len (o : Sm.oks b) (hv : Sm.hvs b ≤ 8) {Rs : List (Option Str × Cs)} {c : Option (List Int)} (h : Chn ways b n Rs c) : Rs.length ≤ 256 := by
  have := (h.ok (k := 8) o hv).len o hv
  have e : (2 : Int) ^ 8 = 256 := by decide
  omega
end
/-- unlike ones alone, in order -/
def ddp : List PyData → List PyData → List PyData
  | acc, [] => acc
  | acc, d :: r => ddp (if acc.any (fun z => PyData.eqv z d) then acc else acc ++ [d]) r
theorem ddp_app : ∀ (l : List PyData) (acc : List PyData) (d : PyData), ddp acc (l ++ [d]) = if (ddp acc l).any (fun z => PyData.eqv z d) then ddp acc l else ddp acc l ++ [d]
  | [], acc, d => rfl
  | x :: r, acc, d => by
    show ddp _ (r ++ [d]) = _
    rw [ddp_app r]
    rfl
theorem ddp_mem : ∀ {l acc : List PyData} {d : PyData}, d ∈ ddp acc l → d ∈ acc ∨ d ∈ l
  | [], acc, d, h => .inl h
  | x :: r, acc, d, h => by
    rcases ddp_mem (l := r) h with z | z
    · by_cases c : acc.any (fun z => PyData.eqv z x) = true
      · rw [if_pos c] at z
        exact .inl z
      · rw [if_neg c] at z
        rcases List.mem_append.mp z with z | z
        · exact .inl z
        · exact .inr (by rw [List.mem_singleton.mp z]; exact List.mem_cons_self)
    · exact .inr (List.mem_cons_of_mem _ z)
theorem ddp_len : ∀ {l acc : List PyData}, (ddp acc l).length ≤ acc.length + l.length
  | [], acc => Nat.le_refl _
  | x :: r, acc => by
    have h := ddp_len (l := r) (acc := if acc.any (fun z => PyData.eqv z x) then acc else acc ++ [x])
    have e : (if acc.any (fun z => PyData.eqv z x) then acc else acc ++ [x]).length ≤ acc.length + 1 := by
      by_cases c : acc.any (fun z => PyData.eqv z x) = true
      · rw [if_pos c]; omega
      · rw [if_neg c, List.length_append]; exact Nat.le_refl _
    rw [List.length_cons]
    show (ddp _ r).length ≤ _
    omega
theorem ddp_out {Rs : List (Option Str × Cs)} {d : PyData} (h : d ∈ ddp [] (Rs.map outD)) : ∃ R ∈ Rs, d = outD R := by
  rcases ddp_mem h with z | z
  · cases z
  · obtain ⟨R, h1, rfl⟩ := List.mem_map.mp z
    exact ⟨R, h1, rfl⟩
theorem ddp_take {Rs : List (Option Str × Cs)} {i : Nat} {R : Option Str × Cs} (h : Rs[i]? = some R) : ddp [] ((Rs.take (i + 1)).map outD) = if (ddp [] ((Rs.take i).map outD)).any (fun z => PyData.eqv z (outD R)) then ddp [] ((Rs.take i).map outD) else ddp [] ((Rs.take i).map outD) ++ [outD R] := by
  rw [List.take_add_one, h, List.map_append]
  exact ddp_app _ _ _
def spOutcomes (m : Nat) : Sp := fun vs H Q _ => ∃ (v : V) (b : List Sm) (num : Int), vs = [v, .int num] ∧ Tr H (.tuple (Sm.ds b)) v ∧ PrOk b ∧ -BIG ≤ num ∧ num ≤ BIG ∧ Sm.nests b ≤ m ∧
  ∀ (p : Addr) (Rs : List (Option Str × Cs)) (xs : List V) (H' : Hp), Chn noWay b num Rs none → H' p = some (.tup xs) → TrAll H' (ddp [] (Rs.map outD)) xs → Kp [] H H' → Q (.ref p) H'
theorem kD_lay {k : Key} (h : kOk (BM - 1) k) : (kD k).canLay0 = true ∧ (kD k).depth = 0 := by
  cases k with
  | inl i => exact ⟨rfl, rfl⟩
  | inr c => exact ⟨by simp only [kD, PyData.canLay0]; exact h.1, rfl⟩
theorem lay_all {ds : List PyData} {k : Nat} (h : ∀ d ∈ ds, d.canLay0 = true ∧ d.depth ≤ k) : PyData.canLayAll0 ds = true ∧ PyData.depthAll ds ≤ k := by
  induction ds with
  | nil => exact ⟨by simp only [PyData.canLayAll0], by simp only [PyData.depthAll]; omega⟩
  | cons d r ih =>
    obtain ⟨i1, i2⟩ := ih fun d hd => h d (List.mem_cons_of_mem _ hd)
    obtain ⟨j1, j2⟩ := h d List.mem_cons_self
    exact ⟨by simp only [PyData.canLayAll0, i1, j1]; rfl, by simp only [PyData.depthAll]; omega⟩
theorem wD_lay {o : Option Str} (h : ∀ c, o = some c → PyData.strOk c = true ∧ c.length ≤ 20) : (wD o).canLay0 = true ∧ (wD o).depth = 0 := by
  cases o with
  | none => exact ⟨rfl, rfl⟩
  | some c => exact ⟨by simp only [wD, PyData.canLay0]; exact (h c rfl).1, rfl⟩
theorem outD_lay {r : Option Str × Cs} (o : ROk r) : (outD r).canLay0 = true ∧ (outD r).depth ≤ 2 := by
  have h1 := lay_all (ds := r.2.said.map kD) (k := 0) (by
    intro d hd
    obtain ⟨k, hk, rfl⟩ := List.mem_map.mp hd
    obtain ⟨a, b⟩ := kD_lay (o.said k hk)
    exact ⟨a, by omega⟩)
  have h2 := wD_lay o.word
  refine ⟨?_, ?_⟩
  · simp only [outD, PyData.canLay0, PyData.canLayAll0, h1.1, h2.1]
    rfl
  · simp only [outD, PyData.depth, PyData.depthAll, h2.2]
    omega
theorem outD_shaped {r : Option Str × Cs} (o : ROk r) : SeqAt.shaped (outD r) = true := shaped_of (outD_lay o).1 (by have := (outD_lay o).2; omega)
theorem outs_shaped {ds : List PyData} (h : ∀ d ∈ ds, ∃ r, ROk r ∧ d = outD r) : SeqAt.shaped (.list ds) = true := by
  have := lay_all (ds := ds) (k := 2) (by
    intro d hd
    obtain ⟨r, o, rfl⟩ := h d hd
    exact outD_lay o)
  exact shaped_of (by simp only [PyData.canLay0]; exact this.1) (by simp only [PyData.depth]; omega)
end EH
namespace EH
open PySem L2
theorem iteB {b : Bool} {p q : Prop} (h1 : b = true → p) (h2 : b = false → q) : if b = true then p else q := by
  cases b with
  | true => exact h1 rfl
  | false => exact h2 rfl
/-! ### against an empty list, an empty tuple -/
def rNeNil : R2 := fun x y H Q => ∃ a b xs, x = .ref a ∧ y = .ref b ∧ H a = some (.lst xs) ∧ H b = some (.lst []) ∧ Q (.bl (!xs.isEmpty)) H
def rEqNil : R2 := fun x y H Q => ∃ a b xs, x = .ref a ∧ y = .ref b ∧ H a = some (.lst xs) ∧ H b = some (.lst []) ∧ Q (.bl xs.isEmpty) H
def rNeNilT : R2 := fun x y H Q => ∃ a b xs, x = .ref a ∧ y = .ref b ∧ H a = some (.tup xs) ∧ H b = some (.tup []) ∧ Q (.bl (!xs.isEmpty)) H
def rEqNilT : R2 := fun x y H Q => ∃ a b xs, x = .ref a ∧ y = .ref b ∧ H a = some (.tup xs) ∧ H b = some (.tup []) ∧ Q (.bl xs.isEmpty) H
section
variable {X : Cx}
theorem nil_len {xs : List V} {its : List Value} (r : Vals xs its) : its.toArray.size = 0 ↔ xs.isEmpty = true := by
  have := r.length
  rw [List.size_toArray, ← this]
  cases xs with
  | nil => exact ⟨fun _ => rfl, fun _ => rfl⟩
  | cons a b => exact ⟨fun z => (nomatch z), fun z => (nomatch z)⟩
theorem op_neNil (hu : X.A.units + 1 < cLine) : OpR X (compareOp .NotEq) rNeNil := by
  intro pins s σ H x y v u Q I rx ry h
  obtain ⟨a, b, xs, rfl, rfl, ha, hb, q⟩ := h
  cases rx
  cases ry
  obtain ⟨its, r, ht, hz⟩ := I.list (SqL.of ha)
  obtain ⟨its2, r2, ht2, hz2⟩ := I.list (SqL.of hb)
  have e2 := nil_len r2
  have e1 := nil_len r
  have z2 : its2.toArray.size = 0 := e2.mpr rfl
  cases xs with
  | nil =>
    have z1 : its.toArray.size = 0 := e1.mpr rfl
    refine SeqAt.RcNeAt.lists ht.isList ht2.isList (z1.trans z2.symm) (by omega) (e := fun _ => true) (fun j h1 _ => absurd h1 (by omega)) _ _ _ _ ?_
    exact ⟨.bl _, H, I, by rw [z1]; rfl, q⟩
  | cons c d =>
    refine SeqAt.RcNeAt.lists_lengths ht.isList ht2.isList ?_ (by omega) _ _ _ _ ⟨.bl _, H, I, rfl, q⟩
    have : its.toArray.size ≠ 0 := fun z => by have := e1.mp z; cases this
    rw [z2]
    simpa using this
theorem op_eqNil (hu : X.A.units + 1 < cLine) : OpR X (compareOp .Eq) rEqNil := by
  intro pins s σ H x y v u Q I rx ry h
  obtain ⟨a, b, xs, rfl, rfl, ha, hb, q⟩ := h
  cases rx
  cases ry
  obtain ⟨its, r, ht, hz⟩ := I.list (SqL.of ha)
  obtain ⟨its2, r2, ht2, hz2⟩ := I.list (SqL.of hb)
  have e2 := nil_len r2
  have e1 := nil_len r
  have z2 : its2.toArray.size = 0 := e2.mpr rfl
  cases xs with
  | nil =>
    have z1 : its.toArray.size = 0 := e1.mpr rfl
    refine SeqAt.RcAt.lists ht.isList ht2.isList (z1.trans z2.symm) (by omega) (e := fun _ => true) (fun j h1 _ => absurd h1 (by omega)) _ _ _ _ ?_
    exact ⟨.bl _, H, I, by rw [z1]; rfl, q⟩
  | cons c d =>
    refine SeqAt.RcAt.lists_lengths ht.isList ht2.isList ?_ (by omega) _ _ _ _ ⟨.bl _, H, I, rfl, q⟩
    have : its.toArray.size ≠ 0 := fun z => by have := e1.mp z; cases this
    rw [z2]
    simpa using this
theorem op_neNilT (hu : X.A.units + 1 < cLine) : OpR X (compareOp .NotEq) rNeNilT := by
  intro pins s σ H x y v u Q I rx ry h
  obtain ⟨a, b, xs, rfl, rfl, ha, hb, q⟩ := h
  cases rx
  cases ry
  obtain ⟨its, r, ht, hz⟩ := I.tuple (SqT.of ha)
  obtain ⟨its2, r2, ht2, hz2⟩ := I.tuple (SqT.of hb)
  have e2 := nil_len r2
  have e1 := nil_len r
  have z2 : its2.toArray.size = 0 := e2.mpr rfl
  refine SeqAt.RcNeAt.tuples ht ht2 (by omega) (e := fun _ => true) (fun j h1 h2 => absurd h2 (by omega)) _ _ _ _ ⟨.bl _, H, I, ?_, q⟩
  rw [z2, Nat.min_zero]
  show Value.bool (!(true && its.toArray.size == 0)) = Value.bool (!xs.isEmpty)
  cases xs with
  | nil => rw [e1.mpr rfl]; rfl
  | cons c d =>
    have : its.toArray.size ≠ 0 := fun z => by have := e1.mp z; cases this
    rw [show (its.toArray.size == 0) = false from beq_false_of_ne this]
    rfl
theorem op_eqNilT (hu : X.A.units + 1 < cLine) : OpR X (compareOp .Eq) rEqNilT := by
  intro pins s σ H x y v u Q I rx ry h
  obtain ⟨a, b, xs, rfl, rfl, ha, hb, q⟩ := h
  cases rx
  cases ry
  obtain ⟨its, r, ht, hz⟩ := I.tuple (SqT.of ha)
  obtain ⟨its2, r2, ht2, hz2⟩ := I.tuple (SqT.of hb)
  have e2 := nil_len r2
  have e1 := nil_len r
  have z2 : its2.toArray.size = 0 := e2.mpr rfl
  refine SeqAt.RcAt.tuples ht ht2 (by omega) (e := fun _ => true) (fun j h1 h2 => absurd h2 (by omega)) _ _ _ _ ⟨.bl _, H, I, ?_, q⟩
  rw [z2, Nat.min_zero]
  show Value.bool (true && its.toArray.size == 0) = Value.bool xs.isEmpty
  cases xs with
  | nil => rw [e1.mpr rfl]; rfl
  | cons c d =>
    have : its.toArray.size ≠ 0 := fun z => by have := e1.mp z; cases this
    rw [show (its.toArray.size == 0) = false from beq_false_of_ne this]
    rfl
/-! ### xs[::-1], xs.pop() -/
def tRevA (K : PySem.W.Frag) (te : TE) : TE := fun σ H Q => te σ H fun x H1 => ∃ a xs, x = .ref a ∧ SqL K H1 a xs ∧ ∀ p H2, H1 p = none → H2 = upd H1 p (.lst xs.reverse) → Q (.ref p) H2
theorem pe_revLA {K : PySem.W.Frag} {e : Expr} {te : TE} {k : Nat} {p1 p2 p3 pos : Pos} (hK : X.K = K) (he : PE X e te) : PE X (.Subscript e (.Slice none none (some (.UnaryOp .USub (.Constant (.int 1) k p1) p2)) p3) pos) (tRevA K te) := by
  subst hK
  refine PE.imp (pe_revL he) fun σ H Q q => ?_
  unfold tRevL
  unfold tRevA at q
  have z : (fun (x : V) (H1 : Hp) => ∃ a xs, x = .ref a ∧ SqL X.K H1 a xs ∧ ∀ p, H1 p = none → Q (.ref p) (upd H1 p (.lst xs.reverse))) = (fun (x : V) (H1 : Hp) => ∃ a xs, x = .ref a ∧ SqL X.K H1 a xs ∧ ∀ p H2, H1 p = none → H2 = upd H1 p (.lst xs.reverse) → Q (.ref p) H2) := by
    funext x H1
    exact propext ⟨fun ⟨a, xs, e, h, q⟩ => ⟨a, xs, e, h, fun p H2 hp e2 => e2 ▸ q p hp⟩, fun ⟨a, xs, e, h, q⟩ => ⟨a, xs, e, h, fun p hp => q p _ hp rfl⟩⟩
  rw [z]
  exact q
def rPopA : V → List V → Hp → VK → Prop := fun x vs H Q => ∃ l xs y, x = .ref l ∧ vs = [] ∧ H l = some (.lst (xs ++ [y])) ∧ PutQ H l (.lst xs) (Q y)
theorem mt_popA : MtR X "list.pop" rPopA := MtR.imp mt_pop fun x vs H Q ⟨l, xs, y, e1, e2, h1, q⟩ => ⟨l, xs ++ [y], y, e1, e2, h1, by simp, by rw [List.dropLast_concat]; exact q.to h1 (fun _ z => by cases z)⟩
end
end EH
namespace EH
open PySem L2
local macro_rules | `(tactic| walk_at "sd") => `(tactic| first | assumption | ((with_reducible show (_ : Int) ≤ _); omega) | ((with_reducible show (_ : Int) < _); omega) | rfl | exact SqL.of (by assumption) | exact SqT.of (by assumption) | exact atI_nat (j := 0) rfl | exact atI_nat (j := 1) rfl | exact atI_nat (j := 2) rfl | exact atI_nat (j := 3) rfl | exact sz_lit rfl | exact lt_lit rfl | exact pos_lit rfl | exact le_lit rfl | exact Or.inl (SqL.of (by assumption)) | exact ⟨_, SqL.of (by assumption)⟩ | exact ⟨_, SqT.of (by assumption)⟩ | exact Or.inr (SqT.of (by assumption)) | exact ClsV.ty _ | exact TyX.base (TyOf.int _) | exact TyX.base (TyOf.str _) | exact TyX.base (TyOf.tup (by assumption)) | exact kit_ty isi_ss | exact kit_ty isi_is | exact kit_ty isi_ts | exact kit_ty isi_si | exact kit_ty isi_ii | exact kit_ty isi_ti | exact kit_ty isi_st | exact kit_ty isi_it | exact kit_ty isi_tt | exact Or.inl ⟨_, Or.inl (by assumption)⟩ | exact DGet.k (k := Sum.inr _) (by assumption) | exact DGet.k (k := Sum.inl _) (by assumption) | (refine cpow_of ?_; decide) | (refine cmul_of ?_; decide) | (show (_ : Int) ≠ 0; first | decide | omega) | (refine cdivn_of ?_; decide) | exact Or.inl ⟨rfl, _, SqL.of (by assumption)⟩ | omega)
local macro_rules | `(tactic| walk_at "st") => `(tactic| first | (apply Exists.intro) | (refine And.intro ?_ ?_; focus (walk_at "sd")) | (apply Or.inl; apply Exists.intro; refine And.intro ?_ ?_; focus rfl) | (apply Or.inr; apply Exists.intro; refine And.intro ?_ ?_; focus rfl))
local macro_rules | `(tactic| walk_at "go") => `(tactic| repeat (walk_at "st"))
section
variable {P : Program} {w : World} {K : PySem.W.Frag} {mg : Str → Option Value} {base : Heap}
theorem ok_next_choices (T : Top K mg) : FnOk P w K mg base CX0 1 T.next_choices.f T.next_choices.fd ["turns"] spNext := by
  refine T.next_choices.F.ok sc_next_choices (fun vs H Q E h => ?_) (fun cdv A outer s H vs Q E hr h => ?_)
  · obtain ⟨p, cs, rfl, _⟩ := h
    rfl
  obtain ⟨p, ts, rfl, h0, l0, q⟩ := h
  have hu64 := hr.units
  refine ⟨_, (pss_cons (ps_set (i := 1) sc_next_choices.nd rfl (.inl rfl) (pe_op op_sub (pe_callB (id := "len") (call_lenK (K := K) rfl) (by rfl) T.len PySem.boot_len (pa_cons (pv 0) pa_nil)) pe_int))
      (pss_cons (ps_whileA (ps_while PassesOwn.never (PW.pt (pw_and (pt_cmpR op_ge (pv 1) pe_int (nomark _)) (pw_and1 (pt_cmpR op_eq (pe_ix (ix_tupK (K := K) rfl) (pv 0) (pv 1) (fun _ _ => rfl)) pe_int (nomark _))))) (pss_one (ps_aug (i := 1) sc_next_choices.nd rfl (.inl rfl) pe_int ip_sub))))
      (pss_one (ps_ret (pe_ifExp (pt_cmpR op_ge (pv 1) pe_int (nomark _)) (pe_lstA (pa_cons (pe_op (op_catTK (K := K) rfl) (pe_slice (sl_tupK (K := K) rfl) (pv 0) po_none (po_some (pv 1))) (pe_tupA (pa_cons pe_int pa_nil))) pa_nil)) (pe_lstA pa_nil)))))), ?_⟩
  walk_at "go"
  refine ⟨fun m σ H1 => Lp (σ = [some (.ref p), some (.int ((m : Int) - 1))] ∧ m ≤ ts.length ∧ H1 = H ∧ ∀ i, m ≤ i → i < ts.length → ts[i]? = some 1), ⟨ts.length, ⟨?_, Nat.le_refl _, rfl, fun i h1 h2 => absurd h2 (by omega)⟩⟩, ?_⟩
  · rw [List.length_map]
    rfl
  rintro m σ H1 ⟨⟨rfl, hm, rfl, ones⟩⟩
  walk_at "go"
  refine ite2 (fun hc => ?_) (fun hc => ?_)
  · have hc := of_decide_eq_true hc
    obtain ⟨m', rfl⟩ : ∃ m', m = m' + 1 := ⟨m - 1, by omega⟩
    have hl : m' < ts.length := by omega
    obtain ⟨x, ex⟩ : ∃ x, ts[m']? = some x := ⟨_, List.getElem?_eq_getElem hl⟩
    have em : (((m' + 1 : Nat) : Int) - 1) = (m' : Int) := by omega
    have ax : atI (ts.map V.int) (((m' + 1 : Nat) : Int) - 1) = some (.int x) := by
      rw [em]
      exact atI_nat (by rw [List.getElem?_map, ex]; rfl)
    walk_at "go"
    refine ite2 (fun hd => ?_) (fun hd => ?_)
    · have hx : x = 1 := V.int.inj (of_decide_eq_true hd)
      subst hx
      refine ⟨fun σ H3 => Lp (σ = [some (.ref p), some (.int ((m' : Int) - 1))] ∧ m' ≤ ts.length ∧ H3 = H1 ∧ ∀ i, m' ≤ i → i < ts.length → ts[i]? = some 1), fun σ' H' x => ⟨m', by omega, x⟩, ?_⟩
      walk_at "go"
      refine ⟨?_, by omega, rfl, fun i h1 h2 => ?_⟩
      · rw [em]
        rfl
      · by_cases z : i = m'
        · subst z; exact ex
        · exact ones i (by omega) h2
    · have hx : x ≠ 1 := fun z => by
        subst z
        simp at hd
      have en := nxt_some_of ex hx (fun i h1 h2 => ones i (by omega) h2)
      walk_at "go"
      have dt : decide ((0 : Int) ≤ ((m' + 1 : Nat) : Int) - 1) = true := decide_eq_true hc
      rw [dt]
      refine iteT ?_
      walk_at "go"
      intro p2 H2 a2 k2
      rw [em, cut_to, ← List.map_take] at a2
      walk_at "go"
      intro u3 H3 hu3 e3
      have k3 := new_kp hu3 e3
      have a3 := new_at e3
      have a23 := k3.tup _ _ a2
      have sz3 : ((ts.take m').map V.int).length + [V.int 1].length ≤ sizeLine := by
        rw [List.length_map, List.length_take]
        exact sz_le (by simp only [List.length_singleton]; omega)
      walk_at "go"
      intro p4 H4 a4 k4
      replace a4 : H4 p4 = some (.tup ((ts.take m' ++ [1]).map V.int)) := by
        rw [List.map_append]
        exact a4
      walk_at "go"
      intro l5 H5 hl5 e5
      have k5 := new_kp hl5 e5
      refine q l5 H5 (((k2.trans k3).trans k4).free hl5 (by simp)) ?_ (((k2.trans k3).trans k4).trans k5)
      rw [en]
      exact ⟨p4, new_at e5, k5.tup _ _ a4⟩
  · have hc : ¬ (0 : Int) ≤ (m : Int) - 1 := fun z => hc (decide_eq_true z)
    have m0 : m = 0 := by omega
    subst m0
    have en := nxt_none_of fun i hi => ones i (Nat.zero_le _) hi
    walk_at "go"
    intro l2 H2 hl2 e2
    refine q l2 H2 hl2 ?_ (new_kp hl2 e2)
    rw [en]
    exact new_at e2
end
end EH
namespace EH
open PySem L2
local macro_rules | `(tactic| walk_at "sd") => `(tactic| first | assumption | ((with_reducible show (_ : Int) ≤ _); omega) | ((with_reducible show (_ : Int) < _); omega) | rfl | exact SqL.of (by assumption) | exact SqT.of (by assumption) | exact atI_nat (j := 0) rfl | exact atI_nat (j := 1) rfl | exact atI_nat (j := 2) rfl | exact atI_nat (j := 3) rfl | exact sz_lit rfl | exact lt_lit rfl | exact pos_lit rfl | exact le_lit rfl | exact Or.inl (SqL.of (by assumption)) | exact ⟨_, SqL.of (by assumption)⟩ | exact ⟨_, SqT.of (by assumption)⟩ | exact Or.inr (SqT.of (by assumption)) | exact ClsV.ty _ | exact TyX.base (TyOf.int _) | exact TyX.base (TyOf.str _) | exact TyX.base (TyOf.tup (by assumption)) | exact kit_ty isi_ss | exact kit_ty isi_is | exact kit_ty isi_ts | exact kit_ty isi_si | exact kit_ty isi_ii | exact kit_ty isi_ti | exact kit_ty isi_st | exact kit_ty isi_it | exact kit_ty isi_tt | exact Or.inl ⟨_, Or.inl (by assumption)⟩ | exact DGet.k (k := Sum.inr _) (by assumption) | exact DGet.k (k := Sum.inl _) (by assumption) | (refine cpow_of ?_; decide) | (refine cmul_of ?_; decide) | (show (_ : Int) ≠ 0; first | decide | omega) | (refine cdivn_of ?_; decide) | exact Or.inl ⟨rfl, _, SqL.of (by assumption)⟩ | omega)
local macro_rules | `(tactic| walk_at "st") => `(tactic| first | (apply Exists.intro) | (refine And.intro ?_ ?_; focus (walk_at "sd")) | (apply Or.inl; apply Exists.intro; refine And.intro ?_ ?_; focus rfl) | (apply Or.inr; apply Exists.intro; refine And.intro ?_ ?_; focus rfl))
local macro_rules | `(tactic| walk_at "go") => `(tactic| repeat (walk_at "st"))
section
variable {P : Program} {w : World} {K : PySem.W.Frag} {mg : Str → Option Value} {base : Heap}
theorem ok_runs_on (T : Top K mg) (m : Nat) : FnOk P w K mg base CX0 (m + 11) T.runs_on.f T.runs_on.fd ["program", "number", "ways"] (spRunsOn m) := by
  have G_run_of : FnOk P w K mg base CX0 (m + 10) T.run_of.f T.run_of.fd ["program", "number", "choices", "ways"] (spRunOf m) := ok_run_of T m
  have G_next_choices : FnOk P w K mg base CX0 1 T.next_choices.f T.next_choices.fd ["turns"] spNext := ok_next_choices T
  refine T.runs_on.F.ok sc_runs_on (fun vs H Q E h => ?_) (fun cdv A outer s H vs Q E hr h => ?_)
  · obtain ⟨v, b, num, wd, wk, ways, rfl, _⟩ := h
    rfl
  obtain ⟨v, b, num, wd, wk, ways, rfl, hT, hd, hw, hok, hwt, hp, hm, hh, q⟩ := h
  have hu64 := hr.units
  have hu := hu_of hr
  refine ⟨_, (pss_cons (ps_par (i := 3) (j := 4) (by rfl) sc_runs_on.nd rfl rfl (by decide) rfl rfl (pa_cons (pe_lstA (pa_cons (pe_tupA pa_nil) pa_nil)) (pa_cons (pe_lstA pa_nil) pa_nil)) (by rfl))
      (pss_cons (ps_whileA (ps_while PassesOwn.never (pt_cmpR (op_neNil hu) (pv 3) (pe_lstA pa_nil) (nomark _)) (pss_cons (ps_asg (pe_call G_run_of (hr.mono (by omega)) (by rfl) T.run_of.g T.run_of.F.kp T.run_of.b .nil pass0 (pa_cons (pv 0) (pa_cons (pv 1) (pa_cons (pe_ix (ix_listK (K := K) rfl) (pv 3) pe_int (fun _ _ => rfl)) (pa_cons (pv 2) pa_nil))))) (pg_tup (by rfl) (pgs_cons (pg_name (i := 5) sc_runs_on.nd rfl (.inl rfl)) (pgs_cons (pg_name (i := 6) sc_runs_on.nd rfl (.inl rfl)) (pgs_cons (pg_name (i := 7) sc_runs_on.nd rfl (.inl rfl)) pgs_nil)))))
      (pss_cons (ps_expr (pe_bmK (K := K) rfl PySem.F.plainAttrs_list PySem.F.slot_list_append PySem.F.type_list_append mt_appendA (pv 4) (pa_cons (pe_tupA (pa_cons (pv 7) (pa_cons (pv 5) (pa_cons (pv 6) pa_nil)))) pa_nil)))
      (pss_one (ps_set (i := 3) sc_runs_on.nd rfl (.inl rfl) (pe_call G_next_choices (hr.mono (by omega)) (by rfl) T.next_choices.g T.next_choices.F.kp T.next_choices.b .nil pass0 (pa_cons (pv 7) pa_nil))))))))
      (pss_one (ps_ret (pv 4))))), ?_⟩
  walk_at "go"
  intro u1 H1 hu1 e1
  have k1 := new_kp hu1 e1
  have a1 := new_at e1
  walk_at "go"
  intro l2 H2 hl2 e2
  have k2 := new_kp hl2 e2
  have a2 := new_at e2
  have a12 := k2.tup _ _ a1
  walk_at "go"
  intro f3 H3 hf3 e3
  have k3 := new_kp hf3 e3
  have a3 := new_at e3
  have a23 := k3.at a2
  have a13 := k3.tup _ _ a12
  have k123 := (k1.trans k2).trans k3
  have ff : H f3 = none := (k1.trans k2).free hf3 (by simp)
  walk_at "go"
  refine ⟨fun mm σ H4 => Lp (∃ (l : Addr) (o : Option (List Int)) (Rs : List (Option Str × Cs)) (xs : List V) (w5 w6 w7 : Option V), σ = [some v, some (.int num), some (.ref wd), some (.ref l), some (.ref f3), w5, w6, w7] ∧ msr 8 o = mm ∧ Chn ways b num Rs o ∧ LeftAt H4 l o ∧ l ≠ f3 ∧ H4 f3 = some (.lst xs) ∧ TrAll H4 (Rs.map runD) xs ∧ Kp [] H H4), ⟨_, ⟨l2, some [], [], [], none, none, none, rfl, rfl, .nil, ⟨u1, a23, a13⟩, ?_, a3, trs_nil, k123⟩⟩, ?_⟩
  · intro z
    subst z
    rw [a2] at hf3
    cases hf3
  rintro mm σ H4 ⟨⟨l, o, Rs, xs, w5, w6, w7, rfl, rfl, ch, la, nlf, fa, tf, kk⟩⟩
  cases o with
  | none =>
    have la : H4 l = some (.lst []) := la
    walk_at "go"
    intro u5 H5 hu5 e5
    have k5 := new_kp hu5 e5
    have a5 := new_at e5
    have la5 := k5.at la
    refine ⟨l, u5, [], rfl, rfl, la5, a5, _, rfl, ?_⟩
    refine iteF ?_
    walk_at "go"
    exact q f3 Rs xs H5 ff ch (k5.at fa) (k5.trAll tf) (kk.trans k5)
  | some c =>
    obtain ⟨pc, la, pa⟩ := la
    walk_at "go"
    intro u5 H5 hu5 e5
    have k5 := new_kp hu5 e5
    have a5 := new_at e5
    have la5 := k5.at la
    have pa5 := k5.tup _ _ pa
    refine ⟨l, u5, [.ref pc], rfl, rfl, la5, a5, _, rfl, ?_⟩
    refine iteT ?_
    refine ⟨fun σ H6 => Lp (∃ (l : Addr) (Rs : List (Option Str × Cs)) (xs : List V) (w5 w6 w7 : Option V), σ = [some v, some (.int num), some (.ref wd), some (.ref l), some (.ref f3), w5, w6, w7] ∧ Chn ways b num Rs (nxt (rn ways b num c).2.turns) ∧ LeftAt H6 l (nxt (rn ways b num c).2.turns) ∧ l ≠ f3 ∧ H6 f3 = some (.lst xs) ∧ TrAll H6 (Rs.map runD) xs ∧ Kp [] H H6), fun σ' H' x => ⟨_, msr_lt hok hh ch, ?_⟩, ?_⟩
    · obtain ⟨⟨l, Rs, xs, w5, w6, w7, x⟩⟩ := x
      exact ⟨l, _, Rs, xs, w5, w6, w7, x.1, rfl, x.2⟩
    · have hT5 := k5.tr (kk.tr hT)
      have hd5 := k5.at (kk.at hd)
      have ax : atI [V.ref pc] 0 = some (.ref pc) := rfl
      have cl : c.length ≤ 8 := by
        obtain ⟨_, z⟩ := (ch.ok (k := 8) hok hh).cs c rfl
        exact Nat.le_trans z (rn_len hok hh c)
      have cl2 : c.length ≤ 1000000 := by omega
      walk_at "go"
      intro t6 H6 r6 k6
      have r6 : Tr H6 (resD (rn ways b num c)) t6 := r6
      have fa6 := k6.at (k5.at fa)
      have tf6 := k6.trAll (k5.trAll tf)
      have ch2 := ch.snoc
      have lR := ch2.len hok hh
      have lT := rn_len (ways := ways) (n := num) hok hh c
      obtain ⟨u6, y1, y2, y3, rfl, hu6, t1, t2, t3⟩ := tr_tup3 r6
      obtain ⟨u3, ys3, rfl, hu3, ss3⟩ := tr_tup t3
      cases ints_of ss3
      have lt3 : (rn ways b num c).2.turns.length ≤ 1000 := by omega
      walk_at "go"
      intro r7 H7 hr7 e7
      have k7 := new_kp hr7 e7
      have a7 := new_at e7
      have fa7 := k7.at fa6
      have lx := tf6.length
      rw [List.length_map] at lx
      rw [List.length_append] at lR
      have lx2 : xs.length < sizeLine := sz_lt (by simp only [List.length_singleton] at lR; omega)
      walk_at "go"
      intro H8 a8 k8
      have hu38 := k8.tup _ _ (k7.tup _ _ hu3)
      walk_at "go"
      intro l9 H9 hl9 la9 k9
      have f9 := k9.at a8
      refine ⟨l9, Rs ++ [rn ways b num c], xs ++ [.ref r7], _, _, _, rfl, ch2, la9, ?_, f9, ?_, ?_⟩
      · exact (ne_of_none a8 hl9).symm
      · rw [List.map_append]
        have t67 := k9.trAll (k8.trAll (k7.trAll tf6))
        refine t67.append (trs_cons ?_ trs_nil)
        have g := fun d v (h : Tr H6 d v) => k9.tr (k8.tr (k7.tr h))
        exact mk_tup (k9.tup _ _ (k8.tup _ _ a7)) (trs_cons (g _ _ t3) (trs_cons (g _ _ t1) (trs_cons (g _ _ t2) trs_nil)))
      · exact ((((kk.trans k5).trans k6).trans k7).step1 k8 (.inr ff)).step0 k9
end
end EH
namespace EH
open PySem L2
/-! ### each_run: all runs, handed out one by one -/
def spEach (m : Nat) : SpG := fun vs H Q _ => ∃ (v : V) (b : List Sm) (num : Int), vs = [v, .int num] ∧ Tr H (.tuple (Sm.ds b)) v ∧ Sm.oks b ∧ Sm.wts b ≤ 100000 ∧ Sm.pls b ≤ 1000000 ∧ Sm.nests b ≤ m ∧ Sm.hvs b ≤ 8 ∧
  ∀ (Rs : List (Option Str × Cs)) (xs : List V) (H' : Hp), Chn noWay b num Rs none → TrAll H' (Rs.map runD) xs → Kp [] H H' → Q xs H'
end EH
namespace EH
open PySem L2
local macro_rules | `(tactic| walk_at "sd") => `(tactic| first | assumption | ((with_reducible show (_ : Int) ≤ _); omega) | ((with_reducible show (_ : Int) < _); omega) | rfl | exact SqL.of (by assumption) | exact SqT.of (by assumption) | exact atI_nat (j := 0) rfl | exact atI_nat (j := 1) rfl | exact atI_nat (j := 2) rfl | exact atI_nat (j := 3) rfl | exact sz_lit rfl | exact lt_lit rfl | exact pos_lit rfl | exact le_lit rfl | exact Or.inl (SqL.of (by assumption)) | exact ⟨_, SqL.of (by assumption)⟩ | exact ⟨_, SqT.of (by assumption)⟩ | exact Or.inr (SqT.of (by assumption)) | exact ClsV.ty _ | exact TyX.base (TyOf.int _) | exact TyX.base (TyOf.str _) | exact TyX.base (TyOf.tup (by assumption)) | exact kit_ty isi_ss | exact kit_ty isi_is | exact kit_ty isi_ts | exact kit_ty isi_si | exact kit_ty isi_ii | exact kit_ty isi_ti | exact kit_ty isi_st | exact kit_ty isi_it | exact kit_ty isi_tt | exact Or.inl ⟨_, Or.inl (by assumption)⟩ | exact DGet.k (k := Sum.inr _) (by assumption) | exact DGet.k (k := Sum.inl _) (by assumption) | (refine cpow_of ?_; decide) | (refine cmul_of ?_; decide) | (show (_ : Int) ≠ 0; first | decide | omega) | (refine cdivn_of ?_; decide) | exact Or.inl ⟨rfl, _, SqL.of (by assumption)⟩ | omega)
local macro_rules | `(tactic| walk_at "st") => `(tactic| first | (apply Exists.intro) | (refine And.intro ?_ ?_; focus (walk_at "sd")) | (apply Or.inl; apply Exists.intro; refine And.intro ?_ ?_; focus rfl) | (apply Or.inr; apply Exists.intro; refine And.intro ?_ ?_; focus rfl))
local macro_rules | `(tactic| walk_at "go") => `(tactic| repeat (walk_at "st"))
section
variable {P : Program} {w : World} {K : PySem.W.Frag} {mg : Str → Option Value} {base : Heap}
theorem ok_each_run (T : Top K mg) (m : Nat) : GFn P w K mg base (m + 13) T.each_run.f T.each_run.fd ["program", "number"] (spEach m) := by
  have G_runs_on : FnOk P w K mg base CX0 (m + 11) T.runs_on.f T.runs_on.fd ["program", "number", "ways"] (spRunsOn m) := ok_runs_on T m
  refine T.each_run.F.gen sc_each_run (fun vs H Q E h => ?_) (fun cdv A outer s H vs Q E pn hr h => ?_)
  · obtain ⟨v, b, num, rfl, _⟩ := h
    rfl
  obtain ⟨v, b, num, rfl, hT, hok, hwt, hp, hm, hh, q⟩ := h
  refine ⟨_, (gss_cons (gs_forA (gs_for owns_gcx rfl (pi_listK (K := K) rfl (pe_call G_runs_on (hr.mono (by omega)) (by rfl) T.runs_on.g T.runs_on.F.kp T.runs_on.b .nil pass0 (pa_cons (pv 0) (pa_cons (pv 1) (pa_cons pe_dnewK pa_nil))))) (pg_name (i := 2) sc_each_run.nd rfl (.inl rfl)) (gss_cons (gs_yield (pv 2))
      gss_nil)))
      gss_nil), ?_⟩
  walk_at "go"
  intro wd hwd
  have kd : Kp [] H (upd H wd (.dK [])) := Kp.new hwd
  have ad : (upd H wd (.dK [])) wd = some (.dK []) := upd_same
  have hTd := kd.tr hT
  refine ⟨v, b, num, wd, [], noWay, rfl, hTd, ad, noWay_rel, hok, hwt, hp, hm, hh, fun l Rs xs H1 hl ch hl1 trs k1 => ?_⟩
  have lx := trs.length
  rw [List.length_map] at lx
  have cl := ch.len hok hh
  refine ⟨l, rfl, ⟨xs, SqL.of hl1⟩, ?_⟩
  refine ⟨gfor_list (K := K) (a := l) (xs := xs) (fun i ys σ X => Lp (X = H1 ∧ ys = xs.take i ∧ ∃ w2, σ = [some v, some (.int num), w2])) ⟨rfl, by simp, _, rfl⟩ ?_ ?_ ?_⟩
  · rintro i ys σ X _ ⟨⟨rfl, _⟩⟩
    exact SqL.of hl1
  · rintro i x ys σ X hx ⟨⟨rfl, rfl, w2, rfl⟩⟩
    have hi : i < xs.length := (List.getElem?_eq_some_iff.mp hx).1
    refine ⟨?_, x, rfl, ⟨rfl, ?_, _, rfl⟩⟩
    · rw [List.length_take]
      exact sz_lt (by omega)
    · rw [List.take_add_one, hx]
      rfl
  · rintro ys σ X ⟨⟨rfl, rfl, w2, rfl⟩⟩
    rw [List.take_length]
    exact q Rs xs _ ch trs (kd.trans k1)
end
end EH
namespace EH
open PySem PySem.Spec PyProof.Rows L2
/-! ### sorted of anything that can be collected: data -/
section
variable {X : Cx}
/-- data that can be sorted; one alone always -/
def Srt (ds : List PyData) : Prop := PySem.W.Sortable ds ∨ (ds.length ≤ 1 ∧ ∀ d ∈ ds, d ≠ .none)
theorem srt_at {prog : Program} {w : World} {A : Around} {s : Shared} {vs : List Value} {ds : List PyData} (e : PySem.W.EachIs (fun v d => ∃ as, Reads s.heap v d as) vs ds) (al : PySem.W.AllAlike ds) (so : Srt ds) (hu : ∀ d, d ∈ ds → A.units + d.depth < cLine) :
    PySem.W.SortsAt prog w A s (PySem.W.dataKind s.heap ds) vs := by
  rcases so with so | ⟨l1, nn⟩
  · exact PySem.W.SortsAt.data e al so hu
  refine ⟨fun v hv => ?_, general', fun E x y a b Q ha hb hq => ?_, fun h2 => ?_⟩
  · obtain ⟨d, hd, as, r⟩ := e.left v hv
    exact ⟨_, PySem.W.dataKind_some al hd r⟩
  · obtain ⟨d, as, hd, ra, rfl⟩ := PySem.W.dataKind_inv ha
    obtain ⟨d', as', hd', rb, rfl⟩ := PySem.W.dataKind_inv hb
    have room : A.units + min d.depth d'.depth < cLine := by
      have := hu d hd
      omega
    exact PySem.W.oneLt_alike (f := false) (fun z => nomatch z) ra rb (al d hd d' hd') (nn d hd) room hq
  · have : vs.length = ds.length := by
      clear h2 l1 nn al hu
      induction e with
      | nil => rfl
      | cons h t ih => rw [List.length_cons, List.length_cons, ih]
    omega
theorem sorted_core {pins : List (Addr × Obj)} {s : Shared} {σ : L2.St} {H : Hp} {a : Addr} {Q : VK} {vs : List V} {ds : List PyData} {its : List Value} (hu : X.A.units + 64 < cLine) (I : Inv X pins σ H s) (rv : Vals vs its) (t : TrAll H ds vs) (al : PySem.W.AllAlike ds) (so : Srt ds)
    (hd : ∀ d ∈ ds, d.depth ≤ 60) (hL : its.length ≤ sizeLine)
    (hcol : ∀ (R : List Value → Shared → Prop) (E : Value → Shared → Prop), (∀ (h1 : Heap) (tk : Nat), (∀ b o, s.heap.get? b = some o → h1.get? b = some o) → R its { s with heap := h1, toks := tk }) → wpAny (model X.prog X.w) X.A.in1 (collect (.ref a)) R E s)
    (q : ∀ p ws H', H' p = some (.lst ws) → TrAll H' (ds.mergeSort (PySem.W.dataLe false id)) ws → Kp [] H H' → Q (.ref p) H') :
    wpAny (model X.prog X.w) X.A (call (.builtin "sorted") [.ref a]) (EP X pins σ Q) X.xe s := by
  refine Calls.call_function_entry PyProof.Rows.kind_sorted PyProof.Rows.plain_sorted PyProof.Rows.entry_sorted (PyProof.Rows.args_sorted1 _) ?_
  unfold Builtin.«sorted»
  refine wpAny_bind (m := checkCount "sorted" 1 1 _) (wpAny_pure ?_)
  refine wpAny_bind (hcol _ _ fun h1 tk kp1 => ?_)
  show wpAny _ _ _ _ _ _
  refine wpAny_bind (wpAny_newList ?_ (by simpa using hL))
  have hoL : (h1.push (seqObj "list" its.toArray 0)).get? h1.objs.size = some (seqObj "list" its.toArray 0) := Heap.get?_push_size _ rfl
  have old : ∀ b o, s.heap.get? b = some o → b ≠ h1.objs.size ∧ (h1.push (seqObj "list" its.toArray 0)).get? b = some o := fun b o e =>
    ⟨Nat.ne_of_lt (Heap.lt_size (kp1 b o e)), Heap.get?_push_of_some _ (kp1 b o e)⟩
  have er : PySem.W.EachIs (fun v (d : PyData) => ∃ as, Reads (PySem.W.sortingHeap (h1.push (seqObj "list" its.toArray 0)) h1.objs.size its) v (id d) as) its ds := (each_tr t rv).mono fun u d ⟨v, r, td⟩ => by
    obtain ⟨as, rd⟩ := Dp.reads I d v u (Tr.dp d v td) r
    exact ⟨as, PyProof.Rows.Reads.keeps (fun b o e => PySem.W.sortingHeap_old (old b o e).1 (old b o e).2) rd⟩
  have al' : PySem.W.AllAlike (ds.map id) := by rw [List.map_id]; exact al
  have so' : Srt (ds.map id) := by rw [List.map_id]; exact so
  have no1 : s.heap.get? h1.objs.size = none := by
    cases e : s.heap.get? h1.objs.size with
    | none => rfl
    | some o => exact absurd rfl (old _ o e).1
  have no2 : H h1.objs.size = none := I.hok.gone no1
  refine wpAny_bind (wpAny_holding (wpAny_call_entry slot_list_sort ⟨_, hoL, rfl⟩ entry_list_sort (PySem.W.list_sort_vals (κ := PySem.W.dataKind (PySem.W.sortingHeap (h1.push (seqObj "list" its.toArray 0)) h1.objs.size its) (ds.map id)) hoL
    (srt_at (s := { s with heap := PySem.W.sortingHeap (h1.push (seqObj "list" its.toArray 0)) h1.objs.size its, toks := tk }) (PySem.W.each_map (R := fun v d => ∃ as, Reads (PySem.W.sortingHeap (h1.push (seqObj "list" its.toArray 0)) h1.objs.size its) v d as) id er) al' so' ?_) hL ⟨_, rfl, ?_⟩) (args_list_sort _)))
  · intro d hd2
    rw [List.map_id] at hd2
    have := hd d hd2
    show X.A.units + 1 + 1 + d.depth < cLine
    omega
  refine wpAny_pure ⟨_, rfl, ?_⟩
  have ev := PySem.W.sortVals_data (h' := PySem.W.sortingHeap (h1.push (seqObj "list" its.toArray 0)) h1.objs.size its) (R := fun u (d : PyData) => ∃ v, RelV v u ∧ Tr H d v) (enc := id) false (each_tr t rv) er al'
  obtain ⟨ws, rw1, tw⟩ := tr_each ev
  obtain ⟨ep, he⟩ := sortedHeap_at (h := h1.push (seqObj "list" its.toArray 0)) (out := (PySem.W.sortVals (PySem.W.dataKind (PySem.W.sortingHeap (h1.push (seqObj "list" its.toArray 0)) h1.objs.size its) (ds.map id)) false its its).toArray) hoL
  have hlen : ws.length ≤ sizeLine := by
    rw [rw1.length, PySem.W.sortVals_length false rfl]
    exact hL
  have kk : Kp [] H (upd H h1.objs.size (.lst ws)) := Kp.new no2
  refine ⟨.ref _, upd H h1.objs.size (.lst ws), I.laidN (t' := tk) (fun b o e => ?_) no1 no2 ⟨hlen, _, ep, rw1, he⟩, rfl, q _ ws _ upd_same (kk.trAll tw) kk⟩
  rw [sortedHeap_old (old b o e).1 (Heap.lt_size (old b o e).2)]
  exact (old b o e).2
/-- the data of a key -/
def keyD (k : List Key) : PyData := .tuple (k.map kD)
def rSortDT : List V → Hp → VK → Prop := fun xs H Q => ∃ (d : Addr) (kvs : List (List Key × V)), xs = [.ref d] ∧ H d = some (.dT kvs) ∧ PySem.W.AllAlike (kvs.map fun p => keyD p.1) ∧ Srt (kvs.map fun p => keyD p.1) ∧
  ∀ p ws H', H' p = some (.lst ws) → TrAll H' ((kvs.map fun p => keyD p.1).mergeSort (PySem.W.dataLe false id)) ws → Kp [] H H' → Q (.ref p) H'
theorem keys_tr {H : Hp} : ∀ {kvs : List (List Key × V)} {bs : List Addr}, IsKeys H kvs bs → TrAll H (kvs.map fun p => keyD p.1) (bs.map V.ref) := by
  intro kvs bs h
  unfold IsKeys at h
  induction h with
  | nil => exact trs_nil
  | cons h t ih => exact trs_cons (mk_tup h (trs_kD _)) ih
theorem keyD_depth (k : List Key) : (keyD k).depth ≤ 60 := by
  have e : ∀ ks : List Key, PyData.depthAll (ks.map kD) = 0 := kDs_depth
  show PyData.depth (.tuple (k.map kD)) ≤ 60
  simp only [PyData.depth, e]
  decide
theorem eq_map_of {α β : Type} {f : β → α} : ∀ {l : List α} {m : List β}, l.length = m.length → (∀ (j : Nat) (v : α), l[j]? = some v → ∃ b, m[j]? = some b ∧ v = f b) → l = m.map f
  | [], [], _, _ => rfl
  | [], b :: m, h, _ => by simp at h
  | a :: l, [], h, _ => by simp at h
  | a :: l, b :: m, h, k => by
    obtain ⟨b', e1, e2⟩ := k 0 a rfl
    have e1 : b = b' := Option.some.inj e1
    rw [List.map_cons, e2, ← e1, eq_map_of (l := l) (m := m) (by simpa using h) fun j v hv => k (j + 1) v hv]
theorem cr_sortedDT (hc : X.calm = true) (hu : X.A.units + 64 < cLine) : CallR X (.builtin "sorted") rSortDT := by
  intro pins s σ H xs us Q I r h
  obtain ⟨d, kvs, rfl, hd, al, so, q⟩ := h
  rw [Vals.ref1 r]
  obtain ⟨z, sys, ks, pr, o, es, ep, at_d, exact_d, data_d, rows, nodup⟩ := I.hok d _ hd
  have size_es := size_of_entries rows
  have len_ks : kvs.length = ks.length := pr.length
  have few : ks.length ≤ sizeLine := len_ks ▸ z
  refine sorted_core (its := (ks.map fun x => x.2.1).map Value.ref) hu I (vals_refs _) (keys_tr (isKeys_of pr)) al so (fun d hd => ?_) ?_ (fun R E hR => ?_) q
  · obtain ⟨p, _, rfl⟩ := List.mem_map.mp hd
    exact keyD_depth _
  · rw [List.length_map, List.length_map]
    exact few
  refine PySem.W.kdu_collect (A := X.A.in1) (kdl_raw sys exact_d data_d) (I.ok.hd hc) at_d (by rw [size_es]; exact few) fun h' tk acc kp items => ?_
  have got : acc.toList = ks.map ((fun b => Value.ref b) ∘ fun x => x.2.1) := by
    refine eq_map_of ?_ fun j v hv => ?_
    · rw [Array.length_toList, items.1, size_es]
    · rw [Array.getElem?_toList] at hv
      obtain ⟨en, e1, e2⟩ := items.2 j v hv
      have e3 := (entry_at rows j).symm.trans e1
      obtain ⟨b, e4, e5⟩ := Option.map_eq_some_iff.mp e3
      exact ⟨b, e4, by rw [e2, ← e5]; rfl⟩
  rw [← List.map_map] at got
  rw [got]
  exact hR h' tk kp
end
end EH
namespace EH
open PySem PySem.Spec PyProof.Rows L2
/-! ### set(xs) and sorted(set(xs)), xs a list of tuples of whole numbers -/
def encT (q : Addr × List Int) : PyData := .tuple (q.2.map PyData.int)
theorem perm_lifted {α β : Type} {f : α → β} : ∀ {L : List α} {us : List β}, us.Perm (L.map f) → ∃ L1 : List α, us = L1.map f ∧ L1.Perm L
  | [], us, h => ⟨[], by rw [List.map_nil] at h; exact h.eq_nil, .nil⟩
  | x :: L, us, h => by
    rw [List.map_cons] at h
    obtain ⟨s, t, rfl⟩ := List.append_of_mem (h.mem_iff.mpr List.mem_cons_self)
    have h2 : (s ++ t).Perm (L.map f) := (List.perm_middle.symm.trans h).cons_inv
    obtain ⟨L2, e, p⟩ := perm_lifted h2
    obtain ⟨A, B, rfl, ea, eb⟩ := List.append_eq_map_iff.mp e
    refine ⟨A ++ x :: B, by rw [List.map_append, List.map_cons, ea, eb], List.perm_middle.trans (p.cons x)⟩
theorem each_refs {R : Value → Addr × List Int → Prop} : ∀ {L : List (Addr × List Int)}, (∀ q ∈ L, R (.ref q.1) q) → PySem.W.EachIs R (L.map fun q => Value.ref q.1) L
  | [], _ => .nil
  | q :: L, h => .cons (h q List.mem_cons_self) (each_refs fun r hr => h r (List.mem_cons_of_mem _ hr))
theorem refs_each : ∀ {L : List (Addr × List Int)} {vs : List Value}, PySem.W.EachIs (fun v (q : Addr × List Int) => v = .ref q.1) vs L → vs = L.map fun q => Value.ref q.1
  | _, _, .nil => rfl
  | _, _, .cons h t => by rw [List.map_cons, h, refs_each t]
theorem encT_alike (L : List (Addr × List Int)) : PySem.W.AllAlike (L.map encT) := PySem.W.AllAlike.of fun b b' => by
  simp only [encT, PySem.W.alike]
  exact PySem.W.alike_ints _ _
theorem encT_depth (q : Addr × List Int) : (encT q).depth ≤ 60 := by
  have e := PySem.W.depth_ints q.2
  show PyData.depth (.tuple _) ≤ 60
  simp only [PyData.depth, e]
  decide
theorem Srt.perm {l m : List PyData} (h : Srt l) (p : l.Perm m) : Srt m := by
  rcases h with h | ⟨h1, h2⟩
  · left
    rcases h with h | h
    · exact .inl fun d hd => h d (p.mem_iff.mpr hd)
    · exact .inr fun d hd => h d (p.mem_iff.mpr hd)
  · exact .inr ⟨by rw [← p.length_eq]; exact h1, fun d hd => h2 d (p.mem_iff.mpr hd)⟩
theorem le_encT (x y : Addr × List Int) : PySem.W.dataLe false encT x y = decide (x.2 ≤ y.2) := by
  rw [PySem.W.dataLe_eq]
  show (!PySem.W.dataLt (.tuple (y.2.map PyData.int)) (.tuple (x.2.map PyData.int))) = _
  rw [PySem.W.dataLt_tuple]
  have := PySem.W.dataLt_ints y.2 x.2
  unfold PySem.W.rowLt at this
  rw [this]
  by_cases h : y.2 < x.2
  · simp [h, List.not_le.mpr h]
  · simp [h, List.not_lt.mp h]
section
variable {X : Cx} {K : PySem.W.Frag} {P : Program} {w : World}
def rSetTT (K : PySem.W.Frag) (P : Program) (w : World) : List V → Hp → VK → Prop := fun xs H Q => ∃ (l : Addr) (ks : List (Addr × List Int)), xs = [V.ref l] ∧ SqL K H l (ks.map fun p => V.ref p.1) ∧ (∀ p ∈ ks, SqT K H p.1 (p.2.map V.int)) ∧ ks.length < 64 ∧
  ∀ a L H', H' a = some (SetTO P w a L) → (∀ p ∈ L, p ∈ ks) → (∀ p ∈ ks, p.2 ∈ L.map (·.2)) → Kp [] H H' → Q (.ref a) H'
theorem cr_setTT (hK : X.K = K) (hP : X.prog = P) (hw : X.w = w) (hc : X.calm = true) (hu : X.A.units + 64 < cLine) : CallR X (.type "set") (rSetTT K P w) := by
  subst hK hP hw
  exact CallR.imp (cr_setOfT hc hu) fun xs H Q ⟨l, ks, e, h1, h2, h3, q⟩ => ⟨l, ks, e, h1, h2, h3, fun a L hn s1 s2 => q a L _ upd_same s1 s2 (Kp.new hn)⟩
def rSortSetT (K : PySem.W.Frag) (P : Program) (w : World) : List V → Hp → VK → Prop := fun vs H Q => ∃ (a : Addr) (L : List (Addr × List Int)), vs = [V.ref a] ∧ H a = some (SetTO P w a L) ∧ (∀ p ∈ L, SqT K H p.1 (p.2.map V.int)) ∧ ((L.map (·.2)).Nodup → Srt (L.map encT)) ∧
  ∀ (L' : List (Addr × List Int)) (p : Addr) (H' : Hp), L'.Perm L → (L'.map (·.2)).Nodup → L'.Pairwise (fun q r => q.2 ≤ r.2) → H' p = some (.lst (L'.map fun q => V.ref q.1)) → Kp [] H H' → Q (.ref p) H'
theorem cr_sortSetT (hK : X.K = K) (hP : X.prog = P) (hw : X.w = w) (hc : X.calm = true) (hu : X.A.units + 64 < cLine) : CallR X (.builtin "sorted") (rSortSetT K P w) := by
  subst hK hP hw
  intro pins s σ H vs us Q I r h
  obtain ⟨a, L, rfl, ha, hk, so, q⟩ := h
  have R0 : SetT0 X.prog X.w s.heap a L := (I.hok a _ ha).1
  obtain ⟨es, ep, t, R⟩ := R0.full fun p hp => I.isT (hk p hp)
  rw [Vals.ref1 r]
  obtain ⟨o, ho, hex, hd⟩ := R.ob
  have hsz := R.size
  have hfew := R.few
  have big : L.length ≤ sizeLine := by rw [sizeLine_eq]; omega
  refine Calls.call_function_entry PyProof.Rows.kind_sorted PyProof.Rows.plain_sorted PyProof.Rows.entry_sorted (PyProof.Rows.args_sorted1 _) ?_
  unfold Builtin.«sorted»
  refine wpAny_bind (m := checkCount "sorted" 1 1 _) (wpAny_pure ?_)
  refine wpAny_bind (collect_set (A := X.A.in1) (I.ok.hd hc) ⟨o, ho, hex.1, hd⟩ R.fits (by unfold scanBound; omega) R.tab.ris R.led fun s1 its kp1 hz g1 o1 pm => ?_)
  have hes : es.toList.map (·.2) = L.map fun q => Value.ref q.1 := by
    rw [R.rows]
    unfold rowsOf
    rw [List.map_map] <;> rfl
  rw [hes] at pm
  obtain ⟨L1, rfl, pL⟩ := perm_lifted pm
  have hL : (L1.map fun q => Value.ref q.1).length ≤ sizeLine := by rw [List.length_map, pL.length_eq]; exact big
  refine wpAny_bind (wpAny_newList ?_ (by simpa using hL))
  generalize hits : (L1.map fun q => Value.ref q.1) = its at hL
  have hoL : (s1.heap.push (seqObj "list" its.toArray 0)).get? s1.heap.objs.size = some (seqObj "list" its.toArray 0) := Heap.get?_push_size _ rfl
  have old : ∀ b o, s.heap.get? b = some o → b ≠ s1.heap.objs.size ∧ (s1.heap.push (seqObj "list" its.toArray 0)).get? b = some o := fun b o e =>
    ⟨Nat.ne_of_lt (Heap.lt_size (kp1 b o e)), Heap.get?_push_of_some _ (kp1 b o e)⟩
  have er : PySem.W.EachIs (fun v q => ∃ as, Reads (PySem.W.sortingHeap (s1.heap.push (seqObj "list" its.toArray 0)) s1.heap.objs.size its) v (encT q) as) its L1 := by
    rw [← hits]
    refine each_refs fun q hq => ?_
    rw [hits]
    obtain ⟨as, rd⟩ := Dp.reads I (encT q) (.ref q.1) (.ref q.1) (.tup (hk q (pL.mem_iff.mp hq)) (TrAll.dp _ _ (trs_int q.2))) rfl
    exact ⟨as, PyProof.Rows.Reads.keeps (fun b o e => PySem.W.sortingHeap_old (old b o e).1 (old b o e).2) rd⟩
  have ei : PySem.W.EachIs (fun v (q : Addr × List Int) => v = Value.ref q.1) its L1 := by
    rw [← hits]
    exact each_refs fun q _ => rfl
  have al := encT_alike L1
  have so1 : Srt (L1.map encT) := (so R.nd).perm (pL.symm.map encT)
  refine wpAny_bind (wpAny_holding (wpAny_call_entry slot_list_sort ⟨_, hoL, rfl⟩ entry_list_sort (PySem.W.list_sort_vals (κ := PySem.W.dataKind (PySem.W.sortingHeap (s1.heap.push (seqObj "list" its.toArray 0)) s1.heap.objs.size its) (L1.map encT)) hoL
    (srt_at (s := { s1 with heap := PySem.W.sortingHeap (s1.heap.push (seqObj "list" its.toArray 0)) s1.heap.objs.size its }) (PySem.W.each_map (R := fun v d => ∃ as, Reads (PySem.W.sortingHeap (s1.heap.push (seqObj "list" its.toArray 0)) s1.heap.objs.size its) v d as) encT er) al so1 ?_) hL ⟨_, rfl, ?_⟩) (args_list_sort _)))
  · intro d hd2
    obtain ⟨q, _, rfl⟩ := List.mem_map.mp hd2
    have := encT_depth q
    show X.A.units + 1 + 1 + (encT q).depth < cLine
    omega
  refine wpAny_pure ⟨_, rfl, ?_⟩
  have ev := refs_each (PySem.W.sortVals_data (h' := PySem.W.sortingHeap (s1.heap.push (seqObj "list" its.toArray 0)) s1.heap.objs.size its) (R := fun v (q : Addr × List Int) => v = Value.ref q.1) (enc := encT) false ei er al)
  obtain ⟨ec, he⟩ := sortedHeap_at (h := s1.heap.push (seqObj "list" its.toArray 0)) (out := (PySem.W.sortVals (PySem.W.dataKind (PySem.W.sortingHeap (s1.heap.push (seqObj "list" its.toArray 0)) s1.heap.objs.size its) (L1.map encT)) false its its).toArray) hoL
  have pm2 : (L1.mergeSort (PySem.W.dataLe false encT)).Perm L := (List.mergeSort_perm _ _).trans pL
  have hlen : ((L1.mergeSort (PySem.W.dataLe false encT)).map fun q => V.ref q.1).length ≤ sizeLine := by
    rw [List.length_map, pm2.length_eq]
    exact big
  have no1 : s.heap.objs.size ≤ s1.heap.objs.size := hz
  have hn : H s1.heap.objs.size = none := I.hok.fresh no1
  have hv : Vals ((L1.mergeSort (PySem.W.dataLe false encT)).map fun q => V.ref q.1) (PySem.W.sortVals (PySem.W.dataKind (PySem.W.sortingHeap (s1.heap.push (seqObj "list" its.toArray 0)) s1.heap.objs.size its) (L1.map encT)) false its its) := by
    rw [ev]
    exact vals_of_refs _
  have kk : Kp [] H (upd H s1.heap.objs.size (.lst ((L1.mergeSort (PySem.W.dataLe false encT)).map fun q => V.ref q.1))) := Kp.new hn
  have keep : ∀ b o, s.heap.get? b = some o → (sortedHeap (s1.heap.push (seqObj "list" its.toArray 0)) s1.heap.objs.size its (PySem.W.sortVals (PySem.W.dataKind (PySem.W.sortingHeap (s1.heap.push (seqObj "list" its.toArray 0)) s1.heap.objs.size its) (L1.map encT)) false its its).toArray).get? b = some o := fun b o e => by
    rw [sortedHeap_old (old b o e).1 (Heap.lt_size (old b o e).2)]
    exact (old b o e).2
  have J : Inv X pins σ (upd H s1.heap.objs.size (.lst ((L1.mergeSort (PySem.W.dataLe false encT)).map fun q => V.ref q.1))) { s with heap := (sortedHeap (s1.heap.push (seqObj "list" its.toArray 0)) s1.heap.objs.size its (PySem.W.sortVals (PySem.W.dataKind (PySem.W.sortingHeap (s1.heap.push (seqObj "list" its.toArray 0)) s1.heap.objs.size its) (L1.map encT)) false its its).toArray), gens := s1.gens, drawn := s1.drawn, toks := s1.toks } :=
    I.call (ch := []) (Un.laid keep no1 hn) (I.hok.laid keep no1 ⟨hlen, _, ec, hv, he⟩) (by rw [g1]; exact I.bare) (fun _ z => nomatch z)
  have e : ({ s1 with heap := (sortedHeap (s1.heap.push (seqObj "list" its.toArray 0)) s1.heap.objs.size its (PySem.W.sortVals (PySem.W.dataKind (PySem.W.sortingHeap (s1.heap.push (seqObj "list" its.toArray 0)) s1.heap.objs.size its) (L1.map encT)) false its its).toArray) } : Shared) = { s with heap := (sortedHeap (s1.heap.push (seqObj "list" its.toArray 0)) s1.heap.objs.size its (PySem.W.sortVals (PySem.W.dataKind (PySem.W.sortingHeap (s1.heap.push (seqObj "list" its.toArray 0)) s1.heap.objs.size its) (L1.map encT)) false its its).toArray), gens := s1.gens, drawn := s1.drawn, toks := s1.toks } := by
    cases s1
    cases s
    cases o1
    rfl
  refine ⟨.ref s1.heap.objs.size, upd H s1.heap.objs.size (.lst ((L1.mergeSort (PySem.W.dataLe false encT)).map fun q => V.ref q.1)), ?_, rfl, q (L1.mergeSort (PySem.W.dataLe false encT)) _ _ pm2 ((pm2.map (·.2)).nodup_iff.mpr R.nd) ?_ upd_same kk⟩
  · rw [e]
    exact J
  · refine (List.pairwise_mergeSort (fun a b c h1 h2 => ?_) (fun a b => ?_) L1).imp fun {a b} h => ?_
    · rw [le_encT, decide_eq_true_eq] at *
      exact List.le_trans h1 h2
    · rw [le_encT, le_encT, ← Bool.decide_or, decide_eq_true_eq]
      exact List.le_total _ _
    · rw [le_encT, decide_eq_true_eq] at h
      exact h
end
end EH
/-! list(zip(xs, ys)): own work -/
namespace EH
open PySem PySem.Spec PySem.W PyProof.Rows L2
theorem zip_lenless : typeLookup (.type "zip") "__len__" = pure none := am_miss_of_fast (by decide +kernel)
theorem zip_hintless : typeLookup (.type "zip") "__length_hint__" = pure none := am_miss_of_fast (by decide +kernel)
/-- the zip, i turns on -/
structure ZpAt (h : Heap) (z TI TO i1 i2 l1 l2 : Addr) (xs ys : Array Value) (i : Nat) : Prop where
  zp : (IsZip h z TI TO .none ∧ ∃ a b, IsPair h TO a b) ∨ ∃ T f oT, IsZipHeld h z TI TO T f ∧ h.get? T = some oT
  ti : IsPair h TI (.ref i1) (.ref i2)
  a1 : h.IsListIter i1 l1 i
  a2 : h.IsListIter i2 l2 i
  b1 : h.IsList l1 xs
  b2 : h.IsList l2 ys
section
variable {prog : Program} {w : World} {A : Around} {s : Shared} {z TI TO i1 i2 l1 l2 : Addr} {xs ys : Array Value} {i : Nat}
theorem zp_item (D : ZipApart z TI TO i1 i2 l1 l2) (st : ZpAt s.heap z TI TO i1 i2 l1 l2 xs ys i) {x y : Value} (hx : xs[i]? = some x) (hy : ys[i]? = some y) {Q : Option Value → Shared → Prop} {E : Value → Shared → Prop}
    (hQ : ∀ h', ZpAt h' z TI TO i1 i2 l1 l2 xs ys (i + 1) → IsPair h' s.heap.objs.size x y → s.heap.objs.size < h'.objs.size → (∀ c o, c ≠ z → c ≠ TO → c ≠ i1 → c ≠ i2 → s.heap.get? c = some o → h'.get? c = some o) → Q (some (.ref s.heap.objs.size)) { s with heap := h' }) :
    wpAny (model prog w) A (pyNext (.ref z)) Q E s := by
  have keepL : ∀ {h' : Heap} {l : Addr} {vs : Array Value}, (∀ c o, c ≠ z → c ≠ TO → c ≠ i1 → c ≠ i2 → s.heap.get? c = some o → h'.get? c = some o) → l ≠ z → l ≠ TO → l ≠ i1 → l ≠ i2 → s.heap.IsList l vs → h'.IsList l vs := fun k n1 n2 n3 n4 ⟨o, ho, r⟩ => ⟨o, k _ o n1 n2 n3 n4 ho, r⟩
  rcases st.zp with ⟨hz, a, b, hto⟩ | ⟨T, f, oT, hz, hT⟩
  · refine wpAny_pyNext_zip_item D hz st.ti hto st.a1 st.a2 st.b1 st.b2 hx hy fun h' g1 g2 g3 g4 g5 g6 g7 => ?_
    refine hQ h' ⟨.inr ⟨_, false, _, g1, g5⟩, ?_, g3, g4, keepL g7 D.l1z D.l1TO D.l1i1 D.l1i2 st.b1, keepL g7 D.l2z D.l2TO D.l2i1 D.l2i2 st.b2⟩ g5 (by omega) g7
    exact g7 _ _ D.TIz D.TITO D.TIi1 D.TIi2 st.ti
  · refine wpAny_pyNext_zip_item_held D hz hT st.ti st.a1 st.a2 st.b1 st.b2 hx hy fun h' g1 g3 g4 g5 g6 g7 => ?_
    have k : ∀ c o, c ≠ z → c ≠ TO → c ≠ i1 → c ≠ i2 → s.heap.get? c = some o → h'.get? c = some o := fun c o n1 _ n3 n4 e => g7 c o n1 n3 n4 e
    have hT' : h'.get? T = some (if T = z then (h'.get? T).getD oT else if T = i1 then (h'.get? T).getD oT else if T = i2 then (h'.get? T).getD oT else oT) := by
      by_cases e1 : T = z
      · rw [if_pos e1, e1, g1]; rfl
      · rw [if_neg e1]
        by_cases e2 : T = i1
        · rw [if_pos e2]
          obtain ⟨o, ho, _⟩ := g3
          rw [e2, ho]; rfl
        · rw [if_neg e2]
          by_cases e3 : T = i2
          · rw [if_pos e3]
            obtain ⟨o, ho, _⟩ := g4
            rw [e3, ho]; rfl
          · rw [if_neg e3]
            exact g7 T oT e1 e2 e3 hT
    exact hQ h' ⟨.inr ⟨T, true, _, g1, hT'⟩, g7 _ _ D.TIz D.TIi1 D.TIi2 st.ti, g3, g4, keepL k D.l1z D.l1TO D.l1i1 D.l1i2 st.b1, keepL k D.l2z D.l2TO D.l2i1 D.l2i2 st.b2⟩ g5 (by omega) k
theorem zp_end (hh : A.handled = none) (D : ZipApart z TI TO i1 i2 l1 l2) (st : ZpAt s.heap z TI TO i1 i2 l1 l2 xs ys i) (he : xs[i]? = none ∨ ys[i]? = none) {Q : Option Value → Shared → Prop} {E : Value → Shared → Prop}
    (hQ : ∀ h', (∀ c o, c ≠ z → c ≠ TO → c ≠ i1 → c ≠ i2 → s.heap.get? c = some o → h'.get? c = some o) → Q none { s with heap := h' }) :
    wpAny (model prog w) A (pyNext (.ref z)) Q E s := by
  rcases st.zp with ⟨hz, a, b, hto⟩ | ⟨T, f, oT, hz, hT⟩
  · exact wpAny_pyNext_zip_end hh D hz st.ti hto st.a1 st.a2 st.b1 st.b2 he hQ
  · exact wpAny_pyNext_zip_end_held hh D hz hT st.ti st.a1 st.a2 st.b1 st.b2 he fun h' k => hQ h' fun c o n1 _ n3 n4 e => k c o n1 n3 n4 e
theorem ZpAt.keep {h h' : Heap} (st : ZpAt h z TI TO i1 i2 l1 l2 xs ys i) {S : Addr} (k : ∀ b o, b ≠ S → h.get? b = some o → h'.get? b = some o) (hS : ∀ b ∈ [z, TI, TO, i1, i2, l1, l2], b ≠ S) (so : ∃ o, h'.get? S = some o) : ZpAt h' z TI TO i1 i2 l1 l2 xs ys i := by
  have kk : ∀ b ∈ [z, TI, TO, i1, i2, l1, l2], ∀ o, h.get? b = some o → h'.get? b = some o := fun b hb o e => k b o (hS b hb) e
  refine ⟨?_, kk _ (by simp) _ st.ti, ?_, ?_, ?_, ?_⟩
  · rcases st.zp with ⟨hz, a, b, hto⟩ | ⟨T, f, oT, hz, hT⟩
    · exact .inl ⟨kk _ (by simp) _ hz, a, b, kk _ (by simp) _ hto⟩
    · by_cases e : T = S
      · obtain ⟨o, ho⟩ := so
        exact .inr ⟨T, f, o, kk _ (by simp) _ hz, by rw [e]; exact ho⟩
      · exact .inr ⟨T, f, oT, kk _ (by simp) _ hz, k T oT e hT⟩
  · obtain ⟨o, ho, r⟩ := st.a1
    exact ⟨o, kk _ (by simp) _ ho, r⟩
  · obtain ⟨o, ho, r⟩ := st.a2
    exact ⟨o, kk _ (by simp) _ ho, r⟩
  · obtain ⟨o, ho, r⟩ := st.b1
    exact ⟨o, kk _ (by simp) _ ho, r⟩
  · obtain ⟨o, ho, r⟩ := st.b2
    exact ⟨o, kk _ (by simp) _ ho, r⟩
/-- the pairs made so far -/
structure PrsMade (N : Nat) (h : Heap) (xs ys : Array Value) (ts : List Addr) : Prop where
  lo : ∀ t ∈ ts, N ≤ t
  pr : ∀ (j : Nat) (t : Addr), ts[j]? = some t → ∃ x y, xs[j]? = some x ∧ ys[j]? = some y ∧ IsPair h t x y
  up : ts.Pairwise (· < ·)
theorem zp_loop {R : Result → Shared → Prop} {S N : Addr} {h0 : Heap} (hh : A.handled = none) (D : ZipApart z TI TO i1 i2 l1 l2) (hS : ∀ b ∈ [z, TI, TO, i1, i2, l1, l2], b ≠ S) (hN : ∀ b ∈ [z, TO, i1, i2, S], b < N) (h0N : ∀ b o, h0.get? b = some o → b ≠ z ∧ b ≠ TO ∧ b ≠ i1 ∧ b ≠ i2 ∧ b ≠ S) (hsz : xs.size ≤ sizeLine) (res : Value) {n : Nat} (hn : n = min xs.size ys.size)
    (hR : ∀ h' tk acc c ts, (∀ b o, h0.get? b = some o → h'.get? b = some o) → h'.get? S = some { cls := .type "list", dict := none, data := .seq acc c, slots := #[] } → ts.length = n → PrsMade N h' xs ys ts → acc.toList = ts.map Value.ref → R (.ok (.ret res)) { s with heap := h', toks := tk }) :
    ∀ (k i : Nat) (h : Heap) (tk c : Nat) (acc : Array Value) (ts : List Addr), n - i = k → i ≤ n → ZpAt h z TI TO i1 i2 l1 l2 xs ys i → (∀ b o, h0.get? b = some o → h.get? b = some o) →
      h.get? S = some { cls := .type "list", dict := none, data := .seq acc c, slots := #[] } → acc.toList = ts.map Value.ref → ts.length = i → PrsMade N h xs ys ts → N ≤ h.objs.size →
      codeAny (model prog w) A (.builtin "list.extend.loop" ⟨[.ref S, .ref z, res], []⟩) R { s with heap := h, toks := tk } := by
  have nS : ∀ b ∈ [z, TO, i1, i2], S ≠ b := fun b hb e => hS b (by simp only [List.mem_cons, List.not_mem_nil, or_false] at hb ⊢; rcases hb with h | h | h | h <;> simp [h]) e.symm
  intro k
  induction k with
  | zero =>
    intro i h tk c acc ts hk hi st keep0 hSo hacc hl made big
    have hin : i = n := by omega
    refine codeAny_builtin PySem.F.entry_extend_loop ?_
    rw [Around.under_plainId PySem.F.plain_extend_loop _]
    show wpAny _ A.in1 (pyNext (.ref z) >>= _) _ _ _
    refine wpAny_bind (zp_end (s := { s with heap := h, toks := tk }) (A := A.in1) hh D st ?_ fun h' kp => ?_)
    · by_cases e : xs.size ≤ ys.size
      · exact .inl (Array.getElem?_eq_none (by omega))
      · exact .inr (Array.getElem?_eq_none (by omega))
    refine wpAny_pure (hR h' tk acc c ts (fun b o e => ?_) (kp S _ (nS z (by simp)) (nS TO (by simp)) (nS i1 (by simp)) (nS i2 (by simp)) hSo) (by omega) ⟨made.lo, fun j t ht => ?_, made.up⟩ hacc)
    · obtain ⟨n1, n2, n3, n4, _⟩ := h0N b o e
      exact kp b o n1 n2 n3 n4 (keep0 b o e)
    · obtain ⟨x, y, e1, e2, e3⟩ := made.pr j t ht
      have big1 := made.lo t (List.mem_of_getElem? ht)
      have far : ∀ b ∈ [z, TO, i1, i2, S], t ≠ b := fun b hb e => Nat.lt_irrefl _ (Nat.lt_of_lt_of_le (hN b hb) (e ▸ big1))
      exact ⟨x, y, e1, e2, kp t _ (far z (by simp)) (far TO (by simp)) (far i1 (by simp)) (far i2 (by simp)) e3⟩
  | succ k ih =>
    intro i h tk c acc ts hk hi st keep0 hSo hacc hl made big
    have lt : i < n := by omega
    have hx : xs[i]? = some xs[i] := Array.getElem?_eq_getElem (by omega)
    have hy : ys[i]? = some ys[i] := Array.getElem?_eq_getElem (by omega)
    have szc : acc.size = i := by rw [← Array.length_toList, hacc, List.length_map, hl]
    refine codeAny_builtin PySem.F.entry_extend_loop ?_
    rw [Around.under_plainId PySem.F.plain_extend_loop _]
    show wpAny _ A.in1 (pyNext (.ref z) >>= _) _ _ _
    refine wpAny_bind (zp_item (s := { s with heap := h, toks := tk }) (A := A.in1) D st hx hy fun h' st' hp grow kp => ?_)
    dsimp only at hp grow kp ⊢
    have hSo' := kp S _ (nS z (by simp)) (nS TO (by simp)) (nS i1 (by simp)) (nS i2 (by simp)) hSo
    have up : ∀ b o, b ≠ S → h'.get? b = some o → (h'.update S (Obj.mapSeq (·.push (Value.ref h.objs.size)))).get? b = some o := fun b o hb e => (Heap.get?_update_other _ _ (Ne.symm hb)).trans e
    have ltS : S < h.objs.size := Heap.lt_size hSo
    have self := Heap.get?_update_self (Obj.mapSeq (·.push (Value.ref h.objs.size))) hSo' rfl
    show wpAny _ A.in1 (updateSeq S (·.push (Value.ref h.objs.size)) >>= _) _ _ _
    refine wpAny_bind ?_
    refine wpAny_updateSeq hSo' rfl (wpAny_pure ⟨plainId_quiet PySem.F.plain_extend_loop _, ih (i + 1) _ tk _ (acc.push (Value.ref h.objs.size)) (ts ++ [h.objs.size]) (by omega) lt (st'.keep (S := S) up hS ⟨_, self⟩) (fun b o e => ?_)
      self (by rw [Array.toList_push, hacc, List.map_append]; rfl) (by rw [List.length_append, hl]; rfl) ⟨fun t ht => ?_, fun j t ht => ?_, List.pairwise_append.mpr ⟨made.up, List.pairwise_singleton _ _, fun t ht b hb => ?_⟩⟩ ?_⟩) (by rw [szc]; omega) (by show (acc.push (Value.ref h.objs.size)).size ≤ sizeLine + 1; rw [Array.size_push, szc]; omega)
    · obtain ⟨n1, n2, n3, n4, n5⟩ := h0N b o e
      exact up b o n5 (kp b o n1 n2 n3 n4 (keep0 b o e))
    · rcases List.mem_append.mp ht with ht | ht
      · exact made.lo t ht
      · rw [List.mem_singleton.mp ht]; exact big
    · by_cases e : j < ts.length
      · rw [List.getElem?_append_left e] at ht
        obtain ⟨x, y, e1, e2, e3⟩ := made.pr j t ht
        have big1 := made.lo t (List.mem_of_getElem? ht)
        have far : ∀ b ∈ [z, TO, i1, i2, S], t ≠ b := fun b hb e => Nat.lt_irrefl _ (Nat.lt_of_lt_of_le (hN b hb) (e ▸ big1))
        exact ⟨x, y, e1, e2, up t _ (far S (by simp)) (kp t _ (far z (by simp)) (far TO (by simp)) (far i1 (by simp)) (far i2 (by simp)) e3)⟩
      · have hj := (List.getElem?_eq_some_iff.mp ht).1
        rw [List.length_append, List.length_singleton] at hj
        have ej : j = i := by omega
        subst ej
        rw [List.getElem?_append_right (by omega), hl, Nat.sub_self] at ht
        cases ht
        exact ⟨_, _, hx, hy, up _ _ (Nat.ne_of_gt ltS) hp⟩
    · rw [List.mem_singleton.mp hb]
      obtain ⟨j, hj⟩ := List.getElem?_of_mem ht
      obtain ⟨_, _, _, _, e3⟩ := made.pr j t hj
      exact Heap.lt_size e3
    · have e : (h'.update S (Obj.mapSeq (·.push (Value.ref h.objs.size)))).get? h.objs.size = _ := up _ _ (Nat.ne_of_gt ltS) hp
      exact Nat.le_of_lt (Nat.lt_of_le_of_lt big (Heap.lt_size e))
end
section
variable {prog : Program} {w : World} {A : Around} {s : Shared} {l1 l2 : Addr} {xs ys : Array Value}
theorem zl_extend {R : Result → Shared → Prop} {z TI TO i1 i2 S N : Addr} {h0 : Heap} {c0 : Nat} (hh : A.handled = none) (D : ZipApart z TI TO i1 i2 l1 l2) (hS : ∀ b ∈ [z, TI, TO, i1, i2, l1, l2], b ≠ S) (hN : ∀ b ∈ [z, TO, i1, i2, S], b < N) (h0N : ∀ b o, h0.get? b = some o → b ≠ z ∧ b ≠ TO ∧ b ≠ i1 ∧ b ≠ i2 ∧ b ≠ S) (hsz : xs.size ≤ sizeLine) (res : Value)
    (st : ZpAt s.heap z TI TO i1 i2 l1 l2 xs ys 0) (keep0 : ∀ b o, h0.get? b = some o → s.heap.get? b = some o) (hz : IsZip s.heap z TI TO .none) (hSo : s.heap.get? S = some { cls := .type "list", data := .seq #[] c0 }) (big : N ≤ s.heap.objs.size)
    (hR : ∀ h' tk acc c ts, (∀ b o, h0.get? b = some o → h'.get? b = some o) → h'.get? S = some { cls := .type "list", dict := none, data := .seq acc c, slots := #[] } → ts.length = min xs.size ys.size → PrsMade N h' xs ys ts → acc.toList = ts.map Value.ref → R (.ok (.ret res)) { s with heap := h', toks := tk }) :
    wpAny (model prog w) A.in1 (Builtin.List.listExtendWith (.ref S) (.ref z) res)
      (fun fin s' => match fin with | .done f => R (.ok f) s' | .again c' => c'.quiet = true ∧ codeAny (model prog w) A c' R s') (fun e s' => R (.error e) s') s := by
  have hSz : S ≠ z := (hS z (by simp)).symm
  have isz : s.TypeIs (.ref z) "zip" := ⟨_, hz, rfl⟩
  unfold Builtin.List.listExtendWith
  refine wpAny_bind (wpAny_typeOf isz ?_)
  have n1 : Builtin.List.listSameRef (.ref S) (.ref z) = false := by simp [Builtin.List.listSameRef, hSz]
  have n2 : (Value.type "zip" == Value.type "list") = false := by decide
  have n3 : (Value.type "zip" == Value.type "tuple") = false := by decide
  simp only [n1, n2, n3, Bool.or_false, Bool.false_eq_true, if_false]
  refine wpAny_bind (wpAny_pyIter_zip hz ?_)
  refine wpAny_bind (wpAny_holding ?_)
  unfold Builtin.List.listLengthHint
  refine wpAny_bind (wpAny_specialOf isz zip_lenless ?_)
  show wpAny _ A.in1 (specialOf (Value.ref z) (Str.ofString "__length_hint__") >>= _) _ _ _
  refine wpAny_bind (wpAny_specialOf isz zip_hintless ?_)
  refine wpAny_pure ?_
  show wpAny _ A.in1 (rule "list.extend.makes-room" >>= fun _ => Builtin.List.listTouch (.ref S) >>= fun _ => again (.builtin "list.extend.loop" ⟨[.ref S, .ref z, res], []⟩)) _ _ _
  refine wpAny_bind (wpAny_rule (wpAny_bind ?_))
  show wpAny _ A.in1 (updateSeq S (·.push .none) >>= fun _ => updateSeq S (·.pop)) _ _ _
  refine wpAny_bind (wpAny_updateSeq hSo rfl ?_)
  have o2 := Heap.get?_update_self (Obj.mapSeq (·.push Value.none)) hSo rfl
  refine wpAny_updateSeq (hz := by seq_fits) o2 rfl ?_
  have o3 := Heap.get?_update_self (Obj.mapSeq (·.pop)) o2 rfl
  have rest : ∀ b o, b ≠ S → s.heap.get? b = some o → ((s.heap.update S (Obj.mapSeq (·.push Value.none))).update S (Obj.mapSeq (·.pop))).get? b = some o :=
    fun b o hb e => by rw [Heap.get?_update_other _ _ (Ne.symm hb), Heap.get?_update_other _ _ (Ne.symm hb)]; exact e
  refine wpAny_pure ⟨plainId_quiet PySem.F.plain_extend_loop _, zp_loop (s := s) (h0 := h0) hh D hS hN h0N hsz res rfl hR _ 0 _ s.toks _ #[] [] rfl (Nat.zero_le _) (st.keep (S := S) rest hS ⟨_, o3⟩) (fun b o e => rest b o (h0N b o e).2.2.2.2 (keep0 b o e)) o3 rfl rfl ⟨(fun _ z => nomatch z), (fun j t e => by simp at e), .nil⟩ ?_⟩
  rw [Heap.size_update, Heap.size_update]
  exact big
theorem call_list_zip {z TI TO i1 i2 : Addr} {h0 : Heap} {Q : Value → Shared → Prop} {E : Value → Shared → Prop} (hh : A.handled = none) (D : ZipApart z TI TO i1 i2 l1 l2) (lo : ∀ b ∈ [z, TI, TO, i1, i2, l1, l2], b < s.heap.objs.size) (h0N : ∀ b o, h0.get? b = some o → b ≠ z ∧ b ≠ TO ∧ b ≠ i1 ∧ b ≠ i2) (keep0 : ∀ b o, h0.get? b = some o → s.heap.get? b = some o) (hsz : xs.size ≤ sizeLine)
    (st : ZpAt s.heap z TI TO i1 i2 l1 l2 xs ys 0) (hz : IsZip s.heap z TI TO .none)
    (hQ : ∀ h' tk acc c ts, (∀ b o, h0.get? b = some o → h'.get? b = some o) → h'.get? s.heap.objs.size = some { cls := .type "list", dict := none, data := .seq acc c, slots := #[] } → ts.length = min xs.size ys.size → PrsMade (s.heap.objs.size + 1) h' xs ys ts → acc.toList = ts.map Value.ref → Q (.ref s.heap.objs.size) { s with heap := h', toks := tk }) :
    wpAny (model prog w) A (call (.type "list") [.ref z]) Q E s := by
  have gone : s.heap.get? s.heap.objs.size = none := by
    cases e : s.heap.get? s.heap.objs.size with
    | none => rfl
    | some o => exact absurd (Heap.lt_size e) (Nat.lt_irrefl _)
  refine callType_codes (Q₁ := fun obj s₁ => obj = .ref s.heap.objs.size ∧ s₁ = { s with heap := s.heap.push { cls := .type "list", data := .seq #[] } }) PySem.F.called_list (PySem.F.typeCall_list_1 _) PySem.F.entry_list_init
    (code_list_new _ ⟨rfl, rfl⟩) fun obj s₁ got => ?_
  obtain ⟨rfl, rfl⟩ := got
  have o1 : (s.heap.push { cls := .type "list", data := .seq #[] }).get? s.heap.objs.size = some { cls := .type "list", data := .seq #[] } := Heap.get?_push_size _ rfl
  refine ⟨⟨_, o1, rfl⟩, PySem.F.args_list_init_2 _ _, ?_⟩
  show wpAny _ A.in1.in1 (do let old ← Builtin.List.listItems (.ref s.heap.objs.size); Builtin.List.listUpdate (.ref s.heap.objs.size) (fun _ => #[]); letGo old.toList.reverse; Builtin.List.listExtendWith (.ref s.heap.objs.size) (.ref z) .none) _ _ _
  refine wpAny_bind ?_
  unfold Builtin.List.listItems
  refine wpAny_bind (wpAny_seqItems o1 rfl (wpAny_pure ?_))
  show wpAny _ A.in1.in1 (updateSeq s.heap.objs.size (fun _ => #[]) >>= fun _ => letGo (#[] : Array Value).toList.reverse >>= fun _ => Builtin.List.listExtendWith (.ref s.heap.objs.size) (.ref z) .none) _ _ _
  refine wpAny_bind (wpAny_updateSeq o1 rfl ?_)
  have o2 := Heap.get?_update_self (Obj.mapSeq (fun _ => (#[] : Array Value))) o1 rfl
  have up : ∀ b o, b ≠ s.heap.objs.size → s.heap.get? b = some o → ((s.heap.push { cls := .type "list", data := .seq #[] }).update s.heap.objs.size (Obj.mapSeq (fun _ => (#[] : Array Value)))).get? b = some o := fun b o hb e => by
    rw [Heap.get?_update_other _ _ (Ne.symm hb)]
    exact Heap.get?_push_of_some _ e
  have hS : ∀ b ∈ [z, TI, TO, i1, i2, l1, l2], b ≠ s.heap.objs.size := fun b hb => Nat.ne_of_lt (lo b hb)
  refine wpAny_bind (wpAny_letGo ?_)
  refine zl_extend (A := A.in1) (h0 := h0) (N := s.heap.objs.size + 1) hh D hS (fun b hb => ?_) (fun b o e => ?_) hsz .none (st.keep (S := s.heap.objs.size) up hS ⟨_, o2⟩) (fun b o e => up b o (Nat.ne_of_lt (Heap.lt_size (keep0 b o e))) (keep0 b o e)) (up _ _ (hS z (by simp)) hz) o2 ?_ fun h' tk acc c ts k g1 g2 g3 g4 => ?_
  · simp only [List.mem_cons, List.not_mem_nil, or_false] at hb
    rcases hb with rfl | rfl | rfl | rfl | rfl
    · exact Nat.lt_succ_of_lt (lo _ (by simp))
    · exact Nat.lt_succ_of_lt (lo _ (by simp))
    · exact Nat.lt_succ_of_lt (lo _ (by simp))
    · exact Nat.lt_succ_of_lt (lo _ (by simp))
    · exact Nat.lt_succ_self _
  · obtain ⟨q1, q2, q3, q4⟩ := h0N b o e
    exact ⟨q1, q2, q3, q4, Nat.ne_of_lt (Heap.lt_size (keep0 b o e))⟩
  · rw [Heap.size_update, Heap.size_push]
    exact Nat.le_refl _
  · exact ⟨rfl, hQ h' tk acc c ts k g1 g2 g3 g4⟩
end
section
variable {X : Cx} {K : PySem.W.Frag}
def PrsIn (H : Hp) (xs ys : List V) (ts : List Addr) : Prop := ts.length = min xs.length ys.length ∧ ∀ (j : Nat) (t : Addr), ts[j]? = some t → ∃ x y, xs[j]? = some x ∧ ys[j]? = some y ∧ H t = some (.tup [x, y])
/-- the tuples tracked at their addresses -/
def putP (H : Hp) (p : Addr) (ts : List Addr) (ps : List (V × V)) : Hp := fun b => if b = p then some (.lst (ts.map V.ref)) else match (ts.zip ps).lookup b with
  | some q => some (HO.tup [q.1, q.2])
  | none => H b
theorem look_off {α : Type} {b : Addr} : ∀ {ts : List Addr} {ps : List α}, b ∉ ts → (ts.zip ps).lookup b = none
  | [], _, _ => rfl
  | _ :: _, [], _ => rfl
  | t :: ts, q :: ps, h => by
    rw [List.zip_cons_cons, List.lookup_cons, show (b == t) = false from by simpa using fun e => h (by rw [e]; exact List.mem_cons_self)]
    exact look_off fun z => h (List.mem_cons_of_mem _ z)
theorem look_at {α : Type} : ∀ {ts : List Addr} {ps : List α} {j : Nat} {t : Addr} {q : α}, ts.Nodup → ts[j]? = some t → ps[j]? = some q → (ts.zip ps).lookup t = some q
  | [], _, j, t, q, _, h, _ => by simp at h
  | _ :: _, [], j, t, q, _, _, h => by simp at h
  | a :: ts, b :: ps, 0, t, q, _, h, g => by
    cases h
    cases g
    rw [List.zip_cons_cons, List.lookup_cons, beq_self_eq_true]
  | a :: ts, b :: ps, j + 1, t, q, nd, h, g => by
    have h : ts[j]? = some t := by simpa using h
    have g : ps[j]? = some q := by simpa using g
    have nd := List.nodup_cons.mp nd
    rw [List.zip_cons_cons, List.lookup_cons, show (t == a) = false from by simpa using fun e => nd.1 (by rw [← e]; exact List.mem_of_getElem? h)]
    exact look_at nd.2 h g
theorem vals_at : ∀ {xs : List V} {us : List Value} {j : Nat} {u : Value}, Vals xs us → us[j]? = some u → ∃ x, xs[j]? = some x ∧ RelV x u
  | [], _, j, u, .nil, h => by simp at h
  | x :: xs, _, 0, u, .cons r t, h => by
    cases h
    exact ⟨x, rfl, r⟩
  | x :: xs, _, j + 1, u, .cons r t, h => vals_at (j := j) t (by simpa using h)
theorem zip_laid {pins : List (Addr × Obj)} {σ : L2.St} {H : Hp} {s : Shared} {h' : Heap} {tk : Nat} {p N : Addr} {xs ys : List V} {us ws : List Value} {acc : Array Value} {c : Nat} {ts : List Addr} (I : Inv X pins σ H s) (rx : Vals xs us) (ry : Vals ys ws) (hz : us.length ≤ sizeLine)
    (hp : s.heap.objs.size ≤ p) (hN : p < N) (keep : ∀ b o, s.heap.get? b = some o → h'.get? b = some o) (hS : h'.get? p = some { cls := .type "list", dict := none, data := .seq acc c, slots := #[] }) (hl : ts.length = min us.length ws.length) (made : PrsMade N h' us.toArray ws.toArray ts) (hacc : acc.toList = ts.map Value.ref) :
    ∃ H', H' p = some (.lst (ts.map V.ref)) ∧ PrsIn H' xs ys ts ∧ Kp [] H H' ∧ Inv X pins σ H' { s with heap := h', toks := tk } := by
  have lx := rx.length
  have ly := ry.length
  have nd : ts.Nodup := made.up.imp fun h => Nat.ne_of_lt h
  have pn : p ∉ ts := fun z => Nat.lt_irrefl _ (Nat.lt_of_lt_of_le hN (made.lo p z))
  have newp : H p = none := I.hok.fresh hp
  have newt : ∀ t ∈ ts, H t = none := fun t ht => I.hok.fresh (Nat.le_trans hp (Nat.le_trans (Nat.le_of_lt hN) (made.lo t ht)))
  have off : ∀ b, b ∉ ts → b ≠ p → putP H p ts (xs.zip ys) b = H b := fun b h1 h2 => by
    show (if b = p then some (HO.lst (ts.map V.ref)) else match (ts.zip (xs.zip ys)).lookup b with | some q => some (HO.tup [q.1, q.2]) | none => H b) = _
    rw [if_neg h2, look_off h1]
  have atP : putP H p ts (xs.zip ys) p = some (.lst (ts.map V.ref)) := if_pos rfl
  have prs : ∀ (j : Nat) (t : Addr), ts[j]? = some t → ∃ x y u v, xs[j]? = some x ∧ ys[j]? = some y ∧ us[j]? = some u ∧ ws[j]? = some v ∧ RelV x u ∧ RelV y v ∧ IsPair h' t u v ∧ putP H p ts (xs.zip ys) t = some (.tup [x, y]) := fun j t ht => by
    obtain ⟨u, v, f1, f2, f3⟩ := made.pr j t ht
    have f1 : us[j]? = some u := by simpa using f1
    have f2 : ws[j]? = some v := by simpa using f2
    obtain ⟨x, g1, g2⟩ := vals_at rx f1
    obtain ⟨y, g3, g4⟩ := vals_at ry f2
    refine ⟨x, y, u, v, g1, g3, f1, f2, g2, g4, f3, ?_⟩
    have mt := List.mem_of_getElem? ht
    show (if t = p then some (HO.lst (ts.map V.ref)) else match (ts.zip (xs.zip ys)).lookup t with | some q => some (HO.tup [q.1, q.2]) | none => H t) = _
    rw [if_neg (fun e : t = p => pn (e ▸ mt)), look_at (q := (x, y)) nd ht (List.getElem?_zip_eq_some.mpr ⟨g1, g3⟩)]
  have kp : ∀ b u, H b = some u → putP H p ts (xs.zip ys) b = some u := fun b u e => by
    rw [off b (fun z => by rw [newt b z] at e; cases e) (fun z => by rw [z, newp] at e; cases e)]
    exact e
  refine ⟨putP H p ts (xs.zip ys), atP, ⟨by rw [hl, lx, ly], fun j t ht => ?_⟩, ⟨fun b u e _ => kp b u e, fun b _ e => kp b _ e, fun b _ e => kp b _ e⟩, ?_⟩
  · obtain ⟨x, y, u, v, g1, g2, _, _, _, _, _, g3⟩ := prs j t ht
    exact ⟨x, y, g1, g2, g3⟩
  refine I.call' (ch := []) rfl ⟨fun b o q _ _ _ => keep b o q, fun b o q _ _ _ => ⟨o.slots, keep b o q⟩, fun b o q n _ => ?_, fun b o q _ => ⟨o, keep b o q⟩, fun b xs q => kp b _ q, fun b o u q => kp b _ q, fun b ps q => ⟨#[], by rw [kp b _ q]; simp⟩⟩ (fun b u q => ?_) I.bare fun b z => by simp at z
  · have lt := Heap.lt_size q
    rw [off b (fun z => ?_) (Nat.ne_of_lt (Nat.lt_of_lt_of_le lt hp))]
    · exact n
    · exact Nat.lt_irrefl _ (Nat.lt_of_lt_of_le lt (Nat.le_trans hp (Nat.le_trans (Nat.le_of_lt hN) (made.lo b z))))
  · by_cases hb : b ∈ ts
    · obtain ⟨j, hj⟩ := List.getElem?_of_mem hb
      obtain ⟨x, y, a1, a2, g1, g2, _, _, r1, r2, f3, g3⟩ := prs j b hj
      rw [g3] at q
      cases q
      exact ⟨by show 2 ≤ sizeLine; decide, [a1, a2], .cons r1 (.cons r2 .nil), ⟨_, f3, rfl, _, rfl⟩⟩
    · by_cases hb2 : b = p
      · rw [hb2] at q ⊢
        rw [atP] at q
        cases q
        refine ⟨by rw [List.length_map]; omega, acc.toList, c, by rw [hacc]; exact LiI.vals_refs ts, ?_⟩
        rw [Array.toArray_toList]
        exact hS
      · rw [off b hb hb2] at q
        exact (I.hok b u q).stay (fun d v _ y => keep d v y) (fun d y => kp d _ y) fun d xs y => kp d _ y
def tListZip (K : PySem.W.Frag) (ta : TA) : TE := fun σ H Q => ta σ H fun vs H1 => ∃ a b xs ys, vs = [.ref a, .ref b] ∧ SqL K H1 a xs ∧ SqL K H1 b ys ∧ ∀ p ts H', H' p = some (.lst (ts.map V.ref)) → PrsIn H' xs ys ts → Kp [] H1 H' → Q (.ref p) H'
/-- list(zip(e, e2)) -/
theorem pe_listZip {e e2 : Expr} {ta : TA} {p p2 pos pos2 : Pos} (hK : X.K = K) (hc : X.calm = true) (hg : Gl X "list") (hm : X.mg "list" = none) (hg2 : Gl X "zip") (hm2 : X.mg "zip" = none) (ha : PA X [e, e2] ta)
    (hs : starEach [e, e2] X.env = (false, eval e X.env) :: starEach [e2] X.env := by rfl) (hpl : (backTo pos2 (starEach [e2] X.env)).any (·.1) = false := by rfl)
    (hs2 : starEach [.Call (.Name "zip" p2) [e, e2] [] pos2] X.env = (false, eval (.Call (.Name "zip" p2) [e, e2] [] pos2) X.env) :: starEach [] X.env := by rfl) :
    PE X (.Call (.Name "list" p) [.Call (.Name "zip" p2) [e, e2] [] pos2] [] pos) (tListZip K ta) := by
  subst hK
  refine ⟨fun pins s σ H Q I h => ?_⟩
  refine wpAny_Call_Name_kw (ld_blt I hg hm (show bootBuiltins "list" = some (.type "list") by decide +kernel) ?_)
  refine PyProof.Rows.callWith_type1 ?_ hs2 rfl
  rw [hs2]
  show wpAny _ _ (spliced ((false, eval (.Call (.Name "zip" p2) [e, e2] [] pos2) X.env) :: backTo pos (starEach [] X.env))) _ _ s
  refine Calls.spliced_cons ?_
  refine Call_ (ld_blt I hg2 hm2 PyProof.Rows.boot_zip (PyProof.Rows.callWith_type1 (thn (ha.run pos2 pins s σ H _ I h) fun us s1 ⟨vs, H1, I1, r1, q1⟩ => ?_) hs hpl))
  obtain ⟨a, b, xs, ys, rfl, hqx, hqy, q⟩ := q1
  obtain ⟨its, rv, p1, hz1⟩ := I1.list hqx
  obtain ⟨its2, rv2, p3, _⟩ := I1.list hqy
  have la : a < s1.heap.objs.size := p1.lt
  have lb : b < s1.heap.objs.size := p3.lt
  obtain rfl : us = [.ref a, .ref b] := by
    cases r1 with
    | cons r rr =>
      cases rr with
      | cons r' rr =>
        cases rr
        cases r
        cases r'
        rfl
  refine call_zip_2 p1.isList p3.isList fun h2 hz hTI hTO h1 h3 hsz hk => ?_
  refine Calls.spliced_nil ?_
  have D := PySem.W.ktu_apart s1.heap.objs.size a b la lb
  have low : ∀ b o, s1.heap.get? b = some o → ∀ k, b ≠ s1.heap.objs.size + k := fun b o e k => Nat.ne_of_lt (Nat.lt_of_lt_of_le (Heap.lt_size e) (Nat.le_add_right _ k))
  have keepL : ∀ {l : Addr} {vs : Array Value}, s1.heap.IsList l vs → h2.IsList l vs := fun ⟨o, ho, r⟩ => ⟨o, hk _ o ho, r⟩
  have st : ZpAt h2 (s1.heap.objs.size + 4) (s1.heap.objs.size + 2) (s1.heap.objs.size + 3) s1.heap.objs.size (s1.heap.objs.size + 1) a b its.toArray its2.toArray 0 := ⟨.inl ⟨hz, _, _, hTO⟩, hTI, h1, h3, keepL p1.isList, keepL p3.isList⟩
  refine call_list_zip (s := { s1 with heap := h2 }) (h0 := s1.heap) (I1.ok.hd hc) D (fun c hcm => ?_) (fun c o e => ⟨low c o e 4, low c o e 3, low c o e 0, low c o e 1⟩) hk (by rw [List.size_toArray, ← rv.length]; exact hz1) st hz fun h' tk acc c ts k g1 g2 g3 g4 => ?_
  · show c < h2.objs.size
    rw [hsz]
    simp only [List.mem_cons, List.not_mem_nil, or_false] at hcm
    rcases hcm with rfl | rfl | rfl | rfl | rfl | rfl | rfl
    · exact Nat.add_lt_add_left (by decide) _
    · exact Nat.add_lt_add_left (by decide) _
    · exact Nat.add_lt_add_left (by decide) _
    · exact Nat.lt_add_of_pos_right (by decide)
    · exact Nat.add_lt_add_left (by decide) _
    · exact Nat.lt_of_lt_of_le la (Nat.le_add_right _ _)
    · exact Nat.lt_of_lt_of_le lb (Nat.le_add_right _ _)
  · have hge : s1.heap.objs.size ≤ h2.objs.size := by
      rw [hsz]
      exact Nat.le_add_right _ _
    obtain ⟨H', e1, e2, e3, J⟩ := zip_laid (tk := tk) I1 rv rv2 (by rw [← rv.length]; exact hz1) hge (Nat.lt_succ_self _) k g1 (by simpa using g2) g3 g4
    exact ⟨.ref _, H', J, rfl, q _ ts H' e1 e2 e3⟩
end
end EH
namespace EH
open PySem L2
/-! ### values by pairs: p * t + q -/
def pv2 (x : Int × Int) (t : Int) : Int := x.1 * t + x.2
def Ex.pe (nm : Str → Int × Int) : Ex → Int × Int
  | .num i => (0, i)
  | .var x => nm x
  | .plus a b => ((a.pe nm).1 + (b.pe nm).1, (a.pe nm).2 + (b.pe nm).2)
  | .minus a b => ((a.pe nm).1 - (b.pe nm).1, (a.pe nm).2 - (b.pe nm).2)
  | .times k a => (k * (a.pe nm).1, k * (a.pe nm).2)
theorem Ex.pe_ev (nm : Str → Int × Int) (t : Int) : ∀ e : Ex, pv2 (e.pe nm) t = e.ev fun y => pv2 (nm y) t
  | .num i => by simp [Ex.pe, Ex.ev, pv2]
  | .var x => rfl
  | .plus a b => by
    have h1 := Ex.pe_ev nm t a
    have h2 := Ex.pe_ev nm t b
    simp only [Ex.pe, Ex.ev]
    rw [← h1, ← h2]
    unfold pv2
    rw [Int.add_mul]
    omega
  | .minus a b => by
    have h1 := Ex.pe_ev nm t a
    have h2 := Ex.pe_ev nm t b
    simp only [Ex.pe, Ex.ev]
    rw [← h1, ← h2]
    unfold pv2
    rw [Int.sub_mul]
    omega
  | .times k a => by
    have h1 := Ex.pe_ev nm t a
    simp only [Ex.pe, Ex.ev]
    rw [← h1]
    unfold pv2
    rw [Int.mul_add, Int.mul_assoc]
/-! ### statements with their places, one behind another -/
def pcs : List Sm → Int → List (Int × Sm)
  | [], _ => []
  | s :: r, p => (p, s) :: pcs r (p + (s.pl : Int))
section
variable (dec : Nat → Int → Int → Int) (ways : Int → Option Int)
def runT : List (Int × Sm) → Cs → Option Str × Cs
  | [], s => (none, s)
  | x :: r, s => match x.2.run dec ways x.1 s with
    | (some c, s') => (some c, s')
    | (none, s') => runT r s'
theorem runT_pcs : ∀ (b : List Sm) (p : Int) (s : Cs), runT dec ways (pcs b p) s = Sm.runs dec ways b p s
  | [], p, s => by simp only [pcs, runT, Sm.runs]
  | t :: r, p, s => by
    simp only [pcs, runT, Sm.runs]
    cases t.run dec ways p s with
    | mk o s' =>
      cases o with
      | none => exact runT_pcs r _ s'
      | some c => rfl
theorem runT_app (a b : List (Int × Sm)) (s : Cs) : runT dec ways (a ++ b) s = match runT dec ways a s with
    | (some c, s') => (some c, s')
    | (none, s') => runT dec ways b s' := by
  induction a generalizing s with
  | nil => rfl
  | cons x r ih =>
    simp only [List.cons_append, runT]
    cases x.2.run dec ways x.1 s with
    | mk o s' =>
      cases o with
      | none => exact ih s'
      | some c => rfl
/-- into a block -/
theorem runT_into (b : List Sm) (p : Int) (r : List (Int × Sm)) (s : Cs) : runT dec ways (pcs b p ++ r) s = match Sm.runs dec ways b p s with
    | (some c, s') => (some c, s')
    | (none, s') => runT dec ways r s' := by rw [runT_app, runT_pcs]
def repT (x : List (Int × Sm)) : Nat → List (Int × Sm)
  | 0 => []
  | k + 1 => x ++ repT x k
theorem runT_rep (b : List Sm) (p : Int) (r : List (Int × Sm)) : ∀ (k : Nat) (s : Cs), runT dec ways (repT (pcs b p) k ++ r) s = match iterN k (fun s => Sm.runs dec ways b p s) s with
    | (some c, s') => (some c, s')
    | (none, s') => runT dec ways r s'
  | 0, s => by simp only [repT, List.nil_append, iterN]
  | k + 1, s => by
    simp only [repT, List.append_assoc, iterN]
    rw [runT_into]
    cases Sm.runs dec ways b p s with
    | mk o s' =>
      cases o with
      | none => exact runT_rep b p r k s'
      | some c => rfl
end
/-! ### paths -/
structure PS where
  rest : Int
  by_ : Int
  low : Option Int
  high : Option Int
  names : Str → Int × Int
  todo : List (Int × Sm)
  turns : List Int
  tell : List (Str ⊕ (Int × Int))
  word : Option Str
def inLow : Option Int → Int → Prop
  | none, _ => True
  | some l, t => l ≤ t
def inHigh : Option Int → Int → Prop
  | none, _ => True
  | some h, t => t ≤ h
/-- t is a number of the path -/
def PS.inT (P : PS) (t : Int) : Prop := inLow P.low t ∧ inHigh P.high t
/-- n is an input of the path, by its t -/
def PS.at_ (P : PS) (n t : Int) : Prop := n = P.by_ * t + P.rest ∧ P.inT t
def tellAt (t : Int) : Str ⊕ (Int × Int) → Key
  | .inl w => Sum.inr w
  | .inr x => Sum.inl (pv2 x t)
def PS.st (P : PS) (t : Int) : Cs := ⟨fun y => pv2 (P.names y) t, P.tell.map (tellAt t), P.turns⟩
/-- choices that begin with the turns -/
def Pre (ts c : List Int) : Prop := ∀ k, k < ts.length → c.getD k 0 = ts.getD k 0
/-- the run of a path -/
def PS.res (P : PS) (ways : Int → Option Int) (c : List Int) (t : Int) : Option Str × Cs := match P.word with
  | some w => (some w, P.st t)
  | none => runT (decC c) ways P.todo (P.st t)
/-- no input and choices in common -/
def Apt (P Q : PS) : Prop := ∀ n c t t', P.at_ n t → Q.at_ n t' → Pre P.turns c → Pre Q.turns c → ty01 c → False
theorem Apt.symm {P Q : PS} (h : Apt P Q) : Apt Q P := fun n c t t' a b p q y => h n c t' t b a q p y
/-- Ps stand for P: what a step makes of a path -/
structure Splits (ways : Int → Option Int) (P : PS) (Ps : List PS) : Prop where
  sound : ∀ Q ∈ Ps, ∀ n t c, Q.at_ n t → Pre Q.turns c → ty01 c → ∃ t', P.at_ n t' ∧ Pre P.turns c ∧ Q.res ways c t = P.res ways c t'
  cover : ∀ n t c, P.at_ n t → Pre P.turns c → ty01 c → ∃ Q ∈ Ps, ∃ t', Q.at_ n t' ∧ Pre Q.turns c
  disj : Ps.Pairwise Apt
/-- paths that tell all runs of a program on some inputs, each of them once -/
structure Fam (ways : Int → Option Int) (b : List Sm) (In : Int → Prop) (F : List PS) : Prop where
  sound : ∀ P ∈ F, ∀ n t c, P.at_ n t → Pre P.turns c → ty01 c → In n ∧ P.res ways c t = rn ways b n c
  cover : ∀ n c, In n → ty01 c → ∃ P ∈ F, ∃ t, P.at_ n t ∧ Pre P.turns c
  disj : F.Pairwise Apt
theorem Fam.perm {ways : Int → Option Int} {b : List Sm} {In : Int → Prop} {F G : List PS} (h : Fam ways b In F) (p : F.Perm G) : Fam ways b In G :=
  ⟨fun P hP => h.sound P (p.mem_iff.mpr hP), fun n c hi hc => let ⟨P, hP, x⟩ := h.cover n c hi hc; ⟨P, p.mem_iff.mp hP, x⟩, (p.pairwise_iff fun a => a.symm).mp h.disj⟩
theorem Fam.step {ways : Int → Option Int} {b : List Sm} {In : Int → Prop} {F Ps : List PS} {P : PS} (h : Fam ways b In (P :: F)) (s : Splits ways P Ps) : Fam ways b In (Ps ++ F) := by
  have hd := List.pairwise_cons.mp h.disj
  refine ⟨fun Q hQ n t c ha hp hc => ?_, fun n c hi hc => ?_, ?_⟩
  · rcases List.mem_append.mp hQ with z | z
    · obtain ⟨t', a, p, e⟩ := s.sound Q z n t c ha hp hc
      rw [e]
      exact h.sound P List.mem_cons_self n t' c a p hc
    · exact h.sound Q (List.mem_cons_of_mem _ z) n t c ha hp hc
  · obtain ⟨Q, hQ, t, a, p⟩ := h.cover n c hi hc
    rcases List.mem_cons.mp hQ with rfl | z
    · obtain ⟨R, hR, t', a', p'⟩ := s.cover n t c a p hc
      exact ⟨R, List.mem_append_left _ hR, t', a', p'⟩
    · exact ⟨Q, List.mem_append_right _ z, t, a, p⟩
  · refine List.pairwise_append.mpr ⟨s.disj, hd.2, fun Q hQ R hR n c t t' a a' p p' y => ?_⟩
    obtain ⟨t2, b1, b2, _⟩ := s.sound Q hQ n t c a p y
    exact hd.1 R hR n c t2 t' b1 a' b2 p' y
/-- behind one statement: nothing else changes -/
theorem splits_one {ways : Int → Option Int} {P Q : PS} (h1 : Q.rest = P.rest) (h2 : Q.by_ = P.by_) (h3 : Q.low = P.low) (h4 : Q.high = P.high) (h5 : Q.turns = P.turns)
    (h : ∀ c t, P.inT t → ty01 c → Pre P.turns c → Q.res ways c t = P.res ways c t) : Splits ways P [Q] := by
  have e : ∀ n t, Q.at_ n t ↔ P.at_ n t := fun n t => by
    unfold PS.at_ PS.inT
    rw [h1, h2, h3, h4]
  refine ⟨fun Q' hQ n t c ha hp hc => ?_, fun n t c ha hp hc => ⟨Q, List.mem_singleton.mpr rfl, t, (e n t).mpr ha, by rw [h5]; exact hp⟩, List.pairwise_singleton _ _⟩
  cases List.mem_singleton.mp hQ
  rw [h5] at hp
  have ha' := (e n t).mp ha
  exact ⟨t, ha', hp, h c t ha'.2 hc hp⟩
/-! parts of a path -/
def emptyB : Option Int → Option Int → Bool
  | some l, some h => decide (h < l)
  | _, _ => false
def PS.keep (P : PS) : List PS := if emptyB P.low P.high then [] else [P]
theorem PS.keep_mem {P Q : PS} (h : Q ∈ P.keep) : Q = P := by
  unfold PS.keep at h
  split at h
  · cases h
  · exact List.mem_singleton.mp h
theorem PS.mem_keep {P : PS} {t : Int} (h : P.inT t) : P ∈ P.keep := by
  unfold PS.keep
  rw [if_neg]
  · exact List.mem_singleton.mpr rfl
  · obtain ⟨h1, h2⟩ := h
    cases e1 : P.low with
    | none => rw [emptyB]; exact Bool.false_ne_true; simp
    | some l =>
      cases e2 : P.high with
      | none => rw [emptyB]; exact Bool.false_ne_true; simp
      | some hh =>
        rw [e1] at h1
        rw [e2] at h2
        have h1 : l ≤ t := h1
        have h2 : t ≤ hh := h2
        simp only [emptyB, decide_eq_true_eq]
        omega
theorem keep_pair {A B : PS} (h : Apt A B) : (A.keep ++ B.keep).Pairwise Apt := by
  unfold PS.keep
  split <;> split <;> simp [h]
def maxO : Option Int → Option Int → Option Int
  | none, x => x
  | x, none => x
  | some a, some b => some (max a b)
def minO : Option Int → Option Int → Option Int
  | none, x => x
  | x, none => x
  | some a, some b => some (min a b)
theorem inLow_max (a b : Option Int) (t : Int) : inLow (maxO a b) t ↔ inLow a t ∧ inLow b t := by
  cases a <;> cases b <;> simp only [maxO, inLow, true_and, and_true]
  omega
theorem inHigh_min (a b : Option Int) (t : Int) : inHigh (minO a b) t ↔ inHigh a t ∧ inHigh b t := by
  cases a <;> cases b <;> simp only [minO, inHigh, true_and, and_true]
  omega
def PS.btw (P : PS) (lo hi : Option Int) : PS := { P with low := maxO P.low lo, high := minO P.high hi }
theorem btw_at {P : PS} {lo hi : Option Int} {n t : Int} : (P.btw lo hi).at_ n t ↔ P.at_ n t ∧ inLow lo t ∧ inHigh hi t := by
  unfold PS.at_ PS.inT PS.btw
  dsimp only
  rw [inLow_max, inHigh_min]
  constructor
  · rintro ⟨a, ⟨b, c⟩, d, e⟩; exact ⟨⟨a, b, d⟩, c, e⟩
  · rintro ⟨⟨a, b, d⟩, c, e⟩; exact ⟨a, ⟨b, c⟩, d, e⟩
/-- t is unique -/
theorem at_uniq {P : PS} (hb : 0 < P.by_) {n t t' : Int} (h : P.at_ n t) (h' : P.at_ n t') : t = t' := by
  have e := h.1.symm.trans h'.1
  have : P.by_ * t = P.by_ * t' := by omega
  exact Int.eq_of_mul_eq_mul_left (by omega) this
def led (x : Int × Int) (r : Int) : Int × Int := (2 * x.1, x.1 * r + x.2)
theorem led_at (x : Int × Int) (r t : Int) : pv2 (led x r) t = pv2 x (2 * t + r) := by
  unfold pv2 led
  dsimp only
  rw [Int.mul_add, ← Int.mul_assoc, Int.mul_comm x.1 2]
  omega
def ledT (r : Int) : Str ⊕ (Int × Int) → Str ⊕ (Int × Int)
  | .inl w => .inl w
  | .inr x => .inr (led x r)
def PS.wr (P : PS) (r : Int) : PS :=
  { P with rest := P.rest + P.by_ * r, by_ := 2 * P.by_, low := P.low.map fun l => 0 - (0 - (l - r)) / 2, high := P.high.map fun h => (h - r) / 2, names := fun y => led (P.names y) r, tell := P.tell.map (ledT r) }
theorem wr_at {P : PS} {r n t : Int} : (P.wr r).at_ n t ↔ P.at_ n (2 * t + r) := by
  unfold PS.at_ PS.inT PS.wr
  dsimp only
  have e : 2 * P.by_ * t + (P.rest + P.by_ * r) = P.by_ * (2 * t + r) + P.rest := by
    rw [Int.mul_add, ← Int.mul_assoc, Int.mul_comm P.by_ 2]
    omega
  rw [e]
  have e1 : inLow (P.low.map fun l => 0 - (0 - (l - r)) / 2) t ↔ inLow P.low (2 * t + r) := by
    cases P.low with
    | none => exact Iff.rfl
    | some l => simp only [Option.map_some, inLow]; omega
  have e2 : inHigh (P.high.map fun h => (h - r) / 2) t ↔ inHigh P.high (2 * t + r) := by
    cases P.high with
    | none => exact Iff.rfl
    | some l => simp only [Option.map_some, inHigh]; omega
  rw [e1, e2]
theorem wr_st {P : PS} {r t : Int} : (P.wr r).st t = P.st (2 * t + r) := by
  unfold PS.st PS.wr
  dsimp only
  congr 1
  · funext y
    exact led_at _ _ _
  · rw [List.map_map]
    refine List.map_congr_left fun x _ => ?_
    cases x with
    | inl w => rfl
    | inr x => show Sum.inl (pv2 (led x r) t) = _; rw [led_at]; rfl
theorem wr_res {P : PS} {ways : Int → Option Int} {c : List Int} {r t : Int} : (P.wr r).res ways c t = P.res ways c (2 * t + r) := by
  unfold PS.res
  rw [wr_st]
  rfl
def PS.both (P : PS) : List PS := (P.wr 0).keep ++ (P.wr 1).keep
theorem splits_both {ways : Int → Option Int} {P : PS} (hb : 0 < P.by_) : Splits ways P P.both := by
  refine ⟨fun Q hQ n t c ha hp hc => ?_, fun n t c ha hp hc => ?_, keep_pair fun n c t t' a a' _ _ _ => ?_⟩
  · obtain ⟨r, rfl⟩ : ∃ r, Q = P.wr r := by
      rcases List.mem_append.mp hQ with z | z
      · exact ⟨0, PS.keep_mem z⟩
      · exact ⟨1, PS.keep_mem z⟩
    exact ⟨2 * t + r, wr_at.mp ha, hp, wr_res⟩
  · rcases Int.emod_two_eq t with z | z
    · have e : t = 2 * (t / 2) + 0 := by omega
      rw [e] at ha
      have a := wr_at.mpr ha
      exact ⟨P.wr 0, List.mem_append_left _ (PS.mem_keep a.2), _, a, hp⟩
    · have e : t = 2 * (t / 2) + 1 := by omega
      rw [e] at ha
      have a := wr_at.mpr ha
      exact ⟨P.wr 1, List.mem_append_right _ (PS.mem_keep a.2), _, a, hp⟩
  · have := at_uniq hb (wr_at.mp a) (wr_at.mp a')
    omega
end EH
namespace EH
open PySem L2
/-! ### one step of a path -/
def lessParts (P : PS) (x : Int × Int) : List PS × List PS :=
  if x.1 = 0 then (if x.2 < 0 then ([P], []) else ([], [P]))
  else if x.1 > 0 then ((P.btw none (some ((0 - x.2 - 1) / x.1))).keep, (P.btw (some ((0 - x.2 - 1) / x.1 + 1)) none).keep)
  else ((P.btw (some (0 - (0 - x.2 - 1) / (0 - x.1))) none).keep, (P.btw none (some (0 - (0 - x.2 - 1) / (0 - x.1) - 1))).keep)
/-- two rows of parts of P by a test: each part tells as P does -/
structure Parts (P : PS) (f : Int → Bool) (ab : List PS × List PS) : Prop where
  like : ∀ Q, Q ∈ ab.1 ∨ Q ∈ ab.2 → ∃ lo hi, Q = { P with low := lo, high := hi }
  yes : ∀ Q ∈ ab.1, ∀ n t, Q.at_ n t → P.at_ n t ∧ f t = true
  no : ∀ Q ∈ ab.2, ∀ n t, Q.at_ n t → P.at_ n t ∧ f t = false
  here : ∀ n t, P.at_ n t → f t = true → ∃ Q ∈ ab.1, Q.at_ n t
  there : ∀ n t, P.at_ n t → f t = false → ∃ Q ∈ ab.2, Q.at_ n t
  d1 : ab.1.Pairwise Apt
  d2 : ab.2.Pairwise Apt
theorem keep_one (P : PS) : P.keep.Pairwise Apt := by
  unfold PS.keep
  split
  · exact .nil
  · exact List.pairwise_singleton _ _
theorem parts_of {P A B : PS} {f : Int → Bool} (hA : ∃ lo hi, A = P.btw lo hi ∧ ∀ t, (inLow lo t ∧ inHigh hi t) ↔ f t = true) (hB : ∃ lo hi, B = P.btw lo hi ∧ ∀ t, (inLow lo t ∧ inHigh hi t) ↔ f t = false) : Parts P f (A.keep, B.keep) := by
  obtain ⟨l1, h1, rfl, e1⟩ := hA
  obtain ⟨l2, h2, rfl, e2⟩ := hB
  refine ⟨fun Q hQ => ?_, fun Q hQ n t a => ?_, fun Q hQ n t a => ?_, fun n t a hf => ?_, fun n t a hf => ?_, keep_one _, keep_one _⟩
  · rcases hQ with z | z
    · rw [PS.keep_mem z]; exact ⟨_, _, rfl⟩
    · rw [PS.keep_mem z]; exact ⟨_, _, rfl⟩
  · rw [PS.keep_mem hQ] at a
    obtain ⟨b, c⟩ := btw_at.mp a
    exact ⟨b, (e1 t).mp c⟩
  · rw [PS.keep_mem hQ] at a
    obtain ⟨b, c⟩ := btw_at.mp a
    exact ⟨b, (e2 t).mp c⟩
  · have z := btw_at.mpr ⟨a, (e1 t).mpr hf⟩
    exact ⟨_, PS.mem_keep z.2, z⟩
  · have z := btw_at.mpr ⟨a, (e2 t).mpr hf⟩
    exact ⟨_, PS.mem_keep z.2, z⟩
theorem parts_yes (P : PS) {f : Int → Bool} (h : ∀ t, f t = true) : Parts P f ([P], []) := by
  refine ⟨fun Q hQ => ?_, fun Q hQ n t a => ?_, (fun Q hQ => nomatch hQ), fun n t a _ => ⟨P, List.mem_singleton.mpr rfl, a⟩, fun n t a hf => ?_, List.pairwise_singleton _ _, .nil⟩
  · rcases hQ with z | z
    · cases List.mem_singleton.mp z
      exact ⟨P.low, P.high, rfl⟩
    · cases z
  · cases List.mem_singleton.mp hQ
    exact ⟨a, h t⟩
  · rw [h t] at hf
    cases hf
theorem parts_no (P : PS) {f : Int → Bool} (h : ∀ t, f t = false) : Parts P f ([], [P]) := by
  refine ⟨fun Q hQ => ?_, (fun Q hQ => nomatch hQ), fun Q hQ n t a => ?_, fun n t a hf => ?_, fun n t a _ => ⟨P, List.mem_singleton.mpr rfl, a⟩, .nil, List.pairwise_singleton _ _⟩
  · rcases hQ with z | z
    · cases z
    · cases List.mem_singleton.mp z
      exact ⟨P.low, P.high, rfl⟩
  · cases List.mem_singleton.mp hQ
    exact ⟨a, h t⟩
  · rw [h t] at hf
    cases hf
theorem Parts.swap {P : PS} {f : Int → Bool} {a b : List PS} (h : Parts P f (a, b)) : Parts P (fun t => !f t) (b, a) := by
  refine ⟨fun Q hQ => h.like Q hQ.symm, fun Q hQ n t x => ?_, fun Q hQ n t x => ?_, fun n t x hf => h.there n t x ?_, fun n t x hf => h.here n t x ?_, h.d2, h.d1⟩
  · obtain ⟨u, v⟩ := h.no Q hQ n t x
    exact ⟨u, by show (!f t) = _; rw [v]; rfl⟩
  · obtain ⟨u, v⟩ := h.yes Q hQ n t x
    exact ⟨u, by show (!f t) = _; rw [v]; rfl⟩
  · have hf : (!f t) = _ := hf
    cases e : f t with
    | false => rfl
    | true => rw [e] at hf; cases hf
  · have hf : (!f t) = _ := hf
    cases e : f t with
    | false => rw [e] at hf; cases hf
    | true => rfl
theorem less_parts (P : PS) (x : Int × Int) : Parts P (fun t => decide (pv2 x t < 0)) (lessParts P x) := by
  unfold lessParts
  split
  · rename_i h0
    have e : ∀ t, pv2 x t = x.2 := fun t => by unfold pv2; rw [h0, Int.zero_mul, Int.zero_add]
    split
    · rename_i h1
      exact parts_yes P fun t => decide_eq_true (by rw [e]; exact h1)
    · rename_i h1
      exact parts_no P fun t => decide_eq_false (by rw [e]; exact h1)
  · rename_i h0
    split
    · rename_i h1
      have key : ∀ t, t ≤ (0 - x.2 - 1) / x.1 ↔ pv2 x t < 0 := fun t => by
        rw [Int.le_ediv_iff_mul_le h1]
        unfold pv2
        rw [Int.mul_comm]
        omega
      refine parts_of ⟨none, some _, rfl, fun t => ?_⟩ ⟨some _, none, rfl, fun t => ?_⟩
      · simp only [inLow, inHigh, true_and, decide_eq_true_eq]
        exact key t
      · simp only [inLow, inHigh, and_true, decide_eq_false_iff_not, ← key t]
        omega
    · rename_i h1
      have h2 : 0 < 0 - x.1 := by omega
      have key : ∀ t, 0 - (0 - x.2 - 1) / (0 - x.1) ≤ t ↔ pv2 x t < 0 := fun t => by
        have z := Int.le_ediv_iff_mul_le (a := 0 - t) (b := 0 - x.2 - 1) h2
        have e : (0 - t) * (0 - x.1) = x.1 * t := by
          rw [Int.zero_sub, Int.zero_sub, Int.neg_mul_neg, Int.mul_comm]
        rw [e] at z
        unfold pv2
        omega
      refine parts_of ⟨some _, none, rfl, fun t => ?_⟩ ⟨none, some _, rfl, fun t => ?_⟩
      · simp only [inLow, inHigh, and_true, decide_eq_true_eq]
        exact key t
      · simp only [inLow, inHigh, true_and, decide_eq_false_iff_not, ← key t]
        omega
def pdiff (a b : Int × Int) : Int × Int := (a.1 - b.1, a.2 - b.2)
theorem pdiff_at (a b : Int × Int) (t : Int) : pv2 (pdiff a b) t = pv2 a t - pv2 b t := by
  unfold pv2 pdiff
  dsimp only
  rw [Int.sub_mul]
  omega
/-- the parts of a path by a test; none where the path must be parted first -/
def Ts.prt (P : PS) : Ts → Option (List PS × List PS)
  | .not t => (Ts.prt P t).map fun ab => (ab.2, ab.1)
  | .odd e => if (e.pe P.names).1 % 2 = 1 then none else some (if (e.pe P.names).2 % 2 = 1 then ([P], []) else ([], [P]))
  | .less a b => some (lessParts P (pdiff (a.pe P.names) (b.pe P.names)))
theorem odd_of {x : Int × Int} (h : ¬ x.1 % 2 = 1) (t : Int) : pv2 x t % 2 = x.2 % 2 := by
  unfold pv2
  obtain ⟨k, e⟩ : ∃ k, x.1 = 2 * k := ⟨x.1 / 2, by omega⟩
  rw [e, Int.mul_assoc]
  omega
theorem Ts.prt_ok (P : PS) : ∀ (t : Ts) (ab : List PS × List PS), Ts.prt P t = some ab → Parts P (fun z => t.ev fun y => pv2 (P.names y) z) ab
  | .not t, ab, h => by
    simp only [Ts.prt] at h
    obtain ⟨cd, e, rfl⟩ := Option.map_eq_some_iff.mp h
    exact (Ts.prt_ok P t cd e).swap
  | .odd e, ab, h => by
    simp only [Ts.prt] at h
    split at h
    · cases h
    · rename_i h1
      have ev : ∀ z, e.ev (fun y => pv2 (P.names y) z) % 2 = (e.pe P.names).2 % 2 := fun z => by
        rw [← Ex.pe_ev]
        exact odd_of h1 z
      cases h
      split
      · rename_i h2
        refine parts_yes P fun z => ?_
        simp only [Ts.ev, ev z, h2]
        rfl
      · rename_i h2
        refine parts_no P fun z => ?_
        simp only [Ts.ev, ev z]
        exact decide_eq_false h2
  | .less a b, ab, h => by
    simp only [Ts.prt] at h
    cases h
    have p := less_parts P (pdiff (a.pe P.names) (b.pe P.names))
    have e : (fun z => decide (pv2 (pdiff (a.pe P.names) (b.pe P.names)) z < 0)) = fun z => (Ts.less a b).ev fun y => pv2 (P.names y) z := by
      funext z
      rw [pdiff_at, Ex.pe_ev, Ex.pe_ev]
      simp only [Ts.ev]
      exact decide_eq_decide.mpr ⟨fun h => by omega, fun h => by omega⟩
    rw [e] at p
    exact p
def PS.gone (P : PS) (b : List (Int × Sm)) : PS := { P with todo := b ++ P.todo.tail }
def setN (nm : Str → Int × Int) (x : Str) (v : Int × Int) : Str → Int × Int := fun y => if y = x then v else nm y
def PS.hlv (P : PS) (x : Str) (v : Int × Int) (tn : List Int) : PS := { P with todo := P.todo.tail, names := setN P.names x v, turns := P.turns ++ tn }
def stepS (ways : Int → Option Int) (P : PS) (p : Int) : Sm → List PS
  | .set x e => [{ P with todo := P.todo.tail, names := setN P.names x (e.pe P.names) }]
  | .tell e => [{ P with todo := P.todo.tail, tell := P.tell ++ [.inr (e.pe P.names)] }]
  | .say w => [{ P with todo := P.todo.tail, tell := P.tell ++ [.inl w] }]
  | .stop w => [{ P with todo := [], word := some w }]
  | .rep k b => [{ P with todo := repT (pcs b (p + 1)) k ++ P.todo.tail }]
  | .ite t y n => match Ts.prt P t with
    | none => P.both
    | some ab => ab.1.map (PS.gone · (pcs y (p + 1))) ++ ab.2.map (PS.gone · (pcs n (p + 1 + (Sm.pls y : Int))))
  | .half x e => if (e.pe P.names).1 % 2 = 1 then P.both else
      if (e.pe P.names).2 % 2 = 0 then [P.hlv x ((e.pe P.names).1 / 2, (e.pe P.names).2 / 2) []] else
        match ways p with
        | some c => [P.hlv x ((e.pe P.names).1 / 2, (e.pe P.names).2 / 2 + c) []]
        | none => [P.hlv x ((e.pe P.names).1 / 2, (e.pe P.names).2 / 2) [0], P.hlv x ((e.pe P.names).1 / 2, (e.pe P.names).2 / 2 + 1) [1]]
theorem setN_at (nm : Str → Int × Int) (x : Str) (v : Int × Int) (t : Int) : (fun y => pv2 (setN nm x v y) t) = setE (fun y => pv2 (nm y) t) x (pv2 v t) := by
  funext y
  unfold setN setE
  split <;> rfl
theorem half_at {x : Int × Int} (h : ¬ x.1 % 2 = 1) (d t : Int) : pv2 (x.1 / 2, x.2 / 2 + d) t = pv2 x t / 2 + d := by
  unfold pv2
  dsimp only
  obtain ⟨k, e⟩ : ∃ k, x.1 = 2 * k := ⟨x.1 / 2, by omega⟩
  rw [e, Int.mul_assoc, show 2 * k / 2 = k by omega]
  omega
theorem res_cons {P : PS} {ways : Int → Option Int} {c : List Int} {t : Int} {p : Int} {s : Sm} {r : List (Int × Sm)} (hw : P.word = none) (h : P.todo = (p, s) :: r) : P.res ways c t = match s.run (decC c) ways p (P.st t) with
    | (some w, s') => (some w, s')
    | (none, s') => runT (decC c) ways r s' := by
  unfold PS.res
  rw [hw, h]
  rfl
theorem pre_app {ts c : List Int} {x : Int} : Pre (ts ++ [x]) c ↔ Pre ts c ∧ c.getD ts.length 0 = x := by
  unfold Pre
  rw [List.length_append, List.length_singleton]
  constructor
  · intro h
    refine ⟨fun k hk => ?_, ?_⟩
    · rw [h k (by omega), getD_app hk]
    · rw [h ts.length (by omega), List.getD_eq_getElem?_getD, List.getElem?_append_right (Nat.le_refl _), Nat.sub_self]
      rfl
  · rintro ⟨h1, h2⟩ k hk
    by_cases z : k < ts.length
    · rw [h1 k z, getD_app z]
    · obtain rfl : k = ts.length := by omega
      rw [h2, List.getD_eq_getElem?_getD, List.getElem?_append_right (Nat.le_refl _), Nat.sub_self]
      rfl
theorem step_splits {ways : Int → Option Int} {P : PS} {p : Int} {s : Sm} {r : List (Int × Sm)} (hb : 0 < P.by_) (hw : P.word = none) (h : P.todo = (p, s) :: r) : Splits ways P (stepS ways P p s) := by
  have ht : P.todo.tail = r := by rw [h]; rfl
  cases s with
  | set x e =>
    refine splits_one rfl rfl rfl rfl rfl fun c t _ _ _ => ?_
    rw [res_cons hw h]
    unfold PS.res
    simp only [hw, ht, Sm.run]
    congr 1
    unfold PS.st
    simp only [setN_at, Ex.pe_ev]
  | tell e =>
    refine splits_one rfl rfl rfl rfl rfl fun c t _ _ _ => ?_
    rw [res_cons hw h]
    unfold PS.res
    simp only [hw, ht, Sm.run]
    congr 1
    unfold PS.st
    simp only [List.map_append, List.map_cons, List.map_nil, tellAt, Ex.pe_ev]
  | say w =>
    refine splits_one rfl rfl rfl rfl rfl fun c t _ _ _ => ?_
    rw [res_cons hw h]
    unfold PS.res
    simp only [hw, ht, Sm.run]
    congr 1
    unfold PS.st
    simp only [List.map_append, List.map_cons, List.map_nil, tellAt]
  | stop w =>
    refine splits_one rfl rfl rfl rfl rfl fun c t _ _ _ => ?_
    rw [res_cons hw h]
    unfold PS.res
    simp only [Sm.run]
    rfl
  | rep k b =>
    refine splits_one rfl rfl rfl rfl rfl fun c t _ _ _ => ?_
    rw [res_cons hw h]
    unfold PS.res
    simp only [hw, ht, Sm.run]
    exact runT_rep _ _ b (p + 1) r k _
  | ite t y n =>
    simp only [stepS]
    cases e : Ts.prt P t with
    | none => exact splits_both hb
    | some ab =>
      have pt := Ts.prt_ok P t ab e
      dsimp only
      have gres : ∀ (Q : PS) (bl : List Sm) (q : Int) (c : List Int) (z : Int), (∃ lo hi, Q = { P with low := lo, high := hi }) → (Q.gone (pcs bl q)).res ways c z = match Sm.runs (decC c) ways bl q (P.st z) with
          | (some w, s') => (some w, s')
          | (none, s') => runT (decC c) ways r s' := by
        rintro Q bl q c z ⟨lo, hi, rfl⟩
        unfold PS.res PS.gone
        simp only [hw, ht]
        exact runT_into _ _ bl q r _
      have gat : ∀ (Q : PS) (bl : List (Int × Sm)) (m z : Int), (Q.gone bl).at_ m z ↔ Q.at_ m z := fun Q bl m z => Iff.rfl
      have gtn : ∀ (Q : PS), (∃ lo hi, Q = { P with low := lo, high := hi }) → Q.turns = P.turns := by
        rintro Q ⟨lo, hi, rfl⟩
        rfl
      have gby : ∀ (Q : PS), (∃ lo hi, Q = { P with low := lo, high := hi }) → Q.by_ = P.by_ ∧ Q.rest = P.rest := by
        rintro Q ⟨lo, hi, rfl⟩
        exact ⟨rfl, rfl⟩
      have uni : ∀ m z z', P.at_ m z → P.at_ m z' → z = z' := fun m z z' a b => at_uniq hb a b
      refine ⟨fun Q hQ m z c ha hp hc => ?_, fun m z c ha hp hc => ?_, ?_⟩
      · rcases List.mem_append.mp hQ with k | k
        · obtain ⟨Q', hQ', rfl⟩ := List.mem_map.mp k
          have lk := pt.like Q' (.inl hQ')
          obtain ⟨a1, a2⟩ := pt.yes Q' hQ' m z ha
          have hp' : Pre P.turns c := by rw [← gtn Q' lk]; exact hp
          refine ⟨z, a1, hp', ?_⟩
          rw [gres Q' y (p + 1) c z lk, res_cons hw h]
          simp only [Sm.run]
          rw [if_pos (show t.ev (P.st z).env = true from a2)]
        · obtain ⟨Q', hQ', rfl⟩ := List.mem_map.mp k
          have lk := pt.like Q' (.inr hQ')
          obtain ⟨a1, a2⟩ := pt.no Q' hQ' m z ha
          have hp' : Pre P.turns c := by rw [← gtn Q' lk]; exact hp
          refine ⟨z, a1, hp', ?_⟩
          rw [gres Q' n (p + 1 + (Sm.pls y : Int)) c z lk, res_cons hw h]
          simp only [Sm.run]
          rw [if_neg (show ¬ t.ev (P.st z).env = true by rw [show t.ev (P.st z).env = false from a2]; exact Bool.false_ne_true)]
      · cases hf : t.ev (fun y => pv2 (P.names y) z) with
        | true =>
          obtain ⟨Q, hQ, a⟩ := pt.here m z ha hf
          exact ⟨_, List.mem_append_left _ (List.mem_map.mpr ⟨Q, hQ, rfl⟩), z, a, by show Pre Q.turns c; rw [gtn Q (pt.like Q (.inl hQ))]; exact hp⟩
        | false =>
          obtain ⟨Q, hQ, a⟩ := pt.there m z ha hf
          exact ⟨_, List.mem_append_right _ (List.mem_map.mpr ⟨Q, hQ, rfl⟩), z, a, by show Pre Q.turns c; rw [gtn Q (pt.like Q (.inr hQ))]; exact hp⟩
      · refine List.pairwise_append.mpr ⟨List.pairwise_map.mpr (pt.d1.imp fun h n c t t' a a' q q' y => h n c t t' a a' q q' y), List.pairwise_map.mpr (pt.d2.imp fun h n c t t' a a' q q' y => h n c t t' a a' q q' y), fun Q hQ R hR m c z z' a a' _ _ _ => ?_⟩
        obtain ⟨Q', hQ', rfl⟩ := List.mem_map.mp hQ
        obtain ⟨R', hR', rfl⟩ := List.mem_map.mp hR
        obtain ⟨a1, a2⟩ := pt.yes Q' hQ' m z a
        obtain ⟨b1, b2⟩ := pt.no R' hR' m z' a'
        have ez := uni m z z' a1 b1
        subst ez

        rw [a2] at b2
        cases b2
  | half x e =>
    simp only [stepS]
    split
    · exact splits_both hb
    · rename_i h1
      have vv : ∀ t, e.ev (P.st t).env = pv2 (e.pe P.names) t := fun t => (Ex.pe_ev P.names t e).symm
      have par : ∀ t, pv2 (e.pe P.names) t % 2 = (e.pe P.names).2 % 2 := fun t => odd_of h1 t
      have run1 : ∀ c t, (Sm.half x e).run (decC c) ways p (P.st t) = (none, { (halv (decC c) ways (P.st t) (pv2 (e.pe P.names) t) p).2 with env := setE (P.st t).env x (halv (decC c) ways (P.st t) (pv2 (e.pe P.names) t) p).1 }) := fun c t => by
        simp only [Sm.run, vv t]
      have fin : ∀ (d : Int) (tn : List Int) c t, halv (decC c) ways (P.st t) (pv2 (e.pe P.names) t) p = (pv2 (e.pe P.names) t / 2 + d, { P.st t with turns := P.turns ++ tn }) → (P.hlv x ((e.pe P.names).1 / 2, (e.pe P.names).2 / 2 + d) tn).res ways c t = P.res ways c t := by
        intro d tn c t hh
        rw [res_cons hw h, run1, hh]
        unfold PS.res PS.hlv
        simp only [hw, ht]
        congr 1
        unfold PS.st
        simp only [setN_at, half_at h1]
      split
      · rename_i h2
        refine splits_one rfl rfl rfl rfl (by simp [PS.hlv]) fun c t _ _ _ => ?_
        have := fin 0 [] c t (by
          unfold halv
          rw [if_pos (by rw [par]; exact h2), Int.add_zero, List.append_nil]
          rfl)
        rw [Int.add_zero] at this
        exact this
      · rename_i h2
        have h2' : ∀ t, ¬ pv2 (e.pe P.names) t % 2 = 0 := fun t => by rw [par]; exact h2
        cases ew : ways p with
        | some w =>
          refine splits_one rfl rfl rfl rfl (by simp [PS.hlv]) fun c t _ _ _ => ?_
          exact fin w [] c t (by
            unfold halv
            rw [if_neg (h2' t), ew, List.append_nil]
            rfl)
        | none =>
          dsimp only
          have one : ∀ (d : Int) c t, Pre (P.turns ++ [d]) c → (P.hlv x ((e.pe P.names).1 / 2, (e.pe P.names).2 / 2 + d) [d]).res ways c t = P.res ways c t := by
            intro d c t hp
            refine fin d [d] c t ?_
            have ed : decC c (P.st t).turns.length (pv2 (e.pe P.names) t) p = d := (pre_app.mp hp).2
            unfold halv
            rw [if_neg (h2' t), ew]
            dsimp only
            rw [ed]
            rfl
          have e0 : P.hlv x ((e.pe P.names).1 / 2, (e.pe P.names).2 / 2) [0] = P.hlv x ((e.pe P.names).1 / 2, (e.pe P.names).2 / 2 + 0) [0] := by rw [Int.add_zero]
          rw [e0]
          refine ⟨fun Q hQ m t c ha hp hc => ?_, fun m t c ha hp hc => ?_, ?_⟩
          · simp only [List.mem_cons, List.not_mem_nil, or_false] at hQ
            rcases hQ with rfl | rfl
            · exact ⟨t, ha, (pre_app.mp hp).1, one 0 c t hp⟩
            · exact ⟨t, ha, (pre_app.mp hp).1, one 1 c t hp⟩
          · have h01 : c.getD P.turns.length 0 = 0 ∨ c.getD P.turns.length 0 = 1 := decC_01 hc P.turns.length 0 0
            rcases h01 with z | z
            · exact ⟨_, List.mem_cons_self, t, ha, pre_app.mpr ⟨hp, z⟩⟩
            · exact ⟨_, List.mem_cons_of_mem _ List.mem_cons_self, t, ha, pre_app.mpr ⟨hp, z⟩⟩
          · refine List.pairwise_cons.mpr ⟨fun R hR m c z z' a a' q q' y => ?_, List.pairwise_singleton _ _⟩
            cases List.mem_singleton.mp hR
            have q1 := (pre_app.mp (show Pre (P.turns ++ [0]) c from q)).2
            have q2 := (pre_app.mp (show Pre (P.turns ++ [1]) c from q')).2
            rw [q1] at q2
            cases q2
end EH
namespace EH
open PySem L2
/-! ### sums over what is still to do -/
def sumT (f : Sm → Nat) : List (Int × Sm) → Nat
  | [] => 0
  | x :: r => f x.2 + sumT f r
theorem sumT_app (f : Sm → Nat) : ∀ a b, sumT f (a ++ b) = sumT f a + sumT f b
  | [], b => by simp [sumT]
  | x :: r, b => by simp only [List.cons_append, sumT, sumT_app f r b]; omega
theorem sumT_rep (f : Sm → Nat) (a : List (Int × Sm)) : ∀ k, sumT f (repT a k) = k * sumT f a
  | 0 => by simp [repT, sumT]
  | k + 1 => by rw [repT, sumT_app, sumT_rep f a k, Nat.add_mul, Nat.one_mul]; omega
theorem sumT_wt : ∀ (b : List Sm) (p : Int), sumT Sm.wt (pcs b p) = Sm.wts b
  | [], p => by simp only [pcs, sumT, Sm.wts]
  | s :: r, p => by simp only [pcs, sumT, Sm.wts, sumT_wt r]
theorem sumT_hv : ∀ (b : List Sm) (p : Int), sumT Sm.hv (pcs b p) = Sm.hvs b
  | [], p => by simp only [pcs, sumT, Sm.hvs]
  | s :: r, p => by simp only [pcs, sumT, Sm.hvs, sumT_hv r]
theorem sumT_len : ∀ t : List (Int × Sm), t.length ≤ sumT Sm.wt t
  | [] => Nat.zero_le _
  | x :: r => by
    have := sumT_len r
    have := Sm.wt_pos x.2
    simp only [List.length_cons, sumT]
    omega
/-- a path must be parted by the rests first -/
def Ts.needs (nm : Str → Int × Int) : Ts → Bool
  | .not t => t.needs nm
  | .odd e => decide ((e.pe nm).1 % 2 = 1)
  | .less _ _ => false
def Sm.needs (nm : Str → Int × Int) : Sm → Bool
  | .half _ e => decide ((e.pe nm).1 % 2 = 1)
  | .ite t _ _ => t.needs nm
  | _ => false
def Sm.spl : Sm → Bool
  | .half _ _ => true
  | .ite t _ _ => t.isOdd
  | _ => false
theorem Ts.needs_odd (nm : Str → Int × Int) : ∀ t : Ts, t.needs nm = true → t.isOdd = true
  | .not t, h => Ts.needs_odd nm t h
  | .odd e, h => rfl
  | .less _ _, h => by cases h
theorem Ts.prt_none {P : PS} : ∀ {t : Ts}, Ts.prt P t = none ↔ t.needs P.names = true
  | .not t => by
    simp only [Ts.prt, Ts.needs, Option.map_eq_none_iff]
    exact Ts.prt_none
  | .odd e => by
    simp only [Ts.prt, Ts.needs, decide_eq_true_eq]
    split
    · simp [*]
    · simp [*]
  | .less _ _ => by simp [Ts.prt, Ts.needs]
theorem Ex.pe_led (nm : Str → Int × Int) (r : Int) : ∀ e : Ex, (e.pe fun y => led (nm y) r) = led (e.pe nm) r
  | .num i => by simp [Ex.pe, led]
  | .var x => rfl
  | .plus a b => by
    have h1 := Ex.pe_led nm r a
    have h2 := Ex.pe_led nm r b
    simp only [Ex.pe]
    rw [h1, h2]
    unfold led
    dsimp only
    congr 1
    · omega
    · rw [Int.add_mul]; omega
  | .minus a b => by
    have h1 := Ex.pe_led nm r a
    have h2 := Ex.pe_led nm r b
    simp only [Ex.pe]
    rw [h1, h2]
    unfold led
    dsimp only
    congr 1
    · omega
    · rw [Int.sub_mul]; omega
  | .times k a => by
    have h1 := Ex.pe_led nm r a
    simp only [Ex.pe]
    rw [h1]
    unfold led
    dsimp only
    congr 1
    · rw [← Int.mul_assoc, Int.mul_comm k 2, Int.mul_assoc]
    · rw [Int.mul_add, ← Int.mul_assoc]
theorem Ts.needs_led (nm : Str → Int × Int) (r : Int) : ∀ t : Ts, t.needs (fun y => led (nm y) r) = false
  | .not t => Ts.needs_led nm r t
  | .odd e => by
    simp only [Ts.needs, decide_eq_false_iff_not]
    rw [Ex.pe_led]
    show ¬ (2 * (e.pe nm).1) % 2 = 1
    omega
  | .less _ _ => rfl
theorem Sm.needs_led (nm : Str → Int × Int) (r : Int) (s : Sm) : s.needs (fun y => led (nm y) r) = false := by
  cases s with
  | half x e =>
    simp only [Sm.needs, decide_eq_false_iff_not]
    rw [Ex.pe_led]
    show ¬ (2 * (e.pe nm).1) % 2 = 1
    omega
  | ite t y n => exact Ts.needs_led nm r t
  | set x e => rfl
  | tell e => rfl
  | say w => rfl
  | stop w => rfl
  | rep k b => rfl
theorem Sm.needs_spl {nm : Str → Int × Int} {s : Sm} (h : s.needs nm = true) : s.spl = true := by
  cases s with
  | half x e => rfl
  | ite t y n => exact Ts.needs_odd nm t h
  | set x e => cases h
  | tell e => cases h
  | say w => cases h
  | stop w => cases h
  | rep k b => cases h
theorem Sm.spl_hv {s : Sm} (h : s.spl = true) : 1 ≤ s.hv := by
  cases s with
  | half x e => simp [Sm.hv]
  | ite t y n =>
    have h : t.isOdd = true := h
    simp only [Sm.hv, h, if_true]
    omega
  | set x e => cases h
  | tell e => cases h
  | say w => cases h
  | stop w => cases h
  | rep k b => cases h
def stlOf (nm : Str → Int × Int) : List (Int × Sm) → Nat
  | [] => 0
  | x :: _ => if x.2.spl && !x.2.needs nm then 1 else 0
def PS.rem (P : PS) : Nat := 2 * sumT Sm.wt P.todo - stlOf P.names P.todo
def PS.hvr (P : PS) : Nat := sumT Sm.hv P.todo - stlOf P.names P.todo
theorem stl_le {nm : Str → Int × Int} {x : Int × Sm} {r : List (Int × Sm)} : stlOf nm (x :: r) ≤ if x.2.spl then 1 else 0 := by
  show (if (x.2.spl && !x.2.needs nm) = true then 1 else 0) ≤ _
  cases h : x.2.spl with
  | false => simp
  | true =>
    rw [if_pos (show true = true from rfl)]
    cases x.2.needs nm <;> simp
/-! ### how large the numbers of a path are -/
def PB (k : Nat) : Nat := BN * 10000 ^ k
theorem PB.mono {k m : Nat} (h : k ≤ m) : PB k ≤ PB m := Nat.mul_le_mul_left _ (Nat.pow_le_pow_right (by decide) h)
theorem PB.succ (k : Nat) : PB (k + 1) = PB k * 10000 := by unfold PB; rw [Nat.pow_succ, Nat.mul_assoc]
theorem PB.pos (k : Nat) : 99 ≤ PB k := Nat.le_trans (by decide : 99 ≤ BN * 1) (Nat.mul_le_mul_left _ (Nat.one_le_pow _ _ (by decide)))
def pOk (M : Nat) (x : Int × Int) : Prop := x.1.natAbs ≤ M ∧ x.2.natAbs ≤ M
def oOk (M : Nat) (o : Option Int) : Prop := ∀ i, o = some i → i.natAbs ≤ M
def teOk (M : Nat) : Str ⊕ (Int × Int) → Prop
  | .inl w => PyData.strOk w = true ∧ w.length ≤ 20
  | .inr x => pOk M x
theorem pOk.mono {M M' : Nat} (h : M ≤ M') {x : Int × Int} (o : pOk M x) : pOk M' x := ⟨Nat.le_trans o.1 h, Nat.le_trans o.2 h⟩
theorem oOk.mono {M M' : Nat} (h : M ≤ M') {x : Option Int} (o : oOk M x) : oOk M' x := fun i e => Nat.le_trans (o i e) h
theorem teOk.mono {M M' : Nat} (h : M ≤ M') : ∀ {x : Str ⊕ (Int × Int)}, teOk M x → teOk M' x
  | .inl _, o => o
  | .inr _, o => pOk.mono h o
theorem Ex.pe_le {nm : Str → Int × Int} {M : Nat} (hM : 99 ≤ M) (h : ∀ x, pOk M (nm x)) : ∀ {e : Ex}, e.ok → pOk (M * 9 ^ e.deep) (e.pe nm)
  | .num i, o => by
    obtain ⟨h1, h2⟩ := (show -99 ≤ i ∧ i ≤ 99 from o)
    show (0 : Int).natAbs ≤ M * 9 ^ 1 ∧ i.natAbs ≤ M * 9 ^ 1
    omega
  | .var x, o => by
    have := (h x).1
    have := (h x).2
    show (nm x).1.natAbs ≤ M * 9 ^ 1 ∧ (nm x).2.natAbs ≤ M * 9 ^ 1
    omega
  | .plus a b, o => by
    have h1 := Ex.pe_le hM h (e := a) (show a.ok ∧ b.ok from o).1
    have h2 := Ex.pe_le hM h (e := b) (show a.ok ∧ b.ok from o).2
    unfold pOk at h1 h2
    show ((a.pe nm).1 + (b.pe nm).1).natAbs ≤ M * 9 ^ (max a.deep b.deep + 1) ∧ ((a.pe nm).2 + (b.pe nm).2).natAbs ≤ M * 9 ^ (max a.deep b.deep + 1)
    have p1 : M * 9 ^ a.deep ≤ M * 9 ^ max a.deep b.deep := Nat.mul_le_mul_left _ (Nat.pow_le_pow_right (by decide) (Nat.le_max_left _ _))
    have p2 : M * 9 ^ b.deep ≤ M * 9 ^ max a.deep b.deep := Nat.mul_le_mul_left _ (Nat.pow_le_pow_right (by decide) (Nat.le_max_right _ _))
    rw [Nat.pow_succ, ← Nat.mul_assoc]
    omega
  | .minus a b, o => by
    have h1 := Ex.pe_le hM h (e := a) (show a.ok ∧ b.ok from o).1
    have h2 := Ex.pe_le hM h (e := b) (show a.ok ∧ b.ok from o).2
    unfold pOk at h1 h2
    show ((a.pe nm).1 - (b.pe nm).1).natAbs ≤ M * 9 ^ (max a.deep b.deep + 1) ∧ ((a.pe nm).2 - (b.pe nm).2).natAbs ≤ M * 9 ^ (max a.deep b.deep + 1)
    have p1 : M * 9 ^ a.deep ≤ M * 9 ^ max a.deep b.deep := Nat.mul_le_mul_left _ (Nat.pow_le_pow_right (by decide) (Nat.le_max_left _ _))
    have p2 : M * 9 ^ b.deep ≤ M * 9 ^ max a.deep b.deep := Nat.mul_le_mul_left _ (Nat.pow_le_pow_right (by decide) (Nat.le_max_right _ _))
    rw [Nat.pow_succ, ← Nat.mul_assoc]
    omega
  | .times k a, o => by
    obtain ⟨k1, k2, oa⟩ := (show -9 ≤ k ∧ k ≤ 9 ∧ a.ok from o)
    have h1 := Ex.pe_le hM h (e := a) oa
    show (k * (a.pe nm).1).natAbs ≤ M * 9 ^ (a.deep + 1) ∧ (k * (a.pe nm).2).natAbs ≤ M * 9 ^ (a.deep + 1)
    rw [Int.natAbs_mul, Int.natAbs_mul, Nat.pow_succ, ← Nat.mul_assoc]
    refine ⟨?_, ?_⟩
    · rw [Nat.mul_comm]; exact Nat.mul_le_mul h1.1 (by omega)
    · rw [Nat.mul_comm]; exact Nat.mul_le_mul h1.2 (by omega)
theorem Ex.pe_729 {nm : Str → Int × Int} {k : Nat} (h : ∀ x, pOk (PB k) (nm x)) {e : Ex} (o : e.ok) (d : e.deep ≤ 3) : pOk (PB k * 729) (e.pe nm) :=
  (Ex.pe_le (PB.pos k) h o).mono (Nat.mul_le_mul_left _ (Nat.le_trans (Nat.pow_le_pow_right (by decide) d) (by decide)))
structure Gd (W k : Nat) (P : PS) : Prop where
  by0 : 0 < P.by_
  r0 : 0 ≤ P.rest
  r1 : P.rest < P.by_
  byB : P.by_ * 2 ^ P.hvr ≤ 2 ^ W
  rem : k + P.rem ≤ 120
  ok : ∀ x ∈ P.todo, x.2.ok
  nm : ∀ y, pOk (PB k) (P.names y)
  lo : oOk (PB k) P.low
  hi : oOk (PB k) P.high
  te : ∀ x ∈ P.tell, teOk (PB k) x
  t01 : ty01 P.turns
  lt : P.turns.length ≤ k
  le : P.tell.length ≤ k
  wd : P.word ≠ none → P.todo = []
  wok : ∀ w, P.word = some w → PyData.strOk w = true ∧ w.length ≤ 20
  pw : ∃ e : Nat, P.by_ = 2 ^ e
  w50 : W ≤ 50
theorem Gd.byW {W k : Nat} {P : PS} (g : Gd W k P) : P.by_ ≤ 2 ^ W := by
  have h1 := g.byB
  have h2 : (1 : Int) ≤ 2 ^ P.hvr := by
    have : (0 : Int) < 2 ^ P.hvr := Int.pow_pos (by decide)
    omega
  have h3 : P.by_ * 1 ≤ P.by_ * 2 ^ P.hvr := Int.mul_le_mul_of_nonneg_left h2 (by have := g.by0; omega)
  omega
theorem Gd.by50 {W k : Nat} {P : PS} (g : Gd W k P) : P.by_ ≤ 2 ^ 50 := by
  have h1 : (2 : Nat) ^ W ≤ 2 ^ 50 := Nat.pow_le_pow_right (by decide) g.w50
  have h2 : (2 : Int) ^ W ≤ 2 ^ 50 := by exact_mod_cast h1
  exact Int.le_trans g.byW h2
/-- one statement less -/
theorem Gd.adv {W k : Nat} {P Q : PS} {p : Int} {s : Sm} {r : List (Int × Sm)} (g : Gd W k P) (h : P.todo = (p, s) :: r) (hw : sumT Sm.wt Q.todo + 1 ≤ s.wt + sumT Sm.wt r) (hh : sumT Sm.hv Q.todo + (if s.spl then 1 else 0) ≤ s.hv + sumT Sm.hv r)
    (e1 : Q.by_ = P.by_) : k + 1 + Q.rem ≤ 120 ∧ Q.by_ * 2 ^ Q.hvr ≤ 2 ^ W := by
  have hs : stlOf P.names P.todo ≤ if s.spl then 1 else 0 := by rw [h]; exact stl_le
  have hs1 : (if s.spl then 1 else 0) ≤ 1 := by split <;> omega
  have a := g.rem
  have b := g.byB
  unfold PS.rem at a ⊢
  unfold PS.hvr at b ⊢
  rw [show sumT Sm.wt P.todo = s.wt + sumT Sm.wt r by rw [h]; rfl] at a
  rw [show sumT Sm.hv P.todo = s.hv + sumT Sm.hv r by rw [h]; rfl] at b
  refine ⟨by omega, ?_⟩
  rw [e1]
  refine Int.le_trans (Int.mul_le_mul_of_nonneg_left ?_ (by have := g.by0; omega)) b
  have : (2 : Nat) ^ (sumT Sm.hv Q.todo - stlOf Q.names Q.todo) ≤ 2 ^ (s.hv + sumT Sm.hv r - stlOf P.names P.todo) := Nat.pow_le_pow_right (by decide) (by omega)
  exact_mod_cast this
theorem wr_rest {P : PS} {r : Int} : (P.wr r).rest = P.rest + P.by_ * r ∧ (P.wr r).by_ = 2 * P.by_ := ⟨rfl, rfl⟩
theorem Gd.wr {W k : Nat} {P : PS} {p : Int} {s : Sm} {r : List (Int × Sm)} (g : Gd W k P) (h : P.todo = (p, s) :: r) (hn : s.needs P.names = true) {j : Int} (hj : j = 0 ∨ j = 1) : Gd W (k + 1) (P.wr j) := by
  have s0 : stlOf P.names P.todo = 0 := by rw [h]; simp only [stlOf, hn]; simp
  have s1 : stlOf (P.wr j).names (P.wr j).todo = 1 := by
    show stlOf (fun y => led (P.names y) j) P.todo = 1
    rw [h]
    simp only [stlOf, Sm.needs_led, Sm.needs_spl hn]
    rfl
  have hv1 : 1 ≤ sumT Sm.hv P.todo := by
    rw [h]
    have := Sm.spl_hv (Sm.needs_spl hn)
    simp only [sumT]
    omega
  have wt1 : 1 ≤ sumT Sm.wt P.todo := by
    rw [h]
    have := Sm.wt_pos s
    simp only [sumT]
    omega
  have a := g.rem
  have b := g.byB
  have b0 := g.by0
  have M : PB k * 10000 = PB (k + 1) := (PB.succ k).symm
  have M0 := PB.pos k
  unfold PS.rem at a
  unfold PS.hvr at b
  rw [s0] at a b
  have pl : ∀ x : Int × Int, pOk (PB k) x → pOk (PB (k + 1)) (led x j) := by
    intro x hx
    unfold pOk led at *
    dsimp only
    rcases hj with rfl | rfl
    · rw [Int.mul_zero]; omega
    · rw [Int.mul_one]; omega
  refine ⟨?_, ?_, ?_, ?_, ?_, g.ok, fun y => pl _ (g.nm y), ?_, ?_, ?_, g.t01, by have := g.lt; show P.turns.length ≤ _; omega, by show (P.tell.map _).length ≤ _; rw [List.length_map]; have := g.le; omega, g.wd, g.wok, ?_, g.w50⟩
  rotate_right
  · obtain ⟨e, he⟩ := g.pw
    exact ⟨e + 1, by show 2 * P.by_ = _; rw [he, Int.pow_succ, Int.mul_comm]⟩
  · show 0 < 2 * P.by_
    omega
  · show 0 ≤ P.rest + P.by_ * j
    have := g.r0
    rcases hj with rfl | rfl
    · rw [Int.mul_zero]; omega
    · rw [Int.mul_one]; omega
  · show P.rest + P.by_ * j < 2 * P.by_
    have := g.r1
    rcases hj with rfl | rfl
    · rw [Int.mul_zero]; omega
    · rw [Int.mul_one]; omega
  · unfold PS.hvr
    rw [s1]
    show 2 * P.by_ * 2 ^ (sumT Sm.hv P.todo - 1) ≤ 2 ^ W
    obtain ⟨m, hm⟩ : ∃ m, sumT Sm.hv P.todo = m + 1 := ⟨sumT Sm.hv P.todo - 1, by omega⟩
    rw [hm] at b ⊢
    rw [show m + 1 - 1 = m by omega]
    rw [show m + 1 - 0 = m + 1 by omega, Int.pow_succ, Int.mul_comm ((2 : Int) ^ m) 2, ← Int.mul_assoc, Int.mul_comm P.by_ 2] at b
    exact b
  · unfold PS.rem
    rw [s1]
    show k + 1 + (2 * sumT Sm.wt P.todo - 1) ≤ 120
    omega
  · intro i e
    have e : P.low.map (fun l => 0 - (0 - (l - j)) / 2) = some i := e
    obtain ⟨l, hl, rfl⟩ := Option.map_eq_some_iff.mp e
    have := g.lo l hl
    rcases hj with rfl | rfl <;> omega
  · intro i e
    have e : P.high.map (fun l => (l - j) / 2) = some i := e
    obtain ⟨l, hl, rfl⟩ := Option.map_eq_some_iff.mp e
    have := g.hi l hl
    rcases hj with rfl | rfl <;> omega
  · intro x hx
    obtain ⟨y, hy, rfl⟩ := List.mem_map.mp (show x ∈ P.tell.map (ledT j) from hx)
    have := g.te y hy
    cases y with
    | inl w => exact this
    | inr z => exact pl _ this
theorem btw_ok {M : Nat} {a b : Option Int} (h1 : oOk M a) (h2 : oOk M b) : oOk M (maxO a b) ∧ oOk M (minO a b) := by
  cases a with
  | none => exact ⟨h2, h2⟩
  | some x =>
    cases b with
    | none => exact ⟨h1, h1⟩
    | some y =>
      have a1 := h1 x rfl
      have a2 := h2 y rfl
      refine ⟨fun i e => ?_, fun i e => ?_⟩
      · cases (show some (max x y) = some i from e); omega
      · cases (show some (min x y) = some i from e); omega
theorem ediv_le {a b : Int} (h : 0 < b) : (a / b).natAbs ≤ a.natAbs := by
  have h1 := Int.ediv_mul_le a (Int.ne_of_gt h)
  have h2 := Int.lt_ediv_add_one_mul_self a h
  rcases Int.le_total 0 a with h0 | h0
  · have z : 0 ≤ a / b := Int.ediv_nonneg h0 (by omega)
    have : a / b * 1 ≤ a / b * b := Int.mul_le_mul_of_nonneg_left (by omega) z
    omega
  · have z : a / b ≤ 0 := by
      have := Int.ediv_le_ediv h h0
      rw [Int.zero_ediv] at this
      exact this
    by_cases hz : a = 0
    · subst hz; simp
    have : a ≤ a / b := by
      have h3 := (Int.le_ediv_iff_mul_le h (a := a) (b := a)).mpr ?_
      · exact h3
      · have : a * b ≤ a * 1 := Int.mul_le_mul_of_nonpos_left h0 (by omega)
        omega
    omega
theorem less_ok {k : Nat} {P : PS} {x : Int × Int} (lo : oOk (PB k) P.low) (hi : oOk (PB k) P.high) (hx : pOk (PB k * 1458) x) : ∀ Q, Q ∈ (lessParts P x).1 ∨ Q ∈ (lessParts P x).2 → oOk (PB (k + 1)) Q.low ∧ oOk (PB (k + 1)) Q.high := by
  have M : PB k * 10000 = PB (k + 1) := (PB.succ k).symm
  have M0 := PB.pos k
  have lo1 := lo.mono (PB.mono (Nat.le_succ k))
  have hi1 := hi.mono (PB.mono (Nat.le_succ k))
  obtain ⟨x1, x2⟩ := hx
  have non : oOk (PB (k + 1)) none := fun _ z => nomatch z
  have one : ∀ i : Int, i.natAbs ≤ PB (k + 1) → oOk (PB (k + 1)) (some i) := fun i h j e => by cases e; exact h
  have kp : ∀ (a b : Option Int) (Q : PS), oOk (PB (k + 1)) a → oOk (PB (k + 1)) b → Q ∈ (P.btw a b).keep → oOk (PB (k + 1)) Q.low ∧ oOk (PB (k + 1)) Q.high := by
    intro a b Q ha hb hQ
    rw [PS.keep_mem hQ]
    exact ⟨(btw_ok lo1 ha).1, (btw_ok hi1 hb).2⟩
  intro Q hQ
  unfold lessParts at hQ
  split at hQ
  · split at hQ
    · rcases hQ with z | z
      · cases List.mem_singleton.mp z; exact ⟨lo1, hi1⟩
      · cases z
    · rcases hQ with z | z
      · cases z
      · cases List.mem_singleton.mp z; exact ⟨lo1, hi1⟩
  · split at hQ
    · rename_i h
      have := ediv_le (a := 0 - x.2 - 1) (b := x.1) (by omega)
      rcases hQ with z | z
      · exact kp _ _ Q non (one _ (by omega)) z
      · exact kp _ _ Q (one _ (by omega)) non z
    · rename_i h0 h
      have := ediv_le (a := 0 - x.2 - 1) (b := 0 - x.1) (by omega)
      rcases hQ with z | z
      · exact kp _ _ Q (one _ (by omega)) non z
      · exact kp _ _ Q non (one _ (by omega)) z
theorem prt_ok2 {k : Nat} {P : PS} (nm : ∀ y, pOk (PB k) (P.names y)) (lo : oOk (PB k) P.low) (hi : oOk (PB k) P.high) : ∀ {t : Ts} {ab : List PS × List PS}, t.ok → Ts.prt P t = some ab → ∀ Q, Q ∈ ab.1 ∨ Q ∈ ab.2 → oOk (PB (k + 1)) Q.low ∧ oOk (PB (k + 1)) Q.high
  | .not t, ab, o, h, Q, hQ => by
    simp only [Ts.prt] at h
    obtain ⟨cd, e, rfl⟩ := Option.map_eq_some_iff.mp h
    exact prt_ok2 nm lo hi (t := t) (show t.ok from o) e Q hQ.symm
  | .odd e, ab, o, h, Q, hQ => by
    simp only [Ts.prt] at h
    split at h
    · cases h
    · cases h
      split at hQ
      · rcases hQ with z | z
        · cases List.mem_singleton.mp z; exact ⟨lo.mono (PB.mono (Nat.le_succ k)), hi.mono (PB.mono (Nat.le_succ k))⟩
        · cases z
      · rcases hQ with z | z
        · cases z
        · cases List.mem_singleton.mp z; exact ⟨lo.mono (PB.mono (Nat.le_succ k)), hi.mono (PB.mono (Nat.le_succ k))⟩
  | .less a b, ab, o, h, Q, hQ => by
    simp only [Ts.prt] at h
    cases h
    obtain ⟨oa, ob, da, db⟩ : a.ok ∧ b.ok ∧ a.deep ≤ 3 ∧ b.deep ≤ 3 := by
      have := o
      simp only [Ts.ok] at this
      refine ⟨?_, ?_, ?_, ?_⟩ <;> simp_all
    have h1 := Ex.pe_729 nm oa da
    have h2 := Ex.pe_729 nm ob db
    refine less_ok lo hi ?_ Q hQ
    unfold pOk pdiff at *
    dsimp only
    omega
end EH
namespace EH
open PySem L2
theorem setN_ok {nm : Str → Int × Int} {x : Str} {v : Int × Int} {M : Nat} (h : ∀ y, pOk M (nm y)) (hv : pOk M v) (y : Str) : pOk M (setN nm x v y) := by
  unfold setN
  split
  · exact hv
  · exact h y
theorem mem_tail {α : Type} {l : List α} {x : α} (h : x ∈ l.tail) : x ∈ l := by
  cases l with
  | nil => cases h
  | cons y r => exact List.mem_cons_of_mem _ h
theorem okT_pcs : ∀ {b : List Sm} {p : Int}, Sm.oks b → ∀ x ∈ pcs b p, x.2.ok
  | [], p, o, x, h => by cases h
  | s :: r, p, o, x, h => by
    simp only [Sm.oks] at o
    simp only [pcs] at h
    rcases List.mem_cons.mp h with rfl | h
    · exact o.1
    · exact okT_pcs o.2 x h
theorem okT_rep {a : List (Int × Sm)} (h : ∀ x ∈ a, x.2.ok) : ∀ (k : Nat), ∀ x ∈ repT a k, x.2.ok
  | 0, x, hx => by cases hx
  | k + 1, x, hx => by
    rw [repT] at hx
    rcases List.mem_append.mp hx with z | z
    · exact h x z
    · exact okT_rep h k x z
/-- a path with other values, behind its next statement -/
theorem Gd.next {W k : Nat} {P Q : PS} {p : Int} {s : Sm} {r : List (Int × Sm)} (g : Gd W k P) (h : P.todo = (p, s) :: r) (hw : sumT Sm.wt Q.todo + 1 ≤ s.wt + sumT Sm.wt r) (hh : sumT Sm.hv Q.todo + (if s.spl then 1 else 0) ≤ s.hv + sumT Sm.hv r)
    (e1 : Q.by_ = P.by_) (e2 : Q.rest = P.rest) (ok : ∀ x ∈ Q.todo, x.2.ok) (nm : ∀ y, pOk (PB (k + 1)) (Q.names y)) (lo : oOk (PB (k + 1)) Q.low) (hi : oOk (PB (k + 1)) Q.high) (te : ∀ x ∈ Q.tell, teOk (PB (k + 1)) x)
    (t01 : ty01 Q.turns) (lt : Q.turns.length ≤ k + 1) (le : Q.tell.length ≤ k + 1) (wd : Q.word ≠ none → Q.todo = []) (wok : ∀ w, Q.word = some w → PyData.strOk w = true ∧ w.length ≤ 20) : Gd W (k + 1) Q := by
  obtain ⟨a, b⟩ := g.adv h hw hh e1
  refine ⟨by rw [e1]; exact g.by0, by rw [e2]; exact g.r0, by rw [e1, e2]; exact g.r1, b, a, ok, nm, lo, hi, te, t01, lt, le, wd, wok, by rw [e1]; exact g.pw, g.w50⟩
theorem ty01_app {a : List Int} {x : Int} (h : ty01 a) (hx : x = 0 ∨ x = 1) : ty01 (a ++ [x]) := fun y hy => by
  rcases List.mem_append.mp hy with z | z
  · exact h y z
  · cases List.mem_singleton.mp z; exact hx
theorem half_ok {M : Nat} {x : Int × Int} (h : pOk M x) (hM : 99 ≤ M) {d : Int} (hd : d = 0 ∨ d = 1) : pOk M (x.1 / 2, x.2 / 2 + d) := by
  unfold pOk at *
  dsimp only
  omega
theorem both_good {W k : Nat} {P : PS} {p : Int} {s : Sm} {r : List (Int × Sm)} (g : Gd W k P) (h : P.todo = (p, s) :: r) (hn : s.needs P.names = true) : ∀ Q ∈ P.both, Gd W (k + 1) Q := by
  intro Q hQ
  rcases List.mem_append.mp hQ with z | z
  · rw [PS.keep_mem z]; exact g.wr h hn (.inl rfl)
  · rw [PS.keep_mem z]; exact g.wr h hn (.inr rfl)
theorem step_good {ways : Int → Option Int} (h01 : ∀ p c, ways p = some c → c = 0 ∨ c = 1) {W k : Nat} {P : PS} {p : Int} {s : Sm} {r : List (Int × Sm)} (g : Gd W k P) (h : P.todo = (p, s) :: r) : ∀ Q ∈ stepS ways P p s, Gd W (k + 1) Q := by
  have ht : P.todo.tail = r := by rw [h]; rfl
  have hk : PB k ≤ PB (k + 1) := PB.mono (Nat.le_succ k)
  have M : PB k * 10000 = PB (k + 1) := (PB.succ k).symm
  have M0 := PB.pos k
  have so : s.ok := g.ok (p, s) (by rw [h]; exact List.mem_cons_self)
  have ro : ∀ x ∈ P.todo.tail, x.2.ok := fun x hx => g.ok x (mem_tail hx)
  have nm := fun y => (g.nm y).mono hk
  have lo := g.lo.mono hk
  have hi := g.hi.mono hk
  have te := fun x hx => (g.te x hx).mono hk
  have lt : P.turns.length ≤ k + 1 := Nat.le_succ_of_le g.lt
  have le : P.tell.length ≤ k + 1 := Nat.le_succ_of_le g.le
  have w0 : P.word = none := by
    cases e : P.word with
    | none => rfl
    | some w =>
      have := g.wd (by rw [e]; exact fun z => nomatch z)
      rw [h] at this
      cases this
  have wd0 : ∀ t : List (Int × Sm), P.word ≠ none → t = [] := fun t z => absurd w0 z
  intro Q hQ
  cases s with
  | set x e =>
    cases List.mem_singleton.mp hQ
    obtain ⟨⟨o1, o2⟩, _⟩ := (show (e.ok ∧ e.deep ≤ 3) ∧ NmOk x by simpa only [Sm.ok] using so)
    have pe := (Ex.pe_729 g.nm o1 o2).mono (show PB k * 729 ≤ PB (k + 1) by omega)
    refine g.next h (by simp only [ht, Sm.wt]; omega) (by simp only [ht, Sm.hv, Sm.spl]; simp) rfl rfl ro (setN_ok nm pe) lo hi te g.t01 lt le (wd0 _) g.wok
  | tell e =>
    cases List.mem_singleton.mp hQ
    obtain ⟨o1, o2⟩ := (show e.ok ∧ e.deep ≤ 3 by simpa only [Sm.ok] using so)
    have pe := (Ex.pe_729 g.nm o1 o2).mono (show PB k * 729 ≤ PB (k + 1) by omega)
    refine g.next h (by simp only [ht, Sm.wt]; omega) (by simp only [ht, Sm.hv, Sm.spl]; simp) rfl rfl ro nm lo hi (fun x hx => ?_) g.t01 lt (by have := g.le; simp only [List.length_append, List.length_singleton]; omega) (wd0 _) g.wok
    rcases List.mem_append.mp hx with z | z
    · exact te x z
    · cases List.mem_singleton.mp z; exact pe
  | say w =>
    cases List.mem_singleton.mp hQ
    refine g.next h (by simp only [ht, Sm.wt]; omega) (by simp only [ht, Sm.hv, Sm.spl]; simp) rfl rfl ro nm lo hi (fun x hx => ?_) g.t01 lt (by have := g.le; simp only [List.length_append, List.length_singleton]; omega) (wd0 _) g.wok
    rcases List.mem_append.mp hx with z | z
    · exact te x z
    · cases List.mem_singleton.mp z
      have so2 : PyData.strOk w = true ∧ w.length ≤ 20 := by simpa only [Sm.ok] using so
      exact so2
  | stop w =>
    cases List.mem_singleton.mp hQ
    refine g.next h (by simp only [sumT, Sm.wt]; omega) (by simp only [sumT, Sm.hv, Sm.spl]; simp) rfl rfl (fun x hx => nomatch hx) nm lo hi te g.t01 lt le (fun _ => rfl) (fun w' e => ?_)
    cases e
    simpa only [Sm.ok] using so
  | rep j b =>
    cases List.mem_singleton.mp hQ
    obtain ⟨_, ob⟩ := (show j ≤ 8 ∧ Sm.oks b by simpa only [Sm.ok] using so)
    refine g.next h (by simp only [sumT_app, sumT_rep, sumT_wt, ht, Sm.wt]; omega) (by simp only [sumT_app, sumT_rep, sumT_hv, ht, Sm.hv, Sm.spl]; simp) rfl rfl (fun x hx => ?_) nm lo hi te g.t01 lt le (wd0 _) g.wok
    rcases List.mem_append.mp hx with z | z
    · exact okT_rep (okT_pcs ob) j x z
    · exact ro x z
  | ite t y n =>
    simp only [stepS] at hQ
    obtain ⟨ot, _, oy, on⟩ := (show t.ok ∧ t.nots ≤ 2 ∧ Sm.oks y ∧ Sm.oks n by simpa only [Sm.ok] using so)
    cases e : Ts.prt P t with
    | none =>
      rw [e] at hQ
      exact both_good g h (show t.needs P.names = true from Ts.prt_none.mp e) Q hQ
    | some ab =>
      rw [e] at hQ
      have pt := Ts.prt_ok P t ab e
      have p2 := prt_ok2 g.nm g.lo g.hi ot e
      have fin : ∀ (R : PS) (bl : List Sm) (q : Int), R ∈ ab.1 ∨ R ∈ ab.2 → Sm.oks bl → Sm.wts bl ≤ Sm.wts y + Sm.wts n → Sm.hvs bl ≤ Sm.hvs y + Sm.hvs n → Gd W (k + 1) (R.gone (pcs bl q)) := by
        intro R bl q hR ob hbw hbh
        obtain ⟨l1, l2⟩ := p2 R hR
        obtain ⟨a, b, rfl⟩ := pt.like R hR
        refine g.next h (by simp only [PS.gone, sumT_app, sumT_wt, ht, Sm.wt]; omega) (by simp only [PS.gone, sumT_app, sumT_hv, ht, Sm.hv, Sm.spl]; by_cases z : t.isOdd = true <;> simp only [z] <;> simp <;> omega) rfl rfl (fun x hx => ?_) nm l1 l2 te g.t01 lt le (wd0 _) g.wok
        rcases List.mem_append.mp hx with z | z
        · exact okT_pcs ob x z
        · exact ro x z
      rcases List.mem_append.mp hQ with z | z
      · obtain ⟨R, hR, rfl⟩ := List.mem_map.mp z
        exact fin R y _ (.inl hR) oy (by omega) (by omega)
      · obtain ⟨R, hR, rfl⟩ := List.mem_map.mp z
        exact fin R n _ (.inr hR) on (by omega) (by omega)
  | half x e =>
    obtain ⟨⟨o1, o2⟩, _⟩ := (show (e.ok ∧ e.deep ≤ 3) ∧ NmOk x by simpa only [Sm.ok] using so)
    have pe := (Ex.pe_729 g.nm o1 o2).mono (show PB k * 729 ≤ PB (k + 1) by omega)
    have M1 := PB.pos (k + 1)
    have fin : ∀ (d : Int) (tn : List Int), (d = 0 ∨ d = 1) → (tn = [] ∨ tn = [0] ∨ tn = [1]) → Gd W (k + 1) (P.hlv x ((e.pe P.names).1 / 2, (e.pe P.names).2 / 2 + d) tn) := by
      intro d tn hd htn
      refine g.next h (by simp only [PS.hlv, ht, Sm.wt]; omega) (by simp only [PS.hlv, ht, Sm.hv, Sm.spl]; simp; omega) rfl rfl ro (setN_ok nm (half_ok pe M1 hd)) lo hi te ?_ ?_ le (wd0 _) g.wok
      · rcases htn with rfl | rfl | rfl
        · show ty01 (P.turns ++ []); rw [List.append_nil]; exact g.t01
        · exact ty01_app g.t01 (.inl rfl)
        · exact ty01_app g.t01 (.inr rfl)
      · show (P.turns ++ tn).length ≤ k + 1
        have := g.lt
        rw [List.length_append]
        rcases htn with rfl | rfl | rfl <;> simp <;> omega
    have fin0 := fun tn htn => fin 0 tn (.inl rfl) htn
    simp only [Int.add_zero] at fin0
    simp only [stepS] at hQ
    split at hQ
    · rename_i hn
      exact both_good g h (show decide ((e.pe P.names).1 % 2 = 1) = true from decide_eq_true hn) Q hQ
    · split at hQ
      · cases List.mem_singleton.mp hQ
        exact fin0 [] (.inl rfl)
      · cases ew : ways p with
        | some c =>
          rw [ew] at hQ
          cases List.mem_singleton.mp hQ
          exact fin c [] (h01 p c ew) (.inl rfl)
        | none =>
          rw [ew] at hQ
          simp only [List.mem_cons, List.not_mem_nil, or_false] at hQ
          rcases hQ with rfl | rfl
          · exact fin0 [0] (.inr (.inl rfl))
          · exact fin 1 [1] (.inr rfl) (.inr (.inr rfl))
/-! ### how many paths come of one -/
def itF (f : Nat → Nat) : Nat → Nat → Nat
  | 0, m => m
  | k + 1, m => f (itF f k m)
mutual
def Sm.mu : Sm → Nat → Nat
  | .ite t y n, m => if t.isOdd then 2 * (Sm.mus y m + Sm.mus n m + 1) + 1 else Sm.mus y m + Sm.mus n m + 1
  | .rep k b, m => itF (fun z => Sm.mus b z) k m + 1
  | .half _ _, m => 4 * m + 3
  | .set _ _, m => m + 1
  | .tell _, m => m + 1
  | .say _, m => m + 1
  | .stop _, m => m + 1
def Sm.mus : List Sm → Nat → Nat
  | [], m => m
  | s :: r, m => s.mu (Sm.mus r m)
end
/-- behind the parting by rests -/
def Sm.mu1 : Sm → Nat → Nat
  | .ite _ y n, m => Sm.mus y m + Sm.mus n m + 1
  | .half _ _, m => 2 * m + 1
  | s, m => s.mu m
def muT : List (Int × Sm) → Nat
  | [] => 1
  | x :: r => x.2.mu (muT r)
def PS.mu (P : PS) : Nat := match P.todo with
  | [] => 1
  | x :: r => if x.2.needs P.names then x.2.mu (muT r) else x.2.mu1 (muT r)
theorem muT_pcs : ∀ (b : List Sm) (p : Int) (r : List (Int × Sm)), muT (pcs b p ++ r) = Sm.mus b (muT r)
  | [], p, r => by simp only [pcs, List.nil_append, Sm.mus]
  | s :: l, p, r => by simp only [pcs, List.cons_append, muT, Sm.mus, muT_pcs l]
theorem muT_rep (b : List Sm) (p : Int) (r : List (Int × Sm)) : ∀ k, muT (repT (pcs b p) k ++ r) = itF (fun z => Sm.mus b z) k (muT r)
  | 0 => rfl
  | k + 1 => by rw [repT, List.append_assoc, muT_pcs, muT_rep b p r k]; rfl
theorem mu1_le (s : Sm) (m : Nat) : s.mu1 m ≤ s.mu m := by
  cases s with
  | ite t y n => simp only [Sm.mu1, Sm.mu]; split <;> omega
  | half x e => simp only [Sm.mu1, Sm.mu]; omega
  | set x e => exact Nat.le_refl _
  | tell e => exact Nat.le_refl _
  | say w => exact Nat.le_refl _
  | stop w => exact Nat.le_refl _
  | rep k b => exact Nat.le_refl _
theorem PS.mu_le (P : PS) : P.mu ≤ muT P.todo := by
  unfold PS.mu
  cases P.todo with
  | nil => exact Nat.le_refl _
  | cons x r =>
    show (if x.2.needs P.names then x.2.mu (muT r) else x.2.mu1 (muT r)) ≤ x.2.mu (muT r)
    split
    · exact Nat.le_refl _
    · exact mu1_le _ _
mutual
theorem Sm.mu_ge : ∀ (s : Sm) (m : Nat), m ≤ s.mu m
  | .ite t y n, m => by
    have := Sm.mus_ge y m
    simp only [Sm.mu]
    split <;> omega
  | .rep k b, m => by
    simp only [Sm.mu]
    have h : ∀ k, m ≤ itF (fun z => Sm.mus b z) k m := by
      intro k
      induction k with
      | zero => exact Nat.le_refl _
      | succ k ih => exact Nat.le_trans ih (Sm.mus_ge b _)
    have := h k
    omega
  | .half _ _, m => by simp only [Sm.mu]; omega
  | .set _ _, m => by simp only [Sm.mu]; omega
  | .tell _, m => by simp only [Sm.mu]; omega
  | .say _, m => by simp only [Sm.mu]; omega
  | .stop _, m => by simp only [Sm.mu]; omega
theorem Sm.mus_ge : ∀ (b : List Sm) (m : Nat), m ≤ Sm.mus b m
  | [], m => by simp only [Sm.mus]; exact Nat.le_refl _
  | s :: r, m => by
    simp only [Sm.mus]
    exact Nat.le_trans (Sm.mus_ge r m) (Sm.mu_ge s _)
end
theorem muT_pos : ∀ t : List (Int × Sm), 1 ≤ muT t
  | [] => Nat.le_refl _
  | x :: r => Nat.le_trans (muT_pos r) (Sm.mu_ge _ _)
def sumM (l : List PS) : Nat := (l.map PS.mu).sum
theorem sumM_app (a b : List PS) : sumM (a ++ b) = sumM a + sumM b := by unfold sumM; rw [List.map_append, List.sum_append]
theorem sumM_one (P : PS) : sumM [P] = P.mu := by unfold sumM; simp
theorem sumM_le {l : List PS} {m n : Nat} (h : ∀ P ∈ l, P.mu ≤ m) (hl : l.length ≤ n) : sumM l ≤ n * m := by
  have : sumM l ≤ l.length * m := by
    clear hl
    induction l with
    | nil => simp [sumM]
    | cons x r ih =>
      have h1 := h x List.mem_cons_self
      have h2 := ih fun P hP => h P (List.mem_cons_of_mem _ hP)
      have e : sumM (x :: r) = x.mu + sumM r := by unfold sumM; simp
      rw [e, List.length_cons, Nat.add_mul]
      omega
  exact Nat.le_trans this (Nat.mul_le_mul_right _ hl)
theorem keep_len (P : PS) : P.keep.length ≤ 1 := by unfold PS.keep; split <;> simp
theorem both_mu {P : PS} {p : Int} {s : Sm} {r : List (Int × Sm)} (h : P.todo = (p, s) :: r) (hn : s.needs P.names = true) : sumM P.both < P.mu := by
  have e : P.mu = s.mu (muT r) := by unfold PS.mu; rw [h]; show (if s.needs P.names then _ else _) = _; rw [hn]; rfl
  have e1 : ∀ j, (P.wr j).mu = s.mu1 (muT r) := by
    intro j
    have : (P.wr j).todo = (p, s) :: r := h
    unfold PS.mu
    rw [this]
    show (if s.needs (fun y => led (P.names y) j) then _ else _) = _
    rw [Sm.needs_led]
    rfl
  have k1 : sumM (P.wr 0).keep ≤ 1 * s.mu1 (muT r) := sumM_le (fun Q hQ => by rw [PS.keep_mem hQ, e1]; exact Nat.le_refl _) (keep_len _)
  have k2 : sumM (P.wr 1).keep ≤ 1 * s.mu1 (muT r) := sumM_le (fun Q hQ => by rw [PS.keep_mem hQ, e1]; exact Nat.le_refl _) (keep_len _)
  have k3 : 2 * s.mu1 (muT r) < s.mu (muT r) := by
    cases s with
    | ite t y n =>
      have ho : t.isOdd = true := Sm.needs_spl (s := .ite t y n) hn
      simp only [Sm.mu1, Sm.mu, ho, if_true]
      omega
    | half x e => simp only [Sm.mu1, Sm.mu]; omega
    | set x e => cases hn
    | tell e => cases hn
    | say w => cases hn
    | stop w => cases hn
    | rep k b => cases hn
  unfold PS.both
  rw [sumM_app, e]
  omega
theorem keep_len1 {P : PS} (l1 l2 : List PS) (h1 : l1 = P.keep) : l1.length ≤ 1 := by rw [h1]; exact keep_len P
theorem prt_len {P : PS} : ∀ {t : Ts} {ab : List PS × List PS}, Ts.prt P t = some ab → ab.1.length ≤ 1 ∧ ab.2.length ≤ 1
  | .not t, ab, h => by
    simp only [Ts.prt] at h
    obtain ⟨cd, e, rfl⟩ := Option.map_eq_some_iff.mp h
    have := prt_len e
    exact ⟨this.2, this.1⟩
  | .odd e, ab, h => by
    simp only [Ts.prt] at h
    split at h
    · cases h
    · cases h
      split <;> simp
  | .less a b, ab, h => by
    simp only [Ts.prt] at h
    cases h
    unfold lessParts
    split
    · split <;> simp
    · split <;> exact ⟨keep_len _, keep_len _⟩
theorem step_mu {ways : Int → Option Int} {P : PS} {p : Int} {s : Sm} {r : List (Int × Sm)} (h : P.todo = (p, s) :: r) : sumM (stepS ways P p s) < P.mu := by
  have ht : P.todo.tail = r := by rw [h]; rfl
  have em : P.mu = if s.needs P.names then s.mu (muT r) else s.mu1 (muT r) := by unfold PS.mu; rw [h]
  have hp := muT_pos r
  have one : ∀ Q : PS, Q.todo = r → Q.mu ≤ muT r := fun Q e => by have := Q.mu_le; rw [e] at this; exact this
  cases s with
  | set x e =>
    simp only [stepS]
    rw [sumM_one, em]
    have := one { P with todo := P.todo.tail, names := setN P.names x (e.pe P.names) } ht
    show _ < muT r + 1
    omega
  | tell e =>
    simp only [stepS]
    rw [sumM_one, em]
    have := one { P with todo := P.todo.tail, tell := P.tell ++ [.inr (e.pe P.names)] } ht
    show _ < muT r + 1
    omega
  | say w =>
    simp only [stepS]
    rw [sumM_one, em]
    have := one { P with todo := P.todo.tail, tell := P.tell ++ [.inl w] } ht
    show _ < muT r + 1
    omega
  | stop w =>
    simp only [stepS]
    rw [sumM_one, em]
    have : PS.mu { P with todo := [], word := some w } = 1 := rfl
    rw [this]
    show 1 < muT r + 1
    omega
  | rep j b =>
    simp only [stepS]
    rw [sumM_one, em]
    have := PS.mu_le { P with todo := repT (pcs b (p + 1)) j ++ P.todo.tail }
    simp only [ht, muT_rep] at this
    show _ < Sm.mu (.rep j b) (muT r)
    simp only [Sm.mu, ht]
    omega
  | ite t y n =>
    simp only [stepS]
    cases e : Ts.prt P t with
    | none => exact both_mu h (show t.needs P.names = true from Ts.prt_none.mp e)
    | some ab =>
      have hn : t.needs P.names = false := by
        cases z : t.needs P.names with
        | false => rfl
        | true => rw [Ts.prt_none.mpr z] at e; cases e
      have em : P.mu = Sm.mus y (muT r) + Sm.mus n (muT r) + 1 := by
        rw [em]
        show (if t.needs P.names then _ else _) = _
        rw [hn]
        rfl
      have pt := Ts.prt_ok P t ab e
      obtain ⟨l1, l2⟩ := prt_len e
      have go : ∀ (R : PS) (bl : List Sm) (q : Int), R ∈ ab.1 ∨ R ∈ ab.2 → (R.gone (pcs bl q)).mu ≤ Sm.mus bl (muT r) := by
        intro R bl q hR
        obtain ⟨a, b, rfl⟩ := pt.like R hR
        have := PS.mu_le (PS.gone { P with low := a, high := b } (pcs bl q))
        rw [show (PS.gone { P with low := a, high := b } (pcs bl q)).todo = pcs bl q ++ r by show pcs bl q ++ P.todo.tail = _; rw [ht], muT_pcs] at this
        exact this
      have k1 : sumM (ab.1.map (PS.gone · (pcs y (p + 1)))) ≤ 1 * Sm.mus y (muT r) := sumM_le (fun Q hQ => by
        obtain ⟨R, hR, rfl⟩ := List.mem_map.mp hQ
        exact go R y _ (.inl hR)) (by rw [List.length_map]; exact l1)
      have k2 : sumM (ab.2.map (PS.gone · (pcs n (p + 1 + (Sm.pls y : Int))))) ≤ 1 * Sm.mus n (muT r) := sumM_le (fun Q hQ => by
        obtain ⟨R, hR, rfl⟩ := List.mem_map.mp hQ
        exact go R n _ (.inr hR)) (by rw [List.length_map]; exact l2)
      dsimp only
      rw [sumM_app, em]
      omega
  | half x e =>
    simp only [stepS]
    split
    · rename_i hn
      exact both_mu h (show decide ((e.pe P.names).1 % 2 = 1) = true from decide_eq_true hn)
    · rename_i hn
      have em : P.mu = 2 * muT r + 1 := by
        rw [em]
        show (if decide ((e.pe P.names).1 % 2 = 1) = true then _ else _) = _
        rw [if_neg (by simpa using hn)]
        rfl
      have o1 : ∀ v tn, (P.hlv x v tn).mu ≤ muT r := fun v tn => one _ ht
      rw [em]
      split
      · rw [sumM_one]
        have := o1 ((e.pe P.names).1 / 2, (e.pe P.names).2 / 2) []
        omega
      · split
        · rename_i c _
          rw [sumM_one]
          have := o1 ((e.pe P.names).1 / 2, (e.pe P.names).2 / 2 + c) []
          omega
        · have a := o1 ((e.pe P.names).1 / 2, (e.pe P.names).2 / 2) [0]
          have b := o1 ((e.pe P.names).1 / 2, (e.pe P.names).2 / 2 + 1) [1]
          show (P.hlv x _ [0]).mu + ((P.hlv x _ [1]).mu + 0) < _
          omega
/-! the bound -/
mutual
theorem Sm.mu_le : ∀ (s : Sm) (m : Nat), s.mu m + 1 ≤ 4 ^ s.hv * 2 ^ s.cp * (m + 1 + s.wt)
  | .ite t y n, m => by
    have h1 := Sm.mus_le y m
    have h2 := Sm.mus_le n m
    have c1 : 4 ^ Sm.hvs y * 2 ^ Sm.cps y * (m + 1 + Sm.wts y) ≤ 4 ^ (Sm.hvs y + Sm.hvs n) * 2 ^ (Sm.cps y + Sm.cps n) * (m + 1 + (1 + (Sm.wts y + Sm.wts n))) :=
      Nat.mul_le_mul (Nat.mul_le_mul (Nat.pow_le_pow_right (by decide) (Nat.le_add_right _ _)) (Nat.pow_le_pow_right (by decide) (Nat.le_add_right _ _))) (by omega)
    have c2 : 4 ^ Sm.hvs n * 2 ^ Sm.cps n * (m + 1 + Sm.wts n) ≤ 4 ^ (Sm.hvs y + Sm.hvs n) * 2 ^ (Sm.cps y + Sm.cps n) * (m + 1 + (1 + (Sm.wts y + Sm.wts n))) :=
      Nat.mul_le_mul (Nat.mul_le_mul (Nat.pow_le_pow_right (by decide) (Nat.le_add_left _ _)) (Nat.pow_le_pow_right (by decide) (Nat.le_add_left _ _))) (by omega)
    simp only [Sm.mu, Sm.hv, Sm.cp, Sm.wt]
    cases t.isOdd with
    | true =>
      simp only [if_true]
      rw [show 4 ^ (1 + (Sm.hvs y + Sm.hvs n)) = 4 * 4 ^ (Sm.hvs y + Sm.hvs n) by rw [Nat.add_comm, Nat.pow_succ, Nat.mul_comm], Nat.zero_add, Nat.mul_assoc 4, Nat.mul_assoc 4]
      omega
    | false =>
      simp only [Bool.false_eq_true, if_false]
      rw [show 2 ^ (1 + (Sm.cps y + Sm.cps n)) = 2 * 2 ^ (Sm.cps y + Sm.cps n) by rw [Nat.add_comm, Nat.pow_succ, Nat.mul_comm], Nat.zero_add, ← Nat.mul_assoc _ 2, Nat.mul_comm _ 2, Nat.mul_assoc 2, Nat.mul_assoc 2]
      omega
  | .rep k b, m => by
    have h : ∀ k, itF (fun z => Sm.mus b z) k m + 1 ≤ 4 ^ (k * Sm.hvs b) * 2 ^ (k * Sm.cps b) * (m + 1 + k * Sm.wts b) := by
      intro k
      induction k with
      | zero => simp [itF]
      | succ k ih =>
        have h1 := Sm.mus_le b (itF (fun z => Sm.mus b z) k m)
        refine Nat.le_trans h1 ?_
        have e1 : (k + 1) * Sm.hvs b = Sm.hvs b + k * Sm.hvs b := by rw [Nat.add_mul, Nat.one_mul, Nat.add_comm]
        have e2 : (k + 1) * Sm.cps b = Sm.cps b + k * Sm.cps b := by rw [Nat.add_mul, Nat.one_mul, Nat.add_comm]
        have e3 : (k + 1) * Sm.wts b = k * Sm.wts b + Sm.wts b := by rw [Nat.add_mul, Nat.one_mul]
        rw [e1, e2, e3, Nat.pow_add, Nat.pow_add]
        have p1 : 1 ≤ 4 ^ (k * Sm.hvs b) * 2 ^ (k * Sm.cps b) := Nat.mul_pos (Nat.pos_of_ne_zero (by simp)) (Nat.pos_of_ne_zero (by simp))
        have q1 : itF (fun z => Sm.mus b z) k m + 1 + Sm.wts b ≤ 4 ^ (k * Sm.hvs b) * 2 ^ (k * Sm.cps b) * (m + 1 + (k * Sm.wts b + Sm.wts b)) := by
          rw [show m + 1 + (k * Sm.wts b + Sm.wts b) = (m + 1 + k * Sm.wts b) + Sm.wts b by omega, Nat.mul_add]
          have := Nat.mul_le_mul_right (Sm.wts b) p1
          omega
        refine Nat.le_trans (Nat.mul_le_mul_left _ q1) (Nat.le_of_eq ?_)
        rw [← Nat.mul_assoc]
        congr 1
        rw [Nat.mul_assoc, Nat.mul_assoc, Nat.mul_left_comm (2 ^ Sm.cps b)]
    have := h k
    simp only [Sm.mu, Sm.hv, Sm.cp, Sm.wt]
    have p1 : 1 ≤ 4 ^ (k * Sm.hvs b) * 2 ^ (k * Sm.cps b) := Nat.mul_pos (Nat.pos_of_ne_zero (by simp)) (Nat.pos_of_ne_zero (by simp))
    rw [show m + 1 + (1 + k * Sm.wts b) = (m + 1 + k * Sm.wts b) + 1 by omega, Nat.mul_add, Nat.mul_one]
    omega
  | .half _ _, m => by simp only [Sm.mu, Sm.hv, Sm.cp, Sm.wt]; omega
  | .set _ _, m => by simp only [Sm.mu, Sm.hv, Sm.cp, Sm.wt]; omega
  | .tell _, m => by simp only [Sm.mu, Sm.hv, Sm.cp, Sm.wt]; omega
  | .say _, m => by simp only [Sm.mu, Sm.hv, Sm.cp, Sm.wt]; omega
  | .stop _, m => by simp only [Sm.mu, Sm.hv, Sm.cp, Sm.wt]; omega
theorem Sm.mus_le : ∀ (b : List Sm) (m : Nat), Sm.mus b m + 1 ≤ 4 ^ Sm.hvs b * 2 ^ Sm.cps b * (m + 1 + Sm.wts b)
  | [], m => by simp only [Sm.mus, Sm.hvs, Sm.cps, Sm.wts]; omega
  | s :: r, m => by
    have h1 := Sm.mu_le s (Sm.mus r m)
    have h2 := Sm.mus_le r m
    simp only [Sm.mus, Sm.hvs, Sm.cps, Sm.wts]
    refine Nat.le_trans h1 ?_
    rw [Nat.pow_add, Nat.pow_add]
    have p1 : 1 ≤ 4 ^ Sm.hvs r * 2 ^ Sm.cps r := Nat.mul_pos (Nat.pos_of_ne_zero (by simp)) (Nat.pos_of_ne_zero (by simp))
    have q1 : Sm.mus r m + 1 + s.wt ≤ 4 ^ Sm.hvs r * 2 ^ Sm.cps r * (m + 1 + (s.wt + Sm.wts r)) := by
      rw [show m + 1 + (s.wt + Sm.wts r) = (m + 1 + Sm.wts r) + s.wt by omega, Nat.mul_add]
      have := Nat.mul_le_mul_right s.wt p1
      omega
    refine Nat.le_trans (Nat.mul_le_mul_left _ q1) (Nat.le_of_eq ?_)
    rw [← Nat.mul_assoc]
    congr 1
    rw [Nat.mul_assoc, Nat.mul_assoc, Nat.mul_left_comm (2 ^ s.cp)]
end
theorem mu_bound {b : List Sm} (pr : PrOk b) (p : Int) : muT (pcs b p) ≤ 200000 := by
  have h := Sm.mus_le b 1
  have e := muT_pcs b p []
  rw [List.append_nil] at e
  rw [e]
  show Sm.mus b 1 ≤ _
  have h4 : 4 ^ Sm.hvs b ≤ 4 ^ 4 := Nat.pow_le_pow_right (by decide) pr.hv
  have h2 : 2 ^ Sm.cps b ≤ 2 ^ 3 := Nat.pow_le_pow_right (by decide) pr.cp
  have := Nat.mul_le_mul (Nat.mul_le_mul h4 h2) (show 1 + 1 + Sm.wts b ≤ 62 by have := pr.wt; omega)
  omega
end EH
namespace EH
open PySem L2
/-! ### the first path on a piece -/
def PS0 (rest by_ : Int) (low high : Option Int) (b : List Sm) : PS :=
  ⟨rest, by_, low.map fun l => 0 - (rest - l) / by_, high.map fun h => (h - rest) / by_, fun y => if y = "n" then (by_, rest) else (0, 0), pcs b 0, [], [], none⟩
def inPc (rest by_ : Int) (low high : Option Int) (n : Int) : Prop := n % by_ = rest ∧ inLow low n ∧ inHigh high n
theorem low_at {rest by_ t : Int} {low : Option Int} (hb : 0 < by_) : inLow (low.map fun l => 0 - (rest - l) / by_) t ↔ inLow low (by_ * t + rest) := by
  cases low with
  | none => exact Iff.rfl
  | some l =>
    show 0 - (rest - l) / by_ ≤ t ↔ l ≤ by_ * t + rest
    have z := Int.le_ediv_iff_mul_le (a := 0 - t) (b := rest - l) hb
    have e : (0 - t) * by_ = 0 - by_ * t := by rw [Int.sub_mul, Int.zero_mul, Int.mul_comm]
    rw [e] at z
    omega
theorem high_at {rest by_ t : Int} {high : Option Int} (hb : 0 < by_) : inHigh (high.map fun h => (h - rest) / by_) t ↔ inHigh high (by_ * t + rest) := by
  cases high with
  | none => exact Iff.rfl
  | some h =>
    show t ≤ (h - rest) / by_ ↔ by_ * t + rest ≤ h
    have z := Int.le_ediv_iff_mul_le (a := t) (b := h - rest) hb
    rw [Int.mul_comm] at z
    omega
theorem st0 (rest by_ : Int) (low high : Option Int) (b : List Sm) (t : Int) : (PS0 rest by_ low high b).st t = cs0 (by_ * t + rest) := by
  unfold PS.st PS0 cs0 env0
  dsimp only
  congr 1
  funext y
  split
  · rfl
  · unfold pv2; simp
theorem fam0 {ways : Int → Option Int} {rest by_ : Int} {low high : Option Int} (b : List Sm) (hb : 0 < by_) (h0 : 0 ≤ rest) (h1 : rest < by_) : Fam ways b (inPc rest by_ low high) [PS0 rest by_ low high b] := by
  refine ⟨fun P hP n t c ha hp hc => ?_, fun n c hi hc => ?_, List.pairwise_singleton _ _⟩
  · cases List.mem_singleton.mp hP
    obtain ⟨e, l1, l2⟩ := ha
    have e : n = by_ * t + rest := e
    refine ⟨⟨?_, ?_, ?_⟩, ?_⟩
    · rw [e, Int.mul_add_emod_self_left, Int.emod_eq_of_lt h0 h1]
    · rw [e]; exact (low_at hb).mp l1
    · rw [e]; exact (high_at hb).mp l2
    · unfold PS.res
      show runT (decC c) ways (pcs b 0) ((PS0 rest by_ low high b).st t) = _
      rw [runT_pcs, st0, ← e]
  · obtain ⟨e, l1, l2⟩ := hi
    have en : n = by_ * (n / by_) + rest := by
      have := Int.mul_ediv_add_emod n by_
      omega
    refine ⟨_, List.mem_singleton.mpr rfl, n / by_, ⟨en, ?_, ?_⟩, fun k hk => absurd hk (Nat.not_lt_zero _)⟩
    · refine (low_at hb).mpr ?_
      rw [← en]
      exact l1
    · refine (high_at hb).mpr ?_
      rw [← en]
      exact l2
theorem gd0 {rest by_ : Int} {low high : Option Int} {b : List Sm} (pr : PrOk b) (hb : 0 < by_) (hB : by_ ≤ 2 ^ 46) (h0 : 0 ≤ rest) (h1 : rest < by_) (hl : oOk (10 ^ 59) low) (hh : oOk (10 ^ 59) high) {e : Nat} (he : by_ = 2 ^ e) : Gd (e + 4) 0 (PS0 rest by_ low high b) := by
  have e46 : e ≤ 46 := by
    rcases Nat.lt_or_ge 46 e with h | h
    · have h1 : (2 : Nat) ^ 47 ≤ 2 ^ e := Nat.pow_le_pow_right (by decide) h
      have h2 : (2 : Int) ^ 47 ≤ 2 ^ e := by exact_mod_cast h1
      rw [← he] at h2
      have h3 : (2 : Int) ^ 46 < 2 ^ 47 := by decide
      omega
    · exact h
  have e50 : (2 : Int) ^ 46 = 70368744177664 := by decide
  have e59 : (10 : Nat) ^ 59 + 70368744177664 ≤ PB 0 := by decide +kernel
  have w : sumT Sm.wt (pcs b 0) = Sm.wts b := sumT_wt b 0
  have h : sumT Sm.hv (pcs b 0) = Sm.hvs b := sumT_hv b 0
  have hw := pr.wt
  have hhv := pr.hv
  refine ⟨hb, h0, h1, ?_, ?_, okT_pcs pr.ok, ?_, ?_, ?_, (fun x hx => nomatch hx), (fun x hx => nomatch hx), Nat.le_refl _, Nat.le_refl _, fun z => absurd rfl z, (fun w e => nomatch e), ⟨e, he⟩, by omega⟩
  · unfold PS.hvr
    show by_ * 2 ^ (sumT Sm.hv (pcs b 0) - _) ≤ 2 ^ (e + 4)
    rw [h]
    have p : (2 : Nat) ^ (Sm.hvs b - stlOf (PS0 rest by_ low high b).names (pcs b 0)) ≤ 2 ^ 4 := Nat.pow_le_pow_right (by decide) (by omega)
    have p' : (2 : Int) ^ (Sm.hvs b - stlOf (PS0 rest by_ low high b).names (pcs b 0)) ≤ 16 := by exact_mod_cast p
    have q : by_ * 2 ^ (Sm.hvs b - stlOf (PS0 rest by_ low high b).names (pcs b 0)) ≤ by_ * 16 := Int.mul_le_mul_of_nonneg_left p' (by omega)
    have e16 : (2 : Int) ^ (e + 4) = by_ * 16 := by rw [Int.pow_add, ← he]; rfl
    rw [e16]
    exact q
  · unfold PS.rem
    show 0 + (2 * sumT Sm.wt (pcs b 0) - _) ≤ 120
    rw [w]
    omega
  · intro y
    show pOk (PB 0) (if y = "n" then (by_, rest) else (0, 0))
    rw [e50] at hB
    split
    · refine ⟨?_, ?_⟩ <;> dsimp only <;> omega
    · exact ⟨Nat.zero_le _, Nat.zero_le _⟩
  · intro i e
    have e : low.map (fun l => 0 - (rest - l) / by_) = some i := e
    obtain ⟨l, hl1, rfl⟩ := Option.map_eq_some_iff.mp e
    have := hl l hl1
    have := ediv_le (a := rest - l) hb
    rw [e50] at hB
    omega
  · intro i e
    have e : high.map (fun h => (h - rest) / by_) = some i := e
    obtain ⟨l, hl1, rfl⟩ := Option.map_eq_some_iff.mp e
    have := hh l hl1
    have := ediv_le (a := l - rest) hb
    rw [e50] at hB
    omega
theorem mu0 {rest by_ : Int} {low high : Option Int} {b : List Sm} (pr : PrOk b) : (PS0 rest by_ low high b).mu ≤ 200000 := Nat.le_trans (PS.mu_le _) (mu_bound pr 0)
theorem PS.mu_pos (P : PS) : 1 ≤ P.mu := by
  unfold PS.mu
  split
  · exact Nat.le_refl _
  · rename_i x r _
    split
    · exact Nat.le_trans (muT_pos r) (Sm.mu_ge _ _)
    · have := muT_pos r
      cases x.2 with
      | ite t y n => show 1 ≤ Sm.mus y (muT r) + Sm.mus n (muT r) + 1; omega
      | half z e => show 1 ≤ 2 * muT r + 1; omega
      | set z e => show 1 ≤ muT r + 1; omega
      | tell e => show 1 ≤ muT r + 1; omega
      | say c => show 1 ≤ muT r + 1; omega
      | stop c => show 1 ≤ muT r + 1; omega
      | rep k b => exact Nat.le_trans this (Sm.mu_ge (.rep k b) _)
end EH
namespace EH
open PySem L2
/-! ### what ended paths tell -/
structure Pc where
  rest : Int
  by_ : Int
  low : Option Int
  high : Option Int
def Pc.has (p : Pc) (n : Int) : Prop := inPc p.rest p.by_ p.low p.high n
abbrev Fm := Int × Int × Int
structure Rn where
  turns : List Int
  items : List (Str ⊕ Fm)
  word : Option Str
/-- a form with the least power of two -/
def redE : Nat → Int → Int → Int × Int × Nat
  | 0, a, b => (a, b, 0)
  | e + 1, a, b => if a % 2 = 0 ∧ b % 2 = 0 then redE e (a / 2) (b / 2) else (a, b, e + 1)
theorem redE_eq : ∀ (e : Nat) (a b : Int), ∃ k : Nat, e = (redE e a b).2.2 + k ∧ a = 2 ^ k * (redE e a b).1 ∧ b = 2 ^ k * (redE e a b).2.1
  | 0, a, b => ⟨0, rfl, by simp [redE], by simp [redE]⟩
  | e + 1, a, b => by
    unfold redE
    split
    · rename_i h
      obtain ⟨k, h1, h2, h3⟩ := redE_eq e (a / 2) (b / 2)
      refine ⟨k + 1, by omega, ?_, ?_⟩
      · rw [Int.pow_succ, Int.mul_comm ((2 : Int) ^ k) 2, Int.mul_assoc, ← h2]
        omega
      · rw [Int.pow_succ, Int.mul_comm ((2 : Int) ^ k) 2, Int.mul_assoc, ← h3]
        omega
    · exact ⟨0, rfl, by simp, by simp⟩
def logE (b : Int) : Nat := b.natAbs.log2
theorem logE_pow (e : Nat) : logE (2 ^ e) = e := by
  unfold logE
  rw [show ((2 : Int) ^ e).natAbs = 2 ^ e by rw [Int.natAbs_pow]; rfl]
  exact Nat.log2_two_pow
def fmE (a b : Int) (e : Nat) : Fm := ((redE e a b).1, (redE e a b).2.1, 2 ^ (redE e a b).2.2)
def formOf (x : Int × Int) (rest by_ : Int) : Fm := fmE x.1 (x.2 * by_ - x.1 * rest) (logE by_)
def Fm.at_ (f : Fm) (n : Int) : Int := (f.1 * n + f.2.1) / f.2.2
theorem form_at {x : Int × Int} {rest by_ t : Int} {e : Nat} (hb : by_ = 2 ^ e) : (formOf x rest by_).1 * (by_ * t + rest) + (formOf x rest by_).2.1 = (formOf x rest by_).2.2 * pv2 x t := by
  unfold formOf fmE
  dsimp only
  have el : logE by_ = e := by rw [hb, logE_pow]
  rw [el]
  obtain ⟨k, h1, h2, h3⟩ := redE_eq e x.1 (x.2 * by_ - x.1 * rest)
  generalize redE e x.1 (x.2 * by_ - x.1 * rest) = R at *
  have hk : (0 : Int) < 2 ^ k := Int.pow_pos (by decide)
  apply Int.eq_of_mul_eq_mul_left (Int.ne_of_gt hk)
  rw [Int.mul_add, ← Int.mul_assoc, ← h2, ← h3, ← Int.mul_assoc, Int.mul_comm (2 ^ k) (2 ^ R.2.2), ← Int.pow_add, ← h1, ← hb]
  unfold pv2
  rw [Int.mul_add, Int.mul_add, ← Int.mul_assoc, ← Int.mul_assoc, Int.mul_comm x.1 by_, Int.mul_comm x.2 by_]
  omega
theorem form_num {x : Int × Int} {rest by_ t : Int} {e : Nat} (hb : by_ = 2 ^ e) : Fm.at_ (formOf x rest by_) (by_ * t + rest) = pv2 x t := by
  unfold Fm.at_
  rw [form_at hb]
  refine Int.mul_ediv_cancel_left _ (Int.ne_of_gt ?_)
  exact Int.pow_pos (by decide)
def itF1 (rest by_ : Int) : Str ⊕ (Int × Int) → Str ⊕ Fm
  | .inl w => .inl w
  | .inr x => .inr (formOf x rest by_)
def PS.pc (P : PS) : Pc := ⟨P.rest, P.by_, P.low.map fun l => P.by_ * l + P.rest, P.high.map fun h => P.by_ * h + P.rest⟩
def PS.rn (P : PS) : Rn := ⟨P.turns, P.tell.map (itF1 P.rest P.by_), P.word⟩
def itAt (n : Int) : Str ⊕ Fm → Key
  | .inl w => Sum.inr w
  | .inr f => Sum.inl (Fm.at_ f n)
/-- what a run of a row tells on an input: items, word, turns -/
def Rn.at_ (R : Rn) (n : Int) : Option Str × List Key × List Int := (R.word, R.items.map (itAt n), R.turns)
theorem pc_has {P : PS} (hb : 0 < P.by_) (h0 : 0 ≤ P.rest) (h1 : P.rest < P.by_) {n : Int} : P.pc.has n ↔ ∃ t, P.at_ n t := by
  unfold Pc.has inPc PS.pc PS.at_ PS.inT
  dsimp only
  have mono : ∀ a t : Int, P.by_ * a + P.rest ≤ P.by_ * t + P.rest ↔ a ≤ t := by
    intro a t
    constructor
    · intro h
      have : P.by_ * a ≤ P.by_ * t := by omega
      exact Int.le_of_mul_le_mul_left this hb
    · intro h
      have : P.by_ * a ≤ P.by_ * t := Int.mul_le_mul_of_nonneg_left h (by omega)
      omega
  have lo : ∀ t, inLow (P.low.map fun l => P.by_ * l + P.rest) (P.by_ * t + P.rest) ↔ inLow P.low t := by
    intro t
    cases P.low with
    | none => exact Iff.rfl
    | some l => exact mono l t
  have hi : ∀ t, inHigh (P.high.map fun l => P.by_ * l + P.rest) (P.by_ * t + P.rest) ↔ inHigh P.high t := by
    intro t
    cases P.high with
    | none => exact Iff.rfl
    | some l => exact mono t l
  constructor
  · rintro ⟨a, b, c⟩
    have en : n = P.by_ * (n / P.by_) + P.rest := by
      have := Int.mul_ediv_add_emod n P.by_
      omega
    rw [en] at b c
    exact ⟨n / P.by_, en, (lo _).mp b, (hi _).mp c⟩
  · rintro ⟨t, e, b, c⟩
    rw [e]
    exact ⟨by rw [Int.mul_add_emod_self_left, Int.emod_eq_of_lt h0 h1], (lo t).mpr b, (hi t).mpr c⟩
/-- rows that tell all runs of a program on some inputs -/
structure RFam (ways : Int → Option Int) (b : List Sm) (In : Int → Prop) (L : List (Pc × Rn)) : Prop where
  sound : ∀ r ∈ L, ∀ n, r.1.has n → In n
  runs : ∀ r ∈ L, ∀ n c, r.1.has n → Pre r.2.turns c → ty01 c → (rn ways b n c).1 = (r.2.at_ n).1 ∧ (rn ways b n c).2.said = (r.2.at_ n).2.1 ∧ (rn ways b n c).2.turns = r.2.turns
  cover : ∀ n c, In n → ty01 c → ∃ r ∈ L, r.1.has n ∧ Pre r.2.turns c
  disj : L.Pairwise fun r r' => ∀ n c, r.1.has n → r'.1.has n → Pre r.2.turns c → Pre r'.2.turns c → ty01 c → False
theorem Fam.told {ways : Int → Option Int} {b : List Sm} {In : Int → Prop} {Ps : List PS} {W : Nat} (h : Fam ways b In Ps) (he : ∀ P ∈ Ps, P.todo = []) (g : ∀ P ∈ Ps, ∃ k, Gd W k P) : RFam ways b In (Ps.map fun P => (P.pc, P.rn)) := by
  refine ⟨fun r hr n hn => ?_, fun r hr n c hn hp hc => ?_, fun n c hi hc => ?_, ?_⟩
  · obtain ⟨P, hP, rfl⟩ := List.mem_map.mp hr
    obtain ⟨k, gd⟩ := g P hP
    obtain ⟨t, ha⟩ := (pc_has gd.by0 gd.r0 gd.r1).mp hn
    have hc : ty01 P.turns := gd.t01
    exact (h.sound P hP n t P.turns ha (fun k hk => rfl) hc).1
  · obtain ⟨P, hP, rfl⟩ := List.mem_map.mp hr
    obtain ⟨k, gd⟩ := g P hP
    obtain ⟨t, ha⟩ := (pc_has gd.by0 gd.r0 gd.r1).mp hn
    have e := (h.sound P hP n t c ha hp hc).2
    have er : P.res ways c t = (P.word, P.st t) := by
      unfold PS.res
      rw [he P hP]
      cases P.word <;> rfl
    rw [← e, er]
    refine ⟨rfl, ?_, rfl⟩
    show P.tell.map (tellAt t) = (P.tell.map (itF1 P.rest P.by_)).map (itAt n)
    rw [List.map_map]
    obtain ⟨ee, hb⟩ := gd.pw
    refine List.map_congr_left fun y _ => ?_
    cases y with
    | inl w => rfl
    | inr z =>
      show Sum.inl (pv2 z t) = Sum.inl (Fm.at_ (formOf z P.rest P.by_) n)
      rw [ha.1, form_num hb]
  · obtain ⟨P, hP, t, ha, hp⟩ := h.cover n c hi hc
    obtain ⟨k, gd⟩ := g P hP
    exact ⟨_, List.mem_map.mpr ⟨P, hP, rfl⟩, (pc_has gd.by0 gd.r0 gd.r1).mpr ⟨t, ha⟩, hp⟩
  · refine List.pairwise_map.mpr (h.disj.imp_of_mem ?_)
    intro P Q hP hQ ap n c hn hn' hp hp' hc
    obtain ⟨k, gd⟩ := g P hP
    obtain ⟨k', gd'⟩ := g Q hQ
    obtain ⟨t, ha⟩ := (pc_has gd.by0 gd.r0 gd.r1).mp hn
    obtain ⟨t', ha'⟩ := (pc_has gd'.by0 gd'.r0 gd'.r1).mp hn'
    exact ap n c t t' ha ha' hp hp' hc
end EH
namespace EH
open PySem L2
/-! ### tuples of the heap or of the written part -/
/-- a tuple of the heap; a written one is empty or has a None in it -/
def TK (K : PySem.W.Frag) (H : Hp) (a : Addr) (xs : List V) : Prop := H a = some (.tup xs) ∨ ((xs = [] ∨ V.non ∈ xs) ∧ ∀ H', SqT K H' a xs)
section
variable {K : PySem.W.Frag} {S : List Addr} {H H' : Hp} {a : Addr} {xs : List V}
theorem TK.sq (h : TK K H a xs) : SqT K H a xs := by
  rcases h with h | ⟨_, h⟩
  · exact SqT.of h
  · exact h H
theorem TK.dyn {ns : List Int} (h : TK K H a (ns.map V.int)) (ne : ns ≠ []) : H a = some (.tup (ns.map V.int)) := by
  rcases h with h | ⟨h | h, _⟩
  · exact h
  · exact absurd (List.map_eq_nil_iff.mp h) ne
  · obtain ⟨n, _, e⟩ := List.mem_map.mp h
    cases e
theorem TK.kp (k : Kp S H H') (h : TK K H a xs) : TK K H' a xs := by
  rcases h with h | h
  · exact .inl (k.tup _ _ h)
  · exact .inr h
end
/-! data whose tuples may be written ones -/
mutual
def TrK (K : PySem.W.Frag) (H : Hp) : PyData → V → Prop
  | .none, v => v = .non
  | .bool b, v => v = .bl b
  | .int i, v => v = .int i
  | .str x, v => v = .str x
  | .tuple ds, v => ∃ a xs, v = .ref a ∧ TK K H a xs ∧ TrKs K H ds xs
  | .list _, _ => False
  | .dict _, _ => False
def TrKs (K : PySem.W.Frag) (H : Hp) : List PyData → List V → Prop
  | [], xs => xs = []
  | d :: ds, xs => ∃ v vs, xs = v :: vs ∧ TrK K H d v ∧ TrKs K H ds vs
end
mutual
theorem TrK.kp {K : PySem.W.Frag} {S : List Addr} {H H' : Hp} (k : Kp S H H') : ∀ (d : PyData) (v : V), TrK K H d v → TrK K H' d v
  | .none, v, h => by simp only [TrK] at h ⊢; exact h
  | .bool b, v, h => by simp only [TrK] at h ⊢; exact h
  | .int i, v, h => by simp only [TrK] at h ⊢; exact h
  | .str x, v, h => by simp only [TrK] at h ⊢; exact h
  | .tuple ds, v, h => by
    simp only [TrK] at h ⊢
    obtain ⟨a, xs, e, h1, h2⟩ := h
    exact ⟨a, xs, e, h1.kp k, TrKs.kp k ds xs h2⟩
  | .list _, v, h => by simp only [TrK] at h
  | .dict _, v, h => by simp only [TrK] at h
theorem TrKs.kp {K : PySem.W.Frag} {S : List Addr} {H H' : Hp} (k : Kp S H H') : ∀ (ds : List PyData) (vs : List V), TrKs K H ds vs → TrKs K H' ds vs
  | [], vs, h => by simp only [TrKs] at h ⊢; exact h
  | d :: ds, vs, h => by
    simp only [TrKs] at h ⊢
    obtain ⟨v, r, e, h1, h2⟩ := h
    exact ⟨v, r, e, TrK.kp k d v h1, TrKs.kp k ds r h2⟩
end
theorem Kp.trK {K : PySem.W.Frag} {S : List Addr} {H H' : Hp} {d : PyData} {v : V} (k : Kp S H H') (h : TrK K H d v) : TrK K H' d v := TrK.kp k d v h
theorem Kp.trKs {K : PySem.W.Frag} {S : List Addr} {H H' : Hp} {d : List PyData} {v : List V} (k : Kp S H H') (h : TrKs K H d v) : TrKs K H' d v := TrKs.kp k d v h
mutual
theorem TrK.of {K : PySem.W.Frag} {H : Hp} : ∀ (d : PyData) (v : V), Tr H d v → TrK K H d v
  | .none, v, h => by simp only [Tr, TrK] at h ⊢; exact h
  | .bool b, v, h => by simp only [Tr, TrK] at h ⊢; exact h
  | .int i, v, h => by simp only [Tr, TrK] at h ⊢; exact h
  | .str x, v, h => by simp only [Tr, TrK] at h ⊢; exact h
  | .tuple ds, v, h => by
    simp only [Tr, TrK] at h ⊢
    obtain ⟨a, xs, e, h1, h2⟩ := h
    exact ⟨a, xs, e, .inl h1, TrKs.of ds xs h2⟩
  | .list _, v, h => by simp only [Tr] at h
  | .dict _, v, h => by simp only [Tr] at h
theorem TrKs.of {K : PySem.W.Frag} {H : Hp} : ∀ (ds : List PyData) (vs : List V), TrAll H ds vs → TrKs K H ds vs
  | [], vs, h => by simp only [TrAll, TrKs] at h ⊢; exact h
  | d :: ds, vs, h => by
    simp only [TrAll, TrKs] at h ⊢
    obtain ⟨v, r, e, h1, h2⟩ := h
    exact ⟨v, r, e, TrK.of d v h1, TrKs.of ds r h2⟩
end
mutual
theorem TrK.dp {K : PySem.W.Frag} {H : Hp} : ∀ (d : PyData) (v : V), TrK K H d v → Dp K H v d
  | .none, v, h => by simp only [TrK] at h; subst h; exact .non
  | .bool b, v, h => by simp only [TrK] at h; subst h; exact .bl b
  | .int i, v, h => by simp only [TrK] at h; subst h; exact .int i
  | .str x, v, h => by simp only [TrK] at h; subst h; exact .str x
  | .tuple ds, v, h => by
    simp only [TrK] at h
    obtain ⟨a, xs, e, h1, h2⟩ := h
    subst e
    exact .tup h1.sq (TrKs.dp ds xs h2)
  | .list _, v, h => by simp only [TrK] at h
  | .dict _, v, h => by simp only [TrK] at h
theorem TrKs.dp {K : PySem.W.Frag} {H : Hp} : ∀ (ds : List PyData) (vs : List V), TrKs K H ds vs → DpAll K H vs ds
  | [], vs, h => by simp only [TrKs] at h; subst h; exact .nil
  | d :: ds, vs, h => by
    simp only [TrKs] at h
    obtain ⟨v, r, e, h1, h2⟩ := h
    subst e
    exact .cons (TrK.dp d v h1) (TrKs.dp ds r h2)
end
/-! ### rules -/
section
variable {X : Cx} {K : PySem.W.Frag} {pos : Pos}
def rCatK (K : PySem.W.Frag) : R2 := fun x y H Q => ∃ a b xs ys, x = .ref a ∧ y = .ref b ∧ TK K H a xs ∧ TK K H b ys ∧ xs.length + ys.length ≤ sizeLine ∧ ∀ p H2, TK K H2 p (xs ++ ys) → Kp [] H H2 → Q (.ref p) H2
theorem op_catKK (hK : X.K = K) : OpR X (binaryOp .Add) (rCatK K) := hK ▸ OpR.imp op_catA fun x y H Q ⟨a, b, xs, ys, e1, e2, h1, h2, z, q⟩ => by
  refine ⟨a, b, xs, ys, e1, e2, h1.sq, h2.sq, z, fun e => ?_, fun _ e => ?_, fun _ _ p hp => q p _ (.inl upd_same) (Kp.new hp)⟩
  · subst e; exact q b H h2 Kp.refl
  · subst e; exact q a H (by rw [List.append_nil]; exact h1) Kp.refl
/-- a target o.f -/
def gFld (K : PySem.W.Frag) (ta : TE) (f : Str) : TG := fun v σ H Q => ta σ H fun x H1 => ∃ a C dx fs, x = .ref a ∧ H1 a = some (.ins C dx fs) ∧ Cls K C ∧ NoAttr K C f ∧ fs.length < 1000 ∧ PutQ H1 a (.ins C dx (putF f v fs)) (Q σ)
theorem pg_fldK {o : Expr} {f : Str} {ta : TE} (hK : X.K = K) (ho : PE X o ta) (ha : ∀ v, assign (.Attribute o f pos) X.env v = (do
      let ov ← holding [v] (eval o X.env)
      standAt pos.atName
      holding [v, ov] (setAttr ov f v)
      release [v, ov] []) := by intro _; rfl) : PG X (.Attribute o f pos) (gFld K ta f) := by
  subst hK
  refine ⟨fun pins s σ H v u Q I r h => ?_⟩
  rw [ha]
  refine wpAny_bind (wpAny_holding (thn (ho.run pins s σ H _ I h) fun ov s1 h1 => ?_))
  obtain ⟨x, H1, I1, r1, a, C, dx, fs, ex, ea, c, n, l, q⟩ := h1
  subst ex
  cases (show ov = Value.ref a from r1)
  refine wpAny_bind (wpAny_standAt (wpAny_bind (wpAny_holding (setattr_ok I1 ea c n l r fun s3 I3 => ?_))))
  exact wpAny_release ⟨σ, _, I3, q.to ea (fun _ z => by cases z)⟩
theorem call_dictA : CallR X (.type "dict") (fun xs H Q => ∃ a kvs, xs = [.ref a] ∧ H a = some (.dK kvs) ∧ NewQ H (.dK kvs) Q) :=
  CallR.imp call_dictD fun xs H Q ⟨a, kvs, e, h, q⟩ => ⟨a, kvs, e, Rd.of h, q.to⟩
theorem call_listDA (hc : X.calm = true) : CallR X (.type "list") (fun xs H Q => ∃ a kvs, xs = [.ref a] ∧ H a = some (.dK kvs) ∧ NewQ H (.lst (kvs.map fun kv => kV kv.1)) Q) :=
  CallR.imp (call_listD hc) fun xs H Q ⟨a, kvs, e, h, q⟩ => ⟨a, kvs, e, Rd.of h, q.to⟩
theorem call_listLA : CallR X (.type "list") (fun xs H Q => ∃ a ys, xs = [.ref a] ∧ H a = some (.lst ys) ∧ NewQ H (.lst ys) Q) :=
  CallR.imp call_list_of fun xs H Q ⟨a, ys, e, h, q⟩ => ⟨a, ys, e, .inl (SqL.of h), q.to⟩
end
/-! ### statements with their places in the heap -/
def Sub (H0 H : Hp) : Prop := ∀ b o, H0 b = some o → H b = some o
theorem Sub.refl {H : Hp} : Sub H H := fun _ _ h => h
theorem Sub.kp {S : List Addr} {H0 H H' : Hp} (s : Sub H0 H) (k : Kp S H H') (h : ∀ b ∈ S, H0 b = none) : Sub H0 H' := fun b o e => k.keep b o (s b o e) fun z => by rw [h b z] at e; cases e
theorem Sub.of {H H' : Hp} (k : Kp [] H H') : Sub H H' := fun b o e => k.at e
theorem Sub.tr {H0 H : Hp} (s : Sub H0 H) {d : PyData} {v : V} (h : Tr H0 d v) : Tr H d v := Tr.mono (fun b xs e => s b _ e) d v h
theorem Sub.no {H0 H : Hp} {p : Addr} (s : Sub H0 H) (h : H p = none) : H0 p = none := by
  cases e : H0 p with
  | none => rfl
  | some o => rw [s p o e] at h; cases h
mutual
def PlAt (H : Hp) : Sm → Int → V → Prop
  | .ite t y n, p, v => ∃ u sv l l1 l2 w1 w2, v = .ref u ∧ H u = some (.tup [.int p, sv, .ref l]) ∧ Tr H (Sm.ite t y n).d sv ∧ H l = some (.lst [.ref l1, .ref l2]) ∧ H l1 = some (.lst w1) ∧ H l2 = some (.lst w2) ∧ PlsAt H y (p + 1) w1 ∧ PlsAt H n (p + 1 + (Sm.pls y : Int)) w2
  | .rep k b, p, v => ∃ u sv l l1 w1, v = .ref u ∧ H u = some (.tup [.int p, sv, .ref l]) ∧ Tr H (Sm.rep k b).d sv ∧ H l = some (.lst [.ref l1]) ∧ H l1 = some (.lst w1) ∧ PlsAt H b (p + 1) w1
  | .set x e, p, v => ∃ u sv l, v = .ref u ∧ H u = some (.tup [.int p, sv, .ref l]) ∧ Tr H (Sm.set x e).d sv
  | .half x e, p, v => ∃ u sv l, v = .ref u ∧ H u = some (.tup [.int p, sv, .ref l]) ∧ Tr H (Sm.half x e).d sv
  | .tell e, p, v => ∃ u sv l, v = .ref u ∧ H u = some (.tup [.int p, sv, .ref l]) ∧ Tr H (Sm.tell e).d sv
  | .say w, p, v => ∃ u sv l, v = .ref u ∧ H u = some (.tup [.int p, sv, .ref l]) ∧ Tr H (Sm.say w).d sv
  | .stop w, p, v => ∃ u sv l, v = .ref u ∧ H u = some (.tup [.int p, sv, .ref l]) ∧ Tr H (Sm.stop w).d sv
def PlsAt (H : Hp) : List Sm → Int → List V → Prop
  | [], _, vs => vs = []
  | s :: r, p, vs => ∃ v w, vs = v :: w ∧ PlAt H s p v ∧ PlsAt H r (p + (s.pl : Int)) w
end
mutual
theorem PlAt.sub {H H' : Hp} (k : Sub H H') : ∀ (s : Sm) (p : Int) (v : V), PlAt H s p v → PlAt H' s p v
  | .ite t y n, p, v, h => by
    simp only [PlAt] at h ⊢
    obtain ⟨u, sv, l, l1, l2, w1, w2, e, h1, h2, h3, h4, h5, h6, h7⟩ := h
    exact ⟨u, sv, l, l1, l2, w1, w2, e, k _ _ h1, k.tr h2, k _ _ h3, k _ _ h4, k _ _ h5, PlsAt.sub k y _ _ h6, PlsAt.sub k n _ _ h7⟩
  | .rep j b, p, v, h => by
    simp only [PlAt] at h ⊢
    obtain ⟨u, sv, l, l1, w1, e, h1, h2, h3, h4, h6⟩ := h
    exact ⟨u, sv, l, l1, w1, e, k _ _ h1, k.tr h2, k _ _ h3, k _ _ h4, PlsAt.sub k b _ _ h6⟩
  | .set x ee, p, v, h => by simp only [PlAt] at h ⊢; obtain ⟨u, sv, l, e, h1, h2⟩ := h; exact ⟨u, sv, l, e, k _ _ h1, k.tr h2⟩
  | .half x ee, p, v, h => by simp only [PlAt] at h ⊢; obtain ⟨u, sv, l, e, h1, h2⟩ := h; exact ⟨u, sv, l, e, k _ _ h1, k.tr h2⟩
  | .tell ee, p, v, h => by simp only [PlAt] at h ⊢; obtain ⟨u, sv, l, e, h1, h2⟩ := h; exact ⟨u, sv, l, e, k _ _ h1, k.tr h2⟩
  | .say ee, p, v, h => by simp only [PlAt] at h ⊢; obtain ⟨u, sv, l, e, h1, h2⟩ := h; exact ⟨u, sv, l, e, k _ _ h1, k.tr h2⟩
  | .stop ee, p, v, h => by simp only [PlAt] at h ⊢; obtain ⟨u, sv, l, e, h1, h2⟩ := h; exact ⟨u, sv, l, e, k _ _ h1, k.tr h2⟩
theorem PlsAt.sub {H H' : Hp} (k : Sub H H') : ∀ (b : List Sm) (p : Int) (vs : List V), PlsAt H b p vs → PlsAt H' b p vs
  | [], p, vs, h => by simp only [PlsAt] at h ⊢; exact h
  | s :: r, p, vs, h => by
    simp only [PlsAt] at h ⊢
    obtain ⟨v, w, e, h1, h2⟩ := h
    exact ⟨v, w, e, PlAt.sub k s p v h1, PlsAt.sub k r _ w h2⟩
end
theorem PlAt.any {H : Hp} {s : Sm} {p : Int} {v : V} (h : PlAt H s p v) : ∃ u sv l, v = .ref u ∧ H u = some (.tup [.int p, sv, .ref l]) ∧ Tr H s.d sv := by
  cases s with
  | ite t y n => simp only [PlAt] at h; obtain ⟨u, sv, l, l1, l2, w1, w2, e, h1, h2, _⟩ := h; exact ⟨u, sv, l, e, h1, h2⟩
  | rep k b => simp only [PlAt] at h; obtain ⟨u, sv, l, l1, w1, e, h1, h2, _⟩ := h; exact ⟨u, sv, l, e, h1, h2⟩
  | set x e => simp only [PlAt] at h; exact h
  | half x e => simp only [PlAt] at h; exact h
  | tell e => simp only [PlAt] at h; exact h
  | say w => simp only [PlAt] at h; exact h
  | stop w => simp only [PlAt] at h; exact h
theorem PlsAt.app {H : Hp} : ∀ {b c : List Sm} {p : Int} {vs ws : List V}, PlsAt H b p vs → PlsAt H c (p + (Sm.pls b : Int)) ws → PlsAt H (b ++ c) p (vs ++ ws)
  | [], c, p, vs, ws, h, g => by
    simp only [PlsAt] at h
    subst h
    simp only [Sm.pls] at g
    rw [show p + ((0 : Nat) : Int) = p by omega] at g
    exact g
  | s :: r, c, p, vs, ws, h, g => by
    simp only [PlsAt] at h
    obtain ⟨v, w, rfl, h1, h2⟩ := h
    simp only [List.cons_append, PlsAt]
    refine ⟨v, w ++ ws, rfl, h1, PlsAt.app h2 ?_⟩
    simp only [Sm.pls] at g
    rw [show p + (s.pl : Int) + (Sm.pls r : Int) = p + ((s.pl + Sm.pls r : Nat) : Int) by omega]
    exact g
/-- what is still to do -/
def TdAt (H : Hp) : List (Int × Sm) → List V → Prop
  | [], vs => vs = []
  | x :: r, vs => ∃ v w, vs = v :: w ∧ PlAt H x.2 x.1 v ∧ TdAt H r w
theorem TdAt.pcs {H : Hp} : ∀ {b : List Sm} {p : Int} {vs : List V}, PlsAt H b p vs → TdAt H (pcs b p) vs
  | [], p, vs, h => by simp only [PlsAt] at h; exact h
  | s :: r, p, vs, h => by
    simp only [PlsAt] at h
    obtain ⟨v, w, e, h1, h2⟩ := h
    exact ⟨v, w, e, h1, TdAt.pcs h2⟩
theorem TdAt.app {H : Hp} : ∀ {a b : List (Int × Sm)} {vs ws : List V}, TdAt H a vs → TdAt H b ws → TdAt H (a ++ b) (vs ++ ws)
  | [], b, vs, ws, h, g => by cases (show vs = [] from h); exact g
  | x :: r, b, vs, ws, h, g => by
    obtain ⟨v, w, rfl, h1, h2⟩ := h
    exact ⟨v, w ++ ws, rfl, h1, TdAt.app h2 g⟩
theorem TdAt.rep {H : Hp} {a : List (Int × Sm)} {vs : List V} (h : TdAt H a vs) : ∀ k : Nat, TdAt H (repT a k) (List.replicate k vs).flatten
  | 0 => rfl
  | k + 1 => by
    rw [List.replicate_succ, List.flatten_cons]
    exact TdAt.app h (TdAt.rep h k)
theorem TdAt.length {H : Hp} : ∀ {a : List (Int × Sm)} {vs : List V}, TdAt H a vs → vs.length = a.length
  | [], vs, h => by cases (show vs = [] from h); rfl
  | x :: r, vs, h => by
    obtain ⟨v, w, rfl, h1, h2⟩ := h
    rw [List.length_cons, List.length_cons, TdAt.length h2]
theorem TdAt.sub {H H' : Hp} (k : Sub H H') : ∀ {a : List (Int × Sm)} {vs : List V}, TdAt H a vs → TdAt H' a vs
  | [], vs, h => h
  | x :: r, vs, h => by
    obtain ⟨v, w, rfl, h1, h2⟩ := h
    exact ⟨v, w, rfl, PlAt.sub k _ _ _ h1, TdAt.sub k h2⟩
/-! ### the object of a path -/
def prD (x : Int × Int) : PyData := .tuple [.int x.1, .int x.2]
def teD : Str ⊕ (Int × Int) → PyData
  | .inl w => .str w
  | .inr x => prD x
def oV : Option Int → V
  | none => .non
  | some i => .int i
def pieceV (P : PS) : List V := [.int P.rest, .int P.by_, oV P.low, oV P.high]
structure Pad where
  x : Addr
  dx : Addr
  nd : Addr
  tl : Addr
def Pad.own (a : Pad) : List Addr := [a.x, a.nd, a.tl]
def pfs (P : PS) (a : Pad) (tv sv : V) : List (Str × V) := [("rest", .int P.rest), ("by", .int P.by_), ("low", oV P.low), ("high", oV P.high), ("names", .ref a.nd), ("todo", .ref a.tl), ("turns", tv), ("telling", sv), ("word", wV P.word)]
structure NmAt (H : Hp) (kvs : List (Key × V)) (nm : Str → Int × Int) : Prop where
  key : ∀ kv ∈ kvs, ∃ x, kv.1 = Sum.inr x
  val : ∀ y v, valV kvs (Sum.inr y) = some v → Tr H (prD (nm y)) v
  non : ∀ y, valV kvs (Sum.inr y) = none → nm y = (0, 0)
theorem NmAt.kp {S : List Addr} {H H' : Hp} {kvs : List (Key × V)} {nm : Str → Int × Int} (k : Kp S H H') (h : NmAt H kvs nm) : NmAt H' kvs nm := ⟨h.key, fun y v e => k.tr (h.val y v e), h.non⟩
theorem putK_key {kvs : List (Key × V)} {k : Key} {v : V} {x : Key × V} (h : x ∈ putK kvs k v) : (∃ y ∈ kvs, x.1 = y.1) ∨ x.1 = k := by
  unfold putK at h
  split at h
  · obtain ⟨y, hy, rfl⟩ := List.mem_map.mp h
    refine .inl ⟨y, hy, ?_⟩
    split <;> rfl
  · rcases List.mem_append.mp h with z | z
    · exact .inl ⟨x, z, rfl⟩
    · cases List.mem_singleton.mp z
      exact .inr rfl
theorem NmAt.put {H : Hp} {kvs : List (Key × V)} {nm : Str → Int × Int} (h : NmAt H kvs nm) {x : Str} {p : Int × Int} {v : V} (t : Tr H (prD p) v) : NmAt H (putK kvs (Sum.inr x) v) (setN nm x p) := by
  refine ⟨fun kv hk => ?_, fun y u e => ?_, fun y e => ?_⟩
  · rcases putK_key hk with z | z
    · obtain ⟨y, hy, e⟩ := z
      rw [e]
      exact h.key y hy
    · exact ⟨x, z⟩
  · rw [valV_put] at e
    unfold setN
    by_cases z : y = x
    · subst z
      rw [if_pos rfl] at e
      cases e
      rw [if_pos rfl]
      exact t
    · rw [if_neg (fun q => z (Sum.inr.inj q))] at e
      rw [if_neg z]
      exact h.val y u e
  · rw [valV_put] at e
    unfold setN
    by_cases z : y = x
    · subst z
      rw [if_pos rfl] at e
      cases e
    · rw [if_neg (fun q => z (Sum.inr.inj q))] at e
      rw [if_neg z]
      exact h.non y e
structure PathAt (K : PySem.W.Frag) (C : Addr) (H0 H : Hp) (a : Pad) (P : PS) (n : Nat) : Prop where
  ob : ∃ ta ts xs, H a.x = some (.ins C a.dx (pfs P a (.ref ta) (.ref ts))) ∧ TK K H ta (P.turns.map V.int) ∧ H ts = some (.tup xs) ∧ TrAll H (P.tell.map teD) xs
  nm : ∃ kvs, H a.nd = some (.dK kvs) ∧ NmAt H kvs P.names ∧ kvs.length ≤ n
  td : ∃ vs, H a.tl = some (.lst vs.reverse) ∧ TdAt H0 P.todo vs
  fr : ∀ b ∈ a.own, H0 b = none
theorem PathAt.kp {K : PySem.W.Frag} {C : Addr} {S : List Addr} {H0 H H' : Hp} {a : Pad} {P : PS} {n : Nat} (h : PathAt K C H0 H a P n) (k : Kp S H H') (d : ∀ b ∈ a.own, b ∉ S) : PathAt K C H0 H' a P n := by
  obtain ⟨ta, ts, xs, h1, h2, h3, h4⟩ := h.ob
  obtain ⟨kvs, g1, g2, g3⟩ := h.nm
  obtain ⟨vs, j1, j2⟩ := h.td
  exact ⟨⟨ta, ts, xs, k.keep _ _ h1 (d _ (by simp [Pad.own])), h2.kp k, k.tup _ _ h3, k.trAll h4⟩, ⟨kvs, k.keep _ _ g1 (d _ (by simp [Pad.own])), g2.kp k, g3⟩, ⟨vs, k.keep _ _ j1 (d _ (by simp [Pad.own])), j2⟩, h.fr⟩
theorem PathAt.kp0 {K : PySem.W.Frag} {C : Addr} {H0 H H' : Hp} {a : Pad} {P : PS} {n : Nat} (h : PathAt K C H0 H a P n) (k : Kp [] H H') : PathAt K C H0 H' a P n := h.kp k (fun _ _ z => nomatch z)
theorem PathAt.some {K : PySem.W.Frag} {C : Addr} {H0 H : Hp} {a : Pad} {P : PS} {n : Nat} (h : PathAt K C H0 H a P n) : ∀ b ∈ a.own, ∃ o, H b = some o := by
  obtain ⟨ta, ts, xs, h1, _⟩ := h.ob
  obtain ⟨kvs, g1, _⟩ := h.nm
  obtain ⟨vs, j1, _⟩ := h.td
  intro b hb
  simp only [Pad.own, List.mem_cons, List.not_mem_nil, or_false] at hb
  rcases hb with rfl | rfl | rfl
  · exact ⟨_, h1⟩
  · exact ⟨_, g1⟩
  · exact ⟨_, j1⟩
end EH
namespace EH
open PySem L2
/-! ### the new part of a heap, and its tuples -/
def nw (H H' : Hp) : Hp := fun b => match H' b with
  | some (.tup xs) => some (.tup xs)
  | o => if (H b).isNone then o else none
theorem nw_tup {H H' : Hp} {b : Addr} {xs : List V} (h : H' b = some (.tup xs)) : nw H H' b = some (.tup xs) := by
  unfold nw
  rw [h]
theorem nw_new {H H' : Hp} {b : Addr} (h : H b = none) : nw H H' b = H' b := by
  unfold nw
  rw [h]
  split
  · rename_i e; exact e.symm
  · rfl
theorem nw_cases {H H' : Hp} {b : Addr} {o : HO} (h : nw H H' b = some o) : H' b = some o ∧ ((∃ xs, o = .tup xs) ∨ H b = none) := by
  unfold nw at h
  split at h
  · rename_i xs e
    cases h
    exact ⟨e, .inl ⟨xs, rfl⟩⟩
  · cases e : H b with
    | none => rw [e] at h; exact ⟨h, .inr rfl⟩
    | some z => rw [e] at h; cases h
theorem nw_sub {H H' : Hp} : Sub (nw H H') H' := fun b o e => (nw_cases e).1
theorem nw_mono {S : List Addr} {H H1 H2 H3 : Hp} (hd : ∀ b, H1 b = none → H b = none) (k : Kp S H2 H3) (hS : ∀ b ∈ S, H1 b ≠ none) : Sub (nw H1 H2) (nw H H3) := by
  intro b o e
  obtain ⟨h1, h2⟩ := nw_cases e
  rcases h2 with ⟨xs, rfl⟩ | h2
  · exact nw_tup (k.tup _ _ h1)
  · rw [nw_new (hd b h2)]
    exact k.keep _ _ h1 fun z => hS b z h2
theorem Tr.nw {H H' : Hp} {d : PyData} {v : V} (h : Tr H' d v) : Tr (nw H H') d v := Tr.mono (fun b xs e => nw_tup e) d v h
theorem Kp.dom {H H' : Hp} (k : Kp [] H H') : ∀ b, H' b = none → H b = none := fun b h => k.free h (by simp)
theorem Kp.dom1 {H H' : Hp} {f : Addr} {o : HO} (k : Kp [f] H H') (hf : H' f = some o) : ∀ b, H' b = none → H b = none := fun b h => k.free h (by
  intro z
  cases List.mem_singleton.mp z
  rw [hf] at h
  cases h)
def spPlaced (m : Nat) : Sp := fun vs H Q _ => ∃ (v : V) (b : List Sm) (p : Int), vs = [v, .int p] ∧ Tr H (.tuple (Sm.ds b)) v ∧ Sm.pls b ≤ 1000 ∧ Sm.nests b ≤ m ∧
  ∀ (u l : Addr) (ws : List V) (H' : Hp), H' u = some (.tup [.ref l, .int (p + (Sm.pls b : Int))]) → H l = none → H' l = some (.lst ws) → PlsAt (nw H H') b p ws → Kp [] H H' → Q (.ref u) H'
/-! ### values -/
def spVal (n : Nat) : Sp := fun vs H Q _ => ∃ (v : V) (nd : Addr) (e : Ex) (kvs : List (Key × V)) (nm : Str → Int × Int), vs = [v, .ref nd] ∧ Tr H e.d v ∧ H nd = some (.dK kvs) ∧ NmAt H kvs nm ∧ e.ok ∧ e.deep ≤ n ∧
  ∀ (t : V) (H' : Hp), Tr H' (prD (e.pe nm)) t → Kp [] H H' → Q t H'
def spLed : Sp := fun vs H Q _ => ∃ (t : V) (x : Int × Int) (r : Int), vs = [t, .int r] ∧ Tr H (prD x) t ∧ (r = 0 ∨ r = 1) ∧ ∀ (t' : V) (H' : Hp), Tr H' (prD (led x r)) t' → Kp [] H H' → Q t' H'
def spUpHalf : Sp := fun vs H Q _ => ∃ n : Int, vs = [.int n] ∧ Q (.int (0 - (0 - n) / 2)) H
/-! ### paths -/
def spPInit (K : PySem.W.Frag) (C : Addr) : Sp := fun vs H Q _ => ∃ (x dx pc : Addr) (r b lo hi nd tl ta ts : V), vs = [.ref x, .ref pc, nd, tl, ta, ts] ∧ H x = some (.ins C dx []) ∧ TK K H pc [r, b, lo, hi] ∧
  ∀ H', H' x = some (.ins C dx [("rest", r), ("by", b), ("low", lo), ("high", hi), ("names", nd), ("todo", tl), ("turns", ta), ("telling", ts), ("word", .non)]) → Kp [x] H H' → Q .non H'
/-- a path that is gone through -/
structure PIn (K : PySem.W.Frag) (C : Addr) (H0 H : Hp) (a : Pad) (P : PS) (n : Nat) : Prop where
  pa : PathAt K C H0 H a P n
  sub : Sub H0 H
  wd : P.word = none
  n1 : n ≤ 1000
theorem PIn.kp0 {K : PySem.W.Frag} {C : Addr} {H0 H H' : Hp} {a : Pad} {P : PS} {n : Nat} (p : PIn K C H0 H a P n) (k : Kp [] H H') : PIn K C H0 H' a P n := ⟨p.pa.kp0 k, p.sub.kp k (fun _ z => nomatch z), p.wd, p.n1⟩
def spCopied (K : PySem.W.Frag) (C : Addr) : Sp := fun vs H Q _ => ∃ (a : Pad) (P : PS) (H0 : Hp) (n : Nat), vs = [.ref a.x] ∧ PIn K C H0 H a P n ∧
  ∀ (a' : Pad) (H' : Hp), PathAt K C H0 H' a' P n → (∀ b ∈ a'.own, H b = none) → Kp [] H H' → (∀ kvs, H a.nd = some (.dK kvs) → H' a'.nd = some (.dK kvs)) → Q (.ref a'.x) H'
def PthsAt (K : PySem.W.Frag) (C : Addr) (H0 H : Hp) (n : Nat) : List Pad → List PS → Prop
  | [], Ps => Ps = []
  | a :: as, Ps => ∃ P Qs, Ps = P :: Qs ∧ PathAt K C H0 H a P n ∧ (∀ a' ∈ as, ∀ b ∈ a.own, b ∉ a'.own) ∧ PthsAt K C H0 H n as Qs
def refsP (as : List Pad) : List V := as.map fun a => V.ref a.x
structure Res (K : PySem.W.Frag) (C : Addr) (H0 H H' : Hp) (own : List Addr) (n : Nat) (Qs : List PS) (l : Addr) : Prop where
  ex : ∃ as : List Pad, H' l = some (.lst (refsP as)) ∧ PthsAt K C H0 H' n as Qs ∧ (∀ a ∈ as, ∀ b ∈ a.own, b ∈ own ∨ H b = none) ∧ ∀ a ∈ as, l ∉ a.own
  new : H l = none
  kp : Kp own H H'
theorem PthsAt.kp {K : PySem.W.Frag} {C : Addr} {S : List Addr} {H0 H H' : Hp} {n : Nat} (k : Kp S H H') : ∀ {as : List Pad} {Ps : List PS}, PthsAt K C H0 H n as Ps → (∀ a ∈ as, ∀ b ∈ a.own, b ∉ S) → PthsAt K C H0 H' n as Ps
  | [], Ps, h, d => h
  | a :: as, Ps, h, d => by
    obtain ⟨P, Qs, e, h1, h2, h3⟩ := h
    exact ⟨P, Qs, e, h1.kp k (d a List.mem_cons_self), h2, PthsAt.kp k h3 fun a' ha => d a' (List.mem_cons_of_mem _ ha)⟩
theorem PthsAt.length {K : PySem.W.Frag} {C : Addr} {H0 H : Hp} {n : Nat} : ∀ {as : List Pad} {Ps : List PS}, PthsAt K C H0 H n as Ps → as.length = Ps.length
  | [], Ps, h => by cases (show Ps = [] from h); rfl
  | a :: as, Ps, h => by
    obtain ⟨P, Qs, rfl, h1, h2, h3⟩ := h
    rw [List.length_cons, List.length_cons, PthsAt.length h3]
theorem PthsAt.app {K : PySem.W.Frag} {C : Addr} {H0 H : Hp} {n : Nat} : ∀ {as bs : List Pad} {Ps Qs : List PS}, PthsAt K C H0 H n as Ps → PthsAt K C H0 H n bs Qs → (∀ a ∈ as, ∀ a' ∈ bs, ∀ b ∈ a.own, b ∉ a'.own) → PthsAt K C H0 H n (as ++ bs) (Ps ++ Qs)
  | [], bs, Ps, Qs, h, g, d => by cases (show Ps = [] from h); exact g
  | a :: as, bs, Ps, Qs, h, g, d => by
    obtain ⟨P, Rs, rfl, h1, h2, h3⟩ := h
    refine ⟨P, Rs ++ Qs, rfl, h1, fun a' ha => ?_, PthsAt.app h3 g fun a' ha => d a' (List.mem_cons_of_mem _ ha)⟩
    rcases List.mem_append.mp ha with z | z
    · exact h2 a' z
    · exact d a List.mem_cons_self a' z
theorem PthsAt.split {K : PySem.W.Frag} {C : Addr} {H0 H : Hp} {n : Nat} : ∀ {as bs : List Pad} {Ps Qs : List PS}, PthsAt K C H0 H n (as ++ bs) (Ps ++ Qs) → as.length = Ps.length → PthsAt K C H0 H n as Ps ∧ PthsAt K C H0 H n bs Qs ∧ (∀ a ∈ as, ∀ a' ∈ bs, ∀ b ∈ a.own, b ∉ a'.own)
  | [], bs, Ps, Qs, h, l => by
    cases Ps with
    | nil => exact ⟨rfl, h, fun a ha => nomatch ha⟩
    | cons x r => cases l
  | a :: as, bs, Ps, Qs, h, l => by
    cases Ps with
    | nil => cases l
    | cons x r =>
      obtain ⟨P, Rs, e, h1, h2, h3⟩ := h
      cases e
      obtain ⟨g1, g2, g3⟩ := PthsAt.split h3 (by simpa using l)
      refine ⟨⟨x, r, rfl, h1, fun a' ha => h2 a' (List.mem_append_left _ ha), g1⟩, g2, fun a1 ha1 a' ha' => ?_⟩
      rcases List.mem_cons.mp ha1 with rfl | z
      · exact h2 a' (List.mem_append_right _ ha')
      · exact g3 a1 z a' ha'
theorem PthsAt.mono {K : PySem.W.Frag} {C : Addr} {H0 H : Hp} {n m : Nat} (hn : n ≤ m) : ∀ {as : List Pad} {Ps : List PS}, PthsAt K C H0 H n as Ps → PthsAt K C H0 H m as Ps
  | [], Ps, h => h
  | a :: as, Ps, h => by
    obtain ⟨P, Qs, e, h1, h2, h3⟩ := h
    obtain ⟨kvs, g1, g2, g3⟩ := h1.nm
    exact ⟨P, Qs, e, ⟨h1.ob, ⟨kvs, g1, g2, by omega⟩, h1.td, h1.fr⟩, h2, PthsAt.mono hn h3⟩
theorem PthsAt.some {K : PySem.W.Frag} {C : Addr} {H0 H : Hp} {n : Nat} : ∀ {as : List Pad} {Ps : List PS}, PthsAt K C H0 H n as Ps → ∀ a ∈ as, ∀ b ∈ a.own, ∃ o, H b = some o
  | [], Ps, h, a, ha => nomatch ha
  | a' :: as, Ps, h, a, ha => by
    obtain ⟨P, Qs, e, h1, h2, h3⟩ := h
    rcases List.mem_cons.mp ha with rfl | z
    · exact h1.some
    · exact PthsAt.some h3 a z
theorem PthsAt.one {K : PySem.W.Frag} {C : Addr} {H0 H : Hp} {n : Nat} {a : Pad} {P : PS} (h : PathAt K C H0 H a P n) : PthsAt K C H0 H n [a] [P] := ⟨P, [], rfl, h, fun _ z => (nomatch z), rfl⟩
def spBetween (K : PySem.W.Frag) (C : Addr) : Sp := fun vs H Q _ => ∃ (a : Pad) (P : PS) (H0 : Hp) (n : Nat) (lo hi : Option Int), vs = [.ref a.x, oV lo, oV hi] ∧ PIn K C H0 H a P n ∧ ∀ (l : Addr) (H' : Hp), Res K C H0 H H' [] n (P.btw lo hi).keep l → Q (.ref l) H'
def spRest (K : PySem.W.Frag) (C : Addr) : Sp := fun vs H Q _ => ∃ (a : Pad) (P : PS) (H0 : Hp) (n : Nat) (r : Int), vs = [.ref a.x, .int r] ∧ PIn K C H0 H a P n ∧ (r = 0 ∨ r = 1) ∧ P.tell.length ≤ 1000 ∧ ∀ (l : Addr) (H' : Hp), Res K C H0 H H' [] n (P.wr r).keep l → Q (.ref l) H'
def spBoth (K : PySem.W.Frag) (C : Addr) : Sp := fun vs H Q _ => ∃ (a : Pad) (P : PS) (H0 : Hp) (n : Nat), vs = [.ref a.x] ∧ PIn K C H0 H a P n ∧ P.tell.length ≤ 1000 ∧ ∀ (l : Addr) (H' : Hp), Res K C H0 H H' [] n P.both l → Q (.ref l) H'
/-- two lists of paths -/
structure Res2 (K : PySem.W.Frag) (C : Addr) (H0 H H' : Hp) (own : List Addr) (n : Nat) (ab : List PS × List PS) (l1 l2 : Addr) : Prop where
  ex : ∃ as bs : List Pad, H' l1 = some (.lst (refsP as)) ∧ H' l2 = some (.lst (refsP bs)) ∧ as.length = ab.1.length ∧ PthsAt K C H0 H' n (as ++ bs) (ab.1 ++ ab.2) ∧ (∀ a ∈ as ++ bs, ∀ b ∈ a.own, b ∈ own ∨ H b = none) ∧ ∀ a ∈ as ++ bs, l1 ∉ a.own ∧ l2 ∉ a.own
  new1 : H l1 = none
  new2 : H l2 = none
  kp : Kp [] H H'
def spLess (K : PySem.W.Frag) (C : Addr) : Sp := fun vs H Q _ => ∃ (a : Pad) (P : PS) (H0 : Hp) (n : Nat) (t : V) (x : Int × Int), vs = [.ref a.x, t] ∧ Tr H (prD x) t ∧ PIn K C H0 H a P n ∧ x.1.natAbs.log2 < 9000 ∧
  ∀ (u l1 l2 : Addr) (H' : Hp), H' u = some (.tup [.ref l1, .ref l2]) → Res2 K C H0 H H' a.own n (lessParts P x) l1 l2 → Q (.ref u) H'
def spGone (K : PySem.W.Frag) (C : Addr) : Sp := fun vs H Q _ => ∃ (a : Pad) (P : PS) (H0 : Hp) (n : Nat) (l : Addr) (b : List Sm) (q : Int) (ws : List V), vs = [.ref a.x, .ref l] ∧ PathAt K C H0 H a P n ∧ Sub H0 H ∧ P.todo ≠ [] ∧ H0 l = some (.lst ws) ∧ PlsAt H0 b q ws ∧ P.todo.length + ws.length ≤ 1000 ∧
  ∀ H', PathAt K C H0 H' a (P.gone (pcs b q)) n → Kp a.own H H' → Q (.ref a.x) H'
def spHlv (K : PySem.W.Frag) (C : Addr) : Sp := fun vs H Q _ => ∃ (a : Pad) (P : PS) (H0 : Hp) (n : Nat) (x : Str) (t : V) (v : Int × Int) (tt : Addr) (tn : List Int), vs = [.ref a.x, .str x, t, .ref tt] ∧ PathAt K C H0 H a P n ∧ n ≤ 1000 ∧ P.todo ≠ [] ∧ Tr H (prD v) t ∧ TK K H tt (tn.map V.int) ∧ P.turns.length + tn.length ≤ 1000 ∧
  ∀ H', PathAt K C H0 H' a (P.hlv x v tn) (n + 1) → Kp a.own H H' → Q (.ref a.x) H'
/-! ### the walker -/
structure WkAt (C : Addr) (H : Hp) (x dx pd td : Addr) (pk : List (Key × V)) (m : Nat) : Prop where
  ob : H x = some (.ins C dx [("pins", .ref pd), ("rule", .non), ("turned", .ref td)])
  pn : H pd = some (.dK pk)
  tu : ∃ tk, H td = some (.dK tk) ∧ tk.length ≤ m
  ne : pd ≠ td
theorem WkAt.kp {C : Addr} {S : List Addr} {H H' : Hp} {x dx pd td : Addr} {pk : List (Key × V)} {m : Nat} (w : WkAt C H x dx pd td pk m) (k : Kp S H H') (h1 : x ∉ S) (h2 : pd ∉ S) (h3 : td ∉ S) : WkAt C H' x dx pd td pk m := by
  obtain ⟨tk, t1, t2⟩ := w.tu
  exact ⟨k.keep _ _ w.ob h1, k.keep _ _ w.pn h2, ⟨tk, k.keep _ _ t1 h3, t2⟩, w.ne⟩
theorem WkAt.kp0 {C : Addr} {H H' : Hp} {x dx pd td : Addr} {pk : List (Key × V)} {m : Nat} (w : WkAt C H x dx pd td pk m) (k : Kp [] H H') : WkAt C H' x dx pd td pk m := w.kp k (by simp) (by simp) (by simp)
def WaysV (ways : Int → Option Int) : Prop := ∀ p c, ways p = some c → c = 0 ∨ c = 1
/-- a path with its next statement, as a walker meets it -/
structure WIn (K : PySem.W.Frag) (C CW : Addr) (H0 H : Hp) (a : Pad) (P : PS) (n : Nat) (x dx pd td : Addr) (pk : List (Key × V)) (ways : Int → Option Int) (m : Nat) : Prop where
  pi : PIn K C H0 H a P n
  wk : WkAt CW H x dx pd td pk m
  wr : WaysRel pk ways
  w1 : WaysV ways
  off : ∀ b ∈ a.own, b ∉ [x, pd, td]
  m1 : m ≤ 1000000
  gd : ∃ W k, Gd W k P ∧ n = k + 1
  td0 : H0 td = none
def StepQ (K : PySem.W.Frag) (C CW : Addr) (H0 H : Hp) (a : Pad) (n : Nat) (x dx pd td : Addr) (pk : List (Key × V)) (m : Nat) (Qs : List PS) (Q : VK) : Prop :=
  ∀ (l : Addr) (as : List Pad) (H' : Hp), H' l = some (.lst (refsP as)) → PthsAt K C H0 H' (n + 1) as Qs → (∀ a' ∈ as, ∀ b ∈ a'.own, b ∈ a.own ∨ H b = none) → (∀ a' ∈ as, l ∉ a'.own) → H l = none → Kp (td :: a.own) H H' → WkAt CW H' x dx pd td pk (m + 1) → Q (.ref l) H'
theorem WkAt.mono {C : Addr} {H : Hp} {x dx pd td : Addr} {pk : List (Key × V)} {m : Nat} (w : WkAt C H x dx pd td pk m) : WkAt C H x dx pd td pk (m + 1) := by
  obtain ⟨tk, t1, t2⟩ := w.tu
  exact ⟨w.ob, w.pn, ⟨tk, t1, by omega⟩, w.ne⟩
/-- paths that are all new -/
theorem StepQ.news {K : PySem.W.Frag} {C CW : Addr} {H0 H H' : Hp} {a : Pad} {n : Nat} {x dx pd td : Addr} {pk : List (Key × V)} {m : Nat} {Qs : List PS} {Q : VK} {l : Addr} (sq : StepQ K C CW H0 H a n x dx pd td pk m Qs Q) (wk : WkAt CW H x dx pd td pk m) (R : Res K C H0 H H' [] n Qs l) : Q (.ref l) H' := by
  obtain ⟨as, la, pa, fa, na⟩ := R.ex
  exact sq l as H' la (pa.mono (Nat.le_succ n)) (fun a' ha b hb => (fa a' ha b hb).elim (fun z => nomatch z) .inr) na R.new (R.kp.sub (fun _ z => nomatch z)) (wk.kp0 R.kp).mono
/-- the path itself -/
theorem StepQ.one {K : PySem.W.Frag} {C CW : Addr} {H0 H H2 H3 : Hp} {a : Pad} {n : Nat} {x dx pd td : Addr} {pk : List (Key × V)} {m : Nat} {R : PS} {Q : VK} {l : Addr} (sq : StepQ K C CW H0 H a n x dx pd td pk m [R] Q) (wk : WkAt CW H x dx pd td pk m) (off : ∀ b ∈ a.own, b ∉ [x, pd, td])
    (ex : ∀ b ∈ a.own, ∃ o, H b = some o) (k : Kp a.own H H2) (pa : PathAt K C H0 H2 a R (n + 1)) (hl : H2 l = none) (e : H3 = upd H2 l (.lst [.ref a.x])) : Q (.ref l) H3 := by
  have k3 := new_kp hl e
  have nl : l ∉ a.own := fun hb => by
    obtain ⟨o, ho⟩ := pa.some l hb
    rw [hl] at ho
    cases ho
  have o1 : x ∉ a.own := fun z => off x z (by simp)
  have o2 : pd ∉ a.own := fun z => off pd z (by simp)
  have o3 : td ∉ a.own := fun z => off td z (by simp)
  refine sq l [a] H3 (new_at e) (PthsAt.one (pa.kp0 k3)) (fun a' ha b hb => ?_) (fun a' ha => ?_) (k.free hl nl) ((k.step0 k3).sub fun b hb => List.mem_cons_of_mem _ hb) ((wk.kp k o1 o2 o3).kp0 k3).mono
  · cases List.mem_singleton.mp ha
    exact .inl hb
  · cases List.mem_singleton.mp ha
    exact nl
def spWHalf (K : PySem.W.Frag) (C CW : Addr) : Sp := fun vs H Q _ => ∃ (a : Pad) (P : PS) (H0 : Hp) (n : Nat) (x dx pd td : Addr) (pk : List (Key × V)) (ways : Int → Option Int) (m : Nat) (p : Int) (sv : V) (nm : Str) (e : Ex) (r : List (Int × Sm)),
  vs = [.ref x, .ref a.x, .int p, sv] ∧ WIn K C CW H0 H a P n x dx pd td pk ways m ∧ P.todo = (p, .half nm e) :: r ∧ Tr H (Sm.half nm e).d sv ∧ StepQ K C CW H0 H a n x dx pd td pk m (stepS ways P p (.half nm e)) Q
def spChoose (K : PySem.W.Frag) (C CW : Addr) : Sp := fun vs H Q _ => ∃ (a : Pad) (P : PS) (H0 : Hp) (n : Nat) (x dx pd td : Addr) (pk : List (Key × V)) (ways : Int → Option Int) (m : Nat) (p : Int) (tv : V) (il l1 l2 : Addr) (w1 w2 : List V) (t : Ts) (y z : List Sm) (r : List (Int × Sm)),
  vs = [.ref x, .ref a.x, tv, .ref il] ∧ WIn K C CW H0 H a P n x dx pd td pk ways m ∧ P.todo = (p, .ite t y z) :: r ∧ Tr H t.d tv ∧ H0 il = some (.lst [.ref l1, .ref l2]) ∧ H0 l1 = some (.lst w1) ∧ H0 l2 = some (.lst w2) ∧ PlsAt H0 y (p + 1) w1 ∧ PlsAt H0 z (p + 1 + (Sm.pls y : Int)) w2 ∧
  StepQ K C CW H0 H a n x dx pd td pk m (stepS ways P p (.ite t y z)) Q
def spStep (K : PySem.W.Frag) (C CW : Addr) : Sp := fun vs H Q _ => ∃ (a : Pad) (P : PS) (H0 : Hp) (n : Nat) (x dx pd td : Addr) (pk : List (Key × V)) (ways : Int → Option Int) (m : Nat) (p : Int) (s : Sm) (r : List (Int × Sm)),
  vs = [.ref x, .ref a.x] ∧ WIn K C CW H0 H a P n x dx pd td pk ways m ∧ P.todo = (p, s) :: r ∧ StepQ K C CW H0 H a n x dx pd td pk m (stepS ways P p s) Q
/-- d[i] = e, i an int -/
def sDPutI {K : PySem.W.Frag} (td ty tv : TE) : TS := fun D σ H => tv σ H fun v H1 => td σ H1 fun o H2 => ty σ H2 fun y H3 => ∃ a kvs i, o = .ref a ∧ y = .int i ∧ H3 a = some (.dK kvs) ∧ kvs.length < sizeLine ∧ ∀ H4, H4 = upd H3 a (.dK (putK kvs (Sum.inl i) v)) → D.nx σ H4
theorem ps_dputI {X : Cx} {pos : Pos} {K : PySem.W.Frag} {o i value : Expr} {td ty tv : TE} {pos' : Pos} (hu : X.A.units + 1 < cLine) (ho : PE X o td) (hi : PE X i ty) (hv : PE X value tv) (hs : swapsWith value (some (.Subscript o i pos')) pos.line X.env = pure false := by rfl) : L2.PS X (.Assign [.Subscript o i pos'] value pos) (sDPutI (K := K) td ty tv) := by
  constructor
  intro pins s σ H D I h
  refine wpAny_Assign_Subscript (thn (hv.run pins s σ H _ I h) fun r s1 h1 => ?_) hs
  obtain ⟨v, H1, I1, rv, q1⟩ := h1
  refine thn (ho.run pins s1 σ H1 _ I1 q1) fun u s2 h2 => ?_
  obtain ⟨x, H2, I2, rx, q2⟩ := h2
  refine thn (hi.run pins s2 σ H2 _ I2 q2) fun iv s3 h3 => ?_
  obtain ⟨y, H3, I3, ry, a, kvs, z, ex, ey, hd, hz, q3⟩ := h3
  subst ex
  subst ey
  cases (show u = Value.ref a from rx)
  exact d_setItem hu I3 (DPut.k (k := Sum.inl z) hd hz) ry rv fun s4 I4 => ⟨σ, _, I4, q3 _ rfl⟩
end EH
namespace EH
open PySem L2
/-! ### the paths that are left -/
def LfAt (W : Nat) (K : PySem.W.Frag) (C : Addr) (H0 H : Hp) : List Pad → List PS → Prop
  | [], Ps => Ps = []
  | a :: as, Ps => ∃ P Qs, Ps = P :: Qs ∧ (∃ k, Gd W k P ∧ PathAt K C H0 H a P (k + 1)) ∧ (∀ a' ∈ as, ∀ b ∈ a.own, b ∉ a'.own) ∧ LfAt W K C H0 H as Qs
section
variable {W : Nat} {K : PySem.W.Frag} {C : Addr} {S : List Addr} {H0 H H' : Hp}
theorem LfAt.kp (k : Kp S H H') : ∀ {as : List Pad} {Ps : List PS}, LfAt W K C H0 H as Ps → (∀ a ∈ as, ∀ b ∈ a.own, b ∉ S) → LfAt W K C H0 H' as Ps
  | [], Ps, h, d => h
  | a :: as, Ps, h, d => by
    obtain ⟨P, Qs, e, ⟨j, g, h1⟩, h2, h3⟩ := h
    exact ⟨P, Qs, e, ⟨j, g, h1.kp k (d a List.mem_cons_self)⟩, h2, LfAt.kp k h3 fun a' ha => d a' (List.mem_cons_of_mem _ ha)⟩
theorem LfAt.kp0 (k : Kp [] H H') {as : List Pad} {Ps : List PS} (h : LfAt W K C H0 H as Ps) : LfAt W K C H0 H' as Ps := h.kp k fun _ _ _ _ z => nomatch z
theorem LfAt.length : ∀ {as : List Pad} {Ps : List PS}, LfAt W K C H0 H as Ps → as.length = Ps.length
  | [], Ps, h => by cases (show Ps = [] from h); rfl
  | a :: as, Ps, h => by
    obtain ⟨P, Qs, rfl, h1, h2, h3⟩ := h
    rw [List.length_cons, List.length_cons, LfAt.length h3]
theorem LfAt.app : ∀ {as bs : List Pad} {Ps Qs : List PS}, LfAt W K C H0 H as Ps → LfAt W K C H0 H bs Qs → (∀ a ∈ as, ∀ a' ∈ bs, ∀ b ∈ a.own, b ∉ a'.own) → LfAt W K C H0 H (as ++ bs) (Ps ++ Qs)
  | [], bs, Ps, Qs, h, g, d => by cases (show Ps = [] from h); exact g
  | a :: as, bs, Ps, Qs, h, g, d => by
    obtain ⟨P, Rs, rfl, h1, h2, h3⟩ := h
    refine ⟨P, Rs ++ Qs, rfl, h1, fun a' ha => ?_, LfAt.app h3 g fun a' ha => d a' (List.mem_cons_of_mem _ ha)⟩
    rcases List.mem_append.mp ha with z | z
    · exact h2 a' z
    · exact d a List.mem_cons_self a' z
theorem LfAt.split : ∀ {as bs : List Pad} {Ps Qs : List PS}, LfAt W K C H0 H (as ++ bs) (Ps ++ Qs) → as.length = Ps.length → LfAt W K C H0 H as Ps ∧ LfAt W K C H0 H bs Qs ∧ (∀ a ∈ as, ∀ a' ∈ bs, ∀ b ∈ a.own, b ∉ a'.own)
  | [], bs, Ps, Qs, h, l => by
    cases Ps with
    | nil => exact ⟨rfl, h, fun a ha => nomatch ha⟩
    | cons x r => cases l
  | a :: as, bs, Ps, Qs, h, l => by
    cases Ps with
    | nil => cases l
    | cons x r =>
      obtain ⟨P, Rs, e, h1, h2, h3⟩ := h
      cases e
      obtain ⟨g1, g2, g3⟩ := LfAt.split h3 (by simpa using l)
      refine ⟨⟨x, r, rfl, h1, fun a' ha => h2 a' (List.mem_append_left _ ha), g1⟩, g2, fun a1 ha1 a' ha' => ?_⟩
      rcases List.mem_cons.mp ha1 with rfl | z
      · exact h2 a' (List.mem_append_right _ ha')
      · exact g3 a1 z a' ha'
theorem LfAt.some : ∀ {as : List Pad} {Ps : List PS}, LfAt W K C H0 H as Ps → ∀ a ∈ as, ∀ b ∈ a.own, ∃ o, H b = some o
  | [], Ps, h, a, ha => nomatch ha
  | a' :: as, Ps, h, a, ha => by
    obtain ⟨P, Qs, e, ⟨j, g, h1⟩, h2, h3⟩ := h
    rcases List.mem_cons.mp ha with rfl | z
    · exact h1.some
    · exact LfAt.some h3 a z
theorem LfAt.of {k : Nat} : ∀ {as : List Pad} {Ps : List PS}, PthsAt K C H0 H (k + 1) as Ps → (∀ P ∈ Ps, Gd W k P) → LfAt W K C H0 H as Ps
  | [], Ps, h, g => h
  | a :: as, Ps, h, g => by
    obtain ⟨P, Qs, rfl, h1, h2, h3⟩ := h
    exact ⟨P, Qs, rfl, ⟨k, g P List.mem_cons_self, h1⟩, h2, LfAt.of h3 fun R hR => g R (List.mem_cons_of_mem _ hR)⟩
end
def spWkInit (C : Addr) : Sp := fun vs H Q _ => ∃ (x dx pd : Addr) (r : V), vs = [.ref x, .ref pd, r] ∧ H x = some (.ins C dx []) ∧
  ∀ (td : Addr) (H' : Hp), H td = none → H' x = some (.ins C dx [("pins", .ref pd), ("rule", r), ("turned", .ref td)]) → H' td = some (.dK []) → Kp [x] H H' → Q .non H'
/-- the way of the loop: from the paths left and the paths found to the paths at its end -/
inductive Its (ways : Int → Option Int) : List PS → List PS → List PS → Prop where
  | done {Fs : List PS} : Its ways [] Fs Fs
  | found {Ps Fs O : List PS} {P : PS} : P.todo = [] → Its ways Ps (Fs ++ [P]) O → Its ways (Ps ++ [P]) Fs O
  | step {Ps Fs O : List PS} {P : PS} {p : Int} {st : Sm} {r : List (Int × Sm)} : P.todo = (p, st) :: r → Its ways (Ps ++ stepS ways P p st) Fs O → Its ways (Ps ++ [P]) Fs O
theorem Its.inv {ways : Int → Option Int} {X Fs O : List PS} (h : Its ways X Fs O) : (X = [] ∧ O = Fs) ∨ (∃ Ps P, X = Ps ++ [P] ∧ P.todo = [] ∧ Its ways Ps (Fs ++ [P]) O) ∨ ∃ Ps P p st r, X = Ps ++ [P] ∧ P.todo = (p, st) :: r ∧ Its ways (Ps ++ stepS ways P p st) Fs O := by
  cases h with
  | done => exact .inl ⟨rfl, rfl⟩
  | found h1 h2 => exact .inr (.inl ⟨_, _, rfl, h1, h2⟩)
  | step h1 h2 => exact .inr (.inr ⟨_, _, _, _, _, rfl, h1, h2⟩)
theorem Its.one {ways : Int → Option Int} {X Fs O O' : List PS} (h : Its ways X Fs O) : Its ways X Fs O' → O = O' := by
  have two : ∀ {A B : List PS} {p q : PS}, A ++ [p] = B ++ [q] → A = B ∧ p = q := fun e => by
    obtain ⟨e1, e2⟩ := List.append_inj' e rfl
    exact ⟨e1, List.singleton_inj.mp e2⟩
  induction h with
  | done =>
    intro g
    rcases g.inv with ⟨_, e⟩ | ⟨Ps, P, e, _⟩ | ⟨Ps, P, p, st, r, e, _⟩
    · exact e.symm
    · simp at e
    · simp at e
  | found h1 h2 ih =>
    intro g
    rcases g.inv with ⟨e, _⟩ | ⟨Qs, Q, e, q1, q2⟩ | ⟨Qs, Q, p, st, r, e, q1, q2⟩
    · simp at e
    · obtain ⟨rfl, rfl⟩ := two e
      exact ih q2
    · obtain ⟨rfl, rfl⟩ := two e
      rw [h1] at q1
      cases q1
  | step h1 h2 ih =>
    intro g
    rcases g.inv with ⟨e, _⟩ | ⟨Qs, Q, e, q1, q2⟩ | ⟨Qs, Q, p, st, r, e, q1, q2⟩
    · simp at e
    · obtain ⟨rfl, rfl⟩ := two e
      rw [h1] at q1
      cases q1
    · obtain ⟨rfl, rfl⟩ := two e
      rw [h1] at q1
      cases q1
      exact ih q2
/-- all paths of a program on a piece -/
structure PathsQ (W : Nat) (K : PySem.W.Frag) (C : Addr) (ways : Int → Option Int) (b : List Sm) (In : Int → Prop) (Z : List PS) (H H' : Hp) (l : Addr) (Ps : List PS) : Prop where
  ex : ∃ (H0 : Hp) (as : List Pad), H' l = some (.lst (refsP as)) ∧ LfAt W K C H0 H' as Ps
  end_ : ∀ P ∈ Ps, P.todo = []
  fam : Fam ways b In Ps
  len : Ps.length ≤ 200000
  new : H l = none
  its : Its ways Z [] Ps
def spPaths (K : PySem.W.Frag) (C CW : Addr) (mm : Nat) : Sp := fun vs H Q _ => ∃ (x dx pd td : Addr) (pk : List (Key × V)) (ways : Int → Option Int) (v : V) (b : List Sm) (pc : Addr) (rest by_ : Int) (low high : Option Int) (e : Nat),
  vs = [.ref x, v, .ref pc] ∧ WkAt CW H x dx pd td pk 0 ∧ WaysRel pk ways ∧ WaysV ways ∧ Tr H (.tuple (Sm.ds b)) v ∧ PrOk b ∧ Sm.nests b ≤ mm ∧ TK K H pc [.int rest, .int by_, oV low, oV high] ∧ 0 < by_ ∧ by_ ≤ 2 ^ 46 ∧ by_ = 2 ^ e ∧ 0 ≤ rest ∧ rest < by_ ∧ oOk (10 ^ 59) low ∧ oOk (10 ^ 59) high ∧
  ∀ (l : Addr) (Ps : List PS) (H' : Hp), PathsQ (e + 4) K C ways b (inPc rest by_ low high) [PS0 rest by_ low high b] H H' l Ps → Kp [td] H H' → Q (.ref l) H'
/-- the loop over the paths that are left -/
structure LoopAt (W : Nat) (K : PySem.W.Frag) (C CW : Addr) (H0 Hs H : Hp) (lf fl : Addr) (as fs : List Pad) (Ps Fs : List PS) (ways : Int → Option Int) (b : List Sm) (In : Int → Prop) (Z : List PS) (x dx pd td : Addr) (pk : List (Key × V)) (m : Nat) : Prop where
  la : H lf = some (.lst (refsP as))
  fa : H fl = some (.lst (refsP fs))
  lfa : LfAt W K C H0 H (as ++ fs) (Ps ++ Fs)
  len : as.length = Ps.length
  fam : Fam ways b In (Ps ++ Fs)
  end_ : ∀ P ∈ Fs, P.todo = []
  cnt : Fs.length + sumM Ps ≤ 200000
  cm : m + sumM Ps ≤ 200000
  wk : WkAt CW H x dx pd td pk m
  n1 : ∀ a ∈ as ++ fs, ∀ b ∈ a.own, b ∉ [lf, fl, x, pd, td] ∧ Hs b = none
  ne : lf ≠ fl
  sub : Sub H0 H
  z0 : H0 lf = none ∧ H0 fl = none ∧ H0 td = none
  kp : Kp [td] Hs H
  nf : Hs lf = none ∧ Hs fl = none
  its : ∀ O, Its ways Ps Fs O → Its ways Z [] O
theorem LoopAt.kp0 {W : Nat} {K : PySem.W.Frag} {C CW : Addr} {H0 Hs H H' : Hp} {lf fl : Addr} {as fs : List Pad} {Ps Fs : List PS} {ways : Int → Option Int} {b : List Sm} {In : Int → Prop} {Z : List PS} {x dx pd td : Addr} {pk : List (Key × V)} {m : Nat}
    (h : LoopAt W K C CW H0 Hs H lf fl as fs Ps Fs ways b In Z x dx pd td pk m) (k : Kp [] H H') : LoopAt W K C CW H0 Hs H' lf fl as fs Ps Fs ways b In Z x dx pd td pk m :=
  ⟨k.at h.la, k.at h.fa, h.lfa.kp0 k, h.len, h.fam, h.end_, h.cnt, h.cm, h.wk.kp0 k, h.n1, h.ne, h.sub.kp k (fun _ z => nomatch z), h.z0, h.kp.step0 k, h.nf, h.its⟩
theorem last_of {α : Type} {l : List α} (h : l ≠ []) : ∃ r x, l = r ++ [x] := ⟨l.dropLast, l.getLast h, (List.dropLast_concat_getLast h).symm⟩
theorem sumM_len : ∀ l : List PS, l.length ≤ sumM l
  | [] => Nat.zero_le _
  | P :: r => by
    have h1 := P.mu_pos
    have h2 := sumM_len r
    have e : sumM (P :: r) = P.mu + sumM r := by unfold sumM; simp
    rw [e, List.length_cons]
    omega
theorem sumM_pos {Ps : List PS} (h : Ps ≠ []) : 1 ≤ sumM Ps := by
  cases Ps with
  | nil => exact absurd rfl h
  | cons P r =>
    have := P.mu_pos
    have e : sumM (P :: r) = P.mu + sumM r := by unfold sumM; simp
    omega
section
variable {W : Nat} {K : PySem.W.Frag} {C CW : Addr} {H0 Hs H H' : Hp} {lf fl : Addr} {as fs : List Pad} {Ps Fs : List PS} {ways : Int → Option Int} {b : List Sm} {In : Int → Prop} {Z : List PS} {x dx pd td : Addr} {pk : List (Key × V)} {m : Nat} {a : Pad} {P : PS}
/-- an ended path goes to the found ones -/
theorem LoopAt.found (h : LoopAt W K C CW H0 Hs H lf fl (as ++ [a]) fs (Ps ++ [P]) Fs ways b In Z x dx pd td pk m) (he : P.todo = []) (k : Kp [lf, fl] H H') (la : H' lf = some (.lst (refsP as))) (fa : H' fl = some (.lst (refsP (fs ++ [a])))) :
    LoopAt W K C CW H0 Hs H' lf fl as (fs ++ [a]) Ps (Fs ++ [P]) ways b In Z x dx pd td pk m := by
  have hl : as.length = Ps.length := by have := h.len; simp at this; exact this
  obtain ⟨g1, g2, g3⟩ := LfAt.split h.lfa h.len
  obtain ⟨f1, f2, f3⟩ := LfAt.split g1 hl
  have off : ∀ a' ∈ as ++ (fs ++ [a]), a' ∈ (as ++ [a]) ++ fs := by
    intro a' ha
    simp only [List.mem_append, List.mem_singleton] at ha ⊢
    rcases ha with z | z | z
    · exact .inl (.inl z)
    · exact .inr z
    · exact .inl (.inr z)
  have lfa : LfAt W K C H0 H (as ++ (fs ++ [a])) (Ps ++ (Fs ++ [P])) := by
    refine LfAt.app f1 (LfAt.app g2 f2 fun a1 h1 a2 h2 c hc hc2 => g3 a2 (List.mem_append_right _ h2) a1 h1 c hc2 hc) fun a1 h1 a2 h2 => ?_
    rcases List.mem_append.mp h2 with z | z
    · exact g3 a1 (List.mem_append_left _ h1) a2 z
    · exact f3 a1 h1 a2 z
  have nn : ∀ c ∈ [x, pd, td], c ∉ [lf, fl] := by
    intro c hc hc2
    obtain ⟨tk, t1, _⟩ := h.wk.tu
    have hw : (∃ y, H c = some (.lst y)) := by
      simp only [List.mem_cons, List.not_mem_nil, or_false] at hc2
      rcases hc2 with rfl | rfl
      · exact ⟨_, h.la⟩
      · exact ⟨_, h.fa⟩
    obtain ⟨y, hy⟩ := hw
    simp only [List.mem_cons, List.not_mem_nil, or_false] at hc
    rcases hc with rfl | rfl | rfl
    · rw [h.wk.ob] at hy; cases hy
    · rw [h.wk.pn] at hy; cases hy
    · rw [t1] at hy; cases hy
  refine ⟨la, fa, lfa.kp k fun a' ha c hc hc2 => ?_, hl, ?_, ?_, ?_, ?_, h.wk.kp k (nn x (by simp)) (nn pd (by simp)) (nn td (by simp)), fun a' ha => h.n1 a' (off a' ha), h.ne, h.sub.kp k ?_, h.z0, h.kp.step k ?_, h.nf, fun O g => h.its O (.found he g)⟩
  · have := (h.n1 a' (off a' ha) c hc).1
    simp only [List.mem_cons, List.not_mem_nil, or_false, not_or] at this hc2
    rcases hc2 with z | z
    · exact this.1 z
    · exact this.2.1 z
  · refine h.fam.perm ?_
    rw [List.append_assoc]
    exact List.Perm.append_left _ List.perm_append_comm
  · intro R hR
    rcases List.mem_append.mp hR with z | z
    · exact h.end_ R z
    · cases List.mem_singleton.mp z
      exact he
  · have := h.cnt
    have := P.mu_pos
    rw [sumM_app, sumM_one] at *
    rw [List.length_append, List.length_singleton]
    omega
  · have := h.cm
    rw [sumM_app, sumM_one] at this
    omega
  · intro c hc
    simp only [List.mem_cons, List.not_mem_nil, or_false] at hc
    rcases hc with rfl | rfl
    · exact h.z0.1
    · exact h.z0.2.1
  · intro c hc
    simp only [List.mem_cons, List.not_mem_nil, or_false] at hc
    rcases hc with rfl | rfl
    · exact .inr h.nf.1
    · exact .inr h.nf.2
/-- a step of the last path -/
theorem LoopAt.stepped {H1 H2 H3 : Hp} {as2 : List Pad} {p : Int} {st : Sm} {r : List (Int × Sm)} {k : Nat} {l : Addr} (h : LoopAt W K C CW H0 Hs H lf fl (as ++ [a]) fs (Ps ++ [P]) Fs ways b In Z x dx pd td pk m) (w1 : WaysV ways) (ht : P.todo = (p, st) :: r) (gd : Gd W k P)
    (k1 : Kp [lf] H H1) (l1 : H1 lf = some (.lst (refsP as))) (pt : PthsAt K C H0 H2 (k + 1 + 1) as2 (stepS ways P p st)) (ow : ∀ a' ∈ as2, ∀ c ∈ a'.own, c ∈ a.own ∨ H1 c = none) (nl : ∀ a' ∈ as2, l ∉ a'.own)
    (k2 : Kp (td :: a.own) H1 H2) (wk : WkAt CW H2 x dx pd td pk (m + 1)) (k3 : Kp [lf] H2 H3) (l3 : H3 lf = some (.lst (refsP (as ++ as2)))) :
    LoopAt W K C CW H0 Hs H3 lf fl (as ++ as2) fs (Ps ++ stepS ways P p st) Fs ways b In Z x dx pd td pk (m + 1) ∧ sumM (Ps ++ stepS ways P p st) < sumM (Ps ++ [P]) := by
  have hmu : sumM (stepS ways P p st) < P.mu := step_mu ht
  have hlt : sumM (Ps ++ stepS ways P p st) < sumM (Ps ++ [P]) := by rw [sumM_app, sumM_app, sumM_one]; omega
  refine ⟨?_, hlt⟩
  have hl : as.length = Ps.length := by have := h.len; simp at this; exact this
  obtain ⟨g1, g2, g3⟩ := LfAt.split h.lfa h.len
  obtain ⟨f1, f2, f3⟩ := LfAt.split g1 hl
  have offA : ∀ a' ∈ (as ++ [a]) ++ fs, ∀ c ∈ a'.own, c ∉ [lf] := fun a' ha c hc => by
    have := (h.n1 a' ha c hc).1
    simp only [List.mem_cons, List.not_mem_nil, or_false, not_or] at this ⊢
    exact this.1
  have offT : ∀ a' ∈ (as ++ [a]) ++ fs, td ∉ a'.own := fun a' ha hc => by
    have := (h.n1 a' ha td hc).1
    simp at this
  have m1 : ∀ a' ∈ as, a' ∈ (as ++ [a]) ++ fs := fun a' ha => List.mem_append_left _ (List.mem_append_left _ ha)
  have m2 : a ∈ (as ++ [a]) ++ fs := by simp
  have m3 : ∀ a' ∈ fs, a' ∈ (as ++ [a]) ++ fs := fun a' ha => List.mem_append_right _ ha
  have disA : ∀ a' ∈ as, ∀ c ∈ a'.own, c ∉ td :: a.own := fun a' ha c hc hc2 => by
    rcases List.mem_cons.mp hc2 with rfl | z
    · exact offT a' (m1 a' ha) hc
    · exact f3 a' ha a (by simp) c hc z
  have disF : ∀ a' ∈ fs, ∀ c ∈ a'.own, c ∉ td :: a.own := fun a' ha c hc hc2 => by
    rcases List.mem_cons.mp hc2 with rfl | z
    · exact offT a' (m3 a' ha) hc
    · exact g3 a (by simp) a' ha c z hc
  have f11 := f1.kp k1 fun a' ha => offA a' (m1 a' ha)
  have g21 := g2.kp k1 fun a' ha => offA a' (m3 a' ha)
  have f12 := f11.kp k2 disA
  have g22 := g21.kp k2 disF
  have p2 : LfAt W K C H0 H2 as2 (stepS ways P p st) := LfAt.of pt (step_good w1 gd ht)
  have lf1 : lf ∉ td :: a.own := by
    intro hc
    rcases List.mem_cons.mp hc with z | z
    · obtain ⟨tk, t1, _⟩ := h.wk.tu
      rw [← z, h.la] at t1
      cases t1
    · exact offA a m2 lf z (by simp)
  have fl1 : fl ∉ td :: a.own := by
    intro hc
    rcases List.mem_cons.mp hc with z | z
    · obtain ⟨tk, t1, _⟩ := h.wk.tu
      rw [← z, h.fa] at t1
      cases t1
    · have := (h.n1 a m2 fl z).1
      simp at this
  have k1f : H1 fl = some (.lst (refsP fs)) := k1.keep _ _ h.fa (ne1 h.ne.symm)
  -- what is new, or the path's own
  have own2 : ∀ a' ∈ as2, ∀ c ∈ a'.own, c ∉ [lf, fl, x, pd, td] ∧ Hs c = none := by
    intro a' ha c hc
    rcases ow a' ha c hc with z | z
    · exact h.n1 a m2 c z
    · have wk1 : WkAt CW H1 x dx pd td pk m := by
        obtain ⟨tk, t1, _⟩ := h.wk.tu
        refine h.wk.kp k1 (ne1 ?_) (ne1 ?_) (ne1 ?_)
        · exact ne_of h.wk.ob h.la (fun z => by cases z)
        · exact ne_of h.wk.pn h.la (fun z => by cases z)
        · exact ne_of t1 h.la (fun z => by cases z)
      obtain ⟨tk, t1, _⟩ := wk1.tu
      refine ⟨?_, ?_⟩
      · simp only [List.mem_cons, List.not_mem_nil, or_false, not_or]
        exact ⟨fun q => (by rw [q, l1] at z; cases z), fun q => (by rw [q, k1f] at z; cases z), fun q => (by rw [q, wk1.ob] at z; cases z), fun q => (by rw [q, wk1.pn] at z; cases z), fun q => (by rw [q, t1] at z; cases z)⟩
      · have z2 : H c = none := k1.free z (ne1 fun q => by rw [q, l1] at z; cases z)
        exact h.kp.free z2 (ne1 fun q => by
          obtain ⟨tk, t1, _⟩ := h.wk.tu
          rw [q, t1] at z2
          cases z2)
  have dis2 : ∀ a1 ∈ as2, ∀ a' ∈ as ++ fs, ∀ c ∈ a1.own, c ∉ a'.own := by
    intro a1 h1 a' ha c hc hc2
    rcases ow a1 h1 c hc with z | z
    · rcases List.mem_append.mp ha with q | q
      · exact disA a' q c hc2 (List.mem_cons_of_mem _ z)
      · exact disF a' q c hc2 (List.mem_cons_of_mem _ z)
    · rcases List.mem_append.mp ha with q | q
      · obtain ⟨o, ho⟩ := f11.some a' q c hc2
        rw [z] at ho; cases ho
      · obtain ⟨o, ho⟩ := g21.some a' q c hc2
        rw [z] at ho; cases ho
  have lfa2 : LfAt W K C H0 H2 ((as ++ as2) ++ fs) ((Ps ++ stepS ways P p st) ++ Fs) := by
    refine LfAt.app (LfAt.app f12 p2 fun a1 h1 a2 h2 c hc hc2 => dis2 a2 h2 a1 (List.mem_append_left _ h1) c hc2 hc) g22 fun a1 h1 a2 h2 c hc hc2 => ?_
    rcases List.mem_append.mp h1 with q | q
    · exact g3 a1 (List.mem_append_left _ q) a2 h2 c hc hc2
    · exact dis2 a1 q a2 (List.mem_append_right _ h2) c hc hc2
  have nAll : ∀ a' ∈ (as ++ as2) ++ fs, ∀ c ∈ a'.own, c ∉ [lf, fl, x, pd, td] ∧ Hs c = none := by
    intro a' ha
    rcases List.mem_append.mp ha with q | q
    · rcases List.mem_append.mp q with q | q
      · exact h.n1 a' (m1 a' q)
      · exact own2 a' q
    · exact h.n1 a' (m3 a' q)
  have lfW : ∀ c ∈ [x, pd, td], c ∉ [lf] := by
    intro c hc hc2
    cases List.mem_singleton.mp hc2
    have hy := k2.keep _ _ l1 lf1
    obtain ⟨tk, t1, _⟩ := wk.tu
    simp only [List.mem_cons, List.not_mem_nil, or_false] at hc
    rcases hc with rfl | rfl | rfl
    · rw [wk.ob] at hy; cases hy
    · rw [wk.pn] at hy; cases hy
    · rw [t1] at hy; cases hy
  have aown0 : ∀ c ∈ a.own, H0 c = none := by
    obtain ⟨P', Qs, e, ⟨j, g, pa⟩, _⟩ := f2
    exact pa.fr
  refine ⟨l3, k3.keep _ _ (k2.keep _ _ k1f fl1) (ne1 h.ne.symm), lfa2.kp k3 fun a' ha c hc => ?_, ?_, ?_, h.end_, ?_, ?_, wk.kp k3 (lfW x (by simp)) (lfW pd (by simp)) (lfW td (by simp)), nAll, h.ne, ?_, h.z0, ?_, h.nf, fun O g => h.its O (.step ht g)⟩
  · have := (nAll a' ha c hc).1
    simp only [List.mem_cons, List.not_mem_nil, or_false, not_or] at this ⊢
    exact this.1
  · rw [List.length_append, List.length_append, hl, pt.length]
  · have e : (P :: (Ps ++ Fs)).Perm ((Ps ++ [P]) ++ Fs) := by
      rw [List.append_assoc]
      exact List.perm_middle.symm
    have f := (h.fam.perm e.symm).step (step_splits gd.by0 (by
      cases q : P.word with
      | none => rfl
      | some c =>
        have := gd.wd (by rw [q]; exact fun z => nomatch z)
        rw [ht] at this
        cases this) ht)
    refine f.perm ?_
    rw [← List.append_assoc]
    exact List.Perm.append_right _ List.perm_append_comm
  · have := h.cnt
    omega
  · have := h.cm
    omega
  · have s1 : Sub H0 H1 := h.sub.kp k1 fun c hc => by cases List.mem_singleton.mp hc; exact h.z0.1
    have s2 : Sub H0 H2 := s1.kp k2 fun c hc => by
      rcases List.mem_cons.mp hc with rfl | z
      · exact h.z0.2.2
      · exact aown0 c z
    exact s2.kp k3 fun c hc => by cases List.mem_singleton.mp hc; exact h.z0.1
  · have q1 : Kp [td] Hs H1 := h.kp.step1 k1 (.inr h.nf.1)
    have q2 : Kp [td] Hs H2 := q1.step k2 fun c hc => by
      rcases List.mem_cons.mp hc with rfl | z
      · exact .inl (by simp)
      · exact .inr (h.n1 a m2 c z).2
    exact q2.step1 k3 (.inr h.nf.1)
end
end EH
namespace EH
open PySem L2
def oD : Option Int → PyData
  | none => .none
  | some i => .int i
def fmD (f : Fm) : PyData := .tuple [.int f.1, .int f.2.1, .int f.2.2]
def itD : Str ⊕ Fm → PyData
  | .inl w => .str w
  | .inr f => fmD f
def pcD (p : Pc) : PyData := .tuple [.int p.rest, .int p.by_, oD p.low, oD p.high]
def rnD (R : Rn) : PyData := .tuple [.tuple (R.turns.map PyData.int), .tuple (R.items.map itD), wD R.word]
def rwD (r : Pc × Rn) : PyData := .tuple [pcD r.1, rnD r.2]
theorem tr_oD {H : Hp} : ∀ o : Option Int, Tr H (oD o) (oV o)
  | none => mk_non
  | some _ => mk_int
/-- a run of a row, a row in the heap -/
def RnAt (K : PySem.W.Frag) (H : Hp) (R : Rn) (v : V) : Prop := ∃ ur ta ti xs, v = .ref ur ∧ H ur = some (.tup [.ref ta, .ref ti, wV R.word]) ∧ TK K H ta (R.turns.map V.int) ∧ H ti = some (.tup xs) ∧ TrAll H (R.items.map itD) xs
def PcAt (K : PySem.W.Frag) (H : Hp) (p : Pc) (v : V) : Prop := ∃ up, v = .ref up ∧ TK K H up [.int p.rest, .int p.by_, oV p.low, oV p.high]
def RwAt (K : PySem.W.Frag) (H : Hp) (r : Pc × Rn) (v : V) : Prop := ∃ u pv rv, v = .ref u ∧ H u = some (.tup [pv, rv]) ∧ PcAt K H r.1 pv ∧ RnAt K H r.2 rv
theorem RnAt.kp {K : PySem.W.Frag} {S : List Addr} {H H' : Hp} (k : Kp S H H') {R : Rn} {v : V} (h : RnAt K H R v) : RnAt K H' R v := by
  obtain ⟨ur, ta, ti, xs, e, h1, h2, h3, h4⟩ := h
  exact ⟨ur, ta, ti, xs, e, k.tup _ _ h1, h2.kp k, k.tup _ _ h3, k.trAll h4⟩
theorem PcAt.kp {K : PySem.W.Frag} {S : List Addr} {H H' : Hp} (k : Kp S H H') {p : Pc} {v : V} (h : PcAt K H p v) : PcAt K H' p v := by
  obtain ⟨up, e, h1⟩ := h
  exact ⟨up, e, h1.kp k⟩
theorem RwAt.kp {K : PySem.W.Frag} {S : List Addr} {H H' : Hp} (k : Kp S H H') {r : Pc × Rn} {v : V} (h : RwAt K H r v) : RwAt K H' r v := by
  obtain ⟨u, pv, rv, e, h1, h2, h3⟩ := h
  exact ⟨u, pv, rv, e, k.tup _ _ h1, h2.kp k, h3.kp k⟩
def RwsAt (K : PySem.W.Frag) (H : Hp) : List (Pc × Rn) → List V → Prop
  | [], vs => vs = []
  | r :: l, vs => ∃ v w, vs = v :: w ∧ RwAt K H r v ∧ RwsAt K H l w
theorem RwsAt.kp {K : PySem.W.Frag} {S : List Addr} {H H' : Hp} (k : Kp S H H') : ∀ {l : List (Pc × Rn)} {vs : List V}, RwsAt K H l vs → RwsAt K H' l vs
  | [], vs, h => h
  | r :: l, vs, h => by
    obtain ⟨v, w, e, h1, h2⟩ := h
    exact ⟨v, w, e, h1.kp k, RwsAt.kp k h2⟩
theorem RwsAt.app {K : PySem.W.Frag} {H : Hp} : ∀ {l m : List (Pc × Rn)} {vs ws : List V}, RwsAt K H l vs → RwsAt K H m ws → RwsAt K H (l ++ m) (vs ++ ws)
  | [], m, vs, ws, h, g => by cases (show vs = [] from h); exact g
  | r :: l, m, vs, ws, h, g => by
    obtain ⟨v, w, rfl, h1, h2⟩ := h
    exact ⟨v, w ++ ws, rfl, h1, RwsAt.app h2 g⟩
theorem RwsAt.length {K : PySem.W.Frag} {H : Hp} : ∀ {l : List (Pc × Rn)} {vs : List V}, RwsAt K H l vs → vs.length = l.length
  | [], vs, h => by cases (show vs = [] from h); rfl
  | r :: l, vs, h => by
    obtain ⟨v, w, rfl, h1, h2⟩ := h
    rw [List.length_cons, List.length_cons, RwsAt.length h2]
def spReduced : Sp := fun vs H Q _ => ∃ (t : V) (a b : Int) (e : Nat), vs = [t] ∧ Tr H (.tuple [.int a, .int b, .int (2 ^ e)]) t ∧ ∀ (t' : V) (H' : Hp), Tr H' (fmD (fmE a b e)) t' → Kp [] H H' → Q t' H'
def spFormOf : Sp := fun vs H Q _ => ∃ (t : V) (x : Int × Int) (rest by_ : Int), vs = [t, .int rest, .int by_] ∧ Tr H (prD x) t ∧ (∃ e : Nat, by_ = 2 ^ e) ∧ by_ ≤ 2 ^ 50 ∧ 0 ≤ rest ∧ rest < by_ ∧ ∀ (t' : V) (H' : Hp), Tr H' (fmD (formOf x rest by_)) t' → Kp [] H H' → Q t' H'
def spTold (K : PySem.W.Frag) (C : Addr) : Sp := fun vs H Q _ => ∃ (a : Pad) (P : PS) (H0 : Hp) (n k W : Nat), vs = [.ref a.x] ∧ PathAt K C H0 H a P n ∧ Gd W k P ∧ ∀ (t : V) (H' : Hp), RwAt K H' (P.pc, P.rn) t → Kp [] H H' → Q t H'
theorem mk_tupK {K : PySem.W.Frag} {H : Hp} {ds : List PyData} {a : Addr} {xs : List V} (h : TK K H a xs) (t : TrKs K H ds xs) : TrK K H (.tuple ds) (.ref a) := by simp only [TrK]; exact ⟨a, xs, rfl, h, t⟩
theorem trK_nil {K : PySem.W.Frag} {H : Hp} : TrKs K H [] [] := by simp only [TrKs]
theorem trK_cons {K : PySem.W.Frag} {H : Hp} {d : PyData} {ds : List PyData} {v : V} {vs : List V} (h : TrK K H d v) (t : TrKs K H ds vs) : TrKs K H (d :: ds) (v :: vs) := by simp only [TrKs]; exact ⟨v, vs, rfl, h, t⟩
end EH
namespace EH
open PySem L2
def Pc.vs (p : Pc) : List V := [.int p.rest, .int p.by_, oV p.low, oV p.high]
/-- a piece as the program makes it -/
structure Pc.ok (p : Pc) : Prop where
  by0 : 0 < p.by_
  byl : p.by_.natAbs.log2 < 9000
  r0 : 0 ≤ p.rest
  r1 : p.rest < p.by_
def Pc.first (p : Pc) (n : Int) : Int := n + (p.rest - n) % p.by_
def Pc.last (p : Pc) (n : Int) : Int := n - (n - p.rest) % p.by_
def Pc.there (p : Pc) : Bool := match p.low, p.high with
  | some l, some h => decide (p.first l ≤ h)
  | _, _ => true
def leO : Option Int → Int → Bool
  | none, _ => true
  | some l, n => decide (l ≤ n)
def geO : Option Int → Int → Bool
  | none, _ => true
  | some h, n => decide (n ≤ h)
def Pc.isAt (p : Pc) (n : Int) : Bool := decide (n % p.by_ = p.rest) && leO p.low n && geO p.high n
def rnk (n : Int) : Int := if n > 0 then 2 * n - 1 else 0 - 2 * n
theorem isAt_has (p : Pc) (n : Int) : p.isAt n = true ↔ p.has n := by
  unfold Pc.isAt Pc.has inPc
  simp only [Bool.and_eq_true, decide_eq_true_eq]
  have e1 : leO p.low n = true ↔ inLow p.low n := by cases p.low <;> simp [leO, inLow]
  have e2 : geO p.high n = true ↔ inHigh p.high n := by cases p.high <;> simp [geO, inHigh]
  rw [e1, e2]
  constructor
  · rintro ⟨⟨a, b⟩, c⟩; exact ⟨a, b, c⟩
  · rintro ⟨a, b, c⟩; exact ⟨⟨a, b⟩, c⟩
def spFirstAt (K : PySem.W.Frag) (f : Pc → Int → Int) : Sp := fun vs H Q _ => ∃ (pc : Addr) (p : Pc) (n : Int), vs = [.ref pc, .int n] ∧ TK K H pc p.vs ∧ p.ok ∧ Q (.int (f p n)) H
def spThere (K : PySem.W.Frag) : Sp := fun vs H Q _ => ∃ (pc : Addr) (p : Pc), vs = [.ref pc] ∧ TK K H pc p.vs ∧ p.ok ∧ Q (.bl p.there) H
def spIsAt (K : PySem.W.Frag) : Sp := fun vs H Q _ => ∃ (pc : Addr) (p : Pc) (n : Int), vs = [.ref pc, .int n] ∧ TK K H pc p.vs ∧ p.ok ∧ Q (.bl (p.isAt n)) H
def spRank : Sp := fun vs H Q _ => ∃ n : Int, vs = [.int n] ∧ Q (.int (rnk n)) H
def gtO : Option Int → Int → Bool
  | none, _ => true
  | some l, n => decide (l < n)
def Pc.within (p : Pc) (c : Int) : Bool := gtO p.low c && geO p.high c
def spIsWithin (K : PySem.W.Frag) : Sp := fun vs H Q _ => ∃ (pc : Addr) (p : Pc) (c : Int), vs = [.int c, .ref pc] ∧ TK K H pc p.vs ∧ Q (.bl (p.within c)) H
/-- a form may be asked for n -/
structure fOk (f : Fm) (n : Int) : Prop where
  d0 : 0 < f.2.2
  dl : f.2.2.natAbs.log2 < 9000
  ml : CMulW f.1 n
def spNumberAt : Sp := fun vs H Q _ => ∃ (t : V) (f : Fm) (n : Int), vs = [t, .int n] ∧ Tr H (fmD f) t ∧ fOk f n ∧ Q (.int (Fm.at_ f n)) H
def outcD (R : Rn) (n : Int) : PyData := .tuple [.tuple ((R.items.map (itAt n)).map kD), wD R.word]
def spOutcome (K : PySem.W.Frag) : Sp := fun vs H Q _ => ∃ (v : V) (R : Rn) (n : Int), vs = [v, .int n] ∧ RnAt K H R v ∧ (∀ f, Sum.inr f ∈ R.items → fOk f n) ∧ R.items.length ≤ 1000 ∧ ∀ (t : V) (H' : Hp), Tr H' (outcD R n) t → Kp [] H H' → Q t H'
end EH
namespace EH
open PySem L2
/-! ### the first numbers of a piece -/
theorem rnk_inj {a b : Int} (h : rnk a = rnk b) : a = b := by
  unfold rnk at h
  split at h <;> split at h <;> omega
theorem first_le {p : Pc} (hp : p.ok) {L n : Int} (hm : n % p.by_ = p.rest) (hn : L ≤ n) : ∃ k : Nat, n = p.first L + k * p.by_ := by
  have b0 := hp.by0
  have e1 : (n - p.first L) % p.by_ = 0 := by
    unfold Pc.first
    rw [← hm]
    have : n - (L + (n % p.by_ - L) % p.by_) = (n - L) - (n % p.by_ - L) % p.by_ := by omega
    rw [this]
    have h1 : (n % p.by_ - L) % p.by_ = (n - L) % p.by_ := by rw [Int.emod_sub_emod]
    rw [h1, Int.sub_emod, Int.emod_emod, Int.sub_self, Int.zero_emod]
  have h0 : 0 ≤ n - p.first L := by
    have h2 : (p.rest - L) % p.by_ < p.by_ := Int.emod_lt_of_pos _ b0
    have hd : p.by_ ∣ n - p.first L := Int.dvd_of_emod_eq_zero e1
    obtain ⟨q, hq⟩ := hd
    have : -p.by_ < n - p.first L := by
      unfold Pc.first
      omega
    rw [hq] at this ⊢
    have hq0 : 0 ≤ q := by
      rcases Int.lt_or_le q 0 with z | z
      · have : p.by_ * q ≤ p.by_ * (-1) := Int.mul_le_mul_of_nonneg_left (by omega) (by omega)
        omega
      · exact z
    exact Int.mul_nonneg (by omega) hq0
  have hd : p.by_ ∣ n - p.first L := Int.dvd_of_emod_eq_zero e1
  obtain ⟨q, hq⟩ := hd
  have hq0 : 0 ≤ q := by
    rcases Int.lt_or_le q 0 with z | z
    · have : p.by_ * q ≤ p.by_ * (-1) := Int.mul_le_mul_of_nonneg_left (by omega) (by omega)
      omega
    · exact z
  refine ⟨q.toNat, ?_⟩
  rw [show ((q.toNat : Nat) : Int) = q by omega, Int.mul_comm]
  omega
theorem first_mod {p : Pc} (hp : p.ok) (L : Int) (k : Nat) : (p.first L + k * p.by_) % p.by_ = p.rest := by
  unfold Pc.first
  rw [Int.add_mul_emod_self_right, Int.add_emod, Int.emod_emod, ← Int.add_emod]
  rw [show L + (p.rest - L) = p.rest by omega, Int.emod_eq_of_lt hp.r0 hp.r1]
theorem first_ge {p : Pc} (hp : p.ok) (L : Int) : L ≤ p.first L := by
  have := Int.emod_nonneg (p.rest - L) (Int.ne_of_gt hp.by0)
  unfold Pc.first
  omega
theorem last_eq {p : Pc} (L : Int) : p.last L = -((⟨(0 - p.rest) % p.by_, p.by_, none, none⟩ : Pc).first (-L)) := by
  unfold Pc.last Pc.first
  dsimp only
  rw [Int.emod_sub_emod, show (0 - p.rest - -L) = L - p.rest by omega]
  omega
theorem neg_ok {p : Pc} (hp : p.ok) : (⟨(0 - p.rest) % p.by_, p.by_, none, none⟩ : Pc).ok := ⟨hp.by0, hp.byl, Int.emod_nonneg _ (Int.ne_of_gt hp.by0), Int.emod_lt_of_pos _ hp.by0⟩
theorem last_ge {p : Pc} (hp : p.ok) {L n : Int} (hm : n % p.by_ = p.rest) (hn : n ≤ L) : ∃ k : Nat, n = p.last L - k * p.by_ := by
  obtain ⟨k, hk⟩ := first_le (neg_ok hp) (L := -L) (n := -n) (by
    show (-n) % p.by_ = (0 - p.rest) % p.by_
    rw [← hm, Int.sub_emod, Int.emod_emod, ← Int.sub_emod]
    congr 1
    omega) (by omega)
  refine ⟨k, ?_⟩
  rw [last_eq]
  have : -n = (⟨(0 - p.rest) % p.by_, p.by_, none, none⟩ : Pc).first (-L) + k * p.by_ := hk
  omega
theorem last_mod {p : Pc} (hp : p.ok) (L : Int) (k : Nat) : (p.last L - k * p.by_) % p.by_ = p.rest := by
  unfold Pc.last
  rw [show L - (L - p.rest) % p.by_ - k * p.by_ = L - (L - p.rest) % p.by_ + (-(k : Int)) * p.by_ by rw [Int.neg_mul]; omega, Int.add_mul_emod_self_right, Int.sub_emod, Int.emod_emod, ← Int.sub_emod]
  rw [show L - (L - p.rest) = p.rest by omega, Int.emod_eq_of_lt hp.r0 hp.r1]
theorem last_le {p : Pc} (hp : p.ok) (L : Int) : p.last L ≤ L := by
  have := Int.emod_nonneg (L - p.rest) (Int.ne_of_gt hp.by0)
  unfold Pc.last
  omega
def Pc.up0 (p : Pc) : Int := match p.low with
  | none => 0
  | some l => max 0 l
def Pc.dn0 (p : Pc) : Int := match p.high with
  | none => -1
  | some h => min (-1) h
def Pc.raw (p : Pc) (m : Nat) : List Int := (List.range m).map (fun k : Nat => p.first p.up0 + (k : Int) * p.by_) ++ (List.range m).map (fun k : Nat => p.last p.dn0 - (k : Int) * p.by_)
structure FP (p : Pc) (m : Nat) (pts : List Int) : Prop where
  mem : ∀ n ∈ pts, p.has n
  ord : pts.Pairwise fun a b => rnk a < rnk b
  len : pts.length ≤ m
  all : ∀ n, p.has n → n ∈ pts ∨ (pts.length = m ∧ ∀ a ∈ pts, rnk a < rnk n)
  raw : ∀ n ∈ pts, n ∈ p.raw m
theorem filter_all {α : Type} {q : α → Bool} {l : List α} (h : ∀ x ∈ l, q x = true) : l.filter q = l := List.filter_eq_self.mpr h
/-- a sorted list: those below r come first -/
theorem srt_split {r : Int} : ∀ {l : List Int}, l.Pairwise (fun a b => rnk a ≤ rnk b) → l = l.filter (fun a => decide (rnk a < r)) ++ l.filter (fun a => !decide (rnk a < r))
  | [], _ => rfl
  | x :: l, h => by
    have hc := List.pairwise_cons.mp h
    by_cases hx : rnk x < r
    · rw [List.filter_cons_of_pos (by simpa using hx), List.filter_cons_of_neg (by simpa using hx), List.cons_append, ← srt_split hc.2]
    · have e1 : l.filter (fun a => decide (rnk a < r)) = [] := List.filter_eq_nil_iff.mpr fun y hy => by
        have := hc.1 y hy
        simp only [decide_eq_true_eq]
        omega
      have e2 : l.filter (fun a => !decide (rnk a < r)) = l := filter_all fun y hy => by
        have := hc.1 y hy
        simp only [Bool.not_eq_true', decide_eq_false_iff_not]
        omega
      rw [List.filter_cons_of_neg (by simpa using hx), List.filter_cons_of_pos (by simpa using hx), e1, e2]
      rfl
theorem take_sub {r : Int} {l : List Int} {m : Nat} (h : l.Pairwise (fun a b => rnk a ≤ rnk b)) (hm : m ≤ (l.filter (fun a => decide (rnk a < r))).length) : ∀ a ∈ l.take m, rnk a < r := by
  intro a ha
  rw [srt_split (r := r) h, List.take_append_of_le_length hm] at ha
  have := List.mem_of_mem_take ha
  simpa using (List.mem_filter.mp this).2
theorem range_filter_len {f : Nat → Int} {q : Int → Bool} {m : Nat} {l : List Int} (hl : ∃ a b, l = a ++ (List.range m).map f ++ b) (h : ∀ k, k < m → q (f k) = true) : m ≤ (l.filter q).length := by
  obtain ⟨a, b, rfl⟩ := hl
  rw [List.filter_append, List.filter_append, List.length_append, List.length_append]
  have : ((List.range m).map f).filter q = (List.range m).map f := filter_all fun x hx => by
    obtain ⟨k, hk, rfl⟩ := List.mem_map.mp hx
    exact h k (List.mem_range.mp hk)
  rw [this, List.length_map, List.length_range]
  omega
theorem raw_nodup {p : Pc} (hp : p.ok) (m : Nat) : (p.raw m).Nodup := by
  have b0 := hp.by0
  have u0 : 0 ≤ p.first p.up0 := by
    have := first_ge hp p.up0
    have : 0 ≤ p.up0 := by unfold Pc.up0; split <;> omega
    omega
  have d0 : p.last p.dn0 ≤ -1 := by
    have := last_le hp p.dn0
    have : p.dn0 ≤ -1 := by unfold Pc.dn0; split <;> omega
    omega
  have km : ∀ k : Nat, 0 ≤ (k : Int) * p.by_ := fun k => Int.mul_nonneg (by omega) (by omega)
  have inj : ∀ i j : Nat, (i : Int) * p.by_ = (j : Int) * p.by_ → i = j := fun i j h => by
    have := Int.eq_of_mul_eq_mul_right (Int.ne_of_gt b0) h
    omega
  unfold Pc.raw
  rw [List.nodup_append]
  refine ⟨?_, ?_, ?_⟩
  · refine List.pairwise_map.mpr (List.nodup_range.imp fun {i j} hij h => hij (inj i j (by omega)))
  · refine List.pairwise_map.mpr (List.nodup_range.imp fun {i j} hij h => hij (inj i j (by omega)))
  · intro x hx y hy
    obtain ⟨i, _, rfl⟩ := List.mem_map.mp hx
    obtain ⟨j, _, rfl⟩ := List.mem_map.mp hy
    have := km i
    have := km j
    omega
theorem fp_of {p : Pc} (hp : p.ok) {m : Nat} {ws : List Int} (pm : ws.Perm ((p.raw m).filter p.isAt)) (so : ws.Pairwise fun a b => rnk a ≤ rnk b) : FP p m (ws.take m) := by
  have b0 := hp.by0
  have km : ∀ k : Nat, 0 ≤ (k : Int) * p.by_ := fun k => Int.mul_nonneg (by omega) (by omega)
  have kl : ∀ i j : Nat, i < j → (i : Int) * p.by_ < (j : Int) * p.by_ := fun i j h => Int.mul_lt_mul_of_pos_right (by omega) b0
  have nd : ws.Nodup := pm.nodup_iff.mpr ((raw_nodup hp m).filter _)
  have so' : ws.Pairwise fun a b => rnk a < rnk b := (so.and nd).imp fun {a b} h => by
    have : rnk a ≠ rnk b := fun z => h.2 (rnk_inj z)
    omega
  have hm : ∀ n ∈ ws, p.has n := fun n hn => (isAt_has p n).mp (List.mem_filter.mp (pm.mem_iff.mp hn)).2
  refine ⟨fun n hn => hm n (List.mem_of_mem_take hn), so'.sublist (List.take_sublist _ _), List.length_take_le _ _, fun n hn => ?_, fun n hn => (List.mem_filter.mp (pm.mem_iff.mp (List.mem_of_mem_take hn))).1⟩
  have fin : m ≤ (ws.filter (fun a => decide (rnk a < rnk n))).length → (ws.take m).length = m ∧ ∀ a ∈ ws.take m, rnk a < rnk n := fun h => by
    refine ⟨?_, take_sub so h⟩
    have := List.length_filter_le (fun a => decide (rnk a < rnk n)) ws
    rw [List.length_take]
    omega
  have inw : n ∈ ws → n ∈ ws.take m ∨ ((ws.take m).length = m ∧ ∀ a ∈ ws.take m, rnk a < rnk n) := fun hw => by
    by_cases ht : n ∈ ws.take m
    · exact .inl ht
    · have e := List.take_append_drop m ws
      have hd : n ∈ ws.drop m := by
        rw [← e] at hw
        exact (List.mem_append.mp hw).resolve_left ht
      right
      refine ⟨?_, fun a ha => ?_⟩
      · have : 0 < (ws.drop m).length := List.length_pos_of_mem hd
        rw [List.length_drop] at this
        rw [List.length_take]
        omega
      · rw [← e] at so'
        exact (List.pairwise_append.mp so').2.2 a ha n hd
  obtain ⟨h1, h2, h3⟩ := hn
  have cnt : ∀ (f : Nat → Int), (∃ a b, p.raw m = a ++ (List.range m).map f ++ b) → (∀ k, k < m → p.has (f k) ∧ rnk (f k) < rnk n) → m ≤ (ws.filter (fun a => decide (rnk a < rnk n))).length := fun f hr hf => by
    rw [(pm.filter _).length_eq, List.filter_filter]
    refine range_filter_len hr fun k hk => ?_
    obtain ⟨g1, g2⟩ := hf k hk
    simp only [Bool.and_eq_true, decide_eq_true_eq]
    exact ⟨g2, (isAt_has p _).mpr g1⟩
  rcases Int.lt_or_le n 0 with hn0 | hn0
  · have hL : n ≤ p.dn0 := by
      unfold Pc.dn0
      cases e : p.high with
      | none => show n ≤ -1; omega
      | some h =>
        rw [e] at h3
        have h3 : n ≤ h := h3
        show n ≤ min (-1) h
        omega
    obtain ⟨k, hk⟩ := last_ge hp h1 hL
    by_cases hkm : k < m
    · refine inw (pm.mem_iff.mpr (List.mem_filter.mpr ⟨?_, (isAt_has p n).mpr ⟨h1, h2, h3⟩⟩))
      exact List.mem_append_right _ (List.mem_map.mpr ⟨k, List.mem_range.mpr hkm, hk.symm⟩)
    · refine .inr (fin (cnt (fun k => p.last p.dn0 - (k : Int) * p.by_) ⟨_, [], by unfold Pc.raw; rw [List.append_nil]⟩ fun j hj => ?_))
      have hj1 := kl j k (by omega)
      have hl := last_le hp p.dn0
      have hj0 := km j
      have hd : p.dn0 ≤ -1 := by unfold Pc.dn0; split <;> omega
      refine ⟨⟨last_mod hp _ j, ?_, ?_⟩, ?_⟩
      · cases e : p.low with
        | none => trivial
        | some l =>
          rw [e] at h2
          have h2 : l ≤ n := h2
          show l ≤ p.last p.dn0 - (j : Int) * p.by_
          omega
      · cases e : p.high with
        | none => trivial
        | some h =>
          have : p.dn0 ≤ h := by unfold Pc.dn0; rw [e]; show min (-1) h ≤ h; omega
          show p.last p.dn0 - (j : Int) * p.by_ ≤ h
          omega
      · unfold rnk
        rw [if_neg (by omega), if_neg (by omega)]
        omega
  · have hL : p.up0 ≤ n := by
      unfold Pc.up0
      cases e : p.low with
      | none => show 0 ≤ n; omega
      | some l =>
        rw [e] at h2
        have h2 : l ≤ n := h2
        show max 0 l ≤ n
        omega
    obtain ⟨k, hk⟩ := first_le hp h1 hL
    by_cases hkm : k < m
    · refine inw (pm.mem_iff.mpr (List.mem_filter.mpr ⟨?_, (isAt_has p n).mpr ⟨h1, h2, h3⟩⟩))
      exact List.mem_append_left _ (List.mem_map.mpr ⟨k, List.mem_range.mpr hkm, hk.symm⟩)
    · refine .inr (fin (cnt (fun k => p.first p.up0 + (k : Int) * p.by_) ⟨[], _, rfl⟩ fun j hj => ?_))
      have hj1 := kl j k (by omega)
      have hl := first_ge hp p.up0
      have hj0 := km j
      have hd : 0 ≤ p.up0 := by unfold Pc.up0; split <;> omega
      refine ⟨⟨first_mod hp _ j, ?_, ?_⟩, ?_⟩
      · cases e : p.low with
        | none => trivial
        | some l =>
          have : l ≤ p.up0 := by unfold Pc.up0; rw [e]; show l ≤ max 0 l; omega
          show l ≤ p.first p.up0 + (j : Int) * p.by_
          omega
      · cases e : p.high with
        | none => trivial
        | some h =>
          rw [e] at h3
          have h3 : n ≤ h := h3
          show p.first p.up0 + (j : Int) * p.by_ ≤ h
          omega
      · unfold rnk
        split <;> split <;> omega
theorem FP.ne {p : Pc} {m : Nat} {pts : List Int} (h : FP p m pts) (hm : 0 < m) {n : Int} (hn : p.has n) : ∃ x r, pts = x :: r := by
  cases pts with
  | cons x r => exact ⟨x, r, rfl⟩
  | nil =>
    rcases h.all n hn with z | ⟨z, _⟩
    · cases z
    · exact absurd z (by simp; omega)
theorem raw_bd {p : Pc} (hp : p.ok) {M m : Nat} (hlo : ∀ i, p.low = some i → i.natAbs ≤ M) (hhi : ∀ i, p.high = some i → i.natAbs ≤ M) {n : Int} (hn : n ∈ p.raw m) : n.natAbs ≤ M + 1 + (m + 1) * p.by_.natAbs := by
  have b0 := hp.by0
  unfold Pc.raw at hn
  have km : ∀ k : Nat, k < m → (k : Int) * p.by_ ≤ (m : Int) * p.by_ ∧ 0 ≤ (k : Int) * p.by_ := fun k hk => ⟨Int.mul_le_mul_of_nonneg_right (by omega) (by omega), Int.mul_nonneg (by omega) (by omega)⟩
  have hu : 0 ≤ p.up0 ∧ p.up0 ≤ M := by
    unfold Pc.up0
    cases e : p.low with
    | none => exact ⟨Int.le_refl _, Int.natCast_nonneg _⟩
    | some l =>
      have := hlo l e
      show 0 ≤ max 0 l ∧ max 0 l ≤ _
      omega
  have hd : p.dn0 ≤ -1 ∧ -(M : Int) - 1 ≤ p.dn0 := by
    unfold Pc.dn0
    cases e : p.high with
    | none =>
      show (-1 : Int) ≤ -1 ∧ -(M : Int) - 1 ≤ -1
      omega
    | some l =>
      have := hhi l e
      show min (-1) l ≤ -1 ∧ _ ≤ min (-1) l
      omega
  have f1 : p.up0 ≤ p.first p.up0 ∧ p.first p.up0 < p.up0 + p.by_ := by
    unfold Pc.first
    have := Int.emod_nonneg (p.rest - p.up0) (Int.ne_of_gt b0)
    have := Int.emod_lt_of_pos (p.rest - p.up0) b0
    omega
  have f2 : p.last p.dn0 ≤ p.dn0 ∧ p.dn0 - p.by_ < p.last p.dn0 := by
    unfold Pc.last
    have := Int.emod_nonneg (p.dn0 - p.rest) (Int.ne_of_gt b0)
    have := Int.emod_lt_of_pos (p.dn0 - p.rest) b0
    omega
  have e1 : ((m + 1) * p.by_.natAbs : Nat) = ((m : Int) * p.by_ + p.by_).natAbs := by
    have : ((m : Int) * p.by_ + p.by_) = (((m + 1 : Nat)) : Int) * p.by_ := by rw [Int.natCast_add, Int.add_mul]; omega
    rw [this, Int.natAbs_mul]
    rfl
  rw [e1]
  have hm0 : 0 ≤ (m : Int) * p.by_ := Int.mul_nonneg (by omega) (by omega)
  rcases List.mem_append.mp hn with h | h
  · obtain ⟨k, hk, rfl⟩ := List.mem_map.mp h
    have := km k (List.mem_range.mp hk)
    omega
  · obtain ⟨k, hk, rfl⟩ := List.mem_map.mp h
    have := km k (List.mem_range.mp hk)
    omega
/-- a piece that is there has a number -/
theorem there_has {p : Pc} (hp : p.ok) (h : p.there = true) : ∃ n, p.has n := by
  unfold Pc.there at h
  cases e1 : p.low with
  | none =>
    cases e2 : p.high with
    | none => exact ⟨p.rest, by show p.rest % p.by_ = p.rest; exact Int.emod_eq_of_lt hp.r0 hp.r1, by rw [e1]; trivial, by rw [e2]; trivial⟩
    | some h2 =>
      have := last_mod hp h2 0
      have hl := last_le hp h2
      rw [show ((0 : Nat) : Int) * p.by_ = 0 by simp, Int.sub_zero] at this
      exact ⟨p.last h2, this, by rw [e1]; trivial, by rw [e2]; exact hl⟩
  | some l =>
    have := first_mod hp l 0
    have hl := first_ge hp l
    rw [show ((0 : Nat) : Int) * p.by_ = 0 by simp, Int.add_zero] at this
    cases e2 : p.high with
    | none => exact ⟨p.first l, this, by rw [e1]; exact hl, by rw [e2]; trivial⟩
    | some h2 =>
      rw [e1, e2] at h
      exact ⟨p.first l, this, by rw [e1]; exact hl, by rw [e2]; exact (of_decide_eq_true h : p.first l ≤ h2)⟩
theorem has_there {p : Pc} (hp : p.ok) {n : Int} (h : p.has n) : p.there = true := by
  obtain ⟨h1, h2, h3⟩ := h
  unfold Pc.there
  cases e1 : p.low with
  | none => rfl
  | some l =>
    cases e2 : p.high with
    | none => rfl
    | some h =>
      rw [e1] at h2
      rw [e2] at h3
      have h2 : l ≤ n := h2
      have h3 : n ≤ h := h3
      obtain ⟨k, hk⟩ := first_le hp h1 h2
      have : 0 ≤ (k : Int) * p.by_ := Int.mul_nonneg (by omega) (by have := hp.by0; omega)
      exact decide_eq_true (by omega)
end EH
namespace EH
open PySem L2
/-! ### rows on which the runs of some lists of rows are told -/
structure CRows (BY : Int) (B : Nat) (Ls : List (List (Pc × Rn))) (In : Int → Prop) (rows : List (Pc × List (List Rn))) : Prop where
  ok : ∀ r ∈ rows, r.1.ok ∧ r.1.by_ = BY ∧ oOk B r.1.low ∧ oOk B r.1.high
  ne : ∀ r ∈ rows, ∃ n, r.1.has n
  sub : ∀ r ∈ rows, ∀ n, r.1.has n → In n
  runs : ∀ r ∈ rows, ∀ n, r.1.has n → r.2 = Ls.map fun L => (L.filter fun x => x.1.isAt n).map Prod.snd
  cover : ∀ n, In n → ∃ r ∈ rows, r.1.has n
  disj : rows.Pairwise fun r r' => ∀ n, r.1.has n → r'.1.has n → False
section
variable {BY : Int} {B : Nat} {Ls : List (List (Pc × Rn))} {In In' : Int → Prop} {rows : List (Pc × List (List Rn))}
theorem CRows.nil : CRows BY B Ls (fun _ => False) [] := ⟨fun r h => (nomatch h), fun r h => (nomatch h), fun r h => (nomatch h), fun r h => (nomatch h), fun n h => h.elim, .nil⟩
theorem CRows.congr (h : CRows BY B Ls In rows) (e : ∀ n, In n ↔ In' n) : CRows BY B Ls In' rows := ⟨h.ok, h.ne, fun r hr n hn => (e n).mp (h.sub r hr n hn), h.runs, fun n hn => h.cover n ((e n).mpr hn), h.disj⟩
theorem CRows.add (h : CRows BY B Ls In rows) {p : Pc} {rs : List (List Rn)} (ok : p.ok ∧ p.by_ = BY ∧ oOk B p.low ∧ oOk B p.high) (ne : ∃ n, p.has n) (rn : ∀ n, p.has n → rs = Ls.map fun L => (L.filter fun x => x.1.isAt n).map Prod.snd) (nw : ∀ n, p.has n → ¬ In n) :
    CRows BY B Ls (fun n => In n ∨ p.has n) (rows ++ [(p, rs)]) := by
  have mem : ∀ r ∈ rows ++ [(p, rs)], r ∈ rows ∨ r = (p, rs) := fun r hr => (List.mem_append.mp hr).imp id List.mem_singleton.mp
  refine ⟨fun r hr => ?_, fun r hr => ?_, fun r hr n hn => ?_, fun r hr n hn => ?_, fun n hn => ?_, ?_⟩
  · rcases mem r hr with z | rfl
    · exact h.ok r z
    · exact ok
  · rcases mem r hr with z | rfl
    · exact h.ne r z
    · exact ne
  · rcases mem r hr with z | rfl
    · exact .inl (h.sub r z n hn)
    · exact .inr hn
  · rcases mem r hr with z | rfl
    · exact h.runs r z n hn
    · exact rn n hn
  · rcases hn with z | z
    · obtain ⟨r, hr, q⟩ := h.cover n z
      exact ⟨r, List.mem_append_left _ hr, q⟩
    · exact ⟨_, List.mem_append_right _ (List.mem_singleton.mpr rfl), z⟩
  · refine List.pairwise_append.mpr ⟨h.disj, List.pairwise_singleton _ _, fun r hr r' hr' n hn hn' => ?_⟩
    cases List.mem_singleton.mp hr'
    exact nw n hn' (h.sub r hr n hn)
end
/-! ### the parts between the cuts -/
def zipOf (lo : Option Int) : List Int → List (Option Int × Option Int)
  | [] => [(lo, none)]
  | c :: cs => (lo, some c) :: zipOf (some c) cs
theorem zip_of : ∀ (lo : Option Int) (cs : List Int), (lo :: (cs.map some ++ [none])).zip (cs.map some ++ [none]) = zipOf lo cs
  | lo, [] => rfl
  | lo, c :: cs => by
    show (lo, some c) :: ((some c :: (cs.map some ++ [none])).zip (cs.map some ++ [none])) = _
    rw [zip_of (some c) cs]
    rfl
theorem zipOf_len : ∀ (lo : Option Int) (cs : List Int), (zipOf lo cs).length = cs.length + 1
  | lo, [] => rfl
  | lo, c :: cs => by simp only [zipOf, List.length_cons, zipOf_len]
def hiOf (hi : Option Int) : Option Int → Option Int
  | none => hi
  | some c => some (c - 1)
theorem zipOf_low {c : Int} : ∀ {cs : List Int} {d : Int}, (d :: cs).Pairwise (· < ·) → c ≤ d → ∀ x ∈ zipOf (some d) cs, ∃ e, x.1 = some e ∧ c ≤ e
  | [], d, h, hd, x, hx => by
    cases List.mem_singleton.mp hx
    exact ⟨d, rfl, hd⟩
  | e :: cs, d, h, hd, x, hx => by
    rcases List.mem_cons.mp hx with rfl | hx
    · exact ⟨d, rfl, hd⟩
    · have hc := List.pairwise_cons.mp h
      exact zipOf_low hc.2 (Int.le_trans hd (Int.le_of_lt (hc.1 e List.mem_cons_self))) x hx
theorem zipOf_cover {hi : Option Int} {n : Int} (hh : inHigh hi n) : ∀ {cs : List Int} {lo : Option Int}, inLow lo n → ∃ x ∈ zipOf lo cs, inLow x.1 n ∧ inHigh (hiOf hi x.2) n
  | [], lo, hl => ⟨_, List.mem_singleton.mpr rfl, hl, hh⟩
  | c :: cs, lo, hl => by
    by_cases hc : n < c
    · exact ⟨_, List.mem_cons_self, hl, show n ≤ c - 1 by omega⟩
    · obtain ⟨x, hx, q⟩ := zipOf_cover hh (cs := cs) (lo := some c) (show c ≤ n by omega)
      exact ⟨x, List.mem_cons_of_mem _ hx, q⟩
theorem zipOf_sound {hi : Option Int} {n : Int} : ∀ {cs : List Int} {lo : Option Int}, cs.Pairwise (· < ·) → (∀ c ∈ cs, gtO lo c = true ∧ geO hi c = true) → ∀ x ∈ zipOf lo cs, inLow x.1 n → inHigh (hiOf hi x.2) n → inLow lo n ∧ inHigh hi n
  | [], lo, hs, hw, x, hx, h1, h2 => by
    cases List.mem_singleton.mp hx
    exact ⟨h1, h2⟩
  | c :: cs, lo, hs, hw, x, hx, h1, h2 => by
    have wc := hw c List.mem_cons_self
    have hc := List.pairwise_cons.mp hs
    rcases List.mem_cons.mp hx with rfl | hx
    · refine ⟨h1, ?_⟩
      cases hi with
      | none => trivial
      | some h =>
        have := of_decide_eq_true wc.2
        have h2 : n ≤ c - 1 := h2
        show n ≤ h
        omega
    · obtain ⟨g1, g2⟩ := zipOf_sound (lo := some c) hc.2 (fun d hd => ⟨decide_eq_true (hc.1 d hd), (hw d (List.mem_cons_of_mem _ hd)).2⟩) x hx h1 h2
      refine ⟨?_, g2⟩
      cases lo with
      | none => trivial
      | some l =>
        have := of_decide_eq_true wc.1
        have g1 : c ≤ n := g1
        show l ≤ n
        omega
theorem zipOf_disj {hi : Option Int} : ∀ {cs : List Int} {lo : Option Int}, cs.Pairwise (· < ·) → (zipOf lo cs).Pairwise fun x y => ∀ n, inLow x.1 n → inHigh (hiOf hi x.2) n → inLow y.1 n → inHigh (hiOf hi y.2) n → False
  | [], lo, h => List.pairwise_singleton _ _
  | c :: cs, lo, h => by
    have hc := List.pairwise_cons.mp h
    refine List.pairwise_cons.mpr ⟨fun y hy n h1 h2 h3 h4 => ?_, zipOf_disj hc.2⟩
    obtain ⟨e, e1, e2⟩ := zipOf_low (c := c) h (Int.le_refl _) y hy
    rw [e1] at h3
    have h3 : e ≤ n := h3
    have h2 : n ≤ c - 1 := h2
    omega
theorem zipOf_dich : ∀ {cs : List Int} {lo : Option Int}, cs.Pairwise (· < ·) → ∀ x ∈ zipOf lo cs, ∀ c ∈ cs, (∃ d, x.2 = some d ∧ d ≤ c) ∨ ∃ d, x.1 = some d ∧ c ≤ d
  | [], lo, h, x, hx, c, hc => nomatch hc
  | d :: cs, lo, h, x, hx, c, hc => by
    have hp := List.pairwise_cons.mp h
    rcases List.mem_cons.mp hx with rfl | hx
    · refine .inl ⟨d, rfl, ?_⟩
      rcases List.mem_cons.mp hc with rfl | hc
      · exact Int.le_refl _
      · exact Int.le_of_lt (hp.1 c hc)
    · rcases List.mem_cons.mp hc with rfl | hc
      · exact .inr (zipOf_low h (Int.le_refl _) x hx)
      · exact zipOf_dich hp.2 x hx c hc
/-- a threshold is passed by all numbers of a part, or by none -/
theorem part_same {p : Pc} {cs : List Int} (hs : cs.Pairwise (· < ·)) (hw : ∀ c ∈ cs, gtO p.low c = true ∧ geO p.high c = true) {x : Option Int × Option Int} (hx : x ∈ zipOf p.low cs) {c n m : Int} (hc : p.within c = true → c ∈ cs)
    (n1 : inLow x.1 n) (n2 : inHigh (hiOf p.high x.2) n) (m1 : inLow x.1 m) (m2 : inHigh (hiOf p.high x.2) m) : c ≤ n → c ≤ m := by
  intro hcn
  by_cases hwc : p.within c = true
  · rcases zipOf_dich hs x hx c (hc hwc) with ⟨d, e, hd⟩ | ⟨d, e, hd⟩
    · rw [e] at n2
      have n2 : n ≤ d - 1 := n2
      omega
    · rw [e] at m1
      have m1 : d ≤ m := m1
      omega
  · obtain ⟨a1, a2⟩ := zipOf_sound hs hw x hx n1 n2
    obtain ⟨b1, b2⟩ := zipOf_sound hs hw x hx m1 m2
    unfold Pc.within at hwc
    cases el : p.low with
    | none =>
      cases eh : p.high with
      | none => rw [el, eh] at hwc; exact absurd rfl hwc
      | some h =>
        rw [el, eh] at hwc
        rw [eh] at a2
        have a2 : n ≤ h := a2
        exact absurd (show (gtO none c && geO (some h) c) = true from by simp [gtO, geO]; omega) hwc
    | some l =>
      rw [el] at hwc b1
      have b1 : l ≤ m := b1
      by_cases hlc : l < c
      · cases eh : p.high with
        | none => rw [eh] at hwc; exact absurd (show (gtO (some l) c && geO none c) = true from by simp [gtO, geO]; omega) hwc
        | some h =>
          rw [eh] at hwc a2
          have a2 : n ≤ h := a2
          exact absurd (show (gtO (some l) c && geO (some h) c) = true from by simp [gtO, geO]; omega) hwc
      · omega
/-- the cuts of some pieces -/
def CutsOf (ps : List Pc) (cs : List Int) : Prop := cs.Pairwise (· < ·) ∧ ∀ c, c ∈ cs ↔ ∃ p ∈ ps, p.low = some c ∨ ∃ h, p.high = some h ∧ c = h + 1
def hereL (ρ : Int) (L : List (Pc × Rn)) : List (Pc × Rn) := L.filter fun r => decide (ρ % r.1.by_ = r.1.rest)
theorem isAt_same {p : Pc} {BY ρ : Int} {cs all : List Int} {ps : List Pc} (hc : CutsOf ps all) (e : cs = all.filter p.within) {x : Option Int × Option Int} (hx : x ∈ zipOf p.low cs) {n m : Int} (hn : (⟨ρ, BY, x.1, hiOf p.high x.2⟩ : Pc).has n) (hm : (⟨ρ, BY, x.1, hiOf p.high x.2⟩ : Pc).has m)
    {r : Pc} (hr : r.by_ ∣ BY) (h : ρ % r.by_ = r.rest → r ∈ ps) : r.isAt n = (decide (ρ % r.by_ = r.rest) && r.isAt m) := by
  have hs : cs.Pairwise (· < ·) := by rw [e]; exact hc.1.sublist List.filter_sublist
  have hw : ∀ c ∈ cs, gtO p.low c = true ∧ geO p.high c = true := fun c hcs => by
    rw [e] at hcs
    have := (List.mem_filter.mp hcs).2
    unfold Pc.within at this
    simpa using this
  obtain ⟨n0, n1, n2⟩ := hn
  obtain ⟨m0, m1, m2⟩ := hm
  have n0 : n % BY = ρ := n0
  have m0 : m % BY = ρ := m0
  have en : n % r.by_ = ρ % r.by_ := by rw [← n0, Int.emod_emod_of_dvd _ hr]
  have em : m % r.by_ = ρ % r.by_ := by rw [← m0, Int.emod_emod_of_dvd _ hr]
  unfold Pc.isAt
  rw [en, em]
  by_cases hq : ρ % r.by_ = r.rest
  · have hrp := h hq
    have inc : ∀ c, (r.low = some c ∨ ∃ hh, r.high = some hh ∧ c = hh + 1) → p.within c = true → c ∈ cs := fun c hcc hwc => by
      rw [e]
      exact List.mem_filter.mpr ⟨(hc.2 c).mpr ⟨r, hrp, hcc⟩, hwc⟩
    have e1 : leO r.low n = leO r.low m := by
      cases el : r.low with
      | none => rfl
      | some l =>
        have i1 := part_same hs hw hx (inc l (.inl el)) n1 n2 m1 m2
        have i2 := part_same hs hw hx (inc l (.inl el)) m1 m2 n1 n2
        exact decide_eq_decide.mpr ⟨i1, i2⟩
    have e2 : geO r.high n = geO r.high m := by
      cases el : r.high with
      | none => rfl
      | some l =>
        have i1 := part_same hs hw hx (inc (l + 1) (.inr ⟨l, el, rfl⟩)) n1 n2 m1 m2
        have i2 := part_same hs hw hx (inc (l + 1) (.inr ⟨l, el, rfl⟩)) m1 m2 n1 n2
        refine decide_eq_decide.mpr ⟨fun z => ?_, fun z => ?_⟩
        · rcases Int.lt_or_le l m with y | y
          · have := i2 (by omega); omega
          · exact y
        · rcases Int.lt_or_le l n with y | y
          · have := i1 (by omega); omega
          · exact y
    rw [e1, e2]
    cases decide (ρ % r.by_ = r.rest) <;> rfl
  · rw [decide_eq_false hq]
    rfl
/-- what is told at a point of a part is told at all its numbers -/
theorem rows_same {p : Pc} {BY ρ : Int} {cs all : List Int} {Ls : List (List (Pc × Rn))} (hc : CutsOf ((Ls.map fun L => (hereL ρ L).map Prod.fst).flatten) all) (e : cs = all.filter p.within) {x : Option Int × Option Int} (hx : x ∈ zipOf p.low cs) {n m : Int}
    (hn : (⟨ρ, BY, x.1, hiOf p.high x.2⟩ : Pc).has n) (hm : (⟨ρ, BY, x.1, hiOf p.high x.2⟩ : Pc).has m) (hd : ∀ L ∈ Ls, ∀ r ∈ L, r.1.by_ ∣ BY) :
    (Ls.map fun L => ((hereL ρ L).filter fun y => y.1.isAt m).map Prod.snd) = Ls.map fun L => (L.filter fun y => y.1.isAt n).map Prod.snd := by
  refine List.map_congr_left fun L hL => ?_
  congr 1
  unfold hereL
  rw [List.filter_filter]
  refine List.filter_congr fun r hr => ?_
  rw [isAt_same hc e hx hn hm (hd L hL r hr) fun hq => ?_]
  · rw [Bool.and_comm]
  · refine List.mem_flatten.mpr ⟨_, List.mem_map.mpr ⟨L, hL, rfl⟩, List.mem_map.mpr ⟨r, List.mem_filter.mpr ⟨hr, decide_eq_true hq⟩, rfl⟩⟩
end EH
namespace EH
open PySem PySem.Spec PyProof.Rows L2
/-! tuples, some of them empty -/
section
variable {prog : Program} {w : World} {A : Around} {s : Shared}
theorem oneLt_tup {xs ys : List PyData} {a b : Value} {as bs : List Addr} {E : Value → Shared → Prop} {Q : Bool → Shared → Prop} (ra : Reads s.heap a (.tuple xs) as) (rb : Reads s.heap b (.tuple ys) bs) (h : PySem.W.alike (.tuple xs) (.tuple ys) = true)
    (hu : A.units + min (PyData.depth (.tuple xs)) (PyData.depth (.tuple ys)) < cLine) (hq : Q (PySem.W.dataLt (.tuple xs) (.tuple ys)) s) : wpAny (model prog w) A (oneLt' true a b) Q E s := by
  have hal : PySem.W.alikeAll xs ys = true := by simpa [PySem.W.alike] using h
  cases ra with
  | @tuple l o vs n _ _ h1 h2 h3 h4 =>
    cases rb with
    | @tuple l' o' vs' n' _ _ k1 k2 k3 k4 =>
      have n1 : vs.size = xs.length := by simpa using SeqAt.ReadsAll.length _ _ _ h4
      have n2 : vs'.size = ys.length := by simpa using SeqAt.ReadsAll.length _ _ _ k4
      rw [PySem.W.dataLt_tuple, ← PySem.W.firstLt_toks xs ys hal, ← n1, ← n2] at hq
      obtain ⟨cls, dd, data, sl⟩ := o
      obtain ⟨cls', dd', data', sl'⟩ := o'
      simp only at h2 h3 k2 k3
      subst h2 h3 k2 k3
      rw [oneLt'_eq]
      simp only [if_true]
      refine wpAny_bind (wpAny_cRoomFor (SeqAt.room_here hu) ?_)
      refine wpAny_bind (wpAny_callSpecialIfBound?_slot (T := "tuple") ⟨_, h1, rfl⟩ F.slot_tuple_lt (call_meets F.slot_tuple_lt ⟨_, h1, rfl⟩ F.entry_tuple_lt (F.args_tuple_lt_2 _ _) (SeqAt.tuple_ltAt l l' vs vs' n n' dd dd' sl sl' (SeqAt.pairEq xs ys) (fun j => PySem.W.dataLt (xs.getD j .none) (ys.getD j .none))) ⟨h1, k1, fun j j1 j2 => ?_, fun j j1 j2 hj => ?_, ?_⟩))
      · have := PySem.W.eqAt_alikeAll xs ys A.in1 s vs.toList vs'.toList _ _ h4 k4 hal (SeqAt.room_in hu) j (by simpa using j1) (by simpa using j2)
        simpa using this
      · have := PySem.W.rcLt_alikeAll xs ys A.in1 s vs.toList vs'.toList _ _ h4 k4 hal (SeqAt.room_in hu) j (by simpa using j1) (by simpa using j2) hj
        simpa using this
      · exact wpAny_truthy_bool hq
def TpF (h : Heap) : List Value → List (Option Value) → Prop
  | [], fs => fs = []
  | v :: vs, fs => ∃ f r, fs = f :: r ∧ (∃ a o xs n, v = .ref a ∧ h.get? a = some o ∧ o.cls = .type "tuple" ∧ o.data = .seq xs n ∧ xs[0]? = f) ∧ TpF h vs r
theorem tpF_firsts {M : Model} {E : Value → Shared → Prop} : ∀ (vs : List Value) (fs : List (Option Value)) {Q : List (Option Value) → Shared → Prop}, TpF s.heap vs fs → Q fs s → wpAny M A (vs.mapM firstOfTuple') Q E s
  | [], fs, _, t, h => by cases (show fs = [] from t); rw [List.mapM_nil]; exact wpAny_pure h
  | v :: vs, fs, Q, t, h => by
    obtain ⟨f, r, rfl, ⟨a, o, xs, n, rfl, ho, hc, hd, hf⟩, t⟩ := t
    rw [List.mapM_cons]
    refine wpAny_bind ?_
    rw [PySem.W.kas_first_eq]
    refine wpAny_bind (PySem.W.Looks.here (show PySem.W.Looks M s.heap (typeOf (.ref a)) o.cls from (PySem.W.Looks.ld ho).andThen .now) ?_)
    rw [hc, if_neg (by first | decide | simp)]
    refine wpAny_bind (listItems_at ho hd (wpAny_pure ?_))
    rw [hf]
    exact wpAny_bind (tpF_firsts vs r (Q := fun bs s' => wpAny M A (pure (f :: bs)) Q E s') t (wpAny_pure h))
theorem tpF_of : ∀ {vs : List Value} {ds : List PyData}, PySem.W.EachIs (fun v d => ∃ as, Reads s.heap v d as) vs ds → (∀ d ∈ ds, ∃ xs, d = .tuple xs) → ∃ fs, TpF s.heap vs fs ∧ fs.length = vs.length ∧ (fs.all (·.isSome) = true → ∀ d ∈ ds, ∃ x r, d = .tuple (x :: r))
  | [], [], .nil, _ => ⟨[], rfl, rfl, fun _ d hd => nomatch hd⟩
  | v :: vs, d :: ds, .cons ⟨as, rd⟩ t, ht => by
    obtain ⟨fs, g1, g2, g3⟩ := tpF_of t fun d hd => ht d (List.mem_cons_of_mem _ hd)
    obtain ⟨xs, rfl⟩ := ht d List.mem_cons_self
    cases rd with
    | @tuple a o ws n _ _ ho hc hd hr =>
      refine ⟨ws[0]? :: fs, ⟨_, _, rfl, ⟨a, o, ws, n, rfl, ho, hc, hd, rfl⟩, g1⟩, by rw [List.length_cons, List.length_cons, g2], fun ha d' hd' => ?_⟩
      simp only [List.all_cons, Bool.and_eq_true] at ha
      rcases List.mem_cons.mp hd' with rfl | hd'
      · cases xs with
        | cons x r => exact ⟨x, r, rfl⟩
        | nil =>
          have hl : ws.toList.length = 0 := SeqAt.ReadsAll.length _ _ _ hr
          rw [Array.length_toList] at hl
          have h0 : ws[0]? = none := Array.getElem?_eq_none (by omega)
          rw [h0] at ha
          exact absurd ha.1 (by simp)
      · exact g3 ha.2 d' hd'
theorem srt_tups {vs : List Value} {ds : List PyData} (e : PySem.W.EachIs (fun v d => ∃ as, Reads s.heap v d as) vs ds) (al : PySem.W.AllAlike ds) (ht : ∀ d ∈ ds, ∃ xs, d = .tuple xs) (hu : ∀ d, d ∈ ds → A.units + d.depth < cLine) :
    PySem.W.SortsAt prog w A s (PySem.W.dataKind s.heap ds) vs := by
  obtain ⟨fs, g1, g2, g3⟩ := tpF_of e ht
  by_cases hn : fs.all (·.isSome) = true
  · exact PySem.W.SortsAt.data e al (.inl (g3 hn)) hu
  have keys : ∀ v, v ∈ vs → ∃ a, (PySem.W.dataKind s.heap ds).keyOf v = some a := fun v hv => by
    obtain ⟨d, hd, as, r⟩ := e.left v hv
    exact ⟨_, PySem.W.dataKind_some al hd r⟩
  have room : ∀ {d d' : PyData}, d ∈ ds → A.units + min d.depth d'.depth < cLine := fun {d d'} hd => by
    have := hu d hd
    omega
  by_cases h0 : (fs.toArray[0]?.bind id).isSome = true
  · refine ⟨keys, general', fun E x y a b Q ha hb hq => ?_, fun h2 E Q hq => ?_⟩
    · obtain ⟨d, as, hd, ra, rfl⟩ := PySem.W.dataKind_inv ha
      obtain ⟨d', as', hd', rb, rfl⟩ := PySem.W.dataKind_inv hb
      obtain ⟨xs, rfl⟩ := ht d hd
      exact PySem.W.oneLt_alike (f := false) (fun z => nomatch z) ra rb (al _ hd d' hd') (fun z => nomatch z) (room hd) hq
    · rw [keyKind'_eq, List.mapM_toArray, map_eq_pure_bind]
      refine wpAny_bind (wpAny_bind (tpF_firsts vs fs g1 (wpAny_pure ?_)))
      rw [if_neg (by simpa using hn), if_pos h0]
      exact wpAny_pure hq
  · refine ⟨keys, oneType', fun E x y a b Q ha hb hq => ?_, fun h2 E Q hq => ?_⟩
    · obtain ⟨d, as, hd, ra, rfl⟩ := PySem.W.dataKind_inv ha
      obtain ⟨d', as', hd', rb, rfl⟩ := PySem.W.dataKind_inv hb
      obtain ⟨xs, rfl⟩ := ht d hd
      obtain ⟨ys, rfl⟩ := ht d' hd'
      rw [keyLt'_oneType]
      exact oneLt_tup ra rb (al _ hd _ hd') (room hd) hq
    · rw [keyKind'_eq, List.mapM_toArray, map_eq_pure_bind]
      refine wpAny_bind (wpAny_bind (tpF_firsts vs fs g1 (wpAny_pure ?_)))
      rw [if_neg (by simpa using hn), if_neg h0]
      rw [oneTypeOnly'_eq, List.mapM_toArray, map_eq_pure_bind]
      refine wpAny_bind (wpAny_bind (wpAny_bind (PySem.W.kas_mapM (r := Value.type "tuple") _ (fun v hv Q' hq' => ?_) (wpAny_pure ?_))))
      · obtain ⟨d, hd, as, rd⟩ := e.left v hv
        obtain ⟨xs, rfl⟩ := ht d hd
        exact (PySem.W.looks_reads rd).here hq'
      · obtain ⟨v1, r1, rfl⟩ : ∃ v1 r1, vs = v1 :: r1 := by
          cases vs with
          | nil => simp at h2
          | cons v1 r1 => exact ⟨v1, r1, rfl⟩
        have hall : ((List.map (fun _ => Value.type "tuple") (v1 :: r1)).toArray.all fun x => x == Value.type "tuple") = true := by
          simp only [List.all_toArray, List.all_map, List.all_eq_true]
          intro _ _
          exact beq_self_eq_true _
        have e0 : (List.map (fun _ => Value.type "tuple") (v1 :: r1)).toArray[0]? = some (Value.type "tuple") := by simp
        rw [e0]
        simp only [hall, if_true]
        exact wpAny_pure (wpAny_pure hq)
def SrtT (ds : List PyData) : Prop := Srt ds ∨ ∀ d ∈ ds, ∃ xs, d = .tuple xs
theorem srtT_at {vs : List Value} {ds : List PyData} (e : PySem.W.EachIs (fun v d => ∃ as, Reads s.heap v d as) vs ds) (al : PySem.W.AllAlike ds) (so : SrtT ds) (hu : ∀ d, d ∈ ds → A.units + d.depth < cLine) :
    PySem.W.SortsAt prog w A s (PySem.W.dataKind s.heap ds) vs := so.elim (fun h => srt_at e al h hu) fun h => srt_tups e al h hu
end
/-! ### sorted(xs, key=f), f a def of the text -/
section
variable {X : Cx} {k : Nat} {f : Addr} {fd : FuncData} {ps : List Str} {sp : Sp}
theorem run_in2 {pins : List (Addr × Obj)} {σ : L2.St} {H : Hp} {s : Shared} {Q : VK} {E : XK} {x : Value} {v : V} (F : FnOk X.prog X.w X.K X.mg X.base CX0 k f fd ps sp) (hr : Room (k + 2) X.A) (hb : Binds X.K fd ps []) (I : Inv X pins σ H s) (r : RelV v x) (h : sp [v] H Q E) :
    wpAny (model X.prog X.w) X.A.in1.in1 (call (.ref f) [x]) (EP X pins σ Q) (fun _ _ => False) s := by
  have hl : ([x] ++ ([] : List Value)).length = ps.length := F.len [v] H Q E h
  refine wpAny_call (codeAny_mono (F.run X.A.in1.in1 X.stack s H ⟨[x], []⟩ [x] [v] Q E hr.in1.in1 I.env0.in1.in1 (hb s [x] I.kIn hl) (.cons r .nil) h) fun y s' hy => ?_)
  cases y with
  | error e => exact (hy : False).elim
  | ok fl =>
    cases fl with
    | ret u => exact I.after hy
    | next => exact (hy : False).elim
    | brk => exact (hy : False).elim
    | cont => exact (hy : False).elim
theorem seq_nc (T : String) (xs : Array Value) (n : Nat) : ∀ v, (seqObj T xs n).data ≠ .cell v := fun v z => by cases z
theorem inv_pin2 {pins : List (Addr × Obj)} {σ : L2.St} {H : Hp} {s : Shared} {a b : Addr} {oa ob : Obj} (I : Inv X pins σ H s) (fa : FpOk X pins H a) (fb : FpOk X pins H b) (ga : s.heap.get? a = some oa) (gb : s.heap.get? b = some ob) (da : ∀ v, oa.data ≠ .cell v) (db : ∀ v, ob.data ≠ .cell v) :
    Inv X ((a, oa) :: (b, ob) :: pins) σ H s := I.pins_of fun p hp => by
  rcases List.mem_cons.mp hp with rfl | hp
  · exact ⟨ga, fa.1, fa.2.1, fa.2.2.1, da⟩
  rcases List.mem_cons.mp hp with rfl | hp
  · exact ⟨gb, fb.1, fb.2.1, fb.2.2.1, db⟩
  · exact I.pin p (List.mem_append_right _ hp)
theorem inv_unpin2 {pins : List (Addr × Obj)} {σ : L2.St} {H : Hp} {s : Shared} {p1 p2 : Addr × Obj} (I : Inv X (p1 :: p2 :: pins) σ H s) : Inv X pins σ H s := I.pins_of fun p hp => I.pin p (List.mem_append_right _ (List.mem_cons_of_mem _ (List.mem_cons_of_mem _ hp)))
theorem vals_get : ∀ {vs : List V} {us : List Value} {j : Nat} {x : Value}, Vals vs us → us[j]? = some x → ∃ v, vs[j]? = some v ∧ RelV v x
  | [], us, j, x, r, e => by cases r; simp at e
  | v :: vs, us, 0, x, r, e => by
    cases r with
    | cons r1 r2 => cases e; exact ⟨v, rfl, r1⟩
  | v :: vs, us, j + 1, x, r, e => by
    cases r with
    | cons r1 r2 => exact vals_get (vs := vs) (j := j) r2 (by simpa using e)
theorem each_zip : ∀ {vs : List V} {us : List Value} {ds : List PyData}, Vals vs us → ds.length = us.length → PySem.W.EachIs (fun u (p : V × PyData) => RelV p.1 u) us (vs.zip ds)
  | [], us, ds, r, e => by cases r; exact .nil
  | v :: vs, us, [], r, e => by cases r; simp at e
  | v :: vs, us, d :: ds, r, e => by
    cases r with
    | cons r1 r2 => exact .cons r1 (each_zip r2 (by simpa using e))
theorem vals_each : ∀ {bs : List (V × PyData)} {us : List Value}, PySem.W.EachIs (fun u (p : V × PyData) => RelV p.1 u) us bs → Vals (bs.map Prod.fst) us
  | [], us, e => by cases e; exact .nil
  | b :: bs, us, e => by
    cases e with
    | cons h t => exact .cons h (vals_each t)
theorem each_trk {pins : List (Addr × Obj)} {σ : L2.St} {H : Hp} {s : Shared} (I : Inv X pins σ H s) : ∀ {ds : List PyData} {vs : List V} {us : List Value}, TrKs X.K H ds vs → Vals vs us → PySem.W.EachIs (fun u d => ∃ as, Reads s.heap u d as) us ds
  | [], vs, us, t, r => by
    simp only [TrKs] at t
    subst t
    cases r
    exact .nil
  | d :: ds, vs, us, t, r => by
    simp only [TrKs] at t
    obtain ⟨v, ws, rfl, h1, h2⟩ := t
    cases r with
    | cons r1 r2 => exact .cons (Dp.reads I d v _ (TrK.dp d v h1) r1) (each_trk I h2 r2)
theorem TrKs.app {K : PySem.W.Frag} {H : Hp} : ∀ {ds es : List PyData} {vs ws : List V}, TrKs K H ds vs → TrKs K H es ws → TrKs K H (ds ++ es) (vs ++ ws)
  | [], es, vs, ws, h, g => by simp only [TrKs] at h; subst h; exact g
  | d :: ds, es, vs, ws, h, g => by
    simp only [TrKs] at h
    obtain ⟨v, r, rfl, h1, h2⟩ := h
    simp only [List.cons_append, TrKs]
    exact ⟨v, r ++ ws, rfl, h1, TrKs.app h2 g⟩
theorem TrKs.length {K : PySem.W.Frag} {H : Hp} : ∀ {ds : List PyData} {vs : List V}, TrKs K H ds vs → vs.length = ds.length
  | [], vs, h => by simp only [TrKs] at h; subst h; rfl
  | d :: ds, vs, h => by
    simp only [TrKs] at h
    obtain ⟨v, r, rfl, h1, h2⟩ := h
    rw [List.length_cons, List.length_cons, TrKs.length h2]
def rSortKey (K : PySem.W.Frag) (sp : Sp) (f : Addr) : List V → List V → Hp → VK → Prop := fun xs zs H Q => ∃ (l : Addr) (vs : List V) (ds : List PyData), xs = [.ref l] ∧ zs = [.ref f] ∧ H l = some (.lst vs) ∧ ds.length = vs.length ∧ PySem.W.AllAlike ds ∧ SrtT ds ∧ (∀ d ∈ ds, d.depth ≤ 60) ∧
  (∀ (i : Nat) (v : V) (d : PyData), vs[i]? = some v → ds[i]? = some d → ∀ H1, Kp [] H H1 → sp [v] H1 (fun u H2 => TrK K H2 d u ∧ Kp [] H1 H2) fun _ _ _ => False) ∧
  ∀ p ws H', H p = none → H' p = some (.lst ws) → ws = ((vs.zip ds).mergeSort (PySem.W.dataLe false Prod.snd)).map Prod.fst → Kp [] H H' → Q (.ref p) H'
theorem cr_sortKey {K : PySem.W.Frag} (hK : X.K = K) (F : FnOk X.prog X.w X.K X.mg X.base CX0 k f fd ps sp) (hr : Room (k + 2) X.A) (hb : Binds X.K fd ps []) : CallRK X (.builtin "sorted") [Str.ofString "key"] (rSortKey K sp f) := by
  subst hK
  intro pins s σ H xs zs us ws Q I r r2 h
  obtain ⟨l, vs, ds, rfl, rfl, hl, hlen, al, so, hd, turn, q⟩ := h
  rw [Vals.ref1 r, Vals.ref1 r2]
  obtain ⟨its, rv, hpl, hz⟩ := I.list (SqL.of hl)
  have lv := rv.length
  have hL : its.length ≤ sizeLine := by omega
  have dl : ds.length = its.length := by omega
  refine PySem.W.sorted_of_sort hpl.isList hL (ksk_s1 _ _) (fun _ => ksk_l1 _ _) fun E' => ?_
  rw [show Builtin.«list.sort» ⟨[.ref (s.heap.objs.size + 1)], [Str.ofString "key"].zip [Value.ref f]⟩ = ksk_tree (s.heap.objs.size + 1) (.ref f) false from ksk_t1 f _]
  have ho := PySem.W.copyHeap_at s.heap its
  have oldC : ∀ b o, s.heap.get? b = some o → (PySem.W.copyHeap s.heap its).get? b = some o := fun b o e => PySem.W.copyHeap_old e
  have szC : (PySem.W.copyHeap s.heap its).objs.size = s.heap.objs.size + 2 := by
    unfold PySem.W.copyHeap
    rw [size_push', Heap.size_update, size_push']
  have fpA : ∀ H', H' (s.heap.objs.size + 1) = none → FpOk X pins H' (s.heap.objs.size + 1) := fun H' hn => I.fpOk (Nat.le_succ _) hn
  have noA : s.heap.get? (s.heap.objs.size + 1) = none := Heap.get?_none_of_le (Nat.le_succ _)
  have hA : H (s.heap.objs.size + 1) = none := I.hok.fresh (Nat.le_succ _)
  have sA : s.heap.objs.size ≤ s.heap.objs.size + 1 := Nat.le_succ _
  revert ho oldC szC fpA noA hA
  generalize hC : PySem.W.copyHeap s.heap its = C
  generalize hAe : s.heap.objs.size + 1 = a
  intro ho oldC szC fpA noA hA
  obtain ⟨e1, ho1⟩ : ∃ e1, (C.update a (Obj.mapSeq fun _ => (#[] : Array Value))).get? a = some (seqObj "list" #[] e1) := ⟨_, get?_update_seq ho fun _ => #[]⟩
  unfold ksk_tree
  refine wpAny_bind (listItems_at (s := { s with heap := C }) ho rfl ?_)
  refine wpAny_bind (listUpdate_at (s := { s with heap := C }) ho rfl ?_ (by rw [List.size_toArray]; exact hL) (Nat.zero_le _))
  refine wpAny_bind (seqEpoch_at (s := { s with heap := C.update a (Obj.mapSeq fun _ => (#[] : Array Value)) }) ho1 rfl ?_)
  refine wpAny_bind (wpAny_newTuple ?_ (by show its.length ≤ _; exact hL))
  refine wpAny_bind (wpAny_newList ?_ (Nat.zero_le _))
  refine wpAny_holding ?_
  have szK : ((C.update a (Obj.mapSeq fun _ => (#[] : Array Value))).push (seqObj "tuple" its.toArray 0)).objs.size = s.heap.objs.size + 3 := by
    rw [size_push', Heap.size_update, szC]
  have gA : (((C.update a (Obj.mapSeq fun _ => (#[] : Array Value))).push (seqObj "tuple" its.toArray 0)).push (seqObj "list" #[] 0)).get? a = some (seqObj "list" #[] e1) := Heap.get?_push_of_some _ (Heap.get?_push_of_some _ ho1)
  have gK : (((C.update a (Obj.mapSeq fun _ => (#[] : Array Value))).push (seqObj "tuple" its.toArray 0)).push (seqObj "list" #[] 0)).get? (s.heap.objs.size + 3) = some (seqObj "list" #[] 0) := by
    rw [← szK]
    exact Heap.get?_push_size _ rfl
  have oldE : ∀ b o, s.heap.get? b = some o → (((C.update a (Obj.mapSeq fun _ => (#[] : Array Value))).push (seqObj "tuple" its.toArray 0)).push (seqObj "list" #[] 0)).get? b = some o := fun b o e => by
    refine Heap.get?_push_of_some _ (Heap.get?_push_of_some _ ?_)
    rw [Heap.get?_update_ne _ _ _ _ (by intro z; rw [z, noA] at e; cases e)]
    exact oldC b o e
  show wpAny (model X.prog X.w) X.A.in1.in1 (ksk_rest a (.ref f) false its.toArray e1 (.ref ((C.update a (Obj.mapSeq fun _ => (#[] : Array Value))).push (seqObj "tuple" its.toArray 0)).objs.size)) _ _ { s with heap := ((C.update a (Obj.mapSeq fun _ => (#[] : Array Value))).push (seqObj "tuple" its.toArray 0)).push (seqObj "list" #[] 0) }
  rw [szK]
  have hKn : H (s.heap.objs.size + 3) = none := I.hok.fresh (by omega)
  have fpK : ∀ H', H' (s.heap.objs.size + 3) = none → FpOk X pins H' (s.heap.objs.size + 3) := fun H' hn => I.fpOk (by omega) hn
  have nKA : s.heap.objs.size + 3 ≠ a := by omega
  revert gA gK oldE hKn fpK nKA
  generalize (((C.update a (Obj.mapSeq fun _ => (#[] : Array Value))).push (seqObj "tuple" its.toArray 0)).push (seqObj "list" #[] 0)) = h3
  generalize s.heap.objs.size + 3 = c
  intro gA gK oldE hKn fpK nKA
  have I0 : Inv X pins σ H { s with heap := h3 } := I.kept (t' := s.toks) oldE
  unfold ksk_rest
  refine wpAny_bind (wpAny_rule ?_)
  rw [List.forIn_toArray]
  refine wpAny_bind (ksk_fold (fun i s' => ∃ Hi kA e ks, Inv X ((a, seqObj "list" #[] e1) :: (c, seqObj "list" kA e) :: pins) σ Hi s' ∧ Kp [] H Hi ∧ Vals ks kA.toList ∧ TrKs X.K Hi (ds.take i) ks) its 0 _ ⟨H, #[], 0, [], inv_pin2 I0 (fpA H hA) (fpK H hKn) gA gK (seq_nc _ _ _) (seq_nc _ _ _), Kp.refl, .nil, by rw [List.take_zero]; simp only [TrKs]⟩ ?step ?done)
  case step =>
    rintro j x s' hx ⟨Hi, kA, e, ks, Ii, ki, rk, tk⟩
    simp only [Nat.zero_add] at tk ⊢
    have hj : j < its.length := (List.getElem?_eq_some_iff.mp hx).1
    obtain ⟨v, hv, rx⟩ := vals_get rv hx
    obtain ⟨d, hdj⟩ : ∃ d, ds[j]? = some d := ⟨_, List.getElem?_eq_getElem (by omega)⟩
    have hks : kA.size = j := by
      have h1 : ks.length = kA.size := by rw [← Array.length_toList]; exact rk.length
      have h2 : ks.length = (ds.take j).length := TrKs.length tk
      rw [List.length_take] at h2
      omega
    refine wpAny_bind (wpAny_attempt (wpAny_mono (run_in2 F hr hb Ii rx (turn j v d hv hdj Hi ki)) (fun u s2 hu => ?_) fun _ _ z => z.elim))
    obtain ⟨v2, H2, I2, ru, t2, k2⟩ := hu
    have pA := I2.pin (a, seqObj "list" #[] e1) (List.mem_append_right _ List.mem_cons_self)
    have pK := I2.pin (c, seqObj "list" kA e) (List.mem_append_right _ (List.mem_cons_of_mem _ List.mem_cons_self))
    have pKg : s2.heap.get? c = some (seqObj "list" kA e) := pK.1
    refine wpAny_bind (listUpdate_at pKg rfl ?_ (by omega) (by rw [Array.size_push]; omega))
    have s1 := Heap.SameBut.update s2.heap c (Obj.mapSeq (·.push u))
    obtain ⟨e2, he2⟩ : ∃ e2, (s2.heap.update c (Obj.mapSeq (·.push u))).get? c = some (seqObj "list" (kA.push u) e2) := ⟨_, get?_update_seq pKg (·.push u)⟩
    have I3 : Inv X pins σ H2 { s2 with heap := s2.heap.update c (Obj.mapSeq (·.push u)), toks := s2.toks } := (inv_unpin2 I2).turnedL (ch := [c]) (fun b o hb e => (s1.2 b (by simpa using hb)).trans e) (fun b hb => by
      cases List.mem_singleton.mp hb
      exact fpK H2 pK.2.1)
    refine wpAny_pure ⟨rfl, H2, kA.push u, e2, ks ++ [v2], inv_pin2 I3 (fpA H2 pA.2.1) (fpK H2 pK.2.1) ((s1.2 a nKA.symm).trans pA.1) he2 (seq_nc _ _ _) (seq_nc _ _ _), ki.trans k2, ?_, ?_⟩
    · rw [Array.toList_push]
      exact rk.append (.cons ru .nil)
    · rw [List.take_add_one, hdj]
      exact (k2.trKs tk).app (by simp only [Option.toList_some, TrKs]; exact ⟨v2, [], rfl, t2, rfl⟩)
  case done =>
    rintro s' ⟨Hi, kA, e, ks, Ii, ki, rk, tk⟩
    have tk : TrKs X.K Hi ds ks := by rw [List.take_of_length_le (by omega)] at tk; exact tk
    have pA := Ii.pin (a, seqObj "list" #[] e1) (List.mem_append_right _ List.mem_cons_self)
    have pK := Ii.pin (c, seqObj "list" kA e) (List.mem_append_right _ (List.mem_cons_of_mem _ List.mem_cons_self))
    have pKg : s'.heap.get? c = some (seqObj "list" kA e) := pK.1
    have pAg : s'.heap.get? a = some (seqObj "list" #[] e1) := pA.1
    have hsz : kA.size = its.length := by
      have h1 : ks.length = kA.size := by rw [← Array.length_toList]; exact rk.length
      have h2 : ks.length = ds.length := TrKs.length tk
      omega
    have ek : PySem.W.EachIs (fun u d => ∃ as, Reads s'.heap u d as) kA.toList ds := each_trk Ii tk rk
    have gone : (s'.heap.update c fun o => { o with data := .freed }).get? c = none := by
      have := Heap.lt_size pKg
      cases hh : s'.heap with
      | mk objs l =>
        rw [hh] at this
        simp only [Heap.update, Heap.get?]
        rw [Array.getElem?_modify]
        simp only [if_true]
        cases objs[c]? <;> rfl
    refine wpAny_bind (listItems_at pKg rfl ?_)
    refine PySem.W.keyH_end (κ := PySem.W.dataKind s'.heap ds) (h₁ := s'.heap.update c fun o => { o with data := .freed }) (fun b o hb hg => ?_) gone pKg pAg nKA (srtT_at ek al so fun d hdm => ?_) hsz hL fun h' t' c' kp na => ⟨rfl, ?_⟩
    · by_cases hbc : b = c
      · rw [hbc, gone] at hg
        cases hg
      · rw [Heap.get?_update_ne _ _ _ _ hbc] at hg
        exact hg
    · have := hd d hdm
      have := hr.un
      show X.A.units + 1 + 1 + d.depth < cLine
      omega
    have ez : (vs.zip ds).map Prod.snd = ds := List.map_snd_zip (by omega)
    have ko : PySem.W.KeyedOut false ((vs.zip ds).map Prod.snd) its (PySem.W.sortVals (PySem.W.dataKind s'.heap ds) false kA.toList its) := by
      rw [ez]
      exact ⟨s'.heap, kA.toList, al, rfl, ek⟩
    have rw1 := vals_each (PySem.W.keyedOut_each Prod.snd ko (each_zip rv dl))
    have hw : (((vs.zip ds).mergeSort (PySem.W.dataLe false Prod.snd)).map Prod.fst).length ≤ sizeLine := by
      rw [rw1.length, PySem.W.sortVals_length false (by rw [Array.length_toList]; exact hsz)]
      exact hL
    have I5 : Inv X pins σ Hi { s' with heap := h', toks := t' } := (inv_unpin2 Ii).turnedL (ch := [a, c]) (fun b o hb e => by
      simp only [List.mem_cons, List.not_mem_nil, or_false, not_or] at hb
      exact kp b o hb.1 (by rw [Heap.get?_update_ne _ _ _ _ hb.2]; exact e)) (fun b hb => by
      simp only [List.mem_cons, List.not_mem_nil, or_false] at hb
      rcases hb with rfl | rfl
      · exact fpA Hi pA.2.1
      · exact fpK Hi pK.2.1)
    have I6 := I5.take (t' := t') (h' := h') (it := a) (o := .lst (((vs.zip ds).mergeSort (PySem.W.dataLe false Prod.snd)).map Prod.fst)) (fun b ob _ e => e) (fpA Hi pA.2.1) ⟨hw, _, c', rw1, na⟩
    exact ⟨.ref a, _, I6, rfl, q a _ _ hA upd_same rfl (ki.trans (Kp.new pA.2.1))⟩
end
end EH
namespace EH
open PySem L2
/-! ### sorted by rank, by turns -/
section
variable {X : Cx} {k : Nat} {f : Addr} {fd : FuncData} {ps : List Str}
theorem CallRK.imp {g : Value} {ks : List Str} {r r' : List V → List V → Hp → VK → Prop} (h : CallRK X g ks r) (i : ∀ xs zs H Q, r' xs zs H Q → r xs zs H Q) : CallRK X g ks r' := fun pins s σ H xs zs us ws Q I a b q => h pins s σ H xs zs us ws Q I a b (i xs zs H Q q)
theorem le_ints (x y : Int) : PySem.W.dataLe (β := PyData) false id (.int x) (.int y) = decide (x ≤ y) := by
  rw [PySem.W.dataLe_eq]
  show (!PySem.W.dataLt (.int y) (.int x)) = _
  rw [PySem.W.dataLt_int, PySem.W.not_lt_int]
theorem le_turns (x y : List Int) : PySem.W.dataLe (β := PyData) false id (.tuple (x.map .int)) (.tuple (y.map .int)) = decide (x ≤ y) := by
  rw [PySem.W.dataLe_eq]
  show (!PySem.W.dataLt (.tuple (y.map .int)) (.tuple (x.map .int))) = _
  rw [PySem.W.dataLt_tuple]
  show (!PySem.W.rowLt (y.map .int) (x.map .int)) = _
  rw [PySem.W.dataLt_ints]
  by_cases h : y < x
  · have h' : ¬ x ≤ y := fun r => List.not_lt.mpr r h
    simp [h, h']
  · have h' : x ≤ y := List.not_lt.mp h
    simp [h, h']
def rSortRank (f : Addr) : List V → List V → Hp → VK → Prop := fun xs zs H Q => ∃ (l : Addr) (ns : List Int), xs = [.ref l] ∧ zs = [.ref f] ∧ H l = some (.lst (ns.map V.int)) ∧
  ∀ (p : Addr) (ns' : List Int) (H' : Hp), H p = none → H' p = some (.lst (ns'.map V.int)) → ns'.Perm ns → ns'.Pairwise (fun a b => rnk a ≤ rnk b) → Kp [] H H' → Q (.ref p) H'
theorem cr_sortRank {K : PySem.W.Frag} (hK : X.K = K) (F : FnOk X.prog X.w X.K X.mg X.base CX0 k f fd ps spRank) (hr : Room (k + 2) X.A) (hb : Binds X.K fd ps []) : CallRK X (.builtin "sorted") [Str.ofString "key"] (rSortRank f) :=
  CallRK.imp (cr_sortKey hK F hr hb) fun xs zs H Q ⟨l, ns, e1, e2, hl, q⟩ => by
    refine ⟨l, ns.map V.int, ns.map fun n => .int (rnk n), e1, e2, hl, by rw [List.length_map, List.length_map], fun d hd d' hd' => ?_, .inl (.inl (.inr fun d hd => ?_)), fun d hd => ?_, fun i v d hv hd H1 k1 => ?_, fun p ws H' hp hp' ew k1 => ?_⟩
    · obtain ⟨a, _, rfl⟩ := List.mem_map.mp hd
      obtain ⟨b, _, rfl⟩ := List.mem_map.mp hd'
      rfl
    · obtain ⟨a, _, rfl⟩ := List.mem_map.mp hd
      exact ⟨fun z => (nomatch z), fun xs z => (nomatch z)⟩
    · obtain ⟨a, _, rfl⟩ := List.mem_map.mp hd
      show PyData.depth (.int _) ≤ 60
      simp only [PyData.depth]
      decide
    · rw [List.getElem?_map] at hv hd
      cases e : ns[i]? with
      | none => rw [e] at hv; cases hv
      | some n =>
        rw [e] at hv hd
        cases hv
        cases hd
        exact ⟨n, rfl, by simp only [TrK], Kp.refl⟩
    · have ez : (ns.map V.int).zip (ns.map fun n => PyData.int (rnk n)) = ns.map fun n => (V.int n, PyData.int (rnk n)) := by
        rw [List.zip_map', ]
      have em := List.map_mergeSort (r := fun a b => decide (rnk a ≤ rnk b)) (s := PySem.W.dataLe false Prod.snd) (f := fun n => (V.int n, PyData.int (rnk n))) (l := ns) (fun a _ b _ => (le_ints (rnk a) (rnk b)).symm)
      rw [ez, ← em, List.map_map] at ew
      have ew : ws = (ns.mergeSort fun a b => decide (rnk a ≤ rnk b)).map V.int := ew
      subst ew
      refine q p _ H' hp hp' (List.mergeSort_perm _ _) ?_ k1
      refine (List.pairwise_mergeSort (fun a b c h1 h2 => ?_) (fun a b => ?_) ns).imp fun {a b} h => of_decide_eq_true h
      · have := of_decide_eq_true h1
        have := of_decide_eq_true h2
        exact decide_eq_true (by omega)
      · simp only [Bool.or_eq_true, decide_eq_true_eq]
        omega
def spTurnsOf (K : PySem.W.Frag) : Sp := fun vs H Q _ => ∃ (v : V) (r : Pc × Rn), vs = [v] ∧ RwAt K H r v ∧ ∀ ta, TK K H ta (r.2.turns.map V.int) → Q (.ref ta) H
theorem RwsAt.get {K : PySem.W.Frag} {H : Hp} : ∀ {l : List (Pc × Rn)} {vs : List V} {i : Nat} {r : Pc × Rn}, RwsAt K H l vs → l[i]? = some r → ∃ v, vs[i]? = some v ∧ RwAt K H r v
  | [], vs, i, r, h, e => by simp at e
  | x :: l, vs, 0, r, h, e => by
    obtain ⟨v, w, rfl, h1, h2⟩ := h
    cases e
    exact ⟨v, rfl, h1⟩
  | x :: l, vs, i + 1, r, h, e => by
    obtain ⟨v, w, rfl, h1, h2⟩ := h
    exact RwsAt.get (i := i) h2 (by simpa using e)
theorem RwsAt.zip {K : PySem.W.Frag} {H : Hp} : ∀ {l : List (Pc × Rn)} {vs : List V}, RwsAt K H l vs → ∀ p ∈ l.zip vs, RwAt K H p.1 p.2
  | [], vs, h, p, hp => by simp at hp
  | x :: l, vs, h, p, hp => by
    obtain ⟨v, w, rfl, h1, h2⟩ := h
    rcases List.mem_cons.mp (show p ∈ (x, v) :: l.zip w from hp) with rfl | z
    · exact h1
    · exact RwsAt.zip h2 p z
theorem RwsAt.of {K : PySem.W.Frag} {H : Hp} : ∀ {z : List ((Pc × Rn) × V)}, (∀ p ∈ z, RwAt K H p.1 p.2) → RwsAt K H (z.map Prod.fst) (z.map Prod.snd)
  | [], h => rfl
  | p :: z, h => ⟨p.2, z.map Prod.snd, rfl, h p List.mem_cons_self, RwsAt.of fun q hq => h q (List.mem_cons_of_mem _ hq)⟩
def byTurns (L : List (Pc × Rn)) : List (Pc × Rn) := L.mergeSort fun a b => decide (a.2.turns ≤ b.2.turns)
def rSortTurns (K : PySem.W.Frag) (f : Addr) : List V → List V → Hp → VK → Prop := fun xs zs H Q => ∃ (l : Addr) (vs : List V) (L : List (Pc × Rn)), xs = [.ref l] ∧ zs = [.ref f] ∧ H l = some (.lst vs) ∧ RwsAt K H L vs ∧
  ∀ (p : Addr) (L' : List (Pc × Rn)) (vs' : List V) (H' : Hp), H p = none → H' p = some (.lst vs') → RwsAt K H' L' vs' → L'.Perm L → L'.Pairwise (fun a b => a.2.turns ≤ b.2.turns) → L' = byTurns L → Kp [] H H' → Q (.ref p) H'
theorem alike_ints : ∀ x y : List Int, PySem.W.alikeAll (x.map .int) (y.map .int) = true
  | [], y => by simp [PySem.W.alikeAll]
  | a :: x, [] => by simp [PySem.W.alikeAll]
  | a :: x, b :: y => by
    simp only [List.map_cons, PySem.W.alikeAll, Bool.and_eq_true]
    exact ⟨rfl, alike_ints x y⟩
theorem ints_depth (x : List Int) : PyData.depthAll (x.map .int) = 0 := by
  induction x with
  | nil => simp only [List.map_nil, PyData.depthAll]
  | cons a r ih => simp only [List.map_cons, PyData.depthAll, PyData.depth, ih]; rfl
theorem trK_ints {K : PySem.W.Frag} {H : Hp} : ∀ x : List Int, TrKs K H (x.map .int) (x.map V.int)
  | [] => trK_nil
  | a :: r => trK_cons (by simp only [TrK]) (trK_ints r)
theorem cr_sortTurns {K : PySem.W.Frag} (hK : X.K = K) (F : FnOk X.prog X.w X.K X.mg X.base CX0 k f fd ps (spTurnsOf K)) (hr : Room (k + 2) X.A) (hb : Binds X.K fd ps []) : CallRK X (.builtin "sorted") [Str.ofString "key"] (rSortTurns K f) :=
  CallRK.imp (cr_sortKey hK F hr hb) fun xs zs H Q ⟨l, vs, L, e1, e2, hl, hL, q⟩ => by
    have ll := hL.length
    refine ⟨l, vs, L.map fun r => .tuple (r.2.turns.map .int), e1, e2, hl, by rw [List.length_map, ll], fun d hd d' hd' => ?_, .inr fun d hd => ?_, fun d hd => ?_, fun i v d hv hd H1 k1 => ?_, fun p ws H' hp hp' ew k1 => ?_⟩
    · obtain ⟨a, _, rfl⟩ := List.mem_map.mp hd
      obtain ⟨b, _, rfl⟩ := List.mem_map.mp hd'
      simp only [PySem.W.alike]
      exact alike_ints _ _
    · obtain ⟨a, _, rfl⟩ := List.mem_map.mp hd
      exact ⟨_, rfl⟩
    · obtain ⟨a, _, rfl⟩ := List.mem_map.mp hd
      simp only [PyData.depth, ints_depth]
      decide
    · rw [List.getElem?_map] at hd
      cases e : L[i]? with
      | none => rw [e] at hd; cases hd
      | some r =>
        rw [e] at hd
        cases hd
        obtain ⟨v', hv', rv⟩ := hL.get e
        rw [hv] at hv'
        cases hv'
        exact ⟨v, r, rfl, rv.kp k1, fun ta ht => ⟨mk_tupK ht (trK_ints _), Kp.refl⟩⟩
    · have ez : vs.zip (L.map fun r => PyData.tuple (r.2.turns.map .int)) = (L.zip vs).map fun p => (p.2, PyData.tuple (p.1.2.turns.map .int)) := by
        clear ew q hL hl
        revert vs
        induction L with
        | nil => intro vs _; simp
        | cons r L ih =>
          intro vs ll
          cases vs with
          | nil => rfl
          | cons v vs =>
            show (v, _) :: vs.zip _ = (v, _) :: (L.zip vs).map _
            rw [ih vs (by simpa using ll)]
      have em := List.map_mergeSort (r := fun (a b : (Pc × Rn) × V) => decide (a.1.2.turns ≤ b.1.2.turns)) (s := PySem.W.dataLe false Prod.snd) (f := fun (p : (Pc × Rn) × V) => (p.2, PyData.tuple (p.1.2.turns.map .int))) (l := L.zip vs) (fun a _ b _ => (le_turns a.1.2.turns b.1.2.turns).symm)
      rw [ez, ← em, List.map_map] at ew
      have ew : ws = ((L.zip vs).mergeSort fun a b => decide (a.1.2.turns ≤ b.1.2.turns)).map Prod.snd := ew
      subst ew
      have pm := List.mergeSort_perm (L.zip vs) fun a b => decide (a.1.2.turns ≤ b.1.2.turns)
      refine q p (((L.zip vs).mergeSort fun a b => decide (a.1.2.turns ≤ b.1.2.turns)).map Prod.fst) _ H' hp hp' (RwsAt.of fun p hp => (hL.zip p (pm.mem_iff.mp hp)).kp k1) ?_ ?_ ?_ k1
      · refine (pm.map _).trans ?_
        rw [List.map_fst_zip (by omega)]
      · refine List.pairwise_map.mpr ((List.pairwise_mergeSort (fun a b c h1 h2 => ?_) (fun a b => ?_) (L.zip vs)).imp fun {a b} h => of_decide_eq_true h)
        · exact decide_eq_true (List.le_trans (of_decide_eq_true h1) (of_decide_eq_true h2))
        · simp only [Bool.or_eq_true, decide_eq_true_eq]
          exact List.le_total _ _
      · rw [List.map_mergeSort (r := fun (a b : (Pc × Rn) × V) => decide (a.1.2.turns ≤ b.1.2.turns)) (s := fun (a b : Pc × Rn) => decide (a.2.turns ≤ b.2.turns)) (f := Prod.fst) (l := L.zip vs) (fun a _ b _ => rfl), List.map_fst_zip (by omega)]
        rfl
end
/-! ### bounds of rows -/
def BB : Nat := 10 ^ 557
structure RowB (W : Nat) (r : Pc × Rn) : Prop where
  ok : r.1.ok
  pw : ∃ e : Nat, r.1.by_ = 2 ^ e
  byW : r.1.by_ ≤ 2 ^ W
  lo : oOk BB r.1.low
  hi : oOk BB r.1.high
  t01 : ty01 r.2.turns
  lt : r.2.turns.length ≤ 120
  le : r.2.items.length ≤ 120
  it : ∀ f, Sum.inr f ∈ r.2.items → f.1.natAbs ≤ BB ∧ f.2.1.natAbs ≤ BB ∧ (∃ e : Nat, e ≤ 50 ∧ f.2.2 = 2 ^ e)
  iw : ∀ w, Sum.inl w ∈ r.2.items → PyData.strOk w = true ∧ w.length ≤ 20
  wok : ∀ w, r.2.word = some w → PyData.strOk w = true ∧ w.length ≤ 20
theorem PB120 {k : Nat} (h : k ≤ 120) : PB k * 2 ^ 51 + 2 ^ 50 ≤ BB := by
  refine Nat.le_trans (Nat.add_le_add_right (Nat.mul_le_mul_right _ (PB.mono h)) _) ?_
  decide +kernel
theorem natAbs_pow2 (e : Nat) : ((2 : Int) ^ e).natAbs = 2 ^ e := by rw [Int.natAbs_pow]; rfl
theorem log2_pow {e : Nat} (h : e < 9000) : ((2 : Int) ^ e).natAbs.log2 < 9000 := by rw [natAbs_pow2, Nat.log2_two_pow]; exact h
theorem exp_le {e W : Nat} (h : (2 : Int) ^ e ≤ 2 ^ W) : e ≤ W := by
  rcases Nat.lt_or_ge W e with z | z
  · have h1 : (2 : Nat) ^ (W + 1) ≤ 2 ^ e := Nat.pow_le_pow_right (by decide) z
    have h2 : (2 : Int) ^ (W + 1) ≤ 2 ^ e := by exact_mod_cast h1
    rw [Int.pow_succ] at h2
    have : (0 : Int) < 2 ^ W := Int.pow_pos (by decide)
    omega
  · exact z
theorem redE_le : ∀ (e : Nat) (a b : Int), (redE e a b).1.natAbs ≤ a.natAbs ∧ (redE e a b).2.1.natAbs ≤ b.natAbs ∧ (redE e a b).2.2 ≤ e
  | 0, a, b => by simp [redE]
  | e + 1, a, b => by
    unfold redE
    split
    · have := redE_le e (a / 2) (b / 2)
      omega
    · exact ⟨Nat.le_refl _, Nat.le_refl _, Nat.le_refl _⟩
theorem Gd.row {W k : Nat} {P : PS} (g : Gd W k P) : RowB W (P.pc, P.rn) := by
  obtain ⟨e, he⟩ := g.pw
  have hk : k ≤ 120 := by have := g.rem; omega
  have bb := PB120 hk
  have by50 := g.by50
  have byW := g.byW
  have b0 := g.by0
  have r0 := g.r0
  have r1 := g.r1
  have e50 : e ≤ 50 := by rw [he] at by50; exact exp_le by50
  have e5 : (2 : Int) ^ 50 = 1125899906842624 := by decide
  have e5n : (2 : Nat) ^ 50 = 1125899906842624 := by decide
  have e51 : (2 : Nat) ^ 51 = 2 * 1125899906842624 := by decide
  rw [e5] at by50
  rw [e5n, e51] at bb
  have mb : ∀ i : Int, i.natAbs ≤ PB k → (P.by_ * i + P.rest).natAbs ≤ BB := fun i hi => by
    have h1 : (P.by_ * i).natAbs ≤ 1125899906842624 * PB k := by
      rw [Int.natAbs_mul]
      exact Nat.mul_le_mul (by omega) hi
    omega
  refine ⟨⟨b0, by show P.by_.natAbs.log2 < 9000; rw [he]; exact log2_pow (by omega), r0, r1⟩, ⟨e, he⟩, byW, fun i ei => ?_, fun i ei => ?_, g.t01, by have := g.lt; show P.turns.length ≤ 120; omega, ?_, fun f hf => ?_, fun w hw => ?_, g.wok⟩
  · obtain ⟨l, hl, rfl⟩ := Option.map_eq_some_iff.mp (show P.low.map (fun l => P.by_ * l + P.rest) = some i from ei)
    exact mb l (g.lo l hl)
  · obtain ⟨l, hl, rfl⟩ := Option.map_eq_some_iff.mp (show P.high.map (fun l => P.by_ * l + P.rest) = some i from ei)
    exact mb l (g.hi l hl)
  · show (P.tell.map _).length ≤ 120
    rw [List.length_map]
    have := g.le
    omega
  · obtain ⟨x, hx, ex⟩ := List.mem_map.mp (show Sum.inr f ∈ P.tell.map (itF1 P.rest P.by_) from hf)
    cases x with
    | inl w => cases ex
    | inr y =>
      obtain ⟨y1, y2⟩ := (show pOk (PB k) y from g.te _ hx)
      have ex : formOf y P.rest P.by_ = f := Sum.inr.inj ex
      subst ex
      unfold formOf fmE
      obtain ⟨q1, q2, q3⟩ := redE_le (logE P.by_) y.1 (y.2 * P.by_ - y.1 * P.rest)
      have le : logE P.by_ = e := by rw [he, logE_pow]
      have m1 : (y.2 * P.by_).natAbs ≤ PB k * 1125899906842624 := by rw [Int.natAbs_mul]; exact Nat.mul_le_mul y2 (by omega)
      have m2 : (y.1 * P.rest).natAbs ≤ PB k * 1125899906842624 := by rw [Int.natAbs_mul]; exact Nat.mul_le_mul y1 (by omega)
      refine ⟨by dsimp only; omega, by dsimp only; omega, _, ?_, rfl⟩
      rw [le] at q3 ⊢
      omega
  · obtain ⟨x, hx, ex⟩ := List.mem_map.mp (show Sum.inl w ∈ P.tell.map (itF1 P.rest P.by_) from hw)
    cases x with
    | inr y => cases ex
    | inl w' =>
      cases ex
      exact (show PyData.strOk w = true ∧ w.length ≤ 20 from g.te _ hx)
theorem RowB.fok {W : Nat} {r : Pc × Rn} (h : RowB W r) {n : Int} (hn : n.natAbs ≤ BB * 2 ^ 60) : ∀ f, Sum.inr f ∈ r.2.items → fOk f n := fun f hf => by
  obtain ⟨h1, h2, e, he, h3⟩ := h.it f hf
  refine ⟨by rw [h3]; exact Int.pow_pos (by decide), by rw [h3]; exact log2_pow (by omega), ?_⟩
  refine wide_mul (a := 4000) (b := 4000) ?_ ?_ (by decide) (by decide) (by decide)
  · exact Nat.lt_of_le_of_lt h1 (by decide +kernel)
  · exact Nat.lt_of_le_of_lt hn (by decide +kernel)
end EH
namespace EH
open PySem L2
theorem lf_get {W : Nat} {K : PySem.W.Frag} {C : Addr} {H0 H : Hp} : ∀ {as : List Pad} {Ps : List PS} {i : Nat} {P : PS}, LfAt W K C H0 H as Ps → Ps[i]? = some P → ∃ a k, as[i]? = some a ∧ Gd W k P ∧ PathAt K C H0 H a P (k + 1)
  | [], Ps, i, P, h, e => by cases (show Ps = [] from h); simp at e
  | a :: as, Ps, 0, P, h, e => by
    obtain ⟨P', Qs, rfl, ⟨k, g, h1⟩, h2, h3⟩ := h
    cases e
    exact ⟨a, k, rfl, g, h1⟩
  | a :: as, Ps, i + 1, P, h, e => by
    obtain ⟨P', Qs, rfl, ⟨k, g, h1⟩, h2, h3⟩ := h
    exact lf_get (i := i) h3 (by simpa using e)
theorem lf_gd {W : Nat} {K : PySem.W.Frag} {C : Addr} {H0 H : Hp} {as : List Pad} {Ps : List PS} (h : LfAt W K C H0 H as Ps) : ∀ P ∈ Ps, ∃ k, Gd W k P := fun P hP => by
  obtain ⟨i, hi, e⟩ := List.mem_iff_getElem.mp hP
  obtain ⟨a, k, _, g, _⟩ := lf_get h (i := i) (by rw [List.getElem?_eq_getElem hi, e])
  exact ⟨k, g⟩
theorem RFam.perm {ways : Int → Option Int} {b : List Sm} {In : Int → Prop} {F G : List (Pc × Rn)} (h : RFam ways b In F) (p : F.Perm G) : RFam ways b In G :=
  ⟨fun r hr => h.sound r (p.mem_iff.mpr hr), fun r hr => h.runs r (p.mem_iff.mpr hr), fun n c hi hc => let ⟨r, hr, x⟩ := h.cover n c hi hc; ⟨r, p.mem_iff.mp hr, x⟩, (p.pairwise_iff fun {x y} hxy n c a1 a2 b1 b2 t => hxy n c a2 a1 b2 b1 t).mp h.disj⟩
theorem gd_exact {W k : Nat} {P : PS} (g : Gd W k P) {n : Int} (hn : P.pc.has n) {f : Fm} (hf : Sum.inr f ∈ P.rn.items) : f.1 * n + f.2.1 = f.2.2 * Fm.at_ f n := by
  obtain ⟨t, ha⟩ := (pc_has g.by0 g.r0 g.r1).mp hn
  obtain ⟨e, he⟩ := g.pw
  obtain ⟨x, hx, ex⟩ := List.mem_map.mp (show Sum.inr f ∈ P.tell.map (itF1 P.rest P.by_) from hf)
  cases x with
  | inl w => cases ex
  | inr y =>
    have ex : formOf y P.rest P.by_ = f := Sum.inr.inj ex
    rw [← ex, ha.1, form_num he]
    exact form_at he
/-- a piece on which paths can be asked for -/
structure PcIn (p : Pc) (e : Nat) : Prop where
  by_ : p.by_ = 2 ^ e
  byl : p.by_ ≤ 2 ^ 46
  r0 : 0 ≤ p.rest
  r1 : p.rest < p.by_
  lo : oOk (10 ^ 59) p.low
  hi : oOk (10 ^ 59) p.high
/-- the rows of a program on a piece, as they are found -/
def TellsR (ways : Int → Option Int) (b : List Sm) (p : Pc) (L : List (Pc × Rn)) : Prop := ∃ Fs, Its ways [PS0 p.rest p.by_ p.low p.high b] [] Fs ∧ L = byTurns (Fs.map fun P => (P.pc, P.rn))
theorem TellsR.one {ways : Int → Option Int} {b : List Sm} {p : Pc} {L L' : List (Pc × Rn)} : TellsR ways b p L → TellsR ways b p L' → L = L' := by
  rintro ⟨F, h, rfl⟩ ⟨G, g, rfl⟩
  rw [h.one g]
/-- rows that tell all runs of a program on a piece, in the order of the turns -/
structure RsOk (ways : Int → Option Int) (b : List Sm) (p : Pc) (e : Nat) (L : List (Pc × Rn)) : Prop where
  fam : RFam ways b p.has L
  bd : ∀ r ∈ L, RowB (e + 4) r
  ord : L.Pairwise fun a c => a.2.turns ≤ c.2.turns
  len : L.length ≤ 200000
  ex : ∀ r ∈ L, ∀ n, r.1.has n → ∀ f, Sum.inr f ∈ r.2.items → f.1 * n + f.2.1 = f.2.2 * Fm.at_ f n
  tells : TellsR ways b p L
def spPathsOf (K : PySem.W.Frag) (mm : Nat) : Sp := fun vs H Q _ => ∃ (v : V) (b : List Sm) (pd pc : Addr) (pk : List (Key × V)) (ways : Int → Option Int) (p : Pc) (e : Nat),
  vs = [v, .ref pd, .non, .ref pc] ∧ H pd = some (.dK pk) ∧ WaysRel pk ways ∧ WaysV ways ∧ Tr H (.tuple (Sm.ds b)) v ∧ PrOk b ∧ Sm.nests b ≤ mm ∧ TK K H pc p.vs ∧ PcIn p e ∧
  ∀ (l : Addr) (L : List (Pc × Rn)) (ws : List V) (H' : Hp), H l = none → H' l = some (.lst ws) → RwsAt K H' L ws → RsOk ways b p e L → Kp [] H H' → Q (.ref l) H'
/-! rules -/
section
variable {X : Cx} {K : PySem.W.Frag}
theorem pg_tupK {es : List Expr} {k : Nat} {t : TGs} {n : Nat} {pos : Pos} (hK : X.K = K) (hc : X.calm = true) (h : PGs X es t) (hn : (assignEach es X.env).length = n := by rfl) (hst : (assignEach es X.env).findIdx? (·.1) = none := by rfl) : PG X (.Tuple es k pos) (gTup K n t) := hK ▸ pg_tup hc h hn hst
theorem cr_maxK (hK : X.K = K) (hc : X.calm = true) : CallR X (.builtin "max") (rMax K) := hK ▸ cr_max hc
theorem cr_minK (hK : X.K = K) (hc : X.calm = true) : CallR X (.builtin "min") (rMin K) := hK ▸ cr_min hc
def rSortIA (K : PySem.W.Frag) : List V → Hp → VK → Prop := fun vs H Q => ∃ (a : Addr) (ns : List Int), vs = [V.ref a] ∧ SqL K H a (ns.map V.int) ∧ ∀ (ns' : List Int) (p : Addr) (H' : Hp), ns'.Perm ns → ns'.Pairwise (· ≤ ·) → H p = none → H' p = some (.lst (ns'.map V.int)) → Kp [] H H' → Q (.ref p) H'
theorem cr_sortedIK (hK : X.K = K) : CallR X (.builtin "sorted") (rSortIA K) := hK ▸ CallR.imp cr_sortedI fun xs H Q ⟨a, ns, e, h, q⟩ => ⟨a, ns, e, h, fun ns' p a1 a2 hp => q ns' p _ a1 a2 hp upd_same (Kp.new hp)⟩
theorem pi_zipK {e e2 : Expr} {ta : TA} {p pos tpos : Pos} {elts : List Expr} {kk : Nat} (hK : X.K = K) (hg : Gl X "zip") (hm : X.mg "zip" = none) (ha : PA X [e, e2] ta)
    (hs : starEach [e, e2] X.env = (false, eval e X.env) :: starEach [e2] X.env := by rfl) (hpl : (backTo pos (starEach [e2] X.env)).any (·.1) = false := by rfl) : PI X (.Tuple elts kk tpos) (.Call (.Name "zip" p) [e, e2] [] pos) (iZip K ta) := hK ▸ pi_zip hg hm ha hs hpl
end
/-! ### points -/
def spFirstPts (K : PySem.W.Frag) : Sp := fun vs H Q _ => ∃ (pc : Addr) (p : Pc) (m : Nat), vs = [.ref pc, .int (m : Int)] ∧ TK K H pc p.vs ∧ p.ok ∧ m ≤ 1000 ∧
  ∀ (l : Addr) (pts : List Int) (H' : Hp), H l = none → H' l = some (.lst (pts.map V.int)) → FP p m pts → Kp [] H H' → Q (.ref l) H'
def FirstOf (ns : List Int) (o : Option Int) : Prop := match o with
  | none => ns = []
  | some n => n ∈ ns ∧ ∀ m ∈ ns, rnk n ≤ rnk m
def spFirstOf (K : PySem.W.Frag) : Sp := fun vs H Q _ => ∃ (l : Addr) (os : List (Option Int)), vs = [.ref l] ∧ H l = some (.lst (os.map oV)) ∧ os.length < sizeLine ∧
  ∀ (o : Option Int) (H' : Hp), FirstOf (os.filterMap id) o → Kp [] H H' → Q (oV o) H'
/-! ### cuts -/
def PcsAt (K : PySem.W.Frag) (H : Hp) : List Pc → List V → Prop
  | [], vs => vs = []
  | p :: l, vs => ∃ v w, vs = v :: w ∧ PcAt K H p v ∧ PcsAt K H l w
theorem PcsAt.kp {K : PySem.W.Frag} {S : List Addr} {H H' : Hp} (k : Kp S H H') : ∀ {l : List Pc} {vs : List V}, PcsAt K H l vs → PcsAt K H' l vs
  | [], vs, h => h
  | r :: l, vs, h => by
    obtain ⟨v, w, e, h1, h2⟩ := h
    exact ⟨v, w, e, h1.kp k, PcsAt.kp k h2⟩
theorem PcsAt.app {K : PySem.W.Frag} {H : Hp} : ∀ {l m : List Pc} {vs ws : List V}, PcsAt K H l vs → PcsAt K H m ws → PcsAt K H (l ++ m) (vs ++ ws)
  | [], m, vs, ws, h, g => by cases (show vs = [] from h); exact g
  | r :: l, m, vs, ws, h, g => by
    obtain ⟨v, w, rfl, h1, h2⟩ := h
    exact ⟨v, w ++ ws, rfl, h1, PcsAt.app h2 g⟩
theorem PcsAt.length {K : PySem.W.Frag} {H : Hp} : ∀ {l : List Pc} {vs : List V}, PcsAt K H l vs → vs.length = l.length
  | [], vs, h => by cases (show vs = [] from h); rfl
  | r :: l, vs, h => by
    obtain ⟨v, w, rfl, h1, h2⟩ := h
    rw [List.length_cons, List.length_cons, PcsAt.length h2]
theorem PcsAt.get {K : PySem.W.Frag} {H : Hp} : ∀ {l : List Pc} {vs : List V} {i : Nat} {r : Pc}, PcsAt K H l vs → l[i]? = some r → ∃ v, vs[i]? = some v ∧ PcAt K H r v
  | [], vs, i, r, h, e => by simp at e
  | x :: l, vs, 0, r, h, e => by
    obtain ⟨v, w, rfl, h1, h2⟩ := h
    cases e
    exact ⟨v, rfl, h1⟩
  | x :: l, vs, i + 1, r, h, e => by
    obtain ⟨v, w, rfl, h1, h2⟩ := h
    exact PcsAt.get (i := i) h2 (by simpa using e)
def spCuts (K : PySem.W.Frag) : Sp := fun vs H Q _ => ∃ (l : Addr) (pvs : List V) (ps : List Pc), vs = [.ref l] ∧ H l = some (.lst pvs) ∧ PcsAt K H ps pvs ∧ ps.length ≤ 1000000 ∧
  ∀ (l' : Addr) (cs : List Int) (H' : Hp), H l' = none → H' l' = some (.lst (cs.map V.int)) → CutsOf ps cs → cs.length ≤ 2 * ps.length → Kp [] H H' → Q (.ref l') H'
end EH
namespace EH
open PySem L2
section
variable {K : PySem.W.Frag} {S B B' : List Addr} {H H' : Hp}
def RnsAt (K : PySem.W.Frag) (H : Hp) : List Rn → List V → Prop
  | [], vs => vs = []
  | r :: l, vs => ∃ v w, vs = v :: w ∧ RnAt K H r v ∧ RnsAt K H l w
theorem RnsAt.kp (k : Kp S H H') : ∀ {l : List Rn} {vs : List V}, RnsAt K H l vs → RnsAt K H' l vs
  | [], vs, h => h
  | r :: l, vs, h => by
    obtain ⟨v, w, e, h1, h2⟩ := h
    exact ⟨v, w, e, h1.kp k, RnsAt.kp k h2⟩
theorem RnsAt.app : ∀ {l m : List Rn} {vs ws : List V}, RnsAt K H l vs → RnsAt K H m ws → RnsAt K H (l ++ m) (vs ++ ws)
  | [], m, vs, ws, h, g => by cases (show vs = [] from h); exact g
  | r :: l, m, vs, ws, h, g => by
    obtain ⟨v, w, rfl, h1, h2⟩ := h
    exact ⟨v, w ++ ws, rfl, h1, RnsAt.app h2 g⟩
theorem RnsAt.length : ∀ {l : List Rn} {vs : List V}, RnsAt K H l vs → vs.length = l.length
  | [], vs, h => by cases (show vs = [] from h); rfl
  | r :: l, vs, h => by
    obtain ⟨v, w, rfl, h1, h2⟩ := h
    rw [List.length_cons, List.length_cons, RnsAt.length h2]
theorem RnsAt.get : ∀ {l : List Rn} {vs : List V} {i : Nat} {r : Rn}, RnsAt K H l vs → l[i]? = some r → ∃ v, vs[i]? = some v ∧ RnAt K H r v
  | [], vs, i, r, h, e => by simp at e
  | x :: l, vs, 0, r, h, e => by
    obtain ⟨v, w, rfl, h1, h2⟩ := h
    cases e
    exact ⟨v, rfl, h1⟩
  | x :: l, vs, i + 1, r, h, e => by
    obtain ⟨v, w, rfl, h1, h2⟩ := h
    exact RnsAt.get (i := i) h2 (by simpa using e)
/-- lists of rows, none of them at B -/
def LsAt (K : PySem.W.Frag) (B : List Addr) (H : Hp) : List (List (Pc × Rn)) → List V → Prop
  | [], vs => vs = []
  | L :: r, vs => ∃ l w ws, vs = .ref l :: w ∧ l ∉ B ∧ H l = some (.lst ws) ∧ RwsAt K H L ws ∧ LsAt K B H r w
theorem LsAt.kp (k : Kp S H H') (hs : ∀ s ∈ S, s ∈ B) : ∀ {Ls : List (List (Pc × Rn))} {vs : List V}, LsAt K B H Ls vs → LsAt K B H' Ls vs
  | [], vs, h => h
  | L :: r, vs, h => by
    obtain ⟨l, w, ws, e, n, h1, h2, h3⟩ := h
    exact ⟨l, w, ws, e, n, k.keep _ _ h1 (fun z => n (hs l z)), h2.kp k, LsAt.kp k hs h3⟩
theorem LsAt.less (hs : ∀ s ∈ B', s ∈ B) : ∀ {Ls : List (List (Pc × Rn))} {vs : List V}, LsAt K B H Ls vs → LsAt K B' H Ls vs
  | [], vs, h => h
  | L :: r, vs, h => by
    obtain ⟨l, w, ws, e, n, h1, h2, h3⟩ := h
    exact ⟨l, w, ws, e, fun z => n (hs l z), h1, h2, LsAt.less hs h3⟩
/-- what is not there yet is none of them -/
theorem LsAt.more {p : Addr} (hp : H p = none) : ∀ {Ls : List (List (Pc × Rn))} {vs : List V}, LsAt K B H Ls vs → LsAt K (p :: B) H Ls vs
  | [], vs, h => h
  | L :: r, vs, h => by
    obtain ⟨l, w, ws, e, n, h1, h2, h3⟩ := h
    refine ⟨l, w, ws, e, fun z => ?_, h1, h2, LsAt.more hp h3⟩
    rcases List.mem_cons.mp z with rfl | z
    · rw [hp] at h1; cases h1
    · exact n z
theorem LsAt.length : ∀ {Ls : List (List (Pc × Rn))} {vs : List V}, LsAt K B H Ls vs → vs.length = Ls.length
  | [], vs, h => by cases (show vs = [] from h); rfl
  | L :: r, vs, h => by
    obtain ⟨l, w, ws, rfl, n, h1, h2, h3⟩ := h
    rw [List.length_cons, List.length_cons, LsAt.length h3]
theorem LsAt.app : ∀ {Ls Ms : List (List (Pc × Rn))} {vs us : List V}, LsAt K B H Ls vs → LsAt K B H Ms us → LsAt K B H (Ls ++ Ms) (vs ++ us)
  | [], Ms, vs, us, h, g => by cases (show vs = [] from h); exact g
  | L :: r, Ms, vs, us, h, g => by
    obtain ⟨l, w, ws, rfl, n, h1, h2, h3⟩ := h
    exact ⟨l, w ++ us, ws, rfl, n, h1, h2, LsAt.app h3 g⟩
theorem LsAt.get : ∀ {Ls : List (List (Pc × Rn))} {vs : List V} {i : Nat} {L : List (Pc × Rn)}, LsAt K B H Ls vs → Ls[i]? = some L → ∃ l ws, vs[i]? = some (.ref l) ∧ l ∉ B ∧ H l = some (.lst ws) ∧ RwsAt K H L ws
  | [], vs, i, r, h, e => by simp at e
  | x :: l, vs, 0, r, h, e => by
    obtain ⟨l, w, ws, rfl, n, h1, h2, h3⟩ := h
    cases e
    exact ⟨l, ws, rfl, n, h1, h2⟩
  | x :: l, vs, i + 1, r, h, e => by
    obtain ⟨l, w, ws, rfl, n, h1, h2, h3⟩ := h
    exact LsAt.get (i := i) h3 (by simpa using e)
/-- lists of runs -/
def RssAt (K : PySem.W.Frag) (B : List Addr) (H : Hp) : List (List Rn) → List V → Prop
  | [], vs => vs = []
  | L :: r, vs => ∃ l w ws, vs = .ref l :: w ∧ l ∉ B ∧ H l = some (.lst ws) ∧ RnsAt K H L ws ∧ RssAt K B H r w
theorem RssAt.kp (k : Kp S H H') (hs : ∀ s ∈ S, s ∈ B) : ∀ {Ls : List (List Rn)} {vs : List V}, RssAt K B H Ls vs → RssAt K B H' Ls vs
  | [], vs, h => h
  | L :: r, vs, h => by
    obtain ⟨l, w, ws, e, n, h1, h2, h3⟩ := h
    exact ⟨l, w, ws, e, n, k.keep _ _ h1 (fun z => n (hs l z)), h2.kp k, RssAt.kp k hs h3⟩
theorem RssAt.less (hs : ∀ s ∈ B', s ∈ B) : ∀ {Ls : List (List Rn)} {vs : List V}, RssAt K B H Ls vs → RssAt K B' H Ls vs
  | [], vs, h => h
  | L :: r, vs, h => by
    obtain ⟨l, w, ws, e, n, h1, h2, h3⟩ := h
    exact ⟨l, w, ws, e, fun z => n (hs l z), h1, h2, RssAt.less hs h3⟩
theorem RssAt.app : ∀ {Ls Ms : List (List Rn)} {vs us : List V}, RssAt K B H Ls vs → RssAt K B H Ms us → RssAt K B H (Ls ++ Ms) (vs ++ us)
  | [], Ms, vs, us, h, g => by cases (show vs = [] from h); exact g
  | L :: r, Ms, vs, us, h, g => by
    obtain ⟨l, w, ws, rfl, n, h1, h2, h3⟩ := h
    exact ⟨l, w ++ us, ws, rfl, n, h1, h2, RssAt.app h3 g⟩
theorem RssAt.get : ∀ {Ls : List (List Rn)} {vs : List V} {i : Nat} {L : List Rn}, RssAt K B H Ls vs → Ls[i]? = some L → ∃ l ws, vs[i]? = some (.ref l) ∧ H l = some (.lst ws) ∧ RnsAt K H L ws
  | [], vs, i, r, h, e => by simp at e
  | x :: l, vs, 0, r, h, e => by
    obtain ⟨l, w, ws, rfl, n, h1, h2, h3⟩ := h
    cases e
    exact ⟨l, ws, rfl, h1, h2⟩
  | x :: l, vs, i + 1, r, h, e => by
    obtain ⟨l, w, ws, rfl, n, h1, h2, h3⟩ := h
    exact RssAt.get (i := i) h3 (by simpa using e)
/-- a common row -/
def CwAt (K : PySem.W.Frag) (B : List Addr) (H : Hp) (r : Pc × List (List Rn)) (v : V) : Prop := ∃ u pc ls xs, v = .ref u ∧ H u = some (.tup [.ref pc, .ref ls]) ∧ TK K H pc r.1.vs ∧ ls ∉ B ∧ H ls = some (.lst xs) ∧ RssAt K B H r.2 xs
theorem CwAt.kp (k : Kp S H H') (hs : ∀ s ∈ S, s ∈ B) {r : Pc × List (List Rn)} {v : V} (h : CwAt K B H r v) : CwAt K B H' r v := by
  obtain ⟨u, pc, ls, xs, e, h1, h2, n, h3, h4⟩ := h
  exact ⟨u, pc, ls, xs, e, k.tup _ _ h1, h2.kp k, n, k.keep _ _ h3 (fun z => n (hs ls z)), h4.kp k hs⟩
def CwsAt (K : PySem.W.Frag) (B : List Addr) (H : Hp) : List (Pc × List (List Rn)) → List V → Prop
  | [], vs => vs = []
  | r :: l, vs => ∃ v w, vs = v :: w ∧ CwAt K B H r v ∧ CwsAt K B H l w
theorem CwsAt.kp (k : Kp S H H') (hs : ∀ s ∈ S, s ∈ B) : ∀ {l : List (Pc × List (List Rn))} {vs : List V}, CwsAt K B H l vs → CwsAt K B H' l vs
  | [], vs, h => h
  | r :: l, vs, h => by
    obtain ⟨v, w, e, h1, h2⟩ := h
    exact ⟨v, w, e, h1.kp k hs, CwsAt.kp k hs h2⟩
theorem CwsAt.less (hs : ∀ s ∈ B', s ∈ B) : ∀ {l : List (Pc × List (List Rn))} {vs : List V}, CwsAt K B H l vs → CwsAt K B' H l vs
  | [], vs, h => h
  | r :: l, vs, h => by
    obtain ⟨v, w, e, ⟨u, pc, ls, xs, e', h1, h2, n, h3, h4⟩, h5⟩ := h
    exact ⟨v, w, e, ⟨u, pc, ls, xs, e', h1, h2, fun z => n (hs ls z), h3, h4.less hs⟩, CwsAt.less hs h5⟩
theorem CwsAt.app : ∀ {l m : List (Pc × List (List Rn))} {vs ws : List V}, CwsAt K B H l vs → CwsAt K B H m ws → CwsAt K B H (l ++ m) (vs ++ ws)
  | [], m, vs, ws, h, g => by cases (show vs = [] from h); exact g
  | r :: l, m, vs, ws, h, g => by
    obtain ⟨v, w, rfl, h1, h2⟩ := h
    exact ⟨v, w ++ ws, rfl, h1, CwsAt.app h2 g⟩
theorem CwsAt.length : ∀ {l : List (Pc × List (List Rn))} {vs : List V}, CwsAt K B H l vs → vs.length = l.length
  | [], vs, h => by cases (show vs = [] from h); rfl
  | r :: l, vs, h => by
    obtain ⟨v, w, rfl, h1, h2⟩ := h
    rw [List.length_cons, List.length_cons, CwsAt.length h2]
theorem CwsAt.get : ∀ {l : List (Pc × List (List Rn))} {vs : List V} {i : Nat} {r : Pc × List (List Rn)}, CwsAt K B H l vs → l[i]? = some r → ∃ v, vs[i]? = some v ∧ CwAt K B H r v
  | [], vs, i, r, h, e => by simp at e
  | x :: l, vs, 0, r, h, e => by
    obtain ⟨v, w, rfl, h1, h2⟩ := h
    cases e
    exact ⟨v, rfl, h1⟩
  | x :: l, vs, i + 1, r, h, e => by
    obtain ⟨v, w, rfl, h1, h2⟩ := h
    exact CwsAt.get (i := i) h2 (by simpa using e)
end
theorem flat_len {α : Type} {c : Nat} : ∀ {Ms : List (List α)}, (∀ M ∈ Ms, M.length ≤ c) → Ms.flatten.length ≤ Ms.length * c
  | [], h => Nat.zero_le _
  | M :: Ms, h => by
    have h1 := h M List.mem_cons_self
    have h2 := flat_len fun N hN => h N (List.mem_cons_of_mem _ hN)
    rw [List.flatten_cons, List.length_append, List.length_cons, Nat.add_mul]
    omega
theorem range_up {a b c : Int} (hc : 0 < c) (hc2 : c < 1073741824) (ha : 0 ≤ a) (ha' : a < 1073741824) (hb : a < b) (hb' : b < 2 ^ 40) : RgC a b c ((b - a - 1) / c + 1).toNat := by
  have d0 : 0 ≤ (b - a - 1) / c := Int.ediv_nonneg (by omega) (by omega)
  have d1 : (b - a - 1) / c ≤ b - a - 1 := Int.ediv_le_self _ (by omega)
  have e40 : (2 : Int) ^ 40 = 1099511627776 := by decide
  rw [e40] at hb'
  have sz : Builtin.Range.rangeSize a b c = (b - a - 1) / c + 1 := by
    unfold Builtin.Range.rangeSize
    rw [if_pos (show c > 0 from hc), if_pos hb]
  refine ⟨by omega, by omega, ?_, by rw [sz]; omega⟩
  unfold Builtin.Range.small
  rw [sz]
  simp only [Builtin.Range.rangeFitsLong, Bool.and_eq_true, Bool.or_eq_true, decide_eq_true_eq, beq_iff_eq, show c > 0 from hc, if_true]
  omega
theorem zipOf_mem : ∀ {cs : List Int} {lo : Option Int}, ∀ z ∈ zipOf lo cs, (z.1 = lo ∨ ∃ c ∈ cs, z.1 = some c) ∧ (z.2 = none ∨ ∃ c ∈ cs, z.2 = some c)
  | [], lo, z, hz => by
    cases List.mem_singleton.mp hz
    exact ⟨.inl rfl, .inl rfl⟩
  | c :: cs, lo, z, hz => by
    rcases List.mem_cons.mp hz with rfl | hz
    · exact ⟨.inl rfl, .inr ⟨c, List.mem_cons_self, rfl⟩⟩
    · obtain ⟨h1, h2⟩ := zipOf_mem z hz
      refine ⟨.inr ?_, h2.imp id fun ⟨d, hd, e⟩ => ⟨d, List.mem_cons_of_mem _ hd, e⟩⟩
      rcases h1 with e | ⟨d, hd, e⟩
      · exact ⟨c, List.mem_cons_self, e⟩
      · exact ⟨d, List.mem_cons_of_mem _ hd, e⟩
theorem part_bd {M : Nat} {cs : List Int} {lo hi : Option Int} (hlo : oOk M lo) (hhi : oOk M hi) (hc : ∀ c ∈ cs, c.natAbs ≤ M ∨ (c - 1).natAbs ≤ M) : ∀ z ∈ zipOf lo cs, oOk (M + 1) z.1 ∧ oOk (M + 1) (hiOf hi z.2) := by
  intro z hz
  obtain ⟨h1, h2⟩ := zipOf_mem z hz
  refine ⟨fun i ei => ?_, fun i ei => ?_⟩
  · rcases h1 with e | ⟨c, hcs, e⟩
    · rw [e] at ei
      have := hlo i ei
      omega
    · rw [e] at ei
      cases ei
      have := hc i hcs
      omega
  · rcases h2 with e | ⟨c, hcs, e⟩
    · rw [e] at ei
      have := hhi i ei
      omega
    · rw [e] at ei
      have ei : c - 1 = i := Option.some.inj ei
      have := hc c hcs
      omega
/-- what common_rows asks of a row -/
structure RowIn (e : Nat) (r : Pc × Rn) : Prop where
  ok : r.1.ok
  pw : ∃ j : Nat, j ≤ e + 4 ∧ r.1.by_ = 2 ^ j
  lo : oOk BB r.1.low
  hi : oOk BB r.1.high
def MR : Nat := 16 * 800001
/-- the parts of a piece for one rest, the empty ones left out -/
def PartsOf (Ls : List (List (Pc × Rn))) (p : Pc) (BY ρ : Int) (M : List Pc) : Prop := ∃ all, CutsOf ((Ls.map fun L => (hereL ρ L).map Prod.fst).flatten) all ∧ M = ((zipOf p.low (all.filter p.within)).map fun z => (⟨ρ, BY, z.1, hiOf p.high z.2⟩ : Pc)).filter Pc.there
/-- the parts for the first i rests, in order -/
def ComOf (Ls : List (List (Pc × Rn))) (p : Pc) (BY : Int) (i : Nat) (pcs : List Pc) : Prop := ∃ Ms : List (List Pc), Ms.length = i ∧ pcs = Ms.flatten ∧ ∀ (j : Nat) M, Ms[j]? = some M → PartsOf Ls p BY (p.rest + (j : Int) * p.by_) M
theorem sort_one : ∀ {l m : List Int}, l.Pairwise (· < ·) → m.Pairwise (· < ·) → (∀ c, c ∈ l ↔ c ∈ m) → l = m
  | [], [], _, _, _ => rfl
  | [], b :: m, _, _, h => by have := (h b).mpr List.mem_cons_self; cases this
  | a :: l, [], _, _, h => by have := (h a).mp List.mem_cons_self; cases this
  | a :: l, b :: m, p, q, h => by
    obtain ⟨p1, p2⟩ := List.pairwise_cons.mp p
    obtain ⟨q1, q2⟩ := List.pairwise_cons.mp q
    have e : a = b := by
      rcases List.mem_cons.mp ((h a).mp List.mem_cons_self) with e | e
      · exact e
      · have h1 := q1 a e
        rcases List.mem_cons.mp ((h b).mpr List.mem_cons_self) with e2 | e2
        · exact e2.symm
        · have h2 := p1 b e2
          omega
    subst e
    rw [sort_one p2 q2 fun c => ?_]
    constructor
    · intro hc
      rcases List.mem_cons.mp ((h c).mp (List.mem_cons_of_mem _ hc)) with rfl | z
      · exact absurd (p1 c hc) (Int.lt_irrefl _)
      · exact z
    · intro hc
      rcases List.mem_cons.mp ((h c).mpr (List.mem_cons_of_mem _ hc)) with rfl | z
      · exact absurd (q1 c hc) (Int.lt_irrefl _)
      · exact z
theorem PartsOf.one {Ls : List (List (Pc × Rn))} {p : Pc} {BY ρ : Int} {M M' : List Pc} : PartsOf Ls p BY ρ M → PartsOf Ls p BY ρ M' → M = M' := by
  rintro ⟨a, h, rfl⟩ ⟨b, g, rfl⟩
  rw [sort_one h.1 g.1 fun c => (h.2 c).trans (g.2 c).symm]
theorem ComOf.one {Ls : List (List (Pc × Rn))} {p : Pc} {BY : Int} {i : Nat} {M M' : List Pc} : ComOf Ls p BY i M → ComOf Ls p BY i M' → M = M' := by
  rintro ⟨a, h1, rfl, h2⟩ ⟨b, g1, rfl, g2⟩
  rw [show a = b from List.ext_getElem (by omega) fun j j1 j2 => (h2 j _ (List.getElem?_eq_getElem j1)).one (g2 j _ (List.getElem?_eq_getElem j2))]
theorem ComOf.nil {Ls : List (List (Pc × Rn))} {p : Pc} {BY : Int} : ComOf Ls p BY 0 [] := ⟨[], rfl, rfl, fun j M e => by simp at e⟩
theorem ComOf.add {Ls : List (List (Pc × Rn))} {p : Pc} {BY : Int} {i : Nat} {A M : List Pc} (h : ComOf Ls p BY i A) (g : PartsOf Ls p BY (p.rest + (i : Int) * p.by_) M) : ComOf Ls p BY (i + 1) (A ++ M) := by
  obtain ⟨a, h1, rfl, h2⟩ := h
  refine ⟨a ++ [M], by rw [List.length_append, h1]; rfl, by simp, fun j N e => ?_⟩
  by_cases hj : j < a.length
  · rw [List.getElem?_append_left hj] at e
    exact h2 j N e
  · have hl := (List.getElem?_eq_some_iff.mp e).1
    rw [List.length_append, List.length_singleton] at hl
    have : j = a.length := by omega
    subst this
    rw [List.getElem?_append_right (Nat.le_refl _), Nat.sub_self] at e
    cases e
    rw [h1]
    exact g
/-- what common_rows tells of its rows beyond CRows -/
structure ComQ (Ls : List (List (Pc × Rn))) (p : Pc) (e : Nat) (BY : Int) (pcs : List Pc) : Prop where
  pw : ∃ j : Nat, j ≤ e + 4 ∧ BY = 2 ^ j
  mem : BY ∈ p.by_ :: ((Ls.map fun L => L.map Prod.fst).flatten).map Pc.by_
  mx : ∀ x ∈ p.by_ :: ((Ls.map fun L => L.map Prod.fst).flatten).map Pc.by_, x ≤ BY
  com : ComOf Ls p BY ((BY - p.rest - 1) / p.by_ + 1).toNat pcs
theorem ComQ.one {Ls : List (List (Pc × Rn))} {p : Pc} {e : Nat} {BY BY' : Int} {M M' : List Pc} (h : ComQ Ls p e BY M) (g : ComQ Ls p e BY' M') : BY = BY' ∧ M = M' := by
  have e1 := h.mx _ g.mem
  have e2 := g.mx _ h.mem
  have : BY = BY' := by omega
  subst this
  exact ⟨rfl, h.com.one g.com⟩
def spCommon (K : PySem.W.Frag) : Sp := fun vs H Q _ => ∃ (ll pc : Addr) (lvs : List V) (Ls : List (List (Pc × Rn))) (p : Pc) (e : Nat), vs = [.ref ll, .ref pc] ∧ H ll = some (.lst lvs) ∧ LsAt K [] H Ls lvs ∧ TK K H pc p.vs ∧ p.ok ∧ p.by_ = 2 ^ e ∧ e < 30 ∧ oOk BB p.low ∧ oOk BB p.high ∧
  Ls.length ≤ 2 ∧ (∀ L ∈ Ls, L.length ≤ 200000 ∧ ∀ r ∈ L, RowIn e r) ∧
  ∀ (l : Addr) (ws : List V) (rows : List (Pc × List (List Rn))) (BY : Int) (H' : Hp), H l = none → H' l = some (.lst ws) → CwsAt K [] H' rows ws → CRows BY (BB + 1) Ls p.has rows → ComQ Ls p e BY (rows.map Prod.fst) → rows.length ≤ MR → Kp [] H H' → Q (.ref l) H'
end EH
namespace EH
open PySem PySem.Spec PyProof.Rows L2 LamX
/-! ### lambdas that are made, kept, and called later -/
def LamO (f : Addr) (o : Obj) : HO := .ext fun h => h.get? f = some o
def CellO (c : Addr) (v : V) : HO := .ext fun h => ∃ u, RelV v u ∧ h.IsCell c (some u)
theorem lamO_new {P : Program} {w : World} {H : Hp} {h : Heap} {f : Addr} {o : Obj} (e : h.get? f = some o) : ObjOk P w H h f (LamO f o) := ⟨e, ⟨o, e⟩, fun h1 h2 a st => st _ a⟩
theorem cellO_new {P : Program} {w : World} {H : Hp} {h : Heap} {c : Addr} {v : V} {u : Value} (r : RelV v u) (e : h.IsCell c (some u)) : ObjOk P w H h c (CellO c v) := by
  obtain ⟨o, ho, hd⟩ := e
  exact ⟨⟨u, r, o, ho, hd⟩, ⟨o, ho⟩, fun h1 h2 ⟨u, r, o, ho, hd⟩ st => ⟨u, r, o, st _ ho, hd⟩⟩
structure LamC where
  q : Str
  params : Arguments
  body : Expr
  scope : Scope
  clo : List (Str × Addr)
  pm : Value
  c' : Addr
  ctv : Value
def LamC.obj (L : LamC) : Obj := PySem.W.kla_obj "<lambda>" L.q L.params L.body L.scope L.clo L.pm L.c' L.ctv
structure LamH (H : Hp) (f : Addr) (L : LamC) (fv : Str → Option V) : Prop where
  fn : H f = some (LamO f L.obj)
  code : H L.c' = some (CodeO L.c' L.q)
  cell : ∀ y c, L.clo.lookup y = some c → ∃ v, fv y = some v ∧ H c = some (CellO c v)
  dis : ∀ x y c, L.clo.lookup x = some c → L.clo.lookup y = some c → x = y
theorem LamH.kp {S : List Addr} {H H' : Hp} {f : Addr} {L : LamC} {fv : Str → Option V} (l : LamH H f L fv) (k : Kp S H H') : LamH H' f L fv := by
  refine ⟨k.ext _ _ l.fn, k.ext _ _ l.code, fun y c e => ?_, l.dis⟩
  obtain ⟨v, e1, e2⟩ := l.cell y c e
  exact ⟨v, e1, k.ext _ _ e2⟩
/-- a lambda's names: parameters, then captured ones -/
structure LamSc (N ps frees : List Str) (sc : Scope) : Prop where
  kind : sc.kind = .function
  co : sc.isCoroutine = false
  gen : sc.isGenerator = false
  nd : N.Nodup
  all : N = ps ++ frees
  par : ∀ x ∈ ps, sc.names.lookup x = some .local
  fre : ∀ x ∈ frees, sc.names.lookup x = some .free
  nocell : ∀ y ∈ sc.names, y.2 ≠ .cell
def lamCtx (P : Program) (w : World) (K : PySem.W.Frag) (mg : Str → Option Value) (base : Heap) (N : List Str) (L : LamC) (f : Addr) (A : Around) (outer : List Env) (s : Shared) (H : Hp) : Cx where
  prog := P
  w := w
  K := K
  mg := mg
  base := base
  A := A.deeper (PySem.W.envX L.q L.scope s.heap.objs.size f (.ref L.c') L.clo)
  N := N
  s_0 := s
  H_0 := H
  env := PySem.W.envX L.q L.scope s.heap.objs.size f (.ref L.c') L.clo
  outer := outer
  stack := PySem.W.envX L.q L.scope s.heap.objs.size f (.ref L.c') L.clo :: outer
  ex := []
  fn := fun _ => false
  calm := true
  pn := []
  xe := fun _ _ => False
def hid (cl : List Addr) (H : Hp) : Hp := fun b => if b ∈ cl then none else H b
def unhid (cl : List Addr) (H H' : Hp) : Hp := fun b => if b ∈ cl then H b else H' b
theorem hid_in {cl : List Addr} {H : Hp} {b : Addr} (h : b ∈ cl) : hid cl H b = none := if_pos h
theorem hid_out {cl : List Addr} {H : Hp} {b : Addr} (h : b ∉ cl) : hid cl H b = H b := if_neg h
theorem unhid_in {cl : List Addr} {H H' : Hp} {b : Addr} (h : b ∈ cl) : unhid cl H H' b = H b := if_pos h
theorem unhid_out {cl : List Addr} {H H' : Hp} {b : Addr} (h : b ∉ cl) : unhid cl H H' b = H' b := if_neg h
theorem mem_look {α : Type} : ∀ {l : List (Str × α)} {p : Str × α}, p ∈ l → ∃ c, l.lookup p.1 = some c
  | [], p, h => nomatch h
  | q :: r, p, h => by
    rw [List.lookup_cons]
    cases e : (p.1 == q.1) with
    | true => exact ⟨_, rfl⟩
    | false =>
      rcases List.mem_cons.mp h with rfl | h
      · simp at e
      · exact mem_look h
theorem look_mem {α : Type} : ∀ {l : List (Str × α)} {y : Str} {u : α}, (l.map (·.1)).Nodup → (y, u) ∈ l → l.lookup y = some u
  | [], y, u, _, h => nomatch h
  | q :: r, y, u, nd, h => by
    rw [List.map_cons, List.nodup_cons] at nd
    rw [List.lookup_cons]
    rcases List.mem_cons.mp h with e | h
    · subst e
      simp
    · have ne : y ≠ q.1 := fun e => nd.1 (e ▸ List.mem_map.mpr ⟨(y, u), h, rfl⟩)
      rw [show (y == q.1) = false from beq_false_of_ne ne]
      exact look_mem nd.2 h
theorem zip_rev_lookup {ps : List Str} {us : List Value} {i : Nat} {y : Str} {u : Value} (nd : ps.Nodup) (hp : ps[i]? = some y) (hu : us[i]? = some u) : (ps.zip us).reverse.lookup y = some u := by
  have hm : (y, u) ∈ ps.zip us := List.mem_of_getElem? (i := i) (by rw [List.getElem?_zip_eq_some]; exact ⟨hp, hu⟩)
  refine look_mem ?_ (List.mem_reverse.mpr hm)
  rw [List.map_reverse]
  refine (List.reverse_perm _).nodup_iff.mpr ?_
  have : (ps.zip us).map (·.1) = ps.take us.length := by
    clear hp hu hm nd
    induction ps generalizing us with
    | nil => simp
    | cons a r ih =>
      cases us with
      | nil => simp
      | cons b t => simp [ih]
  rw [this]
  exact nd.sublist (List.take_sublist _ _)
section
variable {P : Program} {w : World} {K : PySem.W.Frag} {mg : Str → Option Value} {base : Heap}
theorem lam_run {N ps frees : List Str} {k : Nat} {f : Addr} {L : LamC} {fv : Str → Option V} {A : Around} {outer : List Env} {s : Shared} {H : Hp} {us : List Value} {vs : List V} {Q : VK} {E : XK} {t : TE} (S : LamSc N ps frees L.scope)
    (hclo : ∀ p ∈ L.clo, L.clo.lookup p.1 = some p.2) (hfre : ∀ y, L.scope.names.lookup y = some .free → ∃ c, L.clo.lookup y = some c)
    (hbind : bindArgs (PySem.W.kla_fn "<lambda>" L.q L.params L.body L.scope L.clo L.pm (.ref L.c') L.ctv) ⟨us, []⟩ = pure (ps.zip us))
    (l : LamH H f L fv) (hr : Room (k + 1) A) (e0 : Env0 P w K mg base A outer s H) (r : Vals vs us) (hl : vs.length = ps.length)
    (hbody : Room k (A.deeper (PySem.W.envX L.q L.scope s.heap.objs.size f (.ref L.c') L.clo)) → PE (lamCtx P w K mg base N L f A outer s (hid (L.clo.map (·.2)) H)) L.body t)
    (ht : t (vs.map some ++ frees.map fv) (hid (L.clo.map (·.2)) H) fun v H' => Q v (unhid (L.clo.map (·.2)) H H')) :
    codeAny (model P w) A (.call (.ref f) ⟨us, []⟩) (CR CX0 outer P w H s Q E) s := by
  have lim : s.heap.NoLimit := e0.mod.nolimit.keeps fun b o e => (e0.bs b o e).1
  have of1 : s.heap.get? f = some L.obj := (e0.hok f _ l.fn).1
  obtain ⟨⟨oc, vsc, tc, hoc, hdc, hvc⟩, _, _⟩ := e0.hok L.c' _ l.code
  have ul : us.length = ps.length := r.length.symm.trans hl
  have inClo : ∀ c, c ∈ L.clo.map (·.2) → ∃ y v, L.clo.lookup y = some c ∧ fv y = some v ∧ H c = some (CellO c v) := by
    intro c hc
    obtain ⟨p, hp, rfl⟩ := List.mem_map.mp hc
    have e := hclo p hp
    obtain ⟨v, e1, e2⟩ := l.cell _ _ e
    exact ⟨p.1, v, e, e1, e2⟩
  have cloMem : ∀ y c, L.clo.lookup y = some c → c ∈ L.clo.map (·.2) := fun y c e => List.mem_map.mpr ⟨(y, c), PySem.mem_of_lookup e, rfl⟩
  have cloSome : ∀ b, H b = none → b ∉ L.clo.map (·.2) := fun b hb hm => by
    obtain ⟨y, v, _, _, e⟩ := inClo b hm
    rw [hb] at e
    cases e
  refine PySem.W.kla_callFunE hr.depth of1 rfl S.co S.gen rfl ⟨L.c', oc, vsc, tc, rfl, hoc, hdc, hvc⟩ ?_
  rw [hbind]
  refine wpAny_pure (wpAny_newFunctionEnv S.nocell (fun y hy => S.par y.1 (List.of_mem_zip hy).1) (fun h₁ hns hsb => ⟨lim.fresh _ hsb, ?_⟩) S.kind)
  show codeAny _ _ (.expr L.body (PySem.W.envX L.q L.scope s.heap.objs.size f (.ref L.c') L.clo)) _ _
  have kp : ∀ b o, s.heap.get? b = some o → h₁.get? b = some o := fun b o e => hsb.extBut b o (Nat.ne_of_lt (Heap.lt_size e)) (Heap.get?_push_of_some _ e)
  have hokI : HOk P w (hid (L.clo.map (·.2)) H) s.heap := fun b u e => by
    by_cases hb : b ∈ L.clo.map (·.2)
    · rw [hid_in hb] at e; cases e
    · rw [hid_out hb] at e
      refine (e0.hok b u e).stay (fun _ _ _ z => z) (fun d z => ?_) fun d xs z => ?_
      · rw [hid_out (fun hm => ?_)]
        · exact z
        · obtain ⟨y, v, _, _, e'⟩ := inClo d hm
          rw [z] at e'
          cases (Option.some.inj e')
      · rw [hid_out (fun hm => ?_)]
        · exact z
        · obtain ⟨y, v, _, _, e'⟩ := inClo d hm
          rw [z] at e'
          cases (Option.some.inj e')
  have noA : ∀ b : Addr, b ∉ (lamCtx P w K mg base N L f A outer s (hid (L.clo.map (·.2)) H)).ex := fun b z => absurd (show b ∈ ([] : List Addr) from z) (by simp)
  have cellI : ∀ y c, L.clo.lookup y = some c → ∃ v u, fv y = some v ∧ RelV v u ∧ h₁.IsCell c (some u) := fun y c e => by
    obtain ⟨v, e1, e2⟩ := l.cell y c e
    obtain ⟨⟨u, ru, o, ho, hd⟩, _, _⟩ := e0.hok c _ e2
    exact ⟨v, u, e1, ru, o, kp _ _ ho, hd⟩
  have J : Inv (lamCtx P w K mg base N L f A outer s (hid (L.clo.map (·.2)) H)) [] (vs.map some ++ frees.map fv) (hid (L.clo.map (·.2)) H) { s with heap := h₁, toks := s.toks + (ps.zip us).length } := by
    refine ⟨⟨e0.mod, S.kind, rfl, rfl, Nat.le_refl _, l.dis, fun y hy => ?_, fun y c z _ => ?_, fun _ => hr.hd, Around.frames_deeper e0.frames, .inr ⟨rfl, rfl⟩, fun b z => absurd z (noA b), fun b o e => ?_, e0.bsz, fun b _ _ => noA b, fun b z => absurd z (noA b), e0.funs, fun b hb => ?_⟩,
      rfl, e0.bare, Un.kept kp, ⟨_, hns, fun i y v e1 e2 e3 => ?_⟩, fun y c e => ?_, ?_, fun y c e => hid_in (cloMem y c e), fun q hq => absurd (show q ∈ ([] : List (Addr × Obj)) ++ [] from hq) (by simp), hokI.kept kp, ?_⟩
    · have hy : L.scope.names.lookup y = some .cell ∨ L.scope.names.lookup y = some .free := hy
      rcases hy with hy | hy
      · exact absurd rfl (S.nocell _ (PySem.mem_of_lookup hy))
      · exact hfre y hy
    · have z : false = true := z
      cases z
    · obtain ⟨a1, a2⟩ := e0.bs b o e
      exact ⟨a1, by rw [show (lamCtx P w K mg base N L f A outer s (hid (L.clo.map (·.2)) H)).H_0 b = hid (L.clo.map (·.2)) H b from rfl, hid_out (cloSome b a2)]; exact a2⟩
    · have a2 := e0.frf b hb
      show hid (L.clo.map (·.2)) H b = none
      rw [hid_out (cloSome b a2)]
      exact a2
    · have e1 : N[i]? = some y := e1
      by_cases hi : i < ps.length
      · have hp : ps[i]? = some y := by
          rw [S.all, List.getElem?_append_left hi] at e1
          exact e1
        have hv : vs[i]? = some v := by
          rw [List.getElem?_append_left (by rw [List.length_map]; omega), List.getElem?_map] at e2
          cases z : vs[i]? with
          | none => rw [z] at e2; cases e2
          | some a => rw [z] at e2; cases e2; rfl
        obtain ⟨u, hu, rv⟩ := r.get hv
        refine ⟨u, rv, .inl ⟨S.par y (List.mem_of_getElem? hp), ?_⟩⟩
        have ndP : ps.Nodup := (List.nodup_append.mp (S.all ▸ S.nd)).1
        show (ps.zip us).reverse.lookup y = some u
        exact zip_rev_lookup ndP hp hu
      · have hp : frees[i - ps.length]? = some y := by
          rw [S.all, List.getElem?_append_right (by omega)] at e1
          exact e1
        have hv : fv y = some v := by
          rw [List.getElem?_append_right (by rw [List.length_map]; omega), List.length_map, hl, List.getElem?_map, hp] at e2
          exact Option.some.inj e2
        have kf := S.fre y (List.mem_of_getElem? hp)
        obtain ⟨c, hc⟩ := hfre y kf
        obtain ⟨v', u, ev, ru, ic⟩ := cellI y c hc
        rw [hv] at ev
        cases ev
        exact ⟨u, ru, .inr ⟨.inr kf, c, hc, ic⟩⟩
    · obtain ⟨v, u, _, _, ic⟩ := cellI y c e
      exact ⟨_, ic⟩
    · exact hokI.fresh (Nat.le_refl _)
    · show (vs.map some ++ frees.map fv).length = N.length
      rw [S.all, List.length_append, List.length_append, List.length_map, List.length_map, hl]
  refine PySem.W.kla_codeExpr (wpAny_mono ((hbody (hr.deeper _)).run [] _ _ _ _ J ht) (fun v s' hq => ?_) fun e s' hq => (show False from hq).elim)
  obtain ⟨v', H', J', rv, q⟩ := hq
  have un : Un (frs outer) [] (hid (L.clo.map (·.2)) H) H' s.heap s'.heap := J'.base
  have nofr : ∀ b, b ∈ L.clo.map (·.2) → b ∉ frs outer := fun b hb hm => by
    obtain ⟨y, v, _, _, e⟩ := inClo b hb
    rw [e0.frf b hm] at e
    cases e
  have kindC : ∀ b u, b ∈ L.clo.map (·.2) → H b = some u → ∃ φ, u = .ext φ := fun b u hb hu => by
    obtain ⟨y, v, _, _, e⟩ := inClo b hb
    rw [hu] at e
    exact ⟨_, Option.some.inj e⟩
  have hidN : ∀ b, H b = none → hid (L.clo.map (·.2)) H b = none := fun b hb => by rw [hid_out (cloSome b hb)]; exact hb
  have up : ∀ b u, H' b = some u → b ∉ L.clo.map (·.2) := fun b u hb hm => by
    have := J'.freeC
    obtain ⟨y, v, e, _, _⟩ := inClo b hm
    have := J'.freeC y b e
    rw [this] at hb
    cases hb
  refine ⟨v', unhid (L.clo.map (·.2)) H H', J'.os, J'.bare, ⟨fun b o e n f1 f2 => un.keep b o e (hidN b n) f1 f2, fun b o e n f1 f2 => un.slot b o e (hidN b n) f1 f2, fun b o e n f2 => ?_, fun b o e f2 => un.there b o e f2, fun b xs e => ?_, fun b o u e => ?_, fun b qs e => ?_⟩, fun b u e => ?_, rv, q⟩
  · rw [unhid_out (cloSome b n)]
    exact un.free b o e (hidN b n) f2
  · have nb : b ∉ L.clo.map (·.2) := fun hm => by obtain ⟨φ, z⟩ := kindC b _ hm e; cases z
    rw [unhid_out nb]
    exact un.tups b xs (by rw [hid_out nb]; exact e)
  · have nb : b ∉ L.clo.map (·.2) := fun hm => by obtain ⟨φ, z⟩ := kindC b _ hm e; cases z
    rw [unhid_out nb]
    exact un.frzs b o u (by rw [hid_out nb]; exact e)
  · have nb : b ∉ L.clo.map (·.2) := fun hm => by obtain ⟨φ, z⟩ := kindC b _ hm e; cases z
    rw [unhid_out nb]
    exact un.tbls b qs (by rw [hid_out nb]; exact e)
  · by_cases hb : b ∈ L.clo.map (·.2)
    · rw [unhid_in hb] at e
      obtain ⟨y, v, _, _, e2⟩ := inClo b hb
      rw [e] at e2
      cases e2
      obtain ⟨⟨u, ru, o, ho, hd⟩, _, _⟩ := e0.hok b _ e
      exact cellO_new ru ⟨o, un.keep b o ho (hid_in hb) (nofr b hb) (by simp), hd⟩
    · rw [unhid_out hb] at e
      refine (J'.hok b u e).stay (fun _ _ _ z => z) (fun d z => ?_) fun d xs z => ?_
      · rw [unhid_out (up d _ z)]; exact z
      · rw [unhid_out (up d _ z)]; exact z
end
end EH
namespace EH
open PySem PySem.Spec PyProof.Rows L2 LamX
/-! ### a lambda is made and kept -/
def tLamK (Pt : Addr) (lq : Str) (params : Arguments) (body : Expr) (scope : Scope) (clo : List (Str × Addr)) : TE := fun _ H Q => TabS H Pt lq ∧
  ∀ (L : LamC) (f : Addr) (H1 : Hp), L.q = lq → L.params = params → L.body = body → L.scope = scope → L.clo = clo → TabS H1 Pt lq → Kp [Pt] H H1 → H f = none → H1 f = some (LamO f L.obj) → H1 L.c' = some (CodeO L.c' L.q) → Q (.ref f) H1
section
variable {X : Cx}
theorem pe_lam {c Pt : Addr} {params : Arguments} {body : Expr} {scope : Scope} {pos : Pos} (TB : TabB X.base X.mg c Pt) (hcode : X.env.code = .ref c) (hdef : defaultsOf params X.env = ([], []))
    (hfree : ∀ y ∈ scope.names, y.2 = .free → ∃ c, X.env.cells.lookup y.1 = some c) : PE X (.Lambda params body scope pos) (tLamK Pt (X.env.qual ++ "<lambda>") params body scope (cloFrom X.env.cells scope.names [])) := by
  refine ⟨fun pins s σ H Q I h => ?_⟩
  obtain ⟨⟨ps, hP, tr, cm⟩, h⟩ := h
  have atP : s.heap.get? Pt = some { cls := .none, data := .fields ps } := I.hok Pt _ hP
  have gl := I.mod.glob.keeps I.bk
  have cd := TB.code.keeps I.bk
  have bl := TB.bm.keeps I.bk
  refine PySem.W.kla_eval hdef ?_
  cases among : codeAmong pos ps.toList with
  | some cv =>
    obtain ⟨c', rfl, co⟩ := cm pos cv among
    refine PySem.W.kla_makeFunctionHit (mg := X.mg) (P := Pt) (closure_ok hfree) I.ok.glob gl hcode cd atP tr among bl fun ctv h' tk kp le => ?_
    have new : H h'.objs.size = none := I.hok.fresh le
    have I1 : Inv X pins σ H { s with heap := h', toks := tk } := I.kept kp
    refine ⟨.ref _, _, I1.laid (t' := tk) (fun b u e => Heap.get?_push_of_some _ e) (Nat.le_refl _) (lamO_new (Heap.get?_push_size _ rfl)), rfl, ?_⟩
    have k1 : Kp [] H (upd H h'.objs.size (LamO h'.objs.size (PySem.W.kla_obj "<lambda>" (X.env.qual ++ "<lambda>") params body scope (cloFrom X.env.cells scope.names []) ((X.mg "__name__").getD .none) c' ctv))) := Kp.new new
    refine h ⟨X.env.qual ++ "<lambda>", params, body, scope, cloFrom X.env.cells scope.names [], (X.mg "__name__").getD .none, c', ctv⟩ _ _ rfl rfl rfl rfl rfl ?_ (k1.sub (by simp)) new upd_same (k1.at co)
    exact TabS.ext ⟨ps, hP, tr, cm⟩ fun b o e => k1.at e
  | none =>
    refine PySem.W.kla_makeFunction (mg := X.mg) (P := Pt) (closure_ok hfree) I.ok.glob gl hcode cd atP tr among TB.gP bl fun c' ctv h' tk kp le lt rec tab => ?_
    obtain ⟨c2, o2, vs, t, e2, q1, q2, q3⟩ := rec
    cases e2
    have nc : H c' = none := I.hok.fresh le
    have ne : Pt ≠ c' := ne_of_none hP nc
    have I1 := inv_table (t' := tk) (q := X.env.qual ++ "<lambda>") (h' := h') I hP (fun b o hb e => kp b o hb e) tab le ⟨o2, vs, t, q1, q2, q3⟩
    have new := I1.hok.fresh (Nat.le_refl h'.objs.size)
    have newH : H h'.objs.size = none := I.hok.fresh (Nat.le_trans le (Nat.le_of_lt lt))
    refine ⟨.ref _, _, I1.laid (t' := tk) (fun b u e => Heap.get?_push_of_some _ e) (Nat.le_refl _) (lamO_new (Heap.get?_push_size _ rfl)), rfl, ?_⟩
    have ka : Kp [Pt] H (upd (upd H Pt (.tbl (ps ++ #[rawInt pos.line, rawInt pos.col, .ref c']))) c' (CodeO c' (X.env.qual ++ "<lambda>"))) := by
      refine ⟨fun b o e nb => ?_, fun b xs e => ?_, fun b φ e => ?_⟩
      · rw [upd_ne (ne_of_none e nc), upd_ne (fun z => nb (by rw [z]; simp))]
        exact e
      · rw [upd_ne (ne_of_none e nc), upd_ne (fun z => by rw [z, hP] at e; cases e)]
        exact e
      · rw [upd_ne (ne_of_none e nc), upd_ne (fun z => by rw [z, hP] at e; cases e)]
        exact e
    have atT : (upd (upd H Pt (.tbl (ps ++ #[rawInt pos.line, rawInt pos.col, .ref c']))) c' (CodeO c' (X.env.qual ++ "<lambda>"))) Pt = some (.tbl (ps ++ #[rawInt pos.line, rawInt pos.col, .ref c'])) := by
      rw [upd_ne ne, upd_same]
    have atC : (upd (upd H Pt (.tbl (ps ++ #[rawInt pos.line, rawInt pos.col, .ref c']))) c' (CodeO c' (X.env.qual ++ "<lambda>"))) c' = some (CodeO c' (X.env.qual ++ "<lambda>")) := upd_same
    generalize upd (upd H Pt (.tbl (ps ++ #[rawInt pos.line, rawInt pos.col, .ref c']))) c' (CodeO c' (X.env.qual ++ "<lambda>")) = Hm at ka atT atC new ⊢
    have kb : Kp [] Hm (upd Hm h'.objs.size (LamO h'.objs.size (PySem.W.kla_obj "<lambda>" (X.env.qual ++ "<lambda>") params body scope (cloFrom X.env.cells scope.names []) ((X.mg "__name__").getD .none) c' ctv))) := Kp.new new
    refine h ⟨X.env.qual ++ "<lambda>", params, body, scope, cloFrom X.env.cells scope.names [], (X.mg "__name__").getD .none, c', ctv⟩ _ _ rfl rfl rfl rfl rfl ?_ (ka.step0 kb) newH upd_same (kb.at atC)
    have eL : (ps ++ #[rawInt pos.line, rawInt pos.col, .ref c']).toList = ps.toList ++ [rawInt pos.line, rawInt pos.col, .ref c'] := by simp
    refine ⟨_, kb.at atT, by rw [eL]; exact PySem.TriplesOk_snoc _ _ _ _ tr, fun p' cv hcv => ?_⟩
    rw [eL] at hcv
    rcases among_app _ tr hcv with z | z
    · obtain ⟨c0, e1, e2⟩ := cm p' cv z
      refine ⟨c0, e1, kb.at ?_⟩
      exact ka.ext c0 _ e2
    · exact ⟨c', z, kb.at atC⟩
end
end EH
namespace EH
open PySem PySem.Spec PyProof.Rows L2 LamX
/-! ### a def that returns a lambda: its cells are known from then on -/
def sealH (cl : List (Str × Addr)) (fv : Str → Option V) (H : Hp) : Hp := fun b => match cl.find? (fun p => p.2 == b) with
  | some p => match fv p.1 with
    | some v => some (CellO b v)
    | none => H b
  | none => H b
theorem seal_out {cl : List (Str × Addr)} {fv : Str → Option V} {H : Hp} {b : Addr} (h : ∀ p ∈ cl, p.2 ≠ b) : sealH cl fv H b = H b := by
  unfold sealH
  rw [List.find?_eq_none.mpr fun p hp => by simpa using h p hp]
theorem seal_in {cl : List (Str × Addr)} {fv : Str → Option V} {H : Hp} {b : Addr} {y : Str} {v : V} (hin : (y, b) ∈ cl) (inj : ∀ p ∈ cl, p.2 = b → p.1 = y) (hv : fv y = some v) : sealH cl fv H b = some (CellO b v) := by
  unfold sealH
  cases e : cl.find? (fun p => p.2 == b) with
  | none =>
    have := List.find?_eq_none.mp e (y, b) hin
    simp at this
  | some p =>
    have h1 := List.mem_of_find?_eq_some e
    have h2 : p.2 = b := by simpa using List.find?_some e
    have h3 := inj p h1 h2
    simp only [h3, hv]
theorem seal_kp {S : List Addr} {cl : List (Str × Addr)} {fv : Str → Option V} {H H1 : Hp} (k : Kp S H H1) (new : ∀ p ∈ cl, H p.2 = none) : Kp S H (sealH cl fv H1) := by
  have off : ∀ b o, H b = some o → sealH cl fv H1 b = H1 b := fun b o e => seal_out fun p hp z => by
    have := new p hp
    rw [z, e] at this
    cases this
  exact ⟨fun b o e n => by rw [off b _ e]; exact k.keep b o e n, fun b xs e => by rw [off b _ e]; exact k.tup b xs e, fun b φ e => by rw [off b _ e]; exact k.ext b φ e⟩
theorem seal_ext {cl : List (Str × Addr)} {fv : Str → Option V} {H1 : Hp} (new : ∀ p ∈ cl, H1 p.2 = none) {b : Addr} {o : HO} (e : H1 b = some o) : sealH cl fv H1 b = some o := by
  rw [seal_out fun p hp z => ?_]
  · exact e
  · have := new p hp
    rw [z, e] at this
    cases this
theorem zip_lookup {ps : List Str} {vs : List V} {i : Nat} {y : Str} {v : V} (nd : ps.Nodup) (hp : ps[i]? = some y) (hv : vs[i]? = some v) : (ps.zip vs).lookup y = some v := by
  induction ps generalizing vs i with
  | nil => simp at hp
  | cons a r ih =>
    cases vs with
    | nil => simp at hv
    | cons b t =>
      rw [List.zip_cons_cons, List.lookup_cons]
      cases i with
      | zero =>
        cases hp
        cases hv
        simp
      | succ j =>
        have nd2 := List.nodup_cons.mp nd
        have hm : y ∈ r := List.mem_of_getElem? (i := j) hp
        have ne : (y == a) = false := beq_false_of_ne fun z => nd2.1 (z ▸ hm)
        rw [ne]
        exact ih nd2.2 hp hv
section
variable {P : Program} {w : World} {K : PySem.W.Frag} {mg : Str → Option Value} {base : Heap}
theorem Fun.okLam {x qual : Str} {st : Stmt} {f cc : Addr} {fd : FuncData} {N ps : List Str} {k : Nat} {sp : Sp} {e : Expr} {pos : Pos} (F : Fun K x qual st f fd) (S : FnScope N ps (defScope st)) (len : ∀ vs H Q E, sp vs H Q E → vs.length = ps.length)
    (hst : defBody st = [.Return (some e) pos]) (hcode : fd.code = .ref cc) (hcp : ∀ y, (defScope st).names.lookup y = some .cell → y ∈ ps) (hnd : ps.Nodup)
    (hkey : ∀ (n : Addr) (p : Str × Addr), p ∈ cellsFrom n (defScope st).names [] → (cellsFrom n (defScope st).names []).lookup p.1 = some p.2 ∧ (defScope st).names.lookup p.1 = some .cell)
    (body : ∀ (A : Around) (outer : List Env) (s : Shared) (H : Hp) (vs : List V) (Q : VK) (E : XK), Room k (A.deeper (envOfC qual (defScope st) s.heap.objs.size f (.ref cc))) → sp vs H Q E →
      ∃ t, PE (cxOf CX0 P w K mg base N qual (defScope st) f (.ref cc) A outer s H E) e t ∧ t (start N vs) H (fun v H1 => (∀ p ∈ cellsFrom (s.heap.objs.size + 1) (defScope st).names [], H1 p.2 = none) → Q v (sealH (cellsFrom (s.heap.objs.size + 1) (defScope st).names []) (fun y => (ps.zip vs).lookup y) H1))) : FnOk P w K mg base CX0 (k + 1) f fd ps sp := by
  refine ⟨len, fun A outer s H args us vs Q E hr e0 hb r hsp => ?_⟩
  obtain ⟨oc, od, kV, doc, pm, an, cdv, ct, osl, rfl, lk, hcd⟩ := F.ex
  obtain rfl : cdv = .ref cc := hcode
  have hl := len _ _ _ _ hsp
  have KX : K.In s.heap := e0.mod.kin.keeps fun b o e => (e0.bs b o e).1
  have lim : s.heap.NoLimit := e0.mod.nolimit.keeps fun b o e => (e0.bs b o e).1
  have kinds : ∀ y ∈ ps.zip us, (defScope st).names.lookup y.1 = some .local ∨ ((defScope st).names.lookup y.1 = some .cell ∧ ((cellsFrom (s.heap.objs.size + 1) (defScope st).names []).lookup y.1).isSome = true) := by
    rintro ⟨n, v⟩ hy
    rcases S.par n (List.of_mem_zip hy).1 with q | q
    · exact .inl q
    · exact .inr ⟨q, PySem.W.cellsFrom_some _ _ _ (.inl q)⟩
  refine codeAny_call_function hr.depth (KX _ _ lk) rfl S.co S.gen rfl (PySem.W.codeRec_of KX hcd) (hb _ _ _ _ ?_)
  refine wpAny_newFunctionEnv_cells S.kind kinds fun env he s1 y => ?_
  subst he
  refine ⟨lim.keeps y.toInCall.keep, codeAny_func ?_⟩
  obtain ⟨t, ht, hq⟩ := body A outer s H vs Q E (hr.deeper _) hsp
  have I0 : Inv (cxOf CX0 P w K mg base N qual (defScope st) f (.ref cc) A outer s H E) [] (start N vs) H s1 := inv_start S hr.hd e0 hl r y
  rw [hst]
  refine wpAny_execs_cons (wpAny_Return_some (thn (ht.run [] s1 (start N vs) H _ I0 hq) fun u s' hs => ?_))
  obtain ⟨v, H1, J, rv, q⟩ := hs
  have ge : ∀ p ∈ cellsFrom (s.heap.objs.size + 1) (defScope st).names [], s.heap.objs.size ≤ p.2 := fun p hp => J.ok.cab p.1 p.2 rfl (hkey _ p hp).1
  have inj : ∀ p ∈ cellsFrom (s.heap.objs.size + 1) (defScope st).names [], ∀ p' ∈ cellsFrom (s.heap.objs.size + 1) (defScope st).names [], p.2 = p'.2 → p.1 = p'.1 := fun p hp p' hp' e =>
    J.ok.inj p.1 p'.1 p.2 (hkey _ p hp).1 (by rw [e]; exact (hkey _ p' hp').1)
  have fr1 : ∀ p ∈ cellsFrom (s.heap.objs.size + 1) (defScope st).names [], H1 p.2 = none := fun p hp => J.freeC p.1 p.2 (hkey _ p hp).1
  have val : ∀ p ∈ cellsFrom (s.heap.objs.size + 1) (defScope st).names [], ∃ v0 u0, (ps.zip vs).lookup p.1 = some v0 ∧ RelV v0 u0 ∧ s'.heap.IsCell p.2 (some u0) := by
    intro p hp
    obtain ⟨h1, h2⟩ := hkey _ p hp
    obtain ⟨i, hi, ei⟩ := List.getElem_of_mem (hcp p.1 h2)
    have hv : i < vs.length := by omega
    have ep : ps[i]? = some p.1 := by rw [List.getElem?_eq_getElem hi, ei]
    have ev : vs[i]? = some vs[i] := List.getElem?_eq_getElem hv
    have eN : N[i]? = some p.1 := by
      have z : (N.take ps.length)[i]? = some p.1 := by rw [S.pre]; exact ep
      rw [List.getElem?_take, if_pos hi] at z
      exact z
    have es : (start N vs)[i]? = some (some vs[i]) := by
      unfold L2.start
      rw [List.getElem?_append_left (by rw [List.length_map]; exact hv), List.getElem?_map, ev]
      rfl
    obtain ⟨m, _, lk⟩ := J.loc
    obtain ⟨u0, r0, z⟩ := lk i p.1 vs[i] eN es (.inr (.inl h2))
    refine ⟨vs[i], u0, zip_lookup hnd ep ev, r0, ?_⟩
    rcases z with ⟨z, _⟩ | ⟨_, c, hc, ic⟩
    · have z' : (defScope st).names.lookup p.1 = some .local := z
      rw [h2] at z'
      cases z'
    · have hc' : (cellsFrom (s.heap.objs.size + 1) (defScope st).names []).lookup p.1 = some c := hc
      rw [h1] at hc'
      cases hc'
      exact ic
  have old : ∀ b o, s.heap.get? b = some o → sealH (cellsFrom (s.heap.objs.size + 1) (defScope st).names []) (fun y => (ps.zip vs).lookup y) H1 b = H1 b := fun b o e => seal_out fun p hp z => by
    have := ge p hp
    rw [z] at this
    exact Nat.lt_irrefl _ (Nat.lt_of_lt_of_le (Heap.lt_size e) this)
  have oldH : ∀ b u, H b = some u → sealH (cellsFrom (s.heap.objs.size + 1) (defScope st).names []) (fun y => (ps.zip vs).lookup y) H1 b = H1 b := fun b u e => seal_out fun p hp z => by
    have := ge p hp
    rw [z] at this
    exact Nat.lt_irrefl _ (Nat.lt_of_lt_of_le (e0.hok.lt e) this)
  have un : Un (frs outer) [] H H1 s.heap s'.heap := J.base
  refine ⟨v, _, J.os, J.bare, ⟨un.keep, un.slot, fun b o e n f2 => by rw [old b o e]; exact un.free b o e n f2, un.there, fun b xs e => by rw [oldH b _ e]; exact un.tups b xs e, fun b o u e => by rw [oldH b _ e]; exact un.frzs b o u e, fun b qs e => by rw [oldH b _ e]; exact un.tbls b qs e⟩, fun b u e => ?_, rv, q fr1⟩
  by_cases hb : ∃ p ∈ cellsFrom (s.heap.objs.size + 1) (defScope st).names [], p.2 = b
  · obtain ⟨p, hp, rfl⟩ := hb
    obtain ⟨v0, u0, z1, z2, z3⟩ := val p hp
    rw [seal_in (y := p.1) hp (fun p' hp' e => inj p' hp' p hp e) z1] at e
    cases e
    exact cellO_new z2 z3
  · have out : ∀ d x, H1 d = some x → sealH (cellsFrom (s.heap.objs.size + 1) (defScope st).names []) (fun y => (ps.zip vs).lookup y) H1 d = H1 d := fun d x hd => seal_out fun p hp z => by
      have := fr1 p hp
      rw [z, hd] at this
      cases this
    rw [seal_out fun p hp z => hb ⟨p, hp, z⟩] at e
    exact (J.hok b u e).stay (fun _ _ _ z => z) (fun d z => by rw [out d _ z]; exact z) fun d xs z => by rw [out d _ z]; exact z
end
end EH
namespace EH
open PySem PySem.Spec PyProof.Rows L2 LamX
/-! ### a kept lambda is called -/
structure LamOk (P : Program) (w : World) (K : PySem.W.Frag) (mg : Str → Option Value) (base : Heap) (k : Nat) (L : LamC) (fv : Str → Option V) (sp : Sp) : Prop where
  run : ∀ (A : Around) (outer : List Env) (s : Shared) (H : Hp) (f : Addr) (us : List Value) (vs : List V) (Q : VK) (E : XK), Room k A → Env0 P w K mg base A outer s H → LamH H f L fv → Vals vs us → sp vs H Q E → codeAny (model P w) A (.call (.ref f) ⟨us, []⟩) (CR CX0 outer P w H s Q E) s
def tCallLam (LS : LamC → Prop) (sp : (Str → Option V) → Sp) (tf : TE) (ta : TA) : TE := fun σ H Q => tf σ H fun y H1 => ∃ (f : Addr) (L : LamC) (fv : Str → Option V), y = .ref f ∧ LS L ∧ H1 f = some (LamO f L.obj) ∧ ta σ H1 fun vs H2 => LamH H2 f L fv ∧ sp fv vs H2 Q fun _ _ _ => False
section
variable {X : Cx}
theorem pe_callLam {k : Nat} {LS : LamC → Prop} {sp : (Str → Option V) → Sp} {fe e : Expr} {es : List Expr} {tf : TE} {t : TA} {pos : Pos} (hf : PE X fe tf) (F : ∀ L fv, LS L → LamOk X.prog X.w X.K X.mg X.base k L fv (sp fv)) (hr : Room k X.A) (hx : Passes CX0 X fun _ _ _ => False) (ha : PA X (e :: es) t)
    (ht : eval (.Call fe (e :: es) [] pos) X.env = (do callWith pos (← eval fe X.env) [] (backTo pos (starEach (e :: es) X.env)) (backToKw pos (keywordEach [] X.env))) := by rfl)
    (he : starEach (e :: es) X.env = (false, eval e X.env) :: starEach es X.env := by rfl) (hpl : (backTo pos (starEach es X.env)).any (·.1) = false := by rfl) : PE X (.Call fe (e :: es) [] pos) (tCallLam LS sp tf t) := by
  refine ⟨fun pins s σ H Q I h => ?_⟩
  refine Call_ (thn (hf.run pins s σ H _ I h) fun u s1 ⟨y, H1, I1, ry, q⟩ => ?_) ht
  obtain ⟨f, L, fv, rfl, ls, hL, q⟩ := q
  obtain rfl : u = Value.ref f := ry
  have at1 : s1.heap.get? f = some L.obj := (I1.hok f _ hL).1
  refine PySem.W.callWith_F (first := []) ⟨_, _, _, _, at1⟩ (thn (ha.run pos pins s1 σ H1 _ I1 q) fun us s2 ⟨vs, H2, I2, r, lh, q2⟩ => ?_) he hpl
  have at2 : s2.heap.get? f = some L.obj := (I2.hok f _ lh.fn).1
  refine ⟨⟨_, _, _, _, at2⟩, ?_⟩
  refine wpAny_call (codeAny_mono ((F L fv ls).run X.A X.stack s2 H2 f us vs Q _ hr I2.env0 lh r q2) fun z s' hq => ?_)
  cases z with
  | error e => exact hx pins σ H2 s2 e s' I2 hq
  | ok fl => cases fl with
    | ret u => exact I2.after hq
    | next => exact hq.elim
    | brk => exact hq.elim
    | cont => exact hq.elim
end
end EH
namespace EH
open PySem PySem.Spec PyProof.Rows L2 LamX
/-! ### a dict's display, its new heaps by letters -/
def tDispA (trs : List (TE × TE)) : TE := fun σ H Q => ∀ p H1, H p = none → H1 = upd H p (.dK []) → tPairs trs σ H1 fun ps H2 => H2 p = some (.dK []) ∧ ∃ kvs : List (Key × V), ps = kvs.map (fun kv => (kV kv.1, kv.2)) ∧ kvs.length ≤ 15 ∧ ∀ H3, H3 = upd H2 p (.dK (mergeK [] kvs)) → Q (.ref p) H3
section
variable {X : Cx}
theorem pe_dispA {pos : Pos} {keys : List (Option Expr)} {values : List Expr} {trs : List (TE × TE)} (h : PPs X pos keys values trs) (hall : keys.all (·.isSome) = true) (hl : keys.length = values.length) (h0 : keys ≠ [])
    (h15 : keys.length ≤ 15) : PE X (.Dict keys values pos) (tDispA trs) := PE.imp (pe_disp h hall hl h0 h15) fun σ H Q q => by
  intro p hp
  have q1 := q p _ hp rfl
  simp only [forall_eq] at q1
  exact q1
end
theorem put_kp {H H2 : Hp} {p : Addr} {o v : HO} (h : H p = some v) (e : H2 = upd H p o) (hv : ∀ xs, v ≠ .tup xs) (he : ∀ φ, v ≠ .ext φ := by intro φ z; cases z) : Kp [p] H H2 := by
  rw [e]
  exact Kp.put h hv he
/-! ### the law's own walk: a world of names, items, turns, and a function that chooses -/
structure Wad where
  x : Addr
  nd : Addr
  sd : Addr
  td : Addr
  f : Addr
def wkvs (a : Wad) : List (Key × V) := [(Sum.inr "names", .ref a.nd), (Sum.inr "items", .ref a.sd), (Sum.inr "turns", .ref a.td), (Sum.inr "choose", .ref a.f)]
structure WAt (CP : Hp → Addr → Prop) (ow : List Addr) (H : Hp) (a : Wad) (n : Nat) (s : Cs) : Prop where
  ob : H a.x = some (.dK (wkvs a))
  nm : ∃ kvs, H a.nd = some (.dK kvs) ∧ EnvRel kvs s.env ∧ kvs.length ≤ n + 1
  sa : H a.sd = some (.lst (s.said.map kV))
  tu : H a.td = some (.lst (s.turns.map V.int))
  ch : CP H a.f
  ls : s.said.length ≤ n
  lt : s.turns.length ≤ n
  ne1 : a.nd ≠ a.x
  ne2 : a.sd ≠ a.td
  dis : ∀ x ∈ [a.nd, a.sd, a.td], x ∉ ow
section
variable {CP : Hp → Addr → Prop} {ow : List Addr} {H H1 : Hp} {a : Wad} {n m : Nat} {s : Cs}
theorem WAt.g1 (c : WAt CP ow H a n s) : DGet H a.x (.str "names") (some (.ref a.nd)) := DGet.k (k := Sum.inr "names") c.ob
theorem WAt.g2 (c : WAt CP ow H a n s) : DGet H a.x (.str "items") (some (.ref a.sd)) := DGet.k (k := Sum.inr "items") c.ob
theorem WAt.g3 (c : WAt CP ow H a n s) : DGet H a.x (.str "turns") (some (.ref a.td)) := DGet.k (k := Sum.inr "turns") c.ob
theorem WAt.g4 (c : WAt CP ow H a n s) : DGet H a.x (.str "choose") (some (.ref a.f)) := DGet.k (k := Sum.inr "choose") c.ob
theorem WAt.mono (c : WAt CP ow H a n s) (h : n ≤ m) : WAt CP ow H a m s := by
  obtain ⟨kvs, h1, h2, h3⟩ := c.nm
  have := c.ls
  have := c.lt
  exact ⟨c.ob, ⟨kvs, h1, h2, by omega⟩, c.sa, c.tu, c.ch, by omega, by omega, c.ne1, c.ne2, c.dis⟩
theorem WAt.kp0 (kp : ∀ S H H' f, CP H f → Kp S H H' → (∀ x ∈ S, x ∉ ow) → CP H' f) (c : WAt CP ow H a n s) (k : Kp [] H H1) : WAt CP ow H1 a n s := by
  obtain ⟨kvs, h1, h2, h3⟩ := c.nm
  exact ⟨k.at c.ob, ⟨kvs, k.at h1, h2, h3⟩, k.at c.sa, k.at c.tu, kp _ _ _ _ c.ch k (fun _ z => nomatch z), c.ls, c.lt, c.ne1, c.ne2, c.dis⟩
theorem WAt.put {kvs : List (Key × V)} {x : Str} {v : Int} (kp : ∀ S H H' f, CP H f → Kp S H H' → (∀ x ∈ S, x ∉ ow) → CP H' f) (c : WAt CP ow H a n s) (hk : H a.nd = some (.dK kvs)) (he : EnvRel kvs s.env)
    (hl : kvs.length ≤ n + 1) (e : H1 = upd H a.nd (.dK (putK kvs (Sum.inr x) (.int v)))) : WAt CP ow H1 a (n + 1) { s with env := setE s.env x v } ∧ Kp [a.nd, a.sd, a.td] H H1 := by
  have k : Kp [a.nd] H H1 := by rw [e]; exact Kp.put hk (fun _ z => by cases z)
  have l2 := length_putK kvs (Sum.inr x : Key) (V.int v)
  have := c.ls
  have := c.lt
  refine ⟨⟨k.keep _ _ c.ob (EH.ne1 c.ne1.symm), ⟨_, by rw [e]; exact upd_same, he.put x v, by omega⟩, k.keep _ _ c.sa (EH.ne1 (ne_of c.sa hk (fun z => by cases z))), k.keep _ _ c.tu (EH.ne1 (ne_of c.tu hk (fun z => by cases z))),
    kp _ _ _ _ c.ch k (fun x hx => c.dis x (by cases List.mem_singleton.mp hx; simp)), by show s.said.length ≤ _; omega, by show s.turns.length ≤ _; omega, c.ne1, c.ne2, c.dis⟩, k.sub (by simp)⟩
theorem WAt.say {v : Key} (kp : ∀ S H H' f, CP H f → Kp S H H' → (∀ x ∈ S, x ∉ ow) → CP H' f) (c : WAt CP ow H a n s) (h1 : H1 a.sd = some (.lst (s.said.map kV ++ [kV v]))) (k : Kp [a.sd] H H1) :
    WAt CP ow H1 a (n + 1) { s with said := s.said ++ [v] } ∧ Kp [a.nd, a.sd, a.td] H H1 := by
  obtain ⟨kvs, g1, g2, g3⟩ := c.nm
  have := c.ls
  have := c.lt
  refine ⟨⟨k.keep _ _ c.ob (EH.ne1 (ne_of c.ob c.sa (fun z => by cases z))), ⟨kvs, k.keep _ _ g1 (EH.ne1 (ne_of g1 c.sa (fun z => by cases z))), g2, by omega⟩, by rw [h1, List.map_append]; rfl, k.keep _ _ c.tu (EH.ne1 c.ne2.symm),
    kp _ _ _ _ c.ch k (fun x hx => c.dis x (by cases List.mem_singleton.mp hx; simp)), by show (s.said ++ [v]).length ≤ _; rw [List.length_append, List.length_singleton]; omega, by show s.turns.length ≤ _; omega, c.ne1, c.ne2, c.dis⟩, k.sub (by simp)⟩
theorem WAt.turn {v : Int} (kp : ∀ S H H' f, CP H f → Kp S H H' → (∀ x ∈ S, x ∉ ow) → CP H' f) (c : WAt CP ow H a n s) (h1 : H1 a.td = some (.lst (s.turns.map V.int ++ [.int v]))) (k : Kp [a.td] H H1) :
    WAt CP ow H1 a (n + 1) { s with turns := s.turns ++ [v] } ∧ Kp [a.nd, a.sd, a.td] H H1 := by
  obtain ⟨kvs, g1, g2, g3⟩ := c.nm
  have := c.ls
  have := c.lt
  refine ⟨⟨k.keep _ _ c.ob (EH.ne1 (ne_of c.ob c.tu (fun z => by cases z))), ⟨kvs, k.keep _ _ g1 (EH.ne1 (ne_of g1 c.tu (fun z => by cases z))), g2, by omega⟩, k.keep _ _ c.sa (EH.ne1 c.ne2), by rw [h1, List.map_append]; rfl,
    kp _ _ _ _ c.ch k (fun x hx => c.dis x (by cases List.mem_singleton.mp hx; simp)), by show s.said.length ≤ _; omega, by show (s.turns ++ [v]).length ≤ _; rw [List.length_append, List.length_singleton]; omega, c.ne1, c.ne2, c.dis⟩, k.sub (by simp)⟩
end
theorem WAt.off {CP : Hp → Addr → Prop} {ow : List Addr} {H : Hp} {a : Wad} {n : Nat} {s : Cs} {l : Addr} (c : WAt CP ow H a n s) (h : H l = none) : l ∉ [a.nd, a.sd, a.td] := by
  obtain ⟨kvs, g1, _⟩ := c.nm
  simp [(ne_of_none g1 h).symm, (ne_of_none c.sa h).symm, (ne_of_none c.tu h).symm]
/-- a function that chooses, called by value, place and the number of the turn -/
structure Chooser (P : Program) (w : World) (K : PySem.W.Frag) (mg : Str → Option Value) (base : Heap) (k : Nat) (LS : LamC → Prop) (sp : (Str → Option V) → Sp) (CP : Hp → Addr → Prop) (ow : List Addr) (dec : Nat → Int → Int → Int) : Prop where
  F : ∀ L fv, LS L → LamOk P w K mg base k L fv (sp fv)
  kp : ∀ S H H' f, CP H f → Kp S H H' → (∀ x ∈ S, x ∉ ow) → CP H' f
  fr : ∀ H f, CP H f → ∀ x ∈ ow, H x ≠ none
  atF : ∀ H f, CP H f → ∃ L fv, LS L ∧ LamH H f L fv ∧ ∀ (v p : Int) (n : Nat) (Q : VK), (∀ H', Kp [] H H' → Q (.int (dec n v p)) H') → sp fv [.int v, .int p, .int n] H Q fun _ _ _ => False
def spLSize (m : Nat) : Sp := fun vs H Q _ => ∃ (v : V) (b : List Sm), vs = [v] ∧ Tr H (.tuple (Sm.ds b)) v ∧ Sm.nests b ≤ m ∧ Sm.pls b ≤ 1000000 ∧ ∀ (H' : Hp), Kp [] H H' → Q (.int (Sm.pls b : Int)) H'
def spLDo (CP : Hp → Addr → Prop) (ow : List Addr) (dec : Nat → Int → Int → Int) : Sp := fun vs H Q _ => ∃ (a : Wad) (n : Nat) (s : Cs) (v : V) (st : Sm) (p : Int), vs = [.ref a.x, v, .int p] ∧ WAt CP ow H a n s ∧ n + 2 ≤ 1000000 ∧
  Tr H st.d v ∧ st.plain ∧ (∀ c, st ≠ .stop c) ∧ st.ok ∧ ∀ H', WAt CP ow H' a (n + 2) (st.run dec noWay p s).2 → Kp [a.nd, a.sd, a.td] H H' → Q .non H'
def spLGo (CP : Hp → Addr → Prop) (ow : List Addr) (dec : Nat → Int → Int → Int) (m : Nat) : Sp := fun vs H Q _ => ∃ (a : Wad) (n : Nat) (s : Cs) (v : V) (b : List Sm) (p : Int), vs = [.ref a.x, v, .int p] ∧ WAt CP ow H a n s ∧ n + 2 * Sm.wts b ≤ 1000000 ∧
  Tr H (.tuple (Sm.ds b)) v ∧ Sm.oks b ∧ Sm.pls b ≤ 1000000 ∧ Sm.nests b ≤ m ∧ ∀ H', WAt CP ow H' a (n + 2 * Sm.wts b) (Sm.runs dec noWay b p s).2 → Kp [a.nd, a.sd, a.td] H H' → Q (wV (Sm.runs dec noWay b p s).1) H'
def spLRun (CP : Hp → Addr → Prop) (dec : Nat → Int → Int → Int) (m : Nat) : Sp := fun vs H Q _ => ∃ (v : V) (b : List Sm) (num : Int) (f : Addr), vs = [v, .int num, .ref f] ∧ Tr H (.tuple (Sm.ds b)) v ∧ CP H f ∧
  Sm.oks b ∧ Sm.wts b ≤ 100000 ∧ Sm.pls b ≤ 1000000 ∧ Sm.nests b ≤ m ∧ ∀ (t : V) (H' : Hp), Tr H' (resD (Sm.runs dec noWay b 0 (cs0 num))) t → Kp [] H H' → Q t H'
/-- the blocks of a statement by its items from the third on -/
theorem Sm.rest2 {H : Hp} {v : V} : ∀ {t : Sm}, Tr H t.d v → ¬ t.plain → ∃ u xs, v = .ref u ∧ H u = some (.tup (.str t.kw :: xs)) ∧ TrAll H (t.blks.map fun b => .tuple (Sm.ds b)) (xs.drop 1) ∧ 1 ≤ xs.length
  | .ite _ _ _, h, _ => by obtain ⟨u, x1, x2, x3, x4, rfl, h1, t1, t2, t3, t4⟩ := tr_tup4 h; cases tr_str t1; exact ⟨u, _, rfl, h1, trs_cons t3 (trs_cons t4 trs_nil), by simp⟩
  | .rep _ _, h, _ => by obtain ⟨u, x1, x2, x3, rfl, h1, t1, t2, t3⟩ := tr_tup3 h; cases tr_str t1; exact ⟨u, _, rfl, h1, trs_cons t3 trs_nil, by simp⟩
  | .set _ _, _, h => absurd trivial h
  | .half _ _, _, h => absurd trivial h
  | .tell _, _, h => absurd trivial h
  | .say _, _, h => absurd trivial h
  | .stop _, _, h => absurd trivial h
theorem Sm.plain_blks : ∀ {t : Sm}, t.plain → t.blks = []
  | .ite _ _ _, h => h.elim
  | .rep _ _, h => h.elim
  | .set _ _, _ => rfl
  | .half _ _, _ => rfl
  | .tell _, _ => rfl
  | .say _, _ => rfl
  | .stop _, _ => rfl
theorem pl_sum (t : Sm) : 1 + (t.blks.map fun b => (Sm.pls b : Int)).sum = (t.pl : Int) := by
  rw [Sm.pl_blks]
  have : ∀ l : List (List Sm), (l.map fun b => (Sm.pls b : Int)).sum = (((l.map Sm.pls).sum : Nat) : Int) := by
    intro l
    induction l with
    | nil => rfl
    | cons b r ih =>
      rw [List.map_cons, List.map_cons, List.sum_cons, List.sum_cons, ih, Int.natCast_add]
  rw [this, Int.natCast_add]
  rfl
theorem env0_rel (num : Int) : EnvRel [((Sum.inr "n" : Key), V.int num)] (env0 num) := by
  intro y
  show (valV [((Sum.inr "n" : Key), V.int num)] (Sum.inr y)).getD (.int 0) = .int (env0 num y)
  unfold env0 valV
  by_cases e : y = "n"
  · subst e
    rfl
  · rw [if_neg e, List.find?_cons_of_neg (by simp; intro z; exact e z.symm)]
    rfl
theorem cut_fr (xs : List V) (k : Nat) : cutV xs (some (k : Int)) none = xs.drop k := by
  unfold cutV
  rw [HT.sIx_nat, HT.sIx_none]
  by_cases h : k ≤ xs.length
  · rw [Nat.min_eq_left h]
    exact List.take_of_length_le (by rw [List.length_drop]; exact Nat.le_refl _)
  · rw [Nat.min_eq_right (by omega), List.drop_length, List.take_nil, List.drop_eq_nil_of_le (by omega)]
theorem cut_2 (x : V) (xs : List V) : cutV (x :: xs) (some 2) none = xs.drop 1 := cut_fr (x :: xs) 2
theorem tab_kp {S : List Addr} {H H' : Hp} {Pt : Addr} {q : Str} (t : TabS H Pt q) (k : Kp S H H') (n : Pt ∉ S) : TabS H' Pt q := by
  obtain ⟨ps, h1, h2, h3⟩ := t
  refine ⟨ps, k.keep _ _ h1 n, h2, fun pos cv hc => ?_⟩
  obtain ⟨c, e1, e2⟩ := h3 pos cv hc
  exact ⟨c, e1, k.ext _ _ e2⟩
theorem tab_off {H : Hp} {Pt a c : Addr} {q : Str} {n : Int} (t : TabS H Pt q) (d : Deck H a c n) : Pt ∉ [a, c] := by
  obtain ⟨ps, h1, _⟩ := t
  obtain ⟨xs, g1⟩ := d.a_some
  obtain ⟨ys, g2⟩ := d.c_some
  exact ne2 (ne_of h1 g1 (fun z => by cases z)) (ne_of h1 g2 (fun z => by cases z))
theorem tab_new {H : Hp} {Pt p : Addr} {q : Str} (t : TabS H Pt q) (h : H p = none) : Pt ≠ p := by
  obtain ⟨ps, h1, _⟩ := t
  exact ne_of_none h1 h
theorem Deck.kpT {H H' : Hp} {Pt a c : Addr} {q : Str} {n : Int} (d : Deck H a c n) (t : TabS H Pt q) (k : Kp [Pt] H H') : Deck H' a c n := by
  have o := tab_off t d
  simp only [List.mem_cons, List.not_mem_nil, or_false, not_or] at o
  exact d.kp k (ne1 fun z => o.1 z.symm) (ne1 fun z => o.2 z.symm)
def spLawT (Pt : Addr) (K : PySem.W.Frag) : Sp := fun vs H Q _ => ∃ (a : Addr) (ns : List Int), vs = [.ref a] ∧ SqL K H a (ns.map V.int) ∧ ns.length ≤ 63 ∧ H Pt = some (.tbl #[]) ∧ ∀ H', Q (.bl true) H'
end EH
namespace EH
open PySem L2
/-! ### all runs on a number by sixteen choices, sorted by their turns -/
section
variable {ways : Int → Option Int} {b : List Sm} {n : Int}
theorem Chn.full {k : Nat} (o : Sm.oks b) (hv : Sm.hvs b ≤ k) : ∃ Rs, Chn ways b n Rs none := by
  have go : ∀ (m : Nat) (Rs : List (Option Str × Cs)) (c : Option (List Int)), msr k c ≤ m → Chn ways b n Rs c → ∃ Rs, Chn ways b n Rs none := by
    intro m
    induction m with
    | zero =>
      intro Rs c hm h
      cases c with
      | none => exact ⟨Rs, h⟩
      | some c =>
        have := msr_lt (k := k) o hv h
        omega
    | succ m ih =>
      intro Rs c hm h
      cases c with
      | none => exact ⟨Rs, h⟩
      | some c =>
        have := msr_lt (k := k) o hv h
        exact ih _ _ (by omega) h.snoc
  exact go _ [] (some []) (Nat.le_refl _) .nil
theorem Chn.same : ∀ (m : Nat) {Rs Rs' : List (Option Str × Cs)} {c c' : Option (List Int)}, Rs.length = m → Rs'.length = m → Chn ways b n Rs c → Chn ways b n Rs' c' → Rs = Rs' ∧ c = c'
  | 0, Rs, Rs', c, c', h1, h2, a, e => by
    cases a with
    | nil =>
      cases e with
      | nil => exact ⟨rfl, rfl⟩
      | snoc e => simp at h2
    | snoc a => simp at h1
  | m + 1, Rs, Rs', c, c', h1, h2, a, e => by
    cases a with
    | nil => simp at h1
    | snoc a =>
      cases e with
      | nil => simp at h2
      | snoc e =>
        rw [List.length_append] at h1 h2
        obtain ⟨z1, z2⟩ := Chn.same m (by simpa using h1) (by simpa using h2) a e
        cases z2
        subst z1
        exact ⟨rfl, rfl⟩
theorem Chn.pre : ∀ (m : Nat) {Rs : List (Option Str × Cs)} {c : Option (List Int)}, m < Rs.length → Chn ways b n Rs c → ∃ Rs' c', Rs'.length = m ∧ Chn ways b n Rs' (some c') := by
  intro m Rs c hm h
  induction h with
  | nil => simp at hm
  | @snoc Rs c h ih =>
    by_cases z : m < Rs.length
    · exact ih z
    · rw [List.length_append, List.length_singleton] at hm
      exact ⟨Rs, c, by omega, h⟩
theorem Chn.uniq {Rs Rs' : List (Option Str × Cs)} (a : Chn ways b n Rs none) (e : Chn ways b n Rs' none) : Rs = Rs' := by
  rcases Nat.lt_trichotomy Rs.length Rs'.length with h | h | h
  · obtain ⟨R, c, l, z⟩ := e.pre _ h
    have := (Chn.same _ rfl l a z).2
    cases this
  · exact (Chn.same _ rfl h.symm a e).1
  · obtain ⟨R, c, l, z⟩ := a.pre _ h
    have := (Chn.same _ rfl l e z).2
    cases this
end
/-- a sorted list is the strictly rising one with the same items -/
theorem sorted_eq {α : Type} {lt : α → α → Bool} : ∀ {m l : List α}, l.Perm m → l.Pairwise (fun a b => lt b a = false) → m.Pairwise (fun a b => lt a b = true) → l = m
  | [], l, p, _, _ => p.eq_nil
  | a :: m, [], p, _, _ => absurd p.length_eq (by simp)
  | a :: m, x :: l, p, hs, hm => by
    have hs' := List.pairwise_cons.mp hs
    have hm' := List.pairwise_cons.mp hm
    have e : x = a := by
      have h1 : a ∈ x :: l := p.mem_iff.mpr List.mem_cons_self
      have h2 : x ∈ a :: m := p.mem_iff.mp List.mem_cons_self
      rcases List.mem_cons.mp h1 with z | z
      · exact z.symm
      · rcases List.mem_cons.mp h2 with y | y
        · exact y
        · have a1 := hs'.1 a z
          have a2 := hm'.1 x y
          rw [a1] at a2
          cases a2
    subst e
    rw [sorted_eq (List.perm_cons x |>.mp p) hs'.2 hm'.2]
def bits (j : Nat) : List Int := [(j : Int) / 8, (j : Int) / 4 % 2, (j : Int) / 2 % 2, (j : Int) % 2]
theorem bits_ok {j : Nat} (h : j < 16) : ty01 (bits j) ∧ (bits j).length = 4 := by
  refine ⟨?_, rfl⟩
  intro i hi
  simp only [bits, List.mem_cons, List.not_mem_nil, or_false] at hi
  rcases hi with rfl | rfl | rfl | rfl <;> omega
theorem bits_all {v : List Int} (h : ty01 v) (l : v.length = 4) : ∃ j, j < 16 ∧ bits j = v := by
  match v, l with
  | [x, y, z, w], _ =>
    have hx := h x (by simp)
    have hy := h y (by simp)
    have hz := h z (by simp)
    have hw := h w (by simp)
    refine ⟨(8 * x + 4 * y + 2 * z + w).toNat, by omega, ?_⟩
    simp only [bits]
    rw [show (((8 * x + 4 * y + 2 * z + w).toNat : Nat) : Int) = 8 * x + 4 * y + 2 * z + w by omega]
    congr 1
    · omega
    · congr 1
      · omega
      · congr 1
        · omega
        · congr 1
          omega
def tkey (R : Option Str × Cs) : List Key := R.2.turns.map Sum.inl
theorem tkey_inj {R S : Option Str × Cs} (h : tkey R = tkey S) : R.2.turns = S.2.turns := by
  unfold tkey at h
  exact List.map_inj_right (fun a b e => Sum.inl.inj e) |>.mp h
theorem keyD_tkey (R : Option Str × Cs) : keyD (tkey R) = .tuple (R.2.turns.map PyData.int) := by
  unfold keyD tkey
  rw [List.map_map]
  rfl
theorem tkey_kV (R : Option Str × Cs) : (tkey R).map kV = R.2.turns.map V.int := by
  unfold tkey
  rw [List.map_map]
  rfl
theorem ahd_lt : ∀ {t u : List Int}, Ahd t u → PySem.W.rowLt (t.map .int) (u.map .int) = true := by
  intro t u h
  rw [PySem.W.dataLt_ints]
  refine decide_eq_true ?_
  induction h with
  | lt => exact List.cons_lt_cons_iff.mpr (.inl (by decide))
  | eq h ih => exact List.cons_lt_cons_iff.mpr (.inr ⟨rfl, ih⟩)
section
variable {ways : Int → Option Int} {b : List Sm} {n : Int}
theorem chn_mem {Rs : List (Option Str × Cs)} (o : Sm.oks b) (hv : Sm.hvs b ≤ 4) (h : Chn ways b n Rs none) (R : Option Str × Cs) : R ∈ Rs ↔ ∃ j, j < 16 ∧ R = rn ways b n (bits j) := by
  have ok := h.ok (k := 4) o hv
  constructor
  · intro hR
    obtain ⟨e, t01, tl, _⟩ := ok.self R hR
    have l4 : (tk R.2.turns 4).length = 4 := tk_len _ _
    obtain ⟨j, hj, eb⟩ := bits_all (tk_01 t01 4) l4
    refine ⟨j, hj, ?_⟩
    rw [eb]
    have e2 : rn ways b n (tk R.2.turns 4) = rn ways b n R.2.turns := by
      refine runs_same (c1 := R.2.turns) (c2 := tk R.2.turns 4) (ways := ways) b o 0 n fun i hi => ?_
      have : i < 4 := Nat.lt_of_lt_of_le hi (rn_len o hv _)
      exact (tk_getD this).symm
    rw [e2, e]
  · rintro ⟨j, hj, rfl⟩
    obtain ⟨b1, b2⟩ := bits_ok hj
    refine ok.all _ b2 b1 ?_
    have := wl_rng b1 (Nat.le_of_eq b2)
    have := pw_pos 4 (bits j)
    show wl 4 (bits j) < (2 : Int) ^ 4
    omega
/-- what the dict holds: each run once, by its turns -/
structure AllAt (ways : Int → Option Int) (b : List Sm) (n : Int) (H : Hp) (kvs : List (List Key × V)) (Ss : List (Option Str × Cs)) (i : Nat) : Prop where
  keys : kvs.map (·.1) = Ss.map tkey
  nd : (Ss.map tkey).Nodup
  val : ∀ R ∈ Ss, ∃ v, valV kvs (tkey R) = some v ∧ Tr H (runD R) v
  from_ : ∀ R ∈ Ss, ∃ j, j < 16 ∧ R = rn ways b n (bits j)
  all : ∀ j, j < i → rn ways b n (bits j) ∈ Ss
theorem AllAt.kp {H H' : Hp} {S : List Addr} {kvs : List (List Key × V)} {Ss : List (Option Str × Cs)} {i : Nat} (h : AllAt ways b n H kvs Ss i) (k : Kp S H H') : AllAt ways b n H' kvs Ss i :=
  ⟨h.keys, h.nd, fun R hR => let ⟨v, e, t⟩ := h.val R hR; ⟨v, e, k.tr t⟩, h.from_, h.all⟩
theorem AllAt.put {H : Hp} {kvs : List (List Key × V)} {Ss : List (Option Str × Cs)} {i : Nat} {v : V} (o : Sm.oks b) (hi : i < 16) (h : AllAt ways b n H kvs Ss i) (t : Tr H (runD (rn ways b n (bits i))) v) :
    ∃ Ss', AllAt ways b n H (putK kvs (tkey (rn ways b n (bits i))) v) Ss' (i + 1) := by
  have self : ∀ R, (∃ j, j < 16 ∧ R = rn ways b n (bits j)) → rn ways b n R.2.turns = R := by
    rintro R ⟨j, hj, rfl⟩
    exact rn_self o _
  generalize hR : rn ways b n (bits i) = R at t
  have fR : ∃ j, j < 16 ∧ R = rn ways b n (bits j) := ⟨i, hi, hR.symm⟩
  have one : ∀ S ∈ Ss, tkey S = tkey R → S = R := fun S hS e => by
    rw [← self S (h.from_ S hS), ← self R fR, tkey_inj e]
  by_cases hm : R ∈ Ss
  · refine ⟨Ss, ?_, h.nd, fun S hS => ?_, h.from_, fun j hj => ?_⟩
    · have hk : (kvs.any fun kv => decide (kv.1 = tkey R)) = true := by
        have : tkey R ∈ kvs.map (·.1) := by rw [h.keys]; exact List.mem_map.mpr ⟨R, hm, rfl⟩
        obtain ⟨p, hp, e⟩ := List.mem_map.mp this
        exact List.any_eq_true.mpr ⟨p, hp, decide_eq_true e⟩
      unfold putK
      rw [if_pos hk, List.map_map, ← h.keys]
      refine List.map_congr_left fun p _ => ?_
      show (if p.1 = tkey R then (p.1, v) else p).1 = p.1
      split <;> rfl
    · rw [valV_put]
      by_cases e : tkey S = tkey R
      · rw [if_pos e, one S hS e]
        exact ⟨v, rfl, t⟩
      · rw [if_neg e]
        exact h.val S hS
    · by_cases z : j = i
      · subst z; rw [hR]; exact hm
      · exact h.all j (by omega)
  · have nk : tkey R ∉ Ss.map tkey := fun z => by
      obtain ⟨S, hS, e⟩ := List.mem_map.mp z
      exact hm (one S hS e ▸ hS)
    have hk : ¬ (kvs.any fun kv => decide (kv.1 = tkey R)) = true := by
      intro z
      obtain ⟨p, hp, e⟩ := List.any_eq_true.mp z
      exact nk (by rw [← h.keys]; exact List.mem_map.mpr ⟨p, hp, of_decide_eq_true e⟩)
    refine ⟨Ss ++ [R], ?_, ?_, fun S hS => ?_, fun S hS => ?_, fun j hj => ?_⟩
    · unfold putK
      rw [if_neg hk, List.map_append, List.map_append, h.keys]
      rfl
    · rw [List.map_append]
      refine List.nodup_append.mpr ⟨h.nd, by simp, ?_⟩
      intro x hx y hy e
      subst e
      have : x = tkey R := by simpa using hy
      exact nk (this ▸ hx)
    · rw [valV_put]
      rcases List.mem_append.mp hS with z | z
      · by_cases e : tkey S = tkey R
        · exact absurd (one S z e ▸ z) hm
        · rw [if_neg e]
          exact h.val S z
      · cases List.mem_singleton.mp z
        rw [if_pos rfl]
        exact ⟨v, rfl, t⟩
    · rcases List.mem_append.mp hS with z | z
      · exact h.from_ S z
      · cases List.mem_singleton.mp z
        exact fR
    · by_cases z : j = i
      · subst z; rw [hR]; simp
      · exact List.mem_append_left _ (h.all j (by omega))
theorem AllAt.sorted {H : Hp} {kvs : List (List Key × V)} {Ss Rs : List (Option Str × Cs)} (o : Sm.oks b) (hv : Sm.hvs b ≤ 4) (c : Chn ways b n Rs none) (h : AllAt ways b n H kvs Ss 16) :
    PySem.W.AllAlike (kvs.map fun p => keyD p.1) ∧ Srt (kvs.map fun p => keyD p.1) ∧ (kvs.map fun p => keyD p.1).mergeSort (PySem.W.dataLe false id) = Rs.map (fun R => .tuple (R.2.turns.map PyData.int)) ∧ (∀ R ∈ Rs, ∃ v, valV kvs (tkey R) = some v ∧ Tr H (runD R) v) ∧ kvs.length ≤ 16 := by
  have ok := c.ok (k := 4) o hv
  have ek : (kvs.map fun p => keyD p.1) = Ss.map fun R => .tuple (R.2.turns.map PyData.int) := by
    have : (kvs.map fun p => keyD p.1) = (kvs.map (·.1)).map keyD := by rw [List.map_map]; rfl
    rw [this, h.keys, List.map_map]
    exact List.map_congr_left fun R _ => keyD_tkey R
  have mem : ∀ R, R ∈ Ss ↔ R ∈ Rs := fun R => by
    rw [chn_mem o hv c]
    exact ⟨h.from_ R, fun ⟨j, hj, e⟩ => e ▸ h.all j hj⟩
  have strict : (Rs.map fun R => PyData.tuple (R.2.turns.map PyData.int)).Pairwise (fun a b => PySem.W.dataLt a b = true) := by
    rw [List.pairwise_map]
    refine ok.ord.imp fun hA => ?_
    rw [PySem.W.dataLt_tuple]
    exact ahd_lt hA
  have ndS : Ss.Nodup := (List.pairwise_map.mp h.nd).imp fun hne e => hne (by rw [e])
  have ndR : Rs.Nodup := by
    refine ok.ord.imp fun hA e => ?_
    subst e
    have := ahd_lt hA
    rw [PySem.W.dataLt_ints, decide_eq_true_eq] at this
    exact absurd this (List.lt_irrefl _)
  have perm : Ss.Perm Rs := (List.perm_ext_iff_of_nodup ndS ndR).mpr mem
  have lenR := c.len o (Nat.le_trans hv (by decide))
  have lenR16 : Rs.length ≤ 16 := by
    have := ok.len o hv
    have e : (2 : Int) ^ 4 = 16 := by decide
    omega
  refine ⟨?_, ?_, ?_, fun R hR => h.val R ((mem R).mpr hR), ?_⟩
  · rw [ek]
    refine PySem.W.AllAlike.of fun R S => ?_
    show PySem.W.alike (.tuple _) (.tuple _) = true
    simp only [PySem.W.alike]
    exact PySem.W.alike_ints _ _
  · rw [ek]
    by_cases z : ∃ R ∈ Rs, R.2.turns = []
    · obtain ⟨R, hR, e⟩ := z
      refine .inr ⟨?_, fun d hd => ?_⟩
      · have s := ok.sum
        have hp : pw 4 R.2.turns = 16 := by rw [e]; decide
        have tt : topO 4 none = 16 := by decide
        rw [tt] at s
        rw [List.length_map, perm.length_eq]
        obtain ⟨A, B, rfl⟩ := List.append_of_mem hR
        rw [List.map_append, List.map_cons, List.sum_append, List.sum_cons, hp] at s
        have sA := sum_ge (k := 4) (Rs := A)
        have sB := sum_ge (k := 4) (Rs := B)
        rw [List.length_append, List.length_cons]
        omega
      · obtain ⟨S, _, rfl⟩ := List.mem_map.mp hd
        exact fun z => by cases z
    · refine .inl (.inl fun d hd => ?_)
      obtain ⟨S, hS, rfl⟩ := List.mem_map.mp hd
      have := fun e => z ⟨S, (mem S).mp hS, e⟩
      cases e : S.2.turns with
      | nil => exact absurd e this
      | cons x r => exact ⟨_, _, rfl⟩
  · rw [ek]
    refine sorted_eq (lt := PySem.W.dataLt) ((List.mergeSort_perm _ _).trans (perm.map _)) ?_ strict
    have := PySem.W.sort_pairwise (PySem.W.sortLe_total (PyProof.Rows.listOrd PyProof.Rows.itemOrd) false fun d : PyData => PySem.W.keyToks (id d)) (Ss.map fun R => PyData.tuple (R.2.turns.map PyData.int))
    refine List.Pairwise.imp (fun {x y} hxy => ?_) this
    have hxy : (!PySem.W.dataLt y x) = true := hxy
    cases e : PySem.W.dataLt y x with
    | false => rfl
    | true => rw [e] at hxy; cases hxy
  · have := congrArg List.length h.keys
    rw [List.length_map, List.length_map, perm.length_eq] at this
    omega
end
section
variable {X : Cx} {pos : Pos}
/-- d[t] = e, t a tuple -/
def sDPutT (td ty tv : TE) : TS := fun D σ H => tv σ H fun v H1 => td σ H1 fun o H2 => ty σ H2 fun y H3 => ∃ (a : Addr) (kvs : List (List Key × V)) (k : List Key) (b : Addr), o = .ref a ∧ y = .ref b ∧ H3 a = some (.dT kvs) ∧ H3 b = some (.tup (k.map kV)) ∧ kvs.length < sizeLine ∧ ∀ H4, H4 = upd H3 a (.dT (putK kvs k v)) → D.nx σ H4
theorem ps_dputT {o i value : Expr} {td ty tv : TE} {pos' : Pos} (hu : X.A.units + 1 < cLine) (ho : PE X o td) (hi : PE X i ty) (hv : PE X value tv) (hs : swapsWith value (some (.Subscript o i pos')) pos.line X.env = pure false := by rfl) : L2.PS X (.Assign [.Subscript o i pos'] value pos) (sDPutT td ty tv) := by
  constructor
  intro pins s σ H D I h
  refine wpAny_Assign_Subscript (thn (hv.run pins s σ H _ I h) fun r s1 h1 => ?_) hs
  obtain ⟨v, H1, I1, rv, q1⟩ := h1
  refine thn (ho.run pins s1 σ H1 _ I1 q1) fun u s2 h2 => ?_
  obtain ⟨x, H2, I2, rx, q2⟩ := h2
  refine thn (hi.run pins s2 σ H2 _ I2 q2) fun iv s3 h3 => ?_
  obtain ⟨y, H3, I3, ry, a, kvs, z, b, ex, ey, hd, hb, hz, q3⟩ := h3
  subst ex
  subst ey
  cases (show u = Value.ref a from rx)
  exact d_setItem hu I3 (DPut.t (k := z) hd hb hz) ry rv fun s4 I4 => ⟨σ, _, I4, q3 _ rfl⟩
end
def tabQ : Str := "_law_by.<locals>.<lambda>"
open LamX in
/-- all runs on a number, told by the law -/
def spLAll (Pt : Addr) (m : Nat) : Sp := fun vs H Q _ => ∃ (v : V) (b : List Sm) (num : Int), vs = [v, .int num] ∧ Tr H (.tuple (Sm.ds b)) v ∧ TabS H Pt tabQ ∧ PrOk b ∧ Sm.nests b ≤ m ∧
  ∀ (l : Addr) (Rs : List (Option Str × Cs)) (xs : List V) (H' : Hp), H l = none → Chn noWay b num Rs none → Rs.length ≤ 16 → H' l = some (.lst xs) → TrAll H' (Rs.map runD) xs → TabS H' Pt tabQ → Kp [Pt] H H' → Q (.ref l) H'
end EH
namespace EH
open PySem L2
/-! ### the runs of a row are all runs on a number, in order -/
abbrev Out := Option Str × List Key
def oOf (R : Option Str × Cs) : Out := (R.1, R.2.said)
def Rn.out (R : Rn) (n : Int) : Out := (R.word, R.items.map (itAt n))
def prsC (Rs : List (Option Str × Cs)) : List (List Int × Out) := Rs.map fun R => (R.2.turns, oOf R)
def prsR (rs : List Rn) (n : Int) : List (List Int × Out) := rs.map fun R => (R.turns, R.out n)
theorem strict_eq {α : Type} {lt : α → α → Prop} (irr : ∀ a, ¬ lt a a) (asy : ∀ a b, lt a b → ¬ lt b a) : ∀ {l m : List α}, l.Pairwise lt → m.Pairwise lt → (∀ x, x ∈ l ↔ x ∈ m) → l = m
  | [], [], _, _, _ => rfl
  | [], b :: m, _, _, h => absurd ((h b).mpr List.mem_cons_self) (by simp)
  | a :: l, [], _, _, h => absurd ((h a).mp List.mem_cons_self) (by simp)
  | a :: l, b :: m, hl, hm, h => by
    have hl' := List.pairwise_cons.mp hl
    have hm' := List.pairwise_cons.mp hm
    have e : a = b := by
      rcases List.mem_cons.mp ((h a).mp List.mem_cons_self) with z | z
      · exact z
      · rcases List.mem_cons.mp ((h b).mpr List.mem_cons_self) with y | y
        · exact y.symm
        · exact absurd (hl'.1 b y) (asy _ _ (hm'.1 a z))
    subst e
    rw [strict_eq irr asy hl'.2 hm'.2 fun x => ?_]
    constructor
    · intro hx
      rcases List.mem_cons.mp ((h x).mp (List.mem_cons_of_mem _ hx)) with z | z
      · subst z
        exact absurd (hl'.1 x hx) (irr x)
      · exact z
    · intro hx
      rcases List.mem_cons.mp ((h x).mpr (List.mem_cons_of_mem _ hx)) with z | z
      · subst z
        exact absurd (hm'.1 x hx) (irr x)
      · exact z
section
variable {ways : Int → Option Int} {b : List Sm} {n : Int} {Rs : List (Option Str × Cs)}
/-- any choices make one of the runs -/
theorem chn_any (pr : PrOk b) (c : Chn ways b n Rs none) {v : List Int} (hv : ty01 v) : rn ways b n v ∈ Rs := by
  have ok := c.ok (k := 4) pr.ok pr.hv
  have hl := rn_len (ways := ways) (n := n) (k := 4) pr.ok pr.hv v
  have t4 : ty01 (tk v 4) := fun x hx => by
    unfold tk at hx
    obtain ⟨i, _, rfl⟩ := List.mem_map.mp hx
    by_cases h : i < v.length
    · rw [List.getD_eq_getElem?_getD, List.getElem?_eq_getElem h]
      exact hv _ (List.getElem_mem h)
    · rw [List.getD_eq_getElem?_getD, List.getElem?_eq_none (by omega)]
      exact .inl rfl
  have l4 : (tk v 4).length = 4 := by unfold tk; simp
  have e : rn ways b n (tk v 4) = rn ways b n v := by
    refine runs_same (c1 := v) (c2 := tk v 4) (ways := ways) b pr.ok 0 n fun i hi => ?_
    have hl' : (Sm.runs (decC v) ways b 0 (cs0 n)).2.turns.length ≤ 4 := hl
    exact (tk_getD (by omega)).symm
  rw [← e]
  refine ok.all _ l4 t4 ?_
  have h1 := (wl_rng t4 (Nat.le_of_eq l4)).2
  have h2 := pw_pos 4 (tk v 4)
  show wl 4 (tk v 4) < (2 : Int) ^ 4
  omega
theorem lt_of_le_ne {a c : List Int} (h : a ≤ c) (ne : a ≠ c) : a < c := by
  by_cases hl : a < c
  · exact hl
  · exact absurd (List.le_antisymm h (List.not_lt.mp hl)) ne
theorem pre_self (t : List Int) : Pre t t := fun k hk => rfl
theorem rows_runs {p : Pc} {e : Nat} {L : List (Pc × Rn)} (pr : PrOk b) (rs : RsOk ways b p e L) (hn : p.has n) (c : Chn ways b n Rs none) : prsR ((L.filter fun r => r.1.isAt n).map Prod.snd) n = prsC Rs := by
  have ok := c.ok (k := 4) pr.ok pr.hv
  refine strict_eq (lt := fun a b => a.1 < b.1) (fun a h => List.lt_irrefl _ h) (fun a b h g => List.lt_asymm h g) ?_ ?_ fun x => ?_
  · unfold prsR
    rw [List.map_map]
    refine List.pairwise_map.mpr ?_
    have h1 := (rs.ord.and rs.fam.disj).sublist (List.filter_sublist (p := fun r => r.1.isAt n) (l := L))
    refine h1.imp_of_mem fun {r r'} hr hr' h => ?_
    have m1 := List.mem_filter.mp hr
    have m2 := List.mem_filter.mp hr'
    refine lt_of_le_ne h.1 fun z => ?_
    refine h.2 n r.2.turns ((isAt_has _ _).mp m1.2) ((isAt_has _ _).mp m2.2) (pre_self _) ?_ (rs.bd r m1.1).t01
    have z : r.2.turns = r'.2.turns := z
    rw [← z]
    exact pre_self _
  · unfold prsC
    refine List.pairwise_map.mpr (ok.ord.imp fun {R S} h => ?_)
    have := ahd_lt h
    rw [PySem.W.dataLt_ints] at this
    exact of_decide_eq_true this
  · unfold prsR prsC
    rw [List.map_map]
    constructor
    · intro hx
      obtain ⟨r, hr, rfl⟩ := List.mem_map.mp hx
      have m1 := List.mem_filter.mp hr
      have t01 := (rs.bd r m1.1).t01
      obtain ⟨a1, a2, a3⟩ := rs.fam.runs r m1.1 n r.2.turns ((isAt_has _ _).mp m1.2) (pre_self _) t01
      refine List.mem_map.mpr ⟨rn ways b n r.2.turns, chn_any pr c t01, ?_⟩
      show ((rn ways b n r.2.turns).2.turns, (rn ways b n r.2.turns).1, (rn ways b n r.2.turns).2.said) = (r.2.turns, r.2.out n)
      rw [a1, a2, a3]
      rfl
    · intro hx
      obtain ⟨R, hR, rfl⟩ := List.mem_map.mp hx
      obtain ⟨s1, s2, _⟩ := ok.self R hR
      obtain ⟨r, hr, rh, rp⟩ := rs.fam.cover n R.2.turns hn s2
      obtain ⟨a1, a2, a3⟩ := rs.fam.runs r hr n R.2.turns rh rp s2
      rw [s1] at a1 a2 a3
      refine List.mem_map.mpr ⟨r, List.mem_filter.mpr ⟨hr, (isAt_has _ _).mpr rh⟩, ?_⟩
      show (r.2.turns, r.2.out n) = (R.2.turns, R.1, R.2.said)
      rw [a1, a2, a3]
      rfl
end
/-! ### the first run that has another outcome than the plain one -/
def difP : List (List Int × Out) → Option (List Int)
  | [] => none
  | x :: r => (r.find? fun y => decide (y.2 ≠ x.2)).map Prod.fst
theorem difP_none {x : List Int × Out} {r : List (List Int × Out)} : difP (x :: r) = none ↔ ∀ y ∈ r, y.2 = x.2 := by
  show ((r.find? fun y => decide (y.2 ≠ x.2)).map Prod.fst) = none ↔ _
  rw [Option.map_eq_none_iff, List.find?_eq_none]
  constructor
  · intro h y hy
    have := h y hy
    simp only [decide_eq_true_eq, ne_eq, Classical.not_not] at this
    exact this
  · intro h y hy
    simp only [decide_eq_true_eq, ne_eq, Classical.not_not]
    exact h y hy
/-! ### forms that agree at two numbers agree -/
theorem fm_lin {f g : Fm} {x y n : Int} (hf : 0 < f.2.2) (hg : 0 < g.2.2) (hne : x ≠ y) (fx : f.1 * x + f.2.1 = f.2.2 * Fm.at_ f x) (fy : f.1 * y + f.2.1 = f.2.2 * Fm.at_ f y) (fn : f.1 * n + f.2.1 = f.2.2 * Fm.at_ f n)
    (gx : g.1 * x + g.2.1 = g.2.2 * Fm.at_ g x) (gy : g.1 * y + g.2.1 = g.2.2 * Fm.at_ g y) (gn : g.1 * n + g.2.1 = g.2.2 * Fm.at_ g n) (ex : Fm.at_ f x = Fm.at_ g x) (ey : Fm.at_ f y = Fm.at_ g y) : Fm.at_ f n = Fm.at_ g n := by
  generalize Fm.at_ f x = u at *
  generalize Fm.at_ f y = v at *
  generalize Fm.at_ g x = u' at *
  generalize Fm.at_ g y = v' at *
  generalize Fm.at_ f n = w at *
  generalize Fm.at_ g n = w' at *
  subst ex ey
  obtain ⟨a, b, d⟩ := f
  obtain ⟨a', b', d'⟩ := g
  dsimp only at *
  -- d' * (a x + b) = d * (a' x + b')
  have h1 : d' * (a * x + b) = d * (a' * x + b') := by rw [fx, gx, ← Int.mul_assoc, ← Int.mul_assoc, Int.mul_comm d' d]
  have h2 : d' * (a * y + b) = d * (a' * y + b') := by rw [fy, gy, ← Int.mul_assoc, ← Int.mul_assoc, Int.mul_comm d' d]
  have e1 : (d' * a - d * a') * x + (d' * b - d * b') = 0 := by
    rw [Int.sub_mul, Int.mul_assoc, Int.mul_assoc]
    rw [Int.mul_add, Int.mul_add] at h1
    omega
  have e2 : (d' * a - d * a') * y + (d' * b - d * b') = 0 := by
    rw [Int.sub_mul, Int.mul_assoc, Int.mul_assoc]
    rw [Int.mul_add, Int.mul_add] at h2
    omega
  have e3 : (d' * a - d * a') * (x - y) = 0 := by rw [Int.mul_sub]; omega
  have A0 : d' * a - d * a' = 0 := by
    rcases Int.mul_eq_zero.mp e3 with z | z
    · exact z
    · omega
  have B0 : d' * b - d * b' = 0 := by rw [A0, Int.zero_mul] at e1; omega
  have h3 : d' * (a * n + b) = d * (a' * n + b') := by
    have : (d' * a - d * a') * n + (d' * b - d * b') = 0 := by rw [A0, B0, Int.zero_mul]; rfl
    rw [Int.sub_mul, Int.mul_assoc, Int.mul_assoc] at this
    rw [Int.mul_add, Int.mul_add]
    omega
  rw [fn, gn, ← Int.mul_assoc, ← Int.mul_assoc, Int.mul_comm d d'] at h3
  exact Int.eq_of_mul_eq_mul_left (Int.ne_of_gt (Int.mul_pos hg hf)) h3
/-- the forms of a run are whole on a piece -/
def Rn.exact (R : Rn) (p : Pc) : Prop := ∀ f, Sum.inr f ∈ R.items → 0 < f.2.2 ∧ ∀ n, p.has n → f.1 * n + f.2.1 = f.2.2 * Fm.at_ f n
theorem items_lin {p : Pc} {x y n : Int} (hx : p.has x) (hy : p.has y) (hn : p.has n) (hne : x ≠ y) : ∀ {l m : List (Str ⊕ Fm)}, (∀ f, Sum.inr f ∈ l → 0 < f.2.2 ∧ ∀ n, p.has n → f.1 * n + f.2.1 = f.2.2 * Fm.at_ f n) → (∀ f, Sum.inr f ∈ m → 0 < f.2.2 ∧ ∀ n, p.has n → f.1 * n + f.2.1 = f.2.2 * Fm.at_ f n) → l.map (itAt x) = m.map (itAt x) → l.map (itAt y) = m.map (itAt y) → l.map (itAt n) = m.map (itAt n)
  | [], [], _, _, _, _ => rfl
  | [], b :: m, _, _, h, _ => by cases h
  | a :: l, [], _, _, h, _ => by cases h
  | a :: l, b :: m, hl, hm, h, g => by
    simp only [List.map_cons, List.cons.injEq] at h g ⊢
    refine ⟨?_, items_lin hx hy hn hne (fun f hf => hl f (List.mem_cons_of_mem _ hf)) (fun f hf => hm f (List.mem_cons_of_mem _ hf)) h.2 g.2⟩
    cases a with
    | inl w =>
      cases b with
      | inl w' => exact h.1
      | inr f' => cases h.1
    | inr f =>
      cases b with
      | inl w' => cases h.1
      | inr f' =>
        obtain ⟨d1, q1⟩ := hl f List.mem_cons_self
        obtain ⟨d2, q2⟩ := hm f' List.mem_cons_self
        have h1 : Fm.at_ f x = Fm.at_ f' x := Sum.inl.inj h.1
        have g1 : Fm.at_ f y = Fm.at_ f' y := Sum.inl.inj g.1
        show Sum.inl (Fm.at_ f n) = Sum.inl (Fm.at_ f' n)
        rw [fm_lin d1 d2 hne (q1 x hx) (q1 y hy) (q1 n hn) (q2 x hx) (q2 y hy) (q2 n hn) h1 g1]
theorem out_lin {p : Pc} {R S : Rn} (eR : R.exact p) (eS : S.exact p) {x y n : Int} (hx : p.has x) (hy : p.has y) (hn : p.has n) (hne : x ≠ y) (h : R.out x = S.out x) (g : R.out y = S.out y) : R.out n = S.out n := by
  unfold Rn.out at *
  obtain ⟨h1, h2⟩ := Prod.mk.inj h
  obtain ⟨g1, g2⟩ := Prod.mk.inj g
  rw [h1, items_lin hx hy hn hne eR eS h2 g2]
/-- where the first two numbers of a piece show nothing, none does -/
theorem dif_all {p : Pc} {rs : List Rn} {pts : List Int} (ex : ∀ R ∈ rs, R.exact p) (fp : FP p 2 pts) (h : ∀ x ∈ pts, difP (prsR rs x) = none) {n : Int} (hn : p.has n) : difP (prsR rs n) = none := by
  rcases fp.all n hn with z | ⟨l2, _⟩
  · exact h n z
  cases rs with
  | nil => rfl
  | cons R0 r =>
    obtain ⟨x, y, rfl⟩ : ∃ x y, pts = [x, y] := by
      match pts, l2 with
      | [x, y], _ => exact ⟨x, y, rfl⟩
    have hxy : x ≠ y := fun z => by
      have := (List.pairwise_cons.mp fp.ord).1 y (by simp)
      rw [z] at this
      omega
    have hx := h x (by simp)
    have hy := h y (by simp)
    refine difP_none.mpr fun q hq => ?_
    obtain ⟨R, hR, rfl⟩ := List.mem_map.mp hq
    refine out_lin (ex R (List.mem_cons_of_mem _ hR)) (ex R0 List.mem_cons_self) (fp.mem x (by simp)) (fp.mem y (by simp)) hn hxy ?_ ?_
    · exact difP_none.mp hx (R.turns, R.out x) (List.mem_map.mpr ⟨R, hR, rfl⟩)
    · exact difP_none.mp hy (R.turns, R.out y) (List.mem_map.mpr ⟨R, hR, rfl⟩)
/-! ### what parted tells -/
def pIn (pts : List Int) (rs : List Rn) : Option (Int × List Int) := pts.findSome? fun n => (difP (prsR rs n)).map fun t => (n, t)
def FRow {α : Type} (num : α → Int) (os : List (Option α)) : Option α → Prop
  | none => ∀ x ∈ os, x = none
  | some y => some y ∈ os ∧ ∀ z, some z ∈ os → rnk (num y) ≤ rnk (num z)
structure PRes (ways : Int → Option Int) (b : List Sm) (o : Option (Int × List Int)) : Prop where
  no : o = none → ∀ n Rs, Chn ways b n Rs none → difP (prsC Rs) = none
  yes : ∀ n t, o = some (n, t) → n.natAbs ≤ 2 * BB ∧ ty01 t ∧ t.length ≤ 120 ∧ (∀ Rs, Chn ways b n Rs none → difP (prsC Rs) = some t) ∧ ∀ m, rnk m < rnk n → ∀ Rs, Chn ways b m Rs none → difP (prsC Rs) = none
def wholePc : Pc := ⟨0, 1, none, none⟩
theorem whole_has (n : Int) : wholePc.has n := ⟨Int.emod_one n, trivial, trivial⟩
theorem pIn_some {pts : List Int} {rs : List Rn} {n : Int} {t : List Int} (h : pIn pts rs = some (n, t)) : n ∈ pts ∧ difP (prsR rs n) = some t := by
  unfold pIn at h
  obtain ⟨m, hm, e⟩ := List.exists_of_findSome?_eq_some h
  obtain ⟨t', e1, e2⟩ := Option.map_eq_some_iff.mp e
  cases e2
  exact ⟨hm, e1⟩
theorem pIn_none {pts : List Int} {rs : List Rn} (h : pIn pts rs = none) : ∀ n ∈ pts, difP (prsR rs n) = none := fun n hn => by
  unfold pIn at h
  have := List.findSome?_eq_none_iff.mp h n hn
  exact Option.map_eq_none_iff.mp this
theorem pIn_first {rs : List Rn} {z : Int × List Int} {m : Int} : ∀ {pts : List Int}, pts.Pairwise (fun a b => rnk a < rnk b) → pIn pts rs = some z → m ∈ pts → difP (prsR rs m) ≠ none → rnk z.1 ≤ rnk m
  | [], _, _, hm, _ => nomatch hm
  | x :: r, ho, h, hm, hd => by
    have hc := List.pairwise_cons.mp ho
    unfold pIn at h
    rw [List.findSome?_cons] at h
    cases e : difP (prsR rs x) with
    | some t =>
      rw [e] at h
      cases h
      rcases List.mem_cons.mp hm with rfl | hm
      · exact Int.le_refl _
      · exact Int.le_of_lt (hc.1 m hm)
    | none =>
      rw [e] at h
      rcases List.mem_cons.mp hm with rfl | hm
      · exact absurd e hd
      · exact pIn_first hc.2 h hm hd
theorem difP_mem {l : List (List Int × Out)} {t : List Int} (h : difP l = some t) : ∃ o, (t, o) ∈ l := by
  cases l with
  | nil => cases h
  | cons x r =>
    obtain ⟨y, hy, rfl⟩ := Option.map_eq_some_iff.mp (show (r.find? fun y => decide (y.2 ≠ x.2)).map Prod.fst = some t from h)
    exact ⟨y.2, List.mem_cons_of_mem _ (List.mem_of_find?_eq_some hy)⟩
theorem pres_of {ways : Int → Option Int} {b : List Sm} {L : List (Pc × Rn)} {BY : Int} {rows : List (Pc × List (List Rn))} {os : List (Option (Int × List Int))} {o : Option (Int × List Int)} (pr : PrOk b) (rs : RsOk ways b wholePc 0 L) (cr : CRows BY (BB + 1) [L] wholePc.has rows) (hB : BY ≤ 2 ^ 40)
    (hl : os.length = rows.length) (h : ∀ (i : Nat) r, rows[i]? = some r → ∃ pts, FP r.1 2 pts ∧ os[i]? = some (pIn pts (r.2.headD []))) (fr : FRow Prod.fst os o) : PRes ways b o := by
  have runs : ∀ r ∈ rows, ∀ n, r.1.has n → r.2.headD [] = (L.filter fun x => x.1.isAt n).map Prod.snd := fun r hr n hn => by
    rw [cr.runs r hr n hn]
    rfl
  have same : ∀ r ∈ rows, ∀ n, r.1.has n → ∀ Rs, Chn ways b n Rs none → prsR (r.2.headD []) n = prsC Rs := fun r hr n hn Rs c => by
    rw [runs r hr n hn]
    exact rows_runs pr rs (whole_has n) c
  have mem : ∀ r ∈ rows, ∀ R ∈ r.2.headD [], ∀ n, r.1.has n → ∃ x ∈ L, x.2 = R ∧ x.1.has n := fun r hr R hR n hn => by
    rw [runs r hr n hn] at hR
    obtain ⟨x, hx, rfl⟩ := List.mem_map.mp hR
    have m := List.mem_filter.mp hx
    exact ⟨x, m.1, rfl, (isAt_has _ _).mp m.2⟩
  have exact_ : ∀ r ∈ rows, ∀ R ∈ r.2.headD [], R.exact r.1 := fun r hr R hR f hf => by
    refine ⟨?_, fun n hn => ?_⟩
    · obtain ⟨n0, h0⟩ := cr.ne r hr
      obtain ⟨x, hx, rfl, _⟩ := mem r hr R hR n0 h0
      obtain ⟨_, _, e, _, ed⟩ := (rs.bd x hx).it f hf
      rw [ed]
      exact Int.pow_pos (by decide)
    · obtain ⟨x, hx, rfl, xh⟩ := mem r hr R hR n hn
      exact rs.ex x hx n xh f hf
  have rget : ∀ r ∈ rows, ∃ i, rows[i]? = some r := fun r hr => by
    obtain ⟨i, hi, e⟩ := List.mem_iff_getElem.mp hr
    exact ⟨i, by rw [List.getElem?_eq_getElem hi, e]⟩
  -- where a row's answer is none, none of its numbers shows anything
  have rnone : ∀ (i : Nat) r, rows[i]? = some r → os[i]? = some none → ∀ n, r.1.has n → ∀ Rs, Chn ways b n Rs none → difP (prsC Rs) = none := fun i r hr ho n hn Rs c => by
    obtain ⟨pts, fp, e⟩ := h i r hr
    rw [ho] at e
    have hm := List.mem_of_getElem? hr
    rw [← same r hm n hn Rs c]
    exact dif_all (exact_ r hm) fp (pIn_none (Option.some.inj e).symm) hn
  refine ⟨fun e n Rs c => ?_, fun n t e => ?_⟩
  · subst e
    obtain ⟨r, hr, rh⟩ := cr.cover n (whole_has n)
    obtain ⟨i, hi⟩ := rget r hr
    obtain ⟨pts, fp, e⟩ := h i r hi
    have := fr _ (List.mem_of_getElem? e)
    rw [this] at e
    exact rnone i r hi e n rh Rs c
  · subst e
    obtain ⟨f1, f2⟩ := fr
    obtain ⟨i, hi, ei⟩ := List.mem_iff_getElem.mp f1
    have hir : i < rows.length := by omega
    have er : rows[i]? = some rows[i] := List.getElem?_eq_getElem hir
    have hm := List.getElem_mem hir
    generalize rows[i] = r at er hm
    obtain ⟨pts, fp, e⟩ := h i r er
    rw [List.getElem?_eq_getElem hi, ei] at e
    obtain ⟨np, dt⟩ := pIn_some (Option.some.inj e).symm
    have nh := fp.mem n np
    obtain ⟨o1, ho1⟩ := difP_mem dt
    obtain ⟨R, hR, eR⟩ := List.mem_map.mp ho1
    obtain ⟨x, hx, xe, _⟩ := mem r hm R hR n nh
    have et : t = x.2.turns := by rw [xe]; exact (Prod.mk.inj eR).1.symm
    obtain ⟨k1, k2, k3, k4⟩ := cr.ok r hm
    refine ⟨?_, by rw [et]; exact (rs.bd x hx).t01, by rw [et]; exact (rs.bd x hx).lt, fun Rs c => by rw [← same r hm n nh Rs c]; exact dt, fun m hlt Rs c => ?_⟩
    · have := raw_bd k1 (M := BB + 1) k3 k4 (fp.raw n np)
      have e40 : (2 : Int) ^ 40 = 1099511627776 := by decide
      have b0 := k1.by0
      have bb : 10 * 1099511627776 ≤ BB := by decide +kernel
      rw [e40] at hB
      generalize BB = M at *
      have h3 : (2 + 1) * r.1.by_.natAbs ≤ 3 * 1099511627776 := Nat.mul_le_mul_left _ (by omega)
      omega
    · -- a number ahead of it
      cases hd : difP (prsC Rs) with
      | none => rfl
      | some t2 =>
        obtain ⟨r2, hr2, rh2⟩ := cr.cover m (whole_has m)
        obtain ⟨i2, hi2⟩ := rget r2 hr2
        obtain ⟨pts2, fp2, e2⟩ := h i2 r2 hi2
        cases ep : pIn pts2 (r2.2.headD []) with
        | none =>
          rw [ep] at e2
          rw [rnone i2 r2 hi2 e2 m rh2 Rs c] at hd
          cases hd
        | some z =>
          rw [ep] at e2
          have hz := f2 z (List.mem_of_getElem? e2)
          obtain ⟨z1, z2⟩ := z
          obtain ⟨zp, _⟩ := pIn_some ep
          have hz : rnk n ≤ rnk z1 := hz
          -- z1 is no later than m
          have : rnk z1 ≤ rnk m := by
            rcases fp2.all m rh2 with y | ⟨_, y⟩
            · -- m is one of the points: z1 is the first that shows something
              refine pIn_first fp2.ord ep y ?_
              rw [same r2 hr2 m rh2 Rs c, hd]
              exact fun q => nomatch q
            · exact Int.le_of_lt (y z1 zp)
          omega
end EH
namespace EH
open PySem L2
/-! ### the tree of turns -/
def spRight36 (m : Nat) : Sp := fun vs H Q _ => ∃ (v : V) (b : List Sm) (num : Int), vs = [v, .int num] ∧ Tr H (.tuple (Sm.ds b)) v ∧ PrOk b ∧ Sm.nests b ≤ m ∧ -BIG ≤ num ∧ num ≤ BIG ∧ ∀ H' : Hp, Kp [] H H' → Q (.bl true) H'
theorem Ahd.lt' {t u : List Int} (h : Ahd t u) : t < u := by
  induction h with
  | lt => exact List.Lex.rel (by decide)
  | eq _ ih => exact List.Lex.cons ih
theorem Ahd.ne {t u : List Int} (h : Ahd t u) : t ≠ [] ∧ u ≠ [] := by cases h <;> exact ⟨fun z => (by cases z), fun z => (by cases z)⟩
def ptab (n : Nat) : Int := ([16, 8, 4, 2, 1] : List Int).getD n 0
section
variable {b : List Sm} {n : Int} {Rs : List (Option Str × Cs)}
theorem tree_ord (pr : PrOk b) (c : Chn noWay b n Rs none) : (Rs.map fun R => R.2.turns).Pairwise (fun t u => Ahd t u) := List.pairwise_map.mpr (c.ok (k := 4) pr.ok pr.hv).ord
theorem tree_len (pr : PrOk b) (c : Chn noWay b n Rs none) : ∀ t ∈ Rs.map (fun R => R.2.turns), t.length ≤ 4 := fun t ht => by
  obtain ⟨R, hR, rfl⟩ := List.mem_map.mp ht
  exact ((c.ok (k := 4) pr.ok pr.hv).self R hR).2.2.1
theorem tree_many (pr : PrOk b) (c : Chn noWay b n Rs none) : Rs.length ≤ 16 := by
  have := (c.ok (k := 4) pr.ok pr.hv).len pr.ok pr.hv
  have e : (2 : Int) ^ 4 = 16 := by decide
  omega
theorem tree_sum (pr : PrOk b) (c : Chn noWay b n Rs none) : ((Rs.map fun R => R.2.turns).map fun t => ptab t.length).sum = 16 := by
  have s := (c.ok (k := 4) pr.ok pr.hv).sum
  have e : topO 4 none = 16 := rfl
  rw [e] at s
  rw [← s, List.map_map]
  congr 1
  refine List.map_congr_left fun R hR => ?_
  have l := ((c.ok (k := 4) pr.ok pr.hv).self R hR).2.2.1
  show ptab R.2.turns.length = pw 4 R.2.turns
  unfold pw
  match R.2.turns.length, l with
  | 0, _ => rfl
  | 1, _ => rfl
  | 2, _ => rfl
  | 3, _ => rfl
  | 4, _ => rfl
end
theorem lex_irr : ∀ a : List Int, ¬ a < a := fun a => List.lt_irrefl a
theorem lex_asy : ∀ a b : List Int, a < b → ¬ b < a := fun a b h g => List.lt_irrefl a (List.lt_trans h g)
theorem sorted_is {ts us : List (List Int)} (h1 : ts.Pairwise fun t u => Ahd t u) (h2 : us.Pairwise (· ≤ ·)) (nd : us.Nodup) (hm : ∀ x, x ∈ us ↔ x ∈ ts) : us = ts := by
  refine strict_eq (lt := fun a b : List Int => a < b) lex_irr lex_asy ?_ (h1.imp fun h => h.lt') hm
  refine (List.pairwise_and_iff.mpr ⟨h2, nd⟩).imp fun {a b} h => ?_
  rcases List.le_iff_lt_or_eq.mp h.1 with z | z
  · exact z
  · exact absurd z h.2
theorem srt_of {ts : List (List Int)} {L : List (Addr × List Int)} (h : ts.Pairwise fun t u => Ahd t u) (hm : ∀ p ∈ L, p.2 ∈ ts) (nd : (L.map (·.2)).Nodup) : Srt (L.map encT) := by
  by_cases e : [] ∈ ts
  · right
    have one : ts = [[]] := by
      obtain ⟨A, B, rfl⟩ := List.append_of_mem e
      obtain ⟨h1, h2, h3⟩ := List.pairwise_append.mp h
      have hA : A = [] := by
        cases A with
        | nil => rfl
        | cons a A => exact absurd rfl (h3 a List.mem_cons_self [] List.mem_cons_self).ne.2
      have hB : B = [] := by
        cases B with
        | nil => rfl
        | cons a A => exact absurd rfl ((List.pairwise_cons.mp h2).1 a List.mem_cons_self).ne.1
      rw [hA, hB]
      rfl
    refine ⟨?_, fun d hd => ?_⟩
    · rw [List.length_map]
      match L, nd with
      | [], _ => exact Nat.zero_le _
      | [a], _ => exact Nat.le_refl _
      | a :: c :: r, nd =>
        exfalso
        have a1 := hm a List.mem_cons_self
        have a2 := hm c (List.mem_cons_of_mem _ List.mem_cons_self)
        rw [one, List.mem_singleton] at a1 a2
        have := (List.nodup_cons.mp nd).1
        exact this (by rw [List.map_cons]; show a.2 ∈ c.2 :: _; rw [a1, a2]; exact List.mem_cons_self)
    · obtain ⟨q, _, rfl⟩ := List.mem_map.mp hd
      exact fun z => nomatch z
  · refine .inl (.inl fun d hd => ?_)
    obtain ⟨q, hq, rfl⟩ := List.mem_map.mp hd
    have := hm q hq
    unfold encT
    cases eq : q.2 with
    | nil => rw [eq] at this; exact absurd this e
    | cons x r => exact ⟨_, _, rfl⟩
theorem dp_encs {K : PySem.W.Frag} {H : Hp} : ∀ {ks : List (Addr × List Int)}, (∀ p ∈ ks, H p.1 = some (.tup (p.2.map V.int))) → DpAll K H (ks.map fun p => V.ref p.1) (ks.map encT)
  | [], _ => .nil
  | p :: ks, h => .cons (.tup (SqT.of (h p List.mem_cons_self)) (TrAll.dp _ _ (trs_int p.2))) (dp_encs fun q hq => h q (List.mem_cons_of_mem _ hq))
theorem encs_shaped (ks : List (Addr × List Int)) : SeqAt.shaped (.list (ks.map encT)) = true := by
  have := lay_all (ds := ks.map encT) (k := 1) (by
    intro d hd
    obtain ⟨q, _, rfl⟩ := List.mem_map.mp hd
    have h1 := lay_all (ds := q.2.map PyData.int) (k := 0) (by
      intro d hd
      obtain ⟨i, _, rfl⟩ := List.mem_map.mp hd
      exact ⟨rfl, by simp [PyData.depth]⟩)
    refine ⟨by simp only [encT, PyData.canLay0]; exact h1.1, ?_⟩
    simp only [encT, PyData.depth]
    omega)
  exact shaped_of (by simp only [PyData.canLay0]; exact this.1) (by simp only [PyData.depth]; omega)
theorem encs_of {l m : List (Addr × List Int)} (h : l.map (·.2) = m.map (·.2)) : l.map encT = m.map encT := by
  have e : ∀ l : List (Addr × List Int), l.map encT = (l.map (·.2)).map fun t => PyData.tuple (t.map PyData.int) := fun l => by rw [List.map_map]; rfl
  rw [e, e, h]
theorem eqv_encs (l : List (Addr × List Int)) : PyData.eqv (.list (l.map encT)) (.list (l.map encT)) = true := by
  refine PySem.W.eqv_refl_alike _ ?_
  simp only [PySem.W.alike]
  induction l with
  | nil => rfl
  | cons q l ih =>
    rw [List.map_cons]
    simp only [PySem.W.alikeAll, ih, Bool.and_true]
    simp only [encT, PySem.W.alike]
    exact PySem.W.alike_ints _ _
theorem cut_tail : ∀ xs : List V, cutV xs (some 1) none = xs.tail
  | [] => by unfold cutV; simp
  | x :: xs => by
    unfold cutV
    rw [HT.sIx_none, show (some (1 : Int)) = some ((1 : Nat) : Int) from rfl, HT.sIx_nat]
    simp
theorem ptab_at : ∀ {n : Nat}, n ≤ 4 → atI [V.int 16, V.int 8, V.int 4, V.int 2, V.int 1] (n : Int) = some (.int (ptab n))
  | 0, _ => rfl
  | 1, _ => rfl
  | 2, _ => rfl
  | 3, _ => rfl
  | 4, _ => rfl
theorem eqv_intsAll : ∀ a b : List Int, PyData.eqvAll (a.map PyData.int) (b.map PyData.int) = decide (a = b)
  | [], [] => by simp [PyData.eqvAll]
  | [], y :: b => by simp [PyData.eqvAll]
  | x :: a, [] => by simp [PyData.eqvAll]
  | x :: a, y :: b => by
    rw [List.map_cons, List.map_cons]
    simp only [PyData.eqvAll, PyData.eqv, eqv_intsAll a b]
    by_cases h : x = y <;> by_cases g : a = b <;> simp [h, g]
theorem eqv_ints2 (a b : List Int) : PyData.eqv (.tuple (a.map PyData.int)) (.tuple (b.map PyData.int)) = decide (a = b) := by
  simp only [PyData.eqv]
  exact eqv_intsAll a b
theorem no_begin {t u : List Int} (h : Ahd t u) : PyData.eqv (.tuple (t.map PyData.int)) (.tuple ((u.take t.length).map PyData.int)) = false := by
  rw [eqv_ints2]
  refine decide_eq_false fun e => ?_
  rcases h.no_pre t.length with z | z
  · exact z e.symm
  · exact z rfl
end EH
namespace EH
open PySem L2
local macro_rules | `(tactic| walk_at "sd") => `(tactic| first | assumption | ((with_reducible show (_ : Int) ≤ _); omega) | ((with_reducible show (_ : Int) < _); omega) | rfl | exact SqL.of (by assumption) | exact SqT.of (by assumption) | exact atI_nat (j := 0) rfl | exact atI_nat (j := 1) rfl | exact atI_nat (j := 2) rfl | exact atI_nat (j := 3) rfl | exact sz_lit rfl | exact lt_lit rfl | exact pos_lit rfl | exact le_lit rfl | exact Or.inl (SqL.of (by assumption)) | exact ⟨_, SqL.of (by assumption)⟩ | exact ⟨_, SqT.of (by assumption)⟩ | exact Or.inr (SqT.of (by assumption)) | exact ClsV.ty _ | exact TyX.base (TyOf.int _) | exact TyX.base (TyOf.str _) | exact TyX.base (TyOf.tup (by assumption)) | exact kit_ty isi_ss | exact kit_ty isi_is | exact kit_ty isi_ts | exact kit_ty isi_si | exact kit_ty isi_ii | exact kit_ty isi_ti | exact kit_ty isi_st | exact kit_ty isi_it | exact kit_ty isi_tt | exact Or.inl ⟨_, Or.inl (by assumption)⟩ | exact DGet.k (k := Sum.inr _) (by assumption) | exact DGet.k (k := Sum.inl _) (by assumption) | (refine cpow_of ?_; decide) | (refine cmul_of ?_; decide) | (show (_ : Int) ≠ 0; first | decide | omega) | (refine cdivn_of ?_; decide) | exact Or.inl ⟨rfl, _, SqL.of (by assumption)⟩ | omega)
local macro_rules | `(tactic| walk_at "st") => `(tactic| first | (apply Exists.intro) | (refine And.intro ?_ ?_; focus (walk_at "sd")) | (apply Or.inl; apply Exists.intro; refine And.intro ?_ ?_; focus rfl) | (apply Or.inr; apply Exists.intro; refine And.intro ?_ ?_; focus rfl))
local macro_rules | `(tactic| walk_at "go") => `(tactic| repeat (walk_at "st"))
section
variable {P : Program} {w : World} {K : PySem.W.Frag} {mg : Str → Option Value} {base : Heap}
theorem ok_l_right (T : Top K mg) (m : Nat) : FnG P w K mg base CX0 (m + 17) T.l_right.f T.l_right.fd ["_law_program_here", "_law_number_here"] (spRight36 m) := by
  have G_each_run : GFn P w K mg base (m + 13) T.each_run.f T.each_run.fd ["program", "number"] (spEach m) := ok_each_run T m
  have G_run : FnOk P w K mg base CX0 (m + 11) T.run.f T.run.fd ["program", "number", "choices"] (spRun m) := ok_run T m
  refine Fun.okG T.l_right.F sc_l_right (fun vs H Q E h => ?_) (fun cdv A outer s H vs Q E fr hr h => ?_)
  · obtain ⟨v, b, num, rfl, _⟩ := h
    rfl
  obtain ⟨v, b, num, rfl, hT, pr, hm, n1, n2, q⟩ := h
  have hu := hu_of hr
  have hu64 := hr.units
  have hok := pr.ok
  have hwt : Sm.wts b ≤ 100000 := by have := pr.wt; omega
  have hp : Sm.pls b ≤ 1000000 := by have := pr.pl; omega
  have hh : Sm.hvs b ≤ 8 := Nat.le_trans pr.hv (by decide)
  refine ⟨_, (pss_cons (ps_set (i := 2) sc_l_right.nd rfl (.inl rfl) (pe_listG (pgen_call (E := EN) G_each_run (hr.mono (by omega)) (by rfl) T.each_run.g T.each_run.F.kp T.each_run.b .nil (pa_cons (pv 0) (pa_cons (pv 1) pa_nil))) pass_none nostop0 (hr.mono (by omega)) (by rfl) T.list (by decide +kernel)))
      (pss_cons (ps_setLc (i := 3) (own := [("_law_row_here", 6)]) (by rfl) sc_l_right.nd rfl rfl (sw_true rfl rfl rfl (by decide +kernel)) (pi_listK (K := K) rfl (pv 2)) (blkOk_by (N := ["_law_program_here", "_law_number_here", "_law_rows", "_law_turns", "_law_one_here", "_law_other", "_law_row_here"]) (sc := defScope s_l_right) (own := [("_law_row_here", 6)]) (by decide +kernel)) (fun _ _ _ _ _ => (pg_name (i := 6) sc_l_right.nd rfl (.inl rfl))) (fun _ _ _ _ _ => pts_nil) (fun _ _ _ _ _ => (pe_ix (ix_tupK (K := K) rfl) (pv 6) pe_int (fun _ _ => rfl))))
      (pss_cutA (ps_if (PW.pt (pw_or (pt_cmpR (op_neDK (K := K) rfl hu64) (pv 3) (pe_callB (id := "sorted") (cr_sortSetT (K := K) (P := P) (w := w) rfl rfl rfl rfl hu64) (by rfl) T.sorted (by decide +kernel) (pa_cons (pe_callTy (T := "set") (cr_setTT (K := K) (P := P) (w := w) rfl rfl rfl rfl hu64) (by rfl) T.set (by decide +kernel) (pa_cons (pv 3) pa_nil)) pa_nil)) (nomark _)) (pw_or1 (pt_cmpR (op_neNil hu) (pe_lc (own := [("_law_one_here", 4)]) (by rfl) sc_l_right.nd (pi_listK (K := K) rfl (pv 3)) (blkOk_by (N := ["_law_program_here", "_law_number_here", "_law_rows", "_law_turns", "_law_one_here", "_law_other", "_law_row_here"]) (sc := defScope s_l_right) (own := [("_law_one_here", 4)]) (by decide +kernel)) (fun _ _ _ _ _ => (pg_name (i := 4) sc_l_right.nd rfl (.inl rfl))) (fun _ _ _ _ _ => (pts_one (pt_cmpR op_gt (pe_callB (id := "len") (call_lenK (K := K) rfl) (by rfl) T.len PySem.boot_len (pa_cons (pv 4) pa_nil)) pe_int (nomark _)))) (fun _ _ _ _ _ => (pv 4))) (pe_lstA pa_nil) (nomark _))))) (pss_one (ps_ret pe_bl)) pss_nil)
      (pss_cutA (ps_if (pt_cmpR op_ne (pe_callB (id := "sum") (cr_sumK (K := K) rfl (by rfl)) (by rfl) T.sum (by decide +kernel) (pa_cons (pe_lc (own := [("_law_one_here", 4)]) (by rfl) sc_l_right.nd (pi_listK (K := K) rfl (pv 3)) (blkOk_by (N := ["_law_program_here", "_law_number_here", "_law_rows", "_law_turns", "_law_one_here", "_law_other", "_law_row_here"]) (sc := defScope s_l_right) (own := [("_law_one_here", 4)]) (by decide +kernel)) (fun _ _ _ _ _ => (pg_name (i := 4) sc_l_right.nd rfl (.inl rfl))) (fun _ _ _ _ _ => pts_nil) (fun _ _ _ _ _ => (pe_ix (ix_listK (K := K) rfl) (pe_lstA (pa_cons pe_int (pa_cons pe_int (pa_cons pe_int (pa_cons pe_int (pa_cons pe_int pa_nil)))))) (pe_callB (id := "len") (call_lenK (K := K) rfl) (by rfl) T.len PySem.boot_len (pa_cons (pv 4) pa_nil)) (fun _ _ => rfl)))) pa_nil)) pe_int (nomark _)) (pss_one (ps_ret pe_bl)) pss_nil)
      (pss_cons (ps_forA (ps_for PassesOwn.never rfl (pi_listK (K := K) rfl (pe_listZip (K := K) rfl rfl (by rfl) T.list (by rfl) T.zip (pa_cons (pv 3) (pa_cons (pe_slice (sl_listK (K := K) rfl) (pv 3) (po_some pe_int) po_none) pa_nil)))) (pg_tup (by rfl) (pgs_cons (pg_name (i := 4) sc_l_right.nd rfl (.inl rfl)) (pgs_cons (pg_name (i := 5) sc_l_right.nd rfl (.inl rfl)) pgs_nil))) (pss_one (ps_if (pt_cmpR (op_eqDK (K := K) rfl hu64) (pv 4) (pe_slice (sl_tupK (K := K) rfl) (pv 5) po_none (po_some (pe_callB (id := "len") (call_lenK (K := K) rfl) (by rfl) T.len PySem.boot_len (pa_cons (pv 4) pa_nil)))) (nomark _)) (pss_one (ps_ret pe_bl)) pss_nil))))
      (pss_cons (ps_forA (ps_for PassesOwn.never rfl (pi_listK (K := K) rfl (pv 2)) (pg_name (i := 6) sc_l_right.nd rfl (.inl rfl)) (pss_one (ps_if (pt_cmpR op_ne (pe_callB (id := "repr") (call_reprT fr hu64) (by rfl) T.repr (by decide +kernel) (pa_cons (pe_call G_run (hr.mono (by omega)) (by rfl) T.run.g T.run.F.kp T.run.b .nil pass0 (pa_cons (pv 0) (pa_cons (pv 1) (pa_cons (pe_ix (ix_tupK (K := K) rfl) (pv 6) pe_int (fun _ _ => rfl)) pa_nil)))) pa_nil)) (pe_callB (id := "repr") (call_reprT fr hu64) (by rfl) T.repr (by decide +kernel) (pa_cons (pe_tupA (pa_cons (pe_ix (ix_tupK (K := K) rfl) (pv 6) pe_int (fun _ _ => rfl)) (pa_cons (pe_ix (ix_tupK (K := K) rfl) (pv 6) pe_int (fun _ _ => rfl)) (pa_cons (pe_ix (ix_tupK (K := K) rfl) (pv 6) pe_int (fun _ _ => rfl)) pa_nil)))) pa_nil)) (nomark _)) (pss_one (ps_ret pe_bl)) pss_nil))))
      (pss_one (ps_ret pe_bl)))))))), ?_⟩
  walk_at "go"
  intro Rs xs H1 ch trs k1 p1 hp1
  have hT1 := k1.tr hT
  have k2 : Kp [] H1 (upd H1 p1 (.lst xs)) := Kp.new hp1
  have a2 : (upd H1 p1 (.lst xs)) p1 = some (.lst xs) := upd_same
  generalize upd H1 p1 (.lst xs) = H2 at k2 a2
  have hT2 := k2.tr hT1
  have trs2 := k2.trAll trs
  have lx := trs.length
  rw [List.length_map] at lx
  have many := tree_many pr ch
  walk_at "go"
  intro Dc hDc
  refine lc_list (K := K) (a := p1) (xs := xs) (fun j X => Lp (Kp [Dc] H2 X ∧ ∃ ks : List (Addr × List Int), X Dc = some (.lst (ks.map fun p => V.ref p.1)) ∧ ks.map (·.2) = (Rs.take j).map (fun R => R.2.turns) ∧ ∀ p ∈ ks, X p.1 = some (.tup (p.2.map V.int)))) ⟨(Kp.new hDc).sub (by simp), [], upd_same, rfl, fun _ z => nomatch z⟩ ?_ ?_ ?_
  · rintro j X _ ⟨⟨kx, _⟩⟩
    exact SqL.of (kx.keep _ _ a2 (ne1 (ne_of_none a2 hDc)))
  · rintro j x X hx ⟨⟨kx, ks, dx, ek, tk⟩⟩
    obtain ⟨R, hR⟩ : ∃ R, Rs[j]? = some R := ⟨_, List.getElem?_eq_getElem (by have := (List.getElem?_eq_some_iff.mp hx).1; omega)⟩
    obtain ⟨x', hx', tx⟩ := trs2.get (i := j) (d := runD R) (by rw [List.getElem?_map, hR]; rfl)
    rw [hx] at hx'
    cases hx'
    obtain ⟨u, y1, y2, y3, rfl, hu4, t1, t2, t3⟩ := tr_tup3 (kx.tr tx)
    obtain ⟨u3, ys3, rfl, hu3, ss3⟩ := tr_tup t1
    cases ints_of ss3
    have lk : ks.length ≤ 16 := by
      have e := congrArg List.length ek
      rw [List.length_map, List.length_map, List.length_take] at e
      omega
    have hzk : (ks.map fun p => V.ref p.1).length < sizeLine := by
      rw [List.length_map]
      exact sz_lt (by omega)
    walk_at "go"
    refine ⟨?_⟩
    have kq := Kp.put (u := .lst ((ks.map fun p => V.ref p.1) ++ [.ref u3])) dx (fun _ z => by cases z)
    refine ⟨kx.trans kq, ks ++ [(u3, R.2.turns)], ?_, ?_, ?_⟩
    · rw [List.map_append]
      exact upd_same
    · rw [List.map_append, ek, List.take_add_one, hR, List.map_append]
      rfl
    · intro p hp
      rcases List.mem_append.mp hp with h | h
      · exact kq.tup _ _ (tk p h)
      · cases List.mem_singleton.mp h
        exact kq.tup _ _ hu3
  · rintro H3 ⟨⟨k3, ks, d3, ek, tk⟩⟩
    rw [show xs.length = Rs.length from lx, List.take_length] at ek
    have hT3 := k3.tr hT2
    have trs3 := k3.trAll trs2
    have a3 := k3.keep _ _ a2 (ne1 (ne_of_none a2 hDc))
    have kk : Kp [] H H3 := (k1.trans k2).step1 k3 (.inr ((k1.trans k2).free hDc (by simp)))
    have lk : ks.length ≤ 16 := by
      have e := congrArg List.length ek
      rw [List.length_map, List.length_map] at e
      omega
    have ordd : (ks.map (·.2)).Pairwise (fun t u => Ahd t u) := by rw [ek]; exact tree_ord pr ch
    have lens : ∀ p ∈ ks, p.2.length ≤ 4 := fun p hp => tree_len pr ch _ (by rw [← ek]; exact List.mem_map.mpr ⟨p, hp, rfl⟩)
    walk_at "go"
    refine ⟨⟨fun σ4 H4 => Lp (∃ w4 w5 w6 : Option V, σ4 = [some v, some (.int num), some (.ref p1), some (.ref Dc), w4, w5, w6] ∧ Kp [] H3 H4), ?_, ?_⟩⟩
    · walk_at "go"
      refine ⟨fun p hp => SqT.of (tk p hp), by omega, fun sa L H4 h4 sub all k4 => ?_⟩
      walk_at "go"
      have memL : ∀ p ∈ L, p.2 ∈ ks.map (·.2) := fun p hp => List.mem_map.mpr ⟨p, sub p hp, rfl⟩
      refine ⟨fun p hp => SqT.of (k4.tup _ _ (tk p (sub p hp))), fun nd => srt_of ordd memL nd, fun L' sl H5 perm nd ord h5 k5 => ?_⟩
      have eL : L'.map (·.2) = ks.map (·.2) := sorted_is ordd (List.pairwise_map.mpr ord) nd fun x => by
        constructor
        · intro hx
          obtain ⟨p, hp, rfl⟩ := List.mem_map.mp hx
          exact memL p (perm.mem_iff.mp hp)
        · intro hx
          obtain ⟨p, hp, rfl⟩ := List.mem_map.mp hx
          obtain ⟨r, hr, e⟩ := List.mem_map.mp (all p hp)
          exact List.mem_map.mpr ⟨r, perm.mem_iff.mpr hr, e⟩
      have k45 := k4.trans k5
      have dp1 : Dp K H5 (.ref Dc) (.list (ks.map encT)) := .lst (SqL.of (k45.at d3)) (dp_encs fun p hp => k45.tup _ _ (tk p hp))
      have dp2 : Dp K H5 (.ref sl) (.list (ks.map encT)) := by
        rw [← encs_of eL]
        exact .lst (SqL.of h5) (dp_encs fun p hp => k45.tup _ _ (tk p (sub p (perm.mem_iff.mp hp))))
      refine ⟨_, _, dp1, dp2, encs_shaped _, encs_shaped _, _, rfl, ?_⟩
      rw [eqv_encs]
      refine iteF ?_
      have d5 := k45.at d3
      walk_at "go"
      intro Ec hEc
      refine lc_list (K := K) (a := Dc) (xs := ks.map fun p => V.ref p.1) (fun j X => Lp (Kp [Ec] H5 X ∧ X Ec = some (.lst []))) ⟨(Kp.new hEc).sub (by simp), upd_same⟩ ?_ ?_ ?_
      · rintro j X _ ⟨⟨kx, _⟩⟩
        exact SqL.of (kx.keep _ _ d5 (ne1 (ne_of_none d5 hEc)))
      · rintro j x X hx ⟨⟨kx, ex⟩⟩
        rw [List.getElem?_map] at hx
        obtain ⟨p, hp, rfl⟩ := Option.map_eq_some_iff.mp hx
        have mp := List.mem_of_getElem? hp
        have lp := lens p mp
        have tp := kx.tup _ _ (k45.tup _ _ (tk p mp))
        have hz : (p.2.map V.int).length ≤ sizeLine := by
          rw [List.length_map]
          exact Nat.le_of_lt (sz_lt (by omega))
        walk_at "go"
        have ez : decide ((4 : Int) < ((p.2.map V.int).length : Int)) = false := decide_eq_false (by rw [List.length_map]; omega)
        rw [ez]
        refine iteF ?_
        exact ⟨⟨kx, ex⟩⟩
      · rintro H6 ⟨⟨k6, e6⟩⟩
        walk_at "go"
        intro pe H7 hpe g7
        have k7 := new_kp hpe g7
        have a7 := new_at g7
        have e67 := k7.at e6
        walk_at "go"
        refine iteF ?_
        exact ⟨⟨_, _, _, rfl, (k45.step1 k6 (.inr (k45.free hEc (by simp)))).trans k7⟩⟩
    · rintro σ4 H4 ⟨⟨w4, w5, w6, rfl, k4⟩⟩
      have d4 := k4.at d3
      refine ⟨⟨fun σ5 H5 => Lp (∃ w4 w5 w6 : Option V, σ5 = [some v, some (.int num), some (.ref p1), some (.ref Dc), w4, w5, w6] ∧ Kp [] H3 H5), ?_, ?_⟩⟩
      · walk_at "go"
        intro Ec hEc
        refine lc_list (K := K) (a := Dc) (xs := ks.map fun p => V.ref p.1) (fun j X => Lp (Kp [Ec] H4 X ∧ X Ec = some (.lst (((ks.take j).map fun p => ptab p.2.length).map V.int)))) ⟨(Kp.new hEc).sub (by simp), upd_same⟩ ?_ ?_ ?_
        · rintro j X _ ⟨⟨kx, _⟩⟩
          exact SqL.of (kx.keep _ _ d4 (ne1 (ne_of_none d4 hEc)))
        · rintro j x X hx ⟨⟨kx, ex⟩⟩
          rw [List.getElem?_map] at hx
          obtain ⟨p, hp, rfl⟩ := Option.map_eq_some_iff.mp hx
          have mp := List.mem_of_getElem? hp
          have lp := lens p mp
          have tp := kx.tup _ _ (k4.tup _ _ (tk p mp))
          have hzl : (p.2.map V.int).length ≤ sizeLine := by
            rw [List.length_map]
            exact Nat.le_of_lt (sz_lt (by omega))
          have hzk : (((ks.take j).map fun p => ptab p.2.length).map V.int).length < sizeLine := by
            rw [List.length_map, List.length_map, List.length_take]
            exact sz_lt (by omega)
          have at_ := ptab_at lp
          rw [show ((p.2.length : Nat) : Int) = (((p.2.map V.int).length : Nat) : Int) by rw [List.length_map]] at at_
          walk_at "go"
          intro pt X2 hpt g2
          have kp := new_kp hpt g2
          have ap := new_at g2
          have tp2 := kp.tup _ _ tp
          have ex2 := kp.at ex
          walk_at "go"
          refine ⟨?_⟩
          have kq := Kp.put (u := .lst ((((ks.take j).map fun p => ptab p.2.length).map V.int) ++ [.int (ptab p.2.length)])) ex2 (fun _ z => by cases z)
          refine ⟨(kx.step0 kp).trans kq, ?_⟩
          rw [upd_same, List.take_add_one, hp, List.map_append, List.map_append]
          rfl
        · rintro H6 ⟨⟨k6, e6⟩⟩
          rw [List.length_map, List.take_length] at e6
          have es : (ks.map fun p => ptab p.2.length).sum = 16 := by
            have := tree_sum pr ch
            rw [← ek, List.map_map] at this
            exact this
          walk_at "go"
          rw [es, show (!decide (V.int 16 = V.int 16)) = false by simp]
          refine iteF ?_
          exact ⟨⟨_, _, _, rfl, k4.step1 k6 (.inr (k4.free hEc (by simp)))⟩⟩
      · rintro σ5 H5 ⟨⟨w4, w5, w6, rfl, k5⟩⟩
        have d5 := k5.at d3
        walk_at "go"
        intro sl H6 hsl a6 k6
        rw [cut_tail] at a6
        have d6 := k6.at d5
        walk_at "go"
        intro pz ts H7 a7 prs k7
        have k57 := k6.trans k7
        walk_at "go"
        refine ⟨for_list (K := K) (a := pz) (xs := ts.map V.ref) (fun i σ X => Lp (∃ w4 w5 w6 : Option V, σ = [some v, some (.int num), some (.ref p1), some (.ref Dc), w4, w5, w6] ∧ Kp [] H7 X)) ⟨_, _, _, rfl, Kp.refl⟩ ?_ ?_ ?_⟩
        · rintro i σ X _ ⟨⟨w4, w5, w6, rfl, kx⟩⟩
          exact SqL.of (kx.at a7)
        · rintro i x σ X hx ⟨⟨w4, w5, w6, rfl, kx⟩⟩
          rw [List.getElem?_map] at hx
          obtain ⟨tt, ht, rfl⟩ := Option.map_eq_some_iff.mp hx
          obtain ⟨x1, x2, g1, g2, g3⟩ := prs.2 i tt ht
          rw [List.getElem?_map] at g1
          obtain ⟨q1, hq1, rfl⟩ := Option.map_eq_some_iff.mp g1
          rw [List.getElem?_tail, List.getElem?_map] at g2
          obtain ⟨q2, hq2, rfl⟩ := Option.map_eq_some_iff.mp g2
          have ah : Ahd q1.2 q2.2 := by
            have := List.pairwise_iff_getElem.mp ordd i (i + 1) (by rw [List.length_map]; exact (List.getElem?_eq_some_iff.mp hq1).1) (by rw [List.length_map]; exact (List.getElem?_eq_some_iff.mp hq2).1) (by omega)
            rw [List.getElem_map, List.getElem_map, (List.getElem?_eq_some_iff.mp hq1).2, (List.getElem?_eq_some_iff.mp hq2).2] at this
            exact this
          have m1 := List.mem_of_getElem? hq1
          have m2 := List.mem_of_getElem? hq2
          have KX := (k5.trans k57).trans kx
          have u1 := KX.tup _ _ (tk q1 m1)
          have u2 := KX.tup _ _ (tk q2 m2)
          have ut := kx.tup _ _ g3
          have hzl : (q1.2.map V.int).length ≤ sizeLine := by
            rw [List.length_map]
            exact Nat.le_of_lt (sz_lt (by have := lens q1 m1; omega))
          walk_at "go"
          intro sc X2 a8 k8
          rw [cut_to, List.length_map, ← List.map_take] at a8
          refine ⟨_, _, Tr.dp _ _ (tr_ints (k8.tup _ _ u1)), Tr.dp _ _ (tr_ints a8), ints_shaped, ints_shaped, _, rfl, ?_⟩
          rw [no_begin ah]
          refine iteF ?_
          exact ⟨⟨_, _, _, rfl, kx.trans k8⟩⟩
        · rintro σ H8 ⟨⟨w4, w5, w6, rfl, k8⟩⟩
          have K8 := (k5.trans k57).trans k8
          have a38 := K8.at a3
          have trs8 := K8.trAll trs3
          have hT8 := K8.tr hT3
          walk_at "go"
          refine ⟨for_list (K := K) (a := p1) (xs := xs) (fun i σ X => Lp (∃ w4 w5 w6 : Option V, σ = [some v, some (.int num), some (.ref p1), some (.ref Dc), w4, w5, w6] ∧ Kp [] H8 X)) ⟨_, _, _, rfl, Kp.refl⟩ ?_ ?_ ?_⟩
          · rintro i σ X _ ⟨⟨w4, w5, w6, rfl, kx⟩⟩
            exact SqL.of (kx.at a38)
          · rintro i x σ X hx ⟨⟨w4, w5, w6, rfl, kx⟩⟩
            obtain ⟨R, hR⟩ : ∃ R, Rs[i]? = some R := ⟨_, List.getElem?_eq_getElem (by have := (List.getElem?_eq_some_iff.mp hx).1; omega)⟩
            obtain ⟨x', hx', tx⟩ := trs8.get (i := i) (d := runD R) (by rw [List.getElem?_map, hR]; rfl)
            rw [hx] at hx'
            cases hx'
            obtain ⟨u, y1, y2, y3, rfl, hu4, t1, t2, t3⟩ := tr_tup3 (kx.tr tx)
            obtain ⟨u3, ys3, rfl, hu3, ss3⟩ := tr_tup t1
            cases ints_of ss3
            obtain ⟨e, c01, l4, _⟩ := (ch.ok (k := 4) pr.ok pr.hv).self R (List.mem_of_getElem? hR)
            have l6 : R.2.turns.length ≤ 1000000 := by omega
            have hTx := kx.tr hT8
            have ro := runs_ok c01 pr n1 n2
            have e : Sm.runs (decC R.2.turns) noWay b 0 (cs0 num) = R := e
            rw [e] at ro
            have sR := res_shw ro
            walk_at "go"
            intro t9 X2 r9 k9
            rw [e] at r9
            have hu9 := k9.tup _ _ hu4
            walk_at "go"
            intro z1 hz1
            walk_at "go"
            intro pt X3 hpt g3
            have k10 := new_kp hpt g3
            have tr3 : Tr X3 (resD R) (.ref pt) := mk_tup (new_at g3) (trs_cons (k10.tr (k9.tr t2)) (trs_cons (k10.tr (k9.tr t3)) (trs_cons (tr_ints (k10.tup _ _ (k9.tup _ _ hu3))) trs_nil)))
            walk_at "go"
            intro z2 hz2
            cases hz1.trans hz2.symm
            refine ⟨rfl, _, rfl, ?_⟩
            have ez : (!decide (V.str z1 = V.str z1)) = false := by simp
            rw [ez]
            refine iteF ?_
            exact ⟨⟨_, _, _, rfl, (kx.trans k9).trans k10⟩⟩
          · rintro σ H9 ⟨⟨w4, w5, w6, rfl, k9⟩⟩
            walk_at "go"
            exact q H9 (kk.trans (K8.trans k9))
end
end EH
namespace EH
open PySem L2
local macro_rules | `(tactic| walk_at "sd") => `(tactic| first | assumption | ((with_reducible show (_ : Int) ≤ _); omega) | ((with_reducible show (_ : Int) < _); omega) | rfl | exact SqL.of (by assumption) | exact SqT.of (by assumption) | exact atI_nat (j := 0) rfl | exact atI_nat (j := 1) rfl | exact atI_nat (j := 2) rfl | exact atI_nat (j := 3) rfl | exact sz_lit rfl | exact lt_lit rfl | exact pos_lit rfl | exact le_lit rfl | exact Or.inl (SqL.of (by assumption)) | exact ⟨_, SqL.of (by assumption)⟩ | exact ⟨_, SqT.of (by assumption)⟩ | exact Or.inr (SqT.of (by assumption)) | exact ClsV.ty _ | exact TyX.base (TyOf.int _) | exact TyX.base (TyOf.str _) | exact TyX.base (TyOf.tup (by assumption)) | exact kit_ty isi_ss | exact kit_ty isi_is | exact kit_ty isi_ts | exact kit_ty isi_si | exact kit_ty isi_ii | exact kit_ty isi_ti | exact kit_ty isi_st | exact kit_ty isi_it | exact kit_ty isi_tt | exact Or.inl ⟨_, Or.inl (by assumption)⟩ | exact DGet.k (k := Sum.inr _) (by assumption) | exact DGet.k (k := Sum.inl _) (by assumption) | (refine cpow_of ?_; decide) | (refine cmul_of ?_; decide) | (show (_ : Int) ≠ 0; first | decide | omega) | (refine cdivn_of ?_; decide) | exact Or.inl ⟨rfl, _, SqL.of (by assumption)⟩ | omega)
local macro_rules | `(tactic| walk_at "st") => `(tactic| first | (apply Exists.intro) | (refine And.intro ?_ ?_; focus (walk_at "sd")) | (apply Or.inl; apply Exists.intro; refine And.intro ?_ ?_; focus rfl) | (apply Or.inr; apply Exists.intro; refine And.intro ?_ ?_; focus rfl))
local macro_rules | `(tactic| walk_at "go") => `(tactic| repeat (walk_at "st"))
section
variable {P : Program} {w : World} {K : PySem.W.Frag} {mg : Str → Option Value} {base : Heap}
theorem ok_l_expression (T : Top K mg) : ∀ n : Nat, FnOk P w K mg base CX0 (n + 2) T.l_expression.f T.l_expression.fd ["_law_deck_here", "_law_names_here", "_law_deep"] (spExpr n)
  | 0 => fn_no (by rintro vs H Q E ⟨a, c, nm, m, deep, names, _, _, _, _, h1, h2, _⟩; omega)
  | n + 1 => by
    have G_l_draw : FnOk P w K mg base CX0 1 T.l_draw.f T.l_draw.fd ["_law_deck_here", "_law_many"] spDraw := ok_l_draw T
    have G_l_one : FnOk P w K mg base CX0 2 T.l_one.f T.l_one.fd ["_law_deck_here", "_law_items"] (spOne K) := ok_l_one T
    have G_l_expression := ok_l_expression T n
    refine T.l_expression.F.ok sc_l_expression (fun vs H Q E h => ?_) (fun cdv A outer s H vs Q E hr h => ?_)
    · obtain ⟨a, c, nm, m, deep, names, rfl, _⟩ := h
      rfl
    obtain ⟨a, c, nm, m, deep, names, rfl, hD, hm, hN, h1, h2, h3, q⟩ := h
    refine ⟨_, (pss_cutA (ps_set (i := 3) sc_l_expression.nd rfl (.inl rfl) (pe_ifExp (pt_cmpR op_gt (pv 2) pe_int (nomark _)) (pe_call G_l_draw (hr.mono (by omega)) (by rfl) T.l_draw.g T.l_draw.F.kp T.l_draw.b .nil pass0 (pa_cons (pv 0) (pa_cons pe_int pa_nil))) (pe_call G_l_draw (hr.mono (by omega)) (by rfl) T.l_draw.g T.l_draw.F.kp T.l_draw.b .nil pass0 (pa_cons (pv 0) (pa_cons pe_int pa_nil)))))
      (pss_cons (ps_if (pt_cmpR op_eq (pv 3) pe_int (nomark _)) (pss_one (ps_ret (pe_call G_l_one (hr.mono (by omega)) (by rfl) T.l_one.g T.l_one.F.kp T.l_one.b .nil pass0 (pa_cons (pv 0) (pa_cons (pe_lstA (pa_cons pe_int (pa_cons pe_int (pa_cons pe_int (pa_cons (pe_un un_neg pe_int) (pa_cons pe_int (pa_cons (pe_un un_neg pe_int) (pa_cons pe_int (pa_cons (pe_un un_neg pe_int) (pa_cons (pe_op op_sub (pe_call G_l_draw (hr.mono (by omega)) (by rfl) T.l_draw.g T.l_draw.F.kp T.l_draw.b .nil pass0 (pa_cons (pv 0) (pa_cons pe_int pa_nil))) pe_int) pa_nil)))))))))) pa_nil))))) pss_nil)
      (pss_cons (ps_if (pt_cmpR op_lt (pv 3) pe_int (nomark _)) (pss_one (ps_ret (pe_call G_l_one (hr.mono (by omega)) (by rfl) T.l_one.g T.l_one.F.kp T.l_one.b .nil pass0 (pa_cons (pv 0) (pa_cons (pv 1) pa_nil))))) pss_nil)
      (pss_cons (ps_if (pt_cmpR op_eq (pv 3) pe_int (nomark _)) (pss_cons (ps_set (i := 4) sc_l_expression.nd rfl (.inl rfl) (pe_call G_l_one (hr.mono (by omega)) (by rfl) T.l_one.g T.l_one.F.kp T.l_one.b .nil pass0 (pa_cons (pv 0) (pa_cons (pe_lstA (pa_cons (pe_un un_neg pe_int) (pa_cons (pe_un un_neg pe_int) (pa_cons (pe_un un_neg pe_int) (pa_cons (pe_un un_neg pe_int) (pa_cons pe_int (pa_cons pe_int (pa_cons pe_int (pa_cons pe_int pa_nil))))))))) pa_nil))))
      (pss_one (ps_ret (pe_tupA (pa_cons pe_str (pa_cons (pv 4) (pa_cons (pe_call G_l_expression (hr.mono (by omega)) (by rfl) T.l_expression.g T.l_expression.F.kp T.l_expression.b .nil pass0 (pa_cons (pv 0) (pa_cons (pv 1) (pa_cons (pe_op op_sub (pv 2) pe_int) pa_nil)))) pa_nil))))))) pss_nil)
      (pss_cons (ps_set (i := 5) sc_l_expression.nd rfl (.inl rfl) (pe_call G_l_expression (hr.mono (by omega)) (by rfl) T.l_expression.g T.l_expression.F.kp T.l_expression.b .nil pass0 (pa_cons (pv 0) (pa_cons (pv 1) (pa_cons (pe_op op_sub (pv 2) pe_int) pa_nil)))))
      (pss_one (ps_ret (pe_tupA (pa_cons (pe_ix (ix_listK (K := K) rfl) (pe_lstA (pa_cons pe_str (pa_cons pe_str pa_nil))) (pe_op op_modN (pe_callTy (T := "int") call_int1 (by rfl) T.int (by decide +kernel) (pa_cons (pv 3) pa_nil)) pe_int) (fun _ _ => rfl)) (pa_cons (pv 5) (pa_cons (pe_call G_l_expression (hr.mono (by omega)) (by rfl) T.l_expression.g T.l_expression.F.kp T.l_expression.b .nil pass0 (pa_cons (pv 0) (pa_cons (pv 1) (pa_cons (pe_op op_sub (pv 2) pe_int) pa_nil)))) pa_nil))))))))))), ?_⟩
    have cn := costE_nn n
    have ce : costE (n + 1) = 3 + 2 * costE n := rfl
    have c15 : costE n ≤ 100 := by
      have : n = 0 ∨ n = 1 ∨ n = 2 := by omega
      rcases this with rfl | rfl | rfl <;> decide
    have hmM : m ≤ MANY := by show m ≤ 1000000000; omega
    refine ⟨⟨fun σ1 H1 => Lp (∃ r : Int, σ1 = [some (.ref a), some (.ref nm), some (.int deep), some (.int r), none, none] ∧ 0 ≤ r ∧ r < 7 ∧ (deep ≤ 1 → r < 4) ∧ Deck H1 a c (m + 1) ∧ Kp [a, c] H H1), ?_, ?_⟩⟩
    · walk_at "go"
      refine ite2 (fun hc => ?_) (fun hc => ?_)
      · have hc1 : 1 < deep := of_decide_eq_true hc
        walk_at "go"
        intro r H1 r0 r1 D1 k1
        exact ⟨r, rfl, r0, r1, fun z => absurd z (by omega), D1, k1⟩
      · have hc1 : ¬ 1 < deep := of_decide_eq_false (Bool.eq_false_iff.mpr hc)
        walk_at "go"
        intro r H1 r0 r1 D1 k1
        exact ⟨r, rfl, r0, by omega, fun _ => r1, D1, k1⟩
    · rintro σ1 H1 ⟨⟨r, rfl, r0, r1, r2, D1, k1⟩⟩
      have hN1 := hN.kpD k1
      have hm1 : m + 1 ≤ MANY := by show m + 1 ≤ 1000000000; omega
      have hm2 : m + 1 + 1 ≤ MANY := by show m + 1 + 1 ≤ 1000000000; omega
      walk_at "go"
      refine ite2 (fun hc => ?_) (fun hc => ?_)
      · -- a number
        walk_at "go"
        intro r3 H2 r30 r31 D2 k2
        walk_at "go"
        intro l H3 hl e3
        have k3 := new_kp hl e3
        have a3 := new_at e3
        have D3 := D2.kp0 k3
        have off3 := D2.off hl
        walk_at "go"
        intro x H4 hx D4 k4
        have hx2 : x ∈ ([0, 1, 2, -1, 3, -5, 99, -99, r3 - 99] : List Int).map V.int := hx
        obtain ⟨i, rfl, i0, i1⟩ := mem_ints (P := fun i => -99 ≤ i ∧ i ≤ 99) hx2 (by
          intro i hi
          simp only [List.mem_cons, List.not_mem_nil, or_false] at hi
          omega)
        exact q _ (.num i) H4 (m + 1 + 1 + 1) mk_int ⟨i0, i1⟩ trivial h1 (by omega) (by omega) D4 (((k1.trans k2).step0 k3).trans k4)
      · have hc1 : ¬ r = 0 := fun z => of_decide_eq_false (Bool.eq_false_iff.mpr hc) (congrArg V.int z)
        walk_at "go"
        refine ite2 (fun hd => ?_) (fun hd => ?_)
        · -- a name
          have nl := hN.len
          have hl0 : 0 < (names.map V.str).length := by rw [List.length_map]; omega
          have hl1 : (names.map V.str).length ≤ 1000000 := by rw [List.length_map]; omega
          have nmat := hN1.at_
          have nmoff := hN1.off
          walk_at "go"
          intro x H2 hx D2 k2
          obtain ⟨y, hy, rfl⟩ := List.mem_map.mp hx
          exact q _ (.var y) H2 (m + 1 + 1) mk_str (hN.oks y hy) hy h1 (by omega) (by omega) D2 (k1.trans k2)
        · have hd1 : ¬ r < 4 := of_decide_eq_false (Bool.eq_false_iff.mpr hd)
          have hdp : 1 < deep := Decidable.byContradiction fun z => hd1 (r2 (by omega))
          have d0 : 1 ≤ deep - 1 := by omega
          have d1 : deep - 1 ≤ (n : Int) := by omega
          have d2 : n ≤ 3 := by omega
          walk_at "go"
          refine ite2 (fun he => ?_) (fun he => ?_)
          · -- times
            walk_at "go"
            intro l H2 hl e2
            have k2 := new_kp hl e2
            have a2 := new_at e2
            have D2 := D1.kp0 k2
            have off2 := D1.off hl
            walk_at "go"
            intro x H3 hx D3 k3
            have hx2 : x ∈ ([-9, -3, -2, -1, 0, 2, 3, 9] : List Int).map V.int := hx
            obtain ⟨i, rfl, i0, i1⟩ := mem_ints (P := fun i => -9 ≤ i ∧ i ≤ 9) hx2 (by
              intro i hi
              simp only [List.mem_cons, List.not_mem_nil, or_false] at hi
              omega)
            have hN3 := (hN1.kp0 k2).kpD k3
            have hm3 : m + 1 + 1 + costE n ≤ 900000000 := by omega
            walk_at "go"
            intro v e H4 m4 t4 o4 n4 p4 ml4 mu4 D4 k4
            walk_at "go"
            intro r5 H5 hr5 e5
            have k5 := new_kp hr5 e5
            exact q _ (.times i e) H5 m4 (mk_tup (new_at e5) (trs_cons mk_str (trs_cons mk_int (trs_cons (k5.tr t4) trs_nil)))) ⟨i0, i1, o4⟩ n4 (by show ((e.deep + 1 : Nat) : Int) ≤ deep; omega) (by omega) (by omega) (D4.kp0 k5) ((((k1.step0 k2).trans k3).trans k4).step0 k5)
          · -- plus, minus
            have hm3 : m + 1 + costE n ≤ 900000000 := by omega
            walk_at "go"
            intro v2 e2 H2 m2 t2 o2 n2 p2 ml2 mu2 D2 k2
            walk_at "go"
            intro l H3 hl e3
            have k3 := new_kp hl e3
            have a3 := new_at e3
            have D3 := D2.kp0 k3
            have hN3 := (hN1.kpD k2).kp0 k3
            have hm4 : m2 + costE n ≤ 900000000 := by omega
            obtain ⟨wd, hwd, wm⟩ : ∃ wd, atI [V.str "plus", V.str "minus"] (r.fmod 2) = some (.str wd) ∧ (wd = "plus" ∨ wd = "minus") := by
              have : r = 4 ∨ r = 5 ∨ r = 6 := by omega
              rcases this with rfl | rfl | rfl
              · exact ⟨"plus", rfl, .inl rfl⟩
              · exact ⟨"minus", rfl, .inr rfl⟩
              · exact ⟨"plus", rfl, .inl rfl⟩
            walk_at "go"
            intro v4 e4 H4 m4 t4 o4 n4 p4 ml4 mu4 D4 k4
            walk_at "go"
            intro r5 H5 hr5 e5
            have k5 := new_kp hr5 e5
            have kk := (((((k1.trans k2).step0 k3).trans k4).step0 k5))
            rcases wm with rfl | rfl
            · exact q _ (.plus e2 e4) H5 m4 (mk_tup (new_at e5) (trs_cons mk_str (trs_cons (k5.tr (k4.tr (k3.tr t2))) (trs_cons (k5.tr t4) trs_nil)))) ⟨o2, o4⟩ ⟨n2, n4⟩ (by show ((max e2.deep e4.deep + 1 : Nat) : Int) ≤ deep; omega) (by omega) (by omega) (D4.kp0 k5) kk
            · exact q _ (.minus e2 e4) H5 m4 (mk_tup (new_at e5) (trs_cons mk_str (trs_cons (k5.tr (k4.tr (k3.tr t2))) (trs_cons (k5.tr t4) trs_nil)))) ⟨o2, o4⟩ ⟨n2, n4⟩ (by show ((max e2.deep e4.deep + 1 : Nat) : Int) ≤ deep; omega) (by omega) (by omega) (D4.kp0 k5) kk
end
end EH
namespace EH
open PySem L2
local macro_rules | `(tactic| walk_at "sd") => `(tactic| first | assumption | ((with_reducible show (_ : Int) ≤ _); omega) | ((with_reducible show (_ : Int) < _); omega) | rfl | exact SqL.of (by assumption) | exact SqT.of (by assumption) | exact atI_nat (j := 0) rfl | exact atI_nat (j := 1) rfl | exact atI_nat (j := 2) rfl | exact atI_nat (j := 3) rfl | exact sz_lit rfl | exact lt_lit rfl | exact pos_lit rfl | exact le_lit rfl | exact Or.inl (SqL.of (by assumption)) | exact ⟨_, SqL.of (by assumption)⟩ | exact ⟨_, SqT.of (by assumption)⟩ | exact Or.inr (SqT.of (by assumption)) | exact ClsV.ty _ | exact TyX.base (TyOf.int _) | exact TyX.base (TyOf.str _) | exact TyX.base (TyOf.tup (by assumption)) | exact kit_ty isi_ss | exact kit_ty isi_is | exact kit_ty isi_ts | exact kit_ty isi_si | exact kit_ty isi_ii | exact kit_ty isi_ti | exact kit_ty isi_st | exact kit_ty isi_it | exact kit_ty isi_tt | exact Or.inl ⟨_, Or.inl (by assumption)⟩ | exact DGet.k (k := Sum.inr _) (by assumption) | exact DGet.k (k := Sum.inl _) (by assumption) | (refine cpow_of ?_; decide) | (refine cmul_of ?_; decide) | (show (_ : Int) ≠ 0; first | decide | omega) | (refine cdivn_of ?_; decide) | exact Or.inl ⟨rfl, _, SqL.of (by assumption)⟩ | omega)
local macro_rules | `(tactic| walk_at "st") => `(tactic| first | (apply Exists.intro) | (refine And.intro ?_ ?_; focus (walk_at "sd")) | (apply Or.inl; apply Exists.intro; refine And.intro ?_ ?_; focus rfl) | (apply Or.inr; apply Exists.intro; refine And.intro ?_ ?_; focus rfl))
local macro_rules | `(tactic| walk_at "go") => `(tactic| repeat (walk_at "st"))
section
variable {P : Program} {w : World} {K : PySem.W.Frag} {mg : Str → Option Value} {base : Heap}
theorem ok_l_plain (T : Top K mg) {k : Nat} : FnOk P w K mg base CX0 (k + 6) T.l_plain.f T.l_plain.fd ["_law_deck_here", "_law_names_here", "_law_left", "_law_times"] spPlain := by
  have G_l_draw : FnOk P w K mg base CX0 1 T.l_draw.f T.l_draw.fd ["_law_deck_here", "_law_many"] spDraw := ok_l_draw T
  have G_l_one : FnOk P w K mg base CX0 2 T.l_one.f T.l_one.fd ["_law_deck_here", "_law_items"] (spOne K) := ok_l_one T
  have G_l_expression : FnOk P w K mg base CX0 5 T.l_expression.f T.l_expression.fd ["_law_deck_here", "_law_names_here", "_law_deep"] (spExpr 3) := ok_l_expression T 3
  refine T.l_plain.F.ok sc_l_plain (fun vs H Q E h => ?_) (fun cdv A outer s H vs Q E hr h => ?_)
  · obtain ⟨a, c, nm, lf, m, t, names, l, rfl, _⟩ := h
    rfl
  obtain ⟨a, c, nm, lf, m, t, names, l, rfl, g, hm, ln, ht, q⟩ := h
  refine ⟨_, (pss_cons (ps_par (i := 4) (j := 5) (by rfl) sc_l_plain.nd rfl rfl (by decide) rfl rfl (pa_cons (pe_call G_l_draw (hr.mono (by omega)) (by rfl) T.l_draw.g T.l_draw.F.kp T.l_draw.b .nil pass0 (pa_cons (pv 0) (pa_cons pe_int pa_nil))) (pa_cons (pe_call G_l_one (hr.mono (by omega)) (by rfl) T.l_one.g T.l_one.F.kp T.l_one.b .nil pass0 (pa_cons (pv 0) (pa_cons (pv 1) pa_nil))) pa_nil)) (by rfl))
      (pss_cutA (ps_if (PW.pt (pw_and (pt_cmpR op_lt (pv 4) pe_int (nomark _)) (pw_and1 (pt_cmpR op_ge (pe_ix (ix_listK (K := K) rfl) (pv 2) pe_int (fun _ _ => rfl)) (pv 3) (nomark _))))) (pss_cons (ps_asg (pe_op op_sub (pe_ix (ix_listK (K := K) rfl) (pv 2) pe_int (fun _ _ => rfl)) (pv 3)) (pg_sub (pv 2) pe_int set_listA))
      (pss_one (ps_ret (pe_tupA (pa_cons pe_str (pa_cons (pv 5) (pa_cons (pe_call G_l_expression (hr.mono (by omega)) (by rfl) T.l_expression.g T.l_expression.F.kp T.l_expression.b .nil pass0 (pa_cons (pv 0) (pa_cons (pv 1) (pa_cons pe_int pa_nil)))) pa_nil))))))) pss_nil)
      (pss_cons (ps_if (pt_cmpR op_lt (pv 4) pe_int (nomark _)) (pss_one (ps_ret (pe_tupA (pa_cons pe_str (pa_cons (pv 5) (pa_cons (pe_call G_l_expression (hr.mono (by omega)) (by rfl) T.l_expression.g T.l_expression.F.kp T.l_expression.b .nil pass0 (pa_cons (pv 0) (pa_cons (pv 1) (pa_cons pe_int pa_nil)))) pa_nil)))))) pss_nil)
      (pss_cons (ps_if (pt_cmpR op_eq (pv 4) pe_int (nomark _)) (pss_one (ps_ret (pe_tupA (pa_cons pe_str (pa_cons (pe_call G_l_one (hr.mono (by omega)) (by rfl) T.l_one.g T.l_one.F.kp T.l_one.b .nil pass0 (pa_cons (pv 0) (pa_cons (pe_lstA (pa_cons pe_str (pa_cons pe_str (pa_cons pe_str (pa_cons pe_str pa_nil))))) pa_nil))) pa_nil))))) pss_nil)
      (pss_cutA (ps_if (PW.pt (pw_and (pt_cmpR op_eq (pv 4) pe_int (nomark _)) (pw_and1 (pt_cmpR op_eq (pe_call G_l_draw (hr.mono (by omega)) (by rfl) T.l_draw.g T.l_draw.F.kp T.l_draw.b .nil pass0 (pa_cons (pv 0) (pa_cons pe_int pa_nil))) pe_int (nomark _))))) (pss_one (ps_ret (pe_tupA (pa_cons pe_str (pa_cons (pe_call G_l_one (hr.mono (by omega)) (by rfl) T.l_one.g T.l_one.F.kp T.l_one.b .nil pass0 (pa_cons (pv 0) (pa_cons (pe_lstA (pa_cons pe_str (pa_cons pe_str (pa_cons pe_str pa_nil)))) pa_nil))) pa_nil))))) pss_nil)
      (pss_one (ps_ret (pe_tupA (pa_cons pe_str (pa_cons (pe_call G_l_expression (hr.mono (by omega)) (by rfl) T.l_expression.g T.l_expression.F.kp T.l_expression.b .nil pass0 (pa_cons (pv 0) (pa_cons (pv 1) (pa_cons pe_int pa_nil)))) pa_nil)))))))))), ?_⟩
  have hm0 : m ≤ MANY := by show m ≤ 1000000000; omega
  have hm1 : m + 1 ≤ MANY := by show m + 1 ≤ 1000000000; omega
  have hm2 : m + 1 + 1 ≤ MANY := by show m + 1 + 1 ≤ 1000000000; omega
  have ce : costE 3 = 21 := by decide
  have dk := g.dk
  obtain ⟨ln1, ln2, ln3, ln4⟩ := ln
  walk_at "go"
  intro r H1 r0 r1 D1 k1
  have nm1 := g.nms.kpD k1
  have nmat := nm1.at_
  have nmoff := nm1.off
  have nl := nm1.len
  have hl0 : 0 < (names.map V.str).length := by rw [List.length_map]; omega
  have hl1 : (names.map V.str).length ≤ 1000000 := by rw [List.length_map]; omega
  walk_at "go"
  intro x H2 hx D2 k2
  obtain ⟨y, hy, rfl⟩ := List.mem_map.mp hx
  have yok := nm1.oks y hy
  have g2 := g.drawn D2 (k1.trans k2)
  have lf2 := g2.lft
  have nms2 := g2.nms
  have k12 := k1.trans k2
  have sub : ∀ b, b ∈ [a, c] → b ∈ [a, c, lf] := by
    intro b hb
    simp only [List.mem_cons, List.not_mem_nil, or_false] at hb ⊢
    rcases hb with h | h
    · exact .inl h
    · exact .inr (.inl h)
  have hm3 : m + 1 + 1 + costE 3 ≤ 900000000 := by omega
  have fin : ∀ (v : V) (s : Sm) (H3 : Hp) (m3 : Int), Tr H3 s.d v → s.ok → s.inN names → s.plain → s.hv = 0 → m + 1 + 1 ≤ m3 → m3 ≤ m + 50 → Deck H3 a c m3 → Kp [a, c] H2 H3 → Q v H3 := by
    intro v s H3 m3 t3 o3 n3 p3 z3 l3 u3 D3 k3
    exact q v s H3 m3 l t3 o3 n3 p3 (by rw [z3]; simp) ⟨ln1, ln2, ln3, ln4⟩ rfl rfl (Int.le_refl _) rfl (by omega) u3 (g2.drawn D3 k3) ((k12.trans k3).sub sub)
  walk_at "go"
  refine ⟨⟨fun σ3 H3 => Lp (σ3 = [some (.ref a), some (.ref nm), some (.ref lf), some (.int t), some (.int r), some (.str y)] ∧ H3 = H2), ?_, ?_⟩⟩
  · walk_at "go"
    refine ite2 (fun hc => ?_) (fun hc => ⟨rfl, rfl⟩)
    walk_at "go"
    refine ite2 (fun hd => ?_) (fun hd => ⟨rfl, rfl⟩)
    have hd1 : t ≤ l.h := of_decide_eq_true hd
    walk_at "go"
    intro H3 g3 k3
    replace g3 : H3 lf = some (.lst (Lf.vs ⟨l.p, l.w, l.h - t, l.c⟩)) := g3
    have gs3 := g2.left g3 k3
    have dk3 := gs3.dk
    have nms3 := gs3.nms
    walk_at "go"
    intro v e H4 m4 t4 o4 n4 p4 ml4 mu4 D4 k4
    walk_at "go"
    intro r5 H5 hr5 e5
    have k5 := new_kp hr5 e5
    exact q _ (.half y e) H5 m4 ⟨l.p, l.w, l.h - t, l.c⟩ (mk_tup (new_at e5) (trs_cons mk_str (trs_cons mk_str (trs_cons (k5.tr t4) trs_nil)))) (by simp only [Sm.ok]; exact ⟨⟨o4, by omega⟩, yok⟩) (by simp only [Sm.inN]; exact ⟨n4, hy⟩) trivial (by simp only [Sm.hv]; omega) ⟨ln1, ln2, by show 0 ≤ l.h - t; omega, ln4⟩ rfl rfl (by show l.h - t ≤ l.h; omega) rfl (by omega) (by omega)
      ((gs3.drawn D4 k4).kp0 k5) (((((k12.sub sub).trans (k3.sub (by simp))).trans (k4.sub sub))).step0 k5)
  · rintro σ3 H3 ⟨⟨rfl, rfl⟩⟩
    walk_at "go"
    refine ite2 (fun hc => ?_) (fun hc => ?_)
    · walk_at "go"
      intro v e H4 m4 t4 o4 n4 p4 ml4 mu4 D4 k4
      walk_at "go"
      intro r5 H5 hr5 e5
      have k5 := new_kp hr5 e5
      exact fin _ (.set y e) H5 m4 (mk_tup (new_at e5) (trs_cons mk_str (trs_cons mk_str (trs_cons (k5.tr t4) trs_nil)))) (by simp only [Sm.ok]; exact ⟨⟨o4, by omega⟩, yok⟩) (by simp only [Sm.inN]; exact ⟨n4, hy⟩) trivial (by simp only [Sm.hv]) (by omega) (by omega) (D4.kp0 k5) (k4.step0 k5)
    · walk_at "go"
      refine ite2 (fun hd => ?_) (fun hd => ?_)
      · walk_at "go"
        intro l4 H4 hl4 e4
        have k4 := new_kp hl4 e4
        have a4 := new_at e4
        have D4 := D2.kp0 k4
        have off4 := D2.off hl4
        walk_at "go"
        intro z H5 hz D5 k5
        have hz2 : z ∈ (["go", "7", "half", "odd"] : List Str).map V.str := hz
        obtain ⟨zw, hzw, rfl⟩ := List.mem_map.mp hz2
        have zin : WdIn zw := by
          unfold WdIn
          simp only [List.mem_cons, List.not_mem_nil, or_false] at hzw ⊢
          rcases hzw with z | z | z | z <;> simp [z]
        have zok : PyData.strOk zw = true ∧ zw.length ≤ 20 := by
          simp only [List.mem_cons, List.not_mem_nil, or_false] at hzw
          rcases hzw with rfl | rfl | rfl | rfl <;> decide +kernel
        walk_at "go"
        intro r6 H6 hr6 e6
        have k6 := new_kp hr6 e6
        exact fin _ (.say zw) H6 (m + 1 + 1 + 1) (mk_tup (new_at e6) (trs_cons mk_str (trs_cons mk_str trs_nil))) (by simp only [Sm.ok]; exact zok) (by simp only [Sm.inN]; exact zin) trivial (by simp only [Sm.hv]) (by omega) (by omega) (D5.kp0 k6) (((k4.sub (by simp)).trans k5).step0 k6)
      · refine ⟨⟨fun σ4 H4 => Lp (σ4 = [some (.ref a), some (.ref nm), some (.ref lf), some (.int t), some (.int r), some (.str y)] ∧ ∃ m4, m + 1 + 1 ≤ m4 ∧ m4 ≤ m + 3 ∧ Deck H4 a c m4 ∧ Kp [a, c] H3 H4), ?_, ?_⟩⟩
        · walk_at "go"
          refine ite2 (fun he => ?_) (fun he => ⟨rfl, m + 1 + 1, by omega, by omega, D2, Kp.refl⟩)
          walk_at "go"
          intro r4 H4 r40 r41 D4 k4
          walk_at "go"
          refine ite2 (fun hf => ?_) (fun hf => ⟨rfl, m + 1 + 1 + 1, by omega, by omega, D4, k4⟩)
          have hm4 : m + 1 + 1 + 1 ≤ MANY := by show m + 1 + 1 + 1 ≤ 1000000000; omega
          walk_at "go"
          intro l5 H5 hl5 e5
          have k5 := new_kp hl5 e5
          have a5 := new_at e5
          have D5 := D4.kp0 k5
          have off5 := D4.off hl5
          walk_at "go"
          intro z H6 hz D6 k6
          have hz2 : z ∈ (["end", "0", "not"] : List Str).map V.str := hz
          obtain ⟨zw, hzw, rfl⟩ := List.mem_map.mp hz2
          have zin : WdIn zw := by
            unfold WdIn
            simp only [List.mem_cons, List.not_mem_nil, or_false] at hzw ⊢
            rcases hzw with z | z | z <;> simp [z]
          have zok : PyData.strOk zw = true ∧ zw.length ≤ 20 := by
            simp only [List.mem_cons, List.not_mem_nil, or_false] at hzw
            rcases hzw with rfl | rfl | rfl <;> decide +kernel
          walk_at "go"
          intro r7 H7 hr7 e7
          have k7 := new_kp hr7 e7
          exact fin _ (.stop zw) H7 (m + 1 + 1 + 1 + 1) (mk_tup (new_at e7) (trs_cons mk_str (trs_cons mk_str trs_nil))) (by simp only [Sm.ok]; exact zok) (by simp only [Sm.inN]; exact zin) trivial (by simp only [Sm.hv]) (by omega) (by omega) (D6.kp0 k7) (((k4.step0 k5).trans k6).step0 k7)
        · rintro σ4 H4 ⟨⟨rfl, m4, ml4, mu4, D4, k4⟩⟩
          have nms4 := nms2.kpD k4
          have hm4 : m4 + costE 3 ≤ 900000000 := by omega
          walk_at "go"
          intro v e H5 m5 t5 o5 n5 p5 ml5 mu5 D5 k5
          walk_at "go"
          intro r6 H6 hr6 e6
          have k6 := new_kp hr6 e6
          exact fin _ (.tell e) H6 m5 (mk_tup (new_at e6) (trs_cons mk_str (trs_cons (k6.tr t5) trs_nil))) (by simp only [Sm.ok]; exact ⟨o5, by omega⟩) (by simp only [Sm.inN]; exact n5) trivial (by simp only [Sm.hv]) (by omega) (by omega) (D5.kp0 k6) ((k4.trans k5).step0 k6)
end
end EH
namespace EH
open PySem L2
local macro_rules | `(tactic| walk_at "sd") => `(tactic| first | assumption | ((with_reducible show (_ : Int) ≤ _); omega) | ((with_reducible show (_ : Int) < _); omega) | rfl | exact SqL.of (by assumption) | exact SqT.of (by assumption) | exact atI_nat (j := 0) rfl | exact atI_nat (j := 1) rfl | exact atI_nat (j := 2) rfl | exact atI_nat (j := 3) rfl | exact sz_lit rfl | exact lt_lit rfl | exact pos_lit rfl | exact le_lit rfl | exact Or.inl (SqL.of (by assumption)) | exact ⟨_, SqL.of (by assumption)⟩ | exact ⟨_, SqT.of (by assumption)⟩ | exact Or.inr (SqT.of (by assumption)) | exact ClsV.ty _ | exact TyX.base (TyOf.int _) | exact TyX.base (TyOf.str _) | exact TyX.base (TyOf.tup (by assumption)) | exact kit_ty isi_ss | exact kit_ty isi_is | exact kit_ty isi_ts | exact kit_ty isi_si | exact kit_ty isi_ii | exact kit_ty isi_ti | exact kit_ty isi_st | exact kit_ty isi_it | exact kit_ty isi_tt | exact Or.inl ⟨_, Or.inl (by assumption)⟩ | exact DGet.k (k := Sum.inr _) (by assumption) | exact DGet.k (k := Sum.inl _) (by assumption) | (refine cpow_of ?_; decide) | (refine cmul_of ?_; decide) | (show (_ : Int) ≠ 0; first | decide | omega) | (refine cdivn_of ?_; decide) | exact Or.inl ⟨rfl, _, SqL.of (by assumption)⟩ | omega)
local macro_rules | `(tactic| walk_at "st") => `(tactic| first | (apply Exists.intro) | (refine And.intro ?_ ?_; focus (walk_at "sd")) | (apply Or.inl; apply Exists.intro; refine And.intro ?_ ?_; focus rfl) | (apply Or.inr; apply Exists.intro; refine And.intro ?_ ?_; focus rfl))
local macro_rules | `(tactic| walk_at "go") => `(tactic| repeat (walk_at "st"))
section
variable {P : Program} {w : World} {K : PySem.W.Frag} {mg : Str → Option Value} {base : Heap}
theorem ok_l_test (T : Top K mg) {k : Nat} : FnOk P w K mg base CX0 (k + 6) T.l_test.f T.l_test.fd ["_law_deck_here", "_law_names_here", "_law_left", "_law_times"] spTest := by
  have G_l_draw : FnOk P w K mg base CX0 1 T.l_draw.f T.l_draw.fd ["_law_deck_here", "_law_many"] spDraw := ok_l_draw T
  have G_l_expression : FnOk P w K mg base CX0 5 T.l_expression.f T.l_expression.fd ["_law_deck_here", "_law_names_here", "_law_deep"] (spExpr 3) := ok_l_expression T 3
  refine T.l_test.F.ok sc_l_test (fun vs H Q E h => ?_) (fun cdv A outer s H vs Q E hr h => ?_)
  · obtain ⟨a, c, nm, lf, m, t, names, l, rfl, _⟩ := h
    rfl
  obtain ⟨a, c, nm, lf, m, t, names, l, rfl, g, hm, ln, ht, q⟩ := h
  have hu64 := hr.units
  refine ⟨_, (pss_cons (ps_par (i := 4) (j := 5) (by rfl) sc_l_test.nd rfl rfl (by decide) rfl rfl (pa_cons (pe_op op_sub (pe_call G_l_draw (hr.mono (by omega)) (by rfl) T.l_draw.g T.l_draw.F.kp T.l_draw.b .nil pass0 (pa_cons (pv 0) (pa_cons pe_int pa_nil))) pe_int) (pa_cons (pe_tupA pa_nil) pa_nil)) (by rfl))
      (pss_cutA (ps_if (PW.pt (pw_and (pt_cmpR op_eq (pe_call G_l_draw (hr.mono (by omega)) (by rfl) T.l_draw.g T.l_draw.F.kp T.l_draw.b .nil pass0 (pa_cons (pv 0) (pa_cons pe_int pa_nil))) pe_int (nomark _)) (pw_and1 (pt_cmpR op_ge (pe_ix (ix_listK (K := K) rfl) (pv 2) pe_int (fun _ _ => rfl)) (pv 3) (nomark _))))) (pss_cons (ps_asg (pe_op op_sub (pe_ix (ix_listK (K := K) rfl) (pv 2) pe_int (fun _ _ => rfl)) (pv 3)) (pg_sub (pv 2) pe_int set_listA))
      (pss_one (ps_set (i := 5) sc_l_test.nd rfl (.inl rfl) (pe_tupA (pa_cons pe_str (pa_cons (pe_call G_l_expression (hr.mono (by omega)) (by rfl) T.l_expression.g T.l_expression.F.kp T.l_expression.b .nil pass0 (pa_cons (pv 0) (pa_cons (pv 1) (pa_cons pe_int pa_nil)))) pa_nil)))))) (pss_one (ps_if (pt_cmpR op_ge (pe_ix (ix_listK (K := K) rfl) (pv 2) pe_int (fun _ _ => rfl)) (pv 3) (nomark _)) (pss_cons (ps_asg (pe_op op_sub (pe_ix (ix_listK (K := K) rfl) (pv 2) pe_int (fun _ _ => rfl)) (pv 3)) (pg_sub (pv 2) pe_int set_listA))
      (pss_one (ps_set (i := 5) sc_l_test.nd rfl (.inl rfl) (pe_tupA (pa_cons pe_str (pa_cons (pe_call G_l_expression (hr.mono (by omega)) (by rfl) T.l_expression.g T.l_expression.F.kp T.l_expression.b .nil pass0 (pa_cons (pv 0) (pa_cons (pv 1) (pa_cons pe_int pa_nil)))) (pa_cons (pe_call G_l_expression (hr.mono (by omega)) (by rfl) T.l_expression.g T.l_expression.F.kp T.l_expression.b .nil pass0 (pa_cons (pv 0) (pa_cons (pv 1) (pa_cons pe_int pa_nil)))) pa_nil))))))) pss_nil)))
      (pss_cons (ps_forA (ps_for PassesOwn.never rfl (pi_range1 (by rfl) T.range (pa_cons (pe_ifExp (pt_cmpR (op_neT hu64) (pv 5) (pe_tupA pa_nil) (nomark _)) (pe_callB (id := "max") (call_max2 rfl) (by rfl) T.max (by decide +kernel) (pa_cons pe_int (pa_cons (pv 4) pa_nil))) pe_int) pa_nil)) (pg_name (i := 6) sc_l_test.nd rfl (.inl rfl)) (pss_one (ps_set (i := 5) sc_l_test.nd rfl (.inl rfl) (pe_tupA (pa_cons pe_str (pa_cons (pv 5) pa_nil)))))))
      (pss_one (ps_ret (pv 5)))))), ?_⟩
  have hm0 : m ≤ MANY := by show m ≤ 1000000000; omega
  have hm1 : m + 1 ≤ MANY := by show m + 1 ≤ 1000000000; omega
  have ce : costE 3 = 21 := by decide
  have dk := g.dk
  obtain ⟨ln1, ln2, ln3, ln4⟩ := ln
  have sub : ∀ b, b ∈ [a, c] → b ∈ [a, c, lf] := by
    intro b hb
    simp only [List.mem_cons, List.not_mem_nil, or_false] at hb ⊢
    rcases hb with h | h
    · exact .inl h
    · exact .inr (.inl h)
  walk_at "go"
  intro r H1 r0 r1 D1 k1
  walk_at "go"
  intro u0 H2 hu0 e2
  have k2 := new_kp hu0 e2
  have a2 := new_at e2
  have D2 := D1.kp0 k2
  have g2 := g.drawn D2 (k1.step0 k2)
  have k12 : Kp [a, c, lf] H H2 := (k1.sub sub).step0 k2
  walk_at "go"
  refine ⟨⟨fun σ3 H3 => Lp (∃ (tv : V) (o : Option Ts) (m3 : Int) (l3 : Lf), σ3 = [some (.ref a), some (.ref nm), some (.ref lf), some (.int t), some (.int (r - 2)), some tv, none] ∧ Tr H3 (tD o) tv ∧
    (∀ s, o = some s → (s.ok ∧ s.inN names) ∧ s.nots = 0 ∧ t * (if s.isOdd then 1 else 0) ≤ l.h - l3.h ∧ t * (if s.isOdd then 0 else 1) ≤ l.c - l3.c) ∧ l3.nn ∧ l3.p = l.p ∧ l3.w = l.w ∧ l3.h ≤ l.h ∧ l3.c ≤ l.c ∧ m + 1 ≤ m3 ∧ m3 ≤ m + 50 ∧ Gs H3 a c nm lf m3 names l3 ∧ Kp [a, c, lf] H H3), ?_, ?_⟩⟩
  · walk_at "go"
    intro r3 H3 r30 r31 D3 k3
    have g3 := g2.drawn D3 k3
    have lf3 := g3.lft
    have nms3 := g3.nms
    have k13 := k12.trans (k3.sub sub)
    have hm3 : m + 1 + 1 + costE 3 ≤ 900000000 := by omega
    walk_at "go"
    refine ite2 (fun hc => ?_) (fun hc => ?_)
    · walk_at "go"
      refine ite2 (fun hd => ?_) (fun hd => ?_)
      · have hd1 : t ≤ l.h := of_decide_eq_true hd
        walk_at "go"
        intro H4 g4 k4
        replace g4 : H4 lf = some (.lst (Lf.vs ⟨l.p, l.w, l.h - t, l.c⟩)) := g4
        have gs4 := g3.left g4 k4
        have dk4 := gs4.dk
        have nms4 := gs4.nms
        walk_at "go"
        intro v e H5 m5 t5 o5 n5 p5 ml5 mu5 D5 k5
        walk_at "go"
        intro r6 H6 hr6 e6
        have k6 := new_kp hr6 e6
        refine ⟨_, some (.odd e), m5, ⟨l.p, l.w, l.h - t, l.c⟩, rfl, mk_tup (new_at e6) (trs_cons mk_str (trs_cons (k6.tr t5) trs_nil)), ?_, ⟨ln1, ln2, by show 0 ≤ l.h - t; omega, ln4⟩, rfl, rfl, by show l.h - t ≤ l.h; omega, Int.le_refl _, by omega, by omega, (gs4.drawn D5 k5).kp0 k6, ((k13.trans (k4.sub (by simp))).trans (k5.sub sub)).step0 k6⟩
        rintro s ⟨⟩
        refine ⟨⟨⟨o5, by omega⟩, n5⟩, rfl, ?_, ?_⟩
        · show t * 1 ≤ l.h - (l.h - t)
          omega
        · show t * 0 ≤ l.c - l.c
          omega
      · walk_at "go"
        refine ite2 (fun he => ?_) (fun he => ?_)
        · have he1 : t ≤ l.c := of_decide_eq_true he
          walk_at "go"
          intro H4 g4 k4
          replace g4 : H4 lf = some (.lst (Lf.vs ⟨l.p, l.w, l.h, l.c - t⟩)) := g4
          have gs4 := g3.left g4 k4
          have dk4 := gs4.dk
          have nms4 := gs4.nms
          walk_at "go"
          intro v5 e5 H5 m5 t5 o5 n5 p5 ml5 mu5 D5 k5
          have nms5 := nms4.kpD k5
          have hm5 : m5 + costE 3 ≤ 900000000 := by omega
          walk_at "go"
          intro v6 e6 H6 m6 t6 o6 n6 p6 ml6 mu6 D6 k6
          walk_at "go"
          intro r7 H7 hr7 e7
          have k7 := new_kp hr7 e7
          refine ⟨_, some (.less e5 e6), m6, ⟨l.p, l.w, l.h, l.c - t⟩, rfl, mk_tup (new_at e7) (trs_cons mk_str (trs_cons (k7.tr (k6.tr t5)) (trs_cons (k7.tr t6) trs_nil))), ?_, ⟨ln1, ln2, ln3, by show 0 ≤ l.c - t; omega⟩, rfl, rfl, Int.le_refl _, by show l.c - t ≤ l.c; omega, by omega, by omega, (gs4.drawn D6 (k5.trans k6)).kp0 k7, (((k13.trans (k4.sub (by simp))).trans (k5.sub sub)).trans (k6.sub sub)).step0 k7⟩
          rintro s ⟨⟩
          refine ⟨⟨⟨⟨o5, by omega⟩, o6, by omega⟩, n5, n6⟩, rfl, ?_, ?_⟩
          · show t * 0 ≤ l.h - l.h
            omega
          · show t * 1 ≤ l.c - (l.c - t)
            omega
        · exact ⟨_, none, m + 1 + 1, l, rfl, mk_tup (k3.tup _ _ a2) trs_nil, (fun s z => nomatch z), ⟨ln1, ln2, ln3, ln4⟩, rfl, rfl, Int.le_refl _, Int.le_refl _, by omega, by omega, g3, k13⟩
    · walk_at "go"
      refine ite2 (fun he => ?_) (fun he => ?_)
      · have he1 : t ≤ l.c := of_decide_eq_true he
        walk_at "go"
        intro H4 g4 k4
        replace g4 : H4 lf = some (.lst (Lf.vs ⟨l.p, l.w, l.h, l.c - t⟩)) := g4
        have gs4 := g3.left g4 k4
        have dk4 := gs4.dk
        have nms4 := gs4.nms
        walk_at "go"
        intro v5 e5 H5 m5 t5 o5 n5 p5 ml5 mu5 D5 k5
        have nms5 := nms4.kpD k5
        have hm5 : m5 + costE 3 ≤ 900000000 := by omega
        walk_at "go"
        intro v6 e6 H6 m6 t6 o6 n6 p6 ml6 mu6 D6 k6
        walk_at "go"
        intro r7 H7 hr7 e7
        have k7 := new_kp hr7 e7
        refine ⟨_, some (.less e5 e6), m6, ⟨l.p, l.w, l.h, l.c - t⟩, rfl, mk_tup (new_at e7) (trs_cons mk_str (trs_cons (k7.tr (k6.tr t5)) (trs_cons (k7.tr t6) trs_nil))), ?_, ⟨ln1, ln2, ln3, by show 0 ≤ l.c - t; omega⟩, rfl, rfl, Int.le_refl _, by show l.c - t ≤ l.c; omega, by omega, by omega, (gs4.drawn D6 (k5.trans k6)).kp0 k7, (((k13.trans (k4.sub (by simp))).trans (k5.sub sub)).trans (k6.sub sub)).step0 k7⟩
        rintro s ⟨⟩
        refine ⟨⟨⟨⟨o5, by omega⟩, o6, by omega⟩, n5, n6⟩, rfl, ?_, ?_⟩
        · show t * 0 ≤ l.h - l.h
          omega
        · show t * 1 ≤ l.c - (l.c - t)
          omega
      · exact ⟨_, none, m + 1 + 1, l, rfl, mk_tup (k3.tup _ _ a2) trs_nil, (fun s z => nomatch z), ⟨ln1, ln2, ln3, ln4⟩, rfl, rfl, Int.le_refl _, Int.le_refl _, by omega, by omega, g3, k13⟩
  · rintro σ3 H3 ⟨⟨tv, o, m3, l3, rfl, t3, ho, ln3', lp3, lw3, lh3, lc3, ml3, mu3, g3, k3⟩⟩
    walk_at "go"
    intro u4 H4 hu4 e4
    have k4 := new_kp hu4 e4
    have a4 := new_at e4
    have t4 := k4.tr t3
    have g4 := g3.kp0 k4
    have k34 := k3.step0 k4
    have tn4 : Tr H4 (.tuple []) (.ref u4) := mk_tup a4 trs_nil
    cases o with
    | none =>
      refine ⟨_, _, t4, tn4, shaped_nil, shaped_nil, _, rfl, ?_⟩
      have ee : (!PyData.eqv (tD none) (.tuple [])) = false := by simp [tD, PyData.eqv, PyData.eqvAll]
      rw [ee]
      refine iteF ?_
      refine ⟨0, rfl, by omega, by omega, ⟨for_range (lo := 0) (n := 0) (fun i σ H5 => Lp (∃ w6, σ = [some (.ref a), some (.ref nm), some (.ref lf), some (.int t), some (.int (r - 2)), some tv, w6] ∧ H5 = H4)) ⟨_, rfl, rfl⟩ (fun i σ H5 hi => absurd hi (Nat.not_lt_zero i)) ?_⟩⟩
      rintro σ H5 ⟨⟨w6, rfl, rfl⟩⟩
      walk_at "go"
      exact q tv none H5 m3 l3 t4 (fun s z => nomatch z) ln3' lp3 lw3 lh3 lc3 (by omega) mu3 g4 k34
    | some ts =>
      obtain ⟨⟨h1, hn1⟩, h2, h3, h4⟩ := ho ts rfl
      refine ⟨_, _, t4, tn4, Ts.shaped h1 (by omega), shaped_nil, _, rfl, ?_⟩
      have ee : (!PyData.eqv (tD (some ts)) (.tuple [])) = true := by
        show (!PyData.eqv ts.d (.tuple [])) = true
        rw [Ts.ne0]
        rfl
      rw [ee]
      refine iteT ?_
      have ex : ∃ j : Nat, (if r - 2 > 0 then r - 2 else 0) = (j : Int) ∧ j ≤ 2 := by
        split
        · exact ⟨(r - 2).toNat, by omega, by omega⟩
        · exact ⟨0, rfl, by omega⟩
      obtain ⟨j, ej, hj⟩ := ex
      refine ⟨_, rfl, 0, r - 2, rfl, ?_⟩
      show ∃ i, _
      rw [ej]
      refine ⟨(j : Int), rfl, by omega, by omega, ⟨for_range (lo := 0) (n := j) (fun i σ H5 => Lp (∃ (v5 : V) (w6 : Option V), σ = [some (.ref a), some (.ref nm), some (.ref lf), some (.int t), some (.int (r - 2)), some v5, w6] ∧ Tr H5 (notN i ts).d v5 ∧ Gs H5 a c nm lf m3 names l3 ∧ Kp [a, c, lf] H H5)) ⟨tv, _, rfl, t4, g4, k34⟩ ?_ ?_⟩⟩
      · rintro i σ H5 hi ⟨⟨v5, w6, rfl, t5, g5, k5⟩⟩
        walk_at "go"
        intro r6 H6 hr6 e6
        have k6 := new_kp hr6 e6
        exact ⟨_, _, rfl, mk_tup (new_at e6) (trs_cons mk_str (trs_cons (k6.tr t5) trs_nil)), g5.kp0 k6, k5.step0 k6⟩
      · rintro σ H5 ⟨⟨v5, w6, rfl, t5, g5, k5⟩⟩
        walk_at "go"
        refine q v5 (some (notN j ts)) H5 m3 l3 t5 ?_ ln3' lp3 lw3 lh3 lc3 (by omega) mu3 g5 k5
        rintro s ⟨⟩
        rw [notN_nots, notN_odd]
        exact ⟨⟨notN_ok h1 j, notN_in hn1 j⟩, by omega, h3, h4⟩
end
end EH
namespace EH
open PySem L2
local macro_rules | `(tactic| walk_at "sd") => `(tactic| first | assumption | ((with_reducible show (_ : Int) ≤ _); omega) | ((with_reducible show (_ : Int) < _); omega) | rfl | exact SqL.of (by assumption) | exact SqT.of (by assumption) | exact atI_nat (j := 0) rfl | exact atI_nat (j := 1) rfl | exact atI_nat (j := 2) rfl | exact atI_nat (j := 3) rfl | exact sz_lit rfl | exact lt_lit rfl | exact pos_lit rfl | exact le_lit rfl | exact Or.inl (SqL.of (by assumption)) | exact ⟨_, SqL.of (by assumption)⟩ | exact ⟨_, SqT.of (by assumption)⟩ | exact Or.inr (SqT.of (by assumption)) | exact ClsV.ty _ | exact TyX.base (TyOf.int _) | exact TyX.base (TyOf.str _) | exact TyX.base (TyOf.tup (by assumption)) | exact kit_ty isi_ss | exact kit_ty isi_is | exact kit_ty isi_ts | exact kit_ty isi_si | exact kit_ty isi_ii | exact kit_ty isi_ti | exact kit_ty isi_st | exact kit_ty isi_it | exact kit_ty isi_tt | exact Or.inl ⟨_, Or.inl (by assumption)⟩ | exact DGet.k (k := Sum.inr _) (by assumption) | exact DGet.k (k := Sum.inl _) (by assumption) | (refine cpow_of ?_; decide) | (refine cmul_of ?_; decide) | (show (_ : Int) ≠ 0; first | decide | omega) | (refine cdivn_of ?_; decide) | exact Or.inl ⟨rfl, _, SqL.of (by assumption)⟩ | omega)
local macro_rules | `(tactic| walk_at "st") => `(tactic| first | (apply Exists.intro) | (refine And.intro ?_ ?_; focus (walk_at "sd")) | (apply Or.inl; apply Exists.intro; refine And.intro ?_ ?_; focus rfl) | (apply Or.inr; apply Exists.intro; refine And.intro ?_ ?_; focus rfl))
local macro_rules | `(tactic| walk_at "go") => `(tactic| repeat (walk_at "st"))
section
variable {P : Program} {w : World} {K : PySem.W.Frag} {mg : Str → Option Value} {base : Heap}
theorem ok_l_row (T : Top K mg) {k : Nat} (G_l_block : FnOk P w K mg base CX0 (2 * k + 7) T.l_block.f T.l_block.fd ["_law_deck_here", "_law_names_here", "_law_left", "_law_times", "_law_depth"] (spBlock k)) :
    FnOk P w K mg base CX0 (2 * k + 8) T.l_row.f T.l_row.fd ["_law_deck_here", "_law_names_here", "_law_left", "_law_times", "_law_depth"] (spRow k) := by
  have G_l_draw : FnOk P w K mg base CX0 1 T.l_draw.f T.l_draw.fd ["_law_deck_here", "_law_many"] spDraw := ok_l_draw T
  have G_l_one : FnOk P w K mg base CX0 2 T.l_one.f T.l_one.fd ["_law_deck_here", "_law_items"] (spOne K) := ok_l_one T
  have G_l_test : FnOk P w K mg base CX0 6 T.l_test.f T.l_test.fd ["_law_deck_here", "_law_names_here", "_law_left", "_law_times"] spTest := ok_l_test T
  have G_l_plain : FnOk P w K mg base CX0 6 T.l_plain.f T.l_plain.fd ["_law_deck_here", "_law_names_here", "_law_left", "_law_times"] spPlain := ok_l_plain T
  refine T.l_row.F.ok sc_l_row (fun vs H Q E h => ?_) (fun cdv A outer s H vs Q E hr h => ?_)
  · obtain ⟨a, c, nm, lf, m, t, depth, names, l, rfl, _⟩ := h
    rfl
  obtain ⟨a, c, nm, lf, m, t, depth, names, l, rfl, g, hm, ln, ht, hd, hd0, q⟩ := h
  have hu64 := hr.units
  refine ⟨_, (pss_cutA (ps_if (PW.pt (pw_or (pt_cmpR op_lt (pe_ix (ix_listK (K := K) rfl) (pv 2) pe_int (fun _ _ => rfl)) pe_int (nomark _)) (pw_or1 (pt_cmpR op_lt (pe_ix (ix_listK (K := K) rfl) (pv 2) pe_int (fun _ _ => rfl)) (pv 3) (nomark _))))) (pss_one (ps_ret (pe_tupA pa_nil))) pss_nil)
      (pss_cons (ps_asg (pe_tupA (pa_cons (pe_op op_sub (pe_ix (ix_listK (K := K) rfl) (pv 2) pe_int (fun _ _ => rfl)) pe_int) (pa_cons (pe_op op_sub (pe_ix (ix_listK (K := K) rfl) (pv 2) pe_int (fun _ _ => rfl)) (pv 3)) pa_nil))) (pg_tup (by rfl) (pgs_cons (pg_sub (pv 2) pe_int set_listA) (pgs_cons (pg_sub (pv 2) pe_int set_listA) pgs_nil))))
      (pss_cons (ps_set (i := 5) sc_l_row.nd rfl (.inl rfl) (pe_call G_l_draw (hr.mono (by omega)) (by rfl) T.l_draw.g T.l_draw.F.kp T.l_draw.b .nil pass0 (pa_cons (pv 0) (pa_cons pe_int pa_nil))))
      (pss_cutA (ps_if (pt_cmpR op_eq (pv 5) pe_int (nomark _)) (pss_cons (ps_set (i := 6) sc_l_row.nd rfl (.inl rfl) (pe_call G_l_test (hr.mono (by omega)) (by rfl) T.l_test.g T.l_test.F.kp T.l_test.b .nil pass0 (pa_cons (pv 0) (pa_cons (pv 1) (pa_cons (pv 2) (pa_cons (pv 3) pa_nil))))))
      (pss_one (ps_if (pt_cmpR (op_neT hu64) (pv 6) (pe_tupA pa_nil) (nomark _)) (pss_cons (ps_set (i := 7) sc_l_row.nd rfl (.inl rfl) (pe_call G_l_block (hr.mono (by omega)) (by rfl) T.l_block.g T.l_block.F.kp T.l_block.b .nil pass0 (pa_cons (pv 0) (pa_cons (pv 1) (pa_cons (pv 2) (pa_cons (pv 3) (pa_cons (pe_op op_add (pv 4) pe_int) pa_nil)))))))
      (pss_cons (ps_set (i := 8) sc_l_row.nd rfl (.inl rfl) (pe_call G_l_block (hr.mono (by omega)) (by rfl) T.l_block.g T.l_block.F.kp T.l_block.b .nil pass0 (pa_cons (pv 0) (pa_cons (pv 1) (pa_cons (pv 2) (pa_cons (pv 3) (pa_cons (pe_op op_add (pv 4) pe_int) pa_nil)))))))
      (pss_one (ps_ret (pe_tupA (pa_cons pe_str (pa_cons (pv 6) (pa_cons (pv 7) (pa_cons (pv 8) pa_nil))))))))) pss_nil))) pss_nil)
      (pss_cons (ps_if (pt_cmpR op_eq (pv 5) pe_int (nomark _)) (pss_cons (ps_set (i := 9) sc_l_row.nd rfl (.inl rfl) (pe_call G_l_one (hr.mono (by omega)) (by rfl) T.l_one.g T.l_one.F.kp T.l_one.b .nil pass0 (pa_cons (pv 0) (pa_cons (pe_lstA (pa_cons pe_int (pa_cons pe_int (pa_cons pe_int (pa_cons pe_int (pa_cons pe_int (pa_cons pe_int (pa_cons pe_int pa_nil)))))))) pa_nil))))
      (pss_cons (ps_set (i := 10) sc_l_row.nd rfl (.inl rfl) (pe_call G_l_block (hr.mono (by omega)) (by rfl) T.l_block.g T.l_block.F.kp T.l_block.b .nil pass0 (pa_cons (pv 0) (pa_cons (pv 1) (pa_cons (pv 2) (pa_cons (pe_op op_mul (pv 3) (pv 9)) (pa_cons (pe_op op_add (pv 4) pe_int) pa_nil)))))))
      (pss_one (ps_ret (pe_tupA (pa_cons pe_str (pa_cons (pv 9) (pa_cons (pv 10) pa_nil)))))))) pss_nil)
      (pss_one (ps_ret (pe_call G_l_plain (hr.mono (by omega)) (by rfl) T.l_plain.g T.l_plain.F.kp T.l_plain.b .nil pass0 (pa_cons (pv 0) (pa_cons (pv 1) (pa_cons (pv 2) (pa_cons (pv 3) pa_nil)))))))))))), ?_⟩
  have cn := costB_nn k
  have cr : costR k = 110 + 2 * costB k := rfl
  have lf0 := g.lft
  have sub : ∀ b, b ∈ [a, c] → b ∈ [a, c, lf] := by
    intro b hb
    simp only [List.mem_cons, List.not_mem_nil, or_false] at hb ⊢
    rcases hb with h | h
    · exact .inl h
    · exact .inr (.inl h)
  -- nothing is left
  have out : ∀ (r : Addr) (H1 : Hp), H1 r = some (.tup []) → Kp [] H H1 → Q (.ref r) H1 := fun r H1 a1 k1 => q _ none H1 m l (mk_tup a1 trs_nil) (fun s z => nomatch z) (fun _ => rfl) ln (Int.le_refl _) (by omega) (g.kp0 k1) (k1.sub (by simp))
  refine ⟨⟨fun σ1 H1 => Lp (σ1 = [some (.ref a), some (.ref nm), some (.ref lf), some (.int t), some (.int depth), none, none, none, none, none, none] ∧ H1 = H ∧ 1 ≤ l.p ∧ t ≤ l.w), ?_, ?_⟩⟩
  · walk_at "go"
    refine ite2 (fun hc => ?_) (fun hc => ?_)
    · walk_at "go"
      intro r H1 hr1 e1
      exact out r H1 (new_at e1) (new_kp hr1 e1)
    · have hc1 : ¬ l.p < 1 := of_decide_eq_false (Bool.eq_false_iff.mpr hc)
      walk_at "go"
      refine ite2 (fun he => ?_) (fun he => ?_)
      · walk_at "go"
        intro r H1 hr1 e1
        exact out r H1 (new_at e1) (new_kp hr1 e1)
      · have he1 : ¬ l.w < t := of_decide_eq_false (Bool.eq_false_iff.mpr he)
        exact ⟨rfl, rfl, by omega, by omega⟩
  · rintro σ1 H1 ⟨⟨rfl, rfl, hp1, hw1⟩⟩
    obtain ⟨ln1, ln2, ln3, ln4⟩ := ln
    walk_at "go"
    intro u2 H2 hu2 e2
    have k2 := new_kp hu2 e2
    have a2 := new_at e2
    have g2 := g.kp0 k2
    have lf2 := g2.lft
    walk_at "go"
    intro H3 lf3 k3
    replace lf3 : H3 lf = some (.lst (Lf.vs ⟨l.p - 1, l.w, l.h, l.c⟩)) := lf3
    have g3 := g2.left lf3 k3
    walk_at "go"
    intro H4 lf4 k4
    replace lf4 : H4 lf = some (.lst (Lf.vs ⟨l.p - 1, l.w - t, l.h, l.c⟩)) := lf4
    have g4 := g3.left lf4 k4
    have k14 : Kp [a, c, lf] H1 H4 := ((k2.sub (by simp)).trans (k3.sub (by simp))).trans (k4.sub (by simp))
    have dk4 := g4.dk
    have hm4 : m ≤ MANY := by show m ≤ 1000000000; omega
    have took1 : Took t 1 1 0 0 l ⟨l.p - 1, l.w - t, l.h, l.c⟩ := ⟨by show ((1 : Nat) : Int) ≤ l.p - (l.p - 1); omega, by show t * ((1 : Nat) : Int) ≤ l.w - (l.w - t); omega, by simp, by simp⟩
    walk_at "go"
    intro r H5 r0 r1 D5 k5
    have g5 := g4.drawn D5 k5
    have k15 := k14.trans (k5.sub sub)
    have hm5 : m + 1 ≤ 800000000 := by omega
    walk_at "go"
    refine ⟨⟨fun σ6 H6 => Lp (∃ (w6 w7 w8 : Option V) (m6 : Int) (l6 : Lf), σ6 = [some (.ref a), some (.ref nm), some (.ref lf), some (.int t), some (.int depth), some (.int r), w6, w7, w8, none, none] ∧ Took t 1 1 0 0 l l6 ∧ l6.nn ∧ m + 1 ≤ m6 ∧ m6 ≤ m + 51 ∧ Gs H6 a c nm lf m6 names l6 ∧ Kp [a, c, lf] H1 H6), ?_, ?_⟩⟩
    · have ln5 : Lf.nn ⟨l.p - 1, l.w - t, l.h, l.c⟩ := ⟨by show 0 ≤ l.p - 1; omega, by show 0 ≤ l.w - t; omega, ln3, ln4⟩
      walk_at "go"
      refine ite2 (fun hc => ?_) (fun hc => ⟨_, _, _, m + 1, _, rfl, took1, ln5, by omega, by omega, g5, k15⟩)
      walk_at "go"
      intro v6 o6 H6 m6 l6 t6 h6 ln6 lp6 lw6 lh6 lc6 ml6 mu6 g6 k6
      have k16 := k15.trans k6
      walk_at "go"
      intro u7 H7 hu7 e7
      have k7 := new_kp hu7 e7
      have a7 := new_at e7
      have t7 := k7.tr t6
      have g7 := g6.kp0 k7
      have tn7 : Tr H7 (.tuple []) (.ref u7) := mk_tup a7 trs_nil
      cases o6 with
      | none =>
        refine ⟨_, _, t7, tn7, shaped_nil, shaped_nil, _, rfl, ?_⟩
        have ee : (!PyData.eqv (tD none) (.tuple [])) = false := by simp [tD, PyData.eqv, PyData.eqvAll]
        rw [ee]
        refine iteF ?_
        have tk : Took t 1 1 0 0 l l6 := by
          have h1 := took1.p
          have h2 := took1.w
          have lp6' : l6.p = l.p - 1 := lp6
          have lw6' : l6.w = l.w - t := lw6
          have lh6' : l6.h ≤ l.h := lh6
          have lc6' : l6.c ≤ l.c := lc6
          exact ⟨by rw [lp6']; exact h1, by rw [lw6']; exact h2, by simp; exact lh6', by simp; exact lc6'⟩
        exact ⟨_, _, _, m6, l6, rfl, tk, ln6, by omega, by omega, g7, k16.step0 k7⟩
      | some ts =>
        obtain ⟨⟨o1, n1⟩, o2, o3, o4⟩ := h6 ts rfl
        refine ⟨_, _, t7, tn7, Ts.shaped o1 o2, shaped_nil, _, rfl, ?_⟩
        have ee : (!PyData.eqv (tD (some ts)) (.tuple [])) = true := by
          show (!PyData.eqv ts.d (.tuple [])) = true
          rw [Ts.ne0]
          rfl
        rw [ee]
        refine iteT ?_
        have took2 : Took t 0 0 (if ts.isOdd then 1 else 0) (if ts.isOdd then 0 else 1) ⟨l.p - 1, l.w - t, l.h, l.c⟩ l6 := by
          have lp6' : l6.p = l.p - 1 := lp6
          have lw6' : l6.w = l.w - t := lw6
          refine ⟨?_, ?_, ?_, ?_⟩
          · show ((0 : Nat) : Int) ≤ l.p - 1 - l6.p
            omega
          · show t * ((0 : Nat) : Int) ≤ l.w - t - l6.w
            simp
            omega
          · cases hod : ts.isOdd <;> (rw [hod] at o3; simpa using o3)
          · cases hod : ts.isOdd <;> (rw [hod] at o4; simpa using o4)
        have dd1 : depth + 1 = 4 - (k : Int) := by omega
        have hm7 : m6 + costB k ≤ 700000000 := by omega
        walk_at "go"
        intro v8 b8 H8 m8 l8 t8 bo8 ln8 ml8 mu8 g8 k8
        have hm8 : m8 + costB k ≤ 700000000 := by omega
        walk_at "go"
        intro v9 b9 H9 m9 l9 t9 bo9 ln9 ml9 mu9 g9 k9
        walk_at "go"
        intro r10 H10 hr10 e10
        have k10 := new_kp hr10 e10
        refine q _ (some (.ite ts b8 b9)) H10 m9 l9 (mk_tup (new_at e10) (trs_cons mk_str (trs_cons (k10.tr (k9.tr (k8.tr t7))) (trs_cons (k10.tr (k9.tr t8)) (trs_cons (k10.tr t9) trs_nil))))) ?_ (fun z => nomatch z) ln9 (by omega) (by omega) (g9.kp0 k10) ((((k16.step0 k7).trans k8).trans k9).step0 k10)
        rintro s ⟨⟩
        refine ⟨by simp only [Sm.ok]; exact ⟨o1, o2, bo8.ok, bo9.ok⟩, by simp only [Sm.inN]; exact ⟨n1, bo8.inn, bo9.inn⟩, ?_, ((took1.add took2).add (bo8.took.add bo9.took)).of ?_ ?_ ?_ ?_⟩
        · have z8 := bo8.nest
          have z9 := bo9.nest
          simp only [Sm.nest]
          rcases z8 with rfl | z8 <;> rcases z9 with rfl | z9 <;> (try simp only [Sm.nests]) <;> omega
        · simp only [Sm.pl]
        · simp only [Sm.wt]
        · simp only [Sm.hv]; omega
        · simp only [Sm.cp]; omega
    · rintro σ6 H6 ⟨⟨w6, w7, w8, m6, l6, rfl, took6, ln6, ml6, mu6, g6, k6⟩⟩
      have dk6 := g6.dk
      have hm6 : m6 ≤ MANY := by show m6 ≤ 1000000000; omega
      have hm6' : m6 ≤ 800000000 := by omega
      walk_at "go"
      refine ite2 (fun hc => ?_) (fun hc => ?_)
      · walk_at "go"
        intro l7 H7 hl7 e7
        have k7 := new_kp hl7 e7
        have a7 := new_at e7
        have g7 := g6.kp0 k7
        have dk7 := g7.dk
        have off7 := dk6.off hl7
        walk_at "go"
        intro x H8 hx D8 k8
        have hx2 : x ∈ ([0, 1, 2, 2, 3, 5, 8] : List Int).map V.int := hx
        obtain ⟨i, rfl, i0, i1⟩ := mem_ints (P := fun i => 0 ≤ i ∧ i ≤ 8) hx2 (by
          intro i hi
          simp only [List.mem_cons, List.not_mem_nil, or_false] at hi
          omega)
        obtain ⟨n8, rfl⟩ : ∃ n8 : Nat, i = (n8 : Int) := ⟨i.toNat, by omega⟩
        have g8 := g7.drawn D8 k8
        have cm : CMul t (n8 : Int) := .inr ⟨by omega, by omega⟩
        have tn : 0 ≤ t * (n8 : Int) := Int.mul_nonneg ht i0
        have dd1 : depth + 1 = 4 - (k : Int) := by omega
        have hm8 : m6 + 1 + costB k ≤ 700000000 := by omega
        walk_at "go"
        intro v9 b9 H9 m9 l9 t9 bo9 ln9 ml9 mu9 g9 k9
        walk_at "go"
        intro r10 H10 hr10 e10
        have k10 := new_kp hr10 e10
        refine q _ (some (.rep n8 b9)) H10 m9 l9 (mk_tup (new_at e10) (trs_cons mk_str (trs_cons mk_int (trs_cons (k10.tr t9) trs_nil)))) ?_ (fun z => nomatch z) ln9 (by omega) (by omega) (g9.kp0 k10) ((((k6.step0 k7).trans (k8.sub sub)).trans k9).step0 k10)
        rintro s ⟨⟩
        refine ⟨by simp only [Sm.ok]; exact ⟨by omega, bo9.ok⟩, by simp only [Sm.inN]; exact bo9.inn, ?_, (took6.add bo9.took.rep).of ?_ ?_ ?_ ?_⟩
        · have z9 := bo9.nest
          simp only [Sm.nest]
          rcases z9 with rfl | z9
          · simp only [Sm.nests]; omega
          · omega
        · simp only [Sm.pl]
        · simp only [Sm.wt]
        · simp only [Sm.hv]; omega
        · simp only [Sm.cp]; omega
      · walk_at "go"
        intro v7 s7 H7 m7 l7 t7 o7 n7 p7 hv7 ln7 lp7 lw7 lh7 lc7 ml7 mu7 g7 k7
        refine q v7 (some s7) H7 m7 l7 t7 ?_ (fun z => nomatch z) ln7 (by omega) (by omega) g7 (k6.trans k7)
        rintro s ⟨⟩
        have tk7 : Took t 0 0 s7.hv 0 l6 l7 := ⟨by rw [lp7]; simp, by rw [lw7]; simp, hv7, by rw [lc7]; simp⟩
        have e1 : s7.pl = 1 := by cases s7 <;> first | rfl | exact absurd p7 id
        have e2 : s7.wt = 1 := by cases s7 <;> first | rfl | exact absurd p7 id
        have e3 : s7.cp = 0 := by cases s7 <;> first | rfl | exact absurd p7 id
        have e4 : s7.nest = 0 := by cases s7 <;> first | rfl | exact absurd p7 id
        exact ⟨o7, n7, by rw [e4]; simp; omega, (took6.add tk7).of e1.symm e2.symm (by omega) e3.symm⟩
end
end EH
namespace EH
open PySem L2
local macro_rules | `(tactic| walk_at "sd") => `(tactic| first | assumption | ((with_reducible show (_ : Int) ≤ _); omega) | ((with_reducible show (_ : Int) < _); omega) | rfl | exact SqL.of (by assumption) | exact SqT.of (by assumption) | exact atI_nat (j := 0) rfl | exact atI_nat (j := 1) rfl | exact atI_nat (j := 2) rfl | exact atI_nat (j := 3) rfl | exact sz_lit rfl | exact lt_lit rfl | exact pos_lit rfl | exact le_lit rfl | exact Or.inl (SqL.of (by assumption)) | exact ⟨_, SqL.of (by assumption)⟩ | exact ⟨_, SqT.of (by assumption)⟩ | exact Or.inr (SqT.of (by assumption)) | exact ClsV.ty _ | exact TyX.base (TyOf.int _) | exact TyX.base (TyOf.str _) | exact TyX.base (TyOf.tup (by assumption)) | exact kit_ty isi_ss | exact kit_ty isi_is | exact kit_ty isi_ts | exact kit_ty isi_si | exact kit_ty isi_ii | exact kit_ty isi_ti | exact kit_ty isi_st | exact kit_ty isi_it | exact kit_ty isi_tt | exact Or.inl ⟨_, Or.inl (by assumption)⟩ | exact DGet.k (k := Sum.inr _) (by assumption) | exact DGet.k (k := Sum.inl _) (by assumption) | (refine cpow_of ?_; decide) | (refine cmul_of ?_; decide) | (show (_ : Int) ≠ 0; first | decide | omega) | (refine cdivn_of ?_; decide) | exact Or.inl ⟨rfl, _, SqL.of (by assumption)⟩ | omega)
local macro_rules | `(tactic| walk_at "st") => `(tactic| first | (apply Exists.intro) | (refine And.intro ?_ ?_; focus (walk_at "sd")) | (apply Or.inl; apply Exists.intro; refine And.intro ?_ ?_; focus rfl) | (apply Or.inr; apply Exists.intro; refine And.intro ?_ ?_; focus rfl))
local macro_rules | `(tactic| walk_at "go") => `(tactic| repeat (walk_at "st"))
section
variable {P : Program} {w : World} {K : PySem.W.Frag} {mg : Str → Option Value} {base : Heap}
theorem ok_l_block0 (T : Top K mg) {n : Nat} : FnOk P w K mg base CX0 (n + 2) T.l_block.f T.l_block.fd ["_law_deck_here", "_law_names_here", "_law_left", "_law_times", "_law_depth"] (spBlock 0) := by
  have G_l_draw : FnOk P w K mg base CX0 1 T.l_draw.f T.l_draw.fd ["_law_deck_here", "_law_many"] spDraw := ok_l_draw T
  have G_l_row : FnOk P w K mg base CX0 0 T.l_row.f T.l_row.fd ["_law_deck_here", "_law_names_here", "_law_left", "_law_times", "_law_depth"] (fun _ _ _ _ => False) := fn_no (fun _ _ _ _ h => h)
  refine T.l_block.F.ok sc_l_block (fun vs H Q E h => ?_) (fun cdv A outer s H vs Q E hr h => ?_)
  · obtain ⟨a, c, nm, lf, m, t, depth, names, l, rfl, _⟩ := h
    rfl
  obtain ⟨a, c, nm, lf, m, t, depth, names, l, rfl, g, hm, ln, ht, hd, hd0, q⟩ := h
  have hu64 := hr.units
  refine ⟨_, (pss_cons (ps_if (pt_cmpR op_gt (pv 4) pe_int (nomark _)) (pss_one (ps_ret (pe_tupA pa_nil))) pss_nil)
      (pss_cons (ps_par (i := 5) (j := 6) (by rfl) sc_l_block.nd rfl rfl (by decide) rfl rfl (pa_cons (pe_op op_add (pe_call G_l_draw (hr.mono (by omega)) (by rfl) T.l_draw.g T.l_draw.F.kp T.l_draw.b .nil pass0 (pa_cons (pv 0) (pa_cons pe_int pa_nil))) (pe_callTy (T := "int") call_int1 (by rfl) T.int (by decide +kernel) (pa_cons (pe_cmpR op_eq (pv 4) pe_int (nomark _)) pa_nil))) (pa_cons (pe_lstA pa_nil) pa_nil)) (by rfl))
      (pss_cons (ps_forA (ps_for PassesOwn.never rfl (pi_range1 (by rfl) T.range (pa_cons (pv 5) pa_nil)) (pg_name (i := 7) sc_l_block.nd rfl (.inl rfl)) (pss_one (ps_expr (pe_bmK (K := K) rfl PySem.F.plainAttrs_list PySem.F.slot_list_append PySem.F.type_list_append mt_appendA (pv 6) (pa_cons (pe_call G_l_row (hr.mono (by omega)) (by rfl) T.l_row.g T.l_row.F.kp T.l_row.b .nil pass0 (pa_cons (pv 0) (pa_cons (pv 1) (pa_cons (pv 2) (pa_cons (pv 3) (pa_cons (pv 4) pa_nil)))))) pa_nil))))))
      (pss_one (ps_ret (pe_callTy (T := "tuple") (call_tupleK (K := K) rfl) (by rfl) T.tuple (by decide +kernel) (pa_cons (pe_lc (own := [("_law_row_here", 8)]) (by rfl) sc_l_block.nd (pi_listK (K := K) rfl (pv 6)) (blkOk_by (N := ["_law_deck_here", "_law_names_here", "_law_left", "_law_times", "_law_depth", "_law_many", "_law_rows", "_law_k", "_law_row_here"]) (sc := defScope s_l_block) (own := [("_law_row_here", 8)]) (by decide +kernel)) (fun _ _ _ _ _ => (pg_name (i := 8) sc_l_block.nd rfl (.inl rfl))) (fun _ _ _ _ _ => (pts_one (pt_cmpR (op_neT hu64) (pv 8) (pe_tupA pa_nil) (nomark _)))) (fun _ _ _ _ _ => (pv 8))) pa_nil))))))), ?_⟩
  walk_at "go"
  have hd4 : (decide (3 < depth)) = true := decide_eq_true (by omega)
  rw [hd4]
  refine iteT ?_
  walk_at "go"
  intro r H1 hr1 e1
  have k1 := new_kp hr1 e1
  exact q _ [] H1 m l (mk_tup (new_at e1) (by simp only [Sm.ds]; exact trs_nil)) BOk.nil ln (Int.le_refl _) (by simp only [costB]; omega) (g.kp0 k1) (k1.sub (by simp))
theorem ok_l_block1 (T : Top K mg) {k : Nat} (G_l_row : FnOk P w K mg base CX0 (2 * k + 8) T.l_row.f T.l_row.fd ["_law_deck_here", "_law_names_here", "_law_left", "_law_times", "_law_depth"] (spRow k)) :
    FnOk P w K mg base CX0 (2 * k + 9) T.l_block.f T.l_block.fd ["_law_deck_here", "_law_names_here", "_law_left", "_law_times", "_law_depth"] (spBlock (k + 1)) := by
  have G_l_draw : FnOk P w K mg base CX0 1 T.l_draw.f T.l_draw.fd ["_law_deck_here", "_law_many"] spDraw := ok_l_draw T
  refine T.l_block.F.ok sc_l_block (fun vs H Q E h => ?_) (fun cdv A outer s H vs Q E hr h => ?_)
  · obtain ⟨a, c, nm, lf, m, t, depth, names, l, rfl, _⟩ := h
    rfl
  obtain ⟨a, c, nm, lf, m, t, depth, names, l, rfl, g, hm, ln, ht, hd, hd0, q⟩ := h
  have hu64 := hr.units
  refine ⟨_, (pss_cons (ps_if (pt_cmpR op_gt (pv 4) pe_int (nomark _)) (pss_one (ps_ret (pe_tupA pa_nil))) pss_nil)
      (pss_cons (ps_par (i := 5) (j := 6) (by rfl) sc_l_block.nd rfl rfl (by decide) rfl rfl (pa_cons (pe_op op_add (pe_call G_l_draw (hr.mono (by omega)) (by rfl) T.l_draw.g T.l_draw.F.kp T.l_draw.b .nil pass0 (pa_cons (pv 0) (pa_cons pe_int pa_nil))) (pe_callTy (T := "int") call_int1 (by rfl) T.int (by decide +kernel) (pa_cons (pe_cmpR op_eq (pv 4) pe_int (nomark _)) pa_nil))) (pa_cons (pe_lstA pa_nil) pa_nil)) (by rfl))
      (pss_cons (ps_forA (ps_for PassesOwn.never rfl (pi_range1 (by rfl) T.range (pa_cons (pv 5) pa_nil)) (pg_name (i := 7) sc_l_block.nd rfl (.inl rfl)) (pss_one (ps_expr (pe_bmK (K := K) rfl PySem.F.plainAttrs_list PySem.F.slot_list_append PySem.F.type_list_append mt_appendA (pv 6) (pa_cons (pe_call G_l_row (hr.mono (by omega)) (by rfl) T.l_row.g T.l_row.F.kp T.l_row.b .nil pass0 (pa_cons (pv 0) (pa_cons (pv 1) (pa_cons (pv 2) (pa_cons (pv 3) (pa_cons (pv 4) pa_nil)))))) pa_nil))))))
      (pss_one (ps_ret (pe_callTy (T := "tuple") (call_tupleK (K := K) rfl) (by rfl) T.tuple (by decide +kernel) (pa_cons (pe_lc (own := [("_law_row_here", 8)]) (by rfl) sc_l_block.nd (pi_listK (K := K) rfl (pv 6)) (blkOk_by (N := ["_law_deck_here", "_law_names_here", "_law_left", "_law_times", "_law_depth", "_law_many", "_law_rows", "_law_k", "_law_row_here"]) (sc := defScope s_l_block) (own := [("_law_row_here", 8)]) (by decide +kernel)) (fun _ _ _ _ _ => (pg_name (i := 8) sc_l_block.nd rfl (.inl rfl))) (fun _ _ _ _ _ => (pts_one (pt_cmpR (op_neT hu64) (pv 8) (pe_tupA pa_nil) (nomark _)))) (fun _ _ _ _ _ => (pv 8))) pa_nil))))))), ?_⟩
  have cn := costB_nn k
  have cr : costR k = 110 + 2 * costB k := rfl
  have cb : costB (k + 1) = 1 + 4 * costR k := rfl
  have dk := g.dk
  have hmM : m ≤ MANY := by show m ≤ 1000000000; omega
  have sub : ∀ b, b ∈ [a, c] → b ∈ [a, c, lf] := by
    intro b hb
    simp only [List.mem_cons, List.not_mem_nil, or_false] at hb ⊢
    rcases hb with h | h
    · exact .inl h
    · exact .inr (.inl h)
  walk_at "go"
  have hd4 : (decide (3 < depth)) = false := decide_eq_false (by omega)
  rw [hd4]
  refine iteF ?_
  walk_at "go"
  intro r H1 r0 r1 D1 k1
  have g1 := g.drawn D1 k1
  walk_at "go"
  intro rl H2 hl e2
  have k2 := new_kp hl e2
  have a2 := new_at e2
  have g2 := g1.kp0 k2
  have kH2 := (k1.sub sub).step0 k2
  have offl : rl ∉ [a, c, lf] := by
    have o1 := D1.off hl
    have o2 := ne_of_none g1.lft hl
    simp only [List.mem_cons, List.not_mem_nil, or_false, not_or] at o1 ⊢
    exact ⟨o1.1, o1.2, fun z => o2 z.symm⟩
  generalize hz : (if decide (V.int depth = V.int 0) = true then (1 : Int) else 0) = z
  have hz2 : 0 ≤ z ∧ z ≤ 1 := by
    rw [← hz]
    split <;> omega
  clear hz
  walk_at "go"
  refine ⟨for_range (lo := 0) (n := (r + z).toNat) (fun i σ H3 => Lp (∃ (w7 : Option V) (vs : List V) (os : List (Option Sm)) (m3 : Int) (l3 : Lf), σ = [some (.ref a), some (.ref nm), some (.ref lf), some (.int t), some (.int depth), some (.int (r + z)), some (.ref rl), w7, none] ∧ H3 rl = some (.lst vs) ∧ TrAll H3 (os.map rD) vs ∧ os.length = i ∧ (∀ o ∈ os, SeqAt.shaped (rD o) = true) ∧ BOk names t depth l l3 (smsOf os) ∧ l3.nn ∧ m + 1 ≤ m3 ∧ m3 ≤ m + 1 + (i : Int) * costR k ∧ Gs H3 a c nm lf m3 names l3 ∧ Kp [a, c, lf] H H3)) ⟨_, [], [], m + 1, l, rfl, a2, trs_nil, rfl, (fun o h => nomatch h), BOk.nil, ln, by omega, by simp, g2, kH2⟩ ?_ ?_⟩
  · rintro i σ H3 hi ⟨⟨w7, vs, os, m3, l3, rfl, a3, t3, lo3, sh3, bo3, ln3, ml3, mu3, g3, k3⟩⟩
    have hi4 : i < 4 := by omega
    have ci : m3 + costR k ≤ m + 1 + ((i + 1 : Nat) : Int) * costR k := by
      rw [Int.natCast_add, Int.add_mul]
      omega
    have c4 : ((i + 1 : Nat) : Int) * costR k ≤ 4 * costR k := Int.mul_le_mul_of_nonneg_right (by omega) (by omega)
    have hm3 : m3 + costR k ≤ 700000000 := by omega
    have hd3 : depth = 3 - (k : Int) := by omega
    walk_at "go"
    intro v4 o4 H4 m4 l4 t4 ho4 hn4 ln4 ml4 mu4 g4 k4
    have a4 := k4.keep _ _ a3 offl
    have lv : vs.length < sizeLine := by
      rw [t3.length, List.length_map]
      exact sz_lt (by omega)
    walk_at "go"
    intro H5 a5 k5
    have g5 := g1.kpF hl g4 k5
    have k35 := (k3.trans k4).step1 k5 (.inr (k1.free hl (D1.off hl)))
    refine ⟨_, _, os ++ [o4], m4, l4, rfl, a5, ?_, by rw [List.length_append, lo3]; rfl, ?_, ?_, ln4, by omega, by omega, g5, k35⟩
    · rw [List.map_append]
      exact (k5.trAll (k4.trAll t3)).append (trs_cons (k5.tr t4) trs_nil)
    · intro o ho
      rcases List.mem_append.mp ho with h | h
      · exact sh3 o h
      · cases List.mem_singleton.mp h
        exact rD_shaped hd0 ho4
    · rw [smsOf_app]
      cases o4 with
      | none =>
        cases hn4 rfl
        exact bo3.cat BOk.nil
      | some s => exact bo3.cat (BOk.one (ho4 s rfl))
  · rintro σ H3 ⟨⟨w7, vs, os, m3, l3, rfl, a3, t3, lo3, sh3, bo3, ln3, ml3, mu3, g3, k3⟩⟩
    walk_at "go"
    intro D hD
    refine lc_list (K := K) (a := rl) (xs := vs) (fun i H4 => Kp [D] H3 H4 ∧ ∃ ws, H4 D = some (.lst ws) ∧ TrAll H4 (Sm.ds (smsOf (os.take i))) ws ∧ ws.length ≤ i) ⟨(Kp.new hD).sub (by simp), [], upd_same, by simp only [List.take_zero, smsOf, Sm.ds]; exact trs_nil, Nat.le_refl _⟩ ?_ ?_ ?_
    · rintro i H4 _ ⟨k4, _⟩
      exact SqL.of (k4.keep _ _ a3 (ne1 (ne_of_none a3 hD)))
    · rintro i x H4 hx ⟨k4, ws, d4, t4, l4⟩
      have hi : i < os.length := by
        obtain ⟨h, _⟩ := List.getElem?_eq_some_iff.mp hx
        rw [t3.length, List.length_map] at h
        exact h
      have ho : os[i]? = some os[i] := List.getElem?_eq_getElem hi
      obtain ⟨v, hv, tv⟩ := t3.get (i := i) (d := rD os[i]) (by rw [List.getElem?_map, ho]; rfl)
      rw [hx] at hv
      cases hv
      have sh := sh3 os[i] (List.getElem_mem hi)
      have tk : os.take (i + 1) = os.take i ++ [os[i]] := by rw [List.take_add_one, ho]; rfl
      walk_at "go"
      intro u5 H5 hu5 e5
      have k5 := new_kp hu5 e5
      have a5 := new_at e5
      have t5 := k5.tr (k4.tr tv)
      have tn5 : Tr H5 (.tuple []) (.ref u5) := mk_tup a5 trs_nil
      refine ⟨_, _, t5, tn5, sh, shaped_nil, _, rfl, ?_⟩
      generalize os[i] = o at sh tk t5 
      cases o with
      | none =>
        have ee : (!PyData.eqv (rD none) (.tuple [])) = false := by simp [rD, PyData.eqv, PyData.eqvAll]
        rw [ee]
        refine iteF ?_
        refine ⟨k4.step0 k5, ws, k5.at d4, ?_, by omega⟩
        rw [tk, smsOf_app]
        show TrAll H5 (Sm.ds (smsOf (os.take i) ++ [])) ws
        rw [List.append_nil]
        exact k5.trAll t4
      | some s =>
        have ee : (!PyData.eqv (rD (some s)) (.tuple [])) = true := by
          show (!PyData.eqv s.d (.tuple [])) = true
          rw [Sm.ne0]
          rfl
        rw [ee]
        refine iteT ?_
        have d5 := k5.at d4
        have lw : ws.length < sizeLine := sz_lt (by omega)
        walk_at "go"
        have k6 := Kp.put (u := .lst (ws ++ [x])) d5 (fun _ y => by cases y)
        refine ⟨(k4.step0 k5).step1 k6 (.inl (by simp)), _, upd_same, ?_, by rw [List.length_append]; exact Nat.add_le_add_right l4 1⟩
        rw [tk, smsOf_app]
        show TrAll _ (Sm.ds (smsOf (os.take i) ++ [s])) _
        rw [Sm.ds_app]
        exact (k6.trAll (k5.trAll t4)).append (by simp only [Sm.ds]; exact trs_cons (k6.tr t5) trs_nil)
    · rintro H4 ⟨k4, ws, d4, t4, l4⟩
      rw [t3.length, List.length_map, List.take_length] at t4
      walk_at "go"
      intro r5 H5 hr5 a5 k5
      have c4 : ((r + z).toNat : Int) * costR k ≤ 4 * costR k := Int.mul_le_mul_of_nonneg_right (by omega) (by omega)
      refine q _ (smsOf os) H5 m3 l3 (mk_tup a5 (k5.trAll t4)) bo3 ln3 (by omega) (by omega) ((g3.kpF hD g3 k4).kp0 k5) ((k3.step1 k4 (.inr ?_)).step0 k5)
      have oD : D ∉ [a, c, lf] := by
        have o1 := g3.dk.off hD
        have o2 := ne_of_none g3.lft hD
        simp only [List.mem_cons, List.not_mem_nil, or_false, not_or] at o1 ⊢
        exact ⟨o1.1, o1.2, fun z => o2 z.symm⟩
      exact k3.free hD oD
theorem ok_l_rows (T : Top K mg) : ∀ k : Nat, FnOk P w K mg base CX0 (2 * k + 7) T.l_block.f T.l_block.fd ["_law_deck_here", "_law_names_here", "_law_left", "_law_times", "_law_depth"] (spBlock k)
  | 0 => ok_l_block0 T
  | k + 1 => ok_l_block1 T (ok_l_row T (ok_l_rows T k))
theorem ok_l_block (T : Top K mg) : FnOk P w K mg base CX0 15 T.l_block.f T.l_block.fd ["_law_deck_here", "_law_names_here", "_law_left", "_law_times", "_law_depth"] (spBlock 4) := ok_l_rows T 4
end
end EH
namespace EH
open PySem L2
local macro_rules | `(tactic| walk_at "sd") => `(tactic| first | assumption | ((with_reducible show (_ : Int) ≤ _); omega) | ((with_reducible show (_ : Int) < _); omega) | rfl | exact SqL.of (by assumption) | exact SqT.of (by assumption) | exact atI_nat (j := 0) rfl | exact atI_nat (j := 1) rfl | exact atI_nat (j := 2) rfl | exact atI_nat (j := 3) rfl | exact sz_lit rfl | exact lt_lit rfl | exact pos_lit rfl | exact le_lit rfl | exact Or.inl (SqL.of (by assumption)) | exact ⟨_, SqL.of (by assumption)⟩ | exact ⟨_, SqT.of (by assumption)⟩ | exact Or.inr (SqT.of (by assumption)) | exact ClsV.ty _ | exact TyX.base (TyOf.int _) | exact TyX.base (TyOf.str _) | exact TyX.base (TyOf.tup (by assumption)) | exact kit_ty isi_ss | exact kit_ty isi_is | exact kit_ty isi_ts | exact kit_ty isi_si | exact kit_ty isi_ii | exact kit_ty isi_ti | exact kit_ty isi_st | exact kit_ty isi_it | exact kit_ty isi_tt | exact Or.inl ⟨_, Or.inl (by assumption)⟩ | exact DGet.k (k := Sum.inr _) (by assumption) | exact DGet.k (k := Sum.inl _) (by assumption) | (refine cpow_of ?_; decide) | (refine cmul_of ?_; decide) | (show (_ : Int) ≠ 0; first | decide | omega) | (refine cdivn_of ?_; decide) | exact Or.inl ⟨rfl, _, SqL.of (by assumption)⟩ | omega)
local macro_rules | `(tactic| walk_at "st") => `(tactic| first | (apply Exists.intro) | (refine And.intro ?_ ?_; focus (walk_at "sd")) | (apply Or.inl; apply Exists.intro; refine And.intro ?_ ?_; focus rfl) | (apply Or.inr; apply Exists.intro; refine And.intro ?_ ?_; focus rfl))
local macro_rules | `(tactic| walk_at "go") => `(tactic| repeat (walk_at "st"))
section
variable {P : Program} {w : World} {K : PySem.W.Frag} {mg : Str → Option Value} {base : Heap}
theorem ok_l_number (T : Top K mg) : FnOk P w K mg base CX0 4 T.l_number.f T.l_number.fd ["_law_deck_here"] spNumber := by
  have G_l_draw : FnOk P w K mg base CX0 1 T.l_draw.f T.l_draw.fd ["_law_deck_here", "_law_many"] spDraw := ok_l_draw T
  have G_l_one : FnOk P w K mg base CX0 2 T.l_one.f T.l_one.fd ["_law_deck_here", "_law_items"] (spOne K) := ok_l_one T
  refine T.l_number.F.ok sc_l_number (fun vs H Q E h => ?_) (fun cdv A outer s H vs Q E hr h => ?_)
  · obtain ⟨a, c, m, rfl, _⟩ := h
    rfl
  obtain ⟨a, c, m, rfl, D0, hm, q⟩ := h
  have hu64 := hr.units
  refine ⟨_, (pss_cons (ps_par (i := 1) (j := 2) (by rfl) sc_l_number.nd rfl rfl (by decide) rfl rfl (pa_cons (pe_call G_l_draw (hr.mono (by omega)) (by rfl) T.l_draw.g T.l_draw.F.kp T.l_draw.b .nil pass0 (pa_cons (pv 0) (pa_cons pe_int pa_nil))) (pa_cons (pe_call G_l_one (hr.mono (by omega)) (by rfl) T.l_one.g T.l_one.F.kp T.l_one.b .nil pass0 (pa_cons (pv 0) (pa_cons (pe_lstA (pa_cons pe_int (pa_cons (pe_un un_neg pe_int) pa_nil))) pa_nil))) pa_nil)) (by rfl))
      (pss_cons (ps_if (pt_cmpR op_lt (pv 1) pe_int (nomark _)) (pss_one (ps_ret (pe_op op_mul (pv 2) (pe_call G_l_draw (hr.mono (by omega)) (by rfl) T.l_draw.g T.l_draw.F.kp T.l_draw.b .nil pass0 (pa_cons (pv 0) (pa_cons pe_int pa_nil)))))) pss_nil)
      (pss_cons (ps_if (pt_cmpR op_eq (pv 1) pe_int (nomark _)) (pss_one (ps_ret (pe_op op_mul (pv 2) (pe_op op_sub (pe_op op_add (pe_op op_mul (pe_op op_fdivN (pe_op op_pow pe_int pe_int) (pe_op op_pow pe_int pe_int)) (pe_call G_l_draw (hr.mono (by omega)) (by rfl) T.l_draw.g T.l_draw.F.kp T.l_draw.b .nil pass0 (pa_cons (pv 0) (pa_cons pe_int pa_nil)))) (pe_call G_l_draw (hr.mono (by omega)) (by rfl) T.l_draw.g T.l_draw.F.kp T.l_draw.b .nil pass0 (pa_cons (pv 0) (pa_cons pe_int pa_nil)))) pe_int)))) pss_nil)
      (pss_one (ps_ret (pe_op op_mul (pv 2) (pe_op op_add (pe_op op_mul (pe_op op_pow pe_int pe_int) (pe_call G_l_draw (hr.mono (by omega)) (by rfl) T.l_draw.g T.l_draw.F.kp T.l_draw.b .nil pass0 (pa_cons (pv 0) (pa_cons (pe_op op_pow pe_int pe_int) pa_nil)))) (pe_call G_l_draw (hr.mono (by omega)) (by rfl) T.l_draw.g T.l_draw.F.kp T.l_draw.b .nil pass0 (pa_cons (pv 0) (pa_cons (pe_op op_pow pe_int pe_int) pa_nil)))))))))), ?_⟩
  have hmM : m ≤ MANY := by show m ≤ 1000000000; omega
  walk_at "go"
  intro r H1 r0 r1 D1 k1
  have hmM : m + 1 ≤ MANY := by show m + 1 ≤ 1000000000; omega
  walk_at "go"
  intro l2 H2 hl2 e2
  have k2 := new_kp hl2 e2
  have a2 := new_at e2
  have D2 := D1.kp0 k2
  have off2 := D1.off hl2
  walk_at "go"
  intro x H3 hx D3 k3
  have hx2 : x ∈ ([1, -1] : List Int).map V.int := hx
  obtain ⟨i, rfl, hi⟩ := mem_ints (P := fun i => i = 1 ∨ i = -1) hx2 (by
    intro i hi
    simp only [List.mem_cons, List.not_mem_nil, or_false] at hi
    exact hi)
  have k13 := (k1.step0 k2).trans k3
  have hmM : m + 1 + 1 ≤ MANY := by show m + 1 + 1 ≤ 1000000000; omega
  walk_at "go"
  refine ite2 (fun hc => ?_) (fun hc => ?_)
  · walk_at "go"
    intro r4 H4 r40 r41 D4 k4
    refine ⟨_, _, rfl, rfl, ?_, ?_⟩
    · rcases hi with rfl | rfl <;> (refine cmul_of ?_; decide)
    · refine q _ H4 _ ?_ ?_ ?_ ?_ D4 (k13.trans k4)
      · show -1000000000000000000000000000000000000000000000000000000000000 ≤ i * r4
        rcases hi with rfl | rfl <;> omega
      · show i * r4 ≤ 1000000000000000000000000000000000000000000000000000000000000
        rcases hi with rfl | rfl <;> omega
      · omega
      · omega
  · walk_at "go"
    refine ite2 (fun hd => ?_) (fun hd => ?_)
    · walk_at "go"
      intro r4 H4 r40 r41 D4 k4
      have hmM : m + 1 + 1 + 1 ≤ MANY := by show m + 1 + 1 + 1 ≤ 1000000000; omega
      walk_at "go"
      intro r5 H5 r50 r51 D5 k5
      have e5 : ((2 : Int) ^ Int.toNat 40).fdiv (2 ^ Int.toNat 4) = 68719476736 := by decide +kernel
      walk_at "go"
      refine ⟨?_, ?_⟩
      · rcases hi with rfl | rfl <;> (refine cmul_of ?_; decide)
      · refine q _ H5 _ ?_ ?_ ?_ ?_ D5 ((k13.trans k4).trans k5)
        · show -1000000000000000000000000000000000000000000000000000000000000 ≤ i * (((2 : Int) ^ Int.toNat 40).fdiv (2 ^ Int.toNat 4) * r4 + r5 - 4)
          rw [e5]
          rcases hi with rfl | rfl <;> omega
        · show i * (((2 : Int) ^ Int.toNat 40).fdiv (2 ^ Int.toNat 4) * r4 + r5 - 4) ≤ 1000000000000000000000000000000000000000000000000000000000000
          rw [e5]
          rcases hi with rfl | rfl <;> omega
        · omega
        · omega
    · have p9 : (0 : Int) < 10 ^ Int.toNat 9 := by decide +kernel
      have q9 : ((10 : Int) ^ Int.toNat 9).natAbs < 2 ^ 1000 := by decide +kernel
      have e9 : (10 : Int) ^ Int.toNat 9 = 1000000000 := by decide +kernel
      have e50 : (10 : Int) ^ Int.toNat 50 = 100000000000000000000000000000000000000000000000000 := by decide +kernel
      walk_at "go"
      intro r4 H4 r40 r41 D4 k4
      rw [e9] at r41
      have hmM : m + 1 + 1 + 1 ≤ MANY := by show m + 1 + 1 + 1 ≤ 1000000000; omega
      have c4 : CMul (10 ^ Int.toNat 50) r4 := .inr ⟨by omega, by omega⟩
      walk_at "go"
      intro r5 H5 r50 r51 D5 k5
      rw [e9] at r51
      walk_at "go"
      refine ⟨?_, ?_⟩
      · rcases hi with rfl | rfl <;> (refine cmul_of ?_; decide)
      · refine q _ H5 _ ?_ ?_ ?_ ?_ D5 ((k13.trans k4).trans k5)
        · show -1000000000000000000000000000000000000000000000000000000000000 ≤ i * ((10 : Int) ^ Int.toNat 50 * r4 + r5)
          rw [e50]
          rcases hi with rfl | rfl <;> omega
        · show i * ((10 : Int) ^ Int.toNat 50 * r4 + r5) ≤ 1000000000000000000000000000000000000000000000000000000000000
          rw [e50]
          rcases hi with rfl | rfl <;> omega
        · omega
        · omega
end
end EH
namespace EH
open PySem L2
local macro_rules | `(tactic| walk_at "sd") => `(tactic| first | assumption | ((with_reducible show (_ : Int) ≤ _); omega) | ((with_reducible show (_ : Int) < _); omega) | rfl | exact SqL.of (by assumption) | exact SqT.of (by assumption) | exact atI_nat (j := 0) rfl | exact atI_nat (j := 1) rfl | exact atI_nat (j := 2) rfl | exact atI_nat (j := 3) rfl | exact sz_lit rfl | exact lt_lit rfl | exact pos_lit rfl | exact le_lit rfl | exact Or.inl (SqL.of (by assumption)) | exact ⟨_, SqL.of (by assumption)⟩ | exact ⟨_, SqT.of (by assumption)⟩ | exact Or.inr (SqT.of (by assumption)) | exact ClsV.ty _ | exact TyX.base (TyOf.int _) | exact TyX.base (TyOf.str _) | exact TyX.base (TyOf.tup (by assumption)) | exact kit_ty isi_ss | exact kit_ty isi_is | exact kit_ty isi_ts | exact kit_ty isi_si | exact kit_ty isi_ii | exact kit_ty isi_ti | exact kit_ty isi_st | exact kit_ty isi_it | exact kit_ty isi_tt | exact Or.inl ⟨_, Or.inl (by assumption)⟩ | exact DGet.k (k := Sum.inr _) (by assumption) | exact DGet.k (k := Sum.inl _) (by assumption) | (refine cpow_of ?_; decide) | (refine cmul_of ?_; decide) | (show (_ : Int) ≠ 0; first | decide | omega) | (refine cdivn_of ?_; decide) | exact Or.inl ⟨rfl, _, SqL.of (by assumption)⟩ | omega)
local macro_rules | `(tactic| walk_at "st") => `(tactic| first | (apply Exists.intro) | (refine And.intro ?_ ?_; focus (walk_at "sd")) | (apply Or.inl; apply Exists.intro; refine And.intro ?_ ?_; focus rfl) | (apply Or.inr; apply Exists.intro; refine And.intro ?_ ?_; focus rfl))
local macro_rules | `(tactic| walk_at "go") => `(tactic| repeat (walk_at "st"))
section
variable {P : Program} {w : World} {K : PySem.W.Frag} {mg : Str → Option Value} {base : Heap}
theorem ok_l_programN (T : Top K mg) : FnOk P w K mg base CX0 16 T.l_program.f T.l_program.fd ["_law_deck_here", "_law_names_here"] spProgramN := by
  have G_l_draw : FnOk P w K mg base CX0 1 T.l_draw.f T.l_draw.fd ["_law_deck_here", "_law_many"] spDraw := ok_l_draw T
  have G_l_block := ok_l_block (P := P) (w := w) (base := base) T
  refine T.l_program.F.ok sc_l_program (fun vs H Q E h => ?_) (fun cdv A outer s H vs Q E hr h => ?_)
  · obtain ⟨a, c, nm, m, names, rfl, _⟩ := h
    rfl
  obtain ⟨a, c, nm, m, names, rfl, D0, hm, N0, q⟩ := h
  have hu64 := hr.units
  refine ⟨_, (pss_cons (ps_par (i := 2) (j := 3) (by rfl) sc_l_program.nd rfl rfl (by decide) rfl rfl (pa_cons (pe_lstA (pa_cons pe_int (pa_cons pe_int (pa_cons pe_int (pa_cons pe_int pa_nil))))) (pa_cons (pe_tupA pa_nil) pa_nil)) (by rfl))
      (pss_cons (ps_forA (ps_for PassesOwn.never rfl (pi_range1 (by rfl) T.range (pa_cons (pe_op op_add pe_int (pe_call G_l_draw (hr.mono (by omega)) (by rfl) T.l_draw.g T.l_draw.F.kp T.l_draw.b .nil pass0 (pa_cons (pv 0) (pa_cons pe_int pa_nil)))) pa_nil)) (pg_name (i := 4) sc_l_program.nd rfl (.inl rfl)) (pss_one (ps_set (i := 3) sc_l_program.nd rfl (.inl rfl) (pe_op (op_catTK (K := K) rfl) (pv 3) (pe_call G_l_block (hr.mono (by omega)) (by rfl) T.l_block.g T.l_block.F.kp T.l_block.b .nil pass0 (pa_cons (pv 0) (pa_cons (pv 1) (pa_cons (pv 2) (pa_cons pe_int (pa_cons pe_int pa_nil)))))))))))
      (pss_cutA (ps_if (PW.pt (pw_or (pt_cmpR op_lt (pe_ix (ix_listK (K := K) rfl) (pv 2) pe_int (fun _ _ => rfl)) pe_int (nomark _)) (pw_or (pt_cmpR op_lt (pe_ix (ix_listK (K := K) rfl) (pv 2) pe_int (fun _ _ => rfl)) pe_int (nomark _)) (pw_or1 (pt_cmpR op_eq (pe_call G_l_draw (hr.mono (by omega)) (by rfl) T.l_draw.g T.l_draw.F.kp T.l_draw.b .nil pass0 (pa_cons (pv 0) (pa_cons pe_int pa_nil))) pe_int (nomark _)))))) (pss_one (ps_ret (pv 3))) pss_nil)
      (pss_one (ps_ret (pe_op (op_catTK (K := K) rfl) (pv 3) (pe_tupA (pa_cons (pe_tupA (pa_cons pe_str (pa_cons (pe_ix (ix_listK (K := K) rfl) (pv 1) (pe_un un_neg pe_int) (fun _ _ => rfl)) pa_nil))) pa_nil)))))))), ?_⟩
  have cB : costB 4 = 257985 := rfl
  walk_at "go"
  intro lf H1 hlf e1
  have k1 := new_kp hlf e1
  have a1 := new_at e1
  have D1 := D0.kp0 k1
  have N1 := N0.kp0 k1
  have oD := D0.off hlf
  have oN := ne_of_none N0.at_ hlf
  have off : lf ∉ [a, c, nm] := by
    simp only [List.mem_cons, List.not_mem_nil, or_false, not_or] at oD ⊢
    exact ⟨oD.1, oD.2, fun z => oN z.symm⟩
  have g1 : Gs H1 a c nm lf m names ⟨24, 60, 4, 3⟩ := ⟨D1, N1, a1, off⟩
  walk_at "go"
  intro u2 H2 hu2 e2
  have k2 := new_kp hu2 e2
  have a2 := new_at e2
  have g2 := g1.kp0 k2
  have D2 := g2.dk
  have hmM : m ≤ MANY := by show m ≤ 1000000000; omega
  walk_at "go"
  intro r H3 r0 r1 D3 k3
  have g3 := g2.drawn D3 k3
  have k03 : Kp [a, c] H H3 := ((k1.trans k2).sub (by simp)).trans k3
  walk_at "go"
  refine ⟨for_range (lo := 0) (n := (1 + r).toNat) (fun i σ H4 => Lp (∃ (w4 : Option V) (v : V) (b : List Sm) (m4 : Int) (l4 : Lf), σ = [some (.ref a), some (.ref nm), some (.ref lf), some v, w4] ∧ Tr H4 (.tuple (Sm.ds b)) v ∧ BOk names 1 0 ⟨24, 60, 4, 3⟩ l4 b ∧ l4.nn ∧ m + 1 ≤ m4 ∧ m4 ≤ m + 1 + (i : Int) * 257985 ∧ Gs H4 a c nm lf m4 names l4 ∧ Kp [a, c] H H4)) ⟨_, _, [], m + 1, _, rfl, mk_tup (k3.tup _ _ a2) (by simp only [Sm.ds]; exact trs_nil), BOk.nil, ⟨by decide, by decide, by decide, by decide⟩, by omega, by simp, g3, k03⟩ ?_ ?_⟩
  · rintro i σ H4 hi ⟨⟨w4, v, b, m4, l4, rfl, t4, bo4, ln4, ml4, mu4, g4, k4⟩⟩
    have hm4 : m4 + costB 4 ≤ 700000000 := by omega
    obtain ⟨p4, xs4, rfl, h4, ts4⟩ := tr_tup t4
    walk_at "go"
    intro v5 b5 H5 m5 l5 t5 bo5 ln5 ml5 mu5 g5 k5
    obtain ⟨p5, xs5, rfl, h5, ts5⟩ := tr_tup t5
    have h45 := k5.tup _ _ h4
    have ts45 := k5.trAll ts4
    have bo := bo4.cat bo5
    have pr := bo.pr ln5
    have sz : xs4.length + xs5.length ≤ sizeLine := by
      have e := Sm.ds_le (b ++ b5)
      have := pr.pl
      rw [Sm.ds_app, List.length_append] at e
      rw [ts4.length, ts5.length]
      exact sz_le (by omega)
    walk_at "go"
    intro r6 H6 a6 k6
    walk_at "go"
    refine ⟨_, _, b ++ b5, m5, l5, rfl, ?_, bo, ln5, by omega, by rw [Int.natCast_add, Int.add_mul]; omega, g5.kp0 k6, ((k4.step k5 ?_).step0 k6)⟩
    · rw [Sm.ds_app]
      exact mk_tup a6 ((k6.trAll ts45).append (k6.trAll ts5))
    · intro p hp
      simp only [List.mem_cons, List.not_mem_nil, or_false] at hp ⊢
      rcases hp with rfl | rfl | rfl
      · exact .inl (.inl rfl)
      · exact .inl (.inr rfl)
      · exact .inr hlf
  · rintro σ H4 ⟨⟨w4, v, b, m4, l4, rfl, t4, bo4, ln4, ml4, mu4, g4, k4⟩⟩
    have lf4 := g4.lft
    have D4 := g4.dk
    have pr := bo4.pr ln4
    have hm4 : m4 ≤ m + 1 + 4 * 257985 := by omega
    have hmM : m4 ≤ MANY := by show m4 ≤ 1000000000; omega
    refine ⟨⟨fun σ5 H5 => Lp (∃ m5, σ5 = [some (.ref a), some (.ref nm), some (.ref lf), some v, w4] ∧ 1 ≤ l4.p ∧ 1 ≤ l4.w ∧ m4 ≤ m5 ∧ m5 ≤ m4 + 1 ∧ Gs H5 a c nm lf m5 names l4 ∧ Kp [a, c] H4 H5), ?_, ?_⟩⟩
    · walk_at "go"
      refine ite2 (fun hc => ?_) (fun hc => ?_)
      · walk_at "go"
        exact q v b H4 m4 t4 pr bo4.inn (by omega) (by omega) D4 k4
      · walk_at "go"
        refine ite2 (fun hd => ?_) (fun hd => ?_)
        · walk_at "go"
          exact q v b H4 m4 t4 pr bo4.inn (by omega) (by omega) D4 k4
        · have hc1 : ¬ l4.p < 1 := of_decide_eq_false (Bool.eq_false_iff.mpr hc)
          have hd1 : ¬ l4.w < 1 := of_decide_eq_false (Bool.eq_false_iff.mpr hd)
          walk_at "go"
          intro r5 H5 r50 r51 D5 k5
          walk_at "go"
          refine ite2 (fun he => ?_) (fun he => ?_)
          · walk_at "go"
            exact q v b H5 _ (k5.tr t4) pr bo4.inn (by omega) (by omega) D5 (k4.trans k5)
          · exact ⟨_, rfl, by omega, by omega, by omega, by omega, g4.drawn D5 k5, k5⟩
    · rintro σ5 H5 ⟨⟨m5, rfl, hp, hw, ml5, mu5, g5, k5⟩⟩
      obtain ⟨p5, xs5, rfl, h5, ts5⟩ := tr_tup (k5.tr t4)
      have nm5 := g5.nms.at_
      obtain ⟨x, hx, hxm⟩ : ∃ x, names.getLast? = some x ∧ x ∈ names := by
        cases e : names.getLast? with
        | none =>
          have := g5.nms.len.1
          rw [List.getLast?_eq_none_iff] at e
          rw [e] at this
          exact absurd this (by decide)
        | some x => exact ⟨x, rfl, List.mem_of_getLast? e⟩
      have ax : atI (names.map V.str) (-1) = some (.str x) := at_last (by rw [List.getLast?_map, hx]; rfl)
      walk_at "go"
      intro u6 H6 hu6 e6
      have k6 := new_kp hu6 e6
      have a6 := new_at e6
      walk_at "go"
      intro u7 H7 hu7 e7
      have k7 := new_kp hu7 e7
      have a7 := new_at e7
      have h7 := k7.tup _ _ (k6.tup _ _ h5)
      have sz : xs5.length + [V.ref u6].length ≤ sizeLine := by
        have e := Sm.ds_le b
        have := pr.pl
        rw [ts5.length]
        exact sz_le (by simp only [List.length_singleton]; omega)
      walk_at "go"
      intro r8 H8 a8 k8
      have so : SOk names 1 0 l4 ⟨l4.p - 1, l4.w - 1, l4.h, l4.c⟩ (.tell (.var x)) := by
        refine ⟨?_, by simp only [Sm.inN, Ex.inN]; exact hxm, by simp only [Sm.nest]; decide, ⟨?_, ?_, ?_, ?_⟩⟩
        · simp only [Sm.ok]
          exact ⟨g5.nms.oks x hxm, by simp only [Ex.deep]; decide⟩
        · simp only [Sm.pl]
          omega
        · simp only [Sm.wt]
          omega
        · simp only [Sm.hv]
          omega
        · simp only [Sm.cp]
          omega
      have bo := bo4.cat (BOk.one so)
      refine q (.ref r8) (b ++ [.tell (.var x)]) H8 m5 ?_ (bo.pr ⟨by show 0 ≤ l4.p - 1; omega, by show 0 ≤ l4.w - 1; omega, ln4.2.2.1, ln4.2.2.2⟩) bo.inn (by omega) (by omega) (((g5.dk.kp0 k6).kp0 k7).kp0 k8) ((((k4.trans k5).step0 k6).step0 k7).step0 k8)
      rw [Sm.ds_app]
      refine mk_tup a8 ((k8.trAll (k7.trAll (k6.trAll ts5))).append ?_)
      simp only [Sm.ds, Sm.d, Ex.d]
      exact trs_cons (mk_tup (k8.tup _ _ (k7.tup _ _ a6)) (trs_cons mk_str (trs_cons mk_str trs_nil))) trs_nil
theorem ok_l_program (T : Top K mg) : FnOk P w K mg base CX0 16 T.l_program.f T.l_program.fd ["_law_deck_here", "_law_names_here"] spProgram := (ok_l_programN T).imp fun vs H Q E ⟨a, c, nm, m, names, e, h1, h2, h3, q⟩ => ⟨a, c, nm, m, names, e, h1, h2, h3, fun v b H' m' x1 x2 _ => q v b H' m' x1 x2⟩
end
end EH
namespace EH
open PySem L2
local macro_rules | `(tactic| walk_at "sd") => `(tactic| first | assumption | ((with_reducible show (_ : Int) ≤ _); omega) | ((with_reducible show (_ : Int) < _); omega) | rfl | exact SqL.of (by assumption) | exact SqT.of (by assumption) | exact atI_nat (j := 0) rfl | exact atI_nat (j := 1) rfl | exact atI_nat (j := 2) rfl | exact atI_nat (j := 3) rfl | exact sz_lit rfl | exact lt_lit rfl | exact pos_lit rfl | exact le_lit rfl | exact Or.inl (SqL.of (by assumption)) | exact ⟨_, SqL.of (by assumption)⟩ | exact ⟨_, SqT.of (by assumption)⟩ | exact Or.inr (SqT.of (by assumption)) | exact ClsV.ty _ | exact TyX.base (TyOf.int _) | exact TyX.base (TyOf.str _) | exact TyX.base (TyOf.tup (by assumption)) | exact kit_ty isi_ss | exact kit_ty isi_is | exact kit_ty isi_ts | exact kit_ty isi_si | exact kit_ty isi_ii | exact kit_ty isi_ti | exact kit_ty isi_st | exact kit_ty isi_it | exact kit_ty isi_tt | exact Or.inl ⟨_, Or.inl (by assumption)⟩ | exact DGet.k (k := Sum.inr _) (by assumption) | exact DGet.k (k := Sum.inl _) (by assumption) | (refine cpow_of ?_; decide) | (refine cmul_of ?_; decide) | (show (_ : Int) ≠ 0; first | decide | omega) | (refine cdivn_of ?_; decide) | exact Or.inl ⟨rfl, _, SqL.of (by assumption)⟩ | omega)
local macro_rules | `(tactic| walk_at "st") => `(tactic| first | (apply Exists.intro) | (refine And.intro ?_ ?_; focus (walk_at "sd")) | (apply Or.inl; apply Exists.intro; refine And.intro ?_ ?_; focus rfl) | (apply Or.inr; apply Exists.intro; refine And.intro ?_ ?_; focus rfl))
local macro_rules | `(tactic| walk_at "go") => `(tactic| repeat (walk_at "st"))
section
variable {P : Program} {w : World} {K : PySem.W.Frag} {mg : Str → Option Value} {base : Heap}
theorem ok_l_names (T : Top K mg) : FnOk P w K mg base CX0 4 T.l_names.f T.l_names.fd ["_law_deck_here"] spNames := by
  have G_l_draw : FnOk P w K mg base CX0 1 T.l_draw.f T.l_draw.fd ["_law_deck_here", "_law_many"] spDraw := ok_l_draw T
  have G_l_one : FnOk P w K mg base CX0 2 T.l_one.f T.l_one.fd ["_law_deck_here", "_law_items"] (spOne K) := ok_l_one T
  have G_l_oneS : FnOk P w K mg base CX0 2 T.l_one.f T.l_one.fd ["_law_deck_here", "_law_items"] spOneS := ok_l_oneS T
  refine T.l_names.F.ok sc_l_names (fun vs H Q E h => ?_) (fun cdv A outer s H vs Q E hr h => ?_)
  · obtain ⟨a, c, m, rfl, _⟩ := h
    rfl
  obtain ⟨a, c, m, rfl, D0, hm, q⟩ := h
  have hu64 := hr.units
  refine ⟨_, (pss_cons (ps_set (i := 1) sc_l_names.nd rfl (.inr rfl) pe_str)
      (pss_cons (ps_set (i := 2) sc_l_names.nd rfl (.inr rfl) (pe_joinA pe_str (pe_lc (own := [("_law_k", 5)]) (by rfl) sc_l_names.nd (pi_range1 (by rfl) T.range (pa_cons (pe_call G_l_draw (hr.mono (by omega)) (by rfl) T.l_draw.g T.l_draw.F.kp T.l_draw.b .nil pass0 (pa_cons (pv 0) (pa_cons pe_int pa_nil))) pa_nil)) (blkOk_by (N := ["_law_deck_here", "_law_letters", "_law_left", "_law_signs", "_law_right_here", "_law_k"]) (sc := defScope s_l_names) (own := [("_law_k", 5)]) (by decide +kernel)) (fun _ _ _ _ _ => (pg_name (i := 5) sc_l_names.nd rfl (.inl rfl))) (fun _ _ _ _ _ => pts_nil) (fun _ _ _ _ _ => (pe_call G_l_oneS (hr.mono (by omega)) (by rfl) T.l_one.g T.l_one.F.kp T.l_one.b .nil pass0 (pa_cons (pv 0) (pa_cons (pv 1) pa_nil)))))))
      (pss_cons (ps_set (i := 3) sc_l_names.nd rfl (.inr rfl) (pe_op op_add_str (pv 1) pe_str))
      (pss_cons (ps_set (i := 4) sc_l_names.nd rfl (.inr rfl) (pe_joinA pe_str (pe_lc (own := [("_law_k", 5)]) (by rfl) sc_l_names.nd (pi_range1 (by rfl) T.range (pa_cons (pe_call G_l_draw (hr.mono (by omega)) (by rfl) T.l_draw.g T.l_draw.F.kp T.l_draw.b .nil pass0 (pa_cons (pv 0) (pa_cons pe_int pa_nil))) pa_nil)) (blkOk_by (N := ["_law_deck_here", "_law_letters", "_law_left", "_law_signs", "_law_right_here", "_law_k"]) (sc := defScope s_l_names) (own := [("_law_k", 5)]) (by decide +kernel)) (fun _ _ _ _ _ => (pg_name (i := 5) sc_l_names.nd rfl (.inl rfl))) (fun _ _ _ _ _ => pts_nil) (fun _ _ _ _ _ => (pe_call G_l_oneS (hr.mono (by omega)) (by rfl) T.l_one.g T.l_one.F.kp T.l_one.b .nil pass0 (pa_cons (pv 0) (pa_cons (pv 3) pa_nil)))))))
      (pss_one (ps_ret (pe_op op_catL (pe_lstA (pa_cons pe_str pa_nil)) (pe_lc (own := [("_law_k", 5)]) (by rfl) sc_l_names.nd (pi_range1 (by rfl) T.range (pa_cons pe_int pa_nil)) (blkOk_by (N := ["_law_deck_here", "_law_letters", "_law_left", "_law_signs", "_law_right_here", "_law_k"]) (sc := defScope s_l_names) (own := [("_law_k", 5)]) (by decide +kernel)) (fun _ _ _ _ _ => (pg_name (i := 5) sc_l_names.nd rfl (.inl rfl))) (fun _ _ _ _ _ => pts_nil) (fun _ _ _ _ _ => (pe_op op_add_str (pe_op op_add_str (pv 2) (pe_ix ix_str pe_str (pv 5) (fun _ _ => rfl))) (pv 4))))))))))), ?_⟩
  have hmM : m ≤ MANY := by show m ≤ 1000000000; omega
  have sg : (Str.ofString "abcdefgijkmoqruvwxyz").length + (Str.ofString "0123456789").length ≤ sizeLine := by decide +kernel
  obtain ⟨ll, ll2⟩ : 0 < (Str.ofString "abcdefgijkmoqruvwxyz").length ∧ (Str.ofString "abcdefgijkmoqruvwxyz").length ≤ 1000000 := by decide +kernel
  obtain ⟨sl, sl2⟩ : 0 < (Str.ofString "abcdefgijkmoqruvwxyz" ++ Str.ofString "0123456789").length ∧ (Str.ofString "abcdefgijkmoqruvwxyz" ++ Str.ofString "0123456789").length ≤ 1000000 := by decide +kernel
  walk_at "go"
  refine ⟨⟨_, rfl⟩, ?_⟩
  walk_at "go"
  intro r H1 r0 r1 DK1 k1
  walk_at "go"
  intro D1 hD1
  have oD1 := DK1.off hD1
  have ac1 : a ∉ [D1] ∧ c ∉ [D1] := by
    simp only [List.mem_cons, List.not_mem_nil, or_false, not_or] at oD1 ⊢
    exact ⟨fun z => oD1.1 z.symm, fun z => oD1.2 z.symm⟩
  refine lc_range (lo := 0) (n := Int.toNat r) (fun i X2 => Kp [a, c] H1 X2 ∧ ∃ cs : List Nat, X2 D1 = some (.lst ((sgl cs).map V.str)) ∧ (∀ i ∈ cs, i ∈ (Str.ofString "abcdefgijkmoqruvwxyz").cps.toList) ∧ cs.length = i ∧ Deck X2 a c ((m + 1) + (i : Int))) ⟨(Kp.new hD1).sub (by simp), [], upd_same, (fun _ z => nomatch z), rfl, (DK1.kp0 (Kp.new hD1)).cast (by simp)⟩ ?_ ?_
  · rintro i X2 hi ⟨kk2, cs, d2, c2, l2, DD2⟩
    have hmM : (m + 1) + (i : Int) ≤ MANY := by show (m + 1) + (i : Int) ≤ 1000000000; omega
    walk_at "go"
    intro ch X3 hch DD3 kk3
    have d3 := kk3.keep _ _ d2 oD1
    have l3 : ((sgl cs).map V.str).length < sizeLine := by
      rw [List.length_map]
      unfold sgl
      rw [List.length_map]
      exact sz_lt (by omega)
    walk_at "go"
    have kk4 := Kp.put (u := .lst ((sgl cs).map V.str ++ [.str ⟨#[ch]⟩])) d3 (fun _ y => by cases y)
    refine ⟨(kk2.trans kk3).step1 kk4 (.inr hD1), cs ++ [ch], ?_, ?_, by rw [List.length_append, l2]; rfl, ((DD3.kp kk4 ac1.1 ac1.2)).cast (by omega)⟩
    · rw [upd_same]
      unfold sgl
      rw [List.map_append, List.map_append]
      rfl
    · intro j hj
      rcases List.mem_append.mp hj with h | h
      · exact c2 j h
      · cases List.mem_singleton.mp h
        exact hch
  rintro E1 ⟨kE1, cs1, d1, c1, l1, DE1⟩
  have j1 := sgl_ok cs1 (by omega)
  refine ⟨Str.ofString "", D1, sgl cs1, rfl, rfl, d1, j1, ?_⟩
  rw [join_sgl]
  walk_at "go"
  refine ⟨⟨_, rfl⟩, ?_⟩
  have hmM : m + 1 + (r.toNat : Int) ≤ MANY := by show m + 1 + (r.toNat : Int) ≤ 1000000000; omega
  walk_at "go"
  intro q0 H3 q00 q01 D3 k3
  walk_at "go"
  intro D2 hD2
  have oD2 := D3.off hD2
  have ac2 : a ∉ [D2] ∧ c ∉ [D2] := by
    simp only [List.mem_cons, List.not_mem_nil, or_false, not_or] at oD2 ⊢
    exact ⟨fun z => oD2.1 z.symm, fun z => oD2.2 z.symm⟩
  refine lc_range (lo := 0) (n := Int.toNat q0) (fun i X2 => Kp [a, c] H3 X2 ∧ ∃ cs : List Nat, X2 D2 = some (.lst ((sgl cs).map V.str)) ∧ (∀ i ∈ cs, i ∈ (Str.ofString "abcdefgijkmoqruvwxyz" ++ Str.ofString "0123456789").cps.toList) ∧ cs.length = i ∧ Deck X2 a c ((m + 1 + (r.toNat : Int) + 1) + (i : Int))) ⟨(Kp.new hD2).sub (by simp), [], upd_same, (fun _ z => nomatch z), rfl, (D3.kp0 (Kp.new hD2)).cast (by simp)⟩ ?_ ?_
  · rintro i X2 hi ⟨kk2, cs, d2, c2, l2, DD2⟩
    have hmM : (m + 1 + (r.toNat : Int) + 1) + (i : Int) ≤ MANY := by show (m + 1 + (r.toNat : Int) + 1) + (i : Int) ≤ 1000000000; omega
    walk_at "go"
    intro ch X3 hch DD3 kk3
    have d3 := kk3.keep _ _ d2 oD2
    have l3 : ((sgl cs).map V.str).length < sizeLine := by
      rw [List.length_map]
      unfold sgl
      rw [List.length_map]
      exact sz_lt (by omega)
    walk_at "go"
    have kk4 := Kp.put (u := .lst ((sgl cs).map V.str ++ [.str ⟨#[ch]⟩])) d3 (fun _ y => by cases y)
    refine ⟨(kk2.trans kk3).step1 kk4 (.inr hD2), cs ++ [ch], ?_, ?_, by rw [List.length_append, l2]; rfl, ((DD3.kp kk4 ac2.1 ac2.2)).cast (by omega)⟩
    · rw [upd_same]
      unfold sgl
      rw [List.map_append, List.map_append]
      rfl
    · intro j hj
      rcases List.mem_append.mp hj with h | h
      · exact c2 j h
      · cases List.mem_singleton.mp h
        exact hch
  rintro E2 ⟨kE2, cs2, d2, c2, l2, DE2⟩
  have j2 := sgl_ok cs2 (by omega)
  refine ⟨Str.ofString "", D2, sgl cs2, rfl, rfl, d2, j2, ?_⟩
  rw [join_sgl]
  have x : LR ⟨cs1.toArray⟩ ⟨cs2.toArray⟩ := ⟨c1, c2, by show cs1.toArray.size ≤ 8; rw [List.size_toArray]; omega, by show cs2.toArray.size ≤ 8; rw [List.size_toArray]; omega⟩
  generalize hL : (⟨cs1.toArray⟩ : Str) = L at x
  generalize hR : (⟨cs2.toArray⟩ : Str) = R at x
  have xl := x.ll
  have xr := x.rl
  walk_at "go"
  intro u5 H5 hu5 e5
  have k5 := new_kp hu5 e5
  have a5 := new_at e5
  walk_at "go"
  intro D6 hD6
  have key : ∀ i : Nat, i < 3 → ∃ ch : Nat, atI ((Str.ofString "qxz").cps.toList) (0 + (i : Int)) = some ch ∧ (nmsOf L R).tail[i]? = some (L ++ ⟨#[ch]⟩ ++ R) := by
    intro i hi
    rcases (show i = 0 ∨ i = 1 ∨ i = 2 by omega) with rfl | rfl | rfl
    · exact ⟨113, by decide +kernel, by rw [show (⟨#[113]⟩ : Str) = "q" by decide +kernel]; rfl⟩
    · exact ⟨120, by decide +kernel, by rw [show (⟨#[120]⟩ : Str) = "x" by decide +kernel]; rfl⟩
    · exact ⟨122, by decide +kernel, by rw [show (⟨#[122]⟩ : Str) = "z" by decide +kernel]; rfl⟩
  refine lc_range (lo := 0) (n := Int.toNat 3) (fun i X2 => Kp [D6] H5 X2 ∧ X2 D6 = some (.lst (((nmsOf L R).tail.take i).map V.str))) ⟨(Kp.new hD6).sub (by simp), upd_same⟩ ?_ ?_
  · rintro i X2 hi ⟨kk2, d2⟩
    have hi3 : i < 3 := hi
    obtain ⟨ch, hat, hn⟩ := key i hi3
    have s1 : L.length + (⟨#[ch]⟩ : Str).length ≤ sizeLine := sz_le (show L.length + 1 ≤ 1000000 by omega)
    have e1 : (L ++ ⟨#[ch]⟩ : Str).length = L.length + 1 := by
      show (L.cps ++ #[ch]).size = L.cps.size + 1
      rw [Array.size_append]
      rfl
    have s2 : (L ++ ⟨#[ch]⟩ : Str).length + R.length ≤ sizeLine := sz_le (by omega)
    have l3 : (((nmsOf L R).tail.take i).map V.str).length < sizeLine := by
      rw [List.length_map, List.length_take]
      exact sz_lt (by omega)
    walk_at "go"
    have kk4 := Kp.put (u := .lst (((nmsOf L R).tail.take i).map V.str ++ [.str (L ++ ⟨#[ch]⟩ ++ R)])) d2 (fun _ y => by cases y)
    refine ⟨kk2.step1 kk4 (.inl (by simp)), ?_⟩
    rw [upd_same, List.take_add_one, hn, List.map_append]
    rfl
  · rintro X2 ⟨kk2, d2⟩
    have a5' := kk2.keep _ _ a5 (ne1 (ne_of_none a5 hD6))
    walk_at "go"
    intro nm H7 hnm a7 k7
    have kE : Kp [a, c] H E2 := ((k1.trans kE1).trans k3).trans kE2
    have k5E : Kp [a, c] H H5 := kE.step0 k5
    have oD6 := (DE2.kp0 k5).off hD6
    have ac6 : a ∉ [D6] ∧ c ∉ [D6] := by
      simp only [List.mem_cons, List.not_mem_nil, or_false, not_or] at oD6 ⊢
      exact ⟨fun z => oD6.1 z.symm, fun z => oD6.2 z.symm⟩
    have kX := k5E.step1 kk2 (.inr (k5E.free hD6 oD6))
    have DX := (DE2.kp0 k5).kp kk2 ac6.1 ac6.2
    refine q nm L R H7 _ (kX.free hnm (DX.off hnm)) x ⟨a7, DX.off hnm, ⟨by show 0 < 4; decide, by show 4 ≤ 1000; decide⟩, x.oks⟩ ?_ ?_ (DX.kp0 k7) (kX.step0 k7)
    · omega
    · omega
end
end EH
namespace EH
open PySem L2
local macro_rules | `(tactic| walk_at "sd") => `(tactic| first | assumption | ((with_reducible show (_ : Int) ≤ _); omega) | ((with_reducible show (_ : Int) < _); omega) | rfl | exact SqL.of (by assumption) | exact SqT.of (by assumption) | exact atI_nat (j := 0) rfl | exact atI_nat (j := 1) rfl | exact atI_nat (j := 2) rfl | exact atI_nat (j := 3) rfl | exact sz_lit rfl | exact lt_lit rfl | exact pos_lit rfl | exact le_lit rfl | exact Or.inl (SqL.of (by assumption)) | exact ⟨_, SqL.of (by assumption)⟩ | exact ⟨_, SqT.of (by assumption)⟩ | exact Or.inr (SqT.of (by assumption)) | exact ClsV.ty _ | exact TyX.base (TyOf.int _) | exact TyX.base (TyOf.str _) | exact TyX.base (TyOf.tup (by assumption)) | exact kit_ty isi_ss | exact kit_ty isi_is | exact kit_ty isi_ts | exact kit_ty isi_si | exact kit_ty isi_ii | exact kit_ty isi_ti | exact kit_ty isi_st | exact kit_ty isi_it | exact kit_ty isi_tt | exact Or.inl ⟨_, Or.inl (by assumption)⟩ | exact DGet.k (k := Sum.inr _) (by assumption) | exact DGet.k (k := Sum.inl _) (by assumption) | (refine cpow_of ?_; decide) | (refine cmul_of ?_; decide) | (show (_ : Int) ≠ 0; first | decide | omega) | (refine cdivn_of ?_; decide) | exact Or.inl ⟨rfl, _, SqL.of (by assumption)⟩ | omega)
local macro_rules | `(tactic| walk_at "st") => `(tactic| first | (apply Exists.intro) | (refine And.intro ?_ ?_; focus (walk_at "sd")) | (apply Or.inl; apply Exists.intro; refine And.intro ?_ ?_; focus rfl) | (apply Or.inr; apply Exists.intro; refine And.intro ?_ ?_; focus rfl))
local macro_rules | `(tactic| walk_at "go") => `(tactic| repeat (walk_at "st"))
section
variable {P : Program} {w : World} {K : PySem.W.Frag} {mg : Str → Option Value} {base : Heap}
theorem ok_law (T : Top K mg) : FnG P w K mg base CX0 33 T.law.f T.law.fd ["_law_script"] (spLaw K) := by
  have G_l_deck := ok_l_deck (P := P) (w := w) (base := base) (k := 0) T
  have G_l_names := ok_l_names (P := P) (w := w) (base := base) T
  have G_l_program := ok_l_program (P := P) (w := w) (base := base) T
  have G_l_number := ok_l_number (P := P) (w := w) (base := base) T
  have G_l_right := ok_l_right (P := P) (w := w) (base := base) T 4
  refine Fun.okG T.law.F sc_law (fun vs H Q E h => ?_) (fun cdv A outer s H vs Q E fr hr h => ?_)
  · obtain ⟨a, ns, rfl, _⟩ := h
    rfl
  obtain ⟨sa, ns, rfl, hS, hl, q⟩ := h
  have hu64 := hr.units
  refine ⟨_, (pss_cons (ps_set (i := 1) sc_law.nd rfl (.inr rfl) (pe_call G_l_deck (hr.mono (by omega)) (by rfl) T.l_deck.g T.l_deck.F.kp T.l_deck.b .nil pass0 (pa_cons (pv 0) pa_nil)))
      (pss_cons (ps_forA (ps_for PassesOwn.never rfl (pi_range1 (by rfl) T.range (pa_cons pe_int pa_nil)) (pg_name (i := 2) sc_law.nd rfl (.inl rfl)) (pss_cons (ps_set (i := 3) sc_law.nd rfl (.inr rfl) (pe_call G_l_program (hr.mono (by omega)) (by rfl) T.l_program.g T.l_program.F.kp T.l_program.b .nil pass0 (pa_cons (pv 1) (pa_cons (pe_call G_l_names (hr.mono (by omega)) (by rfl) T.l_names.g T.l_names.F.kp T.l_names.b .nil pass0 (pa_cons (pv 1) pa_nil)) pa_nil))))
      (pss_one (ps_if (pt_not (pt_val (pe_callB (id := "all") (cr_allK (K := K) rfl (by rfl)) (by rfl) T.all (by decide +kernel) (pa_cons (pe_lc (own := [("_law_k", 4)]) (by rfl) sc_law.nd (pi_range1 (by rfl) T.range (pa_cons pe_int pa_nil)) (blkOk_by (N := ["_law_script", "_law_deck_here", "_law_turn", "_law_program_here", "_law_k"]) (sc := defScope s_law) (own := [("_law_k", 4)]) (by decide +kernel)) (fun _ _ _ _ _ => (pg_name (i := 4) sc_law.nd rfl (.inl rfl))) (fun _ _ _ _ _ => pts_nil) (fun _ _ _ _ _ => (pe_callG G_l_right fr (hr.mono (by omega)) (by rfl) T.l_right.g T.l_right.F.kp T.l_right.b .nil pass0 (pa_cons (pv 3) (pa_cons (pe_call G_l_number (hr.mono (by omega)) (by rfl) T.l_number.g T.l_number.F.kp T.l_number.b .nil pass0 (pa_cons (pv 1) pa_nil)) pa_nil))))) pa_nil)))) (pss_one (ps_ret pe_bl)) pss_nil)))))
      (pss_one (ps_ret pe_bl)))), ?_⟩
  walk_at "go"
  intro a c H1 ha hc k1 D1
  walk_at "go"
  refine ⟨for_range (lo := 0) (n := Int.toNat 5) (fun i σ H2 => Lp (∃ (w2 w3 w4 : Option V) (m : Int), σ = [some (.ref sa), some (.ref a), w2, w3, w4] ∧ 0 ≤ m ∧ m ≤ (i : Int) * 2000000 ∧ Deck H2 a c m)) ⟨_, _, _, 0, rfl, by omega, by omega, D1⟩ ?_ ?_⟩
  · rintro i σ H2 hi ⟨⟨w2, w3, w4, m, rfl, m0, mu, D2⟩⟩
    have hi5 : i < 5 := hi
    have hm : m ≤ 600000000 := by omega
    walk_at "go"
    intro nm L R H3 m3 hnm lr N3 ml3 mu3 D3 k3
    have hm3 : m3 ≤ 600000000 := by omega
    walk_at "go"
    intro v b H4 m4 t4 pr ml4 mu4 D4 k4
    have pnm := pr.nest
    walk_at "go"
    intro D hD
    have oD := D4.off hD
    have ac : a ∉ [D] ∧ c ∉ [D] := by
      simp only [List.mem_cons, List.not_mem_nil, or_false, not_or] at oD ⊢
      exact ⟨fun z => oD.1 z.symm, fun z => oD.2 z.symm⟩
    refine lc_range (lo := 0) (n := Int.toNat 4) (fun j X => Lp (∃ m5, m4 ≤ m5 ∧ m5 ≤ m4 + (j : Int) * 200 ∧ Deck X a c m5 ∧ Tr X (.tuple (Sm.ds b)) v ∧ X D = some (.lst ((List.replicate j true).map V.bl)))) ⟨m4, by omega, by omega, D4.kp0 (Kp.new hD), (Kp.new hD).tr t4, upd_same⟩ ?_ ?_
    · rintro j X hj ⟨⟨m5, ml5, mu5, DX, tX, dX⟩⟩
      have hj5 : j < 4 := hj
      have hm5 : m5 ≤ 600000000 := by omega
      walk_at "go"
      intro n H6 m6 n1 n2 ml6 mu6 D6 k6
      have t6 := k6.tr tX
      have d6 := k6.keep _ _ dX oD
      walk_at "go"
      intro H7 k7
      have d7 := k7.at d6
      have D7 := D6.kp0 k7
      have l7 : ((List.replicate j true).map V.bl).length < sizeLine := by
        rw [List.length_map, List.length_replicate]
        exact sz_lt (by omega)
      walk_at "go"
      have k8 := Kp.put (u := .lst ((List.replicate j true).map V.bl ++ [.bl true])) d7 (fun _ y => by cases y)
      refine ⟨m6, by omega, by rw [Int.natCast_add, Int.add_mul]; omega, D7.kp k8 ac.1 ac.2, k8.tr (k7.tr t6), ?_⟩
      rw [upd_same, List.replicate_succ', List.map_append]
      rfl
    · rintro X ⟨⟨m5, ml5, mu5, DX, tX, dX⟩⟩
      refine ⟨D, List.replicate (Int.toNat 4) true, rfl, SqL.of dX, _, rfl, ?_⟩
      refine iteF ?_
      exact ⟨_, _, _, m5, rfl, by omega, by rw [Int.natCast_add, Int.add_mul]; omega, DX⟩
  · rintro σ H3 ⟨⟨w2, w3, w4, m, rfl, m0, mu, D3⟩⟩
    walk_at "go"
    exact q H3
end
end EH
namespace EH
open PySem L2 PyProof.Rows
theorem all_mk {P : Program} {w : World} {K : PySem.W.Frag} {h : Heap} {mg : Str → Option Value} {fa : Addr} (X : K.In h) (G : h.Ns mainGlobals mg) (hfa : mg "law" = some (.ref fa))
    {C_Course : Addr}
    {f1 : Addr} {od1 an1 : Option Addr} {sl1 : Array (Option Value)} {oc1 kV1 dc1 pm1 cd1 ct1 : Value}
    {f2 : Addr} {od2 an2 : Option Addr} {sl2 : Array (Option Value)} {oc2 kV2 dc2 pm2 cd2 ct2 : Value}
    {f3 : Addr} {od3 an3 : Option Addr} {sl3 : Array (Option Value)} {oc3 kV3 dc3 pm3 cd3 ct3 : Value}
    {f4 : Addr} {od4 an4 : Option Addr} {sl4 : Array (Option Value)} {oc4 kV4 dc4 pm4 cd4 ct4 : Value}
    {f5 : Addr} {od5 an5 : Option Addr} {sl5 : Array (Option Value)} {oc5 kV5 dc5 pm5 cd5 ct5 : Value}
    {f6 : Addr} {od6 an6 : Option Addr} {sl6 : Array (Option Value)} {oc6 kV6 dc6 pm6 cd6 ct6 : Value}
    {f7 : Addr} {od7 an7 : Option Addr} {sl7 : Array (Option Value)} {oc7 kV7 dc7 pm7 cd7 ct7 : Value}
    {f8 : Addr} {od8 an8 : Option Addr} {sl8 : Array (Option Value)} {oc8 kV8 dc8 pm8 cd8 ct8 : Value}
    {f9 : Addr} {od9 an9 : Option Addr} {sl9 : Array (Option Value)} {oc9 kV9 dc9 pm9 cd9 ct9 : Value}
    {f10 : Addr} {od10 an10 : Option Addr} {sl10 : Array (Option Value)} {oc10 kV10 dc10 pm10 cd10 ct10 : Value}
    {f11 : Addr} {od11 an11 : Option Addr} {sl11 : Array (Option Value)} {oc11 kV11 dc11 pm11 cd11 ct11 : Value}
    {f12 : Addr} {od12 an12 : Option Addr} {sl12 : Array (Option Value)} {oc12 kV12 dc12 pm12 cd12 ct12 : Value}
    {f13 : Addr} {od13 an13 : Option Addr} {sl13 : Array (Option Value)} {oc13 kV13 dc13 pm13 cd13 ct13 : Value}
    {f14 : Addr} {od14 an14 : Option Addr} {sl14 : Array (Option Value)} {oc14 kV14 dc14 pm14 cd14 ct14 : Value}
    {f15 : Addr} {od15 an15 : Option Addr} {sl15 : Array (Option Value)} {oc15 kV15 dc15 pm15 cd15 ct15 : Value}
    {f16 : Addr} {od16 an16 : Option Addr} {sl16 : Array (Option Value)} {oc16 kV16 dc16 pm16 cd16 ct16 : Value}
    {f17 : Addr} {od17 an17 : Option Addr} {sl17 : Array (Option Value)} {oc17 kV17 dc17 pm17 cd17 ct17 : Value}
    {f18 : Addr} {od18 an18 : Option Addr} {sl18 : Array (Option Value)} {oc18 kV18 dc18 pm18 cd18 ct18 : Value}
    {f19 : Addr} {od19 an19 : Option Addr} {sl19 : Array (Option Value)} {oc19 kV19 dc19 pm19 cd19 ct19 : Value}
    {f20 : Addr} {od20 an20 : Option Addr} {sl20 : Array (Option Value)} {oc20 kV20 dc20 pm20 cd20 ct20 : Value}
    {f21 : Addr} {od21 an21 : Option Addr} {sl21 : Array (Option Value)} {oc21 kV21 dc21 pm21 cd21 ct21 : Value}
    {f22 : Addr} {od22 an22 : Option Addr} {sl22 : Array (Option Value)} {oc22 kV22 dc22 pm22 cd22 ct22 : Value}
    {f23 : Addr} {od23 an23 : Option Addr} {sl23 : Array (Option Value)} {oc23 kV23 dc23 pm23 cd23 ct23 : Value}
    {f24 : Addr} {od24 an24 : Option Addr} {sl24 : Array (Option Value)} {oc24 kV24 dc24 pm24 cd24 ct24 : Value}
    {f25 : Addr} {od25 an25 : Option Addr} {sl25 : Array (Option Value)} {oc25 kV25 dc25 pm25 cd25 ct25 : Value}
    {f26 : Addr} {od26 an26 : Option Addr} {sl26 : Array (Option Value)} {oc26 kV26 dc26 pm26 cd26 ct26 : Value}
    {f27 : Addr} {od27 an27 : Option Addr} {sl27 : Array (Option Value)} {oc27 kV27 dc27 pm27 cd27 ct27 : Value}
    {f28 : Addr} {od28 an28 : Option Addr} {sl28 : Array (Option Value)} {oc28 kV28 dc28 pm28 cd28 ct28 : Value}
    {f29 : Addr} {od29 an29 : Option Addr} {sl29 : Array (Option Value)} {oc29 kV29 dc29 pm29 cd29 ct29 : Value}
    {t_DOWN : Tok}
    {t_INPUT : Tok}
    (aC_Course : PySem.W.nsIn K mainGlobals "Course" = some (some (.ref C_Course)))
    (pg_Course : PySem.W.plainGet K C_Course Str.empty = true)
    (hd_Course : PySem.W.hasDictIn K C_Course = true)
    (po_Course : PySem.W.plainOver K C_Course = true)
    (sa_Course : PySem.W.findIn K (.ref C_Course) "__setattr__" = some (some (.builtin "object.__setattr__")))
    (mk_Course : PySem.W.makesIn K C_Course = true)
    (kc_Course : PySem.W.keepIn K (.ref C_Course) = true)
    (a1 : PySem.W.nsIn K mainGlobals "blocks_of" = some (some (.ref f1)))
    (l1 : K.lookup f1 = some ⟨oc1, od1, .func (PySem.W.fnOf "blocks_of" "blocks_of" (defArgs s_blocks_of) (defBody s_blocks_of) (defScope s_blocks_of) .none kV1 dc1 pm1 an1 cd1 ct1), sl1⟩)
    (c1 : PySem.W.codeIn K cd1 "blocks_of" = true)
    (k1 : PySem.W.keepIn K (.ref f1) = true)
    (a2 : PySem.W.nsIn K mainGlobals "places_in" = some (some (.ref f2)))
    (l2 : K.lookup f2 = some ⟨oc2, od2, .func (PySem.W.fnOf "places_in" "places_in" (defArgs s_places_in) (defBody s_places_in) (defScope s_places_in) .none kV2 dc2 pm2 an2 cd2 ct2), sl2⟩)
    (c2 : PySem.W.codeIn K cd2 "places_in" = true)
    (k2 : PySem.W.keepIn K (.ref f2) = true)
    (a3 : PySem.W.nsIn K mainGlobals "value_of" = some (some (.ref f3)))
    (l3 : K.lookup f3 = some ⟨oc3, od3, .func (PySem.W.fnOf "value_of" "value_of" (defArgs s_value_of) (defBody s_value_of) (defScope s_value_of) .none kV3 dc3 pm3 an3 cd3 ct3), sl3⟩)
    (c3 : PySem.W.codeIn K cd3 "value_of" = true)
    (k3 : PySem.W.keepIn K (.ref f3) = true)
    (a4 : PySem.W.nsIn K mainGlobals "is_true" = some (some (.ref f4)))
    (l4 : K.lookup f4 = some ⟨oc4, od4, .func (PySem.W.fnOf "is_true" "is_true" (defArgs s_is_true) (defBody s_is_true) (defScope s_is_true) .none kV4 dc4 pm4 an4 cd4 ct4), sl4⟩)
    (c4 : PySem.W.codeIn K cd4 "is_true" = true)
    (k4 : PySem.W.keepIn K (.ref f4) = true)
    (a5 : PySem.W.findIn K (.ref C_Course) "__init__" = some (some (.ref f5)))
    (i5 : PySem.W.isFn K (.ref f5) = true)
    (l5 : K.lookup f5 = some ⟨oc5, od5, .func (PySem.W.fnOf "__init__" "Course.__init__" (defArgs s_Course_init) (defBody s_Course_init) (defScope s_Course_init) .none kV5 dc5 pm5 an5 cd5 ct5), sl5⟩)
    (c5 : PySem.W.codeIn K cd5 "Course.__init__" = true)
    (k5 : PySem.W.keepIn K (.ref f5) = true)
    (a6 : PySem.W.findIn K (.ref C_Course) "choice" = some (some (.ref f6)))
    (i6 : PySem.W.isFn K (.ref f6) = true)
    (l6 : K.lookup f6 = some ⟨oc6, od6, .func (PySem.W.fnOf "choice" "Course.choice" (defArgs s_Course_choice) (defBody s_Course_choice) (defScope s_Course_choice) .none kV6 dc6 pm6 an6 cd6 ct6), sl6⟩)
    (c6 : PySem.W.codeIn K cd6 "Course.choice" = true)
    (k6 : PySem.W.keepIn K (.ref f6) = true)
    (a7 : PySem.W.findIn K (.ref C_Course) "halved" = some (some (.ref f7)))
    (i7 : PySem.W.isFn K (.ref f7) = true)
    (l7 : K.lookup f7 = some ⟨oc7, od7, .func (PySem.W.fnOf "halved" "Course.halved" (defArgs s_Course_halved) (defBody s_Course_halved) (defScope s_Course_halved) .none kV7 dc7 pm7 an7 cd7 ct7), sl7⟩)
    (c7 : PySem.W.codeIn K cd7 "Course.halved" = true)
    (k7 : PySem.W.keepIn K (.ref f7) = true)
    (a8 : PySem.W.findIn K (.ref C_Course) "do" = some (some (.ref f8)))
    (i8 : PySem.W.isFn K (.ref f8) = true)
    (l8 : K.lookup f8 = some ⟨oc8, od8, .func (PySem.W.fnOf "do" "Course.do" (defArgs s_Course_do) (defBody s_Course_do) (defScope s_Course_do) .none kV8 dc8 pm8 an8 cd8 ct8), sl8⟩)
    (c8 : PySem.W.codeIn K cd8 "Course.do" = true)
    (k8 : PySem.W.keepIn K (.ref f8) = true)
    (a9 : PySem.W.findIn K (.ref C_Course) "parts" = some (some (.ref f9)))
    (i9 : PySem.W.isFn K (.ref f9) = true)
    (l9 : K.lookup f9 = some ⟨oc9, od9, .func (PySem.W.fnOf "parts" "Course.parts" (defArgs s_Course_parts) (defBody s_Course_parts) (defScope s_Course_parts) .none kV9 dc9 pm9 an9 cd9 ct9), sl9⟩)
    (c9 : PySem.W.codeIn K cd9 "Course.parts" = true)
    (k9 : PySem.W.keepIn K (.ref f9) = true)
    (a10 : PySem.W.findIn K (.ref C_Course) "go" = some (some (.ref f10)))
    (i10 : PySem.W.isFn K (.ref f10) = true)
    (l10 : K.lookup f10 = some ⟨oc10, od10, .func (PySem.W.fnOf "go" "Course.go" (defArgs s_Course_go) (defBody s_Course_go) (defScope s_Course_go) .none kV10 dc10 pm10 an10 cd10 ct10), sl10⟩)
    (c10 : PySem.W.codeIn K cd10 "Course.go" = true)
    (k10 : PySem.W.keepIn K (.ref f10) = true)
    (a11 : PySem.W.nsIn K mainGlobals "course_of" = some (some (.ref f11)))
    (l11 : K.lookup f11 = some ⟨oc11, od11, .func (PySem.W.fnOf "course_of" "course_of" (defArgs s_course_of) (defBody s_course_of) (defScope s_course_of) .none kV11 dc11 pm11 an11 cd11 ct11), sl11⟩)
    (c11 : PySem.W.codeIn K cd11 "course_of" = true)
    (k11 : PySem.W.keepIn K (.ref f11) = true)
    (a12 : PySem.W.nsIn K mainGlobals "run_of" = some (some (.ref f12)))
    (l12 : K.lookup f12 = some ⟨oc12, od12, .func (PySem.W.fnOf "run_of" "run_of" (defArgs s_run_of) (defBody s_run_of) (defScope s_run_of) .none kV12 dc12 pm12 an12 cd12 ct12), sl12⟩)
    (c12 : PySem.W.codeIn K cd12 "run_of" = true)
    (k12 : PySem.W.keepIn K (.ref f12) = true)
    (a13 : PySem.W.nsIn K mainGlobals "run" = some (some (.ref f13)))
    (l13 : K.lookup f13 = some ⟨oc13, od13, .func (PySem.W.fnOf "run" "run" (defArgs s_run) (defBody s_run) (defScope s_run) .none kV13 dc13 pm13 an13 cd13 ct13), sl13⟩)
    (c13 : PySem.W.codeIn K cd13 "run" = true)
    (k13 : PySem.W.keepIn K (.ref f13) = true)
    (a14 : PySem.W.nsIn K mainGlobals "next_choices" = some (some (.ref f14)))
    (l14 : K.lookup f14 = some ⟨oc14, od14, .func (PySem.W.fnOf "next_choices" "next_choices" (defArgs s_next_choices) (defBody s_next_choices) (defScope s_next_choices) .none kV14 dc14 pm14 an14 cd14 ct14), sl14⟩)
    (c14 : PySem.W.codeIn K cd14 "next_choices" = true)
    (k14 : PySem.W.keepIn K (.ref f14) = true)
    (a15 : PySem.W.nsIn K mainGlobals "runs_on" = some (some (.ref f15)))
    (l15 : K.lookup f15 = some ⟨oc15, od15, .func (PySem.W.fnOf "runs_on" "runs_on" (defArgs s_runs_on) (defBody s_runs_on) (defScope s_runs_on) .none kV15 dc15 pm15 an15 cd15 ct15), sl15⟩)
    (c15 : PySem.W.codeIn K cd15 "runs_on" = true)
    (k15 : PySem.W.keepIn K (.ref f15) = true)
    (a16 : PySem.W.nsIn K mainGlobals "each_run" = some (some (.ref f16)))
    (l16 : K.lookup f16 = some ⟨oc16, od16, .func (PySem.W.fnOf "each_run" "each_run" (defArgs s_each_run) (defBody s_each_run) (defScope s_each_run) .none kV16 dc16 pm16 an16 cd16 ct16), sl16⟩)
    (c16 : PySem.W.codeIn K cd16 "each_run" = true)
    (k16 : PySem.W.keepIn K (.ref f16) = true)
    (a17 : PySem.W.nsIn K mainGlobals "_law_deck" = some (some (.ref f17)))
    (l17 : K.lookup f17 = some ⟨oc17, od17, .func (PySem.W.fnOf "_law_deck" "_law_deck" (defArgs s_l_deck) (defBody s_l_deck) (defScope s_l_deck) .none kV17 dc17 pm17 an17 cd17 ct17), sl17⟩)
    (c17 : PySem.W.codeIn K cd17 "_law_deck" = true)
    (k17 : PySem.W.keepIn K (.ref f17) = true)
    (a18 : PySem.W.nsIn K mainGlobals "_law_draw" = some (some (.ref f18)))
    (l18 : K.lookup f18 = some ⟨oc18, od18, .func (PySem.W.fnOf "_law_draw" "_law_draw" (defArgs s_l_draw) (defBody s_l_draw) (defScope s_l_draw) .none kV18 dc18 pm18 an18 cd18 ct18), sl18⟩)
    (c18 : PySem.W.codeIn K cd18 "_law_draw" = true)
    (k18 : PySem.W.keepIn K (.ref f18) = true)
    (a19 : PySem.W.nsIn K mainGlobals "_law_one" = some (some (.ref f19)))
    (l19 : K.lookup f19 = some ⟨oc19, od19, .func (PySem.W.fnOf "_law_one" "_law_one" (defArgs s_l_one) (defBody s_l_one) (defScope s_l_one) .none kV19 dc19 pm19 an19 cd19 ct19), sl19⟩)
    (c19 : PySem.W.codeIn K cd19 "_law_one" = true)
    (k19 : PySem.W.keepIn K (.ref f19) = true)
    (a20 : PySem.W.nsIn K mainGlobals "_law_names" = some (some (.ref f20)))
    (l20 : K.lookup f20 = some ⟨oc20, od20, .func (PySem.W.fnOf "_law_names" "_law_names" (defArgs s_l_names) (defBody s_l_names) (defScope s_l_names) .none kV20 dc20 pm20 an20 cd20 ct20), sl20⟩)
    (c20 : PySem.W.codeIn K cd20 "_law_names" = true)
    (k20 : PySem.W.keepIn K (.ref f20) = true)
    (a21 : PySem.W.nsIn K mainGlobals "_law_expression" = some (some (.ref f21)))
    (l21 : K.lookup f21 = some ⟨oc21, od21, .func (PySem.W.fnOf "_law_expression" "_law_expression" (defArgs s_l_expression) (defBody s_l_expression) (defScope s_l_expression) .none kV21 dc21 pm21 an21 cd21 ct21), sl21⟩)
    (c21 : PySem.W.codeIn K cd21 "_law_expression" = true)
    (k21 : PySem.W.keepIn K (.ref f21) = true)
    (a22 : PySem.W.nsIn K mainGlobals "_law_test" = some (some (.ref f22)))
    (l22 : K.lookup f22 = some ⟨oc22, od22, .func (PySem.W.fnOf "_law_test" "_law_test" (defArgs s_l_test) (defBody s_l_test) (defScope s_l_test) .none kV22 dc22 pm22 an22 cd22 ct22), sl22⟩)
    (c22 : PySem.W.codeIn K cd22 "_law_test" = true)
    (k22 : PySem.W.keepIn K (.ref f22) = true)
    (a23 : PySem.W.nsIn K mainGlobals "_law_plain" = some (some (.ref f23)))
    (l23 : K.lookup f23 = some ⟨oc23, od23, .func (PySem.W.fnOf "_law_plain" "_law_plain" (defArgs s_l_plain) (defBody s_l_plain) (defScope s_l_plain) .none kV23 dc23 pm23 an23 cd23 ct23), sl23⟩)
    (c23 : PySem.W.codeIn K cd23 "_law_plain" = true)
    (k23 : PySem.W.keepIn K (.ref f23) = true)
    (a24 : PySem.W.nsIn K mainGlobals "_law_row" = some (some (.ref f24)))
    (l24 : K.lookup f24 = some ⟨oc24, od24, .func (PySem.W.fnOf "_law_row" "_law_row" (defArgs s_l_row) (defBody s_l_row) (defScope s_l_row) .none kV24 dc24 pm24 an24 cd24 ct24), sl24⟩)
    (c24 : PySem.W.codeIn K cd24 "_law_row" = true)
    (k24 : PySem.W.keepIn K (.ref f24) = true)
    (a25 : PySem.W.nsIn K mainGlobals "_law_block" = some (some (.ref f25)))
    (l25 : K.lookup f25 = some ⟨oc25, od25, .func (PySem.W.fnOf "_law_block" "_law_block" (defArgs s_l_block) (defBody s_l_block) (defScope s_l_block) .none kV25 dc25 pm25 an25 cd25 ct25), sl25⟩)
    (c25 : PySem.W.codeIn K cd25 "_law_block" = true)
    (k25 : PySem.W.keepIn K (.ref f25) = true)
    (a26 : PySem.W.nsIn K mainGlobals "_law_program" = some (some (.ref f26)))
    (l26 : K.lookup f26 = some ⟨oc26, od26, .func (PySem.W.fnOf "_law_program" "_law_program" (defArgs s_l_program) (defBody s_l_program) (defScope s_l_program) .none kV26 dc26 pm26 an26 cd26 ct26), sl26⟩)
    (c26 : PySem.W.codeIn K cd26 "_law_program" = true)
    (k26 : PySem.W.keepIn K (.ref f26) = true)
    (a27 : PySem.W.nsIn K mainGlobals "_law_number" = some (some (.ref f27)))
    (l27 : K.lookup f27 = some ⟨oc27, od27, .func (PySem.W.fnOf "_law_number" "_law_number" (defArgs s_l_number) (defBody s_l_number) (defScope s_l_number) .none kV27 dc27 pm27 an27 cd27 ct27), sl27⟩)
    (c27 : PySem.W.codeIn K cd27 "_law_number" = true)
    (k27 : PySem.W.keepIn K (.ref f27) = true)
    (a28 : PySem.W.nsIn K mainGlobals "_law_right" = some (some (.ref f28)))
    (l28 : K.lookup f28 = some ⟨oc28, od28, .func (PySem.W.fnOf "_law_right" "_law_right" (defArgs s_l_right) (defBody s_l_right) (defScope s_l_right) .none kV28 dc28 pm28 an28 cd28 ct28), sl28⟩)
    (c28 : PySem.W.codeIn K cd28 "_law_right" = true)
    (k28 : PySem.W.keepIn K (.ref f28) = true)
    (a29 : PySem.W.nsIn K mainGlobals "law" = some (some (.ref f29)))
    (l29 : K.lookup f29 = some ⟨oc29, od29, .func (PySem.W.fnOf "law" "law" (defArgs s_law) (defBody s_law) (defScope s_law) .none kV29 dc29 pm29 an29 cd29 ct29), sl29⟩)
    (c29 : PySem.W.codeIn K cd29 "law" = true)
    (k29 : PySem.W.keepIn K (.ref f29) = true)
    (n_Course_names : PySem.W.findIn K (.ref C_Course) "names" = some none)
    (n_Course_said : PySem.W.findIn K (.ref C_Course) "said" = some none)
    (n_Course_turns : PySem.W.findIn K (.ref C_Course) "turns" = some none)
    (n_Course_choices : PySem.W.findIn K (.ref C_Course) "choices" = some none)
    (n_Course_ways : PySem.W.findIn K (.ref C_Course) "ways" = some none)
    (n_Course_rule : PySem.W.findIn K (.ref C_Course) "rule" = some none)
    (g_DOWN : PySem.W.nsIn K mainGlobals "DOWN" = some (some (.int 0 t_DOWN)))
    (g_INPUT : PySem.W.nsIn K mainGlobals "INPUT" = some (some (.str "n" t_INPUT)))
    (z_abs : PySem.W.nsIn K mainGlobals "abs" = some none)
    (z_all : PySem.W.nsIn K mainGlobals "all" = some none)
    (z_int : PySem.W.nsIn K mainGlobals "int" = some none)
    (z_isinstance : PySem.W.nsIn K mainGlobals "isinstance" = some none)
    (z_len : PySem.W.nsIn K mainGlobals "len" = some none)
    (z_list : PySem.W.nsIn K mainGlobals "list" = some none)
    (z_max : PySem.W.nsIn K mainGlobals "max" = some none)
    (z_range : PySem.W.nsIn K mainGlobals "range" = some none)
    (z_repr : PySem.W.nsIn K mainGlobals "repr" = some none)
    (z_set : PySem.W.nsIn K mainGlobals "set" = some none)
    (z_sorted : PySem.W.nsIn K mainGlobals "sorted" = some none)
    (z_str : PySem.W.nsIn K mainGlobals "str" = some none)
    (z_sum : PySem.W.nsIn K mainGlobals "sum" = some none)
    (z_tuple : PySem.W.nsIn K mainGlobals "tuple" = some none)
    (z_zip : PySem.W.nsIn K mainGlobals "zip" = some none) :
    ∃ fd : FuncData, (∀ (s : Shared) (v : Value), BindsTo s fd ⟨[v], []⟩ [("_law_script", v)]) ∧ ∀ base : Heap, K.In base → base.Ns mainGlobals mg → FnG P w K mg base CX0 33 fa fd ["_law_script"] (spLaw K) := by
  have e := hfa.symm.trans (PySem.W.mg_of X G a29)
  cases e
  have F1 := fun_mk (st := s_blocks_of) l1 c1 k1
  have b1 := F1.binds (ps := ["statement"]) fun _ _ _ _ _ _ us hl => match us, hl with | [_], _ => rfl
  have F2 := fun_mk (st := s_places_in) l2 c2 k2
  have b2 := F2.binds (ps := ["statement"]) fun _ _ _ _ _ _ us hl => match us, hl with | [_], _ => rfl
  have F3 := fun_mk (st := s_value_of) l3 c3 k3
  have b3 := F3.binds (ps := ["expression", "names"]) fun _ _ _ _ _ _ us hl => match us, hl with | [_, _], _ => rfl
  have F4 := fun_mk (st := s_is_true) l4 c4 k4
  have b4 := F4.binds (ps := ["test", "names"]) fun _ _ _ _ _ _ us hl => match us, hl with | [_, _], _ => rfl
  have F5 := fun_mk (st := s_Course_init) l5 c5 k5
  have b5 := F5.binds (ps := ["self", "number", "choices", "ways", "rule"]) fun _ _ _ _ _ _ us hl => match us, hl with | [_, _, _, _, _], _ => rfl
  have F6 := fun_mk (st := s_Course_choice) l6 c6 k6
  have b6 := F6.binds (ps := ["self", "value", "place"]) fun _ _ _ _ _ _ us hl => match us, hl with | [_, _, _], _ => rfl
  have F7 := fun_mk (st := s_Course_halved) l7 c7 k7
  have b7 := F7.binds (ps := ["self", "value", "place"]) fun _ _ _ _ _ _ us hl => match us, hl with | [_, _, _], _ => rfl
  have F8 := fun_mk (st := s_Course_do) l8 c8 k8
  have b8 := F8.binds (ps := ["self", "statement", "place"]) fun _ _ _ _ _ _ us hl => match us, hl with | [_, _, _], _ => rfl
  have F9 := fun_mk (st := s_Course_parts) l9 c9 k9
  have b9 := F9.binds (ps := ["self", "statement", "place"]) fun _ _ _ _ _ _ us hl => match us, hl with | [_, _, _], _ => rfl
  have F10 := fun_mk (st := s_Course_go) l10 c10 k10
  have b10 := F10.binds (ps := ["self", "block", "place"]) fun _ _ _ _ _ _ us hl => match us, hl with | [_, _, _], _ => rfl
  have F11 := fun_mk (st := s_course_of) l11 c11 k11
  have b11 := F11.binds (ps := ["program", "number", "choices", "ways", "rule"]) fun _ _ _ _ _ _ us hl => match us, hl with | [_, _, _, _, _], _ => rfl
  have F12 := fun_mk (st := s_run_of) l12 c12 k12
  have b12 := F12.binds (ps := ["program", "number", "choices", "ways"]) fun _ _ _ _ _ _ us hl => match us, hl with | [_, _, _, _], _ => rfl
  have F13 := fun_mk (st := s_run) l13 c13 k13
  have b13 := F13.binds (ps := ["program", "number", "choices"]) fun _ _ _ _ _ _ us hl => match us, hl with | [_, _, _], _ => rfl
  have F14 := fun_mk (st := s_next_choices) l14 c14 k14
  have b14 := F14.binds (ps := ["turns"]) fun _ _ _ _ _ _ us hl => match us, hl with | [_], _ => rfl
  have F15 := fun_mk (st := s_runs_on) l15 c15 k15
  have b15 := F15.binds (ps := ["program", "number", "ways"]) fun _ _ _ _ _ _ us hl => match us, hl with | [_, _, _], _ => rfl
  have F16 := fun_mk (st := s_each_run) l16 c16 k16
  have b16 := F16.binds (ps := ["program", "number"]) fun _ _ _ _ _ _ us hl => match us, hl with | [_, _], _ => rfl
  have F17 := fun_mk (st := s_l_deck) l17 c17 k17
  have b17 := F17.binds (ps := ["_law_script"]) fun _ _ _ _ _ _ us hl => match us, hl with | [_], _ => rfl
  have F18 := fun_mk (st := s_l_draw) l18 c18 k18
  have b18 := F18.binds (ps := ["_law_deck_here", "_law_many"]) fun _ _ _ _ _ _ us hl => match us, hl with | [_, _], _ => rfl
  have F19 := fun_mk (st := s_l_one) l19 c19 k19
  have b19 := F19.binds (ps := ["_law_deck_here", "_law_items"]) fun _ _ _ _ _ _ us hl => match us, hl with | [_, _], _ => rfl
  have F20 := fun_mk (st := s_l_names) l20 c20 k20
  have b20 := F20.binds (ps := ["_law_deck_here"]) fun _ _ _ _ _ _ us hl => match us, hl with | [_], _ => rfl
  have F21 := fun_mk (st := s_l_expression) l21 c21 k21
  have b21 := F21.binds (ps := ["_law_deck_here", "_law_names_here", "_law_deep"]) fun _ _ _ _ _ _ us hl => match us, hl with | [_, _, _], _ => rfl
  have F22 := fun_mk (st := s_l_test) l22 c22 k22
  have b22 := F22.binds (ps := ["_law_deck_here", "_law_names_here", "_law_left", "_law_times"]) fun _ _ _ _ _ _ us hl => match us, hl with | [_, _, _, _], _ => rfl
  have F23 := fun_mk (st := s_l_plain) l23 c23 k23
  have b23 := F23.binds (ps := ["_law_deck_here", "_law_names_here", "_law_left", "_law_times"]) fun _ _ _ _ _ _ us hl => match us, hl with | [_, _, _, _], _ => rfl
  have F24 := fun_mk (st := s_l_row) l24 c24 k24
  have b24 := F24.binds (ps := ["_law_deck_here", "_law_names_here", "_law_left", "_law_times", "_law_depth"]) fun _ _ _ _ _ _ us hl => match us, hl with | [_, _, _, _, _], _ => rfl
  have F25 := fun_mk (st := s_l_block) l25 c25 k25
  have b25 := F25.binds (ps := ["_law_deck_here", "_law_names_here", "_law_left", "_law_times", "_law_depth"]) fun _ _ _ _ _ _ us hl => match us, hl with | [_, _, _, _, _], _ => rfl
  have F26 := fun_mk (st := s_l_program) l26 c26 k26
  have b26 := F26.binds (ps := ["_law_deck_here", "_law_names_here"]) fun _ _ _ _ _ _ us hl => match us, hl with | [_, _], _ => rfl
  have F27 := fun_mk (st := s_l_number) l27 c27 k27
  have b27 := F27.binds (ps := ["_law_deck_here"]) fun _ _ _ _ _ _ us hl => match us, hl with | [_], _ => rfl
  have F28 := fun_mk (st := s_l_right) l28 c28 k28
  have b28 := F28.binds (ps := ["_law_program_here", "_law_number_here"]) fun _ _ _ _ _ _ us hl => match us, hl with | [_, _], _ => rfl
  have F29 := fun_mk (st := s_law) l29 c29 k29
  have b29 := F29.binds (ps := ["_law_script"]) fun _ _ _ _ _ _ us hl => match us, hl with | [_], _ => rfl
  refine ⟨PySem.W.fnOf "law" "law" (defArgs s_law) (defBody s_law) (defScope s_law) .none kV29 dc29 pm29 an29 cd29 ct29, fun s v => .of_eq rfl, fun base _ _ => ok_law (P := P) (w := w) (base := base) (T := { blocks_of := ⟨_, _, F1, b1, PySem.W.mg_of X G a1⟩, places_in := ⟨_, _, F2, b2, PySem.W.mg_of X G a2⟩, value_of := ⟨_, _, F3, b3, PySem.W.mg_of X G a3⟩, is_true := ⟨_, _, F4, b4, PySem.W.mg_of X G a4⟩, Course_init := ⟨_, _, F5, b5, ⟨a5, i5, k5⟩⟩, mk_Course := ⟨mk_Course, a5, i5, kc_Course⟩, Course_choice := ⟨_, _, F6, b6, ⟨a6, i6, k6⟩⟩, Course_halved := ⟨_, _, F7, b7, ⟨a7, i7, k7⟩⟩, Course_do := ⟨_, _, F8, b8, ⟨a8, i8, k8⟩⟩, Course_parts := ⟨_, _, F9, b9, ⟨a9, i9, k9⟩⟩, Course_go := ⟨_, _, F10, b10, ⟨a10, i10, k10⟩⟩, course_of := ⟨_, _, F11, b11, PySem.W.mg_of X G a11⟩, run_of := ⟨_, _, F12, b12, PySem.W.mg_of X G a12⟩, run := ⟨_, _, F13, b13, PySem.W.mg_of X G a13⟩, next_choices := ⟨_, _, F14, b14, PySem.W.mg_of X G a14⟩, runs_on := ⟨_, _, F15, b15, PySem.W.mg_of X G a15⟩, each_run := ⟨_, _, F16, b16, PySem.W.mg_of X G a16⟩, l_deck := ⟨_, _, F17, b17, PySem.W.mg_of X G a17⟩, l_draw := ⟨_, _, F18, b18, PySem.W.mg_of X G a18⟩, l_one := ⟨_, _, F19, b19, PySem.W.mg_of X G a19⟩, l_names := ⟨_, _, F20, b20, PySem.W.mg_of X G a20⟩, l_expression := ⟨_, _, F21, b21, PySem.W.mg_of X G a21⟩, l_test := ⟨_, _, F22, b22, PySem.W.mg_of X G a22⟩, l_plain := ⟨_, _, F23, b23, PySem.W.mg_of X G a23⟩, l_row := ⟨_, _, F24, b24, PySem.W.mg_of X G a24⟩, l_block := ⟨_, _, F25, b25, PySem.W.mg_of X G a25⟩, l_program := ⟨_, _, F26, b26, PySem.W.mg_of X G a26⟩, l_number := ⟨_, _, F27, b27, PySem.W.mg_of X G a27⟩, l_right := ⟨_, _, F28, b28, PySem.W.mg_of X G a28⟩, law := ⟨_, _, F29, b29, PySem.W.mg_of X G a29⟩, Course := ⟨C_Course, ⟨pg_Course, hd_Course, po_Course, sa_Course⟩, PySem.W.mg_of X G aC_Course, mk_Course, kc_Course⟩, n_Course_names := n_Course_names, n_Course_said := n_Course_said, n_Course_turns := n_Course_turns, n_Course_choices := n_Course_choices, n_Course_ways := n_Course_ways, n_Course_rule := n_Course_rule, t_DOWN := t_DOWN, g_DOWN := PySem.W.mg_of X G g_DOWN, t_INPUT := t_INPUT, g_INPUT := PySem.W.mg_of X G g_INPUT, abs := PySem.W.mg_none_of X G z_abs, all := PySem.W.mg_none_of X G z_all, int := PySem.W.mg_none_of X G z_int, isinstance := PySem.W.mg_none_of X G z_isinstance, len := PySem.W.mg_none_of X G z_len, list := PySem.W.mg_none_of X G z_list, max := PySem.W.mg_none_of X G z_max, range := PySem.W.mg_none_of X G z_range, repr := PySem.W.mg_none_of X G z_repr, set := PySem.W.mg_none_of X G z_set, sorted := PySem.W.mg_none_of X G z_sorted, str := PySem.W.mg_none_of X G z_str, sum := PySem.W.mg_none_of X G z_sum, tuple := PySem.W.mg_none_of X G z_tuple, zip := PySem.W.mg_none_of X G z_zip })⟩
end EH
open PySem PySem.W PyProof.Rows
set_option maxRecDepth 100000 in
set_option maxHeartbeats 0 in
theorem PySem.Challenge.cw_eitherhalf_k36_whole_trees_of_turns_holds : PySem.Challenge.rw_eitherhalf_k36_whole_trees_of_turns.Holds := by
  w_on; o_law; k_head; (case hw => w_witness2)
  k_fill
  refine EH.walk_ofG (l := PySem.Challenge.rw_eitherhalf_k36_whole_trees_of_turns) (n := 63) (k := 33) (x := "_law_script") (sp := EH.spLaw) rfl (by decide) rfl ⟨rfl, by decide, by decide⟩ (fun w h Y => PySem.W.kIn_of Y) ?F (fun K H a ns hl hS => ⟨a, ns, rfl, hS, hl, fun _ => rfl⟩)
  case F =>
    intro w mg fa h KX G hmg
    refine' EH.all_mk KX G hmg ?aC_Course ?pg_Course ?hd_Course ?po_Course ?sa_Course ?mk_Course ?kc_Course ?a1 ?l1 ?c1 ?k1 ?a2 ?l2 ?c2 ?k2 ?a3 ?l3 ?c3 ?k3 ?a4 ?l4 ?c4 ?k4 ?a5 ?i5 ?l5 ?c5 ?k5 ?a6 ?i6 ?l6 ?c6 ?k6 ?a7 ?i7 ?l7 ?c7 ?k7 ?a8 ?i8 ?l8 ?c8 ?k8 ?a9 ?i9 ?l9 ?c9 ?k9 ?a10 ?i10 ?l10 ?c10 ?k10 ?a11 ?l11 ?c11 ?k11 ?a12 ?l12 ?c12 ?k12 ?a13 ?l13 ?c13 ?k13 ?a14 ?l14 ?c14 ?k14 ?a15 ?l15 ?c15 ?k15 ?a16 ?l16 ?c16 ?k16 ?a17 ?l17 ?c17 ?k17 ?a18 ?l18 ?c18 ?k18 ?a19 ?l19 ?c19 ?k19 ?a20 ?l20 ?c20 ?k20 ?a21 ?l21 ?c21 ?k21 ?a22 ?l22 ?c22 ?k22 ?a23 ?l23 ?c23 ?k23 ?a24 ?l24 ?c24 ?k24 ?a25 ?l25 ?c25 ?k25 ?a26 ?l26 ?c26 ?k26 ?a27 ?l27 ?c27 ?k27 ?a28 ?l28 ?c28 ?k28 ?a29 ?l29 ?c29 ?k29 ?n_Course_names ?n_Course_said ?n_Course_turns ?n_Course_choices ?n_Course_ways ?n_Course_rule ?g_DOWN ?g_INPUT ?z_abs ?z_all ?z_int ?z_isinstance ?z_len ?z_list ?z_max ?z_range ?z_repr ?z_set ?z_sorted ?z_str ?z_sum ?z_tuple ?z_zip
    (case aC_Course => k_is); (case pg_Course => k_is); (case hd_Course => k_is); (case po_Course => k_is); (case sa_Course => k_is); (case mk_Course => k_is)
    (case kc_Course => k_is); (case a1 => k_is); (case l1 => k_is); (case c1 => k_is); (case k1 => k_is); (case a2 => k_is)
    (case l2 => k_is); (case c2 => k_is); (case k2 => k_is); (case a3 => k_is); (case l3 => k_is); (case c3 => k_is)
    (case k3 => k_is); (case a4 => k_is); (case l4 => k_is); (case c4 => k_is); (case k4 => k_is); (case a5 => k_is)
    (case i5 => k_is); (case l5 => k_is); (case c5 => k_is); (case k5 => k_is); (case a6 => k_is); (case i6 => k_is)
    (case l6 => k_is); (case c6 => k_is); (case k6 => k_is); (case a7 => k_is); (case i7 => k_is); (case l7 => k_is)
    (case c7 => k_is); (case k7 => k_is); (case a8 => k_is); (case i8 => k_is); (case l8 => k_is); (case c8 => k_is)
    (case k8 => k_is); (case a9 => k_is); (case i9 => k_is); (case l9 => k_is); (case c9 => k_is); (case k9 => k_is)
    (case a10 => k_is); (case i10 => k_is); (case l10 => k_is); (case c10 => k_is); (case k10 => k_is); (case a11 => k_is)
    (case l11 => k_is); (case c11 => k_is); (case k11 => k_is); (case a12 => k_is); (case l12 => k_is); (case c12 => k_is)
    (case k12 => k_is); (case a13 => k_is); (case l13 => k_is); (case c13 => k_is); (case k13 => k_is); (case a14 => k_is)
    (case l14 => k_is); (case c14 => k_is); (case k14 => k_is); (case a15 => k_is); (case l15 => k_is); (case c15 => k_is)
    (case k15 => k_is); (case a16 => k_is); (case l16 => k_is); (case c16 => k_is); (case k16 => k_is); (case a17 => k_is)
    (case l17 => k_is); (case c17 => k_is); (case k17 => k_is); (case a18 => k_is); (case l18 => k_is); (case c18 => k_is)
    (case k18 => k_is); (case a19 => k_is); (case l19 => k_is); (case c19 => k_is); (case k19 => k_is); (case a20 => k_is)
    (case l20 => k_is); (case c20 => k_is); (case k20 => k_is); (case a21 => k_is); (case l21 => k_is); (case c21 => k_is)
    (case k21 => k_is); (case a22 => k_is); (case l22 => k_is); (case c22 => k_is); (case k22 => k_is); (case a23 => k_is)
    (case l23 => k_is); (case c23 => k_is); (case k23 => k_is); (case a24 => k_is); (case l24 => k_is); (case c24 => k_is)
    (case k24 => k_is); (case a25 => k_is); (case l25 => k_is); (case c25 => k_is); (case k25 => k_is); (case a26 => k_is)
    (case l26 => k_is); (case c26 => k_is); (case k26 => k_is); (case a27 => k_is); (case l27 => k_is); (case c27 => k_is)
    (case k27 => k_is); (case a28 => k_is); (case l28 => k_is); (case c28 => k_is); (case k28 => k_is); (case a29 => k_is)
    (case l29 => k_is); (case c29 => k_is); (case k29 => k_is); (case n_Course_names => k_is); (case n_Course_said => k_is); (case n_Course_turns => k_is)
    (case n_Course_choices => k_is); (case n_Course_ways => k_is); (case n_Course_rule => k_is); (case g_DOWN => k_is); (case g_INPUT => k_is); (case z_abs => k_is)
    (case z_all => k_is); (case z_int => k_is); (case z_isinstance => k_is); (case z_len => k_is); (case z_list => k_is); (case z_max => k_is)
    (case z_range => k_is); (case z_repr => k_is); (case z_set => k_is); (case z_sorted => k_is); (case z_str => k_is); (case z_sum => k_is)
    (case z_tuple => k_is); (case z_zip => k_is)
#print axioms PySem.Challenge.cw_eitherhalf_k36_whole_trees_of_turns_holds
