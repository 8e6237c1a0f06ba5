import PyProof.Rows.All
import Wide.All
import OpenK.AllK
import Wide.FinOn
import HandS.ForMost
import HandS.Wide
import HandS.TupAny
import HandS.TupMul
import HandS.IsInst
import HandS.Codes
import HandS.Deep
import HandS.Text
import HandS.Style
import HandS.Iter
import HandS.Walk
import HandS.ExcValue
import HandS.ExcOwn
import KE.SortData
import HandS.Conv
import KE.KDictList
import PyProof.P3In
import PySem.Challenge.RW_eitherhalf_k40_whole_programs_renamed
set_option Elab.async false
set_option linter.all false
set_option maxRecDepth 100000
set_option maxHeartbeats 4000000
namespace EH
open PySem L2

/-! ### what is kept but for some addresses -/
structure Kp (S : List Addr) (H H' : Hp) : Prop where
  keep : ∀ b o, H b = some o → b ∉ S → H' b = some o
  tup : ∀ b xs, H b = some (.tup xs) → H' b = some (.tup xs)
  ext : ∀ b φ, H b = some (.ext φ) → H' b = some (.ext φ)
theorem Kp.refl {S : List Addr} {H : Hp} : Kp S H H := ⟨fun _ _ h _ => h, fun _ _ h => h, fun _ _ h => h⟩
theorem Kp.trans {S : List Addr} {H H1 H2 : Hp} (a : Kp S H H1) (b : Kp S H1 H2) : Kp S H H2 := ⟨fun c o h n => b.keep c o (a.keep c o h n) n, fun c xs h => b.tup c xs (a.tup c xs h), fun c φ h => b.ext c φ (a.ext c φ h)⟩
theorem Kp.sub {S S' : List Addr} {H H1 : Hp} (a : Kp S H H1) (h : ∀ b, b ∈ S → b ∈ S') : Kp S' H H1 := ⟨fun c o e n => a.keep c o e fun z => n (h c z), a.tup, a.ext⟩
theorem Kp.at {H H1 : Hp} {b : Addr} {o : HO} (a : Kp [] H H1) (h : H b = some o) : H1 b = some o := a.keep b o h (by simp)
theorem Kp.free {S : List Addr} {H H1 : Hp} {p : Addr} (a : Kp S H H1) (h : H1 p = none) (n : p ∉ S) : H p = none := by
  cases e : H p with
  | none => rfl
  | some o =>
    rw [a.keep p o e n] at h
    cases h
theorem Kp.step {S S1 : List Addr} {H H1 H2 : Hp} (a : Kp S H H1) (b : Kp S1 H1 H2) (h : ∀ p ∈ S1, p ∈ S ∨ H p = none) : Kp S H H2 :=
  ⟨fun c o e n => b.keep c o (a.keep c o e n) fun z => (h c z).elim n fun y => (by rw [y] at e; cases e), fun c xs e => b.tup c xs (a.tup c xs e), fun c φ e => b.ext c φ (a.ext c φ e)⟩
theorem Kp.step0 {S : List Addr} {H H1 H2 : Hp} (a : Kp S H H1) (b : Kp [] H1 H2) : Kp S H H2 := a.step b fun _ z => nomatch z
theorem Kp.step1 {S : List Addr} {H H1 H2 : Hp} {p : Addr} (a : Kp S H H1) (b : Kp [p] H1 H2) (h : p ∈ S ∨ H p = none) : Kp S H H2 := a.step b fun _ z => by
  rcases List.mem_cons.mp z with rfl | z
  · exact h
  · cases z
theorem Kp.step2 {S : List Addr} {H H1 H2 : Hp} {p q : Addr} (a : Kp S H H1) (b : Kp [p, q] H1 H2) (h : p ∈ S ∨ H p = none) (h2 : q ∈ S ∨ H q = none) : Kp S H H2 := a.step b fun _ z => by
  rcases List.mem_cons.mp z with rfl | z
  · exact h
  · rcases List.mem_cons.mp z with rfl | z
    · exact h2
    · cases z
theorem Kp.new {H : Hp} {p : Addr} {u : HO} (h : H p = none) : Kp [] H (upd H p u) := ⟨fun c o e _ => by rw [upd_ne (ne_of_none e h)]; exact e, fun c o e => by rw [upd_ne (ne_of_none e h)]; exact e, fun c o e => by rw [upd_ne (ne_of_none e h)]; exact e⟩
theorem Kp.put {H : Hp} {p : Addr} {u v : HO} (h : H p = some v) (hv : ∀ xs, v ≠ .tup xs) (he : ∀ φ, v ≠ .ext φ := by intro φ z; cases z) : Kp [p] H (upd H p u) := ⟨fun c o e n => by rw [upd_ne (by intro z; subst z; exact n (by simp))]; exact e,
  fun c xs e => by rw [upd_ne (by intro z; subst z; rw [h] at e; exact hv xs (Option.some.inj e))]; exact e,
  fun c φ e => by rw [upd_ne (by intro z; subst z; rw [h] at e; exact he φ (Option.some.inj e))]; exact e⟩
theorem Kp.seq {K : PySem.W.Frag} {S : List Addr} {H H' : Hp} {a : Addr} {xs : List V} (k : Kp S H H') (h : SqL K H a xs) (n : a ∉ S) : SqL K H' a xs := by
  rcases h with (h | ⟨o, h⟩) | h
  · exact .inl (.inl (k.keep _ _ h n))
  · exact .inl (.inr ⟨o, k.keep _ _ h n⟩)
  · exact .inr h
theorem ne1 {a p : Addr} (h : a ≠ p) : a ∉ [p] := by simp [h]
theorem ne2 {a p q : Addr} (h : a ≠ p) (h2 : a ≠ q) : a ∉ [p, q] := by simp [h, h2]

/-! ### rules whose new heaps are letters -/
section
variable {X : Cx} {e : Expr} {es : List Expr} {pos : Pos}
theorem PE.imp {t t' : TE} (h : PE X e t) (i : ∀ σ H Q, t' σ H Q → t σ H Q) : PE X e t' := ⟨fun pins s σ H Q I q => h.run pins s σ H Q I (i σ H Q q)⟩
theorem OpR.imp {f : Value → Value → Sem Value} {r r' : R2} (h : OpR X f r) (i : ∀ x y H Q, r' x y H Q → r x y H Q) : OpR X f r' := fun pins s σ H x y v u Q I a b q => h pins s σ H x y v u Q I a b (i x y H Q q)
theorem CallR.imp {f : Value} {r r' : List V → Hp → VK → Prop} (h : CallR X f r) (i : ∀ xs H Q, r' xs H Q → r xs H Q) : CallR X f r' := fun pins s σ H xs us Q I a q => h pins s σ H xs us Q I a (i xs H Q q)
theorem SlR.imp {r r' : V → Option Int → Option Int → Hp → VK → Prop} (h : SlR X r) (i : ∀ x lo hi H Q, r' x lo hi H Q → r x lo hi H Q) : SlR X r' := fun pins s σ H x v vl vu lo hi sl Q I rx hs pl pu q => h pins s σ H x v vl vu lo hi sl Q I rx hs pl pu (i x lo hi H Q q)
theorem MtR.imp {id : String} {r r' : V → List V → Hp → VK → Prop} (h : MtR X id r) (i : ∀ x xs H Q, r' x xs H Q → r x xs H Q) : MtR X id r' := fun pins s σ H x xs v us Q I a b q => h pins s σ H x xs v us Q I a b (i x xs H Q q)
theorem PSet.imp {t t' : TSet} (h : PSet X t) (i : ∀ o k v H Q, t' o k v H Q → t o k v H Q) : PSet X t' := fun pins s σ H o k v ov iv u Q I a b c q => h pins s σ H o k v ov iv u Q I a b c (i o k v H Q q)
/-- a new object at p -/
def NewQ (H : Hp) (o : HO) (Q : VK) : Prop := ∀ p H2, H p = none → H2 p = some o → Kp [] H H2 → Q (.ref p) H2
theorem NewQ.to {H : Hp} {o : HO} {Q : VK} (h : NewQ H o Q) : ∀ p, H p = none → Q (.ref p) (upd H p o) := fun p hp => h p _ hp upd_same (Kp.new hp)
theorem newQ_iff {H : Hp} {o : HO} {Q : VK} (S : Prop) : (S ∧ ∀ p H2, H p = none → H2 = upd H p o → Q (.ref p) H2) = (S ∧ ∀ p, H p = none → Q (.ref p) (upd H p o)) :=
  propext ⟨fun h => ⟨h.1, fun p hp => h.2 p _ hp rfl⟩, fun h => ⟨h.1, fun p H2 hp e => e ▸ h.2 p hp⟩⟩
def tTupA (t : TA) : TE := fun σ H Q => t σ H fun xs H1 => xs.length ≤ sizeLine ∧ ∀ p H2, H1 p = none → H2 = upd H1 p (.tup xs) → Q (.ref p) H2
def tLstA (t : TA) : TE := fun σ H Q => t σ H fun xs H1 => xs.length ≤ sizeLine ∧ ∀ p H2, H1 p = none → H2 = upd H1 p (.lst xs) → Q (.ref p) H2
theorem pe_tupA {x1} {t : TA} (h : PA X es t) : PE X (.Tuple es x1 pos) (tTupA t) := PE.imp (pe_tup h) fun σ H Q q => by
  unfold tTup
  unfold tTupA at q
  simp only [newQ_iff] at q
  exact q
theorem pe_lstA {t : TA} (h : PA X es t) : PE X (.List es pos) (tLstA t) := PE.imp (pe_lst h) fun σ H Q q => by
  unfold tLst
  unfold tLstA at q
  simp only [newQ_iff] at q
  exact q
theorem new_at {H H2 : Hp} {p : Addr} {o : HO} (e : H2 = upd H p o) : H2 p = some o := by rw [e]; exact upd_same
theorem new_kp {H H2 : Hp} {p : Addr} {o : HO} (h : H p = none) (e : H2 = upd H p o) : Kp [] H H2 := by rw [e]; exact Kp.new h
/-- what follows a store at p -/
def PutQ (H : Hp) (p : Addr) (o : HO) (Q : Hp → Prop) : Prop := ∀ H2, H2 p = some o → Kp [p] H H2 → Q H2
theorem PutQ.to {H : Hp} {p : Addr} {o v : HO} {Q : Hp → Prop} (h : PutQ H p o Q) (e : H p = some v) (hv : ∀ xs, v ≠ .tup xs) (he : ∀ φ, v ≠ .ext φ := by intro φ z; cases z) : Q (upd H p o) := h _ upd_same (Kp.put e hv he)
def rSetA : TSet := fun o i v H Q => ∃ p xs k j, o = .ref p ∧ i = .int k ∧ H p = some (.lst xs) ∧ ixN xs.length k = some j ∧ PutQ H p (.lst (xs.set j v)) Q
theorem set_listA : PSet X rSetA := PSet.imp set_list fun o i v H Q ⟨p, xs, k, j, a, b, c, d, q⟩ => ⟨p, xs, k, j, a, b, c, d, q.to c (fun _ z => by cases z)⟩
def rAppendA : V → List V → Hp → VK → Prop := fun x vs H Q => ∃ l xs y, x = .ref l ∧ vs = [y] ∧ H l = some (.lst xs) ∧ xs.length < sizeLine ∧ PutQ H l (.lst (xs ++ [y])) (Q .non)
def rExtendA : V → List V → Hp → VK → Prop := fun x vs H Q => ∃ l b xs zs, x = .ref l ∧ vs = [.ref b] ∧ H l = some (.lst xs) ∧ H b = some (.lst zs) ∧ xs.length + zs.length ≤ sizeLine ∧ PutQ H l (.lst (xs ++ zs)) (Q .non)
def rCatLA : R2 := fun x y H Q => ∃ l b xs zs, x = .ref l ∧ y = .ref b ∧ H l = some (.lst xs) ∧ H b = some (.lst zs) ∧ xs.length + zs.length ≤ sizeLine ∧ NewQ H (.lst (xs ++ zs)) Q
theorem op_catL : OpR X (binaryOp .Add) rCatLA := OpR.imp op_cat fun x y H Q ⟨l, b, xs, zs, e1, e2, h1, h2, z, q⟩ => ⟨l, b, xs, zs, e1, e2, h1, h2, z, q.to⟩
def rRepA : R2 := fun x y H Q => ∃ l k xs, x = .ref l ∧ y = .int k ∧ H l = some (.lst xs) ∧ 0 ≤ k ∧ k ≤ 1000000 ∧ xs.length * k.toNat ≤ 1000000 ∧ NewQ H (.lst (List.replicate k.toNat xs).flatten) Q
theorem op_repL : OpR X (binaryOp .Mult) rRepA := OpR.imp op_rep fun x y H Q ⟨l, k, xs, e1, e2, h1, h2, h3, z, q⟩ => ⟨l, k, xs, e1, e2, h1, by omega, by omega, Nat.le_trans z (by decide), q.to⟩
/-- tuple + tuple: some tuple of both -/
def rCatTA (K : PySem.W.Frag) : R2 := fun x y H Q => ∃ a b xs ys, x = .ref a ∧ y = .ref b ∧ H a = some (.tup xs) ∧ H b = some (.tup ys) ∧ xs.length + ys.length ≤ sizeLine ∧ ∀ p H2, H2 p = some (.tup (xs ++ ys)) → Kp [] H H2 → Q (.ref p) H2
theorem op_catT2 : OpR X (binaryOp .Add) (rCatTA X.K) := OpR.imp op_catA fun x y H Q ⟨a, b, xs, ys, e1, e2, h1, h2, z, q⟩ => by
  refine ⟨a, b, xs, ys, e1, e2, SqT.of h1, SqT.of h2, z, fun e => ?_, fun _ e => ?_, fun _ _ p hp => q p _ upd_same (Kp.new hp)⟩
  · subst e; exact q b H h2 Kp.refl
  · subst e; exact q a H (by rw [List.append_nil]; exact h1) Kp.refl
def rSlLA (K : PySem.W.Frag) : V → Option Int → Option Int → Hp → VK → Prop := fun x lo hi H Q => ∃ a xs, x = .ref a ∧ SqL K H a xs ∧ NewQ H (.lst (cutV xs lo hi)) Q
theorem sl_listA : SlR X (rSlLA X.K) := SlR.imp sl_list fun x lo hi H Q ⟨a, xs, e, h, q⟩ => ⟨a, xs, e, h, q.to⟩
theorem cutV_whole {xs : List V} {lo hi : Option Int} (h : HT.sIx xs.length 0 lo = 0 ∧ HT.sIx xs.length xs.length hi = xs.length) : cutV xs lo hi = xs := by
  unfold cutV
  rw [h.1, h.2]
  simp
def rSlTA (K : PySem.W.Frag) : V → Option Int → Option Int → Hp → VK → Prop := fun x lo hi H Q => ∃ a xs, x = .ref a ∧ H a = some (.tup xs) ∧ ∀ p H2, H2 p = some (.tup (cutV xs lo hi)) → Kp [] H H2 → Q (.ref p) H2
theorem sl_tupB : SlR X (rSlTA X.K) := SlR.imp sl_tupA fun x lo hi H Q ⟨a, xs, e, h, q⟩ => by
  refine ⟨a, xs, e, SqT.of h, fun z => ?_, fun _ p hp => q p _ upd_same (Kp.new hp)⟩
  exact q a H (by rw [cutV_whole z]; exact h) Kp.refl
theorem mt_appendA : MtR X "list.append" rAppendA := MtR.imp mt_append fun x vs H Q ⟨l, xs, y, e1, e2, h1, z, q⟩ => ⟨l, xs, y, e1, e2, h1, z, q.to h1 (fun _ z => by cases z)⟩
theorem mt_extendA : MtR X "list.extend" rExtendA := MtR.imp mt_extend fun x vs H Q ⟨l, b, xs, zs, e1, e2, h1, h2, z, q⟩ => ⟨l, b, xs, zs, e1, e2, h1, h2, z, q.to h1 (fun _ z => by cases z)⟩
/-- tuple(xs) of a list: a new tuple -/
def rTupOfA (K : PySem.W.Frag) : List V → Hp → VK → Prop := fun xs H Q => ∃ p ys, xs = [.ref p] ∧ SqL K H p ys ∧ NewQ H (.tup ys) Q
theorem call_tupleA : CallR X (.type "tuple") (rTupOfA X.K) := CallR.imp call_tuple_of fun xs H Q ⟨p, ys, e, h, q⟩ => ⟨p, ys, e, .inl ⟨h, q.to⟩⟩
/-- a loop, a cut: what is said there is said by hand -/
structure Lp (p : Prop) : Prop where
  h : p
theorem Lp.eq (p : Prop) : Lp p = p := propext ⟨fun x => x.h, fun x => ⟨x⟩⟩
def tForA (wi : TI) (g : TG) (tb : TS) : TS := fun D σ H => wi σ H fun J H1 => Lp (∃ W : Nat → Nat → L2.St → Hp → Prop, (∃ m, W 0 m σ H1) ∧ ∀ i m σ H, W i m σ H →
  (J.stop i H ∧ D.nx σ H) ∨ (J.go i H ∧ ∃ N : L2.St → Hp → Prop, (∀ σ' H', N σ' H' → ∃ m', m' < m ∧ W (i + 1) m' σ' H') ∧ ∀ x H', J.yld i H x H' → g x σ H' fun σ2 H2 => tb { D with nx := N, ct := N, bk := D.nx } σ2 H2))
theorem tForA_eq (wi : TI) (g : TG) (tb : TS) : tForA wi g tb = tFor wi g tb := by
  funext D σ H
  unfold tForA tFor
  simp only [Lp.eq]
theorem ps_forA {tg iter : Expr} {body : List Stmt} {wi : TI} {g : TG} {tb : TS} (h : PS X (.For tg iter body [] pos) (tFor wi g tb)) : PS X (.For tg iter body [] pos) (tForA wi g tb) := by rw [tForA_eq]; exact h
def tWhileA (c : TT) (tb : TS) : TS := fun D σ H => Lp (tWhile c tb D σ H)
theorem ps_whileA {c : Expr} {body : List Stmt} {tc : TT} {tb : TS} (h : PS X (.While c body [] pos) (tWhile tc tb)) : PS X (.While c body [] pos) (tWhileA tc tb) := by
  have e : tWhileA tc tb = tWhile tc tb := by
    funext D σ H
    unfold tWhileA
    rw [Lp.eq]
  rw [e]
  exact h
def tCutA (t u : TS) : TS := fun D σ H => Lp (C8.tCut t u D σ H)
theorem pss_cutA {st : Stmt} {rest : List Stmt} {t u : TS} (h1 : PS X st t) (h2 : PSs X rest u) : PSs X (st :: rest) (tCutA t u) := by
  have e : tCutA t u = C8.tCut t u := by
    funext D σ H
    unfold tCutA
    rw [Lp.eq]
  rw [e]
  exact C8.pss_cut h1 h2
/-! the same rules over a written part that is told by a letter -/
variable {K : PySem.W.Frag}
theorem cr_sumK (hK : X.K = K) (hc : X.calm = true) : CallR X (.builtin "sum") (rSum K) := hK ▸ cr_sum hc
theorem ix_listK (hK : X.K = K) : IxR X (rIxL K) := hK ▸ ix_list
theorem ix_tupK (hK : X.K = K) : IxR X (rIxT K) := hK ▸ ix_tup
theorem op_in_seqK (hK : X.K = K) : OpR X (compareOp .In) (rIn K false) := hK ▸ op_in_seq
theorem op_notIn_seqK (hK : X.K = K) : OpR X (compareOp .NotIn) (rIn K true) := hK ▸ op_notIn_seq
def rLenK (K : PySem.W.Frag) : List V → Hp → VK → Prop := fun xs H Q => ∃ p ys, xs = [.ref p] ∧ (SqL K H p ys ∨ SqT K H p ys) ∧ Q (.int ys.length) H
theorem call_lenK (hK : X.K = K) : CallR X (.builtin "len") (rLenK K) := hK ▸ call_len_seq
theorem call_isiK (hK : X.K = K) : CallR X (.builtin "isinstance") (rIsi K) := hK ▸ call_isi
theorem call_tupleK (hK : X.K = K) : CallR X (.type "tuple") (rTupOfA K) := hK ▸ call_tupleA
theorem sl_listK (hK : X.K = K) : SlR X (rSlLA K) := hK ▸ sl_listA
theorem sl_tupK (hK : X.K = K) : SlR X (rSlTA K) := hK ▸ sl_tupB
theorem op_catTK (hK : X.K = K) : OpR X (binaryOp .Add) (rCatTA K) := hK ▸ op_catT2
theorem op_eqDK (hK : X.K = K) (hu : X.A.units + 64 < cLine) : OpR X (compareOp .Eq) (rEqD K) := hK ▸ op_eqD hu
theorem op_neDK (hK : X.K = K) (hu : X.A.units + 64 < cLine) : OpR X (compareOp .NotEq) (rNeD K) := hK ▸ op_neD hu
theorem pi_listK {tg l : Expr} {tl : TE} (hK : X.K = K) (hl : PE X l tl) : PI X tg l (iList K tl) := hK ▸ pi_list hl
theorem pi_tupK {tg l : Expr} {tl : TE} (hK : X.K = K) (hl : PE X l tl) : PI X tg l (iTup K tl) := hK ▸ pi_tup hl
theorem pe_bmK {T name id : String} {o e : Expr} {es : List Expr} {r : V → List V → Hp → VK → Prop} {to : TE} {t : TA} {apos cpos : Pos} (hK : X.K = K) (pa : PlainAttrs T) (slot : Slot T name id) (hty : typeOf (.builtin id) = pure (.type "method_descriptor")) (hm : MtR X id r) (ho : PE X o to) (ha : PA X (e :: es) t)
    (hbase : attributeBase o name X.env (eval o X.env) = eval o X.env := by rfl)
    (hfew : ((backTo cpos (starEach (e :: es) X.env)).all (fun x => !x.1) && (backToKw cpos (keywordEach [] X.env)).all (fun x => x.1.isSome) && decide ((e :: es).length + ([] : List Keyword).length + (if ([] : List Keyword).isEmpty then 0 else 1) < 30)) = true := by rfl)
    (hline : (apos.endLine == cpos.line) = true := by rfl) (hs : starEach (e :: es) X.env = (false, eval e X.env) :: starEach es X.env := by rfl) (hplain : (backTo cpos (starEach es X.env)).any (·.1) = false := by rfl) :
    PE X (.Call (.Attribute o name apos) (e :: es) [] cpos) (tBM K T r to t) := hK ▸ pe_bm pa slot hty hm ho ha hbase hfew hline hs hplain
/-- d[x] = e, x a text -/
def sDPutS (td ty tv : TE) : TS := fun D σ H => tv σ H fun v H1 => td σ H1 fun o H2 => ty σ H2 fun y H3 => ∃ a kvs x, o = .ref a ∧ y = .str x ∧ H3 a = some (.dK kvs) ∧ kvs.length < sizeLine ∧ ∀ H4, H4 = upd H3 a (.dK (putK kvs (Sum.inr x) v)) → D.nx σ H4
theorem ps_dputS {o i value : Expr} {td ty tv : TE} {pos' : Pos} (hu : X.A.units + 1 < cLine) (ho : PE X o td) (hi : PE X i ty) (hv : PE X value tv) (hs : swapsWith value (some (.Subscript o i pos')) pos.line X.env = pure false := by rfl) : PS X (.Assign [.Subscript o i pos'] value pos) (sDPutS td ty tv) := by
  constructor
  intro pins s σ H D I h
  refine wpAny_Assign_Subscript (thn (hv.run pins s σ H _ I h) fun r s1 h1 => ?_) hs
  obtain ⟨v, H1, I1, rv, q1⟩ := h1
  refine thn (ho.run pins s1 σ H1 _ I1 q1) fun u s2 h2 => ?_
  obtain ⟨x, H2, I2, rx, q2⟩ := h2
  refine thn (hi.run pins s2 σ H2 _ I2 q2) fun iv s3 h3 => ?_
  obtain ⟨y, H3, I3, ry, a, kvs, z, ex, ey, hd, hz, q3⟩ := h3
  subst ex
  subst ey
  cases (show u = Value.ref a from rx)
  exact d_setItem hu I3 (DPut.k (k := Sum.inr z) hd hz) ry rv fun s4 I4 => ⟨σ, _, I4, q3 _ rfl⟩
theorem pe_fldK {o : Expr} {f : Str} {ta : TE} (hK : X.K = K) (he : PE X o ta) (hb : attributeBase o f X.env (eval o X.env) = eval o X.env := by rfl) : PE X (.Attribute o f pos) (tFld K ta f) := hK ▸ pe_fld he hb
/-- o.f = e -/
def sFldA (K : PySem.W.Frag) (ta tv : TE) (f : Str) : TS := fun D σ H => tv σ H fun y H1 => ta σ H1 fun x H2 => ∃ a C dx fs, x = .ref a ∧ H2 a = some (.ins C dx fs) ∧ Cls K C ∧ NoAttr K C f ∧ fs.length < 1000 ∧ PutQ H2 a (.ins C dx (putF f y fs)) (D.nx σ)
theorem ps_fldA {o value : Expr} {f : Str} {ta tv : TE} {pos' : Pos} (hK : X.K = K) (ha : PE X o ta) (hv : PE X value tv) (hs : swapsWith value (some (.Attribute o f pos')) pos.line X.env = pure false := by rfl) : PS X (.Assign [.Attribute o f pos'] value pos) (sFldA K ta tv f) := by
  subst hK
  constructor
  intro pins s σ H D I h
  refine plainObj_wpAny_Assign_Attribute (thn (hv.run pins s σ H _ I h) fun u s1 h1 => ?_) hs
  obtain ⟨y, H1, I1, ry, q⟩ := h1
  refine thn (ha.run pins s1 σ H1 _ I1 q) fun ov s2 h2 => ?_
  obtain ⟨x, H2, I2, rx, a, C, dx, fs, ex, ea, c, n, l, q2⟩ := h2
  subst ex
  cases (show ov = Value.ref a from rx)
  exact setattr_ok I2 ea c n l ry fun s3 I3 => ⟨σ, _, I3, q2.to ea (fun _ z => by cases z)⟩
theorem ps_fldK {o value : Expr} {f : Str} {ta tv : TE} {pos' : Pos} (hK : X.K = K) (ha : PE X o ta) (hv : PE X value tv) (hs : swapsWith value (some (.Attribute o f pos')) pos.line X.env = pure false := by rfl) : PS X (.Assign [.Attribute o f pos'] value pos) (sFld K ta tv f) := hK ▸ ps_fld ha hv hs
end

/-! ### the deck: its cells at c, how many numbers were drawn -/
structure DkOk (cs : List Int) (n : Int) : Prop where
  len : cs.length ≤ 63
  pos : ∀ x ∈ cs, (0 : Int) ≤ x
  n0 : 0 ≤ n
structure Deck (H : Hp) (a c : Addr) (n : Int) : Prop where
  ex : ∃ cs : List Int, H a = some (.lst [.ref c, .int n]) ∧ H c = some (.lst (cs.map V.int)) ∧ DkOk cs n
theorem Deck.ne {H : Hp} {a c : Addr} {n : Int} (d : Deck H a c n) : a ≠ c := by
  obtain ⟨cs, h1, h2, ok⟩ := d.ex
  refine ne_of h1 h2 fun z => ?_
  have z1 := HO.lst.inj z
  cases cs with
  | nil => cases z1
  | cons x r => cases z1
theorem Deck.kp {S : List Addr} {H H' : Hp} {a c : Addr} {n : Int} (d : Deck H a c n) (k : Kp S H H') (ha : a ∉ S) (hc : c ∉ S) : Deck H' a c n := by
  obtain ⟨cs, h1, h2, ok⟩ := d.ex
  exact ⟨cs, k.keep _ _ h1 ha, k.keep _ _ h2 hc, ok⟩
theorem Deck.kp0 {H H' : Hp} {a c : Addr} {n : Int} (d : Deck H a c n) (k : Kp [] H H') : Deck H' a c n := d.kp k (by simp) (by simp)
theorem Deck.a_some {H : Hp} {a c : Addr} {n : Int} (d : Deck H a c n) : ∃ xs, H a = some (.lst xs) := by
  obtain ⟨cs, h1, h2, ok⟩ := d.ex
  exact ⟨_, h1⟩
theorem Deck.c_some {H : Hp} {a c : Addr} {n : Int} (d : Deck H a c n) : ∃ xs, H c = some (.lst xs) := by
  obtain ⟨cs, h1, h2, ok⟩ := d.ex
  exact ⟨_, h2⟩
/-- a new address is not the deck's -/
theorem Deck.off {H : Hp} {a c p : Addr} {n : Int} (d : Deck H a c n) (h : H p = none) : p ∉ [a, c] := by
  obtain ⟨xs, h1⟩ := d.a_some
  obtain ⟨ys, h2⟩ := d.c_some
  exact ne2 (ne_of_none h1 h).symm (ne_of_none h2 h).symm
abbrev MANY : Int := 1000000000
def spDraw : Sp := fun vs H Q _ => ∃ (a c : Addr) (n many : Int), vs = [.ref a, .int many] ∧ Deck H a c n ∧ n ≤ MANY ∧ 0 < many ∧ many.natAbs < 2 ^ 1000 ∧
  ∀ (r : Int) (H' : Hp), 0 ≤ r → r < many → Deck H' a c (n + 1) → Kp [a, c] H H' → Q (.int r) H'
def spDeck (K : PySem.W.Frag) : Sp := fun vs H Q _ => ∃ (s : Addr) (ns : List Int), vs = [.ref s] ∧ SqL K H s (ns.map V.int) ∧ ns.length ≤ 63 ∧
  ∀ (a c : Addr) (H' : Hp), H a = none → H c = none → Kp [] H H' → Deck H' a c 0 → Q (.ref a) H'
/-- an item of a list that is drawn -/
def spOne (K : PySem.W.Frag) : Sp := fun vs H Q _ => ∃ (a c l : Addr) (n : Int) (xs : List V), vs = [.ref a, .ref l] ∧ Deck H a c n ∧ n ≤ MANY ∧ SqL K H l xs ∧ l ∉ [a, c] ∧ 0 < xs.length ∧ xs.length ≤ 1000000 ∧
  ∀ (x : V) (H' : Hp), x ∈ xs → Deck H' a c (n + 1) → Kp [a, c] H H' → Q x H'
/-- a sign of a text that is drawn -/
def spOneS : Sp := fun vs H Q _ => ∃ (a c : Addr) (n : Int) (z : Str), vs = [.ref a, .str z] ∧ Deck H a c n ∧ n ≤ MANY ∧ 0 < z.length ∧ z.length ≤ 1000000 ∧ ∀ (ch : Nat) (H' : Hp), ch ∈ z.cps.toList → Deck H' a c (n + 1) → Kp [a, c] H H' → Q (.str ⟨#[ch]⟩) H'
def spOne2 (K : PySem.W.Frag) : Sp := fun vs H Q E => spOne K vs H Q E ∨ spOneS vs H Q E
theorem pow1000 {m : Nat} (h : m ≤ 1000000) : ((m : Int)).natAbs < 2 ^ 1000 := by
  have e : ((m : Int)).natAbs < 2 ^ 30 := by
    have e2 : (2 : Nat) ^ 30 = 1073741824 := by decide
    rw [e2]
    omega
  exact Nat.lt_of_lt_of_le e (Nat.pow_le_pow_right (by decide) (by decide))
/-- a def of the text, as the top has left it -/
structure DA (K : PySem.W.Frag) (mg : Str → Option Value) (x : Str) (st : Stmt) (ps : List Str) where
  f : Addr
  fd : FuncData
  F : Fun K x x st f fd
  b : Binds K fd ps []
  g : mg x = some (.ref f)
/-- a class of the text, a method of it -/
structure CA (K : PySem.W.Frag) (mg : Str → Option Value) (x : Str) where
  C : Addr
  cl : Cls K C
  g : mg x = some (.ref C)
  mks : PySem.W.makesIn K C = true
  kp : PySem.W.keepIn K (.ref C) = true
structure DM (K : PySem.W.Frag) (C : Addr) (m q : Str) (st : Stmt) (ps : List Str) where
  f : Addr
  fd : FuncData
  F : Fun K m q st f fd
  b : Binds K fd ps []
  m : Meth K C m f
theorem atI_mem {α : Type} {xs : List α} {i : Int} (h0 : 0 ≤ i) (h : i < (xs.length : Int)) : ∃ v, atI xs i = some v ∧ v ∈ xs := by
  have hi : i.toNat < xs.length := by omega
  have e : i = ((i.toNat : Nat) : Int) := by omega
  have q : atI xs ((i.toNat : Nat) : Int) = some xs[i.toNat] := atI_nat (List.getElem?_eq_getElem hi)
  rw [← e] at q
  exact ⟨xs[i.toNat], q, List.getElem_mem hi⟩
theorem ixN_nat {n : Nat} {i : Int} (h0 : 0 ≤ i) (h : i < (n : Int)) : ixN n i = some i.toNat := by
  unfold ixN
  rw [if_pos h0, if_pos h]
theorem isi_ss : kitB "str" "str" = some true := by decide +kernel
theorem isi_is : kitB "int" "str" = some false := by decide +kernel
theorem isi_ts : kitB "tuple" "str" = some false := by decide +kernel
theorem isi_si : kitB "str" "int" = some false := by decide +kernel
theorem isi_ii : kitB "int" "int" = some true := by decide +kernel
theorem isi_ti : kitB "tuple" "int" = some false := by decide +kernel
theorem isi_st : kitB "str" "tuple" = some false := by decide +kernel
theorem isi_it : kitB "int" "tuple" = some false := by decide +kernel
theorem isi_tt : kitB "tuple" "tuple" = some true := by decide +kernel
theorem cpow_of {i j : Int} (h : 0 ≤ j ∧ j ≤ 1000000 ∧ i.natAbs < 2 ^ 64) : CPow i j := h
theorem cmul_of {i j : Int} (h : -(2 ^ 64) < i ∧ i < 2 ^ 64) : CMul i j := .inl h
theorem cdivn_of {i j : Int} (h : j ≠ 0 ∧ j.natAbs < 1073741824) : CDivN i j := h
theorem lt_lit {n : Nat} (h : Nat.ble (n + 1) 1000 = true) : n < 1000 := Nat.le_of_ble_eq_true h
theorem le_lit {n : Nat} (h : Nat.ble n 1000 = true) : n ≤ 1000000 := Nat.le_trans (Nat.le_of_ble_eq_true h) (by decide)
theorem pos_lit {n : Nat} (h : Nat.ble 1 n = true) : 0 < n := Nat.le_of_ble_eq_true h
theorem sz_lit {n : Nat} (h : Nat.ble n 1000 = true) : n ≤ sizeLine := Nat.le_trans (Nat.le_of_ble_eq_true h) (by decide)
theorem sz_lt {n : Nat} (h : n ≤ 1000000) : n < sizeLine := Nat.lt_of_le_of_lt h (by decide)
theorem sz_le {n : Nat} (h : n ≤ 1000000) : n ≤ sizeLine := Nat.le_of_lt (sz_lt h)
end EH
namespace EH
open PySem L2
def topS (i : Nat) : Stmt := PySem.Challenge.pw_eitherhalf_k40_whole_programs_renamed.main.body.getD i (.Pass ⟨0, 0, 0, 0⟩)
abbrev s_is_whole : Stmt := topS 16
theorem sc_is_whole : FnScope ["value", "least", "most"] ["value", "least", "most"] (defScope s_is_whole) := ⟨rfl, rfl, rfl, by decide +kernel, rfl, by decide +kernel, by decide +kernel⟩
abbrev s_is_word : Stmt := topS 17
theorem sc_is_word : FnScope ["value", "sign"] ["value"] (defScope s_is_word) := ⟨rfl, rfl, rfl, by decide +kernel, rfl, by decide +kernel, by decide +kernel⟩
abbrev s_is_name : Stmt := topS 18
theorem sc_is_name : FnScope ["value", "sign"] ["value"] (defScope s_is_name) := ⟨rfl, rfl, rfl, by decide +kernel, rfl, by decide +kernel, by decide +kernel⟩
abbrev s_is_expression : Stmt := topS 19
theorem sc_is_expression : FnScope ["value", "left"] ["value", "left"] (defScope s_is_expression) := ⟨rfl, rfl, rfl, by decide +kernel, rfl, by decide +kernel, by decide +kernel⟩
abbrev s_is_test : Stmt := topS 20
theorem sc_is_test : FnScope ["value", "nots"] ["value", "nots"] (defScope s_is_test) := ⟨rfl, rfl, rfl, by decide +kernel, rfl, by decide +kernel, by decide +kernel⟩
abbrev s_is_plain : Stmt := topS 21
theorem sc_is_plain : FnScope ["value"] ["value"] (defScope s_is_plain) := ⟨rfl, rfl, rfl, by decide +kernel, rfl, by decide +kernel, by decide +kernel⟩
abbrev s_is_statement : Stmt := topS 22
theorem sc_is_statement : FnScope ["value"] ["value"] (defScope s_is_statement) := ⟨rfl, rfl, rfl, by decide +kernel, rfl, by decide +kernel, by decide +kernel⟩
abbrev s_blocks_of : Stmt := topS 23
theorem sc_blocks_of : FnScope ["statement"] ["statement"] (defScope s_blocks_of) := ⟨rfl, rfl, rfl, by decide +kernel, rfl, by decide +kernel, by decide +kernel⟩
abbrev s_items_within : Stmt := topS 24
theorem sc_items_within : FnScope ["statement", "depth", "found", "block", "item"] ["statement", "depth"] (defScope s_items_within) := ⟨rfl, rfl, rfl, by decide +kernel, rfl, by decide +kernel, by decide +kernel⟩
abbrev s_rows_of : Stmt := topS 25
theorem sc_rows_of : FnScope ["program", "left", "found", "depth", "statement", "item"] ["program"] (defScope s_rows_of) := ⟨rfl, rfl, rfl, by decide +kernel, rfl, by decide +kernel, by decide +kernel⟩
abbrev s_order_error : Stmt := topS 26
theorem sc_order_error : FnScope ["value", "left", "place", "depth", "item"] ["value"] (defScope s_order_error) := ⟨rfl, rfl, rfl, by decide +kernel, rfl, by decide +kernel, by decide +kernel⟩
abbrev s_bare : Stmt := topS 27
theorem sc_bare : FnScope ["test"] ["test"] (defScope s_bare) := ⟨rfl, rfl, rfl, by decide +kernel, rfl, by decide +kernel, by decide +kernel⟩
abbrev s_own_count : Stmt := topS 28
theorem sc_own_count : FnScope ["statement", "sort"] ["statement", "sort"] (defScope s_own_count) := ⟨rfl, rfl, rfl, by decide +kernel, rfl, by decide +kernel, by decide +kernel⟩
abbrev s_counted : Stmt := topS 29
theorem sc_counted : FnScope ["block", "sort", "found", "statement", "inner", "part"] ["block", "sort"] (defScope s_counted) := ⟨rfl, rfl, rfl, by decide +kernel, rfl, by decide +kernel, by decide +kernel⟩
abbrev s_weight : Stmt := topS 30
theorem sc_weight : FnScope ["program"] ["program"] (defScope s_weight) := ⟨rfl, rfl, rfl, by decide +kernel, rfl, by decide +kernel, by decide +kernel⟩
abbrev s_program_error : Stmt := topS 31
theorem sc_program_error : FnScope ["value", "found"] ["value"] (defScope s_program_error) := ⟨rfl, rfl, rfl, by decide +kernel, rfl, by decide +kernel, by decide +kernel⟩
abbrev s_places_in : Stmt := topS 32
theorem sc_places_in : FnScope ["statement", "block", "item"] ["statement"] (defScope s_places_in) := ⟨rfl, rfl, rfl, by decide +kernel, rfl, by decide +kernel, by decide +kernel⟩
abbrev s_value_of : Stmt := topS 36
theorem sc_value_of : FnScope ["expression", "names", "sort", "first", "second"] ["expression", "names"] (defScope s_value_of) := ⟨rfl, rfl, rfl, by decide +kernel, rfl, by decide +kernel, by decide +kernel⟩
abbrev s_is_true : Stmt := topS 37
theorem sc_is_true : FnScope ["test", "names"] ["test", "names"] (defScope s_is_true) := ⟨rfl, rfl, rfl, by decide +kernel, rfl, by decide +kernel, by decide +kernel⟩
abbrev s_Course_init : Stmt := inClass (topS 38) 0
theorem sc_Course_init : FnScope ["self", "number", "choices", "ways", "rule"] ["self", "number", "choices", "ways", "rule"] (defScope s_Course_init) := ⟨rfl, rfl, rfl, by decide +kernel, rfl, by decide +kernel, by decide +kernel⟩
abbrev s_Course_choice : Stmt := inClass (topS 38) 1
theorem sc_Course_choice : FnScope ["self", "value", "place"] ["self", "value", "place"] (defScope s_Course_choice) := ⟨rfl, rfl, rfl, by decide +kernel, rfl, by decide +kernel, by decide +kernel⟩
abbrev s_Course_halved : Stmt := inClass (topS 38) 2
theorem sc_Course_halved : FnScope ["self", "value", "place", "way"] ["self", "value", "place"] (defScope s_Course_halved) := ⟨rfl, rfl, rfl, by decide +kernel, rfl, by decide +kernel, by decide +kernel⟩
abbrev s_Course_do : Stmt := inClass (topS 38) 3
theorem sc_Course_do : FnScope ["self", "statement", "place"] ["self", "statement", "place"] (defScope s_Course_do) := ⟨rfl, rfl, rfl, by decide +kernel, rfl, by decide +kernel, by decide +kernel⟩
abbrev s_Course_parts : Stmt := inClass (topS 38) 4
theorem sc_Course_parts : FnScope ["self", "statement", "place", "item"] ["self", "statement", "place"] (defScope s_Course_parts) := ⟨rfl, rfl, rfl, by decide +kernel, rfl, by decide +kernel, by decide +kernel⟩
abbrev s_Course_go : Stmt := inClass (topS 38) 5
theorem sc_Course_go : FnScope ["self", "block", "place", "statement", "word", "part", "begin"] ["self", "block", "place"] (defScope s_Course_go) := ⟨rfl, rfl, rfl, by decide +kernel, rfl, by decide +kernel, by decide +kernel⟩
abbrev s_course_of : Stmt := topS 39
theorem sc_course_of : FnScope ["program", "number", "choices", "ways", "rule", "course", "word"] ["program", "number", "choices", "ways", "rule"] (defScope s_course_of) := ⟨rfl, rfl, rfl, by decide +kernel, rfl, by decide +kernel, by decide +kernel⟩
abbrev s_run_of : Stmt := topS 40
theorem sc_run_of : FnScope ["program", "number", "choices", "ways"] ["program", "number", "choices", "ways"] (defScope s_run_of) := ⟨rfl, rfl, rfl, by decide +kernel, rfl, by decide +kernel, by decide +kernel⟩
abbrev s_run : Stmt := topS 41
theorem sc_run : FnScope ["program", "number", "choices"] ["program", "number", "choices"] (defScope s_run) := ⟨rfl, rfl, rfl, by decide +kernel, rfl, by decide +kernel, by decide +kernel⟩
abbrev s_l_deck : Stmt := topS 43
theorem sc_l_deck : FnScope ["_law_script", "_law_cell"] ["_law_script"] (defScope s_l_deck) := ⟨rfl, rfl, rfl, by decide +kernel, rfl, by decide +kernel, by decide +kernel⟩
abbrev s_l_draw : Stmt := topS 44
theorem sc_l_draw : FnScope ["_law_deck_here", "_law_many", "_law_cell", "_law_at", "_law_mixed"] ["_law_deck_here", "_law_many"] (defScope s_l_draw) := ⟨rfl, rfl, rfl, by decide +kernel, rfl, by decide +kernel, by decide +kernel⟩
abbrev s_l_one : Stmt := topS 45
theorem sc_l_one : FnScope ["_law_deck_here", "_law_items"] ["_law_deck_here", "_law_items"] (defScope s_l_one) := ⟨rfl, rfl, rfl, by decide +kernel, rfl, by decide +kernel, by decide +kernel⟩
abbrev s_l_names : Stmt := topS 46
theorem sc_l_names : FnScope ["_law_deck_here", "_law_letters", "_law_left", "_law_signs", "_law_right", "_law_k"] ["_law_deck_here"] (defScope s_l_names) := ⟨rfl, rfl, rfl, by decide +kernel, rfl, by decide +kernel, by decide +kernel⟩
abbrev s_l_expression : Stmt := topS 47
theorem sc_l_expression : FnScope ["_law_deck_here", "_law_names_here", "_law_deep", "_law_way", "_law_factor", "_law_first"] ["_law_deck_here", "_law_names_here", "_law_deep"] (defScope s_l_expression) := ⟨rfl, rfl, rfl, by decide +kernel, rfl, by decide +kernel, by decide +kernel⟩
abbrev s_l_test : Stmt := topS 48
theorem sc_l_test : FnScope ["_law_deck_here", "_law_names_here", "_law_left", "_law_times", "_law_nots", "_law_test_here", "_law_k"] ["_law_deck_here", "_law_names_here", "_law_left", "_law_times"] (defScope s_l_test) := ⟨rfl, rfl, rfl, by decide +kernel, rfl, by decide +kernel, by decide +kernel⟩
abbrev s_l_plain : Stmt := topS 49
theorem sc_l_plain : FnScope ["_law_deck_here", "_law_names_here", "_law_left", "_law_times", "_law_way", "_law_name"] ["_law_deck_here", "_law_names_here", "_law_left", "_law_times"] (defScope s_l_plain) := ⟨rfl, rfl, rfl, by decide +kernel, rfl, by decide +kernel, by decide +kernel⟩
abbrev s_l_row : Stmt := topS 50
theorem sc_l_row : FnScope ["_law_deck_here", "_law_names_here", "_law_left", "_law_times", "_law_depth", "_law_way", "_law_test_here", "_law_yes", "_law_no", "_law_again", "_law_block_here"] ["_law_deck_here", "_law_names_here", "_law_left", "_law_times", "_law_depth"] (defScope s_l_row) := ⟨rfl, rfl, rfl, by decide +kernel, rfl, by decide +kernel, by decide +kernel⟩
abbrev s_l_block : Stmt := topS 51
theorem sc_l_block : FnScope ["_law_deck_here", "_law_names_here", "_law_left", "_law_times", "_law_depth", "_law_many", "_law_rows", "_law_k", "_law_row_here"] ["_law_deck_here", "_law_names_here", "_law_left", "_law_times", "_law_depth"] (defScope s_l_block) := ⟨rfl, rfl, rfl, by decide +kernel, rfl, by decide +kernel, by decide +kernel⟩
abbrev s_l_program : Stmt := topS 52
theorem sc_l_program : FnScope ["_law_deck_here", "_law_names_here", "_law_left", "_law_program_here", "_law_k"] ["_law_deck_here", "_law_names_here"] (defScope s_l_program) := ⟨rfl, rfl, rfl, by decide +kernel, rfl, by decide +kernel, by decide +kernel⟩
abbrev s_l_number : Stmt := topS 53
theorem sc_l_number : FnScope ["_law_deck_here", "_law_way", "_law_sign"] ["_law_deck_here"] (defScope s_l_number) := ⟨rfl, rfl, rfl, by decide +kernel, rfl, by decide +kernel, by decide +kernel⟩
abbrev s_l_choices : Stmt := topS 54
theorem sc_l_choices : FnScope ["_law_deck_here", "_law_k"] ["_law_deck_here"] (defScope s_l_choices) := ⟨rfl, rfl, rfl, by decide +kernel, rfl, by decide +kernel, by decide +kernel⟩
abbrev s_l_renamed : Stmt := topS 55
theorem sc_l_renamed : FnScope ["_law_value", "_law_names_here", "_law_words", "_law_part"] ["_law_value", "_law_names_here", "_law_words"] (defScope s_l_renamed) := ⟨rfl, rfl, rfl, by decide +kernel, rfl, by decide +kernel, by decide +kernel⟩
abbrev s_law : Stmt := topS 56
theorem sc_law : FnScope ["_law_script", "_law_deck_here", "_law_turn", "_law_own", "_law_other", "_law_program_here", "_law_names_here", "_law_words", "_law_later", "_law_ahead", "_law_k", "_law_number_here", "_law_choices_here", "_law_items", "_law_word", "_law_turns", "_law_told", "_law_due", "_law_item"] ["_law_script"] (defScope s_law) := ⟨rfl, rfl, rfl, by decide +kernel, rfl, by decide +kernel, by decide +kernel⟩
structure Top (K : PySem.W.Frag) (mg : Str → Option Value) where
  is_whole : DA K mg "is_whole" s_is_whole ["value", "least", "most"]
  is_word : DA K mg "is_word" s_is_word ["value"]
  is_name : DA K mg "is_name" s_is_name ["value"]
  is_expression : DA K mg "is_expression" s_is_expression ["value", "left"]
  is_test : DA K mg "is_test" s_is_test ["value", "nots"]
  is_plain : DA K mg "is_plain" s_is_plain ["value"]
  is_statement : DA K mg "is_statement" s_is_statement ["value"]
  blocks_of : DA K mg "blocks_of" s_blocks_of ["statement"]
  items_within : DA K mg "items_within" s_items_within ["statement", "depth"]
  rows_of : DA K mg "rows_of" s_rows_of ["program"]
  order_error : DA K mg "order_error" s_order_error ["value"]
  bare : DA K mg "bare" s_bare ["test"]
  own_count : DA K mg "own_count" s_own_count ["statement", "sort"]
  counted : DA K mg "counted" s_counted ["block", "sort"]
  weight : DA K mg "weight" s_weight ["program"]
  program_error : DA K mg "program_error" s_program_error ["value"]
  places_in : DA K mg "places_in" s_places_in ["statement"]
  value_of : DA K mg "value_of" s_value_of ["expression", "names"]
  is_true : DA K mg "is_true" s_is_true ["test", "names"]
  course_of : DA K mg "course_of" s_course_of ["program", "number", "choices", "ways", "rule"]
  run_of : DA K mg "run_of" s_run_of ["program", "number", "choices", "ways"]
  run : DA K mg "run" s_run ["program", "number", "choices"]
  l_deck : DA K mg "_law_deck" s_l_deck ["_law_script"]
  l_draw : DA K mg "_law_draw" s_l_draw ["_law_deck_here", "_law_many"]
  l_one : DA K mg "_law_one" s_l_one ["_law_deck_here", "_law_items"]
  l_names : DA K mg "_law_names" s_l_names ["_law_deck_here"]
  l_expression : DA K mg "_law_expression" s_l_expression ["_law_deck_here", "_law_names_here", "_law_deep"]
  l_test : DA K mg "_law_test" s_l_test ["_law_deck_here", "_law_names_here", "_law_left", "_law_times"]
  l_plain : DA K mg "_law_plain" s_l_plain ["_law_deck_here", "_law_names_here", "_law_left", "_law_times"]
  l_row : DA K mg "_law_row" s_l_row ["_law_deck_here", "_law_names_here", "_law_left", "_law_times", "_law_depth"]
  l_block : DA K mg "_law_block" s_l_block ["_law_deck_here", "_law_names_here", "_law_left", "_law_times", "_law_depth"]
  l_program : DA K mg "_law_program" s_l_program ["_law_deck_here", "_law_names_here"]
  l_number : DA K mg "_law_number" s_l_number ["_law_deck_here"]
  l_choices : DA K mg "_law_choices" s_l_choices ["_law_deck_here"]
  l_renamed : DA K mg "_law_renamed" s_l_renamed ["_law_value", "_law_names_here", "_law_words"]
  law : DA K mg "law" s_law ["_law_script"]
  Course : CA K mg "Course"
  Course_init : DM K Course.C "__init__" "Course.__init__" s_Course_init ["self", "number", "choices", "ways", "rule"]
  Course_choice : DM K Course.C "choice" "Course.choice" s_Course_choice ["self", "value", "place"]
  Course_halved : DM K Course.C "halved" "Course.halved" s_Course_halved ["self", "value", "place"]
  Course_do : DM K Course.C "do" "Course.do" s_Course_do ["self", "statement", "place"]
  Course_parts : DM K Course.C "parts" "Course.parts" s_Course_parts ["self", "statement", "place"]
  Course_go : DM K Course.C "go" "Course.go" s_Course_go ["self", "block", "place"]
  mk_Course : Mk K Course.C Course_init.f
  n_Course_names : NoAttr K Course.C "names"
  n_Course_said : NoAttr K Course.C "said"
  n_Course_turns : NoAttr K Course.C "turns"
  n_Course_choices : NoAttr K Course.C "choices"
  n_Course_ways : NoAttr K Course.C "ways"
  n_Course_rule : NoAttr K Course.C "rule"
  t_MAX_NAME : Tok
  g_MAX_NAME : mg "MAX_NAME" = some (.int 8 t_MAX_NAME)
  t_MAX_WORD : Tok
  g_MAX_WORD : mg "MAX_WORD" = some (.int 8 t_MAX_WORD)
  t_MAX_TIMES : Tok
  g_MAX_TIMES : mg "MAX_TIMES" = some (.int 8 t_MAX_TIMES)
  t_MAX_DEEP : Tok
  g_MAX_DEEP : mg "MAX_DEEP" = some (.int 3 t_MAX_DEEP)
  t_MAX_NOTS : Tok
  g_MAX_NOTS : mg "MAX_NOTS" = some (.int 2 t_MAX_NOTS)
  t_MAX_PLACES : Tok
  g_MAX_PLACES : mg "MAX_PLACES" = some (.int 24 t_MAX_PLACES)
  t_MAX_WEIGHT : Tok
  g_MAX_WEIGHT : mg "MAX_WEIGHT" = some (.int 60 t_MAX_WEIGHT)
  t_MAX_HALVINGS : Tok
  g_MAX_HALVINGS : mg "MAX_HALVINGS" = some (.int 4 t_MAX_HALVINGS)
  t_MAX_COMPARINGS : Tok
  g_MAX_COMPARINGS : mg "MAX_COMPARINGS" = some (.int 3 t_MAX_COMPARINGS)
  t_MAX_NEST : Tok
  g_MAX_NEST : mg "MAX_NEST" = some (.int 3 t_MAX_NEST)
  t_LETTERS : Tok
  g_LETTERS : mg "LETTERS" = some (.str "abcdefghijklmnopqrstuvwxyz" t_LETTERS)
  t_SIGNS : Tok
  g_SIGNS : mg "SIGNS" = some (.str "abcdefghijklmnopqrstuvwxyz0123456789" t_SIGNS)
  t_MOST_NUMBER : Tok
  g_MOST_NUMBER : mg "MOST_NUMBER" = some (.int 99 t_MOST_NUMBER)
  t_MOST_FACTOR : Tok
  g_MOST_FACTOR : mg "MOST_FACTOR" = some (.int 9 t_MOST_FACTOR)
  t_DOWN : Tok
  g_DOWN : mg "DOWN" = some (.int 0 t_DOWN)
  t_INPUT : Tok
  g_INPUT : mg "INPUT" = some (.str "n" t_INPUT)
  KEPT : Addr
  g_KEPT : mg "KEPT" = some (.ref KEPT)
  q_KEPT : ∀ H, SqT K H KEPT [.str "half", .str "tell", .str "say", .str "stop", .str "if", .str "else", .str "repeat", .str "pass", .str "odd", .str "not", .str "program"]
  abs : mg "abs" = none
  bool : mg "bool" = none
  dict : mg "dict" = none
  int : mg "int" = none
  isinstance : mg "isinstance" = none
  len : mg "len" = none
  max : mg "max" = none
  range : mg "range" = none
  repr : mg "repr" = none
  str : mg "str" = none
  sum : mg "sum" = none
  tuple : mg "tuple" = none
end EH
namespace EH
open PySem L2
local macro_rules | `(tactic| walk_at "sd") => `(tactic| first | assumption | ((with_reducible show (_ : Int) ≤ _); omega) | ((with_reducible show (_ : Int) < _); omega) | rfl | exact SqL.of (by assumption) | exact SqT.of (by assumption) | exact atI_nat (j := 0) rfl | exact atI_nat (j := 1) rfl | exact atI_nat (j := 2) rfl | exact atI_nat (j := 3) rfl | exact sz_lit rfl | exact lt_lit rfl | exact pos_lit rfl | exact le_lit rfl | exact Or.inl (SqL.of (by assumption)) | exact ⟨_, SqL.of (by assumption)⟩ | exact ⟨_, SqT.of (by assumption)⟩ | exact Or.inr (SqT.of (by assumption)) | exact ClsV.ty _ | exact TyX.base (TyOf.int _) | exact TyX.base (TyOf.str _) | exact TyX.base (TyOf.tup (by assumption)) | exact kit_ty isi_ss | exact kit_ty isi_is | exact kit_ty isi_ts | exact kit_ty isi_si | exact kit_ty isi_ii | exact kit_ty isi_ti | exact kit_ty isi_st | exact kit_ty isi_it | exact kit_ty isi_tt | exact Or.inl ⟨_, Or.inl (by assumption)⟩ | exact DGet.k (k := Sum.inr _) (by assumption) | exact DGet.k (k := Sum.inl _) (by assumption) | (refine cpow_of ?_; decide) | (refine cmul_of ?_; decide) | (show (_ : Int) ≠ 0; first | decide | omega) | (refine cdivn_of ?_; decide) | exact Or.inl ⟨rfl, _, SqL.of (by assumption)⟩ | omega)
local macro_rules | `(tactic| walk_at "st") => `(tactic| first | (apply Exists.intro) | (refine And.intro ?_ ?_; focus (walk_at "sd")) | (apply Or.inl; apply Exists.intro; refine And.intro ?_ ?_; focus rfl) | (apply Or.inr; apply Exists.intro; refine And.intro ?_ ?_; focus rfl))
local macro_rules | `(tactic| walk_at "go") => `(tactic| repeat (walk_at "st"))
section
variable {P : Program} {w : World} {K : PySem.W.Frag} {mg : Str → Option Value} {base : Heap}
theorem ok_l_draw (T : Top K mg) {k : Nat} : FnOk P w K mg base CX0 (k + 1) T.l_draw.f T.l_draw.fd ["_law_deck_here", "_law_many"] spDraw := by
  refine T.l_draw.F.ok sc_l_draw (fun vs H Q E h => ?_) (fun cdv A outer s H vs Q E hr h => ?_)
  · obtain ⟨a, c, n, many, rfl, _⟩ := h
    rfl
  obtain ⟨a, c, n, many, rfl, hD, hn, hm, hm2, q⟩ := h
  refine ⟨_, (pss_cons (ps_asg (pe_op op_add (pe_ix (ix_listK (K := K) rfl) (pv 0) pe_int (fun _ _ => rfl)) pe_int) (pg_sub (pv 0) pe_int set_listA))
      (pss_cons (ps_asg (pe_tupA (pa_cons pe_int (pa_cons (pe_un un_neg pe_int) pa_nil))) (pg_tup (by rfl) (pgs_cons (pg_name (i := 2) sc_l_draw.nd rfl (.inl rfl)) (pgs_cons (pg_name (i := 3) sc_l_draw.nd rfl (.inl rfl)) pgs_nil))))
      (pss_cons (ps_if (pt_cmpR op_gt (pe_callB (id := "len") (call_lenK (K := K) rfl) (by rfl) T.len PySem.boot_len (pa_cons (pe_ix (ix_listK (K := K) rfl) (pv 0) pe_int (fun _ _ => rfl)) pa_nil)) pe_int (nomark _)) (pss_cons (ps_set (i := 3) sc_l_draw.nd rfl (.inl rfl) (pe_op op_modN (pe_callTy (T := "int") call_int1 (by rfl) T.int (by decide +kernel) (pa_cons (pe_ix (ix_listK (K := K) rfl) (pv 0) pe_int (fun _ _ => rfl)) pa_nil)) (pe_callB (id := "len") (call_lenK (K := K) rfl) (by rfl) T.len PySem.boot_len (pa_cons (pe_ix (ix_listK (K := K) rfl) (pv 0) pe_int (fun _ _ => rfl)) pa_nil))))
      (pss_one (ps_set (i := 2) sc_l_draw.nd rfl (.inl rfl) (pe_ix (ix_listK (K := K) rfl) (pe_ix (ix_listK (K := K) rfl) (pv 0) pe_int (fun _ _ => rfl)) (pv 3) (fun _ _ => rfl))))) pss_nil)
      (pss_cons (ps_if (pt_cmpR op_ge (pv 2) (pe_op op_pow pe_int pe_int) (nomark _)) (pss_cons (ps_asg (pe_op op_fdivW (pe_callTy (T := "int") call_int1 (by rfl) T.int (by decide +kernel) (pa_cons (pv 2) pa_nil)) (pv 1)) (pg_sub (pe_ix (ix_listK (K := K) rfl) (pv 0) pe_int (fun _ _ => rfl)) (pv 3) set_listA))
      (pss_one (ps_ret (pe_op op_modN (pe_callTy (T := "int") call_int1 (by rfl) T.int (by decide +kernel) (pa_cons (pv 2) pa_nil)) (pv 1))))) pss_nil)
      (pss_cons (ps_set (i := 4) sc_l_draw.nd rfl (.inl rfl) (pe_op op_add (pe_op op_add (pe_op op_modN (pe_callTy (T := "int") call_int1 (by rfl) T.int (by decide +kernel) (pa_cons (pv 2) pa_nil)) pe_int) (pe_op op_mul pe_int (pe_ix (ix_listK (K := K) rfl) (pv 0) pe_int (fun _ _ => rfl)))) pe_int))
      (pss_one (ps_ret (pe_op op_modN (pe_callTy (T := "int") call_int1 (by rfl) T.int (by decide +kernel) (pa_cons (pe_op op_modN (pe_callTy (T := "int") call_int1 (by rfl) T.int (by decide +kernel) (pa_cons (pe_op op_pow (pv 4) pe_int) pa_nil)) pe_int) pa_nil)) (pv 1))))))))), ?_⟩
  obtain ⟨cs, h1, h2, ok⟩ := hD.ex
  have hn1 : n ≤ 1000000000 := hn
  have nac : a ≠ c := hD.ne
  walk_at "go"
  intro H1 g1 k1
  replace g1 : H1 a = some (.lst [V.ref c, V.int (n + 1)]) := g1
  walk_at "go"
  intro t H2 ht e2
  have g2 := new_at e2
  have k2 := new_kp ht e2
  have a2 := k2.at g1
  have c1 := k1.keep _ _ h2 (ne1 nac.symm)
  have c2 := k2.at c1
  clear e2
  walk_at "go"
  have len1 : ((cs.map V.int).length : Int) = (cs.length : Int) := by rw [List.length_map]
  have l63 := ok.len
  have n0 := ok.n0
  refine ite2 (fun hc => ?_) (fun hc => ?_)
  · have hc1 : (0 : Int) < ((cs.map V.int).length : Int) := of_decide_eq_true hc
    have f0 := Int.fmod_nonneg_of_pos (a := n + 1) hc1
    have f1 := Int.fmod_lt_of_pos (a := n + 1) hc1
    obtain ⟨v, hv, vm⟩ := atI_mem f0 f1
    obtain ⟨x, xm, rfl⟩ := List.mem_map.mp vm
    have x0 := ok.pos x xm
    walk_at "go"
    refine ite2 (fun hd => ?_) (fun hd => ?_)
    · walk_at "go"
      refine ⟨⟨hm, Nat.lt_of_lt_of_le (PySem.Flt.log2_lt_of (by decide) hm2) (by decide)⟩, ?_⟩
      walk_at "go"
      refine ⟨ixN_nat f0 f1, ?_⟩
      intro H3 g3 k3
      walk_at "go"
      refine q _ H3 (Int.fmod_nonneg_of_pos _ hm) (Int.fmod_lt_of_pos _ hm) ⟨cs.set ((n + 1).fmod ((cs.map V.int).length : Int)).toNat (x / many), k3.keep _ _ a2 (ne1 nac), ?_, ?_, ?_, by omega⟩ ((((Kp.refl.step1 k1 (.inl (by simp))).step0 k2)).step1 k3 (.inl (by simp)))
      · rw [g3, List.map_set]
      · rw [List.length_set]
        exact l63
      · intro y hy
        rcases List.mem_or_eq_of_mem_set hy with hy | rfl
        · exact ok.pos y hy
        · exact Int.ediv_nonneg x0 (Int.le_of_lt hm)
    · walk_at "go"
      have m0 := Int.fmod_nonneg_of_pos x (b := 2147483563) (by decide)
      have m1 := Int.fmod_lt_of_pos x (b := 2147483563) (by decide)
      refine ⟨⟨by decide, by decide, ?_⟩, ?_⟩
      · show (x.fmod 2147483563 + 8117 * (n + 1) + 3).natAbs < 2 ^ 64
        have e : (2 : Nat) ^ 64 = 18446744073709551616 := by decide
        rw [e]
        omega
      walk_at "go"
      exact q _ H2 (Int.fmod_nonneg_of_pos _ hm) (Int.fmod_lt_of_pos _ hm) ⟨cs, a2, c2, l63, ok.pos, by omega⟩ ((Kp.refl.step1 k1 (.inl (by simp))).step0 k2)
  · walk_at "go"
    refine ⟨⟨by decide, by decide, ?_⟩, ?_⟩
    · show ((0 : Int).fmod 2147483563 + 8117 * (n + 1) + 3).natAbs < 2 ^ 64
      have e : (2 : Nat) ^ 64 = 18446744073709551616 := by decide
      have e2 : (0 : Int).fmod 2147483563 = 0 := by decide
      rw [e, e2]
      omega
    walk_at "go"
    exact q _ H2 (Int.fmod_nonneg_of_pos _ hm) (Int.fmod_lt_of_pos _ hm) ⟨cs, a2, c2, l63, ok.pos, by omega⟩ ((Kp.refl.step1 k1 (.inl (by simp))).step0 k2)
theorem ok_l_one2 (T : Top K mg) {k : Nat} : FnOk P w K mg base CX0 (k + 2) T.l_one.f T.l_one.fd ["_law_deck_here", "_law_items"] (spOne2 K) := by
  have G_l_draw : FnOk P w K mg base CX0 (k + 1) T.l_draw.f T.l_draw.fd ["_law_deck_here", "_law_many"] spDraw := ok_l_draw T
  refine T.l_one.F.ok sc_l_one (fun vs H Q E h => ?_) (fun cdv A outer s H vs Q E hr h => ?_)
  · rcases h with ⟨a, c, l, n, xs, rfl, _⟩ | ⟨a, c, n, z, rfl, _⟩ <;> rfl
  refine ⟨_, (pss_one (ps_ret (pe_ix (IxR.or (ix_listK (K := K) rfl) ix_str) (pv 1) (pe_call G_l_draw (hr.mono (by omega)) (by rfl) T.l_draw.g T.l_draw.F.kp T.l_draw.b .nil pass0 (pa_cons (pv 0) (pa_cons (pe_callB (id := "len") (CallR.or (call_lenK (K := K) rfl) call_len_str) (by rfl) T.len PySem.boot_len (pa_cons (pv 1) pa_nil)) pa_nil))) (fun _ _ => rfl)))), ?_⟩
  rcases h with ⟨a, c, l, n, xs, rfl, hD, hn, hS, hl, h0, hz, q⟩ | ⟨a, c, n, z, rfl, hD, hn, h0, hz, q⟩
  · refine ⟨_, rfl, _, rfl, _, rfl, .inl ⟨l, xs, rfl, .inl hS, a, c, n, _, rfl, hD, hn, by omega, pow1000 hz, fun r H1 r0 r1 D1 k1 => ?_⟩⟩
    obtain ⟨v, hv, vm⟩ := atI_mem r0 r1
    exact .inl ⟨l, xs, _, _, rfl, rfl, k1.seq hS hl, hv, q _ H1 vm D1 k1⟩
  · refine ⟨_, rfl, _, rfl, _, rfl, .inr ⟨z, rfl, sz_le hz, a, c, n, _, rfl, hD, hn, by omega, pow1000 hz, fun r H1 r0 r1 D1 k1 => ?_⟩⟩
    have r2 : r < (z.cps.toList.length : Int) := by rw [Array.length_toList]; exact r1
    obtain ⟨v, hv, vm⟩ := atI_mem r0 r2
    exact .inr ⟨z, _, v, rfl, rfl, sz_le hz, hv, q _ H1 vm D1 k1⟩
theorem ok_l_one (T : Top K mg) {k : Nat} : FnOk P w K mg base CX0 (k + 2) T.l_one.f T.l_one.fd ["_law_deck_here", "_law_items"] (spOne K) := (ok_l_one2 T).imp fun _ _ _ _ h => .inl h
theorem ok_l_oneS (T : Top K mg) {k : Nat} : FnOk P w K mg base CX0 (k + 2) T.l_one.f T.l_one.fd ["_law_deck_here", "_law_items"] spOneS := (ok_l_one2 T).imp fun _ _ _ _ h => .inr h
end
end EH
namespace EH
open PySem L2
local macro_rules | `(tactic| walk_at "sd") => `(tactic| first | assumption | ((with_reducible show (_ : Int) ≤ _); omega) | ((with_reducible show (_ : Int) < _); omega) | rfl | exact SqL.of (by assumption) | exact SqT.of (by assumption) | exact atI_nat (j := 0) rfl | exact atI_nat (j := 1) rfl | exact atI_nat (j := 2) rfl | exact atI_nat (j := 3) rfl | exact sz_lit rfl | exact lt_lit rfl | exact pos_lit rfl | exact le_lit rfl | exact Or.inl (SqL.of (by assumption)) | exact ⟨_, SqL.of (by assumption)⟩ | exact ⟨_, SqT.of (by assumption)⟩ | exact Or.inr (SqT.of (by assumption)) | exact ClsV.ty _ | exact TyX.base (TyOf.int _) | exact TyX.base (TyOf.str _) | exact TyX.base (TyOf.tup (by assumption)) | exact kit_ty isi_ss | exact kit_ty isi_is | exact kit_ty isi_ts | exact kit_ty isi_si | exact kit_ty isi_ii | exact kit_ty isi_ti | exact kit_ty isi_st | exact kit_ty isi_it | exact kit_ty isi_tt | exact Or.inl ⟨_, Or.inl (by assumption)⟩ | exact DGet.k (k := Sum.inr _) (by assumption) | exact DGet.k (k := Sum.inl _) (by assumption) | (refine cpow_of ?_; decide) | (refine cmul_of ?_; decide) | (show (_ : Int) ≠ 0; first | decide | omega) | (refine cdivn_of ?_; decide) | exact Or.inl ⟨rfl, _, SqL.of (by assumption)⟩ | omega)
local macro_rules | `(tactic| walk_at "st") => `(tactic| first | (apply Exists.intro) | (refine And.intro ?_ ?_; focus (walk_at "sd")) | (apply Or.inl; apply Exists.intro; refine And.intro ?_ ?_; focus rfl) | (apply Or.inr; apply Exists.intro; refine And.intro ?_ ?_; focus rfl))
local macro_rules | `(tactic| walk_at "go") => `(tactic| repeat (walk_at "st"))
section
variable {P : Program} {w : World} {K : PySem.W.Frag} {mg : Str → Option Value} {base : Heap}
theorem ok_l_deck (T : Top K mg) {k : Nat} : FnOk P w K mg base CX0 (k + 1) T.l_deck.f T.l_deck.fd ["_law_script"] (spDeck K) := by
  refine T.l_deck.F.ok sc_l_deck (fun vs H Q E h => ?_) (fun cdv A outer s H vs Q E hr h => ?_)
  · obtain ⟨a, ns, rfl, _⟩ := h
    rfl
  obtain ⟨a, ns, rfl, hS, hl, q⟩ := h
  refine ⟨_, (pss_one (ps_ret (pe_lstA (pa_cons (pe_lc (own := [("_law_cell", 1)]) (by rfl) sc_l_deck.nd (pi_listK (K := K) rfl (pe_slice (sl_listK (K := K) rfl) (pv 0) po_none (po_some pe_int))) (blkOk_by (N := ["_law_script", "_law_cell"]) (sc := defScope s_l_deck) (own := [("_law_cell", 1)]) (by decide +kernel)) (fun _ _ _ _ _ => (pg_name (i := 1) sc_l_deck.nd rfl (.inl rfl))) (fun _ _ _ _ _ => pts_nil) (fun _ _ _ _ _ => (pe_callB (id := "abs") call_abs (by rfl) T.abs (by decide +kernel) (pa_cons (pv 1) pa_nil)))) (pa_cons pe_int pa_nil))))), ?_⟩
  have hc : cutV (ns.map V.int) none (some 63) = ns.map V.int := by
    apply cutV_whole
    refine ⟨rfl, ?_⟩
    show HT.sIx _ _ (some ((63 : Nat) : Int)) = _
    rw [HT.sIx_nat, List.length_map]
    omega
  walk_at "go"
  intro p H1 hp g1 k1
  rw [hc] at g1
  refine ⟨p, rfl, ⟨_, SqL.of g1⟩, fun D hD => ?_⟩
  refine lc_list (K := K) (a := p) (xs := ns.map V.int) (fun i H2 => Kp [D] H1 H2 ∧ H2 D = some (.lst ((ns.take i).map fun x => V.int (if x < 0 then -x else x)))) ⟨(Kp.new hD).sub (by simp), upd_same⟩ ?_ ?_ ?_
  · rintro i H2 _ ⟨k2, _⟩
    exact SqL.of (k2.keep _ _ g1 (ne1 (ne_of_none g1 hD)))
  · rintro i x H2 hx ⟨k2, d2⟩
    rw [List.getElem?_map] at hx
    cases e : ns[i]? with
    | none => rw [e] at hx; cases hx
    | some z =>
      rw [e] at hx
      cases hx
      have hz : (List.map (fun x => V.int (if x < 0 then -x else x)) (List.take i ns)).length < sizeLine := by
        rw [List.length_map, List.length_take]
        exact sz_lt (by omega)
      walk_at "go"
      refine ⟨k2.step1 (Kp.put d2 (fun _ y => by cases y)) (.inl (by simp)), ?_⟩
      rw [upd_same, List.take_add_one, e, List.map_append]
      rfl
  · rintro H2 ⟨k2, d2⟩
    rw [List.length_map, List.take_length] at d2
    walk_at "go"
    intro r H3 hr3 e3
    have k3 := new_kp hr3 e3
    have k4 : Kp [] H H3 := ((k1.step1 k2 (.inr (k1.free hD (by simp)))).step0 k3)
    refine q r D H3 (((k1.step1 k2 (.inr (k1.free hD (by simp))))).free hr3 (by simp)) (k1.free hD (by simp)) k4 ⟨⟨ns.map fun x => if x < 0 then -x else x, new_at e3, ?_, ?_, ?_, by decide⟩⟩
    · rw [k3.at d2, List.map_map]
      rfl
    · rw [List.length_map]
      exact hl
    · intro x hx
      obtain ⟨y, _, rfl⟩ := List.mem_map.mp hx
      split <;> omega
end
end EH
namespace EH
open PySem L2 PyProof.Rows
/-! ### defs that write texts of displays: nothing of that sort is under way around them -/
def Free (A : Around) : Prop := A.guards = some []
structure FnG (P : Program) (w : World) (K : PySem.W.Frag) (mg : Str → Option Value) (base : Heap) (CX : CXT) (k : Nat) (f : Addr) (fd : FuncData) (ps : List Str) (sp : Sp) : Prop where
  len : ∀ vs H Q E, sp vs H Q E → vs.length = ps.length
  run : ∀ (A : Around) (outer : List Env) (s : Shared) (H : Hp) (args : Args) (us : List Value) (vs : List V) (Q : VK) (E : XK),
    Free A → Room k A → Env0 P w K mg base A outer s H → BindsTo s fd args (ps.zip us) → Vals vs us → sp vs H Q E → codeAny (model P w) A (.call (.ref f) args) (CR CX outer P w H s Q E) s
section
variable {P : Program} {w : World} {K : PySem.W.Frag} {mg : Str → Option Value} {base : Heap} {CX : CXT}
theorem FnOk.toG {k : Nat} {f : Addr} {fd : FuncData} {ps : List Str} {sp : Sp} (F : FnOk P w K mg base CX k f fd ps sp) : FnG P w K mg base CX k f fd ps sp :=
  ⟨F.len, fun A outer s H args us vs Q E _ => F.run A outer s H args us vs Q E⟩
theorem Fun.okG {x qual : Str} {st : Stmt} {f : Addr} {fd : FuncData} {N ps : List Str} {k : Nat} {sp : Sp} (F : Fun K x qual st f fd) (S : FnScope N ps (defScope st)) (len : ∀ vs H Q E, sp vs H Q E → vs.length = ps.length)
    (body : ∀ (cdv : Value) (A : Around) (outer : List Env) (s : Shared) (H : Hp) (vs : List V) (Q : VK) (E : XK), Free (A.deeper (envOfC qual (defScope st) s.heap.objs.size f cdv)) →
      Room k (A.deeper (envOfC qual (defScope st) s.heap.objs.size f cdv)) → sp vs H Q E →
      ∃ t, PSs (cxOf CX0 P w K mg base N qual (defScope st) f cdv A outer s H E).nox (defBody st) t ∧ t { nx := fun _ H' => Q .non H', rt := Q } (start N vs) H) : FnG P w K mg base CX0 (k + 1) f fd ps sp := by
  refine ⟨len, fun A outer s H args us vs Q E fr hr e0 hb r hsp => ?_⟩
  obtain ⟨oc, od, kV, doc, pm, an, cdv, ct, osl, rfl, lk, hcd⟩ := F.ex
  have hl := len _ _ _ _ hsp
  have KX : K.In s.heap := e0.mod.kin.keeps fun b o e => (e0.bs b o e).1
  have lim : s.heap.NoLimit := e0.mod.nolimit.keeps fun b o e => (e0.bs b o e).1
  have kinds : ∀ y ∈ ps.zip us, (defScope st).names.lookup y.1 = some .local ∨ ((defScope st).names.lookup y.1 = some .cell ∧ ((cellsFrom (s.heap.objs.size + 1) (defScope st).names []).lookup y.1).isSome = true) := by
    rintro ⟨n, v⟩ hy
    rcases S.par n (List.of_mem_zip hy).1 with q | q
    · exact .inl q
    · exact .inr ⟨q, PySem.W.cellsFrom_some _ _ _ (.inl q)⟩
  refine codeAny_call_function hr.depth (KX _ _ lk) rfl S.co S.gen rfl (PySem.W.codeRec_of KX hcd) (hb _ _ _ _ ?_)
  refine wpAny_newFunctionEnv_cells S.kind kinds fun env he s1 y => ?_
  subst he
  refine ⟨lim.keeps y.toInCall.keep, codeAny_func ?_⟩
  obtain ⟨t, ht, hq⟩ := body cdv A outer s H vs Q E fr (hr.deeper _) hsp
  have I0 : Inv (cxOf CX0 P w K mg base N qual (defScope st) f cdv A outer s H E) [] (start N vs) H s1 := inv_start S hr.hd e0 hl r y
  refine wpAny_mono (ht.nox.run [] s1 (start N vs) H _ I0 hq) (fun fl s' hs => ?_) fun _ _ z => z
  have close : ∀ {σ' : L2.St} {H' : Hp} {v : V} {u : Value}, Inv (cxOf CX0 P w K mg base N qual (defScope st) f cdv A outer s H E) [] σ' H' s' → RelV v u → Q v H' → CE outer P w H s Q u s' :=
    fun J rv q => ⟨_, _, J.os, J.bare, J.base, J.hok, rv, q⟩
  cases fl with
  | ret u => obtain ⟨v, σ', H', J, rv, q⟩ := hs; exact close J rv q
  | next => obtain ⟨σ', H', J, q⟩ := hs; exact close (v := V.non) (u := Value.none) J rfl q
  | brk => obtain ⟨_, _, _, q⟩ := hs; exact q.elim
  | cont => obtain ⟨_, _, _, q⟩ := hs; exact q.elim
end
section
variable {X : Cx} {CX : CXT} {k : Nat} {f C : Addr} {fd : FuncData} {ps : List Str} {sp : Sp} {dvs : List V} {ds : List Value} {E : XK} {x m : Str} {p pos apos : Pos} {e o : Expr} {es : List Expr} {ta : TE} {t : TA}
theorem run_fnG {pins : List (Addr × Obj)} {σ : L2.St} {H : Hp} {s : Shared} {Q : VK} {us : List Value} {vs : List V} (F : FnG X.prog X.w X.K X.mg X.base CX k f fd ps sp) (fr : Free X.A) (hr : Room k X.A) (hb : Binds X.K fd ps ds) (hd : Vals dvs ds)
    (hx : Passes CX X E) (I : Inv X pins σ H s) (r : Vals vs us) (h : sp (vs ++ dvs) H Q E) : wpAny (model X.prog X.w) X.A (call (.ref f) us) (EP X pins σ Q) X.xe s := by
  have rr : Vals (vs ++ dvs) (us ++ ds) := r.append hd
  have hl : (us ++ ds).length = ps.length := rr.length.symm.trans (F.len _ _ _ _ h)
  refine wpAny_call (codeAny_mono (F.run X.A X.stack s H ⟨us, []⟩ _ _ Q E fr hr I.env0 (hb s us I.kIn hl) rr h) fun z s' hq => ?_)
  cases z with
  | error e => exact hx pins σ H s e s' I hq
  | ok fl => cases fl with
    | ret u => exact I.after hq
    | next => exact hq.elim
    | brk => exact hq.elim
    | cont => exact hq.elim
theorem pe_callG (F : FnG X.prog X.w X.K X.mg X.base CX k f fd ps sp) (fr : Free X.A) (hr : Room k X.A) (hg : Gl X x) (hm : X.mg x = some (.ref f)) (hk : PySem.W.keepIn X.K (.ref f) = true) (hb : Binds X.K fd ps ds) (hd : Vals dvs ds)
    (hx : Passes CX X E) (ha : PA X (e :: es) t) (hdb : (x == ("__debug__" : Str)) = false := by decide) (he : starEach (e :: es) X.env = (false, eval e X.env) :: starEach es X.env := by rfl)
    (hpl : (backTo pos (starEach es X.env)).any (·.1) = false := by rfl) : PE X (.Call (.Name x p) (e :: es) [] pos) (tCall sp dvs E t) := by
  constructor
  intro pins s σ H Q I h
  refine wpAny_Call_Name_kw (ld_glob I hg hm ?_ hdb)
  exact PySem.W.callWith_K (h₀ := X.base) I.ok.mod.kin hk (thn (ha.run pos pins s σ H _ I h) fun us s1 ⟨vs, H1, I1, r, q⟩ => ⟨I1.kIn, run_fnG F fr hr hb hd hx I1 r q⟩) he hpl
end
/-! ### repr -/
section
variable {X : Cx}
/-- repr of data: the text of the data -/
def rReprD (K : PySem.W.Frag) : List V → Hp → VK → Prop := fun xs H Q => ∃ x d, xs = [x] ∧ Dp K H x d ∧ d.showable = true ∧ d.shown.length ≤ sizeLine ∧ d.depth ≤ 60 ∧ Q (.str d.shown) H
theorem call_reprD (fr : Free X.A) (hu : X.A.units + 64 < cLine) : CallR X (.builtin "repr") (rReprD X.K) := by
  intro pins s σ H xs us Q I r h
  obtain ⟨x, d, rfl, hd, sh, sz, dp, q⟩ := h
  obtain ⟨u, rfl, rx⟩ := vals1 r
  obtain ⟨as, rd⟩ := Dp.reads I d x u hd rx
  have nd : d.hasDict = false := by
    have all : ∀ (d : PyData) (v : V), Dp X.K H v d → d.hasDict = false := by
      intro d v h
      exact Dp.rec (motive_1 := fun v d _ => d.hasDict = false) (motive_2 := fun vs ds _ => PyData.hasDictAll ds = false) (by simp only [PyData.hasDict]) (fun _ => by simp only [PyData.hasDict]) (fun _ => by simp only [PyData.hasDict])
        (fun _ => by simp only [PyData.hasDict]) (fun _ _ ih => by simp only [PyData.hasDict]; exact ih) (fun _ _ ih => by simp only [PyData.hasDict]; exact ih) (by simp only [PyData.hasDictAll]) (fun _ _ i1 i2 => by simp only [PyData.hasDictAll, i1, i2, Bool.or_self]) h
    exact all d x hd
  cases hd with
  | non => cases (show u = Value.none from rx); exact PySem.P.repr_of_none ⟨.str _, H, I.tok _, ⟨_, rfl⟩, q⟩
  | bl b =>
    cases (show u = Value.bool b from rx)
    refine PySem.P.repr_of_bool ⟨.str _, H, I.tok _, ⟨_, rfl⟩, ?_⟩
    rw [PyData.shown_bool] at q
    exact q
  | int i =>
    obtain ⟨t, rfl⟩ := (show ∃ t, u = Value.int i t from rx)
    refine PySem.P.repr_of_int (by simpa [PyData.showable] using sh) ⟨.str _, H, I.tok _, ⟨_, rfl⟩, ?_⟩
    rw [PyData.shown_int] at q
    exact q
  | str y =>
    obtain ⟨t, rfl⟩ := (show ∃ t, u = Value.str y t from rx)
    refine PySem.P.repr_of_str ⟨.str _, H, I.tok _, ⟨_, rfl⟩, ?_⟩ ?_
    · simp only [PyData.shown] at q; exact q
    · simp only [PyData.shown] at sz; exact sz
  | lst h1 h2 =>
    cases rx
    exact repr_of_reads' rd sh (PyData.noDict_hsm nd) fr (by omega) (fun _ _ z => z) (fun h' t tk hk => ⟨.str _, H, I.kept hk, ⟨_, rfl⟩, q⟩) sz
  | tup h1 h2 =>
    cases rx
    exact repr_of_reads' rd sh (PyData.noDict_hsm nd) fr (by omega) (fun _ _ z => z) (fun h' t tk hk => ⟨.str _, H, I.kept hk, ⟨_, rfl⟩, q⟩) sz
end
end EH
namespace EH
open PySem L2 PyProof.Rows
/-! ### a law's own head, its def of the kind FnG -/
section
variable {P : Program} {w : World} {K : PySem.W.Frag} {mg mb : Str → Option Value} {CX : CXT} {k : Nat} {fa a : Addr} {fd : FuncData} {x : Str} {sp : Sp} {s₁ : Shared} {vs : List Value} {ns : List Int}
theorem law_coreG (KX : K.In s₁.heap) (hns : s₁.heap.Ns mainGlobals mg) (hb : s₁.heap.Ns builtinsNs mb) (hbb : ∀ x : Str, x ≠ "__name__" → mb x = bootBuiltins x) (hlim : s₁.heap.NoLimit) (hg : s₁.gens = #[])
    (ha : s₁.heap.get? a = some { cls := .type "list", data := .seq vs.toArray }) (hr : Room k callerA)
    (F : ∀ base : Heap, K.In base → base.Ns mainGlobals mg → FnG P w K mg base CX k fa fd [x] sp) (hbind : ∀ (s : Shared) (u : Value), BindsTo s fd ⟨[u], []⟩ [(x, u)])
    (hCX : ∀ H e s', CX [] H s₁ (fun _ _ _ => False) e s' → False) (H : Hp) (hO : Only H) (hsp : sp [.ref a] H (fun v _ => v = .bl true) fun _ _ _ => False) (hok : HOk P w H s₁.heap) (hA : ∀ b, H b ≠ none → b = a) (hK : H a ≠ none → K.lookup a = none) :
    codeAny (model P w) callerA (.call (.ref fa) ⟨[.ref a], []⟩) (fun r s' => r = .ok (.ret (.bool true)) ∧ OldK s₁.heap s'.heap ∧ s'.os = s₁.os ∧ AllBare s'.gens) s₁ := by
  have un_a : ∀ {b : Addr}, b ≠ a → H b = none := fun {b} h => by
    cases q : H b with
    | none => rfl
    | some u => exact absurd (hA b (by rw [q]; exact fun z => nomatch z)) h
  have dictFree : ∀ {b : Addr} {o : Obj} {es : Array DictEntry} {ep : Nat}, s₁.heap.get? b = some o → o.data = .dict es ep → H b = none := fun {b o es ep} e d => by
    refine un_a fun z => ?_
    subst z
    rw [ha] at e
    cases e
    cases (show Data.seq vs.toArray _ = Data.dict es ep from d)
  have nsK : ∀ {b : Addr} {m : Str → Option Value}, s₁.heap.Ns b m → (hidT s₁.heap H).Ns b m := fun ⟨o, es, ep, e, d, r⟩ => ⟨o, es, ep, hidT_get e (dictFree e d), d, r⟩
  have kin : K.In (hidT s₁.heap H) := fun b o e => by
    refine hidT_get (KX b o e) ?_
    by_cases z : b = a
    · subst z
      cases q : H b with
      | none => rfl
      | some u => rw [hK (by rw [q]; exact fun z => nomatch z)] at e; cases e
    · exact un_a z
  have md : Mod K mg (hidT s₁.heap H) := ⟨kin, nsK hns, ⟨mb, nsK hb, hbb⟩, by obtain ⟨mc, h1, h2⟩ := hlim; exact ⟨mc, nsK h1, h2⟩⟩
  have e0 : Env0 P w K mg (hidT s₁.heap H) callerA [] s₁ H := ⟨rfl, md, fun _ _ e => of_hidT e, Nat.le_of_eq (hidT_size _ _), trivial, (fun b z => absurd (show b ∈ ([] : List Addr) from z) (by simp)), hok, .of_eq hg⟩
  refine codeAny_mono ((F _ kin (nsK hns)).run callerA [] s₁ H ⟨[.ref a], []⟩ [.ref a] [.ref a] _ _ rfl hr e0 (hbind s₁ (.ref a)) (.cons rfl .nil) hsp) fun r s' h => ?_
  cases r with
  | error e => exact (hCX H e s' h).elim
  | ok fl => cases fl with
    | next => exact h.elim
    | brk => exact h.elim
    | cont => exact h.elim
    | ret u =>
      obtain ⟨v, H', os, bare, un, hok', rv, q⟩ := h
      cases (show v = .bl true from q)
      cases (show u = Value.bool true from rv)
      refine ⟨rfl, OldK.of_keep fun b o e => ?_, os, bare⟩
      rcases hO b with z | ⟨ob, xs, z⟩
      · exact un.keep b o e z (fun y => nomatch (show b ∈ ([] : List Addr) from y)) (fun y => nomatch y)
      · obtain ⟨e1, _⟩ := hok b _ z
        obtain ⟨e2, _⟩ := hok' b _ (un.frzs b ob _ z)
        rw [e] at e1
        cases e1
        exact e2
theorem law_callG (KX : K.In s₁.heap) (hns : s₁.heap.Ns mainGlobals mg) (hb : s₁.heap.Ns builtinsNs mb) (hbb : ∀ x : Str, x ≠ "__name__" → mb x = bootBuiltins x) (hlim : s₁.heap.NoLimit) (hg : s₁.gens = #[])
    (ha : s₁.heap.get? a = some { cls := .type "list", data := .seq vs.toArray }) (hi : IntsAre vs ns) (hl : ns.length ≤ sizeLine) (hr : Room k callerA)
    (F : ∀ base : Heap, K.In base → base.Ns mainGlobals mg → FnG P w K mg base CX k fa fd [x] sp) (hbind : ∀ (s : Shared) (u : Value), BindsTo s fd ⟨[u], []⟩ [(x, u)])
    (hsp : ∀ H : Hp, Only H → SqL K H a (ns.map V.int) → sp [.ref a] H (fun v _ => v = .bl true) fun _ _ _ => False) (hCX : ∀ H e s', CX [] H s₁ (fun _ _ _ => False) e s' → False) :
    codeAny (model P w) callerA (.call (.ref fa) ⟨[.ref a], []⟩) (fun r s' => r = .ok (.ret (.bool true)) ∧ OldK s₁.heap s'.heap ∧ s'.os = s₁.os ∧ AllBare s'.gens) s₁ := by
  have rv := vals_ints hi
  have core := law_coreG (k := k) (fa := fa) (sp := sp) KX hns hb hbb hlim hg ha hr F hbind hCX
  cases hk : K.lookup a with
  | some o =>
    have e := KX a o hk
    rw [ha] at e
    cases e
    have hS : SqL K (fun _ => none) a (ns.map V.int) := .inr ⟨_, vs.toArray, _, hk, rfl, rfl, rfl, by rw [List.size_toArray, hi.length]; exact hl, by simpa using rv⟩
    exact core (fun _ => none) (fun _ => .inl rfl) (hsp _ (fun _ => .inl rfl) hS) (fun b u z => nomatch (show (none : Option HO) = some u from z)) (fun b z => absurd rfl z) fun z => absurd rfl z
  | none =>
    have at_a : ∀ b : Addr, b = a → (fun b => if b = a then some (HO.frz { cls := .type "list", data := .seq vs.toArray } (.lst (ns.map V.int))) else none) b = some (.frz { cls := .type "list", data := .seq vs.toArray } (.lst (ns.map V.int))) := fun b z => if_pos z
    have off_a : ∀ b : Addr, b ≠ a → (fun b => if b = a then some (HO.frz { cls := .type "list", data := .seq vs.toArray } (.lst (ns.map V.int))) else none) b = none := fun b z => if_neg z
    generalize (fun b => if b = a then some (HO.frz { cls := .type "list", data := .seq vs.toArray } (.lst (ns.map V.int))) else none) = H0 at at_a off_a
    have only : Only H0 := fun b => by
      by_cases z : b = a
      · exact .inr ⟨_, _, at_a b z⟩
      · exact .inl (off_a b z)
    refine core H0 only (hsp H0 only (.inl (.inr ⟨_, at_a a rfl⟩))) (fun b u z => ?_) (fun b z => ?_) fun _ => hk
    · by_cases y : b = a
      · have e := (at_a b y).symm.trans z
        cases e
        subst y
        exact ⟨ha, by rw [List.length_map]; exact hl, vs, _, rv, ha⟩
      · exact nomatch (off_a b y).symm.trans z
    · by_cases y : b = a
      · exact y
      · exact absurd (off_a b y) z
end
theorem walk_ofG {l : PySem.W.OpenLaw} {n k : Nat} {q : Program} {loose : List Str} {XP : (Str → Option Value) → Heap → Prop} {YP : World → Heap → Prop} {d : DefRec} {K : Params → PySem.W.Frag} {sp : PySem.W.Frag → Sp} {x : Str}
    (hn : l.most = some n) (hn2 : n ≤ sizeLine) (hdf : d.params.defaults = []) (hr : Room k callerA) (hY : ∀ (w : World) (h : Heap), YP w h → (K w.params).In h)
    (F : ∀ (w : World) (mg : Str → Option Value) (fa : Addr) (h : Heap), (K w.params).In h → h.Ns mainGlobals mg → mg d.name = some (.ref fa) →
      ∃ fd : FuncData, (∀ (s : Shared) (u : Value), BindsTo s fd ⟨[u], []⟩ [(x, u)]) ∧ ∀ base : Heap, (K w.params).In base → base.Ns mainGlobals mg → FnG l.prog w (K w.params) mg base CX0 k fa fd [x] (sp (K w.params)))
    (hsp : ∀ (K : PySem.W.Frag) (H : Hp) (a : Addr) (ns : List Int), ns.length ≤ n → SqL K H a (ns.map V.int) → sp K [.ref a] H (fun v _ => v = .bl true) fun _ _ _ => False) :
    PySem.W.WalkO q loose XP YP l.row.toRowW d [] (fun f vs => PySem.call f vs) := by
  refine Att.attach_call hn hdf fun w s₀ s₁ mg mb fa o pm cd doc a vs ns G Y ho hd hcd hmg hobj hints hlen hg => ?_
  obtain ⟨fd, hb, hF⟩ := F w mg fa _ (hY w _ Y) G.T.g hmg
  exact law_callG (hY w _ Y) G.T.g G.T.b G.T.builtins G.T.nolimit hg hobj hints (Nat.le_trans hlen hn2) hr hF hb (fun H _ hS => hsp _ H a ns hlen hS) fun _ _ _ z => z
def spLaw (K : PySem.W.Frag) : Sp := fun vs H Q _ => ∃ (a : Addr) (ns : List Int), vs = [.ref a] ∧ SqL K H a (ns.map V.int) ∧ ns.length ≤ 63 ∧ ∀ H', Q (.bl true) H'
end EH
namespace EH
open PySem L2
/-! ### programs as plain data -/
inductive Ex where
  | num (i : Int) | var (x : Str) | plus (a b : Ex) | minus (a b : Ex) | times (k : Int) (a : Ex)
inductive Ts where
  | less (a b : Ex) | odd (a : Ex) | not (t : Ts)
inductive Sm where
  | set (x : Str) (e : Ex) | half (x : Str) (e : Ex) | tell (e : Ex) | say (w : Str) | stop (w : Str)
  | ite (t : Ts) (yes no : List Sm) | rep (k : Nat) (b : List Sm)
/-! what a value is in the heap: tuples of tuples, ints, texts -/
mutual
def Tr (H : Hp) : PyData → V → Prop
  | .none, v => v = .non
  | .bool b, v => v = .bl b
  | .int i, v => v = .int i
  | .str x, v => v = .str x
  | .tuple ds, v => ∃ a xs, v = .ref a ∧ H a = some (.tup xs) ∧ TrAll H ds xs
  | .list _, _ => False
  | .dict _, _ => False
def TrAll (H : Hp) : List PyData → List V → Prop
  | [], xs => xs = []
  | d :: ds, xs => ∃ v vs, xs = v :: vs ∧ Tr H d v ∧ TrAll H ds vs
end
mutual
theorem Tr.mono {H H' : Hp} (k : ∀ b xs, H b = some (.tup xs) → H' b = some (.tup xs)) : ∀ (d : PyData) (v : V), Tr H d v → Tr H' d v
  | .none, v, h => by simp only [Tr] at h ⊢; exact h
  | .bool b, v, h => by simp only [Tr] at h ⊢; exact h
  | .int i, v, h => by simp only [Tr] at h ⊢; exact h
  | .str x, v, h => by simp only [Tr] at h ⊢; exact h
  | .tuple ds, v, h => by
    simp only [Tr] at h ⊢
    obtain ⟨a, xs, e, h1, h2⟩ := h
    exact ⟨a, xs, e, k a xs h1, TrAll.mono k ds xs h2⟩
  | .list _, v, h => by simp only [Tr] at h
  | .dict _, v, h => by simp only [Tr] at h
theorem TrAll.mono {H H' : Hp} (k : ∀ b xs, H b = some (.tup xs) → H' b = some (.tup xs)) : ∀ (ds : List PyData) (vs : List V), TrAll H ds vs → TrAll H' ds vs
  | [], vs, h => by simp only [TrAll] at h ⊢; exact h
  | d :: ds, vs, h => by
    simp only [TrAll] at h ⊢
    obtain ⟨v, r, e, h1, h2⟩ := h
    exact ⟨v, r, e, Tr.mono k d v h1, TrAll.mono k ds r h2⟩
end
theorem Kp.tr {S : List Addr} {H H' : Hp} {d : PyData} {v : V} (k : Kp S H H') (h : Tr H d v) : Tr H' d v := Tr.mono k.tup d v h
theorem Kp.trAll {S : List Addr} {H H' : Hp} {d : List PyData} {v : List V} (k : Kp S H H') (h : TrAll H d v) : TrAll H' d v := TrAll.mono k.tup d v h
mutual
theorem Tr.dp {K : PySem.W.Frag} {H : Hp} : ∀ (d : PyData) (v : V), Tr H d v → Dp K H v d
  | .none, v, h => by simp only [Tr] at h; subst h; exact .non
  | .bool b, v, h => by simp only [Tr] at h; subst h; exact .bl b
  | .int i, v, h => by simp only [Tr] at h; subst h; exact .int i
  | .str x, v, h => by simp only [Tr] at h; subst h; exact .str x
  | .tuple ds, v, h => by
    simp only [Tr] at h
    obtain ⟨a, xs, e, h1, h2⟩ := h
    subst e
    exact .tup (SqT.of h1) (TrAll.dp ds xs h2)
  | .list _, v, h => by simp only [Tr] at h
  | .dict _, v, h => by simp only [Tr] at h
theorem TrAll.dp {K : PySem.W.Frag} {H : Hp} : ∀ (ds : List PyData) (vs : List V), TrAll H ds vs → DpAll K H vs ds
  | [], vs, h => by simp only [TrAll] at h; subst h; exact .nil
  | d :: ds, vs, h => by
    simp only [TrAll] at h
    obtain ⟨v, r, e, h1, h2⟩ := h
    subst e
    exact .cons (Tr.dp d v h1) (TrAll.dp ds r h2)
end
theorem TrAll.length {H : Hp} : ∀ {ds : List PyData} {vs : List V}, TrAll H ds vs → vs.length = ds.length
  | [], vs, h => by simp only [TrAll] at h; subst h; rfl
  | d :: ds, vs, h => by
    simp only [TrAll] at h
    obtain ⟨v, r, e, h1, h2⟩ := h
    subst e
    rw [List.length_cons, List.length_cons, TrAll.length h2]
theorem TrAll.get {H : Hp} : ∀ {ds : List PyData} {vs : List V} {i : Nat} {d : PyData}, TrAll H ds vs → ds[i]? = some d → ∃ v, vs[i]? = some v ∧ Tr H d v
  | [], vs, i, d, h, e => by simp at e
  | d :: ds, vs, 0, d', h, e => by
    simp only [TrAll] at h
    obtain ⟨v, r, rfl, h1, h2⟩ := h
    cases e
    exact ⟨v, rfl, h1⟩
  | d :: ds, vs, i + 1, d', h, e => by
    simp only [TrAll] at h
    obtain ⟨v, r, rfl, h1, h2⟩ := h
    exact TrAll.get (i := i) h2 e
theorem TrAll.append {H : Hp} : ∀ {ds es : List PyData} {vs ws : List V}, TrAll H ds vs → TrAll H es ws → TrAll H (ds ++ es) (vs ++ ws)
  | [], es, vs, ws, h, g => by simp only [TrAll] at h; subst h; exact g
  | d :: ds, es, vs, ws, h, g => by
    simp only [TrAll] at h
    obtain ⟨v, r, rfl, h1, h2⟩ := h
    simp only [List.cons_append, TrAll]
    exact ⟨v, r ++ ws, rfl, h1, TrAll.append h2 g⟩
/-! what a tuple is -/
theorem tr_int {H : Hp} {i : Int} {v : V} (h : Tr H (.int i) v) : v = .int i := by simp only [Tr] at h; exact h
theorem tr_str {H : Hp} {x : Str} {v : V} (h : Tr H (.str x) v) : v = .str x := by simp only [Tr] at h; exact h
theorem tr_tup {H : Hp} {ds : List PyData} {v : V} (h : Tr H (.tuple ds) v) : ∃ a xs, v = .ref a ∧ H a = some (.tup xs) ∧ TrAll H ds xs := by simp only [Tr] at h; exact h
theorem tr_tup1 {H : Hp} {d1 : PyData} {v : V} (h : Tr H (.tuple [d1]) v) : ∃ a x1, v = .ref a ∧ H a = some (.tup [x1]) ∧ Tr H d1 x1 := by
  simp only [Tr, TrAll] at h
  obtain ⟨a, xs, rfl, h1, x1, _, rfl, t1, rfl⟩ := h
  exact ⟨a, x1, rfl, h1, t1⟩
theorem tr_tup2 {H : Hp} {d1 d2 : PyData} {v : V} (h : Tr H (.tuple [d1, d2]) v) : ∃ a x1 x2, v = .ref a ∧ H a = some (.tup [x1, x2]) ∧ Tr H d1 x1 ∧ Tr H d2 x2 := by
  simp only [Tr, TrAll] at h
  obtain ⟨a, xs, rfl, h1, x1, _, rfl, t1, x2, _, rfl, t2, rfl⟩ := h
  exact ⟨a, x1, x2, rfl, h1, t1, t2⟩
theorem tr_tup3 {H : Hp} {d1 d2 d3 : PyData} {v : V} (h : Tr H (.tuple [d1, d2, d3]) v) : ∃ a x1 x2 x3, v = .ref a ∧ H a = some (.tup [x1, x2, x3]) ∧ Tr H d1 x1 ∧ Tr H d2 x2 ∧ Tr H d3 x3 := by
  simp only [Tr, TrAll] at h
  obtain ⟨a, xs, rfl, h1, x1, _, rfl, t1, x2, _, rfl, t2, x3, _, rfl, t3, rfl⟩ := h
  exact ⟨a, x1, x2, x3, rfl, h1, t1, t2, t3⟩
theorem tr_tup4 {H : Hp} {d1 d2 d3 d4 : PyData} {v : V} (h : Tr H (.tuple [d1, d2, d3, d4]) v) : ∃ a x1 x2 x3 x4, v = .ref a ∧ H a = some (.tup [x1, x2, x3, x4]) ∧ Tr H d1 x1 ∧ Tr H d2 x2 ∧ Tr H d3 x3 ∧ Tr H d4 x4 := by
  simp only [Tr, TrAll] at h
  obtain ⟨a, xs, rfl, h1, x1, _, rfl, t1, x2, _, rfl, t2, x3, _, rfl, t3, x4, _, rfl, t4, rfl⟩ := h
  exact ⟨a, x1, x2, x3, x4, rfl, h1, t1, t2, t3, t4⟩
theorem mk_tup {H : Hp} {ds : List PyData} {a : Addr} {xs : List V} (h : H a = some (.tup xs)) (t : TrAll H ds xs) : Tr H (.tuple ds) (.ref a) := by simp only [Tr]; exact ⟨a, xs, rfl, h, t⟩
theorem trs_nil {H : Hp} : TrAll H [] [] := by simp only [TrAll]
theorem trs_cons {H : Hp} {d : PyData} {ds : List PyData} {v : V} {vs : List V} (h : Tr H d v) (t : TrAll H ds vs) : TrAll H (d :: ds) (v :: vs) := by simp only [TrAll]; exact ⟨v, vs, rfl, h, t⟩
theorem mk_int {H : Hp} {i : Int} : Tr H (.int i) (.int i) := by simp only [Tr]
theorem mk_str {H : Hp} {x : Str} : Tr H (.str x) (.str x) := by simp only [Tr]
theorem mk_non {H : Hp} : Tr H .none .non := by simp only [Tr]
/-! their data -/
def Ex.d : Ex → PyData
  | .num i => .int i
  | .var x => .str x
  | .plus a b => .tuple [.str "plus", a.d, b.d]
  | .minus a b => .tuple [.str "minus", a.d, b.d]
  | .times k a => .tuple [.str "times", .int k, a.d]
def Ts.d : Ts → PyData
  | .less a b => .tuple [.str "less", a.d, b.d]
  | .odd a => .tuple [.str "odd", a.d]
  | .not t => .tuple [.str "not", t.d]
mutual
def Sm.d : Sm → PyData
  | .set x e => .tuple [.str "set", .str x, e.d]
  | .half x e => .tuple [.str "half", .str x, e.d]
  | .tell e => .tuple [.str "tell", e.d]
  | .say w => .tuple [.str "say", .str w]
  | .stop w => .tuple [.str "stop", .str w]
  | .ite t y n => .tuple [.str "if", t.d, .tuple (Sm.ds y), .tuple (Sm.ds n)]
  | .rep k b => .tuple [.str "repeat", .int k, .tuple (Sm.ds b)]
def Sm.ds : List Sm → List PyData
  | [] => []
  | s :: r => s.d :: Sm.ds r
end
/-! ### what they are worth -/
def Ex.ev (env : Str → Int) : Ex → Int
  | .num i => i
  | .var x => env x
  | .plus a b => a.ev env + b.ev env
  | .minus a b => a.ev env - b.ev env
  | .times k a => k * a.ev env
def Ts.ev (env : Str → Int) : Ts → Bool
  | .less a b => decide (a.ev env < b.ev env)
  | .odd a => decide ((a.ev env) % 2 = 1)
  | .not t => !t.ev env
/-- a name that can be shown -/
def NmOk (x : Str) : Prop := PyData.strOk x = true ∧ x.length ≤ 1000
/-- factors are small -/
def Ex.ok : Ex → Prop
  | .num i => -99 ≤ i ∧ i ≤ 99
  | .var x => NmOk x
  | .plus a b => a.ok ∧ b.ok
  | .minus a b => a.ok ∧ b.ok
  | .times k a => -9 ≤ k ∧ k ≤ 9 ∧ a.ok
def Ex.deep : Ex → Nat
  | .num _ => 1
  | .var _ => 1
  | .plus a b => max a.deep b.deep + 1
  | .minus a b => max a.deep b.deep + 1
  | .times _ a => a.deep + 1
/-! ### places -/
mutual
def Sm.pl : Sm → Nat
  | .ite _ y n => 1 + (Sm.pls y + Sm.pls n)
  | .rep _ b => 1 + Sm.pls b
  | .set _ _ => 1
  | .half _ _ => 1
  | .tell _ => 1
  | .say _ => 1
  | .stop _ => 1
def Sm.pls : List Sm → Nat
  | [] => 0
  | s :: r => s.pl + Sm.pls r
end
mutual
def Sm.nest : Sm → Nat
  | .ite _ y n => max (Sm.nests y) (Sm.nests n) + 1
  | .rep _ b => Sm.nests b + 1
  | .set _ _ => 0
  | .half _ _ => 0
  | .tell _ => 0
  | .say _ => 0
  | .stop _ => 0
def Sm.nests : List Sm → Nat
  | [] => 0
  | s :: r => max s.nest (Sm.nests r)
end
def Sm.blks : Sm → List (List Sm)
  | .ite _ y n => [y, n]
  | .rep _ b => [b]
  | .set _ _ => []
  | .half _ _ => []
  | .tell _ => []
  | .say _ => []
  | .stop _ => []
theorem Sm.pl_blks : ∀ s : Sm, s.pl = 1 + ((Sm.blks s).map Sm.pls).sum
  | .ite _ y n => by simp [Sm.pl, Sm.blks]
  | .rep _ b => by simp [Sm.pl, Sm.blks]
  | .set _ _ => by simp [Sm.pl, Sm.blks]
  | .half _ _ => by simp [Sm.pl, Sm.blks]
  | .tell _ => by simp [Sm.pl, Sm.blks]
  | .say _ => by simp [Sm.pl, Sm.blks]
  | .stop _ => by simp [Sm.pl, Sm.blks]
theorem Sm.pl_pos (s : Sm) : 0 < s.pl := by rw [Sm.pl_blks]; omega
theorem Sm.pls_map : ∀ l : List Sm, Sm.pls l = (l.map Sm.pl).sum
  | [] => by simp [Sm.pls]
  | s :: r => by simp [Sm.pls, Sm.pls_map r]
theorem Sm.len_pls : ∀ l : List Sm, l.length ≤ Sm.pls l
  | [] => by simp
  | s :: r => by
    have := Sm.len_pls r
    have := s.pl_pos
    simp only [Sm.pls, List.length_cons]
    omega
theorem Sm.nest_mem : ∀ {l : List Sm} {s : Sm}, s ∈ l → s.nest ≤ Sm.nests l
  | [], s, h => by cases h
  | t :: r, s, h => by
    simp only [Sm.nests]
    rcases List.mem_cons.mp h with rfl | h
    · omega
    · have := Sm.nest_mem h
      omega
theorem Sm.pl_mem : ∀ {l : List Sm} {s : Sm}, s ∈ l → s.pl ≤ Sm.pls l
  | [], s, h => by cases h
  | t :: r, s, h => by
    simp only [Sm.pls]
    rcases List.mem_cons.mp h with rfl | h
    · omega
    · have := Sm.pl_mem h
      omega
theorem Sm.blk_nest : ∀ {s : Sm} {b : List Sm}, b ∈ s.blks → Sm.nests b + 1 ≤ s.nest
  | .ite _ y n, b, h => by
    simp only [Sm.blks, List.mem_cons, List.not_mem_nil, or_false] at h
    simp only [Sm.nest]
    rcases h with rfl | rfl <;> omega
  | .rep _ _, b, h => by
    simp only [Sm.blks, List.mem_cons, List.not_mem_nil, or_false] at h
    subst h
    simp only [Sm.nest]
    omega
  | .set _ _, b, h => by simp [Sm.blks] at h
  | .half _ _, b, h => by simp [Sm.blks] at h
  | .tell _, b, h => by simp [Sm.blks] at h
  | .say _, b, h => by simp [Sm.blks] at h
  | .stop _, b, h => by simp [Sm.blks] at h
theorem Sm.blk_pls : ∀ {s : Sm} {b : List Sm}, b ∈ s.blks → Sm.pls b + 1 ≤ s.pl
  | .ite _ y n, b, h => by
    simp only [Sm.blks, List.mem_cons, List.not_mem_nil, or_false] at h
    simp only [Sm.pl]
    rcases h with rfl | rfl <;> omega
  | .rep _ _, b, h => by
    simp only [Sm.blks, List.mem_cons, List.not_mem_nil, or_false] at h
    subst h
    simp only [Sm.pl]
    omega
  | .set _ _, b, h => by simp [Sm.blks] at h
  | .half _ _, b, h => by simp [Sm.blks] at h
  | .tell _, b, h => by simp [Sm.blks] at h
  | .say _, b, h => by simp [Sm.blks] at h
  | .stop _, b, h => by simp [Sm.blks] at h
theorem Sm.blks_le : ∀ s : Sm, s.blks.length ≤ 2
  | .ite _ y n => by simp [Sm.blks]
  | .rep _ b => by simp [Sm.blks]
  | .set _ _ => by simp [Sm.blks]
  | .half _ _ => by simp [Sm.blks]
  | .tell _ => by simp [Sm.blks]
  | .say _ => by simp [Sm.blks]
  | .stop _ => by simp [Sm.blks]
theorem Sm.ds_map : ∀ l : List Sm, Sm.ds l = l.map Sm.d
  | [] => by simp [Sm.ds]
  | s :: r => by simp [Sm.ds, Sm.ds_map r]
theorem pls_sum (b : List Sm) : (b.map fun t => (Sm.pl t : Int)).sum = (Sm.pls b : Int) := by
  rw [Sm.pls_map]
  induction b with
  | nil => rfl
  | cons t r ih =>
    rw [List.map_cons, List.map_cons, List.sum_cons, List.sum_cons, ih]
    omega
theorem flat_rep {α : Type} (x : α) : ∀ k : Nat, (List.replicate k [x]).flatten = List.replicate k x
  | 0 => rfl
  | k + 1 => by rw [List.replicate_succ, List.flatten_cons, flat_rep x k, List.replicate_succ]; rfl
theorem trs_rep {H : Hp} {d : PyData} {v : V} (h : Tr H d v) : ∀ k : Nat, TrAll H (List.replicate k d) (List.replicate k v)
  | 0 => trs_nil
  | k + 1 => trs_cons h (trs_rep h k)
def spBlocks : Sp := fun vs H Q _ => ∃ (v : V) (s : Sm), vs = [v] ∧ Tr H s.d v ∧ ∀ (p : Addr) (bs : List V) (H' : Hp), H p = none → H' p = some (.lst bs) → TrAll H' (s.blks.map fun b => .tuple (Sm.ds b)) bs → Kp [] H H' → Q (.ref p) H'
def spPlaces (n : Nat) : Sp := fun vs H Q _ => ∃ (v : V) (s : Sm), vs = [v] ∧ Tr H s.d v ∧ s.nest ≤ n ∧ s.pl ≤ 1000000 ∧ ∀ (H' : Hp), Kp [] H H' → Q (.int (s.pl : Int)) H'
def sp0 (f : Nat → Sp) : Nat → Sp
  | 0 => fun _ _ _ _ => False
  | n + 1 => f n
theorem fn_no {P : Program} {w : World} {K : PySem.W.Frag} {mg : Str → Option Value} {base : Heap} {k : Nat} {f : Addr} {fd : FuncData} {ps : List Str} {sp : Sp} (no : ∀ vs H Q E, ¬ sp vs H Q E) : FnOk P w K mg base CX0 k f fd ps sp :=
  ⟨fun vs H Q E h => absurd h (no vs H Q E), fun A outer s H args us vs Q E _ _ _ _ h => absurd h (no vs H Q E)⟩
/-! ### the names of a run -/
def EnvRel (kvs : List (Key × V)) (env : Str → Int) : Prop := ∀ y : Str, (valV kvs (Sum.inr y)).getD (.int 0) = .int (env y)
def spValue (n : Nat) : Sp := fun vs H Q _ => ∃ (v : V) (nd : Addr) (e : Ex) (kvs : List (Key × V)) (env : Str → Int), vs = [v, .ref nd] ∧ Tr H e.d v ∧ H nd = some (.dK kvs) ∧ EnvRel kvs env ∧ e.ok ∧ e.deep ≤ n ∧ Q (.int (e.ev env)) H
/-- expressions at most three deep -/
def Ts.ok : Ts → Prop
  | .less a b => (a.ok ∧ a.deep ≤ 3) ∧ b.ok ∧ b.deep ≤ 3
  | .odd a => a.ok ∧ a.deep ≤ 3
  | .not t => t.ok
def Ts.nots : Ts → Nat
  | .less _ _ => 0
  | .odd _ => 0
  | .not t => t.nots + 1
def spTrue (n : Nat) : Sp := fun vs H Q _ => ∃ (v : V) (nd : Addr) (t : Ts) (kvs : List (Key × V)) (env : Str → Int), vs = [v, .ref nd] ∧ Tr H t.d v ∧ H nd = some (.dK kvs) ∧ EnvRel kvs env ∧ t.ok ∧ t.nots ≤ n ∧ Q (.bl (t.ev env)) H
def spTrue' : Nat → Sp
  | 0 => fun _ _ _ _ => False
  | n + 1 => spTrue n
theorem Ex.deep_pos : ∀ e : Ex, 0 < e.deep
  | .num _ => Nat.one_pos
  | .var _ => Nat.one_pos
  | .plus _ _ => Nat.succ_pos _
  | .minus _ _ => Nat.succ_pos _
  | .times _ _ => Nat.succ_pos _
theorem dec_int (a b : Int) : decide (V.int a = V.int b) = decide (a = b) := decide_eq_decide.mpr ⟨fun h => V.int.inj h, fun h => by rw [h]⟩
theorem fmod2 (v : Int) : v.fmod 2 = v % 2 := Int.fmod_eq_emod_of_nonneg v (by decide)
theorem fdiv2 (v : Int) : v.fdiv 2 = v / 2 := Int.fdiv_eq_ediv_of_nonneg v (by decide)
end EH
namespace EH
open PySem L2
local macro_rules | `(tactic| walk_at "sd") => `(tactic| first | assumption | ((with_reducible show (_ : Int) ≤ _); omega) | ((with_reducible show (_ : Int) < _); omega) | rfl | exact SqL.of (by assumption) | exact SqT.of (by assumption) | exact atI_nat (j := 0) rfl | exact atI_nat (j := 1) rfl | exact atI_nat (j := 2) rfl | exact atI_nat (j := 3) rfl | exact sz_lit rfl | exact lt_lit rfl | exact pos_lit rfl | exact le_lit rfl | exact Or.inl (SqL.of (by assumption)) | exact ⟨_, SqL.of (by assumption)⟩ | exact ⟨_, SqT.of (by assumption)⟩ | exact Or.inr (SqT.of (by assumption)) | exact ClsV.ty _ | exact TyX.base (TyOf.int _) | exact TyX.base (TyOf.str _) | exact TyX.base (TyOf.tup (by assumption)) | exact kit_ty isi_ss | exact kit_ty isi_is | exact kit_ty isi_ts | exact kit_ty isi_si | exact kit_ty isi_ii | exact kit_ty isi_ti | exact kit_ty isi_st | exact kit_ty isi_it | exact kit_ty isi_tt | exact Or.inl ⟨_, Or.inl (by assumption)⟩ | exact DGet.k (k := Sum.inr _) (by assumption) | exact DGet.k (k := Sum.inl _) (by assumption) | (refine cpow_of ?_; decide) | (refine cmul_of ?_; decide) | (show (_ : Int) ≠ 0; first | decide | omega) | (refine cdivn_of ?_; decide) | exact Or.inl ⟨rfl, _, SqL.of (by assumption)⟩ | omega)
local macro_rules | `(tactic| walk_at "st") => `(tactic| first | (apply Exists.intro) | (refine And.intro ?_ ?_; focus (walk_at "sd")) | (apply Or.inl; apply Exists.intro; refine And.intro ?_ ?_; focus rfl) | (apply Or.inr; apply Exists.intro; refine And.intro ?_ ?_; focus rfl))
local macro_rules | `(tactic| walk_at "go") => `(tactic| repeat (walk_at "st"))
section
variable {P : Program} {w : World} {K : PySem.W.Frag} {mg : Str → Option Value} {base : Heap}
theorem st_plus : ¬ (("plus" : Str) = "times") := by decide +kernel
theorem st_minus : ¬ (("minus" : Str) = "times") := by decide +kernel
theorem st_minus2 : ¬ (("minus" : Str) = "plus") := by decide +kernel
theorem ok_value_of (T : Top K mg) : ∀ n : Nat, FnOk P w K mg base CX0 n T.value_of.f T.value_of.fd ["expression", "names"] (spValue n)
  | 0 => by
    have no : ∀ vs H Q E, ¬ spValue 0 vs H Q E := by
      rintro vs H Q E ⟨v, nd, e, kvs, env, _, _, _, _, _, h, _⟩
      have := e.deep_pos
      omega
    exact ⟨fun vs H Q E h => absurd h (no vs H Q E), fun A outer s H args us vs Q E _ _ _ _ h => absurd h (no vs H Q E)⟩
  | n + 1 => by
    have G_value_of := ok_value_of T n
    refine T.value_of.F.ok sc_value_of (fun vs H Q E h => ?_) (fun cdv A outer s H vs Q E hr h => ?_)
    · obtain ⟨v, nd, e, kvs, env, rfl, _⟩ := h
      rfl
    obtain ⟨v, nd, e, kvs, env, rfl, hT, hn, he, hok, hdp, q⟩ := h
    have hu := hu_of hr
    refine ⟨_, (pss_cons (ps_if (pt_val (pe_callB (id := "isinstance") (call_isiK (K := K) rfl) (by rfl) T.isinstance (by decide +kernel) (pa_cons (pv 0) (pa_cons (pe_bltn (v := .ty "str") (u := .type "str") (by rfl) T.str (by decide +kernel) rfl) pa_nil)))) (pss_one (ps_ret (pe_dget2 hu (pv 1) (pv 0) pe_int ⟨by rfl, by rfl, by rfl, by rfl⟩))) pss_nil)
      (pss_cons (ps_if (pt_val (pe_callB (id := "isinstance") (call_isiK (K := K) rfl) (by rfl) T.isinstance (by decide +kernel) (pa_cons (pv 0) (pa_cons (pe_bltn (v := .ty "int") (u := .type "int") (by rfl) T.int (by decide +kernel) rfl) pa_nil)))) (pss_one (ps_ret (pv 0))) pss_nil)
      (pss_cons (ps_asg (pv 0) (pg_tup (by rfl) (pgs_cons (pg_name (i := 2) sc_value_of.nd rfl (.inl rfl)) (pgs_cons (pg_name (i := 3) sc_value_of.nd rfl (.inl rfl)) (pgs_cons (pg_name (i := 4) sc_value_of.nd rfl (.inl rfl)) pgs_nil)))))
      (pss_cons (ps_if (pt_cmpR op_eq (pv 2) pe_str (nomark _)) (pss_one (ps_ret (pe_op op_mul (pv 3) (pe_call G_value_of (hr.mono (by omega)) (by rfl) T.value_of.g T.value_of.F.kp T.value_of.b .nil pass0 (pa_cons (pv 4) (pa_cons (pv 1) pa_nil)))))) pss_nil)
      (pss_cons (ps_if (pt_cmpR op_eq (pv 2) pe_str (nomark _)) (pss_one (ps_ret (pe_op op_add (pe_call G_value_of (hr.mono (by omega)) (by rfl) T.value_of.g T.value_of.F.kp T.value_of.b .nil pass0 (pa_cons (pv 3) (pa_cons (pv 1) pa_nil))) (pe_call G_value_of (hr.mono (by omega)) (by rfl) T.value_of.g T.value_of.F.kp T.value_of.b .nil pass0 (pa_cons (pv 4) (pa_cons (pv 1) pa_nil)))))) pss_nil)
      (pss_one (ps_ret (pe_op op_sub (pe_call G_value_of (hr.mono (by omega)) (by rfl) T.value_of.g T.value_of.F.kp T.value_of.b .nil pass0 (pa_cons (pv 3) (pa_cons (pv 1) pa_nil))) (pe_call G_value_of (hr.mono (by omega)) (by rfl) T.value_of.g T.value_of.F.kp T.value_of.b .nil pass0 (pa_cons (pv 4) (pa_cons (pv 1) pa_nil))))))))))), ?_⟩
    cases e with
    | var x =>
      cases tr_str hT
      walk_at "go"
      rw [he x]
      exact q
    | num i =>
      cases tr_int hT
      walk_at "go"
      exact q
    | plus a b =>
      obtain ⟨p, x1, x2, x3, rfl, h1, t1, t2, t3⟩ := tr_tup3 hT
      cases tr_str t1
      have d2 : max a.deep b.deep + 1 ≤ n + 1 := hdp
      obtain ⟨o1, o2⟩ := (show a.ok ∧ b.ok from hok)
      walk_at "go"
      exact q
    | minus a b =>
      obtain ⟨p, x1, x2, x3, rfl, h1, t1, t2, t3⟩ := tr_tup3 hT
      cases tr_str t1
      have d2 : max a.deep b.deep + 1 ≤ n + 1 := hdp
      obtain ⟨o1, o2⟩ := (show a.ok ∧ b.ok from hok)
      walk_at "go"
      exact q
    | times k a =>
      obtain ⟨p, x1, x2, x3, rfl, h1, t1, t2, t3⟩ := tr_tup3 hT
      cases tr_str t1
      cases tr_int t2
      have d2 : a.deep + 1 ≤ n + 1 := hdp
      obtain ⟨o1, o2, o3⟩ := (show -9 ≤ k ∧ k ≤ 9 ∧ a.ok from hok)
      have o4 : CMul k (a.ev env) := .inl ⟨by omega, by omega⟩
      walk_at "go"
      exact q
theorem ok_is_true (T : Top K mg) : ∀ n : Nat, FnOk P w K mg base CX0 (n + 4) T.is_true.f T.is_true.fd ["test", "names"] (spTrue n)
  | n => by
    have G_value_of : FnOk P w K mg base CX0 3 T.value_of.f T.value_of.fd ["expression", "names"] (spValue 3) := ok_value_of T 3
    have G_is_true : FnOk P w K mg base CX0 (n + 3) T.is_true.f T.is_true.fd ["test", "names"] (spTrue' n) := by
      cases n with
      | zero =>
        have no : ∀ vs H Q E, ¬ spTrue' 0 vs H Q E := fun _ _ _ _ h => h
        exact ⟨fun vs H Q E h => absurd h (no vs H Q E), fun A outer s H args us vs Q E _ _ _ _ h => absurd h (no vs H Q E)⟩
      | succ m => exact ok_is_true T m
    refine T.is_true.F.ok sc_is_true (fun vs H Q E h => ?_) (fun cdv A outer s H vs Q E hr h => ?_)
    · obtain ⟨v, nd, t, kvs, env, rfl, _⟩ := h
      rfl
    obtain ⟨v, nd, t, kvs, env, rfl, hT, hn, he, hok, hdp, q⟩ := h
    have hu := hu_of hr
    refine ⟨_, (pss_cons (ps_if (pt_cmpR op_eq (pe_ix (ix_tupK (K := K) rfl) (pv 0) pe_int (fun _ _ => rfl)) pe_str (nomark _)) (pss_one (ps_ret (pe_not (pe_call G_is_true (hr.mono (by omega)) (by rfl) T.is_true.g T.is_true.F.kp T.is_true.b .nil pass0 (pa_cons (pe_ix (ix_tupK (K := K) rfl) (pv 0) pe_int (fun _ _ => rfl)) (pa_cons (pv 1) pa_nil)))))) pss_nil)
      (pss_cons (ps_if (pt_cmpR op_eq (pe_ix (ix_tupK (K := K) rfl) (pv 0) pe_int (fun _ _ => rfl)) pe_str (nomark _)) (pss_one (ps_ret (pe_cmpR op_eq (pe_op op_modN (pe_call G_value_of (hr.mono (by omega)) (by rfl) T.value_of.g T.value_of.F.kp T.value_of.b .nil pass0 (pa_cons (pe_ix (ix_tupK (K := K) rfl) (pv 0) pe_int (fun _ _ => rfl)) (pa_cons (pv 1) pa_nil))) pe_int) pe_int (nomark _)))) pss_nil)
      (pss_one (ps_ret (pe_cmpR op_lt (pe_call G_value_of (hr.mono (by omega)) (by rfl) T.value_of.g T.value_of.F.kp T.value_of.b .nil pass0 (pa_cons (pe_ix (ix_tupK (K := K) rfl) (pv 0) pe_int (fun _ _ => rfl)) (pa_cons (pv 1) pa_nil))) (pe_call G_value_of (hr.mono (by omega)) (by rfl) T.value_of.g T.value_of.F.kp T.value_of.b .nil pass0 (pa_cons (pe_ix (ix_tupK (K := K) rfl) (pv 0) pe_int (fun _ _ => rfl)) (pa_cons (pv 1) pa_nil))) (nomark _)))))), ?_⟩
    cases t with
    | less a b =>
      obtain ⟨p, x1, x2, x3, rfl, h1, t1, t2, t3⟩ := tr_tup3 hT
      cases tr_str t1
      obtain ⟨⟨o1, d1⟩, o2, d2⟩ := (show (a.ok ∧ a.deep ≤ 3) ∧ b.ok ∧ b.deep ≤ 3 from hok)
      walk_at "go"
      exact q
    | odd a =>
      obtain ⟨p, x1, x2, rfl, h1, t1, t2⟩ := tr_tup2 hT
      cases tr_str t1
      obtain ⟨o1, d1⟩ := (show a.ok ∧ a.deep ≤ 3 from hok)
      walk_at "go"
      have e : decide (V.int ((a.ev env).fmod 2) = V.int 1) = decide ((a.ev env) % 2 = 1) := by rw [dec_int, fmod2]
      exact e ▸ q
    | not t =>
      obtain ⟨p, x1, x2, rfl, h1, t1, t2⟩ := tr_tup2 hT
      cases tr_str t1
      have d1 : t.nots + 1 ≤ n := hdp
      obtain ⟨m, rfl⟩ : ∃ m, n = m + 1 := ⟨n - 1, by omega⟩
      have o1 : t.ok := hok
      walk_at "go"
      exact q
end
end EH
namespace EH
open PySem L2
local macro_rules | `(tactic| walk_at "sd") => `(tactic| first | assumption | ((with_reducible show (_ : Int) ≤ _); omega) | ((with_reducible show (_ : Int) < _); omega) | rfl | exact SqL.of (by assumption) | exact SqT.of (by assumption) | exact atI_nat (j := 0) rfl | exact atI_nat (j := 1) rfl | exact atI_nat (j := 2) rfl | exact atI_nat (j := 3) rfl | exact sz_lit rfl | exact lt_lit rfl | exact pos_lit rfl | exact le_lit rfl | exact Or.inl (SqL.of (by assumption)) | exact ⟨_, SqL.of (by assumption)⟩ | exact ⟨_, SqT.of (by assumption)⟩ | exact Or.inr (SqT.of (by assumption)) | exact ClsV.ty _ | exact TyX.base (TyOf.int _) | exact TyX.base (TyOf.str _) | exact TyX.base (TyOf.tup (by assumption)) | exact kit_ty isi_ss | exact kit_ty isi_is | exact kit_ty isi_ts | exact kit_ty isi_si | exact kit_ty isi_ii | exact kit_ty isi_ti | exact kit_ty isi_st | exact kit_ty isi_it | exact kit_ty isi_tt | exact Or.inl ⟨_, Or.inl (by assumption)⟩ | exact DGet.k (k := Sum.inr _) (by assumption) | exact DGet.k (k := Sum.inl _) (by assumption) | (refine cpow_of ?_; decide) | (refine cmul_of ?_; decide) | (show (_ : Int) ≠ 0; first | decide | omega) | (refine cdivn_of ?_; decide) | exact Or.inl ⟨rfl, _, SqL.of (by assumption)⟩ | omega)
local macro_rules | `(tactic| walk_at "st") => `(tactic| first | (apply Exists.intro) | (refine And.intro ?_ ?_; focus (walk_at "sd")) | (apply Or.inl; apply Exists.intro; refine And.intro ?_ ?_; focus rfl) | (apply Or.inr; apply Exists.intro; refine And.intro ?_ ?_; focus rfl))
local macro_rules | `(tactic| walk_at "go") => `(tactic| repeat (walk_at "st"))
section
variable {P : Program} {w : World} {K : PySem.W.Frag} {mg : Str → Option Value} {base : Heap}
theorem ok_blocks_of (T : Top K mg) {k : Nat} : FnOk P w K mg base CX0 (k + 1) T.blocks_of.f T.blocks_of.fd ["statement"] spBlocks := by
  refine T.blocks_of.F.ok sc_blocks_of (fun vs H Q E h => ?_) (fun cdv A outer s H vs Q E hr h => ?_)
  · obtain ⟨v, s, rfl, _⟩ := h
    rfl
  obtain ⟨v, st, rfl, hT, q⟩ := h
  refine ⟨_, (pss_cons (ps_if (pt_cmpR op_eq (pe_ix (ix_tupK (K := K) rfl) (pv 0) pe_int (fun _ _ => rfl)) pe_str (nomark _)) (pss_one (ps_ret (pe_lstA (pa_cons (pe_ix (ix_tupK (K := K) rfl) (pv 0) pe_int (fun _ _ => rfl)) (pa_cons (pe_ix (ix_tupK (K := K) rfl) (pv 0) pe_int (fun _ _ => rfl)) pa_nil))))) pss_nil)
      (pss_one (ps_ret (pe_ifExp (pt_cmpR op_eq (pe_ix (ix_tupK (K := K) rfl) (pv 0) pe_int (fun _ _ => rfl)) pe_str (nomark _)) (pe_lstA (pa_cons (pe_ix (ix_tupK (K := K) rfl) (pv 0) pe_int (fun _ _ => rfl)) pa_nil)) (pe_lstA pa_nil))))), ?_⟩
  cases st with
  | ite t y n =>
    obtain ⟨p, x1, x2, x3, x4, rfl, h1, t1, t2, t3, t4⟩ := tr_tup4 hT
    cases tr_str t1
    walk_at "go"
    intro r H1 hr1 e1
    have k1 := new_kp hr1 e1
    exact q r _ H1 hr1 (new_at e1) (trs_cons (k1.tr t3) (trs_cons (k1.tr t4) trs_nil)) k1
  | rep n b =>
    obtain ⟨p, x1, x2, x3, rfl, h1, t1, t2, t3⟩ := tr_tup3 hT
    cases tr_str t1
    walk_at "go"
    intro r H1 hr1 e1
    have k1 := new_kp hr1 e1
    exact q r _ H1 hr1 (new_at e1) (trs_cons (k1.tr t3) trs_nil) k1
  | set x e =>
    obtain ⟨p, x1, x2, x3, rfl, h1, t1, t2, t3⟩ := tr_tup3 hT
    cases tr_str t1
    walk_at "go"
    intro r H1 hr1 e1
    exact q r _ H1 hr1 (new_at e1) trs_nil (new_kp hr1 e1)
  | half x e =>
    obtain ⟨p, x1, x2, x3, rfl, h1, t1, t2, t3⟩ := tr_tup3 hT
    cases tr_str t1
    walk_at "go"
    intro r H1 hr1 e1
    exact q r _ H1 hr1 (new_at e1) trs_nil (new_kp hr1 e1)
  | tell e =>
    obtain ⟨p, x1, x2, rfl, h1, t1, t2⟩ := tr_tup2 hT
    cases tr_str t1
    walk_at "go"
    intro r H1 hr1 e1
    exact q r _ H1 hr1 (new_at e1) trs_nil (new_kp hr1 e1)
  | say e =>
    obtain ⟨p, x1, x2, rfl, h1, t1, t2⟩ := tr_tup2 hT
    cases tr_str t1
    walk_at "go"
    intro r H1 hr1 e1
    exact q r _ H1 hr1 (new_at e1) trs_nil (new_kp hr1 e1)
  | stop e =>
    obtain ⟨p, x1, x2, rfl, h1, t1, t2⟩ := tr_tup2 hT
    cases tr_str t1
    walk_at "go"
    intro r H1 hr1 e1
    exact q r _ H1 hr1 (new_at e1) trs_nil (new_kp hr1 e1)
theorem ok_places_in (T : Top K mg) : ∀ n : Nat, FnOk P w K mg base CX0 (n + 2) T.places_in.f T.places_in.fd ["statement"] (spPlaces n)
  | n => by
    have G_blocks_of : FnOk P w K mg base CX0 1 T.blocks_of.f T.blocks_of.fd ["statement"] spBlocks := ok_blocks_of T
    have G_places_in : FnOk P w K mg base CX0 (n + 1) T.places_in.f T.places_in.fd ["statement"] (sp0 spPlaces n) := by
      cases n with
      | zero => exact fn_no fun _ _ _ _ h => h
      | succ m => exact ok_places_in T m
    refine T.places_in.F.ok sc_places_in (fun vs H Q E h => ?_) (fun cdv A outer s H vs Q E hr h => ?_)
    · obtain ⟨v, s, rfl, _⟩ := h
      rfl
    obtain ⟨v, st, rfl, hT, hn, hp, q⟩ := h
    refine ⟨_, (pss_one (ps_ret (pe_op op_add pe_int (pe_callB (id := "sum") (cr_sumK (K := K) rfl (by rfl)) (by rfl) T.sum (by decide +kernel) (pa_cons (pe_lc (own := [("block", 1)]) (by rfl) sc_places_in.nd (pi_listK (K := K) rfl (pe_call G_blocks_of (hr.mono (by omega)) (by rfl) T.blocks_of.g T.blocks_of.F.kp T.blocks_of.b .nil pass0 (pa_cons (pv 0) pa_nil))) (blkOk_by (N := ["statement", "block", "item"]) (sc := defScope s_places_in) (own := [("block", 1)]) (by decide +kernel)) (fun _ _ _ _ _ => (pg_name (i := 1) sc_places_in.nd rfl (.inl rfl))) (fun _ _ _ _ _ => pts_nil) (fun _ _ _ _ _ => by exact (pe_callB (id := "sum") (cr_sumK (K := K) rfl (by rfl)) (by rfl) T.sum (by decide +kernel) (pa_cons (pe_lc (own := [("item", 2)]) (by rfl) sc_places_in.nd (pi_tupK (K := K) rfl (pv 1)) (blkOk_by (own := [("item", 2)]) (by kernel_rfl)) (fun _ _ _ _ _ => (pg_name (i := 2) sc_places_in.nd rfl (.inl rfl))) (fun _ _ _ _ _ => pts_nil) (fun _ _ _ _ _ => (pe_call G_places_in (hr.mono (by omega)) (by rfl) T.places_in.g T.places_in.F.kp T.places_in.b .nil pass0 (pa_cons (pv 2) pa_nil)))) pa_nil)))) pa_nil))))), ?_⟩
    walk_at "go"
    intro p bs H1 hp1 g1 tb k1
    refine ⟨p, rfl, ⟨_, SqL.of g1⟩, fun D hD => ?_⟩
    have lb : bs.length = st.blks.length := by rw [tb.length, List.length_map]
    refine lc_list (K := K) (a := p) (xs := bs) (fun i H2 => Kp [D] H1 H2 ∧ H2 D = some (.lst ((st.blks.take i).map fun b => V.int (Sm.pls b : Int)))) ⟨(Kp.new hD).sub (by simp), upd_same⟩ ?_ ?_ ?_
    · rintro i H2 _ ⟨k2, _⟩
      exact SqL.of (k2.keep _ _ g1 (ne1 (ne_of_none g1 hD)))
    · rintro i x H2 hx ⟨k2, d2⟩
      have hi : i < st.blks.length := by
        have := (List.getElem?_eq_some_iff.mp hx).1
        omega
      have eb : st.blks[i]? = some st.blks[i] := List.getElem?_eq_getElem hi
      have mb : st.blks[i] ∈ st.blks := List.getElem_mem hi
      generalize st.blks[i] = b at eb mb
      have n1 := Sm.blk_nest mb
      have n2 := Sm.blk_pls mb
      obtain ⟨x', hx', tx⟩ := TrAll.get (i := i) tb (by rw [List.getElem?_map, eb]; rfl)
      rw [hx] at hx'
      cases hx'
      obtain ⟨a, xs, rfl, ha, ta⟩ := tr_tup tx
      have ha2 : H2 a = some (.tup xs) := k2.tup _ _ ha
      have ta2 : TrAll H2 (Sm.ds b) xs := k2.trAll ta
      rw [Sm.ds_map] at ta2
      have lx : xs.length = b.length := by rw [ta2.length, List.length_map]
      have ll := Sm.len_pls b
      have hz : ((st.blks.take i).map fun b => V.int (Sm.pls b : Int)).length < sizeLine := by
        rw [List.length_map, List.length_take]
        have := st.blks_le
        exact sz_lt (by omega)
      walk_at "go"
      intro D2 hD2
      refine lc_tup (K := K) (a := a) (xs := xs) (fun j H3 => Kp [D2] H2 H3 ∧ H3 D2 = some (.lst ((b.take j).map fun t => V.int (Sm.pl t : Int)))) ⟨(Kp.new hD2).sub (by simp), upd_same⟩ ?_ ?_ ?_
      · rintro j H3 _ ⟨k3, _⟩
        exact SqT.of (k3.tup _ _ ha2)
      · rintro j y H3 hy ⟨k3, d3⟩
        have hj : j < b.length := by
          have := (List.getElem?_eq_some_iff.mp hy).1
          omega
        have et : b[j]? = some b[j] := List.getElem?_eq_getElem hj
        have mt : b[j] ∈ b := List.getElem_mem hj
        generalize b[j] = t at et mt
        have m1 := Sm.nest_mem mt
        have m2 := Sm.pl_mem mt
        obtain ⟨y', hy', ty⟩ := TrAll.get (i := j) ta2 (by rw [List.getElem?_map, et]; rfl)
        rw [hy] at hy'
        cases hy'
        have ty3 := k3.tr ty
        obtain ⟨m, rfl⟩ : ∃ m, n = m + 1 := ⟨n - 1, by omega⟩
        have hz2 : ((b.take j).map fun t => V.int (Sm.pl t : Int)).length < sizeLine := by
          rw [List.length_map, List.length_take]
          exact sz_lt (by omega)
        walk_at "go"
        intro H4 k4
        have d4 := k4.at d3
        walk_at "go"
        refine ⟨(k3.step0 k4).step1 (Kp.put d4 (fun _ z => by cases z)) (.inl (by simp)), ?_⟩
        rw [upd_same, List.take_add_one, et, List.map_append]
        rfl
      · rintro H3 ⟨k3, d3⟩
        rw [lx, List.take_length] at d3
        have d3' : H3 D2 = some (.lst ((b.map fun t => (Sm.pl t : Int)).map V.int)) := by
          rw [d3, List.map_map]
          rfl
        have es : (b.map fun t => (Sm.pl t : Int)).sum = (Sm.pls b : Int) := by
          rw [Sm.pls_map]
          clear d3 d3' ll lx ta2 ha2 ha ta tx hx eb mb n1 n2
          induction b with
          | nil => rfl
          | cons t r ih =>
            rw [List.map_cons, List.map_cons, List.sum_cons, List.sum_cons, ih]
            omega
        have dD : H3 D = some (.lst ((st.blks.take i).map fun b => V.int (Sm.pls b : Int))) := k3.keep _ _ d2 (ne1 (ne_of_none d2 hD2))
        walk_at "go"
        rw [es]
        refine ⟨(k2.step1 k3 (.inr (k2.free hD2 (ne1 (ne_of_none d2 hD2).symm)))).step1 (Kp.put dD (fun _ z => by cases z)) (.inl (by simp)), ?_⟩
        rw [upd_same, List.take_add_one, eb, List.map_append]
        rfl
    · rintro H2 ⟨k2, d2⟩
      rw [lb, List.take_length] at d2
      have d2' : H2 D = some (.lst ((st.blks.map fun b => (Sm.pls b : Int)).map V.int)) := by
        rw [d2, List.map_map]
        rfl
      have es : 1 + (st.blks.map fun b => (Sm.pls b : Int)).sum = (st.pl : Int) := by
        rw [Sm.pl_blks]
        generalize st.blks = bb
        have : (bb.map fun b => (Sm.pls b : Int)).sum = (((bb.map Sm.pls).sum : Nat) : Int) := by
          induction bb with
          | nil => rfl
          | cons t r ih =>
            rw [List.map_cons, List.map_cons, List.sum_cons, List.sum_cons, ih]
            omega
        omega
      walk_at "go"
      have q2 := q H2 (k1.step1 k2 (.inr (k1.free hD (by simp))))
      rw [← es] at q2
      exact q2
end
end EH
namespace EH
open PySem L2
/-! ### runs as plain functions -/
structure Cs where
  env : Str → Int
  said : List Key
  turns : List Int
def setE (env : Str → Int) (x : Str) (v : Int) : Str → Int := fun y => if y = x then v else env y
section
variable (dec : Nat → Int → Int → Int) (ways : Int → Option Int)
def halv (s : Cs) (v p : Int) : Int × Cs :=
  if v % 2 = 0 then (v / 2, s) else
    match ways p with
    | some c => (v / 2 + c, s)
    | none => (v / 2 + dec s.turns.length v p, { s with turns := s.turns ++ [dec s.turns.length v p] })
def iterN : Nat → (Cs → Option Str × Cs) → Cs → Option Str × Cs
  | 0, _, s => (none, s)
  | n + 1, f, s => match f s with
    | (some c, s') => (some c, s')
    | (none, s') => iterN n f s'
mutual
def Sm.run : Sm → Int → Cs → Option Str × Cs
  | .set x e, _, s => (none, { s with env := setE s.env x (e.ev s.env) })
  | .half x e, p, s => (none, { (halv dec ways s (e.ev s.env) p).2 with env := setE s.env x (halv dec ways s (e.ev s.env) p).1 })
  | .tell e, _, s => (none, { s with said := s.said ++ [Sum.inl (e.ev s.env)] })
  | .say c, _, s => (none, { s with said := s.said ++ [Sum.inr c] })
  | .stop c, _, s => (some c, s)
  | .ite t y n, p, s => if t.ev s.env then Sm.runs y (p + 1) s else Sm.runs n (p + 1 + (Sm.pls y : Int)) s
  | .rep k b, p, s => iterN k (fun s => Sm.runs b (p + 1) s) s
def Sm.runs : List Sm → Int → Cs → Option Str × Cs
  | [], _, s => (none, s)
  | t :: r, p, s => match t.run p s with
    | (some c, s') => (some c, s')
    | (none, s') => Sm.runs r (p + (t.pl : Int)) s'
end
end
mutual
def Sm.wt : Sm → Nat
  | .ite _ y n => 1 + (Sm.wts y + Sm.wts n)
  | .rep k b => 1 + k * Sm.wts b
  | .set _ _ => 1
  | .half _ _ => 1
  | .tell _ => 1
  | .say _ => 1
  | .stop _ => 1
def Sm.wts : List Sm → Nat
  | [] => 0
  | s :: r => s.wt + Sm.wts r
end
mutual
def Sm.ok : Sm → Prop
  | .ite t y n => t.ok ∧ t.nots ≤ 2 ∧ Sm.oks y ∧ Sm.oks n
  | .rep k b => k ≤ 8 ∧ Sm.oks b
  | .set x e => (e.ok ∧ e.deep ≤ 3) ∧ NmOk x
  | .half x e => (e.ok ∧ e.deep ≤ 3) ∧ NmOk x
  | .tell e => e.ok ∧ e.deep ≤ 3
  | .say c => PyData.strOk c = true ∧ c.length ≤ 20
  | .stop c => PyData.strOk c = true ∧ c.length ≤ 20
def Sm.oks : List Sm → Prop
  | [] => True
  | s :: r => s.ok ∧ Sm.oks r
end
/-! ### the object of a run -/
structure Cad where
  x : Addr
  dx : Addr
  nd : Addr
  sd : Addr
  td : Addr
  cd : Addr
  wd : Addr
def cfs (a : Cad) (r : V) : List (Str × V) := [("names", .ref a.nd), ("said", .ref a.sd), ("turns", .ref a.td), ("choices", .ref a.cd), ("ways", .ref a.wd), ("rule", r)]
def WaysRel (kvs : List (Key × V)) (ways : Int → Option Int) : Prop := ∀ p : Int, valV kvs (Sum.inl p) = (ways p).map V.int
structure CAt (C : Addr) (H : Hp) (a : Cad) (r : V) (chs : List Int) (wk : List (Key × V)) (n : Nat) (s : Cs) : Prop where
  ob : H a.x = some (.ins C a.dx (cfs a r))
  nm : ∃ kvs, H a.nd = some (.dK kvs) ∧ EnvRel kvs s.env ∧ kvs.length ≤ n + 1
  sa : H a.sd = some (.lst (s.said.map kV))
  tu : H a.td = some (.lst (s.turns.map V.int))
  ch : H a.cd = some (.tup (chs.map V.int))
  wy : H a.wd = some (.dK wk)
  ls : s.said.length ≤ n
  lt : s.turns.length ≤ n
  ne1 : a.nd ≠ a.wd
  ne2 : a.sd ≠ a.td
  lc : chs.length ≤ 1000000
def wV : Option Str → V
  | none => .non
  | some c => .str c
def decC (chs : List Int) : Nat → Int → Int → Int := fun k _ _ => chs.getD k 0
theorem CAt.mono {C : Addr} {H : Hp} {a : Cad} {r : V} {chs : List Int} {wk : List (Key × V)} {n m : Nat} {s : Cs} (c : CAt C H a r chs wk n s) (h : n ≤ m) : CAt C H a r chs wk m s := by
  obtain ⟨kvs, h1, h2, h3⟩ := c.nm
  have := c.ls
  have := c.lt
  exact ⟨c.ob, ⟨kvs, h1, h2, by omega⟩, c.sa, c.tu, c.ch, c.wy, by omega, by omega, c.ne1, c.ne2, c.lc⟩
theorem CAt.kp0 {C : Addr} {H H' : Hp} {a : Cad} {r : V} {chs : List Int} {wk : List (Key × V)} {n : Nat} {s : Cs} (c : CAt C H a r chs wk n s) (k : Kp [] H H') : CAt C H' a r chs wk n s := by
  obtain ⟨kvs, h1, h2, h3⟩ := c.nm
  exact ⟨k.at c.ob, ⟨kvs, k.at h1, h2, h3⟩, k.at c.sa, k.at c.tu, k.tup _ _ c.ch, k.at c.wy, c.ls, c.lt, c.ne1, c.ne2, c.lc⟩
theorem EnvRel.put {kvs : List (Key × V)} {env : Str → Int} (h : EnvRel kvs env) (x : Str) (v : Int) : EnvRel (putK kvs (Sum.inr x) (.int v)) (setE env x v) := by
  intro y
  rw [valV_put]
  unfold setE
  by_cases e : y = x
  · subst e
    rw [if_pos rfl, if_pos rfl]
    rfl
  · rw [if_neg e, if_neg (fun z => e (Sum.inr.inj z))]
    exact h y
/-- the name x stands for v behind a store -/
theorem CAt.put {C : Addr} {H H1 : Hp} {a : Cad} {r : V} {chs : List Int} {wk : List (Key × V)} {n : Nat} {s : Cs} {kvs : List (Key × V)} {x : Str} {v : Int} (c : CAt C H a r chs wk n s) (hk : H a.nd = some (.dK kvs)) (he : EnvRel kvs s.env)
    (hl : kvs.length ≤ n + 1) (e : H1 = upd H a.nd (.dK (putK kvs (Sum.inr x) (.int v)))) : CAt C H1 a r chs wk (n + 1) { s with env := setE s.env x v } ∧ Kp [a.nd, a.sd, a.td] H H1 := by
  have k : Kp [a.nd] H H1 := by rw [e]; exact Kp.put hk (fun _ z => by cases z)
  have l2 := length_putK kvs (Sum.inr x : Key) (V.int v)
  have := c.ls
  have := c.lt
  refine ⟨⟨k.keep _ _ c.ob (EH.ne1 (ne_of c.ob hk (fun z => by cases z))), ⟨_, by rw [e]; exact upd_same, he.put x v, by omega⟩, k.keep _ _ c.sa (EH.ne1 (ne_of c.sa hk (fun z => by cases z))), k.keep _ _ c.tu (EH.ne1 (ne_of c.tu hk (fun z => by cases z))),
    k.tup _ _ c.ch, k.keep _ _ c.wy (EH.ne1 c.ne1.symm), by show s.said.length ≤ _; omega, by show s.turns.length ≤ _; omega, c.ne1, c.ne2, c.lc⟩, k.sub (by simp)⟩
theorem CAt.say {C : Addr} {H H1 : Hp} {a : Cad} {r : V} {chs : List Int} {wk : List (Key × V)} {n : Nat} {s : Cs} {v : Key} (c : CAt C H a r chs wk n s) (h1 : H1 a.sd = some (.lst (s.said.map kV ++ [kV v]))) (k : Kp [a.sd] H H1) :
    CAt C H1 a r chs wk (n + 1) { s with said := s.said ++ [v] } ∧ Kp [a.nd, a.sd, a.td] H H1 := by
  obtain ⟨kvs, g1, g2, g3⟩ := c.nm
  have := c.ls
  have := c.lt
  refine ⟨⟨k.keep _ _ c.ob (EH.ne1 (ne_of c.ob c.sa (fun z => by cases z))), ⟨kvs, k.keep _ _ g1 (EH.ne1 (ne_of g1 c.sa (fun z => by cases z))), g2, by omega⟩, by rw [h1, List.map_append]; rfl, k.keep _ _ c.tu (EH.ne1 c.ne2.symm),
    k.tup _ _ c.ch, k.keep _ _ c.wy (EH.ne1 (ne_of c.wy c.sa (fun z => by cases z))), by show (s.said ++ [v]).length ≤ _; rw [List.length_append, List.length_singleton]; omega, by show s.turns.length ≤ _; omega, c.ne1, c.ne2, c.lc⟩, k.sub (by simp)⟩
theorem CAt.turn {C : Addr} {H H1 : Hp} {a : Cad} {r : V} {chs : List Int} {wk : List (Key × V)} {n : Nat} {s : Cs} {v : Int} (c : CAt C H a r chs wk n s) (h1 : H1 a.td = some (.lst (s.turns.map V.int ++ [.int v]))) (k : Kp [a.td] H H1) :
    CAt C H1 a r chs wk (n + 1) { s with turns := s.turns ++ [v] } ∧ Kp [a.nd, a.sd, a.td] H H1 := by
  obtain ⟨kvs, g1, g2, g3⟩ := c.nm
  have := c.ls
  have := c.lt
  refine ⟨⟨k.keep _ _ c.ob (EH.ne1 (ne_of c.ob c.tu (fun z => by cases z))), ⟨kvs, k.keep _ _ g1 (EH.ne1 (ne_of g1 c.tu (fun z => by cases z))), g2, by omega⟩, k.keep _ _ c.sa (EH.ne1 c.ne2), by rw [h1, List.map_append]; rfl,
    k.tup _ _ c.ch, k.keep _ _ c.wy (EH.ne1 (ne_of c.wy c.tu (fun z => by cases z))), by show s.said.length ≤ _; omega, by show (s.turns ++ [v]).length ≤ _; rw [List.length_append, List.length_singleton]; omega, c.ne1, c.ne2, c.lc⟩, k.sub (by simp)⟩
/-! ### the promises -/
def spChoice (C : Addr) : Sp := fun vs H Q _ => ∃ (a : Cad) (r : V) (chs : List Int) (wk : List (Key × V)) (n : Nat) (s : Cs) (v p : Int), vs = [.ref a.x, .int v, .int p] ∧ CAt C H a r chs wk n s ∧ r = .non ∧ n ≤ 1000000 ∧ Q (.int (decC chs s.turns.length v p)) H
def spHalved (C : Addr) : Sp := fun vs H Q _ => ∃ (a : Cad) (r : V) (chs : List Int) (wk : List (Key × V)) (ways : Int → Option Int) (n : Nat) (s : Cs) (v p : Int), vs = [.ref a.x, .int v, .int p] ∧ CAt C H a r chs wk n s ∧ r = .non ∧ WaysRel wk ways ∧ n < 1000000 ∧
  ∀ H', CAt C H' a r chs wk (n + 1) (halv (decC chs) ways s v p).2 → Kp [a.nd, a.sd, a.td] H H' → Q (.int (halv (decC chs) ways s v p).1) H'
def Sm.plain : Sm → Prop
  | .ite _ _ _ => False
  | .rep _ _ => False
  | .set _ _ => True
  | .half _ _ => True
  | .tell _ => True
  | .say _ => True
  | .stop _ => True
def spDo (C : Addr) : Sp := fun vs H Q _ => ∃ (a : Cad) (r : V) (chs : List Int) (wk : List (Key × V)) (ways : Int → Option Int) (n : Nat) (s : Cs) (v : V) (st : Sm) (p : Int), vs = [.ref a.x, v, .int p] ∧ CAt C H a r chs wk n s ∧ r = .non ∧ WaysRel wk ways ∧ n + 2 ≤ 1000000 ∧
  Tr H st.d v ∧ st.plain ∧ st.ok ∧ ∀ H', CAt C H' a r chs wk (n + 2) (st.run (decC chs) ways p s).2 → Kp [a.nd, a.sd, a.td] H H' → Q (wV (st.run (decC chs) ways p s).1) H'
/-! ### the parts of a statement with blocks -/
def partsOf (env : Str → Int) (p : Int) : Sm → List (List Sm × Int)
  | .ite t y n => if t.ev env then [(y, p + 1)] else [(n, p + 1 + (Sm.pls y : Int))]
  | .rep k b => List.replicate k (b, p + 1)
  | _ => []
def partD (q : List Sm × Int) : PyData := .tuple [.tuple (Sm.ds q.1), .int q.2]
def spParts (C : Addr) (m : Nat) : Sp := fun vs H Q _ => ∃ (a : Cad) (r : V) (chs : List Int) (wk : List (Key × V)) (n : Nat) (s : Cs) (v : V) (st : Sm) (p : Int), vs = [.ref a.x, v, .int p] ∧ CAt C H a r chs wk n s ∧
  Tr H st.d v ∧ ¬ st.plain ∧ st.ok ∧ st.pl ≤ 1000000 ∧ st.nest ≤ m ∧ ∀ (l : Addr) (ts : List V) (H' : Hp), H l = none → H' l = some (.lst ts) → TrAll H' ((partsOf s.env p st).map partD) ts → Kp [] H H' → Q (.ref l) H'
section
variable (dec : Nat → Int → Int → Int) (ways : Int → Option Int)
def foldP : List (List Sm × Int) → Option Str × Cs → Option Str × Cs
  | [], r => r
  | q :: l, (none, s) => foldP l (Sm.runs dec ways q.1 q.2 s)
  | q :: l, (some c, s) => foldP l (some c, s)
theorem foldP_some (c : Str) (s : Cs) : ∀ l, foldP dec ways l (some c, s) = (some c, s)
  | [] => rfl
  | q :: l => foldP_some c s l
theorem foldP_rep (b : List Sm) (p : Int) : ∀ (k : Nat) (s : Cs), foldP dec ways (List.replicate k (b, p)) (none, s) = iterN k (fun s => Sm.runs dec ways b p s) s
  | 0, s => rfl
  | k + 1, s => by
    show foldP dec ways (List.replicate k (b, p)) (Sm.runs dec ways b p s) = _
    rw [iterN]
    cases h : Sm.runs dec ways b p s with
    | mk c s' =>
      cases c with
      | none =>
        dsimp only
        exact foldP_rep b p k s'
      | some c => exact foldP_some dec ways c s' _
theorem run_parts : ∀ {st : Sm} (h : ¬ st.plain) (p : Int) (s : Cs), st.run dec ways p s = foldP dec ways (partsOf s.env p st) (none, s)
  | .ite t y n, h, p, s => by
    simp only [Sm.run, partsOf]
    split <;> rfl
  | .rep k b, h, p, s => by
    simp only [Sm.run, partsOf]
    exact (foldP_rep dec ways b (p + 1) k s).symm
  | .set _ _, h, _, _ => absurd trivial h
  | .half _ _, h, _, _ => absurd trivial h
  | .tell _, h, _, _ => absurd trivial h
  | .say _, h, _, _ => absurd trivial h
  | .stop _, h, _, _ => absurd trivial h
end
theorem parts_mem {env : Str → Int} {p : Int} {q : List Sm × Int} : ∀ {st : Sm}, q ∈ partsOf env p st → q.1 ∈ st.blks
  | .ite t y n, h => by
    simp only [partsOf] at h
    split at h
    · simp at h; subst h; simp [Sm.blks]
    · simp at h; subst h; simp [Sm.blks]
  | .rep k b, h => by
    simp only [partsOf] at h
    have := List.eq_of_mem_replicate h
    subst this
    simp [Sm.blks]
  | .set _ _, h => by simp [partsOf] at h
  | .half _ _, h => by simp [partsOf] at h
  | .tell _, h => by simp [partsOf] at h
  | .say _, h => by simp [partsOf] at h
  | .stop _, h => by simp [partsOf] at h
theorem parts_wt {env : Str → Int} {p : Int} : ∀ {st : Sm}, (((partsOf env p st).map fun q => Sm.wts q.1).sum) + 1 ≤ st.wt
  | .ite t y n => by
    simp only [partsOf, Sm.wt]
    split <;> simp <;> omega
  | .rep k b => by
    simp only [partsOf, Sm.wt, List.map_replicate, List.sum_replicate_nat]
    omega
  | .set _ _ => by simp [partsOf, Sm.wt]
  | .half _ _ => by simp [partsOf, Sm.wt]
  | .tell _ => by simp [partsOf, Sm.wt]
  | .say _ => by simp [partsOf, Sm.wt]
  | .stop _ => by simp [partsOf, Sm.wt]
theorem parts_len {env : Str → Int} {p : Int} : ∀ {st : Sm}, st.ok → (partsOf env p st).length ≤ 1000
  | .ite t y n, h => by
    simp only [partsOf]
    split <;> simp
  | .rep k b, h => by
    simp only [partsOf, List.length_replicate]
    exact Nat.le_trans (show k ≤ 8 ∧ Sm.oks b by simpa only [Sm.ok] using h).1 (by decide)
  | .set _ _, h => by simp [partsOf]
  | .half _ _, h => by simp [partsOf]
  | .tell _, h => by simp [partsOf]
  | .say _, h => by simp [partsOf]
  | .stop _, h => by simp [partsOf]
theorem oks_mem : ∀ {l : List Sm} {s : Sm}, Sm.oks l → s ∈ l → s.ok
  | [], s, _, h => by cases h
  | t :: r, s, o, h => by
    simp only [Sm.oks] at o
    rcases List.mem_cons.mp h with rfl | h
    · exact o.1
    · exact oks_mem o.2 h
theorem ok_blk : ∀ {st : Sm} {b : List Sm}, st.ok → b ∈ st.blks → Sm.oks b
  | .ite t y n, b, o, h => by
    simp only [Sm.ok] at o
    simp only [Sm.blks, List.mem_cons, List.not_mem_nil, or_false] at h
    rcases h with rfl | rfl
    · exact o.2.2.1
    · exact o.2.2.2
  | .rep k b', b, o, h => by
    simp only [Sm.ok] at o
    simp only [Sm.blks, List.mem_cons, List.not_mem_nil, or_false] at h
    subst h
    exact o.2
  | .set _ _, b, o, h => by simp [Sm.blks] at h
  | .half _ _, b, o, h => by simp [Sm.blks] at h
  | .tell _, b, o, h => by simp [Sm.blks] at h
  | .say _, b, o, h => by simp [Sm.blks] at h
  | .stop _, b, o, h => by simp [Sm.blks] at h
def Sm.kw : Sm → Str
  | .ite _ _ _ => "if"
  | .rep _ _ => "repeat"
  | .set _ _ => "set"
  | .half _ _ => "half"
  | .tell _ => "tell"
  | .say _ => "say"
  | .stop _ => "stop"
theorem Sm.head {H : Hp} {v : V} : ∀ {t : Sm}, Tr H t.d v → ∃ u rest, v = .ref u ∧ H u = some (.tup (.str t.kw :: rest))
  | .ite _ _ _, h => by obtain ⟨u, x1, x2, x3, x4, rfl, h1, t1, _⟩ := tr_tup4 h; cases tr_str t1; exact ⟨u, _, rfl, h1⟩
  | .rep _ _, h => by obtain ⟨u, x1, x2, x3, rfl, h1, t1, _⟩ := tr_tup3 h; cases tr_str t1; exact ⟨u, _, rfl, h1⟩
  | .set _ _, h => by obtain ⟨u, x1, x2, x3, rfl, h1, t1, _⟩ := tr_tup3 h; cases tr_str t1; exact ⟨u, _, rfl, h1⟩
  | .half _ _, h => by obtain ⟨u, x1, x2, x3, rfl, h1, t1, _⟩ := tr_tup3 h; cases tr_str t1; exact ⟨u, _, rfl, h1⟩
  | .tell _, h => by obtain ⟨u, x1, x2, rfl, h1, t1, _⟩ := tr_tup2 h; cases tr_str t1; exact ⟨u, _, rfl, h1⟩
  | .say _, h => by obtain ⟨u, x1, x2, rfl, h1, t1, _⟩ := tr_tup2 h; cases tr_str t1; exact ⟨u, _, rfl, h1⟩
  | .stop _, h => by obtain ⟨u, x1, x2, rfl, h1, t1, _⟩ := tr_tup2 h; cases tr_str t1; exact ⟨u, _, rfl, h1⟩
theorem Sm.kw_in (t : Sm) : (inV (.str t.kw) [.str "if", .str "repeat"] = true ∧ ¬ t.plain) ∨ (inV (.str t.kw) [.str "if", .str "repeat"] = false ∧ t.plain) := by
  cases t with
  | ite _ _ _ => exact .inl ⟨(by decide +kernel : inV (.str "if") [.str "if", .str "repeat"] = true), id⟩
  | rep _ _ => exact .inl ⟨(by decide +kernel : inV (.str "repeat") [.str "if", .str "repeat"] = true), id⟩
  | set _ _ => exact .inr ⟨(by decide +kernel : inV (.str "set") [.str "if", .str "repeat"] = false), trivial⟩
  | half _ _ => exact .inr ⟨(by decide +kernel : inV (.str "half") [.str "if", .str "repeat"] = false), trivial⟩
  | tell _ => exact .inr ⟨(by decide +kernel : inV (.str "tell") [.str "if", .str "repeat"] = false), trivial⟩
  | say _ => exact .inr ⟨(by decide +kernel : inV (.str "say") [.str "if", .str "repeat"] = false), trivial⟩
  | stop _ => exact .inr ⟨(by decide +kernel : inV (.str "stop") [.str "if", .str "repeat"] = false), trivial⟩
theorem Sm.wt_pos : ∀ t : Sm, 1 ≤ t.wt
  | .ite _ _ _ => by simp only [Sm.wt]; omega
  | .rep _ _ => by simp only [Sm.wt]; omega
  | .set _ _ => by simp [Sm.wt]
  | .half _ _ => by simp [Sm.wt]
  | .tell _ => by simp [Sm.wt]
  | .say _ => by simp [Sm.wt]
  | .stop _ => by simp [Sm.wt]
theorem Sm.nests_pos {t : Sm} (h : ¬ t.plain) : 1 ≤ t.nest := by
  cases t with
  | ite _ _ _ => simp only [Sm.nest]; omega
  | rep _ _ => simp only [Sm.nest]; omega
  | set _ _ => exact absurd trivial h
  | half _ _ => exact absurd trivial h
  | tell _ => exact absurd trivial h
  | say _ => exact absurd trivial h
  | stop _ => exact absurd trivial h
def wsum (l : List (List Sm × Int)) : Nat := (l.map fun q => Sm.wts q.1).sum
def spGo (C : Addr) (m : Nat) : Sp := fun vs H Q _ => ∃ (a : Cad) (r : V) (chs : List Int) (wk : List (Key × V)) (ways : Int → Option Int) (n : Nat) (s : Cs) (v : V) (b : List Sm) (p : Int), vs = [.ref a.x, v, .int p] ∧ CAt C H a r chs wk n s ∧ r = .non ∧ WaysRel wk ways ∧ n + 2 * Sm.wts b ≤ 1000000 ∧
  Tr H (.tuple (Sm.ds b)) v ∧ Sm.oks b ∧ Sm.pls b ≤ 1000000 ∧ Sm.nests b ≤ m ∧ ∀ H', CAt C H' a r chs wk (n + 2 * Sm.wts b) (Sm.runs (decC chs) ways b p s).2 → Kp [a.nd, a.sd, a.td] H H' → Q (wV (Sm.runs (decC chs) ways b p s).1) H'
/-! ### what a run tells -/
def kD : Key → PyData
  | .inl i => .int i
  | .inr x => .str x
def wD : Option Str → PyData
  | none => .none
  | some c => .str c
theorem tr_kD {H : Hp} : ∀ k : Key, Tr H (kD k) (kV k)
  | .inl _ => mk_int
  | .inr _ => mk_str
theorem trs_kD {H : Hp} : ∀ ks : List Key, TrAll H (ks.map kD) (ks.map kV)
  | [] => trs_nil
  | k :: r => trs_cons (tr_kD k) (trs_kD r)
theorem trs_int {H : Hp} : ∀ ks : List Int, TrAll H (ks.map PyData.int) (ks.map V.int)
  | [] => trs_nil
  | _ :: r => trs_cons mk_int (trs_int r)
theorem tr_wD {H : Hp} : ∀ o : Option Str, Tr H (wD o) (wV o)
  | none => mk_non
  | some _ => mk_str
def env0 (n : Int) : Str → Int := fun y => if y = "n" then n else 0
def cs0 (n : Int) : Cs := ⟨env0 n, [], []⟩
/-- items, word, turns -/
def resD (r : Option Str × Cs) : PyData := .tuple [.tuple (r.2.said.map kD), wD r.1, .tuple (r.2.turns.map PyData.int)]
def spInit (C : Addr) : Sp := fun vs H Q _ => ∃ (x dx cd wd : Addr) (num : Int) (r : V) (chs : List Int) (wk : List (Key × V)), vs = [.ref x, .int num, .ref cd, .ref wd, r] ∧ H x = some (.ins C dx []) ∧ H cd = some (.tup (chs.map V.int)) ∧ H wd = some (.dK wk) ∧ chs.length ≤ 1000000 ∧
  ∀ (a : Cad) (H' : Hp), a.x = x → CAt C H' a r chs wk 0 (cs0 num) → Kp [x] H H' → (∀ b ∈ [a.nd, a.sd, a.td], H b = none) → Q .non H'
def spCourseOf (m : Nat) : Sp := fun vs H Q _ => ∃ (v : V) (b : List Sm) (num : Int) (cd wd : Addr) (chs : List Int) (wk : List (Key × V)) (ways : Int → Option Int), vs = [v, .int num, .ref cd, .ref wd, .non] ∧ Tr H (.tuple (Sm.ds b)) v ∧ H cd = some (.tup (chs.map V.int)) ∧
  H wd = some (.dK wk) ∧ WaysRel wk ways ∧ chs.length ≤ 1000000 ∧ Sm.oks b ∧ Sm.wts b ≤ 100000 ∧ Sm.pls b ≤ 1000000 ∧ Sm.nests b ≤ m ∧ ∀ (t : V) (H' : Hp), Tr H' (resD (Sm.runs (decC chs) ways b 0 (cs0 num))) t → Kp [] H H' → Q t H'
def spRunOf (m : Nat) : Sp := fun vs H Q _ => ∃ (v : V) (b : List Sm) (num : Int) (cd wd : Addr) (chs : List Int) (wk : List (Key × V)) (ways : Int → Option Int), vs = [v, .int num, .ref cd, .ref wd] ∧ Tr H (.tuple (Sm.ds b)) v ∧ H cd = some (.tup (chs.map V.int)) ∧
  H wd = some (.dK wk) ∧ WaysRel wk ways ∧ chs.length ≤ 1000000 ∧ Sm.oks b ∧ Sm.wts b ≤ 100000 ∧ Sm.pls b ≤ 1000000 ∧ Sm.nests b ≤ m ∧ ∀ (t : V) (H' : Hp), Tr H' (resD (Sm.runs (decC chs) ways b 0 (cs0 num))) t → Kp [] H H' → Q t H'
def noWay : Int → Option Int := fun _ => none
theorem noWay_rel : WaysRel [] noWay := fun _ => rfl
def spRun (m : Nat) : Sp := fun vs H Q _ => ∃ (v : V) (b : List Sm) (num : Int) (cd : Addr) (chs : List Int), vs = [v, .int num, .ref cd] ∧ Tr H (.tuple (Sm.ds b)) v ∧ H cd = some (.tup (chs.map V.int)) ∧
  chs.length ≤ 1000000 ∧ Sm.oks b ∧ Sm.wts b ≤ 100000 ∧ Sm.pls b ≤ 1000000 ∧ Sm.nests b ≤ m ∧ ∀ (t : V) (H' : Hp), Tr H' (resD (Sm.runs (decC chs) noWay b 0 (cs0 num))) t → Kp [] H H' → Q t H'
end EH
namespace EH
open PySem L2
local macro_rules | `(tactic| walk_at "sd") => `(tactic| first | assumption | ((with_reducible show (_ : Int) ≤ _); omega) | ((with_reducible show (_ : Int) < _); omega) | rfl | exact SqL.of (by assumption) | exact SqT.of (by assumption) | exact atI_nat (j := 0) rfl | exact atI_nat (j := 1) rfl | exact atI_nat (j := 2) rfl | exact atI_nat (j := 3) rfl | exact sz_lit rfl | exact lt_lit rfl | exact pos_lit rfl | exact le_lit rfl | exact Or.inl (SqL.of (by assumption)) | exact ⟨_, SqL.of (by assumption)⟩ | exact ⟨_, SqT.of (by assumption)⟩ | exact Or.inr (SqT.of (by assumption)) | exact ClsV.ty _ | exact TyX.base (TyOf.int _) | exact TyX.base (TyOf.str _) | exact TyX.base (TyOf.tup (by assumption)) | exact kit_ty isi_ss | exact kit_ty isi_is | exact kit_ty isi_ts | exact kit_ty isi_si | exact kit_ty isi_ii | exact kit_ty isi_ti | exact kit_ty isi_st | exact kit_ty isi_it | exact kit_ty isi_tt | exact Or.inl ⟨_, Or.inl (by assumption)⟩ | exact DGet.k (k := Sum.inr _) (by assumption) | exact DGet.k (k := Sum.inl _) (by assumption) | (refine cpow_of ?_; decide) | (refine cmul_of ?_; decide) | (show (_ : Int) ≠ 0; first | decide | omega) | (refine cdivn_of ?_; decide) | exact Or.inl ⟨rfl, _, SqL.of (by assumption)⟩ | omega)
local macro_rules | `(tactic| walk_at "st") => `(tactic| first | (apply Exists.intro) | (refine And.intro ?_ ?_; focus (walk_at "sd")) | (apply Or.inl; apply Exists.intro; refine And.intro ?_ ?_; focus rfl) | (apply Or.inr; apply Exists.intro; refine And.intro ?_ ?_; focus rfl))
local macro_rules | `(tactic| walk_at "go") => `(tactic| repeat (walk_at "st"))
section
variable {P : Program} {w : World} {K : PySem.W.Frag} {mg : Str → Option Value} {base : Heap}
theorem ok_Course_choice (T : Top K mg) {k : Nat} : FnOk P w K mg base CX0 (k + 1) T.Course_choice.f T.Course_choice.fd ["self", "value", "place"] (spChoice T.Course.C) := by
  refine T.Course_choice.F.ok sc_Course_choice (fun vs H Q E h => ?_) (fun cdv A outer s H vs Q E hr h => ?_)
  · obtain ⟨a, r, chs, wk, n, s, v, p, rfl, _⟩ := h
    rfl
  obtain ⟨a, r, chs, wk, n, s, v, p, rfl, c, rfl, hn, q⟩ := h
  refine ⟨_, (pss_cons (ps_if (pt_cmpR op_notN (pe_fldK (K := K) rfl (pv 0)) pe_non (nomark _)) (pss_one ps_never) pss_nil)
      (pss_one (ps_ret (pe_ifExp (pt_cmpR op_lt (pe_callB (id := "len") (call_lenK (K := K) rfl) (by rfl) T.len PySem.boot_len (pa_cons (pe_fldK (K := K) rfl (pv 0)) pa_nil)) (pe_callB (id := "len") (call_lenK (K := K) rfl) (by rfl) T.len PySem.boot_len (pa_cons (pe_fldK (K := K) rfl (pv 0)) pa_nil)) (nomark _)) (pe_ix (ix_tupK (K := K) rfl) (pe_fldK (K := K) rfl (pv 0)) (pe_callB (id := "len") (call_lenK (K := K) rfl) (by rfl) T.len PySem.boot_len (pa_cons (pe_fldK (K := K) rfl (pv 0)) pa_nil)) (fun _ _ => rfl)) (pe_glob (v := .int 0) (by rfl) T.g_DOWN ⟨_, rfl⟩))))), ?_⟩
  have cl := T.Course.cl
  have n1 := T.n_Course_rule
  have n2 := T.n_Course_turns
  have n3 := T.n_Course_choices
  have ob := c.ob
  have tu := c.tu
  have ch := c.ch
  walk_at "go"
  refine ite2 (fun hc => ?_) (fun hc => ?_)
  · have hc1 : (((s.turns.map V.int).length : Nat) : Int) < (((chs.map V.int).length : Nat) : Int) := of_decide_eq_true hc
    rw [List.length_map, List.length_map] at hc1
    have e : atI (chs.map V.int) (((s.turns.map V.int).length : Nat) : Int) = some (.int (decC chs s.turns.length v p)) := by
      rw [List.length_map]
      refine atI_nat ?_
      rw [List.getElem?_map, decC, List.getD_eq_getElem?_getD, List.getElem?_eq_getElem (by omega)]
      rfl
    walk_at "go"
    exact q
  · have hc1 : ¬ (((s.turns.map V.int).length : Nat) : Int) < (((chs.map V.int).length : Nat) : Int) := of_decide_eq_false (Bool.eq_false_iff.mpr hc)
    rw [List.length_map, List.length_map] at hc1
    have e : decC chs s.turns.length v p = 0 := by
      rw [decC, List.getD_eq_getElem?_getD, List.getElem?_eq_none (by omega)]
      rfl
    rw [e] at q
    exact q
theorem ok_Course_halved (T : Top K mg) {k : Nat} : FnOk P w K mg base CX0 (k + 2) T.Course_halved.f T.Course_halved.fd ["self", "value", "place"] (spHalved T.Course.C) := by
  have G_Course_choice : FnOk P w K mg base CX0 (k + 1) T.Course_choice.f T.Course_choice.fd ["self", "value", "place"] (spChoice T.Course.C) := ok_Course_choice T
  refine T.Course_halved.F.ok sc_Course_halved (fun vs H Q E h => ?_) (fun cdv A outer s H vs Q E hr h => ?_)
  · obtain ⟨a, r, chs, wk, ways, n, s, v, p, rfl, _⟩ := h
    rfl
  obtain ⟨a, r, chs, wk, ways, n, s, v, p, rfl, c, rfl, hw, hn, q⟩ := h
  have hu := hu_of hr
  refine ⟨_, (pss_cons (ps_if (pt_cmpR op_eq (pe_op op_modN (pv 1) pe_int) pe_int (nomark _)) (pss_one (ps_ret (pe_op op_fdivN (pv 1) pe_int))) pss_nil)
      (pss_cons (ps_if (pt_cmp (pc_din hu (pv 2) (pe_fldK (K := K) rfl (pv 0)))) (pss_one (ps_ret (pe_op op_add (pe_op op_fdivN (pv 1) pe_int) (pe_dget hu (pe_fldK (K := K) rfl (pv 0)) (pv 2) (fun _ _ => rfl))))) pss_nil)
      (pss_cons (ps_set (i := 3) sc_Course_halved.nd rfl (.inl rfl) (pe_meth (pv 0) T.Course.cl T.Course_choice.m G_Course_choice (hr.mono (by omega)) T.Course_choice.b .nil pass0 (pa_cons (pv 1) (pa_cons (pv 2) pa_nil))))
      (pss_cons (ps_expr (pe_bmK (K := K) rfl PySem.F.plainAttrs_list PySem.F.slot_list_append PySem.F.type_list_append mt_appendA (pe_fldK (K := K) rfl (pv 0)) (pa_cons (pv 3) pa_nil)))
      (pss_one (ps_ret (pe_op op_add (pe_op op_fdivN (pv 1) pe_int) (pv 3)))))))), ?_⟩
  have cl := T.Course.cl
  have n1 := T.n_Course_ways
  have n2 := T.n_Course_turns
  have ob := c.ob
  have tu := c.tu
  have wy := c.wy
  walk_at "go"
  refine ite2 (fun hc => ?_) (fun hc => ?_)
  · have hc1 : v % 2 = 0 := by
      have := of_decide_eq_true hc
      rw [← fmod2]
      exact V.int.inj this
    walk_at "go"
    have e : halv (decC chs) ways s v p = (v / 2, s) := by rw [halv, if_pos hc1]
    rw [e] at q
    have q1 := q H (c.mono (Nat.le_succ n)) Kp.refl
    show Q (.int (v.fdiv 2)) H
    rw [fdiv2]
    exact q1
  · have hc1 : ¬ v % 2 = 0 := by
      have := of_decide_eq_false (Bool.eq_false_iff.mpr hc)
      rw [← fmod2]
      exact fun z => this (congrArg V.int z)
    have hg : DGet H a.wd (.int p) (valV wk (Sum.inl p)) := DGet.k (k := Sum.inl p) wy
    have hp := hw p
    cases e : ways p with
    | some c1 =>
      rw [e] at hp
      rw [hp] at hg
      have hg2 : DGet H a.wd (.int p) (some (.int c1)) := hg
      have e2 : halv (decC chs) ways s v p = (v / 2 + c1, s) := by rw [halv, if_neg hc1, e]
      rw [e2] at q
      refine ⟨_, rfl, _, rfl, a.x, _, _, _, _, rfl, ob, cl, n1, rfl, a.wd, _, rfl, hg2, _, rfl, ?_⟩
      refine iteT ?_
      walk_at "go"
      have q1 := q H (c.mono (Nat.le_succ n)) Kp.refl
      show Q (.int (v.fdiv 2 + c1)) H
      rw [fdiv2]
      exact q1
    | none =>
      rw [e] at hp
      rw [hp] at hg
      have hg2 : DGet H a.wd (.int p) none := hg
      have e2 : halv (decC chs) ways s v p = (v / 2 + decC chs s.turns.length v p, { s with turns := s.turns ++ [decC chs s.turns.length v p] }) := by rw [halv, if_neg hc1, e]
      rw [e2] at q
      refine ⟨_, rfl, _, rfl, a.x, _, _, _, _, rfl, ob, cl, n1, rfl, a.wd, _, rfl, hg2, _, rfl, ?_⟩
      refine iteF ?_
      have lt := c.lt
      have hz : (s.turns.map V.int).length < sizeLine := by
        rw [List.length_map]
        exact sz_lt (by omega)
      have hn2 : n ≤ 1000000 := Nat.le_of_lt hn
      walk_at "go"
      intro H1 g1 k1
      walk_at "go"
      obtain ⟨c1, k2⟩ := c.turn g1 k1
      have q1 := q H1 c1 k2
      show Q (.int (v.fdiv 2 + decC chs s.turns.length v p)) H1
      rw [fdiv2]
      exact q1
end
end EH
namespace EH
open PySem L2
local macro_rules | `(tactic| walk_at "sd") => `(tactic| first | assumption | ((with_reducible show (_ : Int) ≤ _); omega) | ((with_reducible show (_ : Int) < _); omega) | rfl | exact SqL.of (by assumption) | exact SqT.of (by assumption) | exact atI_nat (j := 0) rfl | exact atI_nat (j := 1) rfl | exact atI_nat (j := 2) rfl | exact atI_nat (j := 3) rfl | exact sz_lit rfl | exact lt_lit rfl | exact pos_lit rfl | exact le_lit rfl | exact Or.inl (SqL.of (by assumption)) | exact ⟨_, SqL.of (by assumption)⟩ | exact ⟨_, SqT.of (by assumption)⟩ | exact Or.inr (SqT.of (by assumption)) | exact ClsV.ty _ | exact TyX.base (TyOf.int _) | exact TyX.base (TyOf.str _) | exact TyX.base (TyOf.tup (by assumption)) | exact kit_ty isi_ss | exact kit_ty isi_is | exact kit_ty isi_ts | exact kit_ty isi_si | exact kit_ty isi_ii | exact kit_ty isi_ti | exact kit_ty isi_st | exact kit_ty isi_it | exact kit_ty isi_tt | exact Or.inl ⟨_, Or.inl (by assumption)⟩ | exact DGet.k (k := Sum.inr _) (by assumption) | exact DGet.k (k := Sum.inl _) (by assumption) | (refine cpow_of ?_; decide) | (refine cmul_of ?_; decide) | (show (_ : Int) ≠ 0; first | decide | omega) | (refine cdivn_of ?_; decide) | exact Or.inl ⟨rfl, _, SqL.of (by assumption)⟩ | omega)
local macro_rules | `(tactic| walk_at "st") => `(tactic| first | (apply Exists.intro) | (refine And.intro ?_ ?_; focus (walk_at "sd")) | (apply Or.inl; apply Exists.intro; refine And.intro ?_ ?_; focus rfl) | (apply Or.inr; apply Exists.intro; refine And.intro ?_ ?_; focus rfl))
local macro_rules | `(tactic| walk_at "go") => `(tactic| repeat (walk_at "st"))
section
variable {P : Program} {w : World} {K : PySem.W.Frag} {mg : Str → Option Value} {base : Heap}
theorem ok_Course_do (T : Top K mg) {k : Nat} : FnOk P w K mg base CX0 (k + 4) T.Course_do.f T.Course_do.fd ["self", "statement", "place"] (spDo T.Course.C) := by
  have G_value_of : FnOk P w K mg base CX0 3 T.value_of.f T.value_of.fd ["expression", "names"] (spValue 3) := ok_value_of T 3
  have G_Course_halved : FnOk P w K mg base CX0 2 T.Course_halved.f T.Course_halved.fd ["self", "value", "place"] (spHalved T.Course.C) := ok_Course_halved T
  refine T.Course_do.F.ok sc_Course_do (fun vs H Q E h => ?_) (fun cdv A outer s H vs Q E hr h => ?_)
  · obtain ⟨a, r, chs, wk, ways, n, s, v, st, p, rfl, _⟩ := h
    rfl
  obtain ⟨a, r, chs, wk, ways, n, s, v, st, p, rfl, c, rfl, hw, hn, hT, hpl, hok, q⟩ := h
  have hu := hu_of hr
  refine ⟨_, (pss_cons (ps_if (pt_cmpR op_eq (pe_ix (ix_tupK (K := K) rfl) (pv 1) pe_int (fun _ _ => rfl)) pe_str (nomark _)) (pss_one (ps_dputS hu (pe_fldK (K := K) rfl (pv 0)) (pe_ix (ix_tupK (K := K) rfl) (pv 1) pe_int (fun _ _ => rfl)) (pe_call G_value_of (hr.mono (by omega)) (by rfl) T.value_of.g T.value_of.F.kp T.value_of.b .nil pass0 (pa_cons (pe_ix (ix_tupK (K := K) rfl) (pv 1) pe_int (fun _ _ => rfl)) (pa_cons (pe_fldK (K := K) rfl (pv 0)) pa_nil))))) (pss_one (ps_if (pt_cmpR op_eq (pe_ix (ix_tupK (K := K) rfl) (pv 1) pe_int (fun _ _ => rfl)) pe_str (nomark _)) (pss_one (ps_dputS hu (pe_fldK (K := K) rfl (pv 0)) (pe_ix (ix_tupK (K := K) rfl) (pv 1) pe_int (fun _ _ => rfl)) (pe_meth (pv 0) T.Course.cl T.Course_halved.m G_Course_halved (hr.mono (by omega)) T.Course_halved.b .nil pass0 (pa_cons (pe_call G_value_of (hr.mono (by omega)) (by rfl) T.value_of.g T.value_of.F.kp T.value_of.b .nil pass0 (pa_cons (pe_ix (ix_tupK (K := K) rfl) (pv 1) pe_int (fun _ _ => rfl)) (pa_cons (pe_fldK (K := K) rfl (pv 0)) pa_nil))) (pa_cons (pv 2) pa_nil))))) (pss_one (ps_if (pt_cmpR op_eq (pe_ix (ix_tupK (K := K) rfl) (pv 1) pe_int (fun _ _ => rfl)) pe_str (nomark _)) (pss_one (ps_expr (pe_bmK (K := K) rfl PySem.F.plainAttrs_list PySem.F.slot_list_append PySem.F.type_list_append mt_appendA (pe_fldK (K := K) rfl (pv 0)) (pa_cons (pe_call G_value_of (hr.mono (by omega)) (by rfl) T.value_of.g T.value_of.F.kp T.value_of.b .nil pass0 (pa_cons (pe_ix (ix_tupK (K := K) rfl) (pv 1) pe_int (fun _ _ => rfl)) (pa_cons (pe_fldK (K := K) rfl (pv 0)) pa_nil))) pa_nil)))) (pss_one (ps_if (pt_cmpR op_eq (pe_ix (ix_tupK (K := K) rfl) (pv 1) pe_int (fun _ _ => rfl)) pe_str (nomark _)) (pss_one (ps_expr (pe_bmK (K := K) rfl PySem.F.plainAttrs_list PySem.F.slot_list_append PySem.F.type_list_append mt_appendA (pe_fldK (K := K) rfl (pv 0)) (pa_cons (pe_ix (ix_tupK (K := K) rfl) (pv 1) pe_int (fun _ _ => rfl)) pa_nil)))) (pss_one (ps_ret (pe_ix (ix_tupK (K := K) rfl) (pv 1) pe_int (fun _ _ => rfl)))))))))))
      (pss_one (ps_ret pe_non))), ?_⟩
  have cl := T.Course.cl
  have n1 := T.n_Course_names
  have n2 := T.n_Course_said
  have ob := c.ob
  have sa := c.sa
  obtain ⟨kvs, nm, er, lk⟩ := c.nm
  cases st with
  | ite t y m => exact absurd hpl id
  | rep j b => exact absurd hpl id
  | set x e =>
    obtain ⟨u, x1, x2, x3, rfl, h1, t1, t2, t3⟩ := tr_tup3 hT
    cases tr_str t1
    cases tr_str t2
    obtain ⟨⟨o1, o2⟩, _⟩ := (show (e.ok ∧ e.deep ≤ 3) ∧ NmOk x by simpa only [Sm.ok] using hok)
    have hz : kvs.length < sizeLine := sz_lt (by omega)
    walk_at "go"
    intro H1 e1
    obtain ⟨c1, k1⟩ := c.put nm er lk e1
    exact q H1 (c1.mono (by omega)) k1
  | half x e =>
    obtain ⟨u, x1, x2, x3, rfl, h1, t1, t2, t3⟩ := tr_tup3 hT
    cases tr_str t1
    cases tr_str t2
    obtain ⟨⟨o1, o2⟩, _⟩ := (show (e.ok ∧ e.deep ≤ 3) ∧ NmOk x by simpa only [Sm.ok] using hok)
    have hn1 : n < 1000000 := by omega
    walk_at "go"
    intro H1 c1 k1
    obtain ⟨kvs1, nm1, er1, lk1⟩ := c1.nm
    have ob1 := c1.ob
    have hz : kvs1.length < sizeLine := sz_lt (by omega)
    have h11 := k1.tup _ _ h1
    walk_at "go"
    intro H2 e2
    obtain ⟨c2, k2⟩ := c1.put nm1 er1 lk1 e2
    have ee : (halv (decC chs) ways s (e.ev s.env) p).2.env = s.env := by
      unfold halv
      split
      · rfl
      · split <;> rfl
    rw [ee] at c2
    exact q H2 c2 (k1.trans k2)
  | tell e =>
    obtain ⟨u, x1, x2, rfl, h1, t1, t2⟩ := tr_tup2 hT
    cases tr_str t1
    obtain ⟨o1, o2⟩ := (show e.ok ∧ e.deep ≤ 3 by simpa only [Sm.ok] using hok)
    have hz : (s.said.map kV).length < sizeLine := by rw [List.length_map]; exact sz_lt (by have := c.ls; omega)
    walk_at "go"
    intro H1 g1 k1
    obtain ⟨c1, k2⟩ := c.say (v := Sum.inl (e.ev s.env)) g1 k1
    exact q H1 (c1.mono (by omega)) k2
  | say y =>
    obtain ⟨u, x1, x2, rfl, h1, t1, t2⟩ := tr_tup2 hT
    cases tr_str t1
    cases tr_str t2
    have hz : (s.said.map kV).length < sizeLine := by rw [List.length_map]; exact sz_lt (by have := c.ls; omega)
    walk_at "go"
    intro H1 g1 k1
    obtain ⟨c1, k2⟩ := c.say (v := Sum.inr y) g1 k1
    exact q H1 (c1.mono (by omega)) k2
  | stop y =>
    obtain ⟨u, x1, x2, rfl, h1, t1, t2⟩ := tr_tup2 hT
    cases tr_str t1
    cases tr_str t2
    walk_at "go"
    exact q H (c.mono (by omega)) Kp.refl
end
end EH
namespace EH
open PySem L2
local macro_rules | `(tactic| walk_at "sd") => `(tactic| first | assumption | ((with_reducible show (_ : Int) ≤ _); omega) | ((with_reducible show (_ : Int) < _); omega) | rfl | exact SqL.of (by assumption) | exact SqT.of (by assumption) | exact atI_nat (j := 0) rfl | exact atI_nat (j := 1) rfl | exact atI_nat (j := 2) rfl | exact atI_nat (j := 3) rfl | exact sz_lit rfl | exact lt_lit rfl | exact pos_lit rfl | exact le_lit rfl | exact Or.inl (SqL.of (by assumption)) | exact ⟨_, SqL.of (by assumption)⟩ | exact ⟨_, SqT.of (by assumption)⟩ | exact Or.inr (SqT.of (by assumption)) | exact ClsV.ty _ | exact TyX.base (TyOf.int _) | exact TyX.base (TyOf.str _) | exact TyX.base (TyOf.tup (by assumption)) | exact kit_ty isi_ss | exact kit_ty isi_is | exact kit_ty isi_ts | exact kit_ty isi_si | exact kit_ty isi_ii | exact kit_ty isi_ti | exact kit_ty isi_st | exact kit_ty isi_it | exact kit_ty isi_tt | exact Or.inl ⟨_, Or.inl (by assumption)⟩ | exact DGet.k (k := Sum.inr _) (by assumption) | exact DGet.k (k := Sum.inl _) (by assumption) | (refine cpow_of ?_; decide) | (refine cmul_of ?_; decide) | (show (_ : Int) ≠ 0; first | decide | omega) | (refine cdivn_of ?_; decide) | exact Or.inl ⟨rfl, _, SqL.of (by assumption)⟩ | omega)
local macro_rules | `(tactic| walk_at "st") => `(tactic| first | (apply Exists.intro) | (refine And.intro ?_ ?_; focus (walk_at "sd")) | (apply Or.inl; apply Exists.intro; refine And.intro ?_ ?_; focus rfl) | (apply Or.inr; apply Exists.intro; refine And.intro ?_ ?_; focus rfl))
local macro_rules | `(tactic| walk_at "go") => `(tactic| repeat (walk_at "st"))
section
variable {P : Program} {w : World} {K : PySem.W.Frag} {mg : Str → Option Value} {base : Heap}
theorem ok_Course_parts (T : Top K mg) (m : Nat) : FnOk P w K mg base CX0 (m + 7) T.Course_parts.f T.Course_parts.fd ["self", "statement", "place"] (spParts T.Course.C m) := by
  have G_is_true : FnOk P w K mg base CX0 6 T.is_true.f T.is_true.fd ["test", "names"] (spTrue 2) := ok_is_true T 2
  have G_places_in : FnOk P w K mg base CX0 (m + 2) T.places_in.f T.places_in.fd ["statement"] (spPlaces m) := ok_places_in T m
  refine T.Course_parts.F.ok sc_Course_parts (fun vs H Q E h => ?_) (fun cdv A outer s H vs Q E hr h => ?_)
  · obtain ⟨a, r, chs, wk, n, s, v, st, p, rfl, _⟩ := h
    rfl
  obtain ⟨a, r, chs, wk, n, s, v, st, p, rfl, c, hT, hpl, hok, hp, hm, q⟩ := h
  refine ⟨_, (pss_cons (ps_if (pt_cmpR op_eq (pe_ix (ix_tupK (K := K) rfl) (pv 1) pe_int (fun _ _ => rfl)) pe_str (nomark _)) (pss_one (ps_ret (pe_op op_repL (pe_lstA (pa_cons (pe_tupA (pa_cons (pe_ix (ix_tupK (K := K) rfl) (pv 1) pe_int (fun _ _ => rfl)) (pa_cons (pe_op op_add (pv 2) pe_int) pa_nil))) pa_nil)) (pe_ix (ix_tupK (K := K) rfl) (pv 1) pe_int (fun _ _ => rfl))))) pss_nil)
      (pss_cons (ps_if (pt_val (pe_call G_is_true (hr.mono (by omega)) (by rfl) T.is_true.g T.is_true.F.kp T.is_true.b .nil pass0 (pa_cons (pe_ix (ix_tupK (K := K) rfl) (pv 1) pe_int (fun _ _ => rfl)) (pa_cons (pe_fldK (K := K) rfl (pv 0)) pa_nil)))) (pss_one (ps_ret (pe_lstA (pa_cons (pe_tupA (pa_cons (pe_ix (ix_tupK (K := K) rfl) (pv 1) pe_int (fun _ _ => rfl)) (pa_cons (pe_op op_add (pv 2) pe_int) pa_nil))) pa_nil)))) pss_nil)
      (pss_one (ps_ret (pe_lstA (pa_cons (pe_tupA (pa_cons (pe_ix (ix_tupK (K := K) rfl) (pv 1) pe_int (fun _ _ => rfl)) (pa_cons (pe_op op_add (pe_op op_add (pv 2) pe_int) (pe_callB (id := "sum") (cr_sumK (K := K) rfl (by rfl)) (by rfl) T.sum (by decide +kernel) (pa_cons (pe_lc (own := [("item", 3)]) (by rfl) sc_Course_parts.nd (pi_tupK (K := K) rfl (pe_ix (ix_tupK (K := K) rfl) (pv 1) pe_int (fun _ _ => rfl))) (blkOk_by (N := ["self", "statement", "place", "item"]) (sc := defScope s_Course_parts) (own := [("item", 3)]) (by decide +kernel)) (fun _ _ _ _ _ => (pg_name (i := 3) sc_Course_parts.nd rfl (.inl rfl))) (fun _ _ _ _ _ => pts_nil) (fun _ _ _ _ _ => (pe_call G_places_in (hr.mono (by omega)) (by rfl) T.places_in.g T.places_in.F.kp T.places_in.b .nil pass0 (pa_cons (pv 3) pa_nil)))) pa_nil))) pa_nil))) pa_nil)))))), ?_⟩
  have cl := T.Course.cl
  have n1 := T.n_Course_names
  have ob := c.ob
  obtain ⟨kvs, nm, er, lk⟩ := c.nm
  cases st with
  | set x e => exact absurd trivial hpl
  | half x e => exact absurd trivial hpl
  | tell e => exact absurd trivial hpl
  | say e => exact absurd trivial hpl
  | stop e => exact absurd trivial hpl
  | rep k b =>
    obtain ⟨u, x1, x2, x3, rfl, h1, t1, t2, t3⟩ := tr_tup3 hT
    cases tr_str t1
    cases tr_int t2
    obtain ⟨o1, o2⟩ := (show k ≤ 8 ∧ Sm.oks b by simpa only [Sm.ok] using hok)
    walk_at "go"
    intro r1 H1 hr1 e1
    have k1 := new_kp hr1 e1
    have a1 := new_at e1
    walk_at "go"
    intro r2 H2 hr2 e2
    have k2 := new_kp hr2 e2
    have a2 := new_at e2
    have h12 := k2.at (k1.at h1)
    have z1 : (0 : Int) ≤ (k : Int) := by omega
    have z2 : (k : Int) ≤ 1000000 := by omega
    have z3 : [V.ref r1].length * ((k : Int)).toNat ≤ 1000000 := by
      show 1 * ((k : Int)).toNat ≤ 1000000
      omega
    walk_at "go"
    intro r3 H3 hr3 a3 k3
    refine q r3 _ H3 ((k1.step0 k2).free hr3 (by simp)) a3 ?_ ((k1.step0 k2).step0 k3)
    rw [Int.toNat_natCast, flat_rep]
    show TrAll H3 (List.map partD (List.replicate k (b, p + 1))) _
    have tp : Tr H3 (partD (b, p + 1)) (.ref r1) := mk_tup (k3.at (k2.at a1)) (trs_cons (k3.tr (k2.tr (k1.tr t3))) (trs_cons mk_int trs_nil))
    rw [List.map_replicate]
    exact trs_rep tp k
  | ite t y m1 =>
    obtain ⟨u, x1, x2, x3, x4, rfl, h1, t1, t2, t3, t4⟩ := tr_tup4 hT
    cases tr_str t1
    obtain ⟨o1, o2, o3, o4⟩ := (show t.ok ∧ t.nots ≤ 2 ∧ Sm.oks y ∧ Sm.oks m1 by simpa only [Sm.ok] using hok)
    walk_at "go"
    refine ite2 (fun hc => ?_) (fun hc => ?_)
    · have ep : partsOf s.env p (.ite t y m1) = [(y, p + 1)] := by rw [partsOf, if_pos hc]
      rw [ep] at q
      walk_at "go"
      intro r1 H1 hr1 e1
      have k1 := new_kp hr1 e1
      have a1 := new_at e1
      walk_at "go"
      intro r2 H2 hr2 e2
      have k2 := new_kp hr2 e2
      exact q r2 _ H2 (k1.free hr2 (by simp)) (new_at e2) (trs_cons (mk_tup (k2.at a1) (trs_cons (k2.tr (k1.tr t3)) (trs_cons mk_int trs_nil))) trs_nil) (k1.step0 k2)
    · have ep : partsOf s.env p (.ite t y m1) = [(m1, p + 1 + (Sm.pls y : Int))] := by rw [partsOf, if_neg hc]
      rw [ep] at q
      obtain ⟨ya, ys, rfl, hya, tya⟩ := tr_tup t3
      rw [Sm.ds_map] at tya
      have ly : ys.length = y.length := by rw [tya.length, List.length_map]
      have ll := Sm.len_pls y
      have mb : y ∈ (Sm.ite t y m1).blks := by simp [Sm.blks]
      have b1 := Sm.blk_nest mb
      have b2 := Sm.blk_pls mb
      walk_at "go"
      intro D hD
      refine lc_tup (K := K) (a := ya) (xs := ys) (fun j H3 => Kp [D] H H3 ∧ H3 D = some (.lst ((y.take j).map fun t => V.int (Sm.pl t : Int)))) ⟨(Kp.new hD).sub (by simp), upd_same⟩ ?_ ?_ ?_
      · rintro j H3 _ ⟨k3, _⟩
        exact SqT.of (k3.tup _ _ hya)
      · rintro j z H3 hy ⟨k3, d3⟩
        have hj : j < y.length := by
          have := (List.getElem?_eq_some_iff.mp hy).1
          omega
        have et : y[j]? = some y[j] := List.getElem?_eq_getElem hj
        have mt : y[j] ∈ y := List.getElem_mem hj
        generalize y[j] = st at et mt
        have m1 := Sm.nest_mem mt
        have m2 := Sm.pl_mem mt
        obtain ⟨z', hz', tz⟩ := TrAll.get (i := j) tya (by rw [List.getElem?_map, et]; rfl)
        rw [hy] at hz'
        cases hz'
        have tz3 := k3.tr tz
        have hz2 : ((y.take j).map fun t => V.int (Sm.pl t : Int)).length < sizeLine := by
          rw [List.length_map, List.length_take]
          exact sz_lt (by omega)
        walk_at "go"
        intro H4 k4
        have d4 := k4.at d3
        walk_at "go"
        refine ⟨(k3.step0 k4).step1 (Kp.put d4 (fun _ z => by cases z)) (.inl (by simp)), ?_⟩
        rw [upd_same, List.take_add_one, et, List.map_append]
        rfl
      · rintro H3 ⟨k3, d3⟩
        rw [ly, List.take_length] at d3
        have d3' : H3 D = some (.lst ((y.map fun t => (Sm.pl t : Int)).map V.int)) := by
          rw [d3, List.map_map]
          rfl
        have es : (y.map fun t => (Sm.pl t : Int)).sum = (Sm.pls y : Int) := pls_sum y
        have k3' : Kp [] H H3 := Kp.refl.step1 k3 (.inr hD)
        walk_at "go"
        rw [es]
        intro r1 H4 hr1 e1
        have k4 := new_kp hr1 e1
        have a4 := new_at e1
        walk_at "go"
        intro r2 H5 hr2 e2
        have k5 := new_kp hr2 e2
        exact q r2 _ H5 ((k3'.step0 k4).free hr2 (by simp)) (new_at e2) (trs_cons (mk_tup (k5.at a4) (trs_cons (k5.tr (k4.tr (k3'.tr t4))) (trs_cons mk_int trs_nil))) trs_nil) ((k3'.step0 k4).step0 k5)
end
end EH
namespace EH
open PySem L2
local macro_rules | `(tactic| walk_at "sd") => `(tactic| first | assumption | ((with_reducible show (_ : Int) ≤ _); omega) | ((with_reducible show (_ : Int) < _); omega) | rfl | exact SqL.of (by assumption) | exact SqT.of (by assumption) | exact atI_nat (j := 0) rfl | exact atI_nat (j := 1) rfl | exact atI_nat (j := 2) rfl | exact atI_nat (j := 3) rfl | exact sz_lit rfl | exact lt_lit rfl | exact pos_lit rfl | exact le_lit rfl | exact Or.inl (SqL.of (by assumption)) | exact ⟨_, SqL.of (by assumption)⟩ | exact ⟨_, SqT.of (by assumption)⟩ | exact Or.inr (SqT.of (by assumption)) | exact ClsV.ty _ | exact TyX.base (TyOf.int _) | exact TyX.base (TyOf.str _) | exact TyX.base (TyOf.tup (by assumption)) | exact kit_ty isi_ss | exact kit_ty isi_is | exact kit_ty isi_ts | exact kit_ty isi_si | exact kit_ty isi_ii | exact kit_ty isi_ti | exact kit_ty isi_st | exact kit_ty isi_it | exact kit_ty isi_tt | exact Or.inl ⟨_, Or.inl (by assumption)⟩ | exact DGet.k (k := Sum.inr _) (by assumption) | exact DGet.k (k := Sum.inl _) (by assumption) | (refine cpow_of ?_; decide) | (refine cmul_of ?_; decide) | (show (_ : Int) ≠ 0; first | decide | omega) | (refine cdivn_of ?_; decide) | exact Or.inl ⟨rfl, _, SqL.of (by assumption)⟩ | omega)
local macro_rules | `(tactic| walk_at "st") => `(tactic| first | (apply Exists.intro) | (refine And.intro ?_ ?_; focus (walk_at "sd")) | (apply Or.inl; apply Exists.intro; refine And.intro ?_ ?_; focus rfl) | (apply Or.inr; apply Exists.intro; refine And.intro ?_ ?_; focus rfl))
local macro_rules | `(tactic| walk_at "go") => `(tactic| repeat (walk_at "st"))
section
variable {P : Program} {w : World} {K : PySem.W.Frag} {mg : Str → Option Value} {base : Heap}
theorem ok_Course_go (T : Top K mg) : ∀ m : Nat, FnOk P w K mg base CX0 (m + 8) T.Course_go.f T.Course_go.fd ["self", "block", "place"] (spGo T.Course.C m)
  | m => by
    have G_Course_parts : FnOk P w K mg base CX0 (m + 7) T.Course_parts.f T.Course_parts.fd ["self", "statement", "place"] (spParts T.Course.C m) := ok_Course_parts T m
    have G_Course_do : FnOk P w K mg base CX0 4 T.Course_do.f T.Course_do.fd ["self", "statement", "place"] (spDo T.Course.C) := ok_Course_do T
    have G_places_in : FnOk P w K mg base CX0 (m + 2) T.places_in.f T.places_in.fd ["statement"] (spPlaces m) := ok_places_in T m
    have G_Course_go : FnOk P w K mg base CX0 (m + 7) T.Course_go.f T.Course_go.fd ["self", "block", "place"] (sp0 (spGo T.Course.C) m) := by
      cases m with
      | zero => exact fn_no fun _ _ _ _ h => h
      | succ j => exact ok_Course_go T j
    refine T.Course_go.F.ok sc_Course_go (fun vs H Q E h => ?_) (fun cdv A outer s H vs Q E hr h => ?_)
    · obtain ⟨a, r, chs, wk, ways, n, s, v, b, p, rfl, _⟩ := h
      rfl
    obtain ⟨a, r, chs, wk, ways, n, s, v, b, p, rfl, c, rfl, hw, hn, hT, hok, hp, hm, q⟩ := h
    refine ⟨_, (pss_cons (ps_forA (ps_for PassesOwn.never rfl (pi_tupK (K := K) rfl (pv 1)) (pg_name (i := 3) sc_Course_go.nd rfl (.inl rfl)) (pss_cons (ps_set (i := 4) sc_Course_go.nd rfl (.inl rfl) pe_non)
      (pss_cutA (ps_if (pt_cmpR (op_in_seqK (K := K) rfl) (pe_ix (ix_tupK (K := K) rfl) (pv 3) pe_int (fun _ _ => rfl)) (pe_tupA (pa_cons pe_str (pa_cons pe_str pa_nil))) (by rfl)) (pss_one (ps_forA (ps_for PassesOwn.never rfl (pi_listK (K := K) rfl (pe_meth (pv 0) T.Course.cl T.Course_parts.m G_Course_parts (hr.mono (by omega)) T.Course_parts.b .nil pass0 (pa_cons (pv 3) (pa_cons (pv 2) pa_nil)))) (pg_tup (by rfl) (pgs_cons (pg_name (i := 5) sc_Course_go.nd rfl (.inl rfl)) (pgs_cons (pg_name (i := 6) sc_Course_go.nd rfl (.inl rfl)) pgs_nil))) (pss_one (ps_if (pt_cmpR op_isN (pv 4) pe_non (nomark _)) (pss_one (ps_set (i := 4) sc_Course_go.nd rfl (.inl rfl) (pe_meth (pv 0) T.Course.cl T.Course_go.m G_Course_go (hr.mono (by omega)) T.Course_go.b .nil pass0 (pa_cons (pv 5) (pa_cons (pv 6) pa_nil))))) pss_nil))))) (pss_one (ps_set (i := 4) sc_Course_go.nd rfl (.inl rfl) (pe_meth (pv 0) T.Course.cl T.Course_do.m G_Course_do (hr.mono (by omega)) T.Course_do.b .nil pass0 (pa_cons (pv 3) (pa_cons (pv 2) pa_nil))))))
      (pss_cons (ps_if (pt_cmpR op_notN (pv 4) pe_non (nomark _)) (pss_one (ps_ret (pv 4))) pss_nil)
      (pss_one (ps_aug (i := 2) sc_Course_go.nd rfl (.inl rfl) (pe_call G_places_in (hr.mono (by omega)) (by rfl) T.places_in.g T.places_in.F.kp T.places_in.b .nil pass0 (pa_cons (pv 3) pa_nil)) ip_add)))))))
      (pss_one (ps_ret pe_non))), ?_⟩
    have cl := T.Course.cl
    obtain ⟨ba, bv, rfl, hb, tb⟩ := tr_tup hT
    rw [Sm.ds_map] at tb
    have lb : bv.length = b.length := by rw [tb.length, List.length_map]
    walk_at "go"
    refine ⟨for_tup (K := K) (a := ba) (xs := bv) (fun i σ H1 => Lp (∃ (s1 : Cs) (n1 : Nat) (p1 : Int) (w3 w4 w5 w6 : Option V), σ = [some (.ref a.x), some (.ref ba), some (.int p1), w3, w4, w5, w6] ∧ CAt T.Course.C H1 a .non chs wk n1 s1 ∧
      n1 + 2 * Sm.wts (b.drop i) ≤ n + 2 * Sm.wts b ∧ Sm.runs (decC chs) ways (b.drop i) p1 s1 = Sm.runs (decC chs) ways b p s ∧ Kp [a.nd, a.sd, a.td] H H1)) ⟨s, n, p, none, none, none, none, rfl, c, by simp, by simp, Kp.refl⟩ ?_ ?_ ?_⟩
    · rintro i σ H1 _ ⟨⟨s1, n1, p1, w3, w4, w5, w6, rfl, c1, hn1, e1, k1⟩⟩
      exact SqT.of (k1.tup _ _ hb)
    · rintro i x σ H1 hx ⟨⟨s1, n1, p1, w3, w4, w5, w6, rfl, c1, hn1, e1, k1⟩⟩
      have hi : i < b.length := by
        have := (List.getElem?_eq_some_iff.mp hx).1
        omega
      have et : b[i]? = some b[i] := List.getElem?_eq_getElem hi
      have mt : b[i] ∈ b := List.getElem_mem hi
      rw [List.drop_eq_getElem_cons hi] at hn1 e1
      generalize b[i] = t at et mt hn1 e1
      simp only [Sm.wts] at hn1
      obtain ⟨x', hx', tx⟩ := TrAll.get (i := i) tb (by rw [List.getElem?_map, et]; rfl)
      rw [hx] at hx'
      cases hx'
      have ok1 := oks_mem hok mt
      have nt := Sm.nest_mem mt
      have pt := Sm.pl_mem mt
      have wt := t.wt_pos
      have tx1 := k1.tr tx
      obtain ⟨u, rest, rfl, hu1⟩ := Sm.head tx1
      refine ⟨⟨fun σ2 H2 => Lp (∃ (n2 : Nat) (w5 w6 : Option V), σ2 = [some (.ref a.x), some (.ref ba), some (.int p1), some (.ref u), some (wV (t.run (decC chs) ways p1 s1).1), w5, w6] ∧ CAt T.Course.C H2 a .non chs wk n2 (t.run (decC chs) ways p1 s1).2 ∧
        n2 ≤ n1 + 2 * t.wt ∧ Kp [a.nd, a.sd, a.td] H1 H2), ?_, ?_⟩⟩
      · walk_at "go"
        intro tp H2 htp e2
        have k2 := new_kp htp e2
        have a2 := new_at e2
        have c2 := c1.kp0 k2
        have ob2 := c2.ob
        have tx2 := k2.tr tx1
        have fl : ([.str "if", .str "repeat"] : List V).all flatV = true := by decide +kernel
        refine ⟨tp, _, rfl, .inr (SqT.of a2), rfl, fl, _, rfl, ?_⟩
        rcases t.kw_in with ⟨hin, hpl⟩ | ⟨hin, hpl⟩
        · show if inV (.str t.kw) [.str "if", .str "repeat"] = true then _ else _
          rw [hin]
          refine iteT ?_
          have hn0 := Sm.nests_pos hpl
          have hm1 : t.nest ≤ m := by omega
          have hp1 : t.pl ≤ 1000000 := by omega
          walk_at "go"
          intro l ts H3 hl3 g3 tt k3
          have lt : ts.length = (partsOf s1.env p1 t).length := by rw [tt.length, List.length_map]
          have c3 := c2.kp0 k3
          have er := run_parts (decC chs) ways hpl p1 s1
          have hws := parts_wt (env := s1.env) (p := p1) (st := t)
          have noff : l ∉ [a.nd, a.sd, a.td] := by
            obtain ⟨kvs, g1, _⟩ := c2.nm
            simp [(ne_of_none g1 hl3).symm, (ne_of_none c2.sa hl3).symm, (ne_of_none c2.tu hl3).symm]
          refine ⟨l, rfl, ⟨_, SqL.of g3⟩, ⟨for_list (K := K) (a := l) (xs := ts) (fun j σ H4 => Lp (∃ (wr : Option Str × Cs) (n4 : Nat) (w5 w6 : Option V), σ = [some (.ref a.x), some (.ref ba), some (.int p1), some (.ref u), some (wV wr.1), w5, w6] ∧
            CAt T.Course.C H4 a .non chs wk n4 wr.2 ∧ n4 + 2 * wsum ((partsOf s1.env p1 t).drop j) ≤ n1 + 2 * wsum (partsOf s1.env p1 t) ∧
            foldP (decC chs) ways ((partsOf s1.env p1 t).drop j) wr = foldP (decC chs) ways (partsOf s1.env p1 t) (none, s1) ∧ Kp [a.nd, a.sd, a.td] H3 H4)) ⟨(none, s1), n1, _, _, rfl, c3, by simp, by simp, Kp.refl⟩ ?_ ?_ ?_⟩⟩
          · rintro j σ H4 _ ⟨⟨wr, n4, w5, w6, rfl, c4, hn4, e4, k4⟩⟩
            exact SqL.of (k4.keep _ _ g3 noff)
          · rintro j y σ H4 hy ⟨⟨wr, n4, w5, w6, rfl, c4, hn4, e4, k4⟩⟩
            have hj : j < (partsOf s1.env p1 t).length := by
              have := (List.getElem?_eq_some_iff.mp hy).1
              omega
            have ep : (partsOf s1.env p1 t)[j]? = some (partsOf s1.env p1 t)[j] := List.getElem?_eq_getElem hj
            have mp : (partsOf s1.env p1 t)[j] ∈ partsOf s1.env p1 t := List.getElem_mem hj
            rw [List.drop_eq_getElem_cons hj] at hn4 e4
            generalize (partsOf s1.env p1 t)[j] = pq at ep mp hn4 e4
            have mb := parts_mem mp
            have b1 := Sm.blk_nest mb
            have b2 := Sm.blk_pls mb
            have b3 := ok_blk ok1 mb
            obtain ⟨y', hy', ty⟩ := TrAll.get (i := j) tt (by rw [List.getElem?_map, ep]; rfl)
            rw [hy] at hy'
            cases hy'
            obtain ⟨z, z1, z2, rfl, hz, tz1, tz2⟩ := tr_tup2 (k4.tr ty)
            cases tr_int tz2
            obtain ⟨wo, ws⟩ := wr
            have hws4 : n4 + 2 * (Sm.wts pq.1 + wsum ((partsOf s1.env p1 t).drop (j + 1))) ≤ n1 + 2 * wsum (partsOf s1.env p1 t) := hn4
            have ob4 := c4.ob
            cases wo with
            | some cc =>
              walk_at "go"
              exact ⟨(some cc, ws), n4, _, _, rfl, c4, by omega, e4, k4⟩
            | none =>
              have hb4 : n4 + 2 * Sm.wts pq.1 ≤ 1000000 := by
                have : wsum (partsOf s1.env p1 t) + 1 ≤ t.wt := hws
                omega
              have hp4 : Sm.pls pq.1 ≤ 1000000 := by omega
              obtain ⟨m', rfl⟩ : ∃ m', m = m' + 1 := ⟨m - 1, by omega⟩
              have hm4 : Sm.nests pq.1 ≤ m' := by omega
              walk_at "go"
              intro H5 c5 k5
              exact ⟨Sm.runs (decC chs) ways pq.1 pq.2 ws, n4 + 2 * Sm.wts pq.1, _, _, rfl, c5, by omega, e4, k4.trans k5⟩
          · rintro σ H4 ⟨⟨wr, n4, w5, w6, rfl, c4, hn4, e4, k4⟩⟩
            rw [lt, List.drop_length] at hn4 e4
            have e5 : wr = t.run (decC chs) ways p1 s1 := by
              rw [er]
              exact e4
            subst e5
            have hws2 : wsum (partsOf s1.env p1 t) + 1 ≤ t.wt := hws
            exact ⟨n4, _, _, rfl, c4, by omega, ((k2.step0 k3).sub (by simp)).trans k4⟩
        · show if inV (.str t.kw) [.str "if", .str "repeat"] = true then _ else _
          rw [hin]
          refine iteF ?_
          have hn2 : n1 + 2 ≤ 1000000 := by omega
          walk_at "go"
          intro H3 c3 k3
          exact ⟨n1 + 2, _, _, rfl, c3, by omega, (k2.sub (by simp)).trans k3⟩
      · rintro σ2 H2 ⟨⟨n2, w5', w6', rfl, c2, hn2, k2⟩⟩
        have tx2 := k2.tr tx1
        cases er : t.run (decC chs) ways p1 s1 with
        | mk o s2 =>
          rw [er] at c2
          cases o with
          | none =>
            have e2 : Sm.runs (decC chs) ways (b.drop (i + 1)) (p1 + (t.pl : Int)) s2 = Sm.runs (decC chs) ways b p s := by
              rw [← e1, Sm.runs, er]
            have hp1 : t.pl ≤ 1000000 := by omega
            have hm1 : t.nest ≤ m := by omega
            walk_at "go"
            intro H3 k3
            walk_at "go"
            exact ⟨s2, n2, p1 + (t.pl : Int), _, _, _, _, rfl, c2.kp0 k3, by omega, e2, (k1.trans k2).step0 k3⟩
          | some y =>
            have e2 : Sm.runs (decC chs) ways b p s = (some y, s2) := by
              rw [← e1, Sm.runs, er]
            rw [e2] at q
            walk_at "go"
            exact q H2 (c2.mono (by omega)) (k1.trans k2)
    · rintro σ H1 ⟨⟨s1, n1, p1, w3, w4, w5, w6, rfl, c1, hn1, e1, k1⟩⟩
      rw [lb, List.drop_length] at hn1 e1
      rw [← e1] at q
      exact q H1 (c1.mono (by simp only [Sm.wts] at hn1; omega)) k1
end
end EH
namespace EH
open PySem L2
local macro_rules | `(tactic| walk_at "sd") => `(tactic| first | assumption | ((with_reducible show (_ : Int) ≤ _); omega) | ((with_reducible show (_ : Int) < _); omega) | rfl | exact SqL.of (by assumption) | exact SqT.of (by assumption) | exact atI_nat (j := 0) rfl | exact atI_nat (j := 1) rfl | exact atI_nat (j := 2) rfl | exact atI_nat (j := 3) rfl | exact sz_lit rfl | exact lt_lit rfl | exact pos_lit rfl | exact le_lit rfl | exact Or.inl (SqL.of (by assumption)) | exact ⟨_, SqL.of (by assumption)⟩ | exact ⟨_, SqT.of (by assumption)⟩ | exact Or.inr (SqT.of (by assumption)) | exact ClsV.ty _ | exact TyX.base (TyOf.int _) | exact TyX.base (TyOf.str _) | exact TyX.base (TyOf.tup (by assumption)) | exact kit_ty isi_ss | exact kit_ty isi_is | exact kit_ty isi_ts | exact kit_ty isi_si | exact kit_ty isi_ii | exact kit_ty isi_ti | exact kit_ty isi_st | exact kit_ty isi_it | exact kit_ty isi_tt | exact Or.inl ⟨_, Or.inl (by assumption)⟩ | exact DGet.k (k := Sum.inr _) (by assumption) | exact DGet.k (k := Sum.inl _) (by assumption) | (refine cpow_of ?_; decide) | (refine cmul_of ?_; decide) | (show (_ : Int) ≠ 0; first | decide | omega) | (refine cdivn_of ?_; decide) | exact Or.inl ⟨rfl, _, SqL.of (by assumption)⟩ | omega)
local macro_rules | `(tactic| walk_at "st") => `(tactic| first | (apply Exists.intro) | (refine And.intro ?_ ?_; focus (walk_at "sd")) | (apply Or.inl; apply Exists.intro; refine And.intro ?_ ?_; focus rfl) | (apply Or.inr; apply Exists.intro; refine And.intro ?_ ?_; focus rfl))
local macro_rules | `(tactic| walk_at "go") => `(tactic| repeat (walk_at "st"))
section
variable {P : Program} {w : World} {K : PySem.W.Frag} {mg : Str → Option Value} {base : Heap}
theorem ok_Course_init (T : Top K mg) {k : Nat} : FnOk P w K mg base CX0 (k + 1) T.Course_init.f T.Course_init.fd ["self", "number", "choices", "ways", "rule"] (spInit T.Course.C) := by
  refine T.Course_init.F.ok sc_Course_init (fun vs H Q E h => ?_) (fun cdv A outer s H vs Q E hr h => ?_)
  · obtain ⟨x, dx, cd, wd, num, r, chs, wk, rfl, _⟩ := h
    rfl
  obtain ⟨x, dx, cd, wd, num, r, chs, wk, rfl, hx, hc, hd, lc, q⟩ := h
  refine ⟨_, (pss_cons (ps_fldA (K := K) rfl (pv 0) (pe_disp (pps_cons (pe_glob (v := .str "n") (by rfl) T.g_INPUT ⟨_, rfl⟩) (pv 1) pps_nil) (by rfl) (by rfl) (fun z => by cases z) (by decide)))
      (pss_cons (ps_fldA (K := K) rfl (pv 0) (pe_lstA pa_nil))
      (pss_cons (ps_fldA (K := K) rfl (pv 0) (pe_lstA pa_nil))
      (pss_cons (ps_fldA (K := K) rfl (pv 0) (pv 2))
      (pss_cons (ps_fldA (K := K) rfl (pv 0) (pv 3))
      (pss_one (ps_fldA (K := K) rfl (pv 0) (pv 4)))))))), ?_⟩
  have cl := T.Course.cl
  have n1 := T.n_Course_names
  have n2 := T.n_Course_said
  have n3 := T.n_Course_turns
  have n4 := T.n_Course_choices
  have n5 := T.n_Course_ways
  have n6 := T.n_Course_rule
  walk_at "go"
  intro nd hnd
  walk_at "go"
  refine ⟨upd_same, [(Sum.inr "n", .int num)], rfl, by show 1 ≤ 15; decide, ?_⟩
  have a1 : (upd (upd H nd (.dK [])) nd (.dK (mergeK [] [(Sum.inr "n", .int num)]))) nd = some (.dK [(Sum.inr "n", .int num)]) := by
    rw [upd_same]
    rfl
  have k1 : Kp [] H (upd (upd H nd (.dK [])) nd (.dK (mergeK [] [(Sum.inr "n", .int num)]))) := (Kp.new hnd).step1 (Kp.put upd_same (fun _ z => by cases z)) (.inr hnd)
  generalize upd (upd H nd (.dK [])) nd (.dK (mergeK [] [(Sum.inr "n", V.int num)])) = H1 at a1 k1 ⊢
  have x1 := k1.at hx
  walk_at "go"
  intro H2 x2 k2
  have nxd : x ≠ nd := ne_of_none hx hnd
  have a2 := k2.keep _ _ a1 (ne1 nxd.symm)
  walk_at "go"
  intro sd H3 hsd e3
  have s3 := new_at e3
  have k3 := new_kp hsd e3
  have x3 := k3.at x2
  have a3 := k3.at a2
  walk_at "go"
  intro H4 x4 k4
  have nxs : x ≠ sd := ne_of_none x2 hsd
  have a4 := k4.keep _ _ a3 (ne1 nxd.symm)
  have s4 := k4.keep _ _ s3 (ne1 nxs.symm)
  walk_at "go"
  intro td H5 htd e5
  have t5 := new_at e5
  have k5 := new_kp htd e5
  have x5 := k5.at x4
  have a5 := k5.at a4
  have s5 := k5.at s4
  walk_at "go"
  intro H6 x6 k6
  have nxt : x ≠ td := ne_of_none x4 htd
  have a6 := k6.keep _ _ a5 (ne1 nxd.symm)
  have s6 := k6.keep _ _ s5 (ne1 nxs.symm)
  have t6 := k6.keep _ _ t5 (ne1 nxt.symm)
  walk_at "go"
  intro H7 x7 k7
  have a7 := k7.keep _ _ a6 (ne1 nxd.symm)
  have s7 := k7.keep _ _ s6 (ne1 nxs.symm)
  have t7 := k7.keep _ _ t6 (ne1 nxt.symm)
  walk_at "go"
  intro H8 x8 k8
  have a8 := k8.keep _ _ a7 (ne1 nxd.symm)
  have s8 := k8.keep _ _ s7 (ne1 nxs.symm)
  have t8 := k8.keep _ _ t7 (ne1 nxt.symm)
  walk_at "go"
  intro H9 x9 k9
  have a9 := k9.keep _ _ a8 (ne1 nxd.symm)
  have s9 := k9.keep _ _ s8 (ne1 nxs.symm)
  have t9 := k9.keep _ _ t8 (ne1 nxt.symm)
  have kx : Kp [x] H H2 := (k1.sub (by simp)).trans k2
  have ky : Kp [x] H H4 := (kx.step0 k3).trans k4
  have ka : Kp [x] H H9 := ((((ky.step0 k5).trans k6).trans k7).trans k8).trans k9
  have nst : sd ≠ td := ne_of_none s4 htd
  have nwd : nd ≠ wd := (ne_of_none hd hnd).symm
  have hw9 := ka.keep _ _ hd (ne1 (ne_of hd hx (fun z => by cases z)))
  have hc9 := ka.tup _ _ hc
  have fsd : H sd = none := kx.free hsd (ne1 nxs.symm)
  have ftd : H td = none := ky.free htd (ne1 nxt.symm)
  refine q ⟨x, dx, nd, sd, td, cd, wd⟩ H9 rfl ⟨x9, ⟨_, a9, ?_, by show 1 ≤ 1; decide⟩, s9, t9, hc9, hw9, Nat.le_refl _, Nat.le_refl _, nwd, nst, lc⟩ ka ?_
  · intro y
    show (valV [((Sum.inr "n" : Key), V.int num)] (Sum.inr y)).getD (.int 0) = .int (env0 num y)
    unfold env0 valV
    by_cases e : y = "n"
    · subst e
      rfl
    · rw [if_neg e, List.find?_cons_of_neg (by simp; intro z; exact e z.symm)]
      rfl
  · intro b hb
    simp only [List.mem_cons, List.not_mem_nil, or_false] at hb
    rcases hb with rfl | rfl | rfl
    · exact hnd
    · exact fsd
    · exact ftd
end
section
variable {P : Program} {w : World} {K : PySem.W.Frag} {mg : Str → Option Value} {base : Heap}
theorem ok_course_of (T : Top K mg) (m : Nat) : FnOk P w K mg base CX0 (m + 9) T.course_of.f T.course_of.fd ["program", "number", "choices", "ways", "rule"] (spCourseOf m) := by
  have G_Course_init : FnOk P w K mg base CX0 1 T.Course_init.f T.Course_init.fd ["self", "number", "choices", "ways", "rule"] (spInit T.Course.C) := ok_Course_init T
  have G_Course_go : FnOk P w K mg base CX0 (m + 8) T.Course_go.f T.Course_go.fd ["self", "block", "place"] (spGo T.Course.C m) := ok_Course_go T m
  refine T.course_of.F.ok sc_course_of (fun vs H Q E h => ?_) (fun cdv A outer s H vs Q E hr h => ?_)
  · obtain ⟨v, b, num, cd, wd, chs, wk, ways, rfl, _⟩ := h
    rfl
  obtain ⟨v, b, num, cd, wd, chs, wk, ways, rfl, hT, hc, hd, hw, lc, hok, hwt, hp, hm, q⟩ := h
  refine ⟨_, (pss_cons (ps_set (i := 5) sc_course_of.nd rfl (.inl rfl) (pe_make T.mk_Course G_Course_init (hr.mono (by omega)) (by rfl) T.Course.g T.Course_init.b .nil pass0 (pa_cons (pv 1) (pa_cons (pv 2) (pa_cons (pv 3) (pa_cons (pv 4) pa_nil))))))
      (pss_cons (ps_set (i := 6) sc_course_of.nd rfl (.inl rfl) (pe_meth (pv 5) T.Course.cl T.Course_go.m G_Course_go (hr.mono (by omega)) T.Course_go.b .nil pass0 (pa_cons (pv 0) (pa_cons pe_int pa_nil))))
      (pss_one (ps_ret (pe_tupA (pa_cons (pe_callTy (T := "tuple") (call_tupleK (K := K) rfl) (by rfl) T.tuple (by decide +kernel) (pa_cons (pe_fldK (K := K) rfl (pv 5)) pa_nil)) (pa_cons (pv 6) (pa_cons (pe_callTy (T := "tuple") (call_tupleK (K := K) rfl) (by rfl) T.tuple (by decide +kernel) (pa_cons (pe_fldK (K := K) rfl (pv 5)) pa_nil)) pa_nil)))))))), ?_⟩
  have cl := T.Course.cl
  have n2 := T.n_Course_said
  have n3 := T.n_Course_turns
  walk_at "go"
  intro x dx hx hdx hne
  have k1 : Kp [] H (upd (upd H dx (.own x)) x (.ins T.Course.C dx [])) := (Kp.new hdx).step0 (Kp.new (by rw [upd_ne hne.symm]; exact hx))
  refine ⟨x, dx, cd, wd, num, .non, chs, wk, rfl, upd_same, k1.tup _ _ hc, k1.at hd, lc, fun a H2 ea c2 k2 fr => ⟨rfl, ?_⟩⟩
  subst ea
  have k3 : Kp [] H H2 := k1.step1 k2 (.inr hx)
  have t2 := k3.tr hT
  have ob2 := c2.ob
  have hz : 0 + 2 * Sm.wts b ≤ 1000000 := by omega
  have hcr : H cd ≠ none := by rw [hc]; exact fun z => nomatch z
  walk_at "go"
  intro H3 c3 k4
  have ob3 := c3.ob
  have sa3 := c3.sa
  have tu3 := c3.tu
  have f1 : ∀ b ∈ [a.nd, a.sd, a.td], H b = none := fun b hb => k1.free (fr b hb) (by simp)
  have k5 : Kp [] H H3 := k3.step k4 (fun b hb => .inr (f1 b hb))
  walk_at "go"
  intro r1 H4 hr1 a4 k6
  have ob4 := k6.at ob3
  have tu4 := k6.at tu3
  walk_at "go"
  intro r2 H5 hr2 a5 k7
  have a45 := k7.at a4
  walk_at "go"
  intro r3 H6 hr3 e6
  have k8 := new_kp hr3 e6
  refine q (.ref r3) H6 ?_ (((k5.step0 k6).step0 k7).step0 k8)
  exact mk_tup (new_at e6) (trs_cons (mk_tup (k8.at a45) (trs_kD _)) (trs_cons (tr_wD _) (trs_cons (mk_tup (k8.at a5) (trs_int _)) trs_nil)))
theorem ok_run_of (T : Top K mg) (m : Nat) : FnOk P w K mg base CX0 (m + 10) T.run_of.f T.run_of.fd ["program", "number", "choices", "ways"] (spRunOf m) := by
  have G_course_of : FnOk P w K mg base CX0 (m + 9) T.course_of.f T.course_of.fd ["program", "number", "choices", "ways", "rule"] (spCourseOf m) := ok_course_of T m
  refine T.run_of.F.ok sc_run_of (fun vs H Q E h => ?_) (fun cdv A outer s H vs Q E hr h => ?_)
  · obtain ⟨v, b, num, cd, wd, chs, wk, ways, rfl, _⟩ := h
    rfl
  obtain ⟨v, b, num, cd, wd, chs, wk, ways, rfl, hT, hc, hd, hw, lc, hok, hwt, hp, hm, q⟩ := h
  refine ⟨_, (pss_one (ps_ret (pe_call G_course_of (hr.mono (by omega)) (by rfl) T.course_of.g T.course_of.F.kp T.course_of.b .nil pass0 (pa_cons (pv 0) (pa_cons (pv 1) (pa_cons (pv 2) (pa_cons (pv 3) (pa_cons pe_non pa_nil)))))))), ?_⟩
  refine ⟨_, rfl, _, rfl, _, rfl, _, rfl, v, b, num, cd, wd, chs, wk, ways, rfl, hT, hc, hd, hw, lc, hok, hwt, hp, hm, q⟩
end
section
variable {P : Program} {w : World} {K : PySem.W.Frag} {mg : Str → Option Value} {base : Heap}
theorem ok_run (T : Top K mg) (m : Nat) : FnOk P w K mg base CX0 (m + 11) T.run.f T.run.fd ["program", "number", "choices"] (spRun m) := by
  have G_run_of : FnOk P w K mg base CX0 (m + 10) T.run_of.f T.run_of.fd ["program", "number", "choices", "ways"] (spRunOf m) := ok_run_of T m
  refine T.run.F.ok sc_run (fun vs H Q E h => ?_) (fun cdv A outer s H vs Q E hr h => ?_)
  · obtain ⟨v, b, num, cd, chs, rfl, _⟩ := h
    rfl
  obtain ⟨v, b, num, cd, chs, rfl, hT, hc, lc, hok, hwt, hp, hm, q⟩ := h
  refine ⟨_, (pss_one (ps_ret (pe_call G_run_of (hr.mono (by omega)) (by rfl) T.run_of.g T.run_of.F.kp T.run_of.b .nil pass0 (pa_cons (pv 0) (pa_cons (pv 1) (pa_cons (pv 2) (pa_cons pe_dnewK pa_nil))))))), ?_⟩
  refine ⟨_, rfl, _, rfl, _, rfl, fun wd hwd => ?_⟩
  have k1 : Kp [] H (upd H wd (.dK [])) := Kp.new hwd
  exact ⟨v, b, num, cd, wd, chs, [], noWay, rfl, k1.tr hT, k1.tup _ _ hc, upd_same, noWay_rel, lc, hok, hwt, hp, hm, fun t H' ht k2 => q t H' ht (k1.step0 k2)⟩
end
end EH
namespace EH
open PySem L2
/-! ### programs that are drawn -/
theorem Deck.cast {H : Hp} {a c : Addr} {n n' : Int} (d : Deck H a c n) (e : n = n') : Deck H a c n' := e ▸ d
/-- the names stand at nm -/
structure Nms (H : Hp) (nm a c : Addr) (names : List Str) : Prop where
  at_ : H nm = some (.lst (names.map V.str))
  off : nm ∉ [a, c]
  len : 0 < names.length ∧ names.length ≤ 1000
  oks : ∀ x ∈ names, NmOk x
theorem Nms.kp {S : List Addr} {H H' : Hp} {nm a c : Addr} {names : List Str} (x : Nms H nm a c names) (k : Kp S H H') (h : nm ∉ S) : Nms H' nm a c names := ⟨k.keep _ _ x.at_ h, x.off, x.len, x.oks⟩
theorem Nms.kp0 {H H' : Hp} {nm a c : Addr} {names : List Str} (x : Nms H nm a c names) (k : Kp [] H H') : Nms H' nm a c names := x.kp k (by simp)
theorem Nms.kpD {H H' : Hp} {nm a c : Addr} {names : List Str} (x : Nms H nm a c names) (k : Kp [a, c] H H') : Nms H' nm a c names := x.kp k x.off
/-! names that come from a list, words that come from the law's own lists -/
def Ex.inN (N : List Str) : Ex → Prop
  | .num _ => True
  | .var x => x ∈ N
  | .plus a b => a.inN N ∧ b.inN N
  | .minus a b => a.inN N ∧ b.inN N
  | .times _ a => a.inN N
def Ts.inN (N : List Str) : Ts → Prop
  | .less a b => a.inN N ∧ b.inN N
  | .odd a => a.inN N
  | .not t => t.inN N
def WdIn (c : Str) : Prop := c ∈ (["go", "7", "half", "odd", "end", "0", "not"] : List Str)
mutual
def Sm.inN (N : List Str) : Sm → Prop
  | .ite t y n => t.inN N ∧ Sm.insN N y ∧ Sm.insN N n
  | .rep _ b => Sm.insN N b
  | .set x e => e.inN N ∧ x ∈ N
  | .half x e => e.inN N ∧ x ∈ N
  | .tell e => e.inN N
  | .say c => WdIn c
  | .stop c => WdIn c
def Sm.insN (N : List Str) : List Sm → Prop
  | [] => True
  | s :: r => s.inN N ∧ Sm.insN N r
end
theorem Sm.insN_app {N : List Str} : ∀ {b c : List Sm}, Sm.insN N b → Sm.insN N c → Sm.insN N (b ++ c)
  | [], c, _, h => h
  | s :: r, c, h, g => by
    simp only [Sm.insN] at h
    simp only [List.cons_append, Sm.insN]
    exact ⟨h.1, Sm.insN_app h.2 g⟩
def costE : Nat → Int
  | 0 => 0
  | n + 1 => 3 + 2 * costE n
def spExpr (n : Nat) : Sp := fun vs H Q _ => ∃ (a c nm : Addr) (m deep : Int) (names : List Str), vs = [.ref a, .ref nm, .int deep] ∧ Deck H a c m ∧ m + costE n ≤ 900000000 ∧ Nms H nm a c names ∧ 1 ≤ deep ∧ deep ≤ n ∧ n ≤ 3 ∧
  ∀ (v : V) (e : Ex) (H' : Hp) (m' : Int), Tr H' e.d v → e.ok → e.inN names → (e.deep : Int) ≤ deep → m ≤ m' → m' ≤ m + costE n → Deck H' a c m' → Kp [a, c] H H' → Q v H'
theorem costE_nn : ∀ n, 0 ≤ costE n
  | 0 => Int.le_refl 0
  | n + 1 => by
    have := costE_nn n
    show 0 ≤ 3 + 2 * costE n
    omega
theorem mem_ints {P : Int → Prop} {x : V} : ∀ {l : List Int}, x ∈ l.map V.int → (∀ i ∈ l, P i) → ∃ i, x = .int i ∧ P i := fun {l} h q => by
  obtain ⟨i, hi, rfl⟩ := List.mem_map.mp h
  exact ⟨i, rfl, q i hi⟩
/-- what the counters are -/
structure Lf where
  p : Int
  w : Int
  h : Int
  c : Int
def Lf.vs (l : Lf) : List V := [.int l.p, .int l.w, .int l.h, .int l.c]
structure Gs (H : Hp) (a c nm lf : Addr) (m : Int) (names : List Str) (l : Lf) : Prop where
  dk : Deck H a c m
  nms : Nms H nm a c names
  lft : H lf = some (.lst l.vs)
  off : lf ∉ [a, c, nm]
theorem Gs.kp0 {H H' : Hp} {a c nm lf : Addr} {m : Int} {names : List Str} {l : Lf} (g : Gs H a c nm lf m names l) (k : Kp [] H H') : Gs H' a c nm lf m names l := ⟨g.dk.kp0 k, g.nms.kp0 k, k.at g.lft, g.off⟩
theorem Gs.nac {H : Hp} {a c nm lf : Addr} {m : Int} {names : List Str} {l : Lf} (g : Gs H a c nm lf m names l) : lf ∉ [a, c] := by
  have := g.off
  simp only [List.mem_cons, List.not_mem_nil, or_false, not_or] at this ⊢
  exact ⟨this.1, this.2.1⟩
theorem Gs.drawn {H H' : Hp} {a c nm lf : Addr} {m m' : Int} {names : List Str} {l : Lf} (g : Gs H a c nm lf m names l) (d : Deck H' a c m') (k : Kp [a, c] H H') : Gs H' a c nm lf m' names l :=
  ⟨d, g.nms.kpD k, k.keep _ _ g.lft g.nac, g.off⟩
theorem Gs.left {H H' : Hp} {a c nm lf : Addr} {m : Int} {names : List Str} {l l' : Lf} (g : Gs H a c nm lf m names l) (h : H' lf = some (.lst l'.vs)) (k : Kp [lf] H H') : Gs H' a c nm lf m names l' := by
  have o := g.off
  simp only [List.mem_cons, List.not_mem_nil, or_false, not_or] at o
  exact ⟨g.dk.kp k (ne1 (fun z => o.1 z.symm)) (ne1 (fun z => o.2.1 z.symm)), g.nms.kp k (ne1 (fun z => o.2.2 z.symm)), h, g.off⟩
theorem Gs.kpF {H0 H H' : Hp} {a c nm lf p : Addr} {m0 m : Int} {names : List Str} {l0 l : Lf} (g0 : Gs H0 a c nm lf m0 names l0) (hp : H0 p = none) (g : Gs H a c nm lf m names l) (k : Kp [p] H H') : Gs H' a c nm lf m names l := by
  have o := g0.dk.off hp
  simp only [List.mem_cons, List.not_mem_nil, or_false, not_or] at o
  exact ⟨g.dk.kp k (ne1 (fun z => o.1 z.symm)) (ne1 (fun z => o.2 z.symm)), g.nms.kp k (ne1 (ne_of_none g0.nms.at_ hp)), k.keep _ _ g.lft (ne1 (ne_of_none g0.lft hp)), g.off⟩
/-! data that are tuples of tuples: what == asks -/
def rEqT : R2 := fun x y H Q => ∃ d e, Tr H d x ∧ Tr H e y ∧ SeqAt.shaped d = true ∧ SeqAt.shaped e = true ∧ Q (.bl (PyData.eqv d e)) H
def rNeT : R2 := fun x y H Q => ∃ d e, Tr H d x ∧ Tr H e y ∧ SeqAt.shaped d = true ∧ SeqAt.shaped e = true ∧ Q (.bl (!PyData.eqv d e)) H
theorem shaped_of {d : PyData} (h1 : d.canLay0 = true) (h2 : d.depth ≤ 64) : SeqAt.shaped d = true := by
  show (d.canLay0 && decide (d.depth ≤ 64)) = true
  rw [h1, decide_eq_true h2]
  rfl
theorem shaped_nil : SeqAt.shaped (.tuple []) = true := shaped_of (by simp [PyData.canLay0, PyData.canLayAll0]) (by simp [PyData.depth, PyData.depthAll])
section
variable {X : Cx}
theorem op_eqT (hu : X.A.units + 64 < cLine) : OpR X (compareOp .Eq) rEqT := OpR.imp (op_eqD hu) fun x y H Q ⟨d, e, h1, h2, h3, h4, q⟩ => ⟨d, e, Tr.dp d x h1, Tr.dp e y h2, h3, h4, q⟩
theorem op_neT (hu : X.A.units + 64 < cLine) : OpR X (compareOp .NotEq) rNeT := OpR.imp (op_neD hu) fun x y H Q ⟨d, e, h1, h2, h3, h4, q⟩ => ⟨d, e, Tr.dp d x h1, Tr.dp e y h2, h3, h4, q⟩
end
theorem Ex.dep : ∀ e : Ex, e.d.depth + 1 ≤ e.deep
  | .num _ => by simp [Ex.d, Ex.deep, PyData.depth]
  | .var _ => by simp [Ex.d, Ex.deep, PyData.depth]
  | .plus a b => by
    have := Ex.dep a
    have := Ex.dep b
    simp only [Ex.d, Ex.deep, PyData.depth, PyData.depthAll]
    omega
  | .minus a b => by
    have := Ex.dep a
    have := Ex.dep b
    simp only [Ex.d, Ex.deep, PyData.depth, PyData.depthAll]
    omega
  | .times _ a => by
    have := Ex.dep a
    simp only [Ex.d, Ex.deep, PyData.depth, PyData.depthAll]
    omega
theorem Ts.dep : ∀ {t : Ts}, t.ok → t.d.depth ≤ t.nots + 4
  | .less a b, h => by
    have := Ex.dep a
    have := Ex.dep b
    obtain ⟨⟨_, h1⟩, _, h2⟩ := (show (a.ok ∧ a.deep ≤ 3) ∧ b.ok ∧ b.deep ≤ 3 from h)
    simp only [Ts.d, Ts.nots, PyData.depth, PyData.depthAll]
    omega
  | .odd a, h => by
    have := Ex.dep a
    obtain ⟨_, h1⟩ := (show a.ok ∧ a.deep ≤ 3 from h)
    simp only [Ts.d, Ts.nots, PyData.depth, PyData.depthAll]
    omega
  | .not t, h => by
    have := Ts.dep (t := t) h
    simp only [Ts.d, Ts.nots, PyData.depth, PyData.depthAll]
    omega
theorem Ex.lay : ∀ {e : Ex}, e.ok → e.d.canLay0 = true
  | .num _, _ => by simp [Ex.d, PyData.canLay0]
  | .var x, h => by
    simp only [Ex.d, PyData.canLay0]
    exact h.1
  | .plus a b, h => by
    obtain ⟨h1, h2⟩ := (show a.ok ∧ b.ok from h)
    simp only [Ex.d, PyData.canLay0, PyData.canLayAll0, Ex.lay h1, Ex.lay h2]
    decide +kernel
  | .minus a b, h => by
    obtain ⟨h1, h2⟩ := (show a.ok ∧ b.ok from h)
    simp only [Ex.d, PyData.canLay0, PyData.canLayAll0, Ex.lay h1, Ex.lay h2]
    decide +kernel
  | .times k a, h => by
    obtain ⟨_, _, h2⟩ := (show -9 ≤ k ∧ k ≤ 9 ∧ a.ok from h)
    simp only [Ex.d, PyData.canLay0, PyData.canLayAll0, Ex.lay h2]
    decide +kernel
theorem Ts.lay : ∀ {t : Ts}, t.ok → t.d.canLay0 = true
  | .less a b, h => by
    obtain ⟨⟨h1, _⟩, h2, _⟩ := (show (a.ok ∧ a.deep ≤ 3) ∧ b.ok ∧ b.deep ≤ 3 from h)
    simp only [Ts.d, PyData.canLay0, PyData.canLayAll0, Ex.lay h1, Ex.lay h2]
    decide +kernel
  | .odd a, h => by
    obtain ⟨h1, _⟩ := (show a.ok ∧ a.deep ≤ 3 from h)
    simp only [Ts.d, PyData.canLay0, PyData.canLayAll0, Ex.lay h1]
    decide +kernel
  | .not t, h => by
    simp only [Ts.d, PyData.canLay0, PyData.canLayAll0, Ts.lay (t := t) h]
    decide +kernel
theorem Ts.shaped {t : Ts} (h : t.ok) (h2 : t.nots ≤ 2) : SeqAt.shaped t.d = true := shaped_of (Ts.lay h) (by have := Ts.dep h; omega)
theorem Ts.ne0 (t : Ts) : PyData.eqv t.d (.tuple []) = false := by cases t <;> simp [Ts.d, PyData.eqv, PyData.eqvAll]
def Ts.isOdd : Ts → Bool
  | .less _ _ => false
  | .odd _ => true
  | .not t => t.isOdd
def notN : Nat → Ts → Ts
  | 0, t => t
  | n + 1, t => .not (notN n t)
theorem notN_ok {t : Ts} (h : t.ok) : ∀ n, (notN n t).ok
  | 0 => h
  | n + 1 => notN_ok h n
theorem notN_in {N : List Str} {t : Ts} (h : t.inN N) : ∀ n, (notN n t).inN N
  | 0 => h
  | n + 1 => notN_in h n
theorem notN_nots {t : Ts} : ∀ n, (notN n t).nots = t.nots + n
  | 0 => rfl
  | n + 1 => by
    show (notN n t).nots + 1 = _
    rw [notN_nots n]
    omega
theorem notN_odd {t : Ts} : ∀ n, (notN n t).isOdd = t.isOdd
  | 0 => rfl
  | n + 1 => notN_odd n
/-! what a statement counts -/
mutual
def Sm.hv : Sm → Nat
  | .ite t y n => (if t.isOdd then 1 else 0) + (Sm.hvs y + Sm.hvs n)
  | .rep k b => k * Sm.hvs b
  | .half _ _ => 1
  | .set _ _ => 0
  | .tell _ => 0
  | .say _ => 0
  | .stop _ => 0
def Sm.hvs : List Sm → Nat
  | [] => 0
  | s :: r => s.hv + Sm.hvs r
end
mutual
def Sm.cp : Sm → Nat
  | .ite t y n => (if t.isOdd then 0 else 1) + (Sm.cps y + Sm.cps n)
  | .rep k b => k * Sm.cps b
  | .half _ _ => 0
  | .set _ _ => 0
  | .tell _ => 0
  | .say _ => 0
  | .stop _ => 0
def Sm.cps : List Sm → Nat
  | [] => 0
  | s :: r => s.cp + Sm.cps r
end
/-- words and names are those of the text; times at most eight -/
def Lf.nn (l : Lf) : Prop := 0 ≤ l.p ∧ 0 ≤ l.w ∧ 0 ≤ l.h ∧ 0 ≤ l.c
def Lf.le (l l' : Lf) : Prop := l'.p ≤ l.p ∧ l'.w ≤ l.w ∧ l'.h ≤ l.h ∧ l'.c ≤ l.c
/-- a test that may be lacking -/
def tD : Option Ts → PyData
  | none => .tuple []
  | some t => t.d
def spTest : Sp := fun vs H Q _ => ∃ (a c nm lf : Addr) (m t : Int) (names : List Str) (l : Lf), vs = [.ref a, .ref nm, .ref lf, .int t] ∧ Gs H a c nm lf m names l ∧ m ≤ 800000000 ∧ l.nn ∧ 0 ≤ t ∧
  ∀ (v : V) (o : Option Ts) (H' : Hp) (m' : Int) (l' : Lf), Tr H' (tD o) v → (∀ s, o = some s → (s.ok ∧ s.inN names) ∧ s.nots ≤ 2 ∧ t * (if s.isOdd then 1 else 0) ≤ l.h - l'.h ∧ t * (if s.isOdd then 0 else 1) ≤ l.c - l'.c) → l'.nn → l'.p = l.p → l'.w = l.w → l'.h ≤ l.h → l'.c ≤ l.c →
    m ≤ m' → m' ≤ m + 50 → Gs H' a c nm lf m' names l' → Kp [a, c, lf] H H' → Q v H'
def spPlain : Sp := fun vs H Q _ => ∃ (a c nm lf : Addr) (m t : Int) (names : List Str) (l : Lf), vs = [.ref a, .ref nm, .ref lf, .int t] ∧ Gs H a c nm lf m names l ∧ m ≤ 800000000 ∧ l.nn ∧ 0 ≤ t ∧
  ∀ (v : V) (s : Sm) (H' : Hp) (m' : Int) (l' : Lf), Tr H' s.d v → s.ok → s.inN names → s.plain → t * (s.hv : Int) ≤ l.h - l'.h → l'.nn → l'.p = l.p → l'.w = l.w → l'.h ≤ l.h → l'.c = l.c → m ≤ m' → m' ≤ m + 50 → Gs H' a c nm lf m' names l' → Kp [a, c, lf] H H' → Q v H'
/-! ### statements and blocks that are drawn -/
def rD : Option Sm → PyData
  | none => .tuple []
  | some s => s.d
def costB : Nat → Int
  | 0 => 0
  | k + 1 => 1 + 4 * (110 + 2 * costB k)
def costR (k : Nat) : Int := 110 + 2 * costB k
theorem costB_nn : ∀ n, 0 ≤ costB n
  | 0 => Int.le_refl 0
  | n + 1 => by
    have := costB_nn n
    show 0 ≤ 1 + 4 * (110 + 2 * costB n)
    omega
/-- what is left behind a statement, a block -/
structure Took (t : Int) (pl wt hv cp : Nat) (l l' : Lf) : Prop where
  p : (pl : Int) ≤ l.p - l'.p
  w : t * (wt : Int) ≤ l.w - l'.w
  h : t * (hv : Int) ≤ l.h - l'.h
  c : t * (cp : Int) ≤ l.c - l'.c
theorem Took.add {t : Int} {p1 w1 h1 c1 p2 w2 h2 c2 : Nat} {l l1 l2 : Lf} (a : Took t p1 w1 h1 c1 l l1) (b : Took t p2 w2 h2 c2 l1 l2) : Took t (p1 + p2) (w1 + w2) (h1 + h2) (c1 + c2) l l2 := by
  have := a.p; have := a.w; have := a.h; have := a.c; have := b.p; have := b.w; have := b.h; have := b.c
  refine ⟨?_, ?_, ?_, ?_⟩ <;> (simp only [Int.natCast_add, Int.mul_add]; omega)
theorem Took.le {t : Int} (ht : 0 ≤ t) {p w h c : Nat} {l l' : Lf} (a : Took t p w h c l l') : l.le l' := by
  have := a.p; have := a.w; have := a.h; have := a.c
  have z1 : 0 ≤ t * (w : Int) := Int.mul_nonneg ht (Int.natCast_nonneg _)
  have z2 : 0 ≤ t * (h : Int) := Int.mul_nonneg ht (Int.natCast_nonneg _)
  have z3 : 0 ≤ t * (c : Int) := Int.mul_nonneg ht (Int.natCast_nonneg _)
  exact ⟨by omega, by omega, by omega, by omega⟩
theorem Took.none {t : Int} {l : Lf} : Took t 0 0 0 0 l l := by
  refine ⟨?_, ?_, ?_, ?_⟩ <;> simp
theorem Took.of {t : Int} {p w h c p' w' h' c' : Nat} {l l' : Lf} (a : Took t p w h c l l') (e1 : p = p') (e2 : w = w') (e3 : h = h') (e4 : c = c') : Took t p' w' h' c' l l' := by subst e1 e2 e3 e4; exact a
theorem Took.rep {t : Int} {k p w h c : Nat} {l l' : Lf} (a : Took (t * (k : Int)) p w h c l l') : Took t p (k * w) (k * h) (k * c) l l' := by
  refine ⟨a.p, ?_, ?_, ?_⟩
  · have := a.w
    rw [Int.natCast_mul, ← Int.mul_assoc]
    exact this
  · have := a.h
    rw [Int.natCast_mul, ← Int.mul_assoc]
    exact this
  · have := a.c
    rw [Int.natCast_mul, ← Int.mul_assoc]
    exact this
/-- what a drawn statement keeps -/
structure SOk (N : List Str) (t depth : Int) (l l' : Lf) (s : Sm) : Prop where
  ok : s.ok
  inn : s.inN N
  nest : (s.nest : Int) + depth ≤ 4
  took : Took t s.pl s.wt s.hv s.cp l l'
structure BOk (N : List Str) (t depth : Int) (l l' : Lf) (b : List Sm) : Prop where
  ok : Sm.oks b
  inn : Sm.insN N b
  nest : b = [] ∨ (Sm.nests b : Int) + depth ≤ 4
  took : Took t (Sm.pls b) (Sm.wts b) (Sm.hvs b) (Sm.cps b) l l'
def spRow (k : Nat) : Sp := fun vs H Q _ => ∃ (a c nm lf : Addr) (m t depth : Int) (names : List Str) (l : Lf), vs = [.ref a, .ref nm, .ref lf, .int t, .int depth] ∧ Gs H a c nm lf m names l ∧ m + costR k ≤ 700000000 ∧ l.nn ∧ 0 ≤ t ∧ depth = 3 - (k : Int) ∧ 0 ≤ depth ∧
  ∀ (v : V) (o : Option Sm) (H' : Hp) (m' : Int) (l' : Lf), Tr H' (rD o) v → (∀ s, o = some s → SOk names t depth l l' s) → (o = none → l' = l) → l'.nn → m ≤ m' → m' ≤ m + costR k → Gs H' a c nm lf m' names l' → Kp [a, c, lf] H H' → Q v H'
def spBlock (k : Nat) : Sp := fun vs H Q _ => ∃ (a c nm lf : Addr) (m t depth : Int) (names : List Str) (l : Lf), vs = [.ref a, .ref nm, .ref lf, .int t, .int depth] ∧ Gs H a c nm lf m names l ∧ m + costB k ≤ 700000000 ∧ l.nn ∧ 0 ≤ t ∧ depth = 4 - (k : Int) ∧ 0 ≤ depth ∧
  ∀ (v : V) (b : List Sm) (H' : Hp) (m' : Int) (l' : Lf), Tr H' (.tuple (Sm.ds b)) v → BOk names t depth l l' b → l'.nn → m ≤ m' → m' ≤ m + costB k → Gs H' a c nm lf m' names l' → Kp [a, c, lf] H H' → Q v H'
mutual
theorem Sm.lay : ∀ {s : Sm}, s.ok → s.d.canLay0 = true
  | .set x e, h => by
    simp only [Sm.ok] at h
    simp only [Sm.d, PyData.canLay0, PyData.canLayAll0, h.2.1, Ex.lay h.1.1]
    decide +kernel
  | .half x e, h => by
    simp only [Sm.ok] at h
    simp only [Sm.d, PyData.canLay0, PyData.canLayAll0, h.2.1, Ex.lay h.1.1]
    decide +kernel
  | .tell e, h => by
    simp only [Sm.ok] at h
    simp only [Sm.d, PyData.canLay0, PyData.canLayAll0, Ex.lay h.1]
    decide +kernel
  | .say c, h => by
    simp only [Sm.ok] at h
    simp only [Sm.d, PyData.canLay0, PyData.canLayAll0, h.1]
    decide +kernel
  | .stop c, h => by
    simp only [Sm.ok] at h
    simp only [Sm.d, PyData.canLay0, PyData.canLayAll0, h.1]
    decide +kernel
  | .ite t y n, h => by
    simp only [Sm.ok] at h
    simp only [Sm.d, PyData.canLay0, PyData.canLayAll0, Ts.lay h.1, Sm.lays h.2.2.1, Sm.lays h.2.2.2]
    decide +kernel
  | .rep k b, h => by
    simp only [Sm.ok] at h
    simp only [Sm.d, PyData.canLay0, PyData.canLayAll0, Sm.lays h.2]
    decide +kernel
theorem Sm.lays : ∀ {b : List Sm}, Sm.oks b → PyData.canLayAll0 (Sm.ds b) = true
  | [], _ => by simp [Sm.ds, PyData.canLayAll0]
  | s :: r, h => by
    simp only [Sm.oks] at h
    simp only [Sm.ds, PyData.canLayAll0, Sm.lay h.1, Sm.lays h.2]
    rfl
end
mutual
theorem Sm.dep : ∀ {s : Sm}, s.ok → s.d.depth ≤ 2 * s.nest + 8
  | .set x e, h => by
    simp only [Sm.ok] at h
    have := e.dep
    simp only [Sm.d, PyData.depth, PyData.depthAll]
    omega
  | .half x e, h => by
    simp only [Sm.ok] at h
    have := e.dep
    simp only [Sm.d, PyData.depth, PyData.depthAll]
    omega
  | .tell e, h => by
    simp only [Sm.ok] at h
    have := e.dep
    simp only [Sm.d, PyData.depth, PyData.depthAll]
    omega
  | .say c, h => by simp [Sm.d, PyData.depth, PyData.depthAll]
  | .stop c, h => by simp [Sm.d, PyData.depth, PyData.depthAll]
  | .ite t y n, h => by
    simp only [Sm.ok] at h
    have := Ts.dep h.1
    have := Sm.deps h.2.2.1
    have := Sm.deps h.2.2.2
    simp only [Sm.d, PyData.depth, PyData.depthAll, Sm.nest]
    omega
  | .rep k b, h => by
    simp only [Sm.ok] at h
    have := Sm.deps h.2
    simp only [Sm.d, PyData.depth, PyData.depthAll, Sm.nest]
    omega
theorem Sm.deps : ∀ {b : List Sm}, Sm.oks b → PyData.depthAll (Sm.ds b) ≤ 2 * Sm.nests b + 8
  | [], _ => by simp [Sm.ds, PyData.depthAll]
  | s :: r, h => by
    simp only [Sm.oks] at h
    have := Sm.dep h.1
    have := Sm.deps h.2
    simp only [Sm.ds, PyData.depthAll, Sm.nests]
    omega
end
theorem Sm.shaped {s : Sm} (h : s.ok) (h2 : s.nest ≤ 10) : SeqAt.shaped s.d = true := shaped_of (Sm.lay h) (by have := Sm.dep h; omega)
theorem Sm.ne0 (t : Sm) : PyData.eqv t.d (.tuple []) = false := by cases t <;> simp [Sm.d, PyData.eqv, PyData.eqvAll]
theorem Sm.ds_app : ∀ (b c : List Sm), Sm.ds (b ++ c) = Sm.ds b ++ Sm.ds c
  | [], c => by simp only [List.nil_append, Sm.ds]
  | s :: r, c => by simp only [List.cons_append, Sm.ds, Sm.ds_app r c]
theorem Sm.oks_app : ∀ {b c : List Sm}, Sm.oks b → Sm.oks c → Sm.oks (b ++ c)
  | [], c, _, h => h
  | s :: r, c, h, g => by
    simp only [Sm.oks] at h
    simp only [List.cons_append, Sm.oks]
    exact ⟨h.1, Sm.oks_app h.2 g⟩
theorem Sm.pls_app : ∀ (b c : List Sm), Sm.pls (b ++ c) = Sm.pls b + Sm.pls c
  | [], c => by simp only [List.nil_append, Sm.pls]; omega
  | s :: r, c => by simp only [List.cons_append, Sm.pls, Sm.pls_app r c]; omega
theorem Sm.wts_app : ∀ (b c : List Sm), Sm.wts (b ++ c) = Sm.wts b + Sm.wts c
  | [], c => by simp only [List.nil_append, Sm.wts]; omega
  | s :: r, c => by simp only [List.cons_append, Sm.wts, Sm.wts_app r c]; omega
theorem Sm.hvs_app : ∀ (b c : List Sm), Sm.hvs (b ++ c) = Sm.hvs b + Sm.hvs c
  | [], c => by simp only [List.nil_append, Sm.hvs]; omega
  | s :: r, c => by simp only [List.cons_append, Sm.hvs, Sm.hvs_app r c]; omega
theorem Sm.cps_app : ∀ (b c : List Sm), Sm.cps (b ++ c) = Sm.cps b + Sm.cps c
  | [], c => by simp only [List.nil_append, Sm.cps]; omega
  | s :: r, c => by simp only [List.cons_append, Sm.cps, Sm.cps_app r c]; omega
theorem Sm.nests_app : ∀ (b c : List Sm), Sm.nests (b ++ c) ≤ Sm.nests b ∨ Sm.nests (b ++ c) ≤ Sm.nests c
  | [], c => .inr (by simp only [List.nil_append]; omega)
  | s :: r, c => by
    have := Sm.nests_app r c
    simp only [List.cons_append, Sm.nests]
    omega
theorem BOk.nil {N : List Str} {t d : Int} {l : Lf} : BOk N t d l l [] := ⟨by simp only [Sm.oks], by simp only [Sm.insN], .inl rfl, by simp only [Sm.pls, Sm.wts, Sm.hvs, Sm.cps]; exact Took.none⟩
theorem BOk.cat {N : List Str} {t d : Int} {l l1 l2 : Lf} {b c : List Sm} (x : BOk N t d l l1 b) (y : BOk N t d l1 l2 c) : BOk N t d l l2 (b ++ c) := by
  refine ⟨Sm.oks_app x.ok y.ok, Sm.insN_app x.inn y.inn, ?_, (x.took.add y.took).of (Sm.pls_app b c).symm (Sm.wts_app b c).symm (Sm.hvs_app b c).symm (Sm.cps_app b c).symm⟩
  rcases x.nest with rfl | h1
  · exact y.nest
  · rcases y.nest with rfl | h2
    · rw [List.append_nil]
      exact .inr h1
    · have := Sm.nests_app b c
      exact .inr (by omega)
theorem BOk.one {N : List Str} {t d : Int} {l l1 : Lf} {s : Sm} (x : SOk N t d l l1 s) : BOk N t d l l1 [s] := by
  refine ⟨by simp only [Sm.oks]; exact ⟨x.ok, trivial⟩, by simp only [Sm.insN]; exact ⟨x.inn, trivial⟩, .inr ?_, x.took.of ?_ ?_ ?_ ?_⟩
  · have := x.nest
    simp only [Sm.nests]
    omega
  · simp only [Sm.pls]; omega
  · simp only [Sm.wts]; omega
  · simp only [Sm.hvs]; omega
  · simp only [Sm.cps]; omega
theorem rD_shaped {N : List Str} {t d : Int} {l l' : Lf} {o : Option Sm} (hd : 0 ≤ d) (h : ∀ s, o = some s → SOk N t d l l' s) : SeqAt.shaped (rD o) = true := by
  cases o with
  | none => exact shaped_nil
  | some s =>
    have x := h s rfl
    exact Sm.shaped x.ok (by have := x.nest; omega)
/-- the statements among what was drawn -/
def smsOf : List (Option Sm) → List Sm
  | [] => []
  | none :: r => smsOf r
  | some s :: r => s :: smsOf r
theorem smsOf_app : ∀ (a b : List (Option Sm)), smsOf (a ++ b) = smsOf a ++ smsOf b
  | [], _ => rfl
  | none :: r, b => smsOf_app r b
  | some s :: r, b => congrArg (s :: ·) (smsOf_app r b)
theorem Sm.ds_le : ∀ b : List Sm, (Sm.ds b).length ≤ Sm.pls b
  | [] => by simp only [Sm.ds, Sm.pls]; exact Nat.le_refl _
  | s :: r => by
    have := Sm.ds_le r
    have := s.pl_pos
    simp only [Sm.ds, Sm.pls, List.length_cons]
    omega
theorem at_last {α : Type} {xs : List α} {x : α} (h : xs.getLast? = some x) : atI xs (-1) = some x := by
  have e : xs ≠ [] := by
    intro z
    rw [z] at h
    cases h
  have l : 0 < xs.length := List.length_pos_iff.mpr e
  unfold atI ixN
  rw [if_neg (by decide), if_pos (by omega)]
  rw [List.getLast?_eq_getElem?] at h
  show xs[(-1 + (xs.length : Int)).toNat]? = some x
  rw [show (-1 + (xs.length : Int)).toNat = xs.length - 1 by omega]
  exact h
/-! ### programs, numbers, choices -/
structure PrOk (b : List Sm) : Prop where
  ok : Sm.oks b
  nest : Sm.nests b ≤ 4
  pl : Sm.pls b ≤ 24
  wt : Sm.wts b ≤ 60
  hv : Sm.hvs b ≤ 4
  cp : Sm.cps b ≤ 3
theorem BOk.pr {N : List Str} {l : Lf} {b : List Sm} (x : BOk N 1 0 ⟨24, 60, 4, 3⟩ l b) (h : l.nn) : PrOk b := by
  obtain ⟨h1, h2, h3, h4⟩ := h
  have a1 : _ ≤ 24 - l.p := x.took.p
  have a2 : _ ≤ 60 - l.w := x.took.w
  have a3 : _ ≤ 4 - l.h := x.took.h
  have a4 : _ ≤ 3 - l.c := x.took.c
  refine ⟨x.ok, ?_, by omega, by omega, by omega, by omega⟩
  rcases x.nest with rfl | h
  · simp only [Sm.nests]; omega
  · omega
def spProgram : Sp := fun vs H Q _ => ∃ (a c nm : Addr) (m : Int) (names : List Str), vs = [.ref a, .ref nm] ∧ Deck H a c m ∧ m ≤ 600000000 ∧ Nms H nm a c names ∧
  ∀ (v : V) (b : List Sm) (H' : Hp) (m' : Int), Tr H' (.tuple (Sm.ds b)) v → PrOk b → m ≤ m' → m' ≤ m + 1100000 → Deck H' a c m' → Kp [a, c] H H' → Q v H'
/-- as spProgram, and the names come from the list -/
def spProgramN : Sp := fun vs H Q _ => ∃ (a c nm : Addr) (m : Int) (names : List Str), vs = [.ref a, .ref nm] ∧ Deck H a c m ∧ m ≤ 600000000 ∧ Nms H nm a c names ∧
  ∀ (v : V) (b : List Sm) (H' : Hp) (m' : Int), Tr H' (.tuple (Sm.ds b)) v → PrOk b → Sm.insN names b → m ≤ m' → m' ≤ m + 1100000 → Deck H' a c m' → Kp [a, c] H H' → Q v H'
def BIG : Int := 1000000000000000000000000000000000000000000000000000000000000
def spNumber : Sp := fun vs H Q _ => ∃ (a c : Addr) (m : Int), vs = [.ref a] ∧ Deck H a c m ∧ m ≤ 600000000 ∧
  ∀ (n : Int) (H' : Hp) (m' : Int), -BIG ≤ n → n ≤ BIG → m ≤ m' → m' ≤ m + 10 → Deck H' a c m' → Kp [a, c] H H' → Q (.int n) H'
def spChoices : Sp := fun vs H Q _ => ∃ (a c : Addr) (m : Int), vs = [.ref a] ∧ Deck H a c m ∧ m ≤ 600000000 ∧
  ∀ (p : Addr) (cs : List Int) (H' : Hp) (m' : Int), H' p = some (.tup (cs.map V.int)) → (∀ i ∈ cs, i = 0 ∨ i = 1) → cs.length ≤ 8 → m ≤ m' → m' ≤ m + 10 → Deck H' a c m' → Kp [a, c] H H' → Q (.ref p) H'
end EH
namespace EH
open PySem L2
local macro_rules | `(tactic| walk_at "sd") => `(tactic| first | assumption | ((with_reducible show (_ : Int) ≤ _); omega) | ((with_reducible show (_ : Int) < _); omega) | rfl | exact SqL.of (by assumption) | exact SqT.of (by assumption) | exact atI_nat (j := 0) rfl | exact atI_nat (j := 1) rfl | exact atI_nat (j := 2) rfl | exact atI_nat (j := 3) rfl | exact sz_lit rfl | exact lt_lit rfl | exact pos_lit rfl | exact le_lit rfl | exact Or.inl (SqL.of (by assumption)) | exact ⟨_, SqL.of (by assumption)⟩ | exact ⟨_, SqT.of (by assumption)⟩ | exact Or.inr (SqT.of (by assumption)) | exact ClsV.ty _ | exact TyX.base (TyOf.int _) | exact TyX.base (TyOf.str _) | exact TyX.base (TyOf.tup (by assumption)) | exact kit_ty isi_ss | exact kit_ty isi_is | exact kit_ty isi_ts | exact kit_ty isi_si | exact kit_ty isi_ii | exact kit_ty isi_ti | exact kit_ty isi_st | exact kit_ty isi_it | exact kit_ty isi_tt | exact Or.inl ⟨_, Or.inl (by assumption)⟩ | exact DGet.k (k := Sum.inr _) (by assumption) | exact DGet.k (k := Sum.inl _) (by assumption) | (refine cpow_of ?_; decide) | (refine cmul_of ?_; decide) | (show (_ : Int) ≠ 0; first | decide | omega) | (refine cdivn_of ?_; decide) | exact Or.inl ⟨rfl, _, SqL.of (by assumption)⟩ | omega)
local macro_rules | `(tactic| walk_at "st") => `(tactic| first | (apply Exists.intro) | (refine And.intro ?_ ?_; focus (walk_at "sd")) | (apply Or.inl; apply Exists.intro; refine And.intro ?_ ?_; focus rfl) | (apply Or.inr; apply Exists.intro; refine And.intro ?_ ?_; focus rfl))
local macro_rules | `(tactic| walk_at "go") => `(tactic| repeat (walk_at "st"))
section
variable {P : Program} {w : World} {K : PySem.W.Frag} {mg : Str → Option Value} {base : Heap}
theorem ok_l_expression (T : Top K mg) : ∀ n : Nat, FnOk P w K mg base CX0 (n + 2) T.l_expression.f T.l_expression.fd ["_law_deck_here", "_law_names_here", "_law_deep"] (spExpr n)
  | 0 => fn_no (by rintro vs H Q E ⟨a, c, nm, m, deep, names, _, _, _, _, h1, h2, _⟩; omega)
  | n + 1 => by
    have G_l_draw : FnOk P w K mg base CX0 1 T.l_draw.f T.l_draw.fd ["_law_deck_here", "_law_many"] spDraw := ok_l_draw T
    have G_l_one : FnOk P w K mg base CX0 2 T.l_one.f T.l_one.fd ["_law_deck_here", "_law_items"] (spOne K) := ok_l_one T
    have G_l_expression := ok_l_expression T n
    refine T.l_expression.F.ok sc_l_expression (fun vs H Q E h => ?_) (fun cdv A outer s H vs Q E hr h => ?_)
    · obtain ⟨a, c, nm, m, deep, names, rfl, _⟩ := h
      rfl
    obtain ⟨a, c, nm, m, deep, names, rfl, hD, hm, hN, h1, h2, h3, q⟩ := h
    refine ⟨_, (pss_cutA (ps_set (i := 3) sc_l_expression.nd rfl (.inl rfl) (pe_ifExp (pt_cmpR op_gt (pv 2) pe_int (nomark _)) (pe_call G_l_draw (hr.mono (by omega)) (by rfl) T.l_draw.g T.l_draw.F.kp T.l_draw.b .nil pass0 (pa_cons (pv 0) (pa_cons pe_int pa_nil))) (pe_call G_l_draw (hr.mono (by omega)) (by rfl) T.l_draw.g T.l_draw.F.kp T.l_draw.b .nil pass0 (pa_cons (pv 0) (pa_cons pe_int pa_nil)))))
      (pss_cons (ps_if (pt_cmpR op_eq (pv 3) pe_int (nomark _)) (pss_one (ps_ret (pe_call G_l_one (hr.mono (by omega)) (by rfl) T.l_one.g T.l_one.F.kp T.l_one.b .nil pass0 (pa_cons (pv 0) (pa_cons (pe_lstA (pa_cons pe_int (pa_cons pe_int (pa_cons pe_int (pa_cons (pe_un un_neg pe_int) (pa_cons pe_int (pa_cons (pe_un un_neg pe_int) (pa_cons pe_int (pa_cons (pe_un un_neg pe_int) (pa_cons (pe_op op_sub (pe_call G_l_draw (hr.mono (by omega)) (by rfl) T.l_draw.g T.l_draw.F.kp T.l_draw.b .nil pass0 (pa_cons (pv 0) (pa_cons pe_int pa_nil))) pe_int) pa_nil)))))))))) pa_nil))))) pss_nil)
      (pss_cons (ps_if (pt_cmpR op_lt (pv 3) pe_int (nomark _)) (pss_one (ps_ret (pe_call G_l_one (hr.mono (by omega)) (by rfl) T.l_one.g T.l_one.F.kp T.l_one.b .nil pass0 (pa_cons (pv 0) (pa_cons (pv 1) pa_nil))))) pss_nil)
      (pss_cons (ps_if (pt_cmpR op_eq (pv 3) pe_int (nomark _)) (pss_cons (ps_set (i := 4) sc_l_expression.nd rfl (.inl rfl) (pe_call G_l_one (hr.mono (by omega)) (by rfl) T.l_one.g T.l_one.F.kp T.l_one.b .nil pass0 (pa_cons (pv 0) (pa_cons (pe_lstA (pa_cons (pe_un un_neg pe_int) (pa_cons (pe_un un_neg pe_int) (pa_cons (pe_un un_neg pe_int) (pa_cons (pe_un un_neg pe_int) (pa_cons pe_int (pa_cons pe_int (pa_cons pe_int (pa_cons pe_int pa_nil))))))))) pa_nil))))
      (pss_one (ps_ret (pe_tupA (pa_cons pe_str (pa_cons (pv 4) (pa_cons (pe_call G_l_expression (hr.mono (by omega)) (by rfl) T.l_expression.g T.l_expression.F.kp T.l_expression.b .nil pass0 (pa_cons (pv 0) (pa_cons (pv 1) (pa_cons (pe_op op_sub (pv 2) pe_int) pa_nil)))) pa_nil))))))) pss_nil)
      (pss_cons (ps_set (i := 5) sc_l_expression.nd rfl (.inl rfl) (pe_call G_l_expression (hr.mono (by omega)) (by rfl) T.l_expression.g T.l_expression.F.kp T.l_expression.b .nil pass0 (pa_cons (pv 0) (pa_cons (pv 1) (pa_cons (pe_op op_sub (pv 2) pe_int) pa_nil)))))
      (pss_one (ps_ret (pe_tupA (pa_cons (pe_ix (ix_listK (K := K) rfl) (pe_lstA (pa_cons pe_str (pa_cons pe_str pa_nil))) (pe_op op_modN (pe_callTy (T := "int") call_int1 (by rfl) T.int (by decide +kernel) (pa_cons (pv 3) pa_nil)) pe_int) (fun _ _ => rfl)) (pa_cons (pv 5) (pa_cons (pe_call G_l_expression (hr.mono (by omega)) (by rfl) T.l_expression.g T.l_expression.F.kp T.l_expression.b .nil pass0 (pa_cons (pv 0) (pa_cons (pv 1) (pa_cons (pe_op op_sub (pv 2) pe_int) pa_nil)))) pa_nil))))))))))), ?_⟩
    have cn := costE_nn n
    have ce : costE (n + 1) = 3 + 2 * costE n := rfl
    have c15 : costE n ≤ 100 := by
      have : n = 0 ∨ n = 1 ∨ n = 2 := by omega
      rcases this with rfl | rfl | rfl <;> decide
    have hmM : m ≤ MANY := by show m ≤ 1000000000; omega
    refine ⟨⟨fun σ1 H1 => Lp (∃ r : Int, σ1 = [some (.ref a), some (.ref nm), some (.int deep), some (.int r), none, none] ∧ 0 ≤ r ∧ r < 7 ∧ (deep ≤ 1 → r < 4) ∧ Deck H1 a c (m + 1) ∧ Kp [a, c] H H1), ?_, ?_⟩⟩
    · walk_at "go"
      refine ite2 (fun hc => ?_) (fun hc => ?_)
      · have hc1 : 1 < deep := of_decide_eq_true hc
        walk_at "go"
        intro r H1 r0 r1 D1 k1
        exact ⟨r, rfl, r0, r1, fun z => absurd z (by omega), D1, k1⟩
      · have hc1 : ¬ 1 < deep := of_decide_eq_false (Bool.eq_false_iff.mpr hc)
        walk_at "go"
        intro r H1 r0 r1 D1 k1
        exact ⟨r, rfl, r0, by omega, fun _ => r1, D1, k1⟩
    · rintro σ1 H1 ⟨⟨r, rfl, r0, r1, r2, D1, k1⟩⟩
      have hN1 := hN.kpD k1
      have hm1 : m + 1 ≤ MANY := by show m + 1 ≤ 1000000000; omega
      have hm2 : m + 1 + 1 ≤ MANY := by show m + 1 + 1 ≤ 1000000000; omega
      walk_at "go"
      refine ite2 (fun hc => ?_) (fun hc => ?_)
      · -- a number
        walk_at "go"
        intro r3 H2 r30 r31 D2 k2
        walk_at "go"
        intro l H3 hl e3
        have k3 := new_kp hl e3
        have a3 := new_at e3
        have D3 := D2.kp0 k3
        have off3 := D2.off hl
        walk_at "go"
        intro x H4 hx D4 k4
        have hx2 : x ∈ ([0, 1, 2, -1, 3, -5, 99, -99, r3 - 99] : List Int).map V.int := hx
        obtain ⟨i, rfl, i0, i1⟩ := mem_ints (P := fun i => -99 ≤ i ∧ i ≤ 99) hx2 (by
          intro i hi
          simp only [List.mem_cons, List.not_mem_nil, or_false] at hi
          omega)
        exact q _ (.num i) H4 (m + 1 + 1 + 1) mk_int ⟨i0, i1⟩ trivial h1 (by omega) (by omega) D4 (((k1.trans k2).step0 k3).trans k4)
      · have hc1 : ¬ r = 0 := fun z => of_decide_eq_false (Bool.eq_false_iff.mpr hc) (congrArg V.int z)
        walk_at "go"
        refine ite2 (fun hd => ?_) (fun hd => ?_)
        · -- a name
          have nl := hN.len
          have hl0 : 0 < (names.map V.str).length := by rw [List.length_map]; omega
          have hl1 : (names.map V.str).length ≤ 1000000 := by rw [List.length_map]; omega
          have nmat := hN1.at_
          have nmoff := hN1.off
          walk_at "go"
          intro x H2 hx D2 k2
          obtain ⟨y, hy, rfl⟩ := List.mem_map.mp hx
          exact q _ (.var y) H2 (m + 1 + 1) mk_str (hN.oks y hy) hy h1 (by omega) (by omega) D2 (k1.trans k2)
        · have hd1 : ¬ r < 4 := of_decide_eq_false (Bool.eq_false_iff.mpr hd)
          have hdp : 1 < deep := Decidable.byContradiction fun z => hd1 (r2 (by omega))
          have d0 : 1 ≤ deep - 1 := by omega
          have d1 : deep - 1 ≤ (n : Int) := by omega
          have d2 : n ≤ 3 := by omega
          walk_at "go"
          refine ite2 (fun he => ?_) (fun he => ?_)
          · -- times
            walk_at "go"
            intro l H2 hl e2
            have k2 := new_kp hl e2
            have a2 := new_at e2
            have D2 := D1.kp0 k2
            have off2 := D1.off hl
            walk_at "go"
            intro x H3 hx D3 k3
            have hx2 : x ∈ ([-9, -3, -2, -1, 0, 2, 3, 9] : List Int).map V.int := hx
            obtain ⟨i, rfl, i0, i1⟩ := mem_ints (P := fun i => -9 ≤ i ∧ i ≤ 9) hx2 (by
              intro i hi
              simp only [List.mem_cons, List.not_mem_nil, or_false] at hi
              omega)
            have hN3 := (hN1.kp0 k2).kpD k3
            have hm3 : m + 1 + 1 + costE n ≤ 900000000 := by omega
            walk_at "go"
            intro v e H4 m4 t4 o4 n4 p4 ml4 mu4 D4 k4
            walk_at "go"
            intro r5 H5 hr5 e5
            have k5 := new_kp hr5 e5
            exact q _ (.times i e) H5 m4 (mk_tup (new_at e5) (trs_cons mk_str (trs_cons mk_int (trs_cons (k5.tr t4) trs_nil)))) ⟨i0, i1, o4⟩ n4 (by show ((e.deep + 1 : Nat) : Int) ≤ deep; omega) (by omega) (by omega) (D4.kp0 k5) ((((k1.step0 k2).trans k3).trans k4).step0 k5)
          · -- plus, minus
            have hm3 : m + 1 + costE n ≤ 900000000 := by omega
            walk_at "go"
            intro v2 e2 H2 m2 t2 o2 n2 p2 ml2 mu2 D2 k2
            walk_at "go"
            intro l H3 hl e3
            have k3 := new_kp hl e3
            have a3 := new_at e3
            have D3 := D2.kp0 k3
            have hN3 := (hN1.kpD k2).kp0 k3
            have hm4 : m2 + costE n ≤ 900000000 := by omega
            obtain ⟨wd, hwd, wm⟩ : ∃ wd, atI [V.str "plus", V.str "minus"] (r.fmod 2) = some (.str wd) ∧ (wd = "plus" ∨ wd = "minus") := by
              have : r = 4 ∨ r = 5 ∨ r = 6 := by omega
              rcases this with rfl | rfl | rfl
              · exact ⟨"plus", rfl, .inl rfl⟩
              · exact ⟨"minus", rfl, .inr rfl⟩
              · exact ⟨"plus", rfl, .inl rfl⟩
            walk_at "go"
            intro v4 e4 H4 m4 t4 o4 n4 p4 ml4 mu4 D4 k4
            walk_at "go"
            intro r5 H5 hr5 e5
            have k5 := new_kp hr5 e5
            have kk := (((((k1.trans k2).step0 k3).trans k4).step0 k5))
            rcases wm with rfl | rfl
            · exact q _ (.plus e2 e4) H5 m4 (mk_tup (new_at e5) (trs_cons mk_str (trs_cons (k5.tr (k4.tr (k3.tr t2))) (trs_cons (k5.tr t4) trs_nil)))) ⟨o2, o4⟩ ⟨n2, n4⟩ (by show ((max e2.deep e4.deep + 1 : Nat) : Int) ≤ deep; omega) (by omega) (by omega) (D4.kp0 k5) kk
            · exact q _ (.minus e2 e4) H5 m4 (mk_tup (new_at e5) (trs_cons mk_str (trs_cons (k5.tr (k4.tr (k3.tr t2))) (trs_cons (k5.tr t4) trs_nil)))) ⟨o2, o4⟩ ⟨n2, n4⟩ (by show ((max e2.deep e4.deep + 1 : Nat) : Int) ≤ deep; omega) (by omega) (by omega) (D4.kp0 k5) kk
end
end EH
namespace EH
open PySem L2
local macro_rules | `(tactic| walk_at "sd") => `(tactic| first | assumption | ((with_reducible show (_ : Int) ≤ _); omega) | ((with_reducible show (_ : Int) < _); omega) | rfl | exact SqL.of (by assumption) | exact SqT.of (by assumption) | exact atI_nat (j := 0) rfl | exact atI_nat (j := 1) rfl | exact atI_nat (j := 2) rfl | exact atI_nat (j := 3) rfl | exact sz_lit rfl | exact lt_lit rfl | exact pos_lit rfl | exact le_lit rfl | exact Or.inl (SqL.of (by assumption)) | exact ⟨_, SqL.of (by assumption)⟩ | exact ⟨_, SqT.of (by assumption)⟩ | exact Or.inr (SqT.of (by assumption)) | exact ClsV.ty _ | exact TyX.base (TyOf.int _) | exact TyX.base (TyOf.str _) | exact TyX.base (TyOf.tup (by assumption)) | exact kit_ty isi_ss | exact kit_ty isi_is | exact kit_ty isi_ts | exact kit_ty isi_si | exact kit_ty isi_ii | exact kit_ty isi_ti | exact kit_ty isi_st | exact kit_ty isi_it | exact kit_ty isi_tt | exact Or.inl ⟨_, Or.inl (by assumption)⟩ | exact DGet.k (k := Sum.inr _) (by assumption) | exact DGet.k (k := Sum.inl _) (by assumption) | (refine cpow_of ?_; decide) | (refine cmul_of ?_; decide) | (show (_ : Int) ≠ 0; first | decide | omega) | (refine cdivn_of ?_; decide) | exact Or.inl ⟨rfl, _, SqL.of (by assumption)⟩ | omega)
local macro_rules | `(tactic| walk_at "st") => `(tactic| first | (apply Exists.intro) | (refine And.intro ?_ ?_; focus (walk_at "sd")) | (apply Or.inl; apply Exists.intro; refine And.intro ?_ ?_; focus rfl) | (apply Or.inr; apply Exists.intro; refine And.intro ?_ ?_; focus rfl))
local macro_rules | `(tactic| walk_at "go") => `(tactic| repeat (walk_at "st"))
section
variable {P : Program} {w : World} {K : PySem.W.Frag} {mg : Str → Option Value} {base : Heap}
theorem ok_l_plain (T : Top K mg) {k : Nat} : FnOk P w K mg base CX0 (k + 6) T.l_plain.f T.l_plain.fd ["_law_deck_here", "_law_names_here", "_law_left", "_law_times"] spPlain := by
  have G_l_draw : FnOk P w K mg base CX0 1 T.l_draw.f T.l_draw.fd ["_law_deck_here", "_law_many"] spDraw := ok_l_draw T
  have G_l_one : FnOk P w K mg base CX0 2 T.l_one.f T.l_one.fd ["_law_deck_here", "_law_items"] (spOne K) := ok_l_one T
  have G_l_expression : FnOk P w K mg base CX0 5 T.l_expression.f T.l_expression.fd ["_law_deck_here", "_law_names_here", "_law_deep"] (spExpr 3) := ok_l_expression T 3
  refine T.l_plain.F.ok sc_l_plain (fun vs H Q E h => ?_) (fun cdv A outer s H vs Q E hr h => ?_)
  · obtain ⟨a, c, nm, lf, m, t, names, l, rfl, _⟩ := h
    rfl
  obtain ⟨a, c, nm, lf, m, t, names, l, rfl, g, hm, ln, ht, q⟩ := h
  refine ⟨_, (pss_cons (ps_par (i := 4) (j := 5) (by rfl) sc_l_plain.nd rfl rfl (by decide) rfl rfl (pa_cons (pe_call G_l_draw (hr.mono (by omega)) (by rfl) T.l_draw.g T.l_draw.F.kp T.l_draw.b .nil pass0 (pa_cons (pv 0) (pa_cons pe_int pa_nil))) (pa_cons (pe_call G_l_one (hr.mono (by omega)) (by rfl) T.l_one.g T.l_one.F.kp T.l_one.b .nil pass0 (pa_cons (pv 0) (pa_cons (pv 1) pa_nil))) pa_nil)) (by rfl))
      (pss_cutA (ps_if (PW.pt (pw_and (pt_cmpR op_lt (pv 4) pe_int (nomark _)) (pw_and1 (pt_cmpR op_ge (pe_ix (ix_listK (K := K) rfl) (pv 2) pe_int (fun _ _ => rfl)) (pv 3) (nomark _))))) (pss_cons (ps_asg (pe_op op_sub (pe_ix (ix_listK (K := K) rfl) (pv 2) pe_int (fun _ _ => rfl)) (pv 3)) (pg_sub (pv 2) pe_int set_listA))
      (pss_one (ps_ret (pe_tupA (pa_cons pe_str (pa_cons (pv 5) (pa_cons (pe_call G_l_expression (hr.mono (by omega)) (by rfl) T.l_expression.g T.l_expression.F.kp T.l_expression.b .nil pass0 (pa_cons (pv 0) (pa_cons (pv 1) (pa_cons pe_int pa_nil)))) pa_nil))))))) pss_nil)
      (pss_cons (ps_if (pt_cmpR op_lt (pv 4) pe_int (nomark _)) (pss_one (ps_ret (pe_tupA (pa_cons pe_str (pa_cons (pv 5) (pa_cons (pe_call G_l_expression (hr.mono (by omega)) (by rfl) T.l_expression.g T.l_expression.F.kp T.l_expression.b .nil pass0 (pa_cons (pv 0) (pa_cons (pv 1) (pa_cons pe_int pa_nil)))) pa_nil)))))) pss_nil)
      (pss_cons (ps_if (pt_cmpR op_eq (pv 4) pe_int (nomark _)) (pss_one (ps_ret (pe_tupA (pa_cons pe_str (pa_cons (pe_call G_l_one (hr.mono (by omega)) (by rfl) T.l_one.g T.l_one.F.kp T.l_one.b .nil pass0 (pa_cons (pv 0) (pa_cons (pe_lstA (pa_cons pe_str (pa_cons pe_str (pa_cons pe_str (pa_cons pe_str pa_nil))))) pa_nil))) pa_nil))))) pss_nil)
      (pss_cutA (ps_if (PW.pt (pw_and (pt_cmpR op_eq (pv 4) pe_int (nomark _)) (pw_and1 (pt_cmpR op_eq (pe_call G_l_draw (hr.mono (by omega)) (by rfl) T.l_draw.g T.l_draw.F.kp T.l_draw.b .nil pass0 (pa_cons (pv 0) (pa_cons pe_int pa_nil))) pe_int (nomark _))))) (pss_one (ps_ret (pe_tupA (pa_cons pe_str (pa_cons (pe_call G_l_one (hr.mono (by omega)) (by rfl) T.l_one.g T.l_one.F.kp T.l_one.b .nil pass0 (pa_cons (pv 0) (pa_cons (pe_lstA (pa_cons pe_str (pa_cons pe_str (pa_cons pe_str pa_nil)))) pa_nil))) pa_nil))))) pss_nil)
      (pss_one (ps_ret (pe_tupA (pa_cons pe_str (pa_cons (pe_call G_l_expression (hr.mono (by omega)) (by rfl) T.l_expression.g T.l_expression.F.kp T.l_expression.b .nil pass0 (pa_cons (pv 0) (pa_cons (pv 1) (pa_cons pe_int pa_nil)))) pa_nil)))))))))), ?_⟩
  have hm0 : m ≤ MANY := by show m ≤ 1000000000; omega
  have hm1 : m + 1 ≤ MANY := by show m + 1 ≤ 1000000000; omega
  have hm2 : m + 1 + 1 ≤ MANY := by show m + 1 + 1 ≤ 1000000000; omega
  have ce : costE 3 = 21 := by decide
  have dk := g.dk
  obtain ⟨ln1, ln2, ln3, ln4⟩ := ln
  walk_at "go"
  intro r H1 r0 r1 D1 k1
  have nm1 := g.nms.kpD k1
  have nmat := nm1.at_
  have nmoff := nm1.off
  have nl := nm1.len
  have hl0 : 0 < (names.map V.str).length := by rw [List.length_map]; omega
  have hl1 : (names.map V.str).length ≤ 1000000 := by rw [List.length_map]; omega
  walk_at "go"
  intro x H2 hx D2 k2
  obtain ⟨y, hy, rfl⟩ := List.mem_map.mp hx
  have yok := nm1.oks y hy
  have g2 := g.drawn D2 (k1.trans k2)
  have lf2 := g2.lft
  have nms2 := g2.nms
  have k12 := k1.trans k2
  have sub : ∀ b, b ∈ [a, c] → b ∈ [a, c, lf] := by
    intro b hb
    simp only [List.mem_cons, List.not_mem_nil, or_false] at hb ⊢
    rcases hb with h | h
    · exact .inl h
    · exact .inr (.inl h)
  have hm3 : m + 1 + 1 + costE 3 ≤ 900000000 := by omega
  have fin : ∀ (v : V) (s : Sm) (H3 : Hp) (m3 : Int), Tr H3 s.d v → s.ok → s.inN names → s.plain → s.hv = 0 → m + 1 + 1 ≤ m3 → m3 ≤ m + 50 → Deck H3 a c m3 → Kp [a, c] H2 H3 → Q v H3 := by
    intro v s H3 m3 t3 o3 n3 p3 z3 l3 u3 D3 k3
    exact q v s H3 m3 l t3 o3 n3 p3 (by rw [z3]; simp) ⟨ln1, ln2, ln3, ln4⟩ rfl rfl (Int.le_refl _) rfl (by omega) u3 (g2.drawn D3 k3) ((k12.trans k3).sub sub)
  walk_at "go"
  refine ⟨⟨fun σ3 H3 => Lp (σ3 = [some (.ref a), some (.ref nm), some (.ref lf), some (.int t), some (.int r), some (.str y)] ∧ H3 = H2), ?_, ?_⟩⟩
  · walk_at "go"
    refine ite2 (fun hc => ?_) (fun hc => ⟨rfl, rfl⟩)
    walk_at "go"
    refine ite2 (fun hd => ?_) (fun hd => ⟨rfl, rfl⟩)
    have hd1 : t ≤ l.h := of_decide_eq_true hd
    walk_at "go"
    intro H3 g3 k3
    replace g3 : H3 lf = some (.lst (Lf.vs ⟨l.p, l.w, l.h - t, l.c⟩)) := g3
    have gs3 := g2.left g3 k3
    have dk3 := gs3.dk
    have nms3 := gs3.nms
    walk_at "go"
    intro v e H4 m4 t4 o4 n4 p4 ml4 mu4 D4 k4
    walk_at "go"
    intro r5 H5 hr5 e5
    have k5 := new_kp hr5 e5
    exact q _ (.half y e) H5 m4 ⟨l.p, l.w, l.h - t, l.c⟩ (mk_tup (new_at e5) (trs_cons mk_str (trs_cons mk_str (trs_cons (k5.tr t4) trs_nil)))) (by simp only [Sm.ok]; exact ⟨⟨o4, by omega⟩, yok⟩) (by simp only [Sm.inN]; exact ⟨n4, hy⟩) trivial (by simp only [Sm.hv]; omega) ⟨ln1, ln2, by show 0 ≤ l.h - t; omega, ln4⟩ rfl rfl (by show l.h - t ≤ l.h; omega) rfl (by omega) (by omega)
      ((gs3.drawn D4 k4).kp0 k5) (((((k12.sub sub).trans (k3.sub (by simp))).trans (k4.sub sub))).step0 k5)
  · rintro σ3 H3 ⟨⟨rfl, rfl⟩⟩
    walk_at "go"
    refine ite2 (fun hc => ?_) (fun hc => ?_)
    · walk_at "go"
      intro v e H4 m4 t4 o4 n4 p4 ml4 mu4 D4 k4
      walk_at "go"
      intro r5 H5 hr5 e5
      have k5 := new_kp hr5 e5
      exact fin _ (.set y e) H5 m4 (mk_tup (new_at e5) (trs_cons mk_str (trs_cons mk_str (trs_cons (k5.tr t4) trs_nil)))) (by simp only [Sm.ok]; exact ⟨⟨o4, by omega⟩, yok⟩) (by simp only [Sm.inN]; exact ⟨n4, hy⟩) trivial (by simp only [Sm.hv]) (by omega) (by omega) (D4.kp0 k5) (k4.step0 k5)
    · walk_at "go"
      refine ite2 (fun hd => ?_) (fun hd => ?_)
      · walk_at "go"
        intro l4 H4 hl4 e4
        have k4 := new_kp hl4 e4
        have a4 := new_at e4
        have D4 := D2.kp0 k4
        have off4 := D2.off hl4
        walk_at "go"
        intro z H5 hz D5 k5
        have hz2 : z ∈ (["go", "7", "half", "odd"] : List Str).map V.str := hz
        obtain ⟨zw, hzw, rfl⟩ := List.mem_map.mp hz2
        have zin : WdIn zw := by
          unfold WdIn
          simp only [List.mem_cons, List.not_mem_nil, or_false] at hzw ⊢
          rcases hzw with z | z | z | z <;> simp [z]
        have zok : PyData.strOk zw = true ∧ zw.length ≤ 20 := by
          simp only [List.mem_cons, List.not_mem_nil, or_false] at hzw
          rcases hzw with rfl | rfl | rfl | rfl <;> decide +kernel
        walk_at "go"
        intro r6 H6 hr6 e6
        have k6 := new_kp hr6 e6
        exact fin _ (.say zw) H6 (m + 1 + 1 + 1) (mk_tup (new_at e6) (trs_cons mk_str (trs_cons mk_str trs_nil))) (by simp only [Sm.ok]; exact zok) (by simp only [Sm.inN]; exact zin) trivial (by simp only [Sm.hv]) (by omega) (by omega) (D5.kp0 k6) (((k4.sub (by simp)).trans k5).step0 k6)
      · refine ⟨⟨fun σ4 H4 => Lp (σ4 = [some (.ref a), some (.ref nm), some (.ref lf), some (.int t), some (.int r), some (.str y)] ∧ ∃ m4, m + 1 + 1 ≤ m4 ∧ m4 ≤ m + 3 ∧ Deck H4 a c m4 ∧ Kp [a, c] H3 H4), ?_, ?_⟩⟩
        · walk_at "go"
          refine ite2 (fun he => ?_) (fun he => ⟨rfl, m + 1 + 1, by omega, by omega, D2, Kp.refl⟩)
          walk_at "go"
          intro r4 H4 r40 r41 D4 k4
          walk_at "go"
          refine ite2 (fun hf => ?_) (fun hf => ⟨rfl, m + 1 + 1 + 1, by omega, by omega, D4, k4⟩)
          have hm4 : m + 1 + 1 + 1 ≤ MANY := by show m + 1 + 1 + 1 ≤ 1000000000; omega
          walk_at "go"
          intro l5 H5 hl5 e5
          have k5 := new_kp hl5 e5
          have a5 := new_at e5
          have D5 := D4.kp0 k5
          have off5 := D4.off hl5
          walk_at "go"
          intro z H6 hz D6 k6
          have hz2 : z ∈ (["end", "0", "not"] : List Str).map V.str := hz
          obtain ⟨zw, hzw, rfl⟩ := List.mem_map.mp hz2
          have zin : WdIn zw := by
            unfold WdIn
            simp only [List.mem_cons, List.not_mem_nil, or_false] at hzw ⊢
            rcases hzw with z | z | z <;> simp [z]
          have zok : PyData.strOk zw = true ∧ zw.length ≤ 20 := by
            simp only [List.mem_cons, List.not_mem_nil, or_false] at hzw
            rcases hzw with rfl | rfl | rfl <;> decide +kernel
          walk_at "go"
          intro r7 H7 hr7 e7
          have k7 := new_kp hr7 e7
          exact fin _ (.stop zw) H7 (m + 1 + 1 + 1 + 1) (mk_tup (new_at e7) (trs_cons mk_str (trs_cons mk_str trs_nil))) (by simp only [Sm.ok]; exact zok) (by simp only [Sm.inN]; exact zin) trivial (by simp only [Sm.hv]) (by omega) (by omega) (D6.kp0 k7) (((k4.step0 k5).trans k6).step0 k7)
        · rintro σ4 H4 ⟨⟨rfl, m4, ml4, mu4, D4, k4⟩⟩
          have nms4 := nms2.kpD k4
          have hm4 : m4 + costE 3 ≤ 900000000 := by omega
          walk_at "go"
          intro v e H5 m5 t5 o5 n5 p5 ml5 mu5 D5 k5
          walk_at "go"
          intro r6 H6 hr6 e6
          have k6 := new_kp hr6 e6
          exact fin _ (.tell e) H6 m5 (mk_tup (new_at e6) (trs_cons mk_str (trs_cons (k6.tr t5) trs_nil))) (by simp only [Sm.ok]; exact ⟨o5, by omega⟩) (by simp only [Sm.inN]; exact n5) trivial (by simp only [Sm.hv]) (by omega) (by omega) (D5.kp0 k6) ((k4.trans k5).step0 k6)
end
end EH
namespace EH
open PySem L2
local macro_rules | `(tactic| walk_at "sd") => `(tactic| first | assumption | ((with_reducible show (_ : Int) ≤ _); omega) | ((with_reducible show (_ : Int) < _); omega) | rfl | exact SqL.of (by assumption) | exact SqT.of (by assumption) | exact atI_nat (j := 0) rfl | exact atI_nat (j := 1) rfl | exact atI_nat (j := 2) rfl | exact atI_nat (j := 3) rfl | exact sz_lit rfl | exact lt_lit rfl | exact pos_lit rfl | exact le_lit rfl | exact Or.inl (SqL.of (by assumption)) | exact ⟨_, SqL.of (by assumption)⟩ | exact ⟨_, SqT.of (by assumption)⟩ | exact Or.inr (SqT.of (by assumption)) | exact ClsV.ty _ | exact TyX.base (TyOf.int _) | exact TyX.base (TyOf.str _) | exact TyX.base (TyOf.tup (by assumption)) | exact kit_ty isi_ss | exact kit_ty isi_is | exact kit_ty isi_ts | exact kit_ty isi_si | exact kit_ty isi_ii | exact kit_ty isi_ti | exact kit_ty isi_st | exact kit_ty isi_it | exact kit_ty isi_tt | exact Or.inl ⟨_, Or.inl (by assumption)⟩ | exact DGet.k (k := Sum.inr _) (by assumption) | exact DGet.k (k := Sum.inl _) (by assumption) | (refine cpow_of ?_; decide) | (refine cmul_of ?_; decide) | (show (_ : Int) ≠ 0; first | decide | omega) | (refine cdivn_of ?_; decide) | exact Or.inl ⟨rfl, _, SqL.of (by assumption)⟩ | omega)
local macro_rules | `(tactic| walk_at "st") => `(tactic| first | (apply Exists.intro) | (refine And.intro ?_ ?_; focus (walk_at "sd")) | (apply Or.inl; apply Exists.intro; refine And.intro ?_ ?_; focus rfl) | (apply Or.inr; apply Exists.intro; refine And.intro ?_ ?_; focus rfl))
local macro_rules | `(tactic| walk_at "go") => `(tactic| repeat (walk_at "st"))
section
variable {P : Program} {w : World} {K : PySem.W.Frag} {mg : Str → Option Value} {base : Heap}
theorem ok_l_test (T : Top K mg) {k : Nat} : FnOk P w K mg base CX0 (k + 6) T.l_test.f T.l_test.fd ["_law_deck_here", "_law_names_here", "_law_left", "_law_times"] spTest := by
  have G_l_draw : FnOk P w K mg base CX0 1 T.l_draw.f T.l_draw.fd ["_law_deck_here", "_law_many"] spDraw := ok_l_draw T
  have G_l_expression : FnOk P w K mg base CX0 5 T.l_expression.f T.l_expression.fd ["_law_deck_here", "_law_names_here", "_law_deep"] (spExpr 3) := ok_l_expression T 3
  refine T.l_test.F.ok sc_l_test (fun vs H Q E h => ?_) (fun cdv A outer s H vs Q E hr h => ?_)
  · obtain ⟨a, c, nm, lf, m, t, names, l, rfl, _⟩ := h
    rfl
  obtain ⟨a, c, nm, lf, m, t, names, l, rfl, g, hm, ln, ht, q⟩ := h
  have hu64 := hr.units
  refine ⟨_, (pss_cons (ps_par (i := 4) (j := 5) (by rfl) sc_l_test.nd rfl rfl (by decide) rfl rfl (pa_cons (pe_op op_sub (pe_call G_l_draw (hr.mono (by omega)) (by rfl) T.l_draw.g T.l_draw.F.kp T.l_draw.b .nil pass0 (pa_cons (pv 0) (pa_cons pe_int pa_nil))) pe_int) (pa_cons (pe_tupA pa_nil) pa_nil)) (by rfl))
      (pss_cutA (ps_if (PW.pt (pw_and (pt_cmpR op_eq (pe_call G_l_draw (hr.mono (by omega)) (by rfl) T.l_draw.g T.l_draw.F.kp T.l_draw.b .nil pass0 (pa_cons (pv 0) (pa_cons pe_int pa_nil))) pe_int (nomark _)) (pw_and1 (pt_cmpR op_ge (pe_ix (ix_listK (K := K) rfl) (pv 2) pe_int (fun _ _ => rfl)) (pv 3) (nomark _))))) (pss_cons (ps_asg (pe_op op_sub (pe_ix (ix_listK (K := K) rfl) (pv 2) pe_int (fun _ _ => rfl)) (pv 3)) (pg_sub (pv 2) pe_int set_listA))
      (pss_one (ps_set (i := 5) sc_l_test.nd rfl (.inl rfl) (pe_tupA (pa_cons pe_str (pa_cons (pe_call G_l_expression (hr.mono (by omega)) (by rfl) T.l_expression.g T.l_expression.F.kp T.l_expression.b .nil pass0 (pa_cons (pv 0) (pa_cons (pv 1) (pa_cons pe_int pa_nil)))) pa_nil)))))) (pss_one (ps_if (pt_cmpR op_ge (pe_ix (ix_listK (K := K) rfl) (pv 2) pe_int (fun _ _ => rfl)) (pv 3) (nomark _)) (pss_cons (ps_asg (pe_op op_sub (pe_ix (ix_listK (K := K) rfl) (pv 2) pe_int (fun _ _ => rfl)) (pv 3)) (pg_sub (pv 2) pe_int set_listA))
      (pss_one (ps_set (i := 5) sc_l_test.nd rfl (.inl rfl) (pe_tupA (pa_cons pe_str (pa_cons (pe_call G_l_expression (hr.mono (by omega)) (by rfl) T.l_expression.g T.l_expression.F.kp T.l_expression.b .nil pass0 (pa_cons (pv 0) (pa_cons (pv 1) (pa_cons pe_int pa_nil)))) (pa_cons (pe_call G_l_expression (hr.mono (by omega)) (by rfl) T.l_expression.g T.l_expression.F.kp T.l_expression.b .nil pass0 (pa_cons (pv 0) (pa_cons (pv 1) (pa_cons pe_int pa_nil)))) pa_nil))))))) pss_nil)))
      (pss_cons (ps_forA (ps_for PassesOwn.never rfl (pi_range1 (by rfl) T.range (pa_cons (pe_ifExp (pt_cmpR (op_neT hu64) (pv 5) (pe_tupA pa_nil) (nomark _)) (pe_callB (id := "max") (call_max2 rfl) (by rfl) T.max (by decide +kernel) (pa_cons pe_int (pa_cons (pv 4) pa_nil))) pe_int) pa_nil)) (pg_name (i := 6) sc_l_test.nd rfl (.inl rfl)) (pss_one (ps_set (i := 5) sc_l_test.nd rfl (.inl rfl) (pe_tupA (pa_cons pe_str (pa_cons (pv 5) pa_nil)))))))
      (pss_one (ps_ret (pv 5)))))), ?_⟩
  have hm0 : m ≤ MANY := by show m ≤ 1000000000; omega
  have hm1 : m + 1 ≤ MANY := by show m + 1 ≤ 1000000000; omega
  have ce : costE 3 = 21 := by decide
  have dk := g.dk
  obtain ⟨ln1, ln2, ln3, ln4⟩ := ln
  have sub : ∀ b, b ∈ [a, c] → b ∈ [a, c, lf] := by
    intro b hb
    simp only [List.mem_cons, List.not_mem_nil, or_false] at hb ⊢
    rcases hb with h | h
    · exact .inl h
    · exact .inr (.inl h)
  walk_at "go"
  intro r H1 r0 r1 D1 k1
  walk_at "go"
  intro u0 H2 hu0 e2
  have k2 := new_kp hu0 e2
  have a2 := new_at e2
  have D2 := D1.kp0 k2
  have g2 := g.drawn D2 (k1.step0 k2)
  have k12 : Kp [a, c, lf] H H2 := (k1.sub sub).step0 k2
  walk_at "go"
  refine ⟨⟨fun σ3 H3 => Lp (∃ (tv : V) (o : Option Ts) (m3 : Int) (l3 : Lf), σ3 = [some (.ref a), some (.ref nm), some (.ref lf), some (.int t), some (.int (r - 2)), some tv, none] ∧ Tr H3 (tD o) tv ∧
    (∀ s, o = some s → (s.ok ∧ s.inN names) ∧ s.nots = 0 ∧ t * (if s.isOdd then 1 else 0) ≤ l.h - l3.h ∧ t * (if s.isOdd then 0 else 1) ≤ l.c - l3.c) ∧ l3.nn ∧ l3.p = l.p ∧ l3.w = l.w ∧ l3.h ≤ l.h ∧ l3.c ≤ l.c ∧ m + 1 ≤ m3 ∧ m3 ≤ m + 50 ∧ Gs H3 a c nm lf m3 names l3 ∧ Kp [a, c, lf] H H3), ?_, ?_⟩⟩
  · walk_at "go"
    intro r3 H3 r30 r31 D3 k3
    have g3 := g2.drawn D3 k3
    have lf3 := g3.lft
    have nms3 := g3.nms
    have k13 := k12.trans (k3.sub sub)
    have hm3 : m + 1 + 1 + costE 3 ≤ 900000000 := by omega
    walk_at "go"
    refine ite2 (fun hc => ?_) (fun hc => ?_)
    · walk_at "go"
      refine ite2 (fun hd => ?_) (fun hd => ?_)
      · have hd1 : t ≤ l.h := of_decide_eq_true hd
        walk_at "go"
        intro H4 g4 k4
        replace g4 : H4 lf = some (.lst (Lf.vs ⟨l.p, l.w, l.h - t, l.c⟩)) := g4
        have gs4 := g3.left g4 k4
        have dk4 := gs4.dk
        have nms4 := gs4.nms
        walk_at "go"
        intro v e H5 m5 t5 o5 n5 p5 ml5 mu5 D5 k5
        walk_at "go"
        intro r6 H6 hr6 e6
        have k6 := new_kp hr6 e6
        refine ⟨_, some (.odd e), m5, ⟨l.p, l.w, l.h - t, l.c⟩, rfl, mk_tup (new_at e6) (trs_cons mk_str (trs_cons (k6.tr t5) trs_nil)), ?_, ⟨ln1, ln2, by show 0 ≤ l.h - t; omega, ln4⟩, rfl, rfl, by show l.h - t ≤ l.h; omega, Int.le_refl _, by omega, by omega, (gs4.drawn D5 k5).kp0 k6, ((k13.trans (k4.sub (by simp))).trans (k5.sub sub)).step0 k6⟩
        rintro s ⟨⟩
        refine ⟨⟨⟨o5, by omega⟩, n5⟩, rfl, ?_, ?_⟩
        · show t * 1 ≤ l.h - (l.h - t)
          omega
        · show t * 0 ≤ l.c - l.c
          omega
      · walk_at "go"
        refine ite2 (fun he => ?_) (fun he => ?_)
        · have he1 : t ≤ l.c := of_decide_eq_true he
          walk_at "go"
          intro H4 g4 k4
          replace g4 : H4 lf = some (.lst (Lf.vs ⟨l.p, l.w, l.h, l.c - t⟩)) := g4
          have gs4 := g3.left g4 k4
          have dk4 := gs4.dk
          have nms4 := gs4.nms
          walk_at "go"
          intro v5 e5 H5 m5 t5 o5 n5 p5 ml5 mu5 D5 k5
          have nms5 := nms4.kpD k5
          have hm5 : m5 + costE 3 ≤ 900000000 := by omega
          walk_at "go"
          intro v6 e6 H6 m6 t6 o6 n6 p6 ml6 mu6 D6 k6
          walk_at "go"
          intro r7 H7 hr7 e7
          have k7 := new_kp hr7 e7
          refine ⟨_, some (.less e5 e6), m6, ⟨l.p, l.w, l.h, l.c - t⟩, rfl, mk_tup (new_at e7) (trs_cons mk_str (trs_cons (k7.tr (k6.tr t5)) (trs_cons (k7.tr t6) trs_nil))), ?_, ⟨ln1, ln2, ln3, by show 0 ≤ l.c - t; omega⟩, rfl, rfl, Int.le_refl _, by show l.c - t ≤ l.c; omega, by omega, by omega, (gs4.drawn D6 (k5.trans k6)).kp0 k7, (((k13.trans (k4.sub (by simp))).trans (k5.sub sub)).trans (k6.sub sub)).step0 k7⟩
          rintro s ⟨⟩
          refine ⟨⟨⟨⟨o5, by omega⟩, o6, by omega⟩, n5, n6⟩, rfl, ?_, ?_⟩
          · show t * 0 ≤ l.h - l.h
            omega
          · show t * 1 ≤ l.c - (l.c - t)
            omega
        · exact ⟨_, none, m + 1 + 1, l, rfl, mk_tup (k3.tup _ _ a2) trs_nil, (fun s z => nomatch z), ⟨ln1, ln2, ln3, ln4⟩, rfl, rfl, Int.le_refl _, Int.le_refl _, by omega, by omega, g3, k13⟩
    · walk_at "go"
      refine ite2 (fun he => ?_) (fun he => ?_)
      · have he1 : t ≤ l.c := of_decide_eq_true he
        walk_at "go"
        intro H4 g4 k4
        replace g4 : H4 lf = some (.lst (Lf.vs ⟨l.p, l.w, l.h, l.c - t⟩)) := g4
        have gs4 := g3.left g4 k4
        have dk4 := gs4.dk
        have nms4 := gs4.nms
        walk_at "go"
        intro v5 e5 H5 m5 t5 o5 n5 p5 ml5 mu5 D5 k5
        have nms5 := nms4.kpD k5
        have hm5 : m5 + costE 3 ≤ 900000000 := by omega
        walk_at "go"
        intro v6 e6 H6 m6 t6 o6 n6 p6 ml6 mu6 D6 k6
        walk_at "go"
        intro r7 H7 hr7 e7
        have k7 := new_kp hr7 e7
        refine ⟨_, some (.less e5 e6), m6, ⟨l.p, l.w, l.h, l.c - t⟩, rfl, mk_tup (new_at e7) (trs_cons mk_str (trs_cons (k7.tr (k6.tr t5)) (trs_cons (k7.tr t6) trs_nil))), ?_, ⟨ln1, ln2, ln3, by show 0 ≤ l.c - t; omega⟩, rfl, rfl, Int.le_refl _, by show l.c - t ≤ l.c; omega, by omega, by omega, (gs4.drawn D6 (k5.trans k6)).kp0 k7, (((k13.trans (k4.sub (by simp))).trans (k5.sub sub)).trans (k6.sub sub)).step0 k7⟩
        rintro s ⟨⟩
        refine ⟨⟨⟨⟨o5, by omega⟩, o6, by omega⟩, n5, n6⟩, rfl, ?_, ?_⟩
        · show t * 0 ≤ l.h - l.h
          omega
        · show t * 1 ≤ l.c - (l.c - t)
          omega
      · exact ⟨_, none, m + 1 + 1, l, rfl, mk_tup (k3.tup _ _ a2) trs_nil, (fun s z => nomatch z), ⟨ln1, ln2, ln3, ln4⟩, rfl, rfl, Int.le_refl _, Int.le_refl _, by omega, by omega, g3, k13⟩
  · rintro σ3 H3 ⟨⟨tv, o, m3, l3, rfl, t3, ho, ln3', lp3, lw3, lh3, lc3, ml3, mu3, g3, k3⟩⟩
    walk_at "go"
    intro u4 H4 hu4 e4
    have k4 := new_kp hu4 e4
    have a4 := new_at e4
    have t4 := k4.tr t3
    have g4 := g3.kp0 k4
    have k34 := k3.step0 k4
    have tn4 : Tr H4 (.tuple []) (.ref u4) := mk_tup a4 trs_nil
    cases o with
    | none =>
      refine ⟨_, _, t4, tn4, shaped_nil, shaped_nil, _, rfl, ?_⟩
      have ee : (!PyData.eqv (tD none) (.tuple [])) = false := by simp [tD, PyData.eqv, PyData.eqvAll]
      rw [ee]
      refine iteF ?_
      refine ⟨0, rfl, by omega, by omega, ⟨for_range (lo := 0) (n := 0) (fun i σ H5 => Lp (∃ w6, σ = [some (.ref a), some (.ref nm), some (.ref lf), some (.int t), some (.int (r - 2)), some tv, w6] ∧ H5 = H4)) ⟨_, rfl, rfl⟩ (fun i σ H5 hi => absurd hi (Nat.not_lt_zero i)) ?_⟩⟩
      rintro σ H5 ⟨⟨w6, rfl, rfl⟩⟩
      walk_at "go"
      exact q tv none H5 m3 l3 t4 (fun s z => nomatch z) ln3' lp3 lw3 lh3 lc3 (by omega) mu3 g4 k34
    | some ts =>
      obtain ⟨⟨h1, hn1⟩, h2, h3, h4⟩ := ho ts rfl
      refine ⟨_, _, t4, tn4, Ts.shaped h1 (by omega), shaped_nil, _, rfl, ?_⟩
      have ee : (!PyData.eqv (tD (some ts)) (.tuple [])) = true := by
        show (!PyData.eqv ts.d (.tuple [])) = true
        rw [Ts.ne0]
        rfl
      rw [ee]
      refine iteT ?_
      have ex : ∃ j : Nat, (if r - 2 > 0 then r - 2 else 0) = (j : Int) ∧ j ≤ 2 := by
        split
        · exact ⟨(r - 2).toNat, by omega, by omega⟩
        · exact ⟨0, rfl, by omega⟩
      obtain ⟨j, ej, hj⟩ := ex
      refine ⟨_, rfl, 0, r - 2, rfl, ?_⟩
      show ∃ i, _
      rw [ej]
      refine ⟨(j : Int), rfl, by omega, by omega, ⟨for_range (lo := 0) (n := j) (fun i σ H5 => Lp (∃ (v5 : V) (w6 : Option V), σ = [some (.ref a), some (.ref nm), some (.ref lf), some (.int t), some (.int (r - 2)), some v5, w6] ∧ Tr H5 (notN i ts).d v5 ∧ Gs H5 a c nm lf m3 names l3 ∧ Kp [a, c, lf] H H5)) ⟨tv, _, rfl, t4, g4, k34⟩ ?_ ?_⟩⟩
      · rintro i σ H5 hi ⟨⟨v5, w6, rfl, t5, g5, k5⟩⟩
        walk_at "go"
        intro r6 H6 hr6 e6
        have k6 := new_kp hr6 e6
        exact ⟨_, _, rfl, mk_tup (new_at e6) (trs_cons mk_str (trs_cons (k6.tr t5) trs_nil)), g5.kp0 k6, k5.step0 k6⟩
      · rintro σ H5 ⟨⟨v5, w6, rfl, t5, g5, k5⟩⟩
        walk_at "go"
        refine q v5 (some (notN j ts)) H5 m3 l3 t5 ?_ ln3' lp3 lw3 lh3 lc3 (by omega) mu3 g5 k5
        rintro s ⟨⟩
        rw [notN_nots, notN_odd]
        exact ⟨⟨notN_ok h1 j, notN_in hn1 j⟩, by omega, h3, h4⟩
end
end EH
namespace EH
open PySem L2
local macro_rules | `(tactic| walk_at "sd") => `(tactic| first | assumption | ((with_reducible show (_ : Int) ≤ _); omega) | ((with_reducible show (_ : Int) < _); omega) | rfl | exact SqL.of (by assumption) | exact SqT.of (by assumption) | exact atI_nat (j := 0) rfl | exact atI_nat (j := 1) rfl | exact atI_nat (j := 2) rfl | exact atI_nat (j := 3) rfl | exact sz_lit rfl | exact lt_lit rfl | exact pos_lit rfl | exact le_lit rfl | exact Or.inl (SqL.of (by assumption)) | exact ⟨_, SqL.of (by assumption)⟩ | exact ⟨_, SqT.of (by assumption)⟩ | exact Or.inr (SqT.of (by assumption)) | exact ClsV.ty _ | exact TyX.base (TyOf.int _) | exact TyX.base (TyOf.str _) | exact TyX.base (TyOf.tup (by assumption)) | exact kit_ty isi_ss | exact kit_ty isi_is | exact kit_ty isi_ts | exact kit_ty isi_si | exact kit_ty isi_ii | exact kit_ty isi_ti | exact kit_ty isi_st | exact kit_ty isi_it | exact kit_ty isi_tt | exact Or.inl ⟨_, Or.inl (by assumption)⟩ | exact DGet.k (k := Sum.inr _) (by assumption) | exact DGet.k (k := Sum.inl _) (by assumption) | (refine cpow_of ?_; decide) | (refine cmul_of ?_; decide) | (show (_ : Int) ≠ 0; first | decide | omega) | (refine cdivn_of ?_; decide) | exact Or.inl ⟨rfl, _, SqL.of (by assumption)⟩ | omega)
local macro_rules | `(tactic| walk_at "st") => `(tactic| first | (apply Exists.intro) | (refine And.intro ?_ ?_; focus (walk_at "sd")) | (apply Or.inl; apply Exists.intro; refine And.intro ?_ ?_; focus rfl) | (apply Or.inr; apply Exists.intro; refine And.intro ?_ ?_; focus rfl))
local macro_rules | `(tactic| walk_at "go") => `(tactic| repeat (walk_at "st"))
section
variable {P : Program} {w : World} {K : PySem.W.Frag} {mg : Str → Option Value} {base : Heap}
theorem ok_l_row (T : Top K mg) {k : Nat} (G_l_block : FnOk P w K mg base CX0 (2 * k + 7) T.l_block.f T.l_block.fd ["_law_deck_here", "_law_names_here", "_law_left", "_law_times", "_law_depth"] (spBlock k)) :
    FnOk P w K mg base CX0 (2 * k + 8) T.l_row.f T.l_row.fd ["_law_deck_here", "_law_names_here", "_law_left", "_law_times", "_law_depth"] (spRow k) := by
  have G_l_draw : FnOk P w K mg base CX0 1 T.l_draw.f T.l_draw.fd ["_law_deck_here", "_law_many"] spDraw := ok_l_draw T
  have G_l_one : FnOk P w K mg base CX0 2 T.l_one.f T.l_one.fd ["_law_deck_here", "_law_items"] (spOne K) := ok_l_one T
  have G_l_test : FnOk P w K mg base CX0 6 T.l_test.f T.l_test.fd ["_law_deck_here", "_law_names_here", "_law_left", "_law_times"] spTest := ok_l_test T
  have G_l_plain : FnOk P w K mg base CX0 6 T.l_plain.f T.l_plain.fd ["_law_deck_here", "_law_names_here", "_law_left", "_law_times"] spPlain := ok_l_plain T
  refine T.l_row.F.ok sc_l_row (fun vs H Q E h => ?_) (fun cdv A outer s H vs Q E hr h => ?_)
  · obtain ⟨a, c, nm, lf, m, t, depth, names, l, rfl, _⟩ := h
    rfl
  obtain ⟨a, c, nm, lf, m, t, depth, names, l, rfl, g, hm, ln, ht, hd, hd0, q⟩ := h
  have hu64 := hr.units
  refine ⟨_, (pss_cutA (ps_if (PW.pt (pw_or (pt_cmpR op_lt (pe_ix (ix_listK (K := K) rfl) (pv 2) pe_int (fun _ _ => rfl)) pe_int (nomark _)) (pw_or1 (pt_cmpR op_lt (pe_ix (ix_listK (K := K) rfl) (pv 2) pe_int (fun _ _ => rfl)) (pv 3) (nomark _))))) (pss_one (ps_ret (pe_tupA pa_nil))) pss_nil)
      (pss_cons (ps_asg (pe_tupA (pa_cons (pe_op op_sub (pe_ix (ix_listK (K := K) rfl) (pv 2) pe_int (fun _ _ => rfl)) pe_int) (pa_cons (pe_op op_sub (pe_ix (ix_listK (K := K) rfl) (pv 2) pe_int (fun _ _ => rfl)) (pv 3)) pa_nil))) (pg_tup (by rfl) (pgs_cons (pg_sub (pv 2) pe_int set_listA) (pgs_cons (pg_sub (pv 2) pe_int set_listA) pgs_nil))))
      (pss_cons (ps_set (i := 5) sc_l_row.nd rfl (.inl rfl) (pe_call G_l_draw (hr.mono (by omega)) (by rfl) T.l_draw.g T.l_draw.F.kp T.l_draw.b .nil pass0 (pa_cons (pv 0) (pa_cons pe_int pa_nil))))
      (pss_cutA (ps_if (pt_cmpR op_eq (pv 5) pe_int (nomark _)) (pss_cons (ps_set (i := 6) sc_l_row.nd rfl (.inl rfl) (pe_call G_l_test (hr.mono (by omega)) (by rfl) T.l_test.g T.l_test.F.kp T.l_test.b .nil pass0 (pa_cons (pv 0) (pa_cons (pv 1) (pa_cons (pv 2) (pa_cons (pv 3) pa_nil))))))
      (pss_one (ps_if (pt_cmpR (op_neT hu64) (pv 6) (pe_tupA pa_nil) (nomark _)) (pss_cons (ps_set (i := 7) sc_l_row.nd rfl (.inl rfl) (pe_call G_l_block (hr.mono (by omega)) (by rfl) T.l_block.g T.l_block.F.kp T.l_block.b .nil pass0 (pa_cons (pv 0) (pa_cons (pv 1) (pa_cons (pv 2) (pa_cons (pv 3) (pa_cons (pe_op op_add (pv 4) pe_int) pa_nil)))))))
      (pss_cons (ps_set (i := 8) sc_l_row.nd rfl (.inl rfl) (pe_call G_l_block (hr.mono (by omega)) (by rfl) T.l_block.g T.l_block.F.kp T.l_block.b .nil pass0 (pa_cons (pv 0) (pa_cons (pv 1) (pa_cons (pv 2) (pa_cons (pv 3) (pa_cons (pe_op op_add (pv 4) pe_int) pa_nil)))))))
      (pss_one (ps_ret (pe_tupA (pa_cons pe_str (pa_cons (pv 6) (pa_cons (pv 7) (pa_cons (pv 8) pa_nil))))))))) pss_nil))) pss_nil)
      (pss_cons (ps_if (pt_cmpR op_eq (pv 5) pe_int (nomark _)) (pss_cons (ps_set (i := 9) sc_l_row.nd rfl (.inl rfl) (pe_call G_l_one (hr.mono (by omega)) (by rfl) T.l_one.g T.l_one.F.kp T.l_one.b .nil pass0 (pa_cons (pv 0) (pa_cons (pe_lstA (pa_cons pe_int (pa_cons pe_int (pa_cons pe_int (pa_cons pe_int (pa_cons pe_int (pa_cons pe_int (pa_cons pe_int pa_nil)))))))) pa_nil))))
      (pss_cons (ps_set (i := 10) sc_l_row.nd rfl (.inl rfl) (pe_call G_l_block (hr.mono (by omega)) (by rfl) T.l_block.g T.l_block.F.kp T.l_block.b .nil pass0 (pa_cons (pv 0) (pa_cons (pv 1) (pa_cons (pv 2) (pa_cons (pe_op op_mul (pv 3) (pv 9)) (pa_cons (pe_op op_add (pv 4) pe_int) pa_nil)))))))
      (pss_one (ps_ret (pe_tupA (pa_cons pe_str (pa_cons (pv 9) (pa_cons (pv 10) pa_nil)))))))) pss_nil)
      (pss_one (ps_ret (pe_call G_l_plain (hr.mono (by omega)) (by rfl) T.l_plain.g T.l_plain.F.kp T.l_plain.b .nil pass0 (pa_cons (pv 0) (pa_cons (pv 1) (pa_cons (pv 2) (pa_cons (pv 3) pa_nil)))))))))))), ?_⟩
  have cn := costB_nn k
  have cr : costR k = 110 + 2 * costB k := rfl
  have lf0 := g.lft
  have sub : ∀ b, b ∈ [a, c] → b ∈ [a, c, lf] := by
    intro b hb
    simp only [List.mem_cons, List.not_mem_nil, or_false] at hb ⊢
    rcases hb with h | h
    · exact .inl h
    · exact .inr (.inl h)
  -- nothing is left
  have out : ∀ (r : Addr) (H1 : Hp), H1 r = some (.tup []) → Kp [] H H1 → Q (.ref r) H1 := fun r H1 a1 k1 => q _ none H1 m l (mk_tup a1 trs_nil) (fun s z => nomatch z) (fun _ => rfl) ln (Int.le_refl _) (by omega) (g.kp0 k1) (k1.sub (by simp))
  refine ⟨⟨fun σ1 H1 => Lp (σ1 = [some (.ref a), some (.ref nm), some (.ref lf), some (.int t), some (.int depth), none, none, none, none, none, none] ∧ H1 = H ∧ 1 ≤ l.p ∧ t ≤ l.w), ?_, ?_⟩⟩
  · walk_at "go"
    refine ite2 (fun hc => ?_) (fun hc => ?_)
    · walk_at "go"
      intro r H1 hr1 e1
      exact out r H1 (new_at e1) (new_kp hr1 e1)
    · have hc1 : ¬ l.p < 1 := of_decide_eq_false (Bool.eq_false_iff.mpr hc)
      walk_at "go"
      refine ite2 (fun he => ?_) (fun he => ?_)
      · walk_at "go"
        intro r H1 hr1 e1
        exact out r H1 (new_at e1) (new_kp hr1 e1)
      · have he1 : ¬ l.w < t := of_decide_eq_false (Bool.eq_false_iff.mpr he)
        exact ⟨rfl, rfl, by omega, by omega⟩
  · rintro σ1 H1 ⟨⟨rfl, rfl, hp1, hw1⟩⟩
    obtain ⟨ln1, ln2, ln3, ln4⟩ := ln
    walk_at "go"
    intro u2 H2 hu2 e2
    have k2 := new_kp hu2 e2
    have a2 := new_at e2
    have g2 := g.kp0 k2
    have lf2 := g2.lft
    walk_at "go"
    intro H3 lf3 k3
    replace lf3 : H3 lf = some (.lst (Lf.vs ⟨l.p - 1, l.w, l.h, l.c⟩)) := lf3
    have g3 := g2.left lf3 k3
    walk_at "go"
    intro H4 lf4 k4
    replace lf4 : H4 lf = some (.lst (Lf.vs ⟨l.p - 1, l.w - t, l.h, l.c⟩)) := lf4
    have g4 := g3.left lf4 k4
    have k14 : Kp [a, c, lf] H1 H4 := ((k2.sub (by simp)).trans (k3.sub (by simp))).trans (k4.sub (by simp))
    have dk4 := g4.dk
    have hm4 : m ≤ MANY := by show m ≤ 1000000000; omega
    have took1 : Took t 1 1 0 0 l ⟨l.p - 1, l.w - t, l.h, l.c⟩ := ⟨by show ((1 : Nat) : Int) ≤ l.p - (l.p - 1); omega, by show t * ((1 : Nat) : Int) ≤ l.w - (l.w - t); omega, by simp, by simp⟩
    walk_at "go"
    intro r H5 r0 r1 D5 k5
    have g5 := g4.drawn D5 k5
    have k15 := k14.trans (k5.sub sub)
    have hm5 : m + 1 ≤ 800000000 := by omega
    walk_at "go"
    refine ⟨⟨fun σ6 H6 => Lp (∃ (w6 w7 w8 : Option V) (m6 : Int) (l6 : Lf), σ6 = [some (.ref a), some (.ref nm), some (.ref lf), some (.int t), some (.int depth), some (.int r), w6, w7, w8, none, none] ∧ Took t 1 1 0 0 l l6 ∧ l6.nn ∧ m + 1 ≤ m6 ∧ m6 ≤ m + 51 ∧ Gs H6 a c nm lf m6 names l6 ∧ Kp [a, c, lf] H1 H6), ?_, ?_⟩⟩
    · have ln5 : Lf.nn ⟨l.p - 1, l.w - t, l.h, l.c⟩ := ⟨by show 0 ≤ l.p - 1; omega, by show 0 ≤ l.w - t; omega, ln3, ln4⟩
      walk_at "go"
      refine ite2 (fun hc => ?_) (fun hc => ⟨_, _, _, m + 1, _, rfl, took1, ln5, by omega, by omega, g5, k15⟩)
      walk_at "go"
      intro v6 o6 H6 m6 l6 t6 h6 ln6 lp6 lw6 lh6 lc6 ml6 mu6 g6 k6
      have k16 := k15.trans k6
      walk_at "go"
      intro u7 H7 hu7 e7
      have k7 := new_kp hu7 e7
      have a7 := new_at e7
      have t7 := k7.tr t6
      have g7 := g6.kp0 k7
      have tn7 : Tr H7 (.tuple []) (.ref u7) := mk_tup a7 trs_nil
      cases o6 with
      | none =>
        refine ⟨_, _, t7, tn7, shaped_nil, shaped_nil, _, rfl, ?_⟩
        have ee : (!PyData.eqv (tD none) (.tuple [])) = false := by simp [tD, PyData.eqv, PyData.eqvAll]
        rw [ee]
        refine iteF ?_
        have tk : Took t 1 1 0 0 l l6 := by
          have h1 := took1.p
          have h2 := took1.w
          have lp6' : l6.p = l.p - 1 := lp6
          have lw6' : l6.w = l.w - t := lw6
          have lh6' : l6.h ≤ l.h := lh6
          have lc6' : l6.c ≤ l.c := lc6
          exact ⟨by rw [lp6']; exact h1, by rw [lw6']; exact h2, by simp; exact lh6', by simp; exact lc6'⟩
        exact ⟨_, _, _, m6, l6, rfl, tk, ln6, by omega, by omega, g7, k16.step0 k7⟩
      | some ts =>
        obtain ⟨⟨o1, n1⟩, o2, o3, o4⟩ := h6 ts rfl
        refine ⟨_, _, t7, tn7, Ts.shaped o1 o2, shaped_nil, _, rfl, ?_⟩
        have ee : (!PyData.eqv (tD (some ts)) (.tuple [])) = true := by
          show (!PyData.eqv ts.d (.tuple [])) = true
          rw [Ts.ne0]
          rfl
        rw [ee]
        refine iteT ?_
        have took2 : Took t 0 0 (if ts.isOdd then 1 else 0) (if ts.isOdd then 0 else 1) ⟨l.p - 1, l.w - t, l.h, l.c⟩ l6 := by
          have lp6' : l6.p = l.p - 1 := lp6
          have lw6' : l6.w = l.w - t := lw6
          refine ⟨?_, ?_, ?_, ?_⟩
          · show ((0 : Nat) : Int) ≤ l.p - 1 - l6.p
            omega
          · show t * ((0 : Nat) : Int) ≤ l.w - t - l6.w
            simp
            omega
          · cases hod : ts.isOdd <;> (rw [hod] at o3; simpa using o3)
          · cases hod : ts.isOdd <;> (rw [hod] at o4; simpa using o4)
        have dd1 : depth + 1 = 4 - (k : Int) := by omega
        have hm7 : m6 + costB k ≤ 700000000 := by omega
        walk_at "go"
        intro v8 b8 H8 m8 l8 t8 bo8 ln8 ml8 mu8 g8 k8
        have hm8 : m8 + costB k ≤ 700000000 := by omega
        walk_at "go"
        intro v9 b9 H9 m9 l9 t9 bo9 ln9 ml9 mu9 g9 k9
        walk_at "go"
        intro r10 H10 hr10 e10
        have k10 := new_kp hr10 e10
        refine q _ (some (.ite ts b8 b9)) H10 m9 l9 (mk_tup (new_at e10) (trs_cons mk_str (trs_cons (k10.tr (k9.tr (k8.tr t7))) (trs_cons (k10.tr (k9.tr t8)) (trs_cons (k10.tr t9) trs_nil))))) ?_ (fun z => nomatch z) ln9 (by omega) (by omega) (g9.kp0 k10) ((((k16.step0 k7).trans k8).trans k9).step0 k10)
        rintro s ⟨⟩
        refine ⟨by simp only [Sm.ok]; exact ⟨o1, o2, bo8.ok, bo9.ok⟩, by simp only [Sm.inN]; exact ⟨n1, bo8.inn, bo9.inn⟩, ?_, ((took1.add took2).add (bo8.took.add bo9.took)).of ?_ ?_ ?_ ?_⟩
        · have z8 := bo8.nest
          have z9 := bo9.nest
          simp only [Sm.nest]
          rcases z8 with rfl | z8 <;> rcases z9 with rfl | z9 <;> (try simp only [Sm.nests]) <;> omega
        · simp only [Sm.pl]
        · simp only [Sm.wt]
        · simp only [Sm.hv]; omega
        · simp only [Sm.cp]; omega
    · rintro σ6 H6 ⟨⟨w6, w7, w8, m6, l6, rfl, took6, ln6, ml6, mu6, g6, k6⟩⟩
      have dk6 := g6.dk
      have hm6 : m6 ≤ MANY := by show m6 ≤ 1000000000; omega
      have hm6' : m6 ≤ 800000000 := by omega
      walk_at "go"
      refine ite2 (fun hc => ?_) (fun hc => ?_)
      · walk_at "go"
        intro l7 H7 hl7 e7
        have k7 := new_kp hl7 e7
        have a7 := new_at e7
        have g7 := g6.kp0 k7
        have dk7 := g7.dk
        have off7 := dk6.off hl7
        walk_at "go"
        intro x H8 hx D8 k8
        have hx2 : x ∈ ([0, 1, 2, 2, 3, 5, 8] : List Int).map V.int := hx
        obtain ⟨i, rfl, i0, i1⟩ := mem_ints (P := fun i => 0 ≤ i ∧ i ≤ 8) hx2 (by
          intro i hi
          simp only [List.mem_cons, List.not_mem_nil, or_false] at hi
          omega)
        obtain ⟨n8, rfl⟩ : ∃ n8 : Nat, i = (n8 : Int) := ⟨i.toNat, by omega⟩
        have g8 := g7.drawn D8 k8
        have cm : CMul t (n8 : Int) := .inr ⟨by omega, by omega⟩
        have tn : 0 ≤ t * (n8 : Int) := Int.mul_nonneg ht i0
        have dd1 : depth + 1 = 4 - (k : Int) := by omega
        have hm8 : m6 + 1 + costB k ≤ 700000000 := by omega
        walk_at "go"
        intro v9 b9 H9 m9 l9 t9 bo9 ln9 ml9 mu9 g9 k9
        walk_at "go"
        intro r10 H10 hr10 e10
        have k10 := new_kp hr10 e10
        refine q _ (some (.rep n8 b9)) H10 m9 l9 (mk_tup (new_at e10) (trs_cons mk_str (trs_cons mk_int (trs_cons (k10.tr t9) trs_nil)))) ?_ (fun z => nomatch z) ln9 (by omega) (by omega) (g9.kp0 k10) ((((k6.step0 k7).trans (k8.sub sub)).trans k9).step0 k10)
        rintro s ⟨⟩
        refine ⟨by simp only [Sm.ok]; exact ⟨by omega, bo9.ok⟩, by simp only [Sm.inN]; exact bo9.inn, ?_, (took6.add bo9.took.rep).of ?_ ?_ ?_ ?_⟩
        · have z9 := bo9.nest
          simp only [Sm.nest]
          rcases z9 with rfl | z9
          · simp only [Sm.nests]; omega
          · omega
        · simp only [Sm.pl]
        · simp only [Sm.wt]
        · simp only [Sm.hv]; omega
        · simp only [Sm.cp]; omega
      · walk_at "go"
        intro v7 s7 H7 m7 l7 t7 o7 n7 p7 hv7 ln7 lp7 lw7 lh7 lc7 ml7 mu7 g7 k7
        refine q v7 (some s7) H7 m7 l7 t7 ?_ (fun z => nomatch z) ln7 (by omega) (by omega) g7 (k6.trans k7)
        rintro s ⟨⟩
        have tk7 : Took t 0 0 s7.hv 0 l6 l7 := ⟨by rw [lp7]; simp, by rw [lw7]; simp, hv7, by rw [lc7]; simp⟩
        have e1 : s7.pl = 1 := by cases s7 <;> first | rfl | exact absurd p7 id
        have e2 : s7.wt = 1 := by cases s7 <;> first | rfl | exact absurd p7 id
        have e3 : s7.cp = 0 := by cases s7 <;> first | rfl | exact absurd p7 id
        have e4 : s7.nest = 0 := by cases s7 <;> first | rfl | exact absurd p7 id
        exact ⟨o7, n7, by rw [e4]; simp; omega, (took6.add tk7).of e1.symm e2.symm (by omega) e3.symm⟩
end
end EH
namespace EH
open PySem L2
local macro_rules | `(tactic| walk_at "sd") => `(tactic| first | assumption | ((with_reducible show (_ : Int) ≤ _); omega) | ((with_reducible show (_ : Int) < _); omega) | rfl | exact SqL.of (by assumption) | exact SqT.of (by assumption) | exact atI_nat (j := 0) rfl | exact atI_nat (j := 1) rfl | exact atI_nat (j := 2) rfl | exact atI_nat (j := 3) rfl | exact sz_lit rfl | exact lt_lit rfl | exact pos_lit rfl | exact le_lit rfl | exact Or.inl (SqL.of (by assumption)) | exact ⟨_, SqL.of (by assumption)⟩ | exact ⟨_, SqT.of (by assumption)⟩ | exact Or.inr (SqT.of (by assumption)) | exact ClsV.ty _ | exact TyX.base (TyOf.int _) | exact TyX.base (TyOf.str _) | exact TyX.base (TyOf.tup (by assumption)) | exact kit_ty isi_ss | exact kit_ty isi_is | exact kit_ty isi_ts | exact kit_ty isi_si | exact kit_ty isi_ii | exact kit_ty isi_ti | exact kit_ty isi_st | exact kit_ty isi_it | exact kit_ty isi_tt | exact Or.inl ⟨_, Or.inl (by assumption)⟩ | exact DGet.k (k := Sum.inr _) (by assumption) | exact DGet.k (k := Sum.inl _) (by assumption) | (refine cpow_of ?_; decide) | (refine cmul_of ?_; decide) | (show (_ : Int) ≠ 0; first | decide | omega) | (refine cdivn_of ?_; decide) | exact Or.inl ⟨rfl, _, SqL.of (by assumption)⟩ | omega)
local macro_rules | `(tactic| walk_at "st") => `(tactic| first | (apply Exists.intro) | (refine And.intro ?_ ?_; focus (walk_at "sd")) | (apply Or.inl; apply Exists.intro; refine And.intro ?_ ?_; focus rfl) | (apply Or.inr; apply Exists.intro; refine And.intro ?_ ?_; focus rfl))
local macro_rules | `(tactic| walk_at "go") => `(tactic| repeat (walk_at "st"))
section
variable {P : Program} {w : World} {K : PySem.W.Frag} {mg : Str → Option Value} {base : Heap}
theorem ok_l_block0 (T : Top K mg) {n : Nat} : FnOk P w K mg base CX0 (n + 2) T.l_block.f T.l_block.fd ["_law_deck_here", "_law_names_here", "_law_left", "_law_times", "_law_depth"] (spBlock 0) := by
  have G_l_draw : FnOk P w K mg base CX0 1 T.l_draw.f T.l_draw.fd ["_law_deck_here", "_law_many"] spDraw := ok_l_draw T
  have G_l_row : FnOk P w K mg base CX0 0 T.l_row.f T.l_row.fd ["_law_deck_here", "_law_names_here", "_law_left", "_law_times", "_law_depth"] (fun _ _ _ _ => False) := fn_no (fun _ _ _ _ h => h)
  refine T.l_block.F.ok sc_l_block (fun vs H Q E h => ?_) (fun cdv A outer s H vs Q E hr h => ?_)
  · obtain ⟨a, c, nm, lf, m, t, depth, names, l, rfl, _⟩ := h
    rfl
  obtain ⟨a, c, nm, lf, m, t, depth, names, l, rfl, g, hm, ln, ht, hd, hd0, q⟩ := h
  have hu64 := hr.units
  refine ⟨_, (pss_cons (ps_if (pt_cmpR op_gt (pv 4) pe_int (nomark _)) (pss_one (ps_ret (pe_tupA pa_nil))) pss_nil)
      (pss_cons (ps_par (i := 5) (j := 6) (by rfl) sc_l_block.nd rfl rfl (by decide) rfl rfl (pa_cons (pe_op op_add (pe_call G_l_draw (hr.mono (by omega)) (by rfl) T.l_draw.g T.l_draw.F.kp T.l_draw.b .nil pass0 (pa_cons (pv 0) (pa_cons pe_int pa_nil))) (pe_callTy (T := "int") call_int1 (by rfl) T.int (by decide +kernel) (pa_cons (pe_cmpR op_eq (pv 4) pe_int (nomark _)) pa_nil))) (pa_cons (pe_lstA pa_nil) pa_nil)) (by rfl))
      (pss_cons (ps_forA (ps_for PassesOwn.never rfl (pi_range1 (by rfl) T.range (pa_cons (pv 5) pa_nil)) (pg_name (i := 7) sc_l_block.nd rfl (.inl rfl)) (pss_one (ps_expr (pe_bmK (K := K) rfl PySem.F.plainAttrs_list PySem.F.slot_list_append PySem.F.type_list_append mt_appendA (pv 6) (pa_cons (pe_call G_l_row (hr.mono (by omega)) (by rfl) T.l_row.g T.l_row.F.kp T.l_row.b .nil pass0 (pa_cons (pv 0) (pa_cons (pv 1) (pa_cons (pv 2) (pa_cons (pv 3) (pa_cons (pv 4) pa_nil)))))) pa_nil))))))
      (pss_one (ps_ret (pe_callTy (T := "tuple") (call_tupleK (K := K) rfl) (by rfl) T.tuple (by decide +kernel) (pa_cons (pe_lc (own := [("_law_row_here", 8)]) (by rfl) sc_l_block.nd (pi_listK (K := K) rfl (pv 6)) (blkOk_by (N := ["_law_deck_here", "_law_names_here", "_law_left", "_law_times", "_law_depth", "_law_many", "_law_rows", "_law_k", "_law_row_here"]) (sc := defScope s_l_block) (own := [("_law_row_here", 8)]) (by decide +kernel)) (fun _ _ _ _ _ => (pg_name (i := 8) sc_l_block.nd rfl (.inl rfl))) (fun _ _ _ _ _ => (pts_one (pt_cmpR (op_neT hu64) (pv 8) (pe_tupA pa_nil) (nomark _)))) (fun _ _ _ _ _ => (pv 8))) pa_nil))))))), ?_⟩
  walk_at "go"
  have hd4 : (decide (3 < depth)) = true := decide_eq_true (by omega)
  rw [hd4]
  refine iteT ?_
  walk_at "go"
  intro r H1 hr1 e1
  have k1 := new_kp hr1 e1
  exact q _ [] H1 m l (mk_tup (new_at e1) (by simp only [Sm.ds]; exact trs_nil)) BOk.nil ln (Int.le_refl _) (by simp only [costB]; omega) (g.kp0 k1) (k1.sub (by simp))
theorem ok_l_block1 (T : Top K mg) {k : Nat} (G_l_row : FnOk P w K mg base CX0 (2 * k + 8) T.l_row.f T.l_row.fd ["_law_deck_here", "_law_names_here", "_law_left", "_law_times", "_law_depth"] (spRow k)) :
    FnOk P w K mg base CX0 (2 * k + 9) T.l_block.f T.l_block.fd ["_law_deck_here", "_law_names_here", "_law_left", "_law_times", "_law_depth"] (spBlock (k + 1)) := by
  have G_l_draw : FnOk P w K mg base CX0 1 T.l_draw.f T.l_draw.fd ["_law_deck_here", "_law_many"] spDraw := ok_l_draw T
  refine T.l_block.F.ok sc_l_block (fun vs H Q E h => ?_) (fun cdv A outer s H vs Q E hr h => ?_)
  · obtain ⟨a, c, nm, lf, m, t, depth, names, l, rfl, _⟩ := h
    rfl
  obtain ⟨a, c, nm, lf, m, t, depth, names, l, rfl, g, hm, ln, ht, hd, hd0, q⟩ := h
  have hu64 := hr.units
  refine ⟨_, (pss_cons (ps_if (pt_cmpR op_gt (pv 4) pe_int (nomark _)) (pss_one (ps_ret (pe_tupA pa_nil))) pss_nil)
      (pss_cons (ps_par (i := 5) (j := 6) (by rfl) sc_l_block.nd rfl rfl (by decide) rfl rfl (pa_cons (pe_op op_add (pe_call G_l_draw (hr.mono (by omega)) (by rfl) T.l_draw.g T.l_draw.F.kp T.l_draw.b .nil pass0 (pa_cons (pv 0) (pa_cons pe_int pa_nil))) (pe_callTy (T := "int") call_int1 (by rfl) T.int (by decide +kernel) (pa_cons (pe_cmpR op_eq (pv 4) pe_int (nomark _)) pa_nil))) (pa_cons (pe_lstA pa_nil) pa_nil)) (by rfl))
      (pss_cons (ps_forA (ps_for PassesOwn.never rfl (pi_range1 (by rfl) T.range (pa_cons (pv 5) pa_nil)) (pg_name (i := 7) sc_l_block.nd rfl (.inl rfl)) (pss_one (ps_expr (pe_bmK (K := K) rfl PySem.F.plainAttrs_list PySem.F.slot_list_append PySem.F.type_list_append mt_appendA (pv 6) (pa_cons (pe_call G_l_row (hr.mono (by omega)) (by rfl) T.l_row.g T.l_row.F.kp T.l_row.b .nil pass0 (pa_cons (pv 0) (pa_cons (pv 1) (pa_cons (pv 2) (pa_cons (pv 3) (pa_cons (pv 4) pa_nil)))))) pa_nil))))))
      (pss_one (ps_ret (pe_callTy (T := "tuple") (call_tupleK (K := K) rfl) (by rfl) T.tuple (by decide +kernel) (pa_cons (pe_lc (own := [("_law_row_here", 8)]) (by rfl) sc_l_block.nd (pi_listK (K := K) rfl (pv 6)) (blkOk_by (N := ["_law_deck_here", "_law_names_here", "_law_left", "_law_times", "_law_depth", "_law_many", "_law_rows", "_law_k", "_law_row_here"]) (sc := defScope s_l_block) (own := [("_law_row_here", 8)]) (by decide +kernel)) (fun _ _ _ _ _ => (pg_name (i := 8) sc_l_block.nd rfl (.inl rfl))) (fun _ _ _ _ _ => (pts_one (pt_cmpR (op_neT hu64) (pv 8) (pe_tupA pa_nil) (nomark _)))) (fun _ _ _ _ _ => (pv 8))) pa_nil))))))), ?_⟩
  have cn := costB_nn k
  have cr : costR k = 110 + 2 * costB k := rfl
  have cb : costB (k + 1) = 1 + 4 * costR k := rfl
  have dk := g.dk
  have hmM : m ≤ MANY := by show m ≤ 1000000000; omega
  have sub : ∀ b, b ∈ [a, c] → b ∈ [a, c, lf] := by
    intro b hb
    simp only [List.mem_cons, List.not_mem_nil, or_false] at hb ⊢
    rcases hb with h | h
    · exact .inl h
    · exact .inr (.inl h)
  walk_at "go"
  have hd4 : (decide (3 < depth)) = false := decide_eq_false (by omega)
  rw [hd4]
  refine iteF ?_
  walk_at "go"
  intro r H1 r0 r1 D1 k1
  have g1 := g.drawn D1 k1
  walk_at "go"
  intro rl H2 hl e2
  have k2 := new_kp hl e2
  have a2 := new_at e2
  have g2 := g1.kp0 k2
  have kH2 := (k1.sub sub).step0 k2
  have offl : rl ∉ [a, c, lf] := by
    have o1 := D1.off hl
    have o2 := ne_of_none g1.lft hl
    simp only [List.mem_cons, List.not_mem_nil, or_false, not_or] at o1 ⊢
    exact ⟨o1.1, o1.2, fun z => o2 z.symm⟩
  generalize hz : (if decide (V.int depth = V.int 0) = true then (1 : Int) else 0) = z
  have hz2 : 0 ≤ z ∧ z ≤ 1 := by
    rw [← hz]
    split <;> omega
  clear hz
  walk_at "go"
  refine ⟨for_range (lo := 0) (n := (r + z).toNat) (fun i σ H3 => Lp (∃ (w7 : Option V) (vs : List V) (os : List (Option Sm)) (m3 : Int) (l3 : Lf), σ = [some (.ref a), some (.ref nm), some (.ref lf), some (.int t), some (.int depth), some (.int (r + z)), some (.ref rl), w7, none] ∧ H3 rl = some (.lst vs) ∧ TrAll H3 (os.map rD) vs ∧ os.length = i ∧ (∀ o ∈ os, SeqAt.shaped (rD o) = true) ∧ BOk names t depth l l3 (smsOf os) ∧ l3.nn ∧ m + 1 ≤ m3 ∧ m3 ≤ m + 1 + (i : Int) * costR k ∧ Gs H3 a c nm lf m3 names l3 ∧ Kp [a, c, lf] H H3)) ⟨_, [], [], m + 1, l, rfl, a2, trs_nil, rfl, (fun o h => nomatch h), BOk.nil, ln, by omega, by simp, g2, kH2⟩ ?_ ?_⟩
  · rintro i σ H3 hi ⟨⟨w7, vs, os, m3, l3, rfl, a3, t3, lo3, sh3, bo3, ln3, ml3, mu3, g3, k3⟩⟩
    have hi4 : i < 4 := by omega
    have ci : m3 + costR k ≤ m + 1 + ((i + 1 : Nat) : Int) * costR k := by
      rw [Int.natCast_add, Int.add_mul]
      omega
    have c4 : ((i + 1 : Nat) : Int) * costR k ≤ 4 * costR k := Int.mul_le_mul_of_nonneg_right (by omega) (by omega)
    have hm3 : m3 + costR k ≤ 700000000 := by omega
    have hd3 : depth = 3 - (k : Int) := by omega
    walk_at "go"
    intro v4 o4 H4 m4 l4 t4 ho4 hn4 ln4 ml4 mu4 g4 k4
    have a4 := k4.keep _ _ a3 offl
    have lv : vs.length < sizeLine := by
      rw [t3.length, List.length_map]
      exact sz_lt (by omega)
    walk_at "go"
    intro H5 a5 k5
    have g5 := g1.kpF hl g4 k5
    have k35 := (k3.trans k4).step1 k5 (.inr (k1.free hl (D1.off hl)))
    refine ⟨_, _, os ++ [o4], m4, l4, rfl, a5, ?_, by rw [List.length_append, lo3]; rfl, ?_, ?_, ln4, by omega, by omega, g5, k35⟩
    · rw [List.map_append]
      exact (k5.trAll (k4.trAll t3)).append (trs_cons (k5.tr t4) trs_nil)
    · intro o ho
      rcases List.mem_append.mp ho with h | h
      · exact sh3 o h
      · cases List.mem_singleton.mp h
        exact rD_shaped hd0 ho4
    · rw [smsOf_app]
      cases o4 with
      | none =>
        cases hn4 rfl
        exact bo3.cat BOk.nil
      | some s => exact bo3.cat (BOk.one (ho4 s rfl))
  · rintro σ H3 ⟨⟨w7, vs, os, m3, l3, rfl, a3, t3, lo3, sh3, bo3, ln3, ml3, mu3, g3, k3⟩⟩
    walk_at "go"
    intro D hD
    refine lc_list (K := K) (a := rl) (xs := vs) (fun i H4 => Kp [D] H3 H4 ∧ ∃ ws, H4 D = some (.lst ws) ∧ TrAll H4 (Sm.ds (smsOf (os.take i))) ws ∧ ws.length ≤ i) ⟨(Kp.new hD).sub (by simp), [], upd_same, by simp only [List.take_zero, smsOf, Sm.ds]; exact trs_nil, Nat.le_refl _⟩ ?_ ?_ ?_
    · rintro i H4 _ ⟨k4, _⟩
      exact SqL.of (k4.keep _ _ a3 (ne1 (ne_of_none a3 hD)))
    · rintro i x H4 hx ⟨k4, ws, d4, t4, l4⟩
      have hi : i < os.length := by
        obtain ⟨h, _⟩ := List.getElem?_eq_some_iff.mp hx
        rw [t3.length, List.length_map] at h
        exact h
      have ho : os[i]? = some os[i] := List.getElem?_eq_getElem hi
      obtain ⟨v, hv, tv⟩ := t3.get (i := i) (d := rD os[i]) (by rw [List.getElem?_map, ho]; rfl)
      rw [hx] at hv
      cases hv
      have sh := sh3 os[i] (List.getElem_mem hi)
      have tk : os.take (i + 1) = os.take i ++ [os[i]] := by rw [List.take_add_one, ho]; rfl
      walk_at "go"
      intro u5 H5 hu5 e5
      have k5 := new_kp hu5 e5
      have a5 := new_at e5
      have t5 := k5.tr (k4.tr tv)
      have tn5 : Tr H5 (.tuple []) (.ref u5) := mk_tup a5 trs_nil
      refine ⟨_, _, t5, tn5, sh, shaped_nil, _, rfl, ?_⟩
      generalize os[i] = o at sh tk t5 
      cases o with
      | none =>
        have ee : (!PyData.eqv (rD none) (.tuple [])) = false := by simp [rD, PyData.eqv, PyData.eqvAll]
        rw [ee]
        refine iteF ?_
        refine ⟨k4.step0 k5, ws, k5.at d4, ?_, by omega⟩
        rw [tk, smsOf_app]
        show TrAll H5 (Sm.ds (smsOf (os.take i) ++ [])) ws
        rw [List.append_nil]
        exact k5.trAll t4
      | some s =>
        have ee : (!PyData.eqv (rD (some s)) (.tuple [])) = true := by
          show (!PyData.eqv s.d (.tuple [])) = true
          rw [Sm.ne0]
          rfl
        rw [ee]
        refine iteT ?_
        have d5 := k5.at d4
        have lw : ws.length < sizeLine := sz_lt (by omega)
        walk_at "go"
        have k6 := Kp.put (u := .lst (ws ++ [x])) d5 (fun _ y => by cases y)
        refine ⟨(k4.step0 k5).step1 k6 (.inl (by simp)), _, upd_same, ?_, by rw [List.length_append]; exact Nat.add_le_add_right l4 1⟩
        rw [tk, smsOf_app]
        show TrAll _ (Sm.ds (smsOf (os.take i) ++ [s])) _
        rw [Sm.ds_app]
        exact (k6.trAll (k5.trAll t4)).append (by simp only [Sm.ds]; exact trs_cons (k6.tr t5) trs_nil)
    · rintro H4 ⟨k4, ws, d4, t4, l4⟩
      rw [t3.length, List.length_map, List.take_length] at t4
      walk_at "go"
      intro r5 H5 hr5 a5 k5
      have c4 : ((r + z).toNat : Int) * costR k ≤ 4 * costR k := Int.mul_le_mul_of_nonneg_right (by omega) (by omega)
      refine q _ (smsOf os) H5 m3 l3 (mk_tup a5 (k5.trAll t4)) bo3 ln3 (by omega) (by omega) ((g3.kpF hD g3 k4).kp0 k5) ((k3.step1 k4 (.inr ?_)).step0 k5)
      have oD : D ∉ [a, c, lf] := by
        have o1 := g3.dk.off hD
        have o2 := ne_of_none g3.lft hD
        simp only [List.mem_cons, List.not_mem_nil, or_false, not_or] at o1 ⊢
        exact ⟨o1.1, o1.2, fun z => o2 z.symm⟩
      exact k3.free hD oD
theorem ok_l_rows (T : Top K mg) : ∀ k : Nat, FnOk P w K mg base CX0 (2 * k + 7) T.l_block.f T.l_block.fd ["_law_deck_here", "_law_names_here", "_law_left", "_law_times", "_law_depth"] (spBlock k)
  | 0 => ok_l_block0 T
  | k + 1 => ok_l_block1 T (ok_l_row T (ok_l_rows T k))
theorem ok_l_block (T : Top K mg) : FnOk P w K mg base CX0 15 T.l_block.f T.l_block.fd ["_law_deck_here", "_law_names_here", "_law_left", "_law_times", "_law_depth"] (spBlock 4) := ok_l_rows T 4
end
end EH
namespace EH
open PySem L2
local macro_rules | `(tactic| walk_at "sd") => `(tactic| first | assumption | ((with_reducible show (_ : Int) ≤ _); omega) | ((with_reducible show (_ : Int) < _); omega) | rfl | exact SqL.of (by assumption) | exact SqT.of (by assumption) | exact atI_nat (j := 0) rfl | exact atI_nat (j := 1) rfl | exact atI_nat (j := 2) rfl | exact atI_nat (j := 3) rfl | exact sz_lit rfl | exact lt_lit rfl | exact pos_lit rfl | exact le_lit rfl | exact Or.inl (SqL.of (by assumption)) | exact ⟨_, SqL.of (by assumption)⟩ | exact ⟨_, SqT.of (by assumption)⟩ | exact Or.inr (SqT.of (by assumption)) | exact ClsV.ty _ | exact TyX.base (TyOf.int _) | exact TyX.base (TyOf.str _) | exact TyX.base (TyOf.tup (by assumption)) | exact kit_ty isi_ss | exact kit_ty isi_is | exact kit_ty isi_ts | exact kit_ty isi_si | exact kit_ty isi_ii | exact kit_ty isi_ti | exact kit_ty isi_st | exact kit_ty isi_it | exact kit_ty isi_tt | exact Or.inl ⟨_, Or.inl (by assumption)⟩ | exact DGet.k (k := Sum.inr _) (by assumption) | exact DGet.k (k := Sum.inl _) (by assumption) | (refine cpow_of ?_; decide) | (refine cmul_of ?_; decide) | (show (_ : Int) ≠ 0; first | decide | omega) | (refine cdivn_of ?_; decide) | exact Or.inl ⟨rfl, _, SqL.of (by assumption)⟩ | omega)
local macro_rules | `(tactic| walk_at "st") => `(tactic| first | (apply Exists.intro) | (refine And.intro ?_ ?_; focus (walk_at "sd")) | (apply Or.inl; apply Exists.intro; refine And.intro ?_ ?_; focus rfl) | (apply Or.inr; apply Exists.intro; refine And.intro ?_ ?_; focus rfl))
local macro_rules | `(tactic| walk_at "go") => `(tactic| repeat (walk_at "st"))
section
variable {P : Program} {w : World} {K : PySem.W.Frag} {mg : Str → Option Value} {base : Heap}
theorem ok_l_number (T : Top K mg) : FnOk P w K mg base CX0 4 T.l_number.f T.l_number.fd ["_law_deck_here"] spNumber := by
  have G_l_draw : FnOk P w K mg base CX0 1 T.l_draw.f T.l_draw.fd ["_law_deck_here", "_law_many"] spDraw := ok_l_draw T
  have G_l_one : FnOk P w K mg base CX0 2 T.l_one.f T.l_one.fd ["_law_deck_here", "_law_items"] (spOne K) := ok_l_one T
  refine T.l_number.F.ok sc_l_number (fun vs H Q E h => ?_) (fun cdv A outer s H vs Q E hr h => ?_)
  · obtain ⟨a, c, m, rfl, _⟩ := h
    rfl
  obtain ⟨a, c, m, rfl, D0, hm, q⟩ := h
  have hu64 := hr.units
  refine ⟨_, (pss_cons (ps_par (i := 1) (j := 2) (by rfl) sc_l_number.nd rfl rfl (by decide) rfl rfl (pa_cons (pe_call G_l_draw (hr.mono (by omega)) (by rfl) T.l_draw.g T.l_draw.F.kp T.l_draw.b .nil pass0 (pa_cons (pv 0) (pa_cons pe_int pa_nil))) (pa_cons (pe_call G_l_one (hr.mono (by omega)) (by rfl) T.l_one.g T.l_one.F.kp T.l_one.b .nil pass0 (pa_cons (pv 0) (pa_cons (pe_lstA (pa_cons pe_int (pa_cons (pe_un un_neg pe_int) pa_nil))) pa_nil))) pa_nil)) (by rfl))
      (pss_cons (ps_if (pt_cmpR op_lt (pv 1) pe_int (nomark _)) (pss_one (ps_ret (pe_op op_mul (pv 2) (pe_call G_l_draw (hr.mono (by omega)) (by rfl) T.l_draw.g T.l_draw.F.kp T.l_draw.b .nil pass0 (pa_cons (pv 0) (pa_cons pe_int pa_nil)))))) pss_nil)
      (pss_cons (ps_if (pt_cmpR op_eq (pv 1) pe_int (nomark _)) (pss_one (ps_ret (pe_op op_mul (pv 2) (pe_op op_sub (pe_op op_add (pe_op op_mul (pe_op op_fdivN (pe_op op_pow pe_int pe_int) (pe_op op_pow pe_int pe_int)) (pe_call G_l_draw (hr.mono (by omega)) (by rfl) T.l_draw.g T.l_draw.F.kp T.l_draw.b .nil pass0 (pa_cons (pv 0) (pa_cons pe_int pa_nil)))) (pe_call G_l_draw (hr.mono (by omega)) (by rfl) T.l_draw.g T.l_draw.F.kp T.l_draw.b .nil pass0 (pa_cons (pv 0) (pa_cons pe_int pa_nil)))) pe_int)))) pss_nil)
      (pss_one (ps_ret (pe_op op_mul (pv 2) (pe_op op_add (pe_op op_mul (pe_op op_pow pe_int pe_int) (pe_call G_l_draw (hr.mono (by omega)) (by rfl) T.l_draw.g T.l_draw.F.kp T.l_draw.b .nil pass0 (pa_cons (pv 0) (pa_cons (pe_op op_pow pe_int pe_int) pa_nil)))) (pe_call G_l_draw (hr.mono (by omega)) (by rfl) T.l_draw.g T.l_draw.F.kp T.l_draw.b .nil pass0 (pa_cons (pv 0) (pa_cons (pe_op op_pow pe_int pe_int) pa_nil)))))))))), ?_⟩
  have hmM : m ≤ MANY := by show m ≤ 1000000000; omega
  walk_at "go"
  intro r H1 r0 r1 D1 k1
  have hmM : m + 1 ≤ MANY := by show m + 1 ≤ 1000000000; omega
  walk_at "go"
  intro l2 H2 hl2 e2
  have k2 := new_kp hl2 e2
  have a2 := new_at e2
  have D2 := D1.kp0 k2
  have off2 := D1.off hl2
  walk_at "go"
  intro x H3 hx D3 k3
  have hx2 : x ∈ ([1, -1] : List Int).map V.int := hx
  obtain ⟨i, rfl, hi⟩ := mem_ints (P := fun i => i = 1 ∨ i = -1) hx2 (by
    intro i hi
    simp only [List.mem_cons, List.not_mem_nil, or_false] at hi
    exact hi)
  have k13 := (k1.step0 k2).trans k3
  have hmM : m + 1 + 1 ≤ MANY := by show m + 1 + 1 ≤ 1000000000; omega
  walk_at "go"
  refine ite2 (fun hc => ?_) (fun hc => ?_)
  · walk_at "go"
    intro r4 H4 r40 r41 D4 k4
    refine ⟨_, _, rfl, rfl, ?_, ?_⟩
    · rcases hi with rfl | rfl <;> (refine cmul_of ?_; decide)
    · refine q _ H4 _ ?_ ?_ ?_ ?_ D4 (k13.trans k4)
      · show -1000000000000000000000000000000000000000000000000000000000000 ≤ i * r4
        rcases hi with rfl | rfl <;> omega
      · show i * r4 ≤ 1000000000000000000000000000000000000000000000000000000000000
        rcases hi with rfl | rfl <;> omega
      · omega
      · omega
  · walk_at "go"
    refine ite2 (fun hd => ?_) (fun hd => ?_)
    · walk_at "go"
      intro r4 H4 r40 r41 D4 k4
      have hmM : m + 1 + 1 + 1 ≤ MANY := by show m + 1 + 1 + 1 ≤ 1000000000; omega
      walk_at "go"
      intro r5 H5 r50 r51 D5 k5
      have e5 : ((2 : Int) ^ Int.toNat 40).fdiv (2 ^ Int.toNat 4) = 68719476736 := by decide +kernel
      walk_at "go"
      refine ⟨?_, ?_⟩
      · rcases hi with rfl | rfl <;> (refine cmul_of ?_; decide)
      · refine q _ H5 _ ?_ ?_ ?_ ?_ D5 ((k13.trans k4).trans k5)
        · show -1000000000000000000000000000000000000000000000000000000000000 ≤ i * (((2 : Int) ^ Int.toNat 40).fdiv (2 ^ Int.toNat 4) * r4 + r5 - 4)
          rw [e5]
          rcases hi with rfl | rfl <;> omega
        · show i * (((2 : Int) ^ Int.toNat 40).fdiv (2 ^ Int.toNat 4) * r4 + r5 - 4) ≤ 1000000000000000000000000000000000000000000000000000000000000
          rw [e5]
          rcases hi with rfl | rfl <;> omega
        · omega
        · omega
    · have p9 : (0 : Int) < 10 ^ Int.toNat 9 := by decide +kernel
      have q9 : ((10 : Int) ^ Int.toNat 9).natAbs < 2 ^ 1000 := by decide +kernel
      have e9 : (10 : Int) ^ Int.toNat 9 = 1000000000 := by decide +kernel
      have e50 : (10 : Int) ^ Int.toNat 50 = 100000000000000000000000000000000000000000000000000 := by decide +kernel
      walk_at "go"
      intro r4 H4 r40 r41 D4 k4
      rw [e9] at r41
      have hmM : m + 1 + 1 + 1 ≤ MANY := by show m + 1 + 1 + 1 ≤ 1000000000; omega
      have c4 : CMul (10 ^ Int.toNat 50) r4 := .inr ⟨by omega, by omega⟩
      walk_at "go"
      intro r5 H5 r50 r51 D5 k5
      rw [e9] at r51
      walk_at "go"
      refine ⟨?_, ?_⟩
      · rcases hi with rfl | rfl <;> (refine cmul_of ?_; decide)
      · refine q _ H5 _ ?_ ?_ ?_ ?_ D5 ((k13.trans k4).trans k5)
        · show -1000000000000000000000000000000000000000000000000000000000000 ≤ i * ((10 : Int) ^ Int.toNat 50 * r4 + r5)
          rw [e50]
          rcases hi with rfl | rfl <;> omega
        · show i * ((10 : Int) ^ Int.toNat 50 * r4 + r5) ≤ 1000000000000000000000000000000000000000000000000000000000000
          rw [e50]
          rcases hi with rfl | rfl <;> omega
        · omega
        · omega
end
section
variable {P : Program} {w : World} {K : PySem.W.Frag} {mg : Str → Option Value} {base : Heap}
theorem ok_l_choices (T : Top K mg) : FnOk P w K mg base CX0 4 T.l_choices.f T.l_choices.fd ["_law_deck_here"] spChoices := by
  have G_l_draw : FnOk P w K mg base CX0 1 T.l_draw.f T.l_draw.fd ["_law_deck_here", "_law_many"] spDraw := ok_l_draw T
  refine T.l_choices.F.ok sc_l_choices (fun vs H Q E h => ?_) (fun cdv A outer s H vs Q E hr h => ?_)
  · obtain ⟨a, c, m, rfl, _⟩ := h
    rfl
  obtain ⟨a, c, m, rfl, D0, hm, q⟩ := h
  have hu64 := hr.units
  refine ⟨_, (pss_one (ps_ret (pe_callTy (T := "tuple") (call_tupleK (K := K) rfl) (by rfl) T.tuple (by decide +kernel) (pa_cons (pe_lc (own := [("_law_k", 1)]) (by rfl) sc_l_choices.nd (pi_range1 (by rfl) T.range (pa_cons (pe_call G_l_draw (hr.mono (by omega)) (by rfl) T.l_draw.g T.l_draw.F.kp T.l_draw.b .nil pass0 (pa_cons (pv 0) (pa_cons pe_int pa_nil))) pa_nil)) (blkOk_by (N := ["_law_deck_here", "_law_k"]) (sc := defScope s_l_choices) (own := [("_law_k", 1)]) (by decide +kernel)) (fun _ _ _ _ _ => (pg_name (i := 1) sc_l_choices.nd rfl (.inl rfl))) (fun _ _ _ _ _ => pts_nil) (fun _ _ _ _ _ => (pe_call G_l_draw (hr.mono (by omega)) (by rfl) T.l_draw.g T.l_draw.F.kp T.l_draw.b .nil pass0 (pa_cons (pv 0) (pa_cons pe_int pa_nil))))) pa_nil)))), ?_⟩
  have hmM : m ≤ MANY := by show m ≤ 1000000000; omega
  walk_at "go"
  intro r H1 r0 r1 D1 k1
  walk_at "go"
  intro D hD
  have oD := D1.off hD
  have ac : a ∉ [D] ∧ c ∉ [D] := by
    simp only [List.mem_cons, List.not_mem_nil, or_false, not_or] at oD ⊢
    exact ⟨fun z => oD.1 z.symm, fun z => oD.2 z.symm⟩
  refine lc_range (lo := 0) (n := r.toNat) (fun i H2 => Kp [a, c] H1 H2 ∧ ∃ cs : List Int, H2 D = some (.lst (cs.map V.int)) ∧ (∀ i ∈ cs, i = 0 ∨ i = 1) ∧ cs.length = i ∧ Deck H2 a c (m + 1 + (i : Int))) ⟨(Kp.new hD).sub (by simp), [], upd_same, (fun _ z => nomatch z), rfl, (D1.kp0 (Kp.new hD)).cast (by simp)⟩ ?_ ?_
  · rintro i H2 hi ⟨k2, cs, d2, c2, l2, D2⟩
    have hmM : m + 1 + (i : Int) ≤ MANY := by show m + 1 + (i : Int) ≤ 1000000000; omega
    walk_at "go"
    intro r3 H3 r30 r31 D3 k3
    have d3 := k3.keep _ _ d2 oD
    have l3 : (cs.map V.int).length < sizeLine := by
      rw [List.length_map]
      exact sz_lt (by omega)
    walk_at "go"
    have k4 := Kp.put (u := .lst (cs.map V.int ++ [.int r3])) d3 (fun _ y => by cases y)
    refine ⟨(k2.trans k3).step1 k4 (.inr hD), cs ++ [r3], ?_, ?_, by rw [List.length_append, l2]; rfl, ((D3.kp k4 ac.1 ac.2)).cast (by omega)⟩
    · rw [upd_same, List.map_append]
      rfl
    · intro j hj
      rcases List.mem_append.mp hj with h | h
      · exact c2 j h
      · cases List.mem_singleton.mp h
        omega
  · rintro H2 ⟨k2, cs, d2, c2, l2, D2⟩
    walk_at "go"
    intro p H3 hp a3 k3
    exact q p cs H3 _ a3 c2 (by omega) (by omega) (by omega) (D2.kp0 k3) ((k1.trans k2).step0 k3)
end
end EH
namespace EH
open PySem L2
local macro_rules | `(tactic| walk_at "sd") => `(tactic| first | assumption | ((with_reducible show (_ : Int) ≤ _); omega) | ((with_reducible show (_ : Int) < _); omega) | rfl | exact SqL.of (by assumption) | exact SqT.of (by assumption) | exact atI_nat (j := 0) rfl | exact atI_nat (j := 1) rfl | exact atI_nat (j := 2) rfl | exact atI_nat (j := 3) rfl | exact sz_lit rfl | exact lt_lit rfl | exact pos_lit rfl | exact le_lit rfl | exact Or.inl (SqL.of (by assumption)) | exact ⟨_, SqL.of (by assumption)⟩ | exact ⟨_, SqT.of (by assumption)⟩ | exact Or.inr (SqT.of (by assumption)) | exact ClsV.ty _ | exact TyX.base (TyOf.int _) | exact TyX.base (TyOf.str _) | exact TyX.base (TyOf.tup (by assumption)) | exact kit_ty isi_ss | exact kit_ty isi_is | exact kit_ty isi_ts | exact kit_ty isi_si | exact kit_ty isi_ii | exact kit_ty isi_ti | exact kit_ty isi_st | exact kit_ty isi_it | exact kit_ty isi_tt | exact Or.inl ⟨_, Or.inl (by assumption)⟩ | exact DGet.k (k := Sum.inr _) (by assumption) | exact DGet.k (k := Sum.inl _) (by assumption) | (refine cpow_of ?_; decide) | (refine cmul_of ?_; decide) | (show (_ : Int) ≠ 0; first | decide | omega) | (refine cdivn_of ?_; decide) | exact Or.inl ⟨rfl, _, SqL.of (by assumption)⟩ | omega)
local macro_rules | `(tactic| walk_at "st") => `(tactic| first | (apply Exists.intro) | (refine And.intro ?_ ?_; focus (walk_at "sd")) | (apply Or.inl; apply Exists.intro; refine And.intro ?_ ?_; focus rfl) | (apply Or.inr; apply Exists.intro; refine And.intro ?_ ?_; focus rfl))
local macro_rules | `(tactic| walk_at "go") => `(tactic| repeat (walk_at "st"))
section
variable {P : Program} {w : World} {K : PySem.W.Frag} {mg : Str → Option Value} {base : Heap}
theorem ok_l_programN (T : Top K mg) : FnOk P w K mg base CX0 16 T.l_program.f T.l_program.fd ["_law_deck_here", "_law_names_here"] spProgramN := by
  have G_l_draw : FnOk P w K mg base CX0 1 T.l_draw.f T.l_draw.fd ["_law_deck_here", "_law_many"] spDraw := ok_l_draw T
  have G_l_block := ok_l_block (P := P) (w := w) (base := base) T
  refine T.l_program.F.ok sc_l_program (fun vs H Q E h => ?_) (fun cdv A outer s H vs Q E hr h => ?_)
  · obtain ⟨a, c, nm, m, names, rfl, _⟩ := h
    rfl
  obtain ⟨a, c, nm, m, names, rfl, D0, hm, N0, q⟩ := h
  have hu64 := hr.units
  refine ⟨_, (pss_cons (ps_par (i := 2) (j := 3) (by rfl) sc_l_program.nd rfl rfl (by decide) rfl rfl (pa_cons (pe_lstA (pa_cons pe_int (pa_cons pe_int (pa_cons pe_int (pa_cons pe_int pa_nil))))) (pa_cons (pe_tupA pa_nil) pa_nil)) (by rfl))
      (pss_cons (ps_forA (ps_for PassesOwn.never rfl (pi_range1 (by rfl) T.range (pa_cons (pe_op op_add pe_int (pe_call G_l_draw (hr.mono (by omega)) (by rfl) T.l_draw.g T.l_draw.F.kp T.l_draw.b .nil pass0 (pa_cons (pv 0) (pa_cons pe_int pa_nil)))) pa_nil)) (pg_name (i := 4) sc_l_program.nd rfl (.inl rfl)) (pss_one (ps_set (i := 3) sc_l_program.nd rfl (.inl rfl) (pe_op (op_catTK (K := K) rfl) (pv 3) (pe_call G_l_block (hr.mono (by omega)) (by rfl) T.l_block.g T.l_block.F.kp T.l_block.b .nil pass0 (pa_cons (pv 0) (pa_cons (pv 1) (pa_cons (pv 2) (pa_cons pe_int (pa_cons pe_int pa_nil)))))))))))
      (pss_cutA (ps_if (PW.pt (pw_or (pt_cmpR op_lt (pe_ix (ix_listK (K := K) rfl) (pv 2) pe_int (fun _ _ => rfl)) pe_int (nomark _)) (pw_or (pt_cmpR op_lt (pe_ix (ix_listK (K := K) rfl) (pv 2) pe_int (fun _ _ => rfl)) pe_int (nomark _)) (pw_or1 (pt_cmpR op_eq (pe_call G_l_draw (hr.mono (by omega)) (by rfl) T.l_draw.g T.l_draw.F.kp T.l_draw.b .nil pass0 (pa_cons (pv 0) (pa_cons pe_int pa_nil))) pe_int (nomark _)))))) (pss_one (ps_ret (pv 3))) pss_nil)
      (pss_one (ps_ret (pe_op (op_catTK (K := K) rfl) (pv 3) (pe_tupA (pa_cons (pe_tupA (pa_cons pe_str (pa_cons (pe_ix (ix_listK (K := K) rfl) (pv 1) (pe_un un_neg pe_int) (fun _ _ => rfl)) pa_nil))) pa_nil)))))))), ?_⟩
  have cB : costB 4 = 257985 := rfl
  walk_at "go"
  intro lf H1 hlf e1
  have k1 := new_kp hlf e1
  have a1 := new_at e1
  have D1 := D0.kp0 k1
  have N1 := N0.kp0 k1
  have oD := D0.off hlf
  have oN := ne_of_none N0.at_ hlf
  have off : lf ∉ [a, c, nm] := by
    simp only [List.mem_cons, List.not_mem_nil, or_false, not_or] at oD ⊢
    exact ⟨oD.1, oD.2, fun z => oN z.symm⟩
  have g1 : Gs H1 a c nm lf m names ⟨24, 60, 4, 3⟩ := ⟨D1, N1, a1, off⟩
  walk_at "go"
  intro u2 H2 hu2 e2
  have k2 := new_kp hu2 e2
  have a2 := new_at e2
  have g2 := g1.kp0 k2
  have D2 := g2.dk
  have hmM : m ≤ MANY := by show m ≤ 1000000000; omega
  walk_at "go"
  intro r H3 r0 r1 D3 k3
  have g3 := g2.drawn D3 k3
  have k03 : Kp [a, c] H H3 := ((k1.trans k2).sub (by simp)).trans k3
  walk_at "go"
  refine ⟨for_range (lo := 0) (n := (1 + r).toNat) (fun i σ H4 => Lp (∃ (w4 : Option V) (v : V) (b : List Sm) (m4 : Int) (l4 : Lf), σ = [some (.ref a), some (.ref nm), some (.ref lf), some v, w4] ∧ Tr H4 (.tuple (Sm.ds b)) v ∧ BOk names 1 0 ⟨24, 60, 4, 3⟩ l4 b ∧ l4.nn ∧ m + 1 ≤ m4 ∧ m4 ≤ m + 1 + (i : Int) * 257985 ∧ Gs H4 a c nm lf m4 names l4 ∧ Kp [a, c] H H4)) ⟨_, _, [], m + 1, _, rfl, mk_tup (k3.tup _ _ a2) (by simp only [Sm.ds]; exact trs_nil), BOk.nil, ⟨by decide, by decide, by decide, by decide⟩, by omega, by simp, g3, k03⟩ ?_ ?_⟩
  · rintro i σ H4 hi ⟨⟨w4, v, b, m4, l4, rfl, t4, bo4, ln4, ml4, mu4, g4, k4⟩⟩
    have hm4 : m4 + costB 4 ≤ 700000000 := by omega
    obtain ⟨p4, xs4, rfl, h4, ts4⟩ := tr_tup t4
    walk_at "go"
    intro v5 b5 H5 m5 l5 t5 bo5 ln5 ml5 mu5 g5 k5
    obtain ⟨p5, xs5, rfl, h5, ts5⟩ := tr_tup t5
    have h45 := k5.tup _ _ h4
    have ts45 := k5.trAll ts4
    have bo := bo4.cat bo5
    have pr := bo.pr ln5
    have sz : xs4.length + xs5.length ≤ sizeLine := by
      have e := Sm.ds_le (b ++ b5)
      have := pr.pl
      rw [Sm.ds_app, List.length_append] at e
      rw [ts4.length, ts5.length]
      exact sz_le (by omega)
    walk_at "go"
    intro r6 H6 a6 k6
    walk_at "go"
    refine ⟨_, _, b ++ b5, m5, l5, rfl, ?_, bo, ln5, by omega, by rw [Int.natCast_add, Int.add_mul]; omega, g5.kp0 k6, ((k4.step k5 ?_).step0 k6)⟩
    · rw [Sm.ds_app]
      exact mk_tup a6 ((k6.trAll ts45).append (k6.trAll ts5))
    · intro p hp
      simp only [List.mem_cons, List.not_mem_nil, or_false] at hp ⊢
      rcases hp with rfl | rfl | rfl
      · exact .inl (.inl rfl)
      · exact .inl (.inr rfl)
      · exact .inr hlf
  · rintro σ H4 ⟨⟨w4, v, b, m4, l4, rfl, t4, bo4, ln4, ml4, mu4, g4, k4⟩⟩
    have lf4 := g4.lft
    have D4 := g4.dk
    have pr := bo4.pr ln4
    have hm4 : m4 ≤ m + 1 + 4 * 257985 := by omega
    have hmM : m4 ≤ MANY := by show m4 ≤ 1000000000; omega
    refine ⟨⟨fun σ5 H5 => Lp (∃ m5, σ5 = [some (.ref a), some (.ref nm), some (.ref lf), some v, w4] ∧ 1 ≤ l4.p ∧ 1 ≤ l4.w ∧ m4 ≤ m5 ∧ m5 ≤ m4 + 1 ∧ Gs H5 a c nm lf m5 names l4 ∧ Kp [a, c] H4 H5), ?_, ?_⟩⟩
    · walk_at "go"
      refine ite2 (fun hc => ?_) (fun hc => ?_)
      · walk_at "go"
        exact q v b H4 m4 t4 pr bo4.inn (by omega) (by omega) D4 k4
      · walk_at "go"
        refine ite2 (fun hd => ?_) (fun hd => ?_)
        · walk_at "go"
          exact q v b H4 m4 t4 pr bo4.inn (by omega) (by omega) D4 k4
        · have hc1 : ¬ l4.p < 1 := of_decide_eq_false (Bool.eq_false_iff.mpr hc)
          have hd1 : ¬ l4.w < 1 := of_decide_eq_false (Bool.eq_false_iff.mpr hd)
          walk_at "go"
          intro r5 H5 r50 r51 D5 k5
          walk_at "go"
          refine ite2 (fun he => ?_) (fun he => ?_)
          · walk_at "go"
            exact q v b H5 _ (k5.tr t4) pr bo4.inn (by omega) (by omega) D5 (k4.trans k5)
          · exact ⟨_, rfl, by omega, by omega, by omega, by omega, g4.drawn D5 k5, k5⟩
    · rintro σ5 H5 ⟨⟨m5, rfl, hp, hw, ml5, mu5, g5, k5⟩⟩
      obtain ⟨p5, xs5, rfl, h5, ts5⟩ := tr_tup (k5.tr t4)
      have nm5 := g5.nms.at_
      obtain ⟨x, hx, hxm⟩ : ∃ x, names.getLast? = some x ∧ x ∈ names := by
        cases e : names.getLast? with
        | none =>
          have := g5.nms.len.1
          rw [List.getLast?_eq_none_iff] at e
          rw [e] at this
          exact absurd this (by decide)
        | some x => exact ⟨x, rfl, List.mem_of_getLast? e⟩
      have ax : atI (names.map V.str) (-1) = some (.str x) := at_last (by rw [List.getLast?_map, hx]; rfl)
      walk_at "go"
      intro u6 H6 hu6 e6
      have k6 := new_kp hu6 e6
      have a6 := new_at e6
      walk_at "go"
      intro u7 H7 hu7 e7
      have k7 := new_kp hu7 e7
      have a7 := new_at e7
      have h7 := k7.tup _ _ (k6.tup _ _ h5)
      have sz : xs5.length + [V.ref u6].length ≤ sizeLine := by
        have e := Sm.ds_le b
        have := pr.pl
        rw [ts5.length]
        exact sz_le (by simp only [List.length_singleton]; omega)
      walk_at "go"
      intro r8 H8 a8 k8
      have so : SOk names 1 0 l4 ⟨l4.p - 1, l4.w - 1, l4.h, l4.c⟩ (.tell (.var x)) := by
        refine ⟨?_, by simp only [Sm.inN, Ex.inN]; exact hxm, by simp only [Sm.nest]; decide, ⟨?_, ?_, ?_, ?_⟩⟩
        · simp only [Sm.ok]
          exact ⟨g5.nms.oks x hxm, by simp only [Ex.deep]; decide⟩
        · simp only [Sm.pl]
          omega
        · simp only [Sm.wt]
          omega
        · simp only [Sm.hv]
          omega
        · simp only [Sm.cp]
          omega
      have bo := bo4.cat (BOk.one so)
      refine q (.ref r8) (b ++ [.tell (.var x)]) H8 m5 ?_ (bo.pr ⟨by show 0 ≤ l4.p - 1; omega, by show 0 ≤ l4.w - 1; omega, ln4.2.2.1, ln4.2.2.2⟩) bo.inn (by omega) (by omega) (((g5.dk.kp0 k6).kp0 k7).kp0 k8) ((((k4.trans k5).step0 k6).step0 k7).step0 k8)
      rw [Sm.ds_app]
      refine mk_tup a8 ((k8.trAll (k7.trAll (k6.trAll ts5))).append ?_)
      simp only [Sm.ds, Sm.d, Ex.d]
      exact trs_cons (mk_tup (k8.tup _ _ (k7.tup _ _ a6)) (trs_cons mk_str (trs_cons mk_str trs_nil))) trs_nil
theorem ok_l_program (T : Top K mg) : FnOk P w K mg base CX0 16 T.l_program.f T.l_program.fd ["_law_deck_here", "_law_names_here"] spProgram := (ok_l_programN T).imp fun vs H Q E ⟨a, c, nm, m, names, e, h1, h2, h3, q⟩ => ⟨a, c, nm, m, names, e, h1, h2, h3, fun v b H' m' x1 x2 _ => q v b H' m' x1 x2⟩
end
end EH
namespace EH
open PySem L2
/-! ### texts -/
def rJoinA : V → List V → Hp → VK → Prop := fun x xs H Q => ∃ a p, ∃ ys : List Str, x = .str a ∧ xs = [.ref p] ∧ H p = some (.lst (ys.map V.str)) ∧ (ys.map (·.length)).sum + ys.length * a.length ≤ 16777216 ∧ Q (.str (Txt.join a ys)) H
section
variable {X : Cx}
theorem mt_joinA : MtR X "str.join" rJoinA := fun pins s σ H x xs v us Q I rx rxs ⟨a, p, ys, e1, e2, h, z, q⟩ => mt_join pins s σ H x xs v us Q I rx rxs ⟨a, p, ys, e1, e2, .inl (SqL.of h), z, q⟩
theorem pe_joinA {o e : Expr} {to te : TE} {apos pos : Pos} (ho : PE X o to) (he : PE X e te) (hs : starEach [e] X.env = [(false, eval e X.env)] := by rfl) (hbase : attributeBase o "join" X.env (eval o X.env) = eval o X.env := by rfl) (hline : (apos.endLine == pos.line) = true := by rfl) :
    PE X (.Call (.Attribute o "join" apos) [e] [] pos) (tM1 rJoinA to te) := pe_m1 F.slot_str_join F.type_str_join mt_joinA ho he hs hbase hline
end
theorem strOk_app {a b : Str} (h1 : PyData.strOk a = true) (h2 : PyData.strOk b = true) : PyData.strOk (a ++ b) = true := by
  show (a.cps ++ b.cps).all _ = true
  rw [Array.all_append]
  rw [show a.cps.all (· < 0x110000) = true from h1, show b.cps.all (· < 0x110000) = true from h2]
  rfl
theorem strOk_of {a : Str} (h : ∀ c ∈ a.cps.toList, c < 0x110000) : PyData.strOk a = true := by
  show a.cps.all _ = true
  rw [← Array.all_toList, List.all_eq_true]
  intro c hc
  exact decide_eq_true (h c hc)
theorem app_cps (a b : Str) : (a ++ b).cps.toList = a.cps.toList ++ b.cps.toList := by
  show (a.cps ++ b.cps).toList = _
  rw [Array.toList_append]
/-- single signs, joined -/
def sgl (cs : List Nat) : List Str := cs.map fun c => ⟨#[c]⟩
theorem join_sgl0 : ∀ cs : List Nat, Str.join (Str.ofString "") (sgl cs) = ⟨cs.toArray⟩
  | [] => rfl
  | [c] => rfl
  | c :: d :: r => by
    have e : Str.join (Str.ofString "") (sgl (c :: d :: r)) = (⟨#[c]⟩ ++ Str.ofString "" ++ Str.join (Str.ofString "") (sgl (d :: r)) : Str) := rfl
    rw [e, join_sgl0 (d :: r)]
    show (⟨(#[c] ++ (Str.ofString "").cps) ++ (d :: r).toArray⟩ : Str) = _
    rw [show (Str.ofString "").cps = #[] by decide +kernel]
    simp
theorem join_sgl (cs : List Nat) : Txt.join (Str.ofString "") (sgl cs) = ⟨cs.toArray⟩ := by
  rw [TL.join_eq]
  exact join_sgl0 cs
theorem sgl_len : ∀ cs : List Nat, ((sgl cs).map (·.length)).sum = cs.length
  | [] => rfl
  | c :: r => by
    show 1 + ((sgl r).map (·.length)).sum = r.length + 1
    rw [sgl_len r]
    omega
theorem sgl_ok (cs : List Nat) (h : cs.length ≤ 1000) : ((sgl cs).map (·.length)).sum + (sgl cs).length * (Str.ofString "").length ≤ 16777216 := by
  rw [sgl_len, show (Str.ofString "").length = 0 by decide +kernel]
  omega
def letters : Str := "abcdefgijkmoqruvwxyz"
def signs : Str := letters ++ "0123456789"
def nmsOf (L R : Str) : List Str := ["n", L ++ "q" ++ R, L ++ "x" ++ R, L ++ "z" ++ R]
structure LR (L R : Str) : Prop where
  l : ∀ c ∈ L.cps.toList, c ∈ letters.cps.toList
  r : ∀ c ∈ R.cps.toList, c ∈ signs.cps.toList
  ll : L.length ≤ 8
  rl : R.length ≤ 8
def spNames : Sp := fun vs H Q _ => ∃ (a c : Addr) (m : Int), vs = [.ref a] ∧ Deck H a c m ∧ m ≤ 600000000 ∧
  ∀ (nm : Addr) (L R : Str) (H' : Hp) (m' : Int), H nm = none → LR L R → Nms H' nm a c (nmsOf L R) → m ≤ m' → m' ≤ m + 100 → Deck H' a c m' → Kp [a, c] H H' → Q (.ref nm) H'
theorem sign_ok {c : Nat} (h : c ∈ signs.cps.toList) : c < 0x110000 := by
  have : ∀ c ∈ signs.cps.toList, c < 0x110000 := by decide +kernel
  exact this c h
theorem letter_sign {c : Nat} (h : c ∈ letters.cps.toList) : c ∈ signs.cps.toList := by
  have : ∀ c ∈ letters.cps.toList, c ∈ signs.cps.toList := by decide +kernel
  exact this c h
theorem LR.oks {L R : Str} (x : LR L R) : ∀ y ∈ nmsOf L R, NmOk y := by
  have h1 : PyData.strOk L = true := strOk_of fun c hc => sign_ok (letter_sign (x.l c hc))
  have h2 : PyData.strOk R = true := strOk_of fun c hc => sign_ok (x.r c hc)
  intro y hy
  simp only [nmsOf, List.mem_cons, List.not_mem_nil, or_false] at hy
  have ln : ∀ q : Str, q.length ≤ 8 → (L ++ q ++ R).length ≤ 1000 := by
    intro q hq
    have a1 := x.ll
    have a2 := x.rl
    have e : (L ++ q ++ R).length = L.length + q.length + R.length := by
      show ((L.cps ++ q.cps) ++ R.cps).size = _
      rw [Array.size_append, Array.size_append]
      rfl
    omega
  rcases hy with rfl | rfl | rfl | rfl
  · exact ⟨by decide +kernel, by decide +kernel⟩
  · exact ⟨strOk_app (strOk_app h1 (by decide +kernel)) h2, ln _ (by decide +kernel)⟩
  · exact ⟨strOk_app (strOk_app h1 (by decide +kernel)) h2, ln _ (by decide +kernel)⟩
  · exact ⟨strOk_app (strOk_app h1 (by decide +kernel)) h2, ln _ (by decide +kernel)⟩
end EH
namespace EH
open PySem L2
local macro_rules | `(tactic| walk_at "sd") => `(tactic| first | assumption | ((with_reducible show (_ : Int) ≤ _); omega) | ((with_reducible show (_ : Int) < _); omega) | rfl | exact SqL.of (by assumption) | exact SqT.of (by assumption) | exact atI_nat (j := 0) rfl | exact atI_nat (j := 1) rfl | exact atI_nat (j := 2) rfl | exact atI_nat (j := 3) rfl | exact sz_lit rfl | exact lt_lit rfl | exact pos_lit rfl | exact le_lit rfl | exact Or.inl (SqL.of (by assumption)) | exact ⟨_, SqL.of (by assumption)⟩ | exact ⟨_, SqT.of (by assumption)⟩ | exact Or.inr (SqT.of (by assumption)) | exact ClsV.ty _ | exact TyX.base (TyOf.int _) | exact TyX.base (TyOf.str _) | exact TyX.base (TyOf.tup (by assumption)) | exact kit_ty isi_ss | exact kit_ty isi_is | exact kit_ty isi_ts | exact kit_ty isi_si | exact kit_ty isi_ii | exact kit_ty isi_ti | exact kit_ty isi_st | exact kit_ty isi_it | exact kit_ty isi_tt | exact Or.inl ⟨_, Or.inl (by assumption)⟩ | exact DGet.k (k := Sum.inr _) (by assumption) | exact DGet.k (k := Sum.inl _) (by assumption) | (refine cpow_of ?_; decide) | (refine cmul_of ?_; decide) | (show (_ : Int) ≠ 0; first | decide | omega) | (refine cdivn_of ?_; decide) | exact Or.inl ⟨rfl, _, SqL.of (by assumption)⟩ | omega)
local macro_rules | `(tactic| walk_at "st") => `(tactic| first | (apply Exists.intro) | (refine And.intro ?_ ?_; focus (walk_at "sd")) | (apply Or.inl; apply Exists.intro; refine And.intro ?_ ?_; focus rfl) | (apply Or.inr; apply Exists.intro; refine And.intro ?_ ?_; focus rfl))
local macro_rules | `(tactic| walk_at "go") => `(tactic| repeat (walk_at "st"))
section
variable {P : Program} {w : World} {K : PySem.W.Frag} {mg : Str → Option Value} {base : Heap}
theorem ok_l_names (T : Top K mg) : FnOk P w K mg base CX0 4 T.l_names.f T.l_names.fd ["_law_deck_here"] spNames := by
  have G_l_draw : FnOk P w K mg base CX0 1 T.l_draw.f T.l_draw.fd ["_law_deck_here", "_law_many"] spDraw := ok_l_draw T
  have G_l_one : FnOk P w K mg base CX0 2 T.l_one.f T.l_one.fd ["_law_deck_here", "_law_items"] (spOne K) := ok_l_one T
  have G_l_oneS : FnOk P w K mg base CX0 2 T.l_one.f T.l_one.fd ["_law_deck_here", "_law_items"] spOneS := ok_l_oneS T
  refine T.l_names.F.ok sc_l_names (fun vs H Q E h => ?_) (fun cdv A outer s H vs Q E hr h => ?_)
  · obtain ⟨a, c, m, rfl, _⟩ := h
    rfl
  obtain ⟨a, c, m, rfl, D0, hm, q⟩ := h
  have hu64 := hr.units
  refine ⟨_, (pss_cons (ps_set (i := 1) sc_l_names.nd rfl (.inr rfl) pe_str)
      (pss_cons (ps_set (i := 2) sc_l_names.nd rfl (.inr rfl) (pe_joinA pe_str (pe_lc (own := [("_law_k", 5)]) (by rfl) sc_l_names.nd (pi_range1 (by rfl) T.range (pa_cons (pe_call G_l_draw (hr.mono (by omega)) (by rfl) T.l_draw.g T.l_draw.F.kp T.l_draw.b .nil pass0 (pa_cons (pv 0) (pa_cons pe_int pa_nil))) pa_nil)) (blkOk_by (N := ["_law_deck_here", "_law_letters", "_law_left", "_law_signs", "_law_right", "_law_k"]) (sc := defScope s_l_names) (own := [("_law_k", 5)]) (by decide +kernel)) (fun _ _ _ _ _ => (pg_name (i := 5) sc_l_names.nd rfl (.inl rfl))) (fun _ _ _ _ _ => pts_nil) (fun _ _ _ _ _ => (pe_call G_l_oneS (hr.mono (by omega)) (by rfl) T.l_one.g T.l_one.F.kp T.l_one.b .nil pass0 (pa_cons (pv 0) (pa_cons (pv 1) pa_nil)))))))
      (pss_cons (ps_set (i := 3) sc_l_names.nd rfl (.inr rfl) (pe_op op_add_str (pv 1) pe_str))
      (pss_cons (ps_set (i := 4) sc_l_names.nd rfl (.inr rfl) (pe_joinA pe_str (pe_lc (own := [("_law_k", 5)]) (by rfl) sc_l_names.nd (pi_range1 (by rfl) T.range (pa_cons (pe_call G_l_draw (hr.mono (by omega)) (by rfl) T.l_draw.g T.l_draw.F.kp T.l_draw.b .nil pass0 (pa_cons (pv 0) (pa_cons pe_int pa_nil))) pa_nil)) (blkOk_by (N := ["_law_deck_here", "_law_letters", "_law_left", "_law_signs", "_law_right", "_law_k"]) (sc := defScope s_l_names) (own := [("_law_k", 5)]) (by decide +kernel)) (fun _ _ _ _ _ => (pg_name (i := 5) sc_l_names.nd rfl (.inl rfl))) (fun _ _ _ _ _ => pts_nil) (fun _ _ _ _ _ => (pe_call G_l_oneS (hr.mono (by omega)) (by rfl) T.l_one.g T.l_one.F.kp T.l_one.b .nil pass0 (pa_cons (pv 0) (pa_cons (pv 3) pa_nil)))))))
      (pss_one (ps_ret (pe_op op_catL (pe_lstA (pa_cons pe_str pa_nil)) (pe_lc (own := [("_law_k", 5)]) (by rfl) sc_l_names.nd (pi_range1 (by rfl) T.range (pa_cons pe_int pa_nil)) (blkOk_by (N := ["_law_deck_here", "_law_letters", "_law_left", "_law_signs", "_law_right", "_law_k"]) (sc := defScope s_l_names) (own := [("_law_k", 5)]) (by decide +kernel)) (fun _ _ _ _ _ => (pg_name (i := 5) sc_l_names.nd rfl (.inl rfl))) (fun _ _ _ _ _ => pts_nil) (fun _ _ _ _ _ => (pe_op op_add_str (pe_op op_add_str (pv 2) (pe_ix ix_str pe_str (pv 5) (fun _ _ => rfl))) (pv 4))))))))))), ?_⟩
  have hmM : m ≤ MANY := by show m ≤ 1000000000; omega
  have sg : (Str.ofString "abcdefgijkmoqruvwxyz").length + (Str.ofString "0123456789").length ≤ sizeLine := by decide +kernel
  obtain ⟨ll, ll2⟩ : 0 < (Str.ofString "abcdefgijkmoqruvwxyz").length ∧ (Str.ofString "abcdefgijkmoqruvwxyz").length ≤ 1000000 := by decide +kernel
  obtain ⟨sl, sl2⟩ : 0 < (Str.ofString "abcdefgijkmoqruvwxyz" ++ Str.ofString "0123456789").length ∧ (Str.ofString "abcdefgijkmoqruvwxyz" ++ Str.ofString "0123456789").length ≤ 1000000 := by decide +kernel
  walk_at "go"
  refine ⟨⟨_, rfl⟩, ?_⟩
  walk_at "go"
  intro r H1 r0 r1 DK1 k1
  walk_at "go"
  intro D1 hD1
  have oD1 := DK1.off hD1
  have ac1 : a ∉ [D1] ∧ c ∉ [D1] := by
    simp only [List.mem_cons, List.not_mem_nil, or_false, not_or] at oD1 ⊢
    exact ⟨fun z => oD1.1 z.symm, fun z => oD1.2 z.symm⟩
  refine lc_range (lo := 0) (n := Int.toNat r) (fun i X2 => Kp [a, c] H1 X2 ∧ ∃ cs : List Nat, X2 D1 = some (.lst ((sgl cs).map V.str)) ∧ (∀ i ∈ cs, i ∈ (Str.ofString "abcdefgijkmoqruvwxyz").cps.toList) ∧ cs.length = i ∧ Deck X2 a c ((m + 1) + (i : Int))) ⟨(Kp.new hD1).sub (by simp), [], upd_same, (fun _ z => nomatch z), rfl, (DK1.kp0 (Kp.new hD1)).cast (by simp)⟩ ?_ ?_
  · rintro i X2 hi ⟨kk2, cs, d2, c2, l2, DD2⟩
    have hmM : (m + 1) + (i : Int) ≤ MANY := by show (m + 1) + (i : Int) ≤ 1000000000; omega
    walk_at "go"
    intro ch X3 hch DD3 kk3
    have d3 := kk3.keep _ _ d2 oD1
    have l3 : ((sgl cs).map V.str).length < sizeLine := by
      rw [List.length_map]
      unfold sgl
      rw [List.length_map]
      exact sz_lt (by omega)
    walk_at "go"
    have kk4 := Kp.put (u := .lst ((sgl cs).map V.str ++ [.str ⟨#[ch]⟩])) d3 (fun _ y => by cases y)
    refine ⟨(kk2.trans kk3).step1 kk4 (.inr hD1), cs ++ [ch], ?_, ?_, by rw [List.length_append, l2]; rfl, ((DD3.kp kk4 ac1.1 ac1.2)).cast (by omega)⟩
    · rw [upd_same]
      unfold sgl
      rw [List.map_append, List.map_append]
      rfl
    · intro j hj
      rcases List.mem_append.mp hj with h | h
      · exact c2 j h
      · cases List.mem_singleton.mp h
        exact hch
  rintro E1 ⟨kE1, cs1, d1, c1, l1, DE1⟩
  have j1 := sgl_ok cs1 (by omega)
  refine ⟨Str.ofString "", D1, sgl cs1, rfl, rfl, d1, j1, ?_⟩
  rw [join_sgl]
  walk_at "go"
  refine ⟨⟨_, rfl⟩, ?_⟩
  have hmM : m + 1 + (r.toNat : Int) ≤ MANY := by show m + 1 + (r.toNat : Int) ≤ 1000000000; omega
  walk_at "go"
  intro q0 H3 q00 q01 D3 k3
  walk_at "go"
  intro D2 hD2
  have oD2 := D3.off hD2
  have ac2 : a ∉ [D2] ∧ c ∉ [D2] := by
    simp only [List.mem_cons, List.not_mem_nil, or_false, not_or] at oD2 ⊢
    exact ⟨fun z => oD2.1 z.symm, fun z => oD2.2 z.symm⟩
  refine lc_range (lo := 0) (n := Int.toNat q0) (fun i X2 => Kp [a, c] H3 X2 ∧ ∃ cs : List Nat, X2 D2 = some (.lst ((sgl cs).map V.str)) ∧ (∀ i ∈ cs, i ∈ (Str.ofString "abcdefgijkmoqruvwxyz" ++ Str.ofString "0123456789").cps.toList) ∧ cs.length = i ∧ Deck X2 a c ((m + 1 + (r.toNat : Int) + 1) + (i : Int))) ⟨(Kp.new hD2).sub (by simp), [], upd_same, (fun _ z => nomatch z), rfl, (D3.kp0 (Kp.new hD2)).cast (by simp)⟩ ?_ ?_
  · rintro i X2 hi ⟨kk2, cs, d2, c2, l2, DD2⟩
    have hmM : (m + 1 + (r.toNat : Int) + 1) + (i : Int) ≤ MANY := by show (m + 1 + (r.toNat : Int) + 1) + (i : Int) ≤ 1000000000; omega
    walk_at "go"
    intro ch X3 hch DD3 kk3
    have d3 := kk3.keep _ _ d2 oD2
    have l3 : ((sgl cs).map V.str).length < sizeLine := by
      rw [List.length_map]
      unfold sgl
      rw [List.length_map]
      exact sz_lt (by omega)
    walk_at "go"
    have kk4 := Kp.put (u := .lst ((sgl cs).map V.str ++ [.str ⟨#[ch]⟩])) d3 (fun _ y => by cases y)
    refine ⟨(kk2.trans kk3).step1 kk4 (.inr hD2), cs ++ [ch], ?_, ?_, by rw [List.length_append, l2]; rfl, ((DD3.kp kk4 ac2.1 ac2.2)).cast (by omega)⟩
    · rw [upd_same]
      unfold sgl
      rw [List.map_append, List.map_append]
      rfl
    · intro j hj
      rcases List.mem_append.mp hj with h | h
      · exact c2 j h
      · cases List.mem_singleton.mp h
        exact hch
  rintro E2 ⟨kE2, cs2, d2, c2, l2, DE2⟩
  have j2 := sgl_ok cs2 (by omega)
  refine ⟨Str.ofString "", D2, sgl cs2, rfl, rfl, d2, j2, ?_⟩
  rw [join_sgl]
  have x : LR ⟨cs1.toArray⟩ ⟨cs2.toArray⟩ := ⟨c1, c2, by show cs1.toArray.size ≤ 8; rw [List.size_toArray]; omega, by show cs2.toArray.size ≤ 8; rw [List.size_toArray]; omega⟩
  generalize hL : (⟨cs1.toArray⟩ : Str) = L at x
  generalize hR : (⟨cs2.toArray⟩ : Str) = R at x
  have xl := x.ll
  have xr := x.rl
  walk_at "go"
  intro u5 H5 hu5 e5
  have k5 := new_kp hu5 e5
  have a5 := new_at e5
  walk_at "go"
  intro D6 hD6
  have key : ∀ i : Nat, i < 3 → ∃ ch : Nat, atI ((Str.ofString "qxz").cps.toList) (0 + (i : Int)) = some ch ∧ (nmsOf L R).tail[i]? = some (L ++ ⟨#[ch]⟩ ++ R) := by
    intro i hi
    rcases (show i = 0 ∨ i = 1 ∨ i = 2 by omega) with rfl | rfl | rfl
    · exact ⟨113, by decide +kernel, by rw [show (⟨#[113]⟩ : Str) = "q" by decide +kernel]; rfl⟩
    · exact ⟨120, by decide +kernel, by rw [show (⟨#[120]⟩ : Str) = "x" by decide +kernel]; rfl⟩
    · exact ⟨122, by decide +kernel, by rw [show (⟨#[122]⟩ : Str) = "z" by decide +kernel]; rfl⟩
  refine lc_range (lo := 0) (n := Int.toNat 3) (fun i X2 => Kp [D6] H5 X2 ∧ X2 D6 = some (.lst (((nmsOf L R).tail.take i).map V.str))) ⟨(Kp.new hD6).sub (by simp), upd_same⟩ ?_ ?_
  · rintro i X2 hi ⟨kk2, d2⟩
    have hi3 : i < 3 := hi
    obtain ⟨ch, hat, hn⟩ := key i hi3
    have s1 : L.length + (⟨#[ch]⟩ : Str).length ≤ sizeLine := sz_le (show L.length + 1 ≤ 1000000 by omega)
    have e1 : (L ++ ⟨#[ch]⟩ : Str).length = L.length + 1 := by
      show (L.cps ++ #[ch]).size = L.cps.size + 1
      rw [Array.size_append]
      rfl
    have s2 : (L ++ ⟨#[ch]⟩ : Str).length + R.length ≤ sizeLine := sz_le (by omega)
    have l3 : (((nmsOf L R).tail.take i).map V.str).length < sizeLine := by
      rw [List.length_map, List.length_take]
      exact sz_lt (by omega)
    walk_at "go"
    have kk4 := Kp.put (u := .lst (((nmsOf L R).tail.take i).map V.str ++ [.str (L ++ ⟨#[ch]⟩ ++ R)])) d2 (fun _ y => by cases y)
    refine ⟨kk2.step1 kk4 (.inl (by simp)), ?_⟩
    rw [upd_same, List.take_add_one, hn, List.map_append]
    rfl
  · rintro X2 ⟨kk2, d2⟩
    have a5' := kk2.keep _ _ a5 (ne1 (ne_of_none a5 hD6))
    walk_at "go"
    intro nm H7 hnm a7 k7
    have kE : Kp [a, c] H E2 := ((k1.trans kE1).trans k3).trans kE2
    have k5E : Kp [a, c] H H5 := kE.step0 k5
    have oD6 := (DE2.kp0 k5).off hD6
    have ac6 : a ∉ [D6] ∧ c ∉ [D6] := by
      simp only [List.mem_cons, List.not_mem_nil, or_false, not_or] at oD6 ⊢
      exact ⟨fun z => oD6.1 z.symm, fun z => oD6.2 z.symm⟩
    have kX := k5E.step1 kk2 (.inr (k5E.free hD6 oD6))
    have DX := (DE2.kp0 k5).kp kk2 ac6.1 ac6.2
    refine q nm L R H7 _ (kX.free hnm (DX.off hnm)) x ⟨a7, DX.off hnm, ⟨by show 0 < 4; decide, by show 4 ≤ 1000; decide⟩, x.oks⟩ ?_ ?_ (DX.kp0 k7) (kX.step0 k7)
    · omega
    · omega
end
end EH
namespace EH
open PySem L2
theorem iteB {b : Bool} {p q : Prop} (h1 : b = true → p) (h2 : b = false → q) : if b = true then p else q := by
  cases b with
  | true => exact h1 rfl
  | false => exact h2 rfl
/-! ### against an empty list, an empty tuple -/
def rNeNil : R2 := fun x y H Q => ∃ a b xs, x = .ref a ∧ y = .ref b ∧ H a = some (.lst xs) ∧ H b = some (.lst []) ∧ Q (.bl (!xs.isEmpty)) H
def rEqNil : R2 := fun x y H Q => ∃ a b xs, x = .ref a ∧ y = .ref b ∧ H a = some (.lst xs) ∧ H b = some (.lst []) ∧ Q (.bl xs.isEmpty) H
def rNeNilT : R2 := fun x y H Q => ∃ a b xs, x = .ref a ∧ y = .ref b ∧ H a = some (.tup xs) ∧ H b = some (.tup []) ∧ Q (.bl (!xs.isEmpty)) H
def rEqNilT : R2 := fun x y H Q => ∃ a b xs, x = .ref a ∧ y = .ref b ∧ H a = some (.tup xs) ∧ H b = some (.tup []) ∧ Q (.bl xs.isEmpty) H
section
variable {X : Cx}
theorem nil_len {xs : List V} {its : List Value} (r : Vals xs its) : its.toArray.size = 0 ↔ xs.isEmpty = true := by
  have := r.length
  rw [List.size_toArray, ← this]
  cases xs with
  | nil => exact ⟨fun _ => rfl, fun _ => rfl⟩
  | cons a b => exact ⟨fun z => (nomatch z), fun z => (nomatch z)⟩
theorem op_neNil (hu : X.A.units + 1 < cLine) : OpR X (compareOp .NotEq) rNeNil := by
  intro pins s σ H x y v u Q I rx ry h
  obtain ⟨a, b, xs, rfl, rfl, ha, hb, q⟩ := h
  cases rx
  cases ry
  obtain ⟨its, r, ht, hz⟩ := I.list (SqL.of ha)
  obtain ⟨its2, r2, ht2, hz2⟩ := I.list (SqL.of hb)
  have e2 := nil_len r2
  have e1 := nil_len r
  have z2 : its2.toArray.size = 0 := e2.mpr rfl
  cases xs with
  | nil =>
    have z1 : its.toArray.size = 0 := e1.mpr rfl
    refine SeqAt.RcNeAt.lists ht.isList ht2.isList (z1.trans z2.symm) (by omega) (e := fun _ => true) (fun j h1 _ => absurd h1 (by omega)) _ _ _ _ ?_
    exact ⟨.bl _, H, I, by rw [z1]; rfl, q⟩
  | cons c d =>
    refine SeqAt.RcNeAt.lists_lengths ht.isList ht2.isList ?_ (by omega) _ _ _ _ ⟨.bl _, H, I, rfl, q⟩
    have : its.toArray.size ≠ 0 := fun z => by have := e1.mp z; cases this
    rw [z2]
    simpa using this
theorem op_eqNil (hu : X.A.units + 1 < cLine) : OpR X (compareOp .Eq) rEqNil := by
  intro pins s σ H x y v u Q I rx ry h
  obtain ⟨a, b, xs, rfl, rfl, ha, hb, q⟩ := h
  cases rx
  cases ry
  obtain ⟨its, r, ht, hz⟩ := I.list (SqL.of ha)
  obtain ⟨its2, r2, ht2, hz2⟩ := I.list (SqL.of hb)
  have e2 := nil_len r2
  have e1 := nil_len r
  have z2 : its2.toArray.size = 0 := e2.mpr rfl
  cases xs with
  | nil =>
    have z1 : its.toArray.size = 0 := e1.mpr rfl
    refine SeqAt.RcAt.lists ht.isList ht2.isList (z1.trans z2.symm) (by omega) (e := fun _ => true) (fun j h1 _ => absurd h1 (by omega)) _ _ _ _ ?_
    exact ⟨.bl _, H, I, by rw [z1]; rfl, q⟩
  | cons c d =>
    refine SeqAt.RcAt.lists_lengths ht.isList ht2.isList ?_ (by omega) _ _ _ _ ⟨.bl _, H, I, rfl, q⟩
    have : its.toArray.size ≠ 0 := fun z => by have := e1.mp z; cases this
    rw [z2]
    simpa using this
theorem op_neNilT (hu : X.A.units + 1 < cLine) : OpR X (compareOp .NotEq) rNeNilT := by
  intro pins s σ H x y v u Q I rx ry h
  obtain ⟨a, b, xs, rfl, rfl, ha, hb, q⟩ := h
  cases rx
  cases ry
  obtain ⟨its, r, ht, hz⟩ := I.tuple (SqT.of ha)
  obtain ⟨its2, r2, ht2, hz2⟩ := I.tuple (SqT.of hb)
  have e2 := nil_len r2
  have e1 := nil_len r
  have z2 : its2.toArray.size = 0 := e2.mpr rfl
  refine SeqAt.RcNeAt.tuples ht ht2 (by omega) (e := fun _ => true) (fun j h1 h2 => absurd h2 (by omega)) _ _ _ _ ⟨.bl _, H, I, ?_, q⟩
  rw [z2, Nat.min_zero]
  show Value.bool (!(true && its.toArray.size == 0)) = Value.bool (!xs.isEmpty)
  cases xs with
  | nil => rw [e1.mpr rfl]; rfl
  | cons c d =>
    have : its.toArray.size ≠ 0 := fun z => by have := e1.mp z; cases this
    rw [show (its.toArray.size == 0) = false from beq_false_of_ne this]
    rfl
theorem op_eqNilT (hu : X.A.units + 1 < cLine) : OpR X (compareOp .Eq) rEqNilT := by
  intro pins s σ H x y v u Q I rx ry h
  obtain ⟨a, b, xs, rfl, rfl, ha, hb, q⟩ := h
  cases rx
  cases ry
  obtain ⟨its, r, ht, hz⟩ := I.tuple (SqT.of ha)
  obtain ⟨its2, r2, ht2, hz2⟩ := I.tuple (SqT.of hb)
  have e2 := nil_len r2
  have e1 := nil_len r
  have z2 : its2.toArray.size = 0 := e2.mpr rfl
  refine SeqAt.RcAt.tuples ht ht2 (by omega) (e := fun _ => true) (fun j h1 h2 => absurd h2 (by omega)) _ _ _ _ ⟨.bl _, H, I, ?_, q⟩
  rw [z2, Nat.min_zero]
  show Value.bool (true && its.toArray.size == 0) = Value.bool xs.isEmpty
  cases xs with
  | nil => rw [e1.mpr rfl]; rfl
  | cons c d =>
    have : its.toArray.size ≠ 0 := fun z => by have := e1.mp z; cases this
    rw [show (its.toArray.size == 0) = false from beq_false_of_ne this]
    rfl
/-! ### xs[::-1], xs.pop() -/
def tRevA (K : PySem.W.Frag) (te : TE) : TE := fun σ H Q => te σ H fun x H1 => ∃ a xs, x = .ref a ∧ SqL K H1 a xs ∧ ∀ p H2, H1 p = none → H2 = upd H1 p (.lst xs.reverse) → Q (.ref p) H2
theorem pe_revLA {K : PySem.W.Frag} {e : Expr} {te : TE} {k : Nat} {p1 p2 p3 pos : Pos} (hK : X.K = K) (he : PE X e te) : PE X (.Subscript e (.Slice none none (some (.UnaryOp .USub (.Constant (.int 1) k p1) p2)) p3) pos) (tRevA K te) := by
  subst hK
  refine PE.imp (pe_revL he) fun σ H Q q => ?_
  unfold tRevL
  unfold tRevA at q
  have z : (fun (x : V) (H1 : Hp) => ∃ a xs, x = .ref a ∧ SqL X.K H1 a xs ∧ ∀ p, H1 p = none → Q (.ref p) (upd H1 p (.lst xs.reverse))) = (fun (x : V) (H1 : Hp) => ∃ a xs, x = .ref a ∧ SqL X.K H1 a xs ∧ ∀ p H2, H1 p = none → H2 = upd H1 p (.lst xs.reverse) → Q (.ref p) H2) := by
    funext x H1
    exact propext ⟨fun ⟨a, xs, e, h, q⟩ => ⟨a, xs, e, h, fun p H2 hp e2 => e2 ▸ q p hp⟩, fun ⟨a, xs, e, h, q⟩ => ⟨a, xs, e, h, fun p hp => q p _ hp rfl⟩⟩
  rw [z]
  exact q
def rPopA : V → List V → Hp → VK → Prop := fun x vs H Q => ∃ l xs y, x = .ref l ∧ vs = [] ∧ H l = some (.lst (xs ++ [y])) ∧ PutQ H l (.lst xs) (Q y)
theorem mt_popA : MtR X "list.pop" rPopA := MtR.imp mt_pop fun x vs H Q ⟨l, xs, y, e1, e2, h1, q⟩ => ⟨l, xs ++ [y], y, e1, e2, h1, by simp, by rw [List.dropLast_concat]; exact q.to h1 (fun _ z => by cases z)⟩
end
end EH
namespace EH
open PySem L2
/-! ### what program_error asks, on data -/
def LETS : Str := "abcdefghijklmnopqrstuvwxyz"
def SGNS : Str := "abcdefghijklmnopqrstuvwxyz0123456789"
def KEPTS : List V := [.str "half", .str "tell", .str "say", .str "stop", .str "if", .str "else", .str "repeat", .str "pass", .str "odd", .str "not", .str "program"]
def wholeB (lo hi : Int) : PyData → Bool
  | .int i => decide (lo ≤ i) && decide (i ≤ hi)
  | _ => false
def sgnsB (z : Str) : Bool := z.cps.toList.all fun c => decide (c ∈ SGNS.cps.toList)
def lenB (z : Str) : Bool := decide (1 ≤ (z.length : Int)) && decide ((z.length : Int) ≤ 8)
def wordB : PyData → Bool
  | .str z => lenB z && sgnsB z
  | _ => false
def headB (z : Str) : Bool := match z.cps.toList with
  | [] => false
  | c :: _ => decide (c ∈ LETS.cps.toList)
def nameB : PyData → Bool
  | .str z => lenB z && headB z && sgnsB z && !inV (.str z) KEPTS
  | _ => false
def exprB : Nat → PyData → Bool
  | 0, _ => false
  | n + 1, .tuple [.str k, b, c] => exprB n c && (if k = "times" then wholeB (-9) 9 b else inV (.str k) [.str "plus", .str "minus"] && exprB n b)
  | n + 1, .tuple _ => false
  | n + 1, d => nameB d || wholeB (-99) 99 d
def testB : Nat → PyData → Bool
  | n, .tuple [.str k, b, c] => decide (k = "less") && exprB 3 b && exprB 3 c
  | 0, .tuple [.str k, b] => decide (k = "odd") && exprB 3 b
  | n + 1, .tuple [.str k, b] => if k = "odd" then exprB 3 b else decide (k = "not") && testB n b
  | _, _ => false
def plainB : PyData → Bool
  | .tuple [.str k, b, c] => inV (.str k) [.str "set", .str "half"] && nameB b && exprB 3 c
  | .tuple [.str k, b] => if k = "tell" then exprB 3 b else inV (.str k) [.str "say", .str "stop"] && wordB b
  | _ => false
def isTupB : PyData → Bool
  | .tuple _ => true
  | _ => false
def stmtB : PyData → Bool
  | .tuple [.str k, t, y, n] => decide (k = "if") && testB 2 t && isTupB y && isTupB n
  | .tuple [.str k, t, b] => if k = "repeat" then wholeB 0 8 t && isTupB b else plainB (.tuple [.str k, t, b])
  | .tuple [.str k, b] => plainB (.tuple [.str k, b])
  | _ => false
mutual
/-- no text is longer than the line -/
def Szd : PyData → Prop
  | .str z => z.length ≤ 1000000
  | .tuple ds => Szds ds
  | .none => True
  | .bool _ => True
  | .int _ => True
  | .list _ => True
  | .dict _ => True
def Szds : List PyData → Prop
  | [] => True
  | d :: r => Szd d ∧ Szds r
end
theorem Szds.get : ∀ {ds : List PyData} {i : Nat} {d : PyData}, Szds ds → ds[i]? = some d → Szd d
  | [], i, d, h, e => by simp at e
  | x :: r, 0, d, h, e => by
    simp only [Szds] at h
    cases e
    exact h.1
  | x :: r, i + 1, d, h, e => by
    simp only [Szds] at h
    exact Szds.get (i := i) h.2 e
def spWhole : Sp := fun vs H Q _ => ∃ (v : V) (d : PyData) (lo hi : Int), vs = [v, .int lo, .int hi] ∧ Tr H d v ∧ Q (.bl (wholeB lo hi d)) H
def spBoolD (f : PyData → Bool) : Sp := fun vs H Q _ => ∃ (v : V) (d : PyData), vs = [v] ∧ Tr H d v ∧ Szd d ∧ ∀ H', Kp [] H H' → Q (.bl (f d)) H'
def spBoolN (f : Nat → PyData → Bool) (n : Nat) : Sp := fun vs H Q _ => ∃ (v : V) (d : PyData) (m : Int), vs = [v, .int m] ∧ m = (n : Int) ∧ Tr H d v ∧ Szd d ∧ ∀ H', Kp [] H H' → Q (.bl (f n d)) H'
theorem dec_str (a b : Str) : decide (V.str a = V.str b) = decide (a = b) := decide_eq_decide.mpr ⟨fun h => V.str.inj h, fun h => by rw [h]⟩
theorem dec_len {α : Type} {l : List α} {n : Nat} (h : l.length ≠ n) : decide (V.int (l.length : Int) = V.int (n : Int)) = false := by
  rw [dec_int]
  exact decide_eq_false (by omega)
theorem in2 {k a b : Str} (h : inV (.str k) [.str a, .str b] = true) : k = a ∨ k = b := by
  unfold inV at h
  simp only [List.any_cons, List.any_nil, Bool.or_false, Bool.or_eq_true] at h
  rcases h with h | h
  · exact .inl (by simpa [eqV] using h : a = k).symm
  · exact .inr (by simpa [eqV] using h : b = k).symm
theorem isi_tup {K : PySem.W.Frag} {H : Hp} {d : PyData} {v : V} (h : Tr H d v) : ∃ t, TyX K H v t ∧ PySem.W.kitOne K t (.type "tuple") = some (isTupB d) := by
  cases d with
  | none => simp only [Tr] at h; subst h; exact ⟨_, .base .non, kit_ty (by decide +kernel)⟩
  | bool b => simp only [Tr] at h; subst h; exact ⟨_, .base (.bl _), kit_ty (show kitB "bool" "tuple" = some false by decide +kernel)⟩
  | int b => simp only [Tr] at h; subst h; exact ⟨_, .base (.int _), kit_ty (show kitB "int" "tuple" = some false by decide +kernel)⟩
  | str b => simp only [Tr] at h; subst h; exact ⟨_, .base (.str _), kit_ty (show kitB "str" "tuple" = some false by decide +kernel)⟩
  | list ds => simp only [Tr] at h
  | dict ds => simp only [Tr] at h
  | tuple ds =>
    obtain ⟨a, xs, rfl, h1, _⟩ := tr_tup h
    exact ⟨_, .base (.tup h1), kit_ty (show kitB "tuple" "tuple" = some true by decide +kernel)⟩
def spStmt (f : PyData → Bool) : Sp := fun vs H Q _ => ∃ (v : V) (k : Str) (ds : List PyData), vs = [v] ∧ Tr H (.tuple (.str k :: ds)) v ∧ Szds ds ∧ ∀ H', Kp [] H H' → Q (.bl (f (.tuple (.str k :: ds)))) H'
theorem isi_bs : kitB "bool" "str" = some false := by decide +kernel
theorem isi_bi : kitB "bool" "int" = some true := by decide +kernel
theorem isi_bt : kitB "bool" "tuple" = some false := by decide +kernel
theorem isi_bb : kitB "bool" "bool" = some true := by decide +kernel
theorem isi_ns : kitB "NoneType" "str" = some false := by decide +kernel
theorem isi_ni : kitB "NoneType" "int" = some false := by decide +kernel
theorem isi_nt : kitB "NoneType" "tuple" = some false := by decide +kernel
theorem isi_nb : kitB "NoneType" "bool" = some false := by decide +kernel
theorem isi_sb : kitB "str" "bool" = some false := by decide +kernel
theorem isi_ib : kitB "int" "bool" = some false := by decide +kernel
theorem isi_tb : kitB "tuple" "bool" = some false := by decide +kernel
end EH
namespace EH
open PySem L2
local macro_rules | `(tactic| walk_at "sd") => `(tactic| first | assumption | ((with_reducible show (_ : Int) ≤ _); omega) | ((with_reducible show (_ : Int) < _); omega) | rfl | exact SqL.of (by assumption) | exact SqT.of (by assumption) | exact atI_nat (j := 0) rfl | exact atI_nat (j := 1) rfl | exact atI_nat (j := 2) rfl | exact atI_nat (j := 3) rfl | exact sz_lit rfl | exact lt_lit rfl | exact pos_lit rfl | exact le_lit rfl | exact Or.inl (SqL.of (by assumption)) | exact ⟨_, SqL.of (by assumption)⟩ | exact ⟨_, SqT.of (by assumption)⟩ | exact Or.inr (SqT.of (by assumption)) | exact ClsV.ty _ | exact TyX.base (TyOf.int _) | exact TyX.base (TyOf.str _) | exact TyX.base (TyOf.tup (by assumption)) | exact kit_ty isi_ss | exact kit_ty isi_is | exact kit_ty isi_ts | exact kit_ty isi_si | exact kit_ty isi_ii | exact kit_ty isi_ti | exact kit_ty isi_st | exact kit_ty isi_it | exact kit_ty isi_tt | exact TyX.base TyOf.non | exact TyX.base (TyOf.bl _) | exact kit_ty isi_bs | exact kit_ty isi_bi | exact kit_ty isi_bt | exact kit_ty isi_bb | exact kit_ty isi_ns | exact kit_ty isi_ni | exact kit_ty isi_nt | exact kit_ty isi_nb | exact kit_ty isi_sb | exact kit_ty isi_ib | exact kit_ty isi_tb | exact Or.inl ⟨_, Or.inl (by assumption)⟩ | exact DGet.k (k := Sum.inr _) (by assumption) | exact DGet.k (k := Sum.inl _) (by assumption) | (refine cpow_of ?_; decide) | (refine cmul_of ?_; decide) | (show (_ : Int) ≠ 0; first | decide | omega) | (refine cdivn_of ?_; decide) | exact Or.inl ⟨rfl, _, SqL.of (by assumption)⟩ | omega)
local macro_rules | `(tactic| walk_at "st") => `(tactic| first | (apply Exists.intro) | (refine And.intro ?_ ?_; focus (walk_at "sd")) | (apply Or.inl; apply Exists.intro; refine And.intro ?_ ?_; focus rfl) | (apply Or.inr; apply Exists.intro; refine And.intro ?_ ?_; focus rfl))
local macro_rules | `(tactic| walk_at "go") => `(tactic| repeat (walk_at "st"))
section
variable {P : Program} {w : World} {K : PySem.W.Frag} {mg : Str → Option Value} {base : Heap}
theorem ok_is_whole (T : Top K mg) {k : Nat} : FnOk P w K mg base CX0 (k + 1) T.is_whole.f T.is_whole.fd ["value", "least", "most"] spWhole := by
  refine T.is_whole.F.ok sc_is_whole (fun vs H Q E h => ?_) (fun cdv A outer s H vs Q E hr h => ?_)
  · obtain ⟨v, d, lo, hi, rfl, _⟩ := h
    rfl
  obtain ⟨v, d, lo, hi, rfl, hT, q⟩ := h
  refine ⟨_, (pss_one (ps_ret (pe_and (pe_callB (id := "isinstance") (call_isiK (K := K) rfl) (by rfl) T.isinstance (by decide +kernel) (pa_cons (pv 0) (pa_cons (pe_bltn (v := .ty "int") (u := .type "int") (by rfl) T.int (by decide +kernel) rfl) pa_nil))) (pe_and (pe_not (pe_callB (id := "isinstance") (call_isiK (K := K) rfl) (by rfl) T.isinstance (by decide +kernel) (pa_cons (pv 0) (pa_cons (pe_bltn (v := .ty "bool") (u := .type "bool") (by rfl) T.bool (by decide +kernel) rfl) pa_nil)))) (pe_one (pe_chain op_le op_le (pv 1) (pv 0) (pv 2))))))), ?_⟩
  cases d with
  | none => simp only [Tr] at hT; subst hT; walk_at "go"; exact q
  | bool b => simp only [Tr] at hT; subst hT; walk_at "go"; exact q
  | str z => simp only [Tr] at hT; subst hT; walk_at "go"; exact q
  | tuple ds =>
    obtain ⟨a, xs, rfl, h1, h2⟩ := tr_tup hT
    walk_at "go"
    exact q
  | list ds => simp only [Tr] at hT
  | dict ds => simp only [Tr] at hT
  | int i =>
    simp only [Tr] at hT
    subst hT
    replace q : Q (.bl (decide (lo ≤ i) && decide (i ≤ hi))) H := q
    walk_at "go"
    refine iteB (fun hc => ?_) (fun hc => ?_)
    · walk_at "go"
      rw [hc] at q
      exact q
    · rw [hc] at q
      exact q
theorem signs_ok {H : Hp} {D : Addr} {z : Str} (d : H D = some (.lst ((z.cps.toList.filter fun c => !decide (c ∈ SGNS.cps.toList)).map fun c => V.str ⟨#[c]⟩))) : (List.map (fun c => V.str ⟨#[c]⟩) (z.cps.toList.filter fun c => !decide (c ∈ SGNS.cps.toList))).isEmpty = sgnsB z := by
  unfold sgnsB
  generalize z.cps.toList = l
  induction l with
  | nil => rfl
  | cons c r ih =>
    cases hc : decide (c ∈ SGNS.cps.toList) with
    | true =>
      rw [List.filter_cons_of_neg (by rw [hc]; simp), List.all_cons, hc, ih]
      rfl
    | false =>
      rw [List.filter_cons_of_pos (by rw [hc]; rfl), List.all_cons, hc]
      rfl
theorem ok_is_word (T : Top K mg) {k : Nat} : FnOk P w K mg base CX0 (k + 1) T.is_word.f T.is_word.fd ["value"] (spBoolD wordB) := by
  refine T.is_word.F.ok sc_is_word (fun vs H Q E h => ?_) (fun cdv A outer s H vs Q E hr h => ?_)
  · obtain ⟨v, d, rfl, _⟩ := h
    rfl
  obtain ⟨v, d, rfl, hT, sz, q⟩ := h
  have hu := hu_of hr
  refine ⟨_, (pss_cons (ps_if (PW.pt (pw_or (pt_not (pt_val (pe_callB (id := "isinstance") (call_isiK (K := K) rfl) (by rfl) T.isinstance (by decide +kernel) (pa_cons (pv 0) (pa_cons (pe_bltn (v := .ty "str") (u := .type "str") (by rfl) T.str (by decide +kernel) rfl) pa_nil))))) (pw_or1 (pt_not (pt_chain op_le op_le pe_int (pe_callB (id := "len") call_len_str (by rfl) T.len PySem.boot_len (pa_cons (pv 0) pa_nil)) (pe_glob (v := .int 8) (by rfl) T.g_MAX_WORD ⟨_, rfl⟩)))))) (pss_one (ps_ret pe_bl)) pss_nil)
      (pss_one (ps_ret (pe_cmpR (op_eqNil hu) (pe_lc (own := [("sign", 1)]) (by rfl) sc_is_word.nd (pi_str (pv 0)) (blkOk_by (N := ["value", "sign"]) (sc := defScope s_is_word) (own := [("sign", 1)]) (by decide +kernel)) (fun _ _ _ _ _ => (pg_name (i := 1) sc_is_word.nd rfl (.inl rfl))) (fun _ _ _ _ _ => (pts_one (pt_cmpR op_notIn_sign (pv 1) (pe_glob (v := .str "abcdefghijklmnopqrstuvwxyz0123456789") (by rfl) T.g_SIGNS ⟨_, rfl⟩) (by rfl)))) (fun _ _ _ _ _ => (pv 1))) (pe_lstA pa_nil) (nomark _))))), ?_⟩
  cases d with
  | none => simp only [Tr] at hT; subst hT; walk_at "go"; exact q H Kp.refl
  | bool b => simp only [Tr] at hT; subst hT; walk_at "go"; exact q H Kp.refl
  | int b => simp only [Tr] at hT; subst hT; walk_at "go"; exact q H Kp.refl
  | tuple ds =>
    obtain ⟨a, xs, rfl, h1, h2⟩ := tr_tup hT
    walk_at "go"
    exact q H Kp.refl
  | list ds => simp only [Tr] at hT
  | dict ds => simp only [Tr] at hT
  | str z =>
    simp only [Tr] at hT
    subst hT
    have lz : z.length ≤ sizeLine := sz_le (by simpa only [Szd] using sz)
    replace q : ∀ H', Kp [] H H' → Q (.bl ((decide (1 ≤ (z.length : Int)) && decide ((z.length : Int) ≤ 8)) && sgnsB z)) H' := q
    walk_at "go"
    refine iteB (fun h1 => ?_) (fun h1 => ?_)
    · walk_at "go"
      refine iteB (fun h2 => ?_) (fun h2 => ?_)
      · replace h2 := PyProof.Rows.false_of_not_true h2
        have q2 := q H Kp.refl
        rw [h1, h2] at q2
        exact q2
      · replace h2 := PyProof.Rows.true_of_not_false h2
        rw [h1, h2] at q
        walk_at "go"
        intro D hD
        refine lc_it walk_str (fun i X2 => Lp (Kp [D] H X2 ∧ X2 D = some (.lst (((z.cps.toList.take i).filter fun c => !decide (c ∈ SGNS.cps.toList)).map fun c => V.str ⟨#[c]⟩)))) ⟨(Kp.new hD).sub (by simp), upd_same⟩ (fun _ _ _ _ => trivial) ?_ ?_
        · rintro i x X2 X3 hi ⟨⟨kX, dX⟩⟩ ⟨rfl, c, hc, rfl⟩
          have ht : z.cps.toList.take (i + 1) = z.cps.toList.take i ++ [c] := by
            rw [List.take_add_one, Array.getElem?_toList, hc]
            rfl
          have sa : (((z.cps.toList.take i).filter fun c => !decide (c ∈ SGNS.cps.toList)).map fun c => V.str ⟨#[c]⟩).length < sizeLine := by
            have := List.length_filter_le (fun c => !decide (c ∈ SGNS.cps.toList)) (z.cps.toList.take i)
            rw [List.length_take] at this
            rw [List.length_map]
            exact sz_lt (by have := (show z.length ≤ 1000000 by simpa only [Szd] using sz); have : z.cps.toList.length = z.length := Array.length_toList; omega)
          walk_at "go"
          refine iteB (fun hc2 => ?_) (fun hc2 => ?_)
          · walk_at "go"
            refine ⟨⟨kX.step1 (Kp.put dX (fun _ z => by cases z)) (.inl (by simp)), ?_⟩⟩
            rw [upd_same, ht, List.filter_append, List.map_append]
            rw [List.filter_cons_of_pos (p := fun c => !decide (c ∈ SGNS.cps.toList)) (show (!decide (c ∈ SGNS.cps.toList)) = true from hc2)]
            rfl
          · refine ⟨⟨kX, ?_⟩⟩
            rw [dX, ht, List.filter_append, List.filter_cons_of_neg (p := fun c => !decide (c ∈ SGNS.cps.toList)) (by show ¬ ((!decide (c ∈ SGNS.cps.toList)) = true); rw [show (!decide (c ∈ SGNS.cps.toList)) = false from hc2]; simp), List.filter_nil, List.append_nil]
        · rintro X2 ⟨⟨kX, dX⟩⟩
          rw [List.take_of_length_le (by rw [Array.length_toList]; exact Nat.le_refl _)] at dX
          have es := signs_ok dX
          have kX' : Kp [] H X2 := Kp.refl.step1 kX (.inr hD)
          walk_at "go"
          intro l3 X3 hl3 e3
          have k3 := new_kp hl3 e3
          have a3 := new_at e3
          refine ⟨D, l3, _, rfl, rfl, k3.at dX, a3, ?_⟩
          rw [es]
          exact q X3 (kX'.step0 k3)
    · have q2 := q H Kp.refl
      rw [h1] at q2
      walk_at "go"
      exact q2
theorem ok_is_name (T : Top K mg) {k : Nat} : FnOk P w K mg base CX0 (k + 1) T.is_name.f T.is_name.fd ["value"] (spBoolD nameB) := by
  refine T.is_name.F.ok sc_is_name (fun vs H Q E h => ?_) (fun cdv A outer s H vs Q E hr h => ?_)
  · obtain ⟨v, d, rfl, _⟩ := h
    rfl
  obtain ⟨v, d, rfl, hT, sz, q⟩ := h
  have hu := hu_of hr
  refine ⟨_, (pss_cons (ps_if (PW.pt (pw_or (pt_not (pt_val (pe_callB (id := "isinstance") (call_isiK (K := K) rfl) (by rfl) T.isinstance (by decide +kernel) (pa_cons (pv 0) (pa_cons (pe_bltn (v := .ty "str") (u := .type "str") (by rfl) T.str (by decide +kernel) rfl) pa_nil))))) (pw_or (pt_not (pt_chain op_le op_le pe_int (pe_callB (id := "len") call_len_str (by rfl) T.len PySem.boot_len (pa_cons (pv 0) pa_nil)) (pe_glob (v := .int 8) (by rfl) T.g_MAX_NAME ⟨_, rfl⟩))) (pw_or1 (pt_cmpR op_notIn_sign (pe_ix ix_str (pv 0) pe_int (fun _ _ => rfl)) (pe_glob (v := .str "abcdefghijklmnopqrstuvwxyz") (by rfl) T.g_LETTERS ⟨_, rfl⟩) (by rfl)))))) (pss_one (ps_ret pe_bl)) pss_nil)
      (pss_one (ps_ret (pe_and (pe_cmpR (op_eqNil hu) (pe_lc (own := [("sign", 1)]) (by rfl) sc_is_name.nd (pi_str (pv 0)) (blkOk_by (N := ["value", "sign"]) (sc := defScope s_is_name) (own := [("sign", 1)]) (by decide +kernel)) (fun _ _ _ _ _ => (pg_name (i := 1) sc_is_name.nd rfl (.inl rfl))) (fun _ _ _ _ _ => (pts_one (pt_cmpR op_notIn_sign (pv 1) (pe_glob (v := .str "abcdefghijklmnopqrstuvwxyz0123456789") (by rfl) T.g_SIGNS ⟨_, rfl⟩) (by rfl)))) (fun _ _ _ _ _ => (pv 1))) (pe_lstA pa_nil) (nomark _)) (pe_one (pe_cmpR (op_notIn_seqK (K := K) rfl) (pv 0) (pe_glob (v := .ref T.KEPT) (by rfl) T.g_KEPT rfl) (by rfl))))))), ?_⟩
  cases d with
  | none => simp only [Tr] at hT; subst hT; walk_at "go"; exact q H Kp.refl
  | bool b => simp only [Tr] at hT; subst hT; walk_at "go"; exact q H Kp.refl
  | int b => simp only [Tr] at hT; subst hT; walk_at "go"; exact q H Kp.refl
  | tuple ds =>
    obtain ⟨a, xs, rfl, h1, h2⟩ := tr_tup hT
    walk_at "go"
    exact q H Kp.refl
  | list ds => simp only [Tr] at hT
  | dict ds => simp only [Tr] at hT
  | str z =>
    simp only [Tr] at hT
    subst hT
    have lz : z.length ≤ sizeLine := sz_le (by simpa only [Szd] using sz)
    replace q : ∀ H', Kp [] H H' → Q (.bl ((decide (1 ≤ (z.length : Int)) && decide ((z.length : Int) ≤ 8)) && headB z && sgnsB z && !inV (.str z) KEPTS)) H' := q
    walk_at "go"
    refine iteB (fun h1 => ?_) (fun h1 => ?_)
    · walk_at "go"
      refine iteB (fun h2 => ?_) (fun h2 => ?_)
      · replace h2 := PyProof.Rows.false_of_not_true h2
        have q2 := q H Kp.refl
        rw [h1, h2] at q2
        walk_at "go"
        exact q2
      · replace h2 := PyProof.Rows.true_of_not_false h2
        rw [h1, h2] at q
        obtain ⟨c0, r0, e0⟩ : ∃ c0 r0, z.cps.toList = c0 :: r0 := by
          cases e : z.cps.toList with
          | nil =>
            have : z.cps.toList.length = z.length := Array.length_toList
            rw [e] at this
            have := of_decide_eq_true h1
            rw [List.length_nil] at *
            omega
          | cons c r => exact ⟨c, r, rfl⟩
        have a0 : atI z.cps.toList 0 = some c0 := by
          rw [e0]
          exact atI_nat (j := 0) rfl
        have hd0 : headB z = decide (c0 ∈ LETS.cps.toList) := by
          unfold headB
          rw [e0]
        rw [hd0] at q
        walk_at "go"
        refine iteB (fun h3 => ?_) (fun h3 => ?_)
        · replace h3 : decide (c0 ∈ LETS.cps.toList) = false := PyProof.Rows.false_of_not_true h3
          have q2 := q H Kp.refl
          rw [h3] at q2
          walk_at "go"
          exact q2
        · replace h3 : decide (c0 ∈ LETS.cps.toList) = true := PyProof.Rows.true_of_not_false h3
          rw [h3] at q
          walk_at "go"
          intro D hD
          refine lc_it walk_str (fun i X2 => Lp (Kp [D] H X2 ∧ X2 D = some (.lst (((z.cps.toList.take i).filter fun c => !decide (c ∈ SGNS.cps.toList)).map fun c => V.str ⟨#[c]⟩)))) ⟨(Kp.new hD).sub (by simp), upd_same⟩ (fun _ _ _ _ => trivial) ?_ ?_
          · rintro i x X2 X3 hi ⟨⟨kX, dX⟩⟩ ⟨rfl, c, hc, rfl⟩
            have ht : z.cps.toList.take (i + 1) = z.cps.toList.take i ++ [c] := by
              rw [List.take_add_one, Array.getElem?_toList, hc]
              rfl
            have sa : (((z.cps.toList.take i).filter fun c => !decide (c ∈ SGNS.cps.toList)).map fun c => V.str ⟨#[c]⟩).length < sizeLine := by
              have := List.length_filter_le (fun c => !decide (c ∈ SGNS.cps.toList)) (z.cps.toList.take i)
              rw [List.length_take] at this
              rw [List.length_map]
              exact sz_lt (by have := (show z.length ≤ 1000000 by simpa only [Szd] using sz); have : z.cps.toList.length = z.length := Array.length_toList; omega)
            walk_at "go"
            refine iteB (fun hc2 => ?_) (fun hc2 => ?_)
            · walk_at "go"
              refine ⟨⟨kX.step1 (Kp.put dX (fun _ z => by cases z)) (.inl (by simp)), ?_⟩⟩
              rw [upd_same, ht, List.filter_append, List.map_append]
              rw [List.filter_cons_of_pos (p := fun c => !decide (c ∈ SGNS.cps.toList)) (show (!decide (c ∈ SGNS.cps.toList)) = true from hc2)]
              rfl
            · refine ⟨⟨kX, ?_⟩⟩
              rw [dX, ht, List.filter_append, List.filter_cons_of_neg (p := fun c => !decide (c ∈ SGNS.cps.toList)) (by show ¬ ((!decide (c ∈ SGNS.cps.toList)) = true); rw [show (!decide (c ∈ SGNS.cps.toList)) = false from hc2]; simp), List.filter_nil, List.append_nil]
          · rintro X2 ⟨⟨kX, dX⟩⟩
            rw [List.take_of_length_le (by rw [Array.length_toList]; exact Nat.le_refl _)] at dX
            have es := signs_ok dX
            have kX' : Kp [] H X2 := Kp.refl.step1 kX (.inr hD)
            walk_at "go"
            intro l3 X3 hl3 e3
            have k3 := new_kp hl3 e3
            have a3 := new_at e3
            refine ⟨D, l3, _, rfl, rfl, k3.at dX, a3, ?_⟩
            rw [es]
            have qk := T.q_KEPT X3
            refine ⟨_, rfl, ?_⟩
            refine iteB (fun h4 => ?_) (fun h4 => ?_)
            · rw [h4] at q
              walk_at "go"
              refine ⟨.inr qk, rfl, rfl, ?_⟩
              exact q X3 (kX'.step0 k3)
            · have q2 := q X3 (kX'.step0 k3)
              rw [h4] at q2
              exact q2
    · have q2 := q H Kp.refl
      rw [h1] at q2
      walk_at "go"
      exact q2
end
end EH
namespace EH
open PySem L2
local macro_rules | `(tactic| walk_at "sd") => `(tactic| first | assumption | ((with_reducible show (_ : Int) ≤ _); omega) | ((with_reducible show (_ : Int) < _); omega) | rfl | exact SqL.of (by assumption) | exact SqT.of (by assumption) | exact atI_nat (j := 0) rfl | exact atI_nat (j := 1) rfl | exact atI_nat (j := 2) rfl | exact atI_nat (j := 3) rfl | exact sz_lit rfl | exact lt_lit rfl | exact pos_lit rfl | exact le_lit rfl | exact Or.inl (SqL.of (by assumption)) | exact ⟨_, SqL.of (by assumption)⟩ | exact ⟨_, SqT.of (by assumption)⟩ | exact Or.inr (SqT.of (by assumption)) | exact ClsV.ty _ | exact TyX.base (TyOf.int _) | exact TyX.base (TyOf.str _) | exact TyX.base (TyOf.tup (by assumption)) | exact kit_ty isi_ss | exact kit_ty isi_is | exact kit_ty isi_ts | exact kit_ty isi_si | exact kit_ty isi_ii | exact kit_ty isi_ti | exact kit_ty isi_st | exact kit_ty isi_it | exact kit_ty isi_tt | exact TyX.base TyOf.non | exact TyX.base (TyOf.bl _) | exact kit_ty isi_bs | exact kit_ty isi_bi | exact kit_ty isi_bt | exact kit_ty isi_bb | exact kit_ty isi_ns | exact kit_ty isi_ni | exact kit_ty isi_nt | exact kit_ty isi_nb | exact kit_ty isi_sb | exact kit_ty isi_ib | exact kit_ty isi_tb | exact Or.inl ⟨_, Or.inl (by assumption)⟩ | exact DGet.k (k := Sum.inr _) (by assumption) | exact DGet.k (k := Sum.inl _) (by assumption) | (refine cpow_of ?_; decide) | (refine cmul_of ?_; decide) | (show (_ : Int) ≠ 0; first | decide | omega) | (refine cdivn_of ?_; decide) | exact Or.inl ⟨rfl, _, SqL.of (by assumption)⟩ | omega)
local macro_rules | `(tactic| walk_at "st") => `(tactic| first | (apply Exists.intro) | (refine And.intro ?_ ?_; focus (walk_at "sd")) | (apply Or.inl; apply Exists.intro; refine And.intro ?_ ?_; focus rfl) | (apply Or.inr; apply Exists.intro; refine And.intro ?_ ?_; focus rfl))
local macro_rules | `(tactic| walk_at "go") => `(tactic| repeat (walk_at "st"))
section
variable {P : Program} {w : World} {K : PySem.W.Frag} {mg : Str → Option Value} {base : Heap}
theorem ok_is_expression (T : Top K mg) : ∀ n : Nat, FnOk P w K mg base CX0 (n + 2) T.is_expression.f T.is_expression.fd ["value", "left"] (spBoolN exprB n)
  | 0 => by
    have G_is_name : FnOk P w K mg base CX0 1 T.is_name.f T.is_name.fd ["value"] (spBoolD nameB) := ok_is_name T
    have G_is_whole : FnOk P w K mg base CX0 1 T.is_whole.f T.is_whole.fd ["value", "least", "most"] spWhole := ok_is_whole T
    have G_is_expression : FnOk P w K mg base CX0 0 T.is_expression.f T.is_expression.fd ["value", "left"] (fun _ _ _ _ => False) := fn_no (fun _ _ _ _ h => h)
    refine T.is_expression.F.ok sc_is_expression (fun vs H Q E h => ?_) (fun cdv A outer s H vs Q E hr h => ?_)
    · obtain ⟨v, d, m, rfl, _⟩ := h
      rfl
    obtain ⟨v, d, m, rfl, rfl, hT, sz, q⟩ := h
    refine ⟨_, (pss_cons (ps_if (pt_cmpR op_eq (pv 1) pe_int (nomark _)) (pss_one (ps_ret pe_bl)) pss_nil)
      (pss_cons (ps_if (pt_not (pt_val (pe_callB (id := "isinstance") (call_isiK (K := K) rfl) (by rfl) T.isinstance (by decide +kernel) (pa_cons (pv 0) (pa_cons (pe_bltn (v := .ty "tuple") (u := .type "tuple") (by rfl) T.tuple (by decide +kernel) rfl) pa_nil))))) (pss_one (ps_ret (pe_or (pe_call G_is_name (hr.mono (by omega)) (by rfl) T.is_name.g T.is_name.F.kp T.is_name.b .nil pass0 (pa_cons (pv 0) pa_nil)) (pe_one (pe_call G_is_whole (hr.mono (by omega)) (by rfl) T.is_whole.g T.is_whole.F.kp T.is_whole.b .nil pass0 (pa_cons (pv 0) (pa_cons (pe_op op_sub pe_int (pe_glob (v := .int 99) (by rfl) T.g_MOST_NUMBER ⟨_, rfl⟩)) (pa_cons (pe_glob (v := .int 99) (by rfl) T.g_MOST_NUMBER ⟨_, rfl⟩) pa_nil)))))))) pss_nil)
      (pss_cons (ps_if (PW.pt (pw_or (pt_cmpR op_ne (pe_callB (id := "len") (call_lenK (K := K) rfl) (by rfl) T.len PySem.boot_len (pa_cons (pv 0) pa_nil)) pe_int (nomark _)) (pw_or (pt_not (pt_val (pe_callB (id := "isinstance") (call_isiK (K := K) rfl) (by rfl) T.isinstance (by decide +kernel) (pa_cons (pe_ix (ix_tupK (K := K) rfl) (pv 0) pe_int (fun _ _ => rfl)) (pa_cons (pe_bltn (v := .ty "str") (u := .type "str") (by rfl) T.str (by decide +kernel) rfl) pa_nil))))) (pw_or1 (pt_not (pt_val (pe_call G_is_expression (hr.mono (by omega)) (by rfl) T.is_expression.g T.is_expression.F.kp T.is_expression.b .nil pass0 (pa_cons (pe_ix (ix_tupK (K := K) rfl) (pv 0) pe_int (fun _ _ => rfl)) (pa_cons (pe_op op_sub (pv 1) pe_int) pa_nil))))))))) (pss_one (ps_ret pe_bl)) pss_nil)
      (pss_cons (ps_if (pt_cmpR op_eq (pe_ix (ix_tupK (K := K) rfl) (pv 0) pe_int (fun _ _ => rfl)) pe_str (nomark _)) (pss_one (ps_ret (pe_call G_is_whole (hr.mono (by omega)) (by rfl) T.is_whole.g T.is_whole.F.kp T.is_whole.b .nil pass0 (pa_cons (pe_ix (ix_tupK (K := K) rfl) (pv 0) pe_int (fun _ _ => rfl)) (pa_cons (pe_op op_sub pe_int (pe_glob (v := .int 9) (by rfl) T.g_MOST_FACTOR ⟨_, rfl⟩)) (pa_cons (pe_glob (v := .int 9) (by rfl) T.g_MOST_FACTOR ⟨_, rfl⟩) pa_nil)))))) pss_nil)
      (pss_one (ps_ret (pe_and (pe_cmpR (op_in_seqK (K := K) rfl) (pe_ix (ix_tupK (K := K) rfl) (pv 0) pe_int (fun _ _ => rfl)) (pe_tupA (pa_cons pe_str (pa_cons pe_str pa_nil))) (by rfl)) (pe_one (pe_call G_is_expression (hr.mono (by omega)) (by rfl) T.is_expression.g T.is_expression.F.kp T.is_expression.b .nil pass0 (pa_cons (pe_ix (ix_tupK (K := K) rfl) (pv 0) pe_int (fun _ _ => rfl)) (pa_cons (pe_op op_sub (pv 1) pe_int) pa_nil))))))))))), ?_⟩
    walk_at "go"
    exact q H Kp.refl
  | n + 1 => by
    have G_is_name : FnOk P w K mg base CX0 1 T.is_name.f T.is_name.fd ["value"] (spBoolD nameB) := ok_is_name T
    have G_is_whole : FnOk P w K mg base CX0 1 T.is_whole.f T.is_whole.fd ["value", "least", "most"] spWhole := ok_is_whole T
    have G_is_expression := ok_is_expression T n
    refine T.is_expression.F.ok sc_is_expression (fun vs H Q E h => ?_) (fun cdv A outer s H vs Q E hr h => ?_)
    · obtain ⟨v, d, m, rfl, _⟩ := h
      rfl
    obtain ⟨v, d, m, rfl, hm, hT, sz, q⟩ := h
    refine ⟨_, (pss_cons (ps_if (pt_cmpR op_eq (pv 1) pe_int (nomark _)) (pss_one (ps_ret pe_bl)) pss_nil)
      (pss_cons (ps_if (pt_not (pt_val (pe_callB (id := "isinstance") (call_isiK (K := K) rfl) (by rfl) T.isinstance (by decide +kernel) (pa_cons (pv 0) (pa_cons (pe_bltn (v := .ty "tuple") (u := .type "tuple") (by rfl) T.tuple (by decide +kernel) rfl) pa_nil))))) (pss_one (ps_ret (pe_or (pe_call G_is_name (hr.mono (by omega)) (by rfl) T.is_name.g T.is_name.F.kp T.is_name.b .nil pass0 (pa_cons (pv 0) pa_nil)) (pe_one (pe_call G_is_whole (hr.mono (by omega)) (by rfl) T.is_whole.g T.is_whole.F.kp T.is_whole.b .nil pass0 (pa_cons (pv 0) (pa_cons (pe_op op_sub pe_int (pe_glob (v := .int 99) (by rfl) T.g_MOST_NUMBER ⟨_, rfl⟩)) (pa_cons (pe_glob (v := .int 99) (by rfl) T.g_MOST_NUMBER ⟨_, rfl⟩) pa_nil)))))))) pss_nil)
      (pss_cons (ps_if (PW.pt (pw_or (pt_cmpR op_ne (pe_callB (id := "len") (call_lenK (K := K) rfl) (by rfl) T.len PySem.boot_len (pa_cons (pv 0) pa_nil)) pe_int (nomark _)) (pw_or (pt_not (pt_val (pe_callB (id := "isinstance") (call_isiK (K := K) rfl) (by rfl) T.isinstance (by decide +kernel) (pa_cons (pe_ix (ix_tupK (K := K) rfl) (pv 0) pe_int (fun _ _ => rfl)) (pa_cons (pe_bltn (v := .ty "str") (u := .type "str") (by rfl) T.str (by decide +kernel) rfl) pa_nil))))) (pw_or1 (pt_not (pt_val (pe_call G_is_expression (hr.mono (by omega)) (by rfl) T.is_expression.g T.is_expression.F.kp T.is_expression.b .nil pass0 (pa_cons (pe_ix (ix_tupK (K := K) rfl) (pv 0) pe_int (fun _ _ => rfl)) (pa_cons (pe_op op_sub (pv 1) pe_int) pa_nil))))))))) (pss_one (ps_ret pe_bl)) pss_nil)
      (pss_cons (ps_if (pt_cmpR op_eq (pe_ix (ix_tupK (K := K) rfl) (pv 0) pe_int (fun _ _ => rfl)) pe_str (nomark _)) (pss_one (ps_ret (pe_call G_is_whole (hr.mono (by omega)) (by rfl) T.is_whole.g T.is_whole.F.kp T.is_whole.b .nil pass0 (pa_cons (pe_ix (ix_tupK (K := K) rfl) (pv 0) pe_int (fun _ _ => rfl)) (pa_cons (pe_op op_sub pe_int (pe_glob (v := .int 9) (by rfl) T.g_MOST_FACTOR ⟨_, rfl⟩)) (pa_cons (pe_glob (v := .int 9) (by rfl) T.g_MOST_FACTOR ⟨_, rfl⟩) pa_nil)))))) pss_nil)
      (pss_one (ps_ret (pe_and (pe_cmpR (op_in_seqK (K := K) rfl) (pe_ix (ix_tupK (K := K) rfl) (pv 0) pe_int (fun _ _ => rfl)) (pe_tupA (pa_cons pe_str (pa_cons pe_str pa_nil))) (by rfl)) (pe_one (pe_call G_is_expression (hr.mono (by omega)) (by rfl) T.is_expression.g T.is_expression.F.kp T.is_expression.b .nil pass0 (pa_cons (pe_ix (ix_tupK (K := K) rfl) (pv 0) pe_int (fun _ _ => rfl)) (pa_cons (pe_op op_sub (pv 1) pe_int) pa_nil))))))))))), ?_⟩
    have z0 : decide (V.int m = V.int 0) = false := by
      rw [dec_int]
      exact decide_eq_false (by omega)
    walk_at "go"
    rw [z0]
    refine iteF ?_
    cases d with
    | none =>
      have hv := hT
      simp only [Tr] at hv
      subst hv
      walk_at "go"
      intro H1 k1
      have q1 : Q (.bl (nameB _ || wholeB (-99) 99 _)) H1 := q H1 k1
      have t1 := k1.tr hT
      refine ⟨_, rfl, iteB (fun hb => ?_) (fun hb => ?_)⟩
      · rw [hb] at q1
        exact q1
      · rw [hb] at q1
        walk_at "go"
        exact q1
    | bool b =>
      have hv := hT
      simp only [Tr] at hv
      subst hv
      walk_at "go"
      intro H1 k1
      have q1 : Q (.bl (nameB _ || wholeB (-99) 99 _)) H1 := q H1 k1
      have t1 := k1.tr hT
      refine ⟨_, rfl, iteB (fun hb => ?_) (fun hb => ?_)⟩
      · rw [hb] at q1
        exact q1
      · rw [hb] at q1
        walk_at "go"
        exact q1
    | int b =>
      have hv := hT
      simp only [Tr] at hv
      subst hv
      walk_at "go"
      intro H1 k1
      have q1 : Q (.bl (nameB _ || wholeB (-99) 99 _)) H1 := q H1 k1
      have t1 := k1.tr hT
      refine ⟨_, rfl, iteB (fun hb => ?_) (fun hb => ?_)⟩
      · rw [hb] at q1
        exact q1
      · rw [hb] at q1
        walk_at "go"
        exact q1
    | str z =>
      have hv := hT
      simp only [Tr] at hv
      subst hv
      walk_at "go"
      intro H1 k1
      have q1 : Q (.bl (nameB _ || wholeB (-99) 99 _)) H1 := q H1 k1
      have t1 := k1.tr hT
      refine ⟨_, rfl, iteB (fun hb => ?_) (fun hb => ?_)⟩
      · rw [hb] at q1
        exact q1
      · rw [hb] at q1
        walk_at "go"
        exact q1
    | list ds => simp only [Tr] at hT
    | dict ds => simp only [Tr] at hT
    | tuple ds =>
      obtain ⟨a, xs, rfl, h1, h2⟩ := tr_tup hT
      have ln := h2.length
      simp only [Szd] at sz
      walk_at "go"
      by_cases l3 : ds.length = 3
      · obtain ⟨d1, d2, d3, rfl⟩ : ∃ d1 d2 d3, ds = [d1, d2, d3] := by
          match ds, l3 with
          | [d1, d2, d3], _ => exact ⟨d1, d2, d3, rfl⟩
        simp only [TrAll] at h2
        obtain ⟨x1, _, rfl, t1, x2, _, rfl, t2, x3, _, rfl, t3, rfl⟩ := h2
        simp only [Szds] at sz
        obtain ⟨s1, s2, s3, _⟩ := sz
        cases d1 with
        | none => simp only [Tr] at t1; subst t1; walk_at "go"; exact q H Kp.refl
        | bool b => simp only [Tr] at t1; subst t1; walk_at "go"; exact q H Kp.refl
        | int b => simp only [Tr] at t1; subst t1; walk_at "go"; exact q H Kp.refl
        | tuple ds =>
          obtain ⟨a2, xs2, rfl, g1, g2⟩ := tr_tup t1
          walk_at "go"
          exact q H Kp.refl
        | list ds => simp only [Tr] at t1
        | dict ds => simp only [Tr] at t1
        | str k =>
          cases tr_str t1
          replace q : ∀ H', Kp [] H H' → Q (.bl (exprB n d3 && (if k = "times" then wholeB (-9) 9 d2 else inV (.str k) [.str "plus", .str "minus"] && exprB n d2))) H' := q
          walk_at "go"
          intro H1 k1
          have h11 := k1.tup _ _ h1
          have t21 := k1.tr t2
          refine ⟨_, rfl, iteB (fun hb => ?_) (fun hb => ?_)⟩
          · replace hb := PyProof.Rows.false_of_not_true hb
            have q1 := q H1 k1
            rw [hb] at q1
            walk_at "go"
            exact q1
          · replace hb := PyProof.Rows.true_of_not_false hb
            rw [hb] at q
            walk_at "go"
            rw [dec_str]
            refine iteB (fun hk => ?_) (fun hk => ?_)
            · have hk := of_decide_eq_true hk
              rw [if_pos hk] at q
              walk_at "go"
              exact q H1 k1
            · have hk := of_decide_eq_false hk
              rw [if_neg hk] at q
              walk_at "go"
              intro u2 H2 hu2 e2
              have k2 := new_kp hu2 e2
              have a2 := new_at e2
              have t22 := k2.tr t21
              have h12 := k2.tup _ _ h11
              refine ⟨u2, _, rfl, .inr (SqT.of a2), rfl, rfl, _, rfl, ?_⟩
              refine iteB (fun hi => ?_) (fun hi => ?_)
              · replace hi : inV (.str k) [.str "plus", .str "minus"] = true := hi
                rw [hi] at q
                walk_at "go"
                intro H3 k3
                exact q H3 ((k1.step0 k2).step0 k3)
              · replace hi : inV (.str k) [.str "plus", .str "minus"] = false := hi
                rw [hi] at q
                exact q H2 (k1.step0 k2)
      · have e3 : decide (V.int (xs.length : Int) = V.int 3) = false := dec_len (n := 3) (by omega)
        rw [e3]
        refine iteT ?_
        have ef : exprB (n + 1) (.tuple ds) = false := by
          unfold exprB
          split <;> simp_all
        walk_at "go"
        have q1 := q H Kp.refl
        rw [ef] at q1
        exact q1
end
end EH
namespace EH
open PySem L2
local macro_rules | `(tactic| walk_at "sd") => `(tactic| first | assumption | ((with_reducible show (_ : Int) ≤ _); omega) | ((with_reducible show (_ : Int) < _); omega) | rfl | exact SqL.of (by assumption) | exact SqT.of (by assumption) | exact atI_nat (j := 0) rfl | exact atI_nat (j := 1) rfl | exact atI_nat (j := 2) rfl | exact atI_nat (j := 3) rfl | exact sz_lit rfl | exact lt_lit rfl | exact pos_lit rfl | exact le_lit rfl | exact Or.inl (SqL.of (by assumption)) | exact ⟨_, SqL.of (by assumption)⟩ | exact ⟨_, SqT.of (by assumption)⟩ | exact Or.inr (SqT.of (by assumption)) | exact ClsV.ty _ | exact TyX.base (TyOf.int _) | exact TyX.base (TyOf.str _) | exact TyX.base (TyOf.tup (by assumption)) | exact kit_ty isi_ss | exact kit_ty isi_is | exact kit_ty isi_ts | exact kit_ty isi_si | exact kit_ty isi_ii | exact kit_ty isi_ti | exact kit_ty isi_st | exact kit_ty isi_it | exact kit_ty isi_tt | exact TyX.base TyOf.non | exact TyX.base (TyOf.bl _) | exact kit_ty isi_bs | exact kit_ty isi_bi | exact kit_ty isi_bt | exact kit_ty isi_bb | exact kit_ty isi_ns | exact kit_ty isi_ni | exact kit_ty isi_nt | exact kit_ty isi_nb | exact kit_ty isi_sb | exact kit_ty isi_ib | exact kit_ty isi_tb | exact Or.inl ⟨_, Or.inl (by assumption)⟩ | exact DGet.k (k := Sum.inr _) (by assumption) | exact DGet.k (k := Sum.inl _) (by assumption) | (refine cpow_of ?_; decide) | (refine cmul_of ?_; decide) | (show (_ : Int) ≠ 0; first | decide | omega) | (refine cdivn_of ?_; decide) | exact Or.inl ⟨rfl, _, SqL.of (by assumption)⟩ | omega)
local macro_rules | `(tactic| walk_at "st") => `(tactic| first | (apply Exists.intro) | (refine And.intro ?_ ?_; focus (walk_at "sd")) | (apply Or.inl; apply Exists.intro; refine And.intro ?_ ?_; focus rfl) | (apply Or.inr; apply Exists.intro; refine And.intro ?_ ?_; focus rfl))
local macro_rules | `(tactic| walk_at "go") => `(tactic| repeat (walk_at "st"))
section
variable {P : Program} {w : World} {K : PySem.W.Frag} {mg : Str → Option Value} {base : Heap}
theorem ok_is_test (T : Top K mg) : ∀ n : Nat, FnOk P w K mg base CX0 (n + 6) T.is_test.f T.is_test.fd ["value", "nots"] (spBoolN testB n)
  | n => by
    have G_is_expression : FnOk P w K mg base CX0 5 T.is_expression.f T.is_expression.fd ["value", "left"] (spBoolN exprB 3) := ok_is_expression T 3
    have G_is_test : FnOk P w K mg base CX0 (n + 5) T.is_test.f T.is_test.fd ["value", "nots"] (sp0 (spBoolN testB) n) := by
      cases n with
      | zero => exact fn_no (fun _ _ _ _ h => h)
      | succ m => exact ok_is_test T m
    refine T.is_test.F.ok sc_is_test (fun vs H Q E h => ?_) (fun cdv A outer s H vs Q E hr h => ?_)
    · obtain ⟨v, d, m, rfl, _⟩ := h
      rfl
    obtain ⟨v, d, m, rfl, hm, hT, sz, q⟩ := h
    refine ⟨_, (pss_cons (ps_if (PW.pt (pw_or (pt_not (pt_val (pe_callB (id := "isinstance") (call_isiK (K := K) rfl) (by rfl) T.isinstance (by decide +kernel) (pa_cons (pv 0) (pa_cons (pe_bltn (v := .ty "tuple") (u := .type "tuple") (by rfl) T.tuple (by decide +kernel) rfl) pa_nil))))) (pw_or (pt_not (pt_chain op_le op_le pe_int (pe_callB (id := "len") (call_lenK (K := K) rfl) (by rfl) T.len PySem.boot_len (pa_cons (pv 0) pa_nil)) pe_int)) (pw_or1 (pt_not (pt_val (pe_callB (id := "isinstance") (call_isiK (K := K) rfl) (by rfl) T.isinstance (by decide +kernel) (pa_cons (pe_ix (ix_tupK (K := K) rfl) (pv 0) pe_int (fun _ _ => rfl)) (pa_cons (pe_bltn (v := .ty "str") (u := .type "str") (by rfl) T.str (by decide +kernel) rfl) pa_nil))))))))) (pss_one (ps_ret pe_bl)) pss_nil)
      (pss_cons (ps_if (pt_cmpR op_eq (pe_ix (ix_tupK (K := K) rfl) (pv 0) pe_int (fun _ _ => rfl)) pe_str (nomark _)) (pss_one (ps_ret (pe_and (pe_cmpR op_eq (pe_callB (id := "len") (call_lenK (K := K) rfl) (by rfl) T.len PySem.boot_len (pa_cons (pv 0) pa_nil)) pe_int (nomark _)) (pe_and (pe_call G_is_expression (hr.mono (by omega)) (by rfl) T.is_expression.g T.is_expression.F.kp T.is_expression.b .nil pass0 (pa_cons (pe_ix (ix_tupK (K := K) rfl) (pv 0) pe_int (fun _ _ => rfl)) (pa_cons (pe_glob (v := .int 3) (by rfl) T.g_MAX_DEEP ⟨_, rfl⟩) pa_nil))) (pe_one (pe_call G_is_expression (hr.mono (by omega)) (by rfl) T.is_expression.g T.is_expression.F.kp T.is_expression.b .nil pass0 (pa_cons (pe_ix (ix_tupK (K := K) rfl) (pv 0) pe_int (fun _ _ => rfl)) (pa_cons (pe_glob (v := .int 3) (by rfl) T.g_MAX_DEEP ⟨_, rfl⟩) pa_nil)))))))) pss_nil)
      (pss_cons (ps_if (pt_cmpR op_eq (pe_ix (ix_tupK (K := K) rfl) (pv 0) pe_int (fun _ _ => rfl)) pe_str (nomark _)) (pss_one (ps_ret (pe_and (pe_cmpR op_eq (pe_callB (id := "len") (call_lenK (K := K) rfl) (by rfl) T.len PySem.boot_len (pa_cons (pv 0) pa_nil)) pe_int (nomark _)) (pe_one (pe_call G_is_expression (hr.mono (by omega)) (by rfl) T.is_expression.g T.is_expression.F.kp T.is_expression.b .nil pass0 (pa_cons (pe_ix (ix_tupK (K := K) rfl) (pv 0) pe_int (fun _ _ => rfl)) (pa_cons (pe_glob (v := .int 3) (by rfl) T.g_MAX_DEEP ⟨_, rfl⟩) pa_nil))))))) pss_nil)
      (pss_one (ps_ret (pe_and (pe_cmpR op_eq (pe_ix (ix_tupK (K := K) rfl) (pv 0) pe_int (fun _ _ => rfl)) pe_str (nomark _)) (pe_and (pe_cmpR op_eq (pe_callB (id := "len") (call_lenK (K := K) rfl) (by rfl) T.len PySem.boot_len (pa_cons (pv 0) pa_nil)) pe_int (nomark _)) (pe_and (pe_cmpR op_gt (pv 1) pe_int (nomark _)) (pe_one (pe_call G_is_test (hr.mono (by omega)) (by rfl) T.is_test.g T.is_test.F.kp T.is_test.b .nil pass0 (pa_cons (pe_ix (ix_tupK (K := K) rfl) (pv 0) pe_int (fun _ _ => rfl)) (pa_cons (pe_op op_sub (pv 1) pe_int) pa_nil)))))))))))), ?_⟩
    cases d with
    | none =>
      simp only [Tr] at hT
      subst hT
      have ef : testB n (.none) = false := by (unfold testB; cases n <;> rfl)
      rw [ef] at q
      walk_at "go"
      exact q H Kp.refl
    | bool b =>
      simp only [Tr] at hT
      subst hT
      have ef : testB n (.bool b) = false := by (unfold testB; cases n <;> rfl)
      rw [ef] at q
      walk_at "go"
      exact q H Kp.refl
    | int b =>
      simp only [Tr] at hT
      subst hT
      have ef : testB n (.int b) = false := by (unfold testB; cases n <;> rfl)
      rw [ef] at q
      walk_at "go"
      exact q H Kp.refl
    | str b =>
      simp only [Tr] at hT
      subst hT
      have ef : testB n (.str b) = false := by (unfold testB; cases n <;> rfl)
      rw [ef] at q
      walk_at "go"
      exact q H Kp.refl
    | list ds => simp only [Tr] at hT
    | dict ds => simp only [Tr] at hT
    | tuple ds =>
      obtain ⟨a, xs, rfl, h1, h2⟩ := tr_tup hT
      have ln := h2.length
      simp only [Szd] at sz
      rcases ds with _ | ⟨d1, _ | ⟨d2, _ | ⟨d3, _ | ⟨d4, r⟩⟩⟩⟩
      · simp only [TrAll] at h2
        subst h2
        have ef : testB n (.tuple []) = false := by (unfold testB; cases n <;> rfl)
        rw [ef] at q
        walk_at "go"
        exact q H Kp.refl
      · simp only [TrAll] at h2
        obtain ⟨x1, _, rfl, t1, rfl⟩ := h2
        have ef : testB n (.tuple [d1]) = false := by
          unfold testB
          split <;> simp_all
        rw [ef] at q
        walk_at "go"
        exact q H Kp.refl
      · simp only [TrAll] at h2
        obtain ⟨x1, _, rfl, t1, x2, _, rfl, t2, rfl⟩ := h2
        simp only [Szds] at sz
        obtain ⟨s1, s2, _⟩ := sz
        cases d1 with
        | none =>
          simp only [Tr] at t1
          subst t1
          have ef : testB n (.tuple [.none, d2]) = false := by (unfold testB; cases n <;> rfl)
          rw [ef] at q
          walk_at "go"
          exact q H Kp.refl
        | bool b =>
          simp only [Tr] at t1
          subst t1
          have ef : testB n (.tuple [.bool b, d2]) = false := by (unfold testB; cases n <;> rfl)
          rw [ef] at q
          walk_at "go"
          exact q H Kp.refl
        | int b =>
          simp only [Tr] at t1
          subst t1
          have ef : testB n (.tuple [.int b, d2]) = false := by (unfold testB; cases n <;> rfl)
          rw [ef] at q
          walk_at "go"
          exact q H Kp.refl
        | tuple ds =>
          obtain ⟨a2, xs2, rfl, g1, g2⟩ := tr_tup t1
          have ef : testB n (.tuple [.tuple ds, d2]) = false := by (unfold testB; cases n <;> rfl)
          rw [ef] at q
          walk_at "go"
          exact q H Kp.refl
        | list ds => simp only [Tr] at t1
        | dict ds => simp only [Tr] at t1
        | str k =>
          cases tr_str t1
          have eq2 : testB n (.tuple [.str k, d2]) = (if k = "less" then false else if k = "odd" then exprB 3 d2 else decide (k = "not") && decide (0 < n) && testB (n - 1) d2) := by
            have nl : ¬ (("less" : Str) = "odd") := by decide +kernel
            have nl2 : ¬ (("less" : Str) = "not") := by decide +kernel
            cases n with
            | zero =>
              show (decide (k = "odd") && exprB 3 d2) = _
              by_cases k1 : k = "less"
              · subst k1; rw [if_pos rfl, decide_eq_false nl]; rfl
              · rw [if_neg k1]
                by_cases k2 : k = "odd"
                · rw [if_pos k2, decide_eq_true k2]; rfl
                · rw [if_neg k2, decide_eq_false k2]; simp
            | succ m =>
              show (if k = "odd" then exprB 3 d2 else decide (k = "not") && testB m d2) = _
              by_cases k1 : k = "less"
              · subst k1; rw [if_pos rfl, if_neg nl, decide_eq_false nl2]; rfl
              · rw [if_neg k1]
                by_cases k2 : k = "odd"
                · rw [if_pos k2, if_pos k2]
                · rw [if_neg k2, if_neg k2]
                  simp
          rw [eq2] at q
          walk_at "go"
          rw [dec_str]
          refine iteB (fun hk => ?_) (fun hk => ?_)
          · have hk := of_decide_eq_true hk
            rw [if_pos hk] at q
            walk_at "go"
            exact q H Kp.refl
          · have hk := of_decide_eq_false hk
            rw [if_neg hk] at q
            walk_at "go"
            rw [dec_str]
            refine iteB (fun hk2 => ?_) (fun hk2 => ?_)
            · have hk2 := of_decide_eq_true hk2
              rw [if_pos hk2] at q
              walk_at "go"
              exact q
            · have hk2 := of_decide_eq_false hk2
              rw [if_neg hk2] at q
              walk_at "go"
              rw [dec_str]
              refine iteB (fun hk3 => ?_) (fun hk3 => ?_)
              · rw [hk3] at q
                walk_at "go"
                refine iteB (fun hn => ?_) (fun hn => ?_)
                · have hn := of_decide_eq_true hn
                  obtain ⟨j, rfl⟩ : ∃ j, n = j + 1 := ⟨n - 1, by omega⟩
                  rw [decide_eq_true (show 0 < j + 1 by omega)] at q
                  walk_at "go"
                  exact q
                · have hn := of_decide_eq_false hn
                  rw [decide_eq_false (show ¬ 0 < n by omega)] at q
                  exact q H Kp.refl
              · rw [hk3] at q
                exact q H Kp.refl
      · simp only [TrAll] at h2
        obtain ⟨x1, _, rfl, t1, x2, _, rfl, t2, x3, _, rfl, t3, rfl⟩ := h2
        simp only [Szds] at sz
        obtain ⟨s1, s2, s3, _⟩ := sz
        have ef : ∀ k, testB n (.tuple [.str k, d2, d3]) = (decide (k = "less") && exprB 3 d2 && exprB 3 d3) := fun k => by unfold testB; rfl
        cases d1 with
        | none =>
          simp only [Tr] at t1
          subst t1
          have ef : testB n (.tuple [.none, d2, d3]) = false := by (unfold testB; rfl)
          rw [ef] at q
          walk_at "go"
          exact q H Kp.refl
        | bool b =>
          simp only [Tr] at t1
          subst t1
          have ef : testB n (.tuple [.bool b, d2, d3]) = false := by (unfold testB; rfl)
          rw [ef] at q
          walk_at "go"
          exact q H Kp.refl
        | int b =>
          simp only [Tr] at t1
          subst t1
          have ef : testB n (.tuple [.int b, d2, d3]) = false := by (unfold testB; rfl)
          rw [ef] at q
          walk_at "go"
          exact q H Kp.refl
        | tuple ds =>
          obtain ⟨a2, xs2, rfl, g1, g2⟩ := tr_tup t1
          have ef : testB n (.tuple [.tuple ds, d2, d3]) = false := by (unfold testB; rfl)
          rw [ef] at q
          walk_at "go"
          exact q H Kp.refl
        | list ds => simp only [Tr] at t1
        | dict ds => simp only [Tr] at t1
        | str k =>
          cases tr_str t1
          rw [ef] at q
          walk_at "go"
          rw [dec_str]
          refine iteB (fun hk => ?_) (fun hk => ?_)
          · rw [hk] at q
            walk_at "go"
            intro H1 k1
            have h11 := k1.tup _ _ h1
            have t31 := k1.tr t3
            refine ⟨_, rfl, iteB (fun hb => ?_) (fun hb => ?_)⟩
            · rw [hb] at q
              walk_at "go"
              intro H2 k2
              exact q H2 (k1.step0 k2)
            · rw [hb] at q
              exact q H1 k1
          · rw [hk] at q
            walk_at "go"
            rw [dec_str]
            refine iteB (fun hk2 => ?_) (fun hk2 => ?_)
            · walk_at "go"
              exact q H Kp.refl
            · walk_at "go"
              rw [dec_str]
              refine iteB (fun hk3 => ?_) (fun hk3 => ?_)
              · walk_at "go"
                exact q H Kp.refl
              · exact q H Kp.refl
      · simp only [TrAll] at h2
        obtain ⟨x1, _, rfl, t1, x2, _, rfl, t2, x3, _, rfl, t3, x4, xr, rfl, t4, tr⟩ := h2
        have ef : testB n (.tuple (d1 :: d2 :: d3 :: d4 :: r)) = false := by
          unfold testB
          split <;> simp_all
        rw [ef] at q
        have c1 : decide ((2 : Int) ≤ ((x1 :: x2 :: x3 :: x4 :: xr).length : Int)) = true := decide_eq_true (by simp only [List.length_cons]; omega)
        have c2 : decide (((x1 :: x2 :: x3 :: x4 :: xr).length : Int) ≤ 3) = false := decide_eq_false (by simp only [List.length_cons]; omega)
        walk_at "go"
        rw [c1]
        refine iteT ?_
        walk_at "go"
        rw [c2]
        refine iteT ?_
        walk_at "go"
        exact q H Kp.refl
end
end EH
namespace EH
open PySem L2
local macro_rules | `(tactic| walk_at "sd") => `(tactic| first | assumption | ((with_reducible show (_ : Int) ≤ _); omega) | ((with_reducible show (_ : Int) < _); omega) | rfl | exact SqL.of (by assumption) | exact SqT.of (by assumption) | exact atI_nat (j := 0) rfl | exact atI_nat (j := 1) rfl | exact atI_nat (j := 2) rfl | exact atI_nat (j := 3) rfl | exact sz_lit rfl | exact lt_lit rfl | exact pos_lit rfl | exact le_lit rfl | exact Or.inl (SqL.of (by assumption)) | exact ⟨_, SqL.of (by assumption)⟩ | exact ⟨_, SqT.of (by assumption)⟩ | exact Or.inr (SqT.of (by assumption)) | exact ClsV.ty _ | exact TyX.base (TyOf.int _) | exact TyX.base (TyOf.str _) | exact TyX.base (TyOf.tup (by assumption)) | exact kit_ty isi_ss | exact kit_ty isi_is | exact kit_ty isi_ts | exact kit_ty isi_si | exact kit_ty isi_ii | exact kit_ty isi_ti | exact kit_ty isi_st | exact kit_ty isi_it | exact kit_ty isi_tt | exact TyX.base TyOf.non | exact TyX.base (TyOf.bl _) | exact kit_ty isi_bs | exact kit_ty isi_bi | exact kit_ty isi_bt | exact kit_ty isi_bb | exact kit_ty isi_ns | exact kit_ty isi_ni | exact kit_ty isi_nt | exact kit_ty isi_nb | exact kit_ty isi_sb | exact kit_ty isi_ib | exact kit_ty isi_tb | exact Or.inl ⟨_, Or.inl (by assumption)⟩ | exact DGet.k (k := Sum.inr _) (by assumption) | exact DGet.k (k := Sum.inl _) (by assumption) | (refine cpow_of ?_; decide) | (refine cmul_of ?_; decide) | (show (_ : Int) ≠ 0; first | decide | omega) | (refine cdivn_of ?_; decide) | exact Or.inl ⟨rfl, _, SqL.of (by assumption)⟩ | omega)
local macro_rules | `(tactic| walk_at "st") => `(tactic| first | (apply Exists.intro) | (refine And.intro ?_ ?_; focus (walk_at "sd")) | (apply Or.inl; apply Exists.intro; refine And.intro ?_ ?_; focus rfl) | (apply Or.inr; apply Exists.intro; refine And.intro ?_ ?_; focus rfl))
local macro_rules | `(tactic| walk_at "go") => `(tactic| repeat (walk_at "st"))
section
variable {P : Program} {w : World} {K : PySem.W.Frag} {mg : Str → Option Value} {base : Heap}
theorem ok_is_plain (T : Top K mg) {k : Nat} : FnOk P w K mg base CX0 (k + 6) T.is_plain.f T.is_plain.fd ["value"] (spStmt plainB) := by
  have G_is_expression : FnOk P w K mg base CX0 5 T.is_expression.f T.is_expression.fd ["value", "left"] (spBoolN exprB 3) := ok_is_expression T 3
  have G_is_name : FnOk P w K mg base CX0 1 T.is_name.f T.is_name.fd ["value"] (spBoolD nameB) := ok_is_name T
  have G_is_word : FnOk P w K mg base CX0 1 T.is_word.f T.is_word.fd ["value"] (spBoolD wordB) := ok_is_word T
  refine T.is_plain.F.ok sc_is_plain (fun vs H Q E h => ?_) (fun cdv A outer s H vs Q E hr h => ?_)
  · obtain ⟨v, k, ds, rfl, _⟩ := h
    rfl
  obtain ⟨v, k, ds, rfl, hT, sz, q⟩ := h
  refine ⟨_, (pss_cons (ps_if (pt_cmpR (op_in_seqK (K := K) rfl) (pe_ix (ix_tupK (K := K) rfl) (pv 0) pe_int (fun _ _ => rfl)) (pe_tupA (pa_cons pe_str (pa_cons pe_str pa_nil))) (by rfl)) (pss_one (ps_ret (pe_and (pe_cmpR op_eq (pe_callB (id := "len") (call_lenK (K := K) rfl) (by rfl) T.len PySem.boot_len (pa_cons (pv 0) pa_nil)) pe_int (nomark _)) (pe_and (pe_call G_is_name (hr.mono (by omega)) (by rfl) T.is_name.g T.is_name.F.kp T.is_name.b .nil pass0 (pa_cons (pe_ix (ix_tupK (K := K) rfl) (pv 0) pe_int (fun _ _ => rfl)) pa_nil)) (pe_one (pe_call G_is_expression (hr.mono (by omega)) (by rfl) T.is_expression.g T.is_expression.F.kp T.is_expression.b .nil pass0 (pa_cons (pe_ix (ix_tupK (K := K) rfl) (pv 0) pe_int (fun _ _ => rfl)) (pa_cons (pe_glob (v := .int 3) (by rfl) T.g_MAX_DEEP ⟨_, rfl⟩) pa_nil)))))))) pss_nil)
      (pss_cons (ps_if (pt_cmpR op_eq (pe_ix (ix_tupK (K := K) rfl) (pv 0) pe_int (fun _ _ => rfl)) pe_str (nomark _)) (pss_one (ps_ret (pe_and (pe_cmpR op_eq (pe_callB (id := "len") (call_lenK (K := K) rfl) (by rfl) T.len PySem.boot_len (pa_cons (pv 0) pa_nil)) pe_int (nomark _)) (pe_one (pe_call G_is_expression (hr.mono (by omega)) (by rfl) T.is_expression.g T.is_expression.F.kp T.is_expression.b .nil pass0 (pa_cons (pe_ix (ix_tupK (K := K) rfl) (pv 0) pe_int (fun _ _ => rfl)) (pa_cons (pe_glob (v := .int 3) (by rfl) T.g_MAX_DEEP ⟨_, rfl⟩) pa_nil))))))) pss_nil)
      (pss_one (ps_ret (pe_and (pe_cmpR (op_in_seqK (K := K) rfl) (pe_ix (ix_tupK (K := K) rfl) (pv 0) pe_int (fun _ _ => rfl)) (pe_tupA (pa_cons pe_str (pa_cons pe_str pa_nil))) (by rfl)) (pe_and (pe_cmpR op_eq (pe_callB (id := "len") (call_lenK (K := K) rfl) (by rfl) T.len PySem.boot_len (pa_cons (pv 0) pa_nil)) pe_int (nomark _)) (pe_one (pe_call G_is_word (hr.mono (by omega)) (by rfl) T.is_word.g T.is_word.F.kp T.is_word.b .nil pass0 (pa_cons (pe_ix (ix_tupK (K := K) rfl) (pv 0) pe_int (fun _ _ => rfl)) pa_nil))))))))), ?_⟩
  obtain ⟨a, xs, rfl, h1, h2⟩ := tr_tup hT
  simp only [TrAll] at h2
  obtain ⟨x1, xs, rfl, t1, h2⟩ := h2
  cases tr_str t1
  have ln := h2.length
  walk_at "go"
  intro u2 H2 hu2 e2
  have k2 := new_kp hu2 e2
  have a2 := new_at e2
  have h12 := k2.tup _ _ h1
  have hs2 := k2.trAll h2
  refine ⟨u2, _, rfl, .inr (SqT.of a2), rfl, rfl, _, rfl, ?_⟩
  refine iteB (fun hi => ?_) (fun hi => ?_)
  · replace hi : inV (.str k) [.str "set", .str "half"] = true := hi
    by_cases l3 : ds.length = 2
    · obtain ⟨d2, d3, rfl⟩ : ∃ d2 d3, ds = [d2, d3] := by
        match ds, l3 with
        | [d2, d3], _ => exact ⟨d2, d3, rfl⟩
      simp only [TrAll] at hs2
      obtain ⟨x2, _, rfl, t2, x3, _, rfl, t3, rfl⟩ := hs2
      simp only [Szds] at sz
      obtain ⟨s2, s3, _⟩ := sz
      replace q : ∀ H', Kp [] H H' → Q (.bl (inV (.str k) [.str "set", .str "half"] && nameB d2 && exprB 3 d3)) H' := q
      rw [hi] at q
      walk_at "go"
      intro H3 k3
      have h13 := k3.tup _ _ h12
      have t33 := k3.tr t3
      refine ⟨_, rfl, iteB (fun hb => ?_) (fun hb => ?_)⟩
      · rw [hb] at q
        walk_at "go"
        intro H4 k4
        exact q H4 ((k2.step0 k3).step0 k4)
      · rw [hb] at q
        exact q H3 (k2.step0 k3)
    · have e3 : decide (V.int (((V.str k) :: xs).length : Int) = V.int 3) = false := dec_len (n := 3) (by rw [List.length_cons]; omega)
      have ef : plainB (.tuple (.str k :: ds)) = false := by
        rcases ds with _ | ⟨d2, _ | ⟨d3, r⟩⟩
        · rfl
        · show (if k = "tell" then exprB 3 d2 else inV (.str k) [.str "say", .str "stop"] && wordB d2) = false
          have n1 : inV (.str "tell") [.str "set", .str "half"] = false := by decide +kernel
          have n2 : k ≠ "tell" := by
            rintro rfl
            rw [n1] at hi
            cases hi
          rw [if_neg n2]
          have hi2 : inV (.str k) [.str "say", .str "stop"] = false := by
            cases e : inV (.str k) [.str "say", .str "stop"] with
            | false => rfl
            | true =>
              exfalso
              have f1 := in2 hi
              have f2 := in2 e
              rcases f1 with rfl | rfl <;> rcases f2 with f2 | f2 <;> revert f2 <;> decide +kernel
          rw [hi2]
          rfl
        · rcases r with _ | ⟨d4, r⟩
          · exact absurd rfl l3
          · rfl
      rw [ef] at q
      walk_at "go"
      rw [e3]
      exact q H2 k2
  · replace hi : inV (.str k) [.str "set", .str "half"] = false := hi
    walk_at "go"
    rw [dec_str]
    refine iteB (fun hk => ?_) (fun hk => ?_)
    · have hk := of_decide_eq_true hk
      by_cases l2 : ds.length = 1
      · obtain ⟨d2, rfl⟩ : ∃ d2, ds = [d2] := by
          match ds, l2 with
          | [d2], _ => exact ⟨d2, rfl⟩
        simp only [TrAll] at hs2
        obtain ⟨x2, _, rfl, t2, rfl⟩ := hs2
        simp only [Szds] at sz
        obtain ⟨s2, _⟩ := sz
        replace q : ∀ H', Kp [] H H' → Q (.bl (if k = "tell" then exprB 3 d2 else inV (.str k) [.str "say", .str "stop"] && wordB d2)) H' := q
        rw [if_pos hk] at q
        walk_at "go"
        intro H3 k3
        exact q H3 (k2.step0 k3)
      · have e3 : decide (V.int (((V.str k) :: xs).length : Int) = V.int 2) = false := dec_len (n := 2) (by rw [List.length_cons]; omega)
        have ef : plainB (.tuple (.str k :: ds)) = false := by
          rcases ds with _ | ⟨d2, _ | ⟨d3, _ | ⟨d4, r⟩⟩⟩
          · rfl
          · exact absurd rfl l2
          · show (inV (.str k) [.str "set", .str "half"] && nameB d2 && exprB 3 d3) = false
            rw [hi]
            rfl
          · rfl
        rw [ef] at q
        walk_at "go"
        rw [e3]
        exact q H2 k2
    · have hk := of_decide_eq_false hk
      walk_at "go"
      intro u3 H3 hu3 e3
      have k3 := new_kp hu3 e3
      have a3 := new_at e3
      have h13 := k3.tup _ _ h12
      have hs3 := k3.trAll hs2
      refine ⟨u3, _, rfl, .inr (SqT.of a3), rfl, rfl, _, rfl, ?_⟩
      refine iteB (fun hj => ?_) (fun hj => ?_)
      · replace hj : inV (.str k) [.str "say", .str "stop"] = true := hj
        by_cases l2 : ds.length = 1
        · obtain ⟨d2, rfl⟩ : ∃ d2, ds = [d2] := by
            match ds, l2 with
            | [d2], _ => exact ⟨d2, rfl⟩
          simp only [TrAll] at hs3
          obtain ⟨x2, _, rfl, t2, rfl⟩ := hs3
          simp only [Szds] at sz
          obtain ⟨s2, _⟩ := sz
          replace q : ∀ H', Kp [] H H' → Q (.bl (if k = "tell" then exprB 3 d2 else inV (.str k) [.str "say", .str "stop"] && wordB d2)) H' := q
          rw [if_neg hk, hj] at q
          walk_at "go"
          intro H4 k4
          exact q H4 ((k2.step0 k3).step0 k4)
        · have e3 : decide (V.int (((V.str k) :: xs).length : Int) = V.int 2) = false := dec_len (n := 2) (by rw [List.length_cons]; omega)
          have ef : plainB (.tuple (.str k :: ds)) = false := by
            rcases ds with _ | ⟨d2, _ | ⟨d3, _ | ⟨d4, r⟩⟩⟩
            · rfl
            · exact absurd rfl l2
            · show (inV (.str k) [.str "set", .str "half"] && nameB d2 && exprB 3 d3) = false
              rw [hi]
              rfl
            · rfl
          rw [ef] at q
          walk_at "go"
          rw [e3]
          exact q H3 (k2.step0 k3)
      · replace hj : inV (.str k) [.str "say", .str "stop"] = false := hj
        have ef : plainB (.tuple (.str k :: ds)) = false := by
          rcases ds with _ | ⟨d2, _ | ⟨d3, _ | ⟨d4, r⟩⟩⟩
          · rfl
          · show (if k = "tell" then exprB 3 d2 else inV (.str k) [.str "say", .str "stop"] && wordB d2) = false
            rw [if_neg hk, hj]
            rfl
          · show (inV (.str k) [.str "set", .str "half"] && nameB d2 && exprB 3 d3) = false
            rw [hi]
            rfl
          · rfl
        rw [ef] at q
        exact q H3 (k2.step0 k3)
theorem ok_is_statement (T : Top K mg) {k : Nat} : FnOk P w K mg base CX0 (k + 9) T.is_statement.f T.is_statement.fd ["value"] (spBoolD stmtB) := by
  have G_is_plain : FnOk P w K mg base CX0 6 T.is_plain.f T.is_plain.fd ["value"] (spStmt plainB) := ok_is_plain T
  have G_is_test : FnOk P w K mg base CX0 8 T.is_test.f T.is_test.fd ["value", "nots"] (spBoolN testB 2) := ok_is_test T 2
  have G_is_whole : FnOk P w K mg base CX0 1 T.is_whole.f T.is_whole.fd ["value", "least", "most"] spWhole := ok_is_whole T
  refine T.is_statement.F.ok sc_is_statement (fun vs H Q E h => ?_) (fun cdv A outer s H vs Q E hr h => ?_)
  · obtain ⟨v, d, rfl, _⟩ := h
    rfl
  obtain ⟨v, d, rfl, hT, sz, q⟩ := h
  refine ⟨_, (pss_cons (ps_if (PW.pt (pw_or (pt_not (pt_val (pe_callB (id := "isinstance") (call_isiK (K := K) rfl) (by rfl) T.isinstance (by decide +kernel) (pa_cons (pv 0) (pa_cons (pe_bltn (v := .ty "tuple") (u := .type "tuple") (by rfl) T.tuple (by decide +kernel) rfl) pa_nil))))) (pw_or (pt_cmpR op_eq (pe_callB (id := "len") (call_lenK (K := K) rfl) (by rfl) T.len PySem.boot_len (pa_cons (pv 0) pa_nil)) pe_int (nomark _)) (pw_or1 (pt_not (pt_val (pe_callB (id := "isinstance") (call_isiK (K := K) rfl) (by rfl) T.isinstance (by decide +kernel) (pa_cons (pe_ix (ix_tupK (K := K) rfl) (pv 0) pe_int (fun _ _ => rfl)) (pa_cons (pe_bltn (v := .ty "str") (u := .type "str") (by rfl) T.str (by decide +kernel) rfl) pa_nil))))))))) (pss_one (ps_ret pe_bl)) pss_nil)
      (pss_cons (ps_if (pt_cmpR op_eq (pe_ix (ix_tupK (K := K) rfl) (pv 0) pe_int (fun _ _ => rfl)) pe_str (nomark _)) (pss_cons (ps_if (PW.pt (pw_or (pt_cmpR op_ne (pe_callB (id := "len") (call_lenK (K := K) rfl) (by rfl) T.len PySem.boot_len (pa_cons (pv 0) pa_nil)) pe_int (nomark _)) (pw_or1 (pt_not (pt_val (pe_call G_is_test (hr.mono (by omega)) (by rfl) T.is_test.g T.is_test.F.kp T.is_test.b .nil pass0 (pa_cons (pe_ix (ix_tupK (K := K) rfl) (pv 0) pe_int (fun _ _ => rfl)) (pa_cons (pe_glob (v := .int 2) (by rfl) T.g_MAX_NOTS ⟨_, rfl⟩) pa_nil)))))))) (pss_one (ps_ret pe_bl)) pss_nil)
      (pss_one (ps_ret (pe_and (pe_callB (id := "isinstance") (call_isiK (K := K) rfl) (by rfl) T.isinstance (by decide +kernel) (pa_cons (pe_ix (ix_tupK (K := K) rfl) (pv 0) pe_int (fun _ _ => rfl)) (pa_cons (pe_bltn (v := .ty "tuple") (u := .type "tuple") (by rfl) T.tuple (by decide +kernel) rfl) pa_nil))) (pe_one (pe_callB (id := "isinstance") (call_isiK (K := K) rfl) (by rfl) T.isinstance (by decide +kernel) (pa_cons (pe_ix (ix_tupK (K := K) rfl) (pv 0) pe_int (fun _ _ => rfl)) (pa_cons (pe_bltn (v := .ty "tuple") (u := .type "tuple") (by rfl) T.tuple (by decide +kernel) rfl) pa_nil)))))))) pss_nil)
      (pss_cons (ps_if (pt_cmpR op_eq (pe_ix (ix_tupK (K := K) rfl) (pv 0) pe_int (fun _ _ => rfl)) pe_str (nomark _)) (pss_one (ps_ret (pe_and (pe_cmpR op_eq (pe_callB (id := "len") (call_lenK (K := K) rfl) (by rfl) T.len PySem.boot_len (pa_cons (pv 0) pa_nil)) pe_int (nomark _)) (pe_and (pe_call G_is_whole (hr.mono (by omega)) (by rfl) T.is_whole.g T.is_whole.F.kp T.is_whole.b .nil pass0 (pa_cons (pe_ix (ix_tupK (K := K) rfl) (pv 0) pe_int (fun _ _ => rfl)) (pa_cons pe_int (pa_cons (pe_glob (v := .int 8) (by rfl) T.g_MAX_TIMES ⟨_, rfl⟩) pa_nil)))) (pe_one (pe_callB (id := "isinstance") (call_isiK (K := K) rfl) (by rfl) T.isinstance (by decide +kernel) (pa_cons (pe_ix (ix_tupK (K := K) rfl) (pv 0) pe_int (fun _ _ => rfl)) (pa_cons (pe_bltn (v := .ty "tuple") (u := .type "tuple") (by rfl) T.tuple (by decide +kernel) rfl) pa_nil)))))))) pss_nil)
      (pss_one (ps_ret (pe_call G_is_plain (hr.mono (by omega)) (by rfl) T.is_plain.g T.is_plain.F.kp T.is_plain.b .nil pass0 (pa_cons (pv 0) pa_nil))))))), ?_⟩
  cases d with
  | none => simp only [Tr] at hT; subst hT; walk_at "go"; exact q H Kp.refl
  | bool b => simp only [Tr] at hT; subst hT; walk_at "go"; exact q H Kp.refl
  | int b => simp only [Tr] at hT; subst hT; walk_at "go"; exact q H Kp.refl
  | str b => simp only [Tr] at hT; subst hT; walk_at "go"; exact q H Kp.refl
  | list ds => simp only [Tr] at hT
  | dict ds => simp only [Tr] at hT
  | tuple ds =>
    obtain ⟨a, xs, rfl, h1, h2⟩ := tr_tup hT
    have ln := h2.length
    simp only [Szd] at sz
    rcases ds with _ | ⟨d1, ds⟩
    · simp only [TrAll] at h2
      subst h2
      walk_at "go"
      exact q H Kp.refl
    simp only [TrAll] at h2
    obtain ⟨x1, xs, rfl, t1, h2⟩ := h2
    rw [List.length_cons, List.length_cons] at ln
    simp only [Szds] at sz
    obtain ⟨_, sz⟩ := sz
    have c0 : decide (V.int ((x1 :: xs).length : Int) = V.int 0) = false := dec_len (n := 0) (by simp)
    have ef1 : (∀ k, d1 ≠ .str k) → stmtB (.tuple (d1 :: ds)) = false := by
      intro nk
      unfold stmtB
      split <;> simp_all
    cases d1 with
    | none => rw [ef1 (fun k z => by cases z)] at q; simp only [Tr] at t1; subst t1; walk_at "go"; exact q H Kp.refl
    | bool b => rw [ef1 (fun k z => by cases z)] at q; simp only [Tr] at t1; subst t1; walk_at "go"; exact q H Kp.refl
    | int b => rw [ef1 (fun k z => by cases z)] at q; simp only [Tr] at t1; subst t1; walk_at "go"; exact q H Kp.refl
    | tuple es =>
      rw [ef1 (fun k z => by cases z)] at q
      obtain ⟨a2, xs2, rfl, g1, g2⟩ := tr_tup t1
      walk_at "go"
      exact q H Kp.refl
    | list ds => simp only [Tr] at t1
    | dict ds => simp only [Tr] at t1
    | str k =>
      cases tr_str t1
      have pf : inV (.str "if") [.str "set", .str "half"] = false := by decide +kernel
      have pf2 : inV (.str "if") [.str "say", .str "stop"] = false := by decide +kernel
      have pf3 : ¬ (("if" : Str) = "tell") := by decide +kernel
      have pf4 : ¬ (("if" : Str) = "repeat") := by decide +kernel
      have pr : inV (.str "repeat") [.str "set", .str "half"] = false := by decide +kernel
      have pr2 : inV (.str "repeat") [.str "say", .str "stop"] = false := by decide +kernel
      have pr3 : ¬ (("repeat" : Str) = "tell") := by decide +kernel
      have pr4 : ¬ (("repeat" : Str) = "if") := by decide +kernel
      walk_at "go"
      rw [dec_str]
      refine iteB (fun hk => ?_) (fun hk => ?_)
      · have hk := of_decide_eq_true hk
        subst hk
        by_cases l4 : ds.length = 3
        · obtain ⟨t, y, n, rfl⟩ : ∃ t y n, ds = [t, y, n] := by
            match ds, l4 with
            | [t, y, n], _ => exact ⟨t, y, n, rfl⟩
          simp only [TrAll] at h2
          obtain ⟨x2, _, rfl, t2, x3, _, rfl, t3, x4, _, rfl, t4, rfl⟩ := h2
          simp only [Szds] at sz
          obtain ⟨s2, _⟩ := sz
          replace q : ∀ H', Kp [] H H' → Q (.bl (decide (("if" : Str) = "if") && testB 2 t && isTupB y && isTupB n)) H' := q
          rw [decide_eq_true rfl] at q
          walk_at "go"
          intro H3 k3
          have h13 := k3.tup _ _ h1
          have t33 := k3.tr t3
          have t43 := k3.tr t4
          refine ⟨_, rfl, iteB (fun hb => ?_) (fun hb => ?_)⟩
          · replace hb := PyProof.Rows.false_of_not_true hb
            rw [hb] at q
            walk_at "go"
            exact q H3 k3
          · replace hb := PyProof.Rows.true_of_not_false hb
            rw [hb] at q
            obtain ⟨ty1, ty2, ty3⟩ := isi_tup (K := K) t33
            obtain ⟨tn1, tn2, tn3⟩ := isi_tup (K := K) t43
            walk_at "go"
            refine iteB (fun hy => ?_) (fun hy => ?_)
            · rw [hy] at q
              walk_at "go"
              exact q H3 k3
            · rw [hy] at q
              exact q H3 k3
        · have e3 : decide (V.int (((V.str "if") :: xs).length : Int) = V.int 4) = false := dec_len (n := 4) (by rw [List.length_cons]; omega)
          have ef : stmtB (.tuple (.str "if" :: ds)) = false := by
            rcases ds with _ | ⟨d2, _ | ⟨d3, _ | ⟨d4, _ | ⟨d5, r⟩⟩⟩⟩
            · rfl
            · show (if ("if" : Str) = "tell" then exprB 3 d2 else inV (.str "if") [.str "say", .str "stop"] && wordB d2) = false
              rw [if_neg pf3, pf2]
              rfl
            · show (if ("if" : Str) = "repeat" then wholeB 0 8 d2 && isTupB d3 else inV (.str "if") [.str "set", .str "half"] && nameB d2 && exprB 3 d3) = false
              rw [if_neg pf4, pf]
              rfl
            · exact absurd rfl l4
            · rfl
          rw [ef] at q
          walk_at "go"
          rw [e3]
          refine iteT ?_
          walk_at "go"
          exact q H Kp.refl
      · have hk := of_decide_eq_false hk
        walk_at "go"
        rw [dec_str]
        refine iteB (fun hk2 => ?_) (fun hk2 => ?_)
        · have hk2 := of_decide_eq_true hk2
          subst hk2
          by_cases l3 : ds.length = 2
          · obtain ⟨t, b, rfl⟩ : ∃ t b, ds = [t, b] := by
              match ds, l3 with
              | [t, b], _ => exact ⟨t, b, rfl⟩
            simp only [TrAll] at h2
            obtain ⟨x2, _, rfl, t2, x3, _, rfl, t3, rfl⟩ := h2
            replace q : ∀ H', Kp [] H H' → Q (.bl (if ("repeat" : Str) = "repeat" then wholeB 0 8 t && isTupB b else plainB (.tuple [.str "repeat", t, b]))) H' := q
            rw [if_pos rfl] at q
            walk_at "go"
            refine iteB (fun hb => ?_) (fun hb => ?_)
            · rw [hb] at q
              obtain ⟨ty1, ty2, ty3⟩ := isi_tup (K := K) t3
              walk_at "go"
              exact q H Kp.refl
            · rw [hb] at q
              exact q H Kp.refl
          · have e3 : decide (V.int (((V.str "repeat") :: xs).length : Int) = V.int 3) = false := dec_len (n := 3) (by rw [List.length_cons]; omega)
            have ef : stmtB (.tuple (.str "repeat" :: ds)) = false := by
              rcases ds with _ | ⟨d2, _ | ⟨d3, _ | ⟨d4, _ | ⟨d5, r⟩⟩⟩⟩
              · rfl
              · show (if ("repeat" : Str) = "tell" then exprB 3 d2 else inV (.str "repeat") [.str "say", .str "stop"] && wordB d2) = false
                rw [if_neg pr3, pr2]
                rfl
              · exact absurd rfl l3
              · show (decide (("repeat" : Str) = "if") && testB 2 d2 && isTupB d3 && isTupB d4) = false
                rw [decide_eq_false pr4]
                rfl
              · rfl
            rw [ef] at q
            walk_at "go"
            rw [e3]
            exact q H Kp.refl
        · have hk2 := of_decide_eq_false hk2
          have ef : stmtB (.tuple (.str k :: ds)) = plainB (.tuple (.str k :: ds)) := by
            rcases ds with _ | ⟨d2, _ | ⟨d3, _ | ⟨d4, _ | ⟨d5, r⟩⟩⟩⟩
            · rfl
            · rfl
            · show (if k = "repeat" then wholeB 0 8 d2 && isTupB d3 else plainB (.tuple [.str k, d2, d3])) = _
              rw [if_neg hk2]
            · show (decide (k = "if") && testB 2 d2 && isTupB d3 && isTupB d4) = false
              rw [decide_eq_false hk]
              rfl
            · rfl
          rw [ef] at q
          refine ⟨_, rfl, _, k, ds, rfl, hT, sz, q⟩
end
end EH
namespace EH
open PySem L2
/-! ### the blocks of a statement, on data -/
def blksD : PyData → List PyData
  | .tuple [.str k, _, y, n] => if k = "if" then [y, n] else []
  | .tuple [.str k, _, b] => if k = "repeat" then [b] else []
  | _ => []
def itemsD : PyData → List PyData
  | .tuple ds => ds
  | _ => []
def bitems (d : PyData) : List PyData := (blksD d).flatMap itemsD
theorem st_ir : ¬ (("if" : Str) = "repeat") := by decide +kernel
theorem st_ri : ¬ (("repeat" : Str) = "if") := by decide +kernel
theorem plain_kw {w : Str} {ds : List PyData} (h : plainB (.tuple (.str w :: ds)) = true) : w ≠ "if" ∧ w ≠ "repeat" := by
  have a1 : inV (.str "if") [.str "set", .str "half"] = false := by decide +kernel
  have a2 : inV (.str "if") [.str "say", .str "stop"] = false := by decide +kernel
  have a3 : ¬ (("if" : Str) = "tell") := by decide +kernel
  have b1 : inV (.str "repeat") [.str "set", .str "half"] = false := by decide +kernel
  have b2 : inV (.str "repeat") [.str "say", .str "stop"] = false := by decide +kernel
  have b3 : ¬ (("repeat" : Str) = "tell") := by decide +kernel
  rcases ds with _ | ⟨d2, _ | ⟨d3, _ | ⟨d4, r⟩⟩⟩
  · exact absurd h (by show ¬ (false = true); decide)
  · replace h : (if w = "tell" then exprB 3 d2 else inV (.str w) [.str "say", .str "stop"] && wordB d2) = true := h
    constructor
    · rintro rfl
      rw [if_neg a3, a2] at h
      exact absurd h (by simp)
    · rintro rfl
      rw [if_neg b3, b2] at h
      exact absurd h (by simp)
  · replace h : (inV (.str w) [.str "set", .str "half"] && nameB d2 && exprB 3 d3) = true := h
    constructor
    · rintro rfl
      rw [a1] at h
      exact absurd h (by simp)
    · rintro rfl
      rw [b1] at h
      exact absurd h (by simp)
  · exact absurd h (by show ¬ (false = true); decide)
theorem stmt_cases {d : PyData} (h : stmtB d = true) : (∃ t y n, d = .tuple [.str "if", t, .tuple y, .tuple n] ∧ testB 2 t = true) ∨ (∃ k b, d = .tuple [.str "repeat", .int k, .tuple b] ∧ 0 ≤ k ∧ k ≤ 8) ∨
    (∃ w ds, d = .tuple (.str w :: ds) ∧ w ≠ "if" ∧ w ≠ "repeat" ∧ plainB d = true ∧ blksD d = []) := by
  have tup : ∀ e, isTupB e = true → ∃ es, e = .tuple es := by
    intro e he
    cases e with
    | tuple es => exact ⟨es, rfl⟩
    | none => exact absurd he (by decide)
    | bool b => exact absurd he (by show ¬ (false = true); decide)
    | int b => exact absurd he (by show ¬ (false = true); decide)
    | str b => exact absurd he (by show ¬ (false = true); decide)
    | list b => exact absurd he (by show ¬ (false = true); decide)
    | dict b => exact absurd he (by show ¬ (false = true); decide)
  have pl : ∀ w ds, plainB (.tuple (.str w :: ds)) = true → (∃ w' ds', PyData.tuple (.str w :: ds) = .tuple (.str w' :: ds') ∧ w' ≠ "if" ∧ w' ≠ "repeat" ∧ plainB (.tuple (.str w :: ds)) = true ∧ blksD (.tuple (.str w :: ds)) = []) := by
    intro w ds hp
    obtain ⟨n1, n2⟩ := plain_kw hp
    refine ⟨w, ds, rfl, n1, n2, hp, ?_⟩
    rcases ds with _ | ⟨d2, _ | ⟨d3, _ | ⟨d4, _ | ⟨d5, r⟩⟩⟩⟩
    · rfl
    · rfl
    · show (if w = "repeat" then [d3] else []) = []
      rw [if_neg n2]
    · show (if w = "if" then [d3, d4] else []) = []
      rw [if_neg n1]
    · rfl
  unfold stmtB at h
  split at h
  · rename_i k t y n
    simp only [Bool.and_eq_true, decide_eq_true_eq] at h
    obtain ⟨⟨⟨rfl, h2⟩, h3⟩, h4⟩ := h
    obtain ⟨ys, rfl⟩ := tup y h3
    obtain ⟨ns, rfl⟩ := tup n h4
    exact .inl ⟨t, ys, ns, rfl, h2⟩
  · rename_i k t b
    by_cases e : k = "repeat"
    · rw [if_pos e] at h
      subst e
      simp only [Bool.and_eq_true] at h
      obtain ⟨h1, h2⟩ := h
      obtain ⟨bs, rfl⟩ := tup b h2
      cases t with
      | int i =>
        replace h1 : (decide (0 ≤ i) && decide (i ≤ 8)) = true := h1
        simp only [Bool.and_eq_true, decide_eq_true_eq] at h1
        exact .inr (.inl ⟨i, bs, rfl, h1.1, h1.2⟩)
      | none => exact absurd h1 (by decide)
      | bool b => exact absurd h1 (by show ¬ (false = true); decide)
      | tuple b => exact absurd h1 (by show ¬ (false = true); decide)
      | str b => exact absurd h1 (by show ¬ (false = true); decide)
      | list b => exact absurd h1 (by show ¬ (false = true); decide)
      | dict b => exact absurd h1 (by show ¬ (false = true); decide)
    · rw [if_neg e] at h
      exact .inr (.inr (pl _ _ h))
  · exact .inr (.inr (pl _ _ h))
  · cases h
/-- something that has the form of a statement, as far as its blocks go -/
def StD (d : PyData) : Prop := (∃ t y n, d = .tuple [.str "if", t, .tuple y, .tuple n]) ∨ (∃ k b, d = .tuple [.str "repeat", k, .tuple b]) ∨ (∃ w ds, d = .tuple (.str w :: ds) ∧ w ≠ "if" ∧ w ≠ "repeat" ∧ blksD d = [])
theorem stmt_std {d : PyData} (h : stmtB d = true) : StD d := by
  rcases stmt_cases h with ⟨t, y, n, e, _⟩ | ⟨k, b, e, _⟩ | ⟨w, ds, e, n1, n2, _, eb⟩
  · exact .inl ⟨t, y, n, e⟩
  · exact .inr (.inl ⟨.int k, b, e⟩)
  · exact .inr (.inr ⟨w, ds, e, n1, n2, eb⟩)
theorem Sm.std (s : Sm) : StD s.d := by
  cases s with
  | ite t y n => exact .inl ⟨t.d, Sm.ds y, Sm.ds n, by simp only [Sm.d]⟩
  | rep k b => exact .inr (.inl ⟨.int k, Sm.ds b, by simp only [Sm.d]⟩)
  | set x e => exact .inr (.inr ⟨"set", _, by simp only [Sm.d]; rfl, by decide +kernel, by decide +kernel, by simp only [Sm.d, blksD]; rw [if_neg (by decide +kernel)]⟩)
  | half x e => exact .inr (.inr ⟨"half", _, by simp only [Sm.d]; rfl, by decide +kernel, by decide +kernel, by simp only [Sm.d, blksD]; rw [if_neg (by decide +kernel)]⟩)
  | tell e => exact .inr (.inr ⟨"tell", _, by simp only [Sm.d]; rfl, by decide +kernel, by decide +kernel, by simp only [Sm.d, blksD]⟩)
  | say e => exact .inr (.inr ⟨"say", _, by simp only [Sm.d]; rfl, by decide +kernel, by decide +kernel, by simp only [Sm.d, blksD]⟩)
  | stop e => exact .inr (.inr ⟨"stop", _, by simp only [Sm.d]; rfl, by decide +kernel, by decide +kernel, by simp only [Sm.d, blksD]⟩)
def spBlocksD : Sp := fun vs H Q _ => ∃ (v : V) (d : PyData), vs = [v] ∧ Tr H d v ∧ StD d ∧ ∀ (p : Addr) (bs : List V) (H' : Hp), H p = none → H' p = some (.lst bs) → TrAll H' (blksD d) bs → Kp [] H H' → Q (.ref p) H'
def pairD (q : Int × PyData) : PyData := .tuple [.int q.1, q.2]
mutual
/-- how many parts there are -/
def dsz : PyData → Nat
  | .tuple ds => 1 + dszs ds
  | .none => 1
  | .bool _ => 1
  | .int _ => 1
  | .str _ => 1
  | .list _ => 1
  | .dict _ => 1
def dszs : List PyData → Nat
  | [] => 0
  | d :: r => dsz d + dszs r
end
theorem dsz_pos (d : PyData) : 1 ≤ dsz d := by cases d <;> simp only [dsz] <;> omega
theorem dszs_app : ∀ (a b : List PyData), dszs (a ++ b) = dszs a + dszs b
  | [], b => by simp only [List.nil_append, dszs]; omega
  | d :: r, b => by simp only [List.cons_append, dszs, dszs_app r b]; omega
theorem dszs_len : ∀ a : List PyData, a.length ≤ dszs a
  | [] => Nat.le_refl _
  | d :: r => by
    have := dsz_pos d
    have := dszs_len r
    simp only [dszs, List.length_cons]
    omega
theorem items_sz (d : PyData) : dszs (itemsD d) + 1 ≤ dsz d := by
  cases d with
  | tuple ds => simp only [itemsD, dsz]; omega
  | none => simp only [itemsD, dsz, dszs]; omega
  | bool _ => simp only [itemsD, dsz, dszs]; omega
  | int _ => simp only [itemsD, dsz, dszs]; omega
  | str _ => simp only [itemsD, dsz, dszs]; omega
  | list _ => simp only [itemsD, dsz, dszs]; omega
  | dict _ => simp only [itemsD, dsz, dszs]; omega
theorem bitems_sz (d : PyData) : dszs (bitems d) + 1 ≤ dsz d := by
  unfold bitems
  unfold blksD
  split
  · rename_i k t y n
    have h1 := items_sz y
    have h2 := items_sz n
    split
    · simp only [List.flatMap_cons, List.flatMap_nil, List.append_nil, dszs_app, dsz, dszs]
      omega
    · simp only [List.flatMap_nil, dsz, dszs]
      omega
  · rename_i k t b
    have h1 := items_sz b
    split
    · simp only [List.flatMap_cons, List.flatMap_nil, List.append_nil, dsz, dszs]
      omega
    · simp only [List.flatMap_nil, dsz, dszs]
      omega
  · have := dsz_pos d
    simp only [List.flatMap_nil, dszs]
    omega
theorem Szds.app : ∀ {a b : List PyData}, Szds a → Szds b → Szds (a ++ b)
  | [], b, _, h => h
  | d :: r, b, h, g => by
    simp only [Szds] at h
    simp only [List.cons_append, Szds]
    exact ⟨h.1, Szds.app h.2 g⟩
theorem Szd.items {d : PyData} (h : Szd d) : Szds (itemsD d) := by
  cases d with
  | tuple ds => simpa only [Szd, itemsD] using h
  | none => simp only [itemsD, Szds]
  | bool _ => simp only [itemsD, Szds]
  | int _ => simp only [itemsD, Szds]
  | str _ => simp only [itemsD, Szds]
  | list _ => simp only [itemsD, Szds]
  | dict _ => simp only [itemsD, Szds]
theorem Szd.bitems {d : PyData} (h : Szd d) : Szds (bitems d) := by
  unfold EH.bitems blksD
  split
  · rename_i k t y n
    simp only [Szd, Szds] at h
    split
    · simp only [List.flatMap_cons, List.flatMap_nil, List.append_nil]
      exact h.2.2.1.items.app h.2.2.2.1.items
    · simp only [List.flatMap_nil, Szds]
  · rename_i k t b
    simp only [Szd, Szds] at h
    split
    · simp only [List.flatMap_cons, List.flatMap_nil, List.append_nil]
      exact h.2.2.1.items
    · simp only [List.flatMap_nil, Szds]
  · simp only [List.flatMap_nil, Szds]
def spWithin : Sp := fun vs H Q _ => ∃ (v : V) (d : PyData) (dep : Int), vs = [v, .int dep] ∧ Tr H d v ∧ StD d ∧ dsz d ≤ 1000000 ∧
  ∀ (p : Addr) (us : List V) (H' : Hp), H p = none → H' p = some (.lst us) → TrAll H' ((((bitems d).map fun e => pairD (dep + 1, e))).reverse) us → Kp [] H H' → Q (.ref p) H'
theorem TrAll.rev {H : Hp} : ∀ {ds : List PyData} {vs : List V}, TrAll H ds vs → TrAll H ds.reverse vs.reverse
  | [], vs, h => by
    simp only [TrAll] at h
    subst h
    exact trs_nil
  | d :: ds, vs, h => by
    simp only [TrAll] at h
    obtain ⟨v, r, rfl, h1, h2⟩ := h
    rw [List.reverse_cons, List.reverse_cons]
    exact (TrAll.rev h2).append (trs_cons h1 trs_nil)
theorem TrAll.app_inv {H : Hp} : ∀ {ds es : List PyData} {vs : List V}, TrAll H (ds ++ es) vs → ∃ us ws, vs = us ++ ws ∧ TrAll H ds us ∧ TrAll H es ws
  | [], es, vs, h => ⟨[], vs, rfl, trs_nil, h⟩
  | d :: ds, es, vs, h => by
    simp only [List.cons_append, TrAll] at h
    obtain ⟨v, r, rfl, h1, h2⟩ := h
    obtain ⟨us, ws, rfl, h3, h4⟩ := TrAll.app_inv h2
    exact ⟨v :: us, ws, rfl, trs_cons h1 h3, h4⟩
theorem TrAll.snoc_inv {H : Hp} {ds : List PyData} {e : PyData} {vs : List V} (h : TrAll H (ds ++ [e]) vs) : ∃ us u, vs = us ++ [u] ∧ TrAll H ds us ∧ Tr H e u := by
  obtain ⟨us, ws, rfl, h1, h2⟩ := TrAll.app_inv h
  simp only [TrAll] at h2
  obtain ⟨u, _, rfl, h3, rfl⟩ := h2
  exact ⟨us, u, rfl, h1, h3⟩
/-! ### the first wrong statement -/
def stk (l : List (Int × PyData)) : List PyData := l.map (·.2)
def ordE : Nat → List (Int × PyData) → Int → Option (Int × Str)
  | 0, _, _ => none
  | _ + 1, [], _ => none
  | f + 1, (dep, d) :: r, p => if 3 < dep then some (p, "nest") else if stmtB d = true then ordE f (((bitems d).map fun e => (dep + 1, e)) ++ r) (p + 1) else some (p, "statement")
theorem stk_app (a b : List (Int × PyData)) : stk (a ++ b) = stk a ++ stk b := List.map_append
theorem stk_bi (dep : Int) (l : List PyData) : stk (l.map fun e => (dep, e)) = l := by
  unfold stk
  rw [List.map_map]
  exact List.map_id l
theorem ordE_fuel : ∀ (f g : Nat) (l : List (Int × PyData)) (p : Int), dszs (stk l) < f → dszs (stk l) < g → ordE f l p = ordE g l p
  | 0, g, l, p, h, _ => absurd h (Nat.not_lt_zero _)
  | f + 1, 0, l, p, _, h => absurd h (Nat.not_lt_zero _)
  | f + 1, g + 1, [], p, _, _ => rfl
  | f + 1, g + 1, (dep, d) :: r, p, h1, h2 => by
    simp only [ordE]
    split
    · rfl
    · split
      · have hb := bitems_sz d
        have e : dszs (stk ((dep, d) :: r)) = dsz d + dszs (stk r) := by
          show dszs (d :: stk r) = _
          simp only [dszs]
        have e2 : dszs (stk (((bitems d).map fun e => (dep + 1, e)) ++ r)) = dszs (bitems d) + dszs (stk r) := by rw [stk_app, stk_bi, dszs_app]
        exact ordE_fuel f g _ _ (by omega) (by omega)
      · rfl
def errD : Option (Int × Str) → PyData
  | none => .none
  | some (p, w) => .tuple [.int p, .str w]
def ordErr (ds : List PyData) : Option (Int × Str) := ordE (dszs ds + 1) (ds.map fun e => (0, e)) 0
def spOrder : Sp := fun vs H Q _ => ∃ (v : V) (ds : List PyData), vs = [v] ∧ Tr H (.tuple ds) v ∧ Szds ds ∧ dszs ds ≤ 1000000 ∧ ∀ (t : V) (H' : Hp), Tr H' (errD (ordErr ds)) t → Kp [] H H' → Q t H'
end EH
namespace EH
open PySem L2
local macro_rules | `(tactic| walk_at "sd") => `(tactic| first | assumption | ((with_reducible show (_ : Int) ≤ _); omega) | ((with_reducible show (_ : Int) < _); omega) | rfl | exact SqL.of (by assumption) | exact SqT.of (by assumption) | exact atI_nat (j := 0) rfl | exact atI_nat (j := 1) rfl | exact atI_nat (j := 2) rfl | exact atI_nat (j := 3) rfl | exact sz_lit rfl | exact lt_lit rfl | exact pos_lit rfl | exact le_lit rfl | exact Or.inl (SqL.of (by assumption)) | exact ⟨_, SqL.of (by assumption)⟩ | exact ⟨_, SqT.of (by assumption)⟩ | exact Or.inr (SqT.of (by assumption)) | exact ClsV.ty _ | exact TyX.base (TyOf.int _) | exact TyX.base (TyOf.str _) | exact TyX.base (TyOf.tup (by assumption)) | exact kit_ty isi_ss | exact kit_ty isi_is | exact kit_ty isi_ts | exact kit_ty isi_si | exact kit_ty isi_ii | exact kit_ty isi_ti | exact kit_ty isi_st | exact kit_ty isi_it | exact kit_ty isi_tt | exact TyX.base TyOf.non | exact TyX.base (TyOf.bl _) | exact kit_ty isi_bs | exact kit_ty isi_bi | exact kit_ty isi_bt | exact kit_ty isi_bb | exact kit_ty isi_ns | exact kit_ty isi_ni | exact kit_ty isi_nt | exact kit_ty isi_nb | exact kit_ty isi_sb | exact kit_ty isi_ib | exact kit_ty isi_tb | exact Or.inl ⟨_, Or.inl (by assumption)⟩ | exact DGet.k (k := Sum.inr _) (by assumption) | exact DGet.k (k := Sum.inl _) (by assumption) | (refine cpow_of ?_; decide) | (refine cmul_of ?_; decide) | (show (_ : Int) ≠ 0; first | decide | omega) | (refine cdivn_of ?_; decide) | exact Or.inl ⟨rfl, _, SqL.of (by assumption)⟩ | omega)
local macro_rules | `(tactic| walk_at "st") => `(tactic| first | (apply Exists.intro) | (refine And.intro ?_ ?_; focus (walk_at "sd")) | (apply Or.inl; apply Exists.intro; refine And.intro ?_ ?_; focus rfl) | (apply Or.inr; apply Exists.intro; refine And.intro ?_ ?_; focus rfl))
local macro_rules | `(tactic| walk_at "go") => `(tactic| repeat (walk_at "st"))
section
variable {P : Program} {w : World} {K : PySem.W.Frag} {mg : Str → Option Value} {base : Heap}
theorem ok_blocks_ofD (T : Top K mg) {k : Nat} : FnOk P w K mg base CX0 (k + 1) T.blocks_of.f T.blocks_of.fd ["statement"] spBlocksD := by
  refine T.blocks_of.F.ok sc_blocks_of (fun vs H Q E h => ?_) (fun cdv A outer s H vs Q E hr h => ?_)
  · obtain ⟨v, s, rfl, _⟩ := h
    rfl
  obtain ⟨v, d, rfl, hT, hd, q⟩ := h
  refine ⟨_, (pss_cons (ps_if (pt_cmpR op_eq (pe_ix (ix_tupK (K := K) rfl) (pv 0) pe_int (fun _ _ => rfl)) pe_str (nomark _)) (pss_one (ps_ret (pe_lstA (pa_cons (pe_ix (ix_tupK (K := K) rfl) (pv 0) pe_int (fun _ _ => rfl)) (pa_cons (pe_ix (ix_tupK (K := K) rfl) (pv 0) pe_int (fun _ _ => rfl)) pa_nil))))) pss_nil)
      (pss_one (ps_ret (pe_ifExp (pt_cmpR op_eq (pe_ix (ix_tupK (K := K) rfl) (pv 0) pe_int (fun _ _ => rfl)) pe_str (nomark _)) (pe_lstA (pa_cons (pe_ix (ix_tupK (K := K) rfl) (pv 0) pe_int (fun _ _ => rfl)) pa_nil)) (pe_lstA pa_nil))))), ?_⟩
  rcases hd with ⟨t, y, n, rfl⟩ | ⟨k, b, rfl⟩ | ⟨w, ds, rfl, n1, n2, eb⟩
  · obtain ⟨p, x1, x2, x3, x4, rfl, h1, t1, t2, t3, t4⟩ := tr_tup4 hT
    cases tr_str t1
    walk_at "go"
    intro r H1 hr1 e1
    have k1 := new_kp hr1 e1
    refine q r _ H1 hr1 (new_at e1) ?_ k1
    show TrAll H1 (if ("if" : Str) = "if" then [.tuple y, .tuple n] else []) _
    rw [if_pos rfl]
    exact trs_cons (k1.tr t3) (trs_cons (k1.tr t4) trs_nil)
  · obtain ⟨p, x1, x2, x3, rfl, h1, t1, t2, t3⟩ := tr_tup3 hT
    cases tr_str t1
    walk_at "go"
    intro r H1 hr1 e1
    have k1 := new_kp hr1 e1
    refine q r _ H1 hr1 (new_at e1) ?_ k1
    show TrAll H1 (if ("repeat" : Str) = "repeat" then [.tuple b] else []) _
    rw [if_pos rfl]
    exact trs_cons (k1.tr t3) trs_nil
  · obtain ⟨a, xs, rfl, h1, h2⟩ := tr_tup hT
    simp only [TrAll] at h2
    obtain ⟨x1, xs, rfl, t1, h2⟩ := h2
    cases tr_str t1
    rw [eb] at q
    walk_at "go"
    rw [dec_str, decide_eq_false n1]
    refine iteF ?_
    walk_at "go"
    rw [dec_str, decide_eq_false n2]
    refine iteF ?_
    walk_at "go"
    intro r H1 hr1 e1
    exact q r _ H1 hr1 (new_at e1) trs_nil (new_kp hr1 e1)
theorem ok_items_within (T : Top K mg) {k : Nat} : FnOk P w K mg base CX0 (k + 2) T.items_within.f T.items_within.fd ["statement", "depth"] spWithin := by
  have G_blocks_of : FnOk P w K mg base CX0 1 T.blocks_of.f T.blocks_of.fd ["statement"] spBlocksD := ok_blocks_ofD T
  refine T.items_within.F.ok sc_items_within (fun vs H Q E h => ?_) (fun cdv A outer s H vs Q E hr h => ?_)
  · obtain ⟨v, s, dep, rfl, _⟩ := h
    rfl
  obtain ⟨v, d, dep, rfl, hT, hd, hz, q⟩ := h
  refine ⟨_, (pss_cons (ps_set (i := 2) sc_items_within.nd rfl (.inl rfl) (pe_lstA pa_nil))
      (pss_cons (ps_forA (ps_for PassesOwn.never rfl (pi_listK (K := K) rfl (pe_call G_blocks_of (hr.mono (by omega)) (by rfl) T.blocks_of.g T.blocks_of.F.kp T.blocks_of.b .nil pass0 (pa_cons (pv 0) pa_nil))) (pg_name (i := 3) sc_items_within.nd rfl (.inl rfl)) (pss_one (ps_expr (pe_bmK (K := K) rfl PySem.F.plainAttrs_list PySem.F.slot_list_extend PySem.F.type_list_extend mt_extendA (pv 2) (pa_cons (pe_lc (own := [("item", 4)]) (by rfl) sc_items_within.nd (pi_tupK (K := K) rfl (pv 3)) (blkOk_by (N := ["statement", "depth", "found", "block", "item"]) (sc := defScope s_items_within) (own := [("item", 4)]) (by decide +kernel)) (fun _ _ _ _ _ => (pg_name (i := 4) sc_items_within.nd rfl (.inl rfl))) (fun _ _ _ _ _ => pts_nil) (fun _ _ _ _ _ => (pe_tupA (pa_cons (pe_op op_add (pv 1) pe_int) (pa_cons (pv 4) pa_nil))))) pa_nil))))))
      (pss_one (ps_ret (pe_revLA (K := K) rfl (pv 2)))))), ?_⟩
  have bz := bitems_sz d
  walk_at "go"
  intro fl H1 hf e1
  have k1 := new_kp hf e1
  have a1 := new_at e1
  have t1 := k1.tr hT
  walk_at "go"
  intro l2 bs H2 hl2 a2 tb2 k2
  have f2 := k2.at a1
  have nfl : fl ≠ l2 := ne_of_none a1 hl2
  have ktot : Kp [] H H2 := k1.step0 k2
  walk_at "go"
  refine ⟨for_list (K := K) (a := l2) (xs := bs) (fun i σ H3 => Lp (∃ (w3 w4 : Option V) (ws : List V), σ = [some v, some (.int dep), some (.ref fl), w3, w4] ∧ H3 fl = some (.lst ws) ∧ H3 l2 = some (.lst bs) ∧ TrAll H3 ((((blksD d).take i).flatMap itemsD).map fun e => pairD (dep + 1, e)) ws ∧ Kp [fl] H2 H3)) ⟨_, _, _, rfl, f2, a2, by simp only [List.take_zero, List.flatMap_nil, List.map_nil]; exact trs_nil, Kp.refl⟩ (fun i σ H3 _ x => ?_) ?_ ?_⟩
  · obtain ⟨⟨w3, w4, ws, _, _, a3, _⟩⟩ := x
    exact SqL.of a3
  · rintro i x σ H3 hx ⟨⟨w3, w4, ws, rfl, f3, a3, tw3, k3⟩⟩
    have hi : i < (blksD d).length := by
      obtain ⟨h, _⟩ := List.getElem?_eq_some_iff.mp hx
      rw [tb2.length] at h
      exact h
    obtain ⟨bd, hbd⟩ : ∃ bd, (blksD d)[i]? = some bd := ⟨_, List.getElem?_eq_getElem hi⟩
    obtain ⟨x', hx', tx⟩ := tb2.get hbd
    rw [hx] at hx'
    cases hx'
    obtain ⟨ys, rfl⟩ : ∃ ys, bd = .tuple ys := by
      have m := List.mem_of_getElem? hbd
      rcases hd with ⟨t, y, n, rfl⟩ | ⟨k, b, rfl⟩ | ⟨w, ds, rfl, n1, n2, eb⟩
      · replace m : bd ∈ (if ("if" : Str) = "if" then [.tuple y, .tuple n] else []) := m
        rw [if_pos rfl] at m
        simp only [List.mem_cons, List.not_mem_nil, or_false] at m
        rcases m with rfl | rfl
        · exact ⟨_, rfl⟩
        · exact ⟨_, rfl⟩
      · replace m : bd ∈ (if ("repeat" : Str) = "repeat" then [.tuple b] else []) := m
        rw [if_pos rfl] at m
        simp only [List.mem_cons, List.not_mem_nil, or_false] at m
        exact ⟨_, m⟩
      · rw [eb] at m
        cases m
    obtain ⟨ta, vs, rfl, hta, tvs⟩ := tr_tup (k3.tr tx)
    have etk : ((blksD d).take (i + 1)).flatMap itemsD = ((blksD d).take i).flatMap itemsD ++ ys := by
      rw [List.take_add_one, hbd, List.flatMap_append]
      simp [itemsD]
    have ebt : ((blksD d).take (i + 1)).flatMap itemsD ++ ((blksD d).drop (i + 1)).flatMap itemsD = bitems d := by
      rw [← List.flatMap_append, List.take_append_drop]
      rfl
    have lall : (((blksD d).take i).flatMap itemsD).length + ys.length ≤ 1000000 := by
      have e := congrArg List.length ebt
      rw [List.length_append, etk, List.length_append] at e
      have := dszs_len (bitems d)
      omega
    walk_at "go"
    intro D hD
    have nDf : fl ≠ D := ne_of_none f3 hD
    refine lc_tup (K := K) (a := ta) (xs := vs) (fun j H4 => Lp (Kp [D] H3 H4 ∧ ∃ us, H4 D = some (.lst us) ∧ TrAll H4 ((ys.take j).map fun e => pairD (dep + 1, e)) us)) ⟨(Kp.new hD).sub (by simp), [], upd_same, by simp only [List.take_zero, List.map_nil]; exact trs_nil⟩ ?_ ?_ ?_
    · rintro j H4 _ ⟨⟨k4, _⟩⟩
      exact SqT.of (k4.tup _ _ hta)
    · rintro j x H4 hx4 ⟨⟨k4, us, d4, tu4⟩⟩
      have hj : j < ys.length := by
        obtain ⟨h, _⟩ := List.getElem?_eq_some_iff.mp hx4
        rw [tvs.length] at h
        exact h
      have hy : ys[j]? = some ys[j] := List.getElem?_eq_getElem hj
      obtain ⟨x', hx', txx⟩ := tvs.get hy
      rw [hx4] at hx'
      cases hx'
      have tx4 := k4.tr txx
      have lu := tu4.length
      rw [List.length_map, List.length_take] at lu
      have lu2 : us.length < sizeLine := sz_lt (by omega)
      walk_at "go"
      intro r5 H5 hr5 e5
      have k5 := new_kp hr5 e5
      have a5 := new_at e5
      have d5 := k5.at d4
      walk_at "go"
      have k6 := Kp.put (u := .lst (us ++ [.ref r5])) d5 (fun _ y => by cases y)
      refine ⟨⟨(k4.step0 k5).step1 k6 (.inl (by simp)), _, upd_same, ?_⟩⟩
      rw [List.take_add_one, hy, List.map_append]
      exact (k6.trAll (k5.trAll tu4)).append (trs_cons (k6.tr (mk_tup a5 (trs_cons mk_int (trs_cons (k5.tr tx4) trs_nil)))) trs_nil)
    · rintro H4 ⟨⟨k4, us, d4, tu4⟩⟩
      rw [tvs.length, List.take_length] at tu4
      have lu := tu4.length
      rw [List.length_map] at lu
      have lw := tw3.length
      rw [List.length_map] at lw
      have f4 := k4.keep _ _ f3 (ne1 nDf)
      have nl2 : l2 ≠ D := ne_of_none a3 hD
      have l24 := k4.keep _ _ a3 (ne1 nl2)
      have sz4 : ws.length + us.length ≤ sizeLine := sz_le (by omega)
      walk_at "go"
      intro H5 f5 k5
      refine ⟨_, _, _, rfl, f5, k5.keep _ _ l24 (ne1 nfl.symm), ?_, ?_⟩
      · rw [etk, List.map_append]
        exact (k5.trAll (k4.trAll tw3)).append (k5.trAll tu4)
      · have k34 : Kp [] H3 H4 := Kp.refl.step1 k4 (.inr hD)
        exact (k3.step0 k34).trans k5
  · rintro σ H3 ⟨⟨w3, w4, ws, rfl, f3, a3, tw3, k3⟩⟩
    rw [tb2.length, List.take_length] at tw3
    have kH3 : Kp [] H H3 := ktot.step1 k3 (.inr hf)
    walk_at "go"
    intro r4 H4 hr4 e4
    have k4 := new_kp hr4 e4
    exact q r4 _ H4 (kH3.free hr4 (by simp)) (new_at e4) (k4.trAll tw3).rev (kH3.step0 k4)
end
end EH
namespace EH
open PySem L2
local macro_rules | `(tactic| walk_at "sd") => `(tactic| first | assumption | ((with_reducible show (_ : Int) ≤ _); omega) | ((with_reducible show (_ : Int) < _); omega) | rfl | exact SqL.of (by assumption) | exact SqT.of (by assumption) | exact atI_nat (j := 0) rfl | exact atI_nat (j := 1) rfl | exact atI_nat (j := 2) rfl | exact atI_nat (j := 3) rfl | exact sz_lit rfl | exact lt_lit rfl | exact pos_lit rfl | exact le_lit rfl | exact Or.inl (SqL.of (by assumption)) | exact ⟨_, SqL.of (by assumption)⟩ | exact ⟨_, SqT.of (by assumption)⟩ | exact Or.inr (SqT.of (by assumption)) | exact ClsV.ty _ | exact TyX.base (TyOf.int _) | exact TyX.base (TyOf.str _) | exact TyX.base (TyOf.tup (by assumption)) | exact kit_ty isi_ss | exact kit_ty isi_is | exact kit_ty isi_ts | exact kit_ty isi_si | exact kit_ty isi_ii | exact kit_ty isi_ti | exact kit_ty isi_st | exact kit_ty isi_it | exact kit_ty isi_tt | exact TyX.base TyOf.non | exact TyX.base (TyOf.bl _) | exact kit_ty isi_bs | exact kit_ty isi_bi | exact kit_ty isi_bt | exact kit_ty isi_bb | exact kit_ty isi_ns | exact kit_ty isi_ni | exact kit_ty isi_nt | exact kit_ty isi_nb | exact kit_ty isi_sb | exact kit_ty isi_ib | exact kit_ty isi_tb | exact Or.inl ⟨_, Or.inl (by assumption)⟩ | exact DGet.k (k := Sum.inr _) (by assumption) | exact DGet.k (k := Sum.inl _) (by assumption) | (refine cpow_of ?_; decide) | (refine cmul_of ?_; decide) | (show (_ : Int) ≠ 0; first | decide | omega) | (refine cdivn_of ?_; decide) | exact Or.inl ⟨rfl, _, SqL.of (by assumption)⟩ | omega)
local macro_rules | `(tactic| walk_at "st") => `(tactic| first | (apply Exists.intro) | (refine And.intro ?_ ?_; focus (walk_at "sd")) | (apply Or.inl; apply Exists.intro; refine And.intro ?_ ?_; focus rfl) | (apply Or.inr; apply Exists.intro; refine And.intro ?_ ?_; focus rfl))
local macro_rules | `(tactic| walk_at "go") => `(tactic| repeat (walk_at "st"))
section
variable {P : Program} {w : World} {K : PySem.W.Frag} {mg : Str → Option Value} {base : Heap}
theorem ok_order_error (T : Top K mg) {k : Nat} : FnOk P w K mg base CX0 (k + 10) T.order_error.f T.order_error.fd ["value"] spOrder := by
  have G_items_within : FnOk P w K mg base CX0 2 T.items_within.f T.items_within.fd ["statement", "depth"] spWithin := ok_items_within T
  have G_is_statement : FnOk P w K mg base CX0 9 T.is_statement.f T.is_statement.fd ["value"] (spBoolD stmtB) := ok_is_statement T
  refine T.order_error.F.ok sc_order_error (fun vs H Q E h => ?_) (fun cdv A outer s H vs Q E hr h => ?_)
  · obtain ⟨v, ds, rfl, _⟩ := h
    rfl
  obtain ⟨v, ds, rfl, hT, sz, hz, q⟩ := h
  have hu := hu_of hr
  refine ⟨_, (pss_cons (ps_par (i := 1) (j := 2) (by rfl) sc_order_error.nd rfl rfl (by decide) rfl rfl (pa_cons (pe_revLA (K := K) rfl (pe_lc (own := [("item", 4)]) (by rfl) sc_order_error.nd (pi_tupK (K := K) rfl (pv 0)) (blkOk_by (N := ["value", "left", "place", "depth", "item"]) (sc := defScope s_order_error) (own := [("item", 4)]) (by decide +kernel)) (fun _ _ _ _ _ => (pg_name (i := 4) sc_order_error.nd rfl (.inl rfl))) (fun _ _ _ _ _ => pts_nil) (fun _ _ _ _ _ => (pe_tupA (pa_cons pe_int (pa_cons (pv 4) pa_nil)))))) (pa_cons pe_int pa_nil)) (by rfl))
      (pss_cons (ps_whileA (ps_while PassesOwn.never (pt_cmpR (op_neNil hu) (pv 1) (pe_lstA pa_nil) (nomark _)) (pss_cons (ps_asg (pe_bm0 PySem.F.plainAttrs_list PySem.F.slot_list_pop PySem.F.type_list_pop mt_popA (pv 1)) (pg_tup (by rfl) (pgs_cons (pg_name (i := 3) sc_order_error.nd rfl (.inl rfl)) (pgs_cons (pg_name (i := 4) sc_order_error.nd rfl (.inl rfl)) pgs_nil))))
      (pss_cons (ps_if (pt_cmpR op_gt (pv 3) (pe_glob (v := .int 3) (by rfl) T.g_MAX_NEST ⟨_, rfl⟩) (nomark _)) (pss_one (ps_ret (pe_tupA (pa_cons (pv 2) (pa_cons pe_str pa_nil))))) pss_nil)
      (pss_cons (ps_if (pt_not (pt_val (pe_call G_is_statement (hr.mono (by omega)) (by rfl) T.is_statement.g T.is_statement.F.kp T.is_statement.b .nil pass0 (pa_cons (pv 4) pa_nil)))) (pss_one (ps_ret (pe_tupA (pa_cons (pv 2) (pa_cons pe_str pa_nil))))) pss_nil)
      (pss_cons (ps_expr (pe_bmK (K := K) rfl PySem.F.plainAttrs_list PySem.F.slot_list_extend PySem.F.type_list_extend mt_extendA (pv 1) (pa_cons (pe_call G_items_within (hr.mono (by omega)) (by rfl) T.items_within.g T.items_within.F.kp T.items_within.b .nil pass0 (pa_cons (pv 4) (pa_cons (pv 3) pa_nil))) pa_nil)))
      (pss_one (ps_aug (i := 2) sc_order_error.nd rfl (.inl rfl) pe_int ip_add))))))))
      (pss_one (ps_ret pe_non)))), ?_⟩
  obtain ⟨ta, vs, rfl, hta, tvs⟩ := tr_tup hT
  have dl := dszs_len ds
  walk_at "go"
  intro D hD
  refine lc_tup (K := K) (a := ta) (xs := vs) (fun j H4 => Lp (Kp [D] H H4 ∧ ∃ us, H4 D = some (.lst us) ∧ TrAll H4 ((ds.take j).map fun e => pairD (0, e)) us)) ⟨(Kp.new hD).sub (by simp), [], upd_same, by simp only [List.take_zero, List.map_nil]; exact trs_nil⟩ ?_ ?_ ?_
  · rintro j H4 _ ⟨⟨k4, _⟩⟩
    exact SqT.of (k4.tup _ _ hta)
  · rintro j x H4 hx4 ⟨⟨k4, us, d4, tu4⟩⟩
    have hj : j < ds.length := by
      obtain ⟨h, _⟩ := List.getElem?_eq_some_iff.mp hx4
      rw [tvs.length] at h
      exact h
    have hy : ds[j]? = some ds[j] := List.getElem?_eq_getElem hj
    obtain ⟨x', hx', txx⟩ := tvs.get hy
    rw [hx4] at hx'
    cases hx'
    have tx4 := k4.tr txx
    have lu := tu4.length
    rw [List.length_map, List.length_take] at lu
    have lu2 : us.length < sizeLine := sz_lt (by omega)
    walk_at "go"
    intro r5 H5 hr5 e5
    have k5 := new_kp hr5 e5
    have a5 := new_at e5
    have d5 := k5.at d4
    walk_at "go"
    have k6 := Kp.put (u := .lst (us ++ [.ref r5])) d5 (fun _ y => by cases y)
    refine ⟨⟨(k4.step0 k5).step1 k6 (.inl (by simp)), _, upd_same, ?_⟩⟩
    rw [List.take_add_one, hy, List.map_append]
    exact (k6.trAll (k5.trAll tu4)).append (trs_cons (k6.tr (mk_tup a5 (trs_cons mk_int (trs_cons (k5.tr tx4) trs_nil)))) trs_nil)
  · rintro H4 ⟨⟨k4, us, d4, tu4⟩⟩
    rw [tvs.length, List.take_length] at tu4
    have k4' : Kp [] H H4 := Kp.refl.step1 k4 (.inr hD)
    walk_at "go"
    intro lf H5 hlf e5
    have k5 := new_kp hlf e5
    have a5 := new_at e5
    have kH5 := k4'.step0 k5
    have flf : H lf = none := k4'.free hlf (by simp)
    walk_at "go"
    have st0 : stk (ds.map fun e => ((0 : Int), e)) = ds := stk_bi 0 ds
    refine ⟨fun m σ H6 => Lp (∃ (l : List (Int × PyData)) (p : Int) (us : List V) (w3 w4 : Option V), σ = [some (.ref ta), some (.ref lf), some (.int p), w3, w4] ∧ H6 lf = some (.lst us) ∧ TrAll H6 ((l.map pairD).reverse) us ∧ m = dszs (stk l) ∧ m ≤ 1000000 ∧ Szds (stk l) ∧ (∀ f, dszs (stk l) < f → ordE f l p = ordErr ds) ∧ Kp [] H H6), ⟨dszs ds, ⟨ds.map fun e => (0, e), 0, _, _, _, rfl, a5, ?_, by rw [st0], hz, by rw [st0]; exact sz, fun f hf => ordE_fuel _ _ _ _ hf (by rw [st0]; omega), kH5⟩⟩, ?_⟩
    · rw [List.map_map]
      exact (k5.trAll tu4).rev
    · rintro m σ H6 ⟨⟨l, p, us, w3, w4, rfl, a6, t6, rfl, hm, sz6, fl6, k6⟩⟩
      walk_at "go"
      intro n7 H7 hn7 e7
      have k7 := new_kp hn7 e7
      have a7 := new_at e7
      have a67 := k7.at a6
      have t67 := k7.trAll t6
      refine ⟨lf, n7, us, rfl, rfl, a67, a7, _, rfl, ?_⟩
      rcases l with _ | ⟨⟨dep, d⟩, l⟩
      · simp only [List.map_nil, List.reverse_nil, TrAll] at t67
        subst t67
        refine iteF ?_
        walk_at "go"
        refine q .non H7 ?_ (k6.step0 k7)
        have e := fl6 1 (by simp only [stk, List.map_nil, dszs]; omega)
        rw [← e]
        exact mk_non
      · rw [List.map_cons, List.reverse_cons] at t67
        obtain ⟨us, u, rfl, tl, tu⟩ := t67.snoc_inv
        have ne : ((us ++ [u]).isEmpty) = false := by simp
        rw [ne]
        refine iteT ?_
        obtain ⟨pa, x1, x2, rfl, hpa, tx1, tx2⟩ := tr_tup2 tu
        cases tr_int tx1
        have esz : dszs (stk ((dep, d) :: l)) = dsz d + dszs (stk l) := by
          show dszs (d :: stk l) = _
          simp only [dszs]
        have hb := bitems_sz d
        have ell : dszs (stk (((bitems d).map fun e => (dep + 1, e)) ++ l)) = dszs (bitems d) + dszs (stk l) := by rw [stk_app, stk_bi, dszs_app]
        have szd : Szd d ∧ Szds (stk l) := by
          have : Szds (d :: stk l) := sz6
          simpa only [Szds] using this
        have fl7 := fl6 (dszs (stk ((dep, d) :: l)) + 1) (by omega)
        simp only [ordE] at fl7
        refine ⟨fun σ H9 => Lp (∃ (l' : List (Int × PyData)) (p : Int) (us : List V) (w3 w4 : Option V), σ = [some (.ref ta), some (.ref lf), some (.int p), w3, w4] ∧ H9 lf = some (.lst us) ∧ TrAll H9 ((l'.map pairD).reverse) us ∧ dszs (stk l') < dszs (stk ((dep, d) :: l)) ∧ dszs (stk l') ≤ 1000000 ∧ Szds (stk l') ∧ (∀ f, dszs (stk l') < f → ordE f l' p = ordErr ds) ∧ Kp [] H H9), fun σ' H' x => ?_, ?_⟩
        · obtain ⟨⟨l', p', us', w3', w4', h1, h2, h3, h4, h5, h6, h7, h8⟩⟩ := x
          exact ⟨dszs (stk l'), h4, ⟨l', p', us', w3', w4', h1, h2, h3, rfl, h5, h6, h7, h8⟩⟩
        walk_at "go"
        intro H8 a8 k8
        have hpa8 := k8.tup _ _ hpa
        have tx28 := k8.tr tx2
        have tl8 := k8.trAll tl
        have kH8 : Kp [] H H8 := (k6.step0 k7).step1 k8 (.inr flf)
        walk_at "go"
        refine iteB (fun hdep => ?_) (fun hdep => ?_)
        · have hdep := of_decide_eq_true hdep
          rw [if_pos hdep] at fl7
          walk_at "go"
          intro r9 H9 hr9 e9
          have k9 := new_kp hr9 e9
          refine q (.ref r9) H9 ?_ (kH8.step0 k9)
          rw [← fl7]
          exact mk_tup (new_at e9) (trs_cons mk_int (trs_cons mk_str trs_nil))
        · have hdep := of_decide_eq_false hdep
          rw [if_neg hdep] at fl7
          obtain ⟨szd1, szd2⟩ := szd
          walk_at "go"
          intro H9 k9
          have a89 := k9.at a8
          have tx29 := k9.tr tx28
          have tl9 := k9.trAll tl8
          refine ⟨_, rfl, iteB (fun hb => ?_) (fun hb => ?_)⟩
          · replace hb := PyProof.Rows.false_of_not_true hb
            rw [if_neg (by rw [hb]; simp)] at fl7
            walk_at "go"
            intro r10 H10 hr10 e10
            have k10 := new_kp hr10 e10
            refine q (.ref r10) H10 ?_ ((kH8.step0 k9).step0 k10)
            rw [← fl7]
            exact mk_tup (new_at e10) (trs_cons mk_int (trs_cons mk_str trs_nil))
          · replace hb := PyProof.Rows.true_of_not_false hb
            rw [if_pos hb] at fl7
            have dszd : dsz d ≤ 1000000 := by omega
            have std := stmt_std hb
            walk_at "go"
            intro p10 us10 H10 hp10 a10 t10 k10
            have a810 := k10.at a89
            have tl10 := k10.trAll tl9
            have ll := tl10.length
            have l10 : us10.length = (bitems d).length := by
              have := t10.length
              rw [List.length_reverse, List.length_map] at this
              exact this
            rw [List.length_reverse, List.length_map] at ll
            have lz1 := dszs_len (bitems d)
            have lz2 := dszs_len (stk l)
            have lz3 : (stk l).length = l.length := List.length_map _
            have sz10 : us.length + us10.length ≤ sizeLine := sz_le (by omega)
            walk_at "go"
            intro H11 a11 k11
            walk_at "go"
            refine ⟨((bitems d).map fun e => (dep + 1, e)) ++ l, p + 1, _, _, _, rfl, a11, ?_, by omega, by omega, ?_, ?_, ?_⟩
            · rw [List.map_append, List.reverse_append, List.map_map]
              exact (k11.trAll tl10).append (k11.trAll t10)
            · rw [stk_app, stk_bi]
              exact szd1.bitems.app szd2
            · intro f hf
              rw [← fl7]
              exact ordE_fuel _ _ _ _ hf (by omega)
            · exact ((kH8.step0 k9).step0 k10).step1 k11 (.inr flf)
end
end EH
namespace EH
open PySem L2
/-! ### what passes is a program -/
theorem str_ext {a b : Str} (h : a.cps.toList = b.cps.toList) : a = b := by
  cases a; cases b
  congr
  exact Array.toList_inj.mp h
theorem sgns_ok {z : Str} (h : sgnsB z = true) : PyData.strOk z = true := by
  have hs : ∀ c ∈ SGNS.cps.toList, c < 0x110000 := by decide +kernel
  show z.cps.all _ = true
  rw [← Array.all_toList, List.all_eq_true]
  intro c hc
  unfold sgnsB at h
  rw [List.all_eq_true] at h
  exact decide_eq_true (hs c (of_decide_eq_true (h c hc)))
theorem lenB_le {z : Str} (h : lenB z = true) : z.length ≤ 8 := by
  unfold lenB at h
  rw [Bool.and_eq_true] at h
  have := of_decide_eq_true h.2
  omega
theorem name_str {d : PyData} (h : nameB d = true) : ∃ z, d = .str z ∧ NmOk z := by
  cases d with
  | str z =>
    replace h : (lenB z && headB z && sgnsB z && !inV (.str z) KEPTS) = true := h
    simp only [Bool.and_eq_true] at h
    obtain ⟨⟨⟨h1, h2⟩, h3⟩, h4⟩ := h
    have := lenB_le h1
    exact ⟨z, rfl, sgns_ok h3, by omega⟩
  | none => exact absurd h (by decide)
  | bool b => exact absurd h (by show ¬ (false = true); decide)
  | int b => exact absurd h (by show ¬ (false = true); decide)
  | tuple b => exact absurd h (by show ¬ (false = true); decide)
  | list b => exact absurd h (by show ¬ (false = true); decide)
  | dict b => exact absurd h (by show ¬ (false = true); decide)
theorem word_str {d : PyData} (h : wordB d = true) : ∃ z, d = .str z ∧ PyData.strOk z = true ∧ z.length ≤ 20 := by
  cases d with
  | str z =>
    replace h : (lenB z && sgnsB z) = true := h
    simp only [Bool.and_eq_true] at h
    have := lenB_le h.1
    exact ⟨z, rfl, sgns_ok h.2, by omega⟩
  | none => exact absurd h (by decide)
  | bool b => exact absurd h (by show ¬ (false = true); decide)
  | int b => exact absurd h (by show ¬ (false = true); decide)
  | tuple b => exact absurd h (by show ¬ (false = true); decide)
  | list b => exact absurd h (by show ¬ (false = true); decide)
  | dict b => exact absurd h (by show ¬ (false = true); decide)
theorem whole_int {lo hi : Int} {d : PyData} (h : wholeB lo hi d = true) : ∃ i, d = .int i ∧ lo ≤ i ∧ i ≤ hi := by
  cases d with
  | int i =>
    replace h : (decide (lo ≤ i) && decide (i ≤ hi)) = true := h
    simp only [Bool.and_eq_true, decide_eq_true_eq] at h
    exact ⟨i, rfl, h.1, h.2⟩
  | none => exact absurd h (by show ¬ (false = true); decide)
  | bool b => exact absurd h (by show ¬ (false = true); decide)
  | str b => exact absurd h (by show ¬ (false = true); decide)
  | tuple b => exact absurd h (by show ¬ (false = true); decide)
  | list b => exact absurd h (by show ¬ (false = true); decide)
  | dict b => exact absurd h (by show ¬ (false = true); decide)
theorem expr_tup {n : Nat} {ds : List PyData} (h : exprB (n + 1) (.tuple ds) = true) : ∃ k b c, ds = [.str k, b, c] ∧ exprB n c = true ∧ (if k = "times" then wholeB (-9) 9 b else inV (.str k) [.str "plus", .str "minus"] && exprB n b) = true := by
  have no : ∀ {P : Prop}, (false = true) → P := fun z => by cases z
  rcases ds with _ | ⟨d1, _ | ⟨d2, _ | ⟨d3, _ | ⟨d4, r⟩⟩⟩⟩
  · exact no h
  · cases d1 <;> exact no h
  · cases d1 <;> exact no h
  · cases d1 with
    | str k =>
      replace h : (exprB n d3 && (if k = "times" then wholeB (-9) 9 d2 else inV (.str k) [.str "plus", .str "minus"] && exprB n d2)) = true := h
      rw [Bool.and_eq_true] at h
      exact ⟨k, d2, d3, rfl, h.1, h.2⟩
    | none => exact no h
    | bool _ => exact no h
    | int _ => exact no h
    | tuple _ => exact no h
    | list _ => exact no h
    | dict _ => exact no h
  · cases d1 <;> exact no h
theorem expr_flat {n : Nat} {d : PyData} (h : (nameB d || wholeB (-99) 99 d) = true) : ∃ e : Ex, d = e.d ∧ e.ok ∧ e.deep ≤ n + 1 := by
  rw [Bool.or_eq_true] at h
  rcases h with h | h
  · obtain ⟨z, rfl, ok⟩ := name_str h
    exact ⟨.var z, by simp only [Ex.d], ok, by simp only [Ex.deep]; omega⟩
  · obtain ⟨i, rfl, i1, i2⟩ := whole_int h
    exact ⟨.num i, by simp only [Ex.d], ⟨i1, i2⟩, by simp only [Ex.deep]; omega⟩
theorem expr_ex : ∀ (n : Nat) {d : PyData}, exprB n d = true → ∃ e : Ex, d = e.d ∧ e.ok ∧ e.deep ≤ n
  | 0, d, h => absurd h (by unfold exprB; simp)
  | n + 1, d, h => by
    cases d with
    | tuple ds =>
      obtain ⟨k, b, c, rfl, h1, h2⟩ := expr_tup h
      obtain ⟨ec, rfl, oc, dc⟩ := expr_ex n h1
      by_cases hk : k = "times"
      · rw [if_pos hk] at h2
        obtain ⟨i, rfl, i1, i2⟩ := whole_int h2
        subst hk
        exact ⟨.times i ec, by simp only [Ex.d], ⟨i1, i2, oc⟩, by simp only [Ex.deep]; omega⟩
      · rw [if_neg hk] at h2
        simp only [Bool.and_eq_true] at h2
        obtain ⟨hi, hb⟩ := h2
        obtain ⟨eb, rfl, ob, db⟩ := expr_ex n hb
        rcases in2 hi with rfl | rfl
        · exact ⟨.plus eb ec, by simp only [Ex.d], ⟨ob, oc⟩, by simp only [Ex.deep]; omega⟩
        · exact ⟨.minus eb ec, by simp only [Ex.d], ⟨ob, oc⟩, by simp only [Ex.deep]; omega⟩
    | none => exact expr_flat h
    | bool b => exact expr_flat h
    | int b => exact expr_flat h
    | str b => exact expr_flat h
    | list b => exact expr_flat h
    | dict b => exact expr_flat h
theorem test_ts : ∀ (n : Nat) {d : PyData}, testB n d = true → ∃ t : Ts, d = t.d ∧ t.ok ∧ t.nots ≤ n
  | n, d, h => by
    unfold testB at h
    split at h
    · rename_i k b c
      simp only [Bool.and_eq_true, decide_eq_true_eq] at h
      obtain ⟨⟨rfl, h1⟩, h2⟩ := h
      obtain ⟨eb, rfl, ob, db⟩ := expr_ex 3 h1
      obtain ⟨ec, rfl, oc, dc⟩ := expr_ex 3 h2
      exact ⟨.less eb ec, by simp only [Ts.d], ⟨⟨ob, db⟩, oc, dc⟩, Nat.zero_le _⟩
    · rename_i k b
      simp only [Bool.and_eq_true, decide_eq_true_eq] at h
      obtain ⟨rfl, h1⟩ := h
      obtain ⟨eb, rfl, ob, db⟩ := expr_ex 3 h1
      exact ⟨.odd eb, by simp only [Ts.d], ⟨ob, db⟩, Nat.zero_le _⟩
    · rename_i n k b
      by_cases hk : k = "odd"
      · rw [if_pos hk] at h
        subst hk
        obtain ⟨eb, rfl, ob, db⟩ := expr_ex 3 h
        exact ⟨.odd eb, by simp only [Ts.d], ⟨ob, db⟩, Nat.zero_le _⟩
      · rw [if_neg hk] at h
        simp only [Bool.and_eq_true, decide_eq_true_eq] at h
        obtain ⟨rfl, h1⟩ := h
        obtain ⟨t, rfl, ot, nt⟩ := test_ts n h1
        exact ⟨.not t, by simp only [Ts.d], ot, by simp only [Ts.nots]; omega⟩
    · cases h
theorem plain_sm {d : PyData} (h : plainB d = true) : ∃ s : Sm, d = s.d ∧ s.ok ∧ s.nest = 0 := by
  unfold plainB at h
  split at h
  · rename_i k b c
    simp only [Bool.and_eq_true] at h
    obtain ⟨⟨hi, h1⟩, h2⟩ := h
    obtain ⟨z, rfl, oz⟩ := name_str h1
    obtain ⟨e, rfl, oe, de⟩ := expr_ex 3 h2
    rcases in2 hi with rfl | rfl
    · exact ⟨.set z e, by simp only [Sm.d], by simp only [Sm.ok]; exact ⟨⟨oe, de⟩, oz⟩, by simp only [Sm.nest]⟩
    · exact ⟨.half z e, by simp only [Sm.d], by simp only [Sm.ok]; exact ⟨⟨oe, de⟩, oz⟩, by simp only [Sm.nest]⟩
  · rename_i k b
    by_cases hk : k = "tell"
    · rw [if_pos hk] at h
      subst hk
      obtain ⟨e, rfl, oe, de⟩ := expr_ex 3 h
      exact ⟨.tell e, by simp only [Sm.d], by simp only [Sm.ok]; exact ⟨oe, de⟩, by simp only [Sm.nest]⟩
    · rw [if_neg hk] at h
      simp only [Bool.and_eq_true] at h
      obtain ⟨hi, h1⟩ := h
      obtain ⟨z, rfl, oz⟩ := word_str h1
      rcases in2 hi with rfl | rfl
      · exact ⟨.say z, by simp only [Sm.d], by simp only [Sm.ok]; exact oz, by simp only [Sm.nest]⟩
      · exact ⟨.stop z, by simp only [Sm.d], by simp only [Sm.ok]; exact oz, by simp only [Sm.nest]⟩
  · cases h
theorem sms_of {dep : Int} : ∀ {l : List PyData}, (∀ d ∈ l, ∃ s : Sm, d = s.d ∧ s.ok ∧ (s.nest : Int) + dep ≤ 4) → ∃ b : List Sm, l = Sm.ds b ∧ Sm.oks b ∧ (b = [] ∨ (Sm.nests b : Int) + dep ≤ 4)
  | [], _ => ⟨[], by simp only [Sm.ds], by simp only [Sm.oks], .inl rfl⟩
  | d :: r, h => by
    obtain ⟨s, rfl, o, n⟩ := h d List.mem_cons_self
    obtain ⟨b, rfl, ob, nb⟩ := sms_of fun e he => h e (List.mem_cons_of_mem _ he)
    refine ⟨s :: b, by simp only [Sm.ds], by simp only [Sm.oks]; exact ⟨o, ob⟩, .inr ?_⟩
    simp only [Sm.nests]
    rcases nb with rfl | nb
    · simp only [Sm.nests]
      omega
    · omega
theorem ord_none : ∀ (f : Nat) (l : List (Int × PyData)) (p : Int), dszs (stk l) < f → ordE f l p = none → ∀ q ∈ l, ∃ s : Sm, q.2 = s.d ∧ s.ok ∧ (s.nest : Int) + q.1 ≤ 4
  | 0, l, p, hf, _ => absurd hf (Nat.not_lt_zero _)
  | f + 1, [], p, _, _ => fun q h => nomatch h
  | f + 1, (dep, d) :: r, p, hf, h => by
    simp only [ordE] at h
    by_cases hd : 3 < dep
    · rw [if_pos hd] at h; cases h
    · rw [if_neg hd] at h
      by_cases hs : stmtB d = true
      · rw [if_pos hs] at h
        have hb := bitems_sz d
        have e : dszs (stk ((dep, d) :: r)) = dsz d + dszs (stk r) := by
          show dszs (d :: stk r) = _
          simp only [dszs]
        have e2 : dszs (stk (((bitems d).map fun e => (dep + 1, e)) ++ r)) = dszs (bitems d) + dszs (stk r) := by rw [stk_app, stk_bi, dszs_app]
        have ih := ord_none f _ _ (by omega) h
        intro q hq
        rcases List.mem_cons.mp hq with rfl | hq
        · have each : ∀ e ∈ bitems d, ∃ s : Sm, e = s.d ∧ s.ok ∧ (s.nest : Int) + (dep + 1) ≤ 4 := fun e he => ih (dep + 1, e) (List.mem_append_left _ (List.mem_map.mpr ⟨e, he, rfl⟩))
          rcases stmt_cases hs with ⟨t, y, n, rfl, ht⟩ | ⟨k, b, rfl, k1, k2⟩ | ⟨w, ds, rfl, n1, n2, hp, eb⟩
          · have eb : bitems (.tuple [.str "if", t, .tuple y, .tuple n]) = y ++ n := by
              unfold bitems
              rw [show blksD (.tuple [.str "if", t, .tuple y, .tuple n]) = [.tuple y, .tuple n] by unfold blksD; exact if_pos rfl]
              simp [itemsD]
            rw [eb] at each
            obtain ⟨ys, ey, oy, ny⟩ := sms_of (dep := dep + 1) (l := y) fun e he => each e (List.mem_append_left _ he)
            obtain ⟨ns, en, on, nn⟩ := sms_of (dep := dep + 1) (l := n) fun e he => each e (List.mem_append_right _ he)
            obtain ⟨ts, et, ot, nt⟩ := test_ts 2 ht
            subst ey en et
            refine ⟨.ite ts ys ns, by simp only [Sm.d], by simp only [Sm.ok]; exact ⟨ot, nt, oy, on⟩, ?_⟩
            simp only [Sm.nest]
            have z1 : (Sm.nests ys : Int) + (dep + 1) ≤ 4 := by
              rcases ny with rfl | ny
              · simp only [Sm.nests]; omega
              · exact ny
            have z2 : (Sm.nests ns : Int) + (dep + 1) ≤ 4 := by
              rcases nn with rfl | nn
              · simp only [Sm.nests]; omega
              · exact nn
            omega
          · have eb : bitems (.tuple [.str "repeat", .int k, .tuple b]) = b := by
              unfold bitems
              rw [show blksD (.tuple [.str "repeat", .int k, .tuple b]) = [.tuple b] by unfold blksD; exact if_pos rfl]
              simp [itemsD]
            rw [eb] at each
            obtain ⟨bs, ey, oy, ny⟩ := sms_of (dep := dep + 1) (l := b) each
            subst ey
            refine ⟨.rep k.toNat bs, ?_, ?_, ?_⟩
            · simp only [Sm.d]
              rw [Int.toNat_of_nonneg k1]
            · simp only [Sm.ok]
              exact ⟨by omega, oy⟩
            · simp only [Sm.nest]
              rcases ny with rfl | ny
              · simp only [Sm.nests]; omega
              · omega
          · obtain ⟨s, es, os, ns⟩ := plain_sm hp
            exact ⟨s, es, os, by rw [ns]; show ((0 : Nat) : Int) + dep ≤ 4; omega⟩
        · exact ih q (List.mem_append_right _ hq)
      · rw [if_neg hs] at h; cases h
theorem ordErr_none {ds : List PyData} (h : ordErr ds = none) : ∃ b : List Sm, ds = Sm.ds b ∧ Sm.oks b ∧ Sm.nests b ≤ 4 := by
  have hs : stk (ds.map fun e => ((0 : Int), e)) = ds := stk_bi 0 ds
  have := ord_none _ _ _ (by rw [hs]; omega) h
  obtain ⟨b, e, o, n⟩ := sms_of (dep := 0) (l := ds) fun d hd => this (0, d) (List.mem_map.mpr ⟨d, hd, rfl⟩)
  refine ⟨b, e, o, ?_⟩
  rcases n with rfl | n
  · simp only [Sm.nests]; omega
  · omega
/-! ### the statements in order -/
mutual
def Sm.prs (dep : Int) : Sm → List (Int × Sm)
  | .ite t y n => (dep, .ite t y n) :: (Sm.prss (dep + 1) y ++ Sm.prss (dep + 1) n)
  | .rep k b => (dep, .rep k b) :: Sm.prss (dep + 1) b
  | .set x e => [(dep, .set x e)]
  | .half x e => [(dep, .half x e)]
  | .tell e => [(dep, .tell e)]
  | .say w => [(dep, .say w)]
  | .stop w => [(dep, .stop w)]
def Sm.prss (dep : Int) : List Sm → List (Int × Sm)
  | [] => []
  | s :: r => Sm.prs dep s ++ Sm.prss dep r
end
mutual
theorem Sm.prs_len (dep : Int) : ∀ s : Sm, (s.prs dep).length = s.pl
  | .ite t y n => by simp only [Sm.prs, Sm.pl, List.length_cons, List.length_append, Sm.prss_len (dep + 1) y, Sm.prss_len (dep + 1) n]; omega
  | .rep k b => by simp only [Sm.prs, Sm.pl, List.length_cons, Sm.prss_len (dep + 1) b]; omega
  | .set x e => by simp only [Sm.prs, Sm.pl, List.length_singleton]
  | .half x e => by simp only [Sm.prs, Sm.pl, List.length_singleton]
  | .tell e => by simp only [Sm.prs, Sm.pl, List.length_singleton]
  | .say w => by simp only [Sm.prs, Sm.pl, List.length_singleton]
  | .stop w => by simp only [Sm.prs, Sm.pl, List.length_singleton]
theorem Sm.prss_len (dep : Int) : ∀ b : List Sm, (Sm.prss dep b).length = Sm.pls b
  | [] => by simp only [Sm.prss, Sm.pls, List.length_nil]
  | s :: r => by simp only [Sm.prss, Sm.pls, List.length_append, Sm.prs_len dep s, Sm.prss_len dep r]
end
def pairS (q : Int × Sm) : PyData := .tuple [.int q.1, q.2.d]
/-- the items of the blocks of a statement -/
def Sm.inn : Sm → List Sm
  | .ite _ y n => y ++ n
  | .rep _ b => b
  | _ => []
theorem Sm.prs_inn (dep : Int) (s : Sm) : s.prs dep = (dep, s) :: Sm.prss (dep + 1) s.inn := by
  have app : ∀ (a b : List Sm), Sm.prss (dep + 1) (a ++ b) = Sm.prss (dep + 1) a ++ Sm.prss (dep + 1) b := by
    intro a b
    induction a with
    | nil => simp only [List.nil_append, Sm.prss]
    | cons s r ih => simp only [List.cons_append, Sm.prss, ih, List.append_assoc]
  cases s with
  | ite t y n => simp only [Sm.prs, Sm.inn, app]
  | rep k b => simp only [Sm.prs, Sm.inn]
  | set x e => simp only [Sm.prs, Sm.inn, Sm.prss]
  | half x e => simp only [Sm.prs, Sm.inn, Sm.prss]
  | tell e => simp only [Sm.prs, Sm.inn, Sm.prss]
  | say w => simp only [Sm.prs, Sm.inn, Sm.prss]
  | stop w => simp only [Sm.prs, Sm.inn, Sm.prss]
theorem Sm.bitems_inn (s : Sm) : bitems s.d = Sm.ds s.inn := by
  unfold bitems
  cases s with
  | ite t y n =>
    rw [show blksD (Sm.ite t y n).d = [.tuple (Sm.ds y), .tuple (Sm.ds n)] by simp only [Sm.d, blksD]; exact if_pos trivial]
    simp [itemsD, Sm.inn, Sm.ds_app]
  | rep k b =>
    rw [show blksD (Sm.rep k b).d = [.tuple (Sm.ds b)] by simp only [Sm.d, blksD]; exact if_pos trivial]
    simp [itemsD, Sm.inn]
  | set x e => rw [show blksD (Sm.set x e).d = [] by simp only [Sm.d, blksD]; rw [if_neg (by decide +kernel)]]; simp [Sm.inn, Sm.ds]
  | half x e => rw [show blksD (Sm.half x e).d = [] by simp only [Sm.d, blksD]; rw [if_neg (by decide +kernel)]]; simp [Sm.inn, Sm.ds]
  | tell e => simp [Sm.d, blksD, Sm.inn, Sm.ds]
  | say e => simp [Sm.d, blksD, Sm.inn, Sm.ds]
  | stop e => simp [Sm.d, blksD, Sm.inn, Sm.ds]
theorem Sm.blksD_eq (s : Sm) : blksD s.d = s.blks.map fun b => .tuple (Sm.ds b) := by
  cases s with
  | ite t y n => simp only [Sm.d, blksD, Sm.blks, List.map_cons, List.map_nil]; exact if_pos trivial
  | rep k b => simp only [Sm.d, blksD, Sm.blks, List.map_cons, List.map_nil]; exact if_pos trivial
  | set x e => simp only [Sm.d, blksD, Sm.blks, List.map_nil]; exact if_neg (by decide +kernel)
  | half x e => simp only [Sm.d, blksD, Sm.blks, List.map_nil]; exact if_neg (by decide +kernel)
  | tell e => simp only [Sm.d, blksD, Sm.blks, List.map_nil]
  | say e => simp only [Sm.d, blksD, Sm.blks, List.map_nil]
  | stop e => simp only [Sm.d, blksD, Sm.blks, List.map_nil]
/-- what is left to walk -/
def prL (l : List (Int × Sm)) : List (Int × Sm) := l.flatMap fun q => q.2.prs q.1
theorem prL_cons (dep : Int) (s : Sm) (l : List (Int × Sm)) : prL ((dep, s) :: l) = (dep, s) :: prL ((s.inn.map fun e => (dep + 1, e)) ++ l) := by
  have e : ∀ (d : Int) (b : List Sm), Sm.prss d b = prL (b.map fun e => (d, e)) := by
    intro d b
    induction b with
    | nil => simp only [Sm.prss, List.map_nil, prL, List.flatMap_nil]
    | cons s r ih => simp only [Sm.prss, ih, List.map_cons, prL, List.flatMap_cons]
  unfold prL
  rw [List.flatMap_cons, List.flatMap_append]
  show s.prs dep ++ _ = _
  rw [Sm.prs_inn, e]
  rfl
theorem prL_start (b : List Sm) : prL (b.map fun e => ((0 : Int), e)) = Sm.prss 0 b := by
  induction b with
  | nil => simp only [Sm.prss, List.map_nil, prL, List.flatMap_nil]
  | cons s r ih =>
    simp only [Sm.prss, List.map_cons, prL, List.flatMap_cons]
    unfold prL at ih
    rw [ih]
theorem dsz_mem : ∀ {l : List PyData} {d : PyData}, d ∈ l → dsz d ≤ dszs l
  | [], d, h => nomatch h
  | x :: r, d, h => by
    simp only [dszs]
    rcases List.mem_cons.mp h with rfl | h
    · omega
    · have := dsz_mem h
      omega
mutual
theorem Sm.pl_dsz : ∀ s : Sm, s.pl ≤ dsz s.d
  | .ite t y n => by
    have := Sm.pls_dsz y
    have := Sm.pls_dsz n
    simp only [Sm.pl, Sm.d, dsz, dszs]
    omega
  | .rep k b => by
    have := Sm.pls_dsz b
    simp only [Sm.pl, Sm.d, dsz, dszs]
    omega
  | .set x e => by simp only [Sm.pl, Sm.d, dsz, dszs]; omega
  | .half x e => by simp only [Sm.pl, Sm.d, dsz, dszs]; omega
  | .tell e => by simp only [Sm.pl, Sm.d, dsz, dszs]; omega
  | .say w => by simp only [Sm.pl, Sm.d, dsz, dszs]; omega
  | .stop w => by simp only [Sm.pl, Sm.d, dsz, dszs]; omega
theorem Sm.pls_dsz : ∀ b : List Sm, Sm.pls b ≤ dszs (Sm.ds b)
  | [] => by simp only [Sm.pls, Sm.ds, dszs]; omega
  | s :: r => by
    have := Sm.pl_dsz s
    have := Sm.pls_dsz r
    simp only [Sm.pls, Sm.ds, dszs]
    omega
end
theorem prL_len : ∀ l : List (Int × Sm), l.length ≤ (prL l).length
  | [] => Nat.le_refl _
  | q :: r => by
    have h1 := prL_len r
    have h2 := Sm.prs_len q.1 q.2
    have h3 := q.2.pl_pos
    unfold prL at h1 ⊢
    rw [List.flatMap_cons, List.length_append, List.length_cons]
    omega
def spRows : Sp := fun vs H Q _ => ∃ (v : V) (b : List Sm), vs = [v] ∧ Tr H (.tuple (Sm.ds b)) v ∧ dszs (Sm.ds b) ≤ 1000000 ∧ ∀ (p : Addr) (us : List V) (H' : Hp), H p = none → H' p = some (.lst us) → TrAll H' ((Sm.prss 0 b).map pairS) us → Kp [] H H' → Q (.ref p) H'
/-! ### counts -/
def cnt (sort : Str) (s : Sm) : Nat := if sort = "weight" then s.wt else if sort = "half" then s.hv else s.cp
def cnts (sort : Str) (b : List Sm) : Nat := if sort = "weight" then Sm.wts b else if sort = "half" then Sm.hvs b else Sm.cps b
def SrtW (sort : Str) : Prop := sort = "weight" ∨ sort = "half" ∨ sort = "less"
def own (sort : Str) (s : Sm) : Nat := if sort = "weight" then 1 else match s with
  | .ite t _ _ => if sort = "half" then (if t.isOdd then 1 else 0) else (if t.isOdd then 0 else 1)
  | .half _ _ => if sort = "half" then 1 else 0
  | _ => 0
def Sm.tms : Sm → Nat
  | .rep k _ => k
  | _ => 1
theorem cnt_own {sort : Str} (s : Sm) : cnt sort s = own sort s + ((s.blks.map (cnts sort)).sum) * s.tms := by
  unfold cnt own cnts
  by_cases h1 : sort = "weight"
  · simp only [if_pos h1]
    cases s <;> simp [Sm.wt, Sm.blks, Sm.tms, Nat.mul_comm]
  · simp only [if_neg h1]
    by_cases h2 : sort = "half"
    · simp only [if_pos h2]
      cases s <;> simp [Sm.hv, Sm.blks, Sm.tms, Nat.mul_comm]
    · simp only [if_neg h2]
      cases s <;> simp [Sm.cp, Sm.blks, Sm.tms, Nat.mul_comm]
theorem cnts_cons {sort : Str} (s : Sm) (r : List Sm) : cnts sort (s :: r) = cnt sort s + cnts sort r := by
  unfold cnts cnt
  by_cases h1 : sort = "weight"
  · simp only [if_pos h1, Sm.wts]
  · simp only [if_neg h1]
    by_cases h2 : sort = "half"
    · simp only [if_pos h2, Sm.hvs]
    · simp only [if_neg h2, Sm.cps]
theorem cnts_nil {sort : Str} : cnts sort [] = 0 := by
  unfold cnts
  split
  · simp only [Sm.wts]
  · split
    · simp only [Sm.hvs]
    · simp only [Sm.cps]
def Ts.base : Ts → Ts
  | .not t => t.base
  | t => t
theorem Ts.base_not : ∀ (t t0 : Ts), t.base ≠ .not t0
  | .less _ _, t0 => fun h => by cases h
  | .odd _, t0 => fun h => by cases h
  | .not t, t0 => Ts.base_not t t0
theorem Ts.base_odd : ∀ t : Ts, t.base.isOdd = t.isOdd
  | .less _ _ => rfl
  | .odd _ => rfl
  | .not t => Ts.base_odd t
def spBare : Sp := fun vs H Q _ => ∃ (v : V) (t : Ts), vs = [v] ∧ Tr H t.d v ∧ ∀ v', Tr H t.base.d v' → Q v' H
def spOwn : Sp := fun vs H Q _ => ∃ (v : V) (s : Sm) (sort : Str), vs = [v, .str sort] ∧ Tr H s.d v ∧ SrtW sort ∧ Q (.int (own sort s)) H
def spCounted (n : Nat) : Sp := fun vs H Q _ => ∃ (v : V) (b : List Sm) (sort : Str), vs = [v, .str sort] ∧ Tr H (.tuple (Sm.ds b)) v ∧ SrtW sort ∧ Sm.oks b ∧ b.length ≤ 1000000 ∧ Sm.pls b ≤ 1000000 ∧ Sm.nests b ≤ n ∧ ∀ H', Kp [] H H' → Q (.int (cnts sort b)) H'
def spWeight (n : Nat) : Sp := fun vs H Q _ => ∃ (v : V) (b : List Sm), vs = [v] ∧ Tr H (.tuple (Sm.ds b)) v ∧ Sm.oks b ∧ Sm.pls b ≤ 1000000 ∧ Sm.nests b ≤ n ∧ ∀ H', Kp [] H H' → Q (.int (Sm.wts b)) H'
def bndErr (b : List Sm) : Option Str :=
  if 24 < Sm.pls b then some "places" else if 60 < Sm.wts b then some "weight" else if 4 < Sm.hvs b then some "halvings" else if 3 < Sm.cps b then some "comparings" else none
def bndD : Option Str → PyData
  | none => .none
  | some w => .tuple [.none, .str w]
/-- what program_error tells of a value -/
inductive PErr : PyData → PyData → Prop
  | prog {d : PyData} (h : isTupB d = false) : PErr d (.tuple [.none, .str "program"])
  | ord {ds : List PyData} {p : Int} {w : Str} (h : ordErr ds = some (p, w)) : PErr (.tuple ds) (.tuple [.int p, .str w])
  | bnd {b : List Sm} (h : ordErr (Sm.ds b) = none) : PErr (.tuple (Sm.ds b)) (bndD (bndErr b))
def spPErr : Sp := fun vs H Q _ => ∃ (v : V) (d : PyData), vs = [v] ∧ Tr H d v ∧ Szd d ∧ dsz d ≤ 1000000 ∧ ∀ (t : V) (e : PyData) (H' : Hp), Tr H' e t → PErr d e → Kp [] H H' → Q t H'
end EH
namespace EH
open PySem L2
local macro_rules | `(tactic| walk_at "sd") => `(tactic| first | assumption | ((with_reducible show (_ : Int) ≤ _); omega) | ((with_reducible show (_ : Int) < _); omega) | rfl | exact SqL.of (by assumption) | exact SqT.of (by assumption) | exact atI_nat (j := 0) rfl | exact atI_nat (j := 1) rfl | exact atI_nat (j := 2) rfl | exact atI_nat (j := 3) rfl | exact sz_lit rfl | exact lt_lit rfl | exact pos_lit rfl | exact le_lit rfl | exact Or.inl (SqL.of (by assumption)) | exact ⟨_, SqL.of (by assumption)⟩ | exact ⟨_, SqT.of (by assumption)⟩ | exact Or.inr (SqT.of (by assumption)) | exact ClsV.ty _ | exact TyX.base (TyOf.int _) | exact TyX.base (TyOf.str _) | exact TyX.base (TyOf.tup (by assumption)) | exact kit_ty isi_ss | exact kit_ty isi_is | exact kit_ty isi_ts | exact kit_ty isi_si | exact kit_ty isi_ii | exact kit_ty isi_ti | exact kit_ty isi_st | exact kit_ty isi_it | exact kit_ty isi_tt | exact TyX.base TyOf.non | exact TyX.base (TyOf.bl _) | exact kit_ty isi_bs | exact kit_ty isi_bi | exact kit_ty isi_bt | exact kit_ty isi_bb | exact kit_ty isi_ns | exact kit_ty isi_ni | exact kit_ty isi_nt | exact kit_ty isi_nb | exact kit_ty isi_sb | exact kit_ty isi_ib | exact kit_ty isi_tb | exact Or.inl ⟨_, Or.inl (by assumption)⟩ | exact DGet.k (k := Sum.inr _) (by assumption) | exact DGet.k (k := Sum.inl _) (by assumption) | (refine cpow_of ?_; decide) | (refine cmul_of ?_; decide) | (show (_ : Int) ≠ 0; first | decide | omega) | (refine cdivn_of ?_; decide) | exact Or.inl ⟨rfl, _, SqL.of (by assumption)⟩ | omega)
local macro_rules | `(tactic| walk_at "st") => `(tactic| first | (apply Exists.intro) | (refine And.intro ?_ ?_; focus (walk_at "sd")) | (apply Or.inl; apply Exists.intro; refine And.intro ?_ ?_; focus rfl) | (apply Or.inr; apply Exists.intro; refine And.intro ?_ ?_; focus rfl))
local macro_rules | `(tactic| walk_at "go") => `(tactic| repeat (walk_at "st"))
section
variable {P : Program} {w : World} {K : PySem.W.Frag} {mg : Str → Option Value} {base : Heap}
theorem ok_rows_of (T : Top K mg) {k : Nat} : FnOk P w K mg base CX0 (k + 3) T.rows_of.f T.rows_of.fd ["program"] spRows := by
  have G_items_within : FnOk P w K mg base CX0 2 T.items_within.f T.items_within.fd ["statement", "depth"] spWithin := ok_items_within T
  refine T.rows_of.F.ok sc_rows_of (fun vs H Q E h => ?_) (fun cdv A outer s H vs Q E hr h => ?_)
  · obtain ⟨v, ds, rfl, _⟩ := h
    rfl
  obtain ⟨v, b, rfl, hT, hz, q⟩ := h
  have hu := hu_of hr
  refine ⟨_, (pss_cons (ps_par (i := 1) (j := 2) (by rfl) sc_rows_of.nd rfl rfl (by decide) rfl rfl (pa_cons (pe_revLA (K := K) rfl (pe_lc (own := [("item", 5)]) (by rfl) sc_rows_of.nd (pi_tupK (K := K) rfl (pv 0)) (blkOk_by (N := ["program", "left", "found", "depth", "statement", "item"]) (sc := defScope s_rows_of) (own := [("item", 5)]) (by decide +kernel)) (fun _ _ _ _ _ => (pg_name (i := 5) sc_rows_of.nd rfl (.inl rfl))) (fun _ _ _ _ _ => pts_nil) (fun _ _ _ _ _ => (pe_tupA (pa_cons pe_int (pa_cons (pv 5) pa_nil)))))) (pa_cons (pe_lstA pa_nil) pa_nil)) (by rfl))
      (pss_cons (ps_whileA (ps_while PassesOwn.never (pt_cmpR (op_neNil hu) (pv 1) (pe_lstA pa_nil) (nomark _)) (pss_cons (ps_asg (pe_bm0 PySem.F.plainAttrs_list PySem.F.slot_list_pop PySem.F.type_list_pop mt_popA (pv 1)) (pg_tup (by rfl) (pgs_cons (pg_name (i := 3) sc_rows_of.nd rfl (.inl rfl)) (pgs_cons (pg_name (i := 4) sc_rows_of.nd rfl (.inl rfl)) pgs_nil))))
      (pss_cons (ps_expr (pe_bmK (K := K) rfl PySem.F.plainAttrs_list PySem.F.slot_list_append PySem.F.type_list_append mt_appendA (pv 2) (pa_cons (pe_tupA (pa_cons (pv 3) (pa_cons (pv 4) pa_nil))) pa_nil)))
      (pss_one (ps_expr (pe_bmK (K := K) rfl PySem.F.plainAttrs_list PySem.F.slot_list_extend PySem.F.type_list_extend mt_extendA (pv 1) (pa_cons (pe_call G_items_within (hr.mono (by omega)) (by rfl) T.items_within.g T.items_within.F.kp T.items_within.b .nil pass0 (pa_cons (pv 4) (pa_cons (pv 3) pa_nil))) pa_nil))))))))
      (pss_one (ps_ret (pv 2))))), ?_⟩
  obtain ⟨ta, vs, rfl, hta, tvs⟩ := tr_tup hT
  have dl : b.length ≤ dszs (Sm.ds b) := Nat.le_trans (Nat.le_of_eq (by rw [Sm.ds_map, List.length_map])) (dszs_len (Sm.ds b))
  rw [Sm.ds_map] at tvs
  walk_at "go"
  intro D hD
  refine lc_tup (K := K) (a := ta) (xs := vs) (fun j H4 => Lp (Kp [D] H H4 ∧ ∃ us, H4 D = some (.lst us) ∧ TrAll H4 ((b.take j).map fun e => pairS (0, e)) us)) ⟨(Kp.new hD).sub (by simp), [], upd_same, by simp only [List.take_zero, List.map_nil]; exact trs_nil⟩ ?_ ?_ ?_
  · rintro j H4 _ ⟨⟨k4, _⟩⟩
    exact SqT.of (k4.tup _ _ hta)
  · rintro j x H4 hx4 ⟨⟨k4, us, d4, tu4⟩⟩
    have hj : j < b.length := by
      obtain ⟨h, _⟩ := List.getElem?_eq_some_iff.mp hx4
      rw [tvs.length, List.length_map] at h
      exact h
    have hy : b[j]? = some b[j] := List.getElem?_eq_getElem hj
    obtain ⟨x', hx', txx⟩ := tvs.get (i := j) (d := (b[j]).d) (by rw [List.getElem?_map, hy]; rfl)
    rw [hx4] at hx'
    cases hx'
    have tx4 := k4.tr txx
    have lu := tu4.length
    rw [List.length_map, List.length_take] at lu
    have lu2 : us.length < sizeLine := sz_lt (by omega)
    walk_at "go"
    intro r5 H5 hr5 e5
    have k5 := new_kp hr5 e5
    have a5 := new_at e5
    have d5 := k5.at d4
    walk_at "go"
    have k6 := Kp.put (u := .lst (us ++ [.ref r5])) d5 (fun _ y => by cases y)
    refine ⟨⟨(k4.step0 k5).step1 k6 (.inl (by simp)), _, upd_same, ?_⟩⟩
    rw [List.take_add_one, hy, List.map_append]
    exact (k6.trAll (k5.trAll tu4)).append (trs_cons (k6.tr (mk_tup a5 (trs_cons mk_int (trs_cons (k5.tr tx4) trs_nil)))) trs_nil)
  · rintro H4 ⟨⟨k4, us, d4, tu4⟩⟩
    rw [tvs.length, List.length_map, List.take_length] at tu4
    have k4' : Kp [] H H4 := Kp.refl.step1 k4 (.inr hD)
    walk_at "go"
    intro lf H5 hlf e5
    have k5 := new_kp hlf e5
    have a5 := new_at e5
    have kH5 := k4'.step0 k5
    have flf : H lf = none := k4'.free hlf (by simp)
    walk_at "go"
    intro fd H5b hfd e5b
    have k5b := new_kp hfd e5b
    have a5b := new_at e5b
    have a5c := k5b.at a5
    have kH5b := kH5.step0 k5b
    have ffd : H fd = none := kH5.free hfd (by simp)
    have nlf : lf ≠ fd := ne_of_none a5 hfd
    have ln := Sm.prss_len 0 b
    have pz : ∀ b : List Sm, Sm.pls b ≤ dszs (Sm.ds b) := fun b => (Sm.pls_dsz b)
    have pzb := pz b
    walk_at "go"
    refine ⟨fun m σ H6 => Lp (∃ (l : List (Int × Sm)) (dn : List (Int × Sm)) (us ws : List V) (w3 w4 : Option V), σ = [some (.ref ta), some (.ref lf), some (.ref fd), w3, w4, none] ∧ H6 lf = some (.lst us) ∧ TrAll H6 ((l.map pairS).reverse) us ∧ H6 fd = some (.lst ws) ∧ TrAll H6 (dn.map pairS) ws ∧ dn ++ prL l = Sm.prss 0 b ∧ m = (prL l).length ∧ (∀ q ∈ l, dsz q.2.d ≤ 1000000) ∧ l.length ≤ (prL l).length ∧ Kp [] H H6), ⟨(prL (b.map fun e => ((0 : Int), e))).length, ⟨b.map fun e => (0, e), [], _, _, _, _, rfl, a5c, ?_, a5b, trs_nil, ?_, rfl, ?_, ?_, kH5b⟩⟩, ?_⟩
    · rw [List.map_map]
      exact (k5b.trAll (k5.trAll tu4)).rev
    · rw [List.nil_append, prL_start]
    · rintro q hq
      obtain ⟨e, he, rfl⟩ := List.mem_map.mp hq
      exact Nat.le_trans (dsz_mem (by rw [Sm.ds_map]; exact List.mem_map.mpr ⟨e, he, rfl⟩)) hz
    · rw [prL_start, ln, List.length_map]
      exact Sm.len_pls b
    · rintro m σ H6 ⟨⟨l, dn, us, ws, w3, w4, rfl, a6, t6, f6, tf6, ep, rfl, hq6, ll6, k6⟩⟩
      have lep := congrArg List.length ep
      rw [List.length_append, ln] at lep
      walk_at "go"
      intro n7 H7 hn7 e7
      have k7 := new_kp hn7 e7
      have a7 := new_at e7
      have a67 := k7.at a6
      have f67 := k7.at f6
      have t67 := k7.trAll t6
      have tf67 := k7.trAll tf6
      refine ⟨lf, n7, us, rfl, rfl, a67, a7, _, rfl, ?_⟩
      rcases l with _ | ⟨⟨dep, d⟩, l⟩
      · simp only [List.map_nil, List.reverse_nil, TrAll] at t67
        subst t67
        refine iteF ?_
        walk_at "go"
        rw [prL, List.flatMap_nil, List.append_nil] at ep
        rw [ep] at tf67
        exact q fd ws H7 ffd f67 tf67 (k6.step0 k7)
      · rw [List.map_cons, List.reverse_cons] at t67
        obtain ⟨us, u, rfl, tl, tu⟩ := t67.snoc_inv
        have ne : ((us ++ [u]).isEmpty) = false := by simp
        rw [ne]
        refine iteT ?_
        obtain ⟨pa, x1, x2, rfl, hpa, tx1, tx2⟩ := tr_tup2 tu
        cases tr_int tx1
        rw [prL_cons] at ep lep ll6
        have hd1 := hq6 (dep, d) List.mem_cons_self
        refine ⟨fun σ H9 => Lp (∃ (l' : List (Int × Sm)) (dn : List (Int × Sm)) (us ws : List V) (w3 w4 : Option V), σ = [some (.ref ta), some (.ref lf), some (.ref fd), w3, w4, none] ∧ H9 lf = some (.lst us) ∧ TrAll H9 ((l'.map pairS).reverse) us ∧ H9 fd = some (.lst ws) ∧ TrAll H9 (dn.map pairS) ws ∧ dn ++ prL l' = Sm.prss 0 b ∧ (prL l').length < (prL ((dep, d) :: l)).length ∧ (∀ q ∈ l', dsz q.2.d ≤ 1000000) ∧ l'.length ≤ (prL l').length ∧ Kp [] H H9), fun σ' H' x => ?_, ?_⟩
        · obtain ⟨⟨l', dn', us', ws', w3', w4', h1, h2, h3, h4, h5, h6, h7, h8, h9, h10⟩⟩ := x
          exact ⟨_, h7, ⟨l', dn', us', ws', w3', w4', h1, h2, h3, h4, h5, h6, rfl, h8, h9, h10⟩⟩
        walk_at "go"
        intro H8 a8 k8
        have hpa8 := k8.tup _ _ hpa
        have tx28 := k8.tr tx2
        have tl8 := k8.trAll tl
        have f8 := k8.keep _ _ f67 (ne1 nlf.symm)
        have tf8 := k8.trAll tf67
        have kH8 : Kp [] H H8 := (k6.step0 k7).step1 k8 (.inr flf)
        walk_at "go"
        intro r9 H9 hr9 e9
        have k9 := new_kp hr9 e9
        have a9 := new_at e9
        have f9 := k9.at f8
        have a89 := k9.at a8
        have lw := tf8.length
        rw [List.length_map] at lw
        simp only [List.length_cons] at lep ll6
        have lws : ws.length < sizeLine := sz_lt (by omega)
        walk_at "go"
        intro H10 f10 k10
        have a810 := k10.keep _ _ a89 (ne1 nlf)
        have tx10 := k10.tr (k9.tr tx28)
        have tl10 := k10.trAll (k9.trAll tl8)
        have std := d.std
        have a910 := k10.tup _ _ a9
        have kH10 : Kp [] H H10 := (kH8.step0 k9).step1 k10 (.inr ffd)
        have tf10 : TrAll H10 ((dn ++ [(dep, d)]).map pairS) (ws ++ [.ref r9]) := by
          rw [List.map_append]
          exact (k10.trAll (k9.trAll tf8)).append (trs_cons (mk_tup a910 (trs_cons mk_int (trs_cons tx10 trs_nil))) trs_nil)
        walk_at "go"
        intro p11 us11 H11 hp11 a11 t11 k11
        have a811 := k11.at a810
        have f11 := k11.at f10
        have tl11 := k11.trAll tl10
        rw [Sm.bitems_inn, Sm.ds_map, List.map_map] at t11
        have ll := tl11.length
        have l11 : us11.length = d.inn.length := by
          have := t11.length
          rw [List.length_reverse, List.length_map] at this
          exact this
        rw [List.length_reverse, List.length_map] at ll
        have li : d.inn.length ≤ (prL ((d.inn.map fun e => (dep + 1, e)) ++ l)).length ∧ ((d.inn.map fun e => (dep + 1, e)) ++ l).length ≤ (prL ((d.inn.map fun e => (dep + 1, e)) ++ l)).length := by
          have := prL_len ((d.inn.map fun e => (dep + 1, e)) ++ l)
          rw [List.length_append, List.length_map] at this
          rw [List.length_append, List.length_map]
          omega
        have sz11 : us.length + us11.length ≤ sizeLine := by
          have := li.2
          rw [List.length_append, List.length_map] at this
          exact sz_le (by omega)
        walk_at "go"
        intro H12 a12 k12
        refine ⟨(d.inn.map fun e => (dep + 1, e)) ++ l, dn ++ [(dep, d)], _, _, _, _, rfl, a12, ?_, k12.keep _ _ f11 (ne1 nlf.symm), k12.trAll (k11.trAll tf10), ?_, ?_, ?_, li.2, ?_⟩
        · rw [List.map_append, List.reverse_append, List.map_map]
          exact (k12.trAll tl11).append (k12.trAll t11)
        · rw [List.append_assoc]
          exact ep
        · rw [prL_cons, List.length_cons]
          omega
        · intro q hq
          rcases List.mem_append.mp hq with hq | hq
          · obtain ⟨e, he, rfl⟩ := List.mem_map.mp hq
            have h1 := bitems_sz d.d
            rw [Sm.bitems_inn] at h1
            have h2 : dsz e.d ≤ dszs (Sm.ds d.inn) := dsz_mem (by rw [Sm.ds_map]; exact List.mem_map.mpr ⟨e, he, rfl⟩)
            have h3 : dsz d.d ≤ 1000000 := hd1
            show dsz e.d ≤ 1000000
            omega
          · exact hq6 q (List.mem_cons_of_mem _ hq)
        · exact (kH10.step0 k11).step1 k12 (.inr flf)
end
end EH
namespace EH
open PySem L2
local macro_rules | `(tactic| walk_at "sd") => `(tactic| first | assumption | ((with_reducible show (_ : Int) ≤ _); omega) | ((with_reducible show (_ : Int) < _); omega) | rfl | exact SqL.of (by assumption) | exact SqT.of (by assumption) | exact atI_nat (j := 0) rfl | exact atI_nat (j := 1) rfl | exact atI_nat (j := 2) rfl | exact atI_nat (j := 3) rfl | exact sz_lit rfl | exact lt_lit rfl | exact pos_lit rfl | exact le_lit rfl | exact Or.inl (SqL.of (by assumption)) | exact ⟨_, SqL.of (by assumption)⟩ | exact ⟨_, SqT.of (by assumption)⟩ | exact Or.inr (SqT.of (by assumption)) | exact ClsV.ty _ | exact TyX.base (TyOf.int _) | exact TyX.base (TyOf.str _) | exact TyX.base (TyOf.tup (by assumption)) | exact kit_ty isi_ss | exact kit_ty isi_is | exact kit_ty isi_ts | exact kit_ty isi_si | exact kit_ty isi_ii | exact kit_ty isi_ti | exact kit_ty isi_st | exact kit_ty isi_it | exact kit_ty isi_tt | exact TyX.base TyOf.non | exact TyX.base (TyOf.bl _) | exact kit_ty isi_bs | exact kit_ty isi_bi | exact kit_ty isi_bt | exact kit_ty isi_bb | exact kit_ty isi_ns | exact kit_ty isi_ni | exact kit_ty isi_nt | exact kit_ty isi_nb | exact kit_ty isi_sb | exact kit_ty isi_ib | exact kit_ty isi_tb | exact Or.inl ⟨_, Or.inl (by assumption)⟩ | exact DGet.k (k := Sum.inr _) (by assumption) | exact DGet.k (k := Sum.inl _) (by assumption) | (refine cpow_of ?_; decide) | (refine cmul_of ?_; decide) | (show (_ : Int) ≠ 0; first | decide | omega) | (refine cdivn_of ?_; decide) | exact Or.inl ⟨rfl, _, SqL.of (by assumption)⟩ | omega)
local macro_rules | `(tactic| walk_at "st") => `(tactic| first | (apply Exists.intro) | (refine And.intro ?_ ?_; focus (walk_at "sd")) | (apply Or.inl; apply Exists.intro; refine And.intro ?_ ?_; focus rfl) | (apply Or.inr; apply Exists.intro; refine And.intro ?_ ?_; focus rfl))
local macro_rules | `(tactic| walk_at "go") => `(tactic| repeat (walk_at "st"))
section
variable {P : Program} {w : World} {K : PySem.W.Frag} {mg : Str → Option Value} {base : Heap}
theorem ok_bare (T : Top K mg) {k : Nat} : FnOk P w K mg base CX0 (k + 1) T.bare.f T.bare.fd ["test"] spBare := by
  refine T.bare.F.ok sc_bare (fun vs H Q E h => ?_) (fun cdv A outer s H vs Q E hr h => ?_)
  · obtain ⟨v, t, rfl, _⟩ := h
    rfl
  obtain ⟨v, t, rfl, hT, q⟩ := h
  refine ⟨_, (pss_cons (ps_whileA (ps_while PassesOwn.never (pt_cmpR op_eq (pe_ix (ix_tupK (K := K) rfl) (pv 0) pe_int (fun _ _ => rfl)) pe_str (nomark _)) (pss_one (ps_set (i := 0) sc_bare.nd rfl (.inl rfl) (pe_ix (ix_tupK (K := K) rfl) (pv 0) pe_int (fun _ _ => rfl))))))
      (pss_one (ps_ret (pv 0)))), ?_⟩
  walk_at "go"
  refine ⟨⟨fun m σ H1 => Lp (∃ (v' : V) (t' : Ts), σ = [some v'] ∧ Tr H1 t'.d v' ∧ t'.base = t.base ∧ t'.nots = m ∧ H1 = H), ⟨t.nots, ⟨v, t, rfl, hT, rfl, rfl, rfl⟩⟩, ?_⟩⟩
  rintro m σ H1 ⟨⟨v', t', rfl, ht, eb, em, rfl⟩⟩
  cases t' with
  | less a b =>
    obtain ⟨p, x1, x2, x3, rfl, h1, t1, t2, t3⟩ := tr_tup3 ht
    cases tr_str t1
    walk_at "go"
    rw [← eb] at q
    exact q _ ht
  | odd a =>
    obtain ⟨p, x1, x2, rfl, h1, t1, t2⟩ := tr_tup2 ht
    cases tr_str t1
    walk_at "go"
    rw [← eb] at q
    exact q _ ht
  | not t2 =>
    obtain ⟨p, x1, x2, rfl, h1, t1, t3⟩ := tr_tup2 ht
    cases tr_str t1
    have em2 : t2.nots + 1 = m := em
    refine ⟨_, rfl, _, _, _, _, rfl, rfl, SqT.of h1, atI_nat (j := 0) rfl, rfl, _, rfl, ?_⟩
    refine iteT ?_
    refine ⟨fun σ H2 => Lp (∃ (v' : V), σ = [some v'] ∧ Tr H2 t2.d v' ∧ H2 = H1), fun σ' H' x => ?_, ?_⟩
    · obtain ⟨⟨v', e1, e2, e3⟩⟩ := x
      exact ⟨t2.nots, by omega, ⟨v', t2, e1, e2, eb, rfl, e3⟩⟩
    walk_at "go"
    exact ⟨_, rfl, t3, rfl⟩
theorem ok_own_count (T : Top K mg) {k : Nat} : FnOk P w K mg base CX0 (k + 2) T.own_count.f T.own_count.fd ["statement", "sort"] spOwn := by
  have G_bare : FnOk P w K mg base CX0 1 T.bare.f T.bare.fd ["test"] spBare := ok_bare T
  refine T.own_count.F.ok sc_own_count (fun vs H Q E h => ?_) (fun cdv A outer s H vs Q E hr h => ?_)
  · obtain ⟨v, t, so, rfl, _⟩ := h
    rfl
  obtain ⟨v, st, so, rfl, hT, hs, q⟩ := h
  refine ⟨_, (pss_cons (ps_if (pt_cmpR op_eq (pv 1) pe_str (nomark _)) (pss_one (ps_ret pe_int)) pss_nil)
      (pss_cons (ps_if (pt_cmpR op_eq (pe_ix (ix_tupK (K := K) rfl) (pv 0) pe_int (fun _ _ => rfl)) pe_str (nomark _)) (pss_one (ps_ret (pe_callTy (T := "int") call_int1 (by rfl) T.int (by decide +kernel) (pa_cons (pe_cmpR op_eq (pe_ix (ix_tupK (K := K) rfl) (pe_call G_bare (hr.mono (by omega)) (by rfl) T.bare.g T.bare.F.kp T.bare.b .nil pass0 (pa_cons (pe_ix (ix_tupK (K := K) rfl) (pv 0) pe_int (fun _ _ => rfl)) pa_nil)) pe_int (fun _ _ => rfl)) (pe_ifExp (pt_cmpR op_eq (pv 1) pe_str (nomark _)) pe_str (pv 1)) (nomark _)) pa_nil)))) pss_nil)
      (pss_one (ps_ret (pe_callTy (T := "int") call_int1 (by rfl) T.int (by decide +kernel) (pa_cons (pe_cmpR op_eq (pe_ix (ix_tupK (K := K) rfl) (pv 0) pe_int (fun _ _ => rfl)) (pv 1) (nomark _)) pa_nil)))))), ?_⟩
  have fin : ∀ {i : Int} {b : Bool}, Q (.int (if b = true then 1 else 0)) H → (if b = true then (1 : Int) else 0) = i → Q (.int i) H := fun h e => e ▸ h
  have w1 : ¬ (("half" : Str) = "weight") := by decide +kernel
  have w2 : ¬ (("less" : Str) = "weight") := by decide +kernel
  have w3 : ¬ (("less" : Str) = "half") := by decide +kernel
  rcases hs with rfl | rfl | rfl
  · replace q : Q (.int (own "weight" st : Nat)) H := q
    unfold own at q
    rw [if_pos rfl] at q
    walk_at "go"
    exact q
  · unfold own at q
    rw [if_neg w1] at q
    cases st with
    | ite t y n =>
      obtain ⟨u, x1, x2, x3, x4, rfl, h1, t1, t2, t3, t4⟩ := tr_tup4 hT
      cases tr_str t1
      walk_at "go"
      intro v' tv'
      cases eb : t.base with
      | not t0 => exact absurd eb (Ts.base_not t t0)
      | less a b =>
        rw [eb] at tv'
        obtain ⟨p, y1, y2, y3, rfl, g1, s1, s2, s3⟩ := tr_tup3 tv'
        cases tr_str s1
        have io : t.isOdd = false := by rw [← Ts.base_odd, eb]; rfl
        simp only [io] at q
        walk_at "go"
        exact q
      | odd a =>
        rw [eb] at tv'
        obtain ⟨p, y1, y2, rfl, g1, s1, s2⟩ := tr_tup2 tv'
        cases tr_str s1
        have io : t.isOdd = true := by rw [← Ts.base_odd, eb]; rfl
        simp only [io] at q
        walk_at "go"
        exact q
    | rep k b =>
      obtain ⟨u, x1, x2, x3, rfl, h1, t1, t2, t3⟩ := tr_tup3 hT
      cases tr_str t1
      walk_at "go"
      exact q
    | set x e =>
      obtain ⟨u, x1, x2, x3, rfl, h1, t1, t2, t3⟩ := tr_tup3 hT
      cases tr_str t1
      walk_at "go"
      exact q
    | half x e =>
      obtain ⟨u, x1, x2, x3, rfl, h1, t1, t2, t3⟩ := tr_tup3 hT
      cases tr_str t1
      walk_at "go"
      exact q
    | tell e =>
      obtain ⟨u, x1, x2, rfl, h1, t1, t2⟩ := tr_tup2 hT
      cases tr_str t1
      walk_at "go"
      exact q
    | say e =>
      obtain ⟨u, x1, x2, rfl, h1, t1, t2⟩ := tr_tup2 hT
      cases tr_str t1
      walk_at "go"
      exact q
    | stop e =>
      obtain ⟨u, x1, x2, rfl, h1, t1, t2⟩ := tr_tup2 hT
      cases tr_str t1
      walk_at "go"
      exact q
  · unfold own at q
    rw [if_neg w2] at q
    cases st with
    | ite t y n =>
      obtain ⟨u, x1, x2, x3, x4, rfl, h1, t1, t2, t3, t4⟩ := tr_tup4 hT
      cases tr_str t1
      walk_at "go"
      intro v' tv'
      cases eb : t.base with
      | not t0 => exact absurd eb (Ts.base_not t t0)
      | less a b =>
        rw [eb] at tv'
        obtain ⟨p, y1, y2, y3, rfl, g1, s1, s2, s3⟩ := tr_tup3 tv'
        cases tr_str s1
        have io : t.isOdd = false := by rw [← Ts.base_odd, eb]; rfl
        simp only [io, if_neg w3] at q
        walk_at "go"
        exact q
      | odd a =>
        rw [eb] at tv'
        obtain ⟨p, y1, y2, rfl, g1, s1, s2⟩ := tr_tup2 tv'
        cases tr_str s1
        have io : t.isOdd = true := by rw [← Ts.base_odd, eb]; rfl
        simp only [io, if_neg w3] at q
        walk_at "go"
        exact q
    | rep k b =>
      obtain ⟨u, x1, x2, x3, rfl, h1, t1, t2, t3⟩ := tr_tup3 hT
      cases tr_str t1
      walk_at "go"
      exact q
    | set x e =>
      obtain ⟨u, x1, x2, x3, rfl, h1, t1, t2, t3⟩ := tr_tup3 hT
      cases tr_str t1
      walk_at "go"
      exact q
    | half x e =>
      obtain ⟨u, x1, x2, x3, rfl, h1, t1, t2, t3⟩ := tr_tup3 hT
      cases tr_str t1
      walk_at "go"
      exact q
    | tell e =>
      obtain ⟨u, x1, x2, rfl, h1, t1, t2⟩ := tr_tup2 hT
      cases tr_str t1
      walk_at "go"
      exact q
    | say e =>
      obtain ⟨u, x1, x2, rfl, h1, t1, t2⟩ := tr_tup2 hT
      cases tr_str t1
      walk_at "go"
      exact q
    | stop e =>
      obtain ⟨u, x1, x2, rfl, h1, t1, t2⟩ := tr_tup2 hT
      cases tr_str t1
      walk_at "go"
      exact q
end
end EH
namespace EH
open PySem L2
local macro_rules | `(tactic| walk_at "sd") => `(tactic| first | assumption | ((with_reducible show (_ : Int) ≤ _); omega) | ((with_reducible show (_ : Int) < _); omega) | rfl | exact SqL.of (by assumption) | exact SqT.of (by assumption) | exact atI_nat (j := 0) rfl | exact atI_nat (j := 1) rfl | exact atI_nat (j := 2) rfl | exact atI_nat (j := 3) rfl | exact sz_lit rfl | exact lt_lit rfl | exact pos_lit rfl | exact le_lit rfl | exact Or.inl (SqL.of (by assumption)) | exact ⟨_, SqL.of (by assumption)⟩ | exact ⟨_, SqT.of (by assumption)⟩ | exact Or.inr (SqT.of (by assumption)) | exact ClsV.ty _ | exact TyX.base (TyOf.int _) | exact TyX.base (TyOf.str _) | exact TyX.base (TyOf.tup (by assumption)) | exact kit_ty isi_ss | exact kit_ty isi_is | exact kit_ty isi_ts | exact kit_ty isi_si | exact kit_ty isi_ii | exact kit_ty isi_ti | exact kit_ty isi_st | exact kit_ty isi_it | exact kit_ty isi_tt | exact TyX.base TyOf.non | exact TyX.base (TyOf.bl _) | exact kit_ty isi_bs | exact kit_ty isi_bi | exact kit_ty isi_bt | exact kit_ty isi_bb | exact kit_ty isi_ns | exact kit_ty isi_ni | exact kit_ty isi_nt | exact kit_ty isi_nb | exact kit_ty isi_sb | exact kit_ty isi_ib | exact kit_ty isi_tb | exact Or.inl ⟨_, Or.inl (by assumption)⟩ | exact DGet.k (k := Sum.inr _) (by assumption) | exact DGet.k (k := Sum.inl _) (by assumption) | (refine cpow_of ?_; decide) | (refine cmul_of ?_; decide) | (show (_ : Int) ≠ 0; first | decide | omega) | (refine cdivn_of ?_; decide) | exact Or.inl ⟨rfl, _, SqL.of (by assumption)⟩ | omega)
local macro_rules | `(tactic| walk_at "st") => `(tactic| first | (apply Exists.intro) | (refine And.intro ?_ ?_; focus (walk_at "sd")) | (apply Or.inl; apply Exists.intro; refine And.intro ?_ ?_; focus rfl) | (apply Or.inr; apply Exists.intro; refine And.intro ?_ ?_; focus rfl))
local macro_rules | `(tactic| walk_at "go") => `(tactic| repeat (walk_at "st"))
section
variable {P : Program} {w : World} {K : PySem.W.Frag} {mg : Str → Option Value} {base : Heap}
theorem ok_counted (T : Top K mg) : ∀ n : Nat, FnOk P w K mg base CX0 (n + 3) T.counted.f T.counted.fd ["block", "sort"] (spCounted n)
  | n => by
    have G_blocks_of : FnOk P w K mg base CX0 1 T.blocks_of.f T.blocks_of.fd ["statement"] spBlocksD := ok_blocks_ofD T
    have G_own_count : FnOk P w K mg base CX0 2 T.own_count.f T.own_count.fd ["statement", "sort"] spOwn := ok_own_count T
    have G_counted : FnOk P w K mg base CX0 (n + 2) T.counted.f T.counted.fd ["block", "sort"] (sp0 spCounted n) := by
      cases n with
      | zero => exact fn_no (fun _ _ _ _ h => h)
      | succ m => exact ok_counted T m
    refine T.counted.F.ok sc_counted (fun vs H Q E h => ?_) (fun cdv A outer s H vs Q E hr h => ?_)
    · obtain ⟨v, b, so, rfl, _⟩ := h
      rfl
    obtain ⟨v, b, so, rfl, hT, hs, ok, lb, pb, nb, q⟩ := h
    refine ⟨_, (pss_cons (ps_set (i := 2) sc_counted.nd rfl (.inl rfl) pe_int)
      (pss_cons (ps_forA (ps_for PassesOwn.never rfl (pi_tupK (K := K) rfl (pv 0)) (pg_name (i := 3) sc_counted.nd rfl (.inl rfl)) (pss_cons (ps_set (i := 4) sc_counted.nd rfl (.inl rfl) (pe_callB (id := "sum") (cr_sumK (K := K) rfl (by rfl)) (by rfl) T.sum (by decide +kernel) (pa_cons (pe_lc (own := [("part", 5)]) (by rfl) sc_counted.nd (pi_listK (K := K) rfl (pe_call G_blocks_of (hr.mono (by omega)) (by rfl) T.blocks_of.g T.blocks_of.F.kp T.blocks_of.b .nil pass0 (pa_cons (pv 3) pa_nil))) (blkOk_by (N := ["block", "sort", "found", "statement", "inner", "part"]) (sc := defScope s_counted) (own := [("part", 5)]) (by decide +kernel)) (fun _ _ _ _ _ => (pg_name (i := 5) sc_counted.nd rfl (.inl rfl))) (fun _ _ _ _ _ => pts_nil) (fun _ _ _ _ _ => (pe_call G_counted (hr.mono (by omega)) (by rfl) T.counted.g T.counted.F.kp T.counted.b .nil pass0 (pa_cons (pv 5) (pa_cons (pv 1) pa_nil))))) pa_nil)))
      (pss_one (ps_aug (i := 2) sc_counted.nd rfl (.inl rfl) (pe_op op_add (pe_call G_own_count (hr.mono (by omega)) (by rfl) T.own_count.g T.own_count.F.kp T.own_count.b .nil pass0 (pa_cons (pv 3) (pa_cons (pv 1) pa_nil))) (pe_op op_mul (pv 4) (pe_ifExp (pt_cmpR op_eq (pe_ix (ix_tupK (K := K) rfl) (pv 3) pe_int (fun _ _ => rfl)) pe_str (nomark _)) (pe_ix (ix_tupK (K := K) rfl) (pv 3) pe_int (fun _ _ => rfl)) pe_int))) ip_add)))))
      (pss_one (ps_ret (pv 2))))), ?_⟩
    obtain ⟨ta, vs, rfl, hta, tvs⟩ := tr_tup hT
    rw [Sm.ds_map] at tvs
    have lv : vs.length = b.length := by rw [tvs.length, List.length_map]
    walk_at "go"
    refine ⟨for_tup (K := K) (a := ta) (xs := vs) (fun i σ H3 => Lp (∃ (w3 w4 : Option V), σ = [some (.ref ta), some (.str so), some (.int (cnts so (b.take i) : Nat)), w3, w4, none] ∧ Kp [] H H3)) ⟨_, _, by rw [List.take_zero, cnts_nil]; rfl, Kp.refl⟩ (fun i σ H3 _ x => ?_) ?_ ?_⟩
    · obtain ⟨⟨w3, w4, _, k3⟩⟩ := x
      exact SqT.of (k3.tup _ _ hta)
    · rintro i x σ H3 hx ⟨⟨w3, w4, rfl, k3⟩⟩
      have hi : i < b.length := by
        obtain ⟨h, _⟩ := List.getElem?_eq_some_iff.mp hx
        omega
      have hy : b[i]? = some b[i] := List.getElem?_eq_getElem hi
      have hmem : b[i] ∈ b := List.getElem_mem hi
      obtain ⟨x', hx', tx⟩ := tvs.get (i := i) (d := (b[i]).d) (by rw [List.getElem?_map, hy]; rfl)
      rw [hx] at hx'
      cases hx'
      generalize b[i] = st at hy hmem tx
      have tx3 := k3.tr tx
      have std := st.std
      have ost := oks_mem ok hmem
      have nst := Sm.nest_mem hmem
      have pst := Sm.pl_mem hmem
      walk_at "go"
      intro l4 bs H4 hl4 a4 tb4 k4
      rw [Sm.blksD_eq] at tb4
      have lbs : bs.length = st.blks.length := by rw [tb4.length, List.length_map]
      have bl2 := st.blks_le
      walk_at "go"
      intro D hD
      have nD : l4 ≠ D := ne_of_none a4 hD
      refine lc_list (K := K) (a := l4) (xs := bs) (fun j H5 => Lp (Kp [D] H4 H5 ∧ H5 D = some (.lst (((st.blks.take j).map fun c => (cnts so c : Int)).map V.int)))) ⟨(Kp.new hD).sub (by simp), upd_same⟩ ?_ ?_ ?_
      · rintro j H5 _ ⟨⟨k5, _⟩⟩
        exact SqL.of (k5.keep _ _ a4 (ne1 nD))
      · rintro j y H5 hy5 ⟨⟨k5, d5⟩⟩
        have hj : j < st.blks.length := by
          obtain ⟨h, _⟩ := List.getElem?_eq_some_iff.mp hy5
          omega
        have hb : st.blks[j]? = some st.blks[j] := List.getElem?_eq_getElem hj
        have mb : st.blks[j] ∈ st.blks := List.getElem_mem hj
        obtain ⟨y', hy', ty⟩ := tb4.get (i := j) (d := .tuple (Sm.ds st.blks[j])) (by rw [List.getElem?_map, hb]; rfl)
        rw [hy5] at hy'
        cases hy'
        generalize st.blks[j] = bk at hb mb ty
        have ty5 := k5.tr ty
        have n1 := Sm.blk_nest mb
        have p1 := Sm.blk_pls mb
        have o1 := ok_blk ost mb
        have ll1 := Sm.len_pls bk
        obtain ⟨n', rfl⟩ : ∃ n', n = n' + 1 := ⟨n - 1, by omega⟩
        have l5 : (((st.blks.take j).map fun c => (cnts so c : Int)).map V.int).length < sizeLine := by
          rw [List.length_map, List.length_map, List.length_take]
          exact sz_lt (by omega)
        walk_at "go"
        intro H6 k6
        have d6 := k6.at d5
        walk_at "go"
        refine ⟨⟨(k5.step0 k6).step1 (Kp.put d6 (fun _ y => by cases y)) (.inl (by simp)), ?_⟩⟩
        rw [upd_same, List.take_add_one, hb, List.map_append, List.map_append]
        rfl
      · rintro H5 ⟨⟨k5, d5⟩⟩
        rw [lbs, List.take_length] at d5
        have es : (st.blks.map fun c => (cnts so c : Int)).sum = (((st.blks.map (cnts so)).sum : Nat) : Int) := by
          generalize st.blks = l
          induction l with
          | nil => rfl
          | cons c r ih =>
            rw [List.map_cons, List.map_cons, List.sum_cons, List.sum_cons, ih]
            omega
        have k5' : Kp [] H4 H5 := Kp.refl.step1 k5 (.inr hD)
        have kH5 := (k3.step0 k4).step0 k5'
        have tx5 := k5'.tr (k4.tr tx3)
        have ec := cnt_own (sort := so) st
        have fin : cnts so (b.take (i + 1)) = cnts so (b.take i) + (own so st + (st.blks.map (cnts so)).sum * st.tms) := by
          rw [List.take_add_one, hy]
          have ap : ∀ l : List Sm, cnts so (l ++ [st]) = cnts so l + cnt so st := by
            intro l
            induction l with
            | nil => rw [List.nil_append, cnts_cons, cnts_nil]; omega
            | cons a r ih => rw [List.cons_append, cnts_cons, cnts_cons, ih]; omega
          show cnts so (b.take i ++ [st]) = _
          rw [ap, ec]
        have ef : ((cnts so (b.take (i + 1)) : Nat) : Int) = (cnts so (b.take i) : Nat) + ((own so st : Nat) + (st.blks.map fun c => (cnts so c : Int)).sum * (st.tms : Nat)) := by
          rw [fin, es]
          simp only [Int.natCast_add, Int.natCast_mul]
        obtain ⟨u5, r5, rfl, h15⟩ := Sm.head tx5
        cases st with
        | rep kk bb =>
          obtain ⟨u, x1, x2, x3, e1, h1, t1, t2, t3⟩ := tr_tup3 tx5
          cases e1
          cases tr_str t1
          cases tr_int t2
          have k8 : kk ≤ 8 := (show kk ≤ 8 ∧ Sm.oks bb by simpa only [Sm.ok] using ost).1
          have cm : CMul ((List.map (fun c => (cnts so c : Int)) (Sm.rep kk bb).blks).sum) (kk : Int) := .inr ⟨by omega, by omega⟩
          walk_at "go"
          rw [ef]
          exact ⟨_, _, rfl, kH5⟩
        | ite t y n =>
          obtain ⟨u, x1, x2, x3, x4, e1, h1, t1, t2, t3, t4⟩ := tr_tup4 tx5
          cases e1
          cases tr_str t1
          have cm : CMul ((List.map (fun c => (cnts so c : Int)) (Sm.ite t y n).blks).sum) 1 := .inr ⟨by decide, by decide⟩
          walk_at "go"
          rw [ef]
          exact ⟨_, _, rfl, kH5⟩
        | set x e =>
          obtain ⟨u, x1, x2, x3, e1, h1, t1, t2, t3⟩ := tr_tup3 tx5
          cases e1
          cases tr_str t1
          have cm : CMul ((List.map (fun c => (cnts so c : Int)) (Sm.set x e).blks).sum) 1 := .inr ⟨by decide, by decide⟩
          walk_at "go"
          rw [ef]
          exact ⟨_, _, rfl, kH5⟩
        | half x e =>
          obtain ⟨u, x1, x2, x3, e1, h1, t1, t2, t3⟩ := tr_tup3 tx5
          cases e1
          cases tr_str t1
          have cm : CMul ((List.map (fun c => (cnts so c : Int)) (Sm.half x e).blks).sum) 1 := .inr ⟨by decide, by decide⟩
          walk_at "go"
          rw [ef]
          exact ⟨_, _, rfl, kH5⟩
        | tell e =>
          obtain ⟨u, x1, x2, e1, h1, t1, t2⟩ := tr_tup2 tx5
          cases e1
          cases tr_str t1
          have cm : CMul ((List.map (fun c => (cnts so c : Int)) (Sm.tell e).blks).sum) 1 := .inr ⟨by decide, by decide⟩
          walk_at "go"
          rw [ef]
          exact ⟨_, _, rfl, kH5⟩
        | say e =>
          obtain ⟨u, x1, x2, e1, h1, t1, t2⟩ := tr_tup2 tx5
          cases e1
          cases tr_str t1
          have cm : CMul ((List.map (fun c => (cnts so c : Int)) (Sm.say e).blks).sum) 1 := .inr ⟨by decide, by decide⟩
          walk_at "go"
          rw [ef]
          exact ⟨_, _, rfl, kH5⟩
        | stop e =>
          obtain ⟨u, x1, x2, e1, h1, t1, t2⟩ := tr_tup2 tx5
          cases e1
          cases tr_str t1
          have cm : CMul ((List.map (fun c => (cnts so c : Int)) (Sm.stop e).blks).sum) 1 := .inr ⟨by decide, by decide⟩
          walk_at "go"
          rw [ef]
          exact ⟨_, _, rfl, kH5⟩
    · rintro σ H3 ⟨⟨w3, w4, rfl, k3⟩⟩
      rw [lv, List.take_length]
      walk_at "go"
      exact q H3 k3
theorem ok_weight (T : Top K mg) (n : Nat) : FnOk P w K mg base CX0 (n + 4) T.weight.f T.weight.fd ["program"] (spWeight n) := by
  have G_counted := ok_counted (P := P) (w := w) (base := base) T n
  refine T.weight.F.ok sc_weight (fun vs H Q E h => ?_) (fun cdv A outer s H vs Q E hr h => ?_)
  · obtain ⟨v, b, rfl, _⟩ := h
    rfl
  obtain ⟨v, b, rfl, hT, ok, pb, nb, q⟩ := h
  refine ⟨_, (pss_one (ps_ret (pe_call G_counted (hr.mono (by omega)) (by rfl) T.counted.g T.counted.F.kp T.counted.b .nil pass0 (pa_cons (pv 0) (pa_cons pe_str pa_nil))))), ?_⟩
  have sw : SrtW "weight" := .inl rfl
  have lb : b.length ≤ 1000000 := Nat.le_trans (Sm.len_pls b) pb
  walk_at "go"
  intro H1 k1
  have := q H1 k1
  unfold cnts
  rw [if_pos rfl]
  exact this
theorem ok_program_error (T : Top K mg) {k : Nat} : FnOk P w K mg base CX0 (k + 11) T.program_error.f T.program_error.fd ["value"] spPErr := by
  have G_order_error : FnOk P w K mg base CX0 10 T.order_error.f T.order_error.fd ["value"] spOrder := ok_order_error T
  have G_rows_of : FnOk P w K mg base CX0 3 T.rows_of.f T.rows_of.fd ["program"] spRows := ok_rows_of T
  have G_weight := ok_weight (P := P) (w := w) (base := base) T 4
  have G_counted := ok_counted (P := P) (w := w) (base := base) T 4
  refine T.program_error.F.ok sc_program_error (fun vs H Q E h => ?_) (fun cdv A outer s H vs Q E hr h => ?_)
  · obtain ⟨v, b, rfl, _⟩ := h
    rfl
  obtain ⟨v, d, rfl, hT, sz, dz, q⟩ := h
  refine ⟨_, (pss_cons (ps_if (pt_not (pt_val (pe_callB (id := "isinstance") (call_isiK (K := K) rfl) (by rfl) T.isinstance (by decide +kernel) (pa_cons (pv 0) (pa_cons (pe_bltn (v := .ty "tuple") (u := .type "tuple") (by rfl) T.tuple (by decide +kernel) rfl) pa_nil))))) (pss_one (ps_ret (pe_tupA (pa_cons pe_non (pa_cons pe_str pa_nil))))) pss_nil)
      (pss_cons (ps_set (i := 1) sc_program_error.nd rfl (.inl rfl) (pe_call G_order_error (hr.mono (by omega)) (by rfl) T.order_error.g T.order_error.F.kp T.order_error.b .nil pass0 (pa_cons (pv 0) pa_nil)))
      (pss_cons (ps_if (pt_cmpR op_notN (pv 1) pe_non (nomark _)) (pss_one (ps_ret (pv 1))) pss_nil)
      (pss_cons (ps_if (pt_cmpR op_gt (pe_callB (id := "len") (call_lenK (K := K) rfl) (by rfl) T.len PySem.boot_len (pa_cons (pe_call G_rows_of (hr.mono (by omega)) (by rfl) T.rows_of.g T.rows_of.F.kp T.rows_of.b .nil pass0 (pa_cons (pv 0) pa_nil)) pa_nil)) (pe_glob (v := .int 24) (by rfl) T.g_MAX_PLACES ⟨_, rfl⟩) (nomark _)) (pss_one (ps_ret (pe_tupA (pa_cons pe_non (pa_cons pe_str pa_nil))))) pss_nil)
      (pss_cons (ps_if (pt_cmpR op_gt (pe_call G_weight (hr.mono (by omega)) (by rfl) T.weight.g T.weight.F.kp T.weight.b .nil pass0 (pa_cons (pv 0) pa_nil)) (pe_glob (v := .int 60) (by rfl) T.g_MAX_WEIGHT ⟨_, rfl⟩) (nomark _)) (pss_one (ps_ret (pe_tupA (pa_cons pe_non (pa_cons pe_str pa_nil))))) pss_nil)
      (pss_cons (ps_if (pt_cmpR op_gt (pe_call G_counted (hr.mono (by omega)) (by rfl) T.counted.g T.counted.F.kp T.counted.b .nil pass0 (pa_cons (pv 0) (pa_cons pe_str pa_nil))) (pe_glob (v := .int 4) (by rfl) T.g_MAX_HALVINGS ⟨_, rfl⟩) (nomark _)) (pss_one (ps_ret (pe_tupA (pa_cons pe_non (pa_cons pe_str pa_nil))))) pss_nil)
      (pss_one (ps_ret (pe_ifExp (pt_cmpR op_gt (pe_call G_counted (hr.mono (by omega)) (by rfl) T.counted.g T.counted.F.kp T.counted.b .nil pass0 (pa_cons (pv 0) (pa_cons pe_str pa_nil))) (pe_glob (v := .int 3) (by rfl) T.g_MAX_COMPARINGS ⟨_, rfl⟩) (nomark _)) (pe_tupA (pa_cons pe_non (pa_cons pe_str pa_nil))) pe_non))))))))), ?_⟩
  have notT : isTupB d = false → ∀ r H1, H r = none → H1 = upd H r (.tup [.non, .str "program"]) → Q (.ref r) H1 := by
    intro nt r H1 hr1 e1
    exact q _ _ H1 (mk_tup (new_at e1) (trs_cons mk_non (trs_cons mk_str trs_nil))) (.prog nt) (new_kp hr1 e1)
  cases d with
  | none =>
    simp only [Tr] at hT; subst hT
    walk_at "go"
    exact notT rfl
  | bool b =>
    simp only [Tr] at hT; subst hT
    walk_at "go"
    exact notT rfl
  | int b =>
    simp only [Tr] at hT; subst hT
    walk_at "go"
    exact notT rfl
  | str b =>
    simp only [Tr] at hT; subst hT
    walk_at "go"
    exact notT rfl
  | list ds => simp only [Tr] at hT
  | dict ds => simp only [Tr] at hT
  | tuple ds =>
    simp only [Szd] at sz
    simp only [dsz] at dz
    have dz2 : dszs ds ≤ 1000000 := by omega
    obtain ⟨ta, vs, rfl, hta, tvs⟩ := tr_tup hT
    walk_at "go"
    intro t1 H1 et k1
    cases eo : ordErr ds with
    | some pw =>
      obtain ⟨p, w⟩ := pw
      rw [eo] at et
      obtain ⟨u, x1, x2, rfl, h1, t1', t2'⟩ := tr_tup2 et
      walk_at "go"
      exact q _ _ H1 et (.ord eo) k1
    | none =>
      rw [eo] at et
      have et : Tr H1 .none t1 := et
      simp only [Tr] at et
      subst et
      obtain ⟨b, rfl, ok, nb⟩ := ordErr_none eo
      have pb := Sm.pls_dsz b
      have pb2 : Sm.pls b ≤ 1000000 := by omega
      have lb2 : b.length ≤ 1000000 := Nat.le_trans (Sm.len_pls b) pb2
      have tT1 := k1.tr hT
      have ln := Sm.prss_len 0 b
      have fin : ∀ e, bndErr b = e → ∀ t H', Tr H' (bndD e) t → Kp [] H H' → Q t H' := fun e he t H' ht kk => q t _ H' (he ▸ ht) (.bnd eo) kk
      unfold bndErr at fin
      have sh : SrtW "half" := .inr (.inl rfl)
      have sl : SrtW "less" := .inr (.inr rfl)
      walk_at "go"
      intro l2 us H2 hl2 a2 tu2 k2
      have lus : us.length = Sm.pls b := by rw [tu2.length, List.length_map, ln]
      have tT2 := k2.tr tT1
      have k02 := k1.step0 k2
      walk_at "go"
      rw [lus]
      refine iteB (fun h1 => ?_) (fun h1 => ?_)
      · have h1 : 24 < Sm.pls b := by have := of_decide_eq_true h1; omega
        rw [if_pos h1] at fin
        walk_at "go"
        intro r H3 hr3 e3
        exact fin _ rfl _ H3 (mk_tup (new_at e3) (trs_cons mk_non (trs_cons mk_str trs_nil))) (k02.step0 (new_kp hr3 e3))
      · have h1 : ¬ 24 < Sm.pls b := by have := of_decide_eq_false h1; omega
        rw [if_neg h1] at fin
        walk_at "go"
        intro H3 k3
        have tT3 := k3.tr tT2
        have k03 := k02.step0 k3
        walk_at "go"
        refine iteB (fun h2 => ?_) (fun h2 => ?_)
        · have h2 : 60 < Sm.wts b := by have := of_decide_eq_true h2; omega
          rw [if_pos h2] at fin
          walk_at "go"
          intro r H4 hr4 e4
          exact fin _ rfl _ H4 (mk_tup (new_at e4) (trs_cons mk_non (trs_cons mk_str trs_nil))) (k03.step0 (new_kp hr4 e4))
        · have h2 : ¬ 60 < Sm.wts b := by have := of_decide_eq_false h2; omega
          rw [if_neg h2] at fin
          walk_at "go"
          intro H4 k4
          have tT4 := k4.tr tT3
          have k04 := k03.step0 k4
          have c1 : cnts "half" b = Sm.hvs b := by
            unfold cnts
            rw [if_neg (by decide +kernel), if_pos rfl]
          have c2 : cnts "less" b = Sm.cps b := by
            unfold cnts
            rw [if_neg (by decide +kernel), if_neg (by decide +kernel)]
          walk_at "go"
          rw [c1]
          refine iteB (fun h3 => ?_) (fun h3 => ?_)
          · have h3 : 4 < Sm.hvs b := by have := of_decide_eq_true h3; omega
            rw [if_pos h3] at fin
            walk_at "go"
            intro r H5 hr5 e5
            exact fin _ rfl _ H5 (mk_tup (new_at e5) (trs_cons mk_non (trs_cons mk_str trs_nil))) (k04.step0 (new_kp hr5 e5))
          · have h3 : ¬ 4 < Sm.hvs b := by have := of_decide_eq_false h3; omega
            rw [if_neg h3] at fin
            walk_at "go"
            intro H5 k5
            have k05 := k04.step0 k5
            walk_at "go"
            rw [c2]
            refine iteB (fun h4 => ?_) (fun h4 => ?_)
            · have h4 : 3 < Sm.cps b := by have := of_decide_eq_true h4; omega
              rw [if_pos h4] at fin
              walk_at "go"
              intro r H6 hr6 e6
              exact fin _ rfl _ H6 (mk_tup (new_at e6) (trs_cons mk_non (trs_cons mk_str trs_nil))) (k05.step0 (new_kp hr6 e6))
            · have h4 : ¬ 3 < Sm.cps b := by have := of_decide_eq_false h4; omega
              rw [if_neg h4] at fin
              exact fin _ rfl _ H5 mk_non k05
end
end EH
namespace EH
open PySem L2
/-! ### what every run keeps -/
section
variable {J : Nat → Nat → Cs → Prop}
theorem iterN_inv {f : Cs → Option Str × Cs} {dw dh : Nat} (mono : ∀ w h w' h' s, J w h s → w ≤ w' → h ≤ h' → J w' h' s) (st : ∀ w h s, J w h s → J (w + dw) (h + dh) (f s).2) : ∀ (k w h : Nat) (s : Cs), J w h s → J (w + k * dw) (h + k * dh) (iterN k f s).2
  | 0, w, h, s, j => mono _ _ _ _ _ j (Nat.le_add_right _ _) (Nat.le_add_right _ _)
  | k + 1, w, h, s, j => by
    have j1 := st w h s j
    rw [iterN, Nat.succ_mul, Nat.succ_mul]
    cases e : f s with
    | mk c s' =>
      rw [e] at j1
      cases c with
      | none => exact mono _ _ _ _ _ (iterN_inv mono st k _ _ s' j1) (by omega) (by omega)
      | some c => exact mono _ _ _ _ _ j1 (by omega) (by omega)
variable {dec : Nat → Int → Int → Int} {ways : Int → Option Int}
mutual
theorem Sm.inv (mono : ∀ w h w' h' s, J w h s → w ≤ w' → h ≤ h' → J w' h' s) (pl : ∀ st : Sm, st.plain → st.ok → ∀ p w h s, J w h s → J (w + 1) (h + st.hv) (st.run dec ways p s).2) :
    ∀ (t : Sm), t.ok → ∀ (p : Int) (w h : Nat) (s : Cs), J w h s → J (w + t.wt) (h + t.hv) (t.run dec ways p s).2
  | .ite t y n, o, p, w, h, s, j => by
    simp only [Sm.ok] at o
    simp only [Sm.run, Sm.wt, Sm.hv]
    by_cases hc : t.ev s.env = true
    · have jj := Sm.invs mono pl y o.2.2.1 (p + 1) w h s j
      rw [if_pos hc]
      refine mono _ _ _ _ _ jj ?_ ?_ <;> omega
    · have jj := Sm.invs mono pl n o.2.2.2 (p + 1 + (Sm.pls y : Int)) w h s j
      rw [if_neg hc]
      refine mono _ _ _ _ _ jj ?_ ?_ <;> omega
  | .rep k b, o, p, w, h, s, j => by
    simp only [Sm.ok] at o
    simp only [Sm.run, Sm.wt, Sm.hv]
    have jj := iterN_inv mono (fun w h s j => Sm.invs mono pl b o.2 (p + 1) w h s j) k w h s j
    refine mono _ _ _ _ _ jj ?_ ?_ <;> omega
  | .set x e, o, p, w, h, s, j => by
    have := pl (.set x e) trivial o p w h s j
    simp only [Sm.wt]
    exact this
  | .half x e, o, p, w, h, s, j => by
    have := pl (.half x e) trivial o p w h s j
    simp only [Sm.wt]
    exact this
  | .tell e, o, p, w, h, s, j => by
    have := pl (.tell e) trivial o p w h s j
    simp only [Sm.wt]
    exact this
  | .say c, o, p, w, h, s, j => by
    have := pl (.say c) trivial o p w h s j
    simp only [Sm.wt]
    exact this
  | .stop c, o, p, w, h, s, j => by
    have := pl (.stop c) trivial o p w h s j
    simp only [Sm.wt]
    exact this
theorem Sm.invs (mono : ∀ w h w' h' s, J w h s → w ≤ w' → h ≤ h' → J w' h' s) (pl : ∀ st : Sm, st.plain → st.ok → ∀ p w h s, J w h s → J (w + 1) (h + st.hv) (st.run dec ways p s).2) :
    ∀ (b : List Sm), Sm.oks b → ∀ (p : Int) (w h : Nat) (s : Cs), J w h s → J (w + Sm.wts b) (h + Sm.hvs b) (Sm.runs dec ways b p s).2
  | [], _, p, w, h, s, j => by
    simp only [Sm.runs]
    exact mono _ _ _ _ _ j (Nat.le_add_right _ _) (Nat.le_add_right _ _)
  | t :: r, o, p, w, h, s, j => by
    simp only [Sm.oks] at o
    have j1 := Sm.inv mono pl t o.1 p w h s j
    simp only [Sm.runs, Sm.wts, Sm.hvs]
    cases e : Sm.run dec ways t p s with
    | mk c s' =>
      rw [e] at j1
      cases c with
      | none => exact mono _ _ _ _ _ (Sm.invs mono pl r o.2 _ _ _ s' j1) (by omega) (by omega)
      | some c => exact mono _ _ _ _ _ j1 (by omega) (by omega)
end
end
section
variable {dec : Nat → Int → Int → Int} {ways : Int → Option Int}
theorem halv_turns (s : Cs) (v p : Int) : (halv dec ways s v p).2.turns = s.turns ∨ (halv dec ways s v p).2.turns = s.turns ++ [dec s.turns.length v p] := by
  unfold halv
  split
  · exact .inl rfl
  · split
    · exact .inl rfl
    · exact .inr rfl
theorem plain_turns (st : Sm) (h : st.plain) (p : Int) (s : Cs) : (st.run dec ways p s).2.turns = s.turns ∨ (st.hv = 1 ∧ ∃ v, (st.run dec ways p s).2.turns = s.turns ++ [dec s.turns.length v p]) := by
  cases st with
  | ite _ _ _ => exact h.elim
  | rep _ _ => exact h.elim
  | set x e => exact .inl (by simp only [Sm.run])
  | half x e =>
    simp only [Sm.run, Sm.hv]
    rcases halv_turns (dec := dec) (ways := ways) s (e.ev s.env) p with h | h
    · exact .inl h
    · exact .inr ⟨trivial, _, h⟩
  | tell e => exact .inl (by simp only [Sm.run])
  | say c => exact .inl (by simp only [Sm.run])
  | stop c => exact .inl (by simp only [Sm.run])
theorem turns_le (b : List Sm) (o : Sm.oks b) (p : Int) (s : Cs) : (Sm.runs dec ways b p s).2.turns.length ≤ s.turns.length + Sm.hvs b := by
  have := Sm.invs (J := fun _ h s' => s'.turns.length ≤ s.turns.length + h) (dec := dec) (ways := ways) (fun _ _ _ _ _ j _ hh => Nat.le_trans j (by omega)) (fun st hp ho p w h s' j => by
    rcases plain_turns (dec := dec) (ways := ways) st hp p s' with e | ⟨e1, v, e2⟩
    · rw [e]; omega
    · rw [e2, e1, List.length_append]
      simp only [List.length_singleton]
      omega) b o p 0 0 s (Nat.le_refl _)
  simpa using this
theorem turns_ge (b : List Sm) (o : Sm.oks b) (p : Int) (s : Cs) : s.turns.length ≤ (Sm.runs dec ways b p s).2.turns.length :=
  Sm.invs (J := fun _ _ s' => s.turns.length ≤ s'.turns.length) (dec := dec) (ways := ways) (fun _ _ _ _ _ j _ _ => j) (fun st hp ho p w h s' j => by
    rcases plain_turns (dec := dec) (ways := ways) st hp p s' with e | ⟨e1, v, e2⟩
    · rw [e]; exact j
    · rw [e2, List.length_append]
      omega) b o p 0 0 s (Nat.le_refl _)
theorem turn_ge (t : Sm) (o : t.ok) (p : Int) (s : Cs) : s.turns.length ≤ (Sm.run dec ways t p s).2.turns.length :=
  Sm.inv (J := fun _ _ s' => s.turns.length ≤ s'.turns.length) (dec := dec) (ways := ways) (fun _ _ _ _ _ j _ _ => j) (fun st hp ho p w h s' j => by
    rcases plain_turns (dec := dec) (ways := ways) st hp p s' with e | ⟨e1, v, e2⟩
    · rw [e]; exact j
    · rw [e2, List.length_append]
      omega) t o p 0 0 s (Nat.le_refl _)
end
/-- the first n choices -/
def tk (chs : List Int) (n : Nat) : List Int := (List.range n).map fun i => chs.getD i 0
theorem tk_succ (chs : List Int) (n : Nat) : tk chs (n + 1) = tk chs n ++ [chs.getD n 0] := by
  unfold tk
  rw [List.range_succ, List.map_append]
  rfl
theorem tk_len (chs : List Int) (n : Nat) : (tk chs n).length = n := by
  unfold tk
  rw [List.length_map, List.length_range]
theorem turns_tk {chs : List Int} {ways : Int → Option Int} (b : List Sm) (o : Sm.oks b) (p : Int) (n : Int) : (Sm.runs (decC chs) ways b p (cs0 n)).2.turns = tk chs (Sm.runs (decC chs) ways b p (cs0 n)).2.turns.length :=
  Sm.invs (J := fun _ _ s' => s'.turns = tk chs s'.turns.length) (dec := decC chs) (ways := ways) (fun _ _ _ _ _ j _ _ => j) (fun st hp ho p w h s' j => by
    rcases plain_turns (dec := decC chs) (ways := ways) st hp p s' with e | ⟨e1, v, e2⟩
    · rw [e]; exact j
    · rw [e2, List.length_append, List.length_singleton, tk_succ, ← j]
      rfl) b o p 0 0 (cs0 n) rfl
/-! ### runs that differ from the turn j on -/
def Rl (j : Nat) (a b : Option Str × Cs) : Prop := a = b ∨ (j < a.2.turns.length ∧ j < b.2.turns.length)
theorem iterN_ge {f : Cs → Option Str × Cs} (mf : ∀ s, s.turns.length ≤ (f s).2.turns.length) : ∀ (k : Nat) (s : Cs), s.turns.length ≤ (iterN k f s).2.turns.length
  | 0, s => Nat.le_refl _
  | k + 1, s => by
    have h := mf s
    rw [iterN]
    cases e : f s with
    | mk c s' =>
      rw [e] at h
      cases c with
      | none => exact Nat.le_trans h (iterN_ge mf k s')
      | some c => exact h
theorem iterN_ge1 {f : Cs → Option Str × Cs} (mf : ∀ s, s.turns.length ≤ (f s).2.turns.length) (k : Nat) (s : Cs) : (f s).2.turns.length ≤ (iterN (k + 1) f s).2.turns.length := by
  rw [iterN]
  cases e : f s with
  | mk c s' =>
    cases c with
    | none => exact iterN_ge mf k s'
    | some c => exact Nat.le_refl _
theorem iterN_rel {j : Nat} {f g : Cs → Option Str × Cs} (mf : ∀ s, s.turns.length ≤ (f s).2.turns.length) (mg : ∀ s, s.turns.length ≤ (g s).2.turns.length) (r : ∀ s, Rl j (f s) (g s)) : ∀ (k : Nat) (s : Cs), Rl j (iterN k f s) (iterN k g s)
  | 0, s => .inl rfl
  | k + 1, s => by
    rcases r s with h | ⟨h1, h2⟩
    · rw [iterN, iterN, ← h]
      cases e : f s with
      | mk c s' =>
        cases c with
        | none => exact iterN_rel mf mg r k s'
        | some c => exact .inl rfl
    · exact .inr ⟨Nat.lt_of_lt_of_le h1 (iterN_ge1 mf k s), Nat.lt_of_lt_of_le h2 (iterN_ge1 mg k s)⟩
section
variable {d1 d2 : Nat → Int → Int → Int} {ways : Int → Option Int} {j : Nat}
theorem runs_ge1 {dec : Nat → Int → Int → Int} (t : Sm) (r : List Sm) (o : Sm.oks r) (p : Int) (s : Cs) : (Sm.run dec ways t p s).2.turns.length ≤ (Sm.runs dec ways (t :: r) p s).2.turns.length := by
  simp only [Sm.runs]
  cases e : Sm.run dec ways t p s with
  | mk c s' =>
    cases c with
    | none => exact turns_ge r o _ s'
    | some c => exact Nat.le_refl _
mutual
theorem Sm.rel (ag : ∀ k v p, k < j → d1 k v p = d2 k v p) : ∀ (t : Sm), t.ok → ∀ (p : Int) (s : Cs), Rl j (t.run d1 ways p s) (t.run d2 ways p s)
  | .ite t y n, o, p, s => by
    simp only [Sm.ok] at o
    simp only [Sm.run]
    split
    · exact Sm.rels ag y o.2.2.1 _ s
    · exact Sm.rels ag n o.2.2.2 _ s
  | .rep k b, o, p, s => by
    simp only [Sm.ok] at o
    simp only [Sm.run]
    exact iterN_rel (fun s => turns_ge b o.2 _ s) (fun s => turns_ge b o.2 _ s) (fun s => Sm.rels ag b o.2 _ s) k s
  | .set x e, o, p, s => by simp only [Sm.run]; exact .inl rfl
  | .half x e, o, p, s => by
    by_cases h : s.turns.length < j
    · refine .inl ?_
      simp only [Sm.run, halv, ag _ _ _ h]
    · simp only [Sm.run, halv]
      split
      · exact .inl rfl
      · split
        · exact .inl rfl
        · refine .inr ⟨?_, ?_⟩
          · show j < (s.turns ++ [_]).length
            rw [List.length_append, List.length_singleton]
            omega
          · show j < (s.turns ++ [_]).length
            rw [List.length_append, List.length_singleton]
            omega
  | .tell e, o, p, s => by simp only [Sm.run]; exact .inl rfl
  | .say c, o, p, s => by simp only [Sm.run]; exact .inl rfl
  | .stop c, o, p, s => by simp only [Sm.run]; exact .inl rfl
theorem Sm.rels (ag : ∀ k v p, k < j → d1 k v p = d2 k v p) : ∀ (b : List Sm), Sm.oks b → ∀ (p : Int) (s : Cs), Rl j (Sm.runs d1 ways b p s) (Sm.runs d2 ways b p s)
  | [], _, p, s => by simp only [Sm.runs]; exact .inl rfl
  | t :: r, o, p, s => by
    simp only [Sm.oks] at o
    rcases Sm.rel ag t o.1 p s with h | ⟨h1, h2⟩
    · simp only [Sm.runs, ← h]
      cases e : Sm.run d1 ways t p s with
      | mk c s' =>
        cases c with
        | none => exact Sm.rels ag r o.2 _ s'
        | some c => exact .inl rfl
    · exact .inr ⟨Nat.lt_of_lt_of_le h1 (runs_ge1 t r o.2 p s), Nat.lt_of_lt_of_le h2 (runs_ge1 t r o.2 p s)⟩
end
end
/-- the same turns at the start, the same run -/
theorem runs_same {c1 c2 : List Int} {ways : Int → Option Int} (b : List Sm) (o : Sm.oks b) (p n : Int) (h : ∀ k, k < (Sm.runs (decC c1) ways b p (cs0 n)).2.turns.length → c1.getD k 0 = c2.getD k 0) : Sm.runs (decC c2) ways b p (cs0 n) = Sm.runs (decC c1) ways b p (cs0 n) := by
  rcases Sm.rels (d1 := decC c1) (d2 := decC c2) (ways := ways) (j := (Sm.runs (decC c1) ways b p (cs0 n)).2.turns.length) (fun k _ _ hk => h k hk) b o p (cs0 n) with e | ⟨h1, _⟩
  · exact e.symm
  · exact absurd h1 (Nat.lt_irrefl _)
theorem runs_other {c1 c2 : List Int} {ways : Int → Option Int} (b : List Sm) (o : Sm.oks b) (p n : Int) (j : Nat) (hj : j < (Sm.runs (decC c1) ways b p (cs0 n)).2.turns.length) (h : ∀ k, k < j → c1.getD k 0 = c2.getD k 0) :
    (Sm.runs (decC c2) ways b p (cs0 n)).2.turns.take (j + 1) = tk c2 (j + 1) := by
  have l : j < (Sm.runs (decC c2) ways b p (cs0 n)).2.turns.length := by
    rcases Sm.rels (d1 := decC c1) (d2 := decC c2) (ways := ways) (j := j) (fun k _ _ hk => h k hk) b o p (cs0 n) with e | ⟨_, h2⟩
    · rw [← e]; exact hj
    · exact h2
  rw [turns_tk b o p n]
  unfold tk
  rw [← List.map_take, List.take_range, Nat.min_eq_left l]
/-! ### how large the numbers are -/
theorem Ex.ev_le {env : Str → Int} {M : Nat} (hM : 99 ≤ M) (h : ∀ x, (env x).natAbs ≤ M) : ∀ {e : Ex}, e.ok → (e.ev env).natAbs ≤ M * 9 ^ e.deep
  | .num i, o => by
    obtain ⟨h1, h2⟩ := (show -99 ≤ i ∧ i ≤ 99 from o)
    show i.natAbs ≤ M * 9 ^ 1
    omega
  | .var x, o => by
    have := h x
    show (env x).natAbs ≤ M * 9 ^ 1
    omega
  | .plus a b, o => by
    have h1 := Ex.ev_le hM h (e := a) (show a.ok ∧ b.ok from o).1
    have h2 := Ex.ev_le hM h (e := b) (show a.ok ∧ b.ok from o).2
    show (a.ev env + b.ev env).natAbs ≤ M * 9 ^ (max a.deep b.deep + 1)
    have p1 : M * 9 ^ a.deep ≤ M * 9 ^ max a.deep b.deep := Nat.mul_le_mul_left _ (Nat.pow_le_pow_right (by decide) (Nat.le_max_left _ _))
    have p2 : M * 9 ^ b.deep ≤ M * 9 ^ max a.deep b.deep := Nat.mul_le_mul_left _ (Nat.pow_le_pow_right (by decide) (Nat.le_max_right _ _))
    rw [Nat.pow_succ, ← Nat.mul_assoc]
    omega
  | .minus a b, o => by
    have h1 := Ex.ev_le hM h (e := a) (show a.ok ∧ b.ok from o).1
    have h2 := Ex.ev_le hM h (e := b) (show a.ok ∧ b.ok from o).2
    show (a.ev env - b.ev env).natAbs ≤ M * 9 ^ (max a.deep b.deep + 1)
    have p1 : M * 9 ^ a.deep ≤ M * 9 ^ max a.deep b.deep := Nat.mul_le_mul_left _ (Nat.pow_le_pow_right (by decide) (Nat.le_max_left _ _))
    have p2 : M * 9 ^ b.deep ≤ M * 9 ^ max a.deep b.deep := Nat.mul_le_mul_left _ (Nat.pow_le_pow_right (by decide) (Nat.le_max_right _ _))
    rw [Nat.pow_succ, ← Nat.mul_assoc]
    omega
  | .times k a, o => by
    obtain ⟨k1, k2, oa⟩ := (show -9 ≤ k ∧ k ≤ 9 ∧ a.ok from o)
    have h1 := Ex.ev_le hM h (e := a) oa
    show (k * a.ev env).natAbs ≤ M * 9 ^ (a.deep + 1)
    rw [Int.natAbs_mul, Nat.pow_succ, ← Nat.mul_assoc, Nat.mul_comm]
    exact Nat.mul_le_mul h1 (by omega)
/-- a number, a text that a run may tell -/
def kOk (M : Nat) : Key → Prop
  | .inl i => i.natAbs ≤ M
  | .inr c => PyData.strOk c = true ∧ c.length ≤ 20
theorem kOk.mono {M M' : Nat} (h : M ≤ M') : ∀ {k : Key}, kOk M k → kOk M' k
  | .inl _, o => Nat.le_trans o h
  | .inr _, o => o
def BN : Nat := 10 ^ 60
structure Mag (w : Nat) (s : Cs) : Prop where
  env : ∀ x, (s.env x).natAbs ≤ BN * 729 ^ w
  said : ∀ k ∈ s.said, kOk (BN * 729 ^ w) k
  len : s.said.length ≤ w
theorem bn_mono {w w' : Nat} (h : w ≤ w') : BN * 729 ^ w ≤ BN * 729 ^ w' := Nat.mul_le_mul_left _ (Nat.pow_le_pow_right (by decide) h)
theorem bn_99 (w : Nat) : 99 ≤ BN * 729 ^ w := Nat.le_trans (by decide : 99 ≤ BN * 1) (Nat.mul_le_mul_left _ (Nat.one_le_pow _ _ (by decide)))
theorem Mag.mono {w w' : Nat} {s : Cs} (m : Mag w s) (h : w ≤ w') : Mag w' s := ⟨fun x => Nat.le_trans (m.env x) (bn_mono h), fun k hk => (m.said k hk).mono (bn_mono h), Nat.le_trans m.len h⟩
theorem Mag.ev {w : Nat} {s : Cs} (m : Mag w s) {e : Ex} (o : e.ok) (d : e.deep ≤ 3) : (e.ev s.env).natAbs ≤ BN * 729 ^ (w + 1) := by
  have h := Ex.ev_le (bn_99 w) m.env o
  refine Nat.le_trans h ?_
  rw [Nat.pow_succ, ← Nat.mul_assoc]
  exact Nat.mul_le_mul_left _ (Nat.le_trans (Nat.pow_le_pow_right (by decide) d) (by decide))
theorem setE_le {env : Str → Int} {x : Str} {v : Int} {M : Nat} (h : ∀ x, (env x).natAbs ≤ M) (hv : v.natAbs ≤ M) : ∀ y, (setE env x v y).natAbs ≤ M := by
  intro y
  unfold setE
  split
  · exact hv
  · exact h y
section
variable {dec : Nat → Int → Int → Int} {ways : Int → Option Int}
theorem halv_le (hd : ∀ k v p, dec k v p = 0 ∨ dec k v p = 1) (hw : ∀ p c, ways p = some c → c = 0 ∨ c = 1) (s : Cs) (v p : Int) : (halv dec ways s v p).1.natAbs ≤ v.natAbs := by
  unfold halv
  split
  · show (v / 2).natAbs ≤ _
    omega
  · split
    · rename_i c hc
      have := hw p c hc
      show (v / 2 + c).natAbs ≤ _
      omega
    · have := hd s.turns.length v p
      show (v / 2 + dec s.turns.length v p).natAbs ≤ _
      omega
theorem halv_said (s : Cs) (v p : Int) : (halv dec ways s v p).2.said = s.said := by
  unfold halv
  split
  · rfl
  · split <;> rfl
theorem runs_mag (hd : ∀ k v p, dec k v p = 0 ∨ dec k v p = 1) (hw : ∀ p c, ways p = some c → c = 0 ∨ c = 1) (b : List Sm) (o : Sm.oks b) (p : Int) (s : Cs) (m : Mag 0 s) : Mag (Sm.wts b) (Sm.runs dec ways b p s).2 := by
  have := Sm.invs (J := fun w _ s' => Mag w s') (dec := dec) (ways := ways) (fun _ _ _ _ _ j hw _ => j.mono hw) (fun st hp ho p w h s' j => by
    cases st with
    | ite _ _ _ => exact hp.elim
    | rep _ _ => exact hp.elim
    | set x e =>
      simp only [Sm.ok] at ho
      simp only [Sm.run]
      have j' := j.mono (Nat.le_succ w)
      exact ⟨setE_le j'.env (j.ev ho.1.1 ho.1.2), j'.said, j'.len⟩
    | half x e =>
      simp only [Sm.ok] at ho
      simp only [Sm.run]
      have j' := j.mono (Nat.le_succ w)
      refine ⟨setE_le j'.env (Nat.le_trans (halv_le hd hw s' _ p) (j.ev ho.1.1 ho.1.2)), ?_, ?_⟩
      · show ∀ k ∈ (halv dec ways s' _ p).2.said, _
        rw [halv_said]
        exact j'.said
      · show (halv dec ways s' _ p).2.said.length ≤ _
        rw [halv_said]
        exact j'.len
    | tell e =>
      simp only [Sm.ok] at ho
      simp only [Sm.run]
      have j' := j.mono (Nat.le_succ w)
      refine ⟨j'.env, ?_, ?_⟩
      · intro k hk
        rcases List.mem_append.mp hk with h | h
        · exact j'.said k h
        · cases List.mem_singleton.mp h
          exact j.ev ho.1 ho.2
      · show (s'.said ++ [_]).length ≤ _
        have := j.len
        rw [List.length_append, List.length_singleton]
        omega
    | say c =>
      simp only [Sm.ok] at ho
      simp only [Sm.run]
      have j' := j.mono (Nat.le_succ w)
      refine ⟨j'.env, ?_, ?_⟩
      · intro k hk
        rcases List.mem_append.mp hk with h | h
        · exact j'.said k h
        · cases List.mem_singleton.mp h
          exact ho
      · show (s'.said ++ [_]).length ≤ _
        have := j.len
        rw [List.length_append, List.length_singleton]
        omega
    | stop c =>
      simp only [Sm.run]
      exact j.mono (Nat.le_succ w)) b o p 0 0 s m
  rw [Nat.zero_add] at this
  exact this
theorem iterN_word {Pz : Str → Prop} {f : Cs → Option Str × Cs} (h : ∀ s c, (f s).1 = some c → Pz c) : ∀ (k : Nat) (s : Cs) (c : Str), (iterN k f s).1 = some c → Pz c
  | 0, s, c, e => nomatch (show (none : Option Str) = some c from e)
  | k + 1, s, c, e => by
    rw [iterN] at e
    have h1 := h s
    cases z : f s with
    | mk d s' =>
      rw [z] at e h1
      cases d with
      | none => exact iterN_word h k s' c e
      | some d => exact h1 c e
mutual
theorem Sm.word : ∀ (t : Sm), t.ok → ∀ (p : Int) (s : Cs) (c : Str), (t.run dec ways p s).1 = some c → PyData.strOk c = true ∧ c.length ≤ 20
  | .ite t y n, o, p, s, c, e => by
    simp only [Sm.ok] at o
    simp only [Sm.run] at e
    by_cases hc : t.ev s.env = true
    · rw [if_pos hc] at e
      exact Sm.words y o.2.2.1 _ s c e
    · rw [if_neg hc] at e
      exact Sm.words n o.2.2.2 _ s c e
  | .rep k b, o, p, s, c, e => by
    simp only [Sm.ok] at o
    simp only [Sm.run] at e
    exact iterN_word (fun s c e => Sm.words b o.2 _ s c e) k s c e
  | .set x e', o, p, s, c, e => by simp only [Sm.run] at e; exact nomatch e
  | .half x e', o, p, s, c, e => by simp only [Sm.run] at e; exact nomatch e
  | .tell e', o, p, s, c, e => by simp only [Sm.run] at e; exact nomatch e
  | .say c', o, p, s, c, e => by simp only [Sm.run] at e; exact nomatch e
  | .stop c', o, p, s, c, e => by
    simp only [Sm.ok] at o
    simp only [Sm.run] at e
    cases e
    exact o
theorem Sm.words : ∀ (b : List Sm), Sm.oks b → ∀ (p : Int) (s : Cs) (c : Str), (Sm.runs dec ways b p s).1 = some c → PyData.strOk c = true ∧ c.length ≤ 20
  | [], _, p, s, c, e => by simp only [Sm.runs] at e; exact nomatch e
  | t :: r, o, p, s, c, e => by
    simp only [Sm.oks] at o
    have h1 := Sm.word t o.1 p s
    simp only [Sm.runs] at e
    cases z : Sm.run dec ways t p s with
    | mk d s' =>
      rw [z] at e h1
      cases d with
      | none => exact Sm.words r o.2 _ s' c e
      | some d => exact h1 c e
end
end
/-! ### what is told can be shown -/
def BM : Nat := 10 ^ 240
theorem bm_ok {w : Nat} (h : w ≤ 60) : BN * 729 ^ w < BM := Nat.lt_of_le_of_lt (bn_mono h) (by decide +kernel)
structure ROk (r : Option Str × Cs) : Prop where
  said : ∀ k ∈ r.2.said, kOk (BM - 1) k
  len : r.2.said.length ≤ 60
  word : ∀ c, r.1 = some c → PyData.strOk c = true ∧ c.length ≤ 20
  turns : ∀ i ∈ r.2.turns, i = 0 ∨ i = 1
  tlen : r.2.turns.length ≤ 4
theorem decC_01 {chs : List Int} (h : ∀ i ∈ chs, i = 0 ∨ i = 1) (k : Nat) (v p : Int) : decC chs k v p = 0 ∨ decC chs k v p = 1 := by
  show chs.getD k 0 = 0 ∨ chs.getD k 0 = 1
  rw [List.getD_eq_getElem?_getD]
  cases e : chs[k]? with
  | none => exact .inl rfl
  | some i => exact h i (List.mem_of_getElem? e)
theorem tk_01 {chs : List Int} (h : ∀ i ∈ chs, i = 0 ∨ i = 1) (n : Nat) : ∀ i ∈ tk chs n, i = 0 ∨ i = 1 := by
  intro i hi
  unfold tk at hi
  obtain ⟨k, _, rfl⟩ := List.mem_map.mp hi
  exact decC_01 h k 0 0
theorem noWay_01 : ∀ p c, noWay p = some c → c = 0 ∨ c = 1 := fun _ _ h => nomatch h
theorem runs_ok {chs : List Int} (h : ∀ i ∈ chs, i = 0 ∨ i = 1) {b : List Sm} (pr : PrOk b) {n : Int} (h1 : -BIG ≤ n) (h2 : n ≤ BIG) : ROk (Sm.runs (decC chs) noWay b 0 (cs0 n)) := by
  have hn : n.natAbs ≤ BN := by
    have e : (BN : Int) = BIG := by decide +kernel
    omega
  have he : ∀ x, ((cs0 n).env x).natAbs ≤ BN * 729 ^ 0 := by
    intro x
    show (env0 n x).natAbs ≤ _
    unfold env0
    rw [Nat.pow_zero, Nat.mul_one]
    split
    · exact hn
    · exact Nat.zero_le _
  have m : Mag (Sm.wts b) _ := runs_mag (dec := decC chs) (ways := noWay) (decC_01 h) noWay_01 b pr.ok 0 (cs0 n) ⟨he, (fun k hk => nomatch hk), Nat.le_refl _⟩
  have hb := bm_ok pr.wt
  refine ⟨fun k hk => (m.said k hk).mono (by omega), Nat.le_trans m.len pr.wt, fun c e => Sm.words b pr.ok 0 (cs0 n) c e, ?_, ?_⟩
  · rw [turns_tk b pr.ok 0 n]
    exact tk_01 h _
  · have := turns_le (dec := decC chs) (ways := noWay) b pr.ok 0 (cs0 n)
    have hh := pr.hv
    have e : (cs0 n).turns.length = 0 := rfl
    omega
theorem log_le {i : Int} (h : i.natAbs ≤ BM - 1) : i.natAbs.log2 < 900 := by
  by_cases z : i.natAbs = 0
  · rw [z]; decide
  · rw [Nat.log2_lt z]
    exact Nat.lt_of_le_of_lt h (by decide +kernel)
theorem kD_showable {k : Key} (h : kOk (BM - 1) k) : (kD k).showable = true := by
  cases k with
  | inl i =>
    show PyData.showable (.int i) = true
    simp only [PyData.showable, decide_eq_true_eq]
    have := log_le (show i.natAbs ≤ BM - 1 from h)
    omega
  | inr c => simp only [kD, PyData.showable]
theorem kDs_showable : ∀ {ks : List Key}, (∀ k ∈ ks, kOk (BM - 1) k) → PyData.showableAll (ks.map kD) = true
  | [], _ => by simp only [List.map_nil, PyData.showableAll]
  | k :: r, h => by
    simp only [List.map_cons, PyData.showableAll, kD_showable (h k List.mem_cons_self), kDs_showable (fun x hx => h x (List.mem_cons_of_mem _ hx))]
    rfl
def ty01 (l : List Int) : Prop := ∀ i ∈ l, i = 0 ∨ i = 1
theorem key01 {l : List Int} (h : ty01 l) : ∀ k ∈ l.map (fun i => (Sum.inl i : Key)), kOk (BM - 1) k := by
  intro k hk
  obtain ⟨i, hi, rfl⟩ := List.mem_map.mp hk
  show i.natAbs ≤ BM - 1
  have hb : 2 ≤ BM - 1 := by decide +kernel
  rcases h i hi with rfl | rfl
  · exact Nat.zero_le _
  · exact Nat.le_trans (by decide) hb
theorem key01D (l : List Int) : (l.map (fun i => (Sum.inl i : Key))).map kD = l.map PyData.int := by
  rw [List.map_map]
  rfl
theorem kD_short {k : Key} (h : kOk (BM - 1) k) : (kD k).leavesShort 241 = true := by
  cases k with
  | inl i =>
    show PyData.leavesShort 241 (.int i) = true
    simp only [PyData.leavesShort, decide_eq_true_eq]
    have hi : i.natAbs < 10 ^ 240 := by
      have : 0 < BM := by decide +kernel
      exact Nat.lt_of_le_of_lt (show i.natAbs ≤ BM - 1 from h) (by show BM - 1 < BM; omega)
    have e := int_text_length_le10 (k := 240) (by decide) hi
    show (Str.ofString (toString i)).length ≤ 241
    rw [ofString_length]
    exact e
  | inr c =>
    show PyData.leavesShort 241 (.str c) = true
    exact PyData.leavesShort_of_canLay0 241 (.str c) (by simp only [PyData.canLay0]; exact h.1) (by simp only [PyData.intsShort])
theorem kDs_short : ∀ {ks : List Key}, (∀ k ∈ ks, kOk (BM - 1) k) → PyData.leavesShortAll 241 (ks.map kD) = true
  | [], _ => by simp only [List.map_nil, PyData.leavesShortAll]
  | k :: r, h => by
    simp only [List.map_cons, PyData.leavesShortAll, kD_short (h k List.mem_cons_self), kDs_short (fun x hx => h x (List.mem_cons_of_mem _ hx))]
    rfl
theorem kD_weight {k : Key} (h : kOk (BM - 1) k) : (kD k).weight ≤ 1000 := by
  cases k with
  | inl i =>
    show PyData.weight (.int i) ≤ 1000
    simp only [PyData.weight]
    have := log_le (show i.natAbs ≤ BM - 1 from h)
    split <;> omega
  | inr c =>
    show PyData.weight (.str c) ≤ 1000
    simp only [PyData.weight]
    exact Nat.le_trans h.2 (by decide)
theorem kDs_weight : ∀ {ks : List Key}, (∀ k ∈ ks, kOk (BM - 1) k) → PyData.weightAll (ks.map kD) ≤ 1001 * ks.length
  | [], _ => by simp only [List.map_nil, PyData.weightAll]; exact Nat.zero_le _
  | k :: r, h => by
    have h1 := kD_weight (h k List.mem_cons_self)
    have h2 := kDs_weight (fun x hx => h x (List.mem_cons_of_mem _ hx))
    simp only [List.map_cons, PyData.weightAll, List.length_cons]
    omega
theorem kD_depth (k : Key) : (kD k).depth = 0 := by cases k <;> simp only [kD, PyData.depth]
theorem kDs_depth : ∀ ks : List Key, PyData.depthAll (ks.map kD) = 0
  | [] => by simp only [List.map_nil, PyData.depthAll]
  | k :: r => by simp only [List.map_cons, PyData.depthAll, kD_depth, kDs_depth r]; rfl
/-- data that repr may be asked of -/
structure Shw (d : PyData) : Prop where
  sh : d.showable = true
  sz : d.shown.length ≤ sizeLine
  dp : d.depth ≤ 60
theorem shw_of {d : PyData} {W : Nat} (h1 : d.showable = true) (h2 : d.leavesShort 241 = true) (h3 : d.weight ≤ W) (h4 : (243 : Nat) * W + 241 ≤ 16777216) (h5 : d.depth ≤ 60) : Shw d := by
  refine ⟨h1, Nat.le_trans (PyData.shown_le 241 (by decide) d h2) ?_, h5⟩
  refine Nat.le_trans (Nat.add_le_add_right (Nat.mul_le_mul_left 243 h3) 241) ?_
  exact Nat.le_trans h4 (by decide +kernel)
theorem kDs_shw {ks : List Key} (h : ∀ k ∈ ks, kOk (BM - 1) k) (l : ks.length ≤ 60) : Shw (.tuple (ks.map kD)) := by
  refine shw_of (W := 60060) ?_ ?_ ?_ (by decide) ?_
  · simp only [PyData.showable]; exact kDs_showable h
  · simp only [PyData.leavesShort]; exact kDs_short h
  · have := kDs_weight h
    simp only [PyData.weight]
    omega
  · simp only [PyData.depth, kDs_depth]
    decide
theorem ints_shw {l : List Int} (h : ty01 l) (hl : l.length ≤ 60) : Shw (.tuple (l.map PyData.int)) := by
  rw [← key01D]
  exact kDs_shw (key01 h) (by rw [List.length_map]; exact hl)
theorem int_shw {i : Int} (h : i = 0 ∨ i = 1) : Shw (.int i) := by
  rcases h with rfl | rfl <;> exact ⟨by decide +kernel, by decide +kernel, by decide +kernel⟩
theorem res_shw {r : Option Str × Cs} (o : ROk r) : Shw (resD r) := by
  have kt := key01 o.turns
  have wd : (wD r.1).showable = true ∧ (wD r.1).leavesShort 241 = true ∧ (wD r.1).weight ≤ 1000 ∧ (wD r.1).depth = 0 := by
    have h := o.word
    cases e : r.1 with
    | none => exact ⟨by simp only [wD, PyData.showable], by simp only [wD, PyData.leavesShort], by simp only [wD, PyData.weight]; decide, by simp only [wD, PyData.depth]⟩
    | some c =>
      rw [e] at h
      have k := h c rfl
      exact ⟨kD_showable (k := .inr c) k, kD_short (k := .inr c) k, kD_weight (k := .inr c) k, kD_depth (.inr c)⟩
  have w1 := kDs_weight o.said
  have w2 := kDs_weight kt
  have l1 := o.len
  have l2 := o.tlen
  rw [List.length_map] at w2
  unfold resD
  rw [← key01D]
  refine shw_of (W := 66000) ?_ ?_ ?_ (by decide) ?_
  · simp only [PyData.showable, PyData.showableAll, kDs_showable o.said, kDs_showable kt, wd.1]
    rfl
  · simp only [PyData.leavesShort, PyData.leavesShortAll, kDs_short o.said, kDs_short kt, wd.2.1]
    rfl
  · simp only [PyData.weight, PyData.weightAll]
    omega
  · simp only [PyData.depth, PyData.depthAll, kDs_depth, wd.2.2.2]
    decide
end EH
namespace EH
open PySem L2
section
variable {X : Cx}
def rReprT : List V → Hp → VK → Prop := fun xs H Q => ∃ x d, xs = [x] ∧ Tr H d x ∧ Shw d ∧ ∀ z, z = d.shown → Q (.str z) H
theorem call_reprT (fr : Free X.A) (hu : X.A.units + 64 < cLine) : CallR X (.builtin "repr") rReprT := CallR.imp (call_reprD fr hu) fun xs H Q ⟨x, d, e, t, s, q⟩ => ⟨x, d, e, Tr.dp d x t, s.sh, s.sz, s.dp, q _ rfl⟩
theorem cr_allK {K : PySem.W.Frag} (hK : X.K = K) (hc : X.calm = true) : CallR X (.builtin "all") (rAll K) := hK ▸ cr_all hc
end
/-! ### short: the trailing noughts go -/
def spShort : Sp := fun vs H Q _ => ∃ (p : Addr) (cs : List Int), vs = [.ref p] ∧ H p = some (.tup (cs.map V.int)) ∧ cs.length ≤ 60 ∧ ty01 cs ∧
  ∀ (p' : Addr) (cs' : List Int) (H' : Hp), H' p' = some (.tup (cs'.map V.int)) → (∀ k, cs'.getD k 0 = cs.getD k 0) → cs'.length ≤ 60 → ty01 cs' → Kp [] H H' → Q (.ref p') H'
theorem ints_shaped {cs : List Int} : SeqAt.shaped (.tuple (cs.map PyData.int)) = true := by
  have h1 : ∀ cs : List Int, PyData.canLayAll0 (cs.map PyData.int) = true := by
    intro cs
    induction cs with
    | nil => simp [PyData.canLayAll0]
    | cons x r ih => simp [PyData.canLayAll0, PyData.canLay0, ih]
  have h2 : ∀ cs : List Int, PyData.depthAll (cs.map PyData.int) = 0 := by
    intro cs
    induction cs with
    | nil => simp [PyData.depthAll]
    | cons x r ih => simp [PyData.depthAll, PyData.depth, ih]
  exact shaped_of (by simp only [PyData.canLay0]; exact h1 cs) (by simp only [PyData.depth, h2]; decide)
theorem ints_ne0 : ∀ cs : List Int, (!PyData.eqv (.tuple (cs.map PyData.int)) (.tuple [])) = !cs.isEmpty
  | [] => by simp [PyData.eqv, PyData.eqvAll]
  | x :: r => by simp [PyData.eqv, PyData.eqvAll]
theorem cut_last (xs : List V) : cutV xs none (some (-1)) = xs.dropLast := by
  unfold cutV
  rw [HT.sIx_none, List.drop_zero, List.dropLast_eq_take]
  show xs.take ((-1 + (xs.length : Int)).toNat - 0) = _
  rw [show (-1 + (xs.length : Int)).toNat - 0 = xs.length - 1 by omega]
theorem cut_to (xs : List V) (k : Nat) : cutV xs none (some (k : Int)) = xs.take k := by
  unfold cutV
  rw [HT.sIx_none, List.drop_zero, HT.sIx_nat]
  rw [Nat.sub_zero, ← List.take_take, List.take_length]
theorem getD_dropLast {cs : List Int} (h : cs.getLast? = some 0) (k : Nat) : cs.dropLast.getD k 0 = cs.getD k 0 := by
  obtain ⟨ys, rfl⟩ := List.getLast?_eq_some_iff.mp h
  rw [List.dropLast_concat, List.getD_eq_getElem?_getD, List.getD_eq_getElem?_getD]
  by_cases l : k < ys.length
  · rw [List.getElem?_append_left l]
  · rw [List.getElem?_append_right (by omega), List.getElem?_eq_none (by omega)]
    by_cases e : k - ys.length = 0
    · rw [e]; rfl
    · rw [List.getElem?_eq_none (by simp only [List.length_singleton]; omega)]
theorem map_dropLast (cs : List Int) : (cs.map V.int).dropLast = cs.dropLast.map V.int := by rw [List.map_dropLast]
theorem tr_ints {H : Hp} {p : Addr} {cs : List Int} (h : H p = some (.tup (cs.map V.int))) : Tr H (.tuple (cs.map PyData.int)) (.ref p) := mk_tup h (trs_int cs)
def spRight : Sp := fun vs H Q _ => ∃ (a c : Addr) (m : Int) (v : V) (b : List Sm) (n : Int), vs = [.ref a, v, .int n] ∧ Deck H a c m ∧ m ≤ 500000000 ∧ Tr H (.tuple (Sm.ds b)) v ∧ PrOk b ∧ -BIG ≤ n ∧ n ≤ BIG ∧
  ∀ (H' : Hp) (m' : Int), m ≤ m' → m' ≤ m + 100 → Deck H' a c m' → Kp [a, c] H H' → Q (.bl true) H'
theorem ints_of {H : Hp} : ∀ {ts : List Int} {vs : List V}, TrAll H (ts.map PyData.int) vs → vs = ts.map V.int
  | [], vs, h => by simp only [List.map_nil, TrAll] at h; subst h; rfl
  | t :: r, vs, h => by
    simp only [List.map_cons, TrAll] at h
    obtain ⟨v, ws, rfl, h1, h2⟩ := h
    cases tr_int h1
    rw [ints_of h2]
    rfl
theorem tk_getD {chs : List Int} {n k : Nat} (h : k < n) : (tk chs n).getD k 0 = chs.getD k 0 := by
  unfold tk
  rw [List.getD_eq_getElem?_getD, List.getElem?_map, List.getElem?_range h]
  rfl
theorem getD_app {a b : List Int} {k : Nat} (h : k < a.length) : (a ++ b).getD k 0 = a.getD k 0 := by
  rw [List.getD_eq_getElem?_getD, List.getD_eq_getElem?_getD, List.getElem?_append_left h]
theorem tk_self (c : List Int) : tk c c.length = c := by
  refine List.ext_getElem? fun k => ?_
  unfold tk
  rw [List.getElem?_map]
  by_cases h : k < c.length
  · rw [List.getElem?_range h, List.getElem?_eq_getElem h]
    show some (c.getD k 0) = _
    rw [List.getD_eq_getElem?_getD, List.getElem?_eq_getElem h]
    rfl
  · rw [List.getElem?_eq_none (by rw [List.length_range]; omega), List.getElem?_eq_none (by omega)]
    rfl
theorem ty01.take {l : List Int} (h : ty01 l) (k : Nat) : ty01 (l.take k) := fun i hi => h i (List.mem_of_mem_take hi)
theorem ty01.flip {l : List Int} (h : ty01 l) {t : Int} (ht : t = 0 ∨ t = 1) : ty01 (l ++ [1 - t]) := by
  intro i hi
  rcases List.mem_append.mp hi with z | z
  · exact h i z
  · cases List.mem_singleton.mp z
    omega
end EH
namespace EH
open PySem L2 PyProof.Rows
/-! ### t[::-1] of a tuple -/
section
variable {prog : Program} {w : World} {A : Around} {E : Value → Shared → Prop} {s : Shared}
theorem adj_rev (n : Nat) : Builtin.Slice.sliceAdjust none none (-1) (n : Int) = ((n : Int) - 1, -1) := by
  unfold Builtin.Slice.sliceAdjust
  simp
theorem plc_rev (n : Nat) : Builtin.Slice.slicePlaces ((n : Int) - 1) (-1) (-1) = n := by
  unfold Builtin.Slice.slicePlaces
  simp
  omega
theorem pick_rev (xs : Array Value) : ((List.range xs.size).filterMap fun (m : Nat) => xs[((xs.size : Int) - 1 + (m : Int) * -1).toNat]?).toArray = xs.toList.reverse.toArray := by
  have e : (fun (m : Nat) => xs[((xs.size : Int) - 1 + (m : Int) * -1).toNat]?) = (fun k => xs[k]?) ∘ fun m => xs.size - 1 - m := by
    funext m
    show xs[((xs.size : Int) - 1 + (m : Int) * -1).toNat]? = xs[xs.size - 1 - m]?
    rw [show ((xs.size : Int) - 1 + (m : Int) * -1).toNat = xs.size - 1 - m by omega]
  rw [e, ← List.filterMap_map, PySem.W.krv_range, List.filterMap_reverse, PySem.W.krv_all]
theorem applied_rev {sl : Addr} {v1 v2 v3 : Value} {n : Nat} {R : Int × Int × Nat → Shared → Prop} (hs : s.heap.IsSliceOf sl v1 v2 v3) (p1 : IsPart v1 none) (p2 : IsPart v2 none) (p3 : IsPart v3 (some (-1)))
    (h : R ((n : Int) - 1, -1, n) s) : wpAny (model prog w) A (Builtin.Slice.sliceApplied (.ref sl) (pure (n : Int))) R E s := by
  obtain ⟨ob, hb, _, hd⟩ := id hs
  unfold Builtin.Slice.sliceApplied Builtin.Slice.sliceFields
  refine wpAny_bind (wpAny_bind (wpAny_field hb hd (x := v1) rfl (wpAny_bind (wpAny_field hb hd (x := v2) rfl (wpAny_bind (wpAny_field hb hd (x := v3) rfl (wpAny_pure ?_)))))))
  refine wpAny_bind (HT.slicePart_ p3 ?_)
  show wpAny _ _ (if ((-1 : Int) == 0) = true then _ else _) _ _ s
  rw [if_neg (by decide)]
  refine wpAny_bind (HT.slicePart_ p1 (wpAny_bind (HT.slicePart_ p2 (wpAny_bind (wpAny_pure ?_)))))
  show wpAny _ _ (match Builtin.Slice.sliceAdjust none none (-1) (n : Int) with | (lo, hi) => pure (lo, (-1 : Int), Builtin.Slice.slicePlaces lo hi (-1))) _ _ s
  rw [adj_rev]
  show wpAny _ _ (pure ((n : Int) - 1, (-1 : Int), Builtin.Slice.slicePlaces ((n : Int) - 1) (-1) (-1))) _ _ s
  rw [plc_rev]
  exact wpAny_pure h
theorem getItem_rev {t sl : Addr} {its : Array Value} {v1 v2 v3 : Value} {R : Value → Shared → Prop} (ht : IsTup s.heap t its) (hs : s.heap.IsSliceOf sl v1 v2 v3) (p1 : IsPart v1 none) (p2 : IsPart v2 none) (p3 : IsPart v3 (some (-1)))
    (h : R (.ref s.heap.objs.size) { s with heap := s.heap.push { cls := .type "tuple", data := .seq its.toList.reverse.toArray } }) (hsz : its.size ≤ sizeLine) : wpAny (model prog w) A (getItem (.ref t) (.ref sl)) R E s := by
  have hk : sizeOk (.seq its.toList.reverse.toArray) := by
    show its.toList.reverse.toArray.size ≤ sizeLine
    rw [List.size_toArray, List.length_reverse, Array.length_toList]
    exact hsz
  obtain ⟨ob, hb, hcs, _⟩ := id hs
  have hT : s.TypeIs (.ref sl) "slice" := ⟨ob, hb, hcs⟩
  unfold getItem
  try with_reducible refine wpAny_holding ?_
  first | refine wpAny_bind (wpAny_pure ?_) | skip
  refine wpAny_bind (wpAny_sequenceKey ht.typeIs (by decide) ?_)
  refine wpAny_bind (wpAny_callSpecial?_slot (name := Str.ofString "__getitem__") ht.typeIs slot_tuple_getitem (wpAny_call_entry slot_tuple_getitem ht.typeIs entry_tuple_getitem ?_ (args_tuple_getitem _ _)))
  show wpAny _ _ (Builtin.Tuple.tupleItemsOf (.ref t) >>= _) _ _ s
  refine wpAny_bind (tupleItemsOf_ ht ?_)
  refine wpAny_bind (wpAny_typeOf hT ?_)
  rw [if_pos (by decide)]
  refine wpAny_bind (applied_rev hs p1 p2 p3 ?_)
  have hno : ¬ ((((its.size : Int) - 1) == 0 && (-1 : Int) == 1 && its.size == its.size) = true) := by simp
  show wpAny _ _ (if ((((its.size : Int) - 1) == 0 && (-1 : Int) == 1 && its.size == its.size) = true) then _ else _) _ _ s
  rw [if_neg hno, pick_rev]
  first
    | exact wpAny_bind (m := Builtin.Tuple.tupleExact _) (wpAny_newObj_type (wpAny_pure ⟨_, rfl, wpAny_pure h⟩) hk)
    | exact wpAny_bind (m := Builtin.Tuple.tupleExact _) (wpAny_newObj_type (wpAny_bind (wpAny_pure (wpAny_pure ⟨_, rfl, wpAny_pure h⟩))) hk)
    | exact wpAny_bind (wpAny_bind (m := Builtin.Tuple.tupleExact _) (wpAny_newObj_type (wpAny_pure (wpAny_pure ⟨_, rfl, wpAny_pure h⟩)) hk))
    | exact wpAny_bind (wpAny_bind (m := Builtin.Tuple.tupleExact _) (wpAny_newObj_type (wpAny_pure ⟨_, rfl, wpAny_pure h⟩) hk))
end
section
variable {X : Cx}
def tRevT (te : TE) : TE := fun σ H Q => te σ H fun x H1 => ∃ a xs, x = .ref a ∧ H1 a = some (.tup xs) ∧ ∀ p H2, H1 p = none → H2 = upd H1 p (.tup xs.reverse) → Q (.ref p) H2
theorem pe_revT {e : Expr} {te : TE} {k : Nat} {p1 p2 p3 pos : Pos} (he : PE X e te) : PE X (.Subscript e (.Slice none none (some (.UnaryOp .USub (.Constant (.int 1) k p1) p2)) p3) pos) (tRevT te) := by
  refine ⟨fun pins s σ H Q I h => ?_⟩
  refine Subscript_ (thn (he.run pins s σ H _ I h) fun v s1 ⟨x, H1, I1, r1, q1⟩ => ?_)
  obtain ⟨a, xs, ex, hx0, q⟩ := q1
  have hx : SqT X.K H1 a xs := SqT.of hx0
  subst ex
  cases r1
  have po : PO X (some (.UnaryOp .USub (.Constant (.int 1) k p1) p2)) (tPart (tUn (rU fun i => .int (-i)) (tC (.int 1)))) := po_some (pe_un un_neg pe_int)
  refine wpAny_Slice (thn (po_none.run pins s1 σ H1 (fun o H2 => o = none ∧ H2 = H1) I1 ⟨rfl, rfl⟩) fun vl s2 ⟨l, H2, I2, pl, el, e2⟩ => ?_)
  subst el e2
  refine thn (po_none.run pins s2 σ H2 (fun o H3 => o = none ∧ H3 = H2) I2 ⟨rfl, rfl⟩) fun vu s3 ⟨u, H3, I3, pu, eu, e3⟩ => ?_
  subst eu e3
  refine thn (po.run pins s3 σ H3 (fun o H4 => o = some (-1) ∧ H4 = H3) I3 ⟨1, rfl, -1, rfl, rfl, rfl⟩) fun vs s4 ⟨o, H4, I4, ps, eo, e4⟩ => ?_
  subst eo e4
  have I5 : Inv X pins σ H4 { s4 with heap := s4.heap.push { cls := .type "slice", data := .fields #[vl, vu, vs] } } := I4.kept (t' := s4.toks) fun b ob q => Heap.get?_push_of_some _ q
  obtain ⟨its, r, ht, hz⟩ := I5.tuple hx
  have hlen := r.length
  show wpAny (model X.prog X.w) X.A (subscriptTail e (.Slice none none (some (.UnaryOp .USub (.Constant (.int 1) k p1) p2)) p3) (.ref a) (.ref s4.heap.objs.size)) (EP X pins σ Q) X.xe { s4 with heap := s4.heap.push { cls := .type "slice", data := .fields #[vl, vu, vs] } }
  refine tail_any (ops := [.ref a, .ref s4.heap.objs.size]) ht.typeIs (slot_tuple_getitem.lookup) ?_ (by with_unfolding_all rfl)
  refine getItem_rev ht (Heap.IsSliceOf.new _ vl vu vs) pl pu ps ?_ (by rw [List.size_toArray]; omega)
  refine ⟨.ref _, _, I5.laid (t' := s4.toks) (o := .tup xs.reverse) (fun b ob q => Heap.get?_push_of_some _ q) (Nat.le_refl _) ?_, rfl, q _ _ (I5.hok.fresh (Nat.le_refl _)) rfl⟩
  exact ⟨by rw [List.length_reverse]; exact hz, _, r.reverse, IsTup.new _ _⟩
end
section
variable {X : Cx} {K : PySem.W.Frag}
def rRepTA (K : PySem.W.Frag) : R2 := fun x y H Q => ∃ l k xs, x = .ref l ∧ y = .int k ∧ H l = some (.tup xs) ∧ xs ≠ [] ∧ 2 ≤ k ∧ k ≤ 1000 ∧ xs.length ≤ 1000 ∧ NewQ H (.tup (List.replicate k.toNat xs).flatten) Q
theorem op_repTK (hK : X.K = K) : OpR X (binaryOp .Mult) (rRepTA K) := OpR.imp op_repT fun x y H Q ⟨l, k, xs, e1, e2, h1, h2, h3, h4, h5, q⟩ => ⟨l, k, xs, e1, e2, SqT.of h1, h2, h3, h4, h5, q.to⟩
end
end EH
namespace EH
open PySem L2
/-! ### the mirror image of a program -/
def fixM (w : Str) (r ps : List PyData) : List PyData :=
  let qs := if inV (.str w) [.str "times", .str "repeat"] = true then r.take 1 ++ ps.drop 1 else ps
  if decide (V.str w = V.str "less") = true then qs.reverse else qs
mutual
def mirD : PyData → PyData
  | .int i => .int (0 - i)
  | .tuple ds => .tuple (mirT ds)
  | .str x => .str x
  | .none => .none
  | .bool b => .bool b
  | .list ds => .list ds
  | .dict kvs => .dict kvs
def mirT : List PyData → List PyData
  | [] => []
  | .str w :: r => .str w :: fixM w r (mirDs r)
  | d :: r => mirD d :: mirDs r
def mirDs : List PyData → List PyData
  | [] => []
  | d :: r => mirD d :: mirDs r
end
theorem mirDs_map : ∀ l : List PyData, mirDs l = l.map mirD
  | [] => by simp only [mirDs, List.map_nil]
  | d :: r => by simp only [mirDs, List.map_cons, mirDs_map r]
mutual
def Gd : PyData → Prop
  | .int _ => True
  | .str x => PyData.strOk x = true
  | .tuple ds => ds.length ≤ 1000000 ∧ (∀ w, ds ≠ [.str w]) ∧ Gds ds
  | .none => False
  | .bool _ => False
  | .list _ => False
  | .dict _ => False
def Gds : List PyData → Prop
  | [] => True
  | d :: r => Gd d ∧ Gds r
end
mutual
theorem Gd.lay : ∀ {d : PyData}, Gd d → d.canLay0 = true
  | .int _, h => by simp only [PyData.canLay0]
  | .str x, h => by simp only [Gd] at h; simp only [PyData.canLay0]; exact h
  | .tuple ds, h => by simp only [Gd] at h; simp only [PyData.canLay0]; exact Gds.lay h.2.2
  | .none, h => by simp only [Gd] at h
  | .bool _, h => by simp only [Gd] at h
  | .list _, h => by simp only [Gd] at h
  | .dict _, h => by simp only [Gd] at h
theorem Gds.lay : ∀ {ds : List PyData}, Gds ds → PyData.canLayAll0 ds = true
  | [], h => by simp only [PyData.canLayAll0]
  | d :: r, h => by
    simp only [Gds] at h
    simp only [PyData.canLayAll0, Gd.lay h.1, Gds.lay h.2]
    rfl
end
theorem Gds.mem : ∀ {ds : List PyData} {d : PyData}, Gds ds → d ∈ ds → Gd d
  | [], d, h, m => nomatch m
  | e :: r, d, h, m => by
    simp only [Gds] at h
    rcases List.mem_cons.mp m with rfl | m
    · exact h.1
    · exact Gds.mem h.2 m
theorem dep_mem : ∀ {ds : List PyData} {d : PyData}, d ∈ ds → d.depth ≤ PyData.depthAll ds
  | [], d, m => nomatch m
  | e :: r, d, m => by
    simp only [PyData.depthAll]
    rcases List.mem_cons.mp m with rfl | m
    · omega
    · have := dep_mem m
      omega
theorem dep_tup (ds : List PyData) : (PyData.tuple ds).depth = PyData.depthAll ds + 1 := by simp only [PyData.depth]
def Ex.mir : Ex → Ex
  | .num i => .num (0 - i)
  | .var x => .var x
  | .plus a b => .plus a.mir b.mir
  | .minus a b => .minus a.mir b.mir
  | .times k a => .times k a.mir
def Ts.mir : Ts → Ts
  | .less a b => .less b.mir a.mir
  | .odd a => .odd a.mir
  | .not t => .not t.mir
mutual
def Sm.mir : Sm → Sm
  | .ite t y n => .ite t.mir (Sm.mirs y) (Sm.mirs n)
  | .rep k b => .rep k (Sm.mirs b)
  | .set x e => .set x e.mir
  | .half x e => .half x e.mir
  | .tell e => .tell e.mir
  | .say c => .say c
  | .stop c => .stop c
def Sm.mirs : List Sm → List Sm
  | [] => []
  | s :: r => s.mir :: Sm.mirs r
end
theorem fixM_p {w : Str} {r ps : List PyData} (h1 : inV (.str w) [.str "times", .str "repeat"] = false) (h2 : decide (V.str w = V.str "less") = false) : fixM w r ps = ps := by
  unfold fixM
  rw [h1, h2]
  rfl
theorem fixM_t {w : Str} {r ps : List PyData} (h1 : inV (.str w) [.str "times", .str "repeat"] = true) (h2 : decide (V.str w = V.str "less") = false) : fixM w r ps = r.take 1 ++ ps.drop 1 := by
  unfold fixM
  rw [h1, h2]
  rfl
theorem fixM_l {r ps : List PyData} : fixM "less" r ps = ps.reverse := by
  unfold fixM
  rw [show inV (.str "less") [.str "times", .str "repeat"] = false by decide +kernel, show decide (V.str "less" = V.str "less") = true by decide +kernel]
  rfl
theorem mirT_str (w : Str) (r : List PyData) : mirT (.str w :: r) = .str w :: fixM w r (mirDs r) := by simp only [mirT]
theorem Ex.mir_d : ∀ e : Ex, e.mir.d = mirD e.d
  | .num i => by simp only [Ex.mir, Ex.d, mirD]
  | .var x => by simp only [Ex.mir, Ex.d, mirD]
  | .plus a b => by
    simp only [Ex.mir, Ex.d, mirD, mirT, mirDs, Ex.mir_d a, Ex.mir_d b]
    rw [fixM_p (by decide +kernel) (by decide +kernel)]
  | .minus a b => by
    simp only [Ex.mir, Ex.d, mirD, mirT, mirDs, Ex.mir_d a, Ex.mir_d b]
    rw [fixM_p (by decide +kernel) (by decide +kernel)]
  | .times k a => by
    simp only [Ex.mir, Ex.d, mirD, mirT, mirDs, Ex.mir_d a]
    rw [fixM_t (by decide +kernel) (by decide +kernel)]
    rfl
theorem Ts.mir_d : ∀ t : Ts, t.mir.d = mirD t.d
  | .less a b => by
    simp only [Ts.mir, Ts.d, mirD, mirT, mirDs, Ex.mir_d a, Ex.mir_d b]
    rw [fixM_l]
    rfl
  | .odd a => by
    simp only [Ts.mir, Ts.d, mirD, mirT, mirDs, Ex.mir_d a]
    rw [fixM_p (by decide +kernel) (by decide +kernel)]
  | .not t => by
    simp only [Ts.mir, Ts.d, mirD, mirT, mirDs, Ts.mir_d t]
    rw [fixM_p (by decide +kernel) (by decide +kernel)]
theorem Sm.d_tup : ∀ s : Sm, ∃ w r, s.d = .tuple (.str w :: r)
  | .ite t y n => by simp only [Sm.d]; exact ⟨_, _, rfl⟩
  | .rep k b => by simp only [Sm.d]; exact ⟨_, _, rfl⟩
  | .set x e => by simp only [Sm.d]; exact ⟨_, _, rfl⟩
  | .half x e => by simp only [Sm.d]; exact ⟨_, _, rfl⟩
  | .tell e => by simp only [Sm.d]; exact ⟨_, _, rfl⟩
  | .say c => by simp only [Sm.d]; exact ⟨_, _, rfl⟩
  | .stop c => by simp only [Sm.d]; exact ⟨_, _, rfl⟩
theorem mirT_ds : ∀ b : List Sm, mirT (Sm.ds b) = mirDs (Sm.ds b)
  | [] => by simp only [Sm.ds, mirT, mirDs]
  | s :: r => by
    obtain ⟨w, q, e⟩ := s.d_tup
    simp only [Sm.ds, e, mirT, mirDs]
mutual
theorem Sm.mir_d : ∀ s : Sm, s.mir.d = mirD s.d
  | .ite t y n => by
    simp only [Sm.mir, Sm.d, mirD, mirT_str, mirDs, Ts.mir_d t, mirT_ds, Sm.mirs_d y, Sm.mirs_d n]
    rw [fixM_p (by decide +kernel) (by decide +kernel)]
  | .rep k b => by
    simp only [Sm.mir, Sm.d, mirD, mirT_str, mirDs, mirT_ds, Sm.mirs_d b]
    rw [fixM_t (by decide +kernel) (by decide +kernel)]
    rfl
  | .set x e => by
    simp only [Sm.mir, Sm.d, mirD, mirT_str, mirDs, Ex.mir_d e]
    rw [fixM_p (by decide +kernel) (by decide +kernel)]
  | .half x e => by
    simp only [Sm.mir, Sm.d, mirD, mirT_str, mirDs, Ex.mir_d e]
    rw [fixM_p (by decide +kernel) (by decide +kernel)]
  | .tell e => by
    simp only [Sm.mir, Sm.d, mirD, mirT_str, mirDs, Ex.mir_d e]
    rw [fixM_p (by decide +kernel) (by decide +kernel)]
  | .say c => by
    simp only [Sm.mir, Sm.d, mirD, mirT_str, mirDs]
    rw [fixM_p (by decide +kernel) (by decide +kernel)]
  | .stop c => by
    simp only [Sm.mir, Sm.d, mirD, mirT_str, mirDs]
    rw [fixM_p (by decide +kernel) (by decide +kernel)]
theorem Sm.mirs_d : ∀ b : List Sm, Sm.ds (Sm.mirs b) = mirDs (Sm.ds b)
  | [] => by simp only [Sm.mirs, Sm.ds, mirDs]
  | s :: r => by simp only [Sm.mirs, Sm.ds, mirDs, Sm.mir_d s, Sm.mirs_d r]
end
theorem mir_block (b : List Sm) : mirD (.tuple (Sm.ds b)) = .tuple (Sm.ds (Sm.mirs b)) := by simp only [mirD, mirT_ds, Sm.mirs_d]
/-! good data -/
theorem gd2 {w : Str} {d : PyData} (hw : PyData.strOk w = true) (h : Gd d) : Gd (.tuple [.str w, d]) := by
  simp only [Gd, Gds]
  exact ⟨by show 2 ≤ 1000000; decide, (fun _ z => nomatch (List.cons.inj z).2), hw, h, trivial⟩
theorem gd3 {w : Str} {d e : PyData} (hw : PyData.strOk w = true) (h : Gd d) (h2 : Gd e) : Gd (.tuple [.str w, d, e]) := by
  simp only [Gd, Gds]
  exact ⟨by show 3 ≤ 1000000; decide, (fun _ z => nomatch (List.cons.inj z).2), hw, h, h2, trivial⟩
theorem gd_str {x : Str} (h : PyData.strOk x = true) : Gd (.str x) := by simp only [Gd]; exact h
theorem gd_int {i : Int} : Gd (.int i) := by simp only [Gd]
theorem Ex.gd : ∀ {e : Ex}, e.ok → Gd e.d
  | .num i, h => by simp only [Ex.d]; exact gd_int
  | .var x, h => by simp only [Ex.d]; exact gd_str h.1
  | .plus a b, h => by
    obtain ⟨h1, h2⟩ := (show a.ok ∧ b.ok from h)
    simp only [Ex.d]
    exact gd3 (by decide +kernel) (Ex.gd h1) (Ex.gd h2)
  | .minus a b, h => by
    obtain ⟨h1, h2⟩ := (show a.ok ∧ b.ok from h)
    simp only [Ex.d]
    exact gd3 (by decide +kernel) (Ex.gd h1) (Ex.gd h2)
  | .times k a, h => by
    obtain ⟨_, _, h2⟩ := (show -9 ≤ k ∧ k ≤ 9 ∧ a.ok from h)
    simp only [Ex.d]
    exact gd3 (by decide +kernel) gd_int (Ex.gd h2)
theorem Ts.gd : ∀ {t : Ts}, t.ok → Gd t.d
  | .less a b, h => by
    obtain ⟨⟨h1, _⟩, h2, _⟩ := (show (a.ok ∧ a.deep ≤ 3) ∧ b.ok ∧ b.deep ≤ 3 from h)
    simp only [Ts.d]
    exact gd3 (by decide +kernel) (Ex.gd h1) (Ex.gd h2)
  | .odd a, h => by
    obtain ⟨h1, _⟩ := (show a.ok ∧ a.deep ≤ 3 from h)
    simp only [Ts.d]
    exact gd2 (by decide +kernel) (Ex.gd h1)
  | .not t, h => by
    simp only [Ts.d]
    exact gd2 (by decide +kernel) (Ts.gd (t := t) h)
theorem gd_blk {b : List Sm} (h : Gds (Sm.ds b)) (l : Sm.pls b ≤ 1000000) : Gd (.tuple (Sm.ds b)) := by
  simp only [Gd]
  refine ⟨Nat.le_trans (Sm.ds_le b) l, ?_, h⟩
  intro w z
  cases b with
  | nil => simp only [Sm.ds] at z; exact nomatch z
  | cons s r =>
    obtain ⟨w', q, e⟩ := s.d_tup
    simp only [Sm.ds, e] at z
    exact nomatch (List.cons.inj z).1
mutual
theorem Sm.gd : ∀ {s : Sm}, s.ok → s.pl ≤ 1000000 → Gd s.d
  | .ite t y n, h, l => by
    simp only [Sm.ok] at h
    simp only [Sm.pl] at l
    have h1 := gd_blk (Sm.gds h.2.2.1 (by omega)) (by omega)
    have h2 := gd_blk (Sm.gds h.2.2.2 (by omega)) (by omega)
    simp only [Sm.d]
    rw [Gd]
    refine ⟨by show 4 ≤ 1000000; decide, (fun _ z => nomatch (List.cons.inj z).2), ?_⟩
    simp only [Gds]
    exact ⟨gd_str (by decide +kernel), Ts.gd h.1, h1, h2, trivial⟩
  | .rep k b, h, l => by
    simp only [Sm.ok] at h
    simp only [Sm.pl] at l
    simp only [Sm.d]
    exact gd3 (by decide +kernel) gd_int (gd_blk (Sm.gds h.2 (by omega)) (by omega))
  | .set x e, h, l => by
    simp only [Sm.ok] at h
    simp only [Sm.d]
    exact gd3 (by decide +kernel) (gd_str h.2.1) (Ex.gd h.1.1)
  | .half x e, h, l => by
    simp only [Sm.ok] at h
    simp only [Sm.d]
    exact gd3 (by decide +kernel) (gd_str h.2.1) (Ex.gd h.1.1)
  | .tell e, h, l => by
    simp only [Sm.ok] at h
    simp only [Sm.d]
    exact gd2 (by decide +kernel) (Ex.gd h.1)
  | .say c, h, l => by
    simp only [Sm.ok] at h
    simp only [Sm.d]
    exact gd2 (by decide +kernel) (gd_str h.1)
  | .stop c, h, l => by
    simp only [Sm.ok] at h
    simp only [Sm.d]
    exact gd2 (by decide +kernel) (gd_str h.1)
theorem Sm.gds : ∀ {b : List Sm}, Sm.oks b → Sm.pls b ≤ 1000000 → Gds (Sm.ds b)
  | [], _, _ => by simp only [Sm.ds, Gds]
  | s :: r, h, l => by
    simp only [Sm.oks] at h
    simp only [Sm.pls] at l
    simp only [Sm.ds, Gds]
    exact ⟨Sm.gd h.1 (by omega), Sm.gds h.2 (by omega)⟩
end
/-! bounds of the mirror image -/
theorem Ex.mir_ok : ∀ {e : Ex}, e.ok → e.mir.ok
  | .num i, h => by
    obtain ⟨h1, h2⟩ := (show -99 ≤ i ∧ i ≤ 99 from h)
    show -99 ≤ 0 - i ∧ 0 - i ≤ 99
    omega
  | .var x, h => h
  | .plus a b, h => ⟨Ex.mir_ok (show a.ok ∧ b.ok from h).1, Ex.mir_ok (show a.ok ∧ b.ok from h).2⟩
  | .minus a b, h => ⟨Ex.mir_ok (show a.ok ∧ b.ok from h).1, Ex.mir_ok (show a.ok ∧ b.ok from h).2⟩
  | .times k a, h => ⟨(show -9 ≤ k ∧ k ≤ 9 ∧ a.ok from h).1, (show -9 ≤ k ∧ k ≤ 9 ∧ a.ok from h).2.1, Ex.mir_ok (show -9 ≤ k ∧ k ≤ 9 ∧ a.ok from h).2.2⟩
theorem Ex.mir_deep : ∀ e : Ex, e.mir.deep = e.deep
  | .num i => rfl
  | .var x => rfl
  | .plus a b => by simp only [Ex.mir, Ex.deep, Ex.mir_deep a, Ex.mir_deep b]
  | .minus a b => by simp only [Ex.mir, Ex.deep, Ex.mir_deep a, Ex.mir_deep b]
  | .times k a => by simp only [Ex.mir, Ex.deep, Ex.mir_deep a]
theorem Ts.mir_ok : ∀ {t : Ts}, t.ok → t.mir.ok
  | .less a b, h => by
    obtain ⟨⟨h1, h3⟩, h2, h4⟩ := (show (a.ok ∧ a.deep ≤ 3) ∧ b.ok ∧ b.deep ≤ 3 from h)
    exact ⟨⟨Ex.mir_ok h2, by rw [Ex.mir_deep]; exact h4⟩, Ex.mir_ok h1, by rw [Ex.mir_deep]; exact h3⟩
  | .odd a, h => by
    obtain ⟨h1, h2⟩ := (show a.ok ∧ a.deep ≤ 3 from h)
    exact ⟨Ex.mir_ok h1, by rw [Ex.mir_deep]; exact h2⟩
  | .not t, h => Ts.mir_ok (t := t) h
theorem Ts.mir_nots : ∀ t : Ts, t.mir.nots = t.nots
  | .less a b => rfl
  | .odd a => rfl
  | .not t => congrArg (· + 1) (Ts.mir_nots t)
theorem Ts.mir_odd : ∀ t : Ts, t.mir.isOdd = t.isOdd
  | .less a b => rfl
  | .odd a => rfl
  | .not t => Ts.mir_odd t
mutual
theorem Sm.mir_ok : ∀ {s : Sm}, s.ok → s.mir.ok
  | .ite t y n, h => by
    simp only [Sm.ok] at h
    simp only [Sm.mir, Sm.ok]
    exact ⟨Ts.mir_ok h.1, by rw [Ts.mir_nots]; exact h.2.1, Sm.mirs_ok h.2.2.1, Sm.mirs_ok h.2.2.2⟩
  | .rep k b, h => by
    simp only [Sm.ok] at h
    simp only [Sm.mir, Sm.ok]
    exact ⟨h.1, Sm.mirs_ok h.2⟩
  | .set x e, h => by
    simp only [Sm.ok] at h
    simp only [Sm.mir, Sm.ok]
    exact ⟨⟨Ex.mir_ok h.1.1, by rw [Ex.mir_deep]; exact h.1.2⟩, h.2⟩
  | .half x e, h => by
    simp only [Sm.ok] at h
    simp only [Sm.mir, Sm.ok]
    exact ⟨⟨Ex.mir_ok h.1.1, by rw [Ex.mir_deep]; exact h.1.2⟩, h.2⟩
  | .tell e, h => by
    simp only [Sm.ok] at h
    simp only [Sm.mir, Sm.ok]
    exact ⟨Ex.mir_ok h.1, by rw [Ex.mir_deep]; exact h.2⟩
  | .say c, h => by simp only [Sm.mir]; exact h
  | .stop c, h => by simp only [Sm.mir]; exact h
theorem Sm.mirs_ok : ∀ {b : List Sm}, Sm.oks b → Sm.oks (Sm.mirs b)
  | [], _ => by simp only [Sm.mirs, Sm.oks]
  | s :: r, h => by
    simp only [Sm.oks] at h
    simp only [Sm.mirs, Sm.oks]
    exact ⟨Sm.mir_ok h.1, Sm.mirs_ok h.2⟩
end
mutual
theorem Sm.mir_eq : ∀ s : Sm, s.mir.pl = s.pl ∧ s.mir.wt = s.wt ∧ s.mir.hv = s.hv ∧ s.mir.cp = s.cp ∧ s.mir.nest = s.nest
  | .ite t y n => by
    have h1 := Sm.mirs_eq y
    have h2 := Sm.mirs_eq n
    simp only [Sm.mir, Sm.pl, Sm.wt, Sm.hv, Sm.cp, Sm.nest, Ts.mir_odd, h1, h2]
    exact ⟨trivial, trivial, trivial, trivial, trivial⟩
  | .rep k b => by
    have h1 := Sm.mirs_eq b
    simp only [Sm.mir, Sm.pl, Sm.wt, Sm.hv, Sm.cp, Sm.nest, h1]
    exact ⟨trivial, trivial, trivial, trivial, trivial⟩
  | .set x e => by simp only [Sm.mir, Sm.pl, Sm.wt, Sm.hv, Sm.cp, Sm.nest]; exact ⟨trivial, trivial, trivial, trivial, trivial⟩
  | .half x e => by simp only [Sm.mir, Sm.pl, Sm.wt, Sm.hv, Sm.cp, Sm.nest]; exact ⟨trivial, trivial, trivial, trivial, trivial⟩
  | .tell e => by simp only [Sm.mir, Sm.pl, Sm.wt, Sm.hv, Sm.cp, Sm.nest]; exact ⟨trivial, trivial, trivial, trivial, trivial⟩
  | .say c => by simp only [Sm.mir]; exact ⟨trivial, trivial, trivial, trivial, trivial⟩
  | .stop c => by simp only [Sm.mir]; exact ⟨trivial, trivial, trivial, trivial, trivial⟩
theorem Sm.mirs_eq : ∀ b : List Sm, Sm.pls (Sm.mirs b) = Sm.pls b ∧ Sm.wts (Sm.mirs b) = Sm.wts b ∧ Sm.hvs (Sm.mirs b) = Sm.hvs b ∧ Sm.cps (Sm.mirs b) = Sm.cps b ∧ Sm.nests (Sm.mirs b) = Sm.nests b
  | [] => by simp only [Sm.mirs]; exact ⟨trivial, trivial, trivial, trivial, trivial⟩
  | s :: r => by
    have h1 := Sm.mir_eq s
    have h2 := Sm.mirs_eq r
    simp only [Sm.mirs, Sm.pls, Sm.wts, Sm.hvs, Sm.cps, Sm.nests, h1, h2]
    exact ⟨trivial, trivial, trivial, trivial, trivial⟩
end
theorem PrOk.mir {b : List Sm} (h : PrOk b) : PrOk (Sm.mirs b) := by
  obtain ⟨h1, h2, h3, h4, h5⟩ := Sm.mirs_eq b
  exact ⟨Sm.mirs_ok h.ok, by rw [h5]; exact h.nest, by rw [h1]; exact h.pl, by rw [h2]; exact h.wt, by rw [h3]; exact h.hv, by rw [h4]; exact h.cp⟩
/-! runs of the mirror image -/
theorem Ex.mir_ev {env env' : Str → Int} (h : ∀ x, env' x = - env x) : ∀ e : Ex, e.mir.ev env' = - e.ev env
  | .num i => by show 0 - i = - i; omega
  | .var x => h x
  | .plus a b => by
    show a.mir.ev env' + b.mir.ev env' = -(a.ev env + b.ev env)
    rw [Ex.mir_ev h a, Ex.mir_ev h b]
    omega
  | .minus a b => by
    show a.mir.ev env' - b.mir.ev env' = -(a.ev env - b.ev env)
    rw [Ex.mir_ev h a, Ex.mir_ev h b]
    omega
  | .times k a => by
    show k * a.mir.ev env' = -(k * a.ev env)
    rw [Ex.mir_ev h a, Int.mul_neg]
theorem Ts.mir_ev {env env' : Str → Int} (h : ∀ x, env' x = - env x) : ∀ t : Ts, t.mir.ev env' = t.ev env
  | .less a b => by
    show decide (b.mir.ev env' < a.mir.ev env') = decide (a.ev env < b.ev env)
    rw [Ex.mir_ev h a, Ex.mir_ev h b]
    exact decide_eq_decide.mpr (by omega)
  | .odd a => by
    show decide (a.mir.ev env' % 2 = 1) = decide (a.ev env % 2 = 1)
    rw [Ex.mir_ev h a]
    exact decide_eq_decide.mpr (by omega)
  | .not t => by
    show (!t.mir.ev env') = !t.ev env
    rw [Ts.mir_ev h t]
def negK : Key → Key
  | .inl i => .inl (0 - i)
  | .inr c => .inr c
structure MS (s s' : Cs) : Prop where
  env : ∀ x, s'.env x = - s.env x
  said : s'.said = s.said.map negK
  turns : s'.turns = s.turns.map (1 - ·)
def MR (r r' : Option Str × Cs) : Prop := r'.1 = r.1 ∧ MS r.2 r'.2
theorem MR.iter {f f' : Cs → Option Str × Cs} (h : ∀ s s', MS s s' → MR (f s) (f' s')) : ∀ (k : Nat) (s s' : Cs), MS s s' → MR (iterN k f s) (iterN k f' s')
  | 0, s, s', m => ⟨rfl, m⟩
  | k + 1, s, s', m => by
    obtain ⟨h1, h2⟩ := h s s' m
    rw [iterN, iterN]
    cases e : f s with
    | mk c t =>
      cases e' : f' s' with
      | mk c' t' =>
        rw [e, e'] at h1 h2
        cases (show c' = c from h1)
        cases c with
        | none => exact MR.iter h k t t' h2
        | some c => exact ⟨rfl, h2⟩
section
variable {d1 d2 : Nat → Int → Int → Int}
theorem halv_mir (hd : ∀ k v p, d2 k (-v) p = 1 - d1 k v p) {s s' : Cs} (m : MS s s') (v p : Int) : (halv d2 noWay s' (-v) p).1 = - (halv d1 noWay s v p).1 ∧ MS (halv d1 noWay s v p).2 (halv d2 noWay s' (-v) p).2 := by
  by_cases h : v % 2 = 0
  · have h' : (-v) % 2 = 0 := by omega
    unfold halv
    rw [if_pos h, if_pos h']
    refine ⟨?_, m⟩
    show (-v) / 2 = -(v / 2)
    omega
  · have h' : ¬ (-v) % 2 = 0 := by omega
    have l : s'.turns.length = s.turns.length := by rw [m.turns, List.length_map]
    unfold halv
    rw [if_neg h, if_neg h']
    show (-v) / 2 + d2 s'.turns.length (-v) p = -(v / 2 + d1 s.turns.length v p) ∧ MS { s with turns := s.turns ++ [d1 s.turns.length v p] } { s' with turns := s'.turns ++ [d2 s'.turns.length (-v) p] }
    rw [hd, l]
    refine ⟨by omega, ⟨m.env, m.said, ?_⟩⟩
    show s'.turns ++ _ = (s.turns ++ _).map _
    rw [m.turns, List.map_append]
    rfl
theorem setE_mir {env env' : Str → Int} (h : ∀ x, env' x = - env x) (x : Str) {v v' : Int} (hv : v' = -v) : ∀ y, setE env' x v' y = - setE env x v y := by
  intro y
  unfold setE
  split
  · exact hv
  · exact h y
mutual
theorem Sm.run_mir (hd : ∀ k v p, d2 k (-v) p = 1 - d1 k v p) : ∀ (t : Sm) (p : Int) (s s' : Cs), MS s s' → MR (t.run d1 noWay p s) (t.mir.run d2 noWay p s')
  | .ite t y n, p, s, s', m => by
    simp only [Sm.mir, Sm.run, Ts.mir_ev m.env]
    rw [(Sm.mirs_eq y).1]
    split
    · exact Sm.runs_mir hd y _ s s' m
    · exact Sm.runs_mir hd n _ s s' m
  | .rep k b, p, s, s', m => by
    simp only [Sm.mir, Sm.run]
    exact MR.iter (fun s s' m => Sm.runs_mir hd b _ s s' m) k s s' m
  | .set x e, p, s, s', m => by
    simp only [Sm.mir, Sm.run]
    exact ⟨rfl, setE_mir m.env x (Ex.mir_ev m.env e), m.said, m.turns⟩
  | .half x e, p, s, s', m => by
    simp only [Sm.mir, Sm.run, Ex.mir_ev m.env]
    obtain ⟨h1, h2⟩ := halv_mir hd m (e.ev s.env) p
    exact ⟨rfl, setE_mir m.env x h1, h2.said, h2.turns⟩
  | .tell e, p, s, s', m => by
    simp only [Sm.mir, Sm.run]
    refine ⟨rfl, m.env, ?_, m.turns⟩
    show s'.said ++ _ = (s.said ++ _).map negK
    rw [m.said, List.map_append, Ex.mir_ev m.env]
    show _ ++ [Sum.inl (-e.ev s.env)] = _ ++ [Sum.inl (0 - e.ev s.env)]
    rw [Int.zero_sub]
  | .say c, p, s, s', m => by
    simp only [Sm.mir, Sm.run]
    refine ⟨rfl, m.env, ?_, m.turns⟩
    show s'.said ++ _ = (s.said ++ _).map negK
    rw [m.said, List.map_append]
    rfl
  | .stop c, p, s, s', m => by
    simp only [Sm.mir, Sm.run]
    exact ⟨rfl, m⟩
theorem Sm.runs_mir (hd : ∀ k v p, d2 k (-v) p = 1 - d1 k v p) : ∀ (b : List Sm) (p : Int) (s s' : Cs), MS s s' → MR (Sm.runs d1 noWay b p s) (Sm.runs d2 noWay (Sm.mirs b) p s')
  | [], p, s, s', m => by
    simp only [Sm.mirs, Sm.runs]
    exact ⟨rfl, m⟩
  | t :: r, p, s, s', m => by
    obtain ⟨h1, h2⟩ := Sm.run_mir hd t p s s' m
    simp only [Sm.mirs, Sm.runs, (Sm.mir_eq t).1]
    cases e : Sm.run d1 noWay t p s with
    | mk c u =>
      cases e' : Sm.run d2 noWay t.mir p s' with
      | mk c' u' =>
        rw [e, e'] at h1 h2
        cases (show c' = c from h1)
        cases c with
        | none => exact Sm.runs_mir hd r _ u u' h2
        | some c => exact ⟨rfl, h2⟩
end
end
theorem mir_cs0 (n : Int) : MS (cs0 n) (cs0 (0 - n)) := by
  refine ⟨fun x => ?_, rfl, rfl⟩
  show env0 (0 - n) x = - env0 n x
  unfold env0
  split <;> omega
theorem runs_mirror {chs : List Int} {b : List Sm} (pr : PrOk b) (hl : 5 ≤ chs.length) (n : Int) : MR (Sm.runs (decC chs) noWay b 0 (cs0 n)) (Sm.runs (decC (chs.map (1 - ·))) noWay (Sm.mirs b) 0 (cs0 (0 - n))) := by
  have h := Sm.runs_mir (d1 := decC chs) (d2 := fun k v p => 1 - decC chs k (-v) p) (fun k v p => by rw [Int.neg_neg]) b 0 _ _ (mir_cs0 n)
  have pm := pr.mir
  rcases Sm.rels (d1 := decC (chs.map (1 - ·))) (d2 := fun k v p => 1 - decC chs k (-v) p) (ways := noWay) (j := 5) (fun k v p hk => by
    show (chs.map (1 - ·)).getD k 0 = 1 - chs.getD k 0
    rw [List.getD_eq_getElem?_getD, List.getD_eq_getElem?_getD, List.getElem?_map, List.getElem?_eq_getElem (show k < chs.length by omega)]
    rfl) (Sm.mirs b) pm.ok 0 (cs0 (0 - n)) with e | ⟨h1, _⟩
  · rw [e]
    exact h
  · have := turns_le (dec := decC (chs.map (1 - ·))) (ways := noWay) (Sm.mirs b) pm.ok 0 (cs0 (0 - n))
    have hh := pm.hv
    have e : (cs0 (0 - n)).turns.length = 0 := rfl
    omega
/-! the promises -/
def spMir (n : Nat) : Sp := fun vs H Q _ => ∃ (v : V) (d : PyData), vs = [v] ∧ Tr H d v ∧ Gd d ∧ d.depth ≤ n ∧ n ≤ 60 ∧ ∀ (v' : V) (H' : Hp), Tr H' (mirD d) v' → Kp [] H H' → Q v' H'
theorem mir_res {r r' : Option Str × Cs} (h : MR r r') : resD r' = .tuple [.tuple ((r.2.said.map negK).map kD), wD r.1, .tuple ((r.2.turns.map (1 - ·)).map PyData.int)] := by
  unfold resD
  rw [h.2.said, h.2.turns, h.1]
theorem cut_1 (x : V) (xs : List V) : cutV (x :: xs) (some 1) none = xs := by
  have h1 : HT.sIx (x :: xs).length 0 (some ((1 : Nat) : Int)) = 1 := by rw [HT.sIx_nat]; simp
  unfold cutV
  rw [show (some (1 : Int)) = some ((1 : Nat) : Int) from rfl, h1, HT.sIx_none]
  simp
theorem cut_first (x : V) (xs : List V) : cutV (x :: xs) none (some 1) = [x] := by
  rw [show (some (1 : Int)) = some ((1 : Nat) : Int) from rfl, cut_to]
  rfl
theorem TrAll.reverse {H : Hp} : ∀ {ds : List PyData} {vs : List V}, TrAll H ds vs → TrAll H ds.reverse vs.reverse
  | [], vs, h => by simp only [TrAll] at h; subst h; exact trs_nil
  | d :: ds, vs, h => by
    simp only [TrAll] at h
    obtain ⟨v, r, rfl, h1, h2⟩ := h
    rw [List.reverse_cons, List.reverse_cons]
    exact (TrAll.reverse h2).append (trs_cons h1 trs_nil)
theorem keys_of {H : Hp} : ∀ {ks : List Key} {vs : List V}, TrAll H (ks.map kD) vs → vs = ks.map kV
  | [], vs, h => by simp only [List.map_nil, TrAll] at h; subst h; rfl
  | t :: r, vs, h => by
    simp only [List.map_cons, TrAll] at h
    obtain ⟨v, ws, rfl, h1, h2⟩ := h
    rw [keys_of h2]
    cases t with
    | inl i => cases tr_int h1; rfl
    | inr x => cases tr_str h1; rfl
end EH
namespace EH
open PySem PySem.Spec PyProof.Rows L2
/-! ### sorted of a tuple of data, x in a list of data, repr of a list -/
section
variable {X : Cx}
def rNotInT : R2 := fun x y H Q => ∃ a vs d ds, y = .ref a ∧ H a = some (.lst vs) ∧ TrAll H ds vs ∧ Tr H d x ∧ SeqAt.shaped d = true ∧ SeqAt.shaped (.list ds) = true ∧ Q (.bl (!ds.any fun z => PyData.eqv z d)) H
theorem op_notInT (hu : X.A.units + 65 < cLine) : OpR X (compareOp .NotIn) rNotInT := OpR.imp (op_notInD hu) fun x y H Q ⟨a, vs, d, ds, e, h, t, td, s1, s2, q⟩ => by
  subst e
  exact ⟨d, ds, Tr.dp d x td, .lst (SqL.of h) (TrAll.dp ds vs t), s1, s2, q⟩
def rReprLs : List V → Hp → VK → Prop := fun xs H Q => ∃ a vs ds, xs = [.ref a] ∧ H a = some (.lst vs) ∧ TrAll H ds vs ∧ Shw (.list ds) ∧ ∀ z, z = (PyData.list ds).shown → Q (.str z) H
theorem call_reprLs (fr : Free X.A) (hu : X.A.units + 64 < cLine) : CallR X (.builtin "repr") rReprLs := CallR.imp (call_reprD fr hu) fun xs H Q ⟨a, vs, ds, e, h, t, s, q⟩ => ⟨.ref a, .list ds, e, .lst (SqL.of h) (TrAll.dp ds vs t), s.sh, s.sz, s.dp, q _ rfl⟩
def rSortD : List V → Hp → VK → Prop := fun xs H Q => ∃ a vs ds, xs = [.ref a] ∧ H a = some (.tup vs) ∧ TrAll H ds vs ∧ PySem.W.AllAlike ds ∧ PySem.W.Sortable ds ∧ (∀ d ∈ ds, d.depth ≤ 60) ∧
  ∀ p ws H', H' p = some (.lst ws) → TrAll H' (ds.mergeSort (PySem.W.dataLe false id)) ws → Kp [] H H' → Q (.ref p) H'
theorem each_tr {H : Hp} : ∀ {ds : List PyData} {vs : List V} {us : List Value}, TrAll H ds vs → Vals vs us → PySem.W.EachIs (fun u d => ∃ v, RelV v u ∧ Tr H d v) us ds
  | [], vs, us, t, r => by
    simp only [TrAll] at t
    subst t
    cases r
    exact .nil
  | d :: ds, vs, us, t, r => by
    simp only [TrAll] at t
    obtain ⟨v, ws, rfl, h1, h2⟩ := t
    cases r with
    | cons r1 r2 => exact .cons ⟨v, r1, h1⟩ (each_tr h2 r2)
theorem tr_each {H : Hp} : ∀ {ds : List PyData} {us : List Value}, PySem.W.EachIs (fun u d => ∃ v, RelV v u ∧ Tr H d v) us ds → ∃ vs, Vals vs us ∧ TrAll H ds vs
  | [], us, e => by
    cases e
    exact ⟨[], .nil, trs_nil⟩
  | d :: ds, us, e => by
    cases e with
    | cons h t =>
      obtain ⟨v, r, t1⟩ := h
      obtain ⟨vs, r2, t2⟩ := tr_each t
      exact ⟨v :: vs, .cons r r2, trs_cons t1 t2⟩
theorem cr_sortedD (hu : X.A.units + 64 < cLine) : CallR X (.builtin "sorted") rSortD := by
  intro pins s σ H xs us Q I r h
  obtain ⟨a, vs, ds, rfl, ha, t, al, so, hd, q⟩ := h
  rw [Vals.ref1 r]
  obtain ⟨its, rv, ⟨o, ho, hc, n, hdat⟩, hz⟩ := I.tuple (SqT.of ha)
  have hL : its.length ≤ sizeLine := by rw [← rv.length]; exact hz
  refine Calls.call_function_entry PyProof.Rows.kind_sorted PyProof.Rows.plain_sorted PyProof.Rows.entry_sorted (PyProof.Rows.args_sorted1 _) ?_
  unfold Builtin.«sorted»
  refine wpAny_bind (m := checkCount "sorted" 1 1 _) (wpAny_pure ?_)
  refine wpAny_bind (wpAny_collect_seq a (.inr rfl) ho hc hdat (fun h1 kp1 => ?_) (by rw [List.size_toArray]; exact hL))
  show wpAny _ _ _ _ _ _
  refine wpAny_bind (wpAny_newList ?_ (by simpa using hL))
  have hoL : (h1.push (seqObj "list" its.toArray 0)).get? h1.objs.size = some (seqObj "list" its.toArray 0) := Heap.get?_push_size _ rfl
  have old : ∀ b o, s.heap.get? b = some o → b ≠ h1.objs.size ∧ (h1.push (seqObj "list" its.toArray 0)).get? b = some o := fun b o e =>
    ⟨Nat.ne_of_lt (Heap.lt_size (kp1 b o e)), Heap.get?_push_of_some _ (kp1 b o e)⟩
  have er : PySem.W.EachIs (fun v (d : PyData) => ∃ as, Reads (PySem.W.sortingHeap (h1.push (seqObj "list" its.toArray 0)) h1.objs.size its) v (id d) as) its ds := (each_tr t rv).mono fun u d ⟨v, r, td⟩ => by
    obtain ⟨as, rd⟩ := Dp.reads I d v u (Tr.dp d v td) r
    exact ⟨as, PyProof.Rows.Reads.keeps (fun b o e => PySem.W.sortingHeap_old (old b o e).1 (old b o e).2) rd⟩
  have al' : PySem.W.AllAlike (ds.map id) := by rw [List.map_id]; exact al
  have so' : PySem.W.Sortable (ds.map id) := by rw [List.map_id]; exact so
  have no1 : s.heap.get? h1.objs.size = none := by
    cases e : s.heap.get? h1.objs.size with
    | none => rfl
    | some o => exact absurd rfl (old _ o e).1
  have no2 : H h1.objs.size = none := I.hok.gone no1
  refine wpAny_bind (wpAny_holding (wpAny_call_entry slot_list_sort ⟨_, hoL, rfl⟩ entry_list_sort (PySem.W.list_sort_vals (κ := PySem.W.dataKind (PySem.W.sortingHeap (h1.push (seqObj "list" its.toArray 0)) h1.objs.size its) (ds.map id)) hoL
    (PySem.W.SortsAt.data (s := { s with heap := PySem.W.sortingHeap (h1.push (seqObj "list" its.toArray 0)) h1.objs.size its }) (PySem.W.each_map (R := fun v d => ∃ as, Reads (PySem.W.sortingHeap (h1.push (seqObj "list" its.toArray 0)) h1.objs.size its) v d as) id er) al' so' ?_) hL ⟨_, rfl, ?_⟩) (args_list_sort _)))
  · intro d hd2
    rw [List.map_id] at hd2
    have := hd d hd2
    show X.A.units + 1 + 1 + d.depth < cLine
    omega
  refine wpAny_pure ⟨_, rfl, ?_⟩
  have ev := PySem.W.sortVals_data (h' := PySem.W.sortingHeap (h1.push (seqObj "list" its.toArray 0)) h1.objs.size its) (R := fun u (d : PyData) => ∃ v, RelV v u ∧ Tr H d v) (enc := id) false (each_tr t rv) er al'
  obtain ⟨ws, rw1, tw⟩ := tr_each ev
  obtain ⟨ep, he⟩ := sortedHeap_at (h := h1.push (seqObj "list" its.toArray 0)) (out := (PySem.W.sortVals (PySem.W.dataKind (PySem.W.sortingHeap (h1.push (seqObj "list" its.toArray 0)) h1.objs.size its) (ds.map id)) false its its).toArray) hoL
  have hlen : ws.length ≤ sizeLine := by
    rw [rw1.length, PySem.W.sortVals_length false rfl]
    exact hL
  have kk : Kp [] H (upd H h1.objs.size (.lst ws)) := Kp.new no2
  refine ⟨.ref _, upd H h1.objs.size (.lst ws), I.laidN (t' := s.toks) (fun b o e => ?_) no1 no2 ⟨hlen, _, ep, rw1, he⟩, rfl, q _ ws _ upd_same (kk.trAll tw) kk⟩
  rw [sortedHeap_old (old b o e).1 (Heap.lt_size (old b o e).2)]
  exact (old b o e).2
end
end EH
namespace EH
open PySem L2
/-! ### what the law itself asks of right statements -/
def spLLetters : Sp := fun vs H Q _ => ∃ z : Str, vs = [.str z, .int 8] ∧ wordB (.str z) = true ∧ ∀ H', Kp [] H H' → Q (.bl true) H'
def spLName : Sp := fun vs H Q _ => (∃ z : Str, vs = [.str z] ∧ nameB (.str z) = true ∧ ∀ H', Kp [] H H' → Q (.bl true) H') ∨ (∃ i : Int, vs = [.int i] ∧ Q (.bl false) H)
def spLNone : Sp := fun vs H Q _ => ∃ i : Int, vs = [.int i, .int 8] ∧ Q (.bl false) H
def spLIs (f : Nat → PyData → Bool) (n : Nat) : Sp := fun vs H Q _ => ∃ (v : V) (d : PyData) (m : Int), vs = [v, .int m] ∧ m = (n : Int) ∧ Tr H d v ∧ f n d = true ∧ ∀ H', Kp [] H H' → Q (.bl true) H'
def spLStmt : Sp := fun vs H Q _ => ∃ (v : V) (d : PyData), vs = [v] ∧ Tr H d v ∧ stmtB d = true ∧ ∀ H', Kp [] H H' → Q (.bl true) H'
def DIGS : Str := "0123456789"
theorem let_dig : ∀ c ∈ LETS.cps.toList, decide (c ∈ DIGS.cps.toList) = false := by decide +kernel
theorem let_sgn : ∀ c ∈ LETS.cps.toList, decide (c ∈ SGNS.cps.toList) = true := by decide +kernel
theorem word_of {z : Str} (h : nameB (.str z) = true) : wordB (.str z) = true := by
  simp only [nameB, wordB, Bool.and_eq_true] at h ⊢
  exact ⟨h.1.1.1, h.1.2⟩
theorem test_cases {n : Nat} {d : PyData} (h : testB n d = true) : (∃ b c, d = .tuple [.str "less", b, c] ∧ exprB 3 b = true ∧ exprB 3 c = true) ∨ (∃ b, d = .tuple [.str "odd", b] ∧ exprB 3 b = true) ∨ ∃ m b, n = m + 1 ∧ d = .tuple [.str "not", b] ∧ testB m b = true := by
  unfold testB at h
  split at h
  · rename_i k b c
    simp only [Bool.and_eq_true, decide_eq_true_eq] at h
    obtain ⟨⟨rfl, h1⟩, h2⟩ := h
    exact .inl ⟨b, c, rfl, h1, h2⟩
  · rename_i k b
    simp only [Bool.and_eq_true, decide_eq_true_eq] at h
    obtain ⟨rfl, h1⟩ := h
    exact .inr (.inl ⟨b, rfl, h1⟩)
  · rename_i m k b
    by_cases e : k = "odd"
    · subst e
      rw [if_pos rfl] at h
      exact .inr (.inl ⟨b, rfl, h⟩)
    · rw [if_neg e] at h
      simp only [Bool.and_eq_true, decide_eq_true_eq] at h
      obtain ⟨rfl, h1⟩ := h
      exact .inr (.inr ⟨m, b, rfl, rfl, h1⟩)
  · cases h
theorem plain_cases {d : PyData} (h : plainB d = true) : (∃ (k z : Str) (c : PyData), (k = "set" ∨ k = "half") ∧ d = .tuple [.str k, .str z, c] ∧ nameB (.str z) = true ∧ exprB 3 c = true) ∨ (∃ b, d = .tuple [.str "tell", b] ∧ exprB 3 b = true) ∨ (∃ (k z : Str), (k = "say" ∨ k = "stop") ∧ d = .tuple [.str k, .str z] ∧ wordB (.str z) = true) := by
  unfold plainB at h
  split at h
  · rename_i k b c
    simp only [Bool.and_eq_true] at h
    obtain ⟨⟨h1, h2⟩, h3⟩ := h
    obtain ⟨z, rfl, _⟩ := name_str h2
    exact .inl ⟨k, z, c, in2 h1, rfl, h2, h3⟩
  · rename_i k b
    by_cases e : k = "tell"
    · subst e
      rw [if_pos rfl] at h
      exact .inr (.inl ⟨b, rfl, h⟩)
    · rw [if_neg e] at h
      simp only [Bool.and_eq_true] at h
      obtain ⟨z, rfl, _⟩ := word_str h.2
      exact .inr (.inr ⟨k, z, in2 h.1, rfl, h.2⟩)
  · cases h
/-- all statements are right -/
def AllOk (b : List Sm) : Prop := ∀ q ∈ Sm.prss 0 b, stmtB q.2.d = true
/-! what the counts are -/
def cntL (b : List Sm) : List V := [.int (Sm.pls b), .int (Sm.wts b), .int (Sm.hvs b), .int (Sm.cps b)]
def spLCounts (n : Nat) : Sp := fun vs H Q _ => ∃ (v : V) (b : List Sm), vs = [v] ∧ Tr H (.tuple (Sm.ds b)) v ∧ Sm.oks b ∧ Sm.nests b ≤ n ∧ Sm.pls b ≤ 1000000 ∧ ∀ (l : Addr) (H' : Hp), H' l = some (.lst (cntL b)) → Kp [] H H' → Q (.ref l) H'
theorem four_eq {a b c d a' b' c' d' : Int} (h1 : a = a') (h2 : b = b') (h3 : c = c') (h4 : d = d') : [V.int a, V.int b, V.int c, V.int d] = [V.int a', V.int b', V.int c', V.int d'] := by rw [h1, h2, h3, h4]
/-- a statement's own share -/
def oh : Sm → Nat
  | .half _ _ => 1
  | .ite t _ _ => if t.isOdd then 1 else 0
  | _ => 0
def oc : Sm → Nat
  | .ite t _ _ => if t.isOdd then 0 else 1
  | _ => 0
def smI (f : List Sm → Nat) (bs : List (List Sm)) : Int := (((bs.map f).sum : Nat) : Int)
theorem smI_nil (f : List Sm → Nat) : smI f [] = 0 := rfl
theorem smI_app (f : List Sm → Nat) (bs : List (List Sm)) (b : List Sm) : smI f (bs ++ [b]) = smI f bs + (f b : Int) := by
  unfold smI
  rw [List.map_append, List.sum_append]
  show (((bs.map f).sum + (f b + 0) : Nat) : Int) = _
  omega
def ownL (s : Sm) (bs : List (List Sm)) : List V := [.int (1 + smI Sm.pls bs), .int (1 + s.tms * smI Sm.wts bs), .int (oh s + s.tms * smI Sm.hvs bs), .int (oc s + s.tms * smI Sm.cps bs)]
theorem ownL_all : ∀ s : Sm, ownL s s.blks = [.int (s.pl : Int), .int (s.wt : Int), .int (s.hv : Int), .int (s.cp : Int)]
  | .set _ _ => by simp [ownL, Sm.blks, smI, Sm.tms, Sm.pl, Sm.wt, Sm.hv, Sm.cp, oh, oc]
  | .half _ _ => by simp [ownL, Sm.blks, smI, Sm.tms, Sm.pl, Sm.wt, Sm.hv, Sm.cp, oh, oc]
  | .tell _ => by simp [ownL, Sm.blks, smI, Sm.tms, Sm.pl, Sm.wt, Sm.hv, Sm.cp, oh, oc]
  | .say _ => by simp [ownL, Sm.blks, smI, Sm.tms, Sm.pl, Sm.wt, Sm.hv, Sm.cp, oh, oc]
  | .stop _ => by simp [ownL, Sm.blks, smI, Sm.tms, Sm.pl, Sm.wt, Sm.hv, Sm.cp, oh, oc]
  | .ite t y n => by
    simp only [ownL, Sm.blks, smI, Sm.tms, Sm.pl, Sm.wt, Sm.hv, Sm.cp, oh, oc, List.map_cons, List.map_nil, List.sum_cons, List.sum_nil]
    exact four_eq (by omega) (by omega) (by omega) (by omega)
  | .rep k b => by
    simp only [ownL, Sm.blks, smI, Sm.tms, Sm.pl, Sm.wt, Sm.hv, Sm.cp, oh, oc, List.map_cons, List.map_nil, List.sum_cons, List.sum_nil]
    exact four_eq (by simp) (by simp) (by simp) (by simp)
def addL (a : List Sm) (s : Sm) : List V := [.int (Sm.pls a + s.pl), .int (Sm.wts a + s.wt), .int (Sm.hvs a + s.hv), .int (Sm.cps a + s.cp)]
theorem addL_eq (a : List Sm) (s : Sm) : addL a s = cntL (a ++ [s]) := by
  unfold addL cntL
  rw [Sm.pls_app, Sm.wts_app, Sm.hvs_app, Sm.cps_app]
  simp only [Sm.pls, Sm.wts, Sm.hvs, Sm.cps]
  exact four_eq (by omega) (by omega) (by omega) (by omega)
theorem ownL_nil (s : Sm) : ownL s [] = [.int 1, .int 1, .int (oh s), .int (oc s)] := by
  unfold ownL
  simp only [smI_nil]
  exact four_eq (by omega) (by simp) (by simp) (by simp)
theorem base_not (t : Ts) : (Ts.not t).base = t.base := rfl
theorem base_cases (t : Ts) : (∃ a b, t = .less a b ∧ t.isOdd = false) ∨ (∃ a, t = .odd a ∧ t.isOdd = true) ∨ ∃ u, t = .not u := by
  cases t with
  | less a b => exact .inl ⟨a, b, rfl, rfl⟩
  | odd a => exact .inr (.inl ⟨a, rfl, rfl⟩)
  | not u => exact .inr (.inr ⟨u, rfl⟩)
theorem isOdd_not (t : Ts) : (Ts.not t).isOdd = t.isOdd := rfl
theorem fn_imp {P : Program} {w : World} {K : PySem.W.Frag} {mg : Str → Option Value} {base : Heap} {k : Nat} {f : Addr} {fd : FuncData} {ps : List Str} {sp sp' : Sp} (i : ∀ vs H Q E, sp' vs H Q E → sp vs H Q E) (F : FnOk P w K mg base CX0 k f fd ps sp) : FnOk P w K mg base CX0 k f fd ps sp' :=
  ⟨fun vs H Q E h => F.1 vs H Q E (i _ _ _ _ h), fun A outer s H args us vs Q E hr e0 hb r h => F.2 A outer s H args us vs Q E hr e0 hb r (i _ _ _ _ h)⟩
end EH
namespace EH
open PySem L2
theorem tup_inj2 {a b c d : PyData} (h : PyData.tuple [a, b] = .tuple [c, d]) : a = c ∧ b = d := by
  have h := PyData.tuple.inj h
  exact ⟨(List.cons.inj h).1, (List.cons.inj (List.cons.inj h).2).1⟩
theorem tup_inj3 {a b c d e f : PyData} (h : PyData.tuple [a, b, c] = .tuple [d, e, f]) : a = d ∧ b = e ∧ c = f := by
  have h := PyData.tuple.inj h
  have h2 := List.cons.inj h
  have h3 := List.cons.inj h2.2
  exact ⟨h2.1, h3.1, (List.cons.inj h3.2).1⟩
theorem tup_inj4 {a b c d e f g i : PyData} (h : PyData.tuple [a, b, c, d] = .tuple [e, f, g, i]) : a = e ∧ b = f ∧ c = g ∧ d = i := by
  have h := PyData.tuple.inj h
  have h2 := List.cons.inj h
  have h3 := List.cons.inj h2.2
  have h4 := List.cons.inj h3.2
  exact ⟨h2.1, h3.1, h4.1, (List.cons.inj h4.2).1⟩
theorem kw_ne {a b : Str} {r s : List PyData} (n : a ≠ b) (h : PyData.tuple (.str a :: r) = .tuple (.str b :: s)) : False := n (PyData.str.inj (List.cons.inj (PyData.tuple.inj h)).1)
theorem Ex.d_inj : ∀ a b : Ex, a.d = b.d → a = b := by
  intro a
  induction a with
  | num i => intro b h; cases b <;> simp only [Ex.d] at h <;> first | (cases h; done) | (cases h; rfl)
  | var i => intro b h; cases b <;> simp only [Ex.d] at h <;> first | (cases h; done) | (cases h; rfl)
  | plus x y ix iy =>
    intro b h
    cases b with
    | num i => simp only [Ex.d] at h; cases h
    | var i => simp only [Ex.d] at h; cases h
    | plus x' y' =>
      simp only [Ex.d] at h
      obtain ⟨_, h1, h2⟩ := tup_inj3 h
      rw [ix _ h1, iy _ h2]
    | minus x' y' => simp only [Ex.d] at h; exact (kw_ne (by decide +kernel) h).elim
    | times x' y' => simp only [Ex.d] at h; exact (kw_ne (by decide +kernel) h).elim
  | minus x y ix iy =>
    intro b h
    cases b with
    | num i => simp only [Ex.d] at h; cases h
    | var i => simp only [Ex.d] at h; cases h
    | minus x' y' =>
      simp only [Ex.d] at h
      obtain ⟨_, h1, h2⟩ := tup_inj3 h
      rw [ix _ h1, iy _ h2]
    | plus x' y' => simp only [Ex.d] at h; exact (kw_ne (by decide +kernel) h).elim
    | times x' y' => simp only [Ex.d] at h; exact (kw_ne (by decide +kernel) h).elim
  | times x y iy =>
    intro b h
    cases b with
    | num i => simp only [Ex.d] at h; cases h
    | var i => simp only [Ex.d] at h; cases h
    | times x' y' =>
      simp only [Ex.d] at h
      obtain ⟨_, h1, h2⟩ := tup_inj3 h
      rw [PyData.int.inj h1, iy _ h2]
    | plus x' y' => simp only [Ex.d] at h; exact (kw_ne (by decide +kernel) h).elim
    | minus x' y' => simp only [Ex.d] at h; exact (kw_ne (by decide +kernel) h).elim
theorem Ts.d_inj : ∀ a b : Ts, a.d = b.d → a = b := by
  intro a
  induction a with
  | less x y =>
    intro b h
    cases b with
    | less x' y' =>
      simp only [Ts.d] at h
      obtain ⟨_, h1, h2⟩ := tup_inj3 h
      rw [Ex.d_inj _ _ h1, Ex.d_inj _ _ h2]
    | odd x' => simp only [Ts.d] at h; exact (kw_ne (by decide +kernel) h).elim
    | not x' => simp only [Ts.d] at h; exact (kw_ne (by decide +kernel) h).elim
  | odd x =>
    intro b h
    cases b with
    | odd x' =>
      simp only [Ts.d] at h
      obtain ⟨_, h1⟩ := tup_inj2 h
      rw [Ex.d_inj _ _ h1]
    | less x' y' => simp only [Ts.d] at h; exact (kw_ne (by decide +kernel) h).elim
    | not x' => simp only [Ts.d] at h; exact (kw_ne (by decide +kernel) h).elim
  | not x ih =>
    intro b h
    cases b with
    | not x' =>
      simp only [Ts.d] at h
      obtain ⟨_, h1⟩ := tup_inj2 h
      rw [ih _ h1]
    | less x' y' => simp only [Ts.d] at h; exact (kw_ne (by decide +kernel) h).elim
    | odd x' => simp only [Ts.d] at h; exact (kw_ne (by decide +kernel) h).elim
mutual
theorem Sm.d_inj : ∀ a b : Sm, a.d = b.d → a = b
  | .set x e, b, h => by
    cases b <;> simp only [Sm.d] at h <;> first | exact (kw_ne (by decide +kernel) h).elim | (obtain ⟨_, h1, h2⟩ := tup_inj3 h; rw [PyData.str.inj h1, Ex.d_inj _ _ h2])
  | .half x e, b, h => by
    cases b <;> simp only [Sm.d] at h <;> first | exact (kw_ne (by decide +kernel) h).elim | (obtain ⟨_, h1, h2⟩ := tup_inj3 h; rw [PyData.str.inj h1, Ex.d_inj _ _ h2])
  | .tell e, b, h => by
    cases b <;> simp only [Sm.d] at h <;> first | exact (kw_ne (by decide +kernel) h).elim | (obtain ⟨_, h1⟩ := tup_inj2 h; rw [Ex.d_inj _ _ h1])
  | .say e, b, h => by
    cases b <;> simp only [Sm.d] at h <;> first | exact (kw_ne (by decide +kernel) h).elim | (obtain ⟨_, h1⟩ := tup_inj2 h; rw [PyData.str.inj h1])
  | .stop e, b, h => by
    cases b <;> simp only [Sm.d] at h <;> first | exact (kw_ne (by decide +kernel) h).elim | (obtain ⟨_, h1⟩ := tup_inj2 h; rw [PyData.str.inj h1])
  | .ite t y n, b, h => by
    cases b with
    | ite t' y' n' =>
      simp only [Sm.d] at h
      obtain ⟨_, h1, h2, h3⟩ := tup_inj4 h
      rw [Ts.d_inj _ _ h1, Sm.ds_inj y y' (PyData.tuple.inj h2), Sm.ds_inj n n' (PyData.tuple.inj h3)]
    | set _ _ => simp only [Sm.d] at h; exact (kw_ne (by decide +kernel) h).elim
    | half _ _ => simp only [Sm.d] at h; exact (kw_ne (by decide +kernel) h).elim
    | tell _ => simp only [Sm.d] at h; exact (kw_ne (by decide +kernel) h).elim
    | say _ => simp only [Sm.d] at h; exact (kw_ne (by decide +kernel) h).elim
    | stop _ => simp only [Sm.d] at h; exact (kw_ne (by decide +kernel) h).elim
    | rep _ _ => simp only [Sm.d] at h; exact (kw_ne (by decide +kernel) h).elim
  | .rep k y, b, h => by
    cases b with
    | rep k' y' =>
      simp only [Sm.d] at h
      obtain ⟨_, h1, h2⟩ := tup_inj3 h
      rw [Int.ofNat.inj (PyData.int.inj h1), Sm.ds_inj y y' (PyData.tuple.inj h2)]
    | set _ _ => simp only [Sm.d] at h; exact (kw_ne (by decide +kernel) h).elim
    | half _ _ => simp only [Sm.d] at h; exact (kw_ne (by decide +kernel) h).elim
    | tell _ => simp only [Sm.d] at h; exact (kw_ne (by decide +kernel) h).elim
    | say _ => simp only [Sm.d] at h; exact (kw_ne (by decide +kernel) h).elim
    | stop _ => simp only [Sm.d] at h; exact (kw_ne (by decide +kernel) h).elim
    | ite _ _ _ => simp only [Sm.d] at h; exact (kw_ne (by decide +kernel) h).elim
theorem Sm.ds_inj : ∀ a b : List Sm, Sm.ds a = Sm.ds b → a = b
  | [], [], _ => rfl
  | [], s :: r, h => by simp only [Sm.ds] at h; cases h
  | s :: r, [], h => by simp only [Sm.ds] at h; cases h
  | s :: r, s' :: r', h => by
    simp only [Sm.ds] at h
    have h := List.cons.inj h
    rw [Sm.d_inj s s' h.1, Sm.ds_inj r r' h.2]
end
theorem PErr.one {d e e' : PyData} (h : PErr d e) (g : PErr d e') : e = e' := by
  cases h with
  | prog h => 
    cases g with
    | prog _ => rfl
    | ord h2 => cases h
    | bnd h2 => cases h
  | ord h1 =>
    generalize eD : PyData.tuple _ = D at g
    cases g with
    | prog h => subst eD; cases h
    | ord h2 => cases eD; rw [h1] at h2; cases h2; rfl
    | bnd h2 => cases eD; rw [h1] at h2; cases h2
  | bnd h1 =>
    generalize eD : PyData.tuple _ = D at g
    cases g with
    | prog h => subst eD; cases h
    | ord h2 => cases eD; rw [h1] at h2; cases h2
    | bnd h2 => rw [Sm.ds_inj _ _ (PyData.tuple.inj eD)]
/-- right statements, all through -/
inductive VS : Sm → Prop
  | mk {s : Sm} : stmtB s.d = true → (∀ s' ∈ s.inn, VS s') → VS s
def VD (d : PyData) : Prop := ∃ s : Sm, d = s.d ∧ VS s
theorem VD.stmt {d : PyData} (h : VD d) : stmtB d = true := by
  obtain ⟨s, rfl, h⟩ := h
  cases h with
  | mk h _ => exact h
theorem VD.items {d e : PyData} (h : VD d) (m : e ∈ bitems d) : VD e := by
  obtain ⟨s, rfl, h⟩ := h
  cases h with
  | mk _ h2 =>
    rw [Sm.bitems_inn, Sm.ds_map] at m
    obtain ⟨s', hs, rfl⟩ := List.mem_map.mp m
    exact ⟨s', rfl, h2 s' hs⟩
def spLError : Sp := fun vs H Q _ => ∃ (v : V) (ds : List PyData), vs = [v] ∧ Tr H (.tuple ds) v ∧ (∀ d ∈ ds, VD d) ∧ dszs ds ≤ 1000000 ∧ ∀ (t : V) (e : PyData) (H' : Hp), Tr H' e t → PErr (.tuple ds) e → Kp [] H H' → Q t H'
end EH
namespace EH
open PySem L2
/-! ### places play no part where choices go by their number -/
def NoP (dec : Nat → Int → Int → Int) : Prop := ∀ k v p q, dec k v p = dec k v q
theorem decC_noP (chs : List Int) : NoP (decC chs) := fun _ _ _ _ => rfl
theorem iterN_congr {f g : Cs → Option Str × Cs} (h : ∀ s, f s = g s) : ∀ (k : Nat) (s : Cs), iterN k f s = iterN k g s
  | 0, s => rfl
  | k + 1, s => by
    rw [iterN, iterN, h s]
    cases g s with
    | mk c s' =>
      cases c with
      | none => exact iterN_congr h k s'
      | some c => rfl
section
variable {dec : Nat → Int → Int → Int}
theorem halv_p (h : NoP dec) (s : Cs) (v p q : Int) : halv dec noWay s v p = halv dec noWay s v q := by
  unfold halv
  simp only [noWay]
  rw [h _ v p q]
mutual
theorem Sm.run_p (h : NoP dec) : ∀ (t : Sm) (p q : Int) (s : Cs), t.run dec noWay p s = t.run dec noWay q s
  | .ite t y n, p, q, s => by
    simp only [Sm.run]
    split
    · exact Sm.runs_p h y _ _ s
    · exact Sm.runs_p h n _ _ s
  | .rep k b, p, q, s => by
    simp only [Sm.run]
    exact iterN_congr (fun s => Sm.runs_p h b _ _ s) k s
  | .set x e, p, q, s => by simp only [Sm.run]
  | .half x e, p, q, s => by simp only [Sm.run, halv_p h s _ p q]
  | .tell e, p, q, s => by simp only [Sm.run]
  | .say c, p, q, s => by simp only [Sm.run]
  | .stop c, p, q, s => by simp only [Sm.run]
theorem Sm.runs_p (h : NoP dec) : ∀ (b : List Sm) (p q : Int) (s : Cs), Sm.runs dec noWay b p s = Sm.runs dec noWay b q s
  | [], p, q, s => by simp only [Sm.runs]
  | t :: r, p, q, s => by
    simp only [Sm.runs, Sm.run_p h t p q s]
    cases Sm.run dec noWay t q s with
    | mk c s' =>
      cases c with
      | none => exact Sm.runs_p h r _ _ s'
      | some c => rfl
end
theorem runs_app {ways : Int → Option Int} : ∀ (a b : List Sm) (p : Int) (s : Cs), Sm.runs dec ways (a ++ b) p s = match Sm.runs dec ways a p s with
    | (some c, s') => (some c, s')
    | (none, s') => Sm.runs dec ways b (p + (Sm.pls a : Int)) s'
  | [], b, p, s => by
    simp only [List.nil_append, Sm.runs, Sm.pls]
    rw [show p + ((0 : Nat) : Int) = p by omega]
  | t :: r, b, p, s => by
    simp only [List.cons_append, Sm.runs, Sm.pls]
    cases Sm.run dec ways t p s with
    | mk c s' =>
      cases c with
      | none =>
        show Sm.runs dec ways (r ++ b) (p + (t.pl : Int)) s' = match Sm.runs dec ways r (p + (t.pl : Int)) s' with
          | (some c, s') => (some c, s')
          | (none, s') => Sm.runs dec ways b (p + ((t.pl + Sm.pls r : Nat) : Int)) s'
        rw [runs_app r b]
        cases Sm.runs dec ways r (p + (t.pl : Int)) s' with
        | mk c2 s2 =>
          cases c2 with
          | none =>
            show Sm.runs dec ways b (p + (t.pl : Int) + (Sm.pls r : Int)) s2 = Sm.runs dec ways b (p + ((t.pl + Sm.pls r : Nat) : Int)) s2
            rw [show p + (t.pl : Int) + (Sm.pls r : Int) = p + ((t.pl + Sm.pls r : Nat) : Int) by omega]
          | some c2 => rfl
      | some c => rfl
end
/-- the same runs -/
def EqB (b b' : List Sm) : Prop := ∀ (chs : List Int) (p q : Int) (s : Cs), Sm.runs (decC chs) noWay b p s = Sm.runs (decC chs) noWay b' q s
theorem EqB.refl (b : List Sm) : EqB b b := fun chs p q s => Sm.runs_p (decC_noP chs) b p q s
theorem EqB.app {a a' b b' : List Sm} (h1 : EqB a a') (h2 : EqB b b') : EqB (a ++ b) (a' ++ b') := fun chs p q s => by
  rw [runs_app, runs_app, h1 chs p q s]
  cases Sm.runs (decC chs) noWay a' q s with
  | mk c s' =>
    cases c with
    | none => exact h2 chs _ _ s'
    | some c => rfl
theorem runs_one {dec : Nat → Int → Int → Int} {ways : Int → Option Int} (t : Sm) (p : Int) (s : Cs) : Sm.runs dec ways [t] p s = t.run dec ways p s := by
  simp only [Sm.runs]
  cases t.run dec ways p s with
  | mk c s' => cases c <;> rfl
theorem EqB.rep {b b' : List Sm} (h : EqB b b') (k : Nat) : EqB [.rep k b] [.rep k b'] := fun chs p q s => by
  rw [runs_one, runs_one]
  simp only [Sm.run]
  exact iterN_congr (fun s => h chs _ _ s) k s
theorem EqB.unroll {b b' : List Sm} (h : EqB b b') : ∀ k : Nat, EqB [.rep k b] (List.replicate k b').flatten
  | 0 => fun chs p q s => by
    rw [runs_one]
    simp only [Sm.run, List.replicate_zero, List.flatten_nil, Sm.runs]
    rfl
  | k + 1 => fun chs p q s => by
    have ih := EqB.unroll h k chs
    rw [runs_one, List.replicate_succ, List.flatten_cons, runs_app]
    simp only [Sm.run]
    rw [iterN]
    show (match Sm.runs (decC chs) noWay b (p + 1) s with | (some c, s') => (some c, s') | (none, s') => iterN k (fun s => Sm.runs (decC chs) noWay b (p + 1) s) s') = _
    rw [h chs (p + 1) q s]
    cases Sm.runs (decC chs) noWay b' q s with
    | mk c s' =>
      cases c with
      | none =>
        have := ih p (q + (Sm.pls b' : Int)) s'
        rw [runs_one] at this
        simp only [Sm.run] at this
        exact this
      | some c => rfl
theorem EqB.ite {t t' : Ts} {y y' n n' : List Sm} (ht : ∀ env, t'.ev env = t.ev env) (h1 : EqB y y') (h2 : EqB n n') : EqB [.ite t y n] [.ite t' y' n'] := fun chs p q s => by
  rw [runs_one, runs_one]
  simp only [Sm.run, ht]
  split
  · exact h1 chs _ _ s
  · exact h2 chs _ _ s
theorem EqB.turn {t t' : Ts} {y y' n n' : List Sm} (ht : ∀ env, t.ev env = !t'.ev env) (h1 : EqB y y') (h2 : EqB n n') : EqB [.ite t y n] [.ite t' n' y'] := fun chs p q s => by
  rw [runs_one, runs_one]
  simp only [Sm.run, ht]
  cases t'.ev s.env with
  | true => exact h2 chs _ _ s
  | false => exact h1 chs _ _ s
theorem EqB.stop (c : Str) (r : List Sm) : EqB [.stop c] (.stop c :: r) := fun chs p q s => by
  rw [runs_one]
  simp only [Sm.run, Sm.runs]
theorem EqB.set {x : Str} {e e' : Ex} (h : ∀ env, e'.ev env = e.ev env) : EqB [.set x e] [.set x e'] := fun chs p q s => by
  rw [runs_one, runs_one]
  simp only [Sm.run, h]
theorem EqB.half {x : Str} {e e' : Ex} (h : ∀ env, e'.ev env = e.ev env) : EqB [.half x e] [.half x e'] := fun chs p q s => by
  rw [runs_one, runs_one]
  simp only [Sm.run, h, halv_p (decC_noP chs) s _ p q]
theorem EqB.tell {e e' : Ex} (h : ∀ env, e'.ev env = e.ev env) : EqB [.tell e] [.tell e'] := fun chs p q s => by
  rw [runs_one, runs_one]
  simp only [Sm.run, h]
structure Oth (N : Nat) (b b' : List Sm) : Prop where
  eq : EqB b b'
  ok : Sm.oks b'
  nest : Sm.nests b' ≤ N
  wt : Sm.wts b' ≤ 2 * Sm.wts b
  pl : Sm.pls b' ≤ 2 ^ (N + 1) * Sm.pls b
theorem Oth.nil (N : Nat) : Oth N [] [] := ⟨EqB.refl _, by simp only [Sm.oks], by simp only [Sm.nests]; omega, by simp only [Sm.wts]; omega, by simp only [Sm.pls]; omega⟩
theorem Oth.app {N : Nat} {a a' b b' : List Sm} (h1 : Oth N a a') (h2 : Oth N b b') : Oth N (a ++ b) (a' ++ b') := by
  refine ⟨h1.eq.app h2.eq, Sm.oks_app h1.ok h2.ok, ?_, ?_, ?_⟩
  · have := Sm.nests_app a' b'
    have := h1.nest
    have := h2.nest
    omega
  · rw [Sm.wts_app, Sm.wts_app]
    have := h1.wt
    have := h2.wt
    omega
  · rw [Sm.pls_app, Sm.pls_app, Nat.mul_add]
    exact Nat.add_le_add h1.pl h2.pl
theorem two_le (N : Nat) : 2 ≤ 2 ^ (N + 1) := by
  have : 1 ≤ 2 ^ N := Nat.one_le_pow _ _ (by decide)
  rw [Nat.pow_succ]
  omega
theorem Oth.one {N : Nat} {s s' : Sm} (he : EqB [s] [s']) (ho : s'.ok) (hn : s'.nest ≤ N) (hw : s'.wt ≤ 2 * s.wt) (hp : s'.pl ≤ 2 ^ (N + 1) * s.pl) : Oth N [s] [s'] := by
  refine ⟨he, by simp only [Sm.oks]; exact ⟨ho, trivial⟩, ?_, ?_, ?_⟩
  · simp only [Sm.nests]; omega
  · simp only [Sm.wts]; omega
  · simp only [Sm.pls, Nat.add_zero]; exact hp
theorem Oth.stop {N : Nat} {c : Str} (h : (Sm.stop c).ok) {j : Nat} (hj : j ≤ 1) : Oth N [.stop c] (.stop c :: List.replicate j (.say "never")) := by
  have nev : (Sm.say "never").ok := by simp only [Sm.ok]; exact ⟨by decide +kernel, by decide +kernel⟩
  have t2 := two_le N
  rcases (show j = 0 ∨ j = 1 by omega) with rfl | rfl
  · refine ⟨EqB.stop c _, by simp only [List.replicate_zero, Sm.oks]; exact ⟨h, trivial⟩, ?_, ?_, ?_⟩
    · simp only [List.replicate_zero, Sm.nests, Sm.nest]; omega
    · simp only [List.replicate_zero, Sm.wts, Sm.wt]; omega
    · simp only [List.replicate_zero, Sm.pls, Sm.pl]; omega
  · refine ⟨EqB.stop c _, by simp only [List.replicate_one, Sm.oks]; exact ⟨h, nev, trivial⟩, ?_, ?_, ?_⟩
    · simp only [List.replicate_one, Sm.nests, Sm.nest]; omega
    · simp only [List.replicate_one, Sm.wts, Sm.wt]; omega
    · simp only [List.replicate_one, Sm.pls, Sm.pl]; omega
theorem Oth.rep {N : Nat} {b b' : List Sm} (h : Oth N b b') {k : Nat} (hk : k ≤ 8) : Oth (N + 1) [.rep k b] [.rep k b'] := by
  have := h.nest
  have hw := h.wt
  have hp := h.pl
  refine Oth.one (h.eq.rep k) (by simp only [Sm.ok]; exact ⟨hk, h.ok⟩) (by simp only [Sm.nest]; omega) ?_ ?_
  · simp only [Sm.wt]
    have : k * Sm.wts b' ≤ k * (2 * Sm.wts b) := Nat.mul_le_mul_left _ hw
    rw [Nat.mul_left_comm] at this
    omega
  · have t2 := two_le (N + 1)
    simp only [Sm.pl]
    rw [Nat.mul_add, Nat.mul_one]
    have : 2 ^ (N + 1) * Sm.pls b ≤ 2 ^ (N + 1 + 1) * Sm.pls b := Nat.mul_le_mul_right _ (Nat.pow_le_pow_right (by decide) (by omega))
    omega
theorem Oth.unroll {N : Nat} {b b' : List Sm} (h : Oth N b b') {k : Nat} (hk : k = 1 ∨ k = 2) : Oth (N + 1) [.rep k b] (List.replicate k b').flatten := by
  have := h.nest
  have hw := h.wt
  have hp := h.pl
  have pp : 2 ^ (N + 1 + 1) * Sm.pls [.rep k b] = 2 * (2 ^ (N + 1) * Sm.pls b) + 2 ^ (N + 1 + 1) := by
    simp only [Sm.pls, Sm.pl, Nat.add_zero]
    rw [Nat.mul_add, Nat.mul_one, Nat.pow_succ 2 (N + 1), Nat.mul_comm (2 ^ (N + 1)) 2, Nat.mul_assoc]
    omega
  rcases hk with rfl | rfl
  · have e : (List.replicate 1 b').flatten = b' := by simp
    refine ⟨h.eq.unroll 1, by rw [e]; exact h.ok, by rw [e]; omega, ?_, ?_⟩
    · rw [e]; simp only [Sm.wts, Sm.wt]; omega
    · rw [e, pp]
      refine Nat.le_trans hp ?_
      generalize 2 ^ (N + 1) * Sm.pls b = X
      generalize 2 ^ (N + 1 + 1) = P
      omega
  · have e : (List.replicate 2 b').flatten = b' ++ b' := by simp [List.replicate]
    refine ⟨h.eq.unroll 2, by rw [e]; exact Sm.oks_app h.ok h.ok, ?_, ?_, ?_⟩
    · rw [e]
      have := Sm.nests_app b' b'
      omega
    · rw [e, Sm.wts_app]; simp only [Sm.wts, Sm.wt]; omega
    · rw [e, pp, Sm.pls_app]
      refine Nat.le_trans (Nat.add_le_add hp hp) ?_
      generalize 2 ^ (N + 1) * Sm.pls b = X
      generalize 2 ^ (N + 1 + 1) = P
      omega
theorem Oth.ite {N : Nat} {t t' : Ts} {y y' n n' : List Sm} (ht : ∀ env, t'.ev env = t.ev env) (to : t'.ok) (tn : t'.nots ≤ 2) (h1 : Oth N y y') (h2 : Oth N n n') : Oth (N + 1) [.ite t y n] [.ite t' y' n'] := by
  have a1 := h1.nest; have a2 := h2.nest; have b1 := h1.wt; have b2 := h2.wt; have c1 := h1.pl; have c2 := h2.pl
  refine Oth.one (EqB.ite ht h1.eq h2.eq) (by simp only [Sm.ok]; exact ⟨to, tn, h1.ok, h2.ok⟩) (by simp only [Sm.nest]; omega) (by simp only [Sm.wt]; omega) ?_
  have t2 := two_le (N + 1)
  simp only [Sm.pl]
  rw [Nat.mul_add, Nat.mul_one, Nat.mul_add]
  have e1 : 2 ^ (N + 1) * Sm.pls y ≤ 2 ^ (N + 1 + 1) * Sm.pls y := Nat.mul_le_mul_right _ (Nat.pow_le_pow_right (by decide) (by omega))
  have e2 : 2 ^ (N + 1) * Sm.pls n ≤ 2 ^ (N + 1 + 1) * Sm.pls n := Nat.mul_le_mul_right _ (Nat.pow_le_pow_right (by decide) (by omega))
  omega
theorem Oth.turn {N : Nat} {t t' : Ts} {y y' n n' : List Sm} (ht : ∀ env, t.ev env = !t'.ev env) (to : t'.ok) (tn : t'.nots ≤ 2) (h1 : Oth N y y') (h2 : Oth N n n') : Oth (N + 1) [.ite t y n] [.ite t' n' y'] := by
  have a1 := h1.nest; have a2 := h2.nest; have b1 := h1.wt; have b2 := h2.wt; have c1 := h1.pl; have c2 := h2.pl
  refine Oth.one (EqB.turn ht h1.eq h2.eq) (by simp only [Sm.ok]; exact ⟨to, tn, h2.ok, h1.ok⟩) (by simp only [Sm.nest]; omega) (by simp only [Sm.wt]; omega) ?_
  have t2 := two_le (N + 1)
  simp only [Sm.pl]
  rw [Nat.mul_add, Nat.mul_one, Nat.mul_add]
  have e1 : 2 ^ (N + 1) * Sm.pls y ≤ 2 ^ (N + 1 + 1) * Sm.pls y := Nat.mul_le_mul_right _ (Nat.pow_le_pow_right (by decide) (by omega))
  have e2 : 2 ^ (N + 1) * Sm.pls n ≤ 2 ^ (N + 1 + 1) * Sm.pls n := Nat.mul_le_mul_right _ (Nat.pow_le_pow_right (by decide) (by omega))
  omega
theorem Oth.plain {N : Nat} {s s' : Sm} (he : EqB [s] [s']) (ho : s'.ok) (h1 : s.plain) (h2 : s'.plain) : Oth N [s] [s'] := by
  have t2 := two_le N
  refine Oth.one he ho ?_ ?_ ?_
  · cases s' <;> simp only [Sm.nest] <;> first | omega | exact h2.elim
  · cases s <;> cases s' <;> simp only [Sm.wt] <;> first | omega | exact h1.elim | exact h2.elim
  · cases s <;> cases s' <;> simp only [Sm.pl] <;> first | omega | exact h1.elim | exact h2.elim
/-! ### sums turned about -/
inductive Nd where
  | e (x : Ex) | t (x : Ts)
def Nd.d : Nd → PyData
  | .e x => x.d
  | .t x => x.d
def Nd.ok (n : Nat) : Nd → Prop
  | .e x => x.ok ∧ x.deep ≤ n
  | .t x => x.ok ∧ x.nots + 4 ≤ n
inductive Nd.to : Nd → Nd → Prop
  | e {x y : Ex} (o : y.ok) (d : y.deep ≤ x.deep) (h : ∀ env, y.ev env = x.ev env) : Nd.to (.e x) (.e y)
  | t {x y : Ts} (o : y.ok) (d : y.nots = x.nots) (h : ∀ env, y.ev env = x.ev env) : Nd.to (.t x) (.t y)
def costT : Nat → Int
  | 0 => 0
  | n + 1 => 1 + 2 * costT n
theorem costT_nn : ∀ n, 0 ≤ costT n
  | 0 => Int.le_refl 0
  | n + 1 => by
    have := costT_nn n
    show 0 ≤ 1 + 2 * costT n
    omega
def spTurned (n : Nat) : Sp := fun vs H Q _ => ∃ (a c : Addr) (m : Int) (v : V) (x : Nd), vs = [.ref a, v] ∧ Deck H a c m ∧ m + costT n ≤ 900000000 ∧ Tr H x.d v ∧ x.ok n ∧
  ∀ (v' : V) (x' : Nd) (H' : Hp) (m' : Int), Tr H' x'.d v' → x.to x' → m ≤ m' → m' ≤ m + costT n → Deck H' a c m' → Kp [a, c] H H' → Q v' H'
def spOther (N : Nat) : Sp := fun vs H Q _ => ∃ (a c : Addr) (m : Int) (v : V) (b : List Sm), vs = [.ref a, v] ∧ Deck H a c m ∧ m + 200 * (Sm.pls b : Int) ≤ 800000000 ∧ Tr H (.tuple (Sm.ds b)) v ∧ Sm.oks b ∧ Sm.nests b ≤ N ∧ Sm.pls b ≤ 24 ∧ N ≤ 4 ∧
  ∀ (v' : V) (b' : List Sm) (H' : Hp) (m' : Int), Tr H' (.tuple (Sm.ds b')) v' → Oth N b b' → m ≤ m' → m' ≤ m + 200 * (Sm.pls b : Int) → Deck H' a c m' → Kp [a, c] H H' → Q v' H'
inductive Nds : List Nd → List Nd → Prop
  | nil : Nds [] []
  | cons {x y : Nd} {l r : List Nd} (h : x.to y) (t : Nds l r) : Nds (x :: l) (y :: r)
theorem Nds.snoc {l r : List Nd} {x y : Nd} (h : Nds l r) (t : x.to y) : Nds (l ++ [x]) (r ++ [y]) := by
  induction h with
  | nil => exact .cons t .nil
  | cons h _ ih => exact .cons h ih
theorem nds1 {x : Nd} {r : List Nd} (h : Nds [x] r) : ∃ y, r = [y] ∧ x.to y := by
  cases h with
  | cons h t => cases t; exact ⟨_, rfl, h⟩
theorem nds2 {x z : Nd} {r : List Nd} (h : Nds [x, z] r) : ∃ y w, r = [y, w] ∧ x.to y ∧ z.to w := by
  cases h with
  | cons h t =>
    obtain ⟨w, rfl, h2⟩ := nds1 t
    exact ⟨_, w, rfl, h, h2⟩
theorem to_e {x : Ex} {y : Nd} (h : Nd.to (.e x) y) : ∃ z : Ex, y = .e z ∧ z.ok ∧ z.deep ≤ x.deep ∧ ∀ env, z.ev env = x.ev env := by
  cases h with
  | e o d h => exact ⟨_, rfl, o, d, h⟩
theorem to_t {x : Ts} {y : Nd} (h : Nd.to (.t x) y) : ∃ z : Ts, y = .t z ∧ z.ok ∧ z.nots = x.nots ∧ ∀ env, z.ev env = x.ev env := by
  cases h with
  | t o d h => exact ⟨_, rfl, o, d, h⟩
theorem num_of {e : Ex} {k : Int} (h1 : e.deep ≤ (Ex.num k).deep) (h2 : ∀ env, e.ev env = (Ex.num k).ev env) : e = .num k := by
  have h1 : e.deep ≤ 1 := h1
  cases e with
  | num i => exact congrArg Ex.num (h2 fun _ => 0)
  | var x =>
    have := h2 fun _ => k + 1
    have : k + 1 = k := this
    omega
  | plus a b =>
    have := a.deep_pos
    simp only [Ex.deep] at h1
    omega
  | minus a b =>
    have := a.deep_pos
    simp only [Ex.deep] at h1
    omega
  | times f a =>
    have := a.deep_pos
    simp only [Ex.deep] at h1
    omega
theorem cut_1a (x : V) (xs : List V) : cutV (x :: xs) (some 1) none = xs := by
  have h1 : HT.sIx (x :: xs).length 0 (some ((1 : Nat) : Int)) = 1 := by rw [HT.sIx_nat]; simp
  unfold cutV
  rw [show (some (1 : Int)) = some ((1 : Nat) : Int) from rfl, h1, HT.sIx_none]
  simp
theorem cut_1b (x : V) (xs : List V) : cutV (x :: xs) none (some 1) = [x] := by
  rw [show (some (1 : Int)) = some ((1 : Nat) : Int) from rfl, cut_to]
  rfl
end EH
namespace EH
open PySem PySem.Spec PyProof.Rows L2
/-! ### tuple * int, any number from 0 on -/
theorem tuple_mulSame (l : Addr) (items : Array Value) (n : Nat) (dd : Option Addr) (sl : Array (Option Value)) (x : Int) (u : Tok) (c0 : (decide (x < -(2 ^ 63)) || decide (x ≥ 2 ^ 63)) = false) (c1 : (items.isEmpty || x == 1) = true) :
    Meets (Builtin.«tuple.__mul__» ⟨[.ref l, .int x u], []⟩) (fun _ R s => s.heap.get? l = some { cls := .type "tuple", dict := dd, data := .seq items n, slots := sl } ∧ R (.ok (.ret (Value.ref l))) s) :=
  .of_wp fun prog w A R s h => by
    obtain ⟨hp, g, d, tk, os⟩ := s
    obtain ⟨hl, h⟩ := h
    have f1 := AutoSeq1.idx_int
    wp_walk using wpAny_loadPart' hl
    repeat (first
      | (refine wpAny_ite_false (decide_eq_false (by rw [c0]; exact Bool.false_ne_true)) ?_; wp_walk using wpAny_loadPart' hl)
      | (refine wpAny_ite_true (decide_eq_true c1) ?_; wp_walk using wpAny_loadPart' hl))
    exact ⟨_, rfl, h⟩
theorem tuple_mulNone (l : Addr) (items : Array Value) (n : Nat) (dd : Option Addr) (sl : Array (Option Value)) (x : Int) (u : Tok) (c0 : (decide (x < -(2 ^ 63)) || decide (x ≥ 2 ^ 63)) = false) (c1 : (items.isEmpty || x == 1) = false) (c2 : (decide (x ≤ 0) || items.isEmpty) = true) :
    Meets (Builtin.«tuple.__mul__» ⟨[.ref l, .int x u], []⟩) (fun _ R s => s.heap.get? l = some { cls := .type "tuple", dict := dd, data := .seq items n, slots := sl } ∧
      R (.ok (.ret (Value.ref s.heap.objs.size))) { s with heap := s.heap.push { cls := Value.type "tuple", data := Data.seq #[] }, toks := s.toks }) :=
  .of_wp fun prog w A R s h => by
    obtain ⟨hp, g, d, tk, os⟩ := s
    obtain ⟨hl, h⟩ := h
    have f1 := AutoSeq1.idx_int
    wp_walk using wpAny_loadPart' hl
    repeat (first
      | (refine wpAny_ite_false (decide_eq_false (by rw [c0]; exact Bool.false_ne_true)) ?_; wp_walk using wpAny_loadPart' hl)
      | (refine wpAny_ite_false (decide_eq_false (by rw [c1]; exact Bool.false_ne_true)) ?_; wp_walk using wpAny_loadPart' hl)
      | (refine wpAny_ite_true (decide_eq_true c2) ?_; wp_walk using wpAny_loadPart' hl))
    exact ⟨_, rfl, h⟩
def rRepTB : R2 := fun x y H Q => ∃ l k xs, x = .ref l ∧ y = .int k ∧ H l = some (.tup xs) ∧ 0 ≤ k ∧ k ≤ 1000 ∧ xs.length ≤ 1000 ∧ ∀ p H2, H2 p = some (.tup (List.replicate k.toNat xs).flatten) → Kp [] H H2 → Q (.ref p) H2
section
variable {X : Cx}
theorem flat_one {α : Type} (xs : List α) : (List.replicate 1 xs).flatten = xs := by simp
theorem flat_nil {α : Type} : ∀ k : Nat, (List.replicate k ([] : List α)).flatten = []
  | 0 => rfl
  | k + 1 => by rw [List.replicate_succ, List.flatten_cons, flat_nil k]; rfl
theorem op_repTB : OpR X (binaryOp .Mult) rRepTB := by
  intro pins s σ H x y v u Q I rx ry h
  obtain ⟨l, k, xs, rfl, rfl, hl, h1, h2, hz, q⟩ := h
  by_cases big : xs ≠ [] ∧ 2 ≤ k
  · exact op_repT pins s σ H _ _ v u Q I rx ry ⟨l, k, xs, rfl, rfl, SqT.of hl, big.1, big.2, h2, hz, fun p hp => q p _ upd_same (Kp.new hp)⟩
  · cases rx
    obtain ⟨t, rfl⟩ := ry
    obtain ⟨its, r, ⟨⟨cls, dd, data, sl⟩, ho, hc, n, hd⟩, hs⟩ := I.tuple (SqT.of (K := X.K) hl)
    simp only at hc hd
    subst hc hd
    have hle : its.length = xs.length := r.length.symm
    have c0 : (decide (k < -(2 ^ 63)) || decide (k ≥ 2 ^ 63)) = false := by
      rw [decide_eq_false (by omega), decide_eq_false (by omega)] <;> rfl
    have emp : its.toArray.isEmpty = true ↔ xs = [] := by
      rw [Array.isEmpty_iff]
      constructor
      · intro e
        have e2 : its = [] := by simpa using e
        rw [e2] at hle
        exact List.eq_nil_of_length_eq_zero hle.symm
      · intro e
        rw [e] at hle
        have : its = [] := List.eq_nil_of_length_eq_zero hle
        rw [this]
    cases hb : (its.toArray.isEmpty || k == 1) with
    | true =>
      refine wpAny_binaryOp_repeat_ref (T := "tuple") (U := "int") (by decide) ⟨_, ho, rfl⟩ (fun s' => typeIs_int s' k t) noFill_tuple_mul F.fills_int_mul F.slot_int_rmul repeat_tuple F.slot_int_index.lookup
        (call_meets F.slot_int_rmul (typeIs_int s k t) F.entry_int_rmul (F.args_int_rmul_2 _ _) (int_rmul_tuple k t l its.toArray n dd sl)
          ⟨ho, rfl, ⟨_, ho, rfl⟩, call_meets F.slot_tuple_mul ⟨_, ho, rfl⟩ F.entry_tuple_mul (F.args_tuple_mul_2 _ _) (tuple_mulSame l its.toArray n dd sl k t c0 hb) ⟨ho, ?_⟩⟩)
      refine ⟨.ref l, H, I, rfl, q l H ?_ Kp.refl⟩
      rw [Bool.or_eq_true] at hb
      rcases hb with hb | hb
      · rw [emp.mp hb] at hl ⊢
        rw [flat_nil]
        exact hl
      · have : k = 1 := by simpa using hb
        subst this
        rw [show (1 : Int).toNat = 1 from rfl, flat_one]
        exact hl
    | false =>
      rw [Bool.or_eq_false_iff] at hb
      have nx : xs ≠ [] := fun e => by
        have := emp.mpr e
        rw [hb.1] at this
        cases this
      have k1 : k ≠ 1 := by simpa using hb.2
      have k0 : k = 0 := by
        have : ¬ 2 ≤ k := fun z => big ⟨nx, z⟩
        omega
      have c2 : (decide (k ≤ 0) || its.toArray.isEmpty) = true := by
        rw [decide_eq_true (by omega)]
        rfl
      refine wpAny_binaryOp_repeat_ref (T := "tuple") (U := "int") (by decide) ⟨_, ho, rfl⟩ (fun s' => typeIs_int s' k t) noFill_tuple_mul F.fills_int_mul F.slot_int_rmul repeat_tuple F.slot_int_index.lookup
        (call_meets F.slot_int_rmul (typeIs_int s k t) F.entry_int_rmul (F.args_int_rmul_2 _ _) (int_rmul_tuple k t l its.toArray n dd sl)
          ⟨ho, rfl, ⟨_, ho, rfl⟩, call_meets F.slot_tuple_mul ⟨_, ho, rfl⟩ F.entry_tuple_mul (F.args_tuple_mul_2 _ _) (tuple_mulNone l its.toArray n dd sl k t c0 (by rw [hb.1, hb.2]; rfl) c2) ⟨ho, ?_⟩⟩)
      have hn := I.hok.fresh (Nat.le_refl s.heap.objs.size)
      refine ⟨.ref s.heap.objs.size, upd H s.heap.objs.size (.tup []), I.laid (t' := s.toks) (o := .tup []) (fun b ob q => Heap.get?_push_of_some _ q) (Nat.le_refl _) ?_, rfl, q _ _ ?_ (Kp.new hn)⟩
      · exact ⟨by show 0 ≤ sizeLine; omega, [], .nil, IsTup.new _ _⟩
      · rw [k0]
        exact upd_same
end
end EH
namespace EH
open PySem L2
section
variable {X : Cx}
def rReprL : List V → Hp → VK → Prop := fun xs H Q => ∃ a vs ds, xs = [.ref a] ∧ H a = some (.lst vs) ∧ TrAll H ds vs ∧ Shw (.list ds) ∧ ∀ z, z = (PyData.list ds).shown → Q (.str z) H
theorem call_reprL (fr : Free X.A) (hu : X.A.units + 64 < cLine) : CallR X (.builtin "repr") rReprL := CallR.imp (call_reprD fr hu) fun xs H Q ⟨a, vs, ds, e, h, t, s, q⟩ => ⟨.ref a, .list ds, e, .lst (SqL.of h) (TrAll.dp ds vs t), s.sh, s.sz, s.dp, q _ rfl⟩
end
theorem runs_ext {dec : Nat → Int → Int → Int} {ways : Int → Option Int} (b : List Sm) (o : Sm.oks b) (p : Int) (s : Cs) : (∃ m, (Sm.runs dec ways b p s).2.said = s.said ++ m) ∧ ∃ m, (Sm.runs dec ways b p s).2.turns = s.turns ++ m :=
  Sm.invs (J := fun _ _ s' => (∃ m, s'.said = s.said ++ m) ∧ ∃ m, s'.turns = s.turns ++ m) (dec := dec) (ways := ways) (fun _ _ _ _ _ j _ _ => j) (fun st hp ho p w h s' ⟨⟨m1, j1⟩, m2, j2⟩ => by
    refine ⟨?_, ?_⟩
    · cases st with
      | ite _ _ _ => exact hp.elim
      | rep _ _ => exact hp.elim
      | set x e => exact ⟨m1, by simp only [Sm.run]; exact j1⟩
      | half x e => exact ⟨m1, by simp only [Sm.run]; show (halv dec ways s' _ p).2.said = _; rw [halv_said]; exact j1⟩
      | tell e => exact ⟨m1 ++ [Sum.inl (e.ev s'.env)], by simp only [Sm.run]; show s'.said ++ _ = _; rw [j1, List.append_assoc]⟩
      | say c => exact ⟨m1 ++ [Sum.inr c], by simp only [Sm.run]; show s'.said ++ _ = _; rw [j1, List.append_assoc]⟩
      | stop c => exact ⟨m1, by simp only [Sm.run]; exact j1⟩
    · rcases plain_turns (dec := dec) (ways := ways) st hp p s' with e | ⟨_, v, e⟩
      · exact ⟨m2, by rw [e]; exact j2⟩
      · exact ⟨m2 ++ [dec s'.turns.length v p], by rw [e, j2, List.append_assoc]⟩) b o p 0 0 s ⟨⟨[], by rw [List.append_nil]⟩, [], by rw [List.append_nil]⟩
theorem nests_take : ∀ (b : List Sm) (n : Nat), Sm.nests (b.take n) ≤ Sm.nests b
  | [], n => by rw [List.take_nil]; exact Nat.le_refl _
  | s :: r, 0 => by simp only [List.take_zero, Sm.nests]; omega
  | s :: r, n + 1 => by
    have := nests_take r n
    simp only [List.take_succ_cons, Sm.nests]
    omega
theorem oks_take : ∀ {b : List Sm} (n : Nat), Sm.oks b → Sm.oks (b.take n)
  | [], n, _ => by rw [List.take_nil]; simp only [Sm.oks]
  | s :: r, 0, _ => by simp only [List.take_zero, Sm.oks]
  | s :: r, n + 1, h => by
    simp only [Sm.oks] at h
    simp only [List.take_succ_cons, Sm.oks]
    exact ⟨h.1, oks_take n h.2⟩
theorem oks_drop : ∀ {b : List Sm} (n : Nat), Sm.oks b → Sm.oks (b.drop n)
  | [], n, _ => by rw [List.drop_nil]; simp only [Sm.oks]
  | s :: r, 0, h => h
  | s :: r, n + 1, h => by
    simp only [Sm.oks] at h
    exact oks_drop n h.2
theorem PrOk.take {b : List Sm} (h : PrOk b) (n : Nat) : PrOk (b.take n) := by
  have e : b.take n ++ b.drop n = b := List.take_append_drop n b
  have e1 := Sm.pls_app (b.take n) (b.drop n)
  have e2 := Sm.wts_app (b.take n) (b.drop n)
  have e3 := Sm.hvs_app (b.take n) (b.drop n)
  have e4 := Sm.cps_app (b.take n) (b.drop n)
  rw [e] at e1 e2 e3 e4
  have h1 := h.pl; have h2 := h.wt; have h3 := h.hv; have h4 := h.cp; have h5 := h.nest; have h6 := nests_take b n
  exact ⟨oks_take n h.ok, by omega, by omega, by omega, by omega, by omega⟩
/-- the run of the first statements, and the whole -/
theorem runs_head {b : List Sm} (o : Sm.oks b) (chs : List Int) (n : Int) (j : Nat) : ((Sm.runs (decC chs) noWay (b.take j) 0 (cs0 n)).1 ≠ none → Sm.runs (decC chs) noWay b 0 (cs0 n) = Sm.runs (decC chs) noWay (b.take j) 0 (cs0 n)) ∧
    ∃ m1 m2, (Sm.runs (decC chs) noWay b 0 (cs0 n)).2.said = (Sm.runs (decC chs) noWay (b.take j) 0 (cs0 n)).2.said ++ m1 ∧ (Sm.runs (decC chs) noWay b 0 (cs0 n)).2.turns = (Sm.runs (decC chs) noWay (b.take j) 0 (cs0 n)).2.turns ++ m2 := by
  have e := runs_app (dec := decC chs) (ways := noWay) (b.take j) (b.drop j) 0 (cs0 n)
  rw [List.take_append_drop] at e
  cases z : Sm.runs (decC chs) noWay (b.take j) 0 (cs0 n) with
  | mk c s' =>
    rw [z] at e
    cases c with
    | some c =>
      replace e : Sm.runs (decC chs) noWay b 0 (cs0 n) = (some c, s') := e
      rw [e]
      exact ⟨fun _ => rfl, [], [], by simp, by simp⟩
    | none =>
      replace e : Sm.runs (decC chs) noWay b 0 (cs0 n) = Sm.runs (decC chs) noWay (b.drop j) (0 + (Sm.pls (b.take j) : Int)) s' := e
      rw [e]
      obtain ⟨⟨m1, h1⟩, m2, h2⟩ := runs_ext (dec := decC chs) (ways := noWay) (b.drop j) (oks_drop j o) (0 + (Sm.pls (b.take j) : Int)) s'
      exact ⟨fun h => absurd rfl h, m1, m2, h1, h2⟩
theorem two_shw {ks : List Key} {ts : List Int} (h : ∀ k ∈ ks, kOk (BM - 1) k) (l : ks.length ≤ 60) (ht : ty01 ts) (hl : ts.length ≤ 4) : Shw (.list [.tuple (ks.map kD), .tuple (ts.map PyData.int)]) := by
  have kt := key01 ht
  have w1 := kDs_weight h
  have w2 := kDs_weight kt
  rw [List.length_map] at w2
  rw [← key01D]
  refine shw_of (W := 66000) ?_ ?_ ?_ (by decide) ?_
  · simp only [PyData.showable, PyData.showableAll, kDs_showable h, kDs_showable kt]
    rfl
  · simp only [PyData.leavesShort, PyData.leavesShortAll, kDs_short h, kDs_short kt]
    rfl
  · simp only [PyData.weight, PyData.weightAll]
    omega
  · simp only [PyData.depth, PyData.depthAll, kDs_depth]
    decide
/-! how many parts a program has -/
theorem Ex.dsz_le : ∀ e : Ex, dsz e.d ≤ 4 ^ e.deep
  | .num i => by simp only [Ex.d, Ex.deep, dsz]; decide
  | .var x => by simp only [Ex.d, Ex.deep, dsz]; decide
  | .plus a b => by
    have h1 := Ex.dsz_le a
    have h2 := Ex.dsz_le b
    have p1 : 4 ^ a.deep ≤ 4 ^ max a.deep b.deep := Nat.pow_le_pow_right (by decide) (Nat.le_max_left _ _)
    have p2 : 4 ^ b.deep ≤ 4 ^ max a.deep b.deep := Nat.pow_le_pow_right (by decide) (Nat.le_max_right _ _)
    have p3 : 4 ^ 1 ≤ 4 ^ max a.deep b.deep := Nat.pow_le_pow_right (by decide) (by have := a.deep_pos; omega)
    simp only [Ex.d, Ex.deep, dsz, dszs]
    rw [Nat.pow_succ]
    omega
  | .minus a b => by
    have h1 := Ex.dsz_le a
    have h2 := Ex.dsz_le b
    have p1 : 4 ^ a.deep ≤ 4 ^ max a.deep b.deep := Nat.pow_le_pow_right (by decide) (Nat.le_max_left _ _)
    have p2 : 4 ^ b.deep ≤ 4 ^ max a.deep b.deep := Nat.pow_le_pow_right (by decide) (Nat.le_max_right _ _)
    have p3 : 4 ^ 1 ≤ 4 ^ max a.deep b.deep := Nat.pow_le_pow_right (by decide) (by have := a.deep_pos; omega)
    simp only [Ex.d, Ex.deep, dsz, dszs]
    rw [Nat.pow_succ]
    omega
  | .times k a => by
    have h1 := Ex.dsz_le a
    have p3 : 4 ^ 1 ≤ 4 ^ a.deep := Nat.pow_le_pow_right (by decide) a.deep_pos
    simp only [Ex.d, Ex.deep, dsz, dszs]
    rw [Nat.pow_succ]
    omega
theorem Ex.dsz64 {e : Ex} (h : e.deep ≤ 3) : dsz e.d ≤ 64 := Nat.le_trans (Ex.dsz_le e) (Nat.pow_le_pow_right (by decide) h)
theorem Ts.dsz_le : ∀ {t : Ts}, t.ok → dsz t.d ≤ 132 + 2 * t.nots
  | .less a b, h => by
    obtain ⟨⟨_, h1⟩, _, h2⟩ := (show (a.ok ∧ a.deep ≤ 3) ∧ b.ok ∧ b.deep ≤ 3 from h)
    have := Ex.dsz64 h1
    have := Ex.dsz64 h2
    simp only [Ts.d, dsz, dszs]
    omega
  | .odd a, h => by
    obtain ⟨_, h1⟩ := (show a.ok ∧ a.deep ≤ 3 from h)
    have := Ex.dsz64 h1
    simp only [Ts.d, dsz, dszs]
    omega
  | .not t, h => by
    have := Ts.dsz_le (t := t) h
    simp only [Ts.d, dsz, dszs, Ts.nots]
    omega
mutual
theorem Sm.dsz_le : ∀ {s : Sm}, s.ok → dsz s.d ≤ 150 * s.pl
  | .ite t y n, h => by
    simp only [Sm.ok] at h
    have := Ts.dsz_le h.1
    have := Sm.dszs_le h.2.2.1
    have := Sm.dszs_le h.2.2.2
    simp only [Sm.d, Sm.pl, dsz, dszs]
    omega
  | .rep k b, h => by
    simp only [Sm.ok] at h
    have := Sm.dszs_le h.2
    simp only [Sm.d, Sm.pl, dsz, dszs]
    omega
  | .set x e, h => by
    simp only [Sm.ok] at h
    have := Ex.dsz64 h.1.2
    simp only [Sm.d, Sm.pl, dsz, dszs]
    omega
  | .half x e, h => by
    simp only [Sm.ok] at h
    have := Ex.dsz64 h.1.2
    simp only [Sm.d, Sm.pl, dsz, dszs]
    omega
  | .tell e, h => by
    simp only [Sm.ok] at h
    have := Ex.dsz64 h.2
    simp only [Sm.d, Sm.pl, dsz, dszs]
    omega
  | .say c, h => by simp only [Sm.d, Sm.pl, dsz, dszs]; omega
  | .stop c, h => by simp only [Sm.d, Sm.pl, dsz, dszs]; omega
theorem Sm.dszs_le : ∀ {b : List Sm}, Sm.oks b → dszs (Sm.ds b) ≤ 150 * Sm.pls b
  | [], _ => by simp only [Sm.ds, dszs]; omega
  | s :: r, h => by
    simp only [Sm.oks] at h
    have := Sm.dsz_le h.1
    have := Sm.dszs_le h.2
    simp only [Sm.ds, Sm.pls, dszs]
    omega
end
theorem Ex.szd : ∀ {e : Ex}, e.ok → Szd e.d
  | .num i, _ => by simp only [Ex.d, Szd]
  | .var x, h => by
    have := (show NmOk x from h).2
    simp only [Ex.d, Szd]
    omega
  | .plus a b, h => by simp only [Ex.d, Szd, Szds]; exact ⟨by decide +kernel, Ex.szd (show a.ok ∧ b.ok from h).1, Ex.szd (show a.ok ∧ b.ok from h).2, trivial⟩
  | .minus a b, h => by simp only [Ex.d, Szd, Szds]; exact ⟨by decide +kernel, Ex.szd (show a.ok ∧ b.ok from h).1, Ex.szd (show a.ok ∧ b.ok from h).2, trivial⟩
  | .times k a, h => by simp only [Ex.d, Szd, Szds]; exact ⟨by decide +kernel, trivial, Ex.szd (show -9 ≤ k ∧ k ≤ 9 ∧ a.ok from h).2.2, trivial⟩
theorem Ts.szd : ∀ {t : Ts}, t.ok → Szd t.d
  | .less a b, h => by
    obtain ⟨⟨h1, _⟩, h2, _⟩ := (show (a.ok ∧ a.deep ≤ 3) ∧ b.ok ∧ b.deep ≤ 3 from h)
    simp only [Ts.d, Szd, Szds]
    exact ⟨by decide +kernel, Ex.szd h1, Ex.szd h2, trivial⟩
  | .odd a, h => by
    obtain ⟨h1, _⟩ := (show a.ok ∧ a.deep ≤ 3 from h)
    simp only [Ts.d, Szd, Szds]
    exact ⟨by decide +kernel, Ex.szd h1, trivial⟩
  | .not t, h => by
    simp only [Ts.d, Szd, Szds]
    exact ⟨by decide +kernel, Ts.szd (t := t) h, trivial⟩
mutual
theorem Sm.szd : ∀ {s : Sm}, s.ok → Szd s.d
  | .ite t y n, h => by
    simp only [Sm.ok] at h
    simp only [Sm.d, Szd, Szds]
    exact ⟨by decide +kernel, Ts.szd h.1, Sm.szds h.2.2.1, Sm.szds h.2.2.2, trivial⟩
  | .rep k b, h => by
    simp only [Sm.ok] at h
    simp only [Sm.d, Szd, Szds]
    exact ⟨by decide +kernel, trivial, Sm.szds h.2, trivial⟩
  | .set x e, h => by
    simp only [Sm.ok] at h
    simp only [Sm.d, Szd, Szds]
    exact ⟨by decide +kernel, Nat.le_trans h.2.2 (by decide), Ex.szd h.1.1, trivial⟩
  | .half x e, h => by
    simp only [Sm.ok] at h
    simp only [Sm.d, Szd, Szds]
    exact ⟨by decide +kernel, Nat.le_trans h.2.2 (by decide), Ex.szd h.1.1, trivial⟩
  | .tell e, h => by
    simp only [Sm.ok] at h
    simp only [Sm.d, Szd, Szds]
    exact ⟨by decide +kernel, Ex.szd h.1, trivial⟩
  | .say c, h => by
    simp only [Sm.ok] at h
    simp only [Sm.d, Szd, Szds]
    exact ⟨by decide +kernel, Nat.le_trans h.2 (by decide), trivial⟩
  | .stop c, h => by
    simp only [Sm.ok] at h
    simp only [Sm.d, Szd, Szds]
    exact ⟨by decide +kernel, Nat.le_trans h.2 (by decide), trivial⟩
theorem Sm.szds : ∀ {b : List Sm}, Sm.oks b → Szds (Sm.ds b)
  | [], _ => by simp only [Sm.ds, Szds]
  | s :: r, h => by
    simp only [Sm.oks] at h
    simp only [Sm.ds, Szds]
    exact ⟨Sm.szd h.1, Sm.szds h.2⟩
end
def spRightB : Sp := fun vs H Q _ => ∃ (a c : Addr) (m : Int) (v : V) (b : List Sm) (n : Int), vs = [.ref a, v, .int n] ∧ Deck H a c m ∧ m ≤ 500000000 ∧ Tr H (.tuple (Sm.ds b)) v ∧ PrOk b ∧ -BIG ≤ n ∧ n ≤ BIG ∧
  ∀ (H' : Hp) (m' : Int), m ≤ m' → m' ≤ m + 10000 → Deck H' a c m' → Kp [a, c] H H' → Q (.bl true) H'
theorem keys_of2 {H : Hp} : ∀ {ks : List Key} {vs : List V}, TrAll H (ks.map kD) vs → vs = ks.map kV
  | [], vs, h => by simp only [List.map_nil, TrAll] at h; subst h; rfl
  | .inl i :: r, vs, h => by
    simp only [List.map_cons, TrAll] at h
    obtain ⟨v, ws, rfl, h1, h2⟩ := h
    cases tr_int h1
    rw [keys_of2 h2]
    rfl
  | .inr c :: r, vs, h => by
    simp only [List.map_cons, TrAll] at h
    obtain ⟨v, ws, rfl, h1, h2⟩ := h
    cases tr_str h1
    rw [keys_of2 h2]
    rfl
end EH
namespace EH
open PySem L2
/-! ### programs near the bounds -/
structure Gb (b : List Sm) (n : Nat) : Prop where
  ok : Sm.oks b
  vs : ∀ s ∈ b, VS s
  pl : Sm.pls b ≤ n
theorem Gb.nil : Gb [] 0 := ⟨by simp only [Sm.oks], (fun s h => nomatch h), by simp only [Sm.pls]; exact Nat.le_refl _⟩
theorem Gb.mono {b : List Sm} {n m : Nat} (g : Gb b n) (h : n ≤ m) : Gb b m := ⟨g.ok, g.vs, Nat.le_trans g.pl h⟩
theorem Gb.app {a b : List Sm} {n m : Nat} (g : Gb a n) (h : Gb b m) : Gb (a ++ b) (n + m) := by
  refine ⟨Sm.oks_app g.ok h.ok, fun s hs => ?_, by rw [Sm.pls_app]; exact Nat.add_le_add g.pl h.pl⟩
  rcases List.mem_append.mp hs with z | z
  · exact g.vs s z
  · exact h.vs s z
theorem Gb.one {s : Sm} {n : Nat} (h : s.ok) (v : VS s) (p : s.pl ≤ n) : Gb [s] n := by
  refine ⟨by simp only [Sm.oks]; exact ⟨h, trivial⟩, fun s' hs => ?_, by simp only [Sm.pls]; omega⟩
  cases List.mem_singleton.mp hs
  exact v
theorem Gb.rep {s : Sm} {n : Nat} (g : Gb [s] n) : ∀ k : Nat, Gb (List.replicate k s) (k * n)
  | 0 => by rw [Nat.zero_mul]; exact Gb.nil
  | k + 1 => by
    have := g.app (g.rep k)
    rw [show (k + 1) * n = n + k * n by rw [Nat.succ_mul, Nat.add_comm]]
    exact this
theorem vs_plain {s : Sm} (h : stmtB s.d = true) (i : s.inn = []) : VS s := .mk h fun s' hs => by rw [i] at hs; cases hs
theorem vs_rep {k : Nat} {b : List Sm} (hk : k ≤ 8) (h : ∀ s ∈ b, VS s) : VS (.rep k b) := by
  refine .mk ?_ h
  simp only [Sm.d, stmtB]
  rw [if_pos trivial]
  show (decide (0 ≤ (k : Int)) && decide ((k : Int) ≤ 8) && true) = true
  rw [decide_eq_true (by omega), decide_eq_true (by omega)]
  rfl
theorem vs_ite {t : Ts} {y n : List Sm} (ht : testB 2 t.d = true) (hy : ∀ s ∈ y, VS s) (hn : ∀ s ∈ n, VS s) : VS (.ite t y n) := by
  refine .mk ?_ fun s hs => ?_
  · simp only [Sm.d, stmtB, ht]
    rfl
  · rcases List.mem_append.mp hs with z | z
    · exact hy s z
    · exact hn s z
theorem nk_a : NmOk "a" := ⟨by decide +kernel, by decide +kernel⟩
theorem nk_n : NmOk "n" := ⟨by decide +kernel, by decide +kernel⟩
theorem gb_say : Gb [.say "go"] 1 := .one (by simp only [Sm.ok]; exact ⟨by decide +kernel, by decide +kernel⟩) (vs_plain (by decide +kernel) rfl) (by decide)
theorem gb_tell : Gb [.tell (.var "a")] 1 := .one (by simp only [Sm.ok]; exact ⟨nk_a, by decide⟩) (vs_plain (by decide +kernel) rfl) (by decide)
theorem gb_half : Gb [.half "a" (.var "n")] 1 := .one (by simp only [Sm.ok]; exact ⟨⟨nk_n, by decide⟩, nk_a⟩) (vs_plain (by decide +kernel) rfl) (by decide)
theorem gb_halfa : Gb [.half "a" (.var "a")] 1 := .one (by simp only [Sm.ok]; exact ⟨⟨nk_a, by decide⟩, nk_a⟩) (vs_plain (by decide +kernel) rfl) (by decide)
theorem gb_rep {k : Nat} {b : List Sm} {n : Nat} (hk : k ≤ 8) (g : Gb b n) : Gb [.rep k b] (n + 1) := .one (by simp only [Sm.ok]; exact ⟨hk, g.ok⟩) (vs_rep hk g.vs) (by simp only [Sm.pl]; have := g.pl; omega)
theorem gb_ite {t : Ts} {y z : List Sm} {n m : Nat} (ht : testB 2 t.d = true) (ok : t.ok) (no : t.nots ≤ 2) (g : Gb y n) (h : Gb z m) : Gb [.ite t y z] (n + m + 1) :=
  .one (by simp only [Sm.ok]; exact ⟨ok, no, g.ok, h.ok⟩) (vs_ite ht g.vs h.vs) (by simp only [Sm.pl]; have := g.pl; have := h.pl; omega)
theorem gb_less : Gb [.ite (.less (.var "a") (.var "n")) [] []] 1 := gb_ite (n := 0) (m := 0) (by decide +kernel) ⟨⟨nk_a, by decide⟩, nk_n, by decide⟩ (by decide) Gb.nil Gb.nil
theorem gb_odd1 : Gb [.ite (.not (.odd (.var "a"))) [.tell (.var "a")] []] 2 := gb_ite (n := 1) (m := 0) (by decide +kernel) ⟨nk_a, by decide⟩ (by decide) gb_tell Gb.nil
theorem gb_odd : Gb [.ite (.not (.odd (.var "a"))) [] []] 1 := gb_ite (n := 0) (m := 0) (by decide +kernel) ⟨nk_a, by decide⟩ (by decide) Gb.nil Gb.nil
theorem gb_less1 {b : List Sm} {n : Nat} (g : Gb b n) : Gb [.ite (.less (.num 1) (.var "n")) [] b] (n + 1) := (gb_ite (n := 0) (m := n) (t := .less (.num 1) (.var "n")) (by decide +kernel) ⟨⟨⟨by decide, by decide⟩, by decide⟩, nk_n, by decide⟩ (by decide) Gb.nil g).mono (by omega)
theorem gb_lessa : Gb [.ite (.not (.less (.var "a") (.num 1))) [] []] 1 := gb_ite (n := 0) (m := 0) (by decide +kernel) ⟨⟨nk_a, by decide⟩, ⟨by decide, by decide⟩, by decide⟩ (by decide) Gb.nil Gb.nil
def spGen (n : Nat) : Sp := fun vs H Q _ => ∃ (a c : Addr) (m : Int), vs = [.ref a] ∧ Deck H a c m ∧ m ≤ 600000000 ∧
  ∀ (v : V) (b : List Sm) (H' : Hp) (m' : Int), Tr H' (.tuple (Sm.ds b)) v → Gb b n → m ≤ m' → m' ≤ m + 30 → Deck H' a c m' → Kp [a, c] H H' → Q v H'
/-! ### what the errors look like -/
theorem ordE_rng : ∀ (f : Nat) (l : List (Int × PyData)) (p q : Int) (w : Str), ordE f l p = some (q, w) → p ≤ q ∧ q ≤ p + (dszs (stk l) : Int) ∧ (w = "nest" ∨ w = "statement")
  | 0, l, p, q, w, h => by cases h
  | f + 1, [], p, q, w, h => by cases h
  | f + 1, (dep, d) :: r, p, q, w, h => by
    simp only [ordE] at h
    have e : dszs (stk ((dep, d) :: r)) = dsz d + dszs (stk r) := by
      show dszs (d :: stk r) = _
      simp only [dszs]
    split at h
    · cases h
      exact ⟨Int.le_refl _, by omega, .inl rfl⟩
    · split at h
      · have hb := bitems_sz d
        have e2 : dszs (stk (((bitems d).map fun e => (dep + 1, e)) ++ r)) = dszs (bitems d) + dszs (stk r) := by rw [stk_app, stk_bi, dszs_app]
        obtain ⟨h1, h2, h3⟩ := ordE_rng f _ _ q w h
        exact ⟨by omega, by omega, h3⟩
      · cases h
        exact ⟨Int.le_refl _, by omega, .inr rfl⟩
theorem err_shw {x : PyData} {w : Str} (hx : x = .none ∨ ∃ i : Int, x = .int i ∧ kOk (BM - 1) (.inl i)) (hw : PyData.strOk w = true ∧ w.length ≤ 20) : Shw (.tuple [x, .str w]) := by
  have w1 : (PyData.str w).showable = true := kD_showable (k := .inr w) hw
  have w2 : (PyData.str w).leavesShort 241 = true := kD_short (k := .inr w) hw
  have w3 : (PyData.str w).weight ≤ 1000 := kD_weight (k := .inr w) hw
  have x1 : x.showable = true ∧ x.leavesShort 241 = true ∧ x.weight ≤ 1000 ∧ x.depth = 0 := by
    rcases hx with rfl | ⟨i, rfl, hi⟩
    · exact ⟨by simp only [PyData.showable], by simp only [PyData.leavesShort], by simp only [PyData.weight]; decide, by simp only [PyData.depth]⟩
    · exact ⟨kD_showable (k := .inl i) hi, kD_short (k := .inl i) hi, kD_weight (k := .inl i) hi, by simp only [PyData.depth]⟩
  refine shw_of (W := 4000) ?_ ?_ ?_ (by decide) ?_
  · rw [PyData.showable, PyData.showableAll, PyData.showableAll, PyData.showableAll, x1.1, w1]
    rfl
  · rw [PyData.leavesShort, PyData.leavesShortAll, PyData.leavesShortAll, PyData.leavesShortAll, x1.2.1, w2]
    rfl
  · rw [PyData.weight, PyData.weightAll, PyData.weightAll, PyData.weightAll]
    omega
  · rw [PyData.depth, PyData.depthAll, PyData.depthAll, PyData.depthAll, x1.2.2.2]
    simp [PyData.depth]
theorem none_shw : Shw .none := ⟨by decide +kernel, by decide +kernel, by decide +kernel⟩
theorem big_int {i : Int} (h1 : 0 ≤ i) (h2 : i ≤ 1000001) : kOk (BM - 1) (.inl i) := by
  show i.natAbs ≤ BM - 1
  have c : (1000001 : Int) ≤ ((BM - 1 : Nat) : Int) := by decide +kernel
  generalize BM - 1 = M at c ⊢
  omega
theorem PErr.shw {d e : PyData} (h : PErr d e) (hz : dsz d ≤ 1000000) : Shw e := by
  cases h with
  | prog h => exact err_shw (.inl rfl) ⟨by decide +kernel, by decide +kernel⟩
  | @ord ds p w h =>
    have hz : 1 + dszs ds ≤ 1000000 := by simpa only [dsz] using hz
    obtain ⟨h1, h2, h3⟩ := ordE_rng _ _ _ _ _ h
    rw [stk_bi] at h2
    refine err_shw (.inr ⟨p, rfl, big_int h1 (by omega)⟩) ?_
    rcases h3 with rfl | rfl <;> exact ⟨by decide +kernel, by decide +kernel⟩
  | @bnd b h =>
    have hw : ∀ w, bndErr b = some w → PyData.strOk w = true ∧ w.length ≤ 20 := by
      intro w hw
      unfold bndErr at hw
      split at hw
      · cases hw; exact ⟨by decide +kernel, by decide +kernel⟩
      · split at hw
        · cases hw; exact ⟨by decide +kernel, by decide +kernel⟩
        · split at hw
          · cases hw; exact ⟨by decide +kernel, by decide +kernel⟩
          · split at hw
            · cases hw; exact ⟨by decide +kernel, by decide +kernel⟩
            · cases hw
    cases hb : bndErr b with
    | none => exact none_shw
    | some w => exact err_shw (.inl rfl) (hw w hb)
/-- many plain statements: nothing is wrong but their number -/
theorem ord_flat {d : PyData} (hs : stmtB d = true) (hb : bitems d = []) : ∀ (k f : Nat) (p : Int), ordE f ((List.replicate k d).map fun e => ((0 : Int), e)) p = none
  | k, 0, p => rfl
  | 0, f + 1, p => rfl
  | k + 1, f + 1, p => by
    rw [List.replicate_succ, List.map_cons]
    simp only [ordE]
    rw [if_neg (by omega), if_pos hs, hb]
    exact ord_flat hs hb k f (p + 1)
theorem PErr.ne_none {d e : PyData} (h : PErr d e) : e = .none ∨ ∃ x w, e = .tuple [x, .str w] := by
  cases h with
  | prog h => exact .inr ⟨_, _, rfl⟩
  | ord h => exact .inr ⟨_, _, rfl⟩
  | @bnd b h =>
    cases hb : bndErr b with
    | none => exact .inl rfl
    | some w => exact .inr ⟨_, _, rfl⟩
theorem PErr.right {d : PyData} (h : PErr d .none) : ∃ b, d = .tuple (Sm.ds b) ∧ Sm.oks b ∧ Sm.nests b ≤ 4 ∧ Sm.pls b ≤ 24 ∧ Sm.wts b ≤ 60 := by
  generalize eN : PyData.none = e at h
  cases h with
  | prog h => cases eN
  | ord h => cases eN
  | @bnd b h =>
    obtain ⟨b', eb, ok', ns'⟩ := ordErr_none h
    cases Sm.ds_inj _ _ eb
    refine ⟨b, rfl, ok', ns', ?_⟩
    unfold bndErr at eN
    by_cases h1 : 24 < Sm.pls b
    · rw [if_pos h1] at eN; cases eN
    · rw [if_neg h1] at eN
      by_cases h2 : 60 < Sm.wts b
      · rw [if_pos h2] at eN; cases eN
      · omega
end EH
namespace EH
open PySem L2
/-! ### other names and other words -/
section
variable {X : Cx}
/-- x in (a, b, ..): data -/
def rInTT : R2 := fun x y H Q => ∃ a vs d ds, y = .ref a ∧ H a = some (.tup vs) ∧ TrAll H ds vs ∧ Tr H d x ∧ SeqAt.shaped d = true ∧ SeqAt.shaped (.tuple ds) = true ∧ Q (.bl (ds.any fun z => PyData.eqv z d)) H
theorem op_inTT (hu : X.A.units + 65 < cLine) : OpR X (compareOp .In) rInTT := by
  intro pins s σ H x y v u Q I rx ry h
  obtain ⟨a, vs, d, ds, e, ha, hds, hd, sd, se, q⟩ := h
  subst e
  obtain ⟨as, r1⟩ := Dp.reads I d x v (Tr.dp d x hd) rx
  obtain ⟨bs, r2⟩ := Dp.reads I (.tuple ds) (.ref a) u (Tr.dp (.tuple ds) (.ref a) (mk_tup ha hds)) ry
  refine SeqAt.in_tuple_reads r2 r1 ?_ (SeqAt.canLay_of_shaped sd) (PyProof.Rows.room_in_shaped sd hu) ⟨.bl _, H, I, rfl, q⟩
  have := SeqAt.canLay_of_shaped se
  simpa only [PyData.canLay0] using this
end
def gD (g : Str → Str) : PyData → PyData
  | .str z => .str (g z)
  | d => d
def isSS (w : Str) : Bool := w == "say" || w == "stop"
mutual
def rwD (f g : Str → Str) : PyData → PyData
  | .int i => .int i
  | .tuple ds => .tuple (rwT f g ds)
  | .str x => .str (f x)
  | .none => .none
  | .bool b => .bool b
  | .list ds => .list ds
  | .dict kvs => .dict kvs
def rwT (f g : Str → Str) : List PyData → List PyData
  | [] => []
  | .str w :: r => .str w :: (if isSS w = true then r.map (gD g) else rwDs f g r)
  | d :: r => rwD f g d :: rwDs f g r
def rwDs (f g : Str → Str) : List PyData → List PyData
  | [] => []
  | d :: r => rwD f g d :: rwDs f g r
end
mutual
/-- the words of say and stop are such as the law knows -/
def PlW : PyData → Prop
  | .tuple ds => PlWT ds
  | .str _ => True
  | .int _ => True
  | .none => False
  | .bool _ => False
  | .list _ => False
  | .dict _ => False
def PlWT : List PyData → Prop
  | [] => True
  | .str w :: r => (isSS w = true ∧ ∃ c, r = [.str c] ∧ WdIn c) ∨ (isSS w = false ∧ PlWs r)
  | d :: r => PlW d ∧ PlWs r
def PlWs : List PyData → Prop
  | [] => True
  | d :: r => PlW d ∧ PlWs r
end
theorem rwDs_map (f g : Str → Str) : ∀ l : List PyData, rwDs f g l = l.map (rwD f g)
  | [] => by simp only [rwDs, List.map_nil]
  | d :: r => by simp only [rwDs, List.map_cons, rwDs_map f g r]
theorem PlWs.mem : ∀ {ds : List PyData}, PlWs ds → ∀ d ∈ ds, PlW d
  | [], _, d, h => nomatch h
  | x :: r, h, d, hd => by
    simp only [PlWs] at h
    rcases List.mem_cons.mp hd with rfl | hd
    · exact h.1
    · exact PlWs.mem h.2 d hd
/-! programs -/
def Ex.rn (f : Str → Str) : Ex → Ex
  | .num i => .num i
  | .var x => .var (f x)
  | .plus a b => .plus (a.rn f) (b.rn f)
  | .minus a b => .minus (a.rn f) (b.rn f)
  | .times k a => .times k (a.rn f)
def Ts.rn (f : Str → Str) : Ts → Ts
  | .less a b => .less (a.rn f) (b.rn f)
  | .odd a => .odd (a.rn f)
  | .not t => .not (t.rn f)
mutual
def Sm.rn (f g : Str → Str) : Sm → Sm
  | .ite t y n => .ite (t.rn f) (Sm.rns f g y) (Sm.rns f g n)
  | .rep k b => .rep k (Sm.rns f g b)
  | .set x e => .set (f x) (e.rn f)
  | .half x e => .half (f x) (e.rn f)
  | .tell e => .tell (e.rn f)
  | .say c => .say (g c)
  | .stop c => .stop (g c)
def Sm.rns (f g : Str → Str) : List Sm → List Sm
  | [] => []
  | s :: r => s.rn f g :: Sm.rns f g r
end
section
variable {f g : Str → Str} {N : List Str}
theorem Ex.rn_d : ∀ e : Ex, rwD f g e.d = (e.rn f).d
  | .num i => by simp only [Ex.d, rwD, Ex.rn]
  | .var x => by simp only [Ex.d, rwD, Ex.rn]
  | .plus a b => by simp only [Ex.d, rwD, rwT, rwDs, Ex.rn, show isSS "plus" = false by decide +kernel, Ex.rn_d a, Ex.rn_d b]; rfl
  | .minus a b => by simp only [Ex.d, rwD, rwT, rwDs, Ex.rn, show isSS "minus" = false by decide +kernel, Ex.rn_d a, Ex.rn_d b]; rfl
  | .times k a => by simp only [Ex.d, rwD, rwT, rwDs, Ex.rn, show isSS "times" = false by decide +kernel, Ex.rn_d a]; rfl
theorem Ts.rn_d : ∀ t : Ts, rwD f g t.d = (t.rn f).d
  | .less a b => by simp only [Ts.d, rwD, rwT, rwDs, Ts.rn, show isSS "less" = false by decide +kernel, Ex.rn_d a, Ex.rn_d b]; rfl
  | .odd a => by simp only [Ts.d, rwD, rwT, rwDs, Ts.rn, show isSS "odd" = false by decide +kernel, Ex.rn_d a]; rfl
  | .not t => by simp only [Ts.d, rwD, rwT, rwDs, Ts.rn, show isSS "not" = false by decide +kernel, Ts.rn_d t]; rfl
theorem rwT_ds : ∀ b : List Sm, rwT f g (Sm.ds b) = rwDs f g (Sm.ds b)
  | [] => by simp only [Sm.ds, rwT, rwDs]
  | s :: r => by
    obtain ⟨w, ds, e⟩ := Sm.d_tup s
    simp only [Sm.ds, e, rwT, rwDs]
mutual
theorem Sm.rn_d : ∀ s : Sm, rwD f g s.d = (s.rn f g).d
  | .set x e => by simp only [Sm.d, rwD, rwT, rwDs, Sm.rn, show isSS "set" = false by decide +kernel, Ex.rn_d e]; rfl
  | .half x e => by simp only [Sm.d, rwD, rwT, rwDs, Sm.rn, show isSS "half" = false by decide +kernel, Ex.rn_d e]; rfl
  | .tell e => by simp only [Sm.d, rwD, rwT, rwDs, Sm.rn, show isSS "tell" = false by decide +kernel, Ex.rn_d e]; rfl
  | .say c => by simp only [Sm.d, rwD, rwT, Sm.rn, show isSS "say" = true by decide +kernel, List.map_cons, List.map_nil, gD]; rfl
  | .stop c => by simp only [Sm.d, rwD, rwT, Sm.rn, show isSS "stop" = true by decide +kernel, List.map_cons, List.map_nil, gD]; rfl
  | .ite t y n => by simp only [Sm.d, rwD, rwT, rwDs, Sm.rn, show isSS "if" = false by decide +kernel, Ts.rn_d t, rwT_ds, Sm.rns_d y, Sm.rns_d n]; rfl
  | .rep k b => by simp only [Sm.d, rwD, rwT, rwDs, Sm.rn, show isSS "repeat" = false by decide +kernel, rwT_ds, Sm.rns_d b]; rfl
theorem Sm.rns_d : ∀ b : List Sm, rwDs f g (Sm.ds b) = Sm.ds (Sm.rns f g b)
  | [] => by simp only [Sm.ds, rwDs, Sm.rns]
  | s :: r => by simp only [Sm.ds, rwDs, Sm.rns, Sm.rn_d s, Sm.rns_d r]
end
theorem rn_block (b : List Sm) : rwD f g (.tuple (Sm.ds b)) = .tuple (Sm.ds (Sm.rns f g b)) := by simp only [rwD, rwT_ds, Sm.rns_d]
theorem Ex.plw : ∀ e : Ex, PlW e.d
  | .num i => by simp only [Ex.d, PlW]
  | .var x => by simp only [Ex.d, PlW]
  | .plus a b => by simp only [Ex.d, PlW, PlWT, PlWs]; exact .inr ⟨by decide +kernel, Ex.plw a, Ex.plw b, trivial⟩
  | .minus a b => by simp only [Ex.d, PlW, PlWT, PlWs]; exact .inr ⟨by decide +kernel, Ex.plw a, Ex.plw b, trivial⟩
  | .times k a => by simp only [Ex.d, PlW, PlWT, PlWs]; exact .inr ⟨by decide +kernel, trivial, Ex.plw a, trivial⟩
theorem Ts.plw : ∀ t : Ts, PlW t.d
  | .less a b => by simp only [Ts.d, PlW, PlWT, PlWs]; exact .inr ⟨by decide +kernel, Ex.plw a, Ex.plw b, trivial⟩
  | .odd a => by simp only [Ts.d, PlW, PlWT, PlWs]; exact .inr ⟨by decide +kernel, Ex.plw a, trivial⟩
  | .not t => by simp only [Ts.d, PlW, PlWT, PlWs]; exact .inr ⟨by decide +kernel, Ts.plw t, trivial⟩
theorem plwt_ds : ∀ b : List Sm, PlWs (Sm.ds b) → PlWT (Sm.ds b)
  | [], _ => by simp only [Sm.ds, PlWT]
  | s :: r, h => by
    obtain ⟨w, ds, e⟩ := Sm.d_tup s
    simp only [Sm.ds, e, PlWT, PlWs] at h ⊢
    exact h
mutual
theorem Sm.plw : ∀ s : Sm, s.inN N → PlW s.d
  | .set x e, _ => by simp only [Sm.d, PlW, PlWT, PlWs]; exact .inr ⟨by decide +kernel, trivial, Ex.plw e, trivial⟩
  | .half x e, _ => by simp only [Sm.d, PlW, PlWT, PlWs]; exact .inr ⟨by decide +kernel, trivial, Ex.plw e, trivial⟩
  | .tell e, _ => by simp only [Sm.d, PlW, PlWT, PlWs]; exact .inr ⟨by decide +kernel, Ex.plw e, trivial⟩
  | .say c, h => by simp only [Sm.inN] at h; simp only [Sm.d, PlW, PlWT, PlWs]; exact .inl ⟨by decide +kernel, c, rfl, h⟩
  | .stop c, h => by simp only [Sm.inN] at h; simp only [Sm.d, PlW, PlWT, PlWs]; exact .inl ⟨by decide +kernel, c, rfl, h⟩
  | .ite t y n, h => by
    simp only [Sm.inN] at h
    simp only [Sm.d, PlW, PlWT, PlWs]
    exact .inr ⟨by decide +kernel, Ts.plw t, plwt_ds y (Sm.plws y h.2.1), plwt_ds n (Sm.plws n h.2.2), trivial⟩
  | .rep k b, h => by
    simp only [Sm.inN] at h
    simp only [Sm.d, PlW, PlWT, PlWs]
    exact .inr ⟨by decide +kernel, trivial, plwt_ds b (Sm.plws b h), trivial⟩
theorem Sm.plws : ∀ b : List Sm, Sm.insN N b → PlWs (Sm.ds b)
  | [], _ => by simp only [Sm.ds, PlWs]
  | s :: r, h => by
    simp only [Sm.insN] at h
    simp only [Sm.ds, PlWs]
    exact ⟨Sm.plw s h.1, Sm.plws r h.2⟩
end
/-! what stays -/
theorem Ex.rn_ok (hf : ∀ x, NmOk x → NmOk (f x)) : ∀ {e : Ex}, e.ok → (e.rn f).ok ∧ (e.rn f).deep = e.deep
  | .num i, h => ⟨h, rfl⟩
  | .var x, h => ⟨hf x h, rfl⟩
  | .plus a b, h => by
    obtain ⟨a1, a2⟩ := Ex.rn_ok hf (e := a) h.1
    obtain ⟨b1, b2⟩ := Ex.rn_ok hf (e := b) h.2
    exact ⟨⟨a1, b1⟩, by simp only [Ex.rn, Ex.deep, a2, b2]⟩
  | .minus a b, h => by
    obtain ⟨a1, a2⟩ := Ex.rn_ok hf (e := a) h.1
    obtain ⟨b1, b2⟩ := Ex.rn_ok hf (e := b) h.2
    exact ⟨⟨a1, b1⟩, by simp only [Ex.rn, Ex.deep, a2, b2]⟩
  | .times k a, h => by
    obtain ⟨a1, a2⟩ := Ex.rn_ok hf (e := a) h.2.2
    exact ⟨⟨h.1, h.2.1, a1⟩, by simp only [Ex.rn, Ex.deep, a2]⟩
end
end EH
namespace EH
open PySem L2
section
variable {f g : Str → Str} {N : List Str}
theorem Ts.rn_ok (hf : ∀ x, NmOk x → NmOk (f x)) : ∀ {t : Ts}, t.ok → (t.rn f).ok ∧ (t.rn f).nots = t.nots
  | .less a b, h => by
    obtain ⟨a1, a2⟩ := Ex.rn_ok hf (e := a) h.1.1
    obtain ⟨b1, b2⟩ := Ex.rn_ok hf (e := b) h.2.1
    exact ⟨⟨⟨a1, by rw [a2]; exact h.1.2⟩, b1, by rw [b2]; exact h.2.2⟩, rfl⟩
  | .odd a, h => by
    obtain ⟨a1, a2⟩ := Ex.rn_ok hf (e := a) h.1
    exact ⟨⟨a1, by rw [a2]; exact h.2⟩, rfl⟩
  | .not t, h => by
    obtain ⟨a1, a2⟩ := Ts.rn_ok hf (t := t) h
    exact ⟨a1, by simp only [Ts.rn, Ts.nots, a2]⟩
theorem Ts.rn_odd : ∀ t : Ts, (t.rn f).isOdd = t.isOdd
  | .less a b => rfl
  | .odd a => rfl
  | .not t => Ts.rn_odd t
/-- words stay words -/
def GOk (g : Str → Str) : Prop := ∀ c, PyData.strOk c = true ∧ c.length ≤ 20 → PyData.strOk (g c) = true ∧ (g c).length ≤ 20
mutual
theorem Sm.rn_ok (hf : ∀ x, NmOk x → NmOk (f x)) (hg : GOk g) : ∀ {s : Sm}, s.ok → (s.rn f g).ok
  | .ite t y n, h => by
    simp only [Sm.ok] at h
    simp only [Sm.rn, Sm.ok]
    obtain ⟨a1, a2⟩ := Ts.rn_ok hf h.1
    exact ⟨a1, by rw [a2]; exact h.2.1, Sm.rns_ok hf hg h.2.2.1, Sm.rns_ok hf hg h.2.2.2⟩
  | .rep k b, h => by
    simp only [Sm.ok] at h
    simp only [Sm.rn, Sm.ok]
    exact ⟨h.1, Sm.rns_ok hf hg h.2⟩
  | .set x e, h => by
    simp only [Sm.ok] at h
    simp only [Sm.rn, Sm.ok]
    obtain ⟨a1, a2⟩ := Ex.rn_ok hf h.1.1
    exact ⟨⟨a1, by rw [a2]; exact h.1.2⟩, hf x h.2⟩
  | .half x e, h => by
    simp only [Sm.ok] at h
    simp only [Sm.rn, Sm.ok]
    obtain ⟨a1, a2⟩ := Ex.rn_ok hf h.1.1
    exact ⟨⟨a1, by rw [a2]; exact h.1.2⟩, hf x h.2⟩
  | .tell e, h => by
    simp only [Sm.ok] at h
    simp only [Sm.rn, Sm.ok]
    obtain ⟨a1, a2⟩ := Ex.rn_ok hf h.1
    exact ⟨a1, by rw [a2]; exact h.2⟩
  | .say c, h => by
    simp only [Sm.ok] at h
    simp only [Sm.rn, Sm.ok]
    exact hg c h
  | .stop c, h => by
    simp only [Sm.ok] at h
    simp only [Sm.rn, Sm.ok]
    exact hg c h
theorem Sm.rns_ok (hf : ∀ x, NmOk x → NmOk (f x)) (hg : GOk g) : ∀ {b : List Sm}, Sm.oks b → Sm.oks (Sm.rns f g b)
  | [], _ => by simp only [Sm.rns, Sm.oks]
  | s :: r, h => by
    simp only [Sm.oks] at h
    simp only [Sm.rns, Sm.oks]
    exact ⟨Sm.rn_ok hf hg h.1, Sm.rns_ok hf hg h.2⟩
end
mutual
theorem Sm.rn_eq : ∀ s : Sm, (s.rn f g).pl = s.pl ∧ (s.rn f g).wt = s.wt ∧ (s.rn f g).hv = s.hv ∧ (s.rn f g).cp = s.cp ∧ (s.rn f g).nest = s.nest
  | .ite t y n => by
    have h1 := Sm.rns_eq y
    have h2 := Sm.rns_eq n
    simp only [Sm.rn, Sm.pl, Sm.wt, Sm.hv, Sm.cp, Sm.nest, Ts.rn_odd, h1, h2]
    exact ⟨trivial, trivial, trivial, trivial, trivial⟩
  | .rep k b => by
    have h1 := Sm.rns_eq b
    simp only [Sm.rn, Sm.pl, Sm.wt, Sm.hv, Sm.cp, Sm.nest, h1]
    exact ⟨trivial, trivial, trivial, trivial, trivial⟩
  | .set x e => by simp only [Sm.rn, Sm.pl, Sm.wt, Sm.hv, Sm.cp, Sm.nest]; exact ⟨trivial, trivial, trivial, trivial, trivial⟩
  | .half x e => by simp only [Sm.rn, Sm.pl, Sm.wt, Sm.hv, Sm.cp, Sm.nest]; exact ⟨trivial, trivial, trivial, trivial, trivial⟩
  | .tell e => by simp only [Sm.rn, Sm.pl, Sm.wt, Sm.hv, Sm.cp, Sm.nest]; exact ⟨trivial, trivial, trivial, trivial, trivial⟩
  | .say c => by simp only [Sm.rn, Sm.pl, Sm.wt, Sm.hv, Sm.cp, Sm.nest]; exact ⟨trivial, trivial, trivial, trivial, trivial⟩
  | .stop c => by simp only [Sm.rn, Sm.pl, Sm.wt, Sm.hv, Sm.cp, Sm.nest]; exact ⟨trivial, trivial, trivial, trivial, trivial⟩
theorem Sm.rns_eq : ∀ b : List Sm, Sm.pls (Sm.rns f g b) = Sm.pls b ∧ Sm.wts (Sm.rns f g b) = Sm.wts b ∧ Sm.hvs (Sm.rns f g b) = Sm.hvs b ∧ Sm.cps (Sm.rns f g b) = Sm.cps b ∧ Sm.nests (Sm.rns f g b) = Sm.nests b
  | [] => by simp only [Sm.rns]; exact ⟨trivial, trivial, trivial, trivial, trivial⟩
  | s :: r => by
    have h1 := Sm.rn_eq s
    have h2 := Sm.rns_eq r
    simp only [Sm.rns, Sm.pls, Sm.wts, Sm.hvs, Sm.cps, Sm.nests, h1, h2]
    exact ⟨trivial, trivial, trivial, trivial, trivial⟩
end
theorem PrOk.rn (hf : ∀ x, NmOk x → NmOk (f x)) (hg : GOk g) {b : List Sm} (h : PrOk b) : PrOk (Sm.rns f g b) := by
  obtain ⟨h1, h2, h3, h4, h5⟩ := Sm.rns_eq (f := f) (g := g) b
  exact ⟨Sm.rns_ok hf hg h.ok, by rw [h5]; exact h.nest, by rw [h1]; exact h.pl, by rw [h2]; exact h.wt, by rw [h3]; exact h.hv, by rw [h4]; exact h.cp⟩
/-! runs -/
theorem Ex.rn_ev {env env' : Str → Int} (h : ∀ x ∈ N, env' (f x) = env x) : ∀ e : Ex, e.inN N → (e.rn f).ev env' = e.ev env
  | .num i, _ => rfl
  | .var x, hx => h x hx
  | .plus a b, hx => by
    show (a.rn f).ev env' + (b.rn f).ev env' = a.ev env + b.ev env
    rw [Ex.rn_ev h a hx.1, Ex.rn_ev h b hx.2]
  | .minus a b, hx => by
    show (a.rn f).ev env' - (b.rn f).ev env' = a.ev env - b.ev env
    rw [Ex.rn_ev h a hx.1, Ex.rn_ev h b hx.2]
  | .times k a, hx => by
    show k * (a.rn f).ev env' = k * a.ev env
    rw [Ex.rn_ev h a hx]
theorem Ts.rn_ev {env env' : Str → Int} (h : ∀ x ∈ N, env' (f x) = env x) : ∀ t : Ts, t.inN N → (t.rn f).ev env' = t.ev env
  | .less a b, hx => by
    show decide ((a.rn f).ev env' < (b.rn f).ev env') = decide (a.ev env < b.ev env)
    rw [Ex.rn_ev h a hx.1, Ex.rn_ev h b hx.2]
  | .odd a, hx => by
    show decide ((a.rn f).ev env' % 2 = 1) = decide (a.ev env % 2 = 1)
    rw [Ex.rn_ev h a hx]
  | .not t, hx => by
    show (!(t.rn f).ev env') = !t.ev env
    rw [Ts.rn_ev h t hx]
def gK (g : Str → Str) : Key → Key
  | .inl i => .inl i
  | .inr c => .inr (g c)
structure RS (f g : Str → Str) (N : List Str) (s s' : Cs) : Prop where
  env : ∀ x ∈ N, s'.env (f x) = s.env x
  said : s'.said = s.said.map (gK g)
  turns : s'.turns = s.turns
def RR (f g : Str → Str) (N : List Str) (r r' : Option Str × Cs) : Prop := r'.1 = r.1.map g ∧ RS f g N r.2 r'.2
theorem RR.iter {u u' : Cs → Option Str × Cs} (h : ∀ s s', RS f g N s s' → RR f g N (u s) (u' s')) : ∀ (k : Nat) (s s' : Cs), RS f g N s s' → RR f g N (iterN k u s) (iterN k u' s')
  | 0, s, s', m => ⟨rfl, m⟩
  | k + 1, s, s', m => by
    obtain ⟨h1, h2⟩ := h s s' m
    rw [iterN, iterN]
    cases e : u s with
    | mk c t =>
      cases e' : u' s' with
      | mk c' t' =>
        rw [e, e'] at h1 h2
        cases c with
        | none =>
          cases (show c' = none from h1)
          exact RR.iter h k t t' h2
        | some c =>
          cases (show c' = some (g c) from h1)
          exact ⟨rfl, h2⟩
variable {chs : List Int}
theorem halv_rn {s s' : Cs} (m : RS f g N s s') (v p p' : Int) : (halv (decC chs) noWay s' v p').1 = (halv (decC chs) noWay s v p).1 ∧ RS f g N (halv (decC chs) noWay s v p).2 (halv (decC chs) noWay s' v p').2 := by
  by_cases h : v % 2 = 0
  · unfold halv
    rw [if_pos h, if_pos h]
    exact ⟨rfl, m⟩
  · unfold halv
    rw [if_neg h, if_neg h]
    show v / 2 + chs.getD s'.turns.length 0 = v / 2 + chs.getD s.turns.length 0 ∧ RS f g N { s with turns := s.turns ++ [chs.getD s.turns.length 0] } { s' with turns := s'.turns ++ [chs.getD s'.turns.length 0] }
    rw [m.turns]
    exact ⟨rfl, m.env, m.said, rfl⟩
theorem setE_rn {env env' : Str → Int} (inj : ∀ x ∈ N, ∀ y ∈ N, f x = f y → x = y) (h : ∀ x ∈ N, env' (f x) = env x) {x : Str} (hx : x ∈ N) (v : Int) : ∀ y ∈ N, setE env' (f x) v (f y) = setE env x v y := by
  intro y hy
  unfold setE
  by_cases e : y = x
  · rw [if_pos e, if_pos (by rw [e])]
  · rw [if_neg e, if_neg fun z => e (inj y hy x hx z)]
    exact h y hy
mutual
theorem Sm.run_rn (inj : ∀ x ∈ N, ∀ y ∈ N, f x = f y → x = y) : ∀ (t : Sm), t.inN N → ∀ (p p' : Int) (s s' : Cs), RS f g N s s' → RR f g N (t.run (decC chs) noWay p s) ((t.rn f g).run (decC chs) noWay p' s')
  | .ite t y n, h, p, p', s, s', m => by
    simp only [Sm.inN] at h
    simp only [Sm.rn, Sm.run, Ts.rn_ev m.env t h.1]
    split
    · exact Sm.runs_rn inj y h.2.1 _ _ s s' m
    · exact Sm.runs_rn inj n h.2.2 _ _ s s' m
  | .rep k b, h, p, p', s, s', m => by
    simp only [Sm.inN] at h
    simp only [Sm.rn, Sm.run]
    exact RR.iter (fun s s' m => Sm.runs_rn inj b h _ _ s s' m) k s s' m
  | .set x e, h, p, p', s, s', m => by
    simp only [Sm.inN] at h
    simp only [Sm.rn, Sm.run, Ex.rn_ev m.env e h.1]
    exact ⟨rfl, setE_rn inj m.env h.2 _, m.said, m.turns⟩
  | .half x e, h, p, p', s, s', m => by
    simp only [Sm.inN] at h
    simp only [Sm.rn, Sm.run, Ex.rn_ev m.env e h.1]
    obtain ⟨h1, h2⟩ := halv_rn (chs := chs) m (e.ev s.env) p p'
    rw [h1]
    exact ⟨rfl, setE_rn inj m.env h.2 _, h2.said, h2.turns⟩
  | .tell e, h, p, p', s, s', m => by
    simp only [Sm.inN] at h
    simp only [Sm.rn, Sm.run, Ex.rn_ev m.env e h]
    refine ⟨rfl, m.env, ?_, m.turns⟩
    show s'.said ++ _ = (s.said ++ _).map (gK g)
    rw [m.said, List.map_append]
    rfl
  | .say c, h, p, p', s, s', m => by
    simp only [Sm.rn, Sm.run]
    refine ⟨rfl, m.env, ?_, m.turns⟩
    show s'.said ++ _ = (s.said ++ _).map (gK g)
    rw [m.said, List.map_append]
    rfl
  | .stop c, h, p, p', s, s', m => by
    simp only [Sm.rn, Sm.run]
    exact ⟨rfl, m⟩
theorem Sm.runs_rn (inj : ∀ x ∈ N, ∀ y ∈ N, f x = f y → x = y) : ∀ (b : List Sm), Sm.insN N b → ∀ (p p' : Int) (s s' : Cs), RS f g N s s' → RR f g N (Sm.runs (decC chs) noWay b p s) (Sm.runs (decC chs) noWay (Sm.rns f g b) p' s')
  | [], h, p, p', s, s', m => by
    simp only [Sm.rns, Sm.runs]
    exact ⟨rfl, m⟩
  | t :: r, h, p, p', s, s', m => by
    simp only [Sm.insN] at h
    obtain ⟨h1, h2⟩ := Sm.run_rn inj t h.1 p p' s s' m
    simp only [Sm.rns, Sm.runs]
    cases e : Sm.run (decC chs) noWay t p s with
    | mk c u =>
      cases e' : Sm.run (decC chs) noWay (t.rn f g) p' s' with
      | mk c' u' =>
        rw [e, e'] at h1 h2
        cases c with
        | none =>
          cases (show c' = none from h1)
          exact Sm.runs_rn inj r h.2 _ _ u u' h2
        | some c =>
          cases (show c' = some (g c) from h1)
          exact ⟨rfl, h2⟩
end
theorem rn_res {r r' : Option Str × Cs} (h : RR f g N r r') : resD r' = .tuple [.tuple ((r.2.said.map (gK g)).map kD), wD (r.1.map g), .tuple (r.2.turns.map PyData.int)] := by
  unfold resD
  rw [h.2.said, h.2.turns, h.1]
/-! what is said is a word of the law's -/
def SaidIn (s : Cs) : Prop := ∀ c, Sum.inr c ∈ s.said → WdIn c
def ResIn (r : Option Str × Cs) : Prop := (∀ c, r.1 = some c → WdIn c) ∧ SaidIn r.2
theorem ResIn.iter {u : Cs → Option Str × Cs} (h : ∀ s, SaidIn s → ResIn (u s)) : ∀ (k : Nat) (s : Cs), SaidIn s → ResIn (iterN k u s)
  | 0, s, m => ⟨fun c e => (nomatch e), m⟩
  | k + 1, s, m => by
    obtain ⟨h1, h2⟩ := h s m
    rw [iterN]
    cases e : u s with
    | mk c t =>
      rw [e] at h1 h2
      cases c with
      | none => exact ResIn.iter h k t h2
      | some c => exact ⟨h1, h2⟩
theorem said_snoc {s : Cs} (m : SaidIn s) {k : Key} (hk : ∀ c, k = .inr c → WdIn c) : SaidIn { s with said := s.said ++ [k] } := by
  intro c hc
  rcases List.mem_append.mp hc with z | z
  · exact m c z
  · exact hk c (List.mem_singleton.mp z).symm
mutual
theorem Sm.run_in {dec : Nat → Int → Int → Int} {ways : Int → Option Int} : ∀ (t : Sm), t.inN N → ∀ (p : Int) (s : Cs), SaidIn s → ResIn (t.run dec ways p s)
  | .ite t y n, h, p, s, m => by
    simp only [Sm.inN] at h
    simp only [Sm.run]
    split
    · exact Sm.runs_in y h.2.1 _ s m
    · exact Sm.runs_in n h.2.2 _ s m
  | .rep k b, h, p, s, m => by
    simp only [Sm.inN] at h
    simp only [Sm.run]
    exact ResIn.iter (fun s m => Sm.runs_in b h _ s m) k s m
  | .set x e, h, p, s, m => by
    simp only [Sm.run]
    exact ⟨fun c e => (nomatch e), m⟩
  | .half x e, h, p, s, m => by
    simp only [Sm.run]
    refine ⟨fun c e => (nomatch e), ?_⟩
    show ∀ c, Sum.inr c ∈ (halv dec ways s (e.ev s.env) p).2.said → WdIn c
    have : (halv dec ways s (e.ev s.env) p).2.said = s.said := by
      unfold halv
      split
      · rfl
      split <;> rfl
    rw [this]
    exact m
  | .tell e, h, p, s, m => by
    simp only [Sm.run]
    exact ⟨fun c e => (nomatch e), said_snoc m fun c e => (nomatch e)⟩
  | .say c, h, p, s, m => by
    simp only [Sm.inN] at h
    simp only [Sm.run]
    exact ⟨fun c e => (nomatch e), said_snoc m fun c' e => by cases e; exact h⟩
  | .stop c, h, p, s, m => by
    simp only [Sm.inN] at h
    simp only [Sm.run]
    exact ⟨fun c' e => by cases e; exact h, m⟩
theorem Sm.runs_in {dec : Nat → Int → Int → Int} {ways : Int → Option Int} : ∀ (b : List Sm), Sm.insN N b → ∀ (p : Int) (s : Cs), SaidIn s → ResIn (Sm.runs dec ways b p s)
  | [], h, p, s, m => by
    simp only [Sm.runs]
    exact ⟨fun c e => (nomatch e), m⟩
  | t :: r, h, p, s, m => by
    simp only [Sm.insN] at h
    obtain ⟨h1, h2⟩ := Sm.run_in (dec := dec) (ways := ways) t h.1 p s m
    simp only [Sm.runs]
    cases e : Sm.run dec ways t p s with
    | mk c u =>
      rw [e] at h1 h2
      cases c with
      | none => exact Sm.runs_in r h.2 _ u h2
      | some c => exact ⟨h1, h2⟩
end
end
theorem PErr.pr4 {d : PyData} (h : PErr d .none) {b : List Sm} (e : d = .tuple (Sm.ds b)) : PrOk b := by
  generalize eN : PyData.none = e' at h
  cases h with
  | prog h => cases eN
  | ord h => cases eN
  | @bnd b1 h =>
    cases Sm.ds_inj _ _ (PyData.tuple.inj e)
    obtain ⟨b', eb, ok', ns'⟩ := ordErr_none h
    cases Sm.ds_inj _ _ eb
    unfold bndErr at eN
    by_cases h1 : 24 < Sm.pls b
    · rw [if_pos h1] at eN; cases eN
    rw [if_neg h1] at eN
    by_cases h2 : 60 < Sm.wts b
    · rw [if_pos h2] at eN; cases eN
    rw [if_neg h2] at eN
    by_cases h3 : 4 < Sm.hvs b
    · rw [if_pos h3] at eN; cases eN
    rw [if_neg h3] at eN
    by_cases h4 : 3 < Sm.cps b
    · rw [if_pos h4] at eN; cases eN
    exact ⟨ok', ns', by omega, by omega, by omega, by omega⟩
end EH
namespace EH
open PySem PySem.Spec PyProof.Rows L2
def RnRel (kvs : List (Key × V)) (f : Str → Str) : Prop := ∀ y : Str, (valV kvs (Sum.inr y)).getD (.str y) = .str (f y)
def WRel (kvs : List (Key × V)) (g : Str → Str) : Prop := ∀ c : Str, WdIn c → valV kvs (Sum.inr c) = some (.str (g c))
theorem WRel.get {kvs : List (Key × V)} {g : Str → Str} {H : Hp} {wd : Addr} {c : Str} (h : WRel kvs g) (hc : WdIn c) (e : H wd = some (.dK kvs)) : DGet H wd (.str c) (some (.str (g c))) := by
  have := DGet.k (k := Sum.inr c) e
  rw [h c hc] at this
  exact this
def spRnw (n : Nat) : Sp := fun vs H Q _ => ∃ (v : V) (d : PyData) (nd wd : Addr) (kvs wvs : List (Key × V)) (f g : Str → Str), vs = [v, .ref nd, .ref wd] ∧ Tr H d v ∧ PlW d ∧ Gd d ∧ d.depth ≤ n ∧ n ≤ 60 ∧
  H nd = some (.dK kvs) ∧ RnRel kvs f ∧ H wd = some (.dK wvs) ∧ WRel wvs g ∧ ∀ (t : V) (H' : Hp), Tr H' (rwD f g d) t → Kp [] H H' → Q t H'
def ssD : List PyData := [.str "say", .str "stop"]
theorem ssD_tr {H : Hp} : TrAll H ssD [.str "say", .str "stop"] := trs_cons mk_str (trs_cons mk_str trs_nil)
theorem ssD_sh : SeqAt.shaped (.tuple ssD) = true := shaped_of (by simp only [ssD, PyData.canLay0, PyData.canLayAll0]; decide +kernel) (by simp only [ssD, PyData.depth, PyData.depthAll]; decide)
theorem ss_str (w : Str) : (ssD.any fun z => PyData.eqv z (.str w)) = isSS w := by
  simp only [ssD, List.any_cons, List.any_nil, PyData.eqv, isSS, Bool.or_false]
  have e : ∀ a b : Str, (a == b) = (b == a) := fun a b => by
    by_cases h : a = b
    · subst h; rfl
    · rw [beq_eq_false_iff_ne.mpr h, beq_eq_false_iff_ne.mpr (Ne.symm h)]
  rw [e "say" w, e "stop" w]
theorem ss_int (i : Int) : (ssD.any fun z => PyData.eqv z (.int i)) = false := by simp [ssD, PyData.eqv]
theorem ss_tup (ds : List PyData) : (ssD.any fun z => PyData.eqv z (.tuple ds)) = false := by simp [ssD, PyData.eqv]
/-- dict of a list of pairs -/
def rDictP4 (K : PySem.W.Frag) : List V → Hp → VK → Prop := fun xs H Q => ∃ (a : Addr) (ps : List Addr) (kvs : List (Key × V)), xs = [.ref a] ∧ SqL K H a (ps.map V.ref) ∧ Paired (fun p kv => SqT K H p [kV kv.1, kv.2]) ps kvs ∧
  ∀ (p : Addr) (H' : Hp), H p = none → H' p = some (.dK (mergeK [] kvs)) → Kp [] H H' → Q (.ref p) H'
theorem call_dictP4 {X : Cx} {K : PySem.W.Frag} (hK : X.K = K) (hc : X.calm = true) : CallR X (.type "dict") (rDictP4 K) := hK ▸ CallR.imp (call_dictP hc) fun xs H Q ⟨a, ps, kvs, e, h1, h2, q⟩ => ⟨a, ps, kvs, e, h1, h2, fun p hp => q p _ hp upd_same (Kp.new hp)⟩
theorem mergeThree {a b c : Key} {x y z : V} (hab : a ≠ b) (hac : a ≠ c) (hbc : b ≠ c) : mergeK [] [(a, x), (b, y), (c, z)] = [(a, x), (b, y), (c, z)] := by
  simp [mergeK, putK, hab, hac, hbc]
theorem hu65_4 {A : Around} {k : Nat} (hr : Room k A) : A.units + 65 < cLine := by have := hr.un; omega
theorem rwDs_snoc (f g : Str → Str) (a : List PyData) (d : PyData) : rwDs f g (a ++ [d]) = rwDs f g a ++ [rwD f g d] := by rw [rwDs_map, rwDs_map, List.map_append]; rfl
end EH
namespace EH
open PySem L2
local macro_rules | `(tactic| walk_at "sd") => `(tactic| first | assumption | ((with_reducible show (_ : Int) ≤ _); omega) | ((with_reducible show (_ : Int) < _); omega) | rfl | exact SqL.of (by assumption) | exact SqT.of (by assumption) | exact atI_nat (j := 0) rfl | exact atI_nat (j := 1) rfl | exact atI_nat (j := 2) rfl | exact atI_nat (j := 3) rfl | exact sz_lit rfl | exact lt_lit rfl | exact pos_lit rfl | exact le_lit rfl | exact Or.inl (SqL.of (by assumption)) | exact ⟨_, SqL.of (by assumption)⟩ | exact ⟨_, SqT.of (by assumption)⟩ | exact Or.inr (SqT.of (by assumption)) | exact ClsV.ty _ | exact TyX.base (TyOf.int _) | exact TyX.base (TyOf.str _) | exact TyX.base (TyOf.tup (by assumption)) | exact kit_ty isi_ss | exact kit_ty isi_is | exact kit_ty isi_ts | exact kit_ty isi_si | exact kit_ty isi_ii | exact kit_ty isi_ti | exact kit_ty isi_st | exact kit_ty isi_it | exact kit_ty isi_tt | exact Or.inl ⟨_, Or.inl (by assumption)⟩ | exact DGet.k (k := Sum.inr _) (by assumption) | exact DGet.k (k := Sum.inl _) (by assumption) | (refine cpow_of ?_; decide) | (refine cmul_of ?_; decide) | (show (_ : Int) ≠ 0; first | decide | omega) | (refine cdivn_of ?_; decide) | exact Or.inl ⟨rfl, _, SqL.of (by assumption)⟩ | omega)
local macro_rules | `(tactic| walk_at "st") => `(tactic| first | (apply Exists.intro) | (refine And.intro ?_ ?_; focus (walk_at "sd")) | (apply Or.inl; apply Exists.intro; refine And.intro ?_ ?_; focus rfl) | (apply Or.inr; apply Exists.intro; refine And.intro ?_ ?_; focus rfl))
local macro_rules | `(tactic| walk_at "go") => `(tactic| repeat (walk_at "st"))
section
variable {P : Program} {w : World} {K : PySem.W.Frag} {mg : Str → Option Value} {base : Heap}
theorem ok_l_renamed (T : Top K mg) : ∀ n : Nat, FnOk P w K mg base CX0 (n + 1) T.l_renamed.f T.l_renamed.fd ["_law_value", "_law_names_here", "_law_words"] (spRnw n)
  | n => by
    have G_l_renamed : FnOk P w K mg base CX0 n T.l_renamed.f T.l_renamed.fd ["_law_value", "_law_names_here", "_law_words"] (fun vs H Q E => ∃ n', n = n' + 1 ∧ spRnw n' vs H Q E) := by
      cases n with
      | zero => exact fn_no (fun _ _ _ _ ⟨_, e, _⟩ => nomatch e)
      | succ m => exact (ok_l_renamed T m).imp fun _ _ _ _ ⟨N', e, h⟩ => (Nat.succ.inj e) ▸ h
    refine T.l_renamed.F.ok sc_l_renamed (fun vs H Q E h => ?_) (fun cdv A outer s H vs Q E hr h => ?_)
    · obtain ⟨v, d, nd, wd, kvs, wvs, f, g, rfl, _⟩ := h
      rfl
    obtain ⟨v, d, nd, wd, kvs, wvs, f, g, rfl, hT, pw, gd, dd, hn60, hnd, rr, hwd, ww, q⟩ := h
    have hu64 := hr.units
    have hu := hu_of hr
    have hu65 := hu65_4 hr
    refine ⟨_, (pss_cons (ps_if (pt_not (pt_val (pe_callB (id := "isinstance") (call_isiK (K := K) rfl) (by rfl) T.isinstance (by decide +kernel) (pa_cons (pv 0) (pa_cons (pe_bltn (v := .ty "tuple") (u := .type "tuple") (by rfl) T.tuple (by decide +kernel) rfl) pa_nil))))) (pss_one (ps_ret (pe_ifExp (pt_val (pe_callB (id := "isinstance") (call_isiK (K := K) rfl) (by rfl) T.isinstance (by decide +kernel) (pa_cons (pv 0) (pa_cons (pe_bltn (v := .ty "str") (u := .type "str") (by rfl) T.str (by decide +kernel) rfl) pa_nil)))) (pe_dget2 hu (pv 1) (pv 0) (pv 0) ⟨by rfl, by rfl, by rfl, by rfl⟩) (pv 0)))) pss_nil)
      (pss_cons (ps_if (PW.pt (pw_and (pt_cmpR (op_neT hu64) (pv 0) (pe_tupA pa_nil) (nomark _)) (pw_and1 (pt_cmpR (op_inTT hu65) (pe_ix (ix_tupK (K := K) rfl) (pv 0) pe_int (fun _ _ => rfl)) (pe_tupA (pa_cons pe_str (pa_cons pe_str pa_nil))) (by rfl))))) (pss_one (ps_ret (pe_tupA (pa_cons (pe_ix (ix_tupK (K := K) rfl) (pv 0) pe_int (fun _ _ => rfl)) (pa_cons (pe_dget hu (pv 2) (pe_ix (ix_tupK (K := K) rfl) (pv 0) pe_int (fun _ _ => rfl)) (fun _ _ => rfl)) pa_nil))))) pss_nil)
      (pss_cons (ps_if (PW.pt (pw_and (pt_cmpR (op_neT hu64) (pv 0) (pe_tupA pa_nil) (nomark _)) (pw_and1 (pt_val (pe_callB (id := "isinstance") (call_isiK (K := K) rfl) (by rfl) T.isinstance (by decide +kernel) (pa_cons (pe_ix (ix_tupK (K := K) rfl) (pv 0) pe_int (fun _ _ => rfl)) (pa_cons (pe_bltn (v := .ty "str") (u := .type "str") (by rfl) T.str (by decide +kernel) rfl) pa_nil))))))) (pss_one (ps_ret (pe_op (op_catTK (K := K) rfl) (pe_slice (sl_tupK (K := K) rfl) (pv 0) po_none (po_some pe_int)) (pe_callTy (T := "tuple") (call_tupleK (K := K) rfl) (by rfl) T.tuple (by decide +kernel) (pa_cons (pe_lc (own := [("_law_part", 3)]) (by rfl) sc_l_renamed.nd (pi_tupK (K := K) rfl (pe_slice (sl_tupK (K := K) rfl) (pv 0) (po_some pe_int) po_none)) (blkOk_by (N := ["_law_value", "_law_names_here", "_law_words", "_law_part"]) (sc := defScope s_l_renamed) (own := [("_law_part", 3)]) (by decide +kernel)) (fun _ _ _ _ _ => (pg_name (i := 3) sc_l_renamed.nd rfl (.inl rfl))) (fun _ _ _ _ _ => pts_nil) (fun _ _ _ _ _ => (pe_call G_l_renamed (hr.mono (by omega)) (by rfl) T.l_renamed.g T.l_renamed.F.kp T.l_renamed.b .nil pass0 (pa_cons (pv 3) (pa_cons (pv 1) (pa_cons (pv 2) pa_nil)))))) pa_nil))))) pss_nil)
      (pss_one (ps_ret (pe_callTy (T := "tuple") (call_tupleK (K := K) rfl) (by rfl) T.tuple (by decide +kernel) (pa_cons (pe_lc (own := [("_law_part", 3)]) (by rfl) sc_l_renamed.nd (pi_tupK (K := K) rfl (pv 0)) (blkOk_by (N := ["_law_value", "_law_names_here", "_law_words", "_law_part"]) (sc := defScope s_l_renamed) (own := [("_law_part", 3)]) (by decide +kernel)) (fun _ _ _ _ _ => (pg_name (i := 3) sc_l_renamed.nd rfl (.inl rfl))) (fun _ _ _ _ _ => pts_nil) (fun _ _ _ _ _ => (pe_call G_l_renamed (hr.mono (by omega)) (by rfl) T.l_renamed.g T.l_renamed.F.kp T.l_renamed.b .nil pass0 (pa_cons (pv 3) (pa_cons (pv 1) (pa_cons (pv 2) pa_nil)))))) pa_nil))))))), ?_⟩
    cases d with
    | none => exact (show False by simpa only [PlW] using pw).elim
    | bool b => exact (show False by simpa only [PlW] using pw).elim
    | list ds => exact (show False by simpa only [PlW] using pw).elim
    | dict ds => exact (show False by simpa only [PlW] using pw).elim
    | int i =>
      cases tr_int hT
      walk_at "go"
      exact q _ H (by simp only [rwD]; exact mk_int) Kp.refl
    | str z =>
      cases tr_str hT
      walk_at "go"
      rw [rr z]
      exact q _ H (by simp only [rwD]; exact mk_str) Kp.refl
    | tuple ds =>
      obtain ⟨a, xs, rfl, ha, ta⟩ := tr_tup hT
      have sh : SeqAt.shaped (.tuple ds) = true := shaped_of gd.lay (by omega)
      rw [dep_tup] at dd
      have gd0 := gd
      simp only [Gd] at gd
      obtain ⟨gl, g1, gs⟩ := gd
      obtain ⟨m, rfl⟩ : ∃ m, n = m + 1 := ⟨n - 1, by omega⟩
      have each : ∀ d ∈ ds, Gd d ∧ d.depth ≤ m := fun d hd => ⟨gs.mem hd, by have := dep_mem hd; omega⟩
      walk_at "go"
      intro u1 H1 hu1 e1
      have k1 := new_kp hu1 e1
      have t1 := k1.tr hT
      have tn1 : Tr H1 (.tuple []) (.ref u1) := mk_tup (new_at e1) trs_nil
      refine ⟨_, _, t1, tn1, sh, shaped_nil, _, rfl, ?_⟩
      cases ds with
      | nil =>
        have e0 : (!PyData.eqv (.tuple []) (.tuple [])) = false := by simp [PyData.eqv, PyData.eqvAll]
        rw [e0]
        refine iteF ?_
        refine iteF ?_
        walk_at "go"
        intro u2 H2 hu2 e2
        have k2 := new_kp hu2 e2
        have tn2 : Tr H2 (.tuple []) (.ref u2) := mk_tup (new_at e2) trs_nil
        refine ⟨_, _, k2.tr t1, tn2, sh, shaped_nil, _, rfl, ?_⟩
        rw [e0]
        refine iteF ?_
        refine iteF ?_
        cases (show xs = [] by simpa only [TrAll] using ta)
        have ha2 := k2.tup _ _ (k1.tup _ _ ha)
        walk_at "go"
        intro D hD
        refine lc_tup (K := K) (a := a) (xs := []) (fun i X => Kp [D] H2 X ∧ X D = some (.lst [])) ⟨(Kp.new hD).sub (by simp), upd_same⟩ ?_ ?_ ?_
        · rintro i X _ ⟨kX, _⟩
          exact SqT.of (kX.tup _ _ ha2)
        · rintro i x X hx
          exact nomatch hx
        · rintro X ⟨kX, dX⟩
          walk_at "go"
          intro r5 H5 hr5 a5 k5
          refine q _ H5 ?_ ((((k1.trans k2).step1 kX (.inr ((k1.trans k2).free hD (by simp)))).step0 k5))
          simp only [rwD, rwT]
          exact mk_tup a5 trs_nil
      | cons d r =>
        have e0 : (!PyData.eqv (.tuple (d :: r)) (.tuple [])) = true := by simp [PyData.eqv, PyData.eqvAll]
        rw [e0]
        refine iteT ?_
        simp only [TrAll] at ta
        obtain ⟨x0, xr, rfl, td, tr⟩ := ta
        have ha1 := k1.tup _ _ ha
        have td1 := k1.tr td
        have gd1 := each d List.mem_cons_self
        have shd : SeqAt.shaped d = true := shaped_of gd1.1.lay (by omega)
        walk_at "go"
        intro u2 H2 hu2 e2
        have k2 := new_kp hu2 e2
        have K2 := k1.trans k2
        refine ⟨u2, _, d, ssD, rfl, new_at e2, ssD_tr, k2.tr td1, shd, ssD_sh, _, rfl, ?_⟩
        have ha2 := K2.tup _ _ ha
        have td2 := K2.tr td
        have tr2 := K2.trAll tr
        have lx : xr.length = r.length := tr.length
        cases d with
        | none => exact absurd gd1.1 (by simp only [Gd]; exact id)
        | bool b => exact absurd gd1.1 (by simp only [Gd]; exact id)
        | list ds => exact absurd gd1.1 (by simp only [Gd]; exact id)
        | dict ds => exact absurd gd1.1 (by simp only [Gd]; exact id)
        | str z =>
          cases tr_str td2
          rw [ss_str z]
          cases hss : isSS z with
          | true =>
            simp only [PlW, PlWT] at pw
            obtain ⟨_, c, rfl, wc⟩ : isSS z = true ∧ ∃ c, r = [.str c] ∧ WdIn c := by
              rcases pw with h | h
              · exact h
              · rw [hss] at h; exact absurd h.1 (by decide)
            refine iteT ?_
            simp only [TrAll] at tr2
            obtain ⟨x1, xr1, rfl, tc, rfl⟩ := tr2
            cases tr_str tc
            have dg := ww.get wc (K2.at hwd)
            walk_at "go"
            intro u3 H3 hu3 e3
            have k3 := new_kp hu3 e3
            refine q _ H3 ?_ (K2.trans k3)
            simp only [rwD, rwT, hss, List.map_cons, List.map_nil, gD, if_true]
            exact mk_tup (new_at e3) (trs_cons mk_str (trs_cons mk_str trs_nil))
          | false =>
            simp only [PlW, PlWT] at pw
            have pr : PlWs r := by
              rcases pw with h | h
              · rw [hss] at h; exact absurd h.1 (by decide)
              · exact h.2
            refine iteF ?_
            walk_at "go"
            intro u3 H3 hu3 e3
            have k3 := new_kp hu3 e3
            have K3 := K2.trans k3
            have tn3 : Tr H3 (.tuple []) (.ref u3) := mk_tup (new_at e3) trs_nil
            refine ⟨_, _, K3.tr hT, tn3, sh, shaped_nil, _, rfl, ?_⟩
            rw [e0]
            refine iteT ?_
            have ha3 := K3.tup _ _ ha
            walk_at "go"
            intro p4 H4 a4 k4
            have ha4 := k4.tup _ _ ha3
            walk_at "go"
            intro p5 H5 a5 k5
            have K5 := (K3.trans k4).trans k5
            rw [cut_first] at a4
            rw [cut_1] at a5
            have tr5 := K5.trAll tr
            walk_at "go"
            intro D hD
            refine lc_tup (K := K) (a := p5) (xs := xr) (fun i X => Lp (Kp [D] H5 X ∧ ∃ ws, X D = some (.lst ws) ∧ TrAll X (rwDs f g (r.take i)) ws ∧ ws.length ≤ i)) ⟨(Kp.new hD).sub (by simp), [], upd_same, by simp only [List.take_zero, rwDs]; exact trs_nil, Nat.le_refl _⟩ ?_ ?_ ?_
            · rintro i X _ ⟨⟨kX, _⟩⟩
              exact SqT.of (kX.tup _ _ a5)
            · rintro i x X hx ⟨⟨kX, ws, dX, tX, lX⟩⟩
              have hi : i < r.length := by
                obtain ⟨h, _⟩ := List.getElem?_eq_some_iff.mp hx
                omega
              have ho : r[i]? = some r[i] := List.getElem?_eq_getElem hi
              obtain ⟨v', hv', tv⟩ := tr5.get (i := i) ho
              rw [hx] at hv'
              cases hv'
              have em := each _ (List.mem_cons_of_mem _ (List.getElem_mem hi))
              have py := pr.mem _ (List.getElem_mem hi)
              have tk : r.take (i + 1) = r.take i ++ [r[i]] := by rw [List.take_add_one, ho]; rfl
              generalize r[i] = y at tv em tk py
              obtain ⟨gy, dy⟩ := em
              have tvX := kX.tr tv
              have m60 : m ≤ 60 := by omega
              have kX0 : Kp [] H X := K5.step1 kX (.inr (K5.free hD (by simp)))
              have ndX := kX0.at hnd
              have wdX := kX0.at hwd
              have ll : r.length ≤ 1000000 := by simp only [List.length_cons] at gl; omega
              have lw : ws.length < sizeLine := sz_lt (by omega)
              walk_at "go"
              intro v6 H6 t6 k6
              have d6 := k6.at dX
              walk_at "go"
              have k7 := Kp.put (u := .lst (ws ++ [v6])) d6 (fun _ y => by cases y)
              refine ⟨(kX.step0 k6).step1 k7 (.inl (by simp)), _, upd_same, ?_, by rw [List.length_append]; exact Nat.add_le_add_right lX 1⟩
              rw [tk, rwDs_snoc]
              exact (k7.trAll (k6.trAll tX)).append (trs_cons (k7.tr t6) trs_nil)
            · rintro X ⟨⟨kX, ws, dX, tX, lX⟩⟩
              rw [lx, List.take_length] at tX
              have a4X := kX.tup _ _ (k5.tup _ _ a4)
              have kX0 : Kp [] H X := K5.step1 kX (.inr (K5.free hD (by simp)))
              walk_at "go"
              intro r7 H7 hr7 a7 k7
              have a47 := k7.tup _ _ a4X
              have ll : r.length ≤ 1000000 := by simp only [List.length_cons] at gl; omega
              have lw : [V.str z].length + ws.length ≤ sizeLine := sz_le (by simp only [List.length_cons, List.length_nil] at gl ⊢; omega)
              walk_at "go"
              intro r8 H8 a8 k8
              refine q _ H8 ?_ ((kX0.trans k7).trans k8)
              simp only [rwD, rwT, hss]
              exact mk_tup a8 (trs_cons mk_str (k8.trAll (k7.trAll tX)))
        | int iz =>
          cases tr_int td2
          rw [ss_int]
          refine iteF ?_
          walk_at "go"
          intro u3 H3 hu3 e3
          have k3 := new_kp hu3 e3
          have K3 := K2.trans k3
          have tn3 : Tr H3 (.tuple []) (.ref u3) := mk_tup (new_at e3) trs_nil
          refine ⟨_, _, K3.tr hT, tn3, sh, shaped_nil, _, rfl, ?_⟩
          rw [e0]
          refine iteT ?_
          have ha3 := K3.tup _ _ ha
          have tall := (show TrAll H3 (PyData.int iz :: r) (V.int iz :: xr) from trs_cons (K3.tr td) (K3.trAll tr))
          have pr : PlWs (PyData.int iz :: r) := by simp only [PlW, PlWT] at pw; simp only [PlWs, PlW]; exact pw
          walk_at "go"
          intro D hD
          refine lc_tup (K := K) (a := a) (xs := V.int iz :: xr) (fun i X => Lp (Kp [D] H3 X ∧ ∃ ws, X D = some (.lst ws) ∧ TrAll X (rwDs f g ((PyData.int iz :: r).take i)) ws ∧ ws.length ≤ i)) ⟨(Kp.new hD).sub (by simp), [], upd_same, by simp only [List.take_zero, rwDs]; exact trs_nil, Nat.le_refl _⟩ ?_ ?_ ?_
          · rintro i X _ ⟨⟨kX, _⟩⟩
            exact SqT.of (kX.tup _ _ ha3)
          · rintro i x X hx ⟨⟨kX, ws, dX, tX, lX⟩⟩
            have hi : i < (PyData.int iz :: r).length := by
              obtain ⟨h, _⟩ := List.getElem?_eq_some_iff.mp hx
              simp only [List.length_cons] at h ⊢
              omega
            have ho : (PyData.int iz :: r)[i]? = some (PyData.int iz :: r)[i] := List.getElem?_eq_getElem hi
            obtain ⟨v', hv', tv⟩ := tall.get (i := i) ho
            rw [hx] at hv'
            cases hv'
            have em := each _ (List.getElem_mem hi)
            have py := pr.mem _ (List.getElem_mem hi)
            have tk : (PyData.int iz :: r).take (i + 1) = (PyData.int iz :: r).take i ++ [(PyData.int iz :: r)[i]] := by rw [List.take_add_one, ho]; rfl
            generalize (PyData.int iz :: r)[i] = y at tv em tk py
            obtain ⟨gy, dy⟩ := em
            have tvX := kX.tr tv
            have m60 : m ≤ 60 := by omega
            have kX0 : Kp [] H X := K3.step1 kX (.inr (K3.free hD (by simp)))
            have ndX := kX0.at hnd
            have wdX := kX0.at hwd
            have lw : ws.length < sizeLine := sz_lt (by omega)
            walk_at "go"
            intro v6 H6 t6 k6
            have d6 := k6.at dX
            walk_at "go"
            have k7 := Kp.put (u := .lst (ws ++ [v6])) d6 (fun _ y => by cases y)
            refine ⟨(kX.step0 k6).step1 k7 (.inl (by simp)), _, upd_same, ?_, by rw [List.length_append]; exact Nat.add_le_add_right lX 1⟩
            rw [tk, rwDs_snoc]
            exact (k7.trAll (k6.trAll tX)).append (trs_cons (k7.tr t6) trs_nil)
          · rintro X ⟨⟨kX, ws, dX, tX, lX⟩⟩
            rw [tall.length, List.take_length] at tX
            have kX0 : Kp [] H X := K3.step1 kX (.inr (K3.free hD (by simp)))
            walk_at "go"
            intro r7 H7 hr7 a7 k7
            refine q _ H7 ?_ (kX0.trans k7)
            simp only [rwD, rwT, rwDs] at tX ⊢
            exact mk_tup a7 (k7.trAll tX)
        | tuple es =>
          obtain ⟨b0, bs, rfl, hb0, tb0⟩ := tr_tup td2
          rw [ss_tup]
          refine iteF ?_
          walk_at "go"
          intro u3 H3 hu3 e3
          have k3 := new_kp hu3 e3
          have K3 := K2.trans k3
          have tn3 : Tr H3 (.tuple []) (.ref u3) := mk_tup (new_at e3) trs_nil
          refine ⟨_, _, K3.tr hT, tn3, sh, shaped_nil, _, rfl, ?_⟩
          rw [e0]
          refine iteT ?_
          have ha3 := K3.tup _ _ ha
          have hb3 := k3.tup _ _ hb0
          have tall := (show TrAll H3 (PyData.tuple es :: r) (V.ref b0 :: xr) from trs_cons (K3.tr td) (K3.trAll tr))
          have pr : PlWs (PyData.tuple es :: r) := by simp only [PlW, PlWT] at pw; simp only [PlWs, PlW]; exact pw
          walk_at "go"
          intro D hD
          refine lc_tup (K := K) (a := a) (xs := V.ref b0 :: xr) (fun i X => Lp (Kp [D] H3 X ∧ ∃ ws, X D = some (.lst ws) ∧ TrAll X (rwDs f g ((PyData.tuple es :: r).take i)) ws ∧ ws.length ≤ i)) ⟨(Kp.new hD).sub (by simp), [], upd_same, by simp only [List.take_zero, rwDs]; exact trs_nil, Nat.le_refl _⟩ ?_ ?_ ?_
          · rintro i X _ ⟨⟨kX, _⟩⟩
            exact SqT.of (kX.tup _ _ ha3)
          · rintro i x X hx ⟨⟨kX, ws, dX, tX, lX⟩⟩
            have hi : i < (PyData.tuple es :: r).length := by
              obtain ⟨h, _⟩ := List.getElem?_eq_some_iff.mp hx
              simp only [List.length_cons] at h ⊢
              omega
            have ho : (PyData.tuple es :: r)[i]? = some (PyData.tuple es :: r)[i] := List.getElem?_eq_getElem hi
            obtain ⟨v', hv', tv⟩ := tall.get (i := i) ho
            rw [hx] at hv'
            cases hv'
            have em := each _ (List.getElem_mem hi)
            have py := pr.mem _ (List.getElem_mem hi)
            have tk : (PyData.tuple es :: r).take (i + 1) = (PyData.tuple es :: r).take i ++ [(PyData.tuple es :: r)[i]] := by rw [List.take_add_one, ho]; rfl
            generalize (PyData.tuple es :: r)[i] = y at tv em tk py
            obtain ⟨gy, dy⟩ := em
            have tvX := kX.tr tv
            have m60 : m ≤ 60 := by omega
            have kX0 : Kp [] H X := K3.step1 kX (.inr (K3.free hD (by simp)))
            have ndX := kX0.at hnd
            have wdX := kX0.at hwd
            have lw : ws.length < sizeLine := sz_lt (by omega)
            walk_at "go"
            intro v6 H6 t6 k6
            have d6 := k6.at dX
            walk_at "go"
            have k7 := Kp.put (u := .lst (ws ++ [v6])) d6 (fun _ y => by cases y)
            refine ⟨(kX.step0 k6).step1 k7 (.inl (by simp)), _, upd_same, ?_, by rw [List.length_append]; exact Nat.add_le_add_right lX 1⟩
            rw [tk, rwDs_snoc]
            exact (k7.trAll (k6.trAll tX)).append (trs_cons (k7.tr t6) trs_nil)
          · rintro X ⟨⟨kX, ws, dX, tX, lX⟩⟩
            rw [tall.length, List.take_length] at tX
            have kX0 : Kp [] H X := K3.step1 kX (.inr (K3.free hD (by simp)))
            walk_at "go"
            intro r7 H7 hr7 a7 k7
            refine q _ H7 ?_ (kX0.trans k7)
            simp only [rwD, rwT, rwDs] at tX ⊢
            exact mk_tup a7 (k7.trAll tX)
end
end EH
namespace EH
open PySem L2
/-! the law's names and words -/
theorem mid_app {L R q : Str} : (L ++ q ++ R).cps.toList = L.cps.toList ++ q.cps.toList ++ R.cps.toList := by
  show ((L.cps ++ q.cps) ++ R.cps).toList = _
  rw [Array.toList_append, Array.toList_append]
theorem mid_unl {L R p q : Str} {c d : Nat} (hp : p.cps.toList = [c]) (hq : q.cps.toList = [d]) (h : c ≠ d) : L ++ p ++ R ≠ L ++ q ++ R := fun e => by
  have e1 := congrArg (fun s : Str => s.cps.toList) e
  simp only [mid_app, hp, hq] at e1
  exact h (List.singleton_inj.mp (List.append_cancel_left (List.append_cancel_right e1)))
def nq (L R : Str) : Str := L ++ "q" ++ R
def nx (L R : Str) : Str := L ++ "x" ++ R
def nz (L R : Str) : Str := L ++ "z" ++ R
theorem nms_qxz (L R : Str) : nmsOf L R = [("n" : Str), nq L R, nx L R, nz L R] := rfl
theorem nqx (L R : Str) : nq L R ≠ nx L R := mid_unl (c := 113) (d := 120) (by decide +kernel) (by decide +kernel) (by decide)
theorem nqz (L R : Str) : nq L R ≠ nz L R := mid_unl (c := 113) (d := 122) (by decide +kernel) (by decide +kernel) (by decide)
theorem nxz (L R : Str) : nx L R ≠ nz L R := mid_unl (c := 120) (d := 122) (by decide +kernel) (by decide +kernel) (by decide)
/-- all signs of a name but n are the law's -/
theorem name_signs {L R : Str} (h : LR L R) : ∀ x ∈ [nq L R, nx L R, nz L R], ∀ c ∈ x.cps.toList, c ∈ signs.cps.toList := by
  have hq : ∀ c ∈ ("q" : Str).cps.toList ++ ("x" : Str).cps.toList ++ ("z" : Str).cps.toList, c ∈ signs.cps.toList := by decide +kernel
  have go : ∀ q : Str, (∀ c ∈ q.cps.toList, c ∈ signs.cps.toList) → ∀ c ∈ (L ++ q ++ R).cps.toList, c ∈ signs.cps.toList := by
    intro q hq c hc
    rw [mid_app] at hc
    rcases List.mem_append.mp hc with z | z
    · rcases List.mem_append.mp z with z | z
      · exact letter_sign (h.l c z)
      · exact hq c z
    · exact h.r c z
  intro x hx
  simp only [List.mem_cons, List.not_mem_nil, or_false] at hx
  rcases hx with rfl | rfl | rfl
  · exact go _ fun c hc => hq c (List.mem_append_left _ (List.mem_append_left _ hc))
  · exact go _ fun c hc => hq c (List.mem_append_left _ (List.mem_append_right _ hc))
  · exact go _ fun c hc => hq c (List.mem_append_right _ hc)
theorem sign_ne {L R k : Str} (h : LR L R) (hk : ∃ c ∈ k.cps.toList, c ∉ signs.cps.toList) : k ≠ nq L R ∧ k ≠ nx L R ∧ k ≠ nz L R := by
  obtain ⟨c, c1, c2⟩ := hk
  have go : ∀ x ∈ [nq L R, nx L R, nz L R], k ≠ x := fun x hx e => c2 (name_signs h x hx c (e ▸ c1))
  exact ⟨go _ (by simp), go _ (by simp), go _ (by simp)⟩
theorem n_sign : ∃ c ∈ ("n" : Str).cps.toList, c ∉ signs.cps.toList := ⟨110, by decide +kernel, by decide +kernel⟩
theorem spare_sign : ∃ c ∈ ("spare1" : Str).cps.toList, c ∉ signs.cps.toList := ⟨115, by decide +kernel, by decide +kernel⟩
def f40 (L R L' R' : Str) (k : Str) : Str := if k = nq L R then nz L' R' else if k = nx L R then nx L' R' else if k = nz L R then nq L' R' else k
def kv40 (L R L' R' : Str) : List (Key × V) := [(Sum.inr (nq L R), .str (nz L' R')), (Sum.inr (nx L R), .str (nx L' R')), (Sum.inr (nz L R), .str (nq L' R'))]
theorem kv40_merge (L R L' R' : Str) : mergeK [] (kv40 L R L' R') = kv40 L R L' R' := mergeThree (fun e => nqx L R (Sum.inr.inj e)) (fun e => nqz L R (Sum.inr.inj e)) (fun e => nxz L R (Sum.inr.inj e))
section
variable {L R L' R' : Str}
theorem f40_rel : RnRel (kv40 L R L' R') (f40 L R L' R') := fun k => by
  unfold f40 kv40
  by_cases h1 : k = nq L R
  · rw [valV_pos (by rw [h1]), if_pos h1]; rfl
  rw [valV_neg (fun e => h1 (Sum.inr.inj e).symm), if_neg h1]
  by_cases h2 : k = nx L R
  · rw [valV_pos (by rw [h2]), if_pos h2]; rfl
  rw [valV_neg (fun e => h2 (Sum.inr.inj e).symm), if_neg h2]
  by_cases h3 : k = nz L R
  · rw [valV_pos (by rw [h3]), if_pos h3]; rfl
  rw [valV_neg (fun e => h3 (Sum.inr.inj e).symm), if_neg h3, valV_nil]
  rfl
theorem f40_n (h : LR L R) : f40 L R L' R' "n" = "n" := by
  obtain ⟨h1, h2, h3⟩ := sign_ne h n_sign
  unfold f40
  rw [if_neg h1, if_neg h2, if_neg h3]
theorem f40_q : f40 L R L' R' (nq L R) = nz L' R' := by unfold f40; rw [if_pos rfl]
theorem f40_x : f40 L R L' R' (nx L R) = nx L' R' := by unfold f40; rw [if_neg (nqx L R).symm, if_pos rfl]
theorem f40_z : f40 L R L' R' (nz L R) = nq L' R' := by unfold f40; rw [if_neg (nqz L R).symm, if_neg (nxz L R).symm, if_pos rfl]
theorem f40_inj (h : LR L R) (h' : LR L' R') : ∀ x ∈ nmsOf L R, ∀ y ∈ nmsOf L R, f40 L R L' R' x = f40 L R L' R' y → x = y := by
  obtain ⟨s1, s2, s3⟩ := sign_ne h' n_sign
  have a1 := nqx L' R'
  have a2 := nqz L' R'
  have a3 := nxz L' R'
  intro x hx y hy e
  rw [nms_qxz] at hx hy
  simp only [List.mem_cons, List.not_mem_nil, or_false] at hx hy
  rcases hx with rfl | rfl | rfl | rfl <;> rcases hy with rfl | rfl | rfl | rfl <;> simp only [f40_n h, f40_q, f40_x, f40_z] at e <;> first | rfl | exact absurd e (by assumption) | exact absurd e.symm (by assumption)
theorem f40_spare (h : LR L R) (h' : LR L' R') : ∀ x ∈ nmsOf L R, f40 L R L' R' x ≠ "spare1" := by
  obtain ⟨s1, s2, s3⟩ := sign_ne h' spare_sign
  intro x hx e
  rw [nms_qxz] at hx
  simp only [List.mem_cons, List.not_mem_nil, or_false] at hx
  rcases hx with rfl | rfl | rfl | rfl <;> simp only [f40_n h, f40_q, f40_x, f40_z] at e
  · exact absurd e (by decide +kernel)
  · exact s3 e.symm
  · exact s2 e.symm
  · exact s1 e.symm
theorem f40_env (h : LR L R) (h' : LR L' R') (n : Int) : ∀ x ∈ nmsOf L R, env0 n (f40 L R L' R' x) = env0 n x := by
  obtain ⟨s1, s2, s3⟩ := sign_ne h' n_sign
  obtain ⟨t1, t2, t3⟩ := sign_ne h n_sign
  intro x hx
  rw [nms_qxz] at hx
  simp only [List.mem_cons, List.not_mem_nil, or_false] at hx
  unfold env0
  rcases hx with rfl | rfl | rfl | rfl
  · rw [f40_n h]
  · rw [f40_q, if_neg s3.symm, if_neg t1.symm]
  · rw [f40_x, if_neg s2.symm, if_neg t2.symm]
  · rw [f40_z, if_neg s1.symm, if_neg t3.symm]
theorem f40_ok (h' : LR L' R') : ∀ x, NmOk x → NmOk (f40 L R L' R' x) := by
  have o := h'.oks
  intro x hx
  unfold f40
  split
  · exact o _ (by rw [nms_qxz]; simp)
  split
  · exact o _ (by rw [nms_qxz]; simp)
  split
  · exact o _ (by rw [nms_qxz]; simp)
  exact hx
end
def g40 (c : Str) : Str := if c = "go" then "7" else if c = "7" then "go" else if c = "half" then "tell" else if c = "odd" then "x1" else if c = "end" then "0" else if c = "0" then "end" else if c = "not" then "plus" else c
def w40 : List (Key × V) := [(Sum.inr "go", .str "7"), (Sum.inr "7", .str "go"), (Sum.inr "half", .str "tell"), (Sum.inr "odd", .str "x1"), (Sum.inr "end", .str "0"), (Sum.inr "0", .str "end"), (Sum.inr "not", .str "plus")]
theorem w40_merge : mergeK [] w40 = w40 := by kernel_rfl
theorem g40_ok : GOk g40 := by
  intro c hc
  unfold g40
  split
  · exact ⟨by decide +kernel, by decide +kernel⟩
  split
  · exact ⟨by decide +kernel, by decide +kernel⟩
  split
  · exact ⟨by decide +kernel, by decide +kernel⟩
  split
  · exact ⟨by decide +kernel, by decide +kernel⟩
  split
  · exact ⟨by decide +kernel, by decide +kernel⟩
  split
  · exact ⟨by decide +kernel, by decide +kernel⟩
  split
  · exact ⟨by decide +kernel, by decide +kernel⟩
  exact hc
theorem g40_rel : WRel w40 g40 := by
  intro c hc
  unfold WdIn at hc
  simp only [List.mem_cons, List.not_mem_nil, or_false] at hc
  rcases hc with rfl | rfl | rfl | rfl | rfl | rfl | rfl <;> rfl
/-- settings ahead that are used nowhere -/
def ahd (k : Nat) : List Sm := List.replicate k (.set "spare1" (.plus (.var "n") (.num 5)))
theorem ahd_rr {L R L' R' : Str} (h : LR L R) (h' : LR L' R') {b : List Sm} (hb : Sm.insN (nmsOf L R) b) {k : Nat} (hk : k = 0 ∨ k = 1) (chs : List Int) (n : Int) :
    RR (f40 L R L' R') g40 (nmsOf L R) (Sm.runs (decC chs) noWay b 0 (cs0 n)) (Sm.runs (decC chs) noWay (ahd k ++ Sm.rns (f40 L R L' R') g40 b) 0 (cs0 n)) := by
  rcases hk with rfl | rfl
  · exact Sm.runs_rn (f40_inj h h') b hb 0 0 _ _ ⟨f40_env h h' n, rfl, rfl⟩
  · show RR _ _ _ _ (Sm.runs (decC chs) noWay (.set "spare1" (.plus (.var "n") (.num 5)) :: Sm.rns (f40 L R L' R') g40 b) 0 (cs0 n))
    simp only [Sm.runs, Sm.run]
    refine Sm.runs_rn (f40_inj h h') b hb 0 _ _ _ ⟨fun x hx => ?_, rfl, rfl⟩
    show setE (env0 n) "spare1" _ (f40 L R L' R' x) = env0 n x
    unfold setE
    rw [if_neg (f40_spare h h' x hx)]
    exact f40_env h h' n x hx
theorem ahd_ok {b : List Sm} (h : PrOk b) {k : Nat} (hk : k = 0 ∨ k = 1) : Sm.oks (ahd k ++ b) ∧ Sm.pls (ahd k ++ b) ≤ 25 := by
  have h1 := h.pl
  rcases hk with rfl | rfl
  · exact ⟨h.ok, by show Sm.pls b ≤ 25; omega⟩
  · refine ⟨?_, ?_⟩
    · show Sm.oks (.set "spare1" (.plus (.var "n") (.num 5)) :: b)
      simp only [Sm.oks, Sm.ok]
      exact ⟨⟨⟨⟨⟨by decide +kernel, by decide +kernel⟩, by decide, by decide⟩, by decide⟩, by decide +kernel, by decide +kernel⟩, h.ok⟩
    · show Sm.pls (.set "spare1" (.plus (.var "n") (.num 5)) :: b) ≤ 25
      simp only [Sm.pls, Sm.pl]
      omega
theorem ahd_tr {H : Hp} {u : V} (hu : Tr H (Sm.set "spare1" (.plus (.var "n") (.num 5))).d u) (k : Nat) : TrAll H (Sm.ds (ahd k)) (List.replicate k [u]).flatten := by
  have e : Sm.ds (ahd k) = List.replicate k (Sm.set "spare1" (.plus (.var "n") (.num 5))).d := by
    unfold ahd
    rw [Sm.ds_map, List.map_replicate]
  rw [e, flat_rep]
  exact trs_rep hu k
/-- an item with the other word -/
def gV (k : Key) : V := kV (gK g40 k)
theorem tr_wV {H : Hp} : ∀ {o : Option Str} {v : V}, Tr H (wD o) v → v = wV o
  | none, v, h => by simp only [wD, Tr] at h; exact h
  | some c, v, h => tr_str h
theorem gV_take {ks : List Key} {i : Nat} {k : Key} (h : ks[i]? = some k) : (ks.take (i + 1)).map gV = (ks.take i).map gV ++ [gV k] := by
  rw [List.take_add_one, h, List.map_append]
  rfl
theorem gVs_tr {H : Hp} (ks : List Key) : TrAll H ((ks.map (gK g40)).map kD) (ks.map gV) := by
  have := trs_kD (H := H) (ks.map (gK g40))
  have e : (ks.map (gK g40)).map kV = ks.map gV := by rw [List.map_map]; rfl
  rw [e] at this
  exact this
theorem if_word {σ : L2.St} {H : Hp} {K' : VK} {wd : Addr} {wvs : List (Key × V)} {g : Str → Str} {o : Option Str} {i j : Nat} (hw : H wd = some (.dK wvs)) (rel : WRel wvs g) (hin : ∀ c, o = some c → WdIn c) (h7 : σ[i]? = some (some (.ref wd))) (h14 : σ[j]? = some (some (wV o))) (h : K' (wV (o.map g)) H) :
    if decide (wV o = V.non) = true then tC V.non σ H K' else tDGet (tVar i) (tVar j) σ H K' := by
  cases o with
  | none =>
    rw [show decide (wV none = V.non) = true from decide_eq_true rfl]
    exact iteT h
  | some c =>
    rw [show decide (wV (some c) = V.non) = false from decide_eq_false (fun z => by cases z)]
    exact iteF ⟨_, h7, _, h14, wd, _, rfl, rel.get (hin c rfl) hw, h⟩
end EH
namespace EH
open PySem L2
local macro_rules | `(tactic| walk_at "sd") => `(tactic| first | assumption | ((with_reducible show (_ : Int) ≤ _); omega) | ((with_reducible show (_ : Int) < _); omega) | rfl | exact SqL.of (by assumption) | exact SqT.of (by assumption) | exact atI_nat (j := 0) rfl | exact atI_nat (j := 1) rfl | exact atI_nat (j := 2) rfl | exact atI_nat (j := 3) rfl | exact sz_lit rfl | exact lt_lit rfl | exact pos_lit rfl | exact le_lit rfl | exact Or.inl (SqL.of (by assumption)) | exact ⟨_, SqL.of (by assumption)⟩ | exact ⟨_, SqT.of (by assumption)⟩ | exact Or.inr (SqT.of (by assumption)) | exact ClsV.ty _ | exact TyX.base (TyOf.int _) | exact TyX.base (TyOf.str _) | exact TyX.base (TyOf.tup (by assumption)) | exact kit_ty isi_ss | exact kit_ty isi_is | exact kit_ty isi_ts | exact kit_ty isi_si | exact kit_ty isi_ii | exact kit_ty isi_ti | exact kit_ty isi_st | exact kit_ty isi_it | exact kit_ty isi_tt | exact Or.inl ⟨_, Or.inl (by assumption)⟩ | exact DGet.k (k := Sum.inr _) (by assumption) | exact DGet.k (k := Sum.inl _) (by assumption) | (refine cpow_of ?_; decide) | (refine cmul_of ?_; decide) | (show (_ : Int) ≠ 0; first | decide | omega) | (refine cdivn_of ?_; decide) | exact Or.inl ⟨rfl, _, SqL.of (by assumption)⟩ | omega)
local macro_rules | `(tactic| walk_at "st") => `(tactic| first | (apply Exists.intro) | (refine And.intro ?_ ?_; focus (walk_at "sd")) | (apply Or.inl; apply Exists.intro; refine And.intro ?_ ?_; focus rfl) | (apply Or.inr; apply Exists.intro; refine And.intro ?_ ?_; focus rfl))
local macro_rules | `(tactic| walk_at "go") => `(tactic| repeat (walk_at "st"))
section
variable {P : Program} {w : World} {K : PySem.W.Frag} {mg : Str → Option Value} {base : Heap}
theorem ok_law (T : Top K mg) : FnG P w K mg base CX0 33 T.law.f T.law.fd ["_law_script"] (spLaw K) := by
  have G_l_deck := ok_l_deck (P := P) (w := w) (base := base) (k := 0) T
  have G_l_draw : FnOk P w K mg base CX0 1 T.l_draw.f T.l_draw.fd ["_law_deck_here", "_law_many"] spDraw := ok_l_draw T
  have G_l_names := ok_l_names (P := P) (w := w) (base := base) T
  have G_l_program := ok_l_programN (P := P) (w := w) (base := base) T
  have G_l_number := ok_l_number (P := P) (w := w) (base := base) T
  have G_l_choices := ok_l_choices (P := P) (w := w) (base := base) T
  have G_l_renamed := ok_l_renamed (P := P) (w := w) (base := base) T 20
  have G_run := ok_run (P := P) (w := w) (base := base) T (m := 4)
  have G_program_error : FnOk P w K mg base CX0 11 T.program_error.f T.program_error.fd ["value"] spPErr := ok_program_error T
  refine Fun.okG T.law.F sc_law (fun vs H Q E h => ?_) (fun cdv A outer s H vs Q E fr hr h => ?_)
  · obtain ⟨a, ns, rfl, _⟩ := h
    rfl
  obtain ⟨sa, ns, rfl, hS, hl, q⟩ := h
  have hu64 := hr.units
  have hu := hu_of hr
  refine ⟨_, (pss_cons (ps_set (i := 1) sc_law.nd rfl (.inl rfl) (pe_call G_l_deck (hr.mono (by omega)) (by rfl) T.l_deck.g T.l_deck.F.kp T.l_deck.b .nil pass0 (pa_cons (pv 0) pa_nil)))
      (pss_cons (ps_forA (ps_for PassesOwn.never rfl (pi_range1 (by rfl) T.range (pa_cons pe_int pa_nil)) (pg_name (i := 2) sc_law.nd rfl (.inl rfl)) (pss_cons (ps_asg (pe_tupA (pa_cons (pe_call G_l_names (hr.mono (by omega)) (by rfl) T.l_names.g T.l_names.F.kp T.l_names.b .nil pass0 (pa_cons (pv 1) pa_nil)) (pa_cons (pe_revLA (K := K) rfl (pe_call G_l_names (hr.mono (by omega)) (by rfl) T.l_names.g T.l_names.F.kp T.l_names.b .nil pass0 (pa_cons (pv 1) pa_nil))) pa_nil))) (pg_tup (by rfl) (pgs_cons (pg_name (i := 3) sc_law.nd rfl (.inr rfl)) (pgs_cons (pg_name (i := 4) sc_law.nd rfl (.inr rfl)) pgs_nil))))
      (pss_cons (ps_set (i := 5) sc_law.nd rfl (.inl rfl) (pe_call G_l_program (hr.mono (by omega)) (by rfl) T.l_program.g T.l_program.F.kp T.l_program.b .nil pass0 (pa_cons (pv 1) (pa_cons (pv 3) pa_nil))))
      (pss_cons (ps_set (i := 6) sc_law.nd rfl (.inl rfl) (pe_callTy (T := "dict") (call_dictP4 (K := K) rfl (by rfl)) (by rfl) T.dict (by decide +kernel) (pa_cons (pe_lc (own := [("_law_k", 10)]) (by rfl) sc_law.nd (pi_range2 (by rfl) T.range (pa_cons pe_int (pa_cons pe_int pa_nil))) (blkOk_by (N := ["_law_script", "_law_deck_here", "_law_turn", "_law_own", "_law_other", "_law_program_here", "_law_names_here", "_law_words", "_law_later", "_law_ahead", "_law_k", "_law_number_here", "_law_choices_here", "_law_items", "_law_word", "_law_turns", "_law_told", "_law_due", "_law_item"]) (sc := defScope s_law) (own := [("_law_k", 10)]) (by decide +kernel)) (fun _ _ _ _ _ => (pg_name (i := 10) sc_law.nd rfl (.inl rfl))) (fun _ _ _ _ _ => pts_nil) (fun _ _ _ _ _ => (pe_tupA (pa_cons (pe_ix (ix_listK (K := K) rfl) (pv 3) (pv 10) (fun _ _ => rfl)) (pa_cons (pe_ix (ix_listK (K := K) rfl) (pe_slice (sl_listK (K := K) rfl) (pv 4) po_none (po_some pe_int)) (pe_op op_sub (pv 10) pe_int) (fun _ _ => rfl)) pa_nil))))) pa_nil)))
      (pss_cons (ps_set (i := 7) sc_law.nd rfl (.inr rfl) (pe_disp (pps_cons pe_str pe_str (pps_cons pe_str pe_str (pps_cons pe_str pe_str (pps_cons pe_str pe_str (pps_cons pe_str pe_str (pps_cons pe_str pe_str (pps_cons pe_str pe_str pps_nil))))))) (by rfl) (by rfl) (fun z => by cases z) (by decide)))
      (pss_cons (ps_set (i := 8) sc_law.nd rfl (.inl rfl) (pe_call G_l_renamed (hr.mono (by omega)) (by rfl) T.l_renamed.g T.l_renamed.F.kp T.l_renamed.b .nil pass0 (pa_cons (pv 5) (pa_cons (pv 6) (pa_cons (pv 7) pa_nil)))))
      (pss_cons (ps_set (i := 9) sc_law.nd rfl (.inl rfl) (pe_op op_repTB (pe_tupA (pa_cons (pe_tupA (pa_cons pe_str (pa_cons pe_str (pa_cons (pe_tupA (pa_cons pe_str (pa_cons pe_str (pa_cons pe_int pa_nil)))) pa_nil)))) pa_nil)) (pe_call G_l_draw (hr.mono (by omega)) (by rfl) T.l_draw.g T.l_draw.F.kp T.l_draw.b .nil pass0 (pa_cons (pv 1) (pa_cons pe_int pa_nil)))))
      (pss_one (ps_forA (ps_for PassesOwn.never rfl (pi_range1 (by rfl) T.range (pa_cons pe_int pa_nil)) (pg_name (i := 10) sc_law.nd rfl (.inl rfl)) (pss_cons (ps_par (i := 11) (j := 12) (by rfl) sc_law.nd rfl rfl (by decide) rfl rfl (pa_cons (pe_call G_l_number (hr.mono (by omega)) (by rfl) T.l_number.g T.l_number.F.kp T.l_number.b .nil pass0 (pa_cons (pv 1) pa_nil)) (pa_cons (pe_call G_l_choices (hr.mono (by omega)) (by rfl) T.l_choices.g T.l_choices.F.kp T.l_choices.b .nil pass0 (pa_cons (pv 1) pa_nil)) pa_nil)) (by rfl))
      (pss_cons (ps_asg (pe_call G_run (hr.mono (by omega)) (by rfl) T.run.g T.run.F.kp T.run.b .nil pass0 (pa_cons (pv 5) (pa_cons (pv 11) (pa_cons (pv 12) pa_nil)))) (pg_tup (by rfl) (pgs_cons (pg_name (i := 13) sc_law.nd rfl (.inl rfl)) (pgs_cons (pg_name (i := 14) sc_law.nd rfl (.inl rfl)) (pgs_cons (pg_name (i := 15) sc_law.nd rfl (.inl rfl)) pgs_nil)))))
      (pss_cons (ps_set (i := 16) sc_law.nd rfl (.inl rfl) (pe_callTy (T := "tuple") (call_tupleK (K := K) rfl) (by rfl) T.tuple (by decide +kernel) (pa_cons (pe_lc (own := [("_law_item", 18)]) (by rfl) sc_law.nd (pi_tupK (K := K) rfl (pv 13)) (blkOk_by (N := ["_law_script", "_law_deck_here", "_law_turn", "_law_own", "_law_other", "_law_program_here", "_law_names_here", "_law_words", "_law_later", "_law_ahead", "_law_k", "_law_number_here", "_law_choices_here", "_law_items", "_law_word", "_law_turns", "_law_told", "_law_due", "_law_item"]) (sc := defScope s_law) (own := [("_law_item", 18)]) (by decide +kernel)) (fun _ _ _ _ _ => (pg_name (i := 18) sc_law.nd rfl (.inl rfl))) (fun _ _ _ _ _ => pts_nil) (fun _ _ _ _ _ => (pe_ifExp (pt_val (pe_callB (id := "isinstance") (call_isiK (K := K) rfl) (by rfl) T.isinstance (by decide +kernel) (pa_cons (pv 18) (pa_cons (pe_bltn (v := .ty "str") (u := .type "str") (by rfl) T.str (by decide +kernel) rfl) pa_nil)))) (pe_dget hu (pv 7) (pv 18) (fun _ _ => rfl)) (pv 18)))) pa_nil)))
      (pss_cons (ps_set (i := 17) sc_law.nd rfl (.inl rfl) (pe_callB (id := "repr") (call_reprT fr hu64) (by rfl) T.repr (by decide +kernel) (pa_cons (pe_tupA (pa_cons (pv 16) (pa_cons (pe_ifExp (pt_cmpR op_isN (pv 14) pe_non (nomark _)) pe_non (pe_dget hu (pv 7) (pv 14) (fun _ _ => rfl))) (pa_cons (pv 15) pa_nil)))) pa_nil)))
      (pss_cons (ps_if (pt_cmpR op_ne (pe_callB (id := "repr") (call_reprT fr hu64) (by rfl) T.repr (by decide +kernel) (pa_cons (pe_call G_run (hr.mono (by omega)) (by rfl) T.run.g T.run.F.kp T.run.b .nil pass0 (pa_cons (pv 8) (pa_cons (pv 11) (pa_cons (pv 12) pa_nil)))) pa_nil)) (pv 17) (nomark _)) (pss_one (ps_ret pe_bl)) pss_nil)
      (pss_one (ps_if (PW.pt (pw_and (pt_cmpR op_isN (pe_call G_program_error (hr.mono (by omega)) (by rfl) T.program_error.g T.program_error.F.kp T.program_error.b .nil pass0 (pa_cons (pe_op (op_catTK (K := K) rfl) (pv 9) (pv 8)) pa_nil)) pe_non (nomark _)) (pw_and1 (pt_cmpR op_ne (pe_callB (id := "repr") (call_reprT fr hu64) (by rfl) T.repr (by decide +kernel) (pa_cons (pe_call G_run (hr.mono (by omega)) (by rfl) T.run.g T.run.F.kp T.run.b .nil pass0 (pa_cons (pe_op (op_catTK (K := K) rfl) (pv 9) (pv 8)) (pa_cons (pv 11) (pa_cons (pv 12) pa_nil)))) pa_nil)) (pv 17) (nomark _))))) (pss_one (ps_ret pe_bl)) pss_nil))))))))))))))))))
      (pss_one (ps_ret pe_bl)))), ?_⟩
  walk_at "go"
  intro a c H1 ha hc k1 D1
  walk_at "go"
  refine ⟨for_range (lo := 0) (n := Int.toNat 6) (fun i σ X => Lp (∃ (s2 s3 s4 s5 s6 s7 s8 s9 s10 s11 s12 s13 s14 s15 s16 s17 : Option V) (m : Int), σ = [some (.ref sa), some (.ref a), s2, s3, s4, s5, s6, s7, s8, s9, s10, s11, s12, s13, s14, s15, s16, s17, none] ∧ 0 ≤ m ∧ m ≤ (i : Int) * 2300000 ∧ Deck X a c m)) ⟨_, _, _, _, _, _, _, _, _, _, _, _, _, _, _, _, 0, rfl, by decide, by simp, D1⟩ ?_ ?_⟩
  · rintro i σ X hi ⟨⟨s2, s3, s4, s5, s6, s7, s8, s9, s10, s11, s12, s13, s14, s15, s16, s17, m, rfl, m0, mu, D3⟩⟩
    have hi5 : i < 6 := hi
    have hm : m ≤ 600000000 := by omega
    walk_at "go"
    intro nm L R H4 m4 hnm lr N4 ml4 mu4 D4 k4
    have hm4 : m4 ≤ 600000000 := by omega
    walk_at "go"
    intro nm' L' R' H5 m5 hnm' lr' N5 ml5 mu5 D5 k5
    have N45 := N4.kpD k5
    have nm5 := N5.at_
    walk_at "go"
    intro p6 H6 hp6 e6
    have k6 := new_kp hp6 e6
    walk_at "go"
    intro t7 H7 ht7 e7
    have k7 := new_kp ht7 e7
    have a7 := new_at e7
    have K57 := k6.trans k7
    have N7 := N45.kp0 K57
    have D7 := D5.kp0 K57
    have p7 := k7.at (new_at e6)
    have nm7 := N7.at_
    have hm5 : m5 ≤ 600000000 := by omega
    walk_at "go"
    intro v8 b H8 m8 t8 pr inn ml8 mu8 D8 k8
    have op6 := (D5.off hp6)
    have p8 := k8.keep _ _ p7 op6
    have nm8 := (N7.kpD k8).at_
    walk_at "go"
    intro D hD
    refine lc_range (lo := 1) (n := Int.toNat 3) (fun j X => Lp (Kp [D] H8 X ∧ ∃ ps : List Addr, X D = some (.lst (ps.map V.ref)) ∧ ps.length ≤ j ∧ Paired (fun p kv => X p = some (.tup [kV kv.1, kv.2])) ps ((kv40 L R L' R').take j))) ⟨(Kp.new hD).sub (by simp), [], upd_same, Nat.le_refl _, .nil⟩ ?_ ?_
    · rintro j X hj ⟨⟨kx, ps, d1, lp, pp⟩⟩
      have hj3 : j < 3 := hj
      have nmX := kx.keep _ _ nm8 (ne1 (ne_of_none nm8 hD))
      have pX := kx.keep _ _ p8 (ne1 (ne_of_none p8 hD))
      have go : ∀ (j : Nat), j < 3 → ∃ x y : Str, atI ((nmsOf L R).map V.str) (1 + (j : Int)) = some (.str x) ∧ atI [V.str (nz L' R'), V.str (nx L' R'), V.str (nq L' R')] (1 + (j : Int) - 1) = some (.str y) ∧ (kv40 L R L' R')[j]? = some (Sum.inr x, .str y) := by
        intro j hj
        rcases (show j = 0 ∨ j = 1 ∨ j = 2 by omega) with rfl | rfl | rfl
        · exact ⟨_, _, rfl, rfl, rfl⟩
        · exact ⟨_, _, rfl, rfl, rfl⟩
        · exact ⟨_, _, rfl, rfl, rfl⟩
      obtain ⟨x, y, ax, ay, hkv⟩ := go j hj3
      have cpx : cutV ((nmsOf L' R').map V.str).reverse none (some 3) = [V.str (nz L' R'), V.str (nx L' R'), V.str (nq L' R')] := rfl
      walk_at "go"
      intro l9 X9 hl9 al9 k9
      rw [cpx] at al9
      have d9 := k9.at d1
      walk_at "go"
      intro u X2 hu2 e2
      have k2 := new_kp hu2 e2
      have d2 := k2.at d9
      have hzz : (ps.map V.ref).length < sizeLine := by
        rw [List.length_map]
        exact sz_lt (by omega)
      walk_at "go"
      have kp := Kp.put (u := HO.lst (ps.map V.ref ++ [V.ref u])) d2 (fun _ z => by cases z)
      refine ⟨((kx.step0 k9).step0 k2).trans kp, ps ++ [u], by rw [upd_same, List.map_append]; rfl, by rw [List.length_append, List.length_singleton]; omega, ?_⟩
      rw [List.take_add_one, hkv]
      exact (L2.Paired.mapP pp fun p kv h => kp.tup _ _ (k2.tup _ _ (k9.tup _ _ h))).snoc (kp.tup _ _ (new_at e2))
    rintro X ⟨⟨kx, ps, d1, lp, pp⟩⟩
    have kx0 : Kp [] H8 X := (Kp.refl (S := [])).step1 kx (.inr hD)
    refine ⟨D, ps, kv40 L R L' R', rfl, SqL.of d1, L2.Paired.mapP pp (fun p kv h => SqT.of h), fun nd H9 hnd nd9 k9 => ?_⟩
    rw [kv40_merge] at nd9
    have K89 : Kp [] H8 H9 := kx0.trans k9
    have D9 := D8.kp0 K89
    have t9 := K89.tr t8
    intro wd hwd
    have kw : Kp [] H9 (upd H9 wd (.dK [])) := Kp.new hwd
    refine ⟨upd_same, w40, rfl, by decide, ?_⟩
    rw [w40_merge]
    have kw2 : Kp [] H9 (upd (upd H9 wd (.dK [])) wd (.dK w40)) := kw.step1 (Kp.put upd_same (fun _ z => by cases z)) (.inr hwd)
    have wd0 : (upd (upd H9 wd (.dK [])) wd (.dK w40)) wd = some (.dK w40) := upd_same
    have D10 := D9.kp0 kw2
    have t10 := kw2.tr t9
    have nd10 := kw2.at nd9
    generalize upd (upd H9 wd (.dK [])) wd (.dK w40) = H10 at kw2 wd0 D10 t10 nd10 ⊢
    have pw := Sm.plws b inn
    have pw1 : PlW (.tuple (Sm.ds b)) := by simp only [PlW]; exact plwt_ds b pw
    have gd1 : Gd (.tuple (Sm.ds b)) := gd_blk (Sm.gds pr.ok (by have := pr.pl; omega)) (by have := pr.pl; omega)
    have dp1 : (PyData.tuple (Sm.ds b)).depth ≤ 20 := by
      have h1 := Sm.deps pr.ok
      have h2 := pr.nest
      simp only [PyData.depth]
      omega
    have h2060 : 20 ≤ 60 := by decide
    have rel1 : RnRel (kv40 L R L' R') (f40 L R L' R') := f40_rel
    have rel2 := g40_rel
    walk_at "go"
    intro v11 H11 t11 k11
    rw [rn_block] at t11
    have prn := pr.rn (f40_ok lr' (L := L) (R := R)) g40_ok
    have rr := fun k (hk : k = 0 ∨ k = 1) cs n => ahd_rr lr lr' inn hk cs n
    generalize Sm.rns (f40 L R L' R') g40 b = B at t11 prn rr
    have t12 := k11.tr t10
    have wd11 := k11.at wd0
    have D11 := D10.kp0 k11
    walk_at "go"
    intro u12 H12 hu12 e12
    have k12 := new_kp hu12 e12
    have a12 := new_at e12
    walk_at "go"
    intro u13 H13 hu13 e13
    have k13 := new_kp hu13 e13
    have a13 := new_at e13
    have a123 := k13.tup _ _ a12
    walk_at "go"
    intro u14 H14 hu14 e14
    have k14 := new_kp hu14 e14
    have a14 := new_at e14
    have st14 : Tr H14 (Sm.set "spare1" (.plus (.var "n") (.num 5))).d (.ref u13) := by
      simp only [Sm.d, Ex.d]
      exact mk_tup (k14.tup _ _ a13) (trs_cons mk_str (trs_cons mk_str (trs_cons (mk_tup (k14.tup _ _ a123) (trs_cons mk_str (trs_cons mk_str (trs_cons mk_int trs_nil)))) trs_nil)))
    have K14 := (k12.trans k13).trans k14
    have D14 := D11.kp0 K14
    have hm14 : m8 ≤ MANY := by show m8 ≤ 1000000000; omega
    walk_at "go"
    intro r15 H15 r0 r2 D15 k15
    obtain ⟨kk, rfl, hkk⟩ : ∃ kk : Nat, r15 = (kk : Int) ∧ (kk = 0 ∨ kk = 1) := ⟨r15.toNat, by omega, by omega⟩
    have a15 := k15.tup _ _ a14
    have kk0 : (0 : Int) ≤ (kk : Int) := by omega
    have kk1 : (kk : Int) ≤ 1000 := by omega
    walk_at "go"
    intro p16 H16 a16 k16
    rw [Int.toNat_natCast] at a16
    have st16 : Tr H16 (.tuple (Sm.ds (ahd kk))) (.ref p16) := mk_tup a16 (ahd_tr (k16.tr (k15.tr st14)) kk)
    have D16 := D15.kp0 k16
    have K1016 : Kp [a, c] H11 H16 := ((K14.sub (by simp)).trans k15).step0 k16
    have owd := D9.off hwd
    have wd16 := K1016.keep _ _ wd11 owd
    have tb16 := K1016.tr t12
    have tB16 := K1016.tr t11
    have aok := fun k (hk : k = 0 ∨ k = 1) => ahd_ok prn hk
    have bok := pr.ok
    have bnest := pr.nest
    have bwt : Sm.wts b ≤ 100000 := Nat.le_trans pr.wt (by decide)
    have bpl : Sm.pls b ≤ 1000000 := Nat.le_trans pr.pl (by decide)
    have Bok := prn.ok
    have Bnest := prn.nest
    have Bwt : Sm.wts B ≤ 100000 := Nat.le_trans prn.wt (by decide)
    have Bpl : Sm.pls B ≤ 1000000 := Nat.le_trans prn.pl (by decide)
    walk_at "go"
    refine ⟨for_range (lo := 0) (n := Int.toNat 4) (fun j σ X => Lp (∃ (s10 s11 s12 s13 s14 s15 s16 s17 : Option V) (m : Int), σ = [some (.ref sa), some (.ref a), some (.int (0 + (i : Int))), some (.ref nm), some (.ref p6), some v8, some (.ref nd), some (.ref wd), some v11, some (.ref p16), s10, s11, s12, s13, s14, s15, s16, s17, none] ∧ m8 + 1 ≤ m ∧ m ≤ m8 + 1 + (j : Int) * 20 ∧ Deck X a c m ∧ Kp [a, c] H16 X)) ⟨_, _, _, _, _, _, _, _, m8 + 1, rfl, by omega, by omega, D16, Kp.refl⟩ ?_ ?_⟩
    · rintro j σ X hj ⟨⟨s10, s11, s12, s13, s14, s15, s16, s17, m, rfl, ml, mu, DX, kX⟩⟩
      have hj4 : j < 4 := hj
      have hm1 : m ≤ 600000000 := by omega
      walk_at "go"
      intro n H17 m17 n1 n2 ml17 mu17 D17 k17
      have hm17 : m17 ≤ 600000000 := by omega
      walk_at "go"
      intro pc cs H18 m18 h18 b01 lc ml18 mu18 D18 k18
      have K18 := (kX.trans k17).trans k18
      have tb18 := K18.tr tb16
      have lc1 : cs.length ≤ 1000000 := by omega
      walk_at "go"
      intro fv H19 t19 k19
      have ro := runs_ok b01 pr n1 n2
      have ri : ResIn (Sm.runs (decC cs) noWay b 0 (cs0 n)) := Sm.runs_in b inn 0 (cs0 n) (fun c h => nomatch h)
      have rr1 := rr 0 (.inl rfl) cs n
      have rr2 := rr kk hkk cs n
      generalize Sm.runs (decC cs) noWay b 0 (cs0 n) = R at t19 ro ri rr1 rr2
      obtain ⟨uf, y1, y2, y3, rfl, hf, t1, t2, t3⟩ := tr_tup3 t19
      obtain ⟨u1, xs1, rfl, h1, ts1⟩ := tr_tup t1
      obtain ⟨u3, xs3, rfl, h3, ts3⟩ := tr_tup t3
      cases ints_of ts3
      cases keys_of ts1
      cases tr_wV t2
      have K19 := K18.step0 k19
      have D19 := D18.kp0 k19
      have wd19 := K19.keep _ _ wd16 owd
      have ro1 : ROk (Sm.runs (decC cs) noWay B 0 (cs0 n)) := runs_ok b01 prn n1 n2
      have sR1 := res_shw ro1
      have eR1 : resD (Sm.runs (decC cs) noWay B 0 (cs0 n)) = _ := rn_res rr1
      have eR2 := rn_res rr2
      have h18' := k19.tup _ _ h18
      walk_at "go"
      intro D5 hD5
      have od5 := D19.off hD5
      refine lc_tup (K := K) (a := u1) (xs := R.2.said.map kV) (fun j X => Lp (Kp [D5] H19 X ∧ X D5 = some (.lst ((R.2.said.take j).map gV)))) ⟨(Kp.new hD5).sub (by simp), by rw [List.take_zero]; exact upd_same⟩ ?_ ?_ ?_
      · rintro j X _ ⟨⟨kx, _⟩⟩
        exact SqT.of (kx.tup _ _ h1)
      · rintro j x X hx ⟨⟨kx, d1⟩⟩
        obtain ⟨k, hk, rfl⟩ : ∃ k, R.2.said[j]? = some k ∧ x = kV k := by
          rw [List.getElem?_map] at hx
          obtain ⟨k, h1, h2⟩ := Option.map_eq_some_iff.mp hx
          exact ⟨k, h1, h2.symm⟩
        have hjl : j < R.2.said.length := (List.getElem?_eq_some_iff.mp hk).1
        have lsaid := ro.len
        have hzz : ((R.2.said.take j).map gV).length < sizeLine := by
          rw [List.length_map, List.length_take]
          exact sz_lt (by omega)
        have eg := gV_take hk
        have wdX := kx.keep _ _ wd19 (ne1 (ne_of_none wd19 hD5))
        cases k with
        | inl i =>
          walk_at "go"
          have kp := Kp.put (u := HO.lst ((R.2.said.take j).map gV ++ [V.int i])) d1 (fun _ z => by cases z)
          exact ⟨kx.trans kp, by rw [upd_same, eg]; rfl⟩
        | inr z =>
          have dg := g40_rel.get (ri.2 z (List.mem_of_getElem? hk)) wdX
          walk_at "go"
          have kp := Kp.put (u := HO.lst ((R.2.said.take j).map gV ++ [V.str (g40 z)])) d1 (fun _ z => by cases z)
          exact ⟨kx.trans kp, by rw [upd_same, eg]; rfl⟩
      rintro X20 ⟨⟨kx20, d20⟩⟩
      rw [List.length_map, List.take_length] at d20
      have kx0 : Kp [] H19 X20 := (Kp.refl (S := [])).step1 kx20 (.inr hD5)
      walk_at "go"
      intro r21 H21 hr21 a21 k21
      have K21 := kx0.trans k21
      have h3' := K21.tup _ _ h3
      have wd21 := K21.at wd19
      have D21 := D19.kp0 K21
      walk_at "go"
      generalize hD1 : Sm.runs (decC cs) noWay B 0 (cs0 n) = R1 at eR1 sR1
      have fin : ∀ (X : Hp) (s13 s14 s15 s16 s17 : Option V), Deck X a c m18 → Kp [a, c] H16 X → Lp (∃ (s10 s11 s12 s13' s14' s15' s16' s17' : Option V) (m : Int), [some (.ref sa), some (.ref a), some (.int (0 + (i : Int))), some (.ref nm), some (.ref p6), some v8, some (.ref nd), some (.ref wd), some v11, some (.ref p16), some (.int (0 + (j : Int))), some (.int n), some (.ref pc), s13, s14, s15, s16, s17, none] = [some (.ref sa), some (.ref a), some (.int (0 + (i : Int))), some (.ref nm), some (.ref p6), some v8, some (.ref nd), some (.ref wd), some v11, some (.ref p16), s10, s11, s12, s13', s14', s15', s16', s17', none] ∧ m8 + 1 ≤ m ∧ m ≤ m8 + 1 + ((j + 1 : Nat) : Int) * 20 ∧ Deck X a c m ∧ Kp [a, c] H16 X) := fun X s13 s14 s15 s16 s17 D k => ⟨_, _, _, s13, s14, s15, s16, s17, m18, rfl, by omega, by rw [Int.natCast_add, Int.add_mul]; omega, D, k⟩
      refine if_word wd21 g40_rel ri.1 rfl rfl ?_
      walk_at "go"
      intro u22 H22 hu22 e22
      have k22 := new_kp hu22 e22
      have tD : Tr H22 (resD R1) (.ref u22) := by
        rw [eR1]
        exact mk_tup (new_at e22) (trs_cons (mk_tup (k22.tup _ _ a21) (gVs_tr _)) (trs_cons (tr_wD _) (trs_cons (mk_tup (k22.tup _ _ h3') (trs_int _)) trs_nil)))
      have D22 := D21.kp0 k22
      have K22 := K21.trans k22
      have tB22 := (K19.step0 K22).tr tB16
      have st22 := (K19.step0 K22).tr st16
      have h22 := K22.tup _ _ h18'
      walk_at "go"
      intro z1 hz1
      walk_at "go"
      intro fv2 H23 t23 k23
      rw [hD1] at t23
      walk_at "go"
      intro z2 hz2
      cases hz1.trans hz2.symm
      refine ⟨_, rfl, rfl, _, rfl, ?_⟩
      have ez : (!decide (V.str z1 = V.str z1)) = false := by simp
      rw [ez]
      refine iteF ?_
      have D23 := D22.kp0 k23
      have tB23 := k23.tr tB22
      have st23 := k23.tr st22
      have h23 := k23.tup _ _ h22
      obtain ⟨q1, ys1, rfl, hq1, tq1⟩ := tr_tup tB23
      have hp16 := (K19.step0 K22).tup _ _ a16
      have hp23 := k23.tup _ _ hp16
      have K23 := (K19.step0 K22).step0 k23
      have eR21 : resD (Sm.runs (decC cs) noWay (ahd kk ++ B) 0 (cs0 n)) = resD R1 := eR2.trans eR1.symm
      obtain ⟨aok1, apl1⟩ := aok kk hkk
      have szW : Szd (.tuple (Sm.ds (ahd kk ++ B))) := by simp only [Szd]; exact Sm.szds aok1
      have dzW : dsz (.tuple (Sm.ds (ahd kk ++ B))) ≤ 1000000 := by
        have h1 := Sm.dszs_le aok1
        simp only [dsz]
        omega
      have lk : (List.replicate kk [V.ref u13]).flatten.length = kk := by rw [flat_rep, List.length_replicate]
      have lq := tq1.length
      have lB := Sm.ds_le B
      have lW : (List.replicate kk [V.ref u13]).flatten.length + ys1.length ≤ sizeLine := by
        rw [lk, lq]
        have := prn.pl
        exact sz_le (by omega)
      have tp23 := tr_tup st23
      obtain ⟨_, xsA, eqA, hA23, tA23⟩ := tp23
      cases eqA
      rw [hp23] at hA23
      cases hA23
      walk_at "go"
      intro p24 H24 a24 k24
      have tW : Tr H24 (.tuple (Sm.ds (ahd kk ++ B))) (.ref p24) := by
        rw [Sm.ds_app]
        exact mk_tup a24 ((k24.trAll tA23).append (k24.trAll tq1))
      walk_at "go"
      intro et ed H25 te pe k25
      have D25 := (D23.kp0 k24).kp0 k25
      have K25 := (K23.step0 k24).step0 k25
      rcases pe.ne_none with rfl | ⟨x25, w25, rfl⟩
      case inr =>
        obtain ⟨u, x1, x2, rfl, hu25, _, _⟩ := tr_tup2 te
        walk_at "go"
        exact fin _ _ _ _ _ _ D25 K25
      have et0 : et = .non := by simp only [Tr] at te; exact te
      subst et0
      have prW : PrOk (ahd kk ++ B) := pe.pr4 rfl
      have Wok := prW.ok
      have Wnest := prW.nest
      have Wwt : Sm.wts (ahd kk ++ B) ≤ 100000 := Nat.le_trans prW.wt (by decide)
      have Wpl : Sm.pls (ahd kk ++ B) ≤ 1000000 := Nat.le_trans prW.pl (by decide)
      have k2325 := k24.trans k25
      have hp25 := k2325.tup _ _ hp23
      have hq25 := k2325.tup _ _ hq1
      have h25 := k2325.tup _ _ h23
      walk_at "go"
      intro p26 H26 a26 k26
      have tW26 : Tr H26 (.tuple (Sm.ds (ahd kk ++ B))) (.ref p26) := by
        rw [Sm.ds_app]
        exact mk_tup a26 ((k26.trAll (k2325.trAll tA23)).append (k26.trAll (k2325.trAll tq1)))
      have h26 := k26.tup _ _ h25
      walk_at "go"
      intro fv3 H27 t27 k27
      rw [eR21] at t27
      walk_at "go"
      intro z3 hz3
      cases hz1.trans hz3.symm
      refine ⟨_, rfl, rfl, _, rfl, ?_⟩
      have ez : (!decide (V.str z1 = V.str z1)) = false := by simp
      rw [ez]
      refine iteF ?_
      exact fin _ _ _ _ _ _ ((D25.kp0 k26).kp0 k27) ((K25.step0 k26).step0 k27)
    · rintro σ X ⟨⟨s10, s11, s12, s13, s14, s15, s16, s17, m', rfl, ml, mu', DX, kX⟩⟩
      exact ⟨_, _, _, _, _, _, _, _, _, _, _, _, _, _, _, _, m', rfl, by omega, by rw [Int.natCast_add, Int.add_mul]; omega, DX⟩
  · rintro σ X ⟨⟨s2, s3, s4, s5, s6, s7, s8, s9, s10, s11, s12, s13, s14, s15, s16, s17, m, rfl, m0, mu, D3⟩⟩
    walk_at "go"
    exact q _
end
end EH
namespace EH
open PySem L2 PyProof.Rows
theorem all_mk {P : Program} {w : World} {K : PySem.W.Frag} {h : Heap} {mg : Str → Option Value} {fa : Addr} (X : K.In h) (G : h.Ns mainGlobals mg) (hfa : mg "law" = some (.ref fa))
    {C_Course : Addr}
    {f1 : Addr} {od1 an1 : Option Addr} {sl1 : Array (Option Value)} {oc1 kV1 dc1 pm1 cd1 ct1 : Value}
    {f2 : Addr} {od2 an2 : Option Addr} {sl2 : Array (Option Value)} {oc2 kV2 dc2 pm2 cd2 ct2 : Value}
    {f3 : Addr} {od3 an3 : Option Addr} {sl3 : Array (Option Value)} {oc3 kV3 dc3 pm3 cd3 ct3 : Value}
    {f4 : Addr} {od4 an4 : Option Addr} {sl4 : Array (Option Value)} {oc4 kV4 dc4 pm4 cd4 ct4 : Value}
    {f5 : Addr} {od5 an5 : Option Addr} {sl5 : Array (Option Value)} {oc5 kV5 dc5 pm5 cd5 ct5 : Value}
    {f6 : Addr} {od6 an6 : Option Addr} {sl6 : Array (Option Value)} {oc6 kV6 dc6 pm6 cd6 ct6 : Value}
    {f7 : Addr} {od7 an7 : Option Addr} {sl7 : Array (Option Value)} {oc7 kV7 dc7 pm7 cd7 ct7 : Value}
    {f8 : Addr} {od8 an8 : Option Addr} {sl8 : Array (Option Value)} {oc8 kV8 dc8 pm8 cd8 ct8 : Value}
    {f9 : Addr} {od9 an9 : Option Addr} {sl9 : Array (Option Value)} {oc9 kV9 dc9 pm9 cd9 ct9 : Value}
    {f10 : Addr} {od10 an10 : Option Addr} {sl10 : Array (Option Value)} {oc10 kV10 dc10 pm10 cd10 ct10 : Value}
    {f11 : Addr} {od11 an11 : Option Addr} {sl11 : Array (Option Value)} {oc11 kV11 dc11 pm11 cd11 ct11 : Value}
    {f12 : Addr} {od12 an12 : Option Addr} {sl12 : Array (Option Value)} {oc12 kV12 dc12 pm12 cd12 ct12 : Value}
    {f13 : Addr} {od13 an13 : Option Addr} {sl13 : Array (Option Value)} {oc13 kV13 dc13 pm13 cd13 ct13 : Value}
    {f14 : Addr} {od14 an14 : Option Addr} {sl14 : Array (Option Value)} {oc14 kV14 dc14 pm14 cd14 ct14 : Value}
    {f15 : Addr} {od15 an15 : Option Addr} {sl15 : Array (Option Value)} {oc15 kV15 dc15 pm15 cd15 ct15 : Value}
    {f16 : Addr} {od16 an16 : Option Addr} {sl16 : Array (Option Value)} {oc16 kV16 dc16 pm16 cd16 ct16 : Value}
    {f17 : Addr} {od17 an17 : Option Addr} {sl17 : Array (Option Value)} {oc17 kV17 dc17 pm17 cd17 ct17 : Value}
    {f18 : Addr} {od18 an18 : Option Addr} {sl18 : Array (Option Value)} {oc18 kV18 dc18 pm18 cd18 ct18 : Value}
    {f19 : Addr} {od19 an19 : Option Addr} {sl19 : Array (Option Value)} {oc19 kV19 dc19 pm19 cd19 ct19 : Value}
    {f20 : Addr} {od20 an20 : Option Addr} {sl20 : Array (Option Value)} {oc20 kV20 dc20 pm20 cd20 ct20 : Value}
    {f21 : Addr} {od21 an21 : Option Addr} {sl21 : Array (Option Value)} {oc21 kV21 dc21 pm21 cd21 ct21 : Value}
    {f22 : Addr} {od22 an22 : Option Addr} {sl22 : Array (Option Value)} {oc22 kV22 dc22 pm22 cd22 ct22 : Value}
    {f23 : Addr} {od23 an23 : Option Addr} {sl23 : Array (Option Value)} {oc23 kV23 dc23 pm23 cd23 ct23 : Value}
    {f24 : Addr} {od24 an24 : Option Addr} {sl24 : Array (Option Value)} {oc24 kV24 dc24 pm24 cd24 ct24 : Value}
    {f25 : Addr} {od25 an25 : Option Addr} {sl25 : Array (Option Value)} {oc25 kV25 dc25 pm25 cd25 ct25 : Value}
    {f26 : Addr} {od26 an26 : Option Addr} {sl26 : Array (Option Value)} {oc26 kV26 dc26 pm26 cd26 ct26 : Value}
    {f27 : Addr} {od27 an27 : Option Addr} {sl27 : Array (Option Value)} {oc27 kV27 dc27 pm27 cd27 ct27 : Value}
    {f28 : Addr} {od28 an28 : Option Addr} {sl28 : Array (Option Value)} {oc28 kV28 dc28 pm28 cd28 ct28 : Value}
    {f29 : Addr} {od29 an29 : Option Addr} {sl29 : Array (Option Value)} {oc29 kV29 dc29 pm29 cd29 ct29 : Value}
    {f30 : Addr} {od30 an30 : Option Addr} {sl30 : Array (Option Value)} {oc30 kV30 dc30 pm30 cd30 ct30 : Value}
    {f31 : Addr} {od31 an31 : Option Addr} {sl31 : Array (Option Value)} {oc31 kV31 dc31 pm31 cd31 ct31 : Value}
    {f32 : Addr} {od32 an32 : Option Addr} {sl32 : Array (Option Value)} {oc32 kV32 dc32 pm32 cd32 ct32 : Value}
    {f33 : Addr} {od33 an33 : Option Addr} {sl33 : Array (Option Value)} {oc33 kV33 dc33 pm33 cd33 ct33 : Value}
    {f34 : Addr} {od34 an34 : Option Addr} {sl34 : Array (Option Value)} {oc34 kV34 dc34 pm34 cd34 ct34 : Value}
    {f35 : Addr} {od35 an35 : Option Addr} {sl35 : Array (Option Value)} {oc35 kV35 dc35 pm35 cd35 ct35 : Value}
    {f36 : Addr} {od36 an36 : Option Addr} {sl36 : Array (Option Value)} {oc36 kV36 dc36 pm36 cd36 ct36 : Value}
    {f37 : Addr} {od37 an37 : Option Addr} {sl37 : Array (Option Value)} {oc37 kV37 dc37 pm37 cd37 ct37 : Value}
    {f38 : Addr} {od38 an38 : Option Addr} {sl38 : Array (Option Value)} {oc38 kV38 dc38 pm38 cd38 ct38 : Value}
    {f39 : Addr} {od39 an39 : Option Addr} {sl39 : Array (Option Value)} {oc39 kV39 dc39 pm39 cd39 ct39 : Value}
    {f40 : Addr} {od40 an40 : Option Addr} {sl40 : Array (Option Value)} {oc40 kV40 dc40 pm40 cd40 ct40 : Value}
    {f41 : Addr} {od41 an41 : Option Addr} {sl41 : Array (Option Value)} {oc41 kV41 dc41 pm41 cd41 ct41 : Value}
    {f42 : Addr} {od42 an42 : Option Addr} {sl42 : Array (Option Value)} {oc42 kV42 dc42 pm42 cd42 ct42 : Value}
    {t_MAX_NAME : Tok}
    {t_MAX_WORD : Tok}
    {t_MAX_TIMES : Tok}
    {t_MAX_DEEP : Tok}
    {t_MAX_NOTS : Tok}
    {t_MAX_PLACES : Tok}
    {t_MAX_WEIGHT : Tok}
    {t_MAX_HALVINGS : Tok}
    {t_MAX_COMPARINGS : Tok}
    {t_MAX_NEST : Tok}
    {t_LETTERS : Tok}
    {t_SIGNS : Tok}
    {t_MOST_NUMBER : Tok}
    {t_MOST_FACTOR : Tok}
    {t_DOWN : Tok}
    {t_INPUT : Tok}
    {a_KEPT : Addr} {ob_KEPT : Option Addr} {ns_KEPT : Nat} {ss_KEPT : Array (Option Value)} {u_KEPT_0 u_KEPT_1 u_KEPT_2 u_KEPT_3 u_KEPT_4 u_KEPT_5 u_KEPT_6 u_KEPT_7 u_KEPT_8 u_KEPT_9 u_KEPT_10 : Tok}
    (aC_Course : PySem.W.nsIn K mainGlobals "Course" = some (some (.ref C_Course)))
    (pg_Course : PySem.W.plainGet K C_Course Str.empty = true)
    (hd_Course : PySem.W.hasDictIn K C_Course = true)
    (po_Course : PySem.W.plainOver K C_Course = true)
    (sa_Course : PySem.W.findIn K (.ref C_Course) "__setattr__" = some (some (.builtin "object.__setattr__")))
    (mk_Course : PySem.W.makesIn K C_Course = true)
    (kc_Course : PySem.W.keepIn K (.ref C_Course) = true)
    (a1 : PySem.W.nsIn K mainGlobals "is_whole" = some (some (.ref f1)))
    (l1 : K.lookup f1 = some ⟨oc1, od1, .func (PySem.W.fnOf "is_whole" "is_whole" (defArgs s_is_whole) (defBody s_is_whole) (defScope s_is_whole) .none kV1 dc1 pm1 an1 cd1 ct1), sl1⟩)
    (c1 : PySem.W.codeIn K cd1 "is_whole" = true)
    (k1 : PySem.W.keepIn K (.ref f1) = true)
    (a2 : PySem.W.nsIn K mainGlobals "is_word" = some (some (.ref f2)))
    (l2 : K.lookup f2 = some ⟨oc2, od2, .func (PySem.W.fnOf "is_word" "is_word" (defArgs s_is_word) (defBody s_is_word) (defScope s_is_word) .none kV2 dc2 pm2 an2 cd2 ct2), sl2⟩)
    (c2 : PySem.W.codeIn K cd2 "is_word" = true)
    (k2 : PySem.W.keepIn K (.ref f2) = true)
    (a3 : PySem.W.nsIn K mainGlobals "is_name" = some (some (.ref f3)))
    (l3 : K.lookup f3 = some ⟨oc3, od3, .func (PySem.W.fnOf "is_name" "is_name" (defArgs s_is_name) (defBody s_is_name) (defScope s_is_name) .none kV3 dc3 pm3 an3 cd3 ct3), sl3⟩)
    (c3 : PySem.W.codeIn K cd3 "is_name" = true)
    (k3 : PySem.W.keepIn K (.ref f3) = true)
    (a4 : PySem.W.nsIn K mainGlobals "is_expression" = some (some (.ref f4)))
    (l4 : K.lookup f4 = some ⟨oc4, od4, .func (PySem.W.fnOf "is_expression" "is_expression" (defArgs s_is_expression) (defBody s_is_expression) (defScope s_is_expression) .none kV4 dc4 pm4 an4 cd4 ct4), sl4⟩)
    (c4 : PySem.W.codeIn K cd4 "is_expression" = true)
    (k4 : PySem.W.keepIn K (.ref f4) = true)
    (a5 : PySem.W.nsIn K mainGlobals "is_test" = some (some (.ref f5)))
    (l5 : K.lookup f5 = some ⟨oc5, od5, .func (PySem.W.fnOf "is_test" "is_test" (defArgs s_is_test) (defBody s_is_test) (defScope s_is_test) .none kV5 dc5 pm5 an5 cd5 ct5), sl5⟩)
    (c5 : PySem.W.codeIn K cd5 "is_test" = true)
    (k5 : PySem.W.keepIn K (.ref f5) = true)
    (a6 : PySem.W.nsIn K mainGlobals "is_plain" = some (some (.ref f6)))
    (l6 : K.lookup f6 = some ⟨oc6, od6, .func (PySem.W.fnOf "is_plain" "is_plain" (defArgs s_is_plain) (defBody s_is_plain) (defScope s_is_plain) .none kV6 dc6 pm6 an6 cd6 ct6), sl6⟩)
    (c6 : PySem.W.codeIn K cd6 "is_plain" = true)
    (k6 : PySem.W.keepIn K (.ref f6) = true)
    (a7 : PySem.W.nsIn K mainGlobals "is_statement" = some (some (.ref f7)))
    (l7 : K.lookup f7 = some ⟨oc7, od7, .func (PySem.W.fnOf "is_statement" "is_statement" (defArgs s_is_statement) (defBody s_is_statement) (defScope s_is_statement) .none kV7 dc7 pm7 an7 cd7 ct7), sl7⟩)
    (c7 : PySem.W.codeIn K cd7 "is_statement" = true)
    (k7 : PySem.W.keepIn K (.ref f7) = true)
    (a8 : PySem.W.nsIn K mainGlobals "blocks_of" = some (some (.ref f8)))
    (l8 : K.lookup f8 = some ⟨oc8, od8, .func (PySem.W.fnOf "blocks_of" "blocks_of" (defArgs s_blocks_of) (defBody s_blocks_of) (defScope s_blocks_of) .none kV8 dc8 pm8 an8 cd8 ct8), sl8⟩)
    (c8 : PySem.W.codeIn K cd8 "blocks_of" = true)
    (k8 : PySem.W.keepIn K (.ref f8) = true)
    (a9 : PySem.W.nsIn K mainGlobals "items_within" = some (some (.ref f9)))
    (l9 : K.lookup f9 = some ⟨oc9, od9, .func (PySem.W.fnOf "items_within" "items_within" (defArgs s_items_within) (defBody s_items_within) (defScope s_items_within) .none kV9 dc9 pm9 an9 cd9 ct9), sl9⟩)
    (c9 : PySem.W.codeIn K cd9 "items_within" = true)
    (k9 : PySem.W.keepIn K (.ref f9) = true)
    (a10 : PySem.W.nsIn K mainGlobals "rows_of" = some (some (.ref f10)))
    (l10 : K.lookup f10 = some ⟨oc10, od10, .func (PySem.W.fnOf "rows_of" "rows_of" (defArgs s_rows_of) (defBody s_rows_of) (defScope s_rows_of) .none kV10 dc10 pm10 an10 cd10 ct10), sl10⟩)
    (c10 : PySem.W.codeIn K cd10 "rows_of" = true)
    (k10 : PySem.W.keepIn K (.ref f10) = true)
    (a11 : PySem.W.nsIn K mainGlobals "order_error" = some (some (.ref f11)))
    (l11 : K.lookup f11 = some ⟨oc11, od11, .func (PySem.W.fnOf "order_error" "order_error" (defArgs s_order_error) (defBody s_order_error) (defScope s_order_error) .none kV11 dc11 pm11 an11 cd11 ct11), sl11⟩)
    (c11 : PySem.W.codeIn K cd11 "order_error" = true)
    (k11 : PySem.W.keepIn K (.ref f11) = true)
    (a12 : PySem.W.nsIn K mainGlobals "bare" = some (some (.ref f12)))
    (l12 : K.lookup f12 = some ⟨oc12, od12, .func (PySem.W.fnOf "bare" "bare" (defArgs s_bare) (defBody s_bare) (defScope s_bare) .none kV12 dc12 pm12 an12 cd12 ct12), sl12⟩)
    (c12 : PySem.W.codeIn K cd12 "bare" = true)
    (k12 : PySem.W.keepIn K (.ref f12) = true)
    (a13 : PySem.W.nsIn K mainGlobals "own_count" = some (some (.ref f13)))
    (l13 : K.lookup f13 = some ⟨oc13, od13, .func (PySem.W.fnOf "own_count" "own_count" (defArgs s_own_count) (defBody s_own_count) (defScope s_own_count) .none kV13 dc13 pm13 an13 cd13 ct13), sl13⟩)
    (c13 : PySem.W.codeIn K cd13 "own_count" = true)
    (k13 : PySem.W.keepIn K (.ref f13) = true)
    (a14 : PySem.W.nsIn K mainGlobals "counted" = some (some (.ref f14)))
    (l14 : K.lookup f14 = some ⟨oc14, od14, .func (PySem.W.fnOf "counted" "counted" (defArgs s_counted) (defBody s_counted) (defScope s_counted) .none kV14 dc14 pm14 an14 cd14 ct14), sl14⟩)
    (c14 : PySem.W.codeIn K cd14 "counted" = true)
    (k14 : PySem.W.keepIn K (.ref f14) = true)
    (a15 : PySem.W.nsIn K mainGlobals "weight" = some (some (.ref f15)))
    (l15 : K.lookup f15 = some ⟨oc15, od15, .func (PySem.W.fnOf "weight" "weight" (defArgs s_weight) (defBody s_weight) (defScope s_weight) .none kV15 dc15 pm15 an15 cd15 ct15), sl15⟩)
    (c15 : PySem.W.codeIn K cd15 "weight" = true)
    (k15 : PySem.W.keepIn K (.ref f15) = true)
    (a16 : PySem.W.nsIn K mainGlobals "program_error" = some (some (.ref f16)))
    (l16 : K.lookup f16 = some ⟨oc16, od16, .func (PySem.W.fnOf "program_error" "program_error" (defArgs s_program_error) (defBody s_program_error) (defScope s_program_error) .none kV16 dc16 pm16 an16 cd16 ct16), sl16⟩)
    (c16 : PySem.W.codeIn K cd16 "program_error" = true)
    (k16 : PySem.W.keepIn K (.ref f16) = true)
    (a17 : PySem.W.nsIn K mainGlobals "places_in" = some (some (.ref f17)))
    (l17 : K.lookup f17 = some ⟨oc17, od17, .func (PySem.W.fnOf "places_in" "places_in" (defArgs s_places_in) (defBody s_places_in) (defScope s_places_in) .none kV17 dc17 pm17 an17 cd17 ct17), sl17⟩)
    (c17 : PySem.W.codeIn K cd17 "places_in" = true)
    (k17 : PySem.W.keepIn K (.ref f17) = true)
    (a18 : PySem.W.nsIn K mainGlobals "value_of" = some (some (.ref f18)))
    (l18 : K.lookup f18 = some ⟨oc18, od18, .func (PySem.W.fnOf "value_of" "value_of" (defArgs s_value_of) (defBody s_value_of) (defScope s_value_of) .none kV18 dc18 pm18 an18 cd18 ct18), sl18⟩)
    (c18 : PySem.W.codeIn K cd18 "value_of" = true)
    (k18 : PySem.W.keepIn K (.ref f18) = true)
    (a19 : PySem.W.nsIn K mainGlobals "is_true" = some (some (.ref f19)))
    (l19 : K.lookup f19 = some ⟨oc19, od19, .func (PySem.W.fnOf "is_true" "is_true" (defArgs s_is_true) (defBody s_is_true) (defScope s_is_true) .none kV19 dc19 pm19 an19 cd19 ct19), sl19⟩)
    (c19 : PySem.W.codeIn K cd19 "is_true" = true)
    (k19 : PySem.W.keepIn K (.ref f19) = true)
    (a20 : PySem.W.findIn K (.ref C_Course) "__init__" = some (some (.ref f20)))
    (i20 : PySem.W.isFn K (.ref f20) = true)
    (l20 : K.lookup f20 = some ⟨oc20, od20, .func (PySem.W.fnOf "__init__" "Course.__init__" (defArgs s_Course_init) (defBody s_Course_init) (defScope s_Course_init) .none kV20 dc20 pm20 an20 cd20 ct20), sl20⟩)
    (c20 : PySem.W.codeIn K cd20 "Course.__init__" = true)
    (k20 : PySem.W.keepIn K (.ref f20) = true)
    (a21 : PySem.W.findIn K (.ref C_Course) "choice" = some (some (.ref f21)))
    (i21 : PySem.W.isFn K (.ref f21) = true)
    (l21 : K.lookup f21 = some ⟨oc21, od21, .func (PySem.W.fnOf "choice" "Course.choice" (defArgs s_Course_choice) (defBody s_Course_choice) (defScope s_Course_choice) .none kV21 dc21 pm21 an21 cd21 ct21), sl21⟩)
    (c21 : PySem.W.codeIn K cd21 "Course.choice" = true)
    (k21 : PySem.W.keepIn K (.ref f21) = true)
    (a22 : PySem.W.findIn K (.ref C_Course) "halved" = some (some (.ref f22)))
    (i22 : PySem.W.isFn K (.ref f22) = true)
    (l22 : K.lookup f22 = some ⟨oc22, od22, .func (PySem.W.fnOf "halved" "Course.halved" (defArgs s_Course_halved) (defBody s_Course_halved) (defScope s_Course_halved) .none kV22 dc22 pm22 an22 cd22 ct22), sl22⟩)
    (c22 : PySem.W.codeIn K cd22 "Course.halved" = true)
    (k22 : PySem.W.keepIn K (.ref f22) = true)
    (a23 : PySem.W.findIn K (.ref C_Course) "do" = some (some (.ref f23)))
    (i23 : PySem.W.isFn K (.ref f23) = true)
    (l23 : K.lookup f23 = some ⟨oc23, od23, .func (PySem.W.fnOf "do" "Course.do" (defArgs s_Course_do) (defBody s_Course_do) (defScope s_Course_do) .none kV23 dc23 pm23 an23 cd23 ct23), sl23⟩)
    (c23 : PySem.W.codeIn K cd23 "Course.do" = true)
    (k23 : PySem.W.keepIn K (.ref f23) = true)
    (a24 : PySem.W.findIn K (.ref C_Course) "parts" = some (some (.ref f24)))
    (i24 : PySem.W.isFn K (.ref f24) = true)
    (l24 : K.lookup f24 = some ⟨oc24, od24, .func (PySem.W.fnOf "parts" "Course.parts" (defArgs s_Course_parts) (defBody s_Course_parts) (defScope s_Course_parts) .none kV24 dc24 pm24 an24 cd24 ct24), sl24⟩)
    (c24 : PySem.W.codeIn K cd24 "Course.parts" = true)
    (k24 : PySem.W.keepIn K (.ref f24) = true)
    (a25 : PySem.W.findIn K (.ref C_Course) "go" = some (some (.ref f25)))
    (i25 : PySem.W.isFn K (.ref f25) = true)
    (l25 : K.lookup f25 = some ⟨oc25, od25, .func (PySem.W.fnOf "go" "Course.go" (defArgs s_Course_go) (defBody s_Course_go) (defScope s_Course_go) .none kV25 dc25 pm25 an25 cd25 ct25), sl25⟩)
    (c25 : PySem.W.codeIn K cd25 "Course.go" = true)
    (k25 : PySem.W.keepIn K (.ref f25) = true)
    (a26 : PySem.W.nsIn K mainGlobals "course_of" = some (some (.ref f26)))
    (l26 : K.lookup f26 = some ⟨oc26, od26, .func (PySem.W.fnOf "course_of" "course_of" (defArgs s_course_of) (defBody s_course_of) (defScope s_course_of) .none kV26 dc26 pm26 an26 cd26 ct26), sl26⟩)
    (c26 : PySem.W.codeIn K cd26 "course_of" = true)
    (k26 : PySem.W.keepIn K (.ref f26) = true)
    (a27 : PySem.W.nsIn K mainGlobals "run_of" = some (some (.ref f27)))
    (l27 : K.lookup f27 = some ⟨oc27, od27, .func (PySem.W.fnOf "run_of" "run_of" (defArgs s_run_of) (defBody s_run_of) (defScope s_run_of) .none kV27 dc27 pm27 an27 cd27 ct27), sl27⟩)
    (c27 : PySem.W.codeIn K cd27 "run_of" = true)
    (k27 : PySem.W.keepIn K (.ref f27) = true)
    (a28 : PySem.W.nsIn K mainGlobals "run" = some (some (.ref f28)))
    (l28 : K.lookup f28 = some ⟨oc28, od28, .func (PySem.W.fnOf "run" "run" (defArgs s_run) (defBody s_run) (defScope s_run) .none kV28 dc28 pm28 an28 cd28 ct28), sl28⟩)
    (c28 : PySem.W.codeIn K cd28 "run" = true)
    (k28 : PySem.W.keepIn K (.ref f28) = true)
    (a29 : PySem.W.nsIn K mainGlobals "_law_deck" = some (some (.ref f29)))
    (l29 : K.lookup f29 = some ⟨oc29, od29, .func (PySem.W.fnOf "_law_deck" "_law_deck" (defArgs s_l_deck) (defBody s_l_deck) (defScope s_l_deck) .none kV29 dc29 pm29 an29 cd29 ct29), sl29⟩)
    (c29 : PySem.W.codeIn K cd29 "_law_deck" = true)
    (k29 : PySem.W.keepIn K (.ref f29) = true)
    (a30 : PySem.W.nsIn K mainGlobals "_law_draw" = some (some (.ref f30)))
    (l30 : K.lookup f30 = some ⟨oc30, od30, .func (PySem.W.fnOf "_law_draw" "_law_draw" (defArgs s_l_draw) (defBody s_l_draw) (defScope s_l_draw) .none kV30 dc30 pm30 an30 cd30 ct30), sl30⟩)
    (c30 : PySem.W.codeIn K cd30 "_law_draw" = true)
    (k30 : PySem.W.keepIn K (.ref f30) = true)
    (a31 : PySem.W.nsIn K mainGlobals "_law_one" = some (some (.ref f31)))
    (l31 : K.lookup f31 = some ⟨oc31, od31, .func (PySem.W.fnOf "_law_one" "_law_one" (defArgs s_l_one) (defBody s_l_one) (defScope s_l_one) .none kV31 dc31 pm31 an31 cd31 ct31), sl31⟩)
    (c31 : PySem.W.codeIn K cd31 "_law_one" = true)
    (k31 : PySem.W.keepIn K (.ref f31) = true)
    (a32 : PySem.W.nsIn K mainGlobals "_law_names" = some (some (.ref f32)))
    (l32 : K.lookup f32 = some ⟨oc32, od32, .func (PySem.W.fnOf "_law_names" "_law_names" (defArgs s_l_names) (defBody s_l_names) (defScope s_l_names) .none kV32 dc32 pm32 an32 cd32 ct32), sl32⟩)
    (c32 : PySem.W.codeIn K cd32 "_law_names" = true)
    (k32 : PySem.W.keepIn K (.ref f32) = true)
    (a33 : PySem.W.nsIn K mainGlobals "_law_expression" = some (some (.ref f33)))
    (l33 : K.lookup f33 = some ⟨oc33, od33, .func (PySem.W.fnOf "_law_expression" "_law_expression" (defArgs s_l_expression) (defBody s_l_expression) (defScope s_l_expression) .none kV33 dc33 pm33 an33 cd33 ct33), sl33⟩)
    (c33 : PySem.W.codeIn K cd33 "_law_expression" = true)
    (k33 : PySem.W.keepIn K (.ref f33) = true)
    (a34 : PySem.W.nsIn K mainGlobals "_law_test" = some (some (.ref f34)))
    (l34 : K.lookup f34 = some ⟨oc34, od34, .func (PySem.W.fnOf "_law_test" "_law_test" (defArgs s_l_test) (defBody s_l_test) (defScope s_l_test) .none kV34 dc34 pm34 an34 cd34 ct34), sl34⟩)
    (c34 : PySem.W.codeIn K cd34 "_law_test" = true)
    (k34 : PySem.W.keepIn K (.ref f34) = true)
    (a35 : PySem.W.nsIn K mainGlobals "_law_plain" = some (some (.ref f35)))
    (l35 : K.lookup f35 = some ⟨oc35, od35, .func (PySem.W.fnOf "_law_plain" "_law_plain" (defArgs s_l_plain) (defBody s_l_plain) (defScope s_l_plain) .none kV35 dc35 pm35 an35 cd35 ct35), sl35⟩)
    (c35 : PySem.W.codeIn K cd35 "_law_plain" = true)
    (k35 : PySem.W.keepIn K (.ref f35) = true)
    (a36 : PySem.W.nsIn K mainGlobals "_law_row" = some (some (.ref f36)))
    (l36 : K.lookup f36 = some ⟨oc36, od36, .func (PySem.W.fnOf "_law_row" "_law_row" (defArgs s_l_row) (defBody s_l_row) (defScope s_l_row) .none kV36 dc36 pm36 an36 cd36 ct36), sl36⟩)
    (c36 : PySem.W.codeIn K cd36 "_law_row" = true)
    (k36 : PySem.W.keepIn K (.ref f36) = true)
    (a37 : PySem.W.nsIn K mainGlobals "_law_block" = some (some (.ref f37)))
    (l37 : K.lookup f37 = some ⟨oc37, od37, .func (PySem.W.fnOf "_law_block" "_law_block" (defArgs s_l_block) (defBody s_l_block) (defScope s_l_block) .none kV37 dc37 pm37 an37 cd37 ct37), sl37⟩)
    (c37 : PySem.W.codeIn K cd37 "_law_block" = true)
    (k37 : PySem.W.keepIn K (.ref f37) = true)
    (a38 : PySem.W.nsIn K mainGlobals "_law_program" = some (some (.ref f38)))
    (l38 : K.lookup f38 = some ⟨oc38, od38, .func (PySem.W.fnOf "_law_program" "_law_program" (defArgs s_l_program) (defBody s_l_program) (defScope s_l_program) .none kV38 dc38 pm38 an38 cd38 ct38), sl38⟩)
    (c38 : PySem.W.codeIn K cd38 "_law_program" = true)
    (k38 : PySem.W.keepIn K (.ref f38) = true)
    (a39 : PySem.W.nsIn K mainGlobals "_law_number" = some (some (.ref f39)))
    (l39 : K.lookup f39 = some ⟨oc39, od39, .func (PySem.W.fnOf "_law_number" "_law_number" (defArgs s_l_number) (defBody s_l_number) (defScope s_l_number) .none kV39 dc39 pm39 an39 cd39 ct39), sl39⟩)
    (c39 : PySem.W.codeIn K cd39 "_law_number" = true)
    (k39 : PySem.W.keepIn K (.ref f39) = true)
    (a40 : PySem.W.nsIn K mainGlobals "_law_choices" = some (some (.ref f40)))
    (l40 : K.lookup f40 = some ⟨oc40, od40, .func (PySem.W.fnOf "_law_choices" "_law_choices" (defArgs s_l_choices) (defBody s_l_choices) (defScope s_l_choices) .none kV40 dc40 pm40 an40 cd40 ct40), sl40⟩)
    (c40 : PySem.W.codeIn K cd40 "_law_choices" = true)
    (k40 : PySem.W.keepIn K (.ref f40) = true)
    (a41 : PySem.W.nsIn K mainGlobals "_law_renamed" = some (some (.ref f41)))
    (l41 : K.lookup f41 = some ⟨oc41, od41, .func (PySem.W.fnOf "_law_renamed" "_law_renamed" (defArgs s_l_renamed) (defBody s_l_renamed) (defScope s_l_renamed) .none kV41 dc41 pm41 an41 cd41 ct41), sl41⟩)
    (c41 : PySem.W.codeIn K cd41 "_law_renamed" = true)
    (k41 : PySem.W.keepIn K (.ref f41) = true)
    (a42 : PySem.W.nsIn K mainGlobals "law" = some (some (.ref f42)))
    (l42 : K.lookup f42 = some ⟨oc42, od42, .func (PySem.W.fnOf "law" "law" (defArgs s_law) (defBody s_law) (defScope s_law) .none kV42 dc42 pm42 an42 cd42 ct42), sl42⟩)
    (c42 : PySem.W.codeIn K cd42 "law" = true)
    (k42 : PySem.W.keepIn K (.ref f42) = true)
    (n_Course_names : PySem.W.findIn K (.ref C_Course) "names" = some none)
    (n_Course_said : PySem.W.findIn K (.ref C_Course) "said" = some none)
    (n_Course_turns : PySem.W.findIn K (.ref C_Course) "turns" = some none)
    (n_Course_choices : PySem.W.findIn K (.ref C_Course) "choices" = some none)
    (n_Course_ways : PySem.W.findIn K (.ref C_Course) "ways" = some none)
    (n_Course_rule : PySem.W.findIn K (.ref C_Course) "rule" = some none)
    (g_MAX_NAME : PySem.W.nsIn K mainGlobals "MAX_NAME" = some (some (.int 8 t_MAX_NAME)))
    (g_MAX_WORD : PySem.W.nsIn K mainGlobals "MAX_WORD" = some (some (.int 8 t_MAX_WORD)))
    (g_MAX_TIMES : PySem.W.nsIn K mainGlobals "MAX_TIMES" = some (some (.int 8 t_MAX_TIMES)))
    (g_MAX_DEEP : PySem.W.nsIn K mainGlobals "MAX_DEEP" = some (some (.int 3 t_MAX_DEEP)))
    (g_MAX_NOTS : PySem.W.nsIn K mainGlobals "MAX_NOTS" = some (some (.int 2 t_MAX_NOTS)))
    (g_MAX_PLACES : PySem.W.nsIn K mainGlobals "MAX_PLACES" = some (some (.int 24 t_MAX_PLACES)))
    (g_MAX_WEIGHT : PySem.W.nsIn K mainGlobals "MAX_WEIGHT" = some (some (.int 60 t_MAX_WEIGHT)))
    (g_MAX_HALVINGS : PySem.W.nsIn K mainGlobals "MAX_HALVINGS" = some (some (.int 4 t_MAX_HALVINGS)))
    (g_MAX_COMPARINGS : PySem.W.nsIn K mainGlobals "MAX_COMPARINGS" = some (some (.int 3 t_MAX_COMPARINGS)))
    (g_MAX_NEST : PySem.W.nsIn K mainGlobals "MAX_NEST" = some (some (.int 3 t_MAX_NEST)))
    (g_LETTERS : PySem.W.nsIn K mainGlobals "LETTERS" = some (some (.str "abcdefghijklmnopqrstuvwxyz" t_LETTERS)))
    (g_SIGNS : PySem.W.nsIn K mainGlobals "SIGNS" = some (some (.str "abcdefghijklmnopqrstuvwxyz0123456789" t_SIGNS)))
    (g_MOST_NUMBER : PySem.W.nsIn K mainGlobals "MOST_NUMBER" = some (some (.int 99 t_MOST_NUMBER)))
    (g_MOST_FACTOR : PySem.W.nsIn K mainGlobals "MOST_FACTOR" = some (some (.int 9 t_MOST_FACTOR)))
    (g_DOWN : PySem.W.nsIn K mainGlobals "DOWN" = some (some (.int 0 t_DOWN)))
    (g_INPUT : PySem.W.nsIn K mainGlobals "INPUT" = some (some (.str "n" t_INPUT)))
    (g_KEPT : PySem.W.nsIn K mainGlobals "KEPT" = some (some (.ref a_KEPT)))
    (lk_KEPT : K.lookup a_KEPT = some ⟨.type "tuple", ob_KEPT, .seq #[.str "half" u_KEPT_0, .str "tell" u_KEPT_1, .str "say" u_KEPT_2, .str "stop" u_KEPT_3, .str "if" u_KEPT_4, .str "else" u_KEPT_5, .str "repeat" u_KEPT_6, .str "pass" u_KEPT_7, .str "odd" u_KEPT_8, .str "not" u_KEPT_9, .str "program" u_KEPT_10] ns_KEPT, ss_KEPT⟩)
    (z_abs : PySem.W.nsIn K mainGlobals "abs" = some none)
    (z_bool : PySem.W.nsIn K mainGlobals "bool" = some none)
    (z_dict : PySem.W.nsIn K mainGlobals "dict" = some none)
    (z_int : PySem.W.nsIn K mainGlobals "int" = some none)
    (z_isinstance : PySem.W.nsIn K mainGlobals "isinstance" = some none)
    (z_len : PySem.W.nsIn K mainGlobals "len" = some none)
    (z_max : PySem.W.nsIn K mainGlobals "max" = some none)
    (z_range : PySem.W.nsIn K mainGlobals "range" = some none)
    (z_repr : PySem.W.nsIn K mainGlobals "repr" = some none)
    (z_str : PySem.W.nsIn K mainGlobals "str" = some none)
    (z_sum : PySem.W.nsIn K mainGlobals "sum" = some none)
    (z_tuple : PySem.W.nsIn K mainGlobals "tuple" = some none) :
    ∃ fd : FuncData, (∀ (s : Shared) (v : Value), BindsTo s fd ⟨[v], []⟩ [("_law_script", v)]) ∧ ∀ base : Heap, K.In base → base.Ns mainGlobals mg → FnG P w K mg base CX0 33 fa fd ["_law_script"] (spLaw K) := by
  have e := hfa.symm.trans (PySem.W.mg_of X G a42)
  cases e
  have F1 := fun_mk (st := s_is_whole) l1 c1 k1
  have b1 := F1.binds (ps := ["value", "least", "most"]) fun _ _ _ _ _ _ us hl => match us, hl with | [_, _, _], _ => rfl
  have F2 := fun_mk (st := s_is_word) l2 c2 k2
  have b2 := F2.binds (ps := ["value"]) fun _ _ _ _ _ _ us hl => match us, hl with | [_], _ => rfl
  have F3 := fun_mk (st := s_is_name) l3 c3 k3
  have b3 := F3.binds (ps := ["value"]) fun _ _ _ _ _ _ us hl => match us, hl with | [_], _ => rfl
  have F4 := fun_mk (st := s_is_expression) l4 c4 k4
  have b4 := F4.binds (ps := ["value", "left"]) fun _ _ _ _ _ _ us hl => match us, hl with | [_, _], _ => rfl
  have F5 := fun_mk (st := s_is_test) l5 c5 k5
  have b5 := F5.binds (ps := ["value", "nots"]) fun _ _ _ _ _ _ us hl => match us, hl with | [_, _], _ => rfl
  have F6 := fun_mk (st := s_is_plain) l6 c6 k6
  have b6 := F6.binds (ps := ["value"]) fun _ _ _ _ _ _ us hl => match us, hl with | [_], _ => rfl
  have F7 := fun_mk (st := s_is_statement) l7 c7 k7
  have b7 := F7.binds (ps := ["value"]) fun _ _ _ _ _ _ us hl => match us, hl with | [_], _ => rfl
  have F8 := fun_mk (st := s_blocks_of) l8 c8 k8
  have b8 := F8.binds (ps := ["statement"]) fun _ _ _ _ _ _ us hl => match us, hl with | [_], _ => rfl
  have F9 := fun_mk (st := s_items_within) l9 c9 k9
  have b9 := F9.binds (ps := ["statement", "depth"]) fun _ _ _ _ _ _ us hl => match us, hl with | [_, _], _ => rfl
  have F10 := fun_mk (st := s_rows_of) l10 c10 k10
  have b10 := F10.binds (ps := ["program"]) fun _ _ _ _ _ _ us hl => match us, hl with | [_], _ => rfl
  have F11 := fun_mk (st := s_order_error) l11 c11 k11
  have b11 := F11.binds (ps := ["value"]) fun _ _ _ _ _ _ us hl => match us, hl with | [_], _ => rfl
  have F12 := fun_mk (st := s_bare) l12 c12 k12
  have b12 := F12.binds (ps := ["test"]) fun _ _ _ _ _ _ us hl => match us, hl with | [_], _ => rfl
  have F13 := fun_mk (st := s_own_count) l13 c13 k13
  have b13 := F13.binds (ps := ["statement", "sort"]) fun _ _ _ _ _ _ us hl => match us, hl with | [_, _], _ => rfl
  have F14 := fun_mk (st := s_counted) l14 c14 k14
  have b14 := F14.binds (ps := ["block", "sort"]) fun _ _ _ _ _ _ us hl => match us, hl with | [_, _], _ => rfl
  have F15 := fun_mk (st := s_weight) l15 c15 k15
  have b15 := F15.binds (ps := ["program"]) fun _ _ _ _ _ _ us hl => match us, hl with | [_], _ => rfl
  have F16 := fun_mk (st := s_program_error) l16 c16 k16
  have b16 := F16.binds (ps := ["value"]) fun _ _ _ _ _ _ us hl => match us, hl with | [_], _ => rfl
  have F17 := fun_mk (st := s_places_in) l17 c17 k17
  have b17 := F17.binds (ps := ["statement"]) fun _ _ _ _ _ _ us hl => match us, hl with | [_], _ => rfl
  have F18 := fun_mk (st := s_value_of) l18 c18 k18
  have b18 := F18.binds (ps := ["expression", "names"]) fun _ _ _ _ _ _ us hl => match us, hl with | [_, _], _ => rfl
  have F19 := fun_mk (st := s_is_true) l19 c19 k19
  have b19 := F19.binds (ps := ["test", "names"]) fun _ _ _ _ _ _ us hl => match us, hl with | [_, _], _ => rfl
  have F20 := fun_mk (st := s_Course_init) l20 c20 k20
  have b20 := F20.binds (ps := ["self", "number", "choices", "ways", "rule"]) fun _ _ _ _ _ _ us hl => match us, hl with | [_, _, _, _, _], _ => rfl
  have F21 := fun_mk (st := s_Course_choice) l21 c21 k21
  have b21 := F21.binds (ps := ["self", "value", "place"]) fun _ _ _ _ _ _ us hl => match us, hl with | [_, _, _], _ => rfl
  have F22 := fun_mk (st := s_Course_halved) l22 c22 k22
  have b22 := F22.binds (ps := ["self", "value", "place"]) fun _ _ _ _ _ _ us hl => match us, hl with | [_, _, _], _ => rfl
  have F23 := fun_mk (st := s_Course_do) l23 c23 k23
  have b23 := F23.binds (ps := ["self", "statement", "place"]) fun _ _ _ _ _ _ us hl => match us, hl with | [_, _, _], _ => rfl
  have F24 := fun_mk (st := s_Course_parts) l24 c24 k24
  have b24 := F24.binds (ps := ["self", "statement", "place"]) fun _ _ _ _ _ _ us hl => match us, hl with | [_, _, _], _ => rfl
  have F25 := fun_mk (st := s_Course_go) l25 c25 k25
  have b25 := F25.binds (ps := ["self", "block", "place"]) fun _ _ _ _ _ _ us hl => match us, hl with | [_, _, _], _ => rfl
  have F26 := fun_mk (st := s_course_of) l26 c26 k26
  have b26 := F26.binds (ps := ["program", "number", "choices", "ways", "rule"]) fun _ _ _ _ _ _ us hl => match us, hl with | [_, _, _, _, _], _ => rfl
  have F27 := fun_mk (st := s_run_of) l27 c27 k27
  have b27 := F27.binds (ps := ["program", "number", "choices", "ways"]) fun _ _ _ _ _ _ us hl => match us, hl with | [_, _, _, _], _ => rfl
  have F28 := fun_mk (st := s_run) l28 c28 k28
  have b28 := F28.binds (ps := ["program", "number", "choices"]) fun _ _ _ _ _ _ us hl => match us, hl with | [_, _, _], _ => rfl
  have F29 := fun_mk (st := s_l_deck) l29 c29 k29
  have b29 := F29.binds (ps := ["_law_script"]) fun _ _ _ _ _ _ us hl => match us, hl with | [_], _ => rfl
  have F30 := fun_mk (st := s_l_draw) l30 c30 k30
  have b30 := F30.binds (ps := ["_law_deck_here", "_law_many"]) fun _ _ _ _ _ _ us hl => match us, hl with | [_, _], _ => rfl
  have F31 := fun_mk (st := s_l_one) l31 c31 k31
  have b31 := F31.binds (ps := ["_law_deck_here", "_law_items"]) fun _ _ _ _ _ _ us hl => match us, hl with | [_, _], _ => rfl
  have F32 := fun_mk (st := s_l_names) l32 c32 k32
  have b32 := F32.binds (ps := ["_law_deck_here"]) fun _ _ _ _ _ _ us hl => match us, hl with | [_], _ => rfl
  have F33 := fun_mk (st := s_l_expression) l33 c33 k33
  have b33 := F33.binds (ps := ["_law_deck_here", "_law_names_here", "_law_deep"]) fun _ _ _ _ _ _ us hl => match us, hl with | [_, _, _], _ => rfl
  have F34 := fun_mk (st := s_l_test) l34 c34 k34
  have b34 := F34.binds (ps := ["_law_deck_here", "_law_names_here", "_law_left", "_law_times"]) fun _ _ _ _ _ _ us hl => match us, hl with | [_, _, _, _], _ => rfl
  have F35 := fun_mk (st := s_l_plain) l35 c35 k35
  have b35 := F35.binds (ps := ["_law_deck_here", "_law_names_here", "_law_left", "_law_times"]) fun _ _ _ _ _ _ us hl => match us, hl with | [_, _, _, _], _ => rfl
  have F36 := fun_mk (st := s_l_row) l36 c36 k36
  have b36 := F36.binds (ps := ["_law_deck_here", "_law_names_here", "_law_left", "_law_times", "_law_depth"]) fun _ _ _ _ _ _ us hl => match us, hl with | [_, _, _, _, _], _ => rfl
  have F37 := fun_mk (st := s_l_block) l37 c37 k37
  have b37 := F37.binds (ps := ["_law_deck_here", "_law_names_here", "_law_left", "_law_times", "_law_depth"]) fun _ _ _ _ _ _ us hl => match us, hl with | [_, _, _, _, _], _ => rfl
  have F38 := fun_mk (st := s_l_program) l38 c38 k38
  have b38 := F38.binds (ps := ["_law_deck_here", "_law_names_here"]) fun _ _ _ _ _ _ us hl => match us, hl with | [_, _], _ => rfl
  have F39 := fun_mk (st := s_l_number) l39 c39 k39
  have b39 := F39.binds (ps := ["_law_deck_here"]) fun _ _ _ _ _ _ us hl => match us, hl with | [_], _ => rfl
  have F40 := fun_mk (st := s_l_choices) l40 c40 k40
  have b40 := F40.binds (ps := ["_law_deck_here"]) fun _ _ _ _ _ _ us hl => match us, hl with | [_], _ => rfl
  have F41 := fun_mk (st := s_l_renamed) l41 c41 k41
  have b41 := F41.binds (ps := ["_law_value", "_law_names_here", "_law_words"]) fun _ _ _ _ _ _ us hl => match us, hl with | [_, _, _], _ => rfl
  have F42 := fun_mk (st := s_law) l42 c42 k42
  have b42 := F42.binds (ps := ["_law_script"]) fun _ _ _ _ _ _ us hl => match us, hl with | [_], _ => rfl
  refine ⟨PySem.W.fnOf "law" "law" (defArgs s_law) (defBody s_law) (defScope s_law) .none kV42 dc42 pm42 an42 cd42 ct42, fun s v => .of_eq rfl, fun base _ _ => ok_law (P := P) (w := w) (base := base) (T := { is_whole := ⟨_, _, F1, b1, PySem.W.mg_of X G a1⟩, is_word := ⟨_, _, F2, b2, PySem.W.mg_of X G a2⟩, is_name := ⟨_, _, F3, b3, PySem.W.mg_of X G a3⟩, is_expression := ⟨_, _, F4, b4, PySem.W.mg_of X G a4⟩, is_test := ⟨_, _, F5, b5, PySem.W.mg_of X G a5⟩, is_plain := ⟨_, _, F6, b6, PySem.W.mg_of X G a6⟩, is_statement := ⟨_, _, F7, b7, PySem.W.mg_of X G a7⟩, blocks_of := ⟨_, _, F8, b8, PySem.W.mg_of X G a8⟩, items_within := ⟨_, _, F9, b9, PySem.W.mg_of X G a9⟩, rows_of := ⟨_, _, F10, b10, PySem.W.mg_of X G a10⟩, order_error := ⟨_, _, F11, b11, PySem.W.mg_of X G a11⟩, bare := ⟨_, _, F12, b12, PySem.W.mg_of X G a12⟩, own_count := ⟨_, _, F13, b13, PySem.W.mg_of X G a13⟩, counted := ⟨_, _, F14, b14, PySem.W.mg_of X G a14⟩, weight := ⟨_, _, F15, b15, PySem.W.mg_of X G a15⟩, program_error := ⟨_, _, F16, b16, PySem.W.mg_of X G a16⟩, places_in := ⟨_, _, F17, b17, PySem.W.mg_of X G a17⟩, value_of := ⟨_, _, F18, b18, PySem.W.mg_of X G a18⟩, is_true := ⟨_, _, F19, b19, PySem.W.mg_of X G a19⟩, Course_init := ⟨_, _, F20, b20, ⟨a20, i20, k20⟩⟩, mk_Course := ⟨mk_Course, a20, i20, kc_Course⟩, Course_choice := ⟨_, _, F21, b21, ⟨a21, i21, k21⟩⟩, Course_halved := ⟨_, _, F22, b22, ⟨a22, i22, k22⟩⟩, Course_do := ⟨_, _, F23, b23, ⟨a23, i23, k23⟩⟩, Course_parts := ⟨_, _, F24, b24, ⟨a24, i24, k24⟩⟩, Course_go := ⟨_, _, F25, b25, ⟨a25, i25, k25⟩⟩, course_of := ⟨_, _, F26, b26, PySem.W.mg_of X G a26⟩, run_of := ⟨_, _, F27, b27, PySem.W.mg_of X G a27⟩, run := ⟨_, _, F28, b28, PySem.W.mg_of X G a28⟩, l_deck := ⟨_, _, F29, b29, PySem.W.mg_of X G a29⟩, l_draw := ⟨_, _, F30, b30, PySem.W.mg_of X G a30⟩, l_one := ⟨_, _, F31, b31, PySem.W.mg_of X G a31⟩, l_names := ⟨_, _, F32, b32, PySem.W.mg_of X G a32⟩, l_expression := ⟨_, _, F33, b33, PySem.W.mg_of X G a33⟩, l_test := ⟨_, _, F34, b34, PySem.W.mg_of X G a34⟩, l_plain := ⟨_, _, F35, b35, PySem.W.mg_of X G a35⟩, l_row := ⟨_, _, F36, b36, PySem.W.mg_of X G a36⟩, l_block := ⟨_, _, F37, b37, PySem.W.mg_of X G a37⟩, l_program := ⟨_, _, F38, b38, PySem.W.mg_of X G a38⟩, l_number := ⟨_, _, F39, b39, PySem.W.mg_of X G a39⟩, l_choices := ⟨_, _, F40, b40, PySem.W.mg_of X G a40⟩, l_renamed := ⟨_, _, F41, b41, PySem.W.mg_of X G a41⟩, law := ⟨_, _, F42, b42, PySem.W.mg_of X G a42⟩, Course := ⟨C_Course, ⟨pg_Course, hd_Course, po_Course, sa_Course⟩, PySem.W.mg_of X G aC_Course, mk_Course, kc_Course⟩, n_Course_names := n_Course_names, n_Course_said := n_Course_said, n_Course_turns := n_Course_turns, n_Course_choices := n_Course_choices, n_Course_ways := n_Course_ways, n_Course_rule := n_Course_rule, t_MAX_NAME := t_MAX_NAME, g_MAX_NAME := PySem.W.mg_of X G g_MAX_NAME, t_MAX_WORD := t_MAX_WORD, g_MAX_WORD := PySem.W.mg_of X G g_MAX_WORD, t_MAX_TIMES := t_MAX_TIMES, g_MAX_TIMES := PySem.W.mg_of X G g_MAX_TIMES, t_MAX_DEEP := t_MAX_DEEP, g_MAX_DEEP := PySem.W.mg_of X G g_MAX_DEEP, t_MAX_NOTS := t_MAX_NOTS, g_MAX_NOTS := PySem.W.mg_of X G g_MAX_NOTS, t_MAX_PLACES := t_MAX_PLACES, g_MAX_PLACES := PySem.W.mg_of X G g_MAX_PLACES, t_MAX_WEIGHT := t_MAX_WEIGHT, g_MAX_WEIGHT := PySem.W.mg_of X G g_MAX_WEIGHT, t_MAX_HALVINGS := t_MAX_HALVINGS, g_MAX_HALVINGS := PySem.W.mg_of X G g_MAX_HALVINGS, t_MAX_COMPARINGS := t_MAX_COMPARINGS, g_MAX_COMPARINGS := PySem.W.mg_of X G g_MAX_COMPARINGS, t_MAX_NEST := t_MAX_NEST, g_MAX_NEST := PySem.W.mg_of X G g_MAX_NEST, t_LETTERS := t_LETTERS, g_LETTERS := PySem.W.mg_of X G g_LETTERS, t_SIGNS := t_SIGNS, g_SIGNS := PySem.W.mg_of X G g_SIGNS, t_MOST_NUMBER := t_MOST_NUMBER, g_MOST_NUMBER := PySem.W.mg_of X G g_MOST_NUMBER, t_MOST_FACTOR := t_MOST_FACTOR, g_MOST_FACTOR := PySem.W.mg_of X G g_MOST_FACTOR, t_DOWN := t_DOWN, g_DOWN := PySem.W.mg_of X G g_DOWN, t_INPUT := t_INPUT, g_INPUT := PySem.W.mg_of X G g_INPUT, KEPT := a_KEPT, g_KEPT := PySem.W.mg_of X G g_KEPT, q_KEPT := fun _ => .inr ⟨_, _, _, lk_KEPT, rfl, rfl, sz_lit rfl, (.cons ⟨_, rfl⟩ (.cons ⟨_, rfl⟩ (.cons ⟨_, rfl⟩ (.cons ⟨_, rfl⟩ (.cons ⟨_, rfl⟩ (.cons ⟨_, rfl⟩ (.cons ⟨_, rfl⟩ (.cons ⟨_, rfl⟩ (.cons ⟨_, rfl⟩ (.cons ⟨_, rfl⟩ (.cons ⟨_, rfl⟩ .nil)))))))))))⟩, abs := PySem.W.mg_none_of X G z_abs, bool := PySem.W.mg_none_of X G z_bool, dict := PySem.W.mg_none_of X G z_dict, int := PySem.W.mg_none_of X G z_int, isinstance := PySem.W.mg_none_of X G z_isinstance, len := PySem.W.mg_none_of X G z_len, max := PySem.W.mg_none_of X G z_max, range := PySem.W.mg_none_of X G z_range, repr := PySem.W.mg_none_of X G z_repr, str := PySem.W.mg_none_of X G z_str, sum := PySem.W.mg_none_of X G z_sum, tuple := PySem.W.mg_none_of X G z_tuple })⟩
end EH
open PySem PySem.W PyProof.Rows
set_option maxRecDepth 100000 in
set_option maxHeartbeats 0 in
theorem PySem.Challenge.cw_eitherhalf_k40_whole_programs_renamed_holds : PySem.Challenge.rw_eitherhalf_k40_whole_programs_renamed.Holds := by
  w_on; o_law; k_head; (case hw => w_witness2)
  k_fill
  refine EH.walk_ofG (l := PySem.Challenge.rw_eitherhalf_k40_whole_programs_renamed) (n := 63) (k := 33) (x := "_law_script") (sp := EH.spLaw) rfl (by decide) rfl ⟨rfl, by decide, by decide⟩ (fun w h Y => PySem.W.kIn_of Y) ?F (fun K H a ns hl hS => ⟨a, ns, rfl, hS, hl, fun _ => rfl⟩)
  case F =>
    intro w mg fa h KX G hmg
    refine' EH.all_mk KX G hmg ?aC_Course ?pg_Course ?hd_Course ?po_Course ?sa_Course ?mk_Course ?kc_Course ?a1 ?l1 ?c1 ?k1 ?a2 ?l2 ?c2 ?k2 ?a3 ?l3 ?c3 ?k3 ?a4 ?l4 ?c4 ?k4 ?a5 ?l5 ?c5 ?k5 ?a6 ?l6 ?c6 ?k6 ?a7 ?l7 ?c7 ?k7 ?a8 ?l8 ?c8 ?k8 ?a9 ?l9 ?c9 ?k9 ?a10 ?l10 ?c10 ?k10 ?a11 ?l11 ?c11 ?k11 ?a12 ?l12 ?c12 ?k12 ?a13 ?l13 ?c13 ?k13 ?a14 ?l14 ?c14 ?k14 ?a15 ?l15 ?c15 ?k15 ?a16 ?l16 ?c16 ?k16 ?a17 ?l17 ?c17 ?k17 ?a18 ?l18 ?c18 ?k18 ?a19 ?l19 ?c19 ?k19 ?a20 ?i20 ?l20 ?c20 ?k20 ?a21 ?i21 ?l21 ?c21 ?k21 ?a22 ?i22 ?l22 ?c22 ?k22 ?a23 ?i23 ?l23 ?c23 ?k23 ?a24 ?i24 ?l24 ?c24 ?k24 ?a25 ?i25 ?l25 ?c25 ?k25 ?a26 ?l26 ?c26 ?k26 ?a27 ?l27 ?c27 ?k27 ?a28 ?l28 ?c28 ?k28 ?a29 ?l29 ?c29 ?k29 ?a30 ?l30 ?c30 ?k30 ?a31 ?l31 ?c31 ?k31 ?a32 ?l32 ?c32 ?k32 ?a33 ?l33 ?c33 ?k33 ?a34 ?l34 ?c34 ?k34 ?a35 ?l35 ?c35 ?k35 ?a36 ?l36 ?c36 ?k36 ?a37 ?l37 ?c37 ?k37 ?a38 ?l38 ?c38 ?k38 ?a39 ?l39 ?c39 ?k39 ?a40 ?l40 ?c40 ?k40 ?a41 ?l41 ?c41 ?k41 ?a42 ?l42 ?c42 ?k42 ?n_Course_names ?n_Course_said ?n_Course_turns ?n_Course_choices ?n_Course_ways ?n_Course_rule ?g_MAX_NAME ?g_MAX_WORD ?g_MAX_TIMES ?g_MAX_DEEP ?g_MAX_NOTS ?g_MAX_PLACES ?g_MAX_WEIGHT ?g_MAX_HALVINGS ?g_MAX_COMPARINGS ?g_MAX_NEST ?g_LETTERS ?g_SIGNS ?g_MOST_NUMBER ?g_MOST_FACTOR ?g_DOWN ?g_INPUT ?g_KEPT ?lk_KEPT ?z_abs ?z_bool ?z_dict ?z_int ?z_isinstance ?z_len ?z_max ?z_range ?z_repr ?z_str ?z_sum ?z_tuple
    (case aC_Course => k_is); (case pg_Course => k_is); (case hd_Course => k_is); (case po_Course => k_is); (case sa_Course => k_is); (case mk_Course => k_is)
    (case kc_Course => k_is); (case a1 => k_is); (case l1 => k_is); (case c1 => k_is); (case k1 => k_is); (case a2 => k_is)
    (case l2 => k_is); (case c2 => k_is); (case k2 => k_is); (case a3 => k_is); (case l3 => k_is); (case c3 => k_is)
    (case k3 => k_is); (case a4 => k_is); (case l4 => k_is); (case c4 => k_is); (case k4 => k_is); (case a5 => k_is)
    (case l5 => k_is); (case c5 => k_is); (case k5 => k_is); (case a6 => k_is); (case l6 => k_is); (case c6 => k_is)
    (case k6 => k_is); (case a7 => k_is); (case l7 => k_is); (case c7 => k_is); (case k7 => k_is); (case a8 => k_is)
    (case l8 => k_is); (case c8 => k_is); (case k8 => k_is); (case a9 => k_is); (case l9 => k_is); (case c9 => k_is)
    (case k9 => k_is); (case a10 => k_is); (case l10 => k_is); (case c10 => k_is); (case k10 => k_is); (case a11 => k_is)
    (case l11 => k_is); (case c11 => k_is); (case k11 => k_is); (case a12 => k_is); (case l12 => k_is); (case c12 => k_is)
    (case k12 => k_is); (case a13 => k_is); (case l13 => k_is); (case c13 => k_is); (case k13 => k_is); (case a14 => k_is)
    (case l14 => k_is); (case c14 => k_is); (case k14 => k_is); (case a15 => k_is); (case l15 => k_is); (case c15 => k_is)
    (case k15 => k_is); (case a16 => k_is); (case l16 => k_is); (case c16 => k_is); (case k16 => k_is); (case a17 => k_is)
    (case l17 => k_is); (case c17 => k_is); (case k17 => k_is); (case a18 => k_is); (case l18 => k_is); (case c18 => k_is)
    (case k18 => k_is); (case a19 => k_is); (case l19 => k_is); (case c19 => k_is); (case k19 => k_is); (case a20 => k_is)
    (case i20 => k_is); (case l20 => k_is); (case c20 => k_is); (case k20 => k_is); (case a21 => k_is); (case i21 => k_is)
    (case l21 => k_is); (case c21 => k_is); (case k21 => k_is); (case a22 => k_is); (case i22 => k_is); (case l22 => k_is)
    (case c22 => k_is); (case k22 => k_is); (case a23 => k_is); (case i23 => k_is); (case l23 => k_is); (case c23 => k_is)
    (case k23 => k_is); (case a24 => k_is); (case i24 => k_is); (case l24 => k_is); (case c24 => k_is); (case k24 => k_is)
    (case a25 => k_is); (case i25 => k_is); (case l25 => k_is); (case c25 => k_is); (case k25 => k_is); (case a26 => k_is)
    (case l26 => k_is); (case c26 => k_is); (case k26 => k_is); (case a27 => k_is); (case l27 => k_is); (case c27 => k_is)
    (case k27 => k_is); (case a28 => k_is); (case l28 => k_is); (case c28 => k_is); (case k28 => k_is); (case a29 => k_is)
    (case l29 => k_is); (case c29 => k_is); (case k29 => k_is); (case a30 => k_is); (case l30 => k_is); (case c30 => k_is)
    (case k30 => k_is); (case a31 => k_is); (case l31 => k_is); (case c31 => k_is); (case k31 => k_is); (case a32 => k_is)
    (case l32 => k_is); (case c32 => k_is); (case k32 => k_is); (case a33 => k_is); (case l33 => k_is); (case c33 => k_is)
    (case k33 => k_is); (case a34 => k_is); (case l34 => k_is); (case c34 => k_is); (case k34 => k_is); (case a35 => k_is)
    (case l35 => k_is); (case c35 => k_is); (case k35 => k_is); (case a36 => k_is); (case l36 => k_is); (case c36 => k_is)
    (case k36 => k_is); (case a37 => k_is); (case l37 => k_is); (case c37 => k_is); (case k37 => k_is); (case a38 => k_is)
    (case l38 => k_is); (case c38 => k_is); (case k38 => k_is); (case a39 => k_is); (case l39 => k_is); (case c39 => k_is)
    (case k39 => k_is); (case a40 => k_is); (case l40 => k_is); (case c40 => k_is); (case k40 => k_is); (case a41 => k_is)
    (case l41 => k_is); (case c41 => k_is); (case k41 => k_is); (case a42 => k_is); (case l42 => k_is); (case c42 => k_is)
    (case k42 => k_is); (case n_Course_names => k_is); (case n_Course_said => k_is); (case n_Course_turns => k_is); (case n_Course_choices => k_is); (case n_Course_ways => k_is)
    (case n_Course_rule => k_is); (case g_MAX_NAME => k_is); (case g_MAX_WORD => k_is); (case g_MAX_TIMES => k_is); (case g_MAX_DEEP => k_is); (case g_MAX_NOTS => k_is)
    (case g_MAX_PLACES => k_is); (case g_MAX_WEIGHT => k_is); (case g_MAX_HALVINGS => k_is); (case g_MAX_COMPARINGS => k_is); (case g_MAX_NEST => k_is); (case g_LETTERS => k_is)
    (case g_SIGNS => k_is); (case g_MOST_NUMBER => k_is); (case g_MOST_FACTOR => k_is); (case g_DOWN => k_is); (case g_INPUT => k_is); (case g_KEPT => k_is)
    (case lk_KEPT => k_is); (case z_abs => k_is); (case z_bool => k_is); (case z_dict => k_is); (case z_int => k_is); (case z_isinstance => k_is)
    (case z_len => k_is); (case z_max => k_is); (case z_range => k_is); (case z_repr => k_is); (case z_str => k_is); (case z_sum => k_is)
    (case z_tuple => k_is)
#print axioms PySem.Challenge.cw_eitherhalf_k40_whole_programs_renamed_holds
