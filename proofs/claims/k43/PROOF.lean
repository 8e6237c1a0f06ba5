import PyProof.Rows.All
import Wide.All
import OpenK.AllK
import Wide.FinOn
import HandS.ForMost
import HandS.Wide
import HandS.TupAny
import HandS.TupMul
import HandS.IsInst
import HandS.Codes
import HandS.Star
import KE.KExcSuper
import KE.KOpsOwn
import HandS.SetFor
import HandS.Strs
import HandS.Deep
import HandS.Text
import HandS.Lambda
import HandS.EndTab
import HandS.ExcValue
import HandS.ExcOwn
import KE.SortData
import KE.KLam
import KE.KNestM
import PySem.Challenge.RW_eitherhalf_k43_runs_by_rules
set_option Elab.async false
set_option linter.all false
set_option maxRecDepth 100000
set_option maxHeartbeats 4000000
namespace EH
open PySem L2

/-! ### what is kept but for some addresses -/
structure Kp (S : List Addr) (H H' : Hp) : Prop where
  keep : ∀ b o, H b = some o → b ∉ S → H' b = some o
  tup : ∀ b xs, H b = some (.tup xs) → H' b = some (.tup xs)
  ext : ∀ b φ, H b = some (.ext φ) → H' b = some (.ext φ)
theorem Kp.refl {S : List Addr} {H : Hp} : Kp S H H := ⟨fun _ _ h _ => h, fun _ _ h => h, fun _ _ h => h⟩
theorem Kp.trans {S : List Addr} {H H1 H2 : Hp} (a : Kp S H H1) (b : Kp S H1 H2) : Kp S H H2 := ⟨fun c o h n => b.keep c o (a.keep c o h n) n, fun c xs h => b.tup c xs (a.tup c xs h), fun c φ h => b.ext c φ (a.ext c φ h)⟩
theorem Kp.sub {S S' : List Addr} {H H1 : Hp} (a : Kp S H H1) (h : ∀ b, b ∈ S → b ∈ S') : Kp S' H H1 := ⟨fun c o e n => a.keep c o e fun z => n (h c z), a.tup, a.ext⟩
theorem Kp.at {H H1 : Hp} {b : Addr} {o : HO} (a : Kp [] H H1) (h : H b = some o) : H1 b = some o := a.keep b o h (by simp)
theorem Kp.free {S : List Addr} {H H1 : Hp} {p : Addr} (a : Kp S H H1) (h : H1 p = none) (n : p ∉ S) : H p = none := by
  cases e : H p with
  | none => rfl
  | some o =>
    rw [a.keep p o e n] at h
    cases h
theorem Kp.step {S S1 : List Addr} {H H1 H2 : Hp} (a : Kp S H H1) (b : Kp S1 H1 H2) (h : ∀ p ∈ S1, p ∈ S ∨ H p = none) : Kp S H H2 :=
  ⟨fun c o e n => b.keep c o (a.keep c o e n) fun z => (h c z).elim n fun y => (by rw [y] at e; cases e), fun c xs e => b.tup c xs (a.tup c xs e), fun c φ e => b.ext c φ (a.ext c φ e)⟩
theorem Kp.step0 {S : List Addr} {H H1 H2 : Hp} (a : Kp S H H1) (b : Kp [] H1 H2) : Kp S H H2 := a.step b fun _ z => nomatch z
theorem Kp.step1 {S : List Addr} {H H1 H2 : Hp} {p : Addr} (a : Kp S H H1) (b : Kp [p] H1 H2) (h : p ∈ S ∨ H p = none) : Kp S H H2 := a.step b fun _ z => by
  rcases List.mem_cons.mp z with rfl | z
  · exact h
  · cases z
theorem Kp.step2 {S : List Addr} {H H1 H2 : Hp} {p q : Addr} (a : Kp S H H1) (b : Kp [p, q] H1 H2) (h : p ∈ S ∨ H p = none) (h2 : q ∈ S ∨ H q = none) : Kp S H H2 := a.step b fun _ z => by
  rcases List.mem_cons.mp z with rfl | z
  · exact h
  · rcases List.mem_cons.mp z with rfl | z
    · exact h2
    · cases z
theorem Kp.new {H : Hp} {p : Addr} {u : HO} (h : H p = none) : Kp [] H (upd H p u) := ⟨fun c o e _ => by rw [upd_ne (ne_of_none e h)]; exact e, fun c o e => by rw [upd_ne (ne_of_none e h)]; exact e, fun c o e => by rw [upd_ne (ne_of_none e h)]; exact e⟩
theorem Kp.put {H : Hp} {p : Addr} {u v : HO} (h : H p = some v) (hv : ∀ xs, v ≠ .tup xs) (he : ∀ φ, v ≠ .ext φ := by intro φ z; cases z) : Kp [p] H (upd H p u) := ⟨fun c o e n => by rw [upd_ne (by intro z; subst z; exact n (by simp))]; exact e,
  fun c xs e => by rw [upd_ne (by intro z; subst z; rw [h] at e; exact hv xs (Option.some.inj e))]; exact e,
  fun c φ e => by rw [upd_ne (by intro z; subst z; rw [h] at e; exact he φ (Option.some.inj e))]; exact e⟩
theorem Kp.seq {K : PySem.W.Frag} {S : List Addr} {H H' : Hp} {a : Addr} {xs : List V} (k : Kp S H H') (h : SqL K H a xs) (n : a ∉ S) : SqL K H' a xs := by
  rcases h with (h | ⟨o, h⟩) | h
  · exact .inl (.inl (k.keep _ _ h n))
  · exact .inl (.inr ⟨o, k.keep _ _ h n⟩)
  · exact .inr h
theorem ne1 {a p : Addr} (h : a ≠ p) : a ∉ [p] := by simp [h]
theorem ne2 {a p q : Addr} (h : a ≠ p) (h2 : a ≠ q) : a ∉ [p, q] := by simp [h, h2]

/-! ### rules whose new heaps are letters -/
section
variable {X : Cx} {e : Expr} {es : List Expr} {pos : Pos}
theorem PE.imp {t t' : TE} (h : PE X e t) (i : ∀ σ H Q, t' σ H Q → t σ H Q) : PE X e t' := ⟨fun pins s σ H Q I q => h.run pins s σ H Q I (i σ H Q q)⟩
theorem OpR.imp {f : Value → Value → Sem Value} {r r' : R2} (h : OpR X f r) (i : ∀ x y H Q, r' x y H Q → r x y H Q) : OpR X f r' := fun pins s σ H x y v u Q I a b q => h pins s σ H x y v u Q I a b (i x y H Q q)
theorem CallR.imp {f : Value} {r r' : List V → Hp → VK → Prop} (h : CallR X f r) (i : ∀ xs H Q, r' xs H Q → r xs H Q) : CallR X f r' := fun pins s σ H xs us Q I a q => h pins s σ H xs us Q I a (i xs H Q q)
theorem SlR.imp {r r' : V → Option Int → Option Int → Hp → VK → Prop} (h : SlR X r) (i : ∀ x lo hi H Q, r' x lo hi H Q → r x lo hi H Q) : SlR X r' := fun pins s σ H x v vl vu lo hi sl Q I rx hs pl pu q => h pins s σ H x v vl vu lo hi sl Q I rx hs pl pu (i x lo hi H Q q)
theorem MtR.imp {id : String} {r r' : V → List V → Hp → VK → Prop} (h : MtR X id r) (i : ∀ x xs H Q, r' x xs H Q → r x xs H Q) : MtR X id r' := fun pins s σ H x xs v us Q I a b q => h pins s σ H x xs v us Q I a b (i x xs H Q q)
theorem PSet.imp {t t' : TSet} (h : PSet X t) (i : ∀ o k v H Q, t' o k v H Q → t o k v H Q) : PSet X t' := fun pins s σ H o k v ov iv u Q I a b c q => h pins s σ H o k v ov iv u Q I a b c (i o k v H Q q)
/-- a new object at p -/
def NewQ (H : Hp) (o : HO) (Q : VK) : Prop := ∀ p H2, H p = none → H2 p = some o → Kp [] H H2 → Q (.ref p) H2
theorem NewQ.to {H : Hp} {o : HO} {Q : VK} (h : NewQ H o Q) : ∀ p, H p = none → Q (.ref p) (upd H p o) := fun p hp => h p _ hp upd_same (Kp.new hp)
theorem newQ_iff {H : Hp} {o : HO} {Q : VK} (S : Prop) : (S ∧ ∀ p H2, H p = none → H2 = upd H p o → Q (.ref p) H2) = (S ∧ ∀ p, H p = none → Q (.ref p) (upd H p o)) :=
  propext ⟨fun h => ⟨h.1, fun p hp => h.2 p _ hp rfl⟩, fun h => ⟨h.1, fun p H2 hp e => e ▸ h.2 p hp⟩⟩
def tTupA (t : TA) : TE := fun σ H Q => t σ H fun xs H1 => xs.length ≤ sizeLine ∧ ∀ p H2, H1 p = none → H2 = upd H1 p (.tup xs) → Q (.ref p) H2
def tLstA (t : TA) : TE := fun σ H Q => t σ H fun xs H1 => xs.length ≤ sizeLine ∧ ∀ p H2, H1 p = none → H2 = upd H1 p (.lst xs) → Q (.ref p) H2
theorem pe_tupA {x1} {t : TA} (h : PA X es t) : PE X (.Tuple es x1 pos) (tTupA t) := PE.imp (pe_tup h) fun σ H Q q => by
  unfold tTup
  unfold tTupA at q
  simp only [newQ_iff] at q
  exact q
theorem pe_lstA {t : TA} (h : PA X es t) : PE X (.List es pos) (tLstA t) := PE.imp (pe_lst h) fun σ H Q q => by
  unfold tLst
  unfold tLstA at q
  simp only [newQ_iff] at q
  exact q
theorem new_at {H H2 : Hp} {p : Addr} {o : HO} (e : H2 = upd H p o) : H2 p = some o := by rw [e]; exact upd_same
theorem new_kp {H H2 : Hp} {p : Addr} {o : HO} (h : H p = none) (e : H2 = upd H p o) : Kp [] H H2 := by rw [e]; exact Kp.new h
/-- what follows a store at p -/
def PutQ (H : Hp) (p : Addr) (o : HO) (Q : Hp → Prop) : Prop := ∀ H2, H2 p = some o → Kp [p] H H2 → Q H2
theorem PutQ.to {H : Hp} {p : Addr} {o v : HO} {Q : Hp → Prop} (h : PutQ H p o Q) (e : H p = some v) (hv : ∀ xs, v ≠ .tup xs) (he : ∀ φ, v ≠ .ext φ := by intro φ z; cases z) : Q (upd H p o) := h _ upd_same (Kp.put e hv he)
def rSetA : TSet := fun o i v H Q => ∃ p xs k j, o = .ref p ∧ i = .int k ∧ H p = some (.lst xs) ∧ ixN xs.length k = some j ∧ PutQ H p (.lst (xs.set j v)) Q
theorem set_listA : PSet X rSetA := PSet.imp set_list fun o i v H Q ⟨p, xs, k, j, a, b, c, d, q⟩ => ⟨p, xs, k, j, a, b, c, d, q.to c (fun _ z => by cases z)⟩
def rAppendA : V → List V → Hp → VK → Prop := fun x vs H Q => ∃ l xs y, x = .ref l ∧ vs = [y] ∧ H l = some (.lst xs) ∧ xs.length < sizeLine ∧ PutQ H l (.lst (xs ++ [y])) (Q .non)
def rExtendA : V → List V → Hp → VK → Prop := fun x vs H Q => ∃ l b xs zs, x = .ref l ∧ vs = [.ref b] ∧ H l = some (.lst xs) ∧ H b = some (.lst zs) ∧ xs.length + zs.length ≤ sizeLine ∧ PutQ H l (.lst (xs ++ zs)) (Q .non)
def rCatLA : R2 := fun x y H Q => ∃ l b xs zs, x = .ref l ∧ y = .ref b ∧ H l = some (.lst xs) ∧ H b = some (.lst zs) ∧ xs.length + zs.length ≤ sizeLine ∧ NewQ H (.lst (xs ++ zs)) Q
theorem op_catL : OpR X (binaryOp .Add) rCatLA := OpR.imp op_cat fun x y H Q ⟨l, b, xs, zs, e1, e2, h1, h2, z, q⟩ => ⟨l, b, xs, zs, e1, e2, h1, h2, z, q.to⟩
def rRepA : R2 := fun x y H Q => ∃ l k xs, x = .ref l ∧ y = .int k ∧ H l = some (.lst xs) ∧ 0 ≤ k ∧ k ≤ 1000000 ∧ xs.length * k.toNat ≤ 1000000 ∧ NewQ H (.lst (List.replicate k.toNat xs).flatten) Q
theorem op_repL : OpR X (binaryOp .Mult) rRepA := OpR.imp op_rep fun x y H Q ⟨l, k, xs, e1, e2, h1, h2, h3, z, q⟩ => ⟨l, k, xs, e1, e2, h1, by omega, by omega, Nat.le_trans z (by decide), q.to⟩
/-- tuple + tuple: some tuple of both -/
def rCatTA (K : PySem.W.Frag) : R2 := fun x y H Q => ∃ a b xs ys, x = .ref a ∧ y = .ref b ∧ H a = some (.tup xs) ∧ H b = some (.tup ys) ∧ xs.length + ys.length ≤ sizeLine ∧ ∀ p H2, H2 p = some (.tup (xs ++ ys)) → Kp [] H H2 → Q (.ref p) H2
theorem op_catT2 : OpR X (binaryOp .Add) (rCatTA X.K) := OpR.imp op_catA fun x y H Q ⟨a, b, xs, ys, e1, e2, h1, h2, z, q⟩ => by
  refine ⟨a, b, xs, ys, e1, e2, SqT.of h1, SqT.of h2, z, fun e => ?_, fun _ e => ?_, fun _ _ p hp => q p _ upd_same (Kp.new hp)⟩
  · subst e; exact q b H h2 Kp.refl
  · subst e; exact q a H (by rw [List.append_nil]; exact h1) Kp.refl
def rSlLA (K : PySem.W.Frag) : V → Option Int → Option Int → Hp → VK → Prop := fun x lo hi H Q => ∃ a xs, x = .ref a ∧ SqL K H a xs ∧ NewQ H (.lst (cutV xs lo hi)) Q
theorem sl_listA : SlR X (rSlLA X.K) := SlR.imp sl_list fun x lo hi H Q ⟨a, xs, e, h, q⟩ => ⟨a, xs, e, h, q.to⟩
theorem cutV_whole {xs : List V} {lo hi : Option Int} (h : HT.sIx xs.length 0 lo = 0 ∧ HT.sIx xs.length xs.length hi = xs.length) : cutV xs lo hi = xs := by
  unfold cutV
  rw [h.1, h.2]
  simp
def rSlTA (K : PySem.W.Frag) : V → Option Int → Option Int → Hp → VK → Prop := fun x lo hi H Q => ∃ a xs, x = .ref a ∧ H a = some (.tup xs) ∧ ∀ p H2, H2 p = some (.tup (cutV xs lo hi)) → Kp [] H H2 → Q (.ref p) H2
theorem sl_tupB : SlR X (rSlTA X.K) := SlR.imp sl_tupA fun x lo hi H Q ⟨a, xs, e, h, q⟩ => by
  refine ⟨a, xs, e, SqT.of h, fun z => ?_, fun _ p hp => q p _ upd_same (Kp.new hp)⟩
  exact q a H (by rw [cutV_whole z]; exact h) Kp.refl
theorem mt_appendA : MtR X "list.append" rAppendA := MtR.imp mt_append fun x vs H Q ⟨l, xs, y, e1, e2, h1, z, q⟩ => ⟨l, xs, y, e1, e2, h1, z, q.to h1 (fun _ z => by cases z)⟩
theorem mt_extendA : MtR X "list.extend" rExtendA := MtR.imp mt_extend fun x vs H Q ⟨l, b, xs, zs, e1, e2, h1, h2, z, q⟩ => ⟨l, b, xs, zs, e1, e2, h1, h2, z, q.to h1 (fun _ z => by cases z)⟩
/-- tuple(xs) of a list: a new tuple -/
def rTupOfA (K : PySem.W.Frag) : List V → Hp → VK → Prop := fun xs H Q => ∃ p ys, xs = [.ref p] ∧ SqL K H p ys ∧ NewQ H (.tup ys) Q
theorem call_tupleA : CallR X (.type "tuple") (rTupOfA X.K) := CallR.imp call_tuple_of fun xs H Q ⟨p, ys, e, h, q⟩ => ⟨p, ys, e, .inl ⟨h, q.to⟩⟩
/-- a loop, a cut: what is said there is said by hand -/
structure Lp (p : Prop) : Prop where
  h : p
theorem Lp.eq (p : Prop) : Lp p = p := propext ⟨fun x => x.h, fun x => ⟨x⟩⟩
def tForA (wi : TI) (g : TG) (tb : TS) : TS := fun D σ H => wi σ H fun J H1 => Lp (∃ W : Nat → Nat → L2.St → Hp → Prop, (∃ m, W 0 m σ H1) ∧ ∀ i m σ H, W i m σ H →
  (J.stop i H ∧ D.nx σ H) ∨ (J.go i H ∧ ∃ N : L2.St → Hp → Prop, (∀ σ' H', N σ' H' → ∃ m', m' < m ∧ W (i + 1) m' σ' H') ∧ ∀ x H', J.yld i H x H' → g x σ H' fun σ2 H2 => tb { D with nx := N, ct := N, bk := D.nx } σ2 H2))
theorem tForA_eq (wi : TI) (g : TG) (tb : TS) : tForA wi g tb = tFor wi g tb := by
  funext D σ H
  unfold tForA tFor
  simp only [Lp.eq]
theorem ps_forA {tg iter : Expr} {body : List Stmt} {wi : TI} {g : TG} {tb : TS} (h : PS X (.For tg iter body [] pos) (tFor wi g tb)) : PS X (.For tg iter body [] pos) (tForA wi g tb) := by rw [tForA_eq]; exact h
def tWhileA (c : TT) (tb : TS) : TS := fun D σ H => Lp (tWhile c tb D σ H)
theorem ps_whileA {c : Expr} {body : List Stmt} {tc : TT} {tb : TS} (h : PS X (.While c body [] pos) (tWhile tc tb)) : PS X (.While c body [] pos) (tWhileA tc tb) := by
  have e : tWhileA tc tb = tWhile tc tb := by
    funext D σ H
    unfold tWhileA
    rw [Lp.eq]
  rw [e]
  exact h
def tCutA (t u : TS) : TS := fun D σ H => Lp (C8.tCut t u D σ H)
theorem pss_cutA {st : Stmt} {rest : List Stmt} {t u : TS} (h1 : PS X st t) (h2 : PSs X rest u) : PSs X (st :: rest) (tCutA t u) := by
  have e : tCutA t u = C8.tCut t u := by
    funext D σ H
    unfold tCutA
    rw [Lp.eq]
  rw [e]
  exact C8.pss_cut h1 h2
/-! the same rules over a written part that is told by a letter -/
variable {K : PySem.W.Frag}
theorem cr_sumK (hK : X.K = K) (hc : X.calm = true) : CallR X (.builtin "sum") (rSum K) := hK ▸ cr_sum hc
theorem ix_listK (hK : X.K = K) : IxR X (rIxL K) := hK ▸ ix_list
theorem ix_tupK (hK : X.K = K) : IxR X (rIxT K) := hK ▸ ix_tup
theorem op_in_seqK (hK : X.K = K) : OpR X (compareOp .In) (rIn K false) := hK ▸ op_in_seq
theorem op_notIn_seqK (hK : X.K = K) : OpR X (compareOp .NotIn) (rIn K true) := hK ▸ op_notIn_seq
def rLenK (K : PySem.W.Frag) : List V → Hp → VK → Prop := fun xs H Q => ∃ p ys, xs = [.ref p] ∧ (SqL K H p ys ∨ SqT K H p ys) ∧ Q (.int ys.length) H
theorem call_lenK (hK : X.K = K) : CallR X (.builtin "len") (rLenK K) := hK ▸ call_len_seq
theorem call_isiK (hK : X.K = K) : CallR X (.builtin "isinstance") (rIsi K) := hK ▸ call_isi
theorem call_tupleK (hK : X.K = K) : CallR X (.type "tuple") (rTupOfA K) := hK ▸ call_tupleA
theorem sl_listK (hK : X.K = K) : SlR X (rSlLA K) := hK ▸ sl_listA
theorem sl_tupK (hK : X.K = K) : SlR X (rSlTA K) := hK ▸ sl_tupB
theorem op_catTK (hK : X.K = K) : OpR X (binaryOp .Add) (rCatTA K) := hK ▸ op_catT2
theorem op_eqDK (hK : X.K = K) (hu : X.A.units + 64 < cLine) : OpR X (compareOp .Eq) (rEqD K) := hK ▸ op_eqD hu
theorem op_neDK (hK : X.K = K) (hu : X.A.units + 64 < cLine) : OpR X (compareOp .NotEq) (rNeD K) := hK ▸ op_neD hu
theorem pi_listK {tg l : Expr} {tl : TE} (hK : X.K = K) (hl : PE X l tl) : PI X tg l (iList K tl) := hK ▸ pi_list hl
theorem pi_tupK {tg l : Expr} {tl : TE} (hK : X.K = K) (hl : PE X l tl) : PI X tg l (iTup K tl) := hK ▸ pi_tup hl
theorem pe_bmK {T name id : String} {o e : Expr} {es : List Expr} {r : V → List V → Hp → VK → Prop} {to : TE} {t : TA} {apos cpos : Pos} (hK : X.K = K) (pa : PlainAttrs T) (slot : Slot T name id) (hty : typeOf (.builtin id) = pure (.type "method_descriptor")) (hm : MtR X id r) (ho : PE X o to) (ha : PA X (e :: es) t)
    (hbase : attributeBase o name X.env (eval o X.env) = eval o X.env := by rfl)
    (hfew : ((backTo cpos (starEach (e :: es) X.env)).all (fun x => !x.1) && (backToKw cpos (keywordEach [] X.env)).all (fun x => x.1.isSome) && decide ((e :: es).length + ([] : List Keyword).length + (if ([] : List Keyword).isEmpty then 0 else 1) < 30)) = true := by rfl)
    (hline : (apos.endLine == cpos.line) = true := by rfl) (hs : starEach (e :: es) X.env = (false, eval e X.env) :: starEach es X.env := by rfl) (hplain : (backTo cpos (starEach es X.env)).any (·.1) = false := by rfl) :
    PE X (.Call (.Attribute o name apos) (e :: es) [] cpos) (tBM K T r to t) := hK ▸ pe_bm pa slot hty hm ho ha hbase hfew hline hs hplain
/-- d[x] = e, x a text -/
def sDPutS (td ty tv : TE) : TS := fun D σ H => tv σ H fun v H1 => td σ H1 fun o H2 => ty σ H2 fun y H3 => ∃ a kvs x, o = .ref a ∧ y = .str x ∧ H3 a = some (.dK kvs) ∧ kvs.length < sizeLine ∧ ∀ H4, H4 = upd H3 a (.dK (putK kvs (Sum.inr x) v)) → D.nx σ H4
theorem ps_dputS {o i value : Expr} {td ty tv : TE} {pos' : Pos} (hu : X.A.units + 1 < cLine) (ho : PE X o td) (hi : PE X i ty) (hv : PE X value tv) (hs : swapsWith value (some (.Subscript o i pos')) pos.line X.env = pure false := by rfl) : PS X (.Assign [.Subscript o i pos'] value pos) (sDPutS td ty tv) := by
  constructor
  intro pins s σ H D I h
  refine wpAny_Assign_Subscript (thn (hv.run pins s σ H _ I h) fun r s1 h1 => ?_) hs
  obtain ⟨v, H1, I1, rv, q1⟩ := h1
  refine thn (ho.run pins s1 σ H1 _ I1 q1) fun u s2 h2 => ?_
  obtain ⟨x, H2, I2, rx, q2⟩ := h2
  refine thn (hi.run pins s2 σ H2 _ I2 q2) fun iv s3 h3 => ?_
  obtain ⟨y, H3, I3, ry, a, kvs, z, ex, ey, hd, hz, q3⟩ := h3
  subst ex
  subst ey
  cases (show u = Value.ref a from rx)
  exact d_setItem hu I3 (DPut.k (k := Sum.inr z) hd hz) ry rv fun s4 I4 => ⟨σ, _, I4, q3 _ rfl⟩
theorem pe_fldK {o : Expr} {f : Str} {ta : TE} (hK : X.K = K) (he : PE X o ta) (hb : attributeBase o f X.env (eval o X.env) = eval o X.env := by rfl) : PE X (.Attribute o f pos) (tFld K ta f) := hK ▸ pe_fld he hb
/-- o.f = e -/
def sFldA (K : PySem.W.Frag) (ta tv : TE) (f : Str) : TS := fun D σ H => tv σ H fun y H1 => ta σ H1 fun x H2 => ∃ a C dx fs, x = .ref a ∧ H2 a = some (.ins C dx fs) ∧ Cls K C ∧ NoAttr K C f ∧ fs.length < 1000 ∧ PutQ H2 a (.ins C dx (putF f y fs)) (D.nx σ)
theorem ps_fldA {o value : Expr} {f : Str} {ta tv : TE} {pos' : Pos} (hK : X.K = K) (ha : PE X o ta) (hv : PE X value tv) (hs : swapsWith value (some (.Attribute o f pos')) pos.line X.env = pure false := by rfl) : PS X (.Assign [.Attribute o f pos'] value pos) (sFldA K ta tv f) := by
  subst hK
  constructor
  intro pins s σ H D I h
  refine plainObj_wpAny_Assign_Attribute (thn (hv.run pins s σ H _ I h) fun u s1 h1 => ?_) hs
  obtain ⟨y, H1, I1, ry, q⟩ := h1
  refine thn (ha.run pins s1 σ H1 _ I1 q) fun ov s2 h2 => ?_
  obtain ⟨x, H2, I2, rx, a, C, dx, fs, ex, ea, c, n, l, q2⟩ := h2
  subst ex
  cases (show ov = Value.ref a from rx)
  exact setattr_ok I2 ea c n l ry fun s3 I3 => ⟨σ, _, I3, q2.to ea (fun _ z => by cases z)⟩
theorem ps_fldK {o value : Expr} {f : Str} {ta tv : TE} {pos' : Pos} (hK : X.K = K) (ha : PE X o ta) (hv : PE X value tv) (hs : swapsWith value (some (.Attribute o f pos')) pos.line X.env = pure false := by rfl) : PS X (.Assign [.Attribute o f pos'] value pos) (sFld K ta tv f) := hK ▸ ps_fld ha hv hs
end

/-! ### the deck: its cells at c, how many numbers were drawn -/
structure DkOk (cs : List Int) (n : Int) : Prop where
  len : cs.length ≤ 63
  pos : ∀ x ∈ cs, (0 : Int) ≤ x
  n0 : 0 ≤ n
structure Deck (H : Hp) (a c : Addr) (n : Int) : Prop where
  ex : ∃ cs : List Int, H a = some (.lst [.ref c, .int n]) ∧ H c = some (.lst (cs.map V.int)) ∧ DkOk cs n
theorem Deck.ne {H : Hp} {a c : Addr} {n : Int} (d : Deck H a c n) : a ≠ c := by
  obtain ⟨cs, h1, h2, ok⟩ := d.ex
  refine ne_of h1 h2 fun z => ?_
  have z1 := HO.lst.inj z
  cases cs with
  | nil => cases z1
  | cons x r => cases z1
theorem Deck.kp {S : List Addr} {H H' : Hp} {a c : Addr} {n : Int} (d : Deck H a c n) (k : Kp S H H') (ha : a ∉ S) (hc : c ∉ S) : Deck H' a c n := by
  obtain ⟨cs, h1, h2, ok⟩ := d.ex
  exact ⟨cs, k.keep _ _ h1 ha, k.keep _ _ h2 hc, ok⟩
theorem Deck.kp0 {H H' : Hp} {a c : Addr} {n : Int} (d : Deck H a c n) (k : Kp [] H H') : Deck H' a c n := d.kp k (by simp) (by simp)
theorem Deck.a_some {H : Hp} {a c : Addr} {n : Int} (d : Deck H a c n) : ∃ xs, H a = some (.lst xs) := by
  obtain ⟨cs, h1, h2, ok⟩ := d.ex
  exact ⟨_, h1⟩
theorem Deck.c_some {H : Hp} {a c : Addr} {n : Int} (d : Deck H a c n) : ∃ xs, H c = some (.lst xs) := by
  obtain ⟨cs, h1, h2, ok⟩ := d.ex
  exact ⟨_, h2⟩
/-- a new address is not the deck's -/
theorem Deck.off {H : Hp} {a c p : Addr} {n : Int} (d : Deck H a c n) (h : H p = none) : p ∉ [a, c] := by
  obtain ⟨xs, h1⟩ := d.a_some
  obtain ⟨ys, h2⟩ := d.c_some
  exact ne2 (ne_of_none h1 h).symm (ne_of_none h2 h).symm
abbrev MANY : Int := 1000000000
def spDraw : Sp := fun vs H Q _ => ∃ (a c : Addr) (n many : Int), vs = [.ref a, .int many] ∧ Deck H a c n ∧ n ≤ MANY ∧ 0 < many ∧ many.natAbs < 2 ^ 1000 ∧
  ∀ (r : Int) (H' : Hp), 0 ≤ r → r < many → Deck H' a c (n + 1) → Kp [a, c] H H' → Q (.int r) H'
def spDeck (K : PySem.W.Frag) : Sp := fun vs H Q _ => ∃ (s : Addr) (ns : List Int), vs = [.ref s] ∧ SqL K H s (ns.map V.int) ∧ ns.length ≤ 63 ∧
  ∀ (a c : Addr) (H' : Hp), H a = none → H c = none → Kp [] H H' → Deck H' a c 0 → Q (.ref a) H'
/-- an item of a list that is drawn -/
def spOne (K : PySem.W.Frag) : Sp := fun vs H Q _ => ∃ (a c l : Addr) (n : Int) (xs : List V), vs = [.ref a, .ref l] ∧ Deck H a c n ∧ n ≤ MANY ∧ SqL K H l xs ∧ l ∉ [a, c] ∧ 0 < xs.length ∧ xs.length ≤ 1000000 ∧
  ∀ (x : V) (H' : Hp), x ∈ xs → Deck H' a c (n + 1) → Kp [a, c] H H' → Q x H'
/-- a sign of a text that is drawn -/
def spOneS : Sp := fun vs H Q _ => ∃ (a c : Addr) (n : Int) (z : Str), vs = [.ref a, .str z] ∧ Deck H a c n ∧ n ≤ MANY ∧ 0 < z.length ∧ z.length ≤ 1000000 ∧ ∀ (ch : Nat) (H' : Hp), ch ∈ z.cps.toList → Deck H' a c (n + 1) → Kp [a, c] H H' → Q (.str ⟨#[ch]⟩) H'
def spOne2 (K : PySem.W.Frag) : Sp := fun vs H Q E => spOne K vs H Q E ∨ spOneS vs H Q E
theorem pow1000 {m : Nat} (h : m ≤ 1000000) : ((m : Int)).natAbs < 2 ^ 1000 := by
  have e : ((m : Int)).natAbs < 2 ^ 30 := by
    have e2 : (2 : Nat) ^ 30 = 1073741824 := by decide
    rw [e2]
    omega
  exact Nat.lt_of_lt_of_le e (Nat.pow_le_pow_right (by decide) (by decide))
/-- a def of the text, as the top has left it -/
structure DA (K : PySem.W.Frag) (mg : Str → Option Value) (x : Str) (st : Stmt) (ps : List Str) where
  f : Addr
  fd : FuncData
  F : Fun K x x st f fd
  b : Binds K fd ps []
  g : mg x = some (.ref f)
/-- a class of the text, a method of it -/
structure CA (K : PySem.W.Frag) (mg : Str → Option Value) (x : Str) where
  C : Addr
  cl : Cls K C
  g : mg x = some (.ref C)
  mks : PySem.W.makesIn K C = true
  kp : PySem.W.keepIn K (.ref C) = true
structure DM (K : PySem.W.Frag) (C : Addr) (m q : Str) (st : Stmt) (ps : List Str) where
  f : Addr
  fd : FuncData
  F : Fun K m q st f fd
  b : Binds K fd ps []
  m : Meth K C m f
theorem atI_mem {α : Type} {xs : List α} {i : Int} (h0 : 0 ≤ i) (h : i < (xs.length : Int)) : ∃ v, atI xs i = some v ∧ v ∈ xs := by
  have hi : i.toNat < xs.length := by omega
  have e : i = ((i.toNat : Nat) : Int) := by omega
  have q : atI xs ((i.toNat : Nat) : Int) = some xs[i.toNat] := atI_nat (List.getElem?_eq_getElem hi)
  rw [← e] at q
  exact ⟨xs[i.toNat], q, List.getElem_mem hi⟩
theorem ixN_nat {n : Nat} {i : Int} (h0 : 0 ≤ i) (h : i < (n : Int)) : ixN n i = some i.toNat := by
  unfold ixN
  rw [if_pos h0, if_pos h]
theorem isi_ss : kitB "str" "str" = some true := by decide +kernel
theorem isi_is : kitB "int" "str" = some false := by decide +kernel
theorem isi_ts : kitB "tuple" "str" = some false := by decide +kernel
theorem isi_si : kitB "str" "int" = some false := by decide +kernel
theorem isi_ii : kitB "int" "int" = some true := by decide +kernel
theorem isi_ti : kitB "tuple" "int" = some false := by decide +kernel
theorem isi_st : kitB "str" "tuple" = some false := by decide +kernel
theorem isi_it : kitB "int" "tuple" = some false := by decide +kernel
theorem isi_tt : kitB "tuple" "tuple" = some true := by decide +kernel
theorem cpow_of {i j : Int} (h : 0 ≤ j ∧ j ≤ 1000000 ∧ i.natAbs < 2 ^ 64) : CPow i j := h
theorem cmul_of {i j : Int} (h : -(2 ^ 64) < i ∧ i < 2 ^ 64) : CMul i j := .inl h
theorem cdivn_of {i j : Int} (h : j ≠ 0 ∧ j.natAbs < 1073741824) : CDivN i j := h
theorem lt_lit {n : Nat} (h : Nat.ble (n + 1) 1000 = true) : n < 1000 := Nat.le_of_ble_eq_true h
theorem le_lit {n : Nat} (h : Nat.ble n 1000 = true) : n ≤ 1000000 := Nat.le_trans (Nat.le_of_ble_eq_true h) (by decide)
theorem pos_lit {n : Nat} (h : Nat.ble 1 n = true) : 0 < n := Nat.le_of_ble_eq_true h
theorem sz_lit {n : Nat} (h : Nat.ble n 1000 = true) : n ≤ sizeLine := Nat.le_trans (Nat.le_of_ble_eq_true h) (by decide)
theorem sz_lt {n : Nat} (h : n ≤ 1000000) : n < sizeLine := Nat.lt_of_le_of_lt h (by decide)
theorem sz_le {n : Nat} (h : n ≤ 1000000) : n ≤ sizeLine := Nat.le_of_lt (sz_lt h)
end EH
namespace EH
open PySem L2 PyProof.Rows
/-! ### defs that write texts of displays: nothing of that sort is under way around them -/
def Free (A : Around) : Prop := A.guards = some []
structure FnG (P : Program) (w : World) (K : PySem.W.Frag) (mg : Str → Option Value) (base : Heap) (CX : CXT) (k : Nat) (f : Addr) (fd : FuncData) (ps : List Str) (sp : Sp) : Prop where
  len : ∀ vs H Q E, sp vs H Q E → vs.length = ps.length
  run : ∀ (A : Around) (outer : List Env) (s : Shared) (H : Hp) (args : Args) (us : List Value) (vs : List V) (Q : VK) (E : XK),
    Free A → Room k A → Env0 P w K mg base A outer s H → BindsTo s fd args (ps.zip us) → Vals vs us → sp vs H Q E → codeAny (model P w) A (.call (.ref f) args) (CR CX outer P w H s Q E) s
section
variable {P : Program} {w : World} {K : PySem.W.Frag} {mg : Str → Option Value} {base : Heap} {CX : CXT}
theorem FnOk.toG {k : Nat} {f : Addr} {fd : FuncData} {ps : List Str} {sp : Sp} (F : FnOk P w K mg base CX k f fd ps sp) : FnG P w K mg base CX k f fd ps sp :=
  ⟨F.len, fun A outer s H args us vs Q E _ => F.run A outer s H args us vs Q E⟩
theorem Fun.okG {x qual : Str} {st : Stmt} {f : Addr} {fd : FuncData} {N ps : List Str} {k : Nat} {sp : Sp} (F : Fun K x qual st f fd) (S : FnScope N ps (defScope st)) (len : ∀ vs H Q E, sp vs H Q E → vs.length = ps.length)
    (body : ∀ (cdv : Value) (A : Around) (outer : List Env) (s : Shared) (H : Hp) (vs : List V) (Q : VK) (E : XK), Free (A.deeper (envOfC qual (defScope st) s.heap.objs.size f cdv)) →
      Room k (A.deeper (envOfC qual (defScope st) s.heap.objs.size f cdv)) → sp vs H Q E →
      ∃ t, PSs (cxOf CX0 P w K mg base N qual (defScope st) f cdv A outer s H E).nox (defBody st) t ∧ t { nx := fun _ H' => Q .non H', rt := Q } (start N vs) H) : FnG P w K mg base CX0 (k + 1) f fd ps sp := by
  refine ⟨len, fun A outer s H args us vs Q E fr hr e0 hb r hsp => ?_⟩
  obtain ⟨oc, od, kV, doc, pm, an, cdv, ct, osl, rfl, lk, hcd⟩ := F.ex
  have hl := len _ _ _ _ hsp
  have KX : K.In s.heap := e0.mod.kin.keeps fun b o e => (e0.bs b o e).1
  have lim : s.heap.NoLimit := e0.mod.nolimit.keeps fun b o e => (e0.bs b o e).1
  have kinds : ∀ y ∈ ps.zip us, (defScope st).names.lookup y.1 = some .local ∨ ((defScope st).names.lookup y.1 = some .cell ∧ ((cellsFrom (s.heap.objs.size + 1) (defScope st).names []).lookup y.1).isSome = true) := by
    rintro ⟨n, v⟩ hy
    rcases S.par n (List.of_mem_zip hy).1 with q | q
    · exact .inl q
    · exact .inr ⟨q, PySem.W.cellsFrom_some _ _ _ (.inl q)⟩
  refine codeAny_call_function hr.depth (KX _ _ lk) rfl S.co S.gen rfl (PySem.W.codeRec_of KX hcd) (hb _ _ _ _ ?_)
  refine wpAny_newFunctionEnv_cells S.kind kinds fun env he s1 y => ?_
  subst he
  refine ⟨lim.keeps y.toInCall.keep, codeAny_func ?_⟩
  obtain ⟨t, ht, hq⟩ := body cdv A outer s H vs Q E fr (hr.deeper _) hsp
  have I0 : Inv (cxOf CX0 P w K mg base N qual (defScope st) f cdv A outer s H E) [] (start N vs) H s1 := inv_start S hr.hd e0 hl r y
  refine wpAny_mono (ht.nox.run [] s1 (start N vs) H _ I0 hq) (fun fl s' hs => ?_) fun _ _ z => z
  have close : ∀ {σ' : L2.St} {H' : Hp} {v : V} {u : Value}, Inv (cxOf CX0 P w K mg base N qual (defScope st) f cdv A outer s H E) [] σ' H' s' → RelV v u → Q v H' → CE outer P w H s Q u s' :=
    fun J rv q => ⟨_, _, J.os, J.bare, J.base, J.hok, rv, q⟩
  cases fl with
  | ret u => obtain ⟨v, σ', H', J, rv, q⟩ := hs; exact close J rv q
  | next => obtain ⟨σ', H', J, q⟩ := hs; exact close (v := V.non) (u := Value.none) J rfl q
  | brk => obtain ⟨_, _, _, q⟩ := hs; exact q.elim
  | cont => obtain ⟨_, _, _, q⟩ := hs; exact q.elim
end
section
variable {X : Cx} {CX : CXT} {k : Nat} {f C : Addr} {fd : FuncData} {ps : List Str} {sp : Sp} {dvs : List V} {ds : List Value} {E : XK} {x m : Str} {p pos apos : Pos} {e o : Expr} {es : List Expr} {ta : TE} {t : TA}
theorem run_fnG {pins : List (Addr × Obj)} {σ : L2.St} {H : Hp} {s : Shared} {Q : VK} {us : List Value} {vs : List V} (F : FnG X.prog X.w X.K X.mg X.base CX k f fd ps sp) (fr : Free X.A) (hr : Room k X.A) (hb : Binds X.K fd ps ds) (hd : Vals dvs ds)
    (hx : Passes CX X E) (I : Inv X pins σ H s) (r : Vals vs us) (h : sp (vs ++ dvs) H Q E) : wpAny (model X.prog X.w) X.A (call (.ref f) us) (EP X pins σ Q) X.xe s := by
  have rr : Vals (vs ++ dvs) (us ++ ds) := r.append hd
  have hl : (us ++ ds).length = ps.length := rr.length.symm.trans (F.len _ _ _ _ h)
  refine wpAny_call (codeAny_mono (F.run X.A X.stack s H ⟨us, []⟩ _ _ Q E fr hr I.env0 (hb s us I.kIn hl) rr h) fun z s' hq => ?_)
  cases z with
  | error e => exact hx pins σ H s e s' I hq
  | ok fl => cases fl with
    | ret u => exact I.after hq
    | next => exact hq.elim
    | brk => exact hq.elim
    | cont => exact hq.elim
theorem pe_callG (F : FnG X.prog X.w X.K X.mg X.base CX k f fd ps sp) (fr : Free X.A) (hr : Room k X.A) (hg : Gl X x) (hm : X.mg x = some (.ref f)) (hk : PySem.W.keepIn X.K (.ref f) = true) (hb : Binds X.K fd ps ds) (hd : Vals dvs ds)
    (hx : Passes CX X E) (ha : PA X (e :: es) t) (hdb : (x == ("__debug__" : Str)) = false := by decide) (he : starEach (e :: es) X.env = (false, eval e X.env) :: starEach es X.env := by rfl)
    (hpl : (backTo pos (starEach es X.env)).any (·.1) = false := by rfl) : PE X (.Call (.Name x p) (e :: es) [] pos) (tCall sp dvs E t) := by
  constructor
  intro pins s σ H Q I h
  refine wpAny_Call_Name_kw (ld_glob I hg hm ?_ hdb)
  exact PySem.W.callWith_K (h₀ := X.base) I.ok.mod.kin hk (thn (ha.run pos pins s σ H _ I h) fun us s1 ⟨vs, H1, I1, r, q⟩ => ⟨I1.kIn, run_fnG F fr hr hb hd hx I1 r q⟩) he hpl
end
/-! ### repr -/
section
variable {X : Cx}
/-- repr of data: the text of the data -/
def rReprD (K : PySem.W.Frag) : List V → Hp → VK → Prop := fun xs H Q => ∃ x d, xs = [x] ∧ Dp K H x d ∧ d.showable = true ∧ d.shown.length ≤ sizeLine ∧ d.depth ≤ 60 ∧ Q (.str d.shown) H
theorem call_reprD (fr : Free X.A) (hu : X.A.units + 64 < cLine) : CallR X (.builtin "repr") (rReprD X.K) := by
  intro pins s σ H xs us Q I r h
  obtain ⟨x, d, rfl, hd, sh, sz, dp, q⟩ := h
  obtain ⟨u, rfl, rx⟩ := vals1 r
  obtain ⟨as, rd⟩ := Dp.reads I d x u hd rx
  have nd : d.hasDict = false := by
    have all : ∀ (d : PyData) (v : V), Dp X.K H v d → d.hasDict = false := by
      intro d v h
      exact Dp.rec (motive_1 := fun v d _ => d.hasDict = false) (motive_2 := fun vs ds _ => PyData.hasDictAll ds = false) (by simp only [PyData.hasDict]) (fun _ => by simp only [PyData.hasDict]) (fun _ => by simp only [PyData.hasDict])
        (fun _ => by simp only [PyData.hasDict]) (fun _ _ ih => by simp only [PyData.hasDict]; exact ih) (fun _ _ ih => by simp only [PyData.hasDict]; exact ih) (by simp only [PyData.hasDictAll]) (fun _ _ i1 i2 => by simp only [PyData.hasDictAll, i1, i2, Bool.or_self]) h
    exact all d x hd
  cases hd with
  | non => cases (show u = Value.none from rx); exact PySem.P.repr_of_none ⟨.str _, H, I.tok _, ⟨_, rfl⟩, q⟩
  | bl b =>
    cases (show u = Value.bool b from rx)
    refine PySem.P.repr_of_bool ⟨.str _, H, I.tok _, ⟨_, rfl⟩, ?_⟩
    rw [PyData.shown_bool] at q
    exact q
  | int i =>
    obtain ⟨t, rfl⟩ := (show ∃ t, u = Value.int i t from rx)
    refine PySem.P.repr_of_int (by simpa [PyData.showable] using sh) ⟨.str _, H, I.tok _, ⟨_, rfl⟩, ?_⟩
    rw [PyData.shown_int] at q
    exact q
  | str y =>
    obtain ⟨t, rfl⟩ := (show ∃ t, u = Value.str y t from rx)
    refine PySem.P.repr_of_str ⟨.str _, H, I.tok _, ⟨_, rfl⟩, ?_⟩ ?_
    · simp only [PyData.shown] at q; exact q
    · simp only [PyData.shown] at sz; exact sz
  | lst h1 h2 =>
    cases rx
    exact repr_of_reads' rd sh (PyData.noDict_hsm nd) fr (by omega) (fun _ _ z => z) (fun h' t tk hk => ⟨.str _, H, I.kept hk, ⟨_, rfl⟩, q⟩) sz
  | tup h1 h2 =>
    cases rx
    exact repr_of_reads' rd sh (PyData.noDict_hsm nd) fr (by omega) (fun _ _ z => z) (fun h' t tk hk => ⟨.str _, H, I.kept hk, ⟨_, rfl⟩, q⟩) sz
end
end EH
namespace EH
open PySem L2 PyProof.Rows
/-! ### a law's own head, its def of the kind FnG -/
section
variable {P : Program} {w : World} {K : PySem.W.Frag} {mg mb : Str → Option Value} {CX : CXT} {k : Nat} {fa a : Addr} {fd : FuncData} {x : Str} {sp : Sp} {s₁ : Shared} {vs : List Value} {ns : List Int}
theorem law_coreG (KX : K.In s₁.heap) (hns : s₁.heap.Ns mainGlobals mg) (hb : s₁.heap.Ns builtinsNs mb) (hbb : ∀ x : Str, x ≠ "__name__" → mb x = bootBuiltins x) (hlim : s₁.heap.NoLimit) (hg : s₁.gens = #[])
    (ha : s₁.heap.get? a = some { cls := .type "list", data := .seq vs.toArray }) (hr : Room k callerA)
    (F : ∀ base : Heap, K.In base → base.Ns mainGlobals mg → FnG P w K mg base CX k fa fd [x] sp) (hbind : ∀ (s : Shared) (u : Value), BindsTo s fd ⟨[u], []⟩ [(x, u)])
    (hCX : ∀ H e s', CX [] H s₁ (fun _ _ _ => False) e s' → False) (H : Hp) (hO : Only H) (hsp : sp [.ref a] H (fun v _ => v = .bl true) fun _ _ _ => False) (hok : HOk P w H s₁.heap) (hA : ∀ b, H b ≠ none → b = a) (hK : H a ≠ none → K.lookup a = none) :
    codeAny (model P w) callerA (.call (.ref fa) ⟨[.ref a], []⟩) (fun r s' => r = .ok (.ret (.bool true)) ∧ OldK s₁.heap s'.heap ∧ s'.os = s₁.os ∧ AllBare s'.gens) s₁ := by
  have un_a : ∀ {b : Addr}, b ≠ a → H b = none := fun {b} h => by
    cases q : H b with
    | none => rfl
    | some u => exact absurd (hA b (by rw [q]; exact fun z => nomatch z)) h
  have dictFree : ∀ {b : Addr} {o : Obj} {es : Array DictEntry} {ep : Nat}, s₁.heap.get? b = some o → o.data = .dict es ep → H b = none := fun {b o es ep} e d => by
    refine un_a fun z => ?_
    subst z
    rw [ha] at e
    cases e
    cases (show Data.seq vs.toArray _ = Data.dict es ep from d)
  have nsK : ∀ {b : Addr} {m : Str → Option Value}, s₁.heap.Ns b m → (hidT s₁.heap H).Ns b m := fun ⟨o, es, ep, e, d, r⟩ => ⟨o, es, ep, hidT_get e (dictFree e d), d, r⟩
  have kin : K.In (hidT s₁.heap H) := fun b o e => by
    refine hidT_get (KX b o e) ?_
    by_cases z : b = a
    · subst z
      cases q : H b with
      | none => rfl
      | some u => rw [hK (by rw [q]; exact fun z => nomatch z)] at e; cases e
    · exact un_a z
  have md : Mod K mg (hidT s₁.heap H) := ⟨kin, nsK hns, ⟨mb, nsK hb, hbb⟩, by obtain ⟨mc, h1, h2⟩ := hlim; exact ⟨mc, nsK h1, h2⟩⟩
  have e0 : Env0 P w K mg (hidT s₁.heap H) callerA [] s₁ H := ⟨rfl, md, fun _ _ e => of_hidT e, Nat.le_of_eq (hidT_size _ _), trivial, (fun b z => absurd (show b ∈ ([] : List Addr) from z) (by simp)), hok, .of_eq hg⟩
  refine codeAny_mono ((F _ kin (nsK hns)).run callerA [] s₁ H ⟨[.ref a], []⟩ [.ref a] [.ref a] _ _ rfl hr e0 (hbind s₁ (.ref a)) (.cons rfl .nil) hsp) fun r s' h => ?_
  cases r with
  | error e => exact (hCX H e s' h).elim
  | ok fl => cases fl with
    | next => exact h.elim
    | brk => exact h.elim
    | cont => exact h.elim
    | ret u =>
      obtain ⟨v, H', os, bare, un, hok', rv, q⟩ := h
      cases (show v = .bl true from q)
      cases (show u = Value.bool true from rv)
      refine ⟨rfl, OldK.of_keep fun b o e => ?_, os, bare⟩
      rcases hO b with z | ⟨ob, xs, z⟩
      · exact un.keep b o e z (fun y => nomatch (show b ∈ ([] : List Addr) from y)) (fun y => nomatch y)
      · obtain ⟨e1, _⟩ := hok b _ z
        obtain ⟨e2, _⟩ := hok' b _ (un.frzs b ob _ z)
        rw [e] at e1
        cases e1
        exact e2
theorem law_callG (KX : K.In s₁.heap) (hns : s₁.heap.Ns mainGlobals mg) (hb : s₁.heap.Ns builtinsNs mb) (hbb : ∀ x : Str, x ≠ "__name__" → mb x = bootBuiltins x) (hlim : s₁.heap.NoLimit) (hg : s₁.gens = #[])
    (ha : s₁.heap.get? a = some { cls := .type "list", data := .seq vs.toArray }) (hi : IntsAre vs ns) (hl : ns.length ≤ sizeLine) (hr : Room k callerA)
    (F : ∀ base : Heap, K.In base → base.Ns mainGlobals mg → FnG P w K mg base CX k fa fd [x] sp) (hbind : ∀ (s : Shared) (u : Value), BindsTo s fd ⟨[u], []⟩ [(x, u)])
    (hsp : ∀ H : Hp, Only H → SqL K H a (ns.map V.int) → sp [.ref a] H (fun v _ => v = .bl true) fun _ _ _ => False) (hCX : ∀ H e s', CX [] H s₁ (fun _ _ _ => False) e s' → False) :
    codeAny (model P w) callerA (.call (.ref fa) ⟨[.ref a], []⟩) (fun r s' => r = .ok (.ret (.bool true)) ∧ OldK s₁.heap s'.heap ∧ s'.os = s₁.os ∧ AllBare s'.gens) s₁ := by
  have rv := vals_ints hi
  have core := law_coreG (k := k) (fa := fa) (sp := sp) KX hns hb hbb hlim hg ha hr F hbind hCX
  cases hk : K.lookup a with
  | some o =>
    have e := KX a o hk
    rw [ha] at e
    cases e
    have hS : SqL K (fun _ => none) a (ns.map V.int) := .inr ⟨_, vs.toArray, _, hk, rfl, rfl, rfl, by rw [List.size_toArray, hi.length]; exact hl, by simpa using rv⟩
    exact core (fun _ => none) (fun _ => .inl rfl) (hsp _ (fun _ => .inl rfl) hS) (fun b u z => nomatch (show (none : Option HO) = some u from z)) (fun b z => absurd rfl z) fun z => absurd rfl z
  | none =>
    have at_a : ∀ b : Addr, b = a → (fun b => if b = a then some (HO.frz { cls := .type "list", data := .seq vs.toArray } (.lst (ns.map V.int))) else none) b = some (.frz { cls := .type "list", data := .seq vs.toArray } (.lst (ns.map V.int))) := fun b z => if_pos z
    have off_a : ∀ b : Addr, b ≠ a → (fun b => if b = a then some (HO.frz { cls := .type "list", data := .seq vs.toArray } (.lst (ns.map V.int))) else none) b = none := fun b z => if_neg z
    generalize (fun b => if b = a then some (HO.frz { cls := .type "list", data := .seq vs.toArray } (.lst (ns.map V.int))) else none) = H0 at at_a off_a
    have only : Only H0 := fun b => by
      by_cases z : b = a
      · exact .inr ⟨_, _, at_a b z⟩
      · exact .inl (off_a b z)
    refine core H0 only (hsp H0 only (.inl (.inr ⟨_, at_a a rfl⟩))) (fun b u z => ?_) (fun b z => ?_) fun _ => hk
    · by_cases y : b = a
      · have e := (at_a b y).symm.trans z
        cases e
        subst y
        exact ⟨ha, by rw [List.length_map]; exact hl, vs, _, rv, ha⟩
      · exact nomatch (off_a b y).symm.trans z
    · by_cases y : b = a
      · exact y
      · exact absurd (off_a b y) z
end
theorem walk_ofG {l : PySem.W.OpenLaw} {n k : Nat} {q : Program} {loose : List Str} {XP : (Str → Option Value) → Heap → Prop} {YP : World → Heap → Prop} {d : DefRec} {K : Params → PySem.W.Frag} {sp : PySem.W.Frag → Sp} {x : Str}
    (hn : l.most = some n) (hn2 : n ≤ sizeLine) (hdf : d.params.defaults = []) (hr : Room k callerA) (hY : ∀ (w : World) (h : Heap), YP w h → (K w.params).In h)
    (F : ∀ (w : World) (mg : Str → Option Value) (fa : Addr) (h : Heap), (K w.params).In h → h.Ns mainGlobals mg → mg d.name = some (.ref fa) →
      ∃ fd : FuncData, (∀ (s : Shared) (u : Value), BindsTo s fd ⟨[u], []⟩ [(x, u)]) ∧ ∀ base : Heap, (K w.params).In base → base.Ns mainGlobals mg → FnG l.prog w (K w.params) mg base CX0 k fa fd [x] (sp (K w.params)))
    (hsp : ∀ (K : PySem.W.Frag) (H : Hp) (a : Addr) (ns : List Int), ns.length ≤ n → SqL K H a (ns.map V.int) → sp K [.ref a] H (fun v _ => v = .bl true) fun _ _ _ => False) :
    PySem.W.WalkO q loose XP YP l.row.toRowW d [] (fun f vs => PySem.call f vs) := by
  refine Att.attach_call hn hdf fun w s₀ s₁ mg mb fa o pm cd doc a vs ns G Y ho hd hcd hmg hobj hints hlen hg => ?_
  obtain ⟨fd, hb, hF⟩ := F w mg fa _ (hY w _ Y) G.T.g hmg
  exact law_callG (hY w _ Y) G.T.g G.T.b G.T.builtins G.T.nolimit hg hobj hints (Nat.le_trans hlen hn2) hr hF hb (fun H _ hS => hsp _ H a ns hlen hS) fun _ _ _ z => z
def spLaw (K : PySem.W.Frag) : Sp := fun vs H Q _ => ∃ (a : Addr) (ns : List Int), vs = [.ref a] ∧ SqL K H a (ns.map V.int) ∧ ns.length ≤ 63 ∧ ∀ H', Q (.bl true) H'
end EH
namespace EH
open PySem L2
/-! ### programs as plain data -/
inductive Ex where
  | num (i : Int) | var (x : Str) | plus (a b : Ex) | minus (a b : Ex) | times (k : Int) (a : Ex)
inductive Ts where
  | less (a b : Ex) | odd (a : Ex) | not (t : Ts)
inductive Sm where
  | set (x : Str) (e : Ex) | half (x : Str) (e : Ex) | tell (e : Ex) | say (w : Str) | stop (w : Str)
  | ite (t : Ts) (yes no : List Sm) | rep (k : Nat) (b : List Sm)
/-! what a value is in the heap: tuples of tuples, ints, texts -/
mutual
def Tr (H : Hp) : PyData → V → Prop
  | .none, v => v = .non
  | .bool b, v => v = .bl b
  | .int i, v => v = .int i
  | .str x, v => v = .str x
  | .tuple ds, v => ∃ a xs, v = .ref a ∧ H a = some (.tup xs) ∧ TrAll H ds xs
  | .list _, _ => False
  | .dict _, _ => False
def TrAll (H : Hp) : List PyData → List V → Prop
  | [], xs => xs = []
  | d :: ds, xs => ∃ v vs, xs = v :: vs ∧ Tr H d v ∧ TrAll H ds vs
end
mutual
theorem Tr.mono {H H' : Hp} (k : ∀ b xs, H b = some (.tup xs) → H' b = some (.tup xs)) : ∀ (d : PyData) (v : V), Tr H d v → Tr H' d v
  | .none, v, h => by simp only [Tr] at h ⊢; exact h
  | .bool b, v, h => by simp only [Tr] at h ⊢; exact h
  | .int i, v, h => by simp only [Tr] at h ⊢; exact h
  | .str x, v, h => by simp only [Tr] at h ⊢; exact h
  | .tuple ds, v, h => by
    simp only [Tr] at h ⊢
    obtain ⟨a, xs, e, h1, h2⟩ := h
    exact ⟨a, xs, e, k a xs h1, TrAll.mono k ds xs h2⟩
  | .list _, v, h => by simp only [Tr] at h
  | .dict _, v, h => by simp only [Tr] at h
theorem TrAll.mono {H H' : Hp} (k : ∀ b xs, H b = some (.tup xs) → H' b = some (.tup xs)) : ∀ (ds : List PyData) (vs : List V), TrAll H ds vs → TrAll H' ds vs
  | [], vs, h => by simp only [TrAll] at h ⊢; exact h
  | d :: ds, vs, h => by
    simp only [TrAll] at h ⊢
    obtain ⟨v, r, e, h1, h2⟩ := h
    exact ⟨v, r, e, Tr.mono k d v h1, TrAll.mono k ds r h2⟩
end
theorem Kp.tr {S : List Addr} {H H' : Hp} {d : PyData} {v : V} (k : Kp S H H') (h : Tr H d v) : Tr H' d v := Tr.mono k.tup d v h
theorem Kp.trAll {S : List Addr} {H H' : Hp} {d : List PyData} {v : List V} (k : Kp S H H') (h : TrAll H d v) : TrAll H' d v := TrAll.mono k.tup d v h
mutual
theorem Tr.dp {K : PySem.W.Frag} {H : Hp} : ∀ (d : PyData) (v : V), Tr H d v → Dp K H v d
  | .none, v, h => by simp only [Tr] at h; subst h; exact .non
  | .bool b, v, h => by simp only [Tr] at h; subst h; exact .bl b
  | .int i, v, h => by simp only [Tr] at h; subst h; exact .int i
  | .str x, v, h => by simp only [Tr] at h; subst h; exact .str x
  | .tuple ds, v, h => by
    simp only [Tr] at h
    obtain ⟨a, xs, e, h1, h2⟩ := h
    subst e
    exact .tup (SqT.of h1) (TrAll.dp ds xs h2)
  | .list _, v, h => by simp only [Tr] at h
  | .dict _, v, h => by simp only [Tr] at h
theorem TrAll.dp {K : PySem.W.Frag} {H : Hp} : ∀ (ds : List PyData) (vs : List V), TrAll H ds vs → DpAll K H vs ds
  | [], vs, h => by simp only [TrAll] at h; subst h; exact .nil
  | d :: ds, vs, h => by
    simp only [TrAll] at h
    obtain ⟨v, r, e, h1, h2⟩ := h
    subst e
    exact .cons (Tr.dp d v h1) (TrAll.dp ds r h2)
end
theorem TrAll.length {H : Hp} : ∀ {ds : List PyData} {vs : List V}, TrAll H ds vs → vs.length = ds.length
  | [], vs, h => by simp only [TrAll] at h; subst h; rfl
  | d :: ds, vs, h => by
    simp only [TrAll] at h
    obtain ⟨v, r, e, h1, h2⟩ := h
    subst e
    rw [List.length_cons, List.length_cons, TrAll.length h2]
theorem TrAll.get {H : Hp} : ∀ {ds : List PyData} {vs : List V} {i : Nat} {d : PyData}, TrAll H ds vs → ds[i]? = some d → ∃ v, vs[i]? = some v ∧ Tr H d v
  | [], vs, i, d, h, e => by simp at e
  | d :: ds, vs, 0, d', h, e => by
    simp only [TrAll] at h
    obtain ⟨v, r, rfl, h1, h2⟩ := h
    cases e
    exact ⟨v, rfl, h1⟩
  | d :: ds, vs, i + 1, d', h, e => by
    simp only [TrAll] at h
    obtain ⟨v, r, rfl, h1, h2⟩ := h
    exact TrAll.get (i := i) h2 e
theorem TrAll.append {H : Hp} : ∀ {ds es : List PyData} {vs ws : List V}, TrAll H ds vs → TrAll H es ws → TrAll H (ds ++ es) (vs ++ ws)
  | [], es, vs, ws, h, g => by simp only [TrAll] at h; subst h; exact g
  | d :: ds, es, vs, ws, h, g => by
    simp only [TrAll] at h
    obtain ⟨v, r, rfl, h1, h2⟩ := h
    simp only [List.cons_append, TrAll]
    exact ⟨v, r ++ ws, rfl, h1, TrAll.append h2 g⟩
/-! what a tuple is -/
theorem tr_int {H : Hp} {i : Int} {v : V} (h : Tr H (.int i) v) : v = .int i := by simp only [Tr] at h; exact h
theorem tr_str {H : Hp} {x : Str} {v : V} (h : Tr H (.str x) v) : v = .str x := by simp only [Tr] at h; exact h
theorem tr_tup {H : Hp} {ds : List PyData} {v : V} (h : Tr H (.tuple ds) v) : ∃ a xs, v = .ref a ∧ H a = some (.tup xs) ∧ TrAll H ds xs := by simp only [Tr] at h; exact h
theorem tr_tup1 {H : Hp} {d1 : PyData} {v : V} (h : Tr H (.tuple [d1]) v) : ∃ a x1, v = .ref a ∧ H a = some (.tup [x1]) ∧ Tr H d1 x1 := by
  simp only [Tr, TrAll] at h
  obtain ⟨a, xs, rfl, h1, x1, _, rfl, t1, rfl⟩ := h
  exact ⟨a, x1, rfl, h1, t1⟩
theorem tr_tup2 {H : Hp} {d1 d2 : PyData} {v : V} (h : Tr H (.tuple [d1, d2]) v) : ∃ a x1 x2, v = .ref a ∧ H a = some (.tup [x1, x2]) ∧ Tr H d1 x1 ∧ Tr H d2 x2 := by
  simp only [Tr, TrAll] at h
  obtain ⟨a, xs, rfl, h1, x1, _, rfl, t1, x2, _, rfl, t2, rfl⟩ := h
  exact ⟨a, x1, x2, rfl, h1, t1, t2⟩
theorem tr_tup3 {H : Hp} {d1 d2 d3 : PyData} {v : V} (h : Tr H (.tuple [d1, d2, d3]) v) : ∃ a x1 x2 x3, v = .ref a ∧ H a = some (.tup [x1, x2, x3]) ∧ Tr H d1 x1 ∧ Tr H d2 x2 ∧ Tr H d3 x3 := by
  simp only [Tr, TrAll] at h
  obtain ⟨a, xs, rfl, h1, x1, _, rfl, t1, x2, _, rfl, t2, x3, _, rfl, t3, rfl⟩ := h
  exact ⟨a, x1, x2, x3, rfl, h1, t1, t2, t3⟩
theorem tr_tup4 {H : Hp} {d1 d2 d3 d4 : PyData} {v : V} (h : Tr H (.tuple [d1, d2, d3, d4]) v) : ∃ a x1 x2 x3 x4, v = .ref a ∧ H a = some (.tup [x1, x2, x3, x4]) ∧ Tr H d1 x1 ∧ Tr H d2 x2 ∧ Tr H d3 x3 ∧ Tr H d4 x4 := by
  simp only [Tr, TrAll] at h
  obtain ⟨a, xs, rfl, h1, x1, _, rfl, t1, x2, _, rfl, t2, x3, _, rfl, t3, x4, _, rfl, t4, rfl⟩ := h
  exact ⟨a, x1, x2, x3, x4, rfl, h1, t1, t2, t3, t4⟩
theorem mk_tup {H : Hp} {ds : List PyData} {a : Addr} {xs : List V} (h : H a = some (.tup xs)) (t : TrAll H ds xs) : Tr H (.tuple ds) (.ref a) := by simp only [Tr]; exact ⟨a, xs, rfl, h, t⟩
theorem trs_nil {H : Hp} : TrAll H [] [] := by simp only [TrAll]
theorem trs_cons {H : Hp} {d : PyData} {ds : List PyData} {v : V} {vs : List V} (h : Tr H d v) (t : TrAll H ds vs) : TrAll H (d :: ds) (v :: vs) := by simp only [TrAll]; exact ⟨v, vs, rfl, h, t⟩
theorem mk_int {H : Hp} {i : Int} : Tr H (.int i) (.int i) := by simp only [Tr]
theorem mk_str {H : Hp} {x : Str} : Tr H (.str x) (.str x) := by simp only [Tr]
theorem mk_non {H : Hp} : Tr H .none .non := by simp only [Tr]
/-! their data -/
def Ex.d : Ex → PyData
  | .num i => .int i
  | .var x => .str x
  | .plus a b => .tuple [.str "plus", a.d, b.d]
  | .minus a b => .tuple [.str "minus", a.d, b.d]
  | .times k a => .tuple [.str "times", .int k, a.d]
def Ts.d : Ts → PyData
  | .less a b => .tuple [.str "less", a.d, b.d]
  | .odd a => .tuple [.str "odd", a.d]
  | .not t => .tuple [.str "not", t.d]
mutual
def Sm.d : Sm → PyData
  | .set x e => .tuple [.str "set", .str x, e.d]
  | .half x e => .tuple [.str "half", .str x, e.d]
  | .tell e => .tuple [.str "tell", e.d]
  | .say w => .tuple [.str "say", .str w]
  | .stop w => .tuple [.str "stop", .str w]
  | .ite t y n => .tuple [.str "if", t.d, .tuple (Sm.ds y), .tuple (Sm.ds n)]
  | .rep k b => .tuple [.str "repeat", .int k, .tuple (Sm.ds b)]
def Sm.ds : List Sm → List PyData
  | [] => []
  | s :: r => s.d :: Sm.ds r
end
/-! ### what they are worth -/
def Ex.ev (env : Str → Int) : Ex → Int
  | .num i => i
  | .var x => env x
  | .plus a b => a.ev env + b.ev env
  | .minus a b => a.ev env - b.ev env
  | .times k a => k * a.ev env
def Ts.ev (env : Str → Int) : Ts → Bool
  | .less a b => decide (a.ev env < b.ev env)
  | .odd a => decide ((a.ev env) % 2 = 1)
  | .not t => !t.ev env
/-- a name that can be shown -/
def NmOk (x : Str) : Prop := PyData.strOk x = true ∧ x.length ≤ 1000
/-- factors are small -/
def Ex.ok : Ex → Prop
  | .num i => -99 ≤ i ∧ i ≤ 99
  | .var x => NmOk x
  | .plus a b => a.ok ∧ b.ok
  | .minus a b => a.ok ∧ b.ok
  | .times k a => -9 ≤ k ∧ k ≤ 9 ∧ a.ok
def Ex.deep : Ex → Nat
  | .num _ => 1
  | .var _ => 1
  | .plus a b => max a.deep b.deep + 1
  | .minus a b => max a.deep b.deep + 1
  | .times _ a => a.deep + 1
/-! ### places -/
mutual
def Sm.pl : Sm → Nat
  | .ite _ y n => 1 + (Sm.pls y + Sm.pls n)
  | .rep _ b => 1 + Sm.pls b
  | .set _ _ => 1
  | .half _ _ => 1
  | .tell _ => 1
  | .say _ => 1
  | .stop _ => 1
def Sm.pls : List Sm → Nat
  | [] => 0
  | s :: r => s.pl + Sm.pls r
end
mutual
def Sm.nest : Sm → Nat
  | .ite _ y n => max (Sm.nests y) (Sm.nests n) + 1
  | .rep _ b => Sm.nests b + 1
  | .set _ _ => 0
  | .half _ _ => 0
  | .tell _ => 0
  | .say _ => 0
  | .stop _ => 0
def Sm.nests : List Sm → Nat
  | [] => 0
  | s :: r => max s.nest (Sm.nests r)
end
def Sm.blks : Sm → List (List Sm)
  | .ite _ y n => [y, n]
  | .rep _ b => [b]
  | .set _ _ => []
  | .half _ _ => []
  | .tell _ => []
  | .say _ => []
  | .stop _ => []
theorem Sm.pl_blks : ∀ s : Sm, s.pl = 1 + ((Sm.blks s).map Sm.pls).sum
  | .ite _ y n => by simp [Sm.pl, Sm.blks]
  | .rep _ b => by simp [Sm.pl, Sm.blks]
  | .set _ _ => by simp [Sm.pl, Sm.blks]
  | .half _ _ => by simp [Sm.pl, Sm.blks]
  | .tell _ => by simp [Sm.pl, Sm.blks]
  | .say _ => by simp [Sm.pl, Sm.blks]
  | .stop _ => by simp [Sm.pl, Sm.blks]
theorem Sm.pl_pos (s : Sm) : 0 < s.pl := by rw [Sm.pl_blks]; omega
theorem Sm.pls_map : ∀ l : List Sm, Sm.pls l = (l.map Sm.pl).sum
  | [] => by simp [Sm.pls]
  | s :: r => by simp [Sm.pls, Sm.pls_map r]
theorem Sm.len_pls : ∀ l : List Sm, l.length ≤ Sm.pls l
  | [] => by simp
  | s :: r => by
    have := Sm.len_pls r
    have := s.pl_pos
    simp only [Sm.pls, List.length_cons]
    omega
theorem Sm.nest_mem : ∀ {l : List Sm} {s : Sm}, s ∈ l → s.nest ≤ Sm.nests l
  | [], s, h => by cases h
  | t :: r, s, h => by
    simp only [Sm.nests]
    rcases List.mem_cons.mp h with rfl | h
    · omega
    · have := Sm.nest_mem h
      omega
theorem Sm.pl_mem : ∀ {l : List Sm} {s : Sm}, s ∈ l → s.pl ≤ Sm.pls l
  | [], s, h => by cases h
  | t :: r, s, h => by
    simp only [Sm.pls]
    rcases List.mem_cons.mp h with rfl | h
    · omega
    · have := Sm.pl_mem h
      omega
theorem Sm.blk_nest : ∀ {s : Sm} {b : List Sm}, b ∈ s.blks → Sm.nests b + 1 ≤ s.nest
  | .ite _ y n, b, h => by
    simp only [Sm.blks, List.mem_cons, List.not_mem_nil, or_false] at h
    simp only [Sm.nest]
    rcases h with rfl | rfl <;> omega
  | .rep _ _, b, h => by
    simp only [Sm.blks, List.mem_cons, List.not_mem_nil, or_false] at h
    subst h
    simp only [Sm.nest]
    omega
  | .set _ _, b, h => by simp [Sm.blks] at h
  | .half _ _, b, h => by simp [Sm.blks] at h
  | .tell _, b, h => by simp [Sm.blks] at h
  | .say _, b, h => by simp [Sm.blks] at h
  | .stop _, b, h => by simp [Sm.blks] at h
theorem Sm.blk_pls : ∀ {s : Sm} {b : List Sm}, b ∈ s.blks → Sm.pls b + 1 ≤ s.pl
  | .ite _ y n, b, h => by
    simp only [Sm.blks, List.mem_cons, List.not_mem_nil, or_false] at h
    simp only [Sm.pl]
    rcases h with rfl | rfl <;> omega
  | .rep _ _, b, h => by
    simp only [Sm.blks, List.mem_cons, List.not_mem_nil, or_false] at h
    subst h
    simp only [Sm.pl]
    omega
  | .set _ _, b, h => by simp [Sm.blks] at h
  | .half _ _, b, h => by simp [Sm.blks] at h
  | .tell _, b, h => by simp [Sm.blks] at h
  | .say _, b, h => by simp [Sm.blks] at h
  | .stop _, b, h => by simp [Sm.blks] at h
theorem Sm.blks_le : ∀ s : Sm, s.blks.length ≤ 2
  | .ite _ y n => by simp [Sm.blks]
  | .rep _ b => by simp [Sm.blks]
  | .set _ _ => by simp [Sm.blks]
  | .half _ _ => by simp [Sm.blks]
  | .tell _ => by simp [Sm.blks]
  | .say _ => by simp [Sm.blks]
  | .stop _ => by simp [Sm.blks]
theorem Sm.ds_map : ∀ l : List Sm, Sm.ds l = l.map Sm.d
  | [] => by simp [Sm.ds]
  | s :: r => by simp [Sm.ds, Sm.ds_map r]
theorem pls_sum (b : List Sm) : (b.map fun t => (Sm.pl t : Int)).sum = (Sm.pls b : Int) := by
  rw [Sm.pls_map]
  induction b with
  | nil => rfl
  | cons t r ih =>
    rw [List.map_cons, List.map_cons, List.sum_cons, List.sum_cons, ih]
    omega
theorem flat_rep {α : Type} (x : α) : ∀ k : Nat, (List.replicate k [x]).flatten = List.replicate k x
  | 0 => rfl
  | k + 1 => by rw [List.replicate_succ, List.flatten_cons, flat_rep x k, List.replicate_succ]; rfl
theorem trs_rep {H : Hp} {d : PyData} {v : V} (h : Tr H d v) : ∀ k : Nat, TrAll H (List.replicate k d) (List.replicate k v)
  | 0 => trs_nil
  | k + 1 => trs_cons h (trs_rep h k)
def spBlocks : Sp := fun vs H Q _ => ∃ (v : V) (s : Sm), vs = [v] ∧ Tr H s.d v ∧ ∀ (p : Addr) (bs : List V) (H' : Hp), H p = none → H' p = some (.lst bs) → TrAll H' (s.blks.map fun b => .tuple (Sm.ds b)) bs → Kp [] H H' → Q (.ref p) H'
def spPlaces (n : Nat) : Sp := fun vs H Q _ => ∃ (v : V) (s : Sm), vs = [v] ∧ Tr H s.d v ∧ s.nest ≤ n ∧ s.pl ≤ 1000000 ∧ ∀ (H' : Hp), Kp [] H H' → Q (.int (s.pl : Int)) H'
def sp0 (f : Nat → Sp) : Nat → Sp
  | 0 => fun _ _ _ _ => False
  | n + 1 => f n
theorem fn_no {P : Program} {w : World} {K : PySem.W.Frag} {mg : Str → Option Value} {base : Heap} {k : Nat} {f : Addr} {fd : FuncData} {ps : List Str} {sp : Sp} (no : ∀ vs H Q E, ¬ sp vs H Q E) : FnOk P w K mg base CX0 k f fd ps sp :=
  ⟨fun vs H Q E h => absurd h (no vs H Q E), fun A outer s H args us vs Q E _ _ _ _ h => absurd h (no vs H Q E)⟩
/-! ### the names of a run -/
def EnvRel (kvs : List (Key × V)) (env : Str → Int) : Prop := ∀ y : Str, (valV kvs (Sum.inr y)).getD (.int 0) = .int (env y)
def spValue (n : Nat) : Sp := fun vs H Q _ => ∃ (v : V) (nd : Addr) (e : Ex) (kvs : List (Key × V)) (env : Str → Int), vs = [v, .ref nd] ∧ Tr H e.d v ∧ H nd = some (.dK kvs) ∧ EnvRel kvs env ∧ e.ok ∧ e.deep ≤ n ∧ Q (.int (e.ev env)) H
/-- expressions at most three deep -/
def Ts.ok : Ts → Prop
  | .less a b => (a.ok ∧ a.deep ≤ 3) ∧ b.ok ∧ b.deep ≤ 3
  | .odd a => a.ok ∧ a.deep ≤ 3
  | .not t => t.ok
def Ts.nots : Ts → Nat
  | .less _ _ => 0
  | .odd _ => 0
  | .not t => t.nots + 1
def spTrue (n : Nat) : Sp := fun vs H Q _ => ∃ (v : V) (nd : Addr) (t : Ts) (kvs : List (Key × V)) (env : Str → Int), vs = [v, .ref nd] ∧ Tr H t.d v ∧ H nd = some (.dK kvs) ∧ EnvRel kvs env ∧ t.ok ∧ t.nots ≤ n ∧ Q (.bl (t.ev env)) H
def spTrue' : Nat → Sp
  | 0 => fun _ _ _ _ => False
  | n + 1 => spTrue n
theorem Ex.deep_pos : ∀ e : Ex, 0 < e.deep
  | .num _ => Nat.one_pos
  | .var _ => Nat.one_pos
  | .plus _ _ => Nat.succ_pos _
  | .minus _ _ => Nat.succ_pos _
  | .times _ _ => Nat.succ_pos _
theorem dec_int (a b : Int) : decide (V.int a = V.int b) = decide (a = b) := decide_eq_decide.mpr ⟨fun h => V.int.inj h, fun h => by rw [h]⟩
theorem fmod2 (v : Int) : v.fmod 2 = v % 2 := Int.fmod_eq_emod_of_nonneg v (by decide)
theorem fdiv2 (v : Int) : v.fdiv 2 = v / 2 := Int.fdiv_eq_ediv_of_nonneg v (by decide)
end EH
namespace EH
open PySem L2
/-! ### runs as plain functions -/
structure Cs where
  env : Str → Int
  said : List Key
  turns : List Int
def setE (env : Str → Int) (x : Str) (v : Int) : Str → Int := fun y => if y = x then v else env y
section
variable (dec : Nat → Int → Int → Int) (ways : Int → Option Int)
def halv (s : Cs) (v p : Int) : Int × Cs :=
  if v % 2 = 0 then (v / 2, s) else
    match ways p with
    | some c => (v / 2 + c, s)
    | none => (v / 2 + dec s.turns.length v p, { s with turns := s.turns ++ [dec s.turns.length v p] })
def iterN : Nat → (Cs → Option Str × Cs) → Cs → Option Str × Cs
  | 0, _, s => (none, s)
  | n + 1, f, s => match f s with
    | (some c, s') => (some c, s')
    | (none, s') => iterN n f s'
mutual
def Sm.run : Sm → Int → Cs → Option Str × Cs
  | .set x e, _, s => (none, { s with env := setE s.env x (e.ev s.env) })
  | .half x e, p, s => (none, { (halv dec ways s (e.ev s.env) p).2 with env := setE s.env x (halv dec ways s (e.ev s.env) p).1 })
  | .tell e, _, s => (none, { s with said := s.said ++ [Sum.inl (e.ev s.env)] })
  | .say c, _, s => (none, { s with said := s.said ++ [Sum.inr c] })
  | .stop c, _, s => (some c, s)
  | .ite t y n, p, s => if t.ev s.env then Sm.runs y (p + 1) s else Sm.runs n (p + 1 + (Sm.pls y : Int)) s
  | .rep k b, p, s => iterN k (fun s => Sm.runs b (p + 1) s) s
def Sm.runs : List Sm → Int → Cs → Option Str × Cs
  | [], _, s => (none, s)
  | t :: r, p, s => match t.run p s with
    | (some c, s') => (some c, s')
    | (none, s') => Sm.runs r (p + (t.pl : Int)) s'
end
end
mutual
def Sm.wt : Sm → Nat
  | .ite _ y n => 1 + (Sm.wts y + Sm.wts n)
  | .rep k b => 1 + k * Sm.wts b
  | .set _ _ => 1
  | .half _ _ => 1
  | .tell _ => 1
  | .say _ => 1
  | .stop _ => 1
def Sm.wts : List Sm → Nat
  | [] => 0
  | s :: r => s.wt + Sm.wts r
end
mutual
def Sm.ok : Sm → Prop
  | .ite t y n => t.ok ∧ t.nots ≤ 2 ∧ Sm.oks y ∧ Sm.oks n
  | .rep k b => k ≤ 8 ∧ Sm.oks b
  | .set x e => (e.ok ∧ e.deep ≤ 3) ∧ NmOk x
  | .half x e => (e.ok ∧ e.deep ≤ 3) ∧ NmOk x
  | .tell e => e.ok ∧ e.deep ≤ 3
  | .say c => PyData.strOk c = true ∧ c.length ≤ 20
  | .stop c => PyData.strOk c = true ∧ c.length ≤ 20
def Sm.oks : List Sm → Prop
  | [] => True
  | s :: r => s.ok ∧ Sm.oks r
end
/-! ### the object of a run -/
structure Cad where
  x : Addr
  dx : Addr
  nd : Addr
  sd : Addr
  td : Addr
  cd : Addr
  wd : Addr
def cfs (a : Cad) (r : V) : List (Str × V) := [("names", .ref a.nd), ("said", .ref a.sd), ("turns", .ref a.td), ("choices", .ref a.cd), ("ways", .ref a.wd), ("rule", r)]
def WaysRel (kvs : List (Key × V)) (ways : Int → Option Int) : Prop := ∀ p : Int, valV kvs (Sum.inl p) = (ways p).map V.int
structure CAt (C : Addr) (H : Hp) (a : Cad) (r : V) (chs : List Int) (wk : List (Key × V)) (n : Nat) (s : Cs) : Prop where
  ob : H a.x = some (.ins C a.dx (cfs a r))
  nm : ∃ kvs, H a.nd = some (.dK kvs) ∧ EnvRel kvs s.env ∧ kvs.length ≤ n + 1
  sa : H a.sd = some (.lst (s.said.map kV))
  tu : H a.td = some (.lst (s.turns.map V.int))
  ch : H a.cd = some (.tup (chs.map V.int))
  wy : H a.wd = some (.dK wk)
  ls : s.said.length ≤ n
  lt : s.turns.length ≤ n
  ne1 : a.nd ≠ a.wd
  ne2 : a.sd ≠ a.td
  lc : chs.length ≤ 1000000
def wV : Option Str → V
  | none => .non
  | some c => .str c
def decC (chs : List Int) : Nat → Int → Int → Int := fun k _ _ => chs.getD k 0
theorem CAt.mono {C : Addr} {H : Hp} {a : Cad} {r : V} {chs : List Int} {wk : List (Key × V)} {n m : Nat} {s : Cs} (c : CAt C H a r chs wk n s) (h : n ≤ m) : CAt C H a r chs wk m s := by
  obtain ⟨kvs, h1, h2, h3⟩ := c.nm
  have := c.ls
  have := c.lt
  exact ⟨c.ob, ⟨kvs, h1, h2, by omega⟩, c.sa, c.tu, c.ch, c.wy, by omega, by omega, c.ne1, c.ne2, c.lc⟩
theorem CAt.kp0 {C : Addr} {H H' : Hp} {a : Cad} {r : V} {chs : List Int} {wk : List (Key × V)} {n : Nat} {s : Cs} (c : CAt C H a r chs wk n s) (k : Kp [] H H') : CAt C H' a r chs wk n s := by
  obtain ⟨kvs, h1, h2, h3⟩ := c.nm
  exact ⟨k.at c.ob, ⟨kvs, k.at h1, h2, h3⟩, k.at c.sa, k.at c.tu, k.tup _ _ c.ch, k.at c.wy, c.ls, c.lt, c.ne1, c.ne2, c.lc⟩
theorem EnvRel.put {kvs : List (Key × V)} {env : Str → Int} (h : EnvRel kvs env) (x : Str) (v : Int) : EnvRel (putK kvs (Sum.inr x) (.int v)) (setE env x v) := by
  intro y
  rw [valV_put]
  unfold setE
  by_cases e : y = x
  · subst e
    rw [if_pos rfl, if_pos rfl]
    rfl
  · rw [if_neg e, if_neg (fun z => e (Sum.inr.inj z))]
    exact h y
/-- the name x stands for v behind a store -/
theorem CAt.put {C : Addr} {H H1 : Hp} {a : Cad} {r : V} {chs : List Int} {wk : List (Key × V)} {n : Nat} {s : Cs} {kvs : List (Key × V)} {x : Str} {v : Int} (c : CAt C H a r chs wk n s) (hk : H a.nd = some (.dK kvs)) (he : EnvRel kvs s.env)
    (hl : kvs.length ≤ n + 1) (e : H1 = upd H a.nd (.dK (putK kvs (Sum.inr x) (.int v)))) : CAt C H1 a r chs wk (n + 1) { s with env := setE s.env x v } ∧ Kp [a.nd, a.sd, a.td] H H1 := by
  have k : Kp [a.nd] H H1 := by rw [e]; exact Kp.put hk (fun _ z => by cases z)
  have l2 := length_putK kvs (Sum.inr x : Key) (V.int v)
  have := c.ls
  have := c.lt
  refine ⟨⟨k.keep _ _ c.ob (EH.ne1 (ne_of c.ob hk (fun z => by cases z))), ⟨_, by rw [e]; exact upd_same, he.put x v, by omega⟩, k.keep _ _ c.sa (EH.ne1 (ne_of c.sa hk (fun z => by cases z))), k.keep _ _ c.tu (EH.ne1 (ne_of c.tu hk (fun z => by cases z))),
    k.tup _ _ c.ch, k.keep _ _ c.wy (EH.ne1 c.ne1.symm), by show s.said.length ≤ _; omega, by show s.turns.length ≤ _; omega, c.ne1, c.ne2, c.lc⟩, k.sub (by simp)⟩
theorem CAt.say {C : Addr} {H H1 : Hp} {a : Cad} {r : V} {chs : List Int} {wk : List (Key × V)} {n : Nat} {s : Cs} {v : Key} (c : CAt C H a r chs wk n s) (h1 : H1 a.sd = some (.lst (s.said.map kV ++ [kV v]))) (k : Kp [a.sd] H H1) :
    CAt C H1 a r chs wk (n + 1) { s with said := s.said ++ [v] } ∧ Kp [a.nd, a.sd, a.td] H H1 := by
  obtain ⟨kvs, g1, g2, g3⟩ := c.nm
  have := c.ls
  have := c.lt
  refine ⟨⟨k.keep _ _ c.ob (EH.ne1 (ne_of c.ob c.sa (fun z => by cases z))), ⟨kvs, k.keep _ _ g1 (EH.ne1 (ne_of g1 c.sa (fun z => by cases z))), g2, by omega⟩, by rw [h1, List.map_append]; rfl, k.keep _ _ c.tu (EH.ne1 c.ne2.symm),
    k.tup _ _ c.ch, k.keep _ _ c.wy (EH.ne1 (ne_of c.wy c.sa (fun z => by cases z))), by show (s.said ++ [v]).length ≤ _; rw [List.length_append, List.length_singleton]; omega, by show s.turns.length ≤ _; omega, c.ne1, c.ne2, c.lc⟩, k.sub (by simp)⟩
theorem CAt.turn {C : Addr} {H H1 : Hp} {a : Cad} {r : V} {chs : List Int} {wk : List (Key × V)} {n : Nat} {s : Cs} {v : Int} (c : CAt C H a r chs wk n s) (h1 : H1 a.td = some (.lst (s.turns.map V.int ++ [.int v]))) (k : Kp [a.td] H H1) :
    CAt C H1 a r chs wk (n + 1) { s with turns := s.turns ++ [v] } ∧ Kp [a.nd, a.sd, a.td] H H1 := by
  obtain ⟨kvs, g1, g2, g3⟩ := c.nm
  have := c.ls
  have := c.lt
  refine ⟨⟨k.keep _ _ c.ob (EH.ne1 (ne_of c.ob c.tu (fun z => by cases z))), ⟨kvs, k.keep _ _ g1 (EH.ne1 (ne_of g1 c.tu (fun z => by cases z))), g2, by omega⟩, k.keep _ _ c.sa (EH.ne1 c.ne2), by rw [h1, List.map_append]; rfl,
    k.tup _ _ c.ch, k.keep _ _ c.wy (EH.ne1 (ne_of c.wy c.tu (fun z => by cases z))), by show s.said.length ≤ _; omega, by show (s.turns ++ [v]).length ≤ _; rw [List.length_append, List.length_singleton]; omega, c.ne1, c.ne2, c.lc⟩, k.sub (by simp)⟩
/-! ### the promises -/
def spChoice (C : Addr) : Sp := fun vs H Q _ => ∃ (a : Cad) (r : V) (chs : List Int) (wk : List (Key × V)) (n : Nat) (s : Cs) (v p : Int), vs = [.ref a.x, .int v, .int p] ∧ CAt C H a r chs wk n s ∧ r = .non ∧ n ≤ 1000000 ∧ Q (.int (decC chs s.turns.length v p)) H
def spHalved (C : Addr) : Sp := fun vs H Q _ => ∃ (a : Cad) (r : V) (chs : List Int) (wk : List (Key × V)) (ways : Int → Option Int) (n : Nat) (s : Cs) (v p : Int), vs = [.ref a.x, .int v, .int p] ∧ CAt C H a r chs wk n s ∧ r = .non ∧ WaysRel wk ways ∧ n < 1000000 ∧
  ∀ H', CAt C H' a r chs wk (n + 1) (halv (decC chs) ways s v p).2 → Kp [a.nd, a.sd, a.td] H H' → Q (.int (halv (decC chs) ways s v p).1) H'
def Sm.plain : Sm → Prop
  | .ite _ _ _ => False
  | .rep _ _ => False
  | .set _ _ => True
  | .half _ _ => True
  | .tell _ => True
  | .say _ => True
  | .stop _ => True
def spDo (C : Addr) : Sp := fun vs H Q _ => ∃ (a : Cad) (r : V) (chs : List Int) (wk : List (Key × V)) (ways : Int → Option Int) (n : Nat) (s : Cs) (v : V) (st : Sm) (p : Int), vs = [.ref a.x, v, .int p] ∧ CAt C H a r chs wk n s ∧ r = .non ∧ WaysRel wk ways ∧ n + 2 ≤ 1000000 ∧
  Tr H st.d v ∧ st.plain ∧ st.ok ∧ ∀ H', CAt C H' a r chs wk (n + 2) (st.run (decC chs) ways p s).2 → Kp [a.nd, a.sd, a.td] H H' → Q (wV (st.run (decC chs) ways p s).1) H'
/-! ### the parts of a statement with blocks -/
def partsOf (env : Str → Int) (p : Int) : Sm → List (List Sm × Int)
  | .ite t y n => if t.ev env then [(y, p + 1)] else [(n, p + 1 + (Sm.pls y : Int))]
  | .rep k b => List.replicate k (b, p + 1)
  | _ => []
def partD (q : List Sm × Int) : PyData := .tuple [.tuple (Sm.ds q.1), .int q.2]
def spParts (C : Addr) (m : Nat) : Sp := fun vs H Q _ => ∃ (a : Cad) (r : V) (chs : List Int) (wk : List (Key × V)) (n : Nat) (s : Cs) (v : V) (st : Sm) (p : Int), vs = [.ref a.x, v, .int p] ∧ CAt C H a r chs wk n s ∧
  Tr H st.d v ∧ ¬ st.plain ∧ st.ok ∧ st.pl ≤ 1000000 ∧ st.nest ≤ m ∧ ∀ (l : Addr) (ts : List V) (H' : Hp), H l = none → H' l = some (.lst ts) → TrAll H' ((partsOf s.env p st).map partD) ts → Kp [] H H' → Q (.ref l) H'
section
variable (dec : Nat → Int → Int → Int) (ways : Int → Option Int)
def foldP : List (List Sm × Int) → Option Str × Cs → Option Str × Cs
  | [], r => r
  | q :: l, (none, s) => foldP l (Sm.runs dec ways q.1 q.2 s)
  | q :: l, (some c, s) => foldP l (some c, s)
theorem foldP_some (c : Str) (s : Cs) : ∀ l, foldP dec ways l (some c, s) = (some c, s)
  | [] => rfl
  | q :: l => foldP_some c s l
theorem foldP_rep (b : List Sm) (p : Int) : ∀ (k : Nat) (s : Cs), foldP dec ways (List.replicate k (b, p)) (none, s) = iterN k (fun s => Sm.runs dec ways b p s) s
  | 0, s => rfl
  | k + 1, s => by
    show foldP dec ways (List.replicate k (b, p)) (Sm.runs dec ways b p s) = _
    rw [iterN]
    cases h : Sm.runs dec ways b p s with
    | mk c s' =>
      cases c with
      | none =>
        dsimp only
        exact foldP_rep b p k s'
      | some c => exact foldP_some dec ways c s' _
theorem run_parts : ∀ {st : Sm} (h : ¬ st.plain) (p : Int) (s : Cs), st.run dec ways p s = foldP dec ways (partsOf s.env p st) (none, s)
  | .ite t y n, h, p, s => by
    simp only [Sm.run, partsOf]
    split <;> rfl
  | .rep k b, h, p, s => by
    simp only [Sm.run, partsOf]
    exact (foldP_rep dec ways b (p + 1) k s).symm
  | .set _ _, h, _, _ => absurd trivial h
  | .half _ _, h, _, _ => absurd trivial h
  | .tell _, h, _, _ => absurd trivial h
  | .say _, h, _, _ => absurd trivial h
  | .stop _, h, _, _ => absurd trivial h
end
theorem parts_mem {env : Str → Int} {p : Int} {q : List Sm × Int} : ∀ {st : Sm}, q ∈ partsOf env p st → q.1 ∈ st.blks
  | .ite t y n, h => by
    simp only [partsOf] at h
    split at h
    · simp at h; subst h; simp [Sm.blks]
    · simp at h; subst h; simp [Sm.blks]
  | .rep k b, h => by
    simp only [partsOf] at h
    have := List.eq_of_mem_replicate h
    subst this
    simp [Sm.blks]
  | .set _ _, h => by simp [partsOf] at h
  | .half _ _, h => by simp [partsOf] at h
  | .tell _, h => by simp [partsOf] at h
  | .say _, h => by simp [partsOf] at h
  | .stop _, h => by simp [partsOf] at h
theorem parts_wt {env : Str → Int} {p : Int} : ∀ {st : Sm}, (((partsOf env p st).map fun q => Sm.wts q.1).sum) + 1 ≤ st.wt
  | .ite t y n => by
    simp only [partsOf, Sm.wt]
    split <;> simp <;> omega
  | .rep k b => by
    simp only [partsOf, Sm.wt, List.map_replicate, List.sum_replicate_nat]
    omega
  | .set _ _ => by simp [partsOf, Sm.wt]
  | .half _ _ => by simp [partsOf, Sm.wt]
  | .tell _ => by simp [partsOf, Sm.wt]
  | .say _ => by simp [partsOf, Sm.wt]
  | .stop _ => by simp [partsOf, Sm.wt]
theorem parts_len {env : Str → Int} {p : Int} : ∀ {st : Sm}, st.ok → (partsOf env p st).length ≤ 1000
  | .ite t y n, h => by
    simp only [partsOf]
    split <;> simp
  | .rep k b, h => by
    simp only [partsOf, List.length_replicate]
    exact Nat.le_trans (show k ≤ 8 ∧ Sm.oks b by simpa only [Sm.ok] using h).1 (by decide)
  | .set _ _, h => by simp [partsOf]
  | .half _ _, h => by simp [partsOf]
  | .tell _, h => by simp [partsOf]
  | .say _, h => by simp [partsOf]
  | .stop _, h => by simp [partsOf]
theorem oks_mem : ∀ {l : List Sm} {s : Sm}, Sm.oks l → s ∈ l → s.ok
  | [], s, _, h => by cases h
  | t :: r, s, o, h => by
    simp only [Sm.oks] at o
    rcases List.mem_cons.mp h with rfl | h
    · exact o.1
    · exact oks_mem o.2 h
theorem ok_blk : ∀ {st : Sm} {b : List Sm}, st.ok → b ∈ st.blks → Sm.oks b
  | .ite t y n, b, o, h => by
    simp only [Sm.ok] at o
    simp only [Sm.blks, List.mem_cons, List.not_mem_nil, or_false] at h
    rcases h with rfl | rfl
    · exact o.2.2.1
    · exact o.2.2.2
  | .rep k b', b, o, h => by
    simp only [Sm.ok] at o
    simp only [Sm.blks, List.mem_cons, List.not_mem_nil, or_false] at h
    subst h
    exact o.2
  | .set _ _, b, o, h => by simp [Sm.blks] at h
  | .half _ _, b, o, h => by simp [Sm.blks] at h
  | .tell _, b, o, h => by simp [Sm.blks] at h
  | .say _, b, o, h => by simp [Sm.blks] at h
  | .stop _, b, o, h => by simp [Sm.blks] at h
def Sm.kw : Sm → Str
  | .ite _ _ _ => "if"
  | .rep _ _ => "repeat"
  | .set _ _ => "set"
  | .half _ _ => "half"
  | .tell _ => "tell"
  | .say _ => "say"
  | .stop _ => "stop"
theorem Sm.head {H : Hp} {v : V} : ∀ {t : Sm}, Tr H t.d v → ∃ u rest, v = .ref u ∧ H u = some (.tup (.str t.kw :: rest))
  | .ite _ _ _, h => by obtain ⟨u, x1, x2, x3, x4, rfl, h1, t1, _⟩ := tr_tup4 h; cases tr_str t1; exact ⟨u, _, rfl, h1⟩
  | .rep _ _, h => by obtain ⟨u, x1, x2, x3, rfl, h1, t1, _⟩ := tr_tup3 h; cases tr_str t1; exact ⟨u, _, rfl, h1⟩
  | .set _ _, h => by obtain ⟨u, x1, x2, x3, rfl, h1, t1, _⟩ := tr_tup3 h; cases tr_str t1; exact ⟨u, _, rfl, h1⟩
  | .half _ _, h => by obtain ⟨u, x1, x2, x3, rfl, h1, t1, _⟩ := tr_tup3 h; cases tr_str t1; exact ⟨u, _, rfl, h1⟩
  | .tell _, h => by obtain ⟨u, x1, x2, rfl, h1, t1, _⟩ := tr_tup2 h; cases tr_str t1; exact ⟨u, _, rfl, h1⟩
  | .say _, h => by obtain ⟨u, x1, x2, rfl, h1, t1, _⟩ := tr_tup2 h; cases tr_str t1; exact ⟨u, _, rfl, h1⟩
  | .stop _, h => by obtain ⟨u, x1, x2, rfl, h1, t1, _⟩ := tr_tup2 h; cases tr_str t1; exact ⟨u, _, rfl, h1⟩
theorem Sm.kw_in (t : Sm) : (inV (.str t.kw) [.str "if", .str "repeat"] = true ∧ ¬ t.plain) ∨ (inV (.str t.kw) [.str "if", .str "repeat"] = false ∧ t.plain) := by
  cases t with
  | ite _ _ _ => exact .inl ⟨(by decide +kernel : inV (.str "if") [.str "if", .str "repeat"] = true), id⟩
  | rep _ _ => exact .inl ⟨(by decide +kernel : inV (.str "repeat") [.str "if", .str "repeat"] = true), id⟩
  | set _ _ => exact .inr ⟨(by decide +kernel : inV (.str "set") [.str "if", .str "repeat"] = false), trivial⟩
  | half _ _ => exact .inr ⟨(by decide +kernel : inV (.str "half") [.str "if", .str "repeat"] = false), trivial⟩
  | tell _ => exact .inr ⟨(by decide +kernel : inV (.str "tell") [.str "if", .str "repeat"] = false), trivial⟩
  | say _ => exact .inr ⟨(by decide +kernel : inV (.str "say") [.str "if", .str "repeat"] = false), trivial⟩
  | stop _ => exact .inr ⟨(by decide +kernel : inV (.str "stop") [.str "if", .str "repeat"] = false), trivial⟩
theorem Sm.wt_pos : ∀ t : Sm, 1 ≤ t.wt
  | .ite _ _ _ => by simp only [Sm.wt]; omega
  | .rep _ _ => by simp only [Sm.wt]; omega
  | .set _ _ => by simp [Sm.wt]
  | .half _ _ => by simp [Sm.wt]
  | .tell _ => by simp [Sm.wt]
  | .say _ => by simp [Sm.wt]
  | .stop _ => by simp [Sm.wt]
theorem Sm.nests_pos {t : Sm} (h : ¬ t.plain) : 1 ≤ t.nest := by
  cases t with
  | ite _ _ _ => simp only [Sm.nest]; omega
  | rep _ _ => simp only [Sm.nest]; omega
  | set _ _ => exact absurd trivial h
  | half _ _ => exact absurd trivial h
  | tell _ => exact absurd trivial h
  | say _ => exact absurd trivial h
  | stop _ => exact absurd trivial h
def wsum (l : List (List Sm × Int)) : Nat := (l.map fun q => Sm.wts q.1).sum
def spGo (C : Addr) (m : Nat) : Sp := fun vs H Q _ => ∃ (a : Cad) (r : V) (chs : List Int) (wk : List (Key × V)) (ways : Int → Option Int) (n : Nat) (s : Cs) (v : V) (b : List Sm) (p : Int), vs = [.ref a.x, v, .int p] ∧ CAt C H a r chs wk n s ∧ r = .non ∧ WaysRel wk ways ∧ n + 2 * Sm.wts b ≤ 1000000 ∧
  Tr H (.tuple (Sm.ds b)) v ∧ Sm.oks b ∧ Sm.pls b ≤ 1000000 ∧ Sm.nests b ≤ m ∧ ∀ H', CAt C H' a r chs wk (n + 2 * Sm.wts b) (Sm.runs (decC chs) ways b p s).2 → Kp [a.nd, a.sd, a.td] H H' → Q (wV (Sm.runs (decC chs) ways b p s).1) H'
/-! ### what a run tells -/
def kD : Key → PyData
  | .inl i => .int i
  | .inr x => .str x
def wD : Option Str → PyData
  | none => .none
  | some c => .str c
theorem tr_kD {H : Hp} : ∀ k : Key, Tr H (kD k) (kV k)
  | .inl _ => mk_int
  | .inr _ => mk_str
theorem trs_kD {H : Hp} : ∀ ks : List Key, TrAll H (ks.map kD) (ks.map kV)
  | [] => trs_nil
  | k :: r => trs_cons (tr_kD k) (trs_kD r)
theorem trs_int {H : Hp} : ∀ ks : List Int, TrAll H (ks.map PyData.int) (ks.map V.int)
  | [] => trs_nil
  | _ :: r => trs_cons mk_int (trs_int r)
theorem tr_wD {H : Hp} : ∀ o : Option Str, Tr H (wD o) (wV o)
  | none => mk_non
  | some _ => mk_str
def env0 (n : Int) : Str → Int := fun y => if y = "n" then n else 0
def cs0 (n : Int) : Cs := ⟨env0 n, [], []⟩
/-- items, word, turns -/
def resD (r : Option Str × Cs) : PyData := .tuple [.tuple (r.2.said.map kD), wD r.1, .tuple (r.2.turns.map PyData.int)]
def spInit (C : Addr) : Sp := fun vs H Q _ => ∃ (x dx cd wd : Addr) (num : Int) (r : V) (chs : List Int) (wk : List (Key × V)), vs = [.ref x, .int num, .ref cd, .ref wd, r] ∧ H x = some (.ins C dx []) ∧ H cd = some (.tup (chs.map V.int)) ∧ H wd = some (.dK wk) ∧ chs.length ≤ 1000000 ∧
  ∀ (a : Cad) (H' : Hp), a.x = x → CAt C H' a r chs wk 0 (cs0 num) → Kp [x] H H' → (∀ b ∈ [a.nd, a.sd, a.td], H b = none) → Q .non H'
def spCourseOf (m : Nat) : Sp := fun vs H Q _ => ∃ (v : V) (b : List Sm) (num : Int) (cd wd : Addr) (chs : List Int) (wk : List (Key × V)) (ways : Int → Option Int), vs = [v, .int num, .ref cd, .ref wd, .non] ∧ Tr H (.tuple (Sm.ds b)) v ∧ H cd = some (.tup (chs.map V.int)) ∧
  H wd = some (.dK wk) ∧ WaysRel wk ways ∧ chs.length ≤ 1000000 ∧ Sm.oks b ∧ Sm.wts b ≤ 100000 ∧ Sm.pls b ≤ 1000000 ∧ Sm.nests b ≤ m ∧ ∀ (t : V) (H' : Hp), Tr H' (resD (Sm.runs (decC chs) ways b 0 (cs0 num))) t → Kp [] H H' → Q t H'
def spRunOf (m : Nat) : Sp := fun vs H Q _ => ∃ (v : V) (b : List Sm) (num : Int) (cd wd : Addr) (chs : List Int) (wk : List (Key × V)) (ways : Int → Option Int), vs = [v, .int num, .ref cd, .ref wd] ∧ Tr H (.tuple (Sm.ds b)) v ∧ H cd = some (.tup (chs.map V.int)) ∧
  H wd = some (.dK wk) ∧ WaysRel wk ways ∧ chs.length ≤ 1000000 ∧ Sm.oks b ∧ Sm.wts b ≤ 100000 ∧ Sm.pls b ≤ 1000000 ∧ Sm.nests b ≤ m ∧ ∀ (t : V) (H' : Hp), Tr H' (resD (Sm.runs (decC chs) ways b 0 (cs0 num))) t → Kp [] H H' → Q t H'
def noWay : Int → Option Int := fun _ => none
theorem noWay_rel : WaysRel [] noWay := fun _ => rfl
def spRun (m : Nat) : Sp := fun vs H Q _ => ∃ (v : V) (b : List Sm) (num : Int) (cd : Addr) (chs : List Int), vs = [v, .int num, .ref cd] ∧ Tr H (.tuple (Sm.ds b)) v ∧ H cd = some (.tup (chs.map V.int)) ∧
  chs.length ≤ 1000000 ∧ Sm.oks b ∧ Sm.wts b ≤ 100000 ∧ Sm.pls b ≤ 1000000 ∧ Sm.nests b ≤ m ∧ ∀ (t : V) (H' : Hp), Tr H' (resD (Sm.runs (decC chs) noWay b 0 (cs0 num))) t → Kp [] H H' → Q t H'
end EH
namespace EH
open PySem PySem.Spec PyProof.Rows L2 StX
/-! ### a new instance of a class that has no __init__ of its own -/
structure Mk0 (K : PySem.W.Frag) (C : Addr) : Prop where
  makes : PySem.W.makesIn K C = true
  init : PySem.W.findIn K (.ref C) "__init__" = some (some (.builtin "object.__init__"))
  kp : PySem.W.keepIn K (.ref C) = true
def tMk0 (C : Addr) : TE := fun _ H Q => ∀ x dx H2, H x = none → H dx = none → dx ≠ x → H2 x = some (.ins C dx []) → Kp [] H H2 → Q (.ref x) H2
section
variable {X : Cx} {C : Addr} {x : Str} {p pos : Pos}
theorem pe_mk0 (M : Mk0 X.K C) (hg : Gl X x) (hm : X.mg x = some (.ref C)) (hdb : (x == ("__debug__" : Str)) = false := by decide) : PE X (.Call (.Name x p) [] [] pos) (tMk0 C) := by
  refine ⟨fun pins s σ H Q I h => ?_⟩
  refine wpAny_Call_Name_kw (ld_glob I hg hm (PySem.W.callWith_K0 I.kIn M.kp ?_) hdb)
  have new1 : H s.heap.objs.size = none := I.hok.fresh (Nat.le_refl _)
  have new2 : H (s.heap.objs.size + 1) = none := I.hok.fresh (Nat.le_succ _)
  have ne : s.heap.objs.size ≠ s.heap.objs.size + 1 := Nat.ne_of_lt (Nat.lt_succ_self _)
  have I2 := Inv.made (C := C) I
  have k2 : Kp [] H (upd (upd H s.heap.objs.size (.own (s.heap.objs.size + 1))) (s.heap.objs.size + 1) (.ins C s.heap.objs.size [])) := (Kp.new new1).step0 (Kp.new (by rw [upd_ne ne.symm]; exact new2))
  have fin := h (s.heap.objs.size + 1) s.heap.objs.size _ new2 new1 ne upd_same k2
  have top : PySem.W.Looks (model X.prog X.w) ((s.heap.push PySem.W.emptyDict).push (PySem.W.instObj C s.heap.objs.size)) (isInstance (.ref (s.heap.objs.size + 1)) (.type "object")) true := by
    have at1 : ((s.heap.push PySem.W.emptyDict).push (PySem.W.instObj C s.heap.objs.size)).get? (s.heap.objs.size + 1) = some (PySem.W.instObj C s.heap.objs.size) := by
      have := Heap.get?_push_size (o := PySem.W.instObj C s.heap.objs.size) (s.heap.push PySem.W.emptyDict) rfl
      rw [Heap.size_push] at this
      exact this
    have ty : PySem.W.Looks (model X.prog X.w) ((s.heap.push PySem.W.emptyDict).push (PySem.W.instObj C s.heap.objs.size)) (typeOf (.ref (s.heap.objs.size + 1))) (.ref C) := (PySem.W.Looks.ld at1).andThen .now
    exact ty.andThen ((PySem.W.makes_of (M := model X.prog X.w) I.kIn M.makes).top.keeps fun b o e => Heap.get?_push_of_some _ (Heap.get?_push_of_some _ e))
  refine wpAny_call (make_map0 I.kIn M.makes M.init (fun self => PySem.W.Looks.of_pure (PySem.W.oi_bind self)) ?_)
  refine codeAny_call_builtin PySem.W.oi_plain PySem.W.entry_oi ?_
  refine @PySem.W.check_slot (model X.prog X.w) _ _ _ "object.__init__" "object" "__init__" (.ref (s.heap.objs.size + 1)) [] [] _ PySem.W.oi_kind PySem.W.oi_split top (PySem.W.oi_args _) ?_
  rw [PySem.W.oi_run]
  exact wpAny_pure ⟨rfl, .ref _, _, I2, rfl, fin⟩
end
/-! ### rules as plain data -/
inductive Rul where
  | down | up | even | odd | zero | away | blw (n : Int) | places (ps : List Int) | turned (r : Rul) | join (w : Str) (a b : Rul)
def b01 (p : Prop) [Decidable p] : Int := if p then 1 else 0
def Rul.go : Rul → Int → Int → Int
  | .down, _, _ => 0
  | .up, _, _ => 1
  | .even, v, _ => b01 (v % 4 = 3)
  | .odd, v, _ => b01 (v % 4 = 1)
  | .zero, v, _ => b01 (v < 0)
  | .away, v, _ => b01 (v > 0)
  | .blw n, v, _ => b01 (v < n)
  | .places ps, _, p => b01 (p ∈ ps)
  | .turned r, v, p => 1 - r.go v p
  | .join w a b, v, p => if w = "and" then b01 (a.go v p + b.go v p = 2) else if w = "or" then b01 (a.go v p + b.go v p > 0) else b01 (a.go v p + b.go v p = 1)
theorem b01_01 (p : Prop) [Decidable p] : b01 p = 0 ∨ b01 p = 1 := by unfold b01; split <;> simp
theorem Rul.go_01 : ∀ (r : Rul) (v p : Int), r.go v p = 0 ∨ r.go v p = 1
  | .down, _, _ => .inl rfl
  | .up, _, _ => .inr rfl
  | .even, v, _ => b01_01 _
  | .odd, v, _ => b01_01 _
  | .zero, v, _ => b01_01 _
  | .away, v, _ => b01_01 _
  | .blw n, v, _ => b01_01 _
  | .places ps, _, p => b01_01 _
  | .turned r, v, p => by
    have := Rul.go_01 r v p
    show 1 - r.go v p = 0 ∨ 1 - r.go v p = 1
    omega
  | .join w a b, v, p => by
    simp only [Rul.go]
    split
    · exact b01_01 _
    · split <;> exact b01_01 _
def Rul.dp : Rul → Nat
  | .turned r => r.dp + 1
  | .join _ a b => max a.dp b.dp + 1
  | _ => 1
theorem Rul.dp_pos : ∀ r : Rul, 1 ≤ r.dp
  | .down => Nat.le_refl _
  | .up => Nat.le_refl _
  | .even => Nat.le_refl _
  | .odd => Nat.le_refl _
  | .zero => Nat.le_refl _
  | .away => Nat.le_refl _
  | .blw _ => Nat.le_refl _
  | .places _ => Nat.le_refl _
  | .turned r => by simp only [Rul.dp]; omega
  | .join _ a b => by simp only [Rul.dp]; omega
/-- the classes of rules; two of them may be lacking -/
structure RC where
  rule : Addr
  down : Addr
  up : Addr
  even : Addr
  odd : Addr
  zero : Addr
  away : Addr
  turned : Addr
  joined : Addr
  below : Option Addr
  places : Option Addr
/-- the rule at an address -/
def RAt (c : RC) (H : Hp) : Rul → Addr → Prop
  | .down, a => ∃ C dx, (C = c.down ∨ C = c.rule) ∧ H a = some (.ins C dx [])
  | .up, a => ∃ dx, H a = some (.ins c.up dx [])
  | .even, a => ∃ dx, H a = some (.ins c.even dx [])
  | .odd, a => ∃ dx, H a = some (.ins c.odd dx [])
  | .zero, a => ∃ dx, H a = some (.ins c.zero dx [])
  | .away, a => ∃ dx, H a = some (.ins c.away dx [])
  | .blw n, a => ∃ C dx, c.below = some C ∧ H a = some (.ins C dx [("number", .int n)])
  | .places ps, a => ∃ C dx t, c.places = some C ∧ H a = some (.ins C dx [("places", .ref t)]) ∧ H t = some (.tup (ps.map V.int))
  | .turned r, a => ∃ dx b, H a = some (.ins c.turned dx [("inner", .ref b)]) ∧ RAt c H r b
  | .join w r s, a => ∃ dx b d, H a = some (.ins c.joined dx [("word", .str w), ("one", .ref b), ("other", .ref d)]) ∧ RAt c H r b ∧ RAt c H s d
theorem RAt.kp {c : RC} {S : List Addr} {H H' : Hp} (k : Kp S H H') (hS : ∀ x ∈ S, ∀ C dx fs, H x ≠ some (.ins C dx fs)) : ∀ {r : Rul} {a : Addr}, RAt c H r a → RAt c H' r a := by
  have ke : ∀ {a : Addr} {C dx fs}, H a = some (.ins C dx fs) → H' a = some (.ins C dx fs) := fun {a C dx fs} e => k.keep _ _ e fun z => hS a z C dx fs e
  intro r
  induction r with
  | down => rintro a ⟨C, dx, e, h⟩; exact ⟨C, dx, e, ke h⟩
  | up => rintro a ⟨dx, h⟩; exact ⟨dx, ke h⟩
  | even => rintro a ⟨dx, h⟩; exact ⟨dx, ke h⟩
  | odd => rintro a ⟨dx, h⟩; exact ⟨dx, ke h⟩
  | zero => rintro a ⟨dx, h⟩; exact ⟨dx, ke h⟩
  | away => rintro a ⟨dx, h⟩; exact ⟨dx, ke h⟩
  | blw n => rintro a ⟨C, dx, e, h⟩; exact ⟨C, dx, e, ke h⟩
  | places ps => rintro a ⟨C, dx, t, e, h, ht⟩; exact ⟨C, dx, t, e, ke h, k.tup _ _ ht⟩
  | turned r ih => rintro a ⟨dx, b, h, hb⟩; exact ⟨dx, b, ke h, ih hb⟩
  | join w r s i1 i2 => rintro a ⟨dx, b, d, h, hb, hd⟩; exact ⟨dx, b, d, ke h, i1 hb, i2 hd⟩
theorem RAt.kp0 {c : RC} {H H' : Hp} (k : Kp [] H H') {r : Rul} {a : Addr} (h : RAt c H r a) : RAt c H' r a := h.kp k (fun _ z => nomatch z)
theorem RAt.ins {c : RC} {H : Hp} : ∀ {r : Rul} {a : Addr}, RAt c H r a → ∃ C dx fs, H a = some (.ins C dx fs)
  | .down, a, ⟨C, dx, e, h⟩ => ⟨_, _, _, h⟩
  | .up, a, ⟨dx, h⟩ => ⟨_, _, _, h⟩
  | .even, a, ⟨dx, h⟩ => ⟨_, _, _, h⟩
  | .odd, a, ⟨dx, h⟩ => ⟨_, _, _, h⟩
  | .zero, a, ⟨dx, h⟩ => ⟨_, _, _, h⟩
  | .away, a, ⟨dx, h⟩ => ⟨_, _, _, h⟩
  | .blw n, a, ⟨C, dx, e, h⟩ => ⟨_, _, _, h⟩
  | .places ps, a, ⟨C, dx, t, e, h, ht⟩ => ⟨_, _, _, h⟩
  | .turned r, a, ⟨dx, b, h, hb⟩ => ⟨_, _, _, h⟩
  | .join w r s, a, ⟨dx, b, d, h, _⟩ => ⟨_, _, _, h⟩
/-! ### rules that are called -/
/-- a class whose call tells what g tells of its attributes -/
def spRC (C : Addr) (fs : List (Str × V)) (g : Int → Int → Int) : Sp := fun vs H Q _ => ∃ (a dx : Addr) (v p : Int), vs = [.ref a, .int v, .int p] ∧ H a = some (.ins C dx fs) ∧ Q (.int (g v p)) H
def spPlacesC (C : Addr) : Sp := fun vs H Q _ => ∃ (a dx t : Addr) (ps : List Int) (v p : Int), vs = [.ref a, .int v, .int p] ∧ H a = some (.ins C dx [("places", .ref t)]) ∧ H t = some (.tup (ps.map V.int)) ∧ Q (.int (b01 (p ∈ ps))) H
def spBelowC (C : Addr) : Sp := fun vs H Q _ => ∃ (a dx : Addr) (n v p : Int), vs = [.ref a, .int v, .int p] ∧ H a = some (.ins C dx [("number", .int n)]) ∧ Q (.int (b01 (v < n))) H
def spTurnedC (c : RC) (n : Nat) : Sp := fun vs H Q _ => ∃ (a dx b : Addr) (r : Rul) (v p : Int), vs = [.ref a, .int v, .int p] ∧ H a = some (.ins c.turned dx [("inner", .ref b)]) ∧ RAt c H r b ∧ r.dp ≤ n ∧ Q (.int (1 - r.go v p)) H
def spJoinedC (c : RC) (n : Nat) : Sp := fun vs H Q _ => ∃ (a dx b d : Addr) (w : Str) (r s : Rul) (v p : Int), vs = [.ref a, .int v, .int p] ∧ H a = some (.ins c.joined dx [("word", .str w), ("one", .ref b), ("other", .ref d)]) ∧ RAt c H r b ∧ RAt c H s d ∧ r.dp ≤ n ∧ s.dp ≤ n ∧ Q (.int ((Rul.join w r s).go v p)) H
/-- all that a call of a rule at most n deep needs -/
structure RCalls (P : Program) (w : World) (K : PySem.W.Frag) (mg : Str → Option Value) (base : Heap) (c : RC) (n k : Nat) : Prop where
  rule : ∃ g, CallO K c.rule g ∧ FnR P w K mg base CX0 k g (spRC c.rule [] fun _ _ => 0)
  down : ∃ g, CallO K c.down g ∧ FnR P w K mg base CX0 k g (spRC c.down [] fun _ _ => 0)
  up : ∃ g, CallO K c.up g ∧ FnR P w K mg base CX0 k g (spRC c.up [] fun _ _ => 1)
  even : ∃ g, CallO K c.even g ∧ FnR P w K mg base CX0 k g (spRC c.even [] fun v _ => b01 (v % 4 = 3))
  odd : ∃ g, CallO K c.odd g ∧ FnR P w K mg base CX0 k g (spRC c.odd [] fun v _ => b01 (v % 4 = 1))
  zero : ∃ g, CallO K c.zero g ∧ FnR P w K mg base CX0 k g (spRC c.zero [] fun v _ => b01 (v < 0))
  away : ∃ g, CallO K c.away g ∧ FnR P w K mg base CX0 k g (spRC c.away [] fun v _ => b01 (v > 0))
  below : ∀ C, c.below = some C → ∃ g, CallO K C g ∧ FnR P w K mg base CX0 k g (spBelowC C)
  places : ∀ C, c.places = some C → ∃ g, CallO K C g ∧ FnR P w K mg base CX0 k g (spPlacesC C)
  turned : ∀ m, n = m + 1 → ∃ g, CallO K c.turned g ∧ FnR P w K mg base CX0 k g (spTurnedC c m)
  joined : ∀ m, n = m + 1 → ∃ g, CallO K c.joined g ∧ FnR P w K mg base CX0 k g (spJoinedC c m)
section
variable {X : Cx} {c : RC} {n k : Nat}
/-- the call of a rule's own object -/
theorem run_rule {pins : List (Addr × Obj)} {σ : L2.St} {H2 : Hp} {s2 : Shared} {Q : VK} {a : Addr} {us : List Value} {r : Rul} {v p : Int} (R : RCalls X.prog X.w X.K X.mg X.base c n k) (hr : Room k X.A) (hx : Passes CX0 X fun _ _ _ => False) (I2 : Inv X pins σ H2 s2) (rv : Vals [.int v, .int p] us)
    (ra : RAt c H2 r a) (rd : r.dp ≤ n) (q2 : Q (.int (r.go v p)) H2) : (∃ C ox od, PySem.W.InstAt s2.heap a ox C od ∧ ox.data = .plain) ∧ wpAny (model X.prog X.w) X.A (call (.ref a) us) (EP X pins σ Q) X.xe s2 := by
  have one : ∀ {C g : Addr} {sp : Sp} {dx : Addr} {fs : List (Str × V)}, CallO X.K C g → FnR X.prog X.w X.K X.mg X.base CX0 k g sp → H2 a = some (.ins C dx fs) → sp [.ref a, .int v, .int p] H2 Q (fun _ _ _ => False) →
      (∃ C ox od, PySem.W.InstAt s2.heap a ox C od ∧ ox.data = .plain) ∧ wpAny (model X.prog X.w) X.A (call (.ref a) us) (EP X pins σ Q) X.xe s2 := by
    intro C g sp dx fs co F hi hsp
    have ic : InsC X H2 a C := .inr ⟨dx, fs, hi⟩
    obtain ⟨ox, od, J, hd⟩ := insC_at I2 ic
    exact ⟨⟨C, ox, od, J, hd⟩, run_callO co F hr hx I2 ic rv hsp⟩
  cases r with
  | down =>
    obtain ⟨C, dx, ec, hi⟩ := ra
    rcases ec with rfl | rfl
    · obtain ⟨g, co, F⟩ := R.down
      exact one co F hi ⟨a, dx, v, p, rfl, hi, q2⟩
    · obtain ⟨g, co, F⟩ := R.rule
      exact one co F hi ⟨a, dx, v, p, rfl, hi, q2⟩
  | up => obtain ⟨dx, hi⟩ := ra; obtain ⟨g, co, F⟩ := R.up; exact one co F hi ⟨a, dx, v, p, rfl, hi, q2⟩
  | even => obtain ⟨dx, hi⟩ := ra; obtain ⟨g, co, F⟩ := R.even; exact one co F hi ⟨a, dx, v, p, rfl, hi, q2⟩
  | odd => obtain ⟨dx, hi⟩ := ra; obtain ⟨g, co, F⟩ := R.odd; exact one co F hi ⟨a, dx, v, p, rfl, hi, q2⟩
  | zero => obtain ⟨dx, hi⟩ := ra; obtain ⟨g, co, F⟩ := R.zero; exact one co F hi ⟨a, dx, v, p, rfl, hi, q2⟩
  | away => obtain ⟨dx, hi⟩ := ra; obtain ⟨g, co, F⟩ := R.away; exact one co F hi ⟨a, dx, v, p, rfl, hi, q2⟩
  | blw m => obtain ⟨C, dx, ec, hi⟩ := ra; obtain ⟨g, co, F⟩ := R.below C ec; exact one co F hi ⟨a, dx, m, v, p, rfl, hi, q2⟩
  | places ps => obtain ⟨C, dx, tt, ec, hi, hp⟩ := ra; obtain ⟨g, co, F⟩ := R.places C ec; exact one co F hi ⟨a, dx, tt, ps, v, p, rfl, hi, hp, q2⟩
  | turned r =>
    obtain ⟨dx, b, hi, hb⟩ := ra
    have rd : r.dp + 1 ≤ n := rd
    obtain ⟨m, rfl⟩ : ∃ m, n = m + 1 := ⟨n - 1, by omega⟩
    obtain ⟨g, co, F⟩ := R.turned m rfl
    exact one co F hi ⟨a, dx, b, r, v, p, rfl, hi, hb, by omega, q2⟩
  | join w r s =>
    obtain ⟨dx, b, d, hi, hb, hd⟩ := ra
    have rd : max r.dp s.dp + 1 ≤ n := rd
    obtain ⟨m, rfl⟩ : ∃ m, n = m + 1 := ⟨n - 1, by omega⟩
    obtain ⟨g, co, F⟩ := R.joined m rfl
    exact one co F hi ⟨a, dx, b, d, w, r, s, v, p, rfl, hi, hb, hd, by omega, by omega, q2⟩
end
def tCallRl (c : RC) (n : Nat) (tf : TE) (t : TA) : TE := fun σ H Q => tf σ H fun y H1 => ∃ (a : Addr) (r : Rul), y = .ref a ∧ t σ H1 fun vs H2 => RAt c H2 r a ∧ r.dp ≤ n ∧ ∃ v p : Int, vs = [.int v, .int p] ∧ Q (.int (r.go v p)) H2
section
variable {X : Cx} {c : RC} {n k : Nat} {fe e : Expr} {es : List Expr} {tf : TE} {t : TA} {pos : Pos}
theorem pe_callRl (hf : PE X fe tf) (R : RCalls X.prog X.w X.K X.mg X.base c n k) (hr : Room k X.A) (ha : PA X (e :: es) t) (hx : Passes CX0 X fun _ _ _ => False)
    (ht : eval (.Call fe (e :: es) [] pos) X.env = (do callWith pos (← eval fe X.env) [] (backTo pos (starEach (e :: es) X.env)) (backToKw pos (keywordEach [] X.env))) := by rfl)
    (he : starEach (e :: es) X.env = (false, eval e X.env) :: starEach es X.env := by rfl) (hpl : (backTo pos (starEach es X.env)).any (·.1) = false := by rfl) : PE X (.Call fe (e :: es) [] pos) (tCallRl c n tf t) := by
  refine ⟨fun pins s σ H Q I h => ?_⟩
  refine Call_ (thn (hf.run pins s σ H _ I h) fun u s1 ⟨y, H1, I1, ry, a, r, ey, q⟩ => ?_) ht
  subst ey
  obtain rfl : u = Value.ref a := ry
  refine callO_with (thn (ha.run pos pins s1 σ H1 _ I1 q) fun us s2 ⟨vs, H2, I2, rv, ra, rd, v, p, ev, q2⟩ => ?_) he hpl
  subst ev
  exact run_rule R hr hx I2 rv ra rd q2
/-- o.f(e, ..), the attribute f of o a rule -/
def tCallRlF (K : PySem.W.Frag) (f : Str) (c : RC) (n : Nat) (to : TE) (t : TA) : TE := fun σ H Q => to σ H fun y H1 => ∃ (o C dx : Addr) (fs : List (Str × V)) (a : Addr) (r : Rul), y = .ref o ∧ H1 o = some (.ins C dx fs) ∧ Cls K C ∧ NoAttr K C f ∧ fs.lookup f = some (.ref a) ∧
  t σ H1 fun vs H2 => RAt c H2 r a ∧ r.dp ≤ n ∧ ∃ v p : Int, vs = [.int v, .int p] ∧ Q (.int (r.go v p)) H2
theorem getmeth_fld {pins : List (Addr × Obj)} {σ : L2.St} {H : Hp} {s : Shared} {o C dx : Addr} {fs : List (Str × V)} {f : Str} {v : V} {A : Around} {E : Value → Shared → Prop} {pl : Sem Bool} {Q : Value × List Value → Shared → Prop} (I : Inv X pins σ H s) (e : H o = some (.ins C dx fs)) (c : Cls X.K C) (n : NoAttr X.K C f) (l : fs.lookup f = some v)
    (h : ∀ u s', Inv X pins σ H s' → RelV v u → Q (u, []) s') : wpAny (model X.prog X.w) A (getMethod (.ref o) f pl) Q E s := by
  obtain ⟨mA, O, _, _, _, _⟩ := ins_get I.hok e
  obtain ⟨od, J, _⟩ := O.look
  obtain ⟨ga, gt⟩ := PySem.W.plainGet_of (c.get f)
  have canon := PySem.F.canon_object_ga
  unfold getMethod specialOf
  refine wpAny_bind (wpAny_bind (J.type.here ((PySem.W.looks_findIn I.kIn ga).here ?_)))
  dsimp only
  rw [canon]
  rw [if_neg (by decide)]
  refine wpAny_bind (wpAny_bind (J.type.here ((PySem.W.looks_findIn I.kIn gt).here ?_)))
  refine wpAny_bind (wpAny_bind (J.type.here ((PySem.W.looks_findIn I.kIn n).here ?_)))
  exact wpAny_bind (getattr_ok I e c n l fun u s' I' ru => wpAny_pure (h u s' I' ru))
theorem pe_callRlF {K : PySem.W.Frag} {o : Expr} {f : Str} {to : TE} {apos : Pos} {pl : Sem Bool} (hK : X.K = K) (ho : PE X o to) (R : RCalls X.prog X.w X.K X.mg X.base c n k) (hr : Room k X.A) (ha : PA X (e :: es) t) (hx : Passes CX0 X fun _ _ _ => False)
    (he : starEach (e :: es) X.env = (false, eval e X.env) :: starEach es X.env := by rfl) (hpl : (backTo pos (starEach es X.env)).any (·.1) = false := by rfl)
    (ht : eval (.Call (.Attribute o f apos) (e :: es) [] pos) X.env = (do
      let ov ← eval o X.env
      standAt apos.atName
      let (g, first) ← holding [ov] (getMethod ov f pl)
      callWith pos g first (backTo pos (starEach (e :: es) X.env)) (backToKw pos (keywordEach [] X.env))) := by rfl) : PE X (.Call (.Attribute o f apos) (e :: es) [] pos) (tCallRlF K f c n to t) := by
  subst hK
  refine ⟨fun pins s σ H Q I h => ?_⟩
  refine PySem.W.methodCall_KW (pl := pl) (thn (ho.run pins s σ H _ I h) fun u s1 ⟨y, H1, I1, ry, oa, C, dx, fs, a, r, ey, eo, cl, na, lf, q⟩ => ?_) ht
  subst ey
  obtain rfl : u = Value.ref oa := ry
  refine getmeth_fld I1 eo cl na lf fun w s2 I2 rw => ?_
  obtain rfl : w = Value.ref a := rw
  refine callO_with (thn (ha.run pos pins s2 σ H1 _ I2 q) fun us s3 ⟨vs, H2, I3, rv, ra, rd, v, p, ev, q2⟩ => ?_) he hpl
  subst ev
  exact run_rule R hr hx I3 rv ra rd q2
end
end EH
namespace EH
open PySem PySem.Spec PySem.Calls PyProof.Rows L2 StX
/-! ### operators of own classes between two instances -/
section
variable {prog : Program} {w : World} {A : Around} {E : Value → Shared → Prop} {s : Shared} {K : PySem.W.Frag}
theorem raiseStrAttr {α : Type} {msg : Str} {Q : α → Shared → Prop} (hh : A.handled = none)
    (h : ∀ h' tk e, (∀ b o, s.heap.get? b = some o → h'.get? b = some o) → (∃ ob, h'.get? e = some ob ∧ ob.cls = .type "AttributeError") → E (.ref e) { s with heap := h', toks := tk }) (hm : msg.length ≤ sizeLine) :
    wpAny (model prog w) A (raiseErrorStr "AttributeError" msg : Sem α) Q E s := by
  unfold raiseErrorStr
  refine wpAny_bind (wpAny_mkStr (wpAny_bind ?_) hm)
  unfold newExc newTuple
  refine wpAny_bind (wpAny_newObj_type ?_ (by size_fits))
  refine wpAny_bind (m := firstArgMember _ _) (wpAny_of_eq (a := Value.none) (by simp only [firstArgMember, attrError_no_first]; rfl) ?_)
  rw [ownMembersOf_AttributeError]
  refine wpAny_newObj_type ?_ (by size_fits)
  unfold raiseNew
  refine wpAny_bind (wpAny_handled ?_)
  rw [hh]
  first
    | refine wpAny_throw ?_
    | refine wpAny_bind (wpAny_pure (wpAny_throw ?_))
  exact h _ _ _ (fun b o hb => Heap.get?_push_of_some _ (Heap.get?_push_of_some _ hb)) ⟨_, Heap.get?_push_size _ rfl, rfl⟩
/-- what a class must have that an attribute of it is asked for -/
structure ClsA (K : PySem.W.Frag) (D : Addr) (cd : ClassData) : Prop where
  op : PySem.W.nsIn K cStatics "thirdparty.any" = some none
  ty : PySem.W.typeIn K (.ref D) = some (.type "type")
  cls : PySem.W.clsIn K D = some cd
  n1 : cd.name.cps.foldl (fun k c => k + (Str.utf8Of c).length) 0 ≤ 100
  n2 : cd.name.toString.length ≤ 50
theorem tga_lk : typeLookup (.type "type") "__getattribute__" = pure (some (.builtin "type.__getattribute__")) := PySem.W.KF.slot_tga.lookup
theorem sub_tt : isSubtype (.type "type") (.type "type") = pure true := by rw [isSubtype_type]; kernel_rfl
theorem tgn_lk : typeLookup (.type "type") "__getattr__" = pure none := by rw [typeLookup_type, builtinLookup_eq_fast]; kernel_rfl
theorem cls_ask {D : Addr} {tk : Tok} {name : Str} {cd : ClassData} {Q : Option Value → Shared → Prop} (X : K.In s.heap) (c : ClsA K D cd)
    (h : wpAny (model prog w) A.in1 (Builtin.«type.__getattribute__» ⟨[.ref D, .str name tk], []⟩) (fun fin s' => match fin with | .done (.ret v) => PySem.W.handedIn v = true ∧ Q (some v) s' | _ => False)
      (fun e s' => (∃ a ob, e = .ref a ∧ s'.heap.get? a = some ob ∧ ob.cls = .type "AttributeError") ∧ Q none s') s) : wpAny (model prog w) A (getAttrBy? (.ref D) (.str name tk)) Q E s := by
  have L0 : PySem.W.Looks (model prog w) s.heap (typeOf (.ref D)) (.type "type") := PySem.W.looks_typeIn X c.ty
  unfold getAttrBy? getAttrBy
  refine wpAny_bind (wpAny_attempt (wpAny_holding (wpAny_bind (L0.here ?_))))
  rw [tga_lk]
  refine wpAny_bind (wpAny_pure ?_)
  dsimp only
  rw [show (onTheHeap (.type "type") && Value.builtin "type.__getattribute__" == Value.builtin "object.__getattribute__") = false from rfl, if_neg (by decide)]
  unfold getAttrByItsOwn
  refine wpAny_bind (wpAny_pure (wpAny_bind (wpAny_attempt (wpAny_holding ?_))))
  unfold callGetattribute
  rw [show (false && onTheHeap (Value.builtin "type.__getattribute__")) = false from rfl, if_neg (by decide)]
  unfold boundAndCalled
  rw [PySem.W.KF.slot_tga.bind]
  refine wpAny_bind (wpAny_pure ?_)
  show wpAny _ _ (call (.builtin "type.__getattribute__") [.ref D, .str name tk]) _ _ _
  refine wpAny_call ?_
  refine codeAny_call_builtin PySem.W.KF.slot_tga.plain PySem.W.KF.entry_tga ?_
  refine @PySem.W.check_slot (model prog w) _ _ s "type.__getattribute__" "type" "__getattribute__" (.ref D) [.str name tk] [] _ (by decide +kernel) (by decide +kernel) (L0.andThen (PySem.W.Looks.of_pure sub_tt)) (PySem.W.KF.args_tga (.ref D) (.str name tk)) ?_
  refine wpAny_mono h (fun fin s' z => ?_) fun e s' z => ?_
  · rcases fin with (_ | _ | _ | _) | _ <;> first | exact z.elim | skip
    obtain ⟨z1, z2⟩ := z
    show wpAny _ _ (handedOut _) _ _ _
    rw [PySem.W.handedOut_of z1]
    exact wpAny_pure (wpAny_pure z2)
  · obtain ⟨⟨a, ob, rfl, hob, hcl⟩, z2⟩ := z
    show wpAny _ _ (getattributeRaised _ _ _ _ _ _ _) _ _ _
    unfold getattributeRaised
    refine wpAny_bind (wpAny_isInstance (T := "AttributeError") (b := true) ⟨ob, hob, hcl⟩ sub_AttributeError ?_)
    rw [if_pos rfl]
    refine wpAny_bind (wpAny_of_eq (a := none) (by show typeLookup (.type "type") "__getattr__" = _; exact tgn_lk) ?_)
    unfold hookOrError
    dsimp only
    unfold attributeErrorLeaves
    dsimp only
    rw [if_pos (show (!false) = true from rfl)]
    refine wpAny_bind (wpAny_throw ?_)
    refine wpAny_bind (wpAny_isInstance (T := "AttributeError") (b := true) ⟨ob, hob, hcl⟩ sub_AttributeError ?_)
    rw [if_pos rfl]
    exact wpAny_pure z2
theorem looks_op {h : Heap} {D : Addr} {cd : ClassData} (X : K.In h) (c : ClsA K D cd) : PySem.W.Looks (model prog w) h (opaqueClassAbove (.ref D)) none := PySem.W.looks_opaque X c.op
/-- the class has no such attribute, nor its own class -/
theorem cls_miss {D : Addr} {tk : Tok} {name : Str} {cd : ClassData} {Q : Option Value → Shared → Prop} (X : K.In s.heap) (c : ClsA K D cd) (hh : A.handled = none) (h1 : PySem.W.findIn K (.ref D) name = some none) (h2 : typeLookup (.type "type") name = pure none) (hn : name.length + 100 ≤ sizeLine)
    (h : ∀ h' tk', (∀ b o, s.heap.get? b = some o → h'.get? b = some o) → Q none { s with heap := h', toks := tk' }) : wpAny (model prog w) A (getAttrBy? (.ref D) (.str name tk)) Q E s := by
  refine cls_ask X c ?_
  have L0 : PySem.W.Looks (model prog w) s.heap (typeOf (.ref D)) (.type "type") := PySem.W.looks_typeIn X c.ty
  have L1 : PySem.W.Looks (model prog w) s.heap (opaqueClassAbove (.ref D)) none := looks_op X c
  have L2 := PySem.W.looks_findIn (M := model prog w) X h1
  have L3 := PySem.W.looks_clsIn (M := model prog w) X c.cls
  unfold Builtin.«type.__getattribute__»
  refine wpAny_bind (wpAny_pure (wpAny_bind (L1.here (wpAny_bind (L0.here ?_)))))
  rw [h2]
  refine wpAny_bind (wpAny_pure (wpAny_bind (wpAny_pure ?_)))
  refine wpAny_bind (L2.here ?_)
  dsimp only
  refine wpAny_bind (wpAny_rule (wpAny_bind ?_))
  unfold typeNameCut
  refine wpAny_bind (L3.here ?_)
  rw [if_pos c.n1]
  refine wpAny_pure ?_
  refine raiseStrAttr hh (fun h' tk' e k he => ?_) ?_
  · obtain ⟨ob, e1, e2⟩ := he
    exact ⟨⟨e, ob, rfl, e1, e2⟩, h h' tk' k⟩
  · refine attrMsg_fits ?_ hn
    have := c.n2
    simp only [toString, String.length_append]
    have e1 : "type object '".length = 13 := by decide
    have e2 : "' has no attribute '".length = 20 := by decide
    omega
/-- the class's own class has it, a method-wrapper of it is made -/
theorem mw_slot : Slot "wrapper_descriptor" "__get__" "wrapper_descriptor.__get__" := PySem.W.kxs_slot_get
theorem ror_typ : typeOf (.builtin "type.__ror__") = pure (.type "wrapper_descriptor") := by show builtinType _ = _; rw [builtinType_eq_fast]; kernel_rfl
theorem ror_nac : (kfb_private% "nameAndClass") (.builtin "type.__ror__") = pure (PySem.Str.ofString "__ror__", .type "type") := by first | kernel_rfl | rfl
theorem ror_get {x : Addr} {P : Fin → Shared → Prop} (hI : PySem.W.Looks (model prog w) s.heap (isInstance (.ref x) (.type "type")) true) (hP : P (.done (.ret (.ref s.heap.objs.size))) { s with heap := s.heap.push { cls := .type "method-wrapper", data := .fields #[.builtin "type.__ror__", .ref x] } }) :
    wpAny (model prog w) A (Builtin.«wrapper_descriptor.__get__» ⟨[.builtin "type.__ror__", .ref x, .type "type"], []⟩) P E s := by
  unfold Builtin.«wrapper_descriptor.__get__»
  refine wpAny_bind (wpAny_of_eq (a := (.builtin "type.__ror__", some (.ref x), some (.type "type"))) (by first | rfl | kernel_rfl) ?_)
  refine wpAny_bind ?_
  refine wpAny_bind (wpAny_of_eq (a := (PySem.Str.ofString "__ror__", .type "type")) ror_nac ?_)
  refine wpAny_bind (hI.here ?_)
  refine PySem.W.KFB.if_not rfl ?_
  exact wpAny_pure (wpAny_bind (wpAny_newObj_type (wpAny_pure hP)))
theorem cls_ror {D : Addr} {tk : Tok} {cd : ClassData} {Q : Option Value → Shared → Prop} (X : K.In s.heap) (c : ClsA K D cd)
    (h1 : PySem.W.findCls K (.ref D) (.type "type") "__ror__" = some (.get (.builtin "wrapper_descriptor.__get__") (.builtin "type.__ror__") (.ref D) (.type "type")))
    (h : Q (some (.ref s.heap.objs.size)) { s with heap := s.heap.push { cls := .type "method-wrapper", data := .fields #[.builtin "type.__ror__", .ref D] } }) : wpAny (model prog w) A (getAttrBy? (.ref D) (.str "__ror__" tk)) Q E s := by
  refine cls_ask X c ?_
  have L0 : PySem.W.Looks (model prog w) s.heap (typeOf (.ref D)) (.type "type") := PySem.W.looks_typeIn X c.ty
  refine PySem.W.tga_run X (looks_op X c) L0 h1 ?_
  unfold PySem.W.CFound.run
  refine wpAny_bind (wpAny_holding ?_)
  have hT : s.TypeIs (.builtin "type.__ror__") "wrapper_descriptor" := ror_typ
  refine wpAny_call_entry mw_slot hT PySem.W.kxs_entry_get ?_ (PySem.W.kxs_args_get _ _ _)
  refine ror_get (L0.andThen (PySem.W.Looks.of_pure sub_tt)) ?_
  exact ⟨_, rfl, wpAny_pure ⟨rfl, h⟩⟩
/-- two of them are unlike -/
theorem mwne_slot : Slot "method-wrapper" "__ne__" "method-wrapper.__ne__" :=
  .of (owner := "method-wrapper") (n := "__ne__") (by rw [typeLookup_type, builtinLookup_eq_fast]; kernel_rfl) (by decide +kernel) (by decide +kernel) (by decide +kernel)
    (by first | exact .inl (by decide +kernel) | exact .inr (by decide +kernel)) (by rw [isSubtype_type]; kernel_rfl)
theorem mwne_entry : entryFor table "method-wrapper.__ne__" = some Builtin.«method_wrapper.__ne__» := entryFor_alias (id' := "method_wrapper.__ne__") (by kernel_rfl) (by decide +kernel) (by decide +kernel) (by kernel_rfl)
theorem mwne_args (a b : Value) : argsOk "method-wrapper.__ne__" ⟨[a, b], []⟩ := by unfold argsOk; kernel_rfl
theorem sub_mw : isSubtype (.type "method-wrapper") (.type "method-wrapper") = pure true := by rw [isSubtype_type]; kernel_rfl
def rNe (a b x y : Addr) : PySem.Spec := fun A R s => (∃ ox oy : Obj, s.heap.get? a = some { cls := .type "method-wrapper", data := .fields #[.builtin "type.__ror__", .ref x] } ∧ s.heap.get? b = some { cls := .type "method-wrapper", data := .fields #[.builtin "type.__ror__", .ref y] } ∧
  s.heap.get? x = some ox ∧ s.heap.get? y = some oy ∧ x ≠ y ∧ ox.cls ≠ .type "tuple") ∧ R (.ok (.ret (.bool true))) s
theorem mwne_meets {a b x y : Addr} : Meets (Builtin.«method_wrapper.__ne__» ⟨[.ref a, .ref b], []⟩) (rNe a b x y) := Meets.of_wp fun prog w A R s hs => by
  obtain ⟨⟨ox, oy, e1, e2, e3, e4, hne, hnt⟩, hR⟩ := hs
  obtain ⟨hp, g, d, tk, os⟩ := s
  have hb : (⟨hp, g, d, tk, os⟩ : Shared).TypeIs (.ref b) "method-wrapper" := ⟨_, e2, rfl⟩
  have f0 : (#[.builtin "type.__ror__", .ref x] : Array Value)[0]? = some (.builtin "type.__ror__") := rfl
  have f1 : (#[.builtin "type.__ror__", .ref x] : Array Value)[1]? = some (.ref x) := rfl
  have f2 : (#[.builtin "type.__ror__", .ref y] : Array Value)[0]? = some (.builtin "type.__ror__") := rfl
  have f3 : (#[.builtin "type.__ror__", .ref y] : Array Value)[1]? = some (.ref y) := rfl
  show wpAny _ _ (do
    let (w, rest) ← PySem.slotArgs "__ne__" 1 ⟨[.ref a, .ref b], []⟩
    let other := rest.headD .none
    if !(← isInstance other (.type "method-wrapper")) then rule "method-wrapper.eq.other-type"; return ← ret .notImplemented
    let (id, _, self) ← Builtin.Method_wrapper.mwParts w
    let (id', _, self') ← Builtin.Method_wrapper.mwParts other
    let equal ← if id == id' then isSame self self' else pure false
    ret (.bool (equal != true))) _ _ _
  refine wpAny_bind (wpAny_of_eq (a := ((Value.ref a : Value), [Value.ref b])) (by first | rfl | (simp only [PySem.slotArgs]; rfl)) ?_)
  dsimp only
  refine wpAny_bind (wpAny_isInstance (T := "method-wrapper") (b := true) ⟨_, e2, rfl⟩ sub_mw ?_)
  rw [if_neg (by decide)]
  unfold Builtin.Method_wrapper.mwParts
  refine wpAny_bind (wpAny_bind (wpAny_field e1 rfl f0 ?_))
  dsimp only
  refine wpAny_bind (wpAny_field e1 rfl f1 (wpAny_pure ?_))
  dsimp only
  refine wpAny_bind (wpAny_bind (wpAny_field e2 rfl f2 ?_))
  dsimp only
  refine wpAny_bind (wpAny_field e2 rfl f3 (wpAny_pure ?_))
  dsimp only
  rw [if_pos (beq_self_eq_true _)]
  refine wpAny_bind (wpAny_isSame_ref_other hne e3 e4 hnt ?_)
  exact wpAny_pure ⟨_, rfl, hR⟩
end
end EH
namespace EH
open PySem PySem.Spec PySem.Calls PyProof.Rows L2 StX
/-! ### operators of own classes between two instances -/
section
variable {prog : Program} {w : World} {A : Around} {E : Value → Shared → Prop} {s : Shared} {K : PySem.W.Frag}
/-- what a class must have of a two-place operator that a class above it has -/
structure OpC (K : PySem.W.Frag) (nm : String) (C f : Addr) (cd : ClassData) (rest : List Value) : Prop where
  a : ClsA K C cd
  mro : cd.mro = .ref C :: rest
  at_ : PySem.W.findIn K (.ref C) (PySem.dunder nm) = some (some (.ref f))
  refl : PySem.W.findIn K (.ref C) (dunderR nm) = some none
/-- the class's own class has no reflected one, or one that is bound -/
def RefOk (K : PySem.W.Frag) (nm : String) (C D : Addr) : Prop := (dunderR nm).length + 100 ≤ sizeLine ∧ (typeLookup (.type "type") (dunderR nm) = pure none ∨ (dunderR nm = ("__ror__" : Str) ∧ (∀ B, B = C ∨ B = D → PySem.W.findCls K (.ref B) (.type "type") "__ror__" = some (.get (.builtin "wrapper_descriptor.__get__") (.builtin "type.__ror__") (.ref B) (.type "type")))))
theorem sub_mro {h : Heap} {C : Addr} {cd : ClassData} {c : Value} {rest : List Value} (X : K.In h) (hc : PySem.W.clsIn K C = some cd) (hm : cd.mro = .ref C :: rest) : PySem.W.Looks (model prog w) h (isSubtype (.ref C) c) ((Value.ref C :: rest).contains c) := by
  refine PySem.W.looks_subIn X ?_
  show PySem.W.mroIn K C c = _
  unfold PySem.W.mroIn
  rw [hc]
  show (if cd.mro.isEmpty = true then none else some (cd.mro.contains c)) = _
  rw [hm]
  rfl
theorem refl_differs {nm : String} {C D f f' : Addr} {cd cd' : ClassData} {rest rest' : List Value} {Q : Bool → Shared → Prop} (X : K.In s.heap) (hC : OpC K nm C f cd rest) (hD : OpC K nm D f' cd' rest') (hne : D ≠ C) (hR : RefOk K nm D C) (hh : A.handled = none) (hu : A.units + 1 < cLine)
    (h : ∀ b h' tk', (∀ b o, s.heap.get? b = some o → h'.get? b = some o) → Q b { s with heap := h', toks := tk' }) : wpAny (model prog w) A (reflectedDiffers (.ref C) (.ref D) nm) Q E s := by
  have PC : PySem.W.Looks (model prog w) s.heap (numberSlotInPython (.ref C) nm) true := PySem.W.ksp_inPy X hC.at_ hC.refl (.inl rfl)
  have PD : PySem.W.Looks (model prog w) s.heap (numberSlotInPython (.ref D) nm) true := PySem.W.ksp_inPy X hD.at_ hD.refl (.inl rfl)
  obtain ⟨hl, hR⟩ := hR
  unfold reflectedDiffers
  refine wpAny_bind (PC.here ?_)
  rw [if_neg (by decide)]
  refine wpAny_bind (PD.here ?_)
  rw [if_neg (by decide)]
  refine wpAny_bind (wpAny_mkStr ?_ (by omega))
  rcases hR with h2 | ⟨e, hf⟩
  · refine wpAny_bind (cls_miss (s := { s with toks := s.toks + 1 }) X hD.a hh hD.refl h2 hl fun h' tk' k => ?_)
    exact wpAny_pure (h false h' tk' k)
  · rw [e]
    refine wpAny_bind (cls_ror (s := { s with toks := s.toks + 1 }) X hD.a (hf D (.inl rfl)) ?_)
    refine wpAny_holding ?_
    have X1 : K.In (s.heap.push { cls := .type "method-wrapper", data := .fields #[.builtin "type.__ror__", .ref D] }) := X.keeps fun b o e => Heap.get?_push_of_some _ e
    refine wpAny_bind (cls_ror (s := { s with heap := s.heap.push { cls := .type "method-wrapper", data := .fields #[.builtin "type.__ror__", .ref D] }, toks := s.toks + 1 }) X1 hC.a (hf C (.inr rfl)) ?_)
    refine wpAny_holding ?_
    obtain ⟨oC, eC, tC⟩ := Option.map_eq_some_iff.mp hC.a.ty
    obtain ⟨oD, eD, tD⟩ := Option.map_eq_some_iff.mp hD.a.ty
    have kk : ∀ b o, s.heap.get? b = some o → ((s.heap.push { cls := .type "method-wrapper", data := .fields #[.builtin "type.__ror__", .ref D] }).push { cls := .type "method-wrapper", data := .fields #[.builtin "type.__ror__", .ref C] }).get? b = some o := fun b o e => Heap.get?_push_of_some _ (Heap.get?_push_of_some _ e)
    have gD : ((s.heap.push { cls := .type "method-wrapper", data := .fields #[.builtin "type.__ror__", .ref D] }).push { cls := .type "method-wrapper", data := .fields #[.builtin "type.__ror__", .ref C] }).get? s.heap.objs.size = some { cls := .type "method-wrapper", data := .fields #[.builtin "type.__ror__", .ref D] } := Heap.get?_push_of_some _ (Heap.get?_push_size _ rfl)
    have gC : ((s.heap.push { cls := .type "method-wrapper", data := .fields #[.builtin "type.__ror__", .ref D] }).push { cls := .type "method-wrapper", data := .fields #[.builtin "type.__ror__", .ref C] }).get? (s.heap.objs.size + 1) = some { cls := .type "method-wrapper", data := .fields #[.builtin "type.__ror__", .ref C] } := by
      have := Heap.get?_push_size (o := { cls := .type "method-wrapper", data := .fields #[.builtin "type.__ror__", .ref C] }) (s.heap.push { cls := .type "method-wrapper", data := .fields #[.builtin "type.__ror__", .ref D] }) rfl
      rw [Heap.size_push] at this
      exact this
    have ne : (s.heap.push { cls := .type "method-wrapper", data := .fields #[.builtin "type.__ror__", .ref D] }).objs.size ≠ s.heap.objs.size := by rw [Heap.size_push]; exact Nat.succ_ne_self _
    rw [Heap.size_push] at ne ⊢
    refine wpAny_bind (wpAny_isSame_ref_other ne gC gD (by simp) ?_)
    rw [if_neg (by decide)]
    refine wpAny_bind (richCompare_meets_room (T := "method-wrapper") (id := "method-wrapper.__ne__") ⟨_, gC, rfl⟩ ⟨_, gD, rfl⟩ mwne_slot mwne_entry (mwne_args _ _) (mwne_meets (x := C) (y := D)) ⟨⟨oC, oD, gC, gD, kk _ _ (X _ _ eC), kk _ _ (X _ _ eD), hne.symm, by rw [tC]; simp⟩, ?_⟩ (by omega))
    refine ⟨by simp, ?_⟩
    exact wpAny_of_eq (a := true) rfl (h true _ _ kk)
theorem inst_keeps {h h' : Heap} {x C : Addr} {ox : Obj} {od : Option Obj} (I : PySem.W.InstAt h x ox C od) (k : ∀ b o, h.get? b = some o → h'.get? b = some o) : PySem.W.InstAt h' x ox C od := by
  obtain ⟨a, b, c, d⟩ := I
  refine ⟨k _ _ a, b, c, ?_⟩
  revert d
  cases ox.dict <;> cases od <;> intro d <;> first | exact d | exact k _ _ d
/-- a op b of two instances: the left one's method answers -/
theorem binop2 {op : Operator} {x y C D f f' : Addr} {cd cd' : ClassData} {rest rest' : List Value} {ox oy : Obj} {odx ody : Option Obj} {Q : Value → Shared → Prop} (X : K.In s.heap) (Ix : PySem.W.InstAt s.heap x ox C odx) (Iy : PySem.W.InstAt s.heap y oy D ody)
    (hC : OpC K op.info.2 C f cd rest) (hD : OpC K op.info.2 D f' cd' rest') (hf : PySem.W.isFn K (.ref f) = true) (hR : D ≠ C → RefOk K op.info.2 D C) (hh : A.handled = none) (hu : A.units + 1 < cLine)
    (h : ∀ h' tk', (∀ b o, s.heap.get? b = some o → h'.get? b = some o) → wpAny (model prog w) A (call (.ref f) [.ref x, .ref y]) (PySem.W.CmpBack Q) E { s with heap := h', toks := tk' }) : wpAny (model prog w) A (binaryOp op (.ref x) (.ref y)) Q E s := by
  have at2 : ∀ (s2 : Shared), (∀ b o, s.heap.get? b = some o → s2.heap.get? b = some o) → K.In s2.heap ∧ PySem.W.InstAt s2.heap x ox C odx ∧ PySem.W.InstAt s2.heap y oy D ody := fun s2 k => ⟨X.keeps k, inst_keeps Ix k, inst_keeps Iy k⟩
  rcases hi : op.info with ⟨sym, nm⟩
  rw [hi] at hC hD hR
  dsimp only at hC hD hR
  simp only [binaryOp, hi]
  refine wpAny_holding (wpAny_bind ?_)
  unfold binaryOp1
  have FC : PySem.W.Looks (model prog w) s.heap (fillsNumberSlot (.ref C) nm) true := PySem.W.fills_K X hC.a.cls hC.mro hC.at_
  have FD : PySem.W.Looks (model prog w) s.heap (fillsNumberSlot (.ref D) nm) true := PySem.W.fills_K X hD.a.cls hD.mro hD.at_
  refine wpAny_bind (Ix.type.here (wpAny_bind (Iy.type.here (wpAny_bind (FC.here ?_)))))
  by_cases e : D = C
  · subst e
    simp only [beq_self_eq_true, if_true]
    refine wpAny_bind (wpAny_pure ?_)
    simp only [Bool.and_false, Bool.false_eq_true, if_false, Bool.false_and]
    refine wpAny_bind (wpAny_pure ?_)
    simp only [Bool.false_eq_true, if_false]
    refine wpAny_bind (m := tryMethod (.ref x) _ (.ref y)) ?_
    refine wpAny_mono (PySem.W.ksp_try X Ix hC.at_ hf (h s.heap s.toks fun _ _ e => e)) (fun r s' hr' => ?_) fun _ _ e => e
    obtain ⟨v, rfl, hq⟩ := hr'
    exact wpAny_pure (wpAny_pure hq)
  · have ne : (Value.ref C == Value.ref D) = false := by simp; exact fun z => e z.symm
    simp only [ne, Bool.false_eq_true, if_false]
    refine wpAny_bind (FD.here ?_)
    simp only [Bool.and_self, if_true]
    refine wpAny_bind ((sub_mro X hD.a.cls hD.mro).here ?_)
    have one : ∀ h' tk', (∀ b o, s.heap.get? b = some o → h'.get? b = some o) → wpAny (model prog w) A (tryMethod (.ref x) (PySem.dunder nm) (.ref y)) (fun r s' => ∃ v, r = some v ∧ Q v s') E { s with heap := h', toks := tk' } := fun h' tk' k =>
      PySem.W.ksp_try (X.keeps k) (inst_keeps Ix k) hC.at_ hf (h h' tk' k)
    have PC : PySem.W.Looks (model prog w) s.heap (numberSlotInPython (.ref C) nm) true := PySem.W.ksp_inPy X hC.at_ hC.refl (.inl rfl)
    have PD : PySem.W.Looks (model prog w) s.heap (numberSlotInPython (.ref D) nm) true := PySem.W.ksp_inPy X hD.at_ hD.refl (.inl rfl)
    by_cases cc : (Value.ref D :: rest').contains (Value.ref C) = true
    · rw [if_pos cc]
      refine wpAny_bind (refl_differs X hC hD e (hR e) hh hu fun rf h' tk' k => ?_)
      cases rf with
      | true =>
        rw [if_pos rfl]
        have no : wpAny (model prog w) A (tryMethod (.ref y) (dunderR nm) (.ref x)) (fun r s' => r = none ∧ s' = { s with heap := h', toks := tk' }) E { s with heap := h', toks := tk' } := by
          unfold tryMethod callSpecial? specialOf
          refine wpAny_bind (wpAny_bind (wpAny_bind ((inst_keeps Iy k).type.here ((PySem.W.looks_findIn (X.keeps k) hD.refl).here ?_))))
          exact wpAny_pure (wpAny_pure ⟨rfl, rfl⟩)
        refine wpAny_bind (wpAny_rule (wpAny_bind (wpAny_mono no (fun r s' hr => ?_) fun _ _ z => z)))
        obtain ⟨rfl, rfl⟩ := hr
        simp only [Bool.not_true, Bool.and_false, Bool.false_eq_true, if_false]
        refine wpAny_bind (wpAny_pure ?_)
        simp only [Bool.false_eq_true, if_false]
        refine wpAny_bind (wpAny_mono (one h' tk' k) (fun r s' hr' => ?_) fun _ _ e => e)
        obtain ⟨v, rfl, hq⟩ := hr'
        exact wpAny_pure (wpAny_pure hq)
      | false =>
        rw [if_neg (by decide)]
        simp only [Bool.not_false, Bool.and_self, if_true]
        refine wpAny_bind ((PC.keeps k).here (wpAny_bind ?_))
        refine (PD.keeps k).here ?_
        simp only [Bool.not_true, Bool.false_eq_true, if_false]
        refine wpAny_bind (wpAny_mono (one h' tk' k) (fun r s' hr' => ?_) fun _ _ e => e)
        obtain ⟨v, rfl, hq⟩ := hr'
        exact wpAny_pure (wpAny_pure hq)
    · rw [if_neg cc]
      rw [if_pos (show (true && !false) = true from rfl)]
      refine wpAny_bind (PC.here (wpAny_bind ?_))
      refine PD.here ?_
      simp only [Bool.not_true, Bool.false_eq_true, if_false]
      refine wpAny_bind (wpAny_mono (one s.heap s.toks fun _ _ e => e) (fun r s' hr' => ?_) fun _ _ e => e)
      obtain ⟨v, rfl, hq⟩ := hr'
      exact wpAny_pure (wpAny_pure hq)
end
/-! ### as rules -/
theorem cmpBack {X : Cx} {pins : List (Addr × Obj)} {σ : L2.St} {Q : VK} {u : Value} {s' : Shared} (h : EP X pins σ Q u s') : PySem.W.CmpBack (EP X pins σ Q) u s' := by
  obtain ⟨v, H', I, rv, q⟩ := id h
  cases v <;> first | (obtain ⟨t, rfl⟩ := rv; exact h) | (cases rv; exact h)
/-- classes that have the operator from one class above them -/
structure OpsC (K : PySem.W.Frag) (nm : String) (CC : Addr → Prop) (f : Addr) : Prop where
  op : ∀ C, CC C → ∃ cd rest, OpC K nm C f cd rest
  ref : ∀ C D, CC C → CC D → D ≠ C → RefOk K nm D C
  fn : PySem.W.isFn K (.ref f) = true
def rOwn (CC : Addr → Prop) (sp : Sp) : V → V → Hp → VK → Prop := fun x y H Q => ∃ (a b C D dx dy : Addr) (fs gs : List (Str × V)), x = .ref a ∧ y = .ref b ∧ H a = some (.ins C dx fs) ∧ H b = some (.ins D dy gs) ∧ CC C ∧ CC D ∧ sp [x, y] H Q fun _ _ _ => False
def rOwnU (CC : Addr → Prop) (sp : Sp) : V → Hp → VK → Prop := fun x H Q => ∃ (a C dx : Addr) (fs : List (Str × V)), x = .ref a ∧ H a = some (.ins C dx fs) ∧ CC C ∧ sp [x] H Q fun _ _ _ => False
section
variable {X : Cx} {CC : Addr → Prop} {f : Addr} {k : Nat} {sp : Sp}
theorem op_own {op : Operator} (O : OpsC X.K op.info.2 CC f) (F : FnR X.prog X.w X.K X.mg X.base CX0 k f sp) (hr : Room k X.A) (hx : Passes CX0 X fun _ _ _ => False) (hc : X.calm = true) (hu : X.A.units + 1 < cLine) : OpR X (binaryOp op) (rOwn CC sp) := by
  intro pins s σ H x y v u Q I rx ry h
  obtain ⟨a, b, C, D, dx, dy, fs, gs, rfl, rfl, ha, hb, cC, cD, q⟩ := h
  obtain rfl : v = Value.ref a := rx
  obtain rfl : u = Value.ref b := ry
  obtain ⟨ox, od, J, _⟩ := insC_at I (.inr ⟨dx, fs, ha⟩)
  obtain ⟨oy, od', J', _⟩ := insC_at I (.inr ⟨dy, gs, hb⟩)
  obtain ⟨cd, rest, oC⟩ := O.op C cC
  obtain ⟨cd', rest', oD⟩ := O.op D cD
  refine binop2 I.kIn J J' oC oD O.fn (O.ref C D cC cD) (I.ok.hd hc) hu fun h' tk' kp => ?_
  refine wpAny_mono (wpAny_call (run_fnR (us := [.ref a, .ref b]) (vs := [.ref a, .ref b]) F hr hx (I.kept (t' := tk') kp) (.cons rfl (.cons rfl .nil)) q)) (fun v s' hv => cmpBack hv) fun _ _ z => z
theorem un_own (hO : ∀ C, CC C → PySem.W.findIn X.K (.ref C) "__invert__" = some (some (.ref f))) (hf : PySem.W.isFn X.K (.ref f) = true) (F : FnR X.prog X.w X.K X.mg X.base CX0 k f sp) (hr : Room k X.A) (hx : Passes CX0 X fun _ _ _ => False) : UnR X (unaryOp .Invert) (rOwnU CC sp) := by
  intro pins s σ H x v Q I rx h
  obtain ⟨a, C, dx, fs, rfl, ha, cC, q⟩ := h
  obtain rfl : v = Value.ref a := rx
  obtain ⟨ox, od, J, _⟩ := insC_at I (.inr ⟨dx, fs, ha⟩)
  obtain ⟨m, F0⟩ := I.fr
  exact PySem.W.ksp_inv F0 I.mod.kin J (hO C cC) hf (wpAny_call (run_fnR (us := [.ref a]) (vs := [.ref a]) F hr hx I (.cons rfl .nil) q))
end
end EH
namespace EH
open PySem PySem.Spec PyProof.Rows L2 StX
/-! ### a method with a star parameter; set(t) -/
structure DMS (K : PySem.W.Frag) (C : Addr) (m q : Str) (st : Stmt) (ps : List Str) (pv : Str) where
  f : Addr
  fd : FuncData
  F : Fun K m q st f fd
  s : ∀ us rest : List Value, us.length = ps.length → bindArgs fd ⟨us ++ rest, []⟩ = (newTuple rest >>= fun t => pure (ps.zip us ++ [(pv, t)]))
  m : Meth K C m f
section
variable {P : Program} {w : World} {K : PySem.W.Frag} {mg : Str → Option Value} {base : Heap}
theorem Fun.okS {x qual pv : Str} {st : Stmt} {f : Addr} {fd : FuncData} {N ps : List Str} {k : Nat} {sp : Sp} (F : Fun K x qual st f fd) (S : FnScope N (ps ++ [pv]) (defScope st)) (hs : ∀ us rest : List Value, us.length = ps.length → bindArgs fd ⟨us ++ rest, []⟩ = (newTuple rest >>= fun t => pure (ps.zip us ++ [(pv, t)])))
    (body : ∀ (cdv : Value) (A : Around) (outer : List Env) (s : Shared) (H : Hp) (vs : List V) (Q : VK) (E : XK), Room k (A.deeper (envOfC qual (defScope st) s.heap.objs.size f cdv)) → sp vs H Q E →
      ∃ t, PSs (cxOf CX0 P w K mg base N qual (defScope st) f cdv A outer s H E).nox (defBody st) t ∧ t { nx := fun _ H' => Q .non H', rt := Q } (start N vs) H) :
    FnR P w K mg base CX0 (k + 1) f (fun vs H Q E => ∃ ws rest, vs = ws ++ rest ∧ ws.length = ps.length ∧ rest.length ≤ sizeLine ∧ ∀ p, H p = none → sp (ws ++ [V.ref p]) (upd H p (.tup rest)) Q E) := by
  obtain ⟨oc, od, kV, doc, pm, an, cdv, ct, osl, rfl, lk, hcd⟩ := F.ex
  refine fn_star lk hcd S cxUp_none hs fun A outer s H vs Q E hr hsp => ?_
  obtain ⟨t, h, q⟩ := body cdv A outer s H vs Q E hr hsp
  exact ⟨t, h.nox, q⟩
theorem dm_rawM {C : Addr} {m q : Str} {st : Stmt} {ps : List Str} {k : Nat} {sp : Sp} (m : DM K C m q st ps) (F : FnOk P w K mg base CX0 k m.f m.fd ps sp) : FnR P w K mg base CX0 k m.f sp :=
  (F.raw m.b .nil).imp fun vs H Q E h => by rw [List.append_nil]; exact h
end
section
variable {X : Cx}
/-- set(t), t a tuple of whole numbers -/
def rSetT (K : PySem.W.Frag) (w : World) : List V → Hp → VK → Prop := fun xs H Q => ∃ (a : Addr) (ns : List Int), xs = [.ref a] ∧ SqT K H a (ns.map V.int) ∧ ns.length < 64 ∧ ∀ (p : Addr) (c : Nat), H p = none → c ≤ ns.length → Q (.ref p) (upd H p (SetO w p (fun j => decide (j ∈ ns)) c))
theorem ints_are : ∀ {ns : List Int} {us : List Value}, Vals (ns.map V.int) us → IntsAre us ns
  | [], _, .nil => .nil
  | n :: ns, _, .cons ⟨t, e⟩ r => by subst e; exact .cons _ _ (ints_are r)
theorem cr_setT {K : PySem.W.Frag} {w : World} (hK : X.K = K) (hw : X.w = w) (hc : X.calm = true) : CallR X (.type "set") (rSetT K w) := by
  subst hK hw
  intro pins s σ H xs us Q I r h
  obtain ⟨a, ns, rfl, ha, hl, q⟩ := h
  obtain ⟨u, rfl⟩ : ∃ u, us = [u] := by
    cases r with
    | cons _ t => cases t; exact ⟨_, rfl⟩
  obtain rfl : u = Value.ref a := by
    cases r with
    | cons e _ => exact e
  obtain ⟨its, rv, pl, hz⟩ := I.tuple ha
  have hb : ns.length + 1 < scanBound := by
    have : (64 : Nat) < scanBound := by decide
    omega
  refine call_set_tupI ns (I.ok.hd hc) pl (ints_are rv) hb fun h' tk c R hcl kp => ?_
  exact ⟨.ref _, upd H s.heap.objs.size (SetO X.w s.heap.objs.size (fun j => decide (j ∈ ns)) c), I.laid kp (Nat.le_refl _) (setO_new R), rfl, q _ c (I.hok.fresh (Nat.le_refl _)) hcl⟩
/-- X(), X's __init__ told by its positional promise -/
theorem pe_makeR0 {CX : CXT} {k : Nat} {f C : Addr} {sp : Sp} {E : XK} {x : Str} {p pos : Pos} (M : Mk X.K C f) (F : FnR X.prog X.w X.K X.mg X.base CX k f sp) (hr : Room (k + 1) X.A) (hg : Gl X x) (hm : X.mg x = some (.ref C)) (hx : Passes CX X E) (hdb : (x == ("__debug__" : Str)) = false := by decide) :
    PE X (.Call (.Name x p) [] [] pos) (tMakeR C sp E tNil) := by
  refine ⟨fun pins s σ H Q I h => ?_⟩
  refine wpAny_Call_Name_kw (ld_glob I hg hm ?_ hdb)
  exact PySem.W.callWith_K0 I.kIn M.kp (run_makeR (us := []) M F hr hx I .nil h)
end
/-! ### the classes of rules: their operators -/
structure RulC (K : PySem.W.Frag) (C fi fa fo fx : Addr) : Prop where
  cls : ∃ cd rest, ClsA K C cd ∧ cd.mro = .ref C :: rest
  inv : PySem.W.findIn K (.ref C) "__invert__" = some (some (.ref fi))
  and_ : PySem.W.findIn K (.ref C) "__and__" = some (some (.ref fa))
  rand : PySem.W.findIn K (.ref C) "__rand__" = some none
  or_ : PySem.W.findIn K (.ref C) "__or__" = some (some (.ref fo))
  ror : PySem.W.findIn K (.ref C) "__ror__" = some none
  xor_ : PySem.W.findIn K (.ref C) "__xor__" = some (some (.ref fx))
  rxor : PySem.W.findIn K (.ref C) "__rxor__" = some none
  cror : PySem.W.findCls K (.ref C) (.type "type") "__ror__" = some (.get (.builtin "wrapper_descriptor.__get__") (.builtin "type.__ror__") (.ref C) (.type "type"))
theorem trand : typeLookup (.type "type") "__rand__" = pure none := by rw [typeLookup_type, builtinLookup_eq_fast]; kernel_rfl
theorem trxor : typeLookup (.type "type") "__rxor__" = pure none := by rw [typeLookup_type, builtinLookup_eq_fast]; kernel_rfl
section
variable {K : PySem.W.Frag} {CC : Addr → Prop} {fi fa fo fx : Addr}
theorem opsc_and (h : ∀ C, CC C → RulC K C fi fa fo fx) (hf : PySem.W.isFn K (.ref fa) = true) : OpsC K (Operator.BitAnd).info.2 CC fa :=
  ⟨fun C c => by
    obtain ⟨cd, rest, a, b⟩ := (h C c).cls
    exact ⟨cd, rest, a, b, (h C c).and_, (h C c).rand⟩, fun C D _ _ _ => ⟨by decide +kernel, .inl trand⟩, hf⟩
theorem opsc_xor (h : ∀ C, CC C → RulC K C fi fa fo fx) (hf : PySem.W.isFn K (.ref fx) = true) : OpsC K (Operator.BitXor).info.2 CC fx :=
  ⟨fun C c => by
    obtain ⟨cd, rest, a, b⟩ := (h C c).cls
    exact ⟨cd, rest, a, b, (h C c).xor_, (h C c).rxor⟩, fun C D _ _ _ => ⟨by decide +kernel, .inl trxor⟩, hf⟩
theorem opsc_or (h : ∀ C, CC C → RulC K C fi fa fo fx) (hf : PySem.W.isFn K (.ref fo) = true) : OpsC K (Operator.BitOr).info.2 CC fo :=
  ⟨fun C c => by
    obtain ⟨cd, rest, a, b⟩ := (h C c).cls
    exact ⟨cd, rest, a, b, (h C c).or_, (h C c).ror⟩, fun C D c d _ => ⟨by decide +kernel, .inr ⟨rfl, fun B e => by rcases e with rfl | rfl; exact (h _ d).cror; exact (h _ c).cror⟩⟩, hf⟩
end
end EH
namespace EH
open PySem L2
def topS (i : Nat) : Stmt := PySem.Challenge.pw_eitherhalf_k43_runs_by_rules.main.body.getD i (.Pass ⟨0, 0, 0, 0⟩)
abbrev s_blocks_of : Stmt := topS 1
theorem sc_blocks_of : FnScope ["statement"] ["statement"] (defScope s_blocks_of) := ⟨rfl, rfl, rfl, by decide +kernel, rfl, by decide +kernel, by decide +kernel⟩
abbrev s_places_in : Stmt := topS 2
theorem sc_places_in : FnScope ["statement", "block", "item"] ["statement"] (defScope s_places_in) := ⟨rfl, rfl, rfl, by decide +kernel, rfl, by decide +kernel, by decide +kernel⟩
abbrev s_value_of : Stmt := topS 6
theorem sc_value_of : FnScope ["expression", "names", "sort", "first", "second"] ["expression", "names"] (defScope s_value_of) := ⟨rfl, rfl, rfl, by decide +kernel, rfl, by decide +kernel, by decide +kernel⟩
abbrev s_is_true : Stmt := topS 7
theorem sc_is_true : FnScope ["test", "names"] ["test", "names"] (defScope s_is_true) := ⟨rfl, rfl, rfl, by decide +kernel, rfl, by decide +kernel, by decide +kernel⟩
abbrev s_Course_init : Stmt := inClass (topS 8) 0
theorem sc_Course_init : FnScope ["self", "number", "choices", "ways", "rule"] ["self", "number", "choices", "ways", "rule"] (defScope s_Course_init) := ⟨rfl, rfl, rfl, by decide +kernel, rfl, by decide +kernel, by decide +kernel⟩
abbrev s_Course_choice : Stmt := inClass (topS 8) 1
theorem sc_Course_choice : FnScope ["self", "value", "place"] ["self", "value", "place"] (defScope s_Course_choice) := ⟨rfl, rfl, rfl, by decide +kernel, rfl, by decide +kernel, by decide +kernel⟩
abbrev s_Course_halved : Stmt := inClass (topS 8) 2
theorem sc_Course_halved : FnScope ["self", "value", "place", "way"] ["self", "value", "place"] (defScope s_Course_halved) := ⟨rfl, rfl, rfl, by decide +kernel, rfl, by decide +kernel, by decide +kernel⟩
abbrev s_Course_do : Stmt := inClass (topS 8) 3
theorem sc_Course_do : FnScope ["self", "statement", "place"] ["self", "statement", "place"] (defScope s_Course_do) := ⟨rfl, rfl, rfl, by decide +kernel, rfl, by decide +kernel, by decide +kernel⟩
abbrev s_Course_parts : Stmt := inClass (topS 8) 4
theorem sc_Course_parts : FnScope ["self", "statement", "place", "item"] ["self", "statement", "place"] (defScope s_Course_parts) := ⟨rfl, rfl, rfl, by decide +kernel, rfl, by decide +kernel, by decide +kernel⟩
abbrev s_Course_go : Stmt := inClass (topS 8) 5
theorem sc_Course_go : FnScope ["self", "block", "place", "statement", "word", "part", "begin"] ["self", "block", "place"] (defScope s_Course_go) := ⟨rfl, rfl, rfl, by decide +kernel, rfl, by decide +kernel, by decide +kernel⟩
abbrev s_course_of : Stmt := topS 9
theorem sc_course_of : FnScope ["program", "number", "choices", "ways", "rule", "course", "word"] ["program", "number", "choices", "ways", "rule"] (defScope s_course_of) := ⟨rfl, rfl, rfl, by decide +kernel, rfl, by decide +kernel, by decide +kernel⟩
abbrev s_Rule_call : Stmt := inClass (topS 11) 0
theorem sc_Rule_call : FnScope ["self", "value", "place"] ["self", "value", "place"] (defScope s_Rule_call) := ⟨rfl, rfl, rfl, by decide +kernel, rfl, by decide +kernel, by decide +kernel⟩
abbrev s_Rule_invert : Stmt := inClass (topS 11) 1
theorem sc_Rule_invert : FnScope ["self"] ["self"] (defScope s_Rule_invert) := ⟨rfl, rfl, rfl, by decide +kernel, rfl, by decide +kernel, by decide +kernel⟩
abbrev s_Rule_and : Stmt := inClass (topS 11) 2
theorem sc_Rule_and : FnScope ["self", "other"] ["self", "other"] (defScope s_Rule_and) := ⟨rfl, rfl, rfl, by decide +kernel, rfl, by decide +kernel, by decide +kernel⟩
abbrev s_Rule_or : Stmt := inClass (topS 11) 3
theorem sc_Rule_or : FnScope ["self", "other"] ["self", "other"] (defScope s_Rule_or) := ⟨rfl, rfl, rfl, by decide +kernel, rfl, by decide +kernel, by decide +kernel⟩
abbrev s_Rule_xor : Stmt := inClass (topS 11) 4
theorem sc_Rule_xor : FnScope ["self", "other"] ["self", "other"] (defScope s_Rule_xor) := ⟨rfl, rfl, rfl, by decide +kernel, rfl, by decide +kernel, by decide +kernel⟩
abbrev s_Rule_marks : Stmt := inClass (topS 11) 5
theorem sc_Rule_marks : FnScope ["self"] ["self"] (defScope s_Rule_marks) := ⟨rfl, rfl, rfl, by decide +kernel, rfl, by decide +kernel, by decide +kernel⟩
abbrev s_Down_call : Stmt := inClass (topS 12) 0
theorem sc_Down_call : FnScope ["self", "value", "place"] ["self", "value", "place"] (defScope s_Down_call) := ⟨rfl, rfl, rfl, by decide +kernel, rfl, by decide +kernel, by decide +kernel⟩
abbrev s_Up_call : Stmt := inClass (topS 13) 0
theorem sc_Up_call : FnScope ["self", "value", "place"] ["self", "value", "place"] (defScope s_Up_call) := ⟨rfl, rfl, rfl, by decide +kernel, rfl, by decide +kernel, by decide +kernel⟩
abbrev s_Even_call : Stmt := inClass (topS 14) 0
theorem sc_Even_call : FnScope ["self", "value", "place"] ["self", "value", "place"] (defScope s_Even_call) := ⟨rfl, rfl, rfl, by decide +kernel, rfl, by decide +kernel, by decide +kernel⟩
abbrev s_Even_marks : Stmt := inClass (topS 14) 1
theorem sc_Even_marks : FnScope ["self"] ["self"] (defScope s_Even_marks) := ⟨rfl, rfl, rfl, by decide +kernel, rfl, by decide +kernel, by decide +kernel⟩
abbrev s_Odd_call : Stmt := inClass (topS 15) 0
theorem sc_Odd_call : FnScope ["self", "value", "place"] ["self", "value", "place"] (defScope s_Odd_call) := ⟨rfl, rfl, rfl, by decide +kernel, rfl, by decide +kernel, by decide +kernel⟩
abbrev s_Odd_marks : Stmt := inClass (topS 15) 1
theorem sc_Odd_marks : FnScope ["self"] ["self"] (defScope s_Odd_marks) := ⟨rfl, rfl, rfl, by decide +kernel, rfl, by decide +kernel, by decide +kernel⟩
abbrev s_Zero_call : Stmt := inClass (topS 16) 0
theorem sc_Zero_call : FnScope ["self", "value", "place"] ["self", "value", "place"] (defScope s_Zero_call) := ⟨rfl, rfl, rfl, by decide +kernel, rfl, by decide +kernel, by decide +kernel⟩
abbrev s_Zero_marks : Stmt := inClass (topS 16) 1
theorem sc_Zero_marks : FnScope ["self"] ["self"] (defScope s_Zero_marks) := ⟨rfl, rfl, rfl, by decide +kernel, rfl, by decide +kernel, by decide +kernel⟩
abbrev s_Away_call : Stmt := inClass (topS 17) 0
theorem sc_Away_call : FnScope ["self", "value", "place"] ["self", "value", "place"] (defScope s_Away_call) := ⟨rfl, rfl, rfl, by decide +kernel, rfl, by decide +kernel, by decide +kernel⟩
abbrev s_Away_marks : Stmt := inClass (topS 17) 1
theorem sc_Away_marks : FnScope ["self"] ["self"] (defScope s_Away_marks) := ⟨rfl, rfl, rfl, by decide +kernel, rfl, by decide +kernel, by decide +kernel⟩
abbrev s_Below_init : Stmt := inClass (topS 18) 0
theorem sc_Below_init : FnScope ["self", "number"] ["self", "number"] (defScope s_Below_init) := ⟨rfl, rfl, rfl, by decide +kernel, rfl, by decide +kernel, by decide +kernel⟩
abbrev s_Below_call : Stmt := inClass (topS 18) 1
theorem sc_Below_call : FnScope ["self", "value", "place"] ["self", "value", "place"] (defScope s_Below_call) := ⟨rfl, rfl, rfl, by decide +kernel, rfl, by decide +kernel, by decide +kernel⟩
abbrev s_Below_marks : Stmt := inClass (topS 18) 2
theorem sc_Below_marks : FnScope ["self"] ["self"] (defScope s_Below_marks) := ⟨rfl, rfl, rfl, by decide +kernel, rfl, by decide +kernel, by decide +kernel⟩
abbrev s_Places_init : Stmt := inClass (topS 19) 0
theorem sc_Places_init : FnScope ["self", "places"] ["self", "places"] (defScope s_Places_init) := ⟨rfl, rfl, rfl, by decide +kernel, rfl, by decide +kernel, by decide +kernel⟩
abbrev s_Places_call : Stmt := inClass (topS 19) 1
theorem sc_Places_call : FnScope ["self", "value", "place"] ["self", "value", "place"] (defScope s_Places_call) := ⟨rfl, rfl, rfl, by decide +kernel, rfl, by decide +kernel, by decide +kernel⟩
abbrev s_Turned_init : Stmt := inClass (topS 20) 0
theorem sc_Turned_init : FnScope ["self", "rule"] ["self", "rule"] (defScope s_Turned_init) := ⟨rfl, rfl, rfl, by decide +kernel, rfl, by decide +kernel, by decide +kernel⟩
abbrev s_Turned_call : Stmt := inClass (topS 20) 1
theorem sc_Turned_call : FnScope ["self", "value", "place"] ["self", "value", "place"] (defScope s_Turned_call) := ⟨rfl, rfl, rfl, by decide +kernel, rfl, by decide +kernel, by decide +kernel⟩
abbrev s_Turned_marks : Stmt := inClass (topS 20) 2
theorem sc_Turned_marks : FnScope ["self"] ["self"] (defScope s_Turned_marks) := ⟨rfl, rfl, rfl, by decide +kernel, rfl, by decide +kernel, by decide +kernel⟩
abbrev s_Joined_init : Stmt := inClass (topS 21) 0
theorem sc_Joined_init : FnScope ["self", "word", "one", "other"] ["self", "word", "one", "other"] (defScope s_Joined_init) := ⟨rfl, rfl, rfl, by decide +kernel, rfl, by decide +kernel, by decide +kernel⟩
abbrev s_Joined_call : Stmt := inClass (topS 21) 1
theorem sc_Joined_call : FnScope ["self", "value", "place", "both"] ["self", "value", "place"] (defScope s_Joined_call) := ⟨rfl, rfl, rfl, by decide +kernel, rfl, by decide +kernel, by decide +kernel⟩
abbrev s_Joined_marks : Stmt := inClass (topS 21) 2
theorem sc_Joined_marks : FnScope ["self", "one", "other"] ["self"] (defScope s_Joined_marks) := ⟨rfl, rfl, rfl, by decide +kernel, rfl, by decide +kernel, by decide +kernel⟩
abbrev s_run_by : Stmt := topS 22
theorem sc_run_by : FnScope ["program", "number", "rule"] ["program", "number", "rule"] (defScope s_run_by) := ⟨rfl, rfl, rfl, by decide +kernel, rfl, by decide +kernel, by decide +kernel⟩
abbrev s_l_deck : Stmt := topS 24
theorem sc_l_deck : FnScope ["_law_script", "_law_cell"] ["_law_script"] (defScope s_l_deck) := ⟨rfl, rfl, rfl, by decide +kernel, rfl, by decide +kernel, by decide +kernel⟩
abbrev s_l_draw : Stmt := topS 25
theorem sc_l_draw : FnScope ["_law_deck_here", "_law_many", "_law_cell", "_law_at", "_law_mixed"] ["_law_deck_here", "_law_many"] (defScope s_l_draw) := ⟨rfl, rfl, rfl, by decide +kernel, rfl, by decide +kernel, by decide +kernel⟩
abbrev s_l_one : Stmt := topS 26
theorem sc_l_one : FnScope ["_law_deck_here", "_law_items"] ["_law_deck_here", "_law_items"] (defScope s_l_one) := ⟨rfl, rfl, rfl, by decide +kernel, rfl, by decide +kernel, by decide +kernel⟩
abbrev s_l_names : Stmt := topS 27
theorem sc_l_names : FnScope ["_law_deck_here", "_law_letters", "_law_left", "_law_signs", "_law_right", "_law_k"] ["_law_deck_here"] (defScope s_l_names) := ⟨rfl, rfl, rfl, by decide +kernel, rfl, by decide +kernel, by decide +kernel⟩
abbrev s_l_expression : Stmt := topS 28
theorem sc_l_expression : FnScope ["_law_deck_here", "_law_names_here", "_law_deep", "_law_way_here", "_law_factor", "_law_first"] ["_law_deck_here", "_law_names_here", "_law_deep"] (defScope s_l_expression) := ⟨rfl, rfl, rfl, by decide +kernel, rfl, by decide +kernel, by decide +kernel⟩
abbrev s_l_test : Stmt := topS 29
theorem sc_l_test : FnScope ["_law_deck_here", "_law_names_here", "_law_left", "_law_times", "_law_nots", "_law_test_here", "_law_k"] ["_law_deck_here", "_law_names_here", "_law_left", "_law_times"] (defScope s_l_test) := ⟨rfl, rfl, rfl, by decide +kernel, rfl, by decide +kernel, by decide +kernel⟩
abbrev s_l_plain : Stmt := topS 30
theorem sc_l_plain : FnScope ["_law_deck_here", "_law_names_here", "_law_left", "_law_times", "_law_way_here", "_law_name"] ["_law_deck_here", "_law_names_here", "_law_left", "_law_times"] (defScope s_l_plain) := ⟨rfl, rfl, rfl, by decide +kernel, rfl, by decide +kernel, by decide +kernel⟩
abbrev s_l_row : Stmt := topS 31
theorem sc_l_row : FnScope ["_law_deck_here", "_law_names_here", "_law_left", "_law_times", "_law_depth", "_law_way_here", "_law_test_here", "_law_yes", "_law_no", "_law_again", "_law_block_here"] ["_law_deck_here", "_law_names_here", "_law_left", "_law_times", "_law_depth"] (defScope s_l_row) := ⟨rfl, rfl, rfl, by decide +kernel, rfl, by decide +kernel, by decide +kernel⟩
abbrev s_l_block : Stmt := topS 32
theorem sc_l_block : FnScope ["_law_deck_here", "_law_names_here", "_law_left", "_law_times", "_law_depth", "_law_many", "_law_rows", "_law_k", "_law_row_here"] ["_law_deck_here", "_law_names_here", "_law_left", "_law_times", "_law_depth"] (defScope s_l_block) := ⟨rfl, rfl, rfl, by decide +kernel, rfl, by decide +kernel, by decide +kernel⟩
abbrev s_l_program : Stmt := topS 33
theorem sc_l_program : FnScope ["_law_deck_here", "_law_names_here", "_law_left", "_law_program_here", "_law_k"] ["_law_deck_here", "_law_names_here"] (defScope s_l_program) := ⟨rfl, rfl, rfl, by decide +kernel, rfl, by decide +kernel, by decide +kernel⟩
abbrev s_l_number : Stmt := topS 34
theorem sc_l_number : FnScope ["_law_deck_here", "_law_way_here", "_law_sign"] ["_law_deck_here"] (defScope s_l_number) := ⟨rfl, rfl, rfl, by decide +kernel, rfl, by decide +kernel, by decide +kernel⟩
abbrev s_l_value : Stmt := topS 35
theorem sc_l_value : FnScope ["_law_expression_here", "_law_names_here", "_law_second", "_law_first"] ["_law_expression_here", "_law_names_here"] (defScope s_l_value) := ⟨rfl, rfl, rfl, by decide +kernel, rfl, by decide +kernel, by decide +kernel⟩
abbrev s_l_true : Stmt := topS 36
theorem sc_l_true : FnScope ["_law_test_here", "_law_names_here"] ["_law_test_here", "_law_names_here"] (defScope s_l_true) := ⟨rfl, rfl, rfl, by decide +kernel, rfl, by decide +kernel, by decide +kernel⟩
abbrev s_l_size : Stmt := topS 37
theorem sc_l_size : FnScope ["_law_block_here", "_law_found", "_law_row_here", "_law_inner", "_law_part"] ["_law_block_here"] (defScope s_l_size) := ⟨rfl, rfl, rfl, by decide +kernel, rfl, by decide +kernel, by decide +kernel⟩
abbrev s_l_go : Stmt := topS 38
theorem sc_l_go : FnScope ["_law_world", "_law_block_here", "_law_place", "_law_row_here", "_law_word", "_law_parts", "_law_part", "_law_begin"] ["_law_world", "_law_block_here", "_law_place"] (defScope s_l_go) := ⟨rfl, rfl, rfl, by decide +kernel, rfl, by decide +kernel, by decide +kernel⟩
abbrev s_l_do : Stmt := topS 39
theorem sc_l_do : FnScope ["_law_world", "_law_row_here", "_law_place", "_law_value_here", "_law_turn"] ["_law_world", "_law_row_here", "_law_place"] (defScope s_l_do) := ⟨rfl, rfl, rfl, by decide +kernel, rfl, by decide +kernel, by decide +kernel⟩
abbrev s_l_run : Stmt := topS 40
theorem sc_l_run : FnScope ["_law_program_here", "_law_number_here", "_law_choose", "_law_world", "_law_word"] ["_law_program_here", "_law_number_here", "_law_choose"] (defScope s_l_run) := ⟨rfl, rfl, rfl, by decide +kernel, rfl, by decide +kernel, by decide +kernel⟩
abbrev s_l_by : Stmt := topS 41
theorem sc_l_by : FnScope ["_law_choices"] ["_law_choices"] (defScope s_l_by) := ⟨rfl, rfl, rfl, by decide +kernel, rfl, by decide +kernel, by decide +kernel⟩
abbrev s_l_rule : Stmt := topS 42
theorem sc_l_rule : FnScope ["_law_deck_here", "_law_high", "_law_way_here", "_law_one_here", "_law_other", "_law_number_here", "_law_made"] ["_law_deck_here", "_law_high"] (defScope s_l_rule) := ⟨rfl, rfl, rfl, by decide +kernel, rfl, by decide +kernel, by decide +kernel⟩
abbrev s_l_placed : Stmt := topS 43
theorem sc_l_placed : FnScope ["_law_deck_here", "_law_p", "_law_many", "_law_k"] ["_law_deck_here"] (defScope s_l_placed) := ⟨rfl, rfl, rfl, by decide +kernel, rfl, by decide +kernel, by decide +kernel⟩
abbrev s_l_way : Stmt := topS 44
theorem sc_l_way : FnScope ["_law_told", "_law_value_here", "_law_place", "_law_word", "_law_both", "_law_is_up"] ["_law_told", "_law_value_here", "_law_place"] (defScope s_l_way) := ⟨rfl, rfl, rfl, by decide +kernel, rfl, by decide +kernel, by decide +kernel⟩
abbrev s_l_chooser : Stmt := topS 45
theorem sc_l_chooser : FnScope ["_law_told"] ["_law_told"] (defScope s_l_chooser) := ⟨rfl, rfl, rfl, by decide +kernel, rfl, by decide +kernel, by decide +kernel⟩
abbrev s_law : Stmt := topS 46
theorem sc_law : FnScope ["_law_script", "_law_deck_here", "_law_turn", "_law_program_here", "_law_k", "_law_rule_here", "_law_told", "_law_number_here", "_law_due"] ["_law_script"] (defScope s_law) := ⟨rfl, rfl, rfl, by decide +kernel, rfl, by decide +kernel, by decide +kernel⟩
structure Top (K : PySem.W.Frag) (mg : Str → Option Value) where
  blocks_of : DA K mg "blocks_of" s_blocks_of ["statement"]
  places_in : DA K mg "places_in" s_places_in ["statement"]
  value_of : DA K mg "value_of" s_value_of ["expression", "names"]
  is_true : DA K mg "is_true" s_is_true ["test", "names"]
  course_of : DA K mg "course_of" s_course_of ["program", "number", "choices", "ways", "rule"]
  run_by : DA K mg "run_by" s_run_by ["program", "number", "rule"]
  l_deck : DA K mg "_law_deck" s_l_deck ["_law_script"]
  l_draw : DA K mg "_law_draw" s_l_draw ["_law_deck_here", "_law_many"]
  l_one : DA K mg "_law_one" s_l_one ["_law_deck_here", "_law_items"]
  l_names : DA K mg "_law_names" s_l_names ["_law_deck_here"]
  l_expression : DA K mg "_law_expression" s_l_expression ["_law_deck_here", "_law_names_here", "_law_deep"]
  l_test : DA K mg "_law_test" s_l_test ["_law_deck_here", "_law_names_here", "_law_left", "_law_times"]
  l_plain : DA K mg "_law_plain" s_l_plain ["_law_deck_here", "_law_names_here", "_law_left", "_law_times"]
  l_row : DA K mg "_law_row" s_l_row ["_law_deck_here", "_law_names_here", "_law_left", "_law_times", "_law_depth"]
  l_block : DA K mg "_law_block" s_l_block ["_law_deck_here", "_law_names_here", "_law_left", "_law_times", "_law_depth"]
  l_program : DA K mg "_law_program" s_l_program ["_law_deck_here", "_law_names_here"]
  l_number : DA K mg "_law_number" s_l_number ["_law_deck_here"]
  l_value : DA K mg "_law_value" s_l_value ["_law_expression_here", "_law_names_here"]
  l_true : DA K mg "_law_true" s_l_true ["_law_test_here", "_law_names_here"]
  l_size : DA K mg "_law_size" s_l_size ["_law_block_here"]
  l_go : DA K mg "_law_go" s_l_go ["_law_world", "_law_block_here", "_law_place"]
  l_do : DA K mg "_law_do" s_l_do ["_law_world", "_law_row_here", "_law_place"]
  l_run : DA K mg "_law_run" s_l_run ["_law_program_here", "_law_number_here", "_law_choose"]
  l_rule : DA K mg "_law_rule" s_l_rule ["_law_deck_here", "_law_high"]
  l_placed : DA K mg "_law_placed" s_l_placed ["_law_deck_here"]
  l_way : DA K mg "_law_way" s_l_way ["_law_told", "_law_value_here", "_law_place"]
  l_chooser : DA K mg "_law_chooser" s_l_chooser ["_law_told"]
  law : DA K mg "law" s_law ["_law_script"]
  Course : CA K mg "Course"
  Course_init : DM K Course.C "__init__" "Course.__init__" s_Course_init ["self", "number", "choices", "ways", "rule"]
  Course_choice : DM K Course.C "choice" "Course.choice" s_Course_choice ["self", "value", "place"]
  Course_halved : DM K Course.C "halved" "Course.halved" s_Course_halved ["self", "value", "place"]
  Course_do : DM K Course.C "do" "Course.do" s_Course_do ["self", "statement", "place"]
  Course_parts : DM K Course.C "parts" "Course.parts" s_Course_parts ["self", "statement", "place"]
  Course_go : DM K Course.C "go" "Course.go" s_Course_go ["self", "block", "place"]
  mk_Course : Mk K Course.C Course_init.f
  n_Course_names : NoAttr K Course.C "names"
  n_Course_said : NoAttr K Course.C "said"
  n_Course_turns : NoAttr K Course.C "turns"
  n_Course_choices : NoAttr K Course.C "choices"
  n_Course_ways : NoAttr K Course.C "ways"
  n_Course_rule : NoAttr K Course.C "rule"
  Rule : CA K mg "Rule"
  Rule_call : DM K Rule.C "__call__" "Rule.__call__" s_Rule_call ["self", "value", "place"]
  Rule_invert : DM K Rule.C "__invert__" "Rule.__invert__" s_Rule_invert ["self"]
  Rule_and : DM K Rule.C "__and__" "Rule.__and__" s_Rule_and ["self", "other"]
  Rule_or : DM K Rule.C "__or__" "Rule.__or__" s_Rule_or ["self", "other"]
  Rule_xor : DM K Rule.C "__xor__" "Rule.__xor__" s_Rule_xor ["self", "other"]
  Rule_marks : DM K Rule.C "marks" "Rule.marks" s_Rule_marks ["self"]
  i0_Rule : PySem.W.findIn K (.ref Rule.C) "__init__" = some (some (.builtin "object.__init__"))
  Down : CA K mg "Down"
  Down_call : DM K Down.C "__call__" "Down.__call__" s_Down_call ["self", "value", "place"]
  i0_Down : PySem.W.findIn K (.ref Down.C) "__init__" = some (some (.builtin "object.__init__"))
  Up : CA K mg "Up"
  Up_call : DM K Up.C "__call__" "Up.__call__" s_Up_call ["self", "value", "place"]
  i0_Up : PySem.W.findIn K (.ref Up.C) "__init__" = some (some (.builtin "object.__init__"))
  Even : CA K mg "Even"
  Even_call : DM K Even.C "__call__" "Even.__call__" s_Even_call ["self", "value", "place"]
  Even_marks : DM K Even.C "marks" "Even.marks" s_Even_marks ["self"]
  i0_Even : PySem.W.findIn K (.ref Even.C) "__init__" = some (some (.builtin "object.__init__"))
  Odd : CA K mg "Odd"
  Odd_call : DM K Odd.C "__call__" "Odd.__call__" s_Odd_call ["self", "value", "place"]
  Odd_marks : DM K Odd.C "marks" "Odd.marks" s_Odd_marks ["self"]
  i0_Odd : PySem.W.findIn K (.ref Odd.C) "__init__" = some (some (.builtin "object.__init__"))
  Zero : CA K mg "Zero"
  Zero_call : DM K Zero.C "__call__" "Zero.__call__" s_Zero_call ["self", "value", "place"]
  Zero_marks : DM K Zero.C "marks" "Zero.marks" s_Zero_marks ["self"]
  i0_Zero : PySem.W.findIn K (.ref Zero.C) "__init__" = some (some (.builtin "object.__init__"))
  Away : CA K mg "Away"
  Away_call : DM K Away.C "__call__" "Away.__call__" s_Away_call ["self", "value", "place"]
  Away_marks : DM K Away.C "marks" "Away.marks" s_Away_marks ["self"]
  i0_Away : PySem.W.findIn K (.ref Away.C) "__init__" = some (some (.builtin "object.__init__"))
  Below : CA K mg "Below"
  Below_init : DM K Below.C "__init__" "Below.__init__" s_Below_init ["self", "number"]
  Below_call : DM K Below.C "__call__" "Below.__call__" s_Below_call ["self", "value", "place"]
  Below_marks : DM K Below.C "marks" "Below.marks" s_Below_marks ["self"]
  mk_Below : Mk K Below.C Below_init.f
  n_Below_number : NoAttr K Below.C "number"
  Places : CA K mg "Places"
  Places_init : DMS K Places.C "__init__" "Places.__init__" s_Places_init ["self"] "places"
  Places_call : DM K Places.C "__call__" "Places.__call__" s_Places_call ["self", "value", "place"]
  mk_Places : Mk K Places.C Places_init.f
  n_Places_places : NoAttr K Places.C "places"
  Turned : CA K mg "Turned"
  Turned_init : DM K Turned.C "__init__" "Turned.__init__" s_Turned_init ["self", "rule"]
  Turned_call : DM K Turned.C "__call__" "Turned.__call__" s_Turned_call ["self", "value", "place"]
  Turned_marks : DM K Turned.C "marks" "Turned.marks" s_Turned_marks ["self"]
  mk_Turned : Mk K Turned.C Turned_init.f
  n_Turned_inner : NoAttr K Turned.C "inner"
  Joined : CA K mg "Joined"
  Joined_init : DM K Joined.C "__init__" "Joined.__init__" s_Joined_init ["self", "word", "one", "other"]
  Joined_call : DM K Joined.C "__call__" "Joined.__call__" s_Joined_call ["self", "value", "place"]
  Joined_marks : DM K Joined.C "marks" "Joined.marks" s_Joined_marks ["self"]
  mk_Joined : Mk K Joined.C Joined_init.f
  n_Joined_word : NoAttr K Joined.C "word"
  n_Joined_one : NoAttr K Joined.C "one"
  n_Joined_other : NoAttr K Joined.C "other"
  op_Rule : RulC K Rule.C Rule_invert.f Rule_and.f Rule_or.f Rule_xor.f
  op_Down : RulC K Down.C Rule_invert.f Rule_and.f Rule_or.f Rule_xor.f
  op_Up : RulC K Up.C Rule_invert.f Rule_and.f Rule_or.f Rule_xor.f
  op_Even : RulC K Even.C Rule_invert.f Rule_and.f Rule_or.f Rule_xor.f
  op_Odd : RulC K Odd.C Rule_invert.f Rule_and.f Rule_or.f Rule_xor.f
  op_Zero : RulC K Zero.C Rule_invert.f Rule_and.f Rule_or.f Rule_xor.f
  op_Away : RulC K Away.C Rule_invert.f Rule_and.f Rule_or.f Rule_xor.f
  op_Below : RulC K Below.C Rule_invert.f Rule_and.f Rule_or.f Rule_xor.f
  op_Places : RulC K Places.C Rule_invert.f Rule_and.f Rule_or.f Rule_xor.f
  op_Turned : RulC K Turned.C Rule_invert.f Rule_and.f Rule_or.f Rule_xor.f
  op_Joined : RulC K Joined.C Rule_invert.f Rule_and.f Rule_or.f Rule_xor.f
  is_Rule : PySem.W.isIn K (.ref Rule.C) Rule.C = true
  is_Down : PySem.W.isIn K (.ref Down.C) Rule.C = true
  is_Up : PySem.W.isIn K (.ref Up.C) Rule.C = true
  is_Even : PySem.W.isIn K (.ref Even.C) Rule.C = true
  is_Odd : PySem.W.isIn K (.ref Odd.C) Rule.C = true
  is_Zero : PySem.W.isIn K (.ref Zero.C) Rule.C = true
  is_Away : PySem.W.isIn K (.ref Away.C) Rule.C = true
  is_Below : PySem.W.isIn K (.ref Below.C) Rule.C = true
  is_Places : PySem.W.isIn K (.ref Places.C) Rule.C = true
  is_Turned : PySem.W.isIn K (.ref Turned.C) Rule.C = true
  is_Joined : PySem.W.isIn K (.ref Joined.C) Rule.C = true
  t_DOWN : Tok
  g_DOWN : mg "DOWN" = some (.int 0 t_DOWN)
  t_INPUT : Tok
  g_INPUT : mg "INPUT" = some (.str "n" t_INPUT)
  abs : mg "abs" = none
  int : mg "int" = none
  isinstance : mg "isinstance" = none
  len : mg "len" = none
  max : mg "max" = none
  range : mg "range" = none
  repr : mg "repr" = none
  set : mg "set" = none
  sorted : mg "sorted" = none
  str : mg "str" = none
  sum : mg "sum" = none
  tuple : mg "tuple" = none
end EH
namespace EH
open PySem L2
local macro_rules | `(tactic| walk_at "sd") => `(tactic| first | assumption | ((with_reducible show (_ : Int) ≤ _); omega) | ((with_reducible show (_ : Int) < _); omega) | rfl | exact SqL.of (by assumption) | exact SqT.of (by assumption) | exact atI_nat (j := 0) rfl | exact atI_nat (j := 1) rfl | exact atI_nat (j := 2) rfl | exact atI_nat (j := 3) rfl | exact sz_lit rfl | exact lt_lit rfl | exact pos_lit rfl | exact le_lit rfl | exact Or.inl (SqL.of (by assumption)) | exact ⟨_, SqL.of (by assumption)⟩ | exact ⟨_, SqT.of (by assumption)⟩ | exact Or.inr (SqT.of (by assumption)) | exact ClsV.ty _ | exact TyX.base (TyOf.int _) | exact TyX.base (TyOf.str _) | exact TyX.base (TyOf.tup (by assumption)) | exact kit_ty isi_ss | exact kit_ty isi_is | exact kit_ty isi_ts | exact kit_ty isi_si | exact kit_ty isi_ii | exact kit_ty isi_ti | exact kit_ty isi_st | exact kit_ty isi_it | exact kit_ty isi_tt | exact Or.inl ⟨_, Or.inl (by assumption)⟩ | exact DGet.k (k := Sum.inr _) (by assumption) | exact DGet.k (k := Sum.inl _) (by assumption) | (refine cpow_of ?_; decide) | (refine cmul_of ?_; decide) | (show (_ : Int) ≠ 0; first | decide | omega) | (refine cdivn_of ?_; decide) | exact Or.inl ⟨rfl, _, SqL.of (by assumption)⟩ | omega)
local macro_rules | `(tactic| walk_at "st") => `(tactic| first | (apply Exists.intro) | (refine And.intro ?_ ?_; focus (walk_at "sd")) | (apply Or.inl; apply Exists.intro; refine And.intro ?_ ?_; focus rfl) | (apply Or.inr; apply Exists.intro; refine And.intro ?_ ?_; focus rfl))
local macro_rules | `(tactic| walk_at "go") => `(tactic| repeat (walk_at "st"))
section
variable {P : Program} {w : World} {K : PySem.W.Frag} {mg : Str → Option Value} {base : Heap}
theorem ok_l_draw (T : Top K mg) {k : Nat} : FnOk P w K mg base CX0 (k + 1) T.l_draw.f T.l_draw.fd ["_law_deck_here", "_law_many"] spDraw := by
  refine T.l_draw.F.ok sc_l_draw (fun vs H Q E h => ?_) (fun cdv A outer s H vs Q E hr h => ?_)
  · obtain ⟨a, c, n, many, rfl, _⟩ := h
    rfl
  obtain ⟨a, c, n, many, rfl, hD, hn, hm, hm2, q⟩ := h
  refine ⟨_, (pss_cons (ps_asg (pe_op op_add (pe_ix (ix_listK (K := K) rfl) (pv 0) pe_int (fun _ _ => rfl)) pe_int) (pg_sub (pv 0) pe_int set_listA))
      (pss_cons (ps_asg (pe_tupA (pa_cons pe_int (pa_cons (pe_un un_neg pe_int) pa_nil))) (pg_tup (by rfl) (pgs_cons (pg_name (i := 2) sc_l_draw.nd rfl (.inl rfl)) (pgs_cons (pg_name (i := 3) sc_l_draw.nd rfl (.inl rfl)) pgs_nil))))
      (pss_cons (ps_if (pt_cmpR op_gt (pe_callB (id := "len") (call_lenK (K := K) rfl) (by rfl) T.len PySem.boot_len (pa_cons (pe_ix (ix_listK (K := K) rfl) (pv 0) pe_int (fun _ _ => rfl)) pa_nil)) pe_int (nomark _)) (pss_cons (ps_set (i := 3) sc_l_draw.nd rfl (.inl rfl) (pe_op op_modN (pe_callTy (T := "int") call_int1 (by rfl) T.int (by decide +kernel) (pa_cons (pe_ix (ix_listK (K := K) rfl) (pv 0) pe_int (fun _ _ => rfl)) pa_nil)) (pe_callB (id := "len") (call_lenK (K := K) rfl) (by rfl) T.len PySem.boot_len (pa_cons (pe_ix (ix_listK (K := K) rfl) (pv 0) pe_int (fun _ _ => rfl)) pa_nil))))
      (pss_one (ps_set (i := 2) sc_l_draw.nd rfl (.inl rfl) (pe_ix (ix_listK (K := K) rfl) (pe_ix (ix_listK (K := K) rfl) (pv 0) pe_int (fun _ _ => rfl)) (pv 3) (fun _ _ => rfl))))) pss_nil)
      (pss_cons (ps_if (pt_cmpR op_ge (pv 2) (pe_op op_pow pe_int pe_int) (nomark _)) (pss_cons (ps_asg (pe_op op_fdivW (pe_callTy (T := "int") call_int1 (by rfl) T.int (by decide +kernel) (pa_cons (pv 2) pa_nil)) (pv 1)) (pg_sub (pe_ix (ix_listK (K := K) rfl) (pv 0) pe_int (fun _ _ => rfl)) (pv 3) set_listA))
      (pss_one (ps_ret (pe_op op_modN (pe_callTy (T := "int") call_int1 (by rfl) T.int (by decide +kernel) (pa_cons (pv 2) pa_nil)) (pv 1))))) pss_nil)
      (pss_cons (ps_set (i := 4) sc_l_draw.nd rfl (.inl rfl) (pe_op op_add (pe_op op_add (pe_op op_modN (pe_callTy (T := "int") call_int1 (by rfl) T.int (by decide +kernel) (pa_cons (pv 2) pa_nil)) pe_int) (pe_op op_mul pe_int (pe_ix (ix_listK (K := K) rfl) (pv 0) pe_int (fun _ _ => rfl)))) pe_int))
      (pss_one (ps_ret (pe_op op_modN (pe_callTy (T := "int") call_int1 (by rfl) T.int (by decide +kernel) (pa_cons (pe_op op_modN (pe_callTy (T := "int") call_int1 (by rfl) T.int (by decide +kernel) (pa_cons (pe_op op_pow (pv 4) pe_int) pa_nil)) pe_int) pa_nil)) (pv 1))))))))), ?_⟩
  obtain ⟨cs, h1, h2, ok⟩ := hD.ex
  have hn1 : n ≤ 1000000000 := hn
  have nac : a ≠ c := hD.ne
  walk_at "go"
  intro H1 g1 k1
  replace g1 : H1 a = some (.lst [V.ref c, V.int (n + 1)]) := g1
  walk_at "go"
  intro t H2 ht e2
  have g2 := new_at e2
  have k2 := new_kp ht e2
  have a2 := k2.at g1
  have c1 := k1.keep _ _ h2 (ne1 nac.symm)
  have c2 := k2.at c1
  clear e2
  walk_at "go"
  have len1 : ((cs.map V.int).length : Int) = (cs.length : Int) := by rw [List.length_map]
  have l63 := ok.len
  have n0 := ok.n0
  refine ite2 (fun hc => ?_) (fun hc => ?_)
  · have hc1 : (0 : Int) < ((cs.map V.int).length : Int) := of_decide_eq_true hc
    have f0 := Int.fmod_nonneg_of_pos (a := n + 1) hc1
    have f1 := Int.fmod_lt_of_pos (a := n + 1) hc1
    obtain ⟨v, hv, vm⟩ := atI_mem f0 f1
    obtain ⟨x, xm, rfl⟩ := List.mem_map.mp vm
    have x0 := ok.pos x xm
    walk_at "go"
    refine ite2 (fun hd => ?_) (fun hd => ?_)
    · walk_at "go"
      refine ⟨⟨hm, Nat.lt_of_lt_of_le (PySem.Flt.log2_lt_of (by decide) hm2) (by decide)⟩, ?_⟩
      walk_at "go"
      refine ⟨ixN_nat f0 f1, ?_⟩
      intro H3 g3 k3
      walk_at "go"
      refine q _ H3 (Int.fmod_nonneg_of_pos _ hm) (Int.fmod_lt_of_pos _ hm) ⟨cs.set ((n + 1).fmod ((cs.map V.int).length : Int)).toNat (x / many), k3.keep _ _ a2 (ne1 nac), ?_, ?_, ?_, by omega⟩ ((((Kp.refl.step1 k1 (.inl (by simp))).step0 k2)).step1 k3 (.inl (by simp)))
      · rw [g3, List.map_set]
      · rw [List.length_set]
        exact l63
      · intro y hy
        rcases List.mem_or_eq_of_mem_set hy with hy | rfl
        · exact ok.pos y hy
        · exact Int.ediv_nonneg x0 (Int.le_of_lt hm)
    · walk_at "go"
      have m0 := Int.fmod_nonneg_of_pos x (b := 2147483563) (by decide)
      have m1 := Int.fmod_lt_of_pos x (b := 2147483563) (by decide)
      refine ⟨⟨by decide, by decide, ?_⟩, ?_⟩
      · show (x.fmod 2147483563 + 8117 * (n + 1) + 3).natAbs < 2 ^ 64
        have e : (2 : Nat) ^ 64 = 18446744073709551616 := by decide
        rw [e]
        omega
      walk_at "go"
      exact q _ H2 (Int.fmod_nonneg_of_pos _ hm) (Int.fmod_lt_of_pos _ hm) ⟨cs, a2, c2, l63, ok.pos, by omega⟩ ((Kp.refl.step1 k1 (.inl (by simp))).step0 k2)
  · walk_at "go"
    refine ⟨⟨by decide, by decide, ?_⟩, ?_⟩
    · show ((0 : Int).fmod 2147483563 + 8117 * (n + 1) + 3).natAbs < 2 ^ 64
      have e : (2 : Nat) ^ 64 = 18446744073709551616 := by decide
      have e2 : (0 : Int).fmod 2147483563 = 0 := by decide
      rw [e, e2]
      omega
    walk_at "go"
    exact q _ H2 (Int.fmod_nonneg_of_pos _ hm) (Int.fmod_lt_of_pos _ hm) ⟨cs, a2, c2, l63, ok.pos, by omega⟩ ((Kp.refl.step1 k1 (.inl (by simp))).step0 k2)
theorem ok_l_one2 (T : Top K mg) {k : Nat} : FnOk P w K mg base CX0 (k + 2) T.l_one.f T.l_one.fd ["_law_deck_here", "_law_items"] (spOne2 K) := by
  have G_l_draw : FnOk P w K mg base CX0 (k + 1) T.l_draw.f T.l_draw.fd ["_law_deck_here", "_law_many"] spDraw := ok_l_draw T
  refine T.l_one.F.ok sc_l_one (fun vs H Q E h => ?_) (fun cdv A outer s H vs Q E hr h => ?_)
  · rcases h with ⟨a, c, l, n, xs, rfl, _⟩ | ⟨a, c, n, z, rfl, _⟩ <;> rfl
  refine ⟨_, (pss_one (ps_ret (pe_ix (IxR.or (ix_listK (K := K) rfl) ix_str) (pv 1) (pe_call G_l_draw (hr.mono (by omega)) (by rfl) T.l_draw.g T.l_draw.F.kp T.l_draw.b .nil pass0 (pa_cons (pv 0) (pa_cons (pe_callB (id := "len") (CallR.or (call_lenK (K := K) rfl) call_len_str) (by rfl) T.len PySem.boot_len (pa_cons (pv 1) pa_nil)) pa_nil))) (fun _ _ => rfl)))), ?_⟩
  rcases h with ⟨a, c, l, n, xs, rfl, hD, hn, hS, hl, h0, hz, q⟩ | ⟨a, c, n, z, rfl, hD, hn, h0, hz, q⟩
  · refine ⟨_, rfl, _, rfl, _, rfl, .inl ⟨l, xs, rfl, .inl hS, a, c, n, _, rfl, hD, hn, by omega, pow1000 hz, fun r H1 r0 r1 D1 k1 => ?_⟩⟩
    obtain ⟨v, hv, vm⟩ := atI_mem r0 r1
    exact .inl ⟨l, xs, _, _, rfl, rfl, k1.seq hS hl, hv, q _ H1 vm D1 k1⟩
  · refine ⟨_, rfl, _, rfl, _, rfl, .inr ⟨z, rfl, sz_le hz, a, c, n, _, rfl, hD, hn, by omega, pow1000 hz, fun r H1 r0 r1 D1 k1 => ?_⟩⟩
    have r2 : r < (z.cps.toList.length : Int) := by rw [Array.length_toList]; exact r1
    obtain ⟨v, hv, vm⟩ := atI_mem r0 r2
    exact .inr ⟨z, _, v, rfl, rfl, sz_le hz, hv, q _ H1 vm D1 k1⟩
theorem ok_l_one (T : Top K mg) {k : Nat} : FnOk P w K mg base CX0 (k + 2) T.l_one.f T.l_one.fd ["_law_deck_here", "_law_items"] (spOne K) := (ok_l_one2 T).imp fun _ _ _ _ h => .inl h
theorem ok_l_oneS (T : Top K mg) {k : Nat} : FnOk P w K mg base CX0 (k + 2) T.l_one.f T.l_one.fd ["_law_deck_here", "_law_items"] spOneS := (ok_l_one2 T).imp fun _ _ _ _ h => .inr h
end
end EH
namespace EH
open PySem L2
local macro_rules | `(tactic| walk_at "sd") => `(tactic| first | assumption | ((with_reducible show (_ : Int) ≤ _); omega) | ((with_reducible show (_ : Int) < _); omega) | rfl | exact SqL.of (by assumption) | exact SqT.of (by assumption) | exact atI_nat (j := 0) rfl | exact atI_nat (j := 1) rfl | exact atI_nat (j := 2) rfl | exact atI_nat (j := 3) rfl | exact sz_lit rfl | exact lt_lit rfl | exact pos_lit rfl | exact le_lit rfl | exact Or.inl (SqL.of (by assumption)) | exact ⟨_, SqL.of (by assumption)⟩ | exact ⟨_, SqT.of (by assumption)⟩ | exact Or.inr (SqT.of (by assumption)) | exact ClsV.ty _ | exact TyX.base (TyOf.int _) | exact TyX.base (TyOf.str _) | exact TyX.base (TyOf.tup (by assumption)) | exact kit_ty isi_ss | exact kit_ty isi_is | exact kit_ty isi_ts | exact kit_ty isi_si | exact kit_ty isi_ii | exact kit_ty isi_ti | exact kit_ty isi_st | exact kit_ty isi_it | exact kit_ty isi_tt | exact Or.inl ⟨_, Or.inl (by assumption)⟩ | exact DGet.k (k := Sum.inr _) (by assumption) | exact DGet.k (k := Sum.inl _) (by assumption) | (refine cpow_of ?_; decide) | (refine cmul_of ?_; decide) | (show (_ : Int) ≠ 0; first | decide | omega) | (refine cdivn_of ?_; decide) | exact Or.inl ⟨rfl, _, SqL.of (by assumption)⟩ | omega)
local macro_rules | `(tactic| walk_at "st") => `(tactic| first | (apply Exists.intro) | (refine And.intro ?_ ?_; focus (walk_at "sd")) | (apply Or.inl; apply Exists.intro; refine And.intro ?_ ?_; focus rfl) | (apply Or.inr; apply Exists.intro; refine And.intro ?_ ?_; focus rfl))
local macro_rules | `(tactic| walk_at "go") => `(tactic| repeat (walk_at "st"))
section
variable {P : Program} {w : World} {K : PySem.W.Frag} {mg : Str → Option Value} {base : Heap}
theorem ok_l_deck (T : Top K mg) {k : Nat} : FnOk P w K mg base CX0 (k + 1) T.l_deck.f T.l_deck.fd ["_law_script"] (spDeck K) := by
  refine T.l_deck.F.ok sc_l_deck (fun vs H Q E h => ?_) (fun cdv A outer s H vs Q E hr h => ?_)
  · obtain ⟨a, ns, rfl, _⟩ := h
    rfl
  obtain ⟨a, ns, rfl, hS, hl, q⟩ := h
  refine ⟨_, (pss_one (ps_ret (pe_lstA (pa_cons (pe_lc (own := [("_law_cell", 1)]) (by rfl) sc_l_deck.nd (pi_listK (K := K) rfl (pe_slice (sl_listK (K := K) rfl) (pv 0) po_none (po_some pe_int))) (blkOk_by (N := ["_law_script", "_law_cell"]) (sc := defScope s_l_deck) (own := [("_law_cell", 1)]) (by decide +kernel)) (fun _ _ _ _ _ => (pg_name (i := 1) sc_l_deck.nd rfl (.inl rfl))) (fun _ _ _ _ _ => pts_nil) (fun _ _ _ _ _ => (pe_callB (id := "abs") call_abs (by rfl) T.abs (by decide +kernel) (pa_cons (pv 1) pa_nil)))) (pa_cons pe_int pa_nil))))), ?_⟩
  have hc : cutV (ns.map V.int) none (some 63) = ns.map V.int := by
    apply cutV_whole
    refine ⟨rfl, ?_⟩
    show HT.sIx _ _ (some ((63 : Nat) : Int)) = _
    rw [HT.sIx_nat, List.length_map]
    omega
  walk_at "go"
  intro p H1 hp g1 k1
  rw [hc] at g1
  refine ⟨p, rfl, ⟨_, SqL.of g1⟩, fun D hD => ?_⟩
  refine lc_list (K := K) (a := p) (xs := ns.map V.int) (fun i H2 => Kp [D] H1 H2 ∧ H2 D = some (.lst ((ns.take i).map fun x => V.int (if x < 0 then -x else x)))) ⟨(Kp.new hD).sub (by simp), upd_same⟩ ?_ ?_ ?_
  · rintro i H2 _ ⟨k2, _⟩
    exact SqL.of (k2.keep _ _ g1 (ne1 (ne_of_none g1 hD)))
  · rintro i x H2 hx ⟨k2, d2⟩
    rw [List.getElem?_map] at hx
    cases e : ns[i]? with
    | none => rw [e] at hx; cases hx
    | some z =>
      rw [e] at hx
      cases hx
      have hz : (List.map (fun x => V.int (if x < 0 then -x else x)) (List.take i ns)).length < sizeLine := by
        rw [List.length_map, List.length_take]
        exact sz_lt (by omega)
      walk_at "go"
      refine ⟨k2.step1 (Kp.put d2 (fun _ y => by cases y)) (.inl (by simp)), ?_⟩
      rw [upd_same, List.take_add_one, e, List.map_append]
      rfl
  · rintro H2 ⟨k2, d2⟩
    rw [List.length_map, List.take_length] at d2
    walk_at "go"
    intro r H3 hr3 e3
    have k3 := new_kp hr3 e3
    have k4 : Kp [] H H3 := ((k1.step1 k2 (.inr (k1.free hD (by simp)))).step0 k3)
    refine q r D H3 (((k1.step1 k2 (.inr (k1.free hD (by simp))))).free hr3 (by simp)) (k1.free hD (by simp)) k4 ⟨⟨ns.map fun x => if x < 0 then -x else x, new_at e3, ?_, ?_, ?_, by decide⟩⟩
    · rw [k3.at d2, List.map_map]
      rfl
    · rw [List.length_map]
      exact hl
    · intro x hx
      obtain ⟨y, _, rfl⟩ := List.mem_map.mp hx
      split <;> omega
end
end EH
namespace EH
open PySem L2
local macro_rules | `(tactic| walk_at "sd") => `(tactic| first | assumption | ((with_reducible show (_ : Int) ≤ _); omega) | ((with_reducible show (_ : Int) < _); omega) | rfl | exact SqL.of (by assumption) | exact SqT.of (by assumption) | exact atI_nat (j := 0) rfl | exact atI_nat (j := 1) rfl | exact atI_nat (j := 2) rfl | exact atI_nat (j := 3) rfl | exact sz_lit rfl | exact lt_lit rfl | exact pos_lit rfl | exact le_lit rfl | exact Or.inl (SqL.of (by assumption)) | exact ⟨_, SqL.of (by assumption)⟩ | exact ⟨_, SqT.of (by assumption)⟩ | exact Or.inr (SqT.of (by assumption)) | exact ClsV.ty _ | exact TyX.base (TyOf.int _) | exact TyX.base (TyOf.str _) | exact TyX.base (TyOf.tup (by assumption)) | exact kit_ty isi_ss | exact kit_ty isi_is | exact kit_ty isi_ts | exact kit_ty isi_si | exact kit_ty isi_ii | exact kit_ty isi_ti | exact kit_ty isi_st | exact kit_ty isi_it | exact kit_ty isi_tt | exact Or.inl ⟨_, Or.inl (by assumption)⟩ | exact DGet.k (k := Sum.inr _) (by assumption) | exact DGet.k (k := Sum.inl _) (by assumption) | (refine cpow_of ?_; decide) | (refine cmul_of ?_; decide) | (show (_ : Int) ≠ 0; first | decide | omega) | (refine cdivn_of ?_; decide) | exact Or.inl ⟨rfl, _, SqL.of (by assumption)⟩ | omega)
local macro_rules | `(tactic| walk_at "st") => `(tactic| first | (apply Exists.intro) | (refine And.intro ?_ ?_; focus (walk_at "sd")) | (apply Or.inl; apply Exists.intro; refine And.intro ?_ ?_; focus rfl) | (apply Or.inr; apply Exists.intro; refine And.intro ?_ ?_; focus rfl))
local macro_rules | `(tactic| walk_at "go") => `(tactic| repeat (walk_at "st"))
section
variable {P : Program} {w : World} {K : PySem.W.Frag} {mg : Str → Option Value} {base : Heap}
theorem st_plus : ¬ (("plus" : Str) = "times") := by decide +kernel
theorem st_minus : ¬ (("minus" : Str) = "times") := by decide +kernel
theorem st_minus2 : ¬ (("minus" : Str) = "plus") := by decide +kernel
theorem ok_value_of (T : Top K mg) : ∀ n : Nat, FnOk P w K mg base CX0 n T.value_of.f T.value_of.fd ["expression", "names"] (spValue n)
  | 0 => by
    have no : ∀ vs H Q E, ¬ spValue 0 vs H Q E := by
      rintro vs H Q E ⟨v, nd, e, kvs, env, _, _, _, _, _, h, _⟩
      have := e.deep_pos
      omega
    exact ⟨fun vs H Q E h => absurd h (no vs H Q E), fun A outer s H args us vs Q E _ _ _ _ h => absurd h (no vs H Q E)⟩
  | n + 1 => by
    have G_value_of := ok_value_of T n
    refine T.value_of.F.ok sc_value_of (fun vs H Q E h => ?_) (fun cdv A outer s H vs Q E hr h => ?_)
    · obtain ⟨v, nd, e, kvs, env, rfl, _⟩ := h
      rfl
    obtain ⟨v, nd, e, kvs, env, rfl, hT, hn, he, hok, hdp, q⟩ := h
    have hu := hu_of hr
    refine ⟨_, (pss_cons (ps_if (pt_val (pe_callB (id := "isinstance") (call_isiK (K := K) rfl) (by rfl) T.isinstance (by decide +kernel) (pa_cons (pv 0) (pa_cons (pe_bltn (v := .ty "str") (u := .type "str") (by rfl) T.str (by decide +kernel) rfl) pa_nil)))) (pss_one (ps_ret (pe_dget2 hu (pv 1) (pv 0) pe_int ⟨by rfl, by rfl, by rfl, by rfl⟩))) pss_nil)
      (pss_cons (ps_if (pt_val (pe_callB (id := "isinstance") (call_isiK (K := K) rfl) (by rfl) T.isinstance (by decide +kernel) (pa_cons (pv 0) (pa_cons (pe_bltn (v := .ty "int") (u := .type "int") (by rfl) T.int (by decide +kernel) rfl) pa_nil)))) (pss_one (ps_ret (pv 0))) pss_nil)
      (pss_cons (ps_asg (pv 0) (pg_tup (by rfl) (pgs_cons (pg_name (i := 2) sc_value_of.nd rfl (.inl rfl)) (pgs_cons (pg_name (i := 3) sc_value_of.nd rfl (.inl rfl)) (pgs_cons (pg_name (i := 4) sc_value_of.nd rfl (.inl rfl)) pgs_nil)))))
      (pss_cons (ps_if (pt_cmpR op_eq (pv 2) pe_str (nomark _)) (pss_one (ps_ret (pe_op op_mul (pv 3) (pe_call G_value_of (hr.mono (by omega)) (by rfl) T.value_of.g T.value_of.F.kp T.value_of.b .nil pass0 (pa_cons (pv 4) (pa_cons (pv 1) pa_nil)))))) pss_nil)
      (pss_cons (ps_if (pt_cmpR op_eq (pv 2) pe_str (nomark _)) (pss_one (ps_ret (pe_op op_add (pe_call G_value_of (hr.mono (by omega)) (by rfl) T.value_of.g T.value_of.F.kp T.value_of.b .nil pass0 (pa_cons (pv 3) (pa_cons (pv 1) pa_nil))) (pe_call G_value_of (hr.mono (by omega)) (by rfl) T.value_of.g T.value_of.F.kp T.value_of.b .nil pass0 (pa_cons (pv 4) (pa_cons (pv 1) pa_nil)))))) pss_nil)
      (pss_one (ps_ret (pe_op op_sub (pe_call G_value_of (hr.mono (by omega)) (by rfl) T.value_of.g T.value_of.F.kp T.value_of.b .nil pass0 (pa_cons (pv 3) (pa_cons (pv 1) pa_nil))) (pe_call G_value_of (hr.mono (by omega)) (by rfl) T.value_of.g T.value_of.F.kp T.value_of.b .nil pass0 (pa_cons (pv 4) (pa_cons (pv 1) pa_nil))))))))))), ?_⟩
    cases e with
    | var x =>
      cases tr_str hT
      walk_at "go"
      rw [he x]
      exact q
    | num i =>
      cases tr_int hT
      walk_at "go"
      exact q
    | plus a b =>
      obtain ⟨p, x1, x2, x3, rfl, h1, t1, t2, t3⟩ := tr_tup3 hT
      cases tr_str t1
      have d2 : max a.deep b.deep + 1 ≤ n + 1 := hdp
      obtain ⟨o1, o2⟩ := (show a.ok ∧ b.ok from hok)
      walk_at "go"
      exact q
    | minus a b =>
      obtain ⟨p, x1, x2, x3, rfl, h1, t1, t2, t3⟩ := tr_tup3 hT
      cases tr_str t1
      have d2 : max a.deep b.deep + 1 ≤ n + 1 := hdp
      obtain ⟨o1, o2⟩ := (show a.ok ∧ b.ok from hok)
      walk_at "go"
      exact q
    | times k a =>
      obtain ⟨p, x1, x2, x3, rfl, h1, t1, t2, t3⟩ := tr_tup3 hT
      cases tr_str t1
      cases tr_int t2
      have d2 : a.deep + 1 ≤ n + 1 := hdp
      obtain ⟨o1, o2, o3⟩ := (show -9 ≤ k ∧ k ≤ 9 ∧ a.ok from hok)
      have o4 : CMul k (a.ev env) := .inl ⟨by omega, by omega⟩
      walk_at "go"
      exact q
theorem ok_is_true (T : Top K mg) : ∀ n : Nat, FnOk P w K mg base CX0 (n + 4) T.is_true.f T.is_true.fd ["test", "names"] (spTrue n)
  | n => by
    have G_value_of : FnOk P w K mg base CX0 3 T.value_of.f T.value_of.fd ["expression", "names"] (spValue 3) := ok_value_of T 3
    have G_is_true : FnOk P w K mg base CX0 (n + 3) T.is_true.f T.is_true.fd ["test", "names"] (spTrue' n) := by
      cases n with
      | zero =>
        have no : ∀ vs H Q E, ¬ spTrue' 0 vs H Q E := fun _ _ _ _ h => h
        exact ⟨fun vs H Q E h => absurd h (no vs H Q E), fun A outer s H args us vs Q E _ _ _ _ h => absurd h (no vs H Q E)⟩
      | succ m => exact ok_is_true T m
    refine T.is_true.F.ok sc_is_true (fun vs H Q E h => ?_) (fun cdv A outer s H vs Q E hr h => ?_)
    · obtain ⟨v, nd, t, kvs, env, rfl, _⟩ := h
      rfl
    obtain ⟨v, nd, t, kvs, env, rfl, hT, hn, he, hok, hdp, q⟩ := h
    have hu := hu_of hr
    refine ⟨_, (pss_cons (ps_if (pt_cmpR op_eq (pe_ix (ix_tupK (K := K) rfl) (pv 0) pe_int (fun _ _ => rfl)) pe_str (nomark _)) (pss_one (ps_ret (pe_not (pe_call G_is_true (hr.mono (by omega)) (by rfl) T.is_true.g T.is_true.F.kp T.is_true.b .nil pass0 (pa_cons (pe_ix (ix_tupK (K := K) rfl) (pv 0) pe_int (fun _ _ => rfl)) (pa_cons (pv 1) pa_nil)))))) pss_nil)
      (pss_cons (ps_if (pt_cmpR op_eq (pe_ix (ix_tupK (K := K) rfl) (pv 0) pe_int (fun _ _ => rfl)) pe_str (nomark _)) (pss_one (ps_ret (pe_cmpR op_eq (pe_op op_modN (pe_call G_value_of (hr.mono (by omega)) (by rfl) T.value_of.g T.value_of.F.kp T.value_of.b .nil pass0 (pa_cons (pe_ix (ix_tupK (K := K) rfl) (pv 0) pe_int (fun _ _ => rfl)) (pa_cons (pv 1) pa_nil))) pe_int) pe_int (nomark _)))) pss_nil)
      (pss_one (ps_ret (pe_cmpR op_lt (pe_call G_value_of (hr.mono (by omega)) (by rfl) T.value_of.g T.value_of.F.kp T.value_of.b .nil pass0 (pa_cons (pe_ix (ix_tupK (K := K) rfl) (pv 0) pe_int (fun _ _ => rfl)) (pa_cons (pv 1) pa_nil))) (pe_call G_value_of (hr.mono (by omega)) (by rfl) T.value_of.g T.value_of.F.kp T.value_of.b .nil pass0 (pa_cons (pe_ix (ix_tupK (K := K) rfl) (pv 0) pe_int (fun _ _ => rfl)) (pa_cons (pv 1) pa_nil))) (nomark _)))))), ?_⟩
    cases t with
    | less a b =>
      obtain ⟨p, x1, x2, x3, rfl, h1, t1, t2, t3⟩ := tr_tup3 hT
      cases tr_str t1
      obtain ⟨⟨o1, d1⟩, o2, d2⟩ := (show (a.ok ∧ a.deep ≤ 3) ∧ b.ok ∧ b.deep ≤ 3 from hok)
      walk_at "go"
      exact q
    | odd a =>
      obtain ⟨p, x1, x2, rfl, h1, t1, t2⟩ := tr_tup2 hT
      cases tr_str t1
      obtain ⟨o1, d1⟩ := (show a.ok ∧ a.deep ≤ 3 from hok)
      walk_at "go"
      have e : decide (V.int ((a.ev env).fmod 2) = V.int 1) = decide ((a.ev env) % 2 = 1) := by rw [dec_int, fmod2]
      exact e ▸ q
    | not t =>
      obtain ⟨p, x1, x2, rfl, h1, t1, t2⟩ := tr_tup2 hT
      cases tr_str t1
      have d1 : t.nots + 1 ≤ n := hdp
      obtain ⟨m, rfl⟩ : ∃ m, n = m + 1 := ⟨n - 1, by omega⟩
      have o1 : t.ok := hok
      walk_at "go"
      exact q
end
end EH
namespace EH
open PySem L2
local macro_rules | `(tactic| walk_at "sd") => `(tactic| first | assumption | ((with_reducible show (_ : Int) ≤ _); omega) | ((with_reducible show (_ : Int) < _); omega) | rfl | exact SqL.of (by assumption) | exact SqT.of (by assumption) | exact atI_nat (j := 0) rfl | exact atI_nat (j := 1) rfl | exact atI_nat (j := 2) rfl | exact atI_nat (j := 3) rfl | exact sz_lit rfl | exact lt_lit rfl | exact pos_lit rfl | exact le_lit rfl | exact Or.inl (SqL.of (by assumption)) | exact ⟨_, SqL.of (by assumption)⟩ | exact ⟨_, SqT.of (by assumption)⟩ | exact Or.inr (SqT.of (by assumption)) | exact ClsV.ty _ | exact TyX.base (TyOf.int _) | exact TyX.base (TyOf.str _) | exact TyX.base (TyOf.tup (by assumption)) | exact kit_ty isi_ss | exact kit_ty isi_is | exact kit_ty isi_ts | exact kit_ty isi_si | exact kit_ty isi_ii | exact kit_ty isi_ti | exact kit_ty isi_st | exact kit_ty isi_it | exact kit_ty isi_tt | exact Or.inl ⟨_, Or.inl (by assumption)⟩ | exact DGet.k (k := Sum.inr _) (by assumption) | exact DGet.k (k := Sum.inl _) (by assumption) | (refine cpow_of ?_; decide) | (refine cmul_of ?_; decide) | (show (_ : Int) ≠ 0; first | decide | omega) | (refine cdivn_of ?_; decide) | exact Or.inl ⟨rfl, _, SqL.of (by assumption)⟩ | omega)
local macro_rules | `(tactic| walk_at "st") => `(tactic| first | (apply Exists.intro) | (refine And.intro ?_ ?_; focus (walk_at "sd")) | (apply Or.inl; apply Exists.intro; refine And.intro ?_ ?_; focus rfl) | (apply Or.inr; apply Exists.intro; refine And.intro ?_ ?_; focus rfl))
local macro_rules | `(tactic| walk_at "go") => `(tactic| repeat (walk_at "st"))
section
variable {P : Program} {w : World} {K : PySem.W.Frag} {mg : Str → Option Value} {base : Heap}
theorem ok_blocks_of (T : Top K mg) {k : Nat} : FnOk P w K mg base CX0 (k + 1) T.blocks_of.f T.blocks_of.fd ["statement"] spBlocks := by
  refine T.blocks_of.F.ok sc_blocks_of (fun vs H Q E h => ?_) (fun cdv A outer s H vs Q E hr h => ?_)
  · obtain ⟨v, s, rfl, _⟩ := h
    rfl
  obtain ⟨v, st, rfl, hT, q⟩ := h
  refine ⟨_, (pss_cons (ps_if (pt_cmpR op_eq (pe_ix (ix_tupK (K := K) rfl) (pv 0) pe_int (fun _ _ => rfl)) pe_str (nomark _)) (pss_one (ps_ret (pe_lstA (pa_cons (pe_ix (ix_tupK (K := K) rfl) (pv 0) pe_int (fun _ _ => rfl)) (pa_cons (pe_ix (ix_tupK (K := K) rfl) (pv 0) pe_int (fun _ _ => rfl)) pa_nil))))) pss_nil)
      (pss_one (ps_ret (pe_ifExp (pt_cmpR op_eq (pe_ix (ix_tupK (K := K) rfl) (pv 0) pe_int (fun _ _ => rfl)) pe_str (nomark _)) (pe_lstA (pa_cons (pe_ix (ix_tupK (K := K) rfl) (pv 0) pe_int (fun _ _ => rfl)) pa_nil)) (pe_lstA pa_nil))))), ?_⟩
  cases st with
  | ite t y n =>
    obtain ⟨p, x1, x2, x3, x4, rfl, h1, t1, t2, t3, t4⟩ := tr_tup4 hT
    cases tr_str t1
    walk_at "go"
    intro r H1 hr1 e1
    have k1 := new_kp hr1 e1
    exact q r _ H1 hr1 (new_at e1) (trs_cons (k1.tr t3) (trs_cons (k1.tr t4) trs_nil)) k1
  | rep n b =>
    obtain ⟨p, x1, x2, x3, rfl, h1, t1, t2, t3⟩ := tr_tup3 hT
    cases tr_str t1
    walk_at "go"
    intro r H1 hr1 e1
    have k1 := new_kp hr1 e1
    exact q r _ H1 hr1 (new_at e1) (trs_cons (k1.tr t3) trs_nil) k1
  | set x e =>
    obtain ⟨p, x1, x2, x3, rfl, h1, t1, t2, t3⟩ := tr_tup3 hT
    cases tr_str t1
    walk_at "go"
    intro r H1 hr1 e1
    exact q r _ H1 hr1 (new_at e1) trs_nil (new_kp hr1 e1)
  | half x e =>
    obtain ⟨p, x1, x2, x3, rfl, h1, t1, t2, t3⟩ := tr_tup3 hT
    cases tr_str t1
    walk_at "go"
    intro r H1 hr1 e1
    exact q r _ H1 hr1 (new_at e1) trs_nil (new_kp hr1 e1)
  | tell e =>
    obtain ⟨p, x1, x2, rfl, h1, t1, t2⟩ := tr_tup2 hT
    cases tr_str t1
    walk_at "go"
    intro r H1 hr1 e1
    exact q r _ H1 hr1 (new_at e1) trs_nil (new_kp hr1 e1)
  | say e =>
    obtain ⟨p, x1, x2, rfl, h1, t1, t2⟩ := tr_tup2 hT
    cases tr_str t1
    walk_at "go"
    intro r H1 hr1 e1
    exact q r _ H1 hr1 (new_at e1) trs_nil (new_kp hr1 e1)
  | stop e =>
    obtain ⟨p, x1, x2, rfl, h1, t1, t2⟩ := tr_tup2 hT
    cases tr_str t1
    walk_at "go"
    intro r H1 hr1 e1
    exact q r _ H1 hr1 (new_at e1) trs_nil (new_kp hr1 e1)
theorem ok_places_in (T : Top K mg) : ∀ n : Nat, FnOk P w K mg base CX0 (n + 2) T.places_in.f T.places_in.fd ["statement"] (spPlaces n)
  | n => by
    have G_blocks_of : FnOk P w K mg base CX0 1 T.blocks_of.f T.blocks_of.fd ["statement"] spBlocks := ok_blocks_of T
    have G_places_in : FnOk P w K mg base CX0 (n + 1) T.places_in.f T.places_in.fd ["statement"] (sp0 spPlaces n) := by
      cases n with
      | zero => exact fn_no fun _ _ _ _ h => h
      | succ m => exact ok_places_in T m
    refine T.places_in.F.ok sc_places_in (fun vs H Q E h => ?_) (fun cdv A outer s H vs Q E hr h => ?_)
    · obtain ⟨v, s, rfl, _⟩ := h
      rfl
    obtain ⟨v, st, rfl, hT, hn, hp, q⟩ := h
    refine ⟨_, (pss_one (ps_ret (pe_op op_add pe_int (pe_callB (id := "sum") (cr_sumK (K := K) rfl (by rfl)) (by rfl) T.sum (by decide +kernel) (pa_cons (pe_lc (own := [("block", 1)]) (by rfl) sc_places_in.nd (pi_listK (K := K) rfl (pe_call G_blocks_of (hr.mono (by omega)) (by rfl) T.blocks_of.g T.blocks_of.F.kp T.blocks_of.b .nil pass0 (pa_cons (pv 0) pa_nil))) (blkOk_by (N := ["statement", "block", "item"]) (sc := defScope s_places_in) (own := [("block", 1)]) (by decide +kernel)) (fun _ _ _ _ _ => (pg_name (i := 1) sc_places_in.nd rfl (.inl rfl))) (fun _ _ _ _ _ => pts_nil) (fun _ _ _ _ _ => by exact (pe_callB (id := "sum") (cr_sumK (K := K) rfl (by rfl)) (by rfl) T.sum (by decide +kernel) (pa_cons (pe_lc (own := [("item", 2)]) (by rfl) sc_places_in.nd (pi_tupK (K := K) rfl (pv 1)) (blkOk_by (own := [("item", 2)]) (by kernel_rfl)) (fun _ _ _ _ _ => (pg_name (i := 2) sc_places_in.nd rfl (.inl rfl))) (fun _ _ _ _ _ => pts_nil) (fun _ _ _ _ _ => (pe_call G_places_in (hr.mono (by omega)) (by rfl) T.places_in.g T.places_in.F.kp T.places_in.b .nil pass0 (pa_cons (pv 2) pa_nil)))) pa_nil)))) pa_nil))))), ?_⟩
    walk_at "go"
    intro p bs H1 hp1 g1 tb k1
    refine ⟨p, rfl, ⟨_, SqL.of g1⟩, fun D hD => ?_⟩
    have lb : bs.length = st.blks.length := by rw [tb.length, List.length_map]
    refine lc_list (K := K) (a := p) (xs := bs) (fun i H2 => Kp [D] H1 H2 ∧ H2 D = some (.lst ((st.blks.take i).map fun b => V.int (Sm.pls b : Int)))) ⟨(Kp.new hD).sub (by simp), upd_same⟩ ?_ ?_ ?_
    · rintro i H2 _ ⟨k2, _⟩
      exact SqL.of (k2.keep _ _ g1 (ne1 (ne_of_none g1 hD)))
    · rintro i x H2 hx ⟨k2, d2⟩
      have hi : i < st.blks.length := by
        have := (List.getElem?_eq_some_iff.mp hx).1
        omega
      have eb : st.blks[i]? = some st.blks[i] := List.getElem?_eq_getElem hi
      have mb : st.blks[i] ∈ st.blks := List.getElem_mem hi
      generalize st.blks[i] = b at eb mb
      have n1 := Sm.blk_nest mb
      have n2 := Sm.blk_pls mb
      obtain ⟨x', hx', tx⟩ := TrAll.get (i := i) tb (by rw [List.getElem?_map, eb]; rfl)
      rw [hx] at hx'
      cases hx'
      obtain ⟨a, xs, rfl, ha, ta⟩ := tr_tup tx
      have ha2 : H2 a = some (.tup xs) := k2.tup _ _ ha
      have ta2 : TrAll H2 (Sm.ds b) xs := k2.trAll ta
      rw [Sm.ds_map] at ta2
      have lx : xs.length = b.length := by rw [ta2.length, List.length_map]
      have ll := Sm.len_pls b
      have hz : ((st.blks.take i).map fun b => V.int (Sm.pls b : Int)).length < sizeLine := by
        rw [List.length_map, List.length_take]
        have := st.blks_le
        exact sz_lt (by omega)
      walk_at "go"
      intro D2 hD2
      refine lc_tup (K := K) (a := a) (xs := xs) (fun j H3 => Kp [D2] H2 H3 ∧ H3 D2 = some (.lst ((b.take j).map fun t => V.int (Sm.pl t : Int)))) ⟨(Kp.new hD2).sub (by simp), upd_same⟩ ?_ ?_ ?_
      · rintro j H3 _ ⟨k3, _⟩
        exact SqT.of (k3.tup _ _ ha2)
      · rintro j y H3 hy ⟨k3, d3⟩
        have hj : j < b.length := by
          have := (List.getElem?_eq_some_iff.mp hy).1
          omega
        have et : b[j]? = some b[j] := List.getElem?_eq_getElem hj
        have mt : b[j] ∈ b := List.getElem_mem hj
        generalize b[j] = t at et mt
        have m1 := Sm.nest_mem mt
        have m2 := Sm.pl_mem mt
        obtain ⟨y', hy', ty⟩ := TrAll.get (i := j) ta2 (by rw [List.getElem?_map, et]; rfl)
        rw [hy] at hy'
        cases hy'
        have ty3 := k3.tr ty
        obtain ⟨m, rfl⟩ : ∃ m, n = m + 1 := ⟨n - 1, by omega⟩
        have hz2 : ((b.take j).map fun t => V.int (Sm.pl t : Int)).length < sizeLine := by
          rw [List.length_map, List.length_take]
          exact sz_lt (by omega)
        walk_at "go"
        intro H4 k4
        have d4 := k4.at d3
        walk_at "go"
        refine ⟨(k3.step0 k4).step1 (Kp.put d4 (fun _ z => by cases z)) (.inl (by simp)), ?_⟩
        rw [upd_same, List.take_add_one, et, List.map_append]
        rfl
      · rintro H3 ⟨k3, d3⟩
        rw [lx, List.take_length] at d3
        have d3' : H3 D2 = some (.lst ((b.map fun t => (Sm.pl t : Int)).map V.int)) := by
          rw [d3, List.map_map]
          rfl
        have es : (b.map fun t => (Sm.pl t : Int)).sum = (Sm.pls b : Int) := by
          rw [Sm.pls_map]
          clear d3 d3' ll lx ta2 ha2 ha ta tx hx eb mb n1 n2
          induction b with
          | nil => rfl
          | cons t r ih =>
            rw [List.map_cons, List.map_cons, List.sum_cons, List.sum_cons, ih]
            omega
        have dD : H3 D = some (.lst ((st.blks.take i).map fun b => V.int (Sm.pls b : Int))) := k3.keep _ _ d2 (ne1 (ne_of_none d2 hD2))
        walk_at "go"
        rw [es]
        refine ⟨(k2.step1 k3 (.inr (k2.free hD2 (ne1 (ne_of_none d2 hD2).symm)))).step1 (Kp.put dD (fun _ z => by cases z)) (.inl (by simp)), ?_⟩
        rw [upd_same, List.take_add_one, eb, List.map_append]
        rfl
    · rintro H2 ⟨k2, d2⟩
      rw [lb, List.take_length] at d2
      have d2' : H2 D = some (.lst ((st.blks.map fun b => (Sm.pls b : Int)).map V.int)) := by
        rw [d2, List.map_map]
        rfl
      have es : 1 + (st.blks.map fun b => (Sm.pls b : Int)).sum = (st.pl : Int) := by
        rw [Sm.pl_blks]
        generalize st.blks = bb
        have : (bb.map fun b => (Sm.pls b : Int)).sum = (((bb.map Sm.pls).sum : Nat) : Int) := by
          induction bb with
          | nil => rfl
          | cons t r ih =>
            rw [List.map_cons, List.map_cons, List.sum_cons, List.sum_cons, ih]
            omega
        omega
      walk_at "go"
      have q2 := q H2 (k1.step1 k2 (.inr (k1.free hD (by simp))))
      rw [← es] at q2
      exact q2
end
end EH
namespace EH
open PySem L2
/-! ### a run by a rule -/
/-- the value r decides by dec -/
def RuleV (c : RC) (n : Nat) (H : Hp) (r : V) (dec : Nat → Int → Int → Int) : Prop := ∃ (a : Addr) (rl : Rul), r = .ref a ∧ RAt c H rl a ∧ rl.dp ≤ n ∧ dec = fun _ v p => rl.go v p
theorem RuleV.kp {c : RC} {n : Nat} {S : List Addr} {H H' : Hp} {r : V} {dec : Nat → Int → Int → Int} (h : RuleV c n H r dec) (k : Kp S H H') (hS : ∀ x ∈ S, ∀ C dx fs, H x ≠ some (.ins C dx fs)) : RuleV c n H' r dec := by
  obtain ⟨a, rl, e, h1, h2, h3⟩ := h
  exact ⟨a, rl, e, h1.kp k hS, h2, h3⟩
theorem RuleV.kp0 {c : RC} {n : Nat} {H H' : Hp} {r : V} {dec : Nat → Int → Int → Int} (h : RuleV c n H r dec) (k : Kp [] H H') : RuleV c n H' r dec := h.kp k (fun _ z => nomatch z)
/-- behind what a run stores -/
theorem CAt.rule {c : RC} {n m : Nat} {C : Addr} {H H' : Hp} {a : Cad} {r r' : V} {chs : List Int} {wk : List (Key × V)} {s : Cs} {dec : Nat → Int → Int → Int} (ca : CAt C H a r chs wk m s) (h : RuleV c n H r' dec) (k : Kp [a.nd, a.sd, a.td] H H') : RuleV c n H' r' dec := by
  obtain ⟨kvs, g1, _⟩ := ca.nm
  refine h.kp k fun x hx C dx fs e => ?_
  simp only [List.mem_cons, List.not_mem_nil, or_false] at hx
  rcases hx with rfl | rfl | rfl
  · rw [g1] at e; cases e
  · rw [ca.sa] at e; cases e
  · rw [ca.tu] at e; cases e
def spChoiceR (c : RC) (rn : Nat) (C : Addr) : Sp := fun vs H Q _ => ∃ (a : Cad) (r : V) (chs : List Int) (wk : List (Key × V)) (n : Nat) (s : Cs) (v p : Int) (dec : Nat → Int → Int → Int), vs = [.ref a.x, .int v, .int p] ∧ CAt C H a r chs wk n s ∧ RuleV c rn H r dec ∧ n ≤ 1000000 ∧ Q (.int (dec s.turns.length v p)) H
def spHalvedR (c : RC) (rn : Nat) (C : Addr) : Sp := fun vs H Q _ => ∃ (a : Cad) (r : V) (chs : List Int) (wk : List (Key × V)) (ways : Int → Option Int) (n : Nat) (s : Cs) (v p : Int) (dec : Nat → Int → Int → Int), vs = [.ref a.x, .int v, .int p] ∧ CAt C H a r chs wk n s ∧ RuleV c rn H r dec ∧ WaysRel wk ways ∧ n < 1000000 ∧
  ∀ H', CAt C H' a r chs wk (n + 1) (halv dec ways s v p).2 → Kp [a.nd, a.sd, a.td] H H' → Q (.int (halv dec ways s v p).1) H'
def spDoR (c : RC) (rn : Nat) (C : Addr) : Sp := fun vs H Q _ => ∃ (a : Cad) (r : V) (chs : List Int) (wk : List (Key × V)) (ways : Int → Option Int) (n : Nat) (s : Cs) (v : V) (st : Sm) (p : Int) (dec : Nat → Int → Int → Int), vs = [.ref a.x, v, .int p] ∧ CAt C H a r chs wk n s ∧ RuleV c rn H r dec ∧ WaysRel wk ways ∧ n + 2 ≤ 1000000 ∧
  Tr H st.d v ∧ st.plain ∧ st.ok ∧ ∀ H', CAt C H' a r chs wk (n + 2) (st.run dec ways p s).2 → Kp [a.nd, a.sd, a.td] H H' → Q (wV (st.run dec ways p s).1) H'
def spGoR (c : RC) (rn : Nat) (C : Addr) (m : Nat) : Sp := fun vs H Q _ => ∃ (a : Cad) (r : V) (chs : List Int) (wk : List (Key × V)) (ways : Int → Option Int) (n : Nat) (s : Cs) (v : V) (b : List Sm) (p : Int) (dec : Nat → Int → Int → Int), vs = [.ref a.x, v, .int p] ∧ CAt C H a r chs wk n s ∧ RuleV c rn H r dec ∧ WaysRel wk ways ∧ n + 2 * Sm.wts b ≤ 1000000 ∧
  Tr H (.tuple (Sm.ds b)) v ∧ Sm.oks b ∧ Sm.pls b ≤ 1000000 ∧ Sm.nests b ≤ m ∧ ∀ H', CAt C H' a r chs wk (n + 2 * Sm.wts b) (Sm.runs dec ways b p s).2 → Kp [a.nd, a.sd, a.td] H H' → Q (wV (Sm.runs dec ways b p s).1) H'
def spCourseOfR (c : RC) (rn : Nat) (m : Nat) : Sp := fun vs H Q _ => ∃ (v : V) (b : List Sm) (num : Int) (cd wd : Addr) (chs : List Int) (wk : List (Key × V)) (ways : Int → Option Int) (r : V) (dec : Nat → Int → Int → Int), vs = [v, .int num, .ref cd, .ref wd, r] ∧ RuleV c rn H r dec ∧ Tr H (.tuple (Sm.ds b)) v ∧ H cd = some (.tup (chs.map V.int)) ∧
  H wd = some (.dK wk) ∧ WaysRel wk ways ∧ chs.length ≤ 1000000 ∧ Sm.oks b ∧ Sm.wts b ≤ 100000 ∧ Sm.pls b ≤ 1000000 ∧ Sm.nests b ≤ m ∧ ∀ (t : V) (H' : Hp), Tr H' (resD (Sm.runs dec ways b 0 (cs0 num))) t → Kp [] H H' → Q t H'
def spRunByR (c : RC) (rn : Nat) (m : Nat) : Sp := fun vs H Q _ => ∃ (v : V) (b : List Sm) (num : Int) (r : V) (dec : Nat → Int → Int → Int), vs = [v, .int num, r] ∧ RuleV c rn H r dec ∧ Tr H (.tuple (Sm.ds b)) v ∧ Sm.oks b ∧ Sm.wts b ≤ 100000 ∧ Sm.pls b ≤ 1000000 ∧ Sm.nests b ≤ m ∧
  ∀ (t : V) (H' : Hp), Tr H' (resD (Sm.runs dec noWay b 0 (cs0 num))) t → Kp [] H H' → Q t H'
end EH
namespace EH
open PySem L2
local macro_rules | `(tactic| walk_at "sd") => `(tactic| first | assumption | ((with_reducible show (_ : Int) ≤ _); omega) | ((with_reducible show (_ : Int) < _); omega) | rfl | exact SqL.of (by assumption) | exact SqT.of (by assumption) | exact atI_nat (j := 0) rfl | exact atI_nat (j := 1) rfl | exact atI_nat (j := 2) rfl | exact atI_nat (j := 3) rfl | exact sz_lit rfl | exact lt_lit rfl | exact pos_lit rfl | exact le_lit rfl | exact Or.inl (SqL.of (by assumption)) | exact ⟨_, SqL.of (by assumption)⟩ | exact ⟨_, SqT.of (by assumption)⟩ | exact Or.inr (SqT.of (by assumption)) | exact ClsV.ty _ | exact TyX.base (TyOf.int _) | exact TyX.base (TyOf.str _) | exact TyX.base (TyOf.tup (by assumption)) | exact kit_ty isi_ss | exact kit_ty isi_is | exact kit_ty isi_ts | exact kit_ty isi_si | exact kit_ty isi_ii | exact kit_ty isi_ti | exact kit_ty isi_st | exact kit_ty isi_it | exact kit_ty isi_tt | exact Or.inl ⟨_, Or.inl (by assumption)⟩ | exact DGet.k (k := Sum.inr _) (by assumption) | exact DGet.k (k := Sum.inl _) (by assumption) | (refine cpow_of ?_; decide) | (refine cmul_of ?_; decide) | (show (_ : Int) ≠ 0; first | decide | omega) | (refine cdivn_of ?_; decide) | exact Or.inl ⟨rfl, _, SqL.of (by assumption)⟩ | omega)
local macro_rules | `(tactic| walk_at "st") => `(tactic| first | (apply Exists.intro) | (refine And.intro ?_ ?_; focus (walk_at "sd")) | (apply Or.inl; apply Exists.intro; refine And.intro ?_ ?_; focus rfl) | (apply Or.inr; apply Exists.intro; refine And.intro ?_ ?_; focus rfl))
local macro_rules | `(tactic| walk_at "go") => `(tactic| repeat (walk_at "st"))
section
variable {P : Program} {w : World} {K : PySem.W.Frag} {mg : Str → Option Value} {base : Heap}
theorem ok_Course_choiceR (T : Top K mg) {c0 : RC} {rn k : Nat} (RK : RCalls P w K mg base c0 rn k) : FnOk P w K mg base CX0 (k + 1) T.Course_choice.f T.Course_choice.fd ["self", "value", "place"] (spChoiceR c0 rn T.Course.C) := by
  refine T.Course_choice.F.ok sc_Course_choice (fun vs H Q E h => ?_) (fun cdv A outer s H vs Q E hr h => ?_)
  · obtain ⟨a, r, chs, wk, n, s, v, p, dec, rfl, _⟩ := h
    rfl
  obtain ⟨a, r, chs, wk, n, s, v, p, dec, rfl, c, hR, hn, q⟩ := h
  refine ⟨_, (pss_cons (ps_if (pt_cmpR op_notN (pe_fldK (K := K) rfl (pv 0)) pe_non (nomark _)) (pss_one (ps_ret (pe_callRlF (K := K) rfl (pv 0) RK (hr.mono (by omega)) (pa_cons (pv 1) (pa_cons (pv 2) pa_nil)) pass0))) pss_nil)
      (pss_one (ps_ret (pe_ifExp (pt_cmpR op_lt (pe_callB (id := "len") (call_lenK (K := K) rfl) (by rfl) T.len PySem.boot_len (pa_cons (pe_fldK (K := K) rfl (pv 0)) pa_nil)) (pe_callB (id := "len") (call_lenK (K := K) rfl) (by rfl) T.len PySem.boot_len (pa_cons (pe_fldK (K := K) rfl (pv 0)) pa_nil)) (nomark _)) (pe_ix (ix_tupK (K := K) rfl) (pe_fldK (K := K) rfl (pv 0)) (pe_callB (id := "len") (call_lenK (K := K) rfl) (by rfl) T.len PySem.boot_len (pa_cons (pe_fldK (K := K) rfl (pv 0)) pa_nil)) (fun _ _ => rfl)) (pe_glob (v := .int 0) (by rfl) T.g_DOWN ⟨_, rfl⟩))))), ?_⟩
  have cl := T.Course.cl
  have n1 := T.n_Course_rule
  obtain ⟨ra, rl, rfl, hra, hdp, rfl⟩ := hR
  have ob := c.ob
  walk_at "go"
  exact q
theorem ok_Course_halvedR (T : Top K mg) {c0 : RC} {rn k : Nat} (RK : RCalls P w K mg base c0 rn k) : FnOk P w K mg base CX0 (k + 2) T.Course_halved.f T.Course_halved.fd ["self", "value", "place"] (spHalvedR c0 rn T.Course.C) := by
  have G_Course_choice : FnOk P w K mg base CX0 (k + 1) T.Course_choice.f T.Course_choice.fd ["self", "value", "place"] (spChoiceR c0 rn T.Course.C) := ok_Course_choiceR T RK
  refine T.Course_halved.F.ok sc_Course_halved (fun vs H Q E h => ?_) (fun cdv A outer s H vs Q E hr h => ?_)
  · obtain ⟨a, r, chs, wk, ways, n, s, v, p, dec, rfl, _⟩ := h
    rfl
  obtain ⟨a, r, chs, wk, ways, n, s, v, p, dec, rfl, c, hR, hw, hn, q⟩ := h
  have hu := hu_of hr
  refine ⟨_, (pss_cons (ps_if (pt_cmpR op_eq (pe_op op_modN (pv 1) pe_int) pe_int (nomark _)) (pss_one (ps_ret (pe_op op_fdivN (pv 1) pe_int))) pss_nil)
      (pss_cons (ps_if (pt_cmp (pc_din hu (pv 2) (pe_fldK (K := K) rfl (pv 0)))) (pss_one (ps_ret (pe_op op_add (pe_op op_fdivN (pv 1) pe_int) (pe_dget hu (pe_fldK (K := K) rfl (pv 0)) (pv 2) (fun _ _ => rfl))))) pss_nil)
      (pss_cons (ps_set (i := 3) sc_Course_halved.nd rfl (.inl rfl) (pe_meth (pv 0) T.Course.cl T.Course_choice.m G_Course_choice (hr.mono (by omega)) T.Course_choice.b .nil pass0 (pa_cons (pv 1) (pa_cons (pv 2) pa_nil))))
      (pss_cons (ps_expr (pe_bmK (K := K) rfl PySem.F.plainAttrs_list PySem.F.slot_list_append PySem.F.type_list_append mt_appendA (pe_fldK (K := K) rfl (pv 0)) (pa_cons (pv 3) pa_nil)))
      (pss_one (ps_ret (pe_op op_add (pe_op op_fdivN (pv 1) pe_int) (pv 3)))))))), ?_⟩
  have cl := T.Course.cl
  have n1 := T.n_Course_ways
  have n2 := T.n_Course_turns
  have ob := c.ob
  have tu := c.tu
  have wy := c.wy
  walk_at "go"
  refine ite2 (fun hc => ?_) (fun hc => ?_)
  · have hc1 : v % 2 = 0 := by
      have := of_decide_eq_true hc
      rw [← fmod2]
      exact V.int.inj this
    walk_at "go"
    have e : halv dec ways s v p = (v / 2, s) := by rw [halv, if_pos hc1]
    rw [e] at q
    have q1 := q H (c.mono (Nat.le_succ n)) Kp.refl
    show Q (.int (v.fdiv 2)) H
    rw [fdiv2]
    exact q1
  · have hc1 : ¬ v % 2 = 0 := by
      have := of_decide_eq_false (Bool.eq_false_iff.mpr hc)
      rw [← fmod2]
      exact fun z => this (congrArg V.int z)
    have hg : DGet H a.wd (.int p) (valV wk (Sum.inl p)) := DGet.k (k := Sum.inl p) wy
    have hp := hw p
    cases e : ways p with
    | some c1 =>
      rw [e] at hp
      rw [hp] at hg
      have hg2 : DGet H a.wd (.int p) (some (.int c1)) := hg
      have e2 : halv dec ways s v p = (v / 2 + c1, s) := by rw [halv, if_neg hc1, e]
      rw [e2] at q
      refine ⟨_, rfl, _, rfl, a.x, _, _, _, _, rfl, ob, cl, n1, rfl, a.wd, _, rfl, hg2, _, rfl, ?_⟩
      refine iteT ?_
      walk_at "go"
      have q1 := q H (c.mono (Nat.le_succ n)) Kp.refl
      show Q (.int (v.fdiv 2 + c1)) H
      rw [fdiv2]
      exact q1
    | none =>
      rw [e] at hp
      rw [hp] at hg
      have hg2 : DGet H a.wd (.int p) none := hg
      have e2 : halv dec ways s v p = (v / 2 + dec s.turns.length v p, { s with turns := s.turns ++ [dec s.turns.length v p] }) := by rw [halv, if_neg hc1, e]
      rw [e2] at q
      refine ⟨_, rfl, _, rfl, a.x, _, _, _, _, rfl, ob, cl, n1, rfl, a.wd, _, rfl, hg2, _, rfl, ?_⟩
      refine iteF ?_
      have lt := c.lt
      have hz : (s.turns.map V.int).length < sizeLine := by
        rw [List.length_map]
        exact sz_lt (by omega)
      have hn2 : n ≤ 1000000 := Nat.le_of_lt hn
      walk_at "go"
      intro H1 g1 k1
      walk_at "go"
      obtain ⟨c1, k2⟩ := c.turn g1 k1
      have q1 := q H1 c1 k2
      show Q (.int (v.fdiv 2 + dec s.turns.length v p)) H1
      rw [fdiv2]
      exact q1
end
end EH
namespace EH
open PySem L2
local macro_rules | `(tactic| walk_at "sd") => `(tactic| first | assumption | ((with_reducible show (_ : Int) ≤ _); omega) | ((with_reducible show (_ : Int) < _); omega) | rfl | exact SqL.of (by assumption) | exact SqT.of (by assumption) | exact atI_nat (j := 0) rfl | exact atI_nat (j := 1) rfl | exact atI_nat (j := 2) rfl | exact atI_nat (j := 3) rfl | exact sz_lit rfl | exact lt_lit rfl | exact pos_lit rfl | exact le_lit rfl | exact Or.inl (SqL.of (by assumption)) | exact ⟨_, SqL.of (by assumption)⟩ | exact ⟨_, SqT.of (by assumption)⟩ | exact Or.inr (SqT.of (by assumption)) | exact ClsV.ty _ | exact TyX.base (TyOf.int _) | exact TyX.base (TyOf.str _) | exact TyX.base (TyOf.tup (by assumption)) | exact kit_ty isi_ss | exact kit_ty isi_is | exact kit_ty isi_ts | exact kit_ty isi_si | exact kit_ty isi_ii | exact kit_ty isi_ti | exact kit_ty isi_st | exact kit_ty isi_it | exact kit_ty isi_tt | exact Or.inl ⟨_, Or.inl (by assumption)⟩ | exact DGet.k (k := Sum.inr _) (by assumption) | exact DGet.k (k := Sum.inl _) (by assumption) | (refine cpow_of ?_; decide) | (refine cmul_of ?_; decide) | (show (_ : Int) ≠ 0; first | decide | omega) | (refine cdivn_of ?_; decide) | exact Or.inl ⟨rfl, _, SqL.of (by assumption)⟩ | omega)
local macro_rules | `(tactic| walk_at "st") => `(tactic| first | (apply Exists.intro) | (refine And.intro ?_ ?_; focus (walk_at "sd")) | (apply Or.inl; apply Exists.intro; refine And.intro ?_ ?_; focus rfl) | (apply Or.inr; apply Exists.intro; refine And.intro ?_ ?_; focus rfl))
local macro_rules | `(tactic| walk_at "go") => `(tactic| repeat (walk_at "st"))
section
variable {P : Program} {w : World} {K : PySem.W.Frag} {mg : Str → Option Value} {base : Heap}
theorem ok_Course_doR (T : Top K mg) {c0 : RC} {rn k : Nat} (RK : RCalls P w K mg base c0 rn k) : FnOk P w K mg base CX0 (k + 4) T.Course_do.f T.Course_do.fd ["self", "statement", "place"] (spDoR c0 rn T.Course.C) := by
  have G_value_of : FnOk P w K mg base CX0 3 T.value_of.f T.value_of.fd ["expression", "names"] (spValue 3) := ok_value_of T 3
  have G_Course_halved : FnOk P w K mg base CX0 (k + 2) T.Course_halved.f T.Course_halved.fd ["self", "value", "place"] (spHalvedR c0 rn T.Course.C) := ok_Course_halvedR T RK
  refine T.Course_do.F.ok sc_Course_do (fun vs H Q E h => ?_) (fun cdv A outer s H vs Q E hr h => ?_)
  · obtain ⟨a, r, chs, wk, ways, n, s, v, st, p, dec, rfl, _⟩ := h
    rfl
  obtain ⟨a, r, chs, wk, ways, n, s, v, st, p, dec, rfl, c, hR, hw, hn, hT, hpl, hok, q⟩ := h
  have hu := hu_of hr
  refine ⟨_, (pss_cons (ps_if (pt_cmpR op_eq (pe_ix (ix_tupK (K := K) rfl) (pv 1) pe_int (fun _ _ => rfl)) pe_str (nomark _)) (pss_one (ps_dputS hu (pe_fldK (K := K) rfl (pv 0)) (pe_ix (ix_tupK (K := K) rfl) (pv 1) pe_int (fun _ _ => rfl)) (pe_call G_value_of (hr.mono (by omega)) (by rfl) T.value_of.g T.value_of.F.kp T.value_of.b .nil pass0 (pa_cons (pe_ix (ix_tupK (K := K) rfl) (pv 1) pe_int (fun _ _ => rfl)) (pa_cons (pe_fldK (K := K) rfl (pv 0)) pa_nil))))) (pss_one (ps_if (pt_cmpR op_eq (pe_ix (ix_tupK (K := K) rfl) (pv 1) pe_int (fun _ _ => rfl)) pe_str (nomark _)) (pss_one (ps_dputS hu (pe_fldK (K := K) rfl (pv 0)) (pe_ix (ix_tupK (K := K) rfl) (pv 1) pe_int (fun _ _ => rfl)) (pe_meth (pv 0) T.Course.cl T.Course_halved.m G_Course_halved (hr.mono (by omega)) T.Course_halved.b .nil pass0 (pa_cons (pe_call G_value_of (hr.mono (by omega)) (by rfl) T.value_of.g T.value_of.F.kp T.value_of.b .nil pass0 (pa_cons (pe_ix (ix_tupK (K := K) rfl) (pv 1) pe_int (fun _ _ => rfl)) (pa_cons (pe_fldK (K := K) rfl (pv 0)) pa_nil))) (pa_cons (pv 2) pa_nil))))) (pss_one (ps_if (pt_cmpR op_eq (pe_ix (ix_tupK (K := K) rfl) (pv 1) pe_int (fun _ _ => rfl)) pe_str (nomark _)) (pss_one (ps_expr (pe_bmK (K := K) rfl PySem.F.plainAttrs_list PySem.F.slot_list_append PySem.F.type_list_append mt_appendA (pe_fldK (K := K) rfl (pv 0)) (pa_cons (pe_call G_value_of (hr.mono (by omega)) (by rfl) T.value_of.g T.value_of.F.kp T.value_of.b .nil pass0 (pa_cons (pe_ix (ix_tupK (K := K) rfl) (pv 1) pe_int (fun _ _ => rfl)) (pa_cons (pe_fldK (K := K) rfl (pv 0)) pa_nil))) pa_nil)))) (pss_one (ps_if (pt_cmpR op_eq (pe_ix (ix_tupK (K := K) rfl) (pv 1) pe_int (fun _ _ => rfl)) pe_str (nomark _)) (pss_one (ps_expr (pe_bmK (K := K) rfl PySem.F.plainAttrs_list PySem.F.slot_list_append PySem.F.type_list_append mt_appendA (pe_fldK (K := K) rfl (pv 0)) (pa_cons (pe_ix (ix_tupK (K := K) rfl) (pv 1) pe_int (fun _ _ => rfl)) pa_nil)))) (pss_one (ps_ret (pe_ix (ix_tupK (K := K) rfl) (pv 1) pe_int (fun _ _ => rfl)))))))))))
      (pss_one (ps_ret pe_non))), ?_⟩
  have cl := T.Course.cl
  have n1 := T.n_Course_names
  have n2 := T.n_Course_said
  have ob := c.ob
  have sa := c.sa
  obtain ⟨kvs, nm, er, lk⟩ := c.nm
  cases st with
  | ite t y m => exact absurd hpl id
  | rep j b => exact absurd hpl id
  | set x e =>
    obtain ⟨u, x1, x2, x3, rfl, h1, t1, t2, t3⟩ := tr_tup3 hT
    cases tr_str t1
    cases tr_str t2
    obtain ⟨⟨o1, o2⟩, _⟩ := (show (e.ok ∧ e.deep ≤ 3) ∧ NmOk x by simpa only [Sm.ok] using hok)
    have hz : kvs.length < sizeLine := sz_lt (by omega)
    walk_at "go"
    intro H1 e1
    obtain ⟨c1, k1⟩ := c.put nm er lk e1
    exact q H1 (c1.mono (by omega)) k1
  | half x e =>
    obtain ⟨u, x1, x2, x3, rfl, h1, t1, t2, t3⟩ := tr_tup3 hT
    cases tr_str t1
    cases tr_str t2
    obtain ⟨⟨o1, o2⟩, _⟩ := (show (e.ok ∧ e.deep ≤ 3) ∧ NmOk x by simpa only [Sm.ok] using hok)
    have hn1 : n < 1000000 := by omega
    walk_at "go"
    intro H1 c1 k1
    obtain ⟨kvs1, nm1, er1, lk1⟩ := c1.nm
    have ob1 := c1.ob
    have hz : kvs1.length < sizeLine := sz_lt (by omega)
    have h11 := k1.tup _ _ h1
    walk_at "go"
    intro H2 e2
    obtain ⟨c2, k2⟩ := c1.put nm1 er1 lk1 e2
    have ee : (halv dec ways s (e.ev s.env) p).2.env = s.env := by
      unfold halv
      split
      · rfl
      · split <;> rfl
    rw [ee] at c2
    exact q H2 c2 (k1.trans k2)
  | tell e =>
    obtain ⟨u, x1, x2, rfl, h1, t1, t2⟩ := tr_tup2 hT
    cases tr_str t1
    obtain ⟨o1, o2⟩ := (show e.ok ∧ e.deep ≤ 3 by simpa only [Sm.ok] using hok)
    have hz : (s.said.map kV).length < sizeLine := by rw [List.length_map]; exact sz_lt (by have := c.ls; omega)
    walk_at "go"
    intro H1 g1 k1
    obtain ⟨c1, k2⟩ := c.say (v := Sum.inl (e.ev s.env)) g1 k1
    exact q H1 (c1.mono (by omega)) k2
  | say y =>
    obtain ⟨u, x1, x2, rfl, h1, t1, t2⟩ := tr_tup2 hT
    cases tr_str t1
    cases tr_str t2
    have hz : (s.said.map kV).length < sizeLine := by rw [List.length_map]; exact sz_lt (by have := c.ls; omega)
    walk_at "go"
    intro H1 g1 k1
    obtain ⟨c1, k2⟩ := c.say (v := Sum.inr y) g1 k1
    exact q H1 (c1.mono (by omega)) k2
  | stop y =>
    obtain ⟨u, x1, x2, rfl, h1, t1, t2⟩ := tr_tup2 hT
    cases tr_str t1
    cases tr_str t2
    walk_at "go"
    exact q H (c.mono (by omega)) Kp.refl
end
end EH
namespace EH
open PySem L2
local macro_rules | `(tactic| walk_at "sd") => `(tactic| first | assumption | ((with_reducible show (_ : Int) ≤ _); omega) | ((with_reducible show (_ : Int) < _); omega) | rfl | exact SqL.of (by assumption) | exact SqT.of (by assumption) | exact atI_nat (j := 0) rfl | exact atI_nat (j := 1) rfl | exact atI_nat (j := 2) rfl | exact atI_nat (j := 3) rfl | exact sz_lit rfl | exact lt_lit rfl | exact pos_lit rfl | exact le_lit rfl | exact Or.inl (SqL.of (by assumption)) | exact ⟨_, SqL.of (by assumption)⟩ | exact ⟨_, SqT.of (by assumption)⟩ | exact Or.inr (SqT.of (by assumption)) | exact ClsV.ty _ | exact TyX.base (TyOf.int _) | exact TyX.base (TyOf.str _) | exact TyX.base (TyOf.tup (by assumption)) | exact kit_ty isi_ss | exact kit_ty isi_is | exact kit_ty isi_ts | exact kit_ty isi_si | exact kit_ty isi_ii | exact kit_ty isi_ti | exact kit_ty isi_st | exact kit_ty isi_it | exact kit_ty isi_tt | exact Or.inl ⟨_, Or.inl (by assumption)⟩ | exact DGet.k (k := Sum.inr _) (by assumption) | exact DGet.k (k := Sum.inl _) (by assumption) | (refine cpow_of ?_; decide) | (refine cmul_of ?_; decide) | (show (_ : Int) ≠ 0; first | decide | omega) | (refine cdivn_of ?_; decide) | exact Or.inl ⟨rfl, _, SqL.of (by assumption)⟩ | omega)
local macro_rules | `(tactic| walk_at "st") => `(tactic| first | (apply Exists.intro) | (refine And.intro ?_ ?_; focus (walk_at "sd")) | (apply Or.inl; apply Exists.intro; refine And.intro ?_ ?_; focus rfl) | (apply Or.inr; apply Exists.intro; refine And.intro ?_ ?_; focus rfl))
local macro_rules | `(tactic| walk_at "go") => `(tactic| repeat (walk_at "st"))
section
variable {P : Program} {w : World} {K : PySem.W.Frag} {mg : Str → Option Value} {base : Heap}
theorem ok_Course_parts (T : Top K mg) (m : Nat) : FnOk P w K mg base CX0 (m + 7) T.Course_parts.f T.Course_parts.fd ["self", "statement", "place"] (spParts T.Course.C m) := by
  have G_is_true : FnOk P w K mg base CX0 6 T.is_true.f T.is_true.fd ["test", "names"] (spTrue 2) := ok_is_true T 2
  have G_places_in : FnOk P w K mg base CX0 (m + 2) T.places_in.f T.places_in.fd ["statement"] (spPlaces m) := ok_places_in T m
  refine T.Course_parts.F.ok sc_Course_parts (fun vs H Q E h => ?_) (fun cdv A outer s H vs Q E hr h => ?_)
  · obtain ⟨a, r, chs, wk, n, s, v, st, p, rfl, _⟩ := h
    rfl
  obtain ⟨a, r, chs, wk, n, s, v, st, p, rfl, c, hT, hpl, hok, hp, hm, q⟩ := h
  refine ⟨_, (pss_cons (ps_if (pt_cmpR op_eq (pe_ix (ix_tupK (K := K) rfl) (pv 1) pe_int (fun _ _ => rfl)) pe_str (nomark _)) (pss_one (ps_ret (pe_op op_repL (pe_lstA (pa_cons (pe_tupA (pa_cons (pe_ix (ix_tupK (K := K) rfl) (pv 1) pe_int (fun _ _ => rfl)) (pa_cons (pe_op op_add (pv 2) pe_int) pa_nil))) pa_nil)) (pe_ix (ix_tupK (K := K) rfl) (pv 1) pe_int (fun _ _ => rfl))))) pss_nil)
      (pss_cons (ps_if (pt_val (pe_call G_is_true (hr.mono (by omega)) (by rfl) T.is_true.g T.is_true.F.kp T.is_true.b .nil pass0 (pa_cons (pe_ix (ix_tupK (K := K) rfl) (pv 1) pe_int (fun _ _ => rfl)) (pa_cons (pe_fldK (K := K) rfl (pv 0)) pa_nil)))) (pss_one (ps_ret (pe_lstA (pa_cons (pe_tupA (pa_cons (pe_ix (ix_tupK (K := K) rfl) (pv 1) pe_int (fun _ _ => rfl)) (pa_cons (pe_op op_add (pv 2) pe_int) pa_nil))) pa_nil)))) pss_nil)
      (pss_one (ps_ret (pe_lstA (pa_cons (pe_tupA (pa_cons (pe_ix (ix_tupK (K := K) rfl) (pv 1) pe_int (fun _ _ => rfl)) (pa_cons (pe_op op_add (pe_op op_add (pv 2) pe_int) (pe_callB (id := "sum") (cr_sumK (K := K) rfl (by rfl)) (by rfl) T.sum (by decide +kernel) (pa_cons (pe_lc (own := [("item", 3)]) (by rfl) sc_Course_parts.nd (pi_tupK (K := K) rfl (pe_ix (ix_tupK (K := K) rfl) (pv 1) pe_int (fun _ _ => rfl))) (blkOk_by (N := ["self", "statement", "place", "item"]) (sc := defScope s_Course_parts) (own := [("item", 3)]) (by decide +kernel)) (fun _ _ _ _ _ => (pg_name (i := 3) sc_Course_parts.nd rfl (.inl rfl))) (fun _ _ _ _ _ => pts_nil) (fun _ _ _ _ _ => (pe_call G_places_in (hr.mono (by omega)) (by rfl) T.places_in.g T.places_in.F.kp T.places_in.b .nil pass0 (pa_cons (pv 3) pa_nil)))) pa_nil))) pa_nil))) pa_nil)))))), ?_⟩
  have cl := T.Course.cl
  have n1 := T.n_Course_names
  have ob := c.ob
  obtain ⟨kvs, nm, er, lk⟩ := c.nm
  cases st with
  | set x e => exact absurd trivial hpl
  | half x e => exact absurd trivial hpl
  | tell e => exact absurd trivial hpl
  | say e => exact absurd trivial hpl
  | stop e => exact absurd trivial hpl
  | rep k b =>
    obtain ⟨u, x1, x2, x3, rfl, h1, t1, t2, t3⟩ := tr_tup3 hT
    cases tr_str t1
    cases tr_int t2
    obtain ⟨o1, o2⟩ := (show k ≤ 8 ∧ Sm.oks b by simpa only [Sm.ok] using hok)
    walk_at "go"
    intro r1 H1 hr1 e1
    have k1 := new_kp hr1 e1
    have a1 := new_at e1
    walk_at "go"
    intro r2 H2 hr2 e2
    have k2 := new_kp hr2 e2
    have a2 := new_at e2
    have h12 := k2.at (k1.at h1)
    have z1 : (0 : Int) ≤ (k : Int) := by omega
    have z2 : (k : Int) ≤ 1000000 := by omega
    have z3 : [V.ref r1].length * ((k : Int)).toNat ≤ 1000000 := by
      show 1 * ((k : Int)).toNat ≤ 1000000
      omega
    walk_at "go"
    intro r3 H3 hr3 a3 k3
    refine q r3 _ H3 ((k1.step0 k2).free hr3 (by simp)) a3 ?_ ((k1.step0 k2).step0 k3)
    rw [Int.toNat_natCast, flat_rep]
    show TrAll H3 (List.map partD (List.replicate k (b, p + 1))) _
    have tp : Tr H3 (partD (b, p + 1)) (.ref r1) := mk_tup (k3.at (k2.at a1)) (trs_cons (k3.tr (k2.tr (k1.tr t3))) (trs_cons mk_int trs_nil))
    rw [List.map_replicate]
    exact trs_rep tp k
  | ite t y m1 =>
    obtain ⟨u, x1, x2, x3, x4, rfl, h1, t1, t2, t3, t4⟩ := tr_tup4 hT
    cases tr_str t1
    obtain ⟨o1, o2, o3, o4⟩ := (show t.ok ∧ t.nots ≤ 2 ∧ Sm.oks y ∧ Sm.oks m1 by simpa only [Sm.ok] using hok)
    walk_at "go"
    refine ite2 (fun hc => ?_) (fun hc => ?_)
    · have ep : partsOf s.env p (.ite t y m1) = [(y, p + 1)] := by rw [partsOf, if_pos hc]
      rw [ep] at q
      walk_at "go"
      intro r1 H1 hr1 e1
      have k1 := new_kp hr1 e1
      have a1 := new_at e1
      walk_at "go"
      intro r2 H2 hr2 e2
      have k2 := new_kp hr2 e2
      exact q r2 _ H2 (k1.free hr2 (by simp)) (new_at e2) (trs_cons (mk_tup (k2.at a1) (trs_cons (k2.tr (k1.tr t3)) (trs_cons mk_int trs_nil))) trs_nil) (k1.step0 k2)
    · have ep : partsOf s.env p (.ite t y m1) = [(m1, p + 1 + (Sm.pls y : Int))] := by rw [partsOf, if_neg hc]
      rw [ep] at q
      obtain ⟨ya, ys, rfl, hya, tya⟩ := tr_tup t3
      rw [Sm.ds_map] at tya
      have ly : ys.length = y.length := by rw [tya.length, List.length_map]
      have ll := Sm.len_pls y
      have mb : y ∈ (Sm.ite t y m1).blks := by simp [Sm.blks]
      have b1 := Sm.blk_nest mb
      have b2 := Sm.blk_pls mb
      walk_at "go"
      intro D hD
      refine lc_tup (K := K) (a := ya) (xs := ys) (fun j H3 => Kp [D] H H3 ∧ H3 D = some (.lst ((y.take j).map fun t => V.int (Sm.pl t : Int)))) ⟨(Kp.new hD).sub (by simp), upd_same⟩ ?_ ?_ ?_
      · rintro j H3 _ ⟨k3, _⟩
        exact SqT.of (k3.tup _ _ hya)
      · rintro j z H3 hy ⟨k3, d3⟩
        have hj : j < y.length := by
          have := (List.getElem?_eq_some_iff.mp hy).1
          omega
        have et : y[j]? = some y[j] := List.getElem?_eq_getElem hj
        have mt : y[j] ∈ y := List.getElem_mem hj
        generalize y[j] = st at et mt
        have m1 := Sm.nest_mem mt
        have m2 := Sm.pl_mem mt
        obtain ⟨z', hz', tz⟩ := TrAll.get (i := j) tya (by rw [List.getElem?_map, et]; rfl)
        rw [hy] at hz'
        cases hz'
        have tz3 := k3.tr tz
        have hz2 : ((y.take j).map fun t => V.int (Sm.pl t : Int)).length < sizeLine := by
          rw [List.length_map, List.length_take]
          exact sz_lt (by omega)
        walk_at "go"
        intro H4 k4
        have d4 := k4.at d3
        walk_at "go"
        refine ⟨(k3.step0 k4).step1 (Kp.put d4 (fun _ z => by cases z)) (.inl (by simp)), ?_⟩
        rw [upd_same, List.take_add_one, et, List.map_append]
        rfl
      · rintro H3 ⟨k3, d3⟩
        rw [ly, List.take_length] at d3
        have d3' : H3 D = some (.lst ((y.map fun t => (Sm.pl t : Int)).map V.int)) := by
          rw [d3, List.map_map]
          rfl
        have es : (y.map fun t => (Sm.pl t : Int)).sum = (Sm.pls y : Int) := pls_sum y
        have k3' : Kp [] H H3 := Kp.refl.step1 k3 (.inr hD)
        walk_at "go"
        rw [es]
        intro r1 H4 hr1 e1
        have k4 := new_kp hr1 e1
        have a4 := new_at e1
        walk_at "go"
        intro r2 H5 hr2 e2
        have k5 := new_kp hr2 e2
        exact q r2 _ H5 ((k3'.step0 k4).free hr2 (by simp)) (new_at e2) (trs_cons (mk_tup (k5.at a4) (trs_cons (k5.tr (k4.tr (k3'.tr t4))) (trs_cons mk_int trs_nil))) trs_nil) ((k3'.step0 k4).step0 k5)
end
end EH
namespace EH
open PySem L2
local macro_rules | `(tactic| walk_at "sd") => `(tactic| first | assumption | ((with_reducible show (_ : Int) ≤ _); omega) | ((with_reducible show (_ : Int) < _); omega) | rfl | exact SqL.of (by assumption) | exact SqT.of (by assumption) | exact atI_nat (j := 0) rfl | exact atI_nat (j := 1) rfl | exact atI_nat (j := 2) rfl | exact atI_nat (j := 3) rfl | exact sz_lit rfl | exact lt_lit rfl | exact pos_lit rfl | exact le_lit rfl | exact Or.inl (SqL.of (by assumption)) | exact ⟨_, SqL.of (by assumption)⟩ | exact ⟨_, SqT.of (by assumption)⟩ | exact Or.inr (SqT.of (by assumption)) | exact ClsV.ty _ | exact TyX.base (TyOf.int _) | exact TyX.base (TyOf.str _) | exact TyX.base (TyOf.tup (by assumption)) | exact kit_ty isi_ss | exact kit_ty isi_is | exact kit_ty isi_ts | exact kit_ty isi_si | exact kit_ty isi_ii | exact kit_ty isi_ti | exact kit_ty isi_st | exact kit_ty isi_it | exact kit_ty isi_tt | exact Or.inl ⟨_, Or.inl (by assumption)⟩ | exact DGet.k (k := Sum.inr _) (by assumption) | exact DGet.k (k := Sum.inl _) (by assumption) | (refine cpow_of ?_; decide) | (refine cmul_of ?_; decide) | (show (_ : Int) ≠ 0; first | decide | omega) | (refine cdivn_of ?_; decide) | exact Or.inl ⟨rfl, _, SqL.of (by assumption)⟩ | omega)
local macro_rules | `(tactic| walk_at "st") => `(tactic| first | (apply Exists.intro) | (refine And.intro ?_ ?_; focus (walk_at "sd")) | (apply Or.inl; apply Exists.intro; refine And.intro ?_ ?_; focus rfl) | (apply Or.inr; apply Exists.intro; refine And.intro ?_ ?_; focus rfl))
local macro_rules | `(tactic| walk_at "go") => `(tactic| repeat (walk_at "st"))
section
variable {P : Program} {w : World} {K : PySem.W.Frag} {mg : Str → Option Value} {base : Heap}
theorem ok_Course_goR (T : Top K mg) {c0 : RC} {rn k : Nat} (RK : RCalls P w K mg base c0 rn k) : ∀ m : Nat, FnOk P w K mg base CX0 (m + k + 8) T.Course_go.f T.Course_go.fd ["self", "block", "place"] (spGoR c0 rn T.Course.C m)
  | m => by
    have G_Course_parts : FnOk P w K mg base CX0 (m + 7) T.Course_parts.f T.Course_parts.fd ["self", "statement", "place"] (spParts T.Course.C m) := ok_Course_parts T m
    have G_Course_do : FnOk P w K mg base CX0 (k + 4) T.Course_do.f T.Course_do.fd ["self", "statement", "place"] (spDoR c0 rn T.Course.C) := ok_Course_doR T RK
    have G_places_in : FnOk P w K mg base CX0 (m + 2) T.places_in.f T.places_in.fd ["statement"] (spPlaces m) := ok_places_in T m
    have G_Course_go : FnOk P w K mg base CX0 (m + k + 7) T.Course_go.f T.Course_go.fd ["self", "block", "place"] (sp0 (spGoR c0 rn T.Course.C) m) := by
      cases m with
      | zero => exact fn_no fun _ _ _ _ h => h
      | succ j =>
        have e : j + 1 + k + 7 = j + k + 8 := by omega
        rw [e]
        exact ok_Course_goR T RK j
    refine T.Course_go.F.ok sc_Course_go (fun vs H Q E h => ?_) (fun cdv A outer s H vs Q E hr h => ?_)
    · obtain ⟨a, r, chs, wk, ways, n, s, v, b, p, dec, rfl, _⟩ := h
      rfl
    obtain ⟨a, r, chs, wk, ways, n, s, v, b, p, dec, rfl, c, hR, hw, hn, hT, hok, hp, hm, q⟩ := h
    refine ⟨_, (pss_cons (ps_forA (ps_for PassesOwn.never rfl (pi_tupK (K := K) rfl (pv 1)) (pg_name (i := 3) sc_Course_go.nd rfl (.inl rfl)) (pss_cons (ps_set (i := 4) sc_Course_go.nd rfl (.inl rfl) pe_non)
      (pss_cutA (ps_if (pt_cmpR (op_in_seqK (K := K) rfl) (pe_ix (ix_tupK (K := K) rfl) (pv 3) pe_int (fun _ _ => rfl)) (pe_tupA (pa_cons pe_str (pa_cons pe_str pa_nil))) (by rfl)) (pss_one (ps_forA (ps_for PassesOwn.never rfl (pi_listK (K := K) rfl (pe_meth (pv 0) T.Course.cl T.Course_parts.m G_Course_parts (hr.mono (by omega)) T.Course_parts.b .nil pass0 (pa_cons (pv 3) (pa_cons (pv 2) pa_nil)))) (pg_tup (by rfl) (pgs_cons (pg_name (i := 5) sc_Course_go.nd rfl (.inl rfl)) (pgs_cons (pg_name (i := 6) sc_Course_go.nd rfl (.inl rfl)) pgs_nil))) (pss_one (ps_if (pt_cmpR op_isN (pv 4) pe_non (nomark _)) (pss_one (ps_set (i := 4) sc_Course_go.nd rfl (.inl rfl) (pe_meth (pv 0) T.Course.cl T.Course_go.m G_Course_go (hr.mono (by omega)) T.Course_go.b .nil pass0 (pa_cons (pv 5) (pa_cons (pv 6) pa_nil))))) pss_nil))))) (pss_one (ps_set (i := 4) sc_Course_go.nd rfl (.inl rfl) (pe_meth (pv 0) T.Course.cl T.Course_do.m G_Course_do (hr.mono (by omega)) T.Course_do.b .nil pass0 (pa_cons (pv 3) (pa_cons (pv 2) pa_nil))))))
      (pss_cons (ps_if (pt_cmpR op_notN (pv 4) pe_non (nomark _)) (pss_one (ps_ret (pv 4))) pss_nil)
      (pss_one (ps_aug (i := 2) sc_Course_go.nd rfl (.inl rfl) (pe_call G_places_in (hr.mono (by omega)) (by rfl) T.places_in.g T.places_in.F.kp T.places_in.b .nil pass0 (pa_cons (pv 3) pa_nil)) ip_add)))))))
      (pss_one (ps_ret pe_non))), ?_⟩
    have cl := T.Course.cl
    obtain ⟨ba, bv, rfl, hb, tb⟩ := tr_tup hT
    rw [Sm.ds_map] at tb
    have lb : bv.length = b.length := by rw [tb.length, List.length_map]
    walk_at "go"
    refine ⟨for_tup (K := K) (a := ba) (xs := bv) (fun i σ H1 => Lp (∃ (s1 : Cs) (n1 : Nat) (p1 : Int) (w3 w4 w5 w6 : Option V), σ = [some (.ref a.x), some (.ref ba), some (.int p1), w3, w4, w5, w6] ∧ CAt T.Course.C H1 a r chs wk n1 s1 ∧
      n1 + 2 * Sm.wts (b.drop i) ≤ n + 2 * Sm.wts b ∧ Sm.runs dec ways (b.drop i) p1 s1 = Sm.runs dec ways b p s ∧ Kp [a.nd, a.sd, a.td] H H1)) ⟨s, n, p, none, none, none, none, rfl, c, by simp, by simp, Kp.refl⟩ ?_ ?_ ?_⟩
    · rintro i σ H1 _ ⟨⟨s1, n1, p1, w3, w4, w5, w6, rfl, c1, hn1, e1, k1⟩⟩
      exact SqT.of (k1.tup _ _ hb)
    · rintro i x σ H1 hx ⟨⟨s1, n1, p1, w3, w4, w5, w6, rfl, c1, hn1, e1, k1⟩⟩
      have hi : i < b.length := by
        have := (List.getElem?_eq_some_iff.mp hx).1
        omega
      have et : b[i]? = some b[i] := List.getElem?_eq_getElem hi
      have mt : b[i] ∈ b := List.getElem_mem hi
      rw [List.drop_eq_getElem_cons hi] at hn1 e1
      generalize b[i] = t at et mt hn1 e1
      simp only [Sm.wts] at hn1
      obtain ⟨x', hx', tx⟩ := TrAll.get (i := i) tb (by rw [List.getElem?_map, et]; rfl)
      rw [hx] at hx'
      cases hx'
      have ok1 := oks_mem hok mt
      have nt := Sm.nest_mem mt
      have pt := Sm.pl_mem mt
      have wt := t.wt_pos
      have tx1 := k1.tr tx
      obtain ⟨u, rest, rfl, hu1⟩ := Sm.head tx1
      refine ⟨⟨fun σ2 H2 => Lp (∃ (n2 : Nat) (w5 w6 : Option V), σ2 = [some (.ref a.x), some (.ref ba), some (.int p1), some (.ref u), some (wV (t.run dec ways p1 s1).1), w5, w6] ∧ CAt T.Course.C H2 a r chs wk n2 (t.run dec ways p1 s1).2 ∧
        n2 ≤ n1 + 2 * t.wt ∧ Kp [a.nd, a.sd, a.td] H1 H2), ?_, ?_⟩⟩
      · walk_at "go"
        intro tp H2 htp e2
        have k2 := new_kp htp e2
        have a2 := new_at e2
        have c2 := c1.kp0 k2
        have ob2 := c2.ob
        have tx2 := k2.tr tx1
        have hR2 := (c.rule hR k1).kp0 k2
        have fl : ([.str "if", .str "repeat"] : List V).all flatV = true := by decide +kernel
        refine ⟨tp, _, rfl, .inr (SqT.of a2), rfl, fl, _, rfl, ?_⟩
        rcases t.kw_in with ⟨hin, hpl⟩ | ⟨hin, hpl⟩
        · show if inV (.str t.kw) [.str "if", .str "repeat"] = true then _ else _
          rw [hin]
          refine iteT ?_
          have hn0 := Sm.nests_pos hpl
          have hm1 : t.nest ≤ m := by omega
          have hp1 : t.pl ≤ 1000000 := by omega
          walk_at "go"
          intro l ts H3 hl3 g3 tt k3
          have lt : ts.length = (partsOf s1.env p1 t).length := by rw [tt.length, List.length_map]
          have c3 := c2.kp0 k3
          have er := run_parts dec ways hpl p1 s1
          have hws := parts_wt (env := s1.env) (p := p1) (st := t)
          have noff : l ∉ [a.nd, a.sd, a.td] := by
            obtain ⟨kvs, g1, _⟩ := c2.nm
            simp [(ne_of_none g1 hl3).symm, (ne_of_none c2.sa hl3).symm, (ne_of_none c2.tu hl3).symm]
          refine ⟨l, rfl, ⟨_, SqL.of g3⟩, ⟨for_list (K := K) (a := l) (xs := ts) (fun j σ H4 => Lp (∃ (wr : Option Str × Cs) (n4 : Nat) (w5 w6 : Option V), σ = [some (.ref a.x), some (.ref ba), some (.int p1), some (.ref u), some (wV wr.1), w5, w6] ∧
            CAt T.Course.C H4 a r chs wk n4 wr.2 ∧ n4 + 2 * wsum ((partsOf s1.env p1 t).drop j) ≤ n1 + 2 * wsum (partsOf s1.env p1 t) ∧
            foldP dec ways ((partsOf s1.env p1 t).drop j) wr = foldP dec ways (partsOf s1.env p1 t) (none, s1) ∧ Kp [a.nd, a.sd, a.td] H3 H4)) ⟨(none, s1), n1, _, _, rfl, c3, by simp, by simp, Kp.refl⟩ ?_ ?_ ?_⟩⟩
          · rintro j σ H4 _ ⟨⟨wr, n4, w5, w6, rfl, c4, hn4, e4, k4⟩⟩
            exact SqL.of (k4.keep _ _ g3 noff)
          · rintro j y σ H4 hy ⟨⟨wr, n4, w5, w6, rfl, c4, hn4, e4, k4⟩⟩
            have hj : j < (partsOf s1.env p1 t).length := by
              have := (List.getElem?_eq_some_iff.mp hy).1
              omega
            have ep : (partsOf s1.env p1 t)[j]? = some (partsOf s1.env p1 t)[j] := List.getElem?_eq_getElem hj
            have mp : (partsOf s1.env p1 t)[j] ∈ partsOf s1.env p1 t := List.getElem_mem hj
            rw [List.drop_eq_getElem_cons hj] at hn4 e4
            generalize (partsOf s1.env p1 t)[j] = pq at ep mp hn4 e4
            have mb := parts_mem mp
            have b1 := Sm.blk_nest mb
            have b2 := Sm.blk_pls mb
            have b3 := ok_blk ok1 mb
            obtain ⟨y', hy', ty⟩ := TrAll.get (i := j) tt (by rw [List.getElem?_map, ep]; rfl)
            rw [hy] at hy'
            cases hy'
            obtain ⟨z, z1, z2, rfl, hz, tz1, tz2⟩ := tr_tup2 (k4.tr ty)
            cases tr_int tz2
            obtain ⟨wo, ws⟩ := wr
            have hws4 : n4 + 2 * (Sm.wts pq.1 + wsum ((partsOf s1.env p1 t).drop (j + 1))) ≤ n1 + 2 * wsum (partsOf s1.env p1 t) := hn4
            have ob4 := c4.ob
            have hR4 := c3.rule (hR2.kp0 k3) k4
            cases wo with
            | some cc =>
              walk_at "go"
              exact ⟨(some cc, ws), n4, _, _, rfl, c4, by omega, e4, k4⟩
            | none =>
              have hb4 : n4 + 2 * Sm.wts pq.1 ≤ 1000000 := by
                have : wsum (partsOf s1.env p1 t) + 1 ≤ t.wt := hws
                omega
              have hp4 : Sm.pls pq.1 ≤ 1000000 := by omega
              obtain ⟨m', rfl⟩ : ∃ m', m = m' + 1 := ⟨m - 1, by omega⟩
              have hm4 : Sm.nests pq.1 ≤ m' := by omega
              walk_at "go"
              intro H5 c5 k5
              exact ⟨Sm.runs dec ways pq.1 pq.2 ws, n4 + 2 * Sm.wts pq.1, _, _, rfl, c5, by omega, e4, k4.trans k5⟩
          · rintro σ H4 ⟨⟨wr, n4, w5, w6, rfl, c4, hn4, e4, k4⟩⟩
            rw [lt, List.drop_length] at hn4 e4
            have e5 : wr = t.run dec ways p1 s1 := by
              rw [er]
              exact e4
            subst e5
            have hws2 : wsum (partsOf s1.env p1 t) + 1 ≤ t.wt := hws
            exact ⟨n4, _, _, rfl, c4, by omega, ((k2.step0 k3).sub (by simp)).trans k4⟩
        · show if inV (.str t.kw) [.str "if", .str "repeat"] = true then _ else _
          rw [hin]
          refine iteF ?_
          have hn2 : n1 + 2 ≤ 1000000 := by omega
          walk_at "go"
          intro H3 c3 k3
          exact ⟨n1 + 2, _, _, rfl, c3, by omega, (k2.sub (by simp)).trans k3⟩
      · rintro σ2 H2 ⟨⟨n2, w5', w6', rfl, c2, hn2, k2⟩⟩
        have tx2 := k2.tr tx1
        cases er : t.run dec ways p1 s1 with
        | mk o s2 =>
          rw [er] at c2
          cases o with
          | none =>
            have e2 : Sm.runs dec ways (b.drop (i + 1)) (p1 + (t.pl : Int)) s2 = Sm.runs dec ways b p s := by
              rw [← e1, Sm.runs, er]
            have hp1 : t.pl ≤ 1000000 := by omega
            have hm1 : t.nest ≤ m := by omega
            walk_at "go"
            intro H3 k3
            walk_at "go"
            exact ⟨s2, n2, p1 + (t.pl : Int), _, _, _, _, rfl, c2.kp0 k3, by omega, e2, (k1.trans k2).step0 k3⟩
          | some y =>
            have e2 : Sm.runs dec ways b p s = (some y, s2) := by
              rw [← e1, Sm.runs, er]
            rw [e2] at q
            walk_at "go"
            exact q H2 (c2.mono (by omega)) (k1.trans k2)
    · rintro σ H1 ⟨⟨s1, n1, p1, w3, w4, w5, w6, rfl, c1, hn1, e1, k1⟩⟩
      rw [lb, List.drop_length] at hn1 e1
      rw [← e1] at q
      exact q H1 (c1.mono (by simp only [Sm.wts] at hn1; omega)) k1
end
end EH
namespace EH
open PySem L2
local macro_rules | `(tactic| walk_at "sd") => `(tactic| first | assumption | ((with_reducible show (_ : Int) ≤ _); omega) | ((with_reducible show (_ : Int) < _); omega) | rfl | exact SqL.of (by assumption) | exact SqT.of (by assumption) | exact atI_nat (j := 0) rfl | exact atI_nat (j := 1) rfl | exact atI_nat (j := 2) rfl | exact atI_nat (j := 3) rfl | exact sz_lit rfl | exact lt_lit rfl | exact pos_lit rfl | exact le_lit rfl | exact Or.inl (SqL.of (by assumption)) | exact ⟨_, SqL.of (by assumption)⟩ | exact ⟨_, SqT.of (by assumption)⟩ | exact Or.inr (SqT.of (by assumption)) | exact ClsV.ty _ | exact TyX.base (TyOf.int _) | exact TyX.base (TyOf.str _) | exact TyX.base (TyOf.tup (by assumption)) | exact kit_ty isi_ss | exact kit_ty isi_is | exact kit_ty isi_ts | exact kit_ty isi_si | exact kit_ty isi_ii | exact kit_ty isi_ti | exact kit_ty isi_st | exact kit_ty isi_it | exact kit_ty isi_tt | exact Or.inl ⟨_, Or.inl (by assumption)⟩ | exact DGet.k (k := Sum.inr _) (by assumption) | exact DGet.k (k := Sum.inl _) (by assumption) | (refine cpow_of ?_; decide) | (refine cmul_of ?_; decide) | (show (_ : Int) ≠ 0; first | decide | omega) | (refine cdivn_of ?_; decide) | exact Or.inl ⟨rfl, _, SqL.of (by assumption)⟩ | omega)
local macro_rules | `(tactic| walk_at "st") => `(tactic| first | (apply Exists.intro) | (refine And.intro ?_ ?_; focus (walk_at "sd")) | (apply Or.inl; apply Exists.intro; refine And.intro ?_ ?_; focus rfl) | (apply Or.inr; apply Exists.intro; refine And.intro ?_ ?_; focus rfl))
local macro_rules | `(tactic| walk_at "go") => `(tactic| repeat (walk_at "st"))
section
variable {P : Program} {w : World} {K : PySem.W.Frag} {mg : Str → Option Value} {base : Heap}
theorem ok_Course_init (T : Top K mg) {k : Nat} : FnOk P w K mg base CX0 (k + 1) T.Course_init.f T.Course_init.fd ["self", "number", "choices", "ways", "rule"] (spInit T.Course.C) := by
  refine T.Course_init.F.ok sc_Course_init (fun vs H Q E h => ?_) (fun cdv A outer s H vs Q E hr h => ?_)
  · obtain ⟨x, dx, cd, wd, num, r, chs, wk, rfl, _⟩ := h
    rfl
  obtain ⟨x, dx, cd, wd, num, r, chs, wk, rfl, hx, hc, hd, lc, q⟩ := h
  refine ⟨_, (pss_cons (ps_fldA (K := K) rfl (pv 0) (pe_disp (pps_cons (pe_glob (v := .str "n") (by rfl) T.g_INPUT ⟨_, rfl⟩) (pv 1) pps_nil) (by rfl) (by rfl) (fun z => by cases z) (by decide)))
      (pss_cons (ps_fldA (K := K) rfl (pv 0) (pe_lstA pa_nil))
      (pss_cons (ps_fldA (K := K) rfl (pv 0) (pe_lstA pa_nil))
      (pss_cons (ps_fldA (K := K) rfl (pv 0) (pv 2))
      (pss_cons (ps_fldA (K := K) rfl (pv 0) (pv 3))
      (pss_one (ps_fldA (K := K) rfl (pv 0) (pv 4)))))))), ?_⟩
  have cl := T.Course.cl
  have n1 := T.n_Course_names
  have n2 := T.n_Course_said
  have n3 := T.n_Course_turns
  have n4 := T.n_Course_choices
  have n5 := T.n_Course_ways
  have n6 := T.n_Course_rule
  walk_at "go"
  intro nd hnd
  walk_at "go"
  refine ⟨upd_same, [(Sum.inr "n", .int num)], rfl, by show 1 ≤ 15; decide, ?_⟩
  have a1 : (upd (upd H nd (.dK [])) nd (.dK (mergeK [] [(Sum.inr "n", .int num)]))) nd = some (.dK [(Sum.inr "n", .int num)]) := by
    rw [upd_same]
    rfl
  have k1 : Kp [] H (upd (upd H nd (.dK [])) nd (.dK (mergeK [] [(Sum.inr "n", .int num)]))) := (Kp.new hnd).step1 (Kp.put upd_same (fun _ z => by cases z)) (.inr hnd)
  generalize upd (upd H nd (.dK [])) nd (.dK (mergeK [] [(Sum.inr "n", V.int num)])) = H1 at a1 k1 ⊢
  have x1 := k1.at hx
  walk_at "go"
  intro H2 x2 k2
  have nxd : x ≠ nd := ne_of_none hx hnd
  have a2 := k2.keep _ _ a1 (ne1 nxd.symm)
  walk_at "go"
  intro sd H3 hsd e3
  have s3 := new_at e3
  have k3 := new_kp hsd e3
  have x3 := k3.at x2
  have a3 := k3.at a2
  walk_at "go"
  intro H4 x4 k4
  have nxs : x ≠ sd := ne_of_none x2 hsd
  have a4 := k4.keep _ _ a3 (ne1 nxd.symm)
  have s4 := k4.keep _ _ s3 (ne1 nxs.symm)
  walk_at "go"
  intro td H5 htd e5
  have t5 := new_at e5
  have k5 := new_kp htd e5
  have x5 := k5.at x4
  have a5 := k5.at a4
  have s5 := k5.at s4
  walk_at "go"
  intro H6 x6 k6
  have nxt : x ≠ td := ne_of_none x4 htd
  have a6 := k6.keep _ _ a5 (ne1 nxd.symm)
  have s6 := k6.keep _ _ s5 (ne1 nxs.symm)
  have t6 := k6.keep _ _ t5 (ne1 nxt.symm)
  walk_at "go"
  intro H7 x7 k7
  have a7 := k7.keep _ _ a6 (ne1 nxd.symm)
  have s7 := k7.keep _ _ s6 (ne1 nxs.symm)
  have t7 := k7.keep _ _ t6 (ne1 nxt.symm)
  walk_at "go"
  intro H8 x8 k8
  have a8 := k8.keep _ _ a7 (ne1 nxd.symm)
  have s8 := k8.keep _ _ s7 (ne1 nxs.symm)
  have t8 := k8.keep _ _ t7 (ne1 nxt.symm)
  walk_at "go"
  intro H9 x9 k9
  have a9 := k9.keep _ _ a8 (ne1 nxd.symm)
  have s9 := k9.keep _ _ s8 (ne1 nxs.symm)
  have t9 := k9.keep _ _ t8 (ne1 nxt.symm)
  have kx : Kp [x] H H2 := (k1.sub (by simp)).trans k2
  have ky : Kp [x] H H4 := (kx.step0 k3).trans k4
  have ka : Kp [x] H H9 := ((((ky.step0 k5).trans k6).trans k7).trans k8).trans k9
  have nst : sd ≠ td := ne_of_none s4 htd
  have nwd : nd ≠ wd := (ne_of_none hd hnd).symm
  have hw9 := ka.keep _ _ hd (ne1 (ne_of hd hx (fun z => by cases z)))
  have hc9 := ka.tup _ _ hc
  have fsd : H sd = none := kx.free hsd (ne1 nxs.symm)
  have ftd : H td = none := ky.free htd (ne1 nxt.symm)
  refine q ⟨x, dx, nd, sd, td, cd, wd⟩ H9 rfl ⟨x9, ⟨_, a9, ?_, by show 1 ≤ 1; decide⟩, s9, t9, hc9, hw9, Nat.le_refl _, Nat.le_refl _, nwd, nst, lc⟩ ka ?_
  · intro y
    show (valV [((Sum.inr "n" : Key), V.int num)] (Sum.inr y)).getD (.int 0) = .int (env0 num y)
    unfold env0 valV
    by_cases e : y = "n"
    · subst e
      rfl
    · rw [if_neg e, List.find?_cons_of_neg (by simp; intro z; exact e z.symm)]
      rfl
  · intro b hb
    simp only [List.mem_cons, List.not_mem_nil, or_false] at hb
    rcases hb with rfl | rfl | rfl
    · exact hnd
    · exact fsd
    · exact ftd
end
section
variable {P : Program} {w : World} {K : PySem.W.Frag} {mg : Str → Option Value} {base : Heap}
theorem ok_course_ofR (T : Top K mg) {c0 : RC} {rn k : Nat} (RK : RCalls P w K mg base c0 rn k) (m : Nat) : FnOk P w K mg base CX0 (m + k + 9) T.course_of.f T.course_of.fd ["program", "number", "choices", "ways", "rule"] (spCourseOfR c0 rn m) := by
  have G_Course_init : FnOk P w K mg base CX0 1 T.Course_init.f T.Course_init.fd ["self", "number", "choices", "ways", "rule"] (spInit T.Course.C) := ok_Course_init T
  have G_Course_go : FnOk P w K mg base CX0 (m + k + 8) T.Course_go.f T.Course_go.fd ["self", "block", "place"] (spGoR c0 rn T.Course.C m) := ok_Course_goR T RK m
  refine T.course_of.F.ok sc_course_of (fun vs H Q E h => ?_) (fun cdv A outer s H vs Q E hr h => ?_)
  · obtain ⟨v, b, num, cd, wd, chs, wk, ways, r, dec, rfl, _⟩ := h
    rfl
  obtain ⟨v, b, num, cd, wd, chs, wk, ways, r, dec, rfl, hR, hT, hc, hd, hw, lc, hok, hwt, hp, hm, q⟩ := h
  refine ⟨_, (pss_cons (ps_set (i := 5) sc_course_of.nd rfl (.inl rfl) (pe_make T.mk_Course G_Course_init (hr.mono (by omega)) (by rfl) T.Course.g T.Course_init.b .nil pass0 (pa_cons (pv 1) (pa_cons (pv 2) (pa_cons (pv 3) (pa_cons (pv 4) pa_nil))))))
      (pss_cons (ps_set (i := 6) sc_course_of.nd rfl (.inl rfl) (pe_meth (pv 5) T.Course.cl T.Course_go.m G_Course_go (hr.mono (by omega)) T.Course_go.b .nil pass0 (pa_cons (pv 0) (pa_cons pe_int pa_nil))))
      (pss_one (ps_ret (pe_tupA (pa_cons (pe_callTy (T := "tuple") (call_tupleK (K := K) rfl) (by rfl) T.tuple (by decide +kernel) (pa_cons (pe_fldK (K := K) rfl (pv 5)) pa_nil)) (pa_cons (pv 6) (pa_cons (pe_callTy (T := "tuple") (call_tupleK (K := K) rfl) (by rfl) T.tuple (by decide +kernel) (pa_cons (pe_fldK (K := K) rfl (pv 5)) pa_nil)) pa_nil)))))))), ?_⟩
  have cl := T.Course.cl
  have n2 := T.n_Course_said
  have n3 := T.n_Course_turns
  walk_at "go"
  intro x dx hx hdx hne
  have k1 : Kp [] H (upd (upd H dx (.own x)) x (.ins T.Course.C dx [])) := (Kp.new hdx).step0 (Kp.new (by rw [upd_ne hne.symm]; exact hx))
  refine ⟨x, dx, cd, wd, num, r, chs, wk, rfl, upd_same, k1.tup _ _ hc, k1.at hd, lc, fun a H2 ea c2 k2 fr => ⟨rfl, ?_⟩⟩
  subst ea
  have k3 : Kp [] H H2 := k1.step1 k2 (.inr hx)
  have t2 := k3.tr hT
  have hR3 := hR.kp0 k3
  have ob2 := c2.ob
  have hz : 0 + 2 * Sm.wts b ≤ 1000000 := by omega
  have hcr : H cd ≠ none := by rw [hc]; exact fun z => nomatch z
  walk_at "go"
  intro H3 c3 k4
  have ob3 := c3.ob
  have sa3 := c3.sa
  have tu3 := c3.tu
  have f1 : ∀ b ∈ [a.nd, a.sd, a.td], H b = none := fun b hb => k1.free (fr b hb) (by simp)
  have k5 : Kp [] H H3 := k3.step k4 (fun b hb => .inr (f1 b hb))
  walk_at "go"
  intro r1 H4 hr1 a4 k6
  have ob4 := k6.at ob3
  have tu4 := k6.at tu3
  walk_at "go"
  intro r2 H5 hr2 a5 k7
  have a45 := k7.at a4
  walk_at "go"
  intro r3 H6 hr3 e6
  have k8 := new_kp hr3 e6
  refine q (.ref r3) H6 ?_ (((k5.step0 k6).step0 k7).step0 k8)
  exact mk_tup (new_at e6) (trs_cons (mk_tup (k8.at a45) (trs_kD _)) (trs_cons (tr_wD _) (trs_cons (mk_tup (k8.at a5) (trs_int _)) trs_nil)))
theorem ok_run_by (T : Top K mg) {c0 : RC} {rn k : Nat} (RK : RCalls P w K mg base c0 rn k) (m : Nat) : FnOk P w K mg base CX0 (m + k + 10) T.run_by.f T.run_by.fd ["program", "number", "rule"] (spRunByR c0 rn m) := by
  have G_course_of : FnOk P w K mg base CX0 (m + k + 9) T.course_of.f T.course_of.fd ["program", "number", "choices", "ways", "rule"] (spCourseOfR c0 rn m) := ok_course_ofR T RK m
  refine T.run_by.F.ok sc_run_by (fun vs H Q E h => ?_) (fun cdv A outer s H vs Q E hr h => ?_)
  · obtain ⟨v, b, num, r, dec, rfl, _⟩ := h
    rfl
  obtain ⟨v, b, num, r, dec, rfl, hR, hT, hok, hwt, hp, hm, q⟩ := h
  refine ⟨_, (pss_one (ps_ret (pe_call G_course_of (hr.mono (by omega)) (by rfl) T.course_of.g T.course_of.F.kp T.course_of.b .nil pass0 (pa_cons (pv 0) (pa_cons (pv 1) (pa_cons (pe_tupA pa_nil) (pa_cons pe_dnewK (pa_cons (pv 2) pa_nil)))))))), ?_⟩
  walk_at "go"
  intro pc H1 hpc e1
  have k1 := new_kp hpc e1
  have a1 : H1 pc = some (.tup (([] : List Int).map V.int)) := new_at e1
  walk_at "go"
  intro wd hwd
  have k2 : Kp [] H1 (upd H1 wd (.dK [])) := Kp.new hwd
  have d2 : upd H1 wd (.dK []) wd = some (.dK []) := upd_same
  generalize upd H1 wd (.dK []) = H2 at k2 d2 ⊢
  have a2 := k2.tup _ _ a1
  have hT2 := k2.tr (k1.tr hT)
  have hR2 := (hR.kp0 k1).kp0 k2
  have nw := noWay_rel
  have l0 : ([] : List Int).length ≤ 1000000 := Nat.zero_le _
  walk_at "go"
  intro t H3 t3 k3
  exact q t H3 t3 ((k1.trans k2).trans k3)
end
end EH
namespace EH
open PySem L2
/-! ### programs that are drawn -/
theorem Deck.cast {H : Hp} {a c : Addr} {n n' : Int} (d : Deck H a c n) (e : n = n') : Deck H a c n' := e ▸ d
/-- the names stand at nm -/
structure Nms (H : Hp) (nm a c : Addr) (names : List Str) : Prop where
  at_ : H nm = some (.lst (names.map V.str))
  off : nm ∉ [a, c]
  len : 0 < names.length ∧ names.length ≤ 1000
  oks : ∀ x ∈ names, NmOk x
theorem Nms.kp {S : List Addr} {H H' : Hp} {nm a c : Addr} {names : List Str} (x : Nms H nm a c names) (k : Kp S H H') (h : nm ∉ S) : Nms H' nm a c names := ⟨k.keep _ _ x.at_ h, x.off, x.len, x.oks⟩
theorem Nms.kp0 {H H' : Hp} {nm a c : Addr} {names : List Str} (x : Nms H nm a c names) (k : Kp [] H H') : Nms H' nm a c names := x.kp k (by simp)
theorem Nms.kpD {H H' : Hp} {nm a c : Addr} {names : List Str} (x : Nms H nm a c names) (k : Kp [a, c] H H') : Nms H' nm a c names := x.kp k x.off
/-! names that come from a list, words that come from the law's own lists -/
def Ex.inN (N : List Str) : Ex → Prop
  | .num _ => True
  | .var x => x ∈ N
  | .plus a b => a.inN N ∧ b.inN N
  | .minus a b => a.inN N ∧ b.inN N
  | .times _ a => a.inN N
def Ts.inN (N : List Str) : Ts → Prop
  | .less a b => a.inN N ∧ b.inN N
  | .odd a => a.inN N
  | .not t => t.inN N
def WdIn (c : Str) : Prop := c ∈ (["go", "7", "half", "odd", "end", "0", "not"] : List Str)
mutual
def Sm.inN (N : List Str) : Sm → Prop
  | .ite t y n => t.inN N ∧ Sm.insN N y ∧ Sm.insN N n
  | .rep _ b => Sm.insN N b
  | .set x e => e.inN N ∧ x ∈ N
  | .half x e => e.inN N ∧ x ∈ N
  | .tell e => e.inN N
  | .say c => WdIn c
  | .stop c => WdIn c
def Sm.insN (N : List Str) : List Sm → Prop
  | [] => True
  | s :: r => s.inN N ∧ Sm.insN N r
end
theorem Sm.insN_app {N : List Str} : ∀ {b c : List Sm}, Sm.insN N b → Sm.insN N c → Sm.insN N (b ++ c)
  | [], c, _, h => h
  | s :: r, c, h, g => by
    simp only [Sm.insN] at h
    simp only [List.cons_append, Sm.insN]
    exact ⟨h.1, Sm.insN_app h.2 g⟩
def costE : Nat → Int
  | 0 => 0
  | n + 1 => 3 + 2 * costE n
def spExpr (n : Nat) : Sp := fun vs H Q _ => ∃ (a c nm : Addr) (m deep : Int) (names : List Str), vs = [.ref a, .ref nm, .int deep] ∧ Deck H a c m ∧ m + costE n ≤ 900000000 ∧ Nms H nm a c names ∧ 1 ≤ deep ∧ deep ≤ n ∧ n ≤ 3 ∧
  ∀ (v : V) (e : Ex) (H' : Hp) (m' : Int), Tr H' e.d v → e.ok → e.inN names → (e.deep : Int) ≤ deep → m ≤ m' → m' ≤ m + costE n → Deck H' a c m' → Kp [a, c] H H' → Q v H'
theorem costE_nn : ∀ n, 0 ≤ costE n
  | 0 => Int.le_refl 0
  | n + 1 => by
    have := costE_nn n
    show 0 ≤ 3 + 2 * costE n
    omega
theorem mem_ints {P : Int → Prop} {x : V} : ∀ {l : List Int}, x ∈ l.map V.int → (∀ i ∈ l, P i) → ∃ i, x = .int i ∧ P i := fun {l} h q => by
  obtain ⟨i, hi, rfl⟩ := List.mem_map.mp h
  exact ⟨i, rfl, q i hi⟩
/-- what the counters are -/
structure Lf where
  p : Int
  w : Int
  h : Int
  c : Int
def Lf.vs (l : Lf) : List V := [.int l.p, .int l.w, .int l.h, .int l.c]
structure Gs (H : Hp) (a c nm lf : Addr) (m : Int) (names : List Str) (l : Lf) : Prop where
  dk : Deck H a c m
  nms : Nms H nm a c names
  lft : H lf = some (.lst l.vs)
  off : lf ∉ [a, c, nm]
theorem Gs.kp0 {H H' : Hp} {a c nm lf : Addr} {m : Int} {names : List Str} {l : Lf} (g : Gs H a c nm lf m names l) (k : Kp [] H H') : Gs H' a c nm lf m names l := ⟨g.dk.kp0 k, g.nms.kp0 k, k.at g.lft, g.off⟩
theorem Gs.nac {H : Hp} {a c nm lf : Addr} {m : Int} {names : List Str} {l : Lf} (g : Gs H a c nm lf m names l) : lf ∉ [a, c] := by
  have := g.off
  simp only [List.mem_cons, List.not_mem_nil, or_false, not_or] at this ⊢
  exact ⟨this.1, this.2.1⟩
theorem Gs.drawn {H H' : Hp} {a c nm lf : Addr} {m m' : Int} {names : List Str} {l : Lf} (g : Gs H a c nm lf m names l) (d : Deck H' a c m') (k : Kp [a, c] H H') : Gs H' a c nm lf m' names l :=
  ⟨d, g.nms.kpD k, k.keep _ _ g.lft g.nac, g.off⟩
theorem Gs.left {H H' : Hp} {a c nm lf : Addr} {m : Int} {names : List Str} {l l' : Lf} (g : Gs H a c nm lf m names l) (h : H' lf = some (.lst l'.vs)) (k : Kp [lf] H H') : Gs H' a c nm lf m names l' := by
  have o := g.off
  simp only [List.mem_cons, List.not_mem_nil, or_false, not_or] at o
  exact ⟨g.dk.kp k (ne1 (fun z => o.1 z.symm)) (ne1 (fun z => o.2.1 z.symm)), g.nms.kp k (ne1 (fun z => o.2.2 z.symm)), h, g.off⟩
theorem Gs.kpF {H0 H H' : Hp} {a c nm lf p : Addr} {m0 m : Int} {names : List Str} {l0 l : Lf} (g0 : Gs H0 a c nm lf m0 names l0) (hp : H0 p = none) (g : Gs H a c nm lf m names l) (k : Kp [p] H H') : Gs H' a c nm lf m names l := by
  have o := g0.dk.off hp
  simp only [List.mem_cons, List.not_mem_nil, or_false, not_or] at o
  exact ⟨g.dk.kp k (ne1 (fun z => o.1 z.symm)) (ne1 (fun z => o.2 z.symm)), g.nms.kp k (ne1 (ne_of_none g0.nms.at_ hp)), k.keep _ _ g.lft (ne1 (ne_of_none g0.lft hp)), g.off⟩
/-! data that are tuples of tuples: what == asks -/
def rEqT : R2 := fun x y H Q => ∃ d e, Tr H d x ∧ Tr H e y ∧ SeqAt.shaped d = true ∧ SeqAt.shaped e = true ∧ Q (.bl (PyData.eqv d e)) H
def rNeT : R2 := fun x y H Q => ∃ d e, Tr H d x ∧ Tr H e y ∧ SeqAt.shaped d = true ∧ SeqAt.shaped e = true ∧ Q (.bl (!PyData.eqv d e)) H
theorem shaped_of {d : PyData} (h1 : d.canLay0 = true) (h2 : d.depth ≤ 64) : SeqAt.shaped d = true := by
  show (d.canLay0 && decide (d.depth ≤ 64)) = true
  rw [h1, decide_eq_true h2]
  rfl
theorem shaped_nil : SeqAt.shaped (.tuple []) = true := shaped_of (by simp [PyData.canLay0, PyData.canLayAll0]) (by simp [PyData.depth, PyData.depthAll])
section
variable {X : Cx}
theorem op_eqT (hu : X.A.units + 64 < cLine) : OpR X (compareOp .Eq) rEqT := OpR.imp (op_eqD hu) fun x y H Q ⟨d, e, h1, h2, h3, h4, q⟩ => ⟨d, e, Tr.dp d x h1, Tr.dp e y h2, h3, h4, q⟩
theorem op_neT (hu : X.A.units + 64 < cLine) : OpR X (compareOp .NotEq) rNeT := OpR.imp (op_neD hu) fun x y H Q ⟨d, e, h1, h2, h3, h4, q⟩ => ⟨d, e, Tr.dp d x h1, Tr.dp e y h2, h3, h4, q⟩
end
theorem Ex.dep : ∀ e : Ex, e.d.depth + 1 ≤ e.deep
  | .num _ => by simp [Ex.d, Ex.deep, PyData.depth]
  | .var _ => by simp [Ex.d, Ex.deep, PyData.depth]
  | .plus a b => by
    have := Ex.dep a
    have := Ex.dep b
    simp only [Ex.d, Ex.deep, PyData.depth, PyData.depthAll]
    omega
  | .minus a b => by
    have := Ex.dep a
    have := Ex.dep b
    simp only [Ex.d, Ex.deep, PyData.depth, PyData.depthAll]
    omega
  | .times _ a => by
    have := Ex.dep a
    simp only [Ex.d, Ex.deep, PyData.depth, PyData.depthAll]
    omega
theorem Ts.dep : ∀ {t : Ts}, t.ok → t.d.depth ≤ t.nots + 4
  | .less a b, h => by
    have := Ex.dep a
    have := Ex.dep b
    obtain ⟨⟨_, h1⟩, _, h2⟩ := (show (a.ok ∧ a.deep ≤ 3) ∧ b.ok ∧ b.deep ≤ 3 from h)
    simp only [Ts.d, Ts.nots, PyData.depth, PyData.depthAll]
    omega
  | .odd a, h => by
    have := Ex.dep a
    obtain ⟨_, h1⟩ := (show a.ok ∧ a.deep ≤ 3 from h)
    simp only [Ts.d, Ts.nots, PyData.depth, PyData.depthAll]
    omega
  | .not t, h => by
    have := Ts.dep (t := t) h
    simp only [Ts.d, Ts.nots, PyData.depth, PyData.depthAll]
    omega
theorem Ex.lay : ∀ {e : Ex}, e.ok → e.d.canLay0 = true
  | .num _, _ => by simp [Ex.d, PyData.canLay0]
  | .var x, h => by
    simp only [Ex.d, PyData.canLay0]
    exact h.1
  | .plus a b, h => by
    obtain ⟨h1, h2⟩ := (show a.ok ∧ b.ok from h)
    simp only [Ex.d, PyData.canLay0, PyData.canLayAll0, Ex.lay h1, Ex.lay h2]
    decide +kernel
  | .minus a b, h => by
    obtain ⟨h1, h2⟩ := (show a.ok ∧ b.ok from h)
    simp only [Ex.d, PyData.canLay0, PyData.canLayAll0, Ex.lay h1, Ex.lay h2]
    decide +kernel
  | .times k a, h => by
    obtain ⟨_, _, h2⟩ := (show -9 ≤ k ∧ k ≤ 9 ∧ a.ok from h)
    simp only [Ex.d, PyData.canLay0, PyData.canLayAll0, Ex.lay h2]
    decide +kernel
theorem Ts.lay : ∀ {t : Ts}, t.ok → t.d.canLay0 = true
  | .less a b, h => by
    obtain ⟨⟨h1, _⟩, h2, _⟩ := (show (a.ok ∧ a.deep ≤ 3) ∧ b.ok ∧ b.deep ≤ 3 from h)
    simp only [Ts.d, PyData.canLay0, PyData.canLayAll0, Ex.lay h1, Ex.lay h2]
    decide +kernel
  | .odd a, h => by
    obtain ⟨h1, _⟩ := (show a.ok ∧ a.deep ≤ 3 from h)
    simp only [Ts.d, PyData.canLay0, PyData.canLayAll0, Ex.lay h1]
    decide +kernel
  | .not t, h => by
    simp only [Ts.d, PyData.canLay0, PyData.canLayAll0, Ts.lay (t := t) h]
    decide +kernel
theorem Ts.shaped {t : Ts} (h : t.ok) (h2 : t.nots ≤ 2) : SeqAt.shaped t.d = true := shaped_of (Ts.lay h) (by have := Ts.dep h; omega)
theorem Ts.ne0 (t : Ts) : PyData.eqv t.d (.tuple []) = false := by cases t <;> simp [Ts.d, PyData.eqv, PyData.eqvAll]
def Ts.isOdd : Ts → Bool
  | .less _ _ => false
  | .odd _ => true
  | .not t => t.isOdd
def notN : Nat → Ts → Ts
  | 0, t => t
  | n + 1, t => .not (notN n t)
theorem notN_ok {t : Ts} (h : t.ok) : ∀ n, (notN n t).ok
  | 0 => h
  | n + 1 => notN_ok h n
theorem notN_in {N : List Str} {t : Ts} (h : t.inN N) : ∀ n, (notN n t).inN N
  | 0 => h
  | n + 1 => notN_in h n
theorem notN_nots {t : Ts} : ∀ n, (notN n t).nots = t.nots + n
  | 0 => rfl
  | n + 1 => by
    show (notN n t).nots + 1 = _
    rw [notN_nots n]
    omega
theorem notN_odd {t : Ts} : ∀ n, (notN n t).isOdd = t.isOdd
  | 0 => rfl
  | n + 1 => notN_odd n
/-! what a statement counts -/
mutual
def Sm.hv : Sm → Nat
  | .ite t y n => (if t.isOdd then 1 else 0) + (Sm.hvs y + Sm.hvs n)
  | .rep k b => k * Sm.hvs b
  | .half _ _ => 1
  | .set _ _ => 0
  | .tell _ => 0
  | .say _ => 0
  | .stop _ => 0
def Sm.hvs : List Sm → Nat
  | [] => 0
  | s :: r => s.hv + Sm.hvs r
end
mutual
def Sm.cp : Sm → Nat
  | .ite t y n => (if t.isOdd then 0 else 1) + (Sm.cps y + Sm.cps n)
  | .rep k b => k * Sm.cps b
  | .half _ _ => 0
  | .set _ _ => 0
  | .tell _ => 0
  | .say _ => 0
  | .stop _ => 0
def Sm.cps : List Sm → Nat
  | [] => 0
  | s :: r => s.cp + Sm.cps r
end
/-- words and names are those of the text; times at most eight -/
def Lf.nn (l : Lf) : Prop := 0 ≤ l.p ∧ 0 ≤ l.w ∧ 0 ≤ l.h ∧ 0 ≤ l.c
def Lf.le (l l' : Lf) : Prop := l'.p ≤ l.p ∧ l'.w ≤ l.w ∧ l'.h ≤ l.h ∧ l'.c ≤ l.c
/-- a test that may be lacking -/
def tD : Option Ts → PyData
  | none => .tuple []
  | some t => t.d
def spTest : Sp := fun vs H Q _ => ∃ (a c nm lf : Addr) (m t : Int) (names : List Str) (l : Lf), vs = [.ref a, .ref nm, .ref lf, .int t] ∧ Gs H a c nm lf m names l ∧ m ≤ 800000000 ∧ l.nn ∧ 0 ≤ t ∧
  ∀ (v : V) (o : Option Ts) (H' : Hp) (m' : Int) (l' : Lf), Tr H' (tD o) v → (∀ s, o = some s → (s.ok ∧ s.inN names) ∧ s.nots ≤ 2 ∧ t * (if s.isOdd then 1 else 0) ≤ l.h - l'.h ∧ t * (if s.isOdd then 0 else 1) ≤ l.c - l'.c) → l'.nn → l'.p = l.p → l'.w = l.w → l'.h ≤ l.h → l'.c ≤ l.c →
    m ≤ m' → m' ≤ m + 50 → Gs H' a c nm lf m' names l' → Kp [a, c, lf] H H' → Q v H'
def spPlain : Sp := fun vs H Q _ => ∃ (a c nm lf : Addr) (m t : Int) (names : List Str) (l : Lf), vs = [.ref a, .ref nm, .ref lf, .int t] ∧ Gs H a c nm lf m names l ∧ m ≤ 800000000 ∧ l.nn ∧ 0 ≤ t ∧
  ∀ (v : V) (s : Sm) (H' : Hp) (m' : Int) (l' : Lf), Tr H' s.d v → s.ok → s.inN names → s.plain → t * (s.hv : Int) ≤ l.h - l'.h → l'.nn → l'.p = l.p → l'.w = l.w → l'.h ≤ l.h → l'.c = l.c → m ≤ m' → m' ≤ m + 50 → Gs H' a c nm lf m' names l' → Kp [a, c, lf] H H' → Q v H'
/-! ### statements and blocks that are drawn -/
def rD : Option Sm → PyData
  | none => .tuple []
  | some s => s.d
def costB : Nat → Int
  | 0 => 0
  | k + 1 => 1 + 4 * (110 + 2 * costB k)
def costR (k : Nat) : Int := 110 + 2 * costB k
theorem costB_nn : ∀ n, 0 ≤ costB n
  | 0 => Int.le_refl 0
  | n + 1 => by
    have := costB_nn n
    show 0 ≤ 1 + 4 * (110 + 2 * costB n)
    omega
/-- what is left behind a statement, a block -/
structure Took (t : Int) (pl wt hv cp : Nat) (l l' : Lf) : Prop where
  p : (pl : Int) ≤ l.p - l'.p
  w : t * (wt : Int) ≤ l.w - l'.w
  h : t * (hv : Int) ≤ l.h - l'.h
  c : t * (cp : Int) ≤ l.c - l'.c
theorem Took.add {t : Int} {p1 w1 h1 c1 p2 w2 h2 c2 : Nat} {l l1 l2 : Lf} (a : Took t p1 w1 h1 c1 l l1) (b : Took t p2 w2 h2 c2 l1 l2) : Took t (p1 + p2) (w1 + w2) (h1 + h2) (c1 + c2) l l2 := by
  have := a.p; have := a.w; have := a.h; have := a.c; have := b.p; have := b.w; have := b.h; have := b.c
  refine ⟨?_, ?_, ?_, ?_⟩ <;> (simp only [Int.natCast_add, Int.mul_add]; omega)
theorem Took.le {t : Int} (ht : 0 ≤ t) {p w h c : Nat} {l l' : Lf} (a : Took t p w h c l l') : l.le l' := by
  have := a.p; have := a.w; have := a.h; have := a.c
  have z1 : 0 ≤ t * (w : Int) := Int.mul_nonneg ht (Int.natCast_nonneg _)
  have z2 : 0 ≤ t * (h : Int) := Int.mul_nonneg ht (Int.natCast_nonneg _)
  have z3 : 0 ≤ t * (c : Int) := Int.mul_nonneg ht (Int.natCast_nonneg _)
  exact ⟨by omega, by omega, by omega, by omega⟩
theorem Took.none {t : Int} {l : Lf} : Took t 0 0 0 0 l l := by
  refine ⟨?_, ?_, ?_, ?_⟩ <;> simp
theorem Took.of {t : Int} {p w h c p' w' h' c' : Nat} {l l' : Lf} (a : Took t p w h c l l') (e1 : p = p') (e2 : w = w') (e3 : h = h') (e4 : c = c') : Took t p' w' h' c' l l' := by subst e1 e2 e3 e4; exact a
theorem Took.rep {t : Int} {k p w h c : Nat} {l l' : Lf} (a : Took (t * (k : Int)) p w h c l l') : Took t p (k * w) (k * h) (k * c) l l' := by
  refine ⟨a.p, ?_, ?_, ?_⟩
  · have := a.w
    rw [Int.natCast_mul, ← Int.mul_assoc]
    exact this
  · have := a.h
    rw [Int.natCast_mul, ← Int.mul_assoc]
    exact this
  · have := a.c
    rw [Int.natCast_mul, ← Int.mul_assoc]
    exact this
/-- what a drawn statement keeps -/
structure SOk (N : List Str) (t depth : Int) (l l' : Lf) (s : Sm) : Prop where
  ok : s.ok
  inn : s.inN N
  nest : (s.nest : Int) + depth ≤ 4
  took : Took t s.pl s.wt s.hv s.cp l l'
structure BOk (N : List Str) (t depth : Int) (l l' : Lf) (b : List Sm) : Prop where
  ok : Sm.oks b
  inn : Sm.insN N b
  nest : b = [] ∨ (Sm.nests b : Int) + depth ≤ 4
  took : Took t (Sm.pls b) (Sm.wts b) (Sm.hvs b) (Sm.cps b) l l'
def spRow (k : Nat) : Sp := fun vs H Q _ => ∃ (a c nm lf : Addr) (m t depth : Int) (names : List Str) (l : Lf), vs = [.ref a, .ref nm, .ref lf, .int t, .int depth] ∧ Gs H a c nm lf m names l ∧ m + costR k ≤ 700000000 ∧ l.nn ∧ 0 ≤ t ∧ depth = 3 - (k : Int) ∧ 0 ≤ depth ∧
  ∀ (v : V) (o : Option Sm) (H' : Hp) (m' : Int) (l' : Lf), Tr H' (rD o) v → (∀ s, o = some s → SOk names t depth l l' s) → (o = none → l' = l) → l'.nn → m ≤ m' → m' ≤ m + costR k → Gs H' a c nm lf m' names l' → Kp [a, c, lf] H H' → Q v H'
def spBlock (k : Nat) : Sp := fun vs H Q _ => ∃ (a c nm lf : Addr) (m t depth : Int) (names : List Str) (l : Lf), vs = [.ref a, .ref nm, .ref lf, .int t, .int depth] ∧ Gs H a c nm lf m names l ∧ m + costB k ≤ 700000000 ∧ l.nn ∧ 0 ≤ t ∧ depth = 4 - (k : Int) ∧ 0 ≤ depth ∧
  ∀ (v : V) (b : List Sm) (H' : Hp) (m' : Int) (l' : Lf), Tr H' (.tuple (Sm.ds b)) v → BOk names t depth l l' b → l'.nn → m ≤ m' → m' ≤ m + costB k → Gs H' a c nm lf m' names l' → Kp [a, c, lf] H H' → Q v H'
mutual
theorem Sm.lay : ∀ {s : Sm}, s.ok → s.d.canLay0 = true
  | .set x e, h => by
    simp only [Sm.ok] at h
    simp only [Sm.d, PyData.canLay0, PyData.canLayAll0, h.2.1, Ex.lay h.1.1]
    decide +kernel
  | .half x e, h => by
    simp only [Sm.ok] at h
    simp only [Sm.d, PyData.canLay0, PyData.canLayAll0, h.2.1, Ex.lay h.1.1]
    decide +kernel
  | .tell e, h => by
    simp only [Sm.ok] at h
    simp only [Sm.d, PyData.canLay0, PyData.canLayAll0, Ex.lay h.1]
    decide +kernel
  | .say c, h => by
    simp only [Sm.ok] at h
    simp only [Sm.d, PyData.canLay0, PyData.canLayAll0, h.1]
    decide +kernel
  | .stop c, h => by
    simp only [Sm.ok] at h
    simp only [Sm.d, PyData.canLay0, PyData.canLayAll0, h.1]
    decide +kernel
  | .ite t y n, h => by
    simp only [Sm.ok] at h
    simp only [Sm.d, PyData.canLay0, PyData.canLayAll0, Ts.lay h.1, Sm.lays h.2.2.1, Sm.lays h.2.2.2]
    decide +kernel
  | .rep k b, h => by
    simp only [Sm.ok] at h
    simp only [Sm.d, PyData.canLay0, PyData.canLayAll0, Sm.lays h.2]
    decide +kernel
theorem Sm.lays : ∀ {b : List Sm}, Sm.oks b → PyData.canLayAll0 (Sm.ds b) = true
  | [], _ => by simp [Sm.ds, PyData.canLayAll0]
  | s :: r, h => by
    simp only [Sm.oks] at h
    simp only [Sm.ds, PyData.canLayAll0, Sm.lay h.1, Sm.lays h.2]
    rfl
end
mutual
theorem Sm.dep : ∀ {s : Sm}, s.ok → s.d.depth ≤ 2 * s.nest + 8
  | .set x e, h => by
    simp only [Sm.ok] at h
    have := e.dep
    simp only [Sm.d, PyData.depth, PyData.depthAll]
    omega
  | .half x e, h => by
    simp only [Sm.ok] at h
    have := e.dep
    simp only [Sm.d, PyData.depth, PyData.depthAll]
    omega
  | .tell e, h => by
    simp only [Sm.ok] at h
    have := e.dep
    simp only [Sm.d, PyData.depth, PyData.depthAll]
    omega
  | .say c, h => by simp [Sm.d, PyData.depth, PyData.depthAll]
  | .stop c, h => by simp [Sm.d, PyData.depth, PyData.depthAll]
  | .ite t y n, h => by
    simp only [Sm.ok] at h
    have := Ts.dep h.1
    have := Sm.deps h.2.2.1
    have := Sm.deps h.2.2.2
    simp only [Sm.d, PyData.depth, PyData.depthAll, Sm.nest]
    omega
  | .rep k b, h => by
    simp only [Sm.ok] at h
    have := Sm.deps h.2
    simp only [Sm.d, PyData.depth, PyData.depthAll, Sm.nest]
    omega
theorem Sm.deps : ∀ {b : List Sm}, Sm.oks b → PyData.depthAll (Sm.ds b) ≤ 2 * Sm.nests b + 8
  | [], _ => by simp [Sm.ds, PyData.depthAll]
  | s :: r, h => by
    simp only [Sm.oks] at h
    have := Sm.dep h.1
    have := Sm.deps h.2
    simp only [Sm.ds, PyData.depthAll, Sm.nests]
    omega
end
theorem Sm.shaped {s : Sm} (h : s.ok) (h2 : s.nest ≤ 10) : SeqAt.shaped s.d = true := shaped_of (Sm.lay h) (by have := Sm.dep h; omega)
theorem Sm.ne0 (t : Sm) : PyData.eqv t.d (.tuple []) = false := by cases t <;> simp [Sm.d, PyData.eqv, PyData.eqvAll]
theorem Sm.ds_app : ∀ (b c : List Sm), Sm.ds (b ++ c) = Sm.ds b ++ Sm.ds c
  | [], c => by simp only [List.nil_append, Sm.ds]
  | s :: r, c => by simp only [List.cons_append, Sm.ds, Sm.ds_app r c]
theorem Sm.oks_app : ∀ {b c : List Sm}, Sm.oks b → Sm.oks c → Sm.oks (b ++ c)
  | [], c, _, h => h
  | s :: r, c, h, g => by
    simp only [Sm.oks] at h
    simp only [List.cons_append, Sm.oks]
    exact ⟨h.1, Sm.oks_app h.2 g⟩
theorem Sm.pls_app : ∀ (b c : List Sm), Sm.pls (b ++ c) = Sm.pls b + Sm.pls c
  | [], c => by simp only [List.nil_append, Sm.pls]; omega
  | s :: r, c => by simp only [List.cons_append, Sm.pls, Sm.pls_app r c]; omega
theorem Sm.wts_app : ∀ (b c : List Sm), Sm.wts (b ++ c) = Sm.wts b + Sm.wts c
  | [], c => by simp only [List.nil_append, Sm.wts]; omega
  | s :: r, c => by simp only [List.cons_append, Sm.wts, Sm.wts_app r c]; omega
theorem Sm.hvs_app : ∀ (b c : List Sm), Sm.hvs (b ++ c) = Sm.hvs b + Sm.hvs c
  | [], c => by simp only [List.nil_append, Sm.hvs]; omega
  | s :: r, c => by simp only [List.cons_append, Sm.hvs, Sm.hvs_app r c]; omega
theorem Sm.cps_app : ∀ (b c : List Sm), Sm.cps (b ++ c) = Sm.cps b + Sm.cps c
  | [], c => by simp only [List.nil_append, Sm.cps]; omega
  | s :: r, c => by simp only [List.cons_append, Sm.cps, Sm.cps_app r c]; omega
theorem Sm.nests_app : ∀ (b c : List Sm), Sm.nests (b ++ c) ≤ Sm.nests b ∨ Sm.nests (b ++ c) ≤ Sm.nests c
  | [], c => .inr (by simp only [List.nil_append]; omega)
  | s :: r, c => by
    have := Sm.nests_app r c
    simp only [List.cons_append, Sm.nests]
    omega
theorem BOk.nil {N : List Str} {t d : Int} {l : Lf} : BOk N t d l l [] := ⟨by simp only [Sm.oks], by simp only [Sm.insN], .inl rfl, by simp only [Sm.pls, Sm.wts, Sm.hvs, Sm.cps]; exact Took.none⟩
theorem BOk.cat {N : List Str} {t d : Int} {l l1 l2 : Lf} {b c : List Sm} (x : BOk N t d l l1 b) (y : BOk N t d l1 l2 c) : BOk N t d l l2 (b ++ c) := by
  refine ⟨Sm.oks_app x.ok y.ok, Sm.insN_app x.inn y.inn, ?_, (x.took.add y.took).of (Sm.pls_app b c).symm (Sm.wts_app b c).symm (Sm.hvs_app b c).symm (Sm.cps_app b c).symm⟩
  rcases x.nest with rfl | h1
  · exact y.nest
  · rcases y.nest with rfl | h2
    · rw [List.append_nil]
      exact .inr h1
    · have := Sm.nests_app b c
      exact .inr (by omega)
theorem BOk.one {N : List Str} {t d : Int} {l l1 : Lf} {s : Sm} (x : SOk N t d l l1 s) : BOk N t d l l1 [s] := by
  refine ⟨by simp only [Sm.oks]; exact ⟨x.ok, trivial⟩, by simp only [Sm.insN]; exact ⟨x.inn, trivial⟩, .inr ?_, x.took.of ?_ ?_ ?_ ?_⟩
  · have := x.nest
    simp only [Sm.nests]
    omega
  · simp only [Sm.pls]; omega
  · simp only [Sm.wts]; omega
  · simp only [Sm.hvs]; omega
  · simp only [Sm.cps]; omega
theorem rD_shaped {N : List Str} {t d : Int} {l l' : Lf} {o : Option Sm} (hd : 0 ≤ d) (h : ∀ s, o = some s → SOk N t d l l' s) : SeqAt.shaped (rD o) = true := by
  cases o with
  | none => exact shaped_nil
  | some s =>
    have x := h s rfl
    exact Sm.shaped x.ok (by have := x.nest; omega)
/-- the statements among what was drawn -/
def smsOf : List (Option Sm) → List Sm
  | [] => []
  | none :: r => smsOf r
  | some s :: r => s :: smsOf r
theorem smsOf_app : ∀ (a b : List (Option Sm)), smsOf (a ++ b) = smsOf a ++ smsOf b
  | [], _ => rfl
  | none :: r, b => smsOf_app r b
  | some s :: r, b => congrArg (s :: ·) (smsOf_app r b)
theorem Sm.ds_le : ∀ b : List Sm, (Sm.ds b).length ≤ Sm.pls b
  | [] => by simp only [Sm.ds, Sm.pls]; exact Nat.le_refl _
  | s :: r => by
    have := Sm.ds_le r
    have := s.pl_pos
    simp only [Sm.ds, Sm.pls, List.length_cons]
    omega
theorem at_last {α : Type} {xs : List α} {x : α} (h : xs.getLast? = some x) : atI xs (-1) = some x := by
  have e : xs ≠ [] := by
    intro z
    rw [z] at h
    cases h
  have l : 0 < xs.length := List.length_pos_iff.mpr e
  unfold atI ixN
  rw [if_neg (by decide), if_pos (by omega)]
  rw [List.getLast?_eq_getElem?] at h
  show xs[(-1 + (xs.length : Int)).toNat]? = some x
  rw [show (-1 + (xs.length : Int)).toNat = xs.length - 1 by omega]
  exact h
/-! ### programs, numbers, choices -/
structure PrOk (b : List Sm) : Prop where
  ok : Sm.oks b
  nest : Sm.nests b ≤ 4
  pl : Sm.pls b ≤ 24
  wt : Sm.wts b ≤ 60
  hv : Sm.hvs b ≤ 4
  cp : Sm.cps b ≤ 3
theorem BOk.pr {N : List Str} {l : Lf} {b : List Sm} (x : BOk N 1 0 ⟨24, 60, 4, 3⟩ l b) (h : l.nn) : PrOk b := by
  obtain ⟨h1, h2, h3, h4⟩ := h
  have a1 : _ ≤ 24 - l.p := x.took.p
  have a2 : _ ≤ 60 - l.w := x.took.w
  have a3 : _ ≤ 4 - l.h := x.took.h
  have a4 : _ ≤ 3 - l.c := x.took.c
  refine ⟨x.ok, ?_, by omega, by omega, by omega, by omega⟩
  rcases x.nest with rfl | h
  · simp only [Sm.nests]; omega
  · omega
def spProgram : Sp := fun vs H Q _ => ∃ (a c nm : Addr) (m : Int) (names : List Str), vs = [.ref a, .ref nm] ∧ Deck H a c m ∧ m ≤ 600000000 ∧ Nms H nm a c names ∧
  ∀ (v : V) (b : List Sm) (H' : Hp) (m' : Int), Tr H' (.tuple (Sm.ds b)) v → PrOk b → m ≤ m' → m' ≤ m + 1100000 → Deck H' a c m' → Kp [a, c] H H' → Q v H'
/-- as spProgram, and the names come from the list -/
def spProgramN : Sp := fun vs H Q _ => ∃ (a c nm : Addr) (m : Int) (names : List Str), vs = [.ref a, .ref nm] ∧ Deck H a c m ∧ m ≤ 600000000 ∧ Nms H nm a c names ∧
  ∀ (v : V) (b : List Sm) (H' : Hp) (m' : Int), Tr H' (.tuple (Sm.ds b)) v → PrOk b → Sm.insN names b → m ≤ m' → m' ≤ m + 1100000 → Deck H' a c m' → Kp [a, c] H H' → Q v H'
def BIG : Int := 1000000000000000000000000000000000000000000000000000000000000
def spNumber : Sp := fun vs H Q _ => ∃ (a c : Addr) (m : Int), vs = [.ref a] ∧ Deck H a c m ∧ m ≤ 600000000 ∧
  ∀ (n : Int) (H' : Hp) (m' : Int), -BIG ≤ n → n ≤ BIG → m ≤ m' → m' ≤ m + 10 → Deck H' a c m' → Kp [a, c] H H' → Q (.int n) H'
def spChoices : Sp := fun vs H Q _ => ∃ (a c : Addr) (m : Int), vs = [.ref a] ∧ Deck H a c m ∧ m ≤ 600000000 ∧
  ∀ (p : Addr) (cs : List Int) (H' : Hp) (m' : Int), H' p = some (.tup (cs.map V.int)) → (∀ i ∈ cs, i = 0 ∨ i = 1) → cs.length ≤ 8 → m ≤ m' → m' ≤ m + 10 → Deck H' a c m' → Kp [a, c] H H' → Q (.ref p) H'
end EH
namespace EH
open PySem L2
local macro_rules | `(tactic| walk_at "sd") => `(tactic| first | assumption | ((with_reducible show (_ : Int) ≤ _); omega) | ((with_reducible show (_ : Int) < _); omega) | rfl | exact SqL.of (by assumption) | exact SqT.of (by assumption) | exact atI_nat (j := 0) rfl | exact atI_nat (j := 1) rfl | exact atI_nat (j := 2) rfl | exact atI_nat (j := 3) rfl | exact sz_lit rfl | exact lt_lit rfl | exact pos_lit rfl | exact le_lit rfl | exact Or.inl (SqL.of (by assumption)) | exact ⟨_, SqL.of (by assumption)⟩ | exact ⟨_, SqT.of (by assumption)⟩ | exact Or.inr (SqT.of (by assumption)) | exact ClsV.ty _ | exact TyX.base (TyOf.int _) | exact TyX.base (TyOf.str _) | exact TyX.base (TyOf.tup (by assumption)) | exact kit_ty isi_ss | exact kit_ty isi_is | exact kit_ty isi_ts | exact kit_ty isi_si | exact kit_ty isi_ii | exact kit_ty isi_ti | exact kit_ty isi_st | exact kit_ty isi_it | exact kit_ty isi_tt | exact Or.inl ⟨_, Or.inl (by assumption)⟩ | exact DGet.k (k := Sum.inr _) (by assumption) | exact DGet.k (k := Sum.inl _) (by assumption) | (refine cpow_of ?_; decide) | (refine cmul_of ?_; decide) | (show (_ : Int) ≠ 0; first | decide | omega) | (refine cdivn_of ?_; decide) | exact Or.inl ⟨rfl, _, SqL.of (by assumption)⟩ | omega)
local macro_rules | `(tactic| walk_at "st") => `(tactic| first | (apply Exists.intro) | (refine And.intro ?_ ?_; focus (walk_at "sd")) | (apply Or.inl; apply Exists.intro; refine And.intro ?_ ?_; focus rfl) | (apply Or.inr; apply Exists.intro; refine And.intro ?_ ?_; focus rfl))
local macro_rules | `(tactic| walk_at "go") => `(tactic| repeat (walk_at "st"))
section
variable {P : Program} {w : World} {K : PySem.W.Frag} {mg : Str → Option Value} {base : Heap}
theorem ok_l_expression (T : Top K mg) : ∀ n : Nat, FnOk P w K mg base CX0 (n + 2) T.l_expression.f T.l_expression.fd ["_law_deck_here", "_law_names_here", "_law_deep"] (spExpr n)
  | 0 => fn_no (by rintro vs H Q E ⟨a, c, nm, m, deep, names, _, _, _, _, h1, h2, _⟩; omega)
  | n + 1 => by
    have G_l_draw : FnOk P w K mg base CX0 1 T.l_draw.f T.l_draw.fd ["_law_deck_here", "_law_many"] spDraw := ok_l_draw T
    have G_l_one : FnOk P w K mg base CX0 2 T.l_one.f T.l_one.fd ["_law_deck_here", "_law_items"] (spOne K) := ok_l_one T
    have G_l_expression := ok_l_expression T n
    refine T.l_expression.F.ok sc_l_expression (fun vs H Q E h => ?_) (fun cdv A outer s H vs Q E hr h => ?_)
    · obtain ⟨a, c, nm, m, deep, names, rfl, _⟩ := h
      rfl
    obtain ⟨a, c, nm, m, deep, names, rfl, hD, hm, hN, h1, h2, h3, q⟩ := h
    refine ⟨_, (pss_cutA (ps_set (i := 3) sc_l_expression.nd rfl (.inl rfl) (pe_ifExp (pt_cmpR op_gt (pv 2) pe_int (nomark _)) (pe_call G_l_draw (hr.mono (by omega)) (by rfl) T.l_draw.g T.l_draw.F.kp T.l_draw.b .nil pass0 (pa_cons (pv 0) (pa_cons pe_int pa_nil))) (pe_call G_l_draw (hr.mono (by omega)) (by rfl) T.l_draw.g T.l_draw.F.kp T.l_draw.b .nil pass0 (pa_cons (pv 0) (pa_cons pe_int pa_nil)))))
      (pss_cons (ps_if (pt_cmpR op_eq (pv 3) pe_int (nomark _)) (pss_one (ps_ret (pe_call G_l_one (hr.mono (by omega)) (by rfl) T.l_one.g T.l_one.F.kp T.l_one.b .nil pass0 (pa_cons (pv 0) (pa_cons (pe_lstA (pa_cons pe_int (pa_cons pe_int (pa_cons pe_int (pa_cons (pe_un un_neg pe_int) (pa_cons pe_int (pa_cons (pe_un un_neg pe_int) (pa_cons pe_int (pa_cons (pe_un un_neg pe_int) (pa_cons (pe_op op_sub (pe_call G_l_draw (hr.mono (by omega)) (by rfl) T.l_draw.g T.l_draw.F.kp T.l_draw.b .nil pass0 (pa_cons (pv 0) (pa_cons pe_int pa_nil))) pe_int) pa_nil)))))))))) pa_nil))))) pss_nil)
      (pss_cons (ps_if (pt_cmpR op_lt (pv 3) pe_int (nomark _)) (pss_one (ps_ret (pe_call G_l_one (hr.mono (by omega)) (by rfl) T.l_one.g T.l_one.F.kp T.l_one.b .nil pass0 (pa_cons (pv 0) (pa_cons (pv 1) pa_nil))))) pss_nil)
      (pss_cons (ps_if (pt_cmpR op_eq (pv 3) pe_int (nomark _)) (pss_cons (ps_set (i := 4) sc_l_expression.nd rfl (.inl rfl) (pe_call G_l_one (hr.mono (by omega)) (by rfl) T.l_one.g T.l_one.F.kp T.l_one.b .nil pass0 (pa_cons (pv 0) (pa_cons (pe_lstA (pa_cons (pe_un un_neg pe_int) (pa_cons (pe_un un_neg pe_int) (pa_cons (pe_un un_neg pe_int) (pa_cons (pe_un un_neg pe_int) (pa_cons pe_int (pa_cons pe_int (pa_cons pe_int (pa_cons pe_int pa_nil))))))))) pa_nil))))
      (pss_one (ps_ret (pe_tupA (pa_cons pe_str (pa_cons (pv 4) (pa_cons (pe_call G_l_expression (hr.mono (by omega)) (by rfl) T.l_expression.g T.l_expression.F.kp T.l_expression.b .nil pass0 (pa_cons (pv 0) (pa_cons (pv 1) (pa_cons (pe_op op_sub (pv 2) pe_int) pa_nil)))) pa_nil))))))) pss_nil)
      (pss_cons (ps_set (i := 5) sc_l_expression.nd rfl (.inl rfl) (pe_call G_l_expression (hr.mono (by omega)) (by rfl) T.l_expression.g T.l_expression.F.kp T.l_expression.b .nil pass0 (pa_cons (pv 0) (pa_cons (pv 1) (pa_cons (pe_op op_sub (pv 2) pe_int) pa_nil)))))
      (pss_one (ps_ret (pe_tupA (pa_cons (pe_ix (ix_listK (K := K) rfl) (pe_lstA (pa_cons pe_str (pa_cons pe_str pa_nil))) (pe_op op_modN (pe_callTy (T := "int") call_int1 (by rfl) T.int (by decide +kernel) (pa_cons (pv 3) pa_nil)) pe_int) (fun _ _ => rfl)) (pa_cons (pv 5) (pa_cons (pe_call G_l_expression (hr.mono (by omega)) (by rfl) T.l_expression.g T.l_expression.F.kp T.l_expression.b .nil pass0 (pa_cons (pv 0) (pa_cons (pv 1) (pa_cons (pe_op op_sub (pv 2) pe_int) pa_nil)))) pa_nil))))))))))), ?_⟩
    have cn := costE_nn n
    have ce : costE (n + 1) = 3 + 2 * costE n := rfl
    have c15 : costE n ≤ 100 := by
      have : n = 0 ∨ n = 1 ∨ n = 2 := by omega
      rcases this with rfl | rfl | rfl <;> decide
    have hmM : m ≤ MANY := by show m ≤ 1000000000; omega
    refine ⟨⟨fun σ1 H1 => Lp (∃ r : Int, σ1 = [some (.ref a), some (.ref nm), some (.int deep), some (.int r), none, none] ∧ 0 ≤ r ∧ r < 7 ∧ (deep ≤ 1 → r < 4) ∧ Deck H1 a c (m + 1) ∧ Kp [a, c] H H1), ?_, ?_⟩⟩
    · walk_at "go"
      refine ite2 (fun hc => ?_) (fun hc => ?_)
      · have hc1 : 1 < deep := of_decide_eq_true hc
        walk_at "go"
        intro r H1 r0 r1 D1 k1
        exact ⟨r, rfl, r0, r1, fun z => absurd z (by omega), D1, k1⟩
      · have hc1 : ¬ 1 < deep := of_decide_eq_false (Bool.eq_false_iff.mpr hc)
        walk_at "go"
        intro r H1 r0 r1 D1 k1
        exact ⟨r, rfl, r0, by omega, fun _ => r1, D1, k1⟩
    · rintro σ1 H1 ⟨⟨r, rfl, r0, r1, r2, D1, k1⟩⟩
      have hN1 := hN.kpD k1
      have hm1 : m + 1 ≤ MANY := by show m + 1 ≤ 1000000000; omega
      have hm2 : m + 1 + 1 ≤ MANY := by show m + 1 + 1 ≤ 1000000000; omega
      walk_at "go"
      refine ite2 (fun hc => ?_) (fun hc => ?_)
      · -- a number
        walk_at "go"
        intro r3 H2 r30 r31 D2 k2
        walk_at "go"
        intro l H3 hl e3
        have k3 := new_kp hl e3
        have a3 := new_at e3
        have D3 := D2.kp0 k3
        have off3 := D2.off hl
        walk_at "go"
        intro x H4 hx D4 k4
        have hx2 : x ∈ ([0, 1, 2, -1, 3, -5, 99, -99, r3 - 99] : List Int).map V.int := hx
        obtain ⟨i, rfl, i0, i1⟩ := mem_ints (P := fun i => -99 ≤ i ∧ i ≤ 99) hx2 (by
          intro i hi
          simp only [List.mem_cons, List.not_mem_nil, or_false] at hi
          omega)
        exact q _ (.num i) H4 (m + 1 + 1 + 1) mk_int ⟨i0, i1⟩ trivial h1 (by omega) (by omega) D4 (((k1.trans k2).step0 k3).trans k4)
      · have hc1 : ¬ r = 0 := fun z => of_decide_eq_false (Bool.eq_false_iff.mpr hc) (congrArg V.int z)
        walk_at "go"
        refine ite2 (fun hd => ?_) (fun hd => ?_)
        · -- a name
          have nl := hN.len
          have hl0 : 0 < (names.map V.str).length := by rw [List.length_map]; omega
          have hl1 : (names.map V.str).length ≤ 1000000 := by rw [List.length_map]; omega
          have nmat := hN1.at_
          have nmoff := hN1.off
          walk_at "go"
          intro x H2 hx D2 k2
          obtain ⟨y, hy, rfl⟩ := List.mem_map.mp hx
          exact q _ (.var y) H2 (m + 1 + 1) mk_str (hN.oks y hy) hy h1 (by omega) (by omega) D2 (k1.trans k2)
        · have hd1 : ¬ r < 4 := of_decide_eq_false (Bool.eq_false_iff.mpr hd)
          have hdp : 1 < deep := Decidable.byContradiction fun z => hd1 (r2 (by omega))
          have d0 : 1 ≤ deep - 1 := by omega
          have d1 : deep - 1 ≤ (n : Int) := by omega
          have d2 : n ≤ 3 := by omega
          walk_at "go"
          refine ite2 (fun he => ?_) (fun he => ?_)
          · -- times
            walk_at "go"
            intro l H2 hl e2
            have k2 := new_kp hl e2
            have a2 := new_at e2
            have D2 := D1.kp0 k2
            have off2 := D1.off hl
            walk_at "go"
            intro x H3 hx D3 k3
            have hx2 : x ∈ ([-9, -3, -2, -1, 0, 2, 3, 9] : List Int).map V.int := hx
            obtain ⟨i, rfl, i0, i1⟩ := mem_ints (P := fun i => -9 ≤ i ∧ i ≤ 9) hx2 (by
              intro i hi
              simp only [List.mem_cons, List.not_mem_nil, or_false] at hi
              omega)
            have hN3 := (hN1.kp0 k2).kpD k3
            have hm3 : m + 1 + 1 + costE n ≤ 900000000 := by omega
            walk_at "go"
            intro v e H4 m4 t4 o4 n4 p4 ml4 mu4 D4 k4
            walk_at "go"
            intro r5 H5 hr5 e5
            have k5 := new_kp hr5 e5
            exact q _ (.times i e) H5 m4 (mk_tup (new_at e5) (trs_cons mk_str (trs_cons mk_int (trs_cons (k5.tr t4) trs_nil)))) ⟨i0, i1, o4⟩ n4 (by show ((e.deep + 1 : Nat) : Int) ≤ deep; omega) (by omega) (by omega) (D4.kp0 k5) ((((k1.step0 k2).trans k3).trans k4).step0 k5)
          · -- plus, minus
            have hm3 : m + 1 + costE n ≤ 900000000 := by omega
            walk_at "go"
            intro v2 e2 H2 m2 t2 o2 n2 p2 ml2 mu2 D2 k2
            walk_at "go"
            intro l H3 hl e3
            have k3 := new_kp hl e3
            have a3 := new_at e3
            have D3 := D2.kp0 k3
            have hN3 := (hN1.kpD k2).kp0 k3
            have hm4 : m2 + costE n ≤ 900000000 := by omega
            obtain ⟨wd, hwd, wm⟩ : ∃ wd, atI [V.str "plus", V.str "minus"] (r.fmod 2) = some (.str wd) ∧ (wd = "plus" ∨ wd = "minus") := by
              have : r = 4 ∨ r = 5 ∨ r = 6 := by omega
              rcases this with rfl | rfl | rfl
              · exact ⟨"plus", rfl, .inl rfl⟩
              · exact ⟨"minus", rfl, .inr rfl⟩
              · exact ⟨"plus", rfl, .inl rfl⟩
            walk_at "go"
            intro v4 e4 H4 m4 t4 o4 n4 p4 ml4 mu4 D4 k4
            walk_at "go"
            intro r5 H5 hr5 e5
            have k5 := new_kp hr5 e5
            have kk := (((((k1.trans k2).step0 k3).trans k4).step0 k5))
            rcases wm with rfl | rfl
            · exact q _ (.plus e2 e4) H5 m4 (mk_tup (new_at e5) (trs_cons mk_str (trs_cons (k5.tr (k4.tr (k3.tr t2))) (trs_cons (k5.tr t4) trs_nil)))) ⟨o2, o4⟩ ⟨n2, n4⟩ (by show ((max e2.deep e4.deep + 1 : Nat) : Int) ≤ deep; omega) (by omega) (by omega) (D4.kp0 k5) kk
            · exact q _ (.minus e2 e4) H5 m4 (mk_tup (new_at e5) (trs_cons mk_str (trs_cons (k5.tr (k4.tr (k3.tr t2))) (trs_cons (k5.tr t4) trs_nil)))) ⟨o2, o4⟩ ⟨n2, n4⟩ (by show ((max e2.deep e4.deep + 1 : Nat) : Int) ≤ deep; omega) (by omega) (by omega) (D4.kp0 k5) kk
end
end EH
namespace EH
open PySem L2
local macro_rules | `(tactic| walk_at "sd") => `(tactic| first | assumption | ((with_reducible show (_ : Int) ≤ _); omega) | ((with_reducible show (_ : Int) < _); omega) | rfl | exact SqL.of (by assumption) | exact SqT.of (by assumption) | exact atI_nat (j := 0) rfl | exact atI_nat (j := 1) rfl | exact atI_nat (j := 2) rfl | exact atI_nat (j := 3) rfl | exact sz_lit rfl | exact lt_lit rfl | exact pos_lit rfl | exact le_lit rfl | exact Or.inl (SqL.of (by assumption)) | exact ⟨_, SqL.of (by assumption)⟩ | exact ⟨_, SqT.of (by assumption)⟩ | exact Or.inr (SqT.of (by assumption)) | exact ClsV.ty _ | exact TyX.base (TyOf.int _) | exact TyX.base (TyOf.str _) | exact TyX.base (TyOf.tup (by assumption)) | exact kit_ty isi_ss | exact kit_ty isi_is | exact kit_ty isi_ts | exact kit_ty isi_si | exact kit_ty isi_ii | exact kit_ty isi_ti | exact kit_ty isi_st | exact kit_ty isi_it | exact kit_ty isi_tt | exact Or.inl ⟨_, Or.inl (by assumption)⟩ | exact DGet.k (k := Sum.inr _) (by assumption) | exact DGet.k (k := Sum.inl _) (by assumption) | (refine cpow_of ?_; decide) | (refine cmul_of ?_; decide) | (show (_ : Int) ≠ 0; first | decide | omega) | (refine cdivn_of ?_; decide) | exact Or.inl ⟨rfl, _, SqL.of (by assumption)⟩ | omega)
local macro_rules | `(tactic| walk_at "st") => `(tactic| first | (apply Exists.intro) | (refine And.intro ?_ ?_; focus (walk_at "sd")) | (apply Or.inl; apply Exists.intro; refine And.intro ?_ ?_; focus rfl) | (apply Or.inr; apply Exists.intro; refine And.intro ?_ ?_; focus rfl))
local macro_rules | `(tactic| walk_at "go") => `(tactic| repeat (walk_at "st"))
section
variable {P : Program} {w : World} {K : PySem.W.Frag} {mg : Str → Option Value} {base : Heap}
theorem ok_l_plain (T : Top K mg) {k : Nat} : FnOk P w K mg base CX0 (k + 6) T.l_plain.f T.l_plain.fd ["_law_deck_here", "_law_names_here", "_law_left", "_law_times"] spPlain := by
  have G_l_draw : FnOk P w K mg base CX0 1 T.l_draw.f T.l_draw.fd ["_law_deck_here", "_law_many"] spDraw := ok_l_draw T
  have G_l_one : FnOk P w K mg base CX0 2 T.l_one.f T.l_one.fd ["_law_deck_here", "_law_items"] (spOne K) := ok_l_one T
  have G_l_expression : FnOk P w K mg base CX0 5 T.l_expression.f T.l_expression.fd ["_law_deck_here", "_law_names_here", "_law_deep"] (spExpr 3) := ok_l_expression T 3
  refine T.l_plain.F.ok sc_l_plain (fun vs H Q E h => ?_) (fun cdv A outer s H vs Q E hr h => ?_)
  · obtain ⟨a, c, nm, lf, m, t, names, l, rfl, _⟩ := h
    rfl
  obtain ⟨a, c, nm, lf, m, t, names, l, rfl, g, hm, ln, ht, q⟩ := h
  refine ⟨_, (pss_cons (ps_par (i := 4) (j := 5) (by rfl) sc_l_plain.nd rfl rfl (by decide) rfl rfl (pa_cons (pe_call G_l_draw (hr.mono (by omega)) (by rfl) T.l_draw.g T.l_draw.F.kp T.l_draw.b .nil pass0 (pa_cons (pv 0) (pa_cons pe_int pa_nil))) (pa_cons (pe_call G_l_one (hr.mono (by omega)) (by rfl) T.l_one.g T.l_one.F.kp T.l_one.b .nil pass0 (pa_cons (pv 0) (pa_cons (pv 1) pa_nil))) pa_nil)) (by rfl))
      (pss_cutA (ps_if (PW.pt (pw_and (pt_cmpR op_lt (pv 4) pe_int (nomark _)) (pw_and1 (pt_cmpR op_ge (pe_ix (ix_listK (K := K) rfl) (pv 2) pe_int (fun _ _ => rfl)) (pv 3) (nomark _))))) (pss_cons (ps_asg (pe_op op_sub (pe_ix (ix_listK (K := K) rfl) (pv 2) pe_int (fun _ _ => rfl)) (pv 3)) (pg_sub (pv 2) pe_int set_listA))
      (pss_one (ps_ret (pe_tupA (pa_cons pe_str (pa_cons (pv 5) (pa_cons (pe_call G_l_expression (hr.mono (by omega)) (by rfl) T.l_expression.g T.l_expression.F.kp T.l_expression.b .nil pass0 (pa_cons (pv 0) (pa_cons (pv 1) (pa_cons pe_int pa_nil)))) pa_nil))))))) pss_nil)
      (pss_cons (ps_if (pt_cmpR op_lt (pv 4) pe_int (nomark _)) (pss_one (ps_ret (pe_tupA (pa_cons pe_str (pa_cons (pv 5) (pa_cons (pe_call G_l_expression (hr.mono (by omega)) (by rfl) T.l_expression.g T.l_expression.F.kp T.l_expression.b .nil pass0 (pa_cons (pv 0) (pa_cons (pv 1) (pa_cons pe_int pa_nil)))) pa_nil)))))) pss_nil)
      (pss_cons (ps_if (pt_cmpR op_eq (pv 4) pe_int (nomark _)) (pss_one (ps_ret (pe_tupA (pa_cons pe_str (pa_cons (pe_call G_l_one (hr.mono (by omega)) (by rfl) T.l_one.g T.l_one.F.kp T.l_one.b .nil pass0 (pa_cons (pv 0) (pa_cons (pe_lstA (pa_cons pe_str (pa_cons pe_str (pa_cons pe_str (pa_cons pe_str pa_nil))))) pa_nil))) pa_nil))))) pss_nil)
      (pss_cutA (ps_if (PW.pt (pw_and (pt_cmpR op_eq (pv 4) pe_int (nomark _)) (pw_and1 (pt_cmpR op_eq (pe_call G_l_draw (hr.mono (by omega)) (by rfl) T.l_draw.g T.l_draw.F.kp T.l_draw.b .nil pass0 (pa_cons (pv 0) (pa_cons pe_int pa_nil))) pe_int (nomark _))))) (pss_one (ps_ret (pe_tupA (pa_cons pe_str (pa_cons (pe_call G_l_one (hr.mono (by omega)) (by rfl) T.l_one.g T.l_one.F.kp T.l_one.b .nil pass0 (pa_cons (pv 0) (pa_cons (pe_lstA (pa_cons pe_str (pa_cons pe_str (pa_cons pe_str pa_nil)))) pa_nil))) pa_nil))))) pss_nil)
      (pss_one (ps_ret (pe_tupA (pa_cons pe_str (pa_cons (pe_call G_l_expression (hr.mono (by omega)) (by rfl) T.l_expression.g T.l_expression.F.kp T.l_expression.b .nil pass0 (pa_cons (pv 0) (pa_cons (pv 1) (pa_cons pe_int pa_nil)))) pa_nil)))))))))), ?_⟩
  have hm0 : m ≤ MANY := by show m ≤ 1000000000; omega
  have hm1 : m + 1 ≤ MANY := by show m + 1 ≤ 1000000000; omega
  have hm2 : m + 1 + 1 ≤ MANY := by show m + 1 + 1 ≤ 1000000000; omega
  have ce : costE 3 = 21 := by decide
  have dk := g.dk
  obtain ⟨ln1, ln2, ln3, ln4⟩ := ln
  walk_at "go"
  intro r H1 r0 r1 D1 k1
  have nm1 := g.nms.kpD k1
  have nmat := nm1.at_
  have nmoff := nm1.off
  have nl := nm1.len
  have hl0 : 0 < (names.map V.str).length := by rw [List.length_map]; omega
  have hl1 : (names.map V.str).length ≤ 1000000 := by rw [List.length_map]; omega
  walk_at "go"
  intro x H2 hx D2 k2
  obtain ⟨y, hy, rfl⟩ := List.mem_map.mp hx
  have yok := nm1.oks y hy
  have g2 := g.drawn D2 (k1.trans k2)
  have lf2 := g2.lft
  have nms2 := g2.nms
  have k12 := k1.trans k2
  have sub : ∀ b, b ∈ [a, c] → b ∈ [a, c, lf] := by
    intro b hb
    simp only [List.mem_cons, List.not_mem_nil, or_false] at hb ⊢
    rcases hb with h | h
    · exact .inl h
    · exact .inr (.inl h)
  have hm3 : m + 1 + 1 + costE 3 ≤ 900000000 := by omega
  have fin : ∀ (v : V) (s : Sm) (H3 : Hp) (m3 : Int), Tr H3 s.d v → s.ok → s.inN names → s.plain → s.hv = 0 → m + 1 + 1 ≤ m3 → m3 ≤ m + 50 → Deck H3 a c m3 → Kp [a, c] H2 H3 → Q v H3 := by
    intro v s H3 m3 t3 o3 n3 p3 z3 l3 u3 D3 k3
    exact q v s H3 m3 l t3 o3 n3 p3 (by rw [z3]; simp) ⟨ln1, ln2, ln3, ln4⟩ rfl rfl (Int.le_refl _) rfl (by omega) u3 (g2.drawn D3 k3) ((k12.trans k3).sub sub)
  walk_at "go"
  refine ⟨⟨fun σ3 H3 => Lp (σ3 = [some (.ref a), some (.ref nm), some (.ref lf), some (.int t), some (.int r), some (.str y)] ∧ H3 = H2), ?_, ?_⟩⟩
  · walk_at "go"
    refine ite2 (fun hc => ?_) (fun hc => ⟨rfl, rfl⟩)
    walk_at "go"
    refine ite2 (fun hd => ?_) (fun hd => ⟨rfl, rfl⟩)
    have hd1 : t ≤ l.h := of_decide_eq_true hd
    walk_at "go"
    intro H3 g3 k3
    replace g3 : H3 lf = some (.lst (Lf.vs ⟨l.p, l.w, l.h - t, l.c⟩)) := g3
    have gs3 := g2.left g3 k3
    have dk3 := gs3.dk
    have nms3 := gs3.nms
    walk_at "go"
    intro v e H4 m4 t4 o4 n4 p4 ml4 mu4 D4 k4
    walk_at "go"
    intro r5 H5 hr5 e5
    have k5 := new_kp hr5 e5
    exact q _ (.half y e) H5 m4 ⟨l.p, l.w, l.h - t, l.c⟩ (mk_tup (new_at e5) (trs_cons mk_str (trs_cons mk_str (trs_cons (k5.tr t4) trs_nil)))) (by simp only [Sm.ok]; exact ⟨⟨o4, by omega⟩, yok⟩) (by simp only [Sm.inN]; exact ⟨n4, hy⟩) trivial (by simp only [Sm.hv]; omega) ⟨ln1, ln2, by show 0 ≤ l.h - t; omega, ln4⟩ rfl rfl (by show l.h - t ≤ l.h; omega) rfl (by omega) (by omega)
      ((gs3.drawn D4 k4).kp0 k5) (((((k12.sub sub).trans (k3.sub (by simp))).trans (k4.sub sub))).step0 k5)
  · rintro σ3 H3 ⟨⟨rfl, rfl⟩⟩
    walk_at "go"
    refine ite2 (fun hc => ?_) (fun hc => ?_)
    · walk_at "go"
      intro v e H4 m4 t4 o4 n4 p4 ml4 mu4 D4 k4
      walk_at "go"
      intro r5 H5 hr5 e5
      have k5 := new_kp hr5 e5
      exact fin _ (.set y e) H5 m4 (mk_tup (new_at e5) (trs_cons mk_str (trs_cons mk_str (trs_cons (k5.tr t4) trs_nil)))) (by simp only [Sm.ok]; exact ⟨⟨o4, by omega⟩, yok⟩) (by simp only [Sm.inN]; exact ⟨n4, hy⟩) trivial (by simp only [Sm.hv]) (by omega) (by omega) (D4.kp0 k5) (k4.step0 k5)
    · walk_at "go"
      refine ite2 (fun hd => ?_) (fun hd => ?_)
      · walk_at "go"
        intro l4 H4 hl4 e4
        have k4 := new_kp hl4 e4
        have a4 := new_at e4
        have D4 := D2.kp0 k4
        have off4 := D2.off hl4
        walk_at "go"
        intro z H5 hz D5 k5
        have hz2 : z ∈ (["go", "7", "half", "odd"] : List Str).map V.str := hz
        obtain ⟨zw, hzw, rfl⟩ := List.mem_map.mp hz2
        have zin : WdIn zw := by
          unfold WdIn
          simp only [List.mem_cons, List.not_mem_nil, or_false] at hzw ⊢
          rcases hzw with z | z | z | z <;> simp [z]
        have zok : PyData.strOk zw = true ∧ zw.length ≤ 20 := by
          simp only [List.mem_cons, List.not_mem_nil, or_false] at hzw
          rcases hzw with rfl | rfl | rfl | rfl <;> decide +kernel
        walk_at "go"
        intro r6 H6 hr6 e6
        have k6 := new_kp hr6 e6
        exact fin _ (.say zw) H6 (m + 1 + 1 + 1) (mk_tup (new_at e6) (trs_cons mk_str (trs_cons mk_str trs_nil))) (by simp only [Sm.ok]; exact zok) (by simp only [Sm.inN]; exact zin) trivial (by simp only [Sm.hv]) (by omega) (by omega) (D5.kp0 k6) (((k4.sub (by simp)).trans k5).step0 k6)
      · refine ⟨⟨fun σ4 H4 => Lp (σ4 = [some (.ref a), some (.ref nm), some (.ref lf), some (.int t), some (.int r), some (.str y)] ∧ ∃ m4, m + 1 + 1 ≤ m4 ∧ m4 ≤ m + 3 ∧ Deck H4 a c m4 ∧ Kp [a, c] H3 H4), ?_, ?_⟩⟩
        · walk_at "go"
          refine ite2 (fun he => ?_) (fun he => ⟨rfl, m + 1 + 1, by omega, by omega, D2, Kp.refl⟩)
          walk_at "go"
          intro r4 H4 r40 r41 D4 k4
          walk_at "go"
          refine ite2 (fun hf => ?_) (fun hf => ⟨rfl, m + 1 + 1 + 1, by omega, by omega, D4, k4⟩)
          have hm4 : m + 1 + 1 + 1 ≤ MANY := by show m + 1 + 1 + 1 ≤ 1000000000; omega
          walk_at "go"
          intro l5 H5 hl5 e5
          have k5 := new_kp hl5 e5
          have a5 := new_at e5
          have D5 := D4.kp0 k5
          have off5 := D4.off hl5
          walk_at "go"
          intro z H6 hz D6 k6
          have hz2 : z ∈ (["end", "0", "not"] : List Str).map V.str := hz
          obtain ⟨zw, hzw, rfl⟩ := List.mem_map.mp hz2
          have zin : WdIn zw := by
            unfold WdIn
            simp only [List.mem_cons, List.not_mem_nil, or_false] at hzw ⊢
            rcases hzw with z | z | z <;> simp [z]
          have zok : PyData.strOk zw = true ∧ zw.length ≤ 20 := by
            simp only [List.mem_cons, List.not_mem_nil, or_false] at hzw
            rcases hzw with rfl | rfl | rfl <;> decide +kernel
          walk_at "go"
          intro r7 H7 hr7 e7
          have k7 := new_kp hr7 e7
          exact fin _ (.stop zw) H7 (m + 1 + 1 + 1 + 1) (mk_tup (new_at e7) (trs_cons mk_str (trs_cons mk_str trs_nil))) (by simp only [Sm.ok]; exact zok) (by simp only [Sm.inN]; exact zin) trivial (by simp only [Sm.hv]) (by omega) (by omega) (D6.kp0 k7) (((k4.step0 k5).trans k6).step0 k7)
        · rintro σ4 H4 ⟨⟨rfl, m4, ml4, mu4, D4, k4⟩⟩
          have nms4 := nms2.kpD k4
          have hm4 : m4 + costE 3 ≤ 900000000 := by omega
          walk_at "go"
          intro v e H5 m5 t5 o5 n5 p5 ml5 mu5 D5 k5
          walk_at "go"
          intro r6 H6 hr6 e6
          have k6 := new_kp hr6 e6
          exact fin _ (.tell e) H6 m5 (mk_tup (new_at e6) (trs_cons mk_str (trs_cons (k6.tr t5) trs_nil))) (by simp only [Sm.ok]; exact ⟨o5, by omega⟩) (by simp only [Sm.inN]; exact n5) trivial (by simp only [Sm.hv]) (by omega) (by omega) (D5.kp0 k6) ((k4.trans k5).step0 k6)
end
end EH
namespace EH
open PySem L2
local macro_rules | `(tactic| walk_at "sd") => `(tactic| first | assumption | ((with_reducible show (_ : Int) ≤ _); omega) | ((with_reducible show (_ : Int) < _); omega) | rfl | exact SqL.of (by assumption) | exact SqT.of (by assumption) | exact atI_nat (j := 0) rfl | exact atI_nat (j := 1) rfl | exact atI_nat (j := 2) rfl | exact atI_nat (j := 3) rfl | exact sz_lit rfl | exact lt_lit rfl | exact pos_lit rfl | exact le_lit rfl | exact Or.inl (SqL.of (by assumption)) | exact ⟨_, SqL.of (by assumption)⟩ | exact ⟨_, SqT.of (by assumption)⟩ | exact Or.inr (SqT.of (by assumption)) | exact ClsV.ty _ | exact TyX.base (TyOf.int _) | exact TyX.base (TyOf.str _) | exact TyX.base (TyOf.tup (by assumption)) | exact kit_ty isi_ss | exact kit_ty isi_is | exact kit_ty isi_ts | exact kit_ty isi_si | exact kit_ty isi_ii | exact kit_ty isi_ti | exact kit_ty isi_st | exact kit_ty isi_it | exact kit_ty isi_tt | exact Or.inl ⟨_, Or.inl (by assumption)⟩ | exact DGet.k (k := Sum.inr _) (by assumption) | exact DGet.k (k := Sum.inl _) (by assumption) | (refine cpow_of ?_; decide) | (refine cmul_of ?_; decide) | (show (_ : Int) ≠ 0; first | decide | omega) | (refine cdivn_of ?_; decide) | exact Or.inl ⟨rfl, _, SqL.of (by assumption)⟩ | omega)
local macro_rules | `(tactic| walk_at "st") => `(tactic| first | (apply Exists.intro) | (refine And.intro ?_ ?_; focus (walk_at "sd")) | (apply Or.inl; apply Exists.intro; refine And.intro ?_ ?_; focus rfl) | (apply Or.inr; apply Exists.intro; refine And.intro ?_ ?_; focus rfl))
local macro_rules | `(tactic| walk_at "go") => `(tactic| repeat (walk_at "st"))
section
variable {P : Program} {w : World} {K : PySem.W.Frag} {mg : Str → Option Value} {base : Heap}
theorem ok_l_test (T : Top K mg) {k : Nat} : FnOk P w K mg base CX0 (k + 6) T.l_test.f T.l_test.fd ["_law_deck_here", "_law_names_here", "_law_left", "_law_times"] spTest := by
  have G_l_draw : FnOk P w K mg base CX0 1 T.l_draw.f T.l_draw.fd ["_law_deck_here", "_law_many"] spDraw := ok_l_draw T
  have G_l_expression : FnOk P w K mg base CX0 5 T.l_expression.f T.l_expression.fd ["_law_deck_here", "_law_names_here", "_law_deep"] (spExpr 3) := ok_l_expression T 3
  refine T.l_test.F.ok sc_l_test (fun vs H Q E h => ?_) (fun cdv A outer s H vs Q E hr h => ?_)
  · obtain ⟨a, c, nm, lf, m, t, names, l, rfl, _⟩ := h
    rfl
  obtain ⟨a, c, nm, lf, m, t, names, l, rfl, g, hm, ln, ht, q⟩ := h
  have hu64 := hr.units
  refine ⟨_, (pss_cons (ps_par (i := 4) (j := 5) (by rfl) sc_l_test.nd rfl rfl (by decide) rfl rfl (pa_cons (pe_op op_sub (pe_call G_l_draw (hr.mono (by omega)) (by rfl) T.l_draw.g T.l_draw.F.kp T.l_draw.b .nil pass0 (pa_cons (pv 0) (pa_cons pe_int pa_nil))) pe_int) (pa_cons (pe_tupA pa_nil) pa_nil)) (by rfl))
      (pss_cutA (ps_if (PW.pt (pw_and (pt_cmpR op_eq (pe_call G_l_draw (hr.mono (by omega)) (by rfl) T.l_draw.g T.l_draw.F.kp T.l_draw.b .nil pass0 (pa_cons (pv 0) (pa_cons pe_int pa_nil))) pe_int (nomark _)) (pw_and1 (pt_cmpR op_ge (pe_ix (ix_listK (K := K) rfl) (pv 2) pe_int (fun _ _ => rfl)) (pv 3) (nomark _))))) (pss_cons (ps_asg (pe_op op_sub (pe_ix (ix_listK (K := K) rfl) (pv 2) pe_int (fun _ _ => rfl)) (pv 3)) (pg_sub (pv 2) pe_int set_listA))
      (pss_one (ps_set (i := 5) sc_l_test.nd rfl (.inl rfl) (pe_tupA (pa_cons pe_str (pa_cons (pe_call G_l_expression (hr.mono (by omega)) (by rfl) T.l_expression.g T.l_expression.F.kp T.l_expression.b .nil pass0 (pa_cons (pv 0) (pa_cons (pv 1) (pa_cons pe_int pa_nil)))) pa_nil)))))) (pss_one (ps_if (pt_cmpR op_ge (pe_ix (ix_listK (K := K) rfl) (pv 2) pe_int (fun _ _ => rfl)) (pv 3) (nomark _)) (pss_cons (ps_asg (pe_op op_sub (pe_ix (ix_listK (K := K) rfl) (pv 2) pe_int (fun _ _ => rfl)) (pv 3)) (pg_sub (pv 2) pe_int set_listA))
      (pss_one (ps_set (i := 5) sc_l_test.nd rfl (.inl rfl) (pe_tupA (pa_cons pe_str (pa_cons (pe_call G_l_expression (hr.mono (by omega)) (by rfl) T.l_expression.g T.l_expression.F.kp T.l_expression.b .nil pass0 (pa_cons (pv 0) (pa_cons (pv 1) (pa_cons pe_int pa_nil)))) (pa_cons (pe_call G_l_expression (hr.mono (by omega)) (by rfl) T.l_expression.g T.l_expression.F.kp T.l_expression.b .nil pass0 (pa_cons (pv 0) (pa_cons (pv 1) (pa_cons pe_int pa_nil)))) pa_nil))))))) pss_nil)))
      (pss_cons (ps_forA (ps_for PassesOwn.never rfl (pi_range1 (by rfl) T.range (pa_cons (pe_ifExp (pt_cmpR (op_neT hu64) (pv 5) (pe_tupA pa_nil) (nomark _)) (pe_callB (id := "max") (call_max2 rfl) (by rfl) T.max (by decide +kernel) (pa_cons pe_int (pa_cons (pv 4) pa_nil))) pe_int) pa_nil)) (pg_name (i := 6) sc_l_test.nd rfl (.inl rfl)) (pss_one (ps_set (i := 5) sc_l_test.nd rfl (.inl rfl) (pe_tupA (pa_cons pe_str (pa_cons (pv 5) pa_nil)))))))
      (pss_one (ps_ret (pv 5)))))), ?_⟩
  have hm0 : m ≤ MANY := by show m ≤ 1000000000; omega
  have hm1 : m + 1 ≤ MANY := by show m + 1 ≤ 1000000000; omega
  have ce : costE 3 = 21 := by decide
  have dk := g.dk
  obtain ⟨ln1, ln2, ln3, ln4⟩ := ln
  have sub : ∀ b, b ∈ [a, c] → b ∈ [a, c, lf] := by
    intro b hb
    simp only [List.mem_cons, List.not_mem_nil, or_false] at hb ⊢
    rcases hb with h | h
    · exact .inl h
    · exact .inr (.inl h)
  walk_at "go"
  intro r H1 r0 r1 D1 k1
  walk_at "go"
  intro u0 H2 hu0 e2
  have k2 := new_kp hu0 e2
  have a2 := new_at e2
  have D2 := D1.kp0 k2
  have g2 := g.drawn D2 (k1.step0 k2)
  have k12 : Kp [a, c, lf] H H2 := (k1.sub sub).step0 k2
  walk_at "go"
  refine ⟨⟨fun σ3 H3 => Lp (∃ (tv : V) (o : Option Ts) (m3 : Int) (l3 : Lf), σ3 = [some (.ref a), some (.ref nm), some (.ref lf), some (.int t), some (.int (r - 2)), some tv, none] ∧ Tr H3 (tD o) tv ∧
    (∀ s, o = some s → (s.ok ∧ s.inN names) ∧ s.nots = 0 ∧ t * (if s.isOdd then 1 else 0) ≤ l.h - l3.h ∧ t * (if s.isOdd then 0 else 1) ≤ l.c - l3.c) ∧ l3.nn ∧ l3.p = l.p ∧ l3.w = l.w ∧ l3.h ≤ l.h ∧ l3.c ≤ l.c ∧ m + 1 ≤ m3 ∧ m3 ≤ m + 50 ∧ Gs H3 a c nm lf m3 names l3 ∧ Kp [a, c, lf] H H3), ?_, ?_⟩⟩
  · walk_at "go"
    intro r3 H3 r30 r31 D3 k3
    have g3 := g2.drawn D3 k3
    have lf3 := g3.lft
    have nms3 := g3.nms
    have k13 := k12.trans (k3.sub sub)
    have hm3 : m + 1 + 1 + costE 3 ≤ 900000000 := by omega
    walk_at "go"
    refine ite2 (fun hc => ?_) (fun hc => ?_)
    · walk_at "go"
      refine ite2 (fun hd => ?_) (fun hd => ?_)
      · have hd1 : t ≤ l.h := of_decide_eq_true hd
        walk_at "go"
        intro H4 g4 k4
        replace g4 : H4 lf = some (.lst (Lf.vs ⟨l.p, l.w, l.h - t, l.c⟩)) := g4
        have gs4 := g3.left g4 k4
        have dk4 := gs4.dk
        have nms4 := gs4.nms
        walk_at "go"
        intro v e H5 m5 t5 o5 n5 p5 ml5 mu5 D5 k5
        walk_at "go"
        intro r6 H6 hr6 e6
        have k6 := new_kp hr6 e6
        refine ⟨_, some (.odd e), m5, ⟨l.p, l.w, l.h - t, l.c⟩, rfl, mk_tup (new_at e6) (trs_cons mk_str (trs_cons (k6.tr t5) trs_nil)), ?_, ⟨ln1, ln2, by show 0 ≤ l.h - t; omega, ln4⟩, rfl, rfl, by show l.h - t ≤ l.h; omega, Int.le_refl _, by omega, by omega, (gs4.drawn D5 k5).kp0 k6, ((k13.trans (k4.sub (by simp))).trans (k5.sub sub)).step0 k6⟩
        rintro s ⟨⟩
        refine ⟨⟨⟨o5, by omega⟩, n5⟩, rfl, ?_, ?_⟩
        · show t * 1 ≤ l.h - (l.h - t)
          omega
        · show t * 0 ≤ l.c - l.c
          omega
      · walk_at "go"
        refine ite2 (fun he => ?_) (fun he => ?_)
        · have he1 : t ≤ l.c := of_decide_eq_true he
          walk_at "go"
          intro H4 g4 k4
          replace g4 : H4 lf = some (.lst (Lf.vs ⟨l.p, l.w, l.h, l.c - t⟩)) := g4
          have gs4 := g3.left g4 k4
          have dk4 := gs4.dk
          have nms4 := gs4.nms
          walk_at "go"
          intro v5 e5 H5 m5 t5 o5 n5 p5 ml5 mu5 D5 k5
          have nms5 := nms4.kpD k5
          have hm5 : m5 + costE 3 ≤ 900000000 := by omega
          walk_at "go"
          intro v6 e6 H6 m6 t6 o6 n6 p6 ml6 mu6 D6 k6
          walk_at "go"
          intro r7 H7 hr7 e7
          have k7 := new_kp hr7 e7
          refine ⟨_, some (.less e5 e6), m6, ⟨l.p, l.w, l.h, l.c - t⟩, rfl, mk_tup (new_at e7) (trs_cons mk_str (trs_cons (k7.tr (k6.tr t5)) (trs_cons (k7.tr t6) trs_nil))), ?_, ⟨ln1, ln2, ln3, by show 0 ≤ l.c - t; omega⟩, rfl, rfl, Int.le_refl _, by show l.c - t ≤ l.c; omega, by omega, by omega, (gs4.drawn D6 (k5.trans k6)).kp0 k7, (((k13.trans (k4.sub (by simp))).trans (k5.sub sub)).trans (k6.sub sub)).step0 k7⟩
          rintro s ⟨⟩
          refine ⟨⟨⟨⟨o5, by omega⟩, o6, by omega⟩, n5, n6⟩, rfl, ?_, ?_⟩
          · show t * 0 ≤ l.h - l.h
            omega
          · show t * 1 ≤ l.c - (l.c - t)
            omega
        · exact ⟨_, none, m + 1 + 1, l, rfl, mk_tup (k3.tup _ _ a2) trs_nil, (fun s z => nomatch z), ⟨ln1, ln2, ln3, ln4⟩, rfl, rfl, Int.le_refl _, Int.le_refl _, by omega, by omega, g3, k13⟩
    · walk_at "go"
      refine ite2 (fun he => ?_) (fun he => ?_)
      · have he1 : t ≤ l.c := of_decide_eq_true he
        walk_at "go"
        intro H4 g4 k4
        replace g4 : H4 lf = some (.lst (Lf.vs ⟨l.p, l.w, l.h, l.c - t⟩)) := g4
        have gs4 := g3.left g4 k4
        have dk4 := gs4.dk
        have nms4 := gs4.nms
        walk_at "go"
        intro v5 e5 H5 m5 t5 o5 n5 p5 ml5 mu5 D5 k5
        have nms5 := nms4.kpD k5
        have hm5 : m5 + costE 3 ≤ 900000000 := by omega
        walk_at "go"
        intro v6 e6 H6 m6 t6 o6 n6 p6 ml6 mu6 D6 k6
        walk_at "go"
        intro r7 H7 hr7 e7
        have k7 := new_kp hr7 e7
        refine ⟨_, some (.less e5 e6), m6, ⟨l.p, l.w, l.h, l.c - t⟩, rfl, mk_tup (new_at e7) (trs_cons mk_str (trs_cons (k7.tr (k6.tr t5)) (trs_cons (k7.tr t6) trs_nil))), ?_, ⟨ln1, ln2, ln3, by show 0 ≤ l.c - t; omega⟩, rfl, rfl, Int.le_refl _, by show l.c - t ≤ l.c; omega, by omega, by omega, (gs4.drawn D6 (k5.trans k6)).kp0 k7, (((k13.trans (k4.sub (by simp))).trans (k5.sub sub)).trans (k6.sub sub)).step0 k7⟩
        rintro s ⟨⟩
        refine ⟨⟨⟨⟨o5, by omega⟩, o6, by omega⟩, n5, n6⟩, rfl, ?_, ?_⟩
        · show t * 0 ≤ l.h - l.h
          omega
        · show t * 1 ≤ l.c - (l.c - t)
          omega
      · exact ⟨_, none, m + 1 + 1, l, rfl, mk_tup (k3.tup _ _ a2) trs_nil, (fun s z => nomatch z), ⟨ln1, ln2, ln3, ln4⟩, rfl, rfl, Int.le_refl _, Int.le_refl _, by omega, by omega, g3, k13⟩
  · rintro σ3 H3 ⟨⟨tv, o, m3, l3, rfl, t3, ho, ln3', lp3, lw3, lh3, lc3, ml3, mu3, g3, k3⟩⟩
    walk_at "go"
    intro u4 H4 hu4 e4
    have k4 := new_kp hu4 e4
    have a4 := new_at e4
    have t4 := k4.tr t3
    have g4 := g3.kp0 k4
    have k34 := k3.step0 k4
    have tn4 : Tr H4 (.tuple []) (.ref u4) := mk_tup a4 trs_nil
    cases o with
    | none =>
      refine ⟨_, _, t4, tn4, shaped_nil, shaped_nil, _, rfl, ?_⟩
      have ee : (!PyData.eqv (tD none) (.tuple [])) = false := by simp [tD, PyData.eqv, PyData.eqvAll]
      rw [ee]
      refine iteF ?_
      refine ⟨0, rfl, by omega, by omega, ⟨for_range (lo := 0) (n := 0) (fun i σ H5 => Lp (∃ w6, σ = [some (.ref a), some (.ref nm), some (.ref lf), some (.int t), some (.int (r - 2)), some tv, w6] ∧ H5 = H4)) ⟨_, rfl, rfl⟩ (fun i σ H5 hi => absurd hi (Nat.not_lt_zero i)) ?_⟩⟩
      rintro σ H5 ⟨⟨w6, rfl, rfl⟩⟩
      walk_at "go"
      exact q tv none H5 m3 l3 t4 (fun s z => nomatch z) ln3' lp3 lw3 lh3 lc3 (by omega) mu3 g4 k34
    | some ts =>
      obtain ⟨⟨h1, hn1⟩, h2, h3, h4⟩ := ho ts rfl
      refine ⟨_, _, t4, tn4, Ts.shaped h1 (by omega), shaped_nil, _, rfl, ?_⟩
      have ee : (!PyData.eqv (tD (some ts)) (.tuple [])) = true := by
        show (!PyData.eqv ts.d (.tuple [])) = true
        rw [Ts.ne0]
        rfl
      rw [ee]
      refine iteT ?_
      have ex : ∃ j : Nat, (if r - 2 > 0 then r - 2 else 0) = (j : Int) ∧ j ≤ 2 := by
        split
        · exact ⟨(r - 2).toNat, by omega, by omega⟩
        · exact ⟨0, rfl, by omega⟩
      obtain ⟨j, ej, hj⟩ := ex
      refine ⟨_, rfl, 0, r - 2, rfl, ?_⟩
      show ∃ i, _
      rw [ej]
      refine ⟨(j : Int), rfl, by omega, by omega, ⟨for_range (lo := 0) (n := j) (fun i σ H5 => Lp (∃ (v5 : V) (w6 : Option V), σ = [some (.ref a), some (.ref nm), some (.ref lf), some (.int t), some (.int (r - 2)), some v5, w6] ∧ Tr H5 (notN i ts).d v5 ∧ Gs H5 a c nm lf m3 names l3 ∧ Kp [a, c, lf] H H5)) ⟨tv, _, rfl, t4, g4, k34⟩ ?_ ?_⟩⟩
      · rintro i σ H5 hi ⟨⟨v5, w6, rfl, t5, g5, k5⟩⟩
        walk_at "go"
        intro r6 H6 hr6 e6
        have k6 := new_kp hr6 e6
        exact ⟨_, _, rfl, mk_tup (new_at e6) (trs_cons mk_str (trs_cons (k6.tr t5) trs_nil)), g5.kp0 k6, k5.step0 k6⟩
      · rintro σ H5 ⟨⟨v5, w6, rfl, t5, g5, k5⟩⟩
        walk_at "go"
        refine q v5 (some (notN j ts)) H5 m3 l3 t5 ?_ ln3' lp3 lw3 lh3 lc3 (by omega) mu3 g5 k5
        rintro s ⟨⟩
        rw [notN_nots, notN_odd]
        exact ⟨⟨notN_ok h1 j, notN_in hn1 j⟩, by omega, h3, h4⟩
end
end EH
namespace EH
open PySem L2
local macro_rules | `(tactic| walk_at "sd") => `(tactic| first | assumption | ((with_reducible show (_ : Int) ≤ _); omega) | ((with_reducible show (_ : Int) < _); omega) | rfl | exact SqL.of (by assumption) | exact SqT.of (by assumption) | exact atI_nat (j := 0) rfl | exact atI_nat (j := 1) rfl | exact atI_nat (j := 2) rfl | exact atI_nat (j := 3) rfl | exact sz_lit rfl | exact lt_lit rfl | exact pos_lit rfl | exact le_lit rfl | exact Or.inl (SqL.of (by assumption)) | exact ⟨_, SqL.of (by assumption)⟩ | exact ⟨_, SqT.of (by assumption)⟩ | exact Or.inr (SqT.of (by assumption)) | exact ClsV.ty _ | exact TyX.base (TyOf.int _) | exact TyX.base (TyOf.str _) | exact TyX.base (TyOf.tup (by assumption)) | exact kit_ty isi_ss | exact kit_ty isi_is | exact kit_ty isi_ts | exact kit_ty isi_si | exact kit_ty isi_ii | exact kit_ty isi_ti | exact kit_ty isi_st | exact kit_ty isi_it | exact kit_ty isi_tt | exact Or.inl ⟨_, Or.inl (by assumption)⟩ | exact DGet.k (k := Sum.inr _) (by assumption) | exact DGet.k (k := Sum.inl _) (by assumption) | (refine cpow_of ?_; decide) | (refine cmul_of ?_; decide) | (show (_ : Int) ≠ 0; first | decide | omega) | (refine cdivn_of ?_; decide) | exact Or.inl ⟨rfl, _, SqL.of (by assumption)⟩ | omega)
local macro_rules | `(tactic| walk_at "st") => `(tactic| first | (apply Exists.intro) | (refine And.intro ?_ ?_; focus (walk_at "sd")) | (apply Or.inl; apply Exists.intro; refine And.intro ?_ ?_; focus rfl) | (apply Or.inr; apply Exists.intro; refine And.intro ?_ ?_; focus rfl))
local macro_rules | `(tactic| walk_at "go") => `(tactic| repeat (walk_at "st"))
section
variable {P : Program} {w : World} {K : PySem.W.Frag} {mg : Str → Option Value} {base : Heap}
theorem ok_l_row (T : Top K mg) {k : Nat} (G_l_block : FnOk P w K mg base CX0 (2 * k + 7) T.l_block.f T.l_block.fd ["_law_deck_here", "_law_names_here", "_law_left", "_law_times", "_law_depth"] (spBlock k)) :
    FnOk P w K mg base CX0 (2 * k + 8) T.l_row.f T.l_row.fd ["_law_deck_here", "_law_names_here", "_law_left", "_law_times", "_law_depth"] (spRow k) := by
  have G_l_draw : FnOk P w K mg base CX0 1 T.l_draw.f T.l_draw.fd ["_law_deck_here", "_law_many"] spDraw := ok_l_draw T
  have G_l_one : FnOk P w K mg base CX0 2 T.l_one.f T.l_one.fd ["_law_deck_here", "_law_items"] (spOne K) := ok_l_one T
  have G_l_test : FnOk P w K mg base CX0 6 T.l_test.f T.l_test.fd ["_law_deck_here", "_law_names_here", "_law_left", "_law_times"] spTest := ok_l_test T
  have G_l_plain : FnOk P w K mg base CX0 6 T.l_plain.f T.l_plain.fd ["_law_deck_here", "_law_names_here", "_law_left", "_law_times"] spPlain := ok_l_plain T
  refine T.l_row.F.ok sc_l_row (fun vs H Q E h => ?_) (fun cdv A outer s H vs Q E hr h => ?_)
  · obtain ⟨a, c, nm, lf, m, t, depth, names, l, rfl, _⟩ := h
    rfl
  obtain ⟨a, c, nm, lf, m, t, depth, names, l, rfl, g, hm, ln, ht, hd, hd0, q⟩ := h
  have hu64 := hr.units
  refine ⟨_, (pss_cutA (ps_if (PW.pt (pw_or (pt_cmpR op_lt (pe_ix (ix_listK (K := K) rfl) (pv 2) pe_int (fun _ _ => rfl)) pe_int (nomark _)) (pw_or1 (pt_cmpR op_lt (pe_ix (ix_listK (K := K) rfl) (pv 2) pe_int (fun _ _ => rfl)) (pv 3) (nomark _))))) (pss_one (ps_ret (pe_tupA pa_nil))) pss_nil)
      (pss_cons (ps_asg (pe_tupA (pa_cons (pe_op op_sub (pe_ix (ix_listK (K := K) rfl) (pv 2) pe_int (fun _ _ => rfl)) pe_int) (pa_cons (pe_op op_sub (pe_ix (ix_listK (K := K) rfl) (pv 2) pe_int (fun _ _ => rfl)) (pv 3)) pa_nil))) (pg_tup (by rfl) (pgs_cons (pg_sub (pv 2) pe_int set_listA) (pgs_cons (pg_sub (pv 2) pe_int set_listA) pgs_nil))))
      (pss_cons (ps_set (i := 5) sc_l_row.nd rfl (.inl rfl) (pe_call G_l_draw (hr.mono (by omega)) (by rfl) T.l_draw.g T.l_draw.F.kp T.l_draw.b .nil pass0 (pa_cons (pv 0) (pa_cons pe_int pa_nil))))
      (pss_cutA (ps_if (pt_cmpR op_eq (pv 5) pe_int (nomark _)) (pss_cons (ps_set (i := 6) sc_l_row.nd rfl (.inl rfl) (pe_call G_l_test (hr.mono (by omega)) (by rfl) T.l_test.g T.l_test.F.kp T.l_test.b .nil pass0 (pa_cons (pv 0) (pa_cons (pv 1) (pa_cons (pv 2) (pa_cons (pv 3) pa_nil))))))
      (pss_one (ps_if (pt_cmpR (op_neT hu64) (pv 6) (pe_tupA pa_nil) (nomark _)) (pss_cons (ps_set (i := 7) sc_l_row.nd rfl (.inl rfl) (pe_call G_l_block (hr.mono (by omega)) (by rfl) T.l_block.g T.l_block.F.kp T.l_block.b .nil pass0 (pa_cons (pv 0) (pa_cons (pv 1) (pa_cons (pv 2) (pa_cons (pv 3) (pa_cons (pe_op op_add (pv 4) pe_int) pa_nil)))))))
      (pss_cons (ps_set (i := 8) sc_l_row.nd rfl (.inl rfl) (pe_call G_l_block (hr.mono (by omega)) (by rfl) T.l_block.g T.l_block.F.kp T.l_block.b .nil pass0 (pa_cons (pv 0) (pa_cons (pv 1) (pa_cons (pv 2) (pa_cons (pv 3) (pa_cons (pe_op op_add (pv 4) pe_int) pa_nil)))))))
      (pss_one (ps_ret (pe_tupA (pa_cons pe_str (pa_cons (pv 6) (pa_cons (pv 7) (pa_cons (pv 8) pa_nil))))))))) pss_nil))) pss_nil)
      (pss_cons (ps_if (pt_cmpR op_eq (pv 5) pe_int (nomark _)) (pss_cons (ps_set (i := 9) sc_l_row.nd rfl (.inl rfl) (pe_call G_l_one (hr.mono (by omega)) (by rfl) T.l_one.g T.l_one.F.kp T.l_one.b .nil pass0 (pa_cons (pv 0) (pa_cons (pe_lstA (pa_cons pe_int (pa_cons pe_int (pa_cons pe_int (pa_cons pe_int (pa_cons pe_int (pa_cons pe_int (pa_cons pe_int pa_nil)))))))) pa_nil))))
      (pss_cons (ps_set (i := 10) sc_l_row.nd rfl (.inl rfl) (pe_call G_l_block (hr.mono (by omega)) (by rfl) T.l_block.g T.l_block.F.kp T.l_block.b .nil pass0 (pa_cons (pv 0) (pa_cons (pv 1) (pa_cons (pv 2) (pa_cons (pe_op op_mul (pv 3) (pv 9)) (pa_cons (pe_op op_add (pv 4) pe_int) pa_nil)))))))
      (pss_one (ps_ret (pe_tupA (pa_cons pe_str (pa_cons (pv 9) (pa_cons (pv 10) pa_nil)))))))) pss_nil)
      (pss_one (ps_ret (pe_call G_l_plain (hr.mono (by omega)) (by rfl) T.l_plain.g T.l_plain.F.kp T.l_plain.b .nil pass0 (pa_cons (pv 0) (pa_cons (pv 1) (pa_cons (pv 2) (pa_cons (pv 3) pa_nil)))))))))))), ?_⟩
  have cn := costB_nn k
  have cr : costR k = 110 + 2 * costB k := rfl
  have lf0 := g.lft
  have sub : ∀ b, b ∈ [a, c] → b ∈ [a, c, lf] := by
    intro b hb
    simp only [List.mem_cons, List.not_mem_nil, or_false] at hb ⊢
    rcases hb with h | h
    · exact .inl h
    · exact .inr (.inl h)
  -- nothing is left
  have out : ∀ (r : Addr) (H1 : Hp), H1 r = some (.tup []) → Kp [] H H1 → Q (.ref r) H1 := fun r H1 a1 k1 => q _ none H1 m l (mk_tup a1 trs_nil) (fun s z => nomatch z) (fun _ => rfl) ln (Int.le_refl _) (by omega) (g.kp0 k1) (k1.sub (by simp))
  refine ⟨⟨fun σ1 H1 => Lp (σ1 = [some (.ref a), some (.ref nm), some (.ref lf), some (.int t), some (.int depth), none, none, none, none, none, none] ∧ H1 = H ∧ 1 ≤ l.p ∧ t ≤ l.w), ?_, ?_⟩⟩
  · walk_at "go"
    refine ite2 (fun hc => ?_) (fun hc => ?_)
    · walk_at "go"
      intro r H1 hr1 e1
      exact out r H1 (new_at e1) (new_kp hr1 e1)
    · have hc1 : ¬ l.p < 1 := of_decide_eq_false (Bool.eq_false_iff.mpr hc)
      walk_at "go"
      refine ite2 (fun he => ?_) (fun he => ?_)
      · walk_at "go"
        intro r H1 hr1 e1
        exact out r H1 (new_at e1) (new_kp hr1 e1)
      · have he1 : ¬ l.w < t := of_decide_eq_false (Bool.eq_false_iff.mpr he)
        exact ⟨rfl, rfl, by omega, by omega⟩
  · rintro σ1 H1 ⟨⟨rfl, rfl, hp1, hw1⟩⟩
    obtain ⟨ln1, ln2, ln3, ln4⟩ := ln
    walk_at "go"
    intro u2 H2 hu2 e2
    have k2 := new_kp hu2 e2
    have a2 := new_at e2
    have g2 := g.kp0 k2
    have lf2 := g2.lft
    walk_at "go"
    intro H3 lf3 k3
    replace lf3 : H3 lf = some (.lst (Lf.vs ⟨l.p - 1, l.w, l.h, l.c⟩)) := lf3
    have g3 := g2.left lf3 k3
    walk_at "go"
    intro H4 lf4 k4
    replace lf4 : H4 lf = some (.lst (Lf.vs ⟨l.p - 1, l.w - t, l.h, l.c⟩)) := lf4
    have g4 := g3.left lf4 k4
    have k14 : Kp [a, c, lf] H1 H4 := ((k2.sub (by simp)).trans (k3.sub (by simp))).trans (k4.sub (by simp))
    have dk4 := g4.dk
    have hm4 : m ≤ MANY := by show m ≤ 1000000000; omega
    have took1 : Took t 1 1 0 0 l ⟨l.p - 1, l.w - t, l.h, l.c⟩ := ⟨by show ((1 : Nat) : Int) ≤ l.p - (l.p - 1); omega, by show t * ((1 : Nat) : Int) ≤ l.w - (l.w - t); omega, by simp, by simp⟩
    walk_at "go"
    intro r H5 r0 r1 D5 k5
    have g5 := g4.drawn D5 k5
    have k15 := k14.trans (k5.sub sub)
    have hm5 : m + 1 ≤ 800000000 := by omega
    walk_at "go"
    refine ⟨⟨fun σ6 H6 => Lp (∃ (w6 w7 w8 : Option V) (m6 : Int) (l6 : Lf), σ6 = [some (.ref a), some (.ref nm), some (.ref lf), some (.int t), some (.int depth), some (.int r), w6, w7, w8, none, none] ∧ Took t 1 1 0 0 l l6 ∧ l6.nn ∧ m + 1 ≤ m6 ∧ m6 ≤ m + 51 ∧ Gs H6 a c nm lf m6 names l6 ∧ Kp [a, c, lf] H1 H6), ?_, ?_⟩⟩
    · have ln5 : Lf.nn ⟨l.p - 1, l.w - t, l.h, l.c⟩ := ⟨by show 0 ≤ l.p - 1; omega, by show 0 ≤ l.w - t; omega, ln3, ln4⟩
      walk_at "go"
      refine ite2 (fun hc => ?_) (fun hc => ⟨_, _, _, m + 1, _, rfl, took1, ln5, by omega, by omega, g5, k15⟩)
      walk_at "go"
      intro v6 o6 H6 m6 l6 t6 h6 ln6 lp6 lw6 lh6 lc6 ml6 mu6 g6 k6
      have k16 := k15.trans k6
      walk_at "go"
      intro u7 H7 hu7 e7
      have k7 := new_kp hu7 e7
      have a7 := new_at e7
      have t7 := k7.tr t6
      have g7 := g6.kp0 k7
      have tn7 : Tr H7 (.tuple []) (.ref u7) := mk_tup a7 trs_nil
      cases o6 with
      | none =>
        refine ⟨_, _, t7, tn7, shaped_nil, shaped_nil, _, rfl, ?_⟩
        have ee : (!PyData.eqv (tD none) (.tuple [])) = false := by simp [tD, PyData.eqv, PyData.eqvAll]
        rw [ee]
        refine iteF ?_
        have tk : Took t 1 1 0 0 l l6 := by
          have h1 := took1.p
          have h2 := took1.w
          have lp6' : l6.p = l.p - 1 := lp6
          have lw6' : l6.w = l.w - t := lw6
          have lh6' : l6.h ≤ l.h := lh6
          have lc6' : l6.c ≤ l.c := lc6
          exact ⟨by rw [lp6']; exact h1, by rw [lw6']; exact h2, by simp; exact lh6', by simp; exact lc6'⟩
        exact ⟨_, _, _, m6, l6, rfl, tk, ln6, by omega, by omega, g7, k16.step0 k7⟩
      | some ts =>
        obtain ⟨⟨o1, n1⟩, o2, o3, o4⟩ := h6 ts rfl
        refine ⟨_, _, t7, tn7, Ts.shaped o1 o2, shaped_nil, _, rfl, ?_⟩
        have ee : (!PyData.eqv (tD (some ts)) (.tuple [])) = true := by
          show (!PyData.eqv ts.d (.tuple [])) = true
          rw [Ts.ne0]
          rfl
        rw [ee]
        refine iteT ?_
        have took2 : Took t 0 0 (if ts.isOdd then 1 else 0) (if ts.isOdd then 0 else 1) ⟨l.p - 1, l.w - t, l.h, l.c⟩ l6 := by
          have lp6' : l6.p = l.p - 1 := lp6
          have lw6' : l6.w = l.w - t := lw6
          refine ⟨?_, ?_, ?_, ?_⟩
          · show ((0 : Nat) : Int) ≤ l.p - 1 - l6.p
            omega
          · show t * ((0 : Nat) : Int) ≤ l.w - t - l6.w
            simp
            omega
          · cases hod : ts.isOdd <;> (rw [hod] at o3; simpa using o3)
          · cases hod : ts.isOdd <;> (rw [hod] at o4; simpa using o4)
        have dd1 : depth + 1 = 4 - (k : Int) := by omega
        have hm7 : m6 + costB k ≤ 700000000 := by omega
        walk_at "go"
        intro v8 b8 H8 m8 l8 t8 bo8 ln8 ml8 mu8 g8 k8
        have hm8 : m8 + costB k ≤ 700000000 := by omega
        walk_at "go"
        intro v9 b9 H9 m9 l9 t9 bo9 ln9 ml9 mu9 g9 k9
        walk_at "go"
        intro r10 H10 hr10 e10
        have k10 := new_kp hr10 e10
        refine q _ (some (.ite ts b8 b9)) H10 m9 l9 (mk_tup (new_at e10) (trs_cons mk_str (trs_cons (k10.tr (k9.tr (k8.tr t7))) (trs_cons (k10.tr (k9.tr t8)) (trs_cons (k10.tr t9) trs_nil))))) ?_ (fun z => nomatch z) ln9 (by omega) (by omega) (g9.kp0 k10) ((((k16.step0 k7).trans k8).trans k9).step0 k10)
        rintro s ⟨⟩
        refine ⟨by simp only [Sm.ok]; exact ⟨o1, o2, bo8.ok, bo9.ok⟩, by simp only [Sm.inN]; exact ⟨n1, bo8.inn, bo9.inn⟩, ?_, ((took1.add took2).add (bo8.took.add bo9.took)).of ?_ ?_ ?_ ?_⟩
        · have z8 := bo8.nest
          have z9 := bo9.nest
          simp only [Sm.nest]
          rcases z8 with rfl | z8 <;> rcases z9 with rfl | z9 <;> (try simp only [Sm.nests]) <;> omega
        · simp only [Sm.pl]
        · simp only [Sm.wt]
        · simp only [Sm.hv]; omega
        · simp only [Sm.cp]; omega
    · rintro σ6 H6 ⟨⟨w6, w7, w8, m6, l6, rfl, took6, ln6, ml6, mu6, g6, k6⟩⟩
      have dk6 := g6.dk
      have hm6 : m6 ≤ MANY := by show m6 ≤ 1000000000; omega
      have hm6' : m6 ≤ 800000000 := by omega
      walk_at "go"
      refine ite2 (fun hc => ?_) (fun hc => ?_)
      · walk_at "go"
        intro l7 H7 hl7 e7
        have k7 := new_kp hl7 e7
        have a7 := new_at e7
        have g7 := g6.kp0 k7
        have dk7 := g7.dk
        have off7 := dk6.off hl7
        walk_at "go"
        intro x H8 hx D8 k8
        have hx2 : x ∈ ([0, 1, 2, 2, 3, 5, 8] : List Int).map V.int := hx
        obtain ⟨i, rfl, i0, i1⟩ := mem_ints (P := fun i => 0 ≤ i ∧ i ≤ 8) hx2 (by
          intro i hi
          simp only [List.mem_cons, List.not_mem_nil, or_false] at hi
          omega)
        obtain ⟨n8, rfl⟩ : ∃ n8 : Nat, i = (n8 : Int) := ⟨i.toNat, by omega⟩
        have g8 := g7.drawn D8 k8
        have cm : CMul t (n8 : Int) := .inr ⟨by omega, by omega⟩
        have tn : 0 ≤ t * (n8 : Int) := Int.mul_nonneg ht i0
        have dd1 : depth + 1 = 4 - (k : Int) := by omega
        have hm8 : m6 + 1 + costB k ≤ 700000000 := by omega
        walk_at "go"
        intro v9 b9 H9 m9 l9 t9 bo9 ln9 ml9 mu9 g9 k9
        walk_at "go"
        intro r10 H10 hr10 e10
        have k10 := new_kp hr10 e10
        refine q _ (some (.rep n8 b9)) H10 m9 l9 (mk_tup (new_at e10) (trs_cons mk_str (trs_cons mk_int (trs_cons (k10.tr t9) trs_nil)))) ?_ (fun z => nomatch z) ln9 (by omega) (by omega) (g9.kp0 k10) ((((k6.step0 k7).trans (k8.sub sub)).trans k9).step0 k10)
        rintro s ⟨⟩
        refine ⟨by simp only [Sm.ok]; exact ⟨by omega, bo9.ok⟩, by simp only [Sm.inN]; exact bo9.inn, ?_, (took6.add bo9.took.rep).of ?_ ?_ ?_ ?_⟩
        · have z9 := bo9.nest
          simp only [Sm.nest]
          rcases z9 with rfl | z9
          · simp only [Sm.nests]; omega
          · omega
        · simp only [Sm.pl]
        · simp only [Sm.wt]
        · simp only [Sm.hv]; omega
        · simp only [Sm.cp]; omega
      · walk_at "go"
        intro v7 s7 H7 m7 l7 t7 o7 n7 p7 hv7 ln7 lp7 lw7 lh7 lc7 ml7 mu7 g7 k7
        refine q v7 (some s7) H7 m7 l7 t7 ?_ (fun z => nomatch z) ln7 (by omega) (by omega) g7 (k6.trans k7)
        rintro s ⟨⟩
        have tk7 : Took t 0 0 s7.hv 0 l6 l7 := ⟨by rw [lp7]; simp, by rw [lw7]; simp, hv7, by rw [lc7]; simp⟩
        have e1 : s7.pl = 1 := by cases s7 <;> first | rfl | exact absurd p7 id
        have e2 : s7.wt = 1 := by cases s7 <;> first | rfl | exact absurd p7 id
        have e3 : s7.cp = 0 := by cases s7 <;> first | rfl | exact absurd p7 id
        have e4 : s7.nest = 0 := by cases s7 <;> first | rfl | exact absurd p7 id
        exact ⟨o7, n7, by rw [e4]; simp; omega, (took6.add tk7).of e1.symm e2.symm (by omega) e3.symm⟩
end
end EH
namespace EH
open PySem L2
local macro_rules | `(tactic| walk_at "sd") => `(tactic| first | assumption | ((with_reducible show (_ : Int) ≤ _); omega) | ((with_reducible show (_ : Int) < _); omega) | rfl | exact SqL.of (by assumption) | exact SqT.of (by assumption) | exact atI_nat (j := 0) rfl | exact atI_nat (j := 1) rfl | exact atI_nat (j := 2) rfl | exact atI_nat (j := 3) rfl | exact sz_lit rfl | exact lt_lit rfl | exact pos_lit rfl | exact le_lit rfl | exact Or.inl (SqL.of (by assumption)) | exact ⟨_, SqL.of (by assumption)⟩ | exact ⟨_, SqT.of (by assumption)⟩ | exact Or.inr (SqT.of (by assumption)) | exact ClsV.ty _ | exact TyX.base (TyOf.int _) | exact TyX.base (TyOf.str _) | exact TyX.base (TyOf.tup (by assumption)) | exact kit_ty isi_ss | exact kit_ty isi_is | exact kit_ty isi_ts | exact kit_ty isi_si | exact kit_ty isi_ii | exact kit_ty isi_ti | exact kit_ty isi_st | exact kit_ty isi_it | exact kit_ty isi_tt | exact Or.inl ⟨_, Or.inl (by assumption)⟩ | exact DGet.k (k := Sum.inr _) (by assumption) | exact DGet.k (k := Sum.inl _) (by assumption) | (refine cpow_of ?_; decide) | (refine cmul_of ?_; decide) | (show (_ : Int) ≠ 0; first | decide | omega) | (refine cdivn_of ?_; decide) | exact Or.inl ⟨rfl, _, SqL.of (by assumption)⟩ | omega)
local macro_rules | `(tactic| walk_at "st") => `(tactic| first | (apply Exists.intro) | (refine And.intro ?_ ?_; focus (walk_at "sd")) | (apply Or.inl; apply Exists.intro; refine And.intro ?_ ?_; focus rfl) | (apply Or.inr; apply Exists.intro; refine And.intro ?_ ?_; focus rfl))
local macro_rules | `(tactic| walk_at "go") => `(tactic| repeat (walk_at "st"))
section
variable {P : Program} {w : World} {K : PySem.W.Frag} {mg : Str → Option Value} {base : Heap}
theorem ok_l_block0 (T : Top K mg) {n : Nat} : FnOk P w K mg base CX0 (n + 2) T.l_block.f T.l_block.fd ["_law_deck_here", "_law_names_here", "_law_left", "_law_times", "_law_depth"] (spBlock 0) := by
  have G_l_draw : FnOk P w K mg base CX0 1 T.l_draw.f T.l_draw.fd ["_law_deck_here", "_law_many"] spDraw := ok_l_draw T
  have G_l_row : FnOk P w K mg base CX0 0 T.l_row.f T.l_row.fd ["_law_deck_here", "_law_names_here", "_law_left", "_law_times", "_law_depth"] (fun _ _ _ _ => False) := fn_no (fun _ _ _ _ h => h)
  refine T.l_block.F.ok sc_l_block (fun vs H Q E h => ?_) (fun cdv A outer s H vs Q E hr h => ?_)
  · obtain ⟨a, c, nm, lf, m, t, depth, names, l, rfl, _⟩ := h
    rfl
  obtain ⟨a, c, nm, lf, m, t, depth, names, l, rfl, g, hm, ln, ht, hd, hd0, q⟩ := h
  have hu64 := hr.units
  refine ⟨_, (pss_cons (ps_if (pt_cmpR op_gt (pv 4) pe_int (nomark _)) (pss_one (ps_ret (pe_tupA pa_nil))) pss_nil)
      (pss_cons (ps_par (i := 5) (j := 6) (by rfl) sc_l_block.nd rfl rfl (by decide) rfl rfl (pa_cons (pe_op op_add (pe_call G_l_draw (hr.mono (by omega)) (by rfl) T.l_draw.g T.l_draw.F.kp T.l_draw.b .nil pass0 (pa_cons (pv 0) (pa_cons pe_int pa_nil))) (pe_callTy (T := "int") call_int1 (by rfl) T.int (by decide +kernel) (pa_cons (pe_cmpR op_eq (pv 4) pe_int (nomark _)) pa_nil))) (pa_cons (pe_lstA pa_nil) pa_nil)) (by rfl))
      (pss_cons (ps_forA (ps_for PassesOwn.never rfl (pi_range1 (by rfl) T.range (pa_cons (pv 5) pa_nil)) (pg_name (i := 7) sc_l_block.nd rfl (.inl rfl)) (pss_one (ps_expr (pe_bmK (K := K) rfl PySem.F.plainAttrs_list PySem.F.slot_list_append PySem.F.type_list_append mt_appendA (pv 6) (pa_cons (pe_call G_l_row (hr.mono (by omega)) (by rfl) T.l_row.g T.l_row.F.kp T.l_row.b .nil pass0 (pa_cons (pv 0) (pa_cons (pv 1) (pa_cons (pv 2) (pa_cons (pv 3) (pa_cons (pv 4) pa_nil)))))) pa_nil))))))
      (pss_one (ps_ret (pe_callTy (T := "tuple") (call_tupleK (K := K) rfl) (by rfl) T.tuple (by decide +kernel) (pa_cons (pe_lc (own := [("_law_row_here", 8)]) (by rfl) sc_l_block.nd (pi_listK (K := K) rfl (pv 6)) (blkOk_by (N := ["_law_deck_here", "_law_names_here", "_law_left", "_law_times", "_law_depth", "_law_many", "_law_rows", "_law_k", "_law_row_here"]) (sc := defScope s_l_block) (own := [("_law_row_here", 8)]) (by decide +kernel)) (fun _ _ _ _ _ => (pg_name (i := 8) sc_l_block.nd rfl (.inl rfl))) (fun _ _ _ _ _ => (pts_one (pt_cmpR (op_neT hu64) (pv 8) (pe_tupA pa_nil) (nomark _)))) (fun _ _ _ _ _ => (pv 8))) pa_nil))))))), ?_⟩
  walk_at "go"
  have hd4 : (decide (3 < depth)) = true := decide_eq_true (by omega)
  rw [hd4]
  refine iteT ?_
  walk_at "go"
  intro r H1 hr1 e1
  have k1 := new_kp hr1 e1
  exact q _ [] H1 m l (mk_tup (new_at e1) (by simp only [Sm.ds]; exact trs_nil)) BOk.nil ln (Int.le_refl _) (by simp only [costB]; omega) (g.kp0 k1) (k1.sub (by simp))
theorem ok_l_block1 (T : Top K mg) {k : Nat} (G_l_row : FnOk P w K mg base CX0 (2 * k + 8) T.l_row.f T.l_row.fd ["_law_deck_here", "_law_names_here", "_law_left", "_law_times", "_law_depth"] (spRow k)) :
    FnOk P w K mg base CX0 (2 * k + 9) T.l_block.f T.l_block.fd ["_law_deck_here", "_law_names_here", "_law_left", "_law_times", "_law_depth"] (spBlock (k + 1)) := by
  have G_l_draw : FnOk P w K mg base CX0 1 T.l_draw.f T.l_draw.fd ["_law_deck_here", "_law_many"] spDraw := ok_l_draw T
  refine T.l_block.F.ok sc_l_block (fun vs H Q E h => ?_) (fun cdv A outer s H vs Q E hr h => ?_)
  · obtain ⟨a, c, nm, lf, m, t, depth, names, l, rfl, _⟩ := h
    rfl
  obtain ⟨a, c, nm, lf, m, t, depth, names, l, rfl, g, hm, ln, ht, hd, hd0, q⟩ := h
  have hu64 := hr.units
  refine ⟨_, (pss_cons (ps_if (pt_cmpR op_gt (pv 4) pe_int (nomark _)) (pss_one (ps_ret (pe_tupA pa_nil))) pss_nil)
      (pss_cons (ps_par (i := 5) (j := 6) (by rfl) sc_l_block.nd rfl rfl (by decide) rfl rfl (pa_cons (pe_op op_add (pe_call G_l_draw (hr.mono (by omega)) (by rfl) T.l_draw.g T.l_draw.F.kp T.l_draw.b .nil pass0 (pa_cons (pv 0) (pa_cons pe_int pa_nil))) (pe_callTy (T := "int") call_int1 (by rfl) T.int (by decide +kernel) (pa_cons (pe_cmpR op_eq (pv 4) pe_int (nomark _)) pa_nil))) (pa_cons (pe_lstA pa_nil) pa_nil)) (by rfl))
      (pss_cons (ps_forA (ps_for PassesOwn.never rfl (pi_range1 (by rfl) T.range (pa_cons (pv 5) pa_nil)) (pg_name (i := 7) sc_l_block.nd rfl (.inl rfl)) (pss_one (ps_expr (pe_bmK (K := K) rfl PySem.F.plainAttrs_list PySem.F.slot_list_append PySem.F.type_list_append mt_appendA (pv 6) (pa_cons (pe_call G_l_row (hr.mono (by omega)) (by rfl) T.l_row.g T.l_row.F.kp T.l_row.b .nil pass0 (pa_cons (pv 0) (pa_cons (pv 1) (pa_cons (pv 2) (pa_cons (pv 3) (pa_cons (pv 4) pa_nil)))))) pa_nil))))))
      (pss_one (ps_ret (pe_callTy (T := "tuple") (call_tupleK (K := K) rfl) (by rfl) T.tuple (by decide +kernel) (pa_cons (pe_lc (own := [("_law_row_here", 8)]) (by rfl) sc_l_block.nd (pi_listK (K := K) rfl (pv 6)) (blkOk_by (N := ["_law_deck_here", "_law_names_here", "_law_left", "_law_times", "_law_depth", "_law_many", "_law_rows", "_law_k", "_law_row_here"]) (sc := defScope s_l_block) (own := [("_law_row_here", 8)]) (by decide +kernel)) (fun _ _ _ _ _ => (pg_name (i := 8) sc_l_block.nd rfl (.inl rfl))) (fun _ _ _ _ _ => (pts_one (pt_cmpR (op_neT hu64) (pv 8) (pe_tupA pa_nil) (nomark _)))) (fun _ _ _ _ _ => (pv 8))) pa_nil))))))), ?_⟩
  have cn := costB_nn k
  have cr : costR k = 110 + 2 * costB k := rfl
  have cb : costB (k + 1) = 1 + 4 * costR k := rfl
  have dk := g.dk
  have hmM : m ≤ MANY := by show m ≤ 1000000000; omega
  have sub : ∀ b, b ∈ [a, c] → b ∈ [a, c, lf] := by
    intro b hb
    simp only [List.mem_cons, List.not_mem_nil, or_false] at hb ⊢
    rcases hb with h | h
    · exact .inl h
    · exact .inr (.inl h)
  walk_at "go"
  have hd4 : (decide (3 < depth)) = false := decide_eq_false (by omega)
  rw [hd4]
  refine iteF ?_
  walk_at "go"
  intro r H1 r0 r1 D1 k1
  have g1 := g.drawn D1 k1
  walk_at "go"
  intro rl H2 hl e2
  have k2 := new_kp hl e2
  have a2 := new_at e2
  have g2 := g1.kp0 k2
  have kH2 := (k1.sub sub).step0 k2
  have offl : rl ∉ [a, c, lf] := by
    have o1 := D1.off hl
    have o2 := ne_of_none g1.lft hl
    simp only [List.mem_cons, List.not_mem_nil, or_false, not_or] at o1 ⊢
    exact ⟨o1.1, o1.2, fun z => o2 z.symm⟩
  generalize hz : (if decide (V.int depth = V.int 0) = true then (1 : Int) else 0) = z
  have hz2 : 0 ≤ z ∧ z ≤ 1 := by
    rw [← hz]
    split <;> omega
  clear hz
  walk_at "go"
  refine ⟨for_range (lo := 0) (n := (r + z).toNat) (fun i σ H3 => Lp (∃ (w7 : Option V) (vs : List V) (os : List (Option Sm)) (m3 : Int) (l3 : Lf), σ = [some (.ref a), some (.ref nm), some (.ref lf), some (.int t), some (.int depth), some (.int (r + z)), some (.ref rl), w7, none] ∧ H3 rl = some (.lst vs) ∧ TrAll H3 (os.map rD) vs ∧ os.length = i ∧ (∀ o ∈ os, SeqAt.shaped (rD o) = true) ∧ BOk names t depth l l3 (smsOf os) ∧ l3.nn ∧ m + 1 ≤ m3 ∧ m3 ≤ m + 1 + (i : Int) * costR k ∧ Gs H3 a c nm lf m3 names l3 ∧ Kp [a, c, lf] H H3)) ⟨_, [], [], m + 1, l, rfl, a2, trs_nil, rfl, (fun o h => nomatch h), BOk.nil, ln, by omega, by simp, g2, kH2⟩ ?_ ?_⟩
  · rintro i σ H3 hi ⟨⟨w7, vs, os, m3, l3, rfl, a3, t3, lo3, sh3, bo3, ln3, ml3, mu3, g3, k3⟩⟩
    have hi4 : i < 4 := by omega
    have ci : m3 + costR k ≤ m + 1 + ((i + 1 : Nat) : Int) * costR k := by
      rw [Int.natCast_add, Int.add_mul]
      omega
    have c4 : ((i + 1 : Nat) : Int) * costR k ≤ 4 * costR k := Int.mul_le_mul_of_nonneg_right (by omega) (by omega)
    have hm3 : m3 + costR k ≤ 700000000 := by omega
    have hd3 : depth = 3 - (k : Int) := by omega
    walk_at "go"
    intro v4 o4 H4 m4 l4 t4 ho4 hn4 ln4 ml4 mu4 g4 k4
    have a4 := k4.keep _ _ a3 offl
    have lv : vs.length < sizeLine := by
      rw [t3.length, List.length_map]
      exact sz_lt (by omega)
    walk_at "go"
    intro H5 a5 k5
    have g5 := g1.kpF hl g4 k5
    have k35 := (k3.trans k4).step1 k5 (.inr (k1.free hl (D1.off hl)))
    refine ⟨_, _, os ++ [o4], m4, l4, rfl, a5, ?_, by rw [List.length_append, lo3]; rfl, ?_, ?_, ln4, by omega, by omega, g5, k35⟩
    · rw [List.map_append]
      exact (k5.trAll (k4.trAll t3)).append (trs_cons (k5.tr t4) trs_nil)
    · intro o ho
      rcases List.mem_append.mp ho with h | h
      · exact sh3 o h
      · cases List.mem_singleton.mp h
        exact rD_shaped hd0 ho4
    · rw [smsOf_app]
      cases o4 with
      | none =>
        cases hn4 rfl
        exact bo3.cat BOk.nil
      | some s => exact bo3.cat (BOk.one (ho4 s rfl))
  · rintro σ H3 ⟨⟨w7, vs, os, m3, l3, rfl, a3, t3, lo3, sh3, bo3, ln3, ml3, mu3, g3, k3⟩⟩
    walk_at "go"
    intro D hD
    refine lc_list (K := K) (a := rl) (xs := vs) (fun i H4 => Kp [D] H3 H4 ∧ ∃ ws, H4 D = some (.lst ws) ∧ TrAll H4 (Sm.ds (smsOf (os.take i))) ws ∧ ws.length ≤ i) ⟨(Kp.new hD).sub (by simp), [], upd_same, by simp only [List.take_zero, smsOf, Sm.ds]; exact trs_nil, Nat.le_refl _⟩ ?_ ?_ ?_
    · rintro i H4 _ ⟨k4, _⟩
      exact SqL.of (k4.keep _ _ a3 (ne1 (ne_of_none a3 hD)))
    · rintro i x H4 hx ⟨k4, ws, d4, t4, l4⟩
      have hi : i < os.length := by
        obtain ⟨h, _⟩ := List.getElem?_eq_some_iff.mp hx
        rw [t3.length, List.length_map] at h
        exact h
      have ho : os[i]? = some os[i] := List.getElem?_eq_getElem hi
      obtain ⟨v, hv, tv⟩ := t3.get (i := i) (d := rD os[i]) (by rw [List.getElem?_map, ho]; rfl)
      rw [hx] at hv
      cases hv
      have sh := sh3 os[i] (List.getElem_mem hi)
      have tk : os.take (i + 1) = os.take i ++ [os[i]] := by rw [List.take_add_one, ho]; rfl
      walk_at "go"
      intro u5 H5 hu5 e5
      have k5 := new_kp hu5 e5
      have a5 := new_at e5
      have t5 := k5.tr (k4.tr tv)
      have tn5 : Tr H5 (.tuple []) (.ref u5) := mk_tup a5 trs_nil
      refine ⟨_, _, t5, tn5, sh, shaped_nil, _, rfl, ?_⟩
      generalize os[i] = o at sh tk t5 
      cases o with
      | none =>
        have ee : (!PyData.eqv (rD none) (.tuple [])) = false := by simp [rD, PyData.eqv, PyData.eqvAll]
        rw [ee]
        refine iteF ?_
        refine ⟨k4.step0 k5, ws, k5.at d4, ?_, by omega⟩
        rw [tk, smsOf_app]
        show TrAll H5 (Sm.ds (smsOf (os.take i) ++ [])) ws
        rw [List.append_nil]
        exact k5.trAll t4
      | some s =>
        have ee : (!PyData.eqv (rD (some s)) (.tuple [])) = true := by
          show (!PyData.eqv s.d (.tuple [])) = true
          rw [Sm.ne0]
          rfl
        rw [ee]
        refine iteT ?_
        have d5 := k5.at d4
        have lw : ws.length < sizeLine := sz_lt (by omega)
        walk_at "go"
        have k6 := Kp.put (u := .lst (ws ++ [x])) d5 (fun _ y => by cases y)
        refine ⟨(k4.step0 k5).step1 k6 (.inl (by simp)), _, upd_same, ?_, by rw [List.length_append]; exact Nat.add_le_add_right l4 1⟩
        rw [tk, smsOf_app]
        show TrAll _ (Sm.ds (smsOf (os.take i) ++ [s])) _
        rw [Sm.ds_app]
        exact (k6.trAll (k5.trAll t4)).append (by simp only [Sm.ds]; exact trs_cons (k6.tr t5) trs_nil)
    · rintro H4 ⟨k4, ws, d4, t4, l4⟩
      rw [t3.length, List.length_map, List.take_length] at t4
      walk_at "go"
      intro r5 H5 hr5 a5 k5
      have c4 : ((r + z).toNat : Int) * costR k ≤ 4 * costR k := Int.mul_le_mul_of_nonneg_right (by omega) (by omega)
      refine q _ (smsOf os) H5 m3 l3 (mk_tup a5 (k5.trAll t4)) bo3 ln3 (by omega) (by omega) ((g3.kpF hD g3 k4).kp0 k5) ((k3.step1 k4 (.inr ?_)).step0 k5)
      have oD : D ∉ [a, c, lf] := by
        have o1 := g3.dk.off hD
        have o2 := ne_of_none g3.lft hD
        simp only [List.mem_cons, List.not_mem_nil, or_false, not_or] at o1 ⊢
        exact ⟨o1.1, o1.2, fun z => o2 z.symm⟩
      exact k3.free hD oD
theorem ok_l_rows (T : Top K mg) : ∀ k : Nat, FnOk P w K mg base CX0 (2 * k + 7) T.l_block.f T.l_block.fd ["_law_deck_here", "_law_names_here", "_law_left", "_law_times", "_law_depth"] (spBlock k)
  | 0 => ok_l_block0 T
  | k + 1 => ok_l_block1 T (ok_l_row T (ok_l_rows T k))
theorem ok_l_block (T : Top K mg) : FnOk P w K mg base CX0 15 T.l_block.f T.l_block.fd ["_law_deck_here", "_law_names_here", "_law_left", "_law_times", "_law_depth"] (spBlock 4) := ok_l_rows T 4
end
end EH
namespace EH
open PySem L2
local macro_rules | `(tactic| walk_at "sd") => `(tactic| first | assumption | ((with_reducible show (_ : Int) ≤ _); omega) | ((with_reducible show (_ : Int) < _); omega) | rfl | exact SqL.of (by assumption) | exact SqT.of (by assumption) | exact atI_nat (j := 0) rfl | exact atI_nat (j := 1) rfl | exact atI_nat (j := 2) rfl | exact atI_nat (j := 3) rfl | exact sz_lit rfl | exact lt_lit rfl | exact pos_lit rfl | exact le_lit rfl | exact Or.inl (SqL.of (by assumption)) | exact ⟨_, SqL.of (by assumption)⟩ | exact ⟨_, SqT.of (by assumption)⟩ | exact Or.inr (SqT.of (by assumption)) | exact ClsV.ty _ | exact TyX.base (TyOf.int _) | exact TyX.base (TyOf.str _) | exact TyX.base (TyOf.tup (by assumption)) | exact kit_ty isi_ss | exact kit_ty isi_is | exact kit_ty isi_ts | exact kit_ty isi_si | exact kit_ty isi_ii | exact kit_ty isi_ti | exact kit_ty isi_st | exact kit_ty isi_it | exact kit_ty isi_tt | exact Or.inl ⟨_, Or.inl (by assumption)⟩ | exact DGet.k (k := Sum.inr _) (by assumption) | exact DGet.k (k := Sum.inl _) (by assumption) | (refine cpow_of ?_; decide) | (refine cmul_of ?_; decide) | (show (_ : Int) ≠ 0; first | decide | omega) | (refine cdivn_of ?_; decide) | exact Or.inl ⟨rfl, _, SqL.of (by assumption)⟩ | omega)
local macro_rules | `(tactic| walk_at "st") => `(tactic| first | (apply Exists.intro) | (refine And.intro ?_ ?_; focus (walk_at "sd")) | (apply Or.inl; apply Exists.intro; refine And.intro ?_ ?_; focus rfl) | (apply Or.inr; apply Exists.intro; refine And.intro ?_ ?_; focus rfl))
local macro_rules | `(tactic| walk_at "go") => `(tactic| repeat (walk_at "st"))
section
variable {P : Program} {w : World} {K : PySem.W.Frag} {mg : Str → Option Value} {base : Heap}
theorem ok_l_number (T : Top K mg) : FnOk P w K mg base CX0 4 T.l_number.f T.l_number.fd ["_law_deck_here"] spNumber := by
  have G_l_draw : FnOk P w K mg base CX0 1 T.l_draw.f T.l_draw.fd ["_law_deck_here", "_law_many"] spDraw := ok_l_draw T
  have G_l_one : FnOk P w K mg base CX0 2 T.l_one.f T.l_one.fd ["_law_deck_here", "_law_items"] (spOne K) := ok_l_one T
  refine T.l_number.F.ok sc_l_number (fun vs H Q E h => ?_) (fun cdv A outer s H vs Q E hr h => ?_)
  · obtain ⟨a, c, m, rfl, _⟩ := h
    rfl
  obtain ⟨a, c, m, rfl, D0, hm, q⟩ := h
  have hu64 := hr.units
  refine ⟨_, (pss_cons (ps_par (i := 1) (j := 2) (by rfl) sc_l_number.nd rfl rfl (by decide) rfl rfl (pa_cons (pe_call G_l_draw (hr.mono (by omega)) (by rfl) T.l_draw.g T.l_draw.F.kp T.l_draw.b .nil pass0 (pa_cons (pv 0) (pa_cons pe_int pa_nil))) (pa_cons (pe_call G_l_one (hr.mono (by omega)) (by rfl) T.l_one.g T.l_one.F.kp T.l_one.b .nil pass0 (pa_cons (pv 0) (pa_cons (pe_lstA (pa_cons pe_int (pa_cons (pe_un un_neg pe_int) pa_nil))) pa_nil))) pa_nil)) (by rfl))
      (pss_cons (ps_if (pt_cmpR op_lt (pv 1) pe_int (nomark _)) (pss_one (ps_ret (pe_op op_mul (pv 2) (pe_call G_l_draw (hr.mono (by omega)) (by rfl) T.l_draw.g T.l_draw.F.kp T.l_draw.b .nil pass0 (pa_cons (pv 0) (pa_cons pe_int pa_nil)))))) pss_nil)
      (pss_cons (ps_if (pt_cmpR op_eq (pv 1) pe_int (nomark _)) (pss_one (ps_ret (pe_op op_mul (pv 2) (pe_op op_sub (pe_op op_add (pe_op op_mul (pe_op op_fdivN (pe_op op_pow pe_int pe_int) (pe_op op_pow pe_int pe_int)) (pe_call G_l_draw (hr.mono (by omega)) (by rfl) T.l_draw.g T.l_draw.F.kp T.l_draw.b .nil pass0 (pa_cons (pv 0) (pa_cons pe_int pa_nil)))) (pe_call G_l_draw (hr.mono (by omega)) (by rfl) T.l_draw.g T.l_draw.F.kp T.l_draw.b .nil pass0 (pa_cons (pv 0) (pa_cons pe_int pa_nil)))) pe_int)))) pss_nil)
      (pss_one (ps_ret (pe_op op_mul (pv 2) (pe_op op_add (pe_op op_mul (pe_op op_pow pe_int pe_int) (pe_call G_l_draw (hr.mono (by omega)) (by rfl) T.l_draw.g T.l_draw.F.kp T.l_draw.b .nil pass0 (pa_cons (pv 0) (pa_cons (pe_op op_pow pe_int pe_int) pa_nil)))) (pe_call G_l_draw (hr.mono (by omega)) (by rfl) T.l_draw.g T.l_draw.F.kp T.l_draw.b .nil pass0 (pa_cons (pv 0) (pa_cons (pe_op op_pow pe_int pe_int) pa_nil)))))))))), ?_⟩
  have hmM : m ≤ MANY := by show m ≤ 1000000000; omega
  walk_at "go"
  intro r H1 r0 r1 D1 k1
  have hmM : m + 1 ≤ MANY := by show m + 1 ≤ 1000000000; omega
  walk_at "go"
  intro l2 H2 hl2 e2
  have k2 := new_kp hl2 e2
  have a2 := new_at e2
  have D2 := D1.kp0 k2
  have off2 := D1.off hl2
  walk_at "go"
  intro x H3 hx D3 k3
  have hx2 : x ∈ ([1, -1] : List Int).map V.int := hx
  obtain ⟨i, rfl, hi⟩ := mem_ints (P := fun i => i = 1 ∨ i = -1) hx2 (by
    intro i hi
    simp only [List.mem_cons, List.not_mem_nil, or_false] at hi
    exact hi)
  have k13 := (k1.step0 k2).trans k3
  have hmM : m + 1 + 1 ≤ MANY := by show m + 1 + 1 ≤ 1000000000; omega
  walk_at "go"
  refine ite2 (fun hc => ?_) (fun hc => ?_)
  · walk_at "go"
    intro r4 H4 r40 r41 D4 k4
    refine ⟨_, _, rfl, rfl, ?_, ?_⟩
    · rcases hi with rfl | rfl <;> (refine cmul_of ?_; decide)
    · refine q _ H4 _ ?_ ?_ ?_ ?_ D4 (k13.trans k4)
      · show -1000000000000000000000000000000000000000000000000000000000000 ≤ i * r4
        rcases hi with rfl | rfl <;> omega
      · show i * r4 ≤ 1000000000000000000000000000000000000000000000000000000000000
        rcases hi with rfl | rfl <;> omega
      · omega
      · omega
  · walk_at "go"
    refine ite2 (fun hd => ?_) (fun hd => ?_)
    · walk_at "go"
      intro r4 H4 r40 r41 D4 k4
      have hmM : m + 1 + 1 + 1 ≤ MANY := by show m + 1 + 1 + 1 ≤ 1000000000; omega
      walk_at "go"
      intro r5 H5 r50 r51 D5 k5
      have e5 : ((2 : Int) ^ Int.toNat 40).fdiv (2 ^ Int.toNat 4) = 68719476736 := by decide +kernel
      walk_at "go"
      refine ⟨?_, ?_⟩
      · rcases hi with rfl | rfl <;> (refine cmul_of ?_; decide)
      · refine q _ H5 _ ?_ ?_ ?_ ?_ D5 ((k13.trans k4).trans k5)
        · show -1000000000000000000000000000000000000000000000000000000000000 ≤ i * (((2 : Int) ^ Int.toNat 40).fdiv (2 ^ Int.toNat 4) * r4 + r5 - 4)
          rw [e5]
          rcases hi with rfl | rfl <;> omega
        · show i * (((2 : Int) ^ Int.toNat 40).fdiv (2 ^ Int.toNat 4) * r4 + r5 - 4) ≤ 1000000000000000000000000000000000000000000000000000000000000
          rw [e5]
          rcases hi with rfl | rfl <;> omega
        · omega
        · omega
    · have p9 : (0 : Int) < 10 ^ Int.toNat 9 := by decide +kernel
      have q9 : ((10 : Int) ^ Int.toNat 9).natAbs < 2 ^ 1000 := by decide +kernel
      have e9 : (10 : Int) ^ Int.toNat 9 = 1000000000 := by decide +kernel
      have e50 : (10 : Int) ^ Int.toNat 50 = 100000000000000000000000000000000000000000000000000 := by decide +kernel
      walk_at "go"
      intro r4 H4 r40 r41 D4 k4
      rw [e9] at r41
      have hmM : m + 1 + 1 + 1 ≤ MANY := by show m + 1 + 1 + 1 ≤ 1000000000; omega
      have c4 : CMul (10 ^ Int.toNat 50) r4 := .inr ⟨by omega, by omega⟩
      walk_at "go"
      intro r5 H5 r50 r51 D5 k5
      rw [e9] at r51
      walk_at "go"
      refine ⟨?_, ?_⟩
      · rcases hi with rfl | rfl <;> (refine cmul_of ?_; decide)
      · refine q _ H5 _ ?_ ?_ ?_ ?_ D5 ((k13.trans k4).trans k5)
        · show -1000000000000000000000000000000000000000000000000000000000000 ≤ i * ((10 : Int) ^ Int.toNat 50 * r4 + r5)
          rw [e50]
          rcases hi with rfl | rfl <;> omega
        · show i * ((10 : Int) ^ Int.toNat 50 * r4 + r5) ≤ 1000000000000000000000000000000000000000000000000000000000000
          rw [e50]
          rcases hi with rfl | rfl <;> omega
        · omega
        · omega
end
end EH
namespace EH
open PySem L2
local macro_rules | `(tactic| walk_at "sd") => `(tactic| first | assumption | ((with_reducible show (_ : Int) ≤ _); omega) | ((with_reducible show (_ : Int) < _); omega) | rfl | exact SqL.of (by assumption) | exact SqT.of (by assumption) | exact atI_nat (j := 0) rfl | exact atI_nat (j := 1) rfl | exact atI_nat (j := 2) rfl | exact atI_nat (j := 3) rfl | exact sz_lit rfl | exact lt_lit rfl | exact pos_lit rfl | exact le_lit rfl | exact Or.inl (SqL.of (by assumption)) | exact ⟨_, SqL.of (by assumption)⟩ | exact ⟨_, SqT.of (by assumption)⟩ | exact Or.inr (SqT.of (by assumption)) | exact ClsV.ty _ | exact TyX.base (TyOf.int _) | exact TyX.base (TyOf.str _) | exact TyX.base (TyOf.tup (by assumption)) | exact kit_ty isi_ss | exact kit_ty isi_is | exact kit_ty isi_ts | exact kit_ty isi_si | exact kit_ty isi_ii | exact kit_ty isi_ti | exact kit_ty isi_st | exact kit_ty isi_it | exact kit_ty isi_tt | exact Or.inl ⟨_, Or.inl (by assumption)⟩ | exact DGet.k (k := Sum.inr _) (by assumption) | exact DGet.k (k := Sum.inl _) (by assumption) | (refine cpow_of ?_; decide) | (refine cmul_of ?_; decide) | (show (_ : Int) ≠ 0; first | decide | omega) | (refine cdivn_of ?_; decide) | exact Or.inl ⟨rfl, _, SqL.of (by assumption)⟩ | omega)
local macro_rules | `(tactic| walk_at "st") => `(tactic| first | (apply Exists.intro) | (refine And.intro ?_ ?_; focus (walk_at "sd")) | (apply Or.inl; apply Exists.intro; refine And.intro ?_ ?_; focus rfl) | (apply Or.inr; apply Exists.intro; refine And.intro ?_ ?_; focus rfl))
local macro_rules | `(tactic| walk_at "go") => `(tactic| repeat (walk_at "st"))
section
variable {P : Program} {w : World} {K : PySem.W.Frag} {mg : Str → Option Value} {base : Heap}
theorem ok_l_programN (T : Top K mg) : FnOk P w K mg base CX0 16 T.l_program.f T.l_program.fd ["_law_deck_here", "_law_names_here"] spProgramN := by
  have G_l_draw : FnOk P w K mg base CX0 1 T.l_draw.f T.l_draw.fd ["_law_deck_here", "_law_many"] spDraw := ok_l_draw T
  have G_l_block := ok_l_block (P := P) (w := w) (base := base) T
  refine T.l_program.F.ok sc_l_program (fun vs H Q E h => ?_) (fun cdv A outer s H vs Q E hr h => ?_)
  · obtain ⟨a, c, nm, m, names, rfl, _⟩ := h
    rfl
  obtain ⟨a, c, nm, m, names, rfl, D0, hm, N0, q⟩ := h
  have hu64 := hr.units
  refine ⟨_, (pss_cons (ps_par (i := 2) (j := 3) (by rfl) sc_l_program.nd rfl rfl (by decide) rfl rfl (pa_cons (pe_lstA (pa_cons pe_int (pa_cons pe_int (pa_cons pe_int (pa_cons pe_int pa_nil))))) (pa_cons (pe_tupA pa_nil) pa_nil)) (by rfl))
      (pss_cons (ps_forA (ps_for PassesOwn.never rfl (pi_range1 (by rfl) T.range (pa_cons (pe_op op_add pe_int (pe_call G_l_draw (hr.mono (by omega)) (by rfl) T.l_draw.g T.l_draw.F.kp T.l_draw.b .nil pass0 (pa_cons (pv 0) (pa_cons pe_int pa_nil)))) pa_nil)) (pg_name (i := 4) sc_l_program.nd rfl (.inl rfl)) (pss_one (ps_set (i := 3) sc_l_program.nd rfl (.inl rfl) (pe_op (op_catTK (K := K) rfl) (pv 3) (pe_call G_l_block (hr.mono (by omega)) (by rfl) T.l_block.g T.l_block.F.kp T.l_block.b .nil pass0 (pa_cons (pv 0) (pa_cons (pv 1) (pa_cons (pv 2) (pa_cons pe_int (pa_cons pe_int pa_nil)))))))))))
      (pss_cutA (ps_if (PW.pt (pw_or (pt_cmpR op_lt (pe_ix (ix_listK (K := K) rfl) (pv 2) pe_int (fun _ _ => rfl)) pe_int (nomark _)) (pw_or (pt_cmpR op_lt (pe_ix (ix_listK (K := K) rfl) (pv 2) pe_int (fun _ _ => rfl)) pe_int (nomark _)) (pw_or1 (pt_cmpR op_eq (pe_call G_l_draw (hr.mono (by omega)) (by rfl) T.l_draw.g T.l_draw.F.kp T.l_draw.b .nil pass0 (pa_cons (pv 0) (pa_cons pe_int pa_nil))) pe_int (nomark _)))))) (pss_one (ps_ret (pv 3))) pss_nil)
      (pss_one (ps_ret (pe_op (op_catTK (K := K) rfl) (pv 3) (pe_tupA (pa_cons (pe_tupA (pa_cons pe_str (pa_cons (pe_ix (ix_listK (K := K) rfl) (pv 1) (pe_un un_neg pe_int) (fun _ _ => rfl)) pa_nil))) pa_nil)))))))), ?_⟩
  have cB : costB 4 = 257985 := rfl
  walk_at "go"
  intro lf H1 hlf e1
  have k1 := new_kp hlf e1
  have a1 := new_at e1
  have D1 := D0.kp0 k1
  have N1 := N0.kp0 k1
  have oD := D0.off hlf
  have oN := ne_of_none N0.at_ hlf
  have off : lf ∉ [a, c, nm] := by
    simp only [List.mem_cons, List.not_mem_nil, or_false, not_or] at oD ⊢
    exact ⟨oD.1, oD.2, fun z => oN z.symm⟩
  have g1 : Gs H1 a c nm lf m names ⟨24, 60, 4, 3⟩ := ⟨D1, N1, a1, off⟩
  walk_at "go"
  intro u2 H2 hu2 e2
  have k2 := new_kp hu2 e2
  have a2 := new_at e2
  have g2 := g1.kp0 k2
  have D2 := g2.dk
  have hmM : m ≤ MANY := by show m ≤ 1000000000; omega
  walk_at "go"
  intro r H3 r0 r1 D3 k3
  have g3 := g2.drawn D3 k3
  have k03 : Kp [a, c] H H3 := ((k1.trans k2).sub (by simp)).trans k3
  walk_at "go"
  refine ⟨for_range (lo := 0) (n := (1 + r).toNat) (fun i σ H4 => Lp (∃ (w4 : Option V) (v : V) (b : List Sm) (m4 : Int) (l4 : Lf), σ = [some (.ref a), some (.ref nm), some (.ref lf), some v, w4] ∧ Tr H4 (.tuple (Sm.ds b)) v ∧ BOk names 1 0 ⟨24, 60, 4, 3⟩ l4 b ∧ l4.nn ∧ m + 1 ≤ m4 ∧ m4 ≤ m + 1 + (i : Int) * 257985 ∧ Gs H4 a c nm lf m4 names l4 ∧ Kp [a, c] H H4)) ⟨_, _, [], m + 1, _, rfl, mk_tup (k3.tup _ _ a2) (by simp only [Sm.ds]; exact trs_nil), BOk.nil, ⟨by decide, by decide, by decide, by decide⟩, by omega, by simp, g3, k03⟩ ?_ ?_⟩
  · rintro i σ H4 hi ⟨⟨w4, v, b, m4, l4, rfl, t4, bo4, ln4, ml4, mu4, g4, k4⟩⟩
    have hm4 : m4 + costB 4 ≤ 700000000 := by omega
    obtain ⟨p4, xs4, rfl, h4, ts4⟩ := tr_tup t4
    walk_at "go"
    intro v5 b5 H5 m5 l5 t5 bo5 ln5 ml5 mu5 g5 k5
    obtain ⟨p5, xs5, rfl, h5, ts5⟩ := tr_tup t5
    have h45 := k5.tup _ _ h4
    have ts45 := k5.trAll ts4
    have bo := bo4.cat bo5
    have pr := bo.pr ln5
    have sz : xs4.length + xs5.length ≤ sizeLine := by
      have e := Sm.ds_le (b ++ b5)
      have := pr.pl
      rw [Sm.ds_app, List.length_append] at e
      rw [ts4.length, ts5.length]
      exact sz_le (by omega)
    walk_at "go"
    intro r6 H6 a6 k6
    walk_at "go"
    refine ⟨_, _, b ++ b5, m5, l5, rfl, ?_, bo, ln5, by omega, by rw [Int.natCast_add, Int.add_mul]; omega, g5.kp0 k6, ((k4.step k5 ?_).step0 k6)⟩
    · rw [Sm.ds_app]
      exact mk_tup a6 ((k6.trAll ts45).append (k6.trAll ts5))
    · intro p hp
      simp only [List.mem_cons, List.not_mem_nil, or_false] at hp ⊢
      rcases hp with rfl | rfl | rfl
      · exact .inl (.inl rfl)
      · exact .inl (.inr rfl)
      · exact .inr hlf
  · rintro σ H4 ⟨⟨w4, v, b, m4, l4, rfl, t4, bo4, ln4, ml4, mu4, g4, k4⟩⟩
    have lf4 := g4.lft
    have D4 := g4.dk
    have pr := bo4.pr ln4
    have hm4 : m4 ≤ m + 1 + 4 * 257985 := by omega
    have hmM : m4 ≤ MANY := by show m4 ≤ 1000000000; omega
    refine ⟨⟨fun σ5 H5 => Lp (∃ m5, σ5 = [some (.ref a), some (.ref nm), some (.ref lf), some v, w4] ∧ 1 ≤ l4.p ∧ 1 ≤ l4.w ∧ m4 ≤ m5 ∧ m5 ≤ m4 + 1 ∧ Gs H5 a c nm lf m5 names l4 ∧ Kp [a, c] H4 H5), ?_, ?_⟩⟩
    · walk_at "go"
      refine ite2 (fun hc => ?_) (fun hc => ?_)
      · walk_at "go"
        exact q v b H4 m4 t4 pr bo4.inn (by omega) (by omega) D4 k4
      · walk_at "go"
        refine ite2 (fun hd => ?_) (fun hd => ?_)
        · walk_at "go"
          exact q v b H4 m4 t4 pr bo4.inn (by omega) (by omega) D4 k4
        · have hc1 : ¬ l4.p < 1 := of_decide_eq_false (Bool.eq_false_iff.mpr hc)
          have hd1 : ¬ l4.w < 1 := of_decide_eq_false (Bool.eq_false_iff.mpr hd)
          walk_at "go"
          intro r5 H5 r50 r51 D5 k5
          walk_at "go"
          refine ite2 (fun he => ?_) (fun he => ?_)
          · walk_at "go"
            exact q v b H5 _ (k5.tr t4) pr bo4.inn (by omega) (by omega) D5 (k4.trans k5)
          · exact ⟨_, rfl, by omega, by omega, by omega, by omega, g4.drawn D5 k5, k5⟩
    · rintro σ5 H5 ⟨⟨m5, rfl, hp, hw, ml5, mu5, g5, k5⟩⟩
      obtain ⟨p5, xs5, rfl, h5, ts5⟩ := tr_tup (k5.tr t4)
      have nm5 := g5.nms.at_
      obtain ⟨x, hx, hxm⟩ : ∃ x, names.getLast? = some x ∧ x ∈ names := by
        cases e : names.getLast? with
        | none =>
          have := g5.nms.len.1
          rw [List.getLast?_eq_none_iff] at e
          rw [e] at this
          exact absurd this (by decide)
        | some x => exact ⟨x, rfl, List.mem_of_getLast? e⟩
      have ax : atI (names.map V.str) (-1) = some (.str x) := at_last (by rw [List.getLast?_map, hx]; rfl)
      walk_at "go"
      intro u6 H6 hu6 e6
      have k6 := new_kp hu6 e6
      have a6 := new_at e6
      walk_at "go"
      intro u7 H7 hu7 e7
      have k7 := new_kp hu7 e7
      have a7 := new_at e7
      have h7 := k7.tup _ _ (k6.tup _ _ h5)
      have sz : xs5.length + [V.ref u6].length ≤ sizeLine := by
        have e := Sm.ds_le b
        have := pr.pl
        rw [ts5.length]
        exact sz_le (by simp only [List.length_singleton]; omega)
      walk_at "go"
      intro r8 H8 a8 k8
      have so : SOk names 1 0 l4 ⟨l4.p - 1, l4.w - 1, l4.h, l4.c⟩ (.tell (.var x)) := by
        refine ⟨?_, by simp only [Sm.inN, Ex.inN]; exact hxm, by simp only [Sm.nest]; decide, ⟨?_, ?_, ?_, ?_⟩⟩
        · simp only [Sm.ok]
          exact ⟨g5.nms.oks x hxm, by simp only [Ex.deep]; decide⟩
        · simp only [Sm.pl]
          omega
        · simp only [Sm.wt]
          omega
        · simp only [Sm.hv]
          omega
        · simp only [Sm.cp]
          omega
      have bo := bo4.cat (BOk.one so)
      refine q (.ref r8) (b ++ [.tell (.var x)]) H8 m5 ?_ (bo.pr ⟨by show 0 ≤ l4.p - 1; omega, by show 0 ≤ l4.w - 1; omega, ln4.2.2.1, ln4.2.2.2⟩) bo.inn (by omega) (by omega) (((g5.dk.kp0 k6).kp0 k7).kp0 k8) ((((k4.trans k5).step0 k6).step0 k7).step0 k8)
      rw [Sm.ds_app]
      refine mk_tup a8 ((k8.trAll (k7.trAll (k6.trAll ts5))).append ?_)
      simp only [Sm.ds, Sm.d, Ex.d]
      exact trs_cons (mk_tup (k8.tup _ _ (k7.tup _ _ a6)) (trs_cons mk_str (trs_cons mk_str trs_nil))) trs_nil
theorem ok_l_program (T : Top K mg) : FnOk P w K mg base CX0 16 T.l_program.f T.l_program.fd ["_law_deck_here", "_law_names_here"] spProgram := (ok_l_programN T).imp fun vs H Q E ⟨a, c, nm, m, names, e, h1, h2, h3, q⟩ => ⟨a, c, nm, m, names, e, h1, h2, h3, fun v b H' m' x1 x2 _ => q v b H' m' x1 x2⟩
end
end EH
namespace EH
open PySem L2
/-! ### texts -/
def rJoinA : V → List V → Hp → VK → Prop := fun x xs H Q => ∃ a p, ∃ ys : List Str, x = .str a ∧ xs = [.ref p] ∧ H p = some (.lst (ys.map V.str)) ∧ (ys.map (·.length)).sum + ys.length * a.length ≤ 16777216 ∧ Q (.str (Txt.join a ys)) H
section
variable {X : Cx}
theorem mt_joinA : MtR X "str.join" rJoinA := fun pins s σ H x xs v us Q I rx rxs ⟨a, p, ys, e1, e2, h, z, q⟩ => mt_join pins s σ H x xs v us Q I rx rxs ⟨a, p, ys, e1, e2, .inl (SqL.of h), z, q⟩
theorem pe_joinA {o e : Expr} {to te : TE} {apos pos : Pos} (ho : PE X o to) (he : PE X e te) (hs : starEach [e] X.env = [(false, eval e X.env)] := by rfl) (hbase : attributeBase o "join" X.env (eval o X.env) = eval o X.env := by rfl) (hline : (apos.endLine == pos.line) = true := by rfl) :
    PE X (.Call (.Attribute o "join" apos) [e] [] pos) (tM1 rJoinA to te) := pe_m1 F.slot_str_join F.type_str_join mt_joinA ho he hs hbase hline
end
theorem strOk_app {a b : Str} (h1 : PyData.strOk a = true) (h2 : PyData.strOk b = true) : PyData.strOk (a ++ b) = true := by
  show (a.cps ++ b.cps).all _ = true
  rw [Array.all_append]
  rw [show a.cps.all (· < 0x110000) = true from h1, show b.cps.all (· < 0x110000) = true from h2]
  rfl
theorem strOk_of {a : Str} (h : ∀ c ∈ a.cps.toList, c < 0x110000) : PyData.strOk a = true := by
  show a.cps.all _ = true
  rw [← Array.all_toList, List.all_eq_true]
  intro c hc
  exact decide_eq_true (h c hc)
theorem app_cps (a b : Str) : (a ++ b).cps.toList = a.cps.toList ++ b.cps.toList := by
  show (a.cps ++ b.cps).toList = _
  rw [Array.toList_append]
/-- single signs, joined -/
def sgl (cs : List Nat) : List Str := cs.map fun c => ⟨#[c]⟩
theorem join_sgl0 : ∀ cs : List Nat, Str.join (Str.ofString "") (sgl cs) = ⟨cs.toArray⟩
  | [] => rfl
  | [c] => rfl
  | c :: d :: r => by
    have e : Str.join (Str.ofString "") (sgl (c :: d :: r)) = (⟨#[c]⟩ ++ Str.ofString "" ++ Str.join (Str.ofString "") (sgl (d :: r)) : Str) := rfl
    rw [e, join_sgl0 (d :: r)]
    show (⟨(#[c] ++ (Str.ofString "").cps) ++ (d :: r).toArray⟩ : Str) = _
    rw [show (Str.ofString "").cps = #[] by decide +kernel]
    simp
theorem join_sgl (cs : List Nat) : Txt.join (Str.ofString "") (sgl cs) = ⟨cs.toArray⟩ := by
  rw [TL.join_eq]
  exact join_sgl0 cs
theorem sgl_len : ∀ cs : List Nat, ((sgl cs).map (·.length)).sum = cs.length
  | [] => rfl
  | c :: r => by
    show 1 + ((sgl r).map (·.length)).sum = r.length + 1
    rw [sgl_len r]
    omega
theorem sgl_ok (cs : List Nat) (h : cs.length ≤ 1000) : ((sgl cs).map (·.length)).sum + (sgl cs).length * (Str.ofString "").length ≤ 16777216 := by
  rw [sgl_len, show (Str.ofString "").length = 0 by decide +kernel]
  omega
def letters : Str := "abcdefgijkmoqruvwxyz"
def signs : Str := letters ++ "0123456789"
def nmsOf (L R : Str) : List Str := ["n", L ++ "q" ++ R, L ++ "x" ++ R, L ++ "z" ++ R]
structure LR (L R : Str) : Prop where
  l : ∀ c ∈ L.cps.toList, c ∈ letters.cps.toList
  r : ∀ c ∈ R.cps.toList, c ∈ signs.cps.toList
  ll : L.length ≤ 8
  rl : R.length ≤ 8
def spNames : Sp := fun vs H Q _ => ∃ (a c : Addr) (m : Int), vs = [.ref a] ∧ Deck H a c m ∧ m ≤ 600000000 ∧
  ∀ (nm : Addr) (L R : Str) (H' : Hp) (m' : Int), H nm = none → LR L R → Nms H' nm a c (nmsOf L R) → m ≤ m' → m' ≤ m + 100 → Deck H' a c m' → Kp [a, c] H H' → Q (.ref nm) H'
theorem sign_ok {c : Nat} (h : c ∈ signs.cps.toList) : c < 0x110000 := by
  have : ∀ c ∈ signs.cps.toList, c < 0x110000 := by decide +kernel
  exact this c h
theorem letter_sign {c : Nat} (h : c ∈ letters.cps.toList) : c ∈ signs.cps.toList := by
  have : ∀ c ∈ letters.cps.toList, c ∈ signs.cps.toList := by decide +kernel
  exact this c h
theorem LR.oks {L R : Str} (x : LR L R) : ∀ y ∈ nmsOf L R, NmOk y := by
  have h1 : PyData.strOk L = true := strOk_of fun c hc => sign_ok (letter_sign (x.l c hc))
  have h2 : PyData.strOk R = true := strOk_of fun c hc => sign_ok (x.r c hc)
  intro y hy
  simp only [nmsOf, List.mem_cons, List.not_mem_nil, or_false] at hy
  have ln : ∀ q : Str, q.length ≤ 8 → (L ++ q ++ R).length ≤ 1000 := by
    intro q hq
    have a1 := x.ll
    have a2 := x.rl
    have e : (L ++ q ++ R).length = L.length + q.length + R.length := by
      show ((L.cps ++ q.cps) ++ R.cps).size = _
      rw [Array.size_append, Array.size_append]
      rfl
    omega
  rcases hy with rfl | rfl | rfl | rfl
  · exact ⟨by decide +kernel, by decide +kernel⟩
  · exact ⟨strOk_app (strOk_app h1 (by decide +kernel)) h2, ln _ (by decide +kernel)⟩
  · exact ⟨strOk_app (strOk_app h1 (by decide +kernel)) h2, ln _ (by decide +kernel)⟩
  · exact ⟨strOk_app (strOk_app h1 (by decide +kernel)) h2, ln _ (by decide +kernel)⟩
end EH
namespace EH
open PySem L2
local macro_rules | `(tactic| walk_at "sd") => `(tactic| first | assumption | ((with_reducible show (_ : Int) ≤ _); omega) | ((with_reducible show (_ : Int) < _); omega) | rfl | exact SqL.of (by assumption) | exact SqT.of (by assumption) | exact atI_nat (j := 0) rfl | exact atI_nat (j := 1) rfl | exact atI_nat (j := 2) rfl | exact atI_nat (j := 3) rfl | exact sz_lit rfl | exact lt_lit rfl | exact pos_lit rfl | exact le_lit rfl | exact Or.inl (SqL.of (by assumption)) | exact ⟨_, SqL.of (by assumption)⟩ | exact ⟨_, SqT.of (by assumption)⟩ | exact Or.inr (SqT.of (by assumption)) | exact ClsV.ty _ | exact TyX.base (TyOf.int _) | exact TyX.base (TyOf.str _) | exact TyX.base (TyOf.tup (by assumption)) | exact kit_ty isi_ss | exact kit_ty isi_is | exact kit_ty isi_ts | exact kit_ty isi_si | exact kit_ty isi_ii | exact kit_ty isi_ti | exact kit_ty isi_st | exact kit_ty isi_it | exact kit_ty isi_tt | exact Or.inl ⟨_, Or.inl (by assumption)⟩ | exact DGet.k (k := Sum.inr _) (by assumption) | exact DGet.k (k := Sum.inl _) (by assumption) | (refine cpow_of ?_; decide) | (refine cmul_of ?_; decide) | (show (_ : Int) ≠ 0; first | decide | omega) | (refine cdivn_of ?_; decide) | exact Or.inl ⟨rfl, _, SqL.of (by assumption)⟩ | omega)
local macro_rules | `(tactic| walk_at "st") => `(tactic| first | (apply Exists.intro) | (refine And.intro ?_ ?_; focus (walk_at "sd")) | (apply Or.inl; apply Exists.intro; refine And.intro ?_ ?_; focus rfl) | (apply Or.inr; apply Exists.intro; refine And.intro ?_ ?_; focus rfl))
local macro_rules | `(tactic| walk_at "go") => `(tactic| repeat (walk_at "st"))
section
variable {P : Program} {w : World} {K : PySem.W.Frag} {mg : Str → Option Value} {base : Heap}
theorem ok_l_names (T : Top K mg) : FnOk P w K mg base CX0 4 T.l_names.f T.l_names.fd ["_law_deck_here"] spNames := by
  have G_l_draw : FnOk P w K mg base CX0 1 T.l_draw.f T.l_draw.fd ["_law_deck_here", "_law_many"] spDraw := ok_l_draw T
  have G_l_one : FnOk P w K mg base CX0 2 T.l_one.f T.l_one.fd ["_law_deck_here", "_law_items"] (spOne K) := ok_l_one T
  have G_l_oneS : FnOk P w K mg base CX0 2 T.l_one.f T.l_one.fd ["_law_deck_here", "_law_items"] spOneS := ok_l_oneS T
  refine T.l_names.F.ok sc_l_names (fun vs H Q E h => ?_) (fun cdv A outer s H vs Q E hr h => ?_)
  · obtain ⟨a, c, m, rfl, _⟩ := h
    rfl
  obtain ⟨a, c, m, rfl, D0, hm, q⟩ := h
  have hu64 := hr.units
  refine ⟨_, (pss_cons (ps_set (i := 1) sc_l_names.nd rfl (.inr rfl) pe_str)
      (pss_cons (ps_set (i := 2) sc_l_names.nd rfl (.inr rfl) (pe_joinA pe_str (pe_lc (own := [("_law_k", 5)]) (by rfl) sc_l_names.nd (pi_range1 (by rfl) T.range (pa_cons (pe_call G_l_draw (hr.mono (by omega)) (by rfl) T.l_draw.g T.l_draw.F.kp T.l_draw.b .nil pass0 (pa_cons (pv 0) (pa_cons pe_int pa_nil))) pa_nil)) (blkOk_by (N := ["_law_deck_here", "_law_letters", "_law_left", "_law_signs", "_law_right", "_law_k"]) (sc := defScope s_l_names) (own := [("_law_k", 5)]) (by decide +kernel)) (fun _ _ _ _ _ => (pg_name (i := 5) sc_l_names.nd rfl (.inl rfl))) (fun _ _ _ _ _ => pts_nil) (fun _ _ _ _ _ => (pe_call G_l_oneS (hr.mono (by omega)) (by rfl) T.l_one.g T.l_one.F.kp T.l_one.b .nil pass0 (pa_cons (pv 0) (pa_cons (pv 1) pa_nil)))))))
      (pss_cons (ps_set (i := 3) sc_l_names.nd rfl (.inr rfl) (pe_op op_add_str (pv 1) pe_str))
      (pss_cons (ps_set (i := 4) sc_l_names.nd rfl (.inr rfl) (pe_joinA pe_str (pe_lc (own := [("_law_k", 5)]) (by rfl) sc_l_names.nd (pi_range1 (by rfl) T.range (pa_cons (pe_call G_l_draw (hr.mono (by omega)) (by rfl) T.l_draw.g T.l_draw.F.kp T.l_draw.b .nil pass0 (pa_cons (pv 0) (pa_cons pe_int pa_nil))) pa_nil)) (blkOk_by (N := ["_law_deck_here", "_law_letters", "_law_left", "_law_signs", "_law_right", "_law_k"]) (sc := defScope s_l_names) (own := [("_law_k", 5)]) (by decide +kernel)) (fun _ _ _ _ _ => (pg_name (i := 5) sc_l_names.nd rfl (.inl rfl))) (fun _ _ _ _ _ => pts_nil) (fun _ _ _ _ _ => (pe_call G_l_oneS (hr.mono (by omega)) (by rfl) T.l_one.g T.l_one.F.kp T.l_one.b .nil pass0 (pa_cons (pv 0) (pa_cons (pv 3) pa_nil)))))))
      (pss_one (ps_ret (pe_op op_catL (pe_lstA (pa_cons pe_str pa_nil)) (pe_lc (own := [("_law_k", 5)]) (by rfl) sc_l_names.nd (pi_range1 (by rfl) T.range (pa_cons pe_int pa_nil)) (blkOk_by (N := ["_law_deck_here", "_law_letters", "_law_left", "_law_signs", "_law_right", "_law_k"]) (sc := defScope s_l_names) (own := [("_law_k", 5)]) (by decide +kernel)) (fun _ _ _ _ _ => (pg_name (i := 5) sc_l_names.nd rfl (.inl rfl))) (fun _ _ _ _ _ => pts_nil) (fun _ _ _ _ _ => (pe_op op_add_str (pe_op op_add_str (pv 2) (pe_ix ix_str pe_str (pv 5) (fun _ _ => rfl))) (pv 4))))))))))), ?_⟩
  have hmM : m ≤ MANY := by show m ≤ 1000000000; omega
  have sg : (Str.ofString "abcdefgijkmoqruvwxyz").length + (Str.ofString "0123456789").length ≤ sizeLine := by decide +kernel
  obtain ⟨ll, ll2⟩ : 0 < (Str.ofString "abcdefgijkmoqruvwxyz").length ∧ (Str.ofString "abcdefgijkmoqruvwxyz").length ≤ 1000000 := by decide +kernel
  obtain ⟨sl, sl2⟩ : 0 < (Str.ofString "abcdefgijkmoqruvwxyz" ++ Str.ofString "0123456789").length ∧ (Str.ofString "abcdefgijkmoqruvwxyz" ++ Str.ofString "0123456789").length ≤ 1000000 := by decide +kernel
  walk_at "go"
  refine ⟨⟨_, rfl⟩, ?_⟩
  walk_at "go"
  intro r H1 r0 r1 DK1 k1
  walk_at "go"
  intro D1 hD1
  have oD1 := DK1.off hD1
  have ac1 : a ∉ [D1] ∧ c ∉ [D1] := by
    simp only [List.mem_cons, List.not_mem_nil, or_false, not_or] at oD1 ⊢
    exact ⟨fun z => oD1.1 z.symm, fun z => oD1.2 z.symm⟩
  refine lc_range (lo := 0) (n := Int.toNat r) (fun i X2 => Kp [a, c] H1 X2 ∧ ∃ cs : List Nat, X2 D1 = some (.lst ((sgl cs).map V.str)) ∧ (∀ i ∈ cs, i ∈ (Str.ofString "abcdefgijkmoqruvwxyz").cps.toList) ∧ cs.length = i ∧ Deck X2 a c ((m + 1) + (i : Int))) ⟨(Kp.new hD1).sub (by simp), [], upd_same, (fun _ z => nomatch z), rfl, (DK1.kp0 (Kp.new hD1)).cast (by simp)⟩ ?_ ?_
  · rintro i X2 hi ⟨kk2, cs, d2, c2, l2, DD2⟩
    have hmM : (m + 1) + (i : Int) ≤ MANY := by show (m + 1) + (i : Int) ≤ 1000000000; omega
    walk_at "go"
    intro ch X3 hch DD3 kk3
    have d3 := kk3.keep _ _ d2 oD1
    have l3 : ((sgl cs).map V.str).length < sizeLine := by
      rw [List.length_map]
      unfold sgl
      rw [List.length_map]
      exact sz_lt (by omega)
    walk_at "go"
    have kk4 := Kp.put (u := .lst ((sgl cs).map V.str ++ [.str ⟨#[ch]⟩])) d3 (fun _ y => by cases y)
    refine ⟨(kk2.trans kk3).step1 kk4 (.inr hD1), cs ++ [ch], ?_, ?_, by rw [List.length_append, l2]; rfl, ((DD3.kp kk4 ac1.1 ac1.2)).cast (by omega)⟩
    · rw [upd_same]
      unfold sgl
      rw [List.map_append, List.map_append]
      rfl
    · intro j hj
      rcases List.mem_append.mp hj with h | h
      · exact c2 j h
      · cases List.mem_singleton.mp h
        exact hch
  rintro E1 ⟨kE1, cs1, d1, c1, l1, DE1⟩
  have j1 := sgl_ok cs1 (by omega)
  refine ⟨Str.ofString "", D1, sgl cs1, rfl, rfl, d1, j1, ?_⟩
  rw [join_sgl]
  walk_at "go"
  refine ⟨⟨_, rfl⟩, ?_⟩
  have hmM : m + 1 + (r.toNat : Int) ≤ MANY := by show m + 1 + (r.toNat : Int) ≤ 1000000000; omega
  walk_at "go"
  intro q0 H3 q00 q01 D3 k3
  walk_at "go"
  intro D2 hD2
  have oD2 := D3.off hD2
  have ac2 : a ∉ [D2] ∧ c ∉ [D2] := by
    simp only [List.mem_cons, List.not_mem_nil, or_false, not_or] at oD2 ⊢
    exact ⟨fun z => oD2.1 z.symm, fun z => oD2.2 z.symm⟩
  refine lc_range (lo := 0) (n := Int.toNat q0) (fun i X2 => Kp [a, c] H3 X2 ∧ ∃ cs : List Nat, X2 D2 = some (.lst ((sgl cs).map V.str)) ∧ (∀ i ∈ cs, i ∈ (Str.ofString "abcdefgijkmoqruvwxyz" ++ Str.ofString "0123456789").cps.toList) ∧ cs.length = i ∧ Deck X2 a c ((m + 1 + (r.toNat : Int) + 1) + (i : Int))) ⟨(Kp.new hD2).sub (by simp), [], upd_same, (fun _ z => nomatch z), rfl, (D3.kp0 (Kp.new hD2)).cast (by simp)⟩ ?_ ?_
  · rintro i X2 hi ⟨kk2, cs, d2, c2, l2, DD2⟩
    have hmM : (m + 1 + (r.toNat : Int) + 1) + (i : Int) ≤ MANY := by show (m + 1 + (r.toNat : Int) + 1) + (i : Int) ≤ 1000000000; omega
    walk_at "go"
    intro ch X3 hch DD3 kk3
    have d3 := kk3.keep _ _ d2 oD2
    have l3 : ((sgl cs).map V.str).length < sizeLine := by
      rw [List.length_map]
      unfold sgl
      rw [List.length_map]
      exact sz_lt (by omega)
    walk_at "go"
    have kk4 := Kp.put (u := .lst ((sgl cs).map V.str ++ [.str ⟨#[ch]⟩])) d3 (fun _ y => by cases y)
    refine ⟨(kk2.trans kk3).step1 kk4 (.inr hD2), cs ++ [ch], ?_, ?_, by rw [List.length_append, l2]; rfl, ((DD3.kp kk4 ac2.1 ac2.2)).cast (by omega)⟩
    · rw [upd_same]
      unfold sgl
      rw [List.map_append, List.map_append]
      rfl
    · intro j hj
      rcases List.mem_append.mp hj with h | h
      · exact c2 j h
      · cases List.mem_singleton.mp h
        exact hch
  rintro E2 ⟨kE2, cs2, d2, c2, l2, DE2⟩
  have j2 := sgl_ok cs2 (by omega)
  refine ⟨Str.ofString "", D2, sgl cs2, rfl, rfl, d2, j2, ?_⟩
  rw [join_sgl]
  have x : LR ⟨cs1.toArray⟩ ⟨cs2.toArray⟩ := ⟨c1, c2, by show cs1.toArray.size ≤ 8; rw [List.size_toArray]; omega, by show cs2.toArray.size ≤ 8; rw [List.size_toArray]; omega⟩
  generalize hL : (⟨cs1.toArray⟩ : Str) = L at x
  generalize hR : (⟨cs2.toArray⟩ : Str) = R at x
  have xl := x.ll
  have xr := x.rl
  walk_at "go"
  intro u5 H5 hu5 e5
  have k5 := new_kp hu5 e5
  have a5 := new_at e5
  walk_at "go"
  intro D6 hD6
  have key : ∀ i : Nat, i < 3 → ∃ ch : Nat, atI ((Str.ofString "qxz").cps.toList) (0 + (i : Int)) = some ch ∧ (nmsOf L R).tail[i]? = some (L ++ ⟨#[ch]⟩ ++ R) := by
    intro i hi
    rcases (show i = 0 ∨ i = 1 ∨ i = 2 by omega) with rfl | rfl | rfl
    · exact ⟨113, by decide +kernel, by rw [show (⟨#[113]⟩ : Str) = "q" by decide +kernel]; rfl⟩
    · exact ⟨120, by decide +kernel, by rw [show (⟨#[120]⟩ : Str) = "x" by decide +kernel]; rfl⟩
    · exact ⟨122, by decide +kernel, by rw [show (⟨#[122]⟩ : Str) = "z" by decide +kernel]; rfl⟩
  refine lc_range (lo := 0) (n := Int.toNat 3) (fun i X2 => Kp [D6] H5 X2 ∧ X2 D6 = some (.lst (((nmsOf L R).tail.take i).map V.str))) ⟨(Kp.new hD6).sub (by simp), upd_same⟩ ?_ ?_
  · rintro i X2 hi ⟨kk2, d2⟩
    have hi3 : i < 3 := hi
    obtain ⟨ch, hat, hn⟩ := key i hi3
    have s1 : L.length + (⟨#[ch]⟩ : Str).length ≤ sizeLine := sz_le (show L.length + 1 ≤ 1000000 by omega)
    have e1 : (L ++ ⟨#[ch]⟩ : Str).length = L.length + 1 := by
      show (L.cps ++ #[ch]).size = L.cps.size + 1
      rw [Array.size_append]
      rfl
    have s2 : (L ++ ⟨#[ch]⟩ : Str).length + R.length ≤ sizeLine := sz_le (by omega)
    have l3 : (((nmsOf L R).tail.take i).map V.str).length < sizeLine := by
      rw [List.length_map, List.length_take]
      exact sz_lt (by omega)
    walk_at "go"
    have kk4 := Kp.put (u := .lst (((nmsOf L R).tail.take i).map V.str ++ [.str (L ++ ⟨#[ch]⟩ ++ R)])) d2 (fun _ y => by cases y)
    refine ⟨kk2.step1 kk4 (.inl (by simp)), ?_⟩
    rw [upd_same, List.take_add_one, hn, List.map_append]
    rfl
  · rintro X2 ⟨kk2, d2⟩
    have a5' := kk2.keep _ _ a5 (ne1 (ne_of_none a5 hD6))
    walk_at "go"
    intro nm H7 hnm a7 k7
    have kE : Kp [a, c] H E2 := ((k1.trans kE1).trans k3).trans kE2
    have k5E : Kp [a, c] H H5 := kE.step0 k5
    have oD6 := (DE2.kp0 k5).off hD6
    have ac6 : a ∉ [D6] ∧ c ∉ [D6] := by
      simp only [List.mem_cons, List.not_mem_nil, or_false, not_or] at oD6 ⊢
      exact ⟨fun z => oD6.1 z.symm, fun z => oD6.2 z.symm⟩
    have kX := k5E.step1 kk2 (.inr (k5E.free hD6 oD6))
    have DX := (DE2.kp0 k5).kp kk2 ac6.1 ac6.2
    refine q nm L R H7 _ (kX.free hnm (DX.off hnm)) x ⟨a7, DX.off hnm, ⟨by show 0 < 4; decide, by show 4 ≤ 1000; decide⟩, x.oks⟩ ?_ ?_ (DX.kp0 k7) (kX.step0 k7)
    · omega
    · omega
end
end EH
namespace EH
open PySem PySem.Spec PyProof.Rows L2 LamX
/-! ### lambdas that are made, kept, and called later -/
def LamO (f : Addr) (o : Obj) : HO := .ext fun h => h.get? f = some o
def CellO (c : Addr) (v : V) : HO := .ext fun h => ∃ u, RelV v u ∧ h.IsCell c (some u)
theorem lamO_new {P : Program} {w : World} {H : Hp} {h : Heap} {f : Addr} {o : Obj} (e : h.get? f = some o) : ObjOk P w H h f (LamO f o) := ⟨e, ⟨o, e⟩, fun h1 h2 a st => st _ a⟩
theorem cellO_new {P : Program} {w : World} {H : Hp} {h : Heap} {c : Addr} {v : V} {u : Value} (r : RelV v u) (e : h.IsCell c (some u)) : ObjOk P w H h c (CellO c v) := by
  obtain ⟨o, ho, hd⟩ := e
  exact ⟨⟨u, r, o, ho, hd⟩, ⟨o, ho⟩, fun h1 h2 ⟨u, r, o, ho, hd⟩ st => ⟨u, r, o, st _ ho, hd⟩⟩
structure LamC where
  q : Str
  params : Arguments
  body : Expr
  scope : Scope
  clo : List (Str × Addr)
  pm : Value
  c' : Addr
  ctv : Value
def LamC.obj (L : LamC) : Obj := PySem.W.kla_obj "<lambda>" L.q L.params L.body L.scope L.clo L.pm L.c' L.ctv
structure LamH (H : Hp) (f : Addr) (L : LamC) (fv : Str → Option V) : Prop where
  fn : H f = some (LamO f L.obj)
  code : H L.c' = some (CodeO L.c' L.q)
  cell : ∀ y c, L.clo.lookup y = some c → ∃ v, fv y = some v ∧ H c = some (CellO c v)
  dis : ∀ x y c, L.clo.lookup x = some c → L.clo.lookup y = some c → x = y
theorem LamH.kp {S : List Addr} {H H' : Hp} {f : Addr} {L : LamC} {fv : Str → Option V} (l : LamH H f L fv) (k : Kp S H H') : LamH H' f L fv := by
  refine ⟨k.ext _ _ l.fn, k.ext _ _ l.code, fun y c e => ?_, l.dis⟩
  obtain ⟨v, e1, e2⟩ := l.cell y c e
  exact ⟨v, e1, k.ext _ _ e2⟩
/-- a lambda's names: parameters, then captured ones -/
structure LamSc (N ps frees : List Str) (sc : Scope) : Prop where
  kind : sc.kind = .function
  co : sc.isCoroutine = false
  gen : sc.isGenerator = false
  nd : N.Nodup
  all : N = ps ++ frees
  par : ∀ x ∈ ps, sc.names.lookup x = some .local
  fre : ∀ x ∈ frees, sc.names.lookup x = some .free
  nocell : ∀ y ∈ sc.names, y.2 ≠ .cell
def lamCtx (P : Program) (w : World) (K : PySem.W.Frag) (mg : Str → Option Value) (base : Heap) (N : List Str) (L : LamC) (f : Addr) (A : Around) (outer : List Env) (s : Shared) (H : Hp) : Cx where
  prog := P
  w := w
  K := K
  mg := mg
  base := base
  A := A.deeper (PySem.W.envX L.q L.scope s.heap.objs.size f (.ref L.c') L.clo)
  N := N
  s_0 := s
  H_0 := H
  env := PySem.W.envX L.q L.scope s.heap.objs.size f (.ref L.c') L.clo
  outer := outer
  stack := PySem.W.envX L.q L.scope s.heap.objs.size f (.ref L.c') L.clo :: outer
  ex := []
  fn := fun _ => false
  calm := true
  pn := []
  xe := fun _ _ => False
def hid (cl : List Addr) (H : Hp) : Hp := fun b => if b ∈ cl then none else H b
def unhid (cl : List Addr) (H H' : Hp) : Hp := fun b => if b ∈ cl then H b else H' b
theorem hid_in {cl : List Addr} {H : Hp} {b : Addr} (h : b ∈ cl) : hid cl H b = none := if_pos h
theorem hid_out {cl : List Addr} {H : Hp} {b : Addr} (h : b ∉ cl) : hid cl H b = H b := if_neg h
theorem unhid_in {cl : List Addr} {H H' : Hp} {b : Addr} (h : b ∈ cl) : unhid cl H H' b = H b := if_pos h
theorem unhid_out {cl : List Addr} {H H' : Hp} {b : Addr} (h : b ∉ cl) : unhid cl H H' b = H' b := if_neg h
theorem mem_look {α : Type} : ∀ {l : List (Str × α)} {p : Str × α}, p ∈ l → ∃ c, l.lookup p.1 = some c
  | [], p, h => nomatch h
  | q :: r, p, h => by
    rw [List.lookup_cons]
    cases e : (p.1 == q.1) with
    | true => exact ⟨_, rfl⟩
    | false =>
      rcases List.mem_cons.mp h with rfl | h
      · simp at e
      · exact mem_look h
theorem look_mem {α : Type} : ∀ {l : List (Str × α)} {y : Str} {u : α}, (l.map (·.1)).Nodup → (y, u) ∈ l → l.lookup y = some u
  | [], y, u, _, h => nomatch h
  | q :: r, y, u, nd, h => by
    rw [List.map_cons, List.nodup_cons] at nd
    rw [List.lookup_cons]
    rcases List.mem_cons.mp h with e | h
    · subst e
      simp
    · have ne : y ≠ q.1 := fun e => nd.1 (e ▸ List.mem_map.mpr ⟨(y, u), h, rfl⟩)
      rw [show (y == q.1) = false from beq_false_of_ne ne]
      exact look_mem nd.2 h
theorem zip_rev_lookup {ps : List Str} {us : List Value} {i : Nat} {y : Str} {u : Value} (nd : ps.Nodup) (hp : ps[i]? = some y) (hu : us[i]? = some u) : (ps.zip us).reverse.lookup y = some u := by
  have hm : (y, u) ∈ ps.zip us := List.mem_of_getElem? (i := i) (by rw [List.getElem?_zip_eq_some]; exact ⟨hp, hu⟩)
  refine look_mem ?_ (List.mem_reverse.mpr hm)
  rw [List.map_reverse]
  refine (List.reverse_perm _).nodup_iff.mpr ?_
  have : (ps.zip us).map (·.1) = ps.take us.length := by
    clear hp hu hm nd
    induction ps generalizing us with
    | nil => simp
    | cons a r ih =>
      cases us with
      | nil => simp
      | cons b t => simp [ih]
  rw [this]
  exact nd.sublist (List.take_sublist _ _)
section
variable {P : Program} {w : World} {K : PySem.W.Frag} {mg : Str → Option Value} {base : Heap}
theorem lam_run {N ps frees : List Str} {k : Nat} {f : Addr} {L : LamC} {fv : Str → Option V} {A : Around} {outer : List Env} {s : Shared} {H : Hp} {us : List Value} {vs : List V} {Q : VK} {E : XK} {t : TE} (S : LamSc N ps frees L.scope)
    (hclo : ∀ p ∈ L.clo, L.clo.lookup p.1 = some p.2) (hfre : ∀ y, L.scope.names.lookup y = some .free → ∃ c, L.clo.lookup y = some c)
    (hbind : bindArgs (PySem.W.kla_fn "<lambda>" L.q L.params L.body L.scope L.clo L.pm (.ref L.c') L.ctv) ⟨us, []⟩ = pure (ps.zip us))
    (l : LamH H f L fv) (hr : Room (k + 1) A) (e0 : Env0 P w K mg base A outer s H) (r : Vals vs us) (hl : vs.length = ps.length)
    (hbody : Room k (A.deeper (PySem.W.envX L.q L.scope s.heap.objs.size f (.ref L.c') L.clo)) → PE (lamCtx P w K mg base N L f A outer s (hid (L.clo.map (·.2)) H)) L.body t)
    (ht : t (vs.map some ++ frees.map fv) (hid (L.clo.map (·.2)) H) fun v H' => Q v (unhid (L.clo.map (·.2)) H H')) :
    codeAny (model P w) A (.call (.ref f) ⟨us, []⟩) (CR CX0 outer P w H s Q E) s := by
  have lim : s.heap.NoLimit := e0.mod.nolimit.keeps fun b o e => (e0.bs b o e).1
  have of1 : s.heap.get? f = some L.obj := (e0.hok f _ l.fn).1
  obtain ⟨⟨oc, vsc, tc, hoc, hdc, hvc⟩, _, _⟩ := e0.hok L.c' _ l.code
  have ul : us.length = ps.length := r.length.symm.trans hl
  have inClo : ∀ c, c ∈ L.clo.map (·.2) → ∃ y v, L.clo.lookup y = some c ∧ fv y = some v ∧ H c = some (CellO c v) := by
    intro c hc
    obtain ⟨p, hp, rfl⟩ := List.mem_map.mp hc
    have e := hclo p hp
    obtain ⟨v, e1, e2⟩ := l.cell _ _ e
    exact ⟨p.1, v, e, e1, e2⟩
  have cloMem : ∀ y c, L.clo.lookup y = some c → c ∈ L.clo.map (·.2) := fun y c e => List.mem_map.mpr ⟨(y, c), PySem.mem_of_lookup e, rfl⟩
  have cloSome : ∀ b, H b = none → b ∉ L.clo.map (·.2) := fun b hb hm => by
    obtain ⟨y, v, _, _, e⟩ := inClo b hm
    rw [hb] at e
    cases e
  refine PySem.W.kla_callFunE hr.depth of1 rfl S.co S.gen rfl ⟨L.c', oc, vsc, tc, rfl, hoc, hdc, hvc⟩ ?_
  rw [hbind]
  refine wpAny_pure (wpAny_newFunctionEnv S.nocell (fun y hy => S.par y.1 (List.of_mem_zip hy).1) (fun h₁ hns hsb => ⟨lim.fresh _ hsb, ?_⟩) S.kind)
  show codeAny _ _ (.expr L.body (PySem.W.envX L.q L.scope s.heap.objs.size f (.ref L.c') L.clo)) _ _
  have kp : ∀ b o, s.heap.get? b = some o → h₁.get? b = some o := fun b o e => hsb.extBut b o (Nat.ne_of_lt (Heap.lt_size e)) (Heap.get?_push_of_some _ e)
  have hokI : HOk P w (hid (L.clo.map (·.2)) H) s.heap := fun b u e => by
    by_cases hb : b ∈ L.clo.map (·.2)
    · rw [hid_in hb] at e; cases e
    · rw [hid_out hb] at e
      refine (e0.hok b u e).stay (fun _ _ _ z => z) (fun d z => ?_) fun d xs z => ?_
      · rw [hid_out (fun hm => ?_)]
        · exact z
        · obtain ⟨y, v, _, _, e'⟩ := inClo d hm
          rw [z] at e'
          cases (Option.some.inj e')
      · rw [hid_out (fun hm => ?_)]
        · exact z
        · obtain ⟨y, v, _, _, e'⟩ := inClo d hm
          rw [z] at e'
          cases (Option.some.inj e')
  have noA : ∀ b : Addr, b ∉ (lamCtx P w K mg base N L f A outer s (hid (L.clo.map (·.2)) H)).ex := fun b z => absurd (show b ∈ ([] : List Addr) from z) (by simp)
  have cellI : ∀ y c, L.clo.lookup y = some c → ∃ v u, fv y = some v ∧ RelV v u ∧ h₁.IsCell c (some u) := fun y c e => by
    obtain ⟨v, e1, e2⟩ := l.cell y c e
    obtain ⟨⟨u, ru, o, ho, hd⟩, _, _⟩ := e0.hok c _ e2
    exact ⟨v, u, e1, ru, o, kp _ _ ho, hd⟩
  have J : Inv (lamCtx P w K mg base N L f A outer s (hid (L.clo.map (·.2)) H)) [] (vs.map some ++ frees.map fv) (hid (L.clo.map (·.2)) H) { s with heap := h₁, toks := s.toks + (ps.zip us).length } := by
    refine ⟨⟨e0.mod, S.kind, rfl, rfl, Nat.le_refl _, l.dis, fun y hy => ?_, fun y c z _ => ?_, fun _ => hr.hd, Around.frames_deeper e0.frames, .inr ⟨rfl, rfl⟩, fun b z => absurd z (noA b), fun b o e => ?_, e0.bsz, fun b _ _ => noA b, fun b z => absurd z (noA b), e0.funs, fun b hb => ?_⟩,
      rfl, e0.bare, Un.kept kp, ⟨_, hns, fun i y v e1 e2 e3 => ?_⟩, fun y c e => ?_, ?_, fun y c e => hid_in (cloMem y c e), fun q hq => absurd (show q ∈ ([] : List (Addr × Obj)) ++ [] from hq) (by simp), hokI.kept kp, ?_⟩
    · have hy : L.scope.names.lookup y = some .cell ∨ L.scope.names.lookup y = some .free := hy
      rcases hy with hy | hy
      · exact absurd rfl (S.nocell _ (PySem.mem_of_lookup hy))
      · exact hfre y hy
    · have z : false = true := z
      cases z
    · obtain ⟨a1, a2⟩ := e0.bs b o e
      exact ⟨a1, by rw [show (lamCtx P w K mg base N L f A outer s (hid (L.clo.map (·.2)) H)).H_0 b = hid (L.clo.map (·.2)) H b from rfl, hid_out (cloSome b a2)]; exact a2⟩
    · have a2 := e0.frf b hb
      show hid (L.clo.map (·.2)) H b = none
      rw [hid_out (cloSome b a2)]
      exact a2
    · have e1 : N[i]? = some y := e1
      by_cases hi : i < ps.length
      · have hp : ps[i]? = some y := by
          rw [S.all, List.getElem?_append_left hi] at e1
          exact e1
        have hv : vs[i]? = some v := by
          rw [List.getElem?_append_left (by rw [List.length_map]; omega), List.getElem?_map] at e2
          cases z : vs[i]? with
          | none => rw [z] at e2; cases e2
          | some a => rw [z] at e2; cases e2; rfl
        obtain ⟨u, hu, rv⟩ := r.get hv
        refine ⟨u, rv, .inl ⟨S.par y (List.mem_of_getElem? hp), ?_⟩⟩
        have ndP : ps.Nodup := (List.nodup_append.mp (S.all ▸ S.nd)).1
        show (ps.zip us).reverse.lookup y = some u
        exact zip_rev_lookup ndP hp hu
      · have hp : frees[i - ps.length]? = some y := by
          rw [S.all, List.getElem?_append_right (by omega)] at e1
          exact e1
        have hv : fv y = some v := by
          rw [List.getElem?_append_right (by rw [List.length_map]; omega), List.length_map, hl, List.getElem?_map, hp] at e2
          exact Option.some.inj e2
        have kf := S.fre y (List.mem_of_getElem? hp)
        obtain ⟨c, hc⟩ := hfre y kf
        obtain ⟨v', u, ev, ru, ic⟩ := cellI y c hc
        rw [hv] at ev
        cases ev
        exact ⟨u, ru, .inr ⟨.inr kf, c, hc, ic⟩⟩
    · obtain ⟨v, u, _, _, ic⟩ := cellI y c e
      exact ⟨_, ic⟩
    · exact hokI.fresh (Nat.le_refl _)
    · show (vs.map some ++ frees.map fv).length = N.length
      rw [S.all, List.length_append, List.length_append, List.length_map, List.length_map, hl]
  refine PySem.W.kla_codeExpr (wpAny_mono ((hbody (hr.deeper _)).run [] _ _ _ _ J ht) (fun v s' hq => ?_) fun e s' hq => (show False from hq).elim)
  obtain ⟨v', H', J', rv, q⟩ := hq
  have un : Un (frs outer) [] (hid (L.clo.map (·.2)) H) H' s.heap s'.heap := J'.base
  have nofr : ∀ b, b ∈ L.clo.map (·.2) → b ∉ frs outer := fun b hb hm => by
    obtain ⟨y, v, _, _, e⟩ := inClo b hb
    rw [e0.frf b hm] at e
    cases e
  have kindC : ∀ b u, b ∈ L.clo.map (·.2) → H b = some u → ∃ φ, u = .ext φ := fun b u hb hu => by
    obtain ⟨y, v, _, _, e⟩ := inClo b hb
    rw [hu] at e
    exact ⟨_, Option.some.inj e⟩
  have hidN : ∀ b, H b = none → hid (L.clo.map (·.2)) H b = none := fun b hb => by rw [hid_out (cloSome b hb)]; exact hb
  have up : ∀ b u, H' b = some u → b ∉ L.clo.map (·.2) := fun b u hb hm => by
    have := J'.freeC
    obtain ⟨y, v, e, _, _⟩ := inClo b hm
    have := J'.freeC y b e
    rw [this] at hb
    cases hb
  refine ⟨v', unhid (L.clo.map (·.2)) H H', J'.os, J'.bare, ⟨fun b o e n f1 f2 => un.keep b o e (hidN b n) f1 f2, fun b o e n f1 f2 => un.slot b o e (hidN b n) f1 f2, fun b o e n f2 => ?_, fun b o e f2 => un.there b o e f2, fun b xs e => ?_, fun b o u e => ?_, fun b qs e => ?_⟩, fun b u e => ?_, rv, q⟩
  · rw [unhid_out (cloSome b n)]
    exact un.free b o e (hidN b n) f2
  · have nb : b ∉ L.clo.map (·.2) := fun hm => by obtain ⟨φ, z⟩ := kindC b _ hm e; cases z
    rw [unhid_out nb]
    exact un.tups b xs (by rw [hid_out nb]; exact e)
  · have nb : b ∉ L.clo.map (·.2) := fun hm => by obtain ⟨φ, z⟩ := kindC b _ hm e; cases z
    rw [unhid_out nb]
    exact un.frzs b o u (by rw [hid_out nb]; exact e)
  · have nb : b ∉ L.clo.map (·.2) := fun hm => by obtain ⟨φ, z⟩ := kindC b _ hm e; cases z
    rw [unhid_out nb]
    exact un.tbls b qs (by rw [hid_out nb]; exact e)
  · by_cases hb : b ∈ L.clo.map (·.2)
    · rw [unhid_in hb] at e
      obtain ⟨y, v, _, _, e2⟩ := inClo b hb
      rw [e] at e2
      cases e2
      obtain ⟨⟨u, ru, o, ho, hd⟩, _, _⟩ := e0.hok b _ e
      exact cellO_new ru ⟨o, un.keep b o ho (hid_in hb) (nofr b hb) (by simp), hd⟩
    · rw [unhid_out hb] at e
      refine (J'.hok b u e).stay (fun _ _ _ z => z) (fun d z => ?_) fun d xs z => ?_
      · rw [unhid_out (up d _ z)]; exact z
      · rw [unhid_out (up d _ z)]; exact z
end
end EH
namespace EH
open PySem PySem.Spec PyProof.Rows L2 LamX
/-! ### a lambda is made and kept -/
def tLamK (Pt : Addr) (lq : Str) (params : Arguments) (body : Expr) (scope : Scope) (clo : List (Str × Addr)) : TE := fun _ H Q => TabS H Pt lq ∧
  ∀ (L : LamC) (f : Addr) (H1 : Hp), L.q = lq → L.params = params → L.body = body → L.scope = scope → L.clo = clo → TabS H1 Pt lq → Kp [Pt] H H1 → H f = none → H1 f = some (LamO f L.obj) → H1 L.c' = some (CodeO L.c' L.q) → Q (.ref f) H1
section
variable {X : Cx}
theorem pe_lam {c Pt : Addr} {params : Arguments} {body : Expr} {scope : Scope} {pos : Pos} (TB : TabB X.base X.mg c Pt) (hcode : X.env.code = .ref c) (hdef : defaultsOf params X.env = ([], []))
    (hfree : ∀ y ∈ scope.names, y.2 = .free → ∃ c, X.env.cells.lookup y.1 = some c) : PE X (.Lambda params body scope pos) (tLamK Pt (X.env.qual ++ "<lambda>") params body scope (cloFrom X.env.cells scope.names [])) := by
  refine ⟨fun pins s σ H Q I h => ?_⟩
  obtain ⟨⟨ps, hP, tr, cm⟩, h⟩ := h
  have atP : s.heap.get? Pt = some { cls := .none, data := .fields ps } := I.hok Pt _ hP
  have gl := I.mod.glob.keeps I.bk
  have cd := TB.code.keeps I.bk
  have bl := TB.bm.keeps I.bk
  refine PySem.W.kla_eval hdef ?_
  cases among : codeAmong pos ps.toList with
  | some cv =>
    obtain ⟨c', rfl, co⟩ := cm pos cv among
    refine PySem.W.kla_makeFunctionHit (mg := X.mg) (P := Pt) (closure_ok hfree) I.ok.glob gl hcode cd atP tr among bl fun ctv h' tk kp le => ?_
    have new : H h'.objs.size = none := I.hok.fresh le
    have I1 : Inv X pins σ H { s with heap := h', toks := tk } := I.kept kp
    refine ⟨.ref _, _, I1.laid (t' := tk) (fun b u e => Heap.get?_push_of_some _ e) (Nat.le_refl _) (lamO_new (Heap.get?_push_size _ rfl)), rfl, ?_⟩
    have k1 : Kp [] H (upd H h'.objs.size (LamO h'.objs.size (PySem.W.kla_obj "<lambda>" (X.env.qual ++ "<lambda>") params body scope (cloFrom X.env.cells scope.names []) ((X.mg "__name__").getD .none) c' ctv))) := Kp.new new
    refine h ⟨X.env.qual ++ "<lambda>", params, body, scope, cloFrom X.env.cells scope.names [], (X.mg "__name__").getD .none, c', ctv⟩ _ _ rfl rfl rfl rfl rfl ?_ (k1.sub (by simp)) new upd_same (k1.at co)
    exact TabS.ext ⟨ps, hP, tr, cm⟩ fun b o e => k1.at e
  | none =>
    refine PySem.W.kla_makeFunction (mg := X.mg) (P := Pt) (closure_ok hfree) I.ok.glob gl hcode cd atP tr among TB.gP bl fun c' ctv h' tk kp le lt rec tab => ?_
    obtain ⟨c2, o2, vs, t, e2, q1, q2, q3⟩ := rec
    cases e2
    have nc : H c' = none := I.hok.fresh le
    have ne : Pt ≠ c' := ne_of_none hP nc
    have I1 := inv_table (t' := tk) (q := X.env.qual ++ "<lambda>") (h' := h') I hP (fun b o hb e => kp b o hb e) tab le ⟨o2, vs, t, q1, q2, q3⟩
    have new := I1.hok.fresh (Nat.le_refl h'.objs.size)
    have newH : H h'.objs.size = none := I.hok.fresh (Nat.le_trans le (Nat.le_of_lt lt))
    refine ⟨.ref _, _, I1.laid (t' := tk) (fun b u e => Heap.get?_push_of_some _ e) (Nat.le_refl _) (lamO_new (Heap.get?_push_size _ rfl)), rfl, ?_⟩
    have ka : Kp [Pt] H (upd (upd H Pt (.tbl (ps ++ #[rawInt pos.line, rawInt pos.col, .ref c']))) c' (CodeO c' (X.env.qual ++ "<lambda>"))) := by
      refine ⟨fun b o e nb => ?_, fun b xs e => ?_, fun b φ e => ?_⟩
      · rw [upd_ne (ne_of_none e nc), upd_ne (fun z => nb (by rw [z]; simp))]
        exact e
      · rw [upd_ne (ne_of_none e nc), upd_ne (fun z => by rw [z, hP] at e; cases e)]
        exact e
      · rw [upd_ne (ne_of_none e nc), upd_ne (fun z => by rw [z, hP] at e; cases e)]
        exact e
    have atT : (upd (upd H Pt (.tbl (ps ++ #[rawInt pos.line, rawInt pos.col, .ref c']))) c' (CodeO c' (X.env.qual ++ "<lambda>"))) Pt = some (.tbl (ps ++ #[rawInt pos.line, rawInt pos.col, .ref c'])) := by
      rw [upd_ne ne, upd_same]
    have atC : (upd (upd H Pt (.tbl (ps ++ #[rawInt pos.line, rawInt pos.col, .ref c']))) c' (CodeO c' (X.env.qual ++ "<lambda>"))) c' = some (CodeO c' (X.env.qual ++ "<lambda>")) := upd_same
    generalize upd (upd H Pt (.tbl (ps ++ #[rawInt pos.line, rawInt pos.col, .ref c']))) c' (CodeO c' (X.env.qual ++ "<lambda>")) = Hm at ka atT atC new ⊢
    have kb : Kp [] Hm (upd Hm h'.objs.size (LamO h'.objs.size (PySem.W.kla_obj "<lambda>" (X.env.qual ++ "<lambda>") params body scope (cloFrom X.env.cells scope.names []) ((X.mg "__name__").getD .none) c' ctv))) := Kp.new new
    refine h ⟨X.env.qual ++ "<lambda>", params, body, scope, cloFrom X.env.cells scope.names [], (X.mg "__name__").getD .none, c', ctv⟩ _ _ rfl rfl rfl rfl rfl ?_ (ka.step0 kb) newH upd_same (kb.at atC)
    have eL : (ps ++ #[rawInt pos.line, rawInt pos.col, .ref c']).toList = ps.toList ++ [rawInt pos.line, rawInt pos.col, .ref c'] := by simp
    refine ⟨_, kb.at atT, by rw [eL]; exact PySem.TriplesOk_snoc _ _ _ _ tr, fun p' cv hcv => ?_⟩
    rw [eL] at hcv
    rcases among_app _ tr hcv with z | z
    · obtain ⟨c0, e1, e2⟩ := cm p' cv z
      refine ⟨c0, e1, kb.at ?_⟩
      exact ka.ext c0 _ e2
    · exact ⟨c', z, kb.at atC⟩
end
end EH
namespace EH
open PySem PySem.Spec PyProof.Rows L2 LamX
/-! ### a def that returns a lambda: its cells are known from then on -/
def sealH (cl : List (Str × Addr)) (fv : Str → Option V) (H : Hp) : Hp := fun b => match cl.find? (fun p => p.2 == b) with
  | some p => match fv p.1 with
    | some v => some (CellO b v)
    | none => H b
  | none => H b
theorem seal_out {cl : List (Str × Addr)} {fv : Str → Option V} {H : Hp} {b : Addr} (h : ∀ p ∈ cl, p.2 ≠ b) : sealH cl fv H b = H b := by
  unfold sealH
  rw [List.find?_eq_none.mpr fun p hp => by simpa using h p hp]
theorem seal_in {cl : List (Str × Addr)} {fv : Str → Option V} {H : Hp} {b : Addr} {y : Str} {v : V} (hin : (y, b) ∈ cl) (inj : ∀ p ∈ cl, p.2 = b → p.1 = y) (hv : fv y = some v) : sealH cl fv H b = some (CellO b v) := by
  unfold sealH
  cases e : cl.find? (fun p => p.2 == b) with
  | none =>
    have := List.find?_eq_none.mp e (y, b) hin
    simp at this
  | some p =>
    have h1 := List.mem_of_find?_eq_some e
    have h2 : p.2 = b := by simpa using List.find?_some e
    have h3 := inj p h1 h2
    simp only [h3, hv]
theorem seal_kp {S : List Addr} {cl : List (Str × Addr)} {fv : Str → Option V} {H H1 : Hp} (k : Kp S H H1) (new : ∀ p ∈ cl, H p.2 = none) : Kp S H (sealH cl fv H1) := by
  have off : ∀ b o, H b = some o → sealH cl fv H1 b = H1 b := fun b o e => seal_out fun p hp z => by
    have := new p hp
    rw [z, e] at this
    cases this
  exact ⟨fun b o e n => by rw [off b _ e]; exact k.keep b o e n, fun b xs e => by rw [off b _ e]; exact k.tup b xs e, fun b φ e => by rw [off b _ e]; exact k.ext b φ e⟩
theorem seal_ext {cl : List (Str × Addr)} {fv : Str → Option V} {H1 : Hp} (new : ∀ p ∈ cl, H1 p.2 = none) {b : Addr} {o : HO} (e : H1 b = some o) : sealH cl fv H1 b = some o := by
  rw [seal_out fun p hp z => ?_]
  · exact e
  · have := new p hp
    rw [z, e] at this
    cases this
theorem zip_lookup {ps : List Str} {vs : List V} {i : Nat} {y : Str} {v : V} (nd : ps.Nodup) (hp : ps[i]? = some y) (hv : vs[i]? = some v) : (ps.zip vs).lookup y = some v := by
  induction ps generalizing vs i with
  | nil => simp at hp
  | cons a r ih =>
    cases vs with
    | nil => simp at hv
    | cons b t =>
      rw [List.zip_cons_cons, List.lookup_cons]
      cases i with
      | zero =>
        cases hp
        cases hv
        simp
      | succ j =>
        have nd2 := List.nodup_cons.mp nd
        have hm : y ∈ r := List.mem_of_getElem? (i := j) hp
        have ne : (y == a) = false := beq_false_of_ne fun z => nd2.1 (z ▸ hm)
        rw [ne]
        exact ih nd2.2 hp hv
section
variable {P : Program} {w : World} {K : PySem.W.Frag} {mg : Str → Option Value} {base : Heap}
theorem Fun.okLam {x qual : Str} {st : Stmt} {f cc : Addr} {fd : FuncData} {N ps : List Str} {k : Nat} {sp : Sp} {e : Expr} {pos : Pos} (F : Fun K x qual st f fd) (S : FnScope N ps (defScope st)) (len : ∀ vs H Q E, sp vs H Q E → vs.length = ps.length)
    (hst : defBody st = [.Return (some e) pos]) (hcode : fd.code = .ref cc) (hcp : ∀ y, (defScope st).names.lookup y = some .cell → y ∈ ps) (hnd : ps.Nodup)
    (hkey : ∀ (n : Addr) (p : Str × Addr), p ∈ cellsFrom n (defScope st).names [] → (cellsFrom n (defScope st).names []).lookup p.1 = some p.2 ∧ (defScope st).names.lookup p.1 = some .cell)
    (body : ∀ (A : Around) (outer : List Env) (s : Shared) (H : Hp) (vs : List V) (Q : VK) (E : XK), Room k (A.deeper (envOfC qual (defScope st) s.heap.objs.size f (.ref cc))) → sp vs H Q E →
      ∃ t, PE (cxOf CX0 P w K mg base N qual (defScope st) f (.ref cc) A outer s H E) e t ∧ t (start N vs) H (fun v H1 => (∀ p ∈ cellsFrom (s.heap.objs.size + 1) (defScope st).names [], H1 p.2 = none) → Q v (sealH (cellsFrom (s.heap.objs.size + 1) (defScope st).names []) (fun y => (ps.zip vs).lookup y) H1))) : FnOk P w K mg base CX0 (k + 1) f fd ps sp := by
  refine ⟨len, fun A outer s H args us vs Q E hr e0 hb r hsp => ?_⟩
  obtain ⟨oc, od, kV, doc, pm, an, cdv, ct, osl, rfl, lk, hcd⟩ := F.ex
  obtain rfl : cdv = .ref cc := hcode
  have hl := len _ _ _ _ hsp
  have KX : K.In s.heap := e0.mod.kin.keeps fun b o e => (e0.bs b o e).1
  have lim : s.heap.NoLimit := e0.mod.nolimit.keeps fun b o e => (e0.bs b o e).1
  have kinds : ∀ y ∈ ps.zip us, (defScope st).names.lookup y.1 = some .local ∨ ((defScope st).names.lookup y.1 = some .cell ∧ ((cellsFrom (s.heap.objs.size + 1) (defScope st).names []).lookup y.1).isSome = true) := by
    rintro ⟨n, v⟩ hy
    rcases S.par n (List.of_mem_zip hy).1 with q | q
    · exact .inl q
    · exact .inr ⟨q, PySem.W.cellsFrom_some _ _ _ (.inl q)⟩
  refine codeAny_call_function hr.depth (KX _ _ lk) rfl S.co S.gen rfl (PySem.W.codeRec_of KX hcd) (hb _ _ _ _ ?_)
  refine wpAny_newFunctionEnv_cells S.kind kinds fun env he s1 y => ?_
  subst he
  refine ⟨lim.keeps y.toInCall.keep, codeAny_func ?_⟩
  obtain ⟨t, ht, hq⟩ := body A outer s H vs Q E (hr.deeper _) hsp
  have I0 : Inv (cxOf CX0 P w K mg base N qual (defScope st) f (.ref cc) A outer s H E) [] (start N vs) H s1 := inv_start S hr.hd e0 hl r y
  rw [hst]
  refine wpAny_execs_cons (wpAny_Return_some (thn (ht.run [] s1 (start N vs) H _ I0 hq) fun u s' hs => ?_))
  obtain ⟨v, H1, J, rv, q⟩ := hs
  have ge : ∀ p ∈ cellsFrom (s.heap.objs.size + 1) (defScope st).names [], s.heap.objs.size ≤ p.2 := fun p hp => J.ok.cab p.1 p.2 rfl (hkey _ p hp).1
  have inj : ∀ p ∈ cellsFrom (s.heap.objs.size + 1) (defScope st).names [], ∀ p' ∈ cellsFrom (s.heap.objs.size + 1) (defScope st).names [], p.2 = p'.2 → p.1 = p'.1 := fun p hp p' hp' e =>
    J.ok.inj p.1 p'.1 p.2 (hkey _ p hp).1 (by rw [e]; exact (hkey _ p' hp').1)
  have fr1 : ∀ p ∈ cellsFrom (s.heap.objs.size + 1) (defScope st).names [], H1 p.2 = none := fun p hp => J.freeC p.1 p.2 (hkey _ p hp).1
  have val : ∀ p ∈ cellsFrom (s.heap.objs.size + 1) (defScope st).names [], ∃ v0 u0, (ps.zip vs).lookup p.1 = some v0 ∧ RelV v0 u0 ∧ s'.heap.IsCell p.2 (some u0) := by
    intro p hp
    obtain ⟨h1, h2⟩ := hkey _ p hp
    obtain ⟨i, hi, ei⟩ := List.getElem_of_mem (hcp p.1 h2)
    have hv : i < vs.length := by omega
    have ep : ps[i]? = some p.1 := by rw [List.getElem?_eq_getElem hi, ei]
    have ev : vs[i]? = some vs[i] := List.getElem?_eq_getElem hv
    have eN : N[i]? = some p.1 := by
      have z : (N.take ps.length)[i]? = some p.1 := by rw [S.pre]; exact ep
      rw [List.getElem?_take, if_pos hi] at z
      exact z
    have es : (start N vs)[i]? = some (some vs[i]) := by
      unfold L2.start
      rw [List.getElem?_append_left (by rw [List.length_map]; exact hv), List.getElem?_map, ev]
      rfl
    obtain ⟨m, _, lk⟩ := J.loc
    obtain ⟨u0, r0, z⟩ := lk i p.1 vs[i] eN es (.inr (.inl h2))
    refine ⟨vs[i], u0, zip_lookup hnd ep ev, r0, ?_⟩
    rcases z with ⟨z, _⟩ | ⟨_, c, hc, ic⟩
    · have z' : (defScope st).names.lookup p.1 = some .local := z
      rw [h2] at z'
      cases z'
    · have hc' : (cellsFrom (s.heap.objs.size + 1) (defScope st).names []).lookup p.1 = some c := hc
      rw [h1] at hc'
      cases hc'
      exact ic
  have old : ∀ b o, s.heap.get? b = some o → sealH (cellsFrom (s.heap.objs.size + 1) (defScope st).names []) (fun y => (ps.zip vs).lookup y) H1 b = H1 b := fun b o e => seal_out fun p hp z => by
    have := ge p hp
    rw [z] at this
    exact Nat.lt_irrefl _ (Nat.lt_of_lt_of_le (Heap.lt_size e) this)
  have oldH : ∀ b u, H b = some u → sealH (cellsFrom (s.heap.objs.size + 1) (defScope st).names []) (fun y => (ps.zip vs).lookup y) H1 b = H1 b := fun b u e => seal_out fun p hp z => by
    have := ge p hp
    rw [z] at this
    exact Nat.lt_irrefl _ (Nat.lt_of_lt_of_le (e0.hok.lt e) this)
  have un : Un (frs outer) [] H H1 s.heap s'.heap := J.base
  refine ⟨v, _, J.os, J.bare, ⟨un.keep, un.slot, fun b o e n f2 => by rw [old b o e]; exact un.free b o e n f2, un.there, fun b xs e => by rw [oldH b _ e]; exact un.tups b xs e, fun b o u e => by rw [oldH b _ e]; exact un.frzs b o u e, fun b qs e => by rw [oldH b _ e]; exact un.tbls b qs e⟩, fun b u e => ?_, rv, q fr1⟩
  by_cases hb : ∃ p ∈ cellsFrom (s.heap.objs.size + 1) (defScope st).names [], p.2 = b
  · obtain ⟨p, hp, rfl⟩ := hb
    obtain ⟨v0, u0, z1, z2, z3⟩ := val p hp
    rw [seal_in (y := p.1) hp (fun p' hp' e => inj p' hp' p hp e) z1] at e
    cases e
    exact cellO_new z2 z3
  · have out : ∀ d x, H1 d = some x → sealH (cellsFrom (s.heap.objs.size + 1) (defScope st).names []) (fun y => (ps.zip vs).lookup y) H1 d = H1 d := fun d x hd => seal_out fun p hp z => by
      have := fr1 p hp
      rw [z, hd] at this
      cases this
    rw [seal_out fun p hp z => hb ⟨p, hp, z⟩] at e
    exact (J.hok b u e).stay (fun _ _ _ z => z) (fun d z => by rw [out d _ z]; exact z) fun d xs z => by rw [out d _ z]; exact z
end
end EH
namespace EH
open PySem PySem.Spec PyProof.Rows L2 LamX
/-! ### a kept lambda is called -/
structure LamOk (P : Program) (w : World) (K : PySem.W.Frag) (mg : Str → Option Value) (base : Heap) (k : Nat) (L : LamC) (fv : Str → Option V) (sp : Sp) : Prop where
  run : ∀ (A : Around) (outer : List Env) (s : Shared) (H : Hp) (f : Addr) (us : List Value) (vs : List V) (Q : VK) (E : XK), Room k A → Env0 P w K mg base A outer s H → LamH H f L fv → Vals vs us → sp vs H Q E → codeAny (model P w) A (.call (.ref f) ⟨us, []⟩) (CR CX0 outer P w H s Q E) s
def tCallLam (LS : LamC → Prop) (sp : (Str → Option V) → Sp) (tf : TE) (ta : TA) : TE := fun σ H Q => tf σ H fun y H1 => ∃ (f : Addr) (L : LamC) (fv : Str → Option V), y = .ref f ∧ LS L ∧ H1 f = some (LamO f L.obj) ∧ ta σ H1 fun vs H2 => LamH H2 f L fv ∧ sp fv vs H2 Q fun _ _ _ => False
section
variable {X : Cx}
theorem pe_callLam {k : Nat} {LS : LamC → Prop} {sp : (Str → Option V) → Sp} {fe e : Expr} {es : List Expr} {tf : TE} {t : TA} {pos : Pos} (hf : PE X fe tf) (F : ∀ L fv, LS L → LamOk X.prog X.w X.K X.mg X.base k L fv (sp fv)) (hr : Room k X.A) (hx : Passes CX0 X fun _ _ _ => False) (ha : PA X (e :: es) t)
    (ht : eval (.Call fe (e :: es) [] pos) X.env = (do callWith pos (← eval fe X.env) [] (backTo pos (starEach (e :: es) X.env)) (backToKw pos (keywordEach [] X.env))) := by rfl)
    (he : starEach (e :: es) X.env = (false, eval e X.env) :: starEach es X.env := by rfl) (hpl : (backTo pos (starEach es X.env)).any (·.1) = false := by rfl) : PE X (.Call fe (e :: es) [] pos) (tCallLam LS sp tf t) := by
  refine ⟨fun pins s σ H Q I h => ?_⟩
  refine Call_ (thn (hf.run pins s σ H _ I h) fun u s1 ⟨y, H1, I1, ry, q⟩ => ?_) ht
  obtain ⟨f, L, fv, rfl, ls, hL, q⟩ := q
  obtain rfl : u = Value.ref f := ry
  have at1 : s1.heap.get? f = some L.obj := (I1.hok f _ hL).1
  refine PySem.W.callWith_F (first := []) ⟨_, _, _, _, at1⟩ (thn (ha.run pos pins s1 σ H1 _ I1 q) fun us s2 ⟨vs, H2, I2, r, lh, q2⟩ => ?_) he hpl
  have at2 : s2.heap.get? f = some L.obj := (I2.hok f _ lh.fn).1
  refine ⟨⟨_, _, _, _, at2⟩, ?_⟩
  refine wpAny_call (codeAny_mono ((F L fv ls).run X.A X.stack s2 H2 f us vs Q _ hr I2.env0 lh r q2) fun z s' hq => ?_)
  cases z with
  | error e => exact hx pins σ H2 s2 e s' I2 hq
  | ok fl => cases fl with
    | ret u => exact I2.after hq
    | next => exact hq.elim
    | brk => exact hq.elim
    | cont => exact hq.elim
end
end EH
namespace EH
open PySem PySem.Spec PyProof.Rows L2 LamX
/-! ### a dict's display, its new heaps by letters -/
def tDispA (trs : List (TE × TE)) : TE := fun σ H Q => ∀ p H1, H p = none → H1 = upd H p (.dK []) → tPairs trs σ H1 fun ps H2 => H2 p = some (.dK []) ∧ ∃ kvs : List (Key × V), ps = kvs.map (fun kv => (kV kv.1, kv.2)) ∧ kvs.length ≤ 15 ∧ ∀ H3, H3 = upd H2 p (.dK (mergeK [] kvs)) → Q (.ref p) H3
section
variable {X : Cx}
theorem pe_dispA {pos : Pos} {keys : List (Option Expr)} {values : List Expr} {trs : List (TE × TE)} (h : PPs X pos keys values trs) (hall : keys.all (·.isSome) = true) (hl : keys.length = values.length) (h0 : keys ≠ [])
    (h15 : keys.length ≤ 15) : PE X (.Dict keys values pos) (tDispA trs) := PE.imp (pe_disp h hall hl h0 h15) fun σ H Q q => by
  intro p hp
  have q1 := q p _ hp rfl
  simp only [forall_eq] at q1
  exact q1
end
theorem put_kp {H H2 : Hp} {p : Addr} {o v : HO} (h : H p = some v) (e : H2 = upd H p o) (hv : ∀ xs, v ≠ .tup xs) (he : ∀ φ, v ≠ .ext φ := by intro φ z; cases z) : Kp [p] H H2 := by
  rw [e]
  exact Kp.put h hv he
/-! ### the law's own walk: a world of names, items, turns, and a function that chooses -/
structure Wad where
  x : Addr
  nd : Addr
  sd : Addr
  td : Addr
  f : Addr
def wkvs (a : Wad) : List (Key × V) := [(Sum.inr "names", .ref a.nd), (Sum.inr "items", .ref a.sd), (Sum.inr "turns", .ref a.td), (Sum.inr "choose", .ref a.f)]
structure WAt (CP : Hp → Addr → Prop) (ow : List Addr) (H : Hp) (a : Wad) (n : Nat) (s : Cs) : Prop where
  ob : H a.x = some (.dK (wkvs a))
  nm : ∃ kvs, H a.nd = some (.dK kvs) ∧ EnvRel kvs s.env ∧ kvs.length ≤ n + 1
  sa : H a.sd = some (.lst (s.said.map kV))
  tu : H a.td = some (.lst (s.turns.map V.int))
  ch : CP H a.f
  ls : s.said.length ≤ n
  lt : s.turns.length ≤ n
  ne1 : a.nd ≠ a.x
  ne2 : a.sd ≠ a.td
  dis : ∀ x ∈ [a.nd, a.sd, a.td], x ∉ ow
section
variable {CP : Hp → Addr → Prop} {ow : List Addr} {H H1 : Hp} {a : Wad} {n m : Nat} {s : Cs}
theorem WAt.g1 (c : WAt CP ow H a n s) : DGet H a.x (.str "names") (some (.ref a.nd)) := DGet.k (k := Sum.inr "names") c.ob
theorem WAt.g2 (c : WAt CP ow H a n s) : DGet H a.x (.str "items") (some (.ref a.sd)) := DGet.k (k := Sum.inr "items") c.ob
theorem WAt.g3 (c : WAt CP ow H a n s) : DGet H a.x (.str "turns") (some (.ref a.td)) := DGet.k (k := Sum.inr "turns") c.ob
theorem WAt.g4 (c : WAt CP ow H a n s) : DGet H a.x (.str "choose") (some (.ref a.f)) := DGet.k (k := Sum.inr "choose") c.ob
theorem WAt.mono (c : WAt CP ow H a n s) (h : n ≤ m) : WAt CP ow H a m s := by
  obtain ⟨kvs, h1, h2, h3⟩ := c.nm
  have := c.ls
  have := c.lt
  exact ⟨c.ob, ⟨kvs, h1, h2, by omega⟩, c.sa, c.tu, c.ch, by omega, by omega, c.ne1, c.ne2, c.dis⟩
theorem WAt.kp0 (kp : ∀ S H H' f, CP H f → Kp S H H' → (∀ x ∈ S, x ∉ ow) → CP H' f) (c : WAt CP ow H a n s) (k : Kp [] H H1) : WAt CP ow H1 a n s := by
  obtain ⟨kvs, h1, h2, h3⟩ := c.nm
  exact ⟨k.at c.ob, ⟨kvs, k.at h1, h2, h3⟩, k.at c.sa, k.at c.tu, kp _ _ _ _ c.ch k (fun _ z => nomatch z), c.ls, c.lt, c.ne1, c.ne2, c.dis⟩
theorem WAt.put {kvs : List (Key × V)} {x : Str} {v : Int} (kp : ∀ S H H' f, CP H f → Kp S H H' → (∀ x ∈ S, x ∉ ow) → CP H' f) (c : WAt CP ow H a n s) (hk : H a.nd = some (.dK kvs)) (he : EnvRel kvs s.env)
    (hl : kvs.length ≤ n + 1) (e : H1 = upd H a.nd (.dK (putK kvs (Sum.inr x) (.int v)))) : WAt CP ow H1 a (n + 1) { s with env := setE s.env x v } ∧ Kp [a.nd, a.sd, a.td] H H1 := by
  have k : Kp [a.nd] H H1 := by rw [e]; exact Kp.put hk (fun _ z => by cases z)
  have l2 := length_putK kvs (Sum.inr x : Key) (V.int v)
  have := c.ls
  have := c.lt
  refine ⟨⟨k.keep _ _ c.ob (EH.ne1 c.ne1.symm), ⟨_, by rw [e]; exact upd_same, he.put x v, by omega⟩, k.keep _ _ c.sa (EH.ne1 (ne_of c.sa hk (fun z => by cases z))), k.keep _ _ c.tu (EH.ne1 (ne_of c.tu hk (fun z => by cases z))),
    kp _ _ _ _ c.ch k (fun x hx => c.dis x (by cases List.mem_singleton.mp hx; simp)), by show s.said.length ≤ _; omega, by show s.turns.length ≤ _; omega, c.ne1, c.ne2, c.dis⟩, k.sub (by simp)⟩
theorem WAt.say {v : Key} (kp : ∀ S H H' f, CP H f → Kp S H H' → (∀ x ∈ S, x ∉ ow) → CP H' f) (c : WAt CP ow H a n s) (h1 : H1 a.sd = some (.lst (s.said.map kV ++ [kV v]))) (k : Kp [a.sd] H H1) :
    WAt CP ow H1 a (n + 1) { s with said := s.said ++ [v] } ∧ Kp [a.nd, a.sd, a.td] H H1 := by
  obtain ⟨kvs, g1, g2, g3⟩ := c.nm
  have := c.ls
  have := c.lt
  refine ⟨⟨k.keep _ _ c.ob (EH.ne1 (ne_of c.ob c.sa (fun z => by cases z))), ⟨kvs, k.keep _ _ g1 (EH.ne1 (ne_of g1 c.sa (fun z => by cases z))), g2, by omega⟩, by rw [h1, List.map_append]; rfl, k.keep _ _ c.tu (EH.ne1 c.ne2.symm),
    kp _ _ _ _ c.ch k (fun x hx => c.dis x (by cases List.mem_singleton.mp hx; simp)), by show (s.said ++ [v]).length ≤ _; rw [List.length_append, List.length_singleton]; omega, by show s.turns.length ≤ _; omega, c.ne1, c.ne2, c.dis⟩, k.sub (by simp)⟩
theorem WAt.turn {v : Int} (kp : ∀ S H H' f, CP H f → Kp S H H' → (∀ x ∈ S, x ∉ ow) → CP H' f) (c : WAt CP ow H a n s) (h1 : H1 a.td = some (.lst (s.turns.map V.int ++ [.int v]))) (k : Kp [a.td] H H1) :
    WAt CP ow H1 a (n + 1) { s with turns := s.turns ++ [v] } ∧ Kp [a.nd, a.sd, a.td] H H1 := by
  obtain ⟨kvs, g1, g2, g3⟩ := c.nm
  have := c.ls
  have := c.lt
  refine ⟨⟨k.keep _ _ c.ob (EH.ne1 (ne_of c.ob c.tu (fun z => by cases z))), ⟨kvs, k.keep _ _ g1 (EH.ne1 (ne_of g1 c.tu (fun z => by cases z))), g2, by omega⟩, k.keep _ _ c.sa (EH.ne1 c.ne2), by rw [h1, List.map_append]; rfl,
    kp _ _ _ _ c.ch k (fun x hx => c.dis x (by cases List.mem_singleton.mp hx; simp)), by show s.said.length ≤ _; omega, by show (s.turns ++ [v]).length ≤ _; rw [List.length_append, List.length_singleton]; omega, c.ne1, c.ne2, c.dis⟩, k.sub (by simp)⟩
end
theorem WAt.off {CP : Hp → Addr → Prop} {ow : List Addr} {H : Hp} {a : Wad} {n : Nat} {s : Cs} {l : Addr} (c : WAt CP ow H a n s) (h : H l = none) : l ∉ [a.nd, a.sd, a.td] := by
  obtain ⟨kvs, g1, _⟩ := c.nm
  simp [(ne_of_none g1 h).symm, (ne_of_none c.sa h).symm, (ne_of_none c.tu h).symm]
/-- a function that chooses, called by value, place and the number of the turn -/
structure Chooser (P : Program) (w : World) (K : PySem.W.Frag) (mg : Str → Option Value) (base : Heap) (k : Nat) (LS : LamC → Prop) (sp : (Str → Option V) → Sp) (CP : Hp → Addr → Prop) (ow : List Addr) (dec : Nat → Int → Int → Int) : Prop where
  F : ∀ L fv, LS L → LamOk P w K mg base k L fv (sp fv)
  kp : ∀ S H H' f, CP H f → Kp S H H' → (∀ x ∈ S, x ∉ ow) → CP H' f
  fr : ∀ H f, CP H f → ∀ x ∈ ow, H x ≠ none
  atF : ∀ H f, CP H f → ∃ L fv, LS L ∧ LamH H f L fv ∧ ∀ (v p : Int) (n : Nat) (Q : VK), (∀ H', Kp [] H H' → Q (.int (dec n v p)) H') → sp fv [.int v, .int p, .int n] H Q fun _ _ _ => False
def spLSize (m : Nat) : Sp := fun vs H Q _ => ∃ (v : V) (b : List Sm), vs = [v] ∧ Tr H (.tuple (Sm.ds b)) v ∧ Sm.nests b ≤ m ∧ Sm.pls b ≤ 1000000 ∧ ∀ (H' : Hp), Kp [] H H' → Q (.int (Sm.pls b : Int)) H'
def spLDo (CP : Hp → Addr → Prop) (ow : List Addr) (dec : Nat → Int → Int → Int) : Sp := fun vs H Q _ => ∃ (a : Wad) (n : Nat) (s : Cs) (v : V) (st : Sm) (p : Int), vs = [.ref a.x, v, .int p] ∧ WAt CP ow H a n s ∧ n + 2 ≤ 1000000 ∧
  Tr H st.d v ∧ st.plain ∧ (∀ c, st ≠ .stop c) ∧ st.ok ∧ ∀ H', WAt CP ow H' a (n + 2) (st.run dec noWay p s).2 → Kp [a.nd, a.sd, a.td] H H' → Q .non H'
def spLGo (CP : Hp → Addr → Prop) (ow : List Addr) (dec : Nat → Int → Int → Int) (m : Nat) : Sp := fun vs H Q _ => ∃ (a : Wad) (n : Nat) (s : Cs) (v : V) (b : List Sm) (p : Int), vs = [.ref a.x, v, .int p] ∧ WAt CP ow H a n s ∧ n + 2 * Sm.wts b ≤ 1000000 ∧
  Tr H (.tuple (Sm.ds b)) v ∧ Sm.oks b ∧ Sm.pls b ≤ 1000000 ∧ Sm.nests b ≤ m ∧ ∀ H', WAt CP ow H' a (n + 2 * Sm.wts b) (Sm.runs dec noWay b p s).2 → Kp [a.nd, a.sd, a.td] H H' → Q (wV (Sm.runs dec noWay b p s).1) H'
def spLRun (CP : Hp → Addr → Prop) (dec : Nat → Int → Int → Int) (m : Nat) : Sp := fun vs H Q _ => ∃ (v : V) (b : List Sm) (num : Int) (f : Addr), vs = [v, .int num, .ref f] ∧ Tr H (.tuple (Sm.ds b)) v ∧ CP H f ∧
  Sm.oks b ∧ Sm.wts b ≤ 100000 ∧ Sm.pls b ≤ 1000000 ∧ Sm.nests b ≤ m ∧ ∀ (t : V) (H' : Hp), Tr H' (resD (Sm.runs dec noWay b 0 (cs0 num))) t → Kp [] H H' → Q t H'
/-- the blocks of a statement by its items from the third on -/
theorem Sm.rest2 {H : Hp} {v : V} : ∀ {t : Sm}, Tr H t.d v → ¬ t.plain → ∃ u xs, v = .ref u ∧ H u = some (.tup (.str t.kw :: xs)) ∧ TrAll H (t.blks.map fun b => .tuple (Sm.ds b)) (xs.drop 1) ∧ 1 ≤ xs.length
  | .ite _ _ _, h, _ => by obtain ⟨u, x1, x2, x3, x4, rfl, h1, t1, t2, t3, t4⟩ := tr_tup4 h; cases tr_str t1; exact ⟨u, _, rfl, h1, trs_cons t3 (trs_cons t4 trs_nil), by simp⟩
  | .rep _ _, h, _ => by obtain ⟨u, x1, x2, x3, rfl, h1, t1, t2, t3⟩ := tr_tup3 h; cases tr_str t1; exact ⟨u, _, rfl, h1, trs_cons t3 trs_nil, by simp⟩
  | .set _ _, _, h => absurd trivial h
  | .half _ _, _, h => absurd trivial h
  | .tell _, _, h => absurd trivial h
  | .say _, _, h => absurd trivial h
  | .stop _, _, h => absurd trivial h
theorem Sm.plain_blks : ∀ {t : Sm}, t.plain → t.blks = []
  | .ite _ _ _, h => h.elim
  | .rep _ _, h => h.elim
  | .set _ _, _ => rfl
  | .half _ _, _ => rfl
  | .tell _, _ => rfl
  | .say _, _ => rfl
  | .stop _, _ => rfl
theorem pl_sum (t : Sm) : 1 + (t.blks.map fun b => (Sm.pls b : Int)).sum = (t.pl : Int) := by
  rw [Sm.pl_blks]
  have : ∀ l : List (List Sm), (l.map fun b => (Sm.pls b : Int)).sum = (((l.map Sm.pls).sum : Nat) : Int) := by
    intro l
    induction l with
    | nil => rfl
    | cons b r ih =>
      rw [List.map_cons, List.map_cons, List.sum_cons, List.sum_cons, ih, Int.natCast_add]
  rw [this, Int.natCast_add]
  rfl
theorem env0_rel (num : Int) : EnvRel [((Sum.inr "n" : Key), V.int num)] (env0 num) := by
  intro y
  show (valV [((Sum.inr "n" : Key), V.int num)] (Sum.inr y)).getD (.int 0) = .int (env0 num y)
  unfold env0 valV
  by_cases e : y = "n"
  · subst e
    rfl
  · rw [if_neg e, List.find?_cons_of_neg (by simp; intro z; exact e z.symm)]
    rfl
theorem cut_fr (xs : List V) (k : Nat) : cutV xs (some (k : Int)) none = xs.drop k := by
  unfold cutV
  rw [HT.sIx_nat, HT.sIx_none]
  by_cases h : k ≤ xs.length
  · rw [Nat.min_eq_left h]
    exact List.take_of_length_le (by rw [List.length_drop]; exact Nat.le_refl _)
  · rw [Nat.min_eq_right (by omega), List.drop_length, List.take_nil, List.drop_eq_nil_of_le (by omega)]
theorem cut_2 (x : V) (xs : List V) : cutV (x :: xs) (some 2) none = xs.drop 1 := cut_fr (x :: xs) 2
theorem tab_kp {S : List Addr} {H H' : Hp} {Pt : Addr} {q : Str} (t : TabS H Pt q) (k : Kp S H H') (n : Pt ∉ S) : TabS H' Pt q := by
  obtain ⟨ps, h1, h2, h3⟩ := t
  refine ⟨ps, k.keep _ _ h1 n, h2, fun pos cv hc => ?_⟩
  obtain ⟨c, e1, e2⟩ := h3 pos cv hc
  exact ⟨c, e1, k.ext _ _ e2⟩
theorem tab_off {H : Hp} {Pt a c : Addr} {q : Str} {n : Int} (t : TabS H Pt q) (d : Deck H a c n) : Pt ∉ [a, c] := by
  obtain ⟨ps, h1, _⟩ := t
  obtain ⟨xs, g1⟩ := d.a_some
  obtain ⟨ys, g2⟩ := d.c_some
  exact ne2 (ne_of h1 g1 (fun z => by cases z)) (ne_of h1 g2 (fun z => by cases z))
theorem tab_new {H : Hp} {Pt p : Addr} {q : Str} (t : TabS H Pt q) (h : H p = none) : Pt ≠ p := by
  obtain ⟨ps, h1, _⟩ := t
  exact ne_of_none h1 h
theorem Deck.kpT {H H' : Hp} {Pt a c : Addr} {q : Str} {n : Int} (d : Deck H a c n) (t : TabS H Pt q) (k : Kp [Pt] H H') : Deck H' a c n := by
  have o := tab_off t d
  simp only [List.mem_cons, List.not_mem_nil, or_false, not_or] at o
  exact d.kp k (ne1 fun z => o.1 z.symm) (ne1 fun z => o.2 z.symm)
def spLawT (Pt : Addr) (K : PySem.W.Frag) : Sp := fun vs H Q _ => ∃ (a : Addr) (ns : List Int), vs = [.ref a] ∧ SqL K H a (ns.map V.int) ∧ ns.length ≤ 63 ∧ H Pt = some (.tbl #[]) ∧ ∀ H', Q (.bl true) H'
end EH
namespace EH
open PySem L2
local macro_rules | `(tactic| walk_at "sd") => `(tactic| first | assumption | ((with_reducible show (_ : Int) ≤ _); omega) | ((with_reducible show (_ : Int) < _); omega) | rfl | exact SqL.of (by assumption) | exact SqT.of (by assumption) | exact atI_nat (j := 0) rfl | exact atI_nat (j := 1) rfl | exact atI_nat (j := 2) rfl | exact atI_nat (j := 3) rfl | exact sz_lit rfl | exact lt_lit rfl | exact pos_lit rfl | exact le_lit rfl | exact Or.inl (SqL.of (by assumption)) | exact ⟨_, SqL.of (by assumption)⟩ | exact ⟨_, SqT.of (by assumption)⟩ | exact Or.inr (SqT.of (by assumption)) | exact ClsV.ty _ | exact TyX.base (TyOf.int _) | exact TyX.base (TyOf.str _) | exact TyX.base (TyOf.tup (by assumption)) | exact kit_ty isi_ss | exact kit_ty isi_is | exact kit_ty isi_ts | exact kit_ty isi_si | exact kit_ty isi_ii | exact kit_ty isi_ti | exact kit_ty isi_st | exact kit_ty isi_it | exact kit_ty isi_tt | exact Or.inl ⟨_, Or.inl (by assumption)⟩ | exact DGet.k (k := Sum.inr _) (by assumption) | exact DGet.k (k := Sum.inl _) (by assumption) | (refine cpow_of ?_; decide) | (refine cmul_of ?_; decide) | (show (_ : Int) ≠ 0; first | decide | omega) | (refine cdivn_of ?_; decide) | exact Or.inl ⟨rfl, _, SqL.of (by assumption)⟩ | omega)
local macro_rules | `(tactic| walk_at "st") => `(tactic| first | (apply Exists.intro) | (refine And.intro ?_ ?_; focus (walk_at "sd")) | (apply Or.inl; apply Exists.intro; refine And.intro ?_ ?_; focus rfl) | (apply Or.inr; apply Exists.intro; refine And.intro ?_ ?_; focus rfl))
local macro_rules | `(tactic| walk_at "go") => `(tactic| repeat (walk_at "st"))
def lamE (st : Stmt) : Expr := match defBody st with
  | [.Return (some e) _] => e
  | _ => .Name "" ⟨0, 0, 0, 0⟩
def lamP (st : Stmt) : Pos := match defBody st with
  | [.Return (some _) p] => p
  | _ => ⟨0, 0, 0, 0⟩
def lamScope (st : Stmt) : Scope := match lamE st with
  | .Lambda _ _ sc _ => sc
  | _ => defScope st
def lamArgs (st : Stmt) : Arguments := match lamE st with
  | .Lambda a _ _ _ => a
  | _ => defArgs st
def lamBody (st : Stmt) : Expr := match lamE st with
  | .Lambda _ b _ _ => b
  | _ => .Name "" ⟨0, 0, 0, 0⟩
def lamPos (st : Stmt) : Pos := match lamE st with
  | .Lambda _ _ _ p => p
  | _ => ⟨0, 0, 0, 0⟩
theorem ch_body : defBody s_l_chooser = [.Return (some (.Lambda (lamArgs s_l_chooser) (lamBody s_l_chooser) (lamScope s_l_chooser) (lamPos s_l_chooser))) (lamP s_l_chooser)] := rfl
theorem ch_sc : LamSc ["_law_value_here", "_law_place", "_law_at", "_law_told"] ["_law_value_here", "_law_place", "_law_at"] ["_law_told"] (lamScope s_l_chooser) := ⟨rfl, rfl, rfl, by decide +kernel, rfl, by decide +kernel, by decide +kernel, by decide +kernel⟩
theorem ch_key (n : Addr) (p : Str × Addr) (h : p ∈ cellsFrom n (defScope s_l_chooser).names []) : (cellsFrom n (defScope s_l_chooser).names []).lookup p.1 = some p.2 ∧ (defScope s_l_chooser).names.lookup p.1 = some .cell := by
  have e : cellsFrom n (defScope s_l_chooser).names [] = [(("_law_told" : Str), n)] := rfl
  rw [e] at h ⊢
  cases List.mem_singleton.mp h
  exact ⟨rfl, rfl⟩
open LamX
def chQ : Str := "_law_chooser.<locals>.<lambda>"
structure IsCh (L : LamC) : Prop where
  q : L.q = chQ
  params : L.params = lamArgs s_l_chooser
  body : L.body = lamBody s_l_chooser
  scope : L.scope = lamScope s_l_chooser
  clo : ∃ c0 : Addr, L.clo = [(("_law_told" : Str), c0)]
def spCh (Pt : Addr) : Sp := fun vs H Q _ => ∃ (p : Addr), vs = [.ref p] ∧ TabS H Pt chQ ∧ ∀ (f : Addr) (L : LamC) (fv : Str → Option V) (H' : Hp), IsCh L → LamH H' f L fv → fv "_law_told" = some (.ref p) → TabS H' Pt chQ → Kp [Pt] H H' → Q (.ref f) H'
section
variable {P : Program} {w : World} {K : PySem.W.Frag} {mg : Str → Option Value} {base : Heap}
theorem ok_l_chooser (T : Top K mg) {cc Pt : Addr} (hcode : T.l_chooser.fd.code = .ref cc) (TB : TabB base mg cc Pt) : FnOk P w K mg base CX0 1 T.l_chooser.f T.l_chooser.fd ["_law_told"] (spCh Pt) := by
  refine Fun.okLam T.l_chooser.F sc_l_chooser (fun vs H Q E h => ?_) ch_body hcode (fun y hy => ?_) (by decide +kernel) ch_key (fun A outer s H vs Q E hr h => ?_)
  · obtain ⟨p, rfl, _⟩ := h
    rfl
  · have e : (defScope s_l_chooser).names = [(("_law_told" : Str), NameKind.cell)] := rfl
    rw [e] at hy
    have hm := PySem.mem_of_lookup hy
    cases List.mem_singleton.mp hm
    exact List.mem_singleton.mpr rfl
  · obtain ⟨p, rfl, tb, q⟩ := h
    refine ⟨_, pe_lam (c := cc) (Pt := Pt) TB rfl rfl (fun y hy e => ?_), ?_⟩
    · have all : ∀ y ∈ (lamScope s_l_chooser).names, y.2 = .free → y.1 = "_law_told" := by decide +kernel
      have e1 := all y hy e
      exact ⟨s.heap.objs.size + 1, by rw [e1]; rfl⟩
    · refine ⟨tb, fun L f H1 e1 e2 e3 e4 e5 tb1 k1 hf hL hc new => ?_⟩
      have ec : cellsFrom (s.heap.objs.size + 1) (defScope s_l_chooser).names [] = [(("_law_told" : Str), s.heap.objs.size + 1)] := rfl
      have e5' : L.clo = [(("_law_told" : Str), s.heap.objs.size + 1)] := e5
      rw [ec] at new ⊢
      have ke : ∀ b o, H1 b = some o → sealH [(("_law_told" : Str), s.heap.objs.size + 1)] (fun y => ([("_law_told" : Str)].zip [V.ref p]).lookup y) H1 b = some o := fun b o e => seal_ext new e
      refine q f L (fun y => ([("_law_told" : Str)].zip [V.ref p]).lookup y) _ ⟨e1, e2, e3, e4, _, e5'⟩ ⟨ke _ _ hL, ke _ _ hc, fun y c hy => ?_, fun x y c h1 h2 => ?_⟩ rfl (tb1.ext ke) ⟨fun b o e n => ke _ _ (k1.keep b o e n), fun b xs e => ke _ _ (k1.tup b xs e), fun b φ e => ke _ _ (k1.ext b φ e)⟩
      · rw [e5'] at hy
        have hm := PySem.mem_of_lookup hy
        cases List.mem_singleton.mp hm
        exact ⟨.ref p, rfl, seal_in (y := "_law_told") (List.mem_singleton.mpr rfl) (fun p' hp' _ => by cases List.mem_singleton.mp hp'; rfl) rfl⟩
      · rw [e5'] at h1 h2
        have m1 := PySem.mem_of_lookup h1
        have m2 := PySem.mem_of_lookup h2
        cases List.mem_singleton.mp m1
        cases List.mem_singleton.mp m2
        rfl
end
end EH
namespace EH
open PySem L2
local macro_rules | `(tactic| walk_at "sd") => `(tactic| first | assumption | ((with_reducible show (_ : Int) ≤ _); omega) | ((with_reducible show (_ : Int) < _); omega) | rfl | exact SqL.of (by assumption) | exact SqT.of (by assumption) | exact atI_nat (j := 0) rfl | exact atI_nat (j := 1) rfl | exact atI_nat (j := 2) rfl | exact atI_nat (j := 3) rfl | exact sz_lit rfl | exact lt_lit rfl | exact pos_lit rfl | exact le_lit rfl | exact Or.inl (SqL.of (by assumption)) | exact ⟨_, SqL.of (by assumption)⟩ | exact ⟨_, SqT.of (by assumption)⟩ | exact Or.inr (SqT.of (by assumption)) | exact ClsV.ty _ | exact TyX.base (TyOf.int _) | exact TyX.base (TyOf.str _) | exact TyX.base (TyOf.tup (by assumption)) | exact kit_ty isi_ss | exact kit_ty isi_is | exact kit_ty isi_ts | exact kit_ty isi_si | exact kit_ty isi_ii | exact kit_ty isi_ti | exact kit_ty isi_st | exact kit_ty isi_it | exact kit_ty isi_tt | exact Or.inl ⟨_, Or.inl (by assumption)⟩ | exact DGet.k (k := Sum.inr _) (by assumption) | exact DGet.k (k := Sum.inl _) (by assumption) | (refine cpow_of ?_; decide) | (refine cmul_of ?_; decide) | (show (_ : Int) ≠ 0; first | decide | omega) | (refine cdivn_of ?_; decide) | exact Or.inl ⟨rfl, _, SqL.of (by assumption)⟩ | omega)
local macro_rules | `(tactic| walk_at "st") => `(tactic| first | (apply Exists.intro) | (refine And.intro ?_ ?_; focus (walk_at "sd")) | (apply Or.inl; apply Exists.intro; refine And.intro ?_ ?_; focus rfl) | (apply Or.inr; apply Exists.intro; refine And.intro ?_ ?_; focus rfl))
local macro_rules | `(tactic| walk_at "go") => `(tactic| repeat (walk_at "st"))
section
variable {P : Program} {w : World} {K : PySem.W.Frag} {mg : Str → Option Value} {base : Heap}
theorem ok_l_value (T : Top K mg) : ∀ n : Nat, FnOk P w K mg base CX0 n T.l_value.f T.l_value.fd ["_law_expression_here", "_law_names_here"] (spValue n)
  | 0 => by
    have no : ∀ vs H Q E, ¬ spValue 0 vs H Q E := by
      rintro vs H Q E ⟨v, nd, e, kvs, env, _, _, _, _, _, h, _⟩
      have := e.deep_pos
      omega
    exact ⟨fun vs H Q E h => absurd h (no vs H Q E), fun A outer s H args us vs Q E _ _ _ _ h => absurd h (no vs H Q E)⟩
  | n + 1 => by
    have G_l_value := ok_l_value T n
    refine T.l_value.F.ok sc_l_value (fun vs H Q E h => ?_) (fun cdv A outer s H vs Q E hr h => ?_)
    · obtain ⟨v, nd, e, kvs, env, rfl, _⟩ := h
      rfl
    obtain ⟨v, nd, e, kvs, env, rfl, hT, hn, he, hok, hdp, q⟩ := h
    have hu := hu_of hr
    refine ⟨_, (pss_cons (ps_if (pt_val (pe_callB (id := "isinstance") (call_isiK (K := K) rfl) (by rfl) T.isinstance (by decide +kernel) (pa_cons (pv 0) (pa_cons (pe_bltn (v := .ty "int") (u := .type "int") (by rfl) T.int (by decide +kernel) rfl) pa_nil)))) (pss_one (ps_ret (pv 0))) pss_nil)
      (pss_cons (ps_if (pt_val (pe_callB (id := "isinstance") (call_isiK (K := K) rfl) (by rfl) T.isinstance (by decide +kernel) (pa_cons (pv 0) (pa_cons (pe_bltn (v := .ty "str") (u := .type "str") (by rfl) T.str (by decide +kernel) rfl) pa_nil)))) (pss_one (ps_ret (pe_dget2 hu (pv 1) (pv 0) pe_int ⟨by rfl, by rfl, by rfl, by rfl⟩))) pss_nil)
      (pss_cons (ps_set (i := 2) sc_l_value.nd rfl (.inl rfl) (pe_call G_l_value (hr.mono (by omega)) (by rfl) T.l_value.g T.l_value.F.kp T.l_value.b .nil pass0 (pa_cons (pe_ix (ix_tupK (K := K) rfl) (pv 0) pe_int (fun _ _ => rfl)) (pa_cons (pv 1) pa_nil))))
      (pss_cons (ps_if (pt_cmpR op_eq (pe_ix (ix_tupK (K := K) rfl) (pv 0) pe_int (fun _ _ => rfl)) pe_str (nomark _)) (pss_one (ps_ret (pe_op op_mul (pe_ix (ix_tupK (K := K) rfl) (pv 0) pe_int (fun _ _ => rfl)) (pv 2)))) pss_nil)
      (pss_cons (ps_set (i := 3) sc_l_value.nd rfl (.inl rfl) (pe_call G_l_value (hr.mono (by omega)) (by rfl) T.l_value.g T.l_value.F.kp T.l_value.b .nil pass0 (pa_cons (pe_ix (ix_tupK (K := K) rfl) (pv 0) pe_int (fun _ _ => rfl)) (pa_cons (pv 1) pa_nil))))
      (pss_one (ps_ret (pe_ifExp (pt_cmpR op_eq (pe_ix (ix_tupK (K := K) rfl) (pv 0) pe_int (fun _ _ => rfl)) pe_str (nomark _)) (pe_op op_add (pv 3) (pv 2)) (pe_op op_sub (pv 3) (pv 2)))))))))), ?_⟩
    cases e with
    | var x =>
      cases tr_str hT
      walk_at "go"
      rw [he x]
      exact q
    | num i =>
      cases tr_int hT
      walk_at "go"
      exact q
    | plus a b =>
      obtain ⟨p, x1, x2, x3, rfl, h1, t1, t2, t3⟩ := tr_tup3 hT
      cases tr_str t1
      have d2 : max a.deep b.deep + 1 ≤ n + 1 := hdp
      obtain ⟨o1, o2⟩ := (show a.ok ∧ b.ok from hok)
      walk_at "go"
      exact q
    | minus a b =>
      obtain ⟨p, x1, x2, x3, rfl, h1, t1, t2, t3⟩ := tr_tup3 hT
      cases tr_str t1
      have d2 : max a.deep b.deep + 1 ≤ n + 1 := hdp
      obtain ⟨o1, o2⟩ := (show a.ok ∧ b.ok from hok)
      walk_at "go"
      exact q
    | times k a =>
      obtain ⟨p, x1, x2, x3, rfl, h1, t1, t2, t3⟩ := tr_tup3 hT
      cases tr_str t1
      cases tr_int t2
      have d2 : a.deep + 1 ≤ n + 1 := hdp
      obtain ⟨o1, o2, o3⟩ := (show -9 ≤ k ∧ k ≤ 9 ∧ a.ok from hok)
      have o4 : CMul k (a.ev env) := .inl ⟨by omega, by omega⟩
      walk_at "go"
      exact q
theorem ok_l_true (T : Top K mg) : ∀ n : Nat, FnOk P w K mg base CX0 (n + 4) T.l_true.f T.l_true.fd ["_law_test_here", "_law_names_here"] (spTrue n)
  | n => by
    have G_l_value : FnOk P w K mg base CX0 3 T.l_value.f T.l_value.fd ["_law_expression_here", "_law_names_here"] (spValue 3) := ok_l_value T 3
    have G_l_true : FnOk P w K mg base CX0 (n + 3) T.l_true.f T.l_true.fd ["_law_test_here", "_law_names_here"] (spTrue' n) := by
      cases n with
      | zero =>
        have no : ∀ vs H Q E, ¬ spTrue' 0 vs H Q E := fun _ _ _ _ h => h
        exact ⟨fun vs H Q E h => absurd h (no vs H Q E), fun A outer s H args us vs Q E _ _ _ _ h => absurd h (no vs H Q E)⟩
      | succ m => exact ok_l_true T m
    refine T.l_true.F.ok sc_l_true (fun vs H Q E h => ?_) (fun cdv A outer s H vs Q E hr h => ?_)
    · obtain ⟨v, nd, t, kvs, env, rfl, _⟩ := h
      rfl
    obtain ⟨v, nd, t, kvs, env, rfl, hT, hn, he, hok, hdp, q⟩ := h
    have hu := hu_of hr
    refine ⟨_, (pss_cons (ps_if (pt_cmpR op_eq (pe_ix (ix_tupK (K := K) rfl) (pv 0) pe_int (fun _ _ => rfl)) pe_str (nomark _)) (pss_one (ps_ret (pe_not (pe_call G_l_true (hr.mono (by omega)) (by rfl) T.l_true.g T.l_true.F.kp T.l_true.b .nil pass0 (pa_cons (pe_ix (ix_tupK (K := K) rfl) (pv 0) pe_int (fun _ _ => rfl)) (pa_cons (pv 1) pa_nil)))))) pss_nil)
      (pss_cons (ps_if (pt_cmpR op_eq (pe_ix (ix_tupK (K := K) rfl) (pv 0) pe_int (fun _ _ => rfl)) pe_str (nomark _)) (pss_one (ps_ret (pe_cmpR op_ne (pe_op op_modN (pe_callTy (T := "int") call_int1 (by rfl) T.int (by decide +kernel) (pa_cons (pe_call G_l_value (hr.mono (by omega)) (by rfl) T.l_value.g T.l_value.F.kp T.l_value.b .nil pass0 (pa_cons (pe_ix (ix_tupK (K := K) rfl) (pv 0) pe_int (fun _ _ => rfl)) (pa_cons (pv 1) pa_nil))) pa_nil)) pe_int) pe_int (nomark _)))) pss_nil)
      (pss_one (ps_ret (pe_cmpR op_lt (pe_call G_l_value (hr.mono (by omega)) (by rfl) T.l_value.g T.l_value.F.kp T.l_value.b .nil pass0 (pa_cons (pe_ix (ix_tupK (K := K) rfl) (pv 0) pe_int (fun _ _ => rfl)) (pa_cons (pv 1) pa_nil))) (pe_call G_l_value (hr.mono (by omega)) (by rfl) T.l_value.g T.l_value.F.kp T.l_value.b .nil pass0 (pa_cons (pe_ix (ix_tupK (K := K) rfl) (pv 0) pe_int (fun _ _ => rfl)) (pa_cons (pv 1) pa_nil))) (nomark _)))))), ?_⟩
    cases t with
    | less a b =>
      obtain ⟨p, x1, x2, x3, rfl, h1, t1, t2, t3⟩ := tr_tup3 hT
      cases tr_str t1
      obtain ⟨⟨o1, d1⟩, o2, d2⟩ := (show (a.ok ∧ a.deep ≤ 3) ∧ b.ok ∧ b.deep ≤ 3 from hok)
      walk_at "go"
      exact q
    | odd a =>
      obtain ⟨p, x1, x2, rfl, h1, t1, t2⟩ := tr_tup2 hT
      cases tr_str t1
      obtain ⟨o1, d1⟩ := (show a.ok ∧ a.deep ≤ 3 from hok)
      walk_at "go"
      have e : (!decide (V.int ((a.ev env).fmod 2) = V.int 0)) = decide ((a.ev env) % 2 = 1) := by
        rw [dec_int, fmod2]
        rcases Int.emod_two_eq (a.ev env) with z | z <;> rw [z] <;> rfl
      exact e ▸ q
    | not t =>
      obtain ⟨p, x1, x2, rfl, h1, t1, t2⟩ := tr_tup2 hT
      cases tr_str t1
      have d1 : t.nots + 1 ≤ n := hdp
      obtain ⟨m, rfl⟩ : ∃ m, n = m + 1 := ⟨n - 1, by omega⟩
      have o1 : t.ok := hok
      walk_at "go"
      exact q
theorem ok_l_size (T : Top K mg) : ∀ n : Nat, FnOk P w K mg base CX0 (n + 1) T.l_size.f T.l_size.fd ["_law_block_here"] (spLSize n)
  | n => by
    have G_l_size : FnOk P w K mg base CX0 n T.l_size.f T.l_size.fd ["_law_block_here"] (sp0 spLSize n) := by
      cases n with
      | zero => exact fn_no fun _ _ _ _ h => h
      | succ m => exact ok_l_size T m
    refine T.l_size.F.ok sc_l_size (fun vs H Q E h => ?_) (fun cdv A outer s H vs Q E hr h => ?_)
    · obtain ⟨v, b, rfl, _⟩ := h
      rfl
    obtain ⟨v, b, rfl, hT, hn, hp, q⟩ := h
    refine ⟨_, (pss_cons (ps_set (i := 1) sc_l_size.nd rfl (.inl rfl) pe_int)
      (pss_cons (ps_forA (ps_for PassesOwn.never rfl (pi_tupK (K := K) rfl (pv 0)) (pg_name (i := 2) sc_l_size.nd rfl (.inl rfl)) (pss_cutA (ps_set (i := 3) sc_l_size.nd rfl (.inl rfl) (pe_ifExp (pt_cmpR (op_in_seqK (K := K) rfl) (pe_ix (ix_tupK (K := K) rfl) (pv 2) pe_int (fun _ _ => rfl)) (pe_tupA (pa_cons pe_str (pa_cons pe_str pa_nil))) (by rfl)) (pe_slice (sl_tupK (K := K) rfl) (pv 2) (po_some pe_int) po_none) (pe_tupA pa_nil)))
      (pss_one (ps_set (i := 1) sc_l_size.nd rfl (.inl rfl) (pe_op op_add (pe_op op_add (pv 1) pe_int) (pe_callB (id := "sum") (cr_sumK (K := K) rfl (by rfl)) (by rfl) T.sum (by decide +kernel) (pa_cons (pe_lc (own := [("_law_part", 4)]) (by rfl) sc_l_size.nd (pi_tupK (K := K) rfl (pv 3)) (blkOk_by (N := ["_law_block_here", "_law_found", "_law_row_here", "_law_inner", "_law_part"]) (sc := defScope s_l_size) (own := [("_law_part", 4)]) (by decide +kernel)) (fun _ _ _ _ _ => (pg_name (i := 4) sc_l_size.nd rfl (.inl rfl))) (fun _ _ _ _ _ => pts_nil) (fun _ _ _ _ _ => (pe_call G_l_size (hr.mono (by omega)) (by rfl) T.l_size.g T.l_size.F.kp T.l_size.b .nil pass0 (pa_cons (pv 4) pa_nil)))) pa_nil))))))))
      (pss_one (ps_ret (pv 1))))), ?_⟩
    obtain ⟨ba, bv, rfl, hb, tb⟩ := tr_tup hT
    rw [Sm.ds_map] at tb
    have lb : bv.length = b.length := by rw [tb.length, List.length_map]
    walk_at "go"
    refine ⟨for_tup (K := K) (a := ba) (xs := bv) (fun i σ H1 => Lp (∃ (w2 w3 : Option V), σ = [some (.ref ba), some (.int (Sm.pls (b.take i) : Int)), w2, w3, none] ∧ Kp [] H H1)) ⟨none, none, rfl, Kp.refl⟩ ?_ ?_ ?_⟩
    · rintro i σ H1 _ ⟨⟨w2, w3, rfl, k1⟩⟩
      exact SqT.of (k1.tup _ _ hb)
    · rintro i x σ H1 hx ⟨⟨w2, w3, rfl, k1⟩⟩
      have hi : i < b.length := by
        have := (List.getElem?_eq_some_iff.mp hx).1
        omega
      have et : b[i]? = some b[i] := List.getElem?_eq_getElem hi
      have mt : b[i] ∈ b := List.getElem_mem hi
      have etk : Sm.pls (b.take (i + 1)) = Sm.pls (b.take i) + (b[i]).pl := by
        rw [List.take_add_one, et, Sm.pls_map, Sm.pls_map, List.map_append, List.sum_append]
        simp
      generalize b[i] = t at et mt etk
      obtain ⟨x', hx', tx⟩ := TrAll.get (i := i) tb (by rw [List.getElem?_map, et]; rfl)
      rw [hx] at hx'
      cases hx'
      have nt := Sm.nest_mem mt
      have pt := Sm.pl_mem mt
      have tx1 := k1.tr tx
      obtain ⟨u, rest, rfl, hu1⟩ := Sm.head tx1
      refine ⟨⟨fun σ2 H2 => Lp (∃ (ip : Addr) (xs : List V), σ2 = [some (.ref ba), some (.int (Sm.pls (b.take i) : Int)), some (.ref u), some (.ref ip), none] ∧ H2 ip = some (.tup xs) ∧ TrAll H2 (t.blks.map fun b => .tuple (Sm.ds b)) xs ∧ Kp [] H H2), ?_, ?_⟩⟩
      · walk_at "go"
        intro tp H2 htp e2
        have k2 := new_kp htp e2
        have a2 := new_at e2
        have fl : ([.str "if", .str "repeat"] : List V).all flatV = true := by decide +kernel
        refine ⟨tp, _, rfl, .inr (SqT.of a2), rfl, fl, _, rfl, ?_⟩
        rcases t.kw_in with ⟨hin, hpl⟩ | ⟨hin, hpl⟩
        · show if inV (.str t.kw) [.str "if", .str "repeat"] = true then _ else _
          rw [hin]
          refine iteT ?_
          obtain ⟨u', xs, e1, h1, tb1, l1⟩ := Sm.rest2 tx1 hpl
          cases e1
          rw [hu1] at h1
          cases h1
          have hu2 := k2.tup _ _ hu1
          walk_at "go"
          intro ip H3 a3 k3
          rw [cut_2] at a3
          exact ⟨ip, _, rfl, a3, k3.trAll (k2.trAll tb1), (k1.trans k2).trans k3⟩
        · show if inV (.str t.kw) [.str "if", .str "repeat"] = true then _ else _
          rw [hin]
          refine iteF ?_
          walk_at "go"
          intro ip H3 hip e3
          have k3 := new_kp hip e3
          refine ⟨ip, _, rfl, new_at e3, ?_, (k1.trans k2).trans k3⟩
          rw [Sm.plain_blks hpl]
          exact trs_nil
      · rintro σ2 H2 ⟨⟨ip, xs, rfl, a2, t2, k2⟩⟩
        have lx : xs.length = t.blks.length := by rw [t2.length, List.length_map]
        walk_at "go"
        intro D hD
        refine lc_tup (K := K) (a := ip) (xs := xs) (fun j H3 => Lp (Kp [D] H2 H3 ∧ H3 D = some (.lst ((t.blks.take j).map fun b => V.int (Sm.pls b : Int))))) ⟨(Kp.new hD).sub (by simp), upd_same⟩ ?_ ?_ ?_
        · rintro j H3 _ ⟨⟨k3, _⟩⟩
          exact SqT.of (k3.tup _ _ a2)
        · rintro j z H3 hz ⟨⟨k3, d3⟩⟩
          have hj : j < t.blks.length := by
            have := (List.getElem?_eq_some_iff.mp hz).1
            omega
          have eb : t.blks[j]? = some t.blks[j] := List.getElem?_eq_getElem hj
          have mb : t.blks[j] ∈ t.blks := List.getElem_mem hj
          generalize t.blks[j] = bb at eb mb
          have b1 := Sm.blk_nest mb
          have b2 := Sm.blk_pls mb
          obtain ⟨z', hz', tz⟩ := TrAll.get (i := j) t2 (by rw [List.getElem?_map, eb]; rfl)
          rw [hz] at hz'
          cases hz'
          have tz3 := k3.tr tz
          have bl := t.blks_le
          have hz2 : ((t.blks.take j).map fun b => V.int (Sm.pls b : Int)).length < sizeLine := by
            rw [List.length_map, List.length_take]
            exact sz_lt (by omega)
          obtain ⟨n', rfl⟩ : ∃ n', n = n' + 1 := ⟨n - 1, by omega⟩
          have hn' : Sm.nests bb ≤ n' := by omega
          have hp' : Sm.pls bb ≤ 1000000 := by omega
          walk_at "go"
          intro H4 k4
          have d4 := k4.at d3
          walk_at "go"
          refine ⟨(k3.step0 k4).step1 (Kp.put d4 (fun _ z => by cases z)) (.inl (by simp)), ?_⟩
          rw [upd_same, List.take_add_one, eb, List.map_append]
          rfl
        · rintro H3 ⟨⟨k3, d3⟩⟩
          rw [lx, List.take_length] at d3
          have d3' : H3 D = some (.lst ((t.blks.map fun b => (Sm.pls b : Int)).map V.int)) := by
            rw [d3, List.map_map]
            rfl
          have es : 1 + (t.blks.map fun b => (Sm.pls b : Int)).sum = (t.pl : Int) := pl_sum t
          walk_at "go"
          refine ⟨some (.ref u), some (.ref ip), ?_, k2.step1 k3 (.inr (k2.free hD (by simp)))⟩
          rw [etk, Int.natCast_add, ← es, ← Int.add_assoc]
          rfl
    · rintro σ H1 ⟨⟨w2, w3, rfl, k1⟩⟩
      rw [lb, List.take_length]
      walk_at "go"
      exact q H1 k1
end
end EH
namespace EH
open PySem L2
local macro_rules | `(tactic| walk_at "sd") => `(tactic| first | assumption | ((with_reducible show (_ : Int) ≤ _); omega) | ((with_reducible show (_ : Int) < _); omega) | rfl | exact SqL.of (by assumption) | exact SqT.of (by assumption) | exact atI_nat (j := 0) rfl | exact atI_nat (j := 1) rfl | exact atI_nat (j := 2) rfl | exact atI_nat (j := 3) rfl | exact sz_lit rfl | exact lt_lit rfl | exact pos_lit rfl | exact le_lit rfl | exact Or.inl (SqL.of (by assumption)) | exact ⟨_, SqL.of (by assumption)⟩ | exact ⟨_, SqT.of (by assumption)⟩ | exact Or.inr (SqT.of (by assumption)) | exact ClsV.ty _ | exact TyX.base (TyOf.int _) | exact TyX.base (TyOf.str _) | exact TyX.base (TyOf.tup (by assumption)) | exact kit_ty isi_ss | exact kit_ty isi_is | exact kit_ty isi_ts | exact kit_ty isi_si | exact kit_ty isi_ii | exact kit_ty isi_ti | exact kit_ty isi_st | exact kit_ty isi_it | exact kit_ty isi_tt | exact Or.inl ⟨_, Or.inl (by assumption)⟩ | exact DGet.k (k := Sum.inr _) (by assumption) | exact DGet.k (k := Sum.inl _) (by assumption) | (refine cpow_of ?_; decide) | (refine cmul_of ?_; decide) | (show (_ : Int) ≠ 0; first | decide | omega) | (refine cdivn_of ?_; decide) | exact Or.inl ⟨rfl, _, SqL.of (by assumption)⟩ | omega)
local macro_rules | `(tactic| walk_at "st") => `(tactic| first | (apply Exists.intro) | (refine And.intro ?_ ?_; focus (walk_at "sd")) | (apply Or.inl; apply Exists.intro; refine And.intro ?_ ?_; focus rfl) | (apply Or.inr; apply Exists.intro; refine And.intro ?_ ?_; focus rfl))
local macro_rules | `(tactic| walk_at "go") => `(tactic| repeat (walk_at "st"))
section
variable {P : Program} {w : World} {K : PySem.W.Frag} {mg : Str → Option Value} {base : Heap}
theorem ok_l_do (T : Top K mg) {k : Nat} {LS : LamC → Prop} {sp : (Str → Option V) → Sp} {CP : Hp → Addr → Prop} {ow : List Addr} {dec : Nat → Int → Int → Int} (CH : Chooser P w K mg base (k + 3) LS sp CP ow dec) : FnOk P w K mg base CX0 (k + 4) T.l_do.f T.l_do.fd ["_law_world", "_law_row_here", "_law_place"] (spLDo CP ow dec) := by
  have G_l_value : FnOk P w K mg base CX0 3 T.l_value.f T.l_value.fd ["_law_expression_here", "_law_names_here"] (spValue 3) := ok_l_value T 3
  refine T.l_do.F.ok sc_l_do (fun vs H Q E h => ?_) (fun cdv A outer s H vs Q E hr h => ?_)
  · obtain ⟨a, n, s, v, st, p, rfl, _⟩ := h
    rfl
  obtain ⟨a, n, s, v, st, p, rfl, c, hn, hT, hpl, hst, hok, q⟩ := h
  have hu := hu_of hr
  refine ⟨_, (pss_one (ps_if (pt_cmpR op_eq (pe_ix (ix_tupK (K := K) rfl) (pv 1) pe_int (fun _ _ => rfl)) pe_str (nomark _)) (pss_one (ps_expr (pe_bmK (K := K) rfl PySem.F.plainAttrs_list PySem.F.slot_list_append PySem.F.type_list_append mt_appendA (pe_dget hu (pv 0) pe_str (fun _ _ => rfl)) (pa_cons (pe_ix (ix_tupK (K := K) rfl) (pv 1) pe_int (fun _ _ => rfl)) pa_nil)))) (pss_one (ps_if (pt_cmpR op_eq (pe_ix (ix_tupK (K := K) rfl) (pv 1) pe_int (fun _ _ => rfl)) pe_str (nomark _)) (pss_one (ps_expr (pe_bmK (K := K) rfl PySem.F.plainAttrs_list PySem.F.slot_list_append PySem.F.type_list_append mt_appendA (pe_dget hu (pv 0) pe_str (fun _ _ => rfl)) (pa_cons (pe_call G_l_value (hr.mono (by omega)) (by rfl) T.l_value.g T.l_value.F.kp T.l_value.b .nil pass0 (pa_cons (pe_ix (ix_tupK (K := K) rfl) (pv 1) pe_int (fun _ _ => rfl)) (pa_cons (pe_dget hu (pv 0) pe_str (fun _ _ => rfl)) pa_nil))) pa_nil)))) (pss_cons (ps_set (i := 3) sc_l_do.nd rfl (.inl rfl) (pe_call G_l_value (hr.mono (by omega)) (by rfl) T.l_value.g T.l_value.F.kp T.l_value.b .nil pass0 (pa_cons (pe_ix (ix_tupK (K := K) rfl) (pv 1) pe_int (fun _ _ => rfl)) (pa_cons (pe_dget hu (pv 0) pe_str (fun _ _ => rfl)) pa_nil))))
      (pss_cons (ps_if (pt_cmpR op_eq (pe_ix (ix_tupK (K := K) rfl) (pv 1) pe_int (fun _ _ => rfl)) pe_str (nomark _)) (pss_cons (ps_set (i := 4) sc_l_do.nd rfl (.inl rfl) pe_int)
      (pss_cons (ps_if (pt_cmpR op_ne (pe_op op_modN (pe_callTy (T := "int") call_int1 (by rfl) T.int (by decide +kernel) (pa_cons (pv 3) pa_nil)) pe_int) pe_int (nomark _)) (pss_cons (ps_set (i := 4) sc_l_do.nd rfl (.inl rfl) (pe_callLam (pe_dget hu (pv 0) pe_str (fun _ _ => rfl)) CH.F (hr.mono (by omega)) pass0 (pa_cons (pv 3) (pa_cons (pv 2) (pa_cons (pe_callB (id := "len") (call_lenK (K := K) rfl) (by rfl) T.len PySem.boot_len (pa_cons (pe_dget hu (pv 0) pe_str (fun _ _ => rfl)) pa_nil)) pa_nil)))))
      (pss_one (ps_expr (pe_bmK (K := K) rfl PySem.F.plainAttrs_list PySem.F.slot_list_append PySem.F.type_list_append mt_appendA (pe_dget hu (pv 0) pe_str (fun _ _ => rfl)) (pa_cons (pv 4) pa_nil))))) pss_nil)
      (pss_one (ps_set (i := 3) sc_l_do.nd rfl (.inl rfl) (pe_op op_add (pe_op op_fdivN (pe_callTy (T := "int") call_int1 (by rfl) T.int (by decide +kernel) (pa_cons (pv 3) pa_nil)) pe_int) (pv 4)))))) pss_nil)
      (pss_one (ps_dputS hu (pe_dget hu (pv 0) pe_str (fun _ _ => rfl)) (pe_ix (ix_tupK (K := K) rfl) (pv 1) pe_int (fun _ _ => rfl)) (pv 3))))))))), ?_⟩
  have g1 := c.g1
  have g2 := c.g2
  have g3 := c.g3
  have g4 := c.g4
  have sa := c.sa
  have tu := c.tu
  obtain ⟨kvs, nm, er, lk⟩ := c.nm
  cases st with
  | ite t y m => exact absurd hpl id
  | rep j b => exact absurd hpl id
  | stop y => exact absurd rfl (hst y)
  | set x e =>
    obtain ⟨u, x1, x2, x3, rfl, h1, t1, t2, t3⟩ := tr_tup3 hT
    cases tr_str t1
    cases tr_str t2
    obtain ⟨⟨o1, o2⟩, _⟩ := (show (e.ok ∧ e.deep ≤ 3) ∧ NmOk x by simpa only [Sm.ok] using hok)
    have hz : kvs.length < sizeLine := sz_lt (by omega)
    walk_at "go"
    intro H1 e1
    obtain ⟨c1, k1⟩ := c.put CH.kp nm er lk e1
    exact q H1 (c1.mono (by omega)) k1
  | tell e =>
    obtain ⟨u, x1, x2, rfl, h1, t1, t2⟩ := tr_tup2 hT
    cases tr_str t1
    obtain ⟨o1, o2⟩ := (show e.ok ∧ e.deep ≤ 3 by simpa only [Sm.ok] using hok)
    have hz : (s.said.map kV).length < sizeLine := by rw [List.length_map]; exact sz_lt (by have := c.ls; omega)
    walk_at "go"
    intro H1 g1 k1
    obtain ⟨c1, k2⟩ := c.say CH.kp (v := Sum.inl (e.ev s.env)) g1 k1
    exact q H1 (c1.mono (by omega)) k2
  | say y =>
    obtain ⟨u, x1, x2, rfl, h1, t1, t2⟩ := tr_tup2 hT
    cases tr_str t1
    cases tr_str t2
    have hz : (s.said.map kV).length < sizeLine := by rw [List.length_map]; exact sz_lt (by have := c.ls; omega)
    walk_at "go"
    intro H1 g1 k1
    obtain ⟨c1, k2⟩ := c.say CH.kp (v := Sum.inr y) g1 k1
    exact q H1 (c1.mono (by omega)) k2
  | half x e =>
    obtain ⟨u, x1, x2, x3, rfl, h1, t1, t2, t3⟩ := tr_tup3 hT
    cases tr_str t1
    cases tr_str t2
    obtain ⟨⟨o1, o2⟩, _⟩ := (show (e.ok ∧ e.deep ≤ 3) ∧ NmOk x by simpa only [Sm.ok] using hok)
    have q' : ∀ H', WAt CP ow H' a (n + 2) { (halv dec noWay s (e.ev s.env) p).2 with env := setE s.env x (halv dec noWay s (e.ev s.env) p).1 } → Kp [a.nd, a.sd, a.td] H H' → Q .non H' := q
    clear q
    walk_at "go"
    refine ite2 (fun hc => ?_) (fun hc => ?_)
    · have hc1 : ¬ e.ev s.env % 2 = 0 := by
        intro z
        rw [dec_int, fmod2, z] at hc
        exact absurd hc (by decide)
      have e2 : halv dec noWay s (e.ev s.env) p = (e.ev s.env / 2 + dec s.turns.length (e.ev s.env) p, { s with turns := s.turns ++ [dec s.turns.length (e.ev s.env) p] }) := by rw [halv, if_neg hc1]; rfl
      rw [e2] at q'
      obtain ⟨L, fv, hL, lh, csp⟩ := CH.atF H a.f c.ch
      have hfn := lh.fn
      walk_at "go"
      rw [List.length_map]
      refine csp _ p s.turns.length _ (fun H1 k1 => ?_)
      have c1 := c.kp0 CH.kp k1
      have g31 := c1.g3
      have tu1 := c1.tu
      have hz : (s.turns.map V.int).length < sizeLine := by rw [List.length_map]; exact sz_lt (by have := c.lt; omega)
      walk_at "go"
      intro H2 a2 k2
      obtain ⟨c2, k3⟩ := c1.turn CH.kp a2 k2
      have g12 := c2.g1
      obtain ⟨kvs2, nm2, er2, lk2⟩ := c2.nm
      have h12 := k2.tup _ _ (k1.tup _ _ h1)
      have hz2 : kvs2.length < sizeLine := sz_lt (by omega)
      walk_at "go"
      intro H3 e3
      have e3' : H3 = upd H2 a.nd (.dK (putK kvs2 (Sum.inr x) (.int (e.ev s.env / 2 + dec s.turns.length (e.ev s.env) p)))) := by
        rw [e3]
        congr 4
        exact fdiv2 _
      obtain ⟨c3, k4⟩ := c2.put CH.kp nm2 er2 lk2 e3'
      exact q' H3 c3 (((k1.sub (by simp)).trans k3).trans k4)
    · have hc1 : e.ev s.env % 2 = 0 := by
        rcases Int.emod_two_eq (e.ev s.env) with z | z
        · exact z
        · rw [dec_int, fmod2, z] at hc
          exact absurd rfl hc
      have e2 : halv dec noWay s (e.ev s.env) p = (e.ev s.env / 2, s) := by rw [halv, if_pos hc1]
      rw [e2] at q'
      have hz : kvs.length < sizeLine := sz_lt (by omega)
      walk_at "go"
      intro H1 e1
      have e1' : H1 = upd H a.nd (.dK (putK kvs (Sum.inr x) (.int (e.ev s.env / 2)))) := by
        rw [e1]
        congr 4
        show V.int ((e.ev s.env).fdiv 2 + 0) = _
        rw [fdiv2, Int.add_zero]
      obtain ⟨c1, k1⟩ := c.put CH.kp nm er lk e1'
      exact q' H1 (c1.mono (by omega)) k1
end
end EH
namespace EH
open PySem L2
local macro_rules | `(tactic| walk_at "sd") => `(tactic| first | assumption | ((with_reducible show (_ : Int) ≤ _); omega) | ((with_reducible show (_ : Int) < _); omega) | rfl | exact SqL.of (by assumption) | exact SqT.of (by assumption) | exact atI_nat (j := 0) rfl | exact atI_nat (j := 1) rfl | exact atI_nat (j := 2) rfl | exact atI_nat (j := 3) rfl | exact sz_lit rfl | exact lt_lit rfl | exact pos_lit rfl | exact le_lit rfl | exact Or.inl (SqL.of (by assumption)) | exact ⟨_, SqL.of (by assumption)⟩ | exact ⟨_, SqT.of (by assumption)⟩ | exact Or.inr (SqT.of (by assumption)) | exact ClsV.ty _ | exact TyX.base (TyOf.int _) | exact TyX.base (TyOf.str _) | exact TyX.base (TyOf.tup (by assumption)) | exact kit_ty isi_ss | exact kit_ty isi_is | exact kit_ty isi_ts | exact kit_ty isi_si | exact kit_ty isi_ii | exact kit_ty isi_ti | exact kit_ty isi_st | exact kit_ty isi_it | exact kit_ty isi_tt | exact Or.inl ⟨_, Or.inl (by assumption)⟩ | exact DGet.k (k := Sum.inr _) (by assumption) | exact DGet.k (k := Sum.inl _) (by assumption) | (refine cpow_of ?_; decide) | (refine cmul_of ?_; decide) | (show (_ : Int) ≠ 0; first | decide | omega) | (refine cdivn_of ?_; decide) | exact Or.inl ⟨rfl, _, SqL.of (by assumption)⟩ | omega)
local macro_rules | `(tactic| walk_at "st") => `(tactic| first | (apply Exists.intro) | (refine And.intro ?_ ?_; focus (walk_at "sd")) | (apply Or.inl; apply Exists.intro; refine And.intro ?_ ?_; focus rfl) | (apply Or.inr; apply Exists.intro; refine And.intro ?_ ?_; focus rfl))
local macro_rules | `(tactic| walk_at "go") => `(tactic| repeat (walk_at "st"))
theorem parts_plain {env : Str → Int} {p : Int} : ∀ {t : Sm}, t.plain → partsOf env p t = []
  | .ite _ _ _, h => h.elim
  | .rep _ _, h => h.elim
  | .set _ _, _ => rfl
  | .half _ _, _ => rfl
  | .tell _, _ => rfl
  | .say _, _ => rfl
  | .stop _, _ => rfl
section
variable {P : Program} {w : World} {K : PySem.W.Frag} {mg : Str → Option Value} {base : Heap}
theorem ok_l_go (T : Top K mg) {LS : LamC → Prop} {sp : (Str → Option V) → Sp} {CP : Hp → Addr → Prop} {ow : List Addr} {dec : Nat → Int → Int → Int} {k : Nat} (CH : Chooser P w K mg base (k + 3) LS sp CP ow dec) : ∀ m : Nat, FnOk P w K mg base CX0 (m + k + 8) T.l_go.f T.l_go.fd ["_law_world", "_law_block_here", "_law_place"] (spLGo CP ow dec m)
  | m => by
    have G_l_true : FnOk P w K mg base CX0 6 T.l_true.f T.l_true.fd ["_law_test_here", "_law_names_here"] (spTrue 2) := ok_l_true T 2
    have G_l_do : FnOk P w K mg base CX0 (k + 4) T.l_do.f T.l_do.fd ["_law_world", "_law_row_here", "_law_place"] (spLDo CP ow dec) := ok_l_do T CH
    have G_l_size : FnOk P w K mg base CX0 (m + 1) T.l_size.f T.l_size.fd ["_law_block_here"] (spLSize m) := ok_l_size T m
    have G_l_go : FnOk P w K mg base CX0 (m + k + 7) T.l_go.f T.l_go.fd ["_law_world", "_law_block_here", "_law_place"] (sp0 (spLGo CP ow dec) m) := by
      cases m with
      | zero => exact fn_no fun _ _ _ _ h => h
      | succ j =>
        have e : j + 1 + k + 7 = j + k + 8 := by omega
        rw [e]
        exact ok_l_go T CH j
    refine T.l_go.F.ok sc_l_go (fun vs H Q E h => ?_) (fun cdv A outer s H vs Q E hr h => ?_)
    · obtain ⟨a, n, s, v, b, p, rfl, _⟩ := h
      rfl
    obtain ⟨a, n, s, v, b, p, rfl, c, hn, hT, hok, hp, hm, q⟩ := h
    have hu := hu_of hr
    refine ⟨_, (pss_cons (ps_forA (ps_for PassesOwn.never rfl (pi_tupK (K := K) rfl (pv 1)) (pg_name (i := 3) sc_l_go.nd rfl (.inl rfl)) (pss_cons (ps_par (i := 4) (j := 5) (by rfl) sc_l_go.nd rfl rfl (by decide) rfl rfl (pa_cons pe_non (pa_cons (pe_lstA pa_nil) pa_nil)) (by rfl))
      (pss_cutA (ps_if (pt_cmpR op_eq (pe_ix (ix_tupK (K := K) rfl) (pv 3) pe_int (fun _ _ => rfl)) pe_str (nomark _)) (pss_cons (ps_set (i := 5) sc_l_go.nd rfl (.inl rfl) (pe_lstA (pa_cons (pe_tupA (pa_cons (pe_ix (ix_tupK (K := K) rfl) (pv 3) pe_int (fun _ _ => rfl)) (pa_cons (pe_op op_add (pv 2) pe_int) pa_nil))) pa_nil)))
      (pss_one (ps_if (pt_not (pt_val (pe_call G_l_true (hr.mono (by omega)) (by rfl) T.l_true.g T.l_true.F.kp T.l_true.b .nil pass0 (pa_cons (pe_ix (ix_tupK (K := K) rfl) (pv 3) pe_int (fun _ _ => rfl)) (pa_cons (pe_dget hu (pv 0) pe_str (fun _ _ => rfl)) pa_nil))))) (pss_one (ps_set (i := 5) sc_l_go.nd rfl (.inl rfl) (pe_lstA (pa_cons (pe_tupA (pa_cons (pe_ix (ix_tupK (K := K) rfl) (pv 3) pe_int (fun _ _ => rfl)) (pa_cons (pe_op op_add (pe_op op_add (pv 2) pe_int) (pe_call G_l_size (hr.mono (by omega)) (by rfl) T.l_size.g T.l_size.F.kp T.l_size.b .nil pass0 (pa_cons (pe_ix (ix_tupK (K := K) rfl) (pv 3) pe_int (fun _ _ => rfl)) pa_nil))) pa_nil))) pa_nil)))) pss_nil))) (pss_one (ps_if (pt_cmpR op_eq (pe_ix (ix_tupK (K := K) rfl) (pv 3) pe_int (fun _ _ => rfl)) pe_str (nomark _)) (pss_one (ps_set (i := 5) sc_l_go.nd rfl (.inl rfl) (pe_op op_repL (pe_lstA (pa_cons (pe_tupA (pa_cons (pe_ix (ix_tupK (K := K) rfl) (pv 3) pe_int (fun _ _ => rfl)) (pa_cons (pe_op op_add (pv 2) pe_int) pa_nil))) pa_nil)) (pe_ix (ix_tupK (K := K) rfl) (pv 3) pe_int (fun _ _ => rfl))))) (pss_one (ps_if (pt_cmpR op_eq (pe_ix (ix_tupK (K := K) rfl) (pv 3) pe_int (fun _ _ => rfl)) pe_str (nomark _)) (pss_one (ps_set (i := 4) sc_l_go.nd rfl (.inl rfl) (pe_ix (ix_tupK (K := K) rfl) (pv 3) pe_int (fun _ _ => rfl)))) (pss_one (ps_expr (pe_call G_l_do (hr.mono (by omega)) (by rfl) T.l_do.g T.l_do.F.kp T.l_do.b .nil pass0 (pa_cons (pv 0) (pa_cons (pv 3) (pa_cons (pv 2) pa_nil)))))))))))
      (pss_cons (ps_forA (ps_for PassesOwn.never rfl (pi_listK (K := K) rfl (pv 5)) (pg_tup (by rfl) (pgs_cons (pg_name (i := 6) sc_l_go.nd rfl (.inl rfl)) (pgs_cons (pg_name (i := 7) sc_l_go.nd rfl (.inl rfl)) pgs_nil))) (pss_one (ps_if (pt_cmpR op_isN (pv 4) pe_non (nomark _)) (pss_one (ps_set (i := 4) sc_l_go.nd rfl (.inl rfl) (pe_call G_l_go (hr.mono (by omega)) (by rfl) T.l_go.g T.l_go.F.kp T.l_go.b .nil pass0 (pa_cons (pv 0) (pa_cons (pv 6) (pa_cons (pv 7) pa_nil)))))) pss_nil))))
      (pss_cons (ps_if (pt_cmpR op_notN (pv 4) pe_non (nomark _)) (pss_one (ps_ret (pv 4))) pss_nil)
      (pss_one (ps_set (i := 2) sc_l_go.nd rfl (.inl rfl) (pe_op op_add (pv 2) (pe_call G_l_size (hr.mono (by omega)) (by rfl) T.l_size.g T.l_size.F.kp T.l_size.b .nil pass0 (pa_cons (pe_tupA (pa_cons (pv 3) pa_nil)) pa_nil)))))))))))
      (pss_one (ps_ret pe_non))), ?_⟩
    obtain ⟨ba, bv, rfl, hb, tb⟩ := tr_tup hT
    rw [Sm.ds_map] at tb
    have lb : bv.length = b.length := by rw [tb.length, List.length_map]
    walk_at "go"
    refine ⟨for_tup (K := K) (a := ba) (xs := bv) (fun i σ H1 => Lp (∃ (s1 : Cs) (n1 : Nat) (p1 : Int) (w3 w4 w5 w6 w7 : Option V), σ = [some (.ref a.x), some (.ref ba), some (.int p1), w3, w4, w5, w6, w7] ∧ WAt CP ow H1 a n1 s1 ∧
      n1 + 2 * Sm.wts (b.drop i) ≤ n + 2 * Sm.wts b ∧ Sm.runs dec noWay (b.drop i) p1 s1 = Sm.runs dec noWay b p s ∧ Kp [a.nd, a.sd, a.td] H H1)) ⟨s, n, p, none, none, none, none, none, rfl, c, by simp, by simp, Kp.refl⟩ ?_ ?_ ?_⟩
    · rintro i σ H1 _ ⟨⟨s1, n1, p1, w3, w4, w5, w6, w7, rfl, c1, hn1, e1, k1⟩⟩
      exact SqT.of (k1.tup _ _ hb)
    · rintro i x σ H1 hx ⟨⟨s1, n1, p1, w3, w4, w5, w6, w7, rfl, c1, hn1, e1, k1⟩⟩
      have hi : i < b.length := by
        have := (List.getElem?_eq_some_iff.mp hx).1
        omega
      have et : b[i]? = some b[i] := List.getElem?_eq_getElem hi
      have mt : b[i] ∈ b := List.getElem_mem hi
      rw [List.drop_eq_getElem_cons hi] at hn1 e1
      generalize b[i] = t at et mt hn1 e1
      simp only [Sm.wts] at hn1
      obtain ⟨x', hx', tx⟩ := TrAll.get (i := i) tb (by rw [List.getElem?_map, et]; rfl)
      rw [hx] at hx'
      cases hx'
      have ok1 := oks_mem hok mt
      have nt := Sm.nest_mem mt
      have pt := Sm.pl_mem mt
      have wt := t.wt_pos
      have tx1 := k1.tr tx
      walk_at "go"
      intro l0 H2 hl0 e2
      have k2 := new_kp hl0 e2
      have a2 := new_at e2
      have c2 := c1.kp0 CH.kp k2
      have tx2 := k2.tr tx1
      have noff0 := c1.off hl0
      have k12 : Kp [a.nd, a.sd, a.td] H1 H2 := k2.sub (by simp)
      have hws : wsum (partsOf s1.env p1 t) + 1 ≤ t.wt := parts_wt (env := s1.env) (p := p1) (st := t)
      obtain ⟨u, rest, rfl, hu1⟩ := Sm.head tx2
      walk_at "go"
      refine ⟨⟨fun σ2 H3 => Lp (∃ (wr : Option Str × Cs) (n2 : Nat) (l : Addr) (ts : List V) (w6 w7 : Option V), σ2 = [some (.ref a.x), some (.ref ba), some (.int p1), some (.ref u), some (wV wr.1), some (.ref l), w6, w7] ∧ WAt CP ow H3 a n2 wr.2 ∧
        H3 l = some (.lst ts) ∧ TrAll H3 ((partsOf s1.env p1 t).map partD) ts ∧ l ∉ [a.nd, a.sd, a.td] ∧ foldP dec noWay (partsOf s1.env p1 t) wr = t.run dec noWay p1 s1 ∧ n2 + 2 * wsum (partsOf s1.env p1 t) ≤ n1 + 2 * t.wt ∧ Kp [a.nd, a.sd, a.td] H1 H3), ?_, ?_⟩⟩
      · have g1 := c2.g1
        obtain ⟨kvs, nm, er, lk⟩ := c2.nm
        cases t with
        | ite t y m1 =>
          obtain ⟨u', x1, x2, x3, x4, eu, h1, t1, t2, t3, t4⟩ := tr_tup4 tx2
          cases eu
          cases tr_str t1
          have er2 := run_parts dec noWay (st := .ite t y m1) id p1 s1
          obtain ⟨o1, o2, o3, o4⟩ := (show t.ok ∧ t.nots ≤ 2 ∧ Sm.oks y ∧ Sm.oks m1 by simpa only [Sm.ok] using ok1)
          have mb : y ∈ (Sm.ite t y m1).blks := by simp [Sm.blks]
          have b1 := Sm.blk_nest mb
          have b2 := Sm.blk_pls mb
          walk_at "go"
          intro r3 H3 hr3 e3
          have k3 := new_kp hr3 e3
          have a3 := new_at e3
          walk_at "go"
          intro r4 H4 hr4 e4
          have k4 := new_kp hr4 e4
          have a4 := new_at e4
          have k24 := k3.trans k4
          have g14 := (c2.kp0 CH.kp k24).g1
          have nm4 := k24.at nm
          have h14 := k24.tup _ _ h1
          have t24 := k24.tr t2
          have t34 := k24.tr t3
          have t44 := k24.tr t4
          walk_at "go"
          refine ite2 (fun hc => ?_) (fun hc => ?_)
          · have hc' : t.ev s1.env = false := by
              cases hh : t.ev s1.env with
              | false => rfl
              | true => rw [hh] at hc; cases hc
            have ep : partsOf s1.env p1 (.ite t y m1) = [(m1, p1 + 1 + (Sm.pls y : Int))] := by rw [partsOf, if_neg (by rw [hc']; exact Bool.false_ne_true)]
            rw [ep] at er2 hws ⊢
            have hpy : Sm.pls y ≤ 1000000 := by omega
            have hny : Sm.nests y ≤ m := by omega
            walk_at "go"
            intro H5 k5
            walk_at "go"
            intro r6 H6 hr6 e6
            have k6 := new_kp hr6 e6
            have a6 := new_at e6
            walk_at "go"
            intro r7 H7 hr7 e7
            have k7 := new_kp hr7 e7
            have k6' := (k24.trans k5).trans k6
            refine ⟨(none, s1), n1, r7, _, _, _, rfl, (c2.kp0 CH.kp k6').kp0 CH.kp k7, new_at e7, trs_cons (mk_tup (k7.at a6) (trs_cons (k7.tr (k6.tr (k5.tr t44))) (trs_cons mk_int trs_nil))) trs_nil, (c2.kp0 CH.kp k6').off hr7, er2.symm, by omega, k12.step0 (k6'.trans k7)⟩
          · have hc' : t.ev s1.env = true := by
              cases hh : t.ev s1.env with
              | true => rfl
              | false => rw [hh] at hc; exact absurd rfl hc
            have ep : partsOf s1.env p1 (.ite t y m1) = [(y, p1 + 1)] := by rw [partsOf, if_pos hc']
            rw [ep] at er2 hws ⊢
            walk_at "go"
            exact ⟨(none, s1), n1, r4, _, _, _, rfl, c2.kp0 CH.kp k24, a4, trs_cons (mk_tup (k4.at a3) (trs_cons t34 (trs_cons mk_int trs_nil))) trs_nil, (c2.kp0 CH.kp k3).off hr4, er2.symm, by omega, k12.step0 k24⟩
        | rep k b =>
          obtain ⟨u', x1, x2, x3, eu, h1, t1, t2, t3⟩ := tr_tup3 tx2
          cases eu
          cases tr_str t1
          cases tr_int t2
          have er2 := run_parts dec noWay (st := .rep k b) id p1 s1
          obtain ⟨o1, o2⟩ := (show k ≤ 8 ∧ Sm.oks b by simpa only [Sm.ok] using ok1)
          walk_at "go"
          intro r3 H3 hr3 e3
          have k3 := new_kp hr3 e3
          have a3 := new_at e3
          walk_at "go"
          intro r4 H4 hr4 e4
          have k4 := new_kp hr4 e4
          have a4 := new_at e4
          have h14 := k4.at (k3.at h1)
          have z1 : (0 : Int) ≤ (k : Int) := by omega
          have z2 : (k : Int) ≤ 1000000 := by omega
          have z3 : [V.ref r3].length * ((k : Int)).toNat ≤ 1000000 := by
            show 1 * ((k : Int)).toNat ≤ 1000000
            omega
          walk_at "go"
          intro r5 H5 hr5 a5 k5
          have k25 := (k3.trans k4).trans k5
          refine ⟨(none, s1), n1, r5, _, _, _, rfl, c2.kp0 CH.kp k25, a5, ?_, (c2.kp0 CH.kp (k3.trans k4)).off hr5, er2.symm, by omega, k12.step0 k25⟩
          rw [Int.toNat_natCast, flat_rep]
          show TrAll H5 (List.map partD (List.replicate k (b, p1 + 1))) _
          have tp : Tr H5 (partD (b, p1 + 1)) (.ref r3) := mk_tup (k5.at (k4.at a3)) (trs_cons (k5.tr (k4.tr (k3.tr t3))) (trs_cons mk_int trs_nil))
          rw [List.map_replicate]
          exact trs_rep tp k
        | stop y =>
          obtain ⟨u', x1, x2, eu, h1, t1, t2⟩ := tr_tup2 tx2
          cases eu
          cases tr_str t1
          cases tr_str t2
          walk_at "go"
          exact ⟨(some y, s1), n1, l0, _, _, _, rfl, c2, a2, trs_nil, noff0, by simp [partsOf, foldP, Sm.run], by omega, k12⟩
        | set x e =>
          obtain ⟨u', x1, x2, x3, eu, h1, t1, _⟩ := tr_tup3 tx2
          cases eu
          cases tr_str t1
          have hn2 : n1 + 2 ≤ 1000000 := by omega
          walk_at "go"
          refine ⟨trivial, (fun _ z => by cases z), ok1, ?_⟩
          intro H3 c3 k3
          exact ⟨_, n1 + 2, l0, _, _, _, rfl, c3, k3.keep _ _ a2 noff0, trs_nil, noff0, rfl, by omega, k12.trans k3⟩
        | half x e =>
          obtain ⟨u', x1, x2, x3, eu, h1, t1, _⟩ := tr_tup3 tx2
          cases eu
          cases tr_str t1
          have hn2 : n1 + 2 ≤ 1000000 := by omega
          walk_at "go"
          refine ⟨trivial, (fun _ z => by cases z), ok1, ?_⟩
          intro H3 c3 k3
          exact ⟨_, n1 + 2, l0, _, _, _, rfl, c3, k3.keep _ _ a2 noff0, trs_nil, noff0, rfl, by omega, k12.trans k3⟩
        | tell e =>
          obtain ⟨u', x1, x2, eu, h1, t1, _⟩ := tr_tup2 tx2
          cases eu
          cases tr_str t1
          have hn2 : n1 + 2 ≤ 1000000 := by omega
          walk_at "go"
          refine ⟨trivial, (fun _ z => by cases z), ok1, ?_⟩
          intro H3 c3 k3
          exact ⟨_, n1 + 2, l0, _, _, _, rfl, c3, k3.keep _ _ a2 noff0, trs_nil, noff0, rfl, by omega, k12.trans k3⟩
        | say y =>
          obtain ⟨u', x1, x2, eu, h1, t1, _⟩ := tr_tup2 tx2
          cases eu
          cases tr_str t1
          have hn2 : n1 + 2 ≤ 1000000 := by omega
          walk_at "go"
          refine ⟨trivial, (fun _ z => by cases z), ok1, ?_⟩
          intro H3 c3 k3
          exact ⟨_, n1 + 2, l0, _, _, _, rfl, c3, k3.keep _ _ a2 noff0, trs_nil, noff0, rfl, by omega, k12.trans k3⟩
      · rintro σ2 H3 ⟨⟨wr0, n2, l, ts, w6', w7', rfl, c3, g3, tt, noff, er, hn2, k3⟩⟩
        have lt : ts.length = (partsOf s1.env p1 t).length := by rw [tt.length, List.length_map]
        walk_at "go"
        refine ⟨for_list (K := K) (a := l) (xs := ts) (fun j σ H4 => Lp (∃ (wr : Option Str × Cs) (n4 : Nat) (w6 w7 : Option V), σ = [some (.ref a.x), some (.ref ba), some (.int p1), some (.ref u), some (wV wr.1), some (.ref l), w6, w7] ∧
            WAt CP ow H4 a n4 wr.2 ∧ n4 + 2 * wsum ((partsOf s1.env p1 t).drop j) ≤ n1 + 2 * t.wt ∧
            foldP dec noWay ((partsOf s1.env p1 t).drop j) wr = t.run dec noWay p1 s1 ∧ Kp [a.nd, a.sd, a.td] H3 H4)) ⟨wr0, n2, _, _, rfl, c3, hn2, er, Kp.refl⟩ ?_ ?_ ?_⟩
        · rintro j σ H4 _ ⟨⟨wr, n4, w6, w7, rfl, c4, hn4, e4, k4⟩⟩
          exact SqL.of (k4.keep _ _ g3 noff)
        · rintro j y σ H4 hy ⟨⟨wr, n4, w6, w7, rfl, c4, hn4, e4, k4⟩⟩
          have hj : j < (partsOf s1.env p1 t).length := by
            have := (List.getElem?_eq_some_iff.mp hy).1
            omega
          have ep : (partsOf s1.env p1 t)[j]? = some (partsOf s1.env p1 t)[j] := List.getElem?_eq_getElem hj
          have mp : (partsOf s1.env p1 t)[j] ∈ partsOf s1.env p1 t := List.getElem_mem hj
          rw [List.drop_eq_getElem_cons hj] at hn4 e4
          generalize (partsOf s1.env p1 t)[j] = pq at ep mp hn4 e4
          have mb := parts_mem mp
          have b1 := Sm.blk_nest mb
          have b2 := Sm.blk_pls mb
          have b3 := ok_blk ok1 mb
          obtain ⟨y', hy', ty⟩ := TrAll.get (i := j) tt (by rw [List.getElem?_map, ep]; rfl)
          rw [hy] at hy'
          cases hy'
          obtain ⟨z, z1, z2, rfl, hz, tz1, tz2⟩ := tr_tup2 (k4.tr ty)
          cases tr_int tz2
          obtain ⟨wo, ws⟩ := wr
          have hws4 : n4 + 2 * (Sm.wts pq.1 + wsum ((partsOf s1.env p1 t).drop (j + 1))) ≤ n1 + 2 * t.wt := hn4
          cases wo with
          | some cc =>
            walk_at "go"
            exact ⟨(some cc, ws), n4, _, _, rfl, c4, by omega, e4, k4⟩
          | none =>
            have hb4 : n4 + 2 * Sm.wts pq.1 ≤ 1000000 := by omega
            have hp4 : Sm.pls pq.1 ≤ 1000000 := by omega
            obtain ⟨m', rfl⟩ : ∃ m', m = m' + 1 := ⟨m - 1, by omega⟩
            have hm4 : Sm.nests pq.1 ≤ m' := by omega
            walk_at "go"
            intro H5 c5 k5
            exact ⟨Sm.runs dec noWay pq.1 pq.2 ws, n4 + 2 * Sm.wts pq.1, _, _, rfl, c5, by omega, e4, k4.trans k5⟩
        · rintro σ H4 ⟨⟨wr, n4, w6, w7, rfl, c4, hn4, e4, k4⟩⟩
          rw [lt, List.drop_length] at hn4 e4
          have e5 : wr = t.run dec noWay p1 s1 := e4
          have hn5 : n4 ≤ n1 + 2 * t.wt := by omega
          obtain ⟨o, s2⟩ := wr
          have kk := (k1.trans k3).trans k4
          have tx4 := k4.tr (k3.tr tx1)
          cases o with
          | none =>
            have e2 : Sm.runs dec noWay (b.drop (i + 1)) (p1 + (t.pl : Int)) s2 = Sm.runs dec noWay b p s := by
              rw [← e1, Sm.runs, ← e5]
            have hp1 : Sm.pls [t] ≤ 1000000 := by simp only [Sm.pls]; omega
            have hm1 : Sm.nests [t] ≤ m := by simp only [Sm.nests]; omega
            walk_at "go"
            intro r5 H5 hr5 e5'
            have k5 := new_kp hr5 e5'
            have t5 : Tr H5 (.tuple (Sm.ds [t])) (.ref r5) := mk_tup (new_at e5') (by simp only [Sm.ds]; exact trs_cons (k5.tr tx4) trs_nil)
            walk_at "go"
            intro H6 k6
            walk_at "go"
            refine ⟨s2, n4, p1 + (t.pl : Int), some (.ref u), some .non, some (.ref l), w6, w7, ?_, (c4.kp0 CH.kp k5).kp0 CH.kp k6, by omega, e2, (kk.step0 k5).step0 k6⟩
            have ez : (Sm.pls [t] : Nat) = t.pl := by simp [Sm.pls]
            rw [← ez]
            rfl
          | some y =>
            have e2 : Sm.runs dec noWay b p s = (some y, s2) := by
              rw [← e1, Sm.runs, ← e5]
            rw [e2] at q
            walk_at "go"
            exact q H4 (c4.mono (by omega)) kk
    · rintro σ H1 ⟨⟨s1, n1, p1, w3, w4, w5, w6, w7, rfl, c1, hn1, e1, k1⟩⟩
      rw [lb, List.drop_length] at hn1 e1
      rw [← e1] at q
      walk_at "go"
      exact q H1 (c1.mono (by simp only [Sm.wts] at hn1; omega)) k1
end
end EH
namespace EH
open PySem L2
local macro_rules | `(tactic| walk_at "sd") => `(tactic| first | assumption | ((with_reducible show (_ : Int) ≤ _); omega) | ((with_reducible show (_ : Int) < _); omega) | rfl | exact SqL.of (by assumption) | exact SqT.of (by assumption) | exact atI_nat (j := 0) rfl | exact atI_nat (j := 1) rfl | exact atI_nat (j := 2) rfl | exact atI_nat (j := 3) rfl | exact sz_lit rfl | exact lt_lit rfl | exact pos_lit rfl | exact le_lit rfl | exact Or.inl (SqL.of (by assumption)) | exact ⟨_, SqL.of (by assumption)⟩ | exact ⟨_, SqT.of (by assumption)⟩ | exact Or.inr (SqT.of (by assumption)) | exact ClsV.ty _ | exact TyX.base (TyOf.int _) | exact TyX.base (TyOf.str _) | exact TyX.base (TyOf.tup (by assumption)) | exact kit_ty isi_ss | exact kit_ty isi_is | exact kit_ty isi_ts | exact kit_ty isi_si | exact kit_ty isi_ii | exact kit_ty isi_ti | exact kit_ty isi_st | exact kit_ty isi_it | exact kit_ty isi_tt | exact Or.inl ⟨_, Or.inl (by assumption)⟩ | exact DGet.k (k := Sum.inr _) (by assumption) | exact DGet.k (k := Sum.inl _) (by assumption) | (refine cpow_of ?_; decide) | (refine cmul_of ?_; decide) | (show (_ : Int) ≠ 0; first | decide | omega) | (refine cdivn_of ?_; decide) | exact Or.inl ⟨rfl, _, SqL.of (by assumption)⟩ | omega)
local macro_rules | `(tactic| walk_at "st") => `(tactic| first | (apply Exists.intro) | (refine And.intro ?_ ?_; focus (walk_at "sd")) | (apply Or.inl; apply Exists.intro; refine And.intro ?_ ?_; focus rfl) | (apply Or.inr; apply Exists.intro; refine And.intro ?_ ?_; focus rfl))
local macro_rules | `(tactic| walk_at "go") => `(tactic| repeat (walk_at "st"))
section
variable {P : Program} {w : World} {K : PySem.W.Frag} {mg : Str → Option Value} {base : Heap}
theorem ok_l_run (T : Top K mg) {LS : LamC → Prop} {sp : (Str → Option V) → Sp} {CP : Hp → Addr → Prop} {ow : List Addr} {dec : Nat → Int → Int → Int} {k : Nat} (CH : Chooser P w K mg base (k + 3) LS sp CP ow dec) (m : Nat) : FnOk P w K mg base CX0 (m + k + 9) T.l_run.f T.l_run.fd ["_law_program_here", "_law_number_here", "_law_choose"] (spLRun CP dec m) := by
  have G_l_go : FnOk P w K mg base CX0 (m + k + 8) T.l_go.f T.l_go.fd ["_law_world", "_law_block_here", "_law_place"] (spLGo CP ow dec m) := ok_l_go T CH m
  refine T.l_run.F.ok sc_l_run (fun vs H Q E h => ?_) (fun cdv A outer s H vs Q E hr h => ?_)
  · obtain ⟨v, b, num, f, rfl, _⟩ := h
    rfl
  obtain ⟨v, b, num, f, rfl, hT, hc, hok, hw, hp, hm, q⟩ := h
  have hu := hu_of hr
  refine ⟨_, (pss_cons (ps_set (i := 3) sc_l_run.nd rfl (.inl rfl) (pe_dispA (pps_cons pe_str (pe_dispA (pps_cons pe_str (pv 1) pps_nil) (by rfl) (by rfl) (fun z => by cases z) (by decide)) (pps_cons pe_str (pe_lstA pa_nil) (pps_cons pe_str (pe_lstA pa_nil) (pps_cons pe_str (pv 2) pps_nil)))) (by rfl) (by rfl) (fun z => by cases z) (by decide)))
      (pss_cons (ps_set (i := 4) sc_l_run.nd rfl (.inl rfl) (pe_call G_l_go (hr.mono (by omega)) (by rfl) T.l_go.g T.l_go.F.kp T.l_go.b .nil pass0 (pa_cons (pv 3) (pa_cons (pv 0) (pa_cons pe_int pa_nil)))))
      (pss_one (ps_ret (pe_tupA (pa_cons (pe_callTy (T := "tuple") (call_tupleK (K := K) rfl) (by rfl) T.tuple (by decide +kernel) (pa_cons (pe_dget hu (pv 3) pe_str (fun _ _ => rfl)) pa_nil)) (pa_cons (pv 4) (pa_cons (pe_callTy (T := "tuple") (call_tupleK (K := K) rfl) (by rfl) T.tuple (by decide +kernel) (pa_cons (pe_dget hu (pv 3) pe_str (fun _ _ => rfl)) pa_nil)) pa_nil)))))))), ?_⟩
  walk_at "go"
  intro x H1 hx e1
  have k1 := new_kp hx e1
  have a1 := new_at e1
  walk_at "go"
  intro nd H2 hnd e2
  have k2 := new_kp hnd e2
  walk_at "go"
  have a2 := new_at e2
  refine ⟨a2, [(Sum.inr "n", .int num)], rfl, by show 1 ≤ 15; decide, fun H3 e3 => ?_⟩
  have k3 := put_kp a2 e3 (fun _ z => by cases z)
  have a3 : H3 nd = some (.dK [(Sum.inr "n", .int num)]) := new_at e3
  have nxd : x ≠ nd := ne_of_none a1 hnd
  have x3 := k3.keep _ _ (k2.at a1) (ne1 nxd)
  walk_at "go"
  intro sd H4 hsd e4
  have k4 := new_kp hsd e4
  have s4 := new_at e4
  walk_at "go"
  intro td H5 htd e5
  have k5 := new_kp htd e5
  have t5 := new_at e5
  have s5 := k5.at s4
  have a5 := k5.at (k4.at a3)
  walk_at "go"
  have x5 := k5.at (k4.at x3)
  refine ⟨x5, wkvs ⟨x, nd, sd, td, f⟩, rfl, by show 4 ≤ 15; decide, fun H6 e6 => ?_⟩
  have k6 := put_kp x5 e6 (fun _ z => by cases z)
  have x6 : H6 x = some (.dK (wkvs ⟨x, nd, sd, td, f⟩)) := new_at e6
  have a6 := k6.keep _ _ a5 (ne1 nxd.symm)
  have nsx : sd ≠ x := (ne_of_none x3 hsd).symm
  have ntx : td ≠ x := (ne_of_none (k4.at x3) htd).symm
  have s6 := k6.keep _ _ s5 (ne1 nsx)
  have t6 := k6.keep _ _ t5 (ne1 ntx)
  have kk : Kp [] H H6 := ((((k1.trans k2).step1 k3 (.inr (k1.free hnd (by simp)))).trans k4).trans k5).step1 k6 (.inr hx)
  have t6' := kk.tr hT
  have hn : 0 + 2 * Sm.wts b ≤ 1000000 := by omega
  have kn : Kp [] H H3 := (k1.trans k2).step1 k3 (.inr (k1.free hnd (by simp)))
  have f1 : ∀ z ∈ [nd, sd, td], H z = none := by
    intro z hz
    simp only [List.mem_cons, List.not_mem_nil, or_false] at hz
    rcases hz with rfl | rfl | rfl
    · exact k1.free hnd (by simp)
    · exact kn.free hsd (by simp)
    · exact (kn.trans k4).free htd (by simp)
  have c6 : WAt CP ow H6 ⟨x, nd, sd, td, f⟩ 0 (cs0 num) := ⟨x6, ⟨_, a6, env0_rel num, by simp⟩, s6, t6, CH.kp _ _ _ _ hc kk (fun _ z => nomatch z), Nat.le_refl _, Nat.le_refl _, nxd.symm, ne_of_none s4 htd, fun z hz ho => CH.fr H f hc z ho (f1 z hz)⟩
  refine ⟨_, rfl, _, rfl, ⟨x, nd, sd, td, f⟩, 0, cs0 num, v, b, 0, rfl, c6, hn, t6', hok, hp, hm, ?_⟩
  intro H7 c7 k7
  have k07 : Kp [] H H7 := kk.step k7 (fun z hz => .inr (f1 z hz))
  have g2 := c7.g2
  have g3 := c7.g3
  have sa3 := c7.sa
  have tu3 := c7.tu
  walk_at "go"
  intro r1 H8 hr1 a8 k8
  have g38 := (c7.kp0 CH.kp k8).g3
  have tu8 := k8.at tu3
  walk_at "go"
  intro r2 H9 hr2 a9 k9
  have a89 := k9.at a8
  walk_at "go"
  intro r3 H10 hr3 e10
  have k10 := new_kp hr3 e10
  refine q (.ref r3) H10 ?_ (((k07.trans k8).trans k9).trans k10)
  exact mk_tup (new_at e10) (trs_cons (mk_tup (k10.at a89) (trs_kD _)) (trs_cons (tr_wD _) (trs_cons (mk_tup (k10.at a9) (trs_int _)) trs_nil)))
end
end EH
namespace EH
open PySem L2
/-! ### what every run keeps -/
section
variable {J : Nat → Nat → Cs → Prop}
theorem iterN_inv {f : Cs → Option Str × Cs} {dw dh : Nat} (mono : ∀ w h w' h' s, J w h s → w ≤ w' → h ≤ h' → J w' h' s) (st : ∀ w h s, J w h s → J (w + dw) (h + dh) (f s).2) : ∀ (k w h : Nat) (s : Cs), J w h s → J (w + k * dw) (h + k * dh) (iterN k f s).2
  | 0, w, h, s, j => mono _ _ _ _ _ j (Nat.le_add_right _ _) (Nat.le_add_right _ _)
  | k + 1, w, h, s, j => by
    have j1 := st w h s j
    rw [iterN, Nat.succ_mul, Nat.succ_mul]
    cases e : f s with
    | mk c s' =>
      rw [e] at j1
      cases c with
      | none => exact mono _ _ _ _ _ (iterN_inv mono st k _ _ s' j1) (by omega) (by omega)
      | some c => exact mono _ _ _ _ _ j1 (by omega) (by omega)
variable {dec : Nat → Int → Int → Int} {ways : Int → Option Int}
mutual
theorem Sm.inv (mono : ∀ w h w' h' s, J w h s → w ≤ w' → h ≤ h' → J w' h' s) (pl : ∀ st : Sm, st.plain → st.ok → ∀ p w h s, J w h s → J (w + 1) (h + st.hv) (st.run dec ways p s).2) :
    ∀ (t : Sm), t.ok → ∀ (p : Int) (w h : Nat) (s : Cs), J w h s → J (w + t.wt) (h + t.hv) (t.run dec ways p s).2
  | .ite t y n, o, p, w, h, s, j => by
    simp only [Sm.ok] at o
    simp only [Sm.run, Sm.wt, Sm.hv]
    by_cases hc : t.ev s.env = true
    · have jj := Sm.invs mono pl y o.2.2.1 (p + 1) w h s j
      rw [if_pos hc]
      refine mono _ _ _ _ _ jj ?_ ?_ <;> omega
    · have jj := Sm.invs mono pl n o.2.2.2 (p + 1 + (Sm.pls y : Int)) w h s j
      rw [if_neg hc]
      refine mono _ _ _ _ _ jj ?_ ?_ <;> omega
  | .rep k b, o, p, w, h, s, j => by
    simp only [Sm.ok] at o
    simp only [Sm.run, Sm.wt, Sm.hv]
    have jj := iterN_inv mono (fun w h s j => Sm.invs mono pl b o.2 (p + 1) w h s j) k w h s j
    refine mono _ _ _ _ _ jj ?_ ?_ <;> omega
  | .set x e, o, p, w, h, s, j => by
    have := pl (.set x e) trivial o p w h s j
    simp only [Sm.wt]
    exact this
  | .half x e, o, p, w, h, s, j => by
    have := pl (.half x e) trivial o p w h s j
    simp only [Sm.wt]
    exact this
  | .tell e, o, p, w, h, s, j => by
    have := pl (.tell e) trivial o p w h s j
    simp only [Sm.wt]
    exact this
  | .say c, o, p, w, h, s, j => by
    have := pl (.say c) trivial o p w h s j
    simp only [Sm.wt]
    exact this
  | .stop c, o, p, w, h, s, j => by
    have := pl (.stop c) trivial o p w h s j
    simp only [Sm.wt]
    exact this
theorem Sm.invs (mono : ∀ w h w' h' s, J w h s → w ≤ w' → h ≤ h' → J w' h' s) (pl : ∀ st : Sm, st.plain → st.ok → ∀ p w h s, J w h s → J (w + 1) (h + st.hv) (st.run dec ways p s).2) :
    ∀ (b : List Sm), Sm.oks b → ∀ (p : Int) (w h : Nat) (s : Cs), J w h s → J (w + Sm.wts b) (h + Sm.hvs b) (Sm.runs dec ways b p s).2
  | [], _, p, w, h, s, j => by
    simp only [Sm.runs]
    exact mono _ _ _ _ _ j (Nat.le_add_right _ _) (Nat.le_add_right _ _)
  | t :: r, o, p, w, h, s, j => by
    simp only [Sm.oks] at o
    have j1 := Sm.inv mono pl t o.1 p w h s j
    simp only [Sm.runs, Sm.wts, Sm.hvs]
    cases e : Sm.run dec ways t p s with
    | mk c s' =>
      rw [e] at j1
      cases c with
      | none => exact mono _ _ _ _ _ (Sm.invs mono pl r o.2 _ _ _ s' j1) (by omega) (by omega)
      | some c => exact mono _ _ _ _ _ j1 (by omega) (by omega)
end
end
section
variable {dec : Nat → Int → Int → Int} {ways : Int → Option Int}
theorem halv_turns (s : Cs) (v p : Int) : (halv dec ways s v p).2.turns = s.turns ∨ (halv dec ways s v p).2.turns = s.turns ++ [dec s.turns.length v p] := by
  unfold halv
  split
  · exact .inl rfl
  · split
    · exact .inl rfl
    · exact .inr rfl
theorem plain_turns (st : Sm) (h : st.plain) (p : Int) (s : Cs) : (st.run dec ways p s).2.turns = s.turns ∨ (st.hv = 1 ∧ ∃ v, (st.run dec ways p s).2.turns = s.turns ++ [dec s.turns.length v p]) := by
  cases st with
  | ite _ _ _ => exact h.elim
  | rep _ _ => exact h.elim
  | set x e => exact .inl (by simp only [Sm.run])
  | half x e =>
    simp only [Sm.run, Sm.hv]
    rcases halv_turns (dec := dec) (ways := ways) s (e.ev s.env) p with h | h
    · exact .inl h
    · exact .inr ⟨trivial, _, h⟩
  | tell e => exact .inl (by simp only [Sm.run])
  | say c => exact .inl (by simp only [Sm.run])
  | stop c => exact .inl (by simp only [Sm.run])
theorem turns_le (b : List Sm) (o : Sm.oks b) (p : Int) (s : Cs) : (Sm.runs dec ways b p s).2.turns.length ≤ s.turns.length + Sm.hvs b := by
  have := Sm.invs (J := fun _ h s' => s'.turns.length ≤ s.turns.length + h) (dec := dec) (ways := ways) (fun _ _ _ _ _ j _ hh => Nat.le_trans j (by omega)) (fun st hp ho p w h s' j => by
    rcases plain_turns (dec := dec) (ways := ways) st hp p s' with e | ⟨e1, v, e2⟩
    · rw [e]; omega
    · rw [e2, e1, List.length_append]
      simp only [List.length_singleton]
      omega) b o p 0 0 s (Nat.le_refl _)
  simpa using this
theorem turns_ge (b : List Sm) (o : Sm.oks b) (p : Int) (s : Cs) : s.turns.length ≤ (Sm.runs dec ways b p s).2.turns.length :=
  Sm.invs (J := fun _ _ s' => s.turns.length ≤ s'.turns.length) (dec := dec) (ways := ways) (fun _ _ _ _ _ j _ _ => j) (fun st hp ho p w h s' j => by
    rcases plain_turns (dec := dec) (ways := ways) st hp p s' with e | ⟨e1, v, e2⟩
    · rw [e]; exact j
    · rw [e2, List.length_append]
      omega) b o p 0 0 s (Nat.le_refl _)
theorem turn_ge (t : Sm) (o : t.ok) (p : Int) (s : Cs) : s.turns.length ≤ (Sm.run dec ways t p s).2.turns.length :=
  Sm.inv (J := fun _ _ s' => s.turns.length ≤ s'.turns.length) (dec := dec) (ways := ways) (fun _ _ _ _ _ j _ _ => j) (fun st hp ho p w h s' j => by
    rcases plain_turns (dec := dec) (ways := ways) st hp p s' with e | ⟨e1, v, e2⟩
    · rw [e]; exact j
    · rw [e2, List.length_append]
      omega) t o p 0 0 s (Nat.le_refl _)
end
/-- the first n choices -/
def tk (chs : List Int) (n : Nat) : List Int := (List.range n).map fun i => chs.getD i 0
theorem tk_succ (chs : List Int) (n : Nat) : tk chs (n + 1) = tk chs n ++ [chs.getD n 0] := by
  unfold tk
  rw [List.range_succ, List.map_append]
  rfl
theorem tk_len (chs : List Int) (n : Nat) : (tk chs n).length = n := by
  unfold tk
  rw [List.length_map, List.length_range]
theorem turns_tk {chs : List Int} {ways : Int → Option Int} (b : List Sm) (o : Sm.oks b) (p : Int) (n : Int) : (Sm.runs (decC chs) ways b p (cs0 n)).2.turns = tk chs (Sm.runs (decC chs) ways b p (cs0 n)).2.turns.length :=
  Sm.invs (J := fun _ _ s' => s'.turns = tk chs s'.turns.length) (dec := decC chs) (ways := ways) (fun _ _ _ _ _ j _ _ => j) (fun st hp ho p w h s' j => by
    rcases plain_turns (dec := decC chs) (ways := ways) st hp p s' with e | ⟨e1, v, e2⟩
    · rw [e]; exact j
    · rw [e2, List.length_append, List.length_singleton, tk_succ, ← j]
      rfl) b o p 0 0 (cs0 n) rfl
/-! ### runs that differ from the turn j on -/
def Rl (j : Nat) (a b : Option Str × Cs) : Prop := a = b ∨ (j < a.2.turns.length ∧ j < b.2.turns.length)
theorem iterN_ge {f : Cs → Option Str × Cs} (mf : ∀ s, s.turns.length ≤ (f s).2.turns.length) : ∀ (k : Nat) (s : Cs), s.turns.length ≤ (iterN k f s).2.turns.length
  | 0, s => Nat.le_refl _
  | k + 1, s => by
    have h := mf s
    rw [iterN]
    cases e : f s with
    | mk c s' =>
      rw [e] at h
      cases c with
      | none => exact Nat.le_trans h (iterN_ge mf k s')
      | some c => exact h
theorem iterN_ge1 {f : Cs → Option Str × Cs} (mf : ∀ s, s.turns.length ≤ (f s).2.turns.length) (k : Nat) (s : Cs) : (f s).2.turns.length ≤ (iterN (k + 1) f s).2.turns.length := by
  rw [iterN]
  cases e : f s with
  | mk c s' =>
    cases c with
    | none => exact iterN_ge mf k s'
    | some c => exact Nat.le_refl _
theorem iterN_rel {j : Nat} {f g : Cs → Option Str × Cs} (mf : ∀ s, s.turns.length ≤ (f s).2.turns.length) (mg : ∀ s, s.turns.length ≤ (g s).2.turns.length) (r : ∀ s, Rl j (f s) (g s)) : ∀ (k : Nat) (s : Cs), Rl j (iterN k f s) (iterN k g s)
  | 0, s => .inl rfl
  | k + 1, s => by
    rcases r s with h | ⟨h1, h2⟩
    · rw [iterN, iterN, ← h]
      cases e : f s with
      | mk c s' =>
        cases c with
        | none => exact iterN_rel mf mg r k s'
        | some c => exact .inl rfl
    · exact .inr ⟨Nat.lt_of_lt_of_le h1 (iterN_ge1 mf k s), Nat.lt_of_lt_of_le h2 (iterN_ge1 mg k s)⟩
section
variable {d1 d2 : Nat → Int → Int → Int} {ways : Int → Option Int} {j : Nat}
theorem runs_ge1 {dec : Nat → Int → Int → Int} (t : Sm) (r : List Sm) (o : Sm.oks r) (p : Int) (s : Cs) : (Sm.run dec ways t p s).2.turns.length ≤ (Sm.runs dec ways (t :: r) p s).2.turns.length := by
  simp only [Sm.runs]
  cases e : Sm.run dec ways t p s with
  | mk c s' =>
    cases c with
    | none => exact turns_ge r o _ s'
    | some c => exact Nat.le_refl _
mutual
theorem Sm.rel (ag : ∀ k v p, k < j → d1 k v p = d2 k v p) : ∀ (t : Sm), t.ok → ∀ (p : Int) (s : Cs), Rl j (t.run d1 ways p s) (t.run d2 ways p s)
  | .ite t y n, o, p, s => by
    simp only [Sm.ok] at o
    simp only [Sm.run]
    split
    · exact Sm.rels ag y o.2.2.1 _ s
    · exact Sm.rels ag n o.2.2.2 _ s
  | .rep k b, o, p, s => by
    simp only [Sm.ok] at o
    simp only [Sm.run]
    exact iterN_rel (fun s => turns_ge b o.2 _ s) (fun s => turns_ge b o.2 _ s) (fun s => Sm.rels ag b o.2 _ s) k s
  | .set x e, o, p, s => by simp only [Sm.run]; exact .inl rfl
  | .half x e, o, p, s => by
    by_cases h : s.turns.length < j
    · refine .inl ?_
      simp only [Sm.run, halv, ag _ _ _ h]
    · simp only [Sm.run, halv]
      split
      · exact .inl rfl
      · split
        · exact .inl rfl
        · refine .inr ⟨?_, ?_⟩
          · show j < (s.turns ++ [_]).length
            rw [List.length_append, List.length_singleton]
            omega
          · show j < (s.turns ++ [_]).length
            rw [List.length_append, List.length_singleton]
            omega
  | .tell e, o, p, s => by simp only [Sm.run]; exact .inl rfl
  | .say c, o, p, s => by simp only [Sm.run]; exact .inl rfl
  | .stop c, o, p, s => by simp only [Sm.run]; exact .inl rfl
theorem Sm.rels (ag : ∀ k v p, k < j → d1 k v p = d2 k v p) : ∀ (b : List Sm), Sm.oks b → ∀ (p : Int) (s : Cs), Rl j (Sm.runs d1 ways b p s) (Sm.runs d2 ways b p s)
  | [], _, p, s => by simp only [Sm.runs]; exact .inl rfl
  | t :: r, o, p, s => by
    simp only [Sm.oks] at o
    rcases Sm.rel ag t o.1 p s with h | ⟨h1, h2⟩
    · simp only [Sm.runs, ← h]
      cases e : Sm.run d1 ways t p s with
      | mk c s' =>
        cases c with
        | none => exact Sm.rels ag r o.2 _ s'
        | some c => exact .inl rfl
    · exact .inr ⟨Nat.lt_of_lt_of_le h1 (runs_ge1 t r o.2 p s), Nat.lt_of_lt_of_le h2 (runs_ge1 t r o.2 p s)⟩
end
end
/-- the same turns at the start, the same run -/
theorem runs_same {c1 c2 : List Int} {ways : Int → Option Int} (b : List Sm) (o : Sm.oks b) (p n : Int) (h : ∀ k, k < (Sm.runs (decC c1) ways b p (cs0 n)).2.turns.length → c1.getD k 0 = c2.getD k 0) : Sm.runs (decC c2) ways b p (cs0 n) = Sm.runs (decC c1) ways b p (cs0 n) := by
  rcases Sm.rels (d1 := decC c1) (d2 := decC c2) (ways := ways) (j := (Sm.runs (decC c1) ways b p (cs0 n)).2.turns.length) (fun k _ _ hk => h k hk) b o p (cs0 n) with e | ⟨h1, _⟩
  · exact e.symm
  · exact absurd h1 (Nat.lt_irrefl _)
theorem runs_other {c1 c2 : List Int} {ways : Int → Option Int} (b : List Sm) (o : Sm.oks b) (p n : Int) (j : Nat) (hj : j < (Sm.runs (decC c1) ways b p (cs0 n)).2.turns.length) (h : ∀ k, k < j → c1.getD k 0 = c2.getD k 0) :
    (Sm.runs (decC c2) ways b p (cs0 n)).2.turns.take (j + 1) = tk c2 (j + 1) := by
  have l : j < (Sm.runs (decC c2) ways b p (cs0 n)).2.turns.length := by
    rcases Sm.rels (d1 := decC c1) (d2 := decC c2) (ways := ways) (j := j) (fun k _ _ hk => h k hk) b o p (cs0 n) with e | ⟨_, h2⟩
    · rw [← e]; exact hj
    · exact h2
  rw [turns_tk b o p n]
  unfold tk
  rw [← List.map_take, List.take_range, Nat.min_eq_left l]
/-! ### how large the numbers are -/
theorem Ex.ev_le {env : Str → Int} {M : Nat} (hM : 99 ≤ M) (h : ∀ x, (env x).natAbs ≤ M) : ∀ {e : Ex}, e.ok → (e.ev env).natAbs ≤ M * 9 ^ e.deep
  | .num i, o => by
    obtain ⟨h1, h2⟩ := (show -99 ≤ i ∧ i ≤ 99 from o)
    show i.natAbs ≤ M * 9 ^ 1
    omega
  | .var x, o => by
    have := h x
    show (env x).natAbs ≤ M * 9 ^ 1
    omega
  | .plus a b, o => by
    have h1 := Ex.ev_le hM h (e := a) (show a.ok ∧ b.ok from o).1
    have h2 := Ex.ev_le hM h (e := b) (show a.ok ∧ b.ok from o).2
    show (a.ev env + b.ev env).natAbs ≤ M * 9 ^ (max a.deep b.deep + 1)
    have p1 : M * 9 ^ a.deep ≤ M * 9 ^ max a.deep b.deep := Nat.mul_le_mul_left _ (Nat.pow_le_pow_right (by decide) (Nat.le_max_left _ _))
    have p2 : M * 9 ^ b.deep ≤ M * 9 ^ max a.deep b.deep := Nat.mul_le_mul_left _ (Nat.pow_le_pow_right (by decide) (Nat.le_max_right _ _))
    rw [Nat.pow_succ, ← Nat.mul_assoc]
    omega
  | .minus a b, o => by
    have h1 := Ex.ev_le hM h (e := a) (show a.ok ∧ b.ok from o).1
    have h2 := Ex.ev_le hM h (e := b) (show a.ok ∧ b.ok from o).2
    show (a.ev env - b.ev env).natAbs ≤ M * 9 ^ (max a.deep b.deep + 1)
    have p1 : M * 9 ^ a.deep ≤ M * 9 ^ max a.deep b.deep := Nat.mul_le_mul_left _ (Nat.pow_le_pow_right (by decide) (Nat.le_max_left _ _))
    have p2 : M * 9 ^ b.deep ≤ M * 9 ^ max a.deep b.deep := Nat.mul_le_mul_left _ (Nat.pow_le_pow_right (by decide) (Nat.le_max_right _ _))
    rw [Nat.pow_succ, ← Nat.mul_assoc]
    omega
  | .times k a, o => by
    obtain ⟨k1, k2, oa⟩ := (show -9 ≤ k ∧ k ≤ 9 ∧ a.ok from o)
    have h1 := Ex.ev_le hM h (e := a) oa
    show (k * a.ev env).natAbs ≤ M * 9 ^ (a.deep + 1)
    rw [Int.natAbs_mul, Nat.pow_succ, ← Nat.mul_assoc, Nat.mul_comm]
    exact Nat.mul_le_mul h1 (by omega)
/-- a number, a text that a run may tell -/
def kOk (M : Nat) : Key → Prop
  | .inl i => i.natAbs ≤ M
  | .inr c => PyData.strOk c = true ∧ c.length ≤ 20
theorem kOk.mono {M M' : Nat} (h : M ≤ M') : ∀ {k : Key}, kOk M k → kOk M' k
  | .inl _, o => Nat.le_trans o h
  | .inr _, o => o
def BN : Nat := 10 ^ 60
structure Mag (w : Nat) (s : Cs) : Prop where
  env : ∀ x, (s.env x).natAbs ≤ BN * 729 ^ w
  said : ∀ k ∈ s.said, kOk (BN * 729 ^ w) k
  len : s.said.length ≤ w
theorem bn_mono {w w' : Nat} (h : w ≤ w') : BN * 729 ^ w ≤ BN * 729 ^ w' := Nat.mul_le_mul_left _ (Nat.pow_le_pow_right (by decide) h)
theorem bn_99 (w : Nat) : 99 ≤ BN * 729 ^ w := Nat.le_trans (by decide : 99 ≤ BN * 1) (Nat.mul_le_mul_left _ (Nat.one_le_pow _ _ (by decide)))
theorem Mag.mono {w w' : Nat} {s : Cs} (m : Mag w s) (h : w ≤ w') : Mag w' s := ⟨fun x => Nat.le_trans (m.env x) (bn_mono h), fun k hk => (m.said k hk).mono (bn_mono h), Nat.le_trans m.len h⟩
theorem Mag.ev {w : Nat} {s : Cs} (m : Mag w s) {e : Ex} (o : e.ok) (d : e.deep ≤ 3) : (e.ev s.env).natAbs ≤ BN * 729 ^ (w + 1) := by
  have h := Ex.ev_le (bn_99 w) m.env o
  refine Nat.le_trans h ?_
  rw [Nat.pow_succ, ← Nat.mul_assoc]
  exact Nat.mul_le_mul_left _ (Nat.le_trans (Nat.pow_le_pow_right (by decide) d) (by decide))
theorem setE_le {env : Str → Int} {x : Str} {v : Int} {M : Nat} (h : ∀ x, (env x).natAbs ≤ M) (hv : v.natAbs ≤ M) : ∀ y, (setE env x v y).natAbs ≤ M := by
  intro y
  unfold setE
  split
  · exact hv
  · exact h y
section
variable {dec : Nat → Int → Int → Int} {ways : Int → Option Int}
theorem halv_le (hd : ∀ k v p, dec k v p = 0 ∨ dec k v p = 1) (hw : ∀ p c, ways p = some c → c = 0 ∨ c = 1) (s : Cs) (v p : Int) : (halv dec ways s v p).1.natAbs ≤ v.natAbs := by
  unfold halv
  split
  · show (v / 2).natAbs ≤ _
    omega
  · split
    · rename_i c hc
      have := hw p c hc
      show (v / 2 + c).natAbs ≤ _
      omega
    · have := hd s.turns.length v p
      show (v / 2 + dec s.turns.length v p).natAbs ≤ _
      omega
theorem halv_said (s : Cs) (v p : Int) : (halv dec ways s v p).2.said = s.said := by
  unfold halv
  split
  · rfl
  · split <;> rfl
theorem runs_mag (hd : ∀ k v p, dec k v p = 0 ∨ dec k v p = 1) (hw : ∀ p c, ways p = some c → c = 0 ∨ c = 1) (b : List Sm) (o : Sm.oks b) (p : Int) (s : Cs) (m : Mag 0 s) : Mag (Sm.wts b) (Sm.runs dec ways b p s).2 := by
  have := Sm.invs (J := fun w _ s' => Mag w s') (dec := dec) (ways := ways) (fun _ _ _ _ _ j hw _ => j.mono hw) (fun st hp ho p w h s' j => by
    cases st with
    | ite _ _ _ => exact hp.elim
    | rep _ _ => exact hp.elim
    | set x e =>
      simp only [Sm.ok] at ho
      simp only [Sm.run]
      have j' := j.mono (Nat.le_succ w)
      exact ⟨setE_le j'.env (j.ev ho.1.1 ho.1.2), j'.said, j'.len⟩
    | half x e =>
      simp only [Sm.ok] at ho
      simp only [Sm.run]
      have j' := j.mono (Nat.le_succ w)
      refine ⟨setE_le j'.env (Nat.le_trans (halv_le hd hw s' _ p) (j.ev ho.1.1 ho.1.2)), ?_, ?_⟩
      · show ∀ k ∈ (halv dec ways s' _ p).2.said, _
        rw [halv_said]
        exact j'.said
      · show (halv dec ways s' _ p).2.said.length ≤ _
        rw [halv_said]
        exact j'.len
    | tell e =>
      simp only [Sm.ok] at ho
      simp only [Sm.run]
      have j' := j.mono (Nat.le_succ w)
      refine ⟨j'.env, ?_, ?_⟩
      · intro k hk
        rcases List.mem_append.mp hk with h | h
        · exact j'.said k h
        · cases List.mem_singleton.mp h
          exact j.ev ho.1 ho.2
      · show (s'.said ++ [_]).length ≤ _
        have := j.len
        rw [List.length_append, List.length_singleton]
        omega
    | say c =>
      simp only [Sm.ok] at ho
      simp only [Sm.run]
      have j' := j.mono (Nat.le_succ w)
      refine ⟨j'.env, ?_, ?_⟩
      · intro k hk
        rcases List.mem_append.mp hk with h | h
        · exact j'.said k h
        · cases List.mem_singleton.mp h
          exact ho
      · show (s'.said ++ [_]).length ≤ _
        have := j.len
        rw [List.length_append, List.length_singleton]
        omega
    | stop c =>
      simp only [Sm.run]
      exact j.mono (Nat.le_succ w)) b o p 0 0 s m
  rw [Nat.zero_add] at this
  exact this
theorem iterN_word {Pz : Str → Prop} {f : Cs → Option Str × Cs} (h : ∀ s c, (f s).1 = some c → Pz c) : ∀ (k : Nat) (s : Cs) (c : Str), (iterN k f s).1 = some c → Pz c
  | 0, s, c, e => nomatch (show (none : Option Str) = some c from e)
  | k + 1, s, c, e => by
    rw [iterN] at e
    have h1 := h s
    cases z : f s with
    | mk d s' =>
      rw [z] at e h1
      cases d with
      | none => exact iterN_word h k s' c e
      | some d => exact h1 c e
mutual
theorem Sm.word : ∀ (t : Sm), t.ok → ∀ (p : Int) (s : Cs) (c : Str), (t.run dec ways p s).1 = some c → PyData.strOk c = true ∧ c.length ≤ 20
  | .ite t y n, o, p, s, c, e => by
    simp only [Sm.ok] at o
    simp only [Sm.run] at e
    by_cases hc : t.ev s.env = true
    · rw [if_pos hc] at e
      exact Sm.words y o.2.2.1 _ s c e
    · rw [if_neg hc] at e
      exact Sm.words n o.2.2.2 _ s c e
  | .rep k b, o, p, s, c, e => by
    simp only [Sm.ok] at o
    simp only [Sm.run] at e
    exact iterN_word (fun s c e => Sm.words b o.2 _ s c e) k s c e
  | .set x e', o, p, s, c, e => by simp only [Sm.run] at e; exact nomatch e
  | .half x e', o, p, s, c, e => by simp only [Sm.run] at e; exact nomatch e
  | .tell e', o, p, s, c, e => by simp only [Sm.run] at e; exact nomatch e
  | .say c', o, p, s, c, e => by simp only [Sm.run] at e; exact nomatch e
  | .stop c', o, p, s, c, e => by
    simp only [Sm.ok] at o
    simp only [Sm.run] at e
    cases e
    exact o
theorem Sm.words : ∀ (b : List Sm), Sm.oks b → ∀ (p : Int) (s : Cs) (c : Str), (Sm.runs dec ways b p s).1 = some c → PyData.strOk c = true ∧ c.length ≤ 20
  | [], _, p, s, c, e => by simp only [Sm.runs] at e; exact nomatch e
  | t :: r, o, p, s, c, e => by
    simp only [Sm.oks] at o
    have h1 := Sm.word t o.1 p s
    simp only [Sm.runs] at e
    cases z : Sm.run dec ways t p s with
    | mk d s' =>
      rw [z] at e h1
      cases d with
      | none => exact Sm.words r o.2 _ s' c e
      | some d => exact h1 c e
end
end
/-! ### what is told can be shown -/
def BM : Nat := 10 ^ 240
theorem bm_ok {w : Nat} (h : w ≤ 60) : BN * 729 ^ w < BM := Nat.lt_of_le_of_lt (bn_mono h) (by decide +kernel)
structure ROk (r : Option Str × Cs) : Prop where
  said : ∀ k ∈ r.2.said, kOk (BM - 1) k
  len : r.2.said.length ≤ 60
  word : ∀ c, r.1 = some c → PyData.strOk c = true ∧ c.length ≤ 20
  turns : ∀ i ∈ r.2.turns, i = 0 ∨ i = 1
  tlen : r.2.turns.length ≤ 4
theorem decC_01 {chs : List Int} (h : ∀ i ∈ chs, i = 0 ∨ i = 1) (k : Nat) (v p : Int) : decC chs k v p = 0 ∨ decC chs k v p = 1 := by
  show chs.getD k 0 = 0 ∨ chs.getD k 0 = 1
  rw [List.getD_eq_getElem?_getD]
  cases e : chs[k]? with
  | none => exact .inl rfl
  | some i => exact h i (List.mem_of_getElem? e)
theorem tk_01 {chs : List Int} (h : ∀ i ∈ chs, i = 0 ∨ i = 1) (n : Nat) : ∀ i ∈ tk chs n, i = 0 ∨ i = 1 := by
  intro i hi
  unfold tk at hi
  obtain ⟨k, _, rfl⟩ := List.mem_map.mp hi
  exact decC_01 h k 0 0
theorem noWay_01 : ∀ p c, noWay p = some c → c = 0 ∨ c = 1 := fun _ _ h => nomatch h
theorem runs_ok {chs : List Int} (h : ∀ i ∈ chs, i = 0 ∨ i = 1) {b : List Sm} (pr : PrOk b) {n : Int} (h1 : -BIG ≤ n) (h2 : n ≤ BIG) : ROk (Sm.runs (decC chs) noWay b 0 (cs0 n)) := by
  have hn : n.natAbs ≤ BN := by
    have e : (BN : Int) = BIG := by decide +kernel
    omega
  have he : ∀ x, ((cs0 n).env x).natAbs ≤ BN * 729 ^ 0 := by
    intro x
    show (env0 n x).natAbs ≤ _
    unfold env0
    rw [Nat.pow_zero, Nat.mul_one]
    split
    · exact hn
    · exact Nat.zero_le _
  have m : Mag (Sm.wts b) _ := runs_mag (dec := decC chs) (ways := noWay) (decC_01 h) noWay_01 b pr.ok 0 (cs0 n) ⟨he, (fun k hk => nomatch hk), Nat.le_refl _⟩
  have hb := bm_ok pr.wt
  refine ⟨fun k hk => (m.said k hk).mono (by omega), Nat.le_trans m.len pr.wt, fun c e => Sm.words b pr.ok 0 (cs0 n) c e, ?_, ?_⟩
  · rw [turns_tk b pr.ok 0 n]
    exact tk_01 h _
  · have := turns_le (dec := decC chs) (ways := noWay) b pr.ok 0 (cs0 n)
    have hh := pr.hv
    have e : (cs0 n).turns.length = 0 := rfl
    omega
theorem log_le {i : Int} (h : i.natAbs ≤ BM - 1) : i.natAbs.log2 < 900 := by
  by_cases z : i.natAbs = 0
  · rw [z]; decide
  · rw [Nat.log2_lt z]
    exact Nat.lt_of_le_of_lt h (by decide +kernel)
theorem kD_showable {k : Key} (h : kOk (BM - 1) k) : (kD k).showable = true := by
  cases k with
  | inl i =>
    show PyData.showable (.int i) = true
    simp only [PyData.showable, decide_eq_true_eq]
    have := log_le (show i.natAbs ≤ BM - 1 from h)
    omega
  | inr c => simp only [kD, PyData.showable]
theorem kDs_showable : ∀ {ks : List Key}, (∀ k ∈ ks, kOk (BM - 1) k) → PyData.showableAll (ks.map kD) = true
  | [], _ => by simp only [List.map_nil, PyData.showableAll]
  | k :: r, h => by
    simp only [List.map_cons, PyData.showableAll, kD_showable (h k List.mem_cons_self), kDs_showable (fun x hx => h x (List.mem_cons_of_mem _ hx))]
    rfl
def ty01 (l : List Int) : Prop := ∀ i ∈ l, i = 0 ∨ i = 1
theorem key01 {l : List Int} (h : ty01 l) : ∀ k ∈ l.map (fun i => (Sum.inl i : Key)), kOk (BM - 1) k := by
  intro k hk
  obtain ⟨i, hi, rfl⟩ := List.mem_map.mp hk
  show i.natAbs ≤ BM - 1
  have hb : 2 ≤ BM - 1 := by decide +kernel
  rcases h i hi with rfl | rfl
  · exact Nat.zero_le _
  · exact Nat.le_trans (by decide) hb
theorem key01D (l : List Int) : (l.map (fun i => (Sum.inl i : Key))).map kD = l.map PyData.int := by
  rw [List.map_map]
  rfl
theorem kD_short {k : Key} (h : kOk (BM - 1) k) : (kD k).leavesShort 241 = true := by
  cases k with
  | inl i =>
    show PyData.leavesShort 241 (.int i) = true
    simp only [PyData.leavesShort, decide_eq_true_eq]
    have hi : i.natAbs < 10 ^ 240 := by
      have : 0 < BM := by decide +kernel
      exact Nat.lt_of_le_of_lt (show i.natAbs ≤ BM - 1 from h) (by show BM - 1 < BM; omega)
    have e := int_text_length_le10 (k := 240) (by decide) hi
    show (Str.ofString (toString i)).length ≤ 241
    rw [ofString_length]
    exact e
  | inr c =>
    show PyData.leavesShort 241 (.str c) = true
    exact PyData.leavesShort_of_canLay0 241 (.str c) (by simp only [PyData.canLay0]; exact h.1) (by simp only [PyData.intsShort])
theorem kDs_short : ∀ {ks : List Key}, (∀ k ∈ ks, kOk (BM - 1) k) → PyData.leavesShortAll 241 (ks.map kD) = true
  | [], _ => by simp only [List.map_nil, PyData.leavesShortAll]
  | k :: r, h => by
    simp only [List.map_cons, PyData.leavesShortAll, kD_short (h k List.mem_cons_self), kDs_short (fun x hx => h x (List.mem_cons_of_mem _ hx))]
    rfl
theorem kD_weight {k : Key} (h : kOk (BM - 1) k) : (kD k).weight ≤ 1000 := by
  cases k with
  | inl i =>
    show PyData.weight (.int i) ≤ 1000
    simp only [PyData.weight]
    have := log_le (show i.natAbs ≤ BM - 1 from h)
    split <;> omega
  | inr c =>
    show PyData.weight (.str c) ≤ 1000
    simp only [PyData.weight]
    exact Nat.le_trans h.2 (by decide)
theorem kDs_weight : ∀ {ks : List Key}, (∀ k ∈ ks, kOk (BM - 1) k) → PyData.weightAll (ks.map kD) ≤ 1001 * ks.length
  | [], _ => by simp only [List.map_nil, PyData.weightAll]; exact Nat.zero_le _
  | k :: r, h => by
    have h1 := kD_weight (h k List.mem_cons_self)
    have h2 := kDs_weight (fun x hx => h x (List.mem_cons_of_mem _ hx))
    simp only [List.map_cons, PyData.weightAll, List.length_cons]
    omega
theorem kD_depth (k : Key) : (kD k).depth = 0 := by cases k <;> simp only [kD, PyData.depth]
theorem kDs_depth : ∀ ks : List Key, PyData.depthAll (ks.map kD) = 0
  | [] => by simp only [List.map_nil, PyData.depthAll]
  | k :: r => by simp only [List.map_cons, PyData.depthAll, kD_depth, kDs_depth r]; rfl
/-- data that repr may be asked of -/
structure Shw (d : PyData) : Prop where
  sh : d.showable = true
  sz : d.shown.length ≤ sizeLine
  dp : d.depth ≤ 60
theorem shw_of {d : PyData} {W : Nat} (h1 : d.showable = true) (h2 : d.leavesShort 241 = true) (h3 : d.weight ≤ W) (h4 : (243 : Nat) * W + 241 ≤ 16777216) (h5 : d.depth ≤ 60) : Shw d := by
  refine ⟨h1, Nat.le_trans (PyData.shown_le 241 (by decide) d h2) ?_, h5⟩
  refine Nat.le_trans (Nat.add_le_add_right (Nat.mul_le_mul_left 243 h3) 241) ?_
  exact Nat.le_trans h4 (by decide +kernel)
theorem kDs_shw {ks : List Key} (h : ∀ k ∈ ks, kOk (BM - 1) k) (l : ks.length ≤ 60) : Shw (.tuple (ks.map kD)) := by
  refine shw_of (W := 60060) ?_ ?_ ?_ (by decide) ?_
  · simp only [PyData.showable]; exact kDs_showable h
  · simp only [PyData.leavesShort]; exact kDs_short h
  · have := kDs_weight h
    simp only [PyData.weight]
    omega
  · simp only [PyData.depth, kDs_depth]
    decide
theorem ints_shw {l : List Int} (h : ty01 l) (hl : l.length ≤ 60) : Shw (.tuple (l.map PyData.int)) := by
  rw [← key01D]
  exact kDs_shw (key01 h) (by rw [List.length_map]; exact hl)
theorem int_shw {i : Int} (h : i = 0 ∨ i = 1) : Shw (.int i) := by
  rcases h with rfl | rfl <;> exact ⟨by decide +kernel, by decide +kernel, by decide +kernel⟩
theorem res_shw {r : Option Str × Cs} (o : ROk r) : Shw (resD r) := by
  have kt := key01 o.turns
  have wd : (wD r.1).showable = true ∧ (wD r.1).leavesShort 241 = true ∧ (wD r.1).weight ≤ 1000 ∧ (wD r.1).depth = 0 := by
    have h := o.word
    cases e : r.1 with
    | none => exact ⟨by simp only [wD, PyData.showable], by simp only [wD, PyData.leavesShort], by simp only [wD, PyData.weight]; decide, by simp only [wD, PyData.depth]⟩
    | some c =>
      rw [e] at h
      have k := h c rfl
      exact ⟨kD_showable (k := .inr c) k, kD_short (k := .inr c) k, kD_weight (k := .inr c) k, kD_depth (.inr c)⟩
  have w1 := kDs_weight o.said
  have w2 := kDs_weight kt
  have l1 := o.len
  have l2 := o.tlen
  rw [List.length_map] at w2
  unfold resD
  rw [← key01D]
  refine shw_of (W := 66000) ?_ ?_ ?_ (by decide) ?_
  · simp only [PyData.showable, PyData.showableAll, kDs_showable o.said, kDs_showable kt, wd.1]
    rfl
  · simp only [PyData.leavesShort, PyData.leavesShortAll, kDs_short o.said, kDs_short kt, wd.2.1]
    rfl
  · simp only [PyData.weight, PyData.weightAll]
    omega
  · simp only [PyData.depth, PyData.depthAll, kDs_depth, wd.2.2.2]
    decide
end EH
namespace EH
open PySem L2
section
variable {X : Cx}
def rReprT : List V → Hp → VK → Prop := fun xs H Q => ∃ x d, xs = [x] ∧ Tr H d x ∧ Shw d ∧ ∀ z, z = d.shown → Q (.str z) H
theorem call_reprT (fr : Free X.A) (hu : X.A.units + 64 < cLine) : CallR X (.builtin "repr") rReprT := CallR.imp (call_reprD fr hu) fun xs H Q ⟨x, d, e, t, s, q⟩ => ⟨x, d, e, Tr.dp d x t, s.sh, s.sz, s.dp, q _ rfl⟩
theorem cr_allK {K : PySem.W.Frag} (hK : X.K = K) (hc : X.calm = true) : CallR X (.builtin "all") (rAll K) := hK ▸ cr_all hc
end
/-! ### short: the trailing noughts go -/
def spShort : Sp := fun vs H Q _ => ∃ (p : Addr) (cs : List Int), vs = [.ref p] ∧ H p = some (.tup (cs.map V.int)) ∧ cs.length ≤ 60 ∧ ty01 cs ∧
  ∀ (p' : Addr) (cs' : List Int) (H' : Hp), H' p' = some (.tup (cs'.map V.int)) → (∀ k, cs'.getD k 0 = cs.getD k 0) → cs'.length ≤ 60 → ty01 cs' → Kp [] H H' → Q (.ref p') H'
theorem ints_shaped {cs : List Int} : SeqAt.shaped (.tuple (cs.map PyData.int)) = true := by
  have h1 : ∀ cs : List Int, PyData.canLayAll0 (cs.map PyData.int) = true := by
    intro cs
    induction cs with
    | nil => simp [PyData.canLayAll0]
    | cons x r ih => simp [PyData.canLayAll0, PyData.canLay0, ih]
  have h2 : ∀ cs : List Int, PyData.depthAll (cs.map PyData.int) = 0 := by
    intro cs
    induction cs with
    | nil => simp [PyData.depthAll]
    | cons x r ih => simp [PyData.depthAll, PyData.depth, ih]
  exact shaped_of (by simp only [PyData.canLay0]; exact h1 cs) (by simp only [PyData.depth, h2]; decide)
theorem ints_ne0 : ∀ cs : List Int, (!PyData.eqv (.tuple (cs.map PyData.int)) (.tuple [])) = !cs.isEmpty
  | [] => by simp [PyData.eqv, PyData.eqvAll]
  | x :: r => by simp [PyData.eqv, PyData.eqvAll]
theorem cut_last (xs : List V) : cutV xs none (some (-1)) = xs.dropLast := by
  unfold cutV
  rw [HT.sIx_none, List.drop_zero, List.dropLast_eq_take]
  show xs.take ((-1 + (xs.length : Int)).toNat - 0) = _
  rw [show (-1 + (xs.length : Int)).toNat - 0 = xs.length - 1 by omega]
theorem cut_to (xs : List V) (k : Nat) : cutV xs none (some (k : Int)) = xs.take k := by
  unfold cutV
  rw [HT.sIx_none, List.drop_zero, HT.sIx_nat]
  rw [Nat.sub_zero, ← List.take_take, List.take_length]
theorem getD_dropLast {cs : List Int} (h : cs.getLast? = some 0) (k : Nat) : cs.dropLast.getD k 0 = cs.getD k 0 := by
  obtain ⟨ys, rfl⟩ := List.getLast?_eq_some_iff.mp h
  rw [List.dropLast_concat, List.getD_eq_getElem?_getD, List.getD_eq_getElem?_getD]
  by_cases l : k < ys.length
  · rw [List.getElem?_append_left l]
  · rw [List.getElem?_append_right (by omega), List.getElem?_eq_none (by omega)]
    by_cases e : k - ys.length = 0
    · rw [e]; rfl
    · rw [List.getElem?_eq_none (by simp only [List.length_singleton]; omega)]
theorem map_dropLast (cs : List Int) : (cs.map V.int).dropLast = cs.dropLast.map V.int := by rw [List.map_dropLast]
theorem tr_ints {H : Hp} {p : Addr} {cs : List Int} (h : H p = some (.tup (cs.map V.int))) : Tr H (.tuple (cs.map PyData.int)) (.ref p) := mk_tup h (trs_int cs)
def spRight : Sp := fun vs H Q _ => ∃ (a c : Addr) (m : Int) (v : V) (b : List Sm) (n : Int), vs = [.ref a, v, .int n] ∧ Deck H a c m ∧ m ≤ 500000000 ∧ Tr H (.tuple (Sm.ds b)) v ∧ PrOk b ∧ -BIG ≤ n ∧ n ≤ BIG ∧
  ∀ (H' : Hp) (m' : Int), m ≤ m' → m' ≤ m + 100 → Deck H' a c m' → Kp [a, c] H H' → Q (.bl true) H'
theorem ints_of {H : Hp} : ∀ {ts : List Int} {vs : List V}, TrAll H (ts.map PyData.int) vs → vs = ts.map V.int
  | [], vs, h => by simp only [List.map_nil, TrAll] at h; subst h; rfl
  | t :: r, vs, h => by
    simp only [List.map_cons, TrAll] at h
    obtain ⟨v, ws, rfl, h1, h2⟩ := h
    cases tr_int h1
    rw [ints_of h2]
    rfl
theorem tk_getD {chs : List Int} {n k : Nat} (h : k < n) : (tk chs n).getD k 0 = chs.getD k 0 := by
  unfold tk
  rw [List.getD_eq_getElem?_getD, List.getElem?_map, List.getElem?_range h]
  rfl
theorem getD_app {a b : List Int} {k : Nat} (h : k < a.length) : (a ++ b).getD k 0 = a.getD k 0 := by
  rw [List.getD_eq_getElem?_getD, List.getD_eq_getElem?_getD, List.getElem?_append_left h]
theorem tk_self (c : List Int) : tk c c.length = c := by
  refine List.ext_getElem? fun k => ?_
  unfold tk
  rw [List.getElem?_map]
  by_cases h : k < c.length
  · rw [List.getElem?_range h, List.getElem?_eq_getElem h]
    show some (c.getD k 0) = _
    rw [List.getD_eq_getElem?_getD, List.getElem?_eq_getElem h]
    rfl
  · rw [List.getElem?_eq_none (by rw [List.length_range]; omega), List.getElem?_eq_none (by omega)]
    rfl
theorem ty01.take {l : List Int} (h : ty01 l) (k : Nat) : ty01 (l.take k) := fun i hi => h i (List.mem_of_mem_take hi)
theorem ty01.flip {l : List Int} (h : ty01 l) {t : Int} (ht : t = 0 ∨ t = 1) : ty01 (l ++ [1 - t]) := by
  intro i hi
  rcases List.mem_append.mp hi with z | z
  · exact h i z
  · cases List.mem_singleton.mp z
    omega
end EH
namespace EH
open PySem PySem.Spec PyProof.Rows L2
/-! ### sorted of a tuple of data, x in a list of data, repr of a list -/
section
variable {X : Cx}
def rNotInT : R2 := fun x y H Q => ∃ a vs d ds, y = .ref a ∧ H a = some (.lst vs) ∧ TrAll H ds vs ∧ Tr H d x ∧ SeqAt.shaped d = true ∧ SeqAt.shaped (.list ds) = true ∧ Q (.bl (!ds.any fun z => PyData.eqv z d)) H
theorem op_notInT (hu : X.A.units + 65 < cLine) : OpR X (compareOp .NotIn) rNotInT := OpR.imp (op_notInD hu) fun x y H Q ⟨a, vs, d, ds, e, h, t, td, s1, s2, q⟩ => by
  subst e
  exact ⟨d, ds, Tr.dp d x td, .lst (SqL.of h) (TrAll.dp ds vs t), s1, s2, q⟩
def rReprLs : List V → Hp → VK → Prop := fun xs H Q => ∃ a vs ds, xs = [.ref a] ∧ H a = some (.lst vs) ∧ TrAll H ds vs ∧ Shw (.list ds) ∧ ∀ z, z = (PyData.list ds).shown → Q (.str z) H
theorem call_reprLs (fr : Free X.A) (hu : X.A.units + 64 < cLine) : CallR X (.builtin "repr") rReprLs := CallR.imp (call_reprD fr hu) fun xs H Q ⟨a, vs, ds, e, h, t, s, q⟩ => ⟨.ref a, .list ds, e, .lst (SqL.of h) (TrAll.dp ds vs t), s.sh, s.sz, s.dp, q _ rfl⟩
def rSortD : List V → Hp → VK → Prop := fun xs H Q => ∃ a vs ds, xs = [.ref a] ∧ H a = some (.tup vs) ∧ TrAll H ds vs ∧ PySem.W.AllAlike ds ∧ PySem.W.Sortable ds ∧ (∀ d ∈ ds, d.depth ≤ 60) ∧
  ∀ p ws H', H' p = some (.lst ws) → TrAll H' (ds.mergeSort (PySem.W.dataLe false id)) ws → Kp [] H H' → Q (.ref p) H'
theorem each_tr {H : Hp} : ∀ {ds : List PyData} {vs : List V} {us : List Value}, TrAll H ds vs → Vals vs us → PySem.W.EachIs (fun u d => ∃ v, RelV v u ∧ Tr H d v) us ds
  | [], vs, us, t, r => by
    simp only [TrAll] at t
    subst t
    cases r
    exact .nil
  | d :: ds, vs, us, t, r => by
    simp only [TrAll] at t
    obtain ⟨v, ws, rfl, h1, h2⟩ := t
    cases r with
    | cons r1 r2 => exact .cons ⟨v, r1, h1⟩ (each_tr h2 r2)
theorem tr_each {H : Hp} : ∀ {ds : List PyData} {us : List Value}, PySem.W.EachIs (fun u d => ∃ v, RelV v u ∧ Tr H d v) us ds → ∃ vs, Vals vs us ∧ TrAll H ds vs
  | [], us, e => by
    cases e
    exact ⟨[], .nil, trs_nil⟩
  | d :: ds, us, e => by
    cases e with
    | cons h t =>
      obtain ⟨v, r, t1⟩ := h
      obtain ⟨vs, r2, t2⟩ := tr_each t
      exact ⟨v :: vs, .cons r r2, trs_cons t1 t2⟩
theorem cr_sortedD (hu : X.A.units + 64 < cLine) : CallR X (.builtin "sorted") rSortD := by
  intro pins s σ H xs us Q I r h
  obtain ⟨a, vs, ds, rfl, ha, t, al, so, hd, q⟩ := h
  rw [Vals.ref1 r]
  obtain ⟨its, rv, ⟨o, ho, hc, n, hdat⟩, hz⟩ := I.tuple (SqT.of ha)
  have hL : its.length ≤ sizeLine := by rw [← rv.length]; exact hz
  refine Calls.call_function_entry PyProof.Rows.kind_sorted PyProof.Rows.plain_sorted PyProof.Rows.entry_sorted (PyProof.Rows.args_sorted1 _) ?_
  unfold Builtin.«sorted»
  refine wpAny_bind (m := checkCount "sorted" 1 1 _) (wpAny_pure ?_)
  refine wpAny_bind (wpAny_collect_seq a (.inr rfl) ho hc hdat (fun h1 kp1 => ?_) (by rw [List.size_toArray]; exact hL))
  show wpAny _ _ _ _ _ _
  refine wpAny_bind (wpAny_newList ?_ (by simpa using hL))
  have hoL : (h1.push (seqObj "list" its.toArray 0)).get? h1.objs.size = some (seqObj "list" its.toArray 0) := Heap.get?_push_size _ rfl
  have old : ∀ b o, s.heap.get? b = some o → b ≠ h1.objs.size ∧ (h1.push (seqObj "list" its.toArray 0)).get? b = some o := fun b o e =>
    ⟨Nat.ne_of_lt (Heap.lt_size (kp1 b o e)), Heap.get?_push_of_some _ (kp1 b o e)⟩
  have er : PySem.W.EachIs (fun v (d : PyData) => ∃ as, Reads (PySem.W.sortingHeap (h1.push (seqObj "list" its.toArray 0)) h1.objs.size its) v (id d) as) its ds := (each_tr t rv).mono fun u d ⟨v, r, td⟩ => by
    obtain ⟨as, rd⟩ := Dp.reads I d v u (Tr.dp d v td) r
    exact ⟨as, PyProof.Rows.Reads.keeps (fun b o e => PySem.W.sortingHeap_old (old b o e).1 (old b o e).2) rd⟩
  have al' : PySem.W.AllAlike (ds.map id) := by rw [List.map_id]; exact al
  have so' : PySem.W.Sortable (ds.map id) := by rw [List.map_id]; exact so
  have no1 : s.heap.get? h1.objs.size = none := by
    cases e : s.heap.get? h1.objs.size with
    | none => rfl
    | some o => exact absurd rfl (old _ o e).1
  have no2 : H h1.objs.size = none := I.hok.gone no1
  refine wpAny_bind (wpAny_holding (wpAny_call_entry slot_list_sort ⟨_, hoL, rfl⟩ entry_list_sort (PySem.W.list_sort_vals (κ := PySem.W.dataKind (PySem.W.sortingHeap (h1.push (seqObj "list" its.toArray 0)) h1.objs.size its) (ds.map id)) hoL
    (PySem.W.SortsAt.data (s := { s with heap := PySem.W.sortingHeap (h1.push (seqObj "list" its.toArray 0)) h1.objs.size its }) (PySem.W.each_map (R := fun v d => ∃ as, Reads (PySem.W.sortingHeap (h1.push (seqObj "list" its.toArray 0)) h1.objs.size its) v d as) id er) al' so' ?_) hL ⟨_, rfl, ?_⟩) (args_list_sort _)))
  · intro d hd2
    rw [List.map_id] at hd2
    have := hd d hd2
    show X.A.units + 1 + 1 + d.depth < cLine
    omega
  refine wpAny_pure ⟨_, rfl, ?_⟩
  have ev := PySem.W.sortVals_data (h' := PySem.W.sortingHeap (h1.push (seqObj "list" its.toArray 0)) h1.objs.size its) (R := fun u (d : PyData) => ∃ v, RelV v u ∧ Tr H d v) (enc := id) false (each_tr t rv) er al'
  obtain ⟨ws, rw1, tw⟩ := tr_each ev
  obtain ⟨ep, he⟩ := sortedHeap_at (h := h1.push (seqObj "list" its.toArray 0)) (out := (PySem.W.sortVals (PySem.W.dataKind (PySem.W.sortingHeap (h1.push (seqObj "list" its.toArray 0)) h1.objs.size its) (ds.map id)) false its its).toArray) hoL
  have hlen : ws.length ≤ sizeLine := by
    rw [rw1.length, PySem.W.sortVals_length false rfl]
    exact hL
  have kk : Kp [] H (upd H h1.objs.size (.lst ws)) := Kp.new no2
  refine ⟨.ref _, upd H h1.objs.size (.lst ws), I.laidN (t' := s.toks) (fun b o e => ?_) no1 no2 ⟨hlen, _, ep, rw1, he⟩, rfl, q _ ws _ upd_same (kk.trAll tw) kk⟩
  rw [sortedHeap_old (old b o e).1 (Heap.lt_size (old b o e).2)]
  exact (old b o e).2
end
end EH
namespace EH
open PySem L2
/-! ### numbers halved again and again by a rule -/
def hvR (r : Rul) (n : Int) : Int := if n % 2 = 0 then n / 2 else n / 2 + r.go n 1
def halfN (r : Rul) : Nat → Int → Int
  | 0, n => n
  | k + 1, n => halfN r k (hvR r n)
def pb50 (k : Nat) : List Sm := [.rep k [.half "n" (.var "n")], .tell (.var "n")]
theorem iter_half (rl : Rul) : ∀ (k : Nat) (s : Cs), ∃ s', iterN k (fun s => Sm.runs (fun _ v p => rl.go v p) noWay [.half "n" (.var "n")] 1 s) s = (none, s') ∧ s'.env "n" = halfN rl k (s.env "n") ∧ s'.said = s.said
  | 0, s => ⟨s, rfl, rfl, rfl⟩
  | k + 1, s => by
    have step : Sm.runs (fun _ v p => rl.go v p) noWay [.half "n" (.var "n")] 1 s = (none, { (halv (fun _ v p => rl.go v p) noWay s (s.env "n") 1).2 with env := setE s.env "n" (halv (fun _ v p => rl.go v p) noWay s (s.env "n") 1).1 }) := by
      simp only [Sm.runs, Sm.run, Ex.ev]
    have e1 : (halv (fun _ v p => rl.go v p) noWay s (s.env "n") 1).1 = hvR rl (s.env "n") := by
      unfold halv hvR
      split
      · rfl
      · rfl
    have e2 : (halv (fun _ v p => rl.go v p) noWay s (s.env "n") 1).2.said = s.said := by
      unfold halv
      split
      · rfl
      · rfl
    obtain ⟨s', h1, h2, h3⟩ := iter_half rl k { (halv (fun _ v p => rl.go v p) noWay s (s.env "n") 1).2 with env := setE s.env "n" (halv (fun _ v p => rl.go v p) noWay s (s.env "n") 1).1 }
    refine ⟨s', ?_, ?_, ?_⟩
    · rw [iterN, step]
      exact h1
    · rw [h2, halfN, ← e1]
      show halfN rl k (setE s.env "n" (halv (fun _ v p => rl.go v p) noWay s (s.env "n") 1).1 "n") = _
      unfold setE
      rw [if_pos rfl]
    · rw [h3]
      exact e2
theorem run50 (rl : Rul) (k : Nat) (n : Int) : (Sm.runs (fun _ v p => rl.go v p) noWay (pb50 k) 0 (cs0 n)).2.said = [Sum.inl (halfN rl k n)] := by
  obtain ⟨s', h1, h2, h3⟩ := iter_half rl k (cs0 n)
  have e : Sm.run (fun _ v p => rl.go v p) noWay (.rep k [.half "n" (.var "n")]) 0 (cs0 n) = (none, s') := by
    simp only [Sm.run]
    exact h1
  unfold pb50
  rw [Sm.runs, e]
  simp only [Sm.runs, Sm.run, Ex.ev, h2, h3]
  show ([] : List Key) ++ [Sum.inl (halfN rl k (env0 n "n"))] = _
  rw [env0, if_pos rfl]
  rfl
theorem pb50_ok {k : Nat} (h : k ≤ 4) : Sm.oks (pb50 k) ∧ Sm.wts (pb50 k) ≤ 100000 ∧ Sm.pls (pb50 k) ≤ 1000000 ∧ Sm.nests (pb50 k) ≤ 1 := by
  have nm : NmOk "n" := ⟨by decide +kernel, by decide +kernel⟩
  refine ⟨?_, ?_, ?_, ?_⟩
  · simp only [pb50, Sm.oks, Sm.ok, Ex.ok, Ex.deep]
    exact ⟨⟨by omega, ⟨⟨nm, by decide⟩, nm⟩, trivial⟩, ⟨nm, by decide⟩, trivial⟩
  · simp only [pb50, Sm.wts, Sm.wt]; omega
  · simp only [pb50, Sm.pls, Sm.pl]; omega
  · simp only [pb50, Sm.nests, Sm.nest]; omega
/-! rows of rules -/
def RsAt (c : RC) (H : Hp) : List Rul → List V → Prop
  | [], xs => xs = []
  | r :: rs, xs => ∃ a vs, xs = .ref a :: vs ∧ RAt c H r a ∧ RsAt c H rs vs
theorem RsAt.kp0 {c : RC} {H H' : Hp} (k : Kp [] H H') : ∀ {rs : List Rul} {xs : List V}, RsAt c H rs xs → RsAt c H' rs xs
  | [], xs, h => h
  | r :: rs, xs, ⟨a, vs, e, h1, h2⟩ => ⟨a, vs, e, h1.kp0 k, RsAt.kp0 k h2⟩
theorem RsAt.length {c : RC} {H : Hp} : ∀ {rs : List Rul} {xs : List V}, RsAt c H rs xs → xs.length = rs.length
  | [], xs, h => by rw [show xs = [] from h]; rfl
  | r :: rs, xs, ⟨a, vs, e, h1, h2⟩ => by rw [e, List.length_cons, List.length_cons, RsAt.length h2]
theorem RsAt.get {c : RC} {H : Hp} : ∀ {rs : List Rul} {xs : List V} {i : Nat} {r : Rul}, RsAt c H rs xs → rs[i]? = some r → ∃ a, xs[i]? = some (.ref a) ∧ RAt c H r a
  | [], xs, i, r, h, e => by simp at e
  | r :: rs, xs, 0, r', ⟨a, vs, e, h1, h2⟩, er => by cases er; exact ⟨a, by rw [e]; rfl, h1⟩
  | r :: rs, xs, i + 1, r', ⟨a, vs, e, h1, h2⟩, er => by
    obtain ⟨b, eb, hb⟩ := RsAt.get (i := i) h2 er
    exact ⟨b, by rw [e]; exact eb, hb⟩
def spEnd (c : RC) : Sp := fun vs H Q _ => ∃ (k : Nat) (num : Int) (a : Addr) (rl : Rul), vs = [.int (k : Int), .int num, .ref a] ∧ k ≤ 4 ∧ RAt c H rl a ∧ rl.dp ≤ 1 ∧ ∀ H', Kp [] H H' → Q (.int (halfN rl k num)) H'
def spEvenRight : Sp := fun vs H Q _ => ∃ (n : Int), vs = [.int n] ∧ -BIG ≤ n ∧ n ≤ BIG ∧ ∀ H', Kp [] H H' → Q (.bl true) H'
/-! the numbers -/
theorem hv_down (n : Int) : hvR .down n = n / 2 := by unfold hvR Rul.go; split <;> omega
theorem hv_up (n : Int) : hvR .up n = 0 - (0 - n) / 2 := by unfold hvR Rul.go; split <;> omega
theorem hv_zero (n : Int) : hvR .zero n = if n < 0 then 0 - (0 - n) / 2 else n / 2 := by
  unfold hvR Rul.go b01
  split <;> split <;> omega
theorem hv_away (n : Int) : hvR .away n = if n > 0 then 0 - (0 - n) / 2 else n / 2 := by
  unfold hvR Rul.go b01
  split <;> split <;> omega
theorem hv_even (n : Int) : hvR .even n = if n % 4 = 3 then n / 2 + 1 else n / 2 := by
  unfold hvR Rul.go b01
  split <;> split <;> omega
theorem hv_odd (n : Int) : hvR .odd n = if n % 4 = 1 then n / 2 + 1 else n / 2 := by
  unfold hvR Rul.go b01
  split <;> split <;> omega
theorem down_N : ∀ (k : Nat) (n : Int), halfN .down k n = n / 2 ^ k
  | 0, n => by simp [halfN]
  | k + 1, n => by
    rw [halfN, hv_down, down_N k]
    rw [Int.pow_succ, Int.mul_comm, ← Int.ediv_ediv_of_nonneg (by decide)]
theorem up_N : ∀ (k : Nat) (n : Int), halfN .up k n = 0 - (0 - n) / 2 ^ k
  | 0, n => by simp [halfN]
  | k + 1, n => by
    rw [halfN, hv_up, up_N k]
    rw [Int.pow_succ, Int.mul_comm, ← Int.ediv_ediv_of_nonneg (by decide)]
    congr 1
    congr 1
    omega
theorem zero_N : ∀ (k : Nat) (n : Int), halfN .zero k n = if n < 0 then 0 - (0 - n) / 2 ^ k else n / 2 ^ k
  | 0, n => by simp [halfN]
  | k + 1, n => by
    rw [halfN, zero_N k, hv_zero]
    rw [Int.pow_succ, Int.mul_comm, ← Int.ediv_ediv_of_nonneg (by decide), ← Int.ediv_ediv_of_nonneg (by decide)]
    by_cases h : n < 0
    · rw [if_pos h, if_pos h]
      by_cases z : 0 - (0 - n) / 2 < 0
      · rw [if_pos z]
        congr 1
        congr 1
        omega
      · have e : (0 - n) / 2 = 0 := by omega
        rw [if_neg z, e]
        simp
    · rw [if_neg h, if_neg h, if_neg (by omega)]
theorem away_N : ∀ (k : Nat) (n : Int), halfN .away k n = if n > 0 then 0 - (0 - n) / 2 ^ k else n / 2 ^ k
  | 0, n => by simp [halfN]
  | k + 1, n => by
    rw [halfN, away_N k, hv_away]
    rw [Int.pow_succ, Int.mul_comm, ← Int.ediv_ediv_of_nonneg (by decide), ← Int.ediv_ediv_of_nonneg (by decide)]
    by_cases h : n > 0
    · rw [if_pos h, if_pos h, if_pos (by omega)]
      congr 1
      congr 1
      omega
    · rw [if_neg h, if_neg h]
      by_cases z : n / 2 > 0
      · omega
      · rw [if_neg z]
/-- the mirrored rule -/
def mir50 : Rul → Rul
  | .up => .down
  | .down => .up
  | r => r
theorem hv_mir {r : Rul} (h : r ∈ [Rul.even, .odd, .zero, .away, .up, .down]) (n : Int) : hvR (mir50 r) (0 - n) = 0 - hvR r n := by
  simp only [List.mem_cons, List.not_mem_nil, or_false] at h
  rcases h with rfl | rfl | rfl | rfl | rfl | rfl
  · show hvR .even (0 - n) = _
    rw [hv_even, hv_even]
    split <;> split <;> omega
  · show hvR .odd (0 - n) = _
    rw [hv_odd, hv_odd]
    split <;> split <;> omega
  · show hvR .zero (0 - n) = _
    rw [hv_zero, hv_zero]
    split <;> split <;> omega
  · show hvR .away (0 - n) = _
    rw [hv_away, hv_away]
    split <;> split <;> omega
  · show hvR .down (0 - n) = _
    rw [hv_down, hv_up]
    omega
  · show hvR .up (0 - n) = _
    rw [hv_down, hv_up]
    omega
theorem mir_N {r : Rul} (h : r ∈ [Rul.even, .odd, .zero, .away, .up, .down]) : ∀ (k : Nat) (n : Int), halfN (mir50 r) k (0 - n) = 0 - halfN r k n
  | 0, n => rfl
  | k + 1, n => by rw [halfN, halfN, hv_mir h, mir_N h k]
theorem hv_bd (r : Rul) (n : Int) : (hvR r n).natAbs ≤ n.natAbs + 1 := by
  have := r.go_01 n 1
  unfold hvR
  split <;> omega
theorem half_bd (r : Rul) : ∀ (k : Nat) (n : Int), (halfN r k n).natAbs ≤ n.natAbs + k
  | 0, n => Nat.le_refl _
  | k + 1, n => by
    have h1 := half_bd r k (hvR r n)
    have h2 := hv_bd r n
    rw [halfN]
    omega
theorem ints_shwL {l : List Int} (h : ∀ i ∈ l, i.natAbs ≤ BM - 1) (hl : l.length ≤ 60) : Shw (.list (l.map PyData.int)) := by
  have hk : ∀ k ∈ l.map (fun i => (Sum.inl i : Key)), kOk (BM - 1) k := by
    intro k hk
    obtain ⟨i, hi, rfl⟩ := List.mem_map.mp hk
    exact h i hi
  have w := kDs_weight hk
  rw [← key01D]
  rw [List.length_map] at w
  refine shw_of (W := 60060) ?_ ?_ ?_ (by decide) ?_
  · simp only [PyData.showable]; exact kDs_showable hk
  · simp only [PyData.leavesShort]; exact kDs_short hk
  · simp only [PyData.weight]; omega
  · simp only [PyData.depth, kDs_depth]; decide
theorem trs_ints {H : Hp} {xs : List Int} : TrAll H (xs.map PyData.int) (xs.map V.int) := trs_int xs
theorem big_bm {i : Int} {n : Int} (n1 : -BIG ≤ n) (n2 : n ≤ BIG) (h : i.natAbs ≤ n.natAbs + 8) : i.natAbs ≤ BM - 1 := by
  have b : BIG.natAbs + 8 ≤ BM - 1 := by decide +kernel
  have e : n.natAbs ≤ BIG.natAbs := by omega
  omega
end EH
namespace EH
open PySem PySem.Spec PyProof.Rows L2
/-! ### rules made by operators, and how they are told -/
theorem made_ins {H : Hp} {x dx C : Addr} (hx : H x = none) (hdx : H dx = none) (hne : dx ≠ x) : Kp [] H (upd (upd H dx (.own x)) x (.ins C dx [])) := by
  refine (Kp.new hdx).trans (Kp.new ?_)
  rw [upd_ne hne.symm]
  exact hx
def spBelowI (C : Addr) : Sp := fun vs H Q _ => ∃ (x dx : Addr) (n : Int), vs = [.ref x, .int n] ∧ H x = some (.ins C dx []) ∧ ∀ H', H' x = some (.ins C dx [("number", .int n)]) → Kp [x] H H' → Q .non H'
def spPlacesI (C : Addr) : Sp := fun vs H Q _ => ∃ (x dx t : Addr) (ps : List Int), vs = [.ref x, .ref t] ∧ H x = some (.ins C dx []) ∧ H t = some (.tup (ps.map V.int)) ∧ ps.length < 64 ∧
  ∀ (ns : List Int) (u : Addr) (H' : Hp), (∀ k : Int, k ∈ ns ↔ k ∈ ps) → ns.Pairwise (· < ·) → H' x = some (.ins C dx [("places", .ref u)]) → H' u = some (.tup (ns.map V.int)) → Kp [x] H H' → Q .non H'
/-- the promise by what is left over -/
def spPlacesS (C : Addr) : Sp := fun vs H Q E => ∃ ws rest, vs = ws ++ rest ∧ ws.length = ["self"].length ∧ rest.length ≤ sizeLine ∧ ∀ p, H p = none → spPlacesI C (ws ++ [V.ref p]) (upd H p (.tup rest)) Q E
def spTurnedI (C : Addr) : Sp := fun vs H Q _ => ∃ (x dx a : Addr), vs = [.ref x, .ref a] ∧ H x = some (.ins C dx []) ∧ ∀ H', H' x = some (.ins C dx [("inner", .ref a)]) → Kp [x] H H' → Q .non H'
def spJoinedI (C : Addr) : Sp := fun vs H Q _ => ∃ (x dx a b : Addr) (w : Str), vs = [.ref x, .str w, .ref a, .ref b] ∧ H x = some (.ins C dx []) ∧ ∀ H', H' x = some (.ins C dx [("word", .str w), ("one", .ref a), ("other", .ref b)]) → Kp [x] H H' → Q .non H'
def spInv (c : RC) : Sp := fun vs H Q _ => ∃ (a : Addr), vs = [.ref a] ∧ ∀ (x dx : Addr) (H' : Hp), H x = none → H' x = some (.ins c.turned dx [("inner", .ref a)]) → Kp [] H H' → Q (.ref x) H'
def spBin (c : RC) (w : Str) : Sp := fun vs H Q _ => ∃ (a b : Addr), vs = [.ref a, .ref b] ∧ ∀ (x dx : Addr) (H' : Hp), H x = none → H' x = some (.ins c.joined dx [("word", .str w), ("one", .ref a), ("other", .ref b)]) → Kp [] H H' → Q (.ref x) H'
/-- one of the classes -/
def RC.has (c : RC) (C : Addr) : Prop := C = c.rule ∨ C = c.down ∨ C = c.up ∨ C = c.even ∨ C = c.odd ∨ C = c.zero ∨ C = c.away ∨ C = c.turned ∨ C = c.joined ∨ c.below = some C ∨ c.places = some C
theorem RAt.cls {c : RC} {H : Hp} : ∀ {r : Rul} {a : Addr}, RAt c H r a → ∃ C dx fs, H a = some (.ins C dx fs) ∧ c.has C
  | .down, a, ⟨C, dx, e, h⟩ => ⟨C, dx, [], h, e.elim (fun z => .inr (.inl z)) (fun z => .inl z)⟩
  | .up, a, ⟨dx, h⟩ => ⟨_, _, _, h, .inr (.inr (.inl rfl))⟩
  | .even, a, ⟨dx, h⟩ => ⟨_, _, _, h, .inr (.inr (.inr (.inl rfl)))⟩
  | .odd, a, ⟨dx, h⟩ => ⟨_, _, _, h, .inr (.inr (.inr (.inr (.inl rfl))))⟩
  | .zero, a, ⟨dx, h⟩ => ⟨_, _, _, h, .inr (.inr (.inr (.inr (.inr (.inl rfl)))))⟩
  | .away, a, ⟨dx, h⟩ => ⟨_, _, _, h, .inr (.inr (.inr (.inr (.inr (.inr (.inl rfl))))))⟩
  | .blw n, a, ⟨C, dx, e, h⟩ => ⟨C, _, _, h, .inr (.inr (.inr (.inr (.inr (.inr (.inr (.inr (.inr (.inl e)))))))))⟩
  | .places ps, a, ⟨C, dx, t, e, h, ht⟩ => ⟨C, _, _, h, .inr (.inr (.inr (.inr (.inr (.inr (.inr (.inr (.inr (.inr e)))))))))⟩
  | .turned r, a, ⟨dx, b, h, hb⟩ => ⟨_, _, _, h, .inr (.inr (.inr (.inr (.inr (.inr (.inr (.inl rfl)))))))⟩
  | .join w r s, a, ⟨dx, b, d, h, _⟩ => ⟨_, _, _, h, .inr (.inr (.inr (.inr (.inr (.inr (.inr (.inr (.inl rfl))))))))⟩
/-- how a rule is told -/
def Rul.d : Rul → PyData
  | .down => .tuple [.str "down"]
  | .up => .tuple [.str "up"]
  | .even => .tuple [.str "even"]
  | .odd => .tuple [.str "odd"]
  | .zero => .tuple [.str "zero"]
  | .away => .tuple [.str "away"]
  | .blw n => .tuple [.str "below", .int n]
  | .places ps => .tuple (.str "places" :: ps.map PyData.int)
  | .turned r => .tuple [.str "turned", r.d]
  | .join w a b => .tuple [.str w, a.d, b.d]
/-- words, numbers and places as they are drawn -/
def Rul.wok : Rul → Prop
  | .places ps => ps.length ≤ 30
  | .turned r => r.wok
  | .join w a b => (w = "and" ∨ w = "or" ∨ w = "xor") ∧ a.wok ∧ b.wok
  | _ => True
def costU : Nat → Int
  | 0 => 20
  | n + 1 => 20 + 2 * costU n
theorem costU_nn : ∀ n, 20 ≤ costU n
  | 0 => by decide
  | n + 1 => by have := costU_nn n; simp only [costU]; omega
def PairAt (c : RC) (n : Nat) (H : Hp) (r r' : Rul) (t : Addr) : Prop := ∃ (a : Addr) (tv : V), H t = some (.tup [.ref a, tv]) ∧ RAt c H r a ∧ Tr H r'.d tv ∧ r.dp ≤ n ∧ r'.dp ≤ n ∧ r'.wok ∧ ∀ v p, r'.go v p = r.go v p
theorem PairAt.kp {c : RC} {n : Nat} {S : List Addr} {H H' : Hp} {r r' : Rul} {t : Addr} (h : PairAt c n H r r' t) (k : Kp S H H') (hS : ∀ x ∈ S, ∀ C dx fs, H x ≠ some (.ins C dx fs)) : PairAt c n H' r r' t := by
  obtain ⟨a, tv, h1, h2, h3, h4⟩ := h
  exact ⟨a, tv, k.tup _ _ h1, h2.kp k hS, k.tr h3, h4⟩
theorem PairAt.kp0 {c : RC} {n : Nat} {H H' : Hp} {r r' : Rul} {t : Addr} (h : PairAt c n H r r' t) (k : Kp [] H H') : PairAt c n H' r r' t := h.kp k (fun _ z => nomatch z)
theorem PairAt.mono {c : RC} {n n' : Nat} {H : Hp} {r r' : Rul} {t : Addr} (h : PairAt c n H r r' t) (hn : n ≤ n') : PairAt c n' H r r' t := by
  obtain ⟨a, tv, h1, h2, h3, h4, h5, h6⟩ := h
  exact ⟨a, tv, h1, h2, h3, Nat.le_trans h4 hn, Nat.le_trans h5 hn, h6⟩
theorem deck_nins {H : Hp} {a c : Addr} {m : Int} (D : Deck H a c m) : ∀ x ∈ [a, c], ∀ C dx fs, H x ≠ some (.ins C dx fs) := by
  obtain ⟨xs, h1⟩ := D.a_some
  obtain ⟨ys, h2⟩ := D.c_some
  intro x hx C dx fs e
  simp only [List.mem_cons, List.not_mem_nil, or_false] at hx
  rcases hx with rfl | rfl
  · rw [h1] at e; cases e
  · rw [h2] at e; cases e
def spPlaced2 (c : RC) : Sp := fun vs H Q _ => ∃ (a d : Addr) (m : Int), vs = [.ref a] ∧ Deck H a d m ∧ m ≤ 800000000 ∧
  ∀ (r r' : Rul) (t : Addr) (H' : Hp) (m' : Int), PairAt c 1 H' r r' t → m ≤ m' → m' ≤ m + 12 → Deck H' a d m' → Kp [a, d] H H' → Q (.ref t) H'
def spRul (c : RC) (n : Nat) : Sp := fun vs H Q _ => ∃ (a d : Addr) (m hi : Int) (h : Nat), vs = [.ref a, .int hi] ∧ hi = (h : Int) ∧ h < n ∧ Deck H a d m ∧ m + costU h ≤ 700000000 ∧
  ∀ (r r' : Rul) (t : Addr) (H' : Hp) (m' : Int), PairAt c (h + 1) H' r r' t → m ≤ m' → m' ≤ m + costU h → Deck H' a d m' → Kp [a, d] H H' → Q (.ref t) H'
/-- what the described rule tells -/
def Rul.way : Rul → Int → Int → Int
  | .even, v, _ => b01 (v / 2 % 2 = 1)
  | .odd, v, _ => b01 (¬ v / 2 % 2 = 1)
  | .turned r, v, p => 1 - r.way v p
  | .join w a b, v, p => if w = "and" then b01 (a.way v p + b.way v p = 2) else if w = "or" then b01 (a.way v p + b.way v p > 0) else b01 (a.way v p + b.way v p = 1)
  | r, v, p => r.go v p
theorem Rul.way_01 : ∀ (r : Rul) (v p : Int), r.way v p = 0 ∨ r.way v p = 1
  | .down, v, p => Rul.go_01 .down v p
  | .up, v, p => Rul.go_01 .up v p
  | .even, v, _ => b01_01 _
  | .odd, v, _ => b01_01 _
  | .zero, v, p => Rul.go_01 .zero v p
  | .away, v, p => Rul.go_01 .away v p
  | .blw n, v, p => Rul.go_01 (.blw n) v p
  | .places ps, v, p => Rul.go_01 (.places ps) v p
  | .turned r, v, p => by
    have := Rul.way_01 r v p
    show 1 - r.way v p = 0 ∨ 1 - r.way v p = 1
    omega
  | .join w a b, v, p => by
    simp only [Rul.way]
    split
    · exact b01_01 _
    · split <;> exact b01_01 _
theorem Rul.way_odd {v : Int} (h : v % 2 = 1) (p : Int) : ∀ r : Rul, r.way v p = r.go v p
  | .down => rfl
  | .up => rfl
  | .even => by
    simp only [Rul.way, Rul.go]
    unfold b01
    by_cases z : v / 2 % 2 = 1
    · rw [if_pos z, if_pos (by omega)]
    · rw [if_neg z, if_neg (by omega)]
  | .odd => by
    simp only [Rul.way, Rul.go]
    unfold b01
    by_cases z : v / 2 % 2 = 1
    · rw [if_neg (by omega), if_neg (by omega)]
    · rw [if_pos z, if_pos (by omega)]
  | .zero => rfl
  | .away => rfl
  | .blw n => rfl
  | .places ps => rfl
  | .turned r => by simp only [Rul.way, Rul.go, Rul.way_odd h p r]
  | .join w a b => by simp only [Rul.way, Rul.go, Rul.way_odd h p a, Rul.way_odd h p b]
def spWayOf (n : Nat) : Sp := fun vs H Q _ => ∃ (r : Rul) (tv : V) (v p : Int), vs = [tv, .int v, .int p] ∧ Tr H r.d tv ∧ r.wok ∧ r.dp ≤ n ∧ ∀ H', Kp [] H H' → Q (.int (r.way v p)) H'
theorem cut_1c (x : V) (xs : List V) : cutV (x :: xs) (some 1) none = xs := by
  have h1 : HT.sIx (x :: xs).length 0 (some ((1 : Nat) : Int)) = 1 := by rw [HT.sIx_nat]; simp
  unfold cutV
  rw [show (some (1 : Int)) = some ((1 : Nat) : Int) from rfl, h1, HT.sIx_none]
  simp
theorem xor_self (r : Rul) (v p : Int) : (Rul.join "xor" r r).go v p = Rul.down.go v p := by
  simp only [Rul.go]
  rw [if_neg (by decide +kernel), if_neg (by decide +kernel)]
  unfold b01
  rw [if_neg]
  omega
theorem off1 {H : Hp} {a c p : Addr} {n : Int} (d : Deck H a c n) (h : H p = none) : a ∉ [p] ∧ c ∉ [p] := by
  have o := d.off h
  simp only [List.mem_cons, List.not_mem_nil, or_false, not_or] at o ⊢
  exact ⟨fun z => o.1 z.symm, fun z => o.2 z.symm⟩
theorem flat_is (ps : List Int) : (ps.map V.int).all flatV = true := by
  rw [List.all_eq_true]
  intro x hx
  obtain ⟨i, _, rfl⟩ := List.mem_map.mp hx
  rfl
theorem inV_ints (p : Int) : ∀ ps : List Int, inV (.int p) (ps.map V.int) = decide (p ∈ ps)
  | [] => by rfl
  | i :: ps => by
    have ih := inV_ints p ps
    unfold inV at ih ⊢
    rw [List.map_cons, List.any_cons, ih]
    show ((i == p) || decide (p ∈ ps)) = _
    by_cases h : p = i
    · subst h
      simp
    · have : (i == p) = false := by simp; exact fun z => h z.symm
      rw [this]
      simp [h]
theorem trs_cons_of {H : Hp} {d : PyData} {ds : List PyData} {xs : List V} (h : TrAll H (d :: ds) xs) : ∃ v vs, xs = v :: vs ∧ Tr H d v ∧ TrAll H ds vs := by simp only [TrAll] at h; exact h
theorem trs_int_of {H : Hp} : ∀ {ps : List Int} {xs : List V}, TrAll H (ps.map PyData.int) xs → xs = ps.map V.int
  | [], xs, h => by simp only [List.map_nil, TrAll] at h; exact h
  | p :: ps, xs, h => by
    obtain ⟨v, vs, rfl, h1, h2⟩ := trs_cons_of h
    rw [tr_int h1, trs_int_of h2]
    rfl
/-! isinstance(x, R) for an instance of a class that derives from R -/
def rIsR (K : PySem.W.Frag) (R : Addr) : List V → Hp → VK → Prop := fun xs H Q => ∃ (a C dx : Addr) (fs : List (Str × V)), xs = [.ref a, .ref R] ∧ H a = some (.ins C dx fs) ∧ PySem.W.isIn K (.ref C) R = true ∧ Q (.bl true) H
theorem call_isR {X : Cx} {K : PySem.W.Frag} {R : Addr} (hK : X.K = K) : CallR X (.builtin "isinstance") (rIsR K R) := by
  subst hK
  intro pins s σ H xs us Q I r h
  obtain ⟨a, C, dx, fs, rfl, ha, hi, q⟩ := h
  obtain ⟨u1, u2, rfl, r1, r2⟩ := vals2 r
  obtain rfl : u1 = Value.ref a := r1
  obtain rfl : u2 = Value.ref R := r2
  obtain ⟨ox, od, J, _⟩ := StX.insC_at I (.inr ⟨dx, fs, ha⟩)
  exact PySem.W.isi_call I.kIn (fun M => J.type) hi (fun z => nomatch z) ⟨.bl true, H, I, rfl, q⟩
end EH
namespace EH
open PySem L2
local macro_rules | `(tactic| walk_at "sd") => `(tactic| first | assumption | ((with_reducible show (_ : Int) ≤ _); omega) | ((with_reducible show (_ : Int) < _); omega) | rfl | exact SqL.of (by assumption) | exact SqT.of (by assumption) | exact atI_nat (j := 0) rfl | exact atI_nat (j := 1) rfl | exact atI_nat (j := 2) rfl | exact atI_nat (j := 3) rfl | exact sz_lit rfl | exact lt_lit rfl | exact pos_lit rfl | exact le_lit rfl | exact Or.inl (SqL.of (by assumption)) | exact ⟨_, SqL.of (by assumption)⟩ | exact ⟨_, SqT.of (by assumption)⟩ | exact Or.inr (SqT.of (by assumption)) | exact ClsV.ty _ | exact TyX.base (TyOf.int _) | exact TyX.base (TyOf.str _) | exact TyX.base (TyOf.tup (by assumption)) | exact kit_ty isi_ss | exact kit_ty isi_is | exact kit_ty isi_ts | exact kit_ty isi_si | exact kit_ty isi_ii | exact kit_ty isi_ti | exact kit_ty isi_st | exact kit_ty isi_it | exact kit_ty isi_tt | exact Or.inl ⟨_, Or.inl (by assumption)⟩ | exact DGet.k (k := Sum.inr _) (by assumption) | exact DGet.k (k := Sum.inl _) (by assumption) | (refine cpow_of ?_; decide) | (refine cmul_of ?_; decide) | (show (_ : Int) ≠ 0; first | decide | omega) | (refine cdivn_of ?_; decide) | exact Or.inl ⟨rfl, _, SqL.of (by assumption)⟩ | omega)
local macro_rules | `(tactic| walk_at "st") => `(tactic| first | (apply Exists.intro) | (refine And.intro ?_ ?_; focus (walk_at "sd")) | (apply Or.inl; apply Exists.intro; refine And.intro ?_ ?_; focus rfl) | (apply Or.inr; apply Exists.intro; refine And.intro ?_ ?_; focus rfl))
local macro_rules | `(tactic| walk_at "go") => `(tactic| repeat (walk_at "st"))
theorem fnIn_of {K : PySem.W.Frag} {x q : Str} {st : Stmt} {f : Addr} {fd : FuncData} (F : Fun K x q st f fd) : PySem.W.fnIn K f = true := by
  obtain ⟨oc, od, kV, doc, pm, an, cdv, ct, osl, rfl, lk, hcd⟩ := F.ex
  unfold PySem.W.fnIn
  rw [lk]
theorem callO_dm {K : PySem.W.Frag} {C : Addr} {q : Str} {st : Stmt} {ps : List Str} (m : DM K C "__call__" q st ps) : StX.CallO K C m.f := ⟨m.m.at_, m.m.fn, fnIn_of m.F⟩
section
variable {P : Program} {w : World} {K : PySem.W.Frag} {mg : Str → Option Value} {base : Heap}
theorem dm_raw {C : Addr} {q : Str} {st : Stmt} {ps : List Str} {k : Nat} {sp : Sp} (m : DM K C "__call__" q st ps) (F : FnOk P w K mg base CX0 k m.f m.fd ps sp) : FnR P w K mg base CX0 k m.f sp :=
  (F.raw m.b .nil).imp fun vs H Q E h => by rw [List.append_nil]; exact h
theorem ok_Rule_call (T : Top K mg) : FnOk P w K mg base CX0 1 T.Rule_call.f T.Rule_call.fd ["self", "value", "place"] (spRC T.Rule.C [] fun _ _ => 0) := by
  refine T.Rule_call.F.ok sc_Rule_call (fun vs H Q E h => ?_) (fun cdv A outer s H vs Q E hr h => ?_)
  · obtain ⟨a, dx, v, p, rfl, _⟩ := h
    rfl
  obtain ⟨a, dx, v, p, rfl, hi, q⟩ := h
  refine ⟨_, (pss_one (ps_ret pe_int)), ?_⟩
  walk_at "go"
  exact q
theorem ok_Down_call (T : Top K mg) : FnOk P w K mg base CX0 1 T.Down_call.f T.Down_call.fd ["self", "value", "place"] (spRC T.Down.C [] fun _ _ => 0) := by
  refine T.Down_call.F.ok sc_Down_call (fun vs H Q E h => ?_) (fun cdv A outer s H vs Q E hr h => ?_)
  · obtain ⟨a, dx, v, p, rfl, _⟩ := h
    rfl
  obtain ⟨a, dx, v, p, rfl, hi, q⟩ := h
  refine ⟨_, (pss_one (ps_ret pe_int)), ?_⟩
  walk_at "go"
  exact q
theorem ok_Up_call (T : Top K mg) : FnOk P w K mg base CX0 1 T.Up_call.f T.Up_call.fd ["self", "value", "place"] (spRC T.Up.C [] fun _ _ => 1) := by
  refine T.Up_call.F.ok sc_Up_call (fun vs H Q E h => ?_) (fun cdv A outer s H vs Q E hr h => ?_)
  · obtain ⟨a, dx, v, p, rfl, _⟩ := h
    rfl
  obtain ⟨a, dx, v, p, rfl, hi, q⟩ := h
  refine ⟨_, (pss_one (ps_ret pe_int)), ?_⟩
  walk_at "go"
  exact q
theorem ok_Even_call (T : Top K mg) : FnOk P w K mg base CX0 1 T.Even_call.f T.Even_call.fd ["self", "value", "place"] (spRC T.Even.C [] fun v _ => b01 (v % 4 = 3)) := by
  refine T.Even_call.F.ok sc_Even_call (fun vs H Q E h => ?_) (fun cdv A outer s H vs Q E hr h => ?_)
  · obtain ⟨a, dx, v, p, rfl, _⟩ := h
    rfl
  obtain ⟨a, dx, v, p, rfl, hi, q⟩ := h
  refine ⟨_, (pss_one (ps_ret (pe_callTy (T := "int") call_int1 (by rfl) T.int (by decide +kernel) (pa_cons (pe_cmpR op_eq (pe_op op_modN (pv 1) pe_int) pe_int (nomark _)) pa_nil)))), ?_⟩
  walk_at "go"
  have e : (if decide (V.int (v.fmod 4) = V.int 3) = true then (1 : Int) else 0) = b01 (v % 4 = 3) := by
    rw [dec_int, Int.fmod_eq_emod_of_nonneg v (by decide)]
    unfold b01
    simp only [decide_eq_true_eq]
  show Q (.int (if decide (V.int (v.fmod 4) = V.int 3) = true then (1 : Int) else 0)) H
  rw [e]
  exact q
theorem ok_Odd_call (T : Top K mg) : FnOk P w K mg base CX0 1 T.Odd_call.f T.Odd_call.fd ["self", "value", "place"] (spRC T.Odd.C [] fun v _ => b01 (v % 4 = 1)) := by
  refine T.Odd_call.F.ok sc_Odd_call (fun vs H Q E h => ?_) (fun cdv A outer s H vs Q E hr h => ?_)
  · obtain ⟨a, dx, v, p, rfl, _⟩ := h
    rfl
  obtain ⟨a, dx, v, p, rfl, hi, q⟩ := h
  refine ⟨_, (pss_one (ps_ret (pe_callTy (T := "int") call_int1 (by rfl) T.int (by decide +kernel) (pa_cons (pe_cmpR op_eq (pe_op op_modN (pv 1) pe_int) pe_int (nomark _)) pa_nil)))), ?_⟩
  walk_at "go"
  have e : (if decide (V.int (v.fmod 4) = V.int 1) = true then (1 : Int) else 0) = b01 (v % 4 = 1) := by
    rw [dec_int, Int.fmod_eq_emod_of_nonneg v (by decide)]
    unfold b01
    simp only [decide_eq_true_eq]
  show Q (.int (if decide (V.int (v.fmod 4) = V.int 1) = true then (1 : Int) else 0)) H
  rw [e]
  exact q
theorem ok_Zero_call (T : Top K mg) : FnOk P w K mg base CX0 1 T.Zero_call.f T.Zero_call.fd ["self", "value", "place"] (spRC T.Zero.C [] fun v _ => b01 (v < 0)) := by
  refine T.Zero_call.F.ok sc_Zero_call (fun vs H Q E h => ?_) (fun cdv A outer s H vs Q E hr h => ?_)
  · obtain ⟨a, dx, v, p, rfl, _⟩ := h
    rfl
  obtain ⟨a, dx, v, p, rfl, hi, q⟩ := h
  refine ⟨_, (pss_one (ps_ret (pe_callTy (T := "int") call_int1 (by rfl) T.int (by decide +kernel) (pa_cons (pe_cmpR op_lt (pv 1) pe_int (nomark _)) pa_nil)))), ?_⟩
  walk_at "go"
  have e : (if decide (v < 0) = true then (1 : Int) else 0) = b01 (v < 0) := by
    unfold b01
    simp only [decide_eq_true_eq]
  show Q (.int (if decide (v < 0) = true then (1 : Int) else 0)) H
  rw [e]
  exact q
theorem ok_Away_call (T : Top K mg) : FnOk P w K mg base CX0 1 T.Away_call.f T.Away_call.fd ["self", "value", "place"] (spRC T.Away.C [] fun v _ => b01 (v > 0)) := by
  refine T.Away_call.F.ok sc_Away_call (fun vs H Q E h => ?_) (fun cdv A outer s H vs Q E hr h => ?_)
  · obtain ⟨a, dx, v, p, rfl, _⟩ := h
    rfl
  obtain ⟨a, dx, v, p, rfl, hi, q⟩ := h
  refine ⟨_, (pss_one (ps_ret (pe_callTy (T := "int") call_int1 (by rfl) T.int (by decide +kernel) (pa_cons (pe_cmpR op_gt (pv 1) pe_int (nomark _)) pa_nil)))), ?_⟩
  walk_at "go"
  have e : (if decide (0 < v) = true then (1 : Int) else 0) = b01 (v > 0) := by
    unfold b01
    simp only [decide_eq_true_eq]
  show Q (.int (if decide (v > 0) = true then (1 : Int) else 0)) H
  exact e ▸ q
end
def rcOf {K : PySem.W.Frag} {mg : Str → Option Value} (T : Top K mg) : RC := ⟨T.Rule.C, T.Down.C, T.Up.C, T.Even.C, T.Odd.C, T.Zero.C, T.Away.C, T.Turned.C, T.Joined.C, some T.Below.C, some T.Places.C⟩
section
variable {P : Program} {w : World} {K : PySem.W.Frag} {mg : Str → Option Value} {base : Heap}
theorem ok_Below_init (T : Top K mg) {k : Nat} : FnOk P w K mg base CX0 (k + 1) T.Below_init.f T.Below_init.fd ["self", "number"] (spBelowI T.Below.C) := by
  refine T.Below_init.F.ok sc_Below_init (fun vs H Q E h => ?_) (fun cdv A outer s H vs Q E hr h => ?_)
  · obtain ⟨x, dx, n, rfl, _⟩ := h
    rfl
  obtain ⟨x, dx, n, rfl, hx, q⟩ := h
  refine ⟨_, (pss_one (ps_fldA (K := K) rfl (pv 0) (pv 1))), ?_⟩
  have cl := T.Below.cl
  have n_number := T.n_Below_number
  walk_at "go"
  intro H1 x1 k1
  walk_at "go"
  exact q H1 x1 k1
theorem ok_Turned_init (T : Top K mg) {k : Nat} : FnOk P w K mg base CX0 (k + 1) T.Turned_init.f T.Turned_init.fd ["self", "rule"] (spTurnedI T.Turned.C) := by
  refine T.Turned_init.F.ok sc_Turned_init (fun vs H Q E h => ?_) (fun cdv A outer s H vs Q E hr h => ?_)
  · obtain ⟨x, dx, a, rfl, _⟩ := h
    rfl
  obtain ⟨x, dx, a, rfl, hx, q⟩ := h
  refine ⟨_, (pss_one (ps_fldA (K := K) rfl (pv 0) (pv 1))), ?_⟩
  have cl := T.Turned.cl
  have n_inner := T.n_Turned_inner
  walk_at "go"
  intro H1 x1 k1
  walk_at "go"
  exact q H1 x1 k1
theorem ok_Joined_init (T : Top K mg) {k : Nat} : FnOk P w K mg base CX0 (k + 1) T.Joined_init.f T.Joined_init.fd ["self", "word", "one", "other"] (spJoinedI T.Joined.C) := by
  refine T.Joined_init.F.ok sc_Joined_init (fun vs H Q E h => ?_) (fun cdv A outer s H vs Q E hr h => ?_)
  · obtain ⟨x, dx, a, b, w, rfl, _⟩ := h
    rfl
  obtain ⟨x, dx, a, b, w, rfl, hx, q⟩ := h
  refine ⟨_, (pss_cons (ps_fldA (K := K) rfl (pv 0) (pv 1))
      (pss_cons (ps_fldA (K := K) rfl (pv 0) (pv 2))
      (pss_one (ps_fldA (K := K) rfl (pv 0) (pv 3))))), ?_⟩
  have cl := T.Joined.cl
  have n_word := T.n_Joined_word
  have n_one := T.n_Joined_one
  have n_other := T.n_Joined_other
  walk_at "go"
  intro H1 x1 k1
  walk_at "go"
  intro H2 x2 k2
  walk_at "go"
  intro H3 x3 k3
  walk_at "go"
  exact q H3 x3 ((k1.trans k2).trans k3)
theorem ok_Places_init (T : Top K mg) {k : Nat} : FnR P w K mg base CX0 (k + 1) T.Places_init.f (spPlacesS T.Places.C) := by
  refine Fun.okS T.Places_init.F sc_Places_init T.Places_init.s fun cdv A outer s H vs Q E hr h => ?_
  obtain ⟨x, dx, t, ps, rfl, hx, ht, hl, q⟩ := h
  refine ⟨_, (pss_one (ps_fldA (K := K) rfl (pv 0) (pe_callTy (T := "tuple") (call_tupleK (K := K) rfl) (by rfl) T.tuple (by decide +kernel) (pa_cons (pe_callB (id := "sorted") (cr_sortedSet rfl) (by rfl) T.sorted (by decide +kernel) (pa_cons (pe_callTy (T := "set") (cr_setT (K := K) (w := w) rfl rfl rfl) (by rfl) T.set (by decide +kernel) (pa_cons (pv 1) pa_nil)) pa_nil)) pa_nil)))), ?_⟩
  have cl := T.Places.cl
  have n1 := T.n_Places_places
  walk_at "go"
  intro p1 c1 hp1 hc1
  have k1 := Kp.new (u := SetO w p1 (fun j => decide (j ∈ ps)) c1) hp1
  have s1 : (upd H p1 (SetO w p1 (fun j => decide (j ∈ ps)) c1)) p1 = some (SetO w p1 (fun j => decide (j ∈ ps)) c1) := upd_same
  have x1 := k1.keep _ _ hx (by simp)
  generalize upd H p1 (SetO w p1 (fun j => decide (j ∈ ps)) c1) = H1 at k1 s1 x1 ⊢
  refine ⟨p1, _, c1, rfl, s1, by omega, fun ns p2 pw mem len hp2 => ?_⟩
  have k2 := Kp.new (u := HO.lst (ns.map V.int)) hp2
  have l2 : (upd H1 p2 (HO.lst (ns.map V.int))) p2 = some (HO.lst (ns.map V.int)) := upd_same
  have x2 := k2.keep _ _ x1 (by simp)
  generalize upd H1 p2 (HO.lst (ns.map V.int)) = H2 at k2 l2 x2 ⊢
  walk_at "go"
  intro u H3 hu3 u3 k3
  have x3 := k3.keep _ _ x2 (by simp)
  have ux : u ≠ x := (ne_of_none x2 hu3).symm
  walk_at "go"
  intro H4 x4 k4
  have u4 := k4.keep _ _ u3 (ne1 ux)
  walk_at "go"
  exact q ns u H4 (fun k => by rw [mem]; simp) pw x4 u4 ((((k1.trans k2).trans k3).sub (by simp)).trans k4)
theorem ok_Rule_and (T : Top K mg) {k : Nat} : FnOk P w K mg base CX0 (k + 3) T.Rule_and.f T.Rule_and.fd ["self", "other"] (spBin (rcOf T) "and") := by
  have G_Joined_init : FnOk P w K mg base CX0 (k + 1) T.Joined_init.f T.Joined_init.fd ["self", "word", "one", "other"] (spJoinedI T.Joined.C) := ok_Joined_init T
  refine T.Rule_and.F.ok sc_Rule_and (fun vs H Q E h => ?_) (fun cdv A outer s H vs Q E hr h => ?_)
  · obtain ⟨a, b, rfl, _⟩ := h
    rfl
  obtain ⟨a, b, rfl, q⟩ := h
  refine ⟨_, (pss_one (ps_ret (pe_make T.mk_Joined G_Joined_init (hr.mono (by omega)) (by rfl) T.Joined.g T.Joined_init.b .nil pass0 (pa_cons pe_str (pa_cons (pv 0) (pa_cons (pv 1) pa_nil)))))), ?_⟩
  walk_at "go"
  intro x dx hx hdx hne
  exact ⟨x, dx, a, b, "and", rfl, upd_same, fun H' hx' k' => ⟨rfl, q x dx H' hx hx' ((made_ins hx hdx hne).step1 k' (.inr hx))⟩⟩
theorem ok_Rule_or (T : Top K mg) {k : Nat} : FnOk P w K mg base CX0 (k + 3) T.Rule_or.f T.Rule_or.fd ["self", "other"] (spBin (rcOf T) "or") := by
  have G_Joined_init : FnOk P w K mg base CX0 (k + 1) T.Joined_init.f T.Joined_init.fd ["self", "word", "one", "other"] (spJoinedI T.Joined.C) := ok_Joined_init T
  refine T.Rule_or.F.ok sc_Rule_or (fun vs H Q E h => ?_) (fun cdv A outer s H vs Q E hr h => ?_)
  · obtain ⟨a, b, rfl, _⟩ := h
    rfl
  obtain ⟨a, b, rfl, q⟩ := h
  refine ⟨_, (pss_one (ps_ret (pe_make T.mk_Joined G_Joined_init (hr.mono (by omega)) (by rfl) T.Joined.g T.Joined_init.b .nil pass0 (pa_cons pe_str (pa_cons (pv 0) (pa_cons (pv 1) pa_nil)))))), ?_⟩
  walk_at "go"
  intro x dx hx hdx hne
  exact ⟨x, dx, a, b, "or", rfl, upd_same, fun H' hx' k' => ⟨rfl, q x dx H' hx hx' ((made_ins hx hdx hne).step1 k' (.inr hx))⟩⟩
theorem ok_Rule_xor (T : Top K mg) {k : Nat} : FnOk P w K mg base CX0 (k + 3) T.Rule_xor.f T.Rule_xor.fd ["self", "other"] (spBin (rcOf T) "xor") := by
  have G_Joined_init : FnOk P w K mg base CX0 (k + 1) T.Joined_init.f T.Joined_init.fd ["self", "word", "one", "other"] (spJoinedI T.Joined.C) := ok_Joined_init T
  refine T.Rule_xor.F.ok sc_Rule_xor (fun vs H Q E h => ?_) (fun cdv A outer s H vs Q E hr h => ?_)
  · obtain ⟨a, b, rfl, _⟩ := h
    rfl
  obtain ⟨a, b, rfl, q⟩ := h
  refine ⟨_, (pss_one (ps_ret (pe_make T.mk_Joined G_Joined_init (hr.mono (by omega)) (by rfl) T.Joined.g T.Joined_init.b .nil pass0 (pa_cons pe_str (pa_cons (pv 0) (pa_cons (pv 1) pa_nil)))))), ?_⟩
  walk_at "go"
  intro x dx hx hdx hne
  exact ⟨x, dx, a, b, "xor", rfl, upd_same, fun H' hx' k' => ⟨rfl, q x dx H' hx hx' ((made_ins hx hdx hne).step1 k' (.inr hx))⟩⟩
theorem ok_Rule_inv (T : Top K mg) {k : Nat} : FnOk P w K mg base CX0 (k + 3) T.Rule_invert.f T.Rule_invert.fd ["self"] (spInv (rcOf T)) := by
  have G_Turned_init : FnOk P w K mg base CX0 (k + 1) T.Turned_init.f T.Turned_init.fd ["self", "rule"] (spTurnedI T.Turned.C) := ok_Turned_init T
  refine T.Rule_invert.F.ok sc_Rule_invert (fun vs H Q E h => ?_) (fun cdv A outer s H vs Q E hr h => ?_)
  · obtain ⟨a, rfl, _⟩ := h
    rfl
  obtain ⟨a, rfl, q⟩ := h
  refine ⟨_, (pss_one (ps_ret (pe_make T.mk_Turned G_Turned_init (hr.mono (by omega)) (by rfl) T.Turned.g T.Turned_init.b .nil pass0 (pa_cons (pv 0) pa_nil)))), ?_⟩
  walk_at "go"
  intro x dx hx hdx hne
  exact ⟨x, dx, a, rfl, upd_same, fun H' hx' k' => ⟨rfl, q x dx H' hx hx' ((made_ins hx hdx hne).step1 k' (.inr hx))⟩⟩
end
end EH
namespace EH
open PySem L2
local macro_rules | `(tactic| walk_at "sd") => `(tactic| first | assumption | ((with_reducible show (_ : Int) ≤ _); omega) | ((with_reducible show (_ : Int) < _); omega) | rfl | exact SqL.of (by assumption) | exact SqT.of (by assumption) | exact atI_nat (j := 0) rfl | exact atI_nat (j := 1) rfl | exact atI_nat (j := 2) rfl | exact atI_nat (j := 3) rfl | exact sz_lit rfl | exact lt_lit rfl | exact pos_lit rfl | exact le_lit rfl | exact Or.inl (SqL.of (by assumption)) | exact ⟨_, SqL.of (by assumption)⟩ | exact ⟨_, SqT.of (by assumption)⟩ | exact Or.inr (SqT.of (by assumption)) | exact ClsV.ty _ | exact TyX.base (TyOf.int _) | exact TyX.base (TyOf.str _) | exact TyX.base (TyOf.tup (by assumption)) | exact kit_ty isi_ss | exact kit_ty isi_is | exact kit_ty isi_ts | exact kit_ty isi_si | exact kit_ty isi_ii | exact kit_ty isi_ti | exact kit_ty isi_st | exact kit_ty isi_it | exact kit_ty isi_tt | exact Or.inl ⟨_, Or.inl (by assumption)⟩ | exact DGet.k (k := Sum.inr _) (by assumption) | exact DGet.k (k := Sum.inl _) (by assumption) | (refine cpow_of ?_; decide) | (refine cmul_of ?_; decide) | (show (_ : Int) ≠ 0; first | decide | omega) | (refine cdivn_of ?_; decide) | exact Or.inl ⟨rfl, _, SqL.of (by assumption)⟩ | omega)
local macro_rules | `(tactic| walk_at "st") => `(tactic| first | (apply Exists.intro) | (refine And.intro ?_ ?_; focus (walk_at "sd")) | (apply Or.inl; apply Exists.intro; refine And.intro ?_ ?_; focus rfl) | (apply Or.inr; apply Exists.intro; refine And.intro ?_ ?_; focus rfl))
local macro_rules | `(tactic| walk_at "go") => `(tactic| repeat (walk_at "st"))
section
variable {P : Program} {w : World} {K : PySem.W.Frag} {mg : Str → Option Value} {base : Heap}
theorem ok_Below_call (T : Top K mg) {k : Nat} : FnOk P w K mg base CX0 (k + 1) T.Below_call.f T.Below_call.fd ["self", "value", "place"] (spBelowC T.Below.C) := by
  refine T.Below_call.F.ok sc_Below_call (fun vs H Q E h => ?_) (fun cdv A outer s H vs Q E hr h => ?_)
  · obtain ⟨a, dx, n, v, p, rfl, _⟩ := h
    rfl
  obtain ⟨a, dx, n, v, p, rfl, hi, q⟩ := h
  refine ⟨_, (pss_one (ps_ret (pe_callTy (T := "int") call_int1 (by rfl) T.int (by decide +kernel) (pa_cons (pe_cmpR op_lt (pv 1) (pe_fldK (K := K) rfl (pv 0)) (nomark _)) pa_nil)))), ?_⟩
  have cl := T.Below.cl
  have n1 := T.n_Below_number
  walk_at "go"
  have e : (if decide (v < n) = true then (1 : Int) else 0) = b01 (v < n) := by
    unfold b01
    simp only [decide_eq_true_eq]
  show Q (.int (if decide (v < n) = true then (1 : Int) else 0)) H
  rw [e]
  exact q
theorem ok_Places_call (T : Top K mg) {k : Nat} : FnOk P w K mg base CX0 (k + 1) T.Places_call.f T.Places_call.fd ["self", "value", "place"] (spPlacesC T.Places.C) := by
  refine T.Places_call.F.ok sc_Places_call (fun vs H Q E h => ?_) (fun cdv A outer s H vs Q E hr h => ?_)
  · obtain ⟨a, dx, t, ps, v, p, rfl, _⟩ := h
    rfl
  obtain ⟨a, dx, t, ps, v, p, rfl, hi, ht, q⟩ := h
  refine ⟨_, (pss_one (ps_ret (pe_callTy (T := "int") call_int1 (by rfl) T.int (by decide +kernel) (pa_cons (pe_cmpR (op_in_seqK (K := K) rfl) (pv 2) (pe_fldK (K := K) rfl (pv 0)) (by rfl)) pa_nil)))), ?_⟩
  have cl := T.Places.cl
  have n1 := T.n_Places_places
  walk_at "go"
  refine ⟨flat_is ps, .inr ⟨_, rfl, ?_⟩⟩
  have e : (if inV (V.int p) (ps.map V.int) = true then (1 : Int) else 0) = b01 (p ∈ ps) := by
    rw [inV_ints]
    unfold b01
    simp only [decide_eq_true_eq]
  show Q (.int (if inV (V.int p) (ps.map V.int) = true then (1 : Int) else 0)) H
  rw [e]
  exact q
theorem ok_Turned_call (T : Top K mg) {n k : Nat} (RK : RCalls P w K mg base (rcOf T) n k) : FnOk P w K mg base CX0 (k + 1) T.Turned_call.f T.Turned_call.fd ["self", "value", "place"] (spTurnedC (rcOf T) n) := by
  refine T.Turned_call.F.ok sc_Turned_call (fun vs H Q E h => ?_) (fun cdv A outer s H vs Q E hr h => ?_)
  · obtain ⟨a, dx, b, r, v, p, rfl, _⟩ := h
    rfl
  obtain ⟨a, dx, b, r, v, p, rfl, hi, hb, hd, q⟩ := h
  refine ⟨_, (pss_one (ps_ret (pe_op op_sub pe_int (pe_callRlF (K := K) rfl (pv 0) RK (hr.mono (by omega)) (pa_cons (pv 1) (pa_cons (pv 2) pa_nil)) pass0)))), ?_⟩
  have cl : Cls K (rcOf T).turned := T.Turned.cl
  have n1 : NoAttr K (rcOf T).turned "inner" := T.n_Turned_inner
  walk_at "go"
  exact q
theorem ok_Joined_call (T : Top K mg) {n k : Nat} (RK : RCalls P w K mg base (rcOf T) n k) : FnOk P w K mg base CX0 (k + 1) T.Joined_call.f T.Joined_call.fd ["self", "value", "place"] (spJoinedC (rcOf T) n) := by
  refine T.Joined_call.F.ok sc_Joined_call (fun vs H Q E h => ?_) (fun cdv A outer s H vs Q E hr h => ?_)
  · obtain ⟨a, dx, b, d, wd, r, s', v, p, rfl, _⟩ := h
    rfl
  obtain ⟨a, dx, b, d, wd, r, s', v, p, rfl, hi, hb, hd, h1, h2, q⟩ := h
  refine ⟨_, (pss_cons (ps_set (i := 3) sc_Joined_call.nd rfl (.inl rfl) (pe_op op_add (pe_callRlF (K := K) rfl (pv 0) RK (hr.mono (by omega)) (pa_cons (pv 1) (pa_cons (pv 2) pa_nil)) pass0) (pe_callRlF (K := K) rfl (pv 0) RK (hr.mono (by omega)) (pa_cons (pv 1) (pa_cons (pv 2) pa_nil)) pass0)))
      (pss_cons (ps_if (pt_cmpR op_eq (pe_fldK (K := K) rfl (pv 0)) pe_str (nomark _)) (pss_one (ps_ret (pe_callTy (T := "int") call_int1 (by rfl) T.int (by decide +kernel) (pa_cons (pe_cmpR op_eq (pv 3) pe_int (nomark _)) pa_nil)))) pss_nil)
      (pss_one (ps_ret (pe_ifExp (pt_cmpR op_eq (pe_fldK (K := K) rfl (pv 0)) pe_str (nomark _)) (pe_callTy (T := "int") call_int1 (by rfl) T.int (by decide +kernel) (pa_cons (pe_cmpR op_gt (pv 3) pe_int (nomark _)) pa_nil)) (pe_callTy (T := "int") call_int1 (by rfl) T.int (by decide +kernel) (pa_cons (pe_cmpR op_eq (pv 3) pe_int (nomark _)) pa_nil))))))), ?_⟩
  have cl : Cls K (rcOf T).joined := T.Joined.cl
  have n1 : NoAttr K (rcOf T).joined "word" := T.n_Joined_word
  have n2 : NoAttr K (rcOf T).joined "one" := T.n_Joined_one
  have n3 : NoAttr K (rcOf T).joined "other" := T.n_Joined_other
  walk_at "go"
  simp only [Rul.go] at q
  refine ite2 (fun hc => ?_) (fun hc => ?_)
  · obtain rfl : wd = "and" := V.str.inj (of_decide_eq_true hc)
    rw [if_pos rfl] at q
    walk_at "go"
    have e : (if decide (V.int (r.go v p + s'.go v p) = V.int 2) = true then (1 : Int) else 0) = b01 (r.go v p + s'.go v p = 2) := by
      rw [dec_int]
      unfold b01
      simp only [decide_eq_true_eq]
    show Q (.int (if decide (V.int (r.go v p + s'.go v p) = V.int 2) = true then (1 : Int) else 0)) H
    rw [e]
    exact q
  · have hw : ¬ wd = "and" := fun z => of_decide_eq_false (Bool.eq_false_iff.mpr hc) (congrArg V.str z)
    rw [if_neg hw] at q
    walk_at "go"
    refine ite2 (fun hd => ?_) (fun hd => ?_)
    · obtain rfl : wd = "or" := V.str.inj (of_decide_eq_true hd)
      rw [if_pos rfl] at q
      walk_at "go"
      have e : (if decide (0 < r.go v p + s'.go v p) = true then (1 : Int) else 0) = b01 (r.go v p + s'.go v p > 0) := by
        unfold b01
        simp only [decide_eq_true_eq]
      show Q (.int (if decide (0 < r.go v p + s'.go v p) = true then (1 : Int) else 0)) H
      rw [e]
      exact q
    · have hw : ¬ wd = "or" := fun z => of_decide_eq_false (Bool.eq_false_iff.mpr hd) (congrArg V.str z)
      rw [if_neg hw] at q
      walk_at "go"
      have e : (if decide (V.int (r.go v p + s'.go v p) = V.int 1) = true then (1 : Int) else 0) = b01 (r.go v p + s'.go v p = 1) := by
        rw [dec_int]
        unfold b01
        simp only [decide_eq_true_eq]
      show Q (.int (if decide (V.int (r.go v p + s'.go v p) = V.int 1) = true then (1 : Int) else 0)) H
      rw [e]
      exact q
theorem rc_mk (T : Top K mg) {n : Nat} (ht : FnOk P w K mg base CX0 (n + 1) T.Turned_call.f T.Turned_call.fd ["self", "value", "place"] (spTurnedC (rcOf T) n)) (hj : FnOk P w K mg base CX0 (n + 1) T.Joined_call.f T.Joined_call.fd ["self", "value", "place"] (spJoinedC (rcOf T) n)) : RCalls P w K mg base (rcOf T) (n + 1) (n + 1) where
  rule := ⟨_, callO_dm T.Rule_call, (dm_raw T.Rule_call (ok_Rule_call T)).mono (by omega)⟩
  down := ⟨_, callO_dm T.Down_call, (dm_raw T.Down_call (ok_Down_call T)).mono (by omega)⟩
  up := ⟨_, callO_dm T.Up_call, (dm_raw T.Up_call (ok_Up_call T)).mono (by omega)⟩
  even := ⟨_, callO_dm T.Even_call, (dm_raw T.Even_call (ok_Even_call T)).mono (by omega)⟩
  odd := ⟨_, callO_dm T.Odd_call, (dm_raw T.Odd_call (ok_Odd_call T)).mono (by omega)⟩
  zero := ⟨_, callO_dm T.Zero_call, (dm_raw T.Zero_call (ok_Zero_call T)).mono (by omega)⟩
  away := ⟨_, callO_dm T.Away_call, (dm_raw T.Away_call (ok_Away_call T)).mono (by omega)⟩
  below := fun C e => by cases e; exact ⟨_, callO_dm T.Below_call, dm_raw T.Below_call (ok_Below_call T)⟩
  places := fun C e => by cases e; exact ⟨_, callO_dm T.Places_call, dm_raw T.Places_call (ok_Places_call T)⟩
  turned := fun m e => by obtain rfl : m = n := by omega
                          exact ⟨_, callO_dm T.Turned_call, dm_raw T.Turned_call ht⟩
  joined := fun m e => by obtain rfl : m = n := by omega
                          exact ⟨_, callO_dm T.Joined_call, dm_raw T.Joined_call hj⟩
theorem rcalls (T : Top K mg) : ∀ n : Nat, RCalls P w K mg base (rcOf T) (n + 1) (n + 1)
  | 0 => rc_mk T (fn_no fun vs H Q E ⟨a, dx, b, r, v, p, _, _, _, h, _⟩ => by have := r.dp_pos; omega) (fn_no fun vs H Q E ⟨a, dx, b, d, w, r, s, v, p, _, _, _, _, h, _⟩ => by have := r.dp_pos; omega)
  | n + 1 => rc_mk T (ok_Turned_call T (rcalls T n)) (ok_Joined_call T (rcalls T n))
end
end EH
namespace EH
open PySem L2
local macro_rules | `(tactic| walk_at "sd") => `(tactic| first | assumption | ((with_reducible show (_ : Int) ≤ _); omega) | ((with_reducible show (_ : Int) < _); omega) | rfl | exact SqL.of (by assumption) | exact SqT.of (by assumption) | exact atI_nat (j := 0) rfl | exact atI_nat (j := 1) rfl | exact atI_nat (j := 2) rfl | exact atI_nat (j := 3) rfl | exact sz_lit rfl | exact lt_lit rfl | exact pos_lit rfl | exact le_lit rfl | exact Or.inl (SqL.of (by assumption)) | exact ⟨_, SqL.of (by assumption)⟩ | exact ⟨_, SqT.of (by assumption)⟩ | exact Or.inr (SqT.of (by assumption)) | exact ClsV.ty _ | exact TyX.base (TyOf.int _) | exact TyX.base (TyOf.str _) | exact TyX.base (TyOf.tup (by assumption)) | exact kit_ty isi_ss | exact kit_ty isi_is | exact kit_ty isi_ts | exact kit_ty isi_si | exact kit_ty isi_ii | exact kit_ty isi_ti | exact kit_ty isi_st | exact kit_ty isi_it | exact kit_ty isi_tt | exact Or.inl ⟨_, Or.inl (by assumption)⟩ | exact DGet.k (k := Sum.inr _) (by assumption) | exact DGet.k (k := Sum.inl _) (by assumption) | (refine cpow_of ?_; decide) | (refine cmul_of ?_; decide) | (show (_ : Int) ≠ 0; first | decide | omega) | (refine cdivn_of ?_; decide) | exact Or.inl ⟨rfl, _, SqL.of (by assumption)⟩ | omega)
local macro_rules | `(tactic| walk_at "st") => `(tactic| first | (apply Exists.intro) | (refine And.intro ?_ ?_; focus (walk_at "sd")) | (apply Or.inl; apply Exists.intro; refine And.intro ?_ ?_; focus rfl) | (apply Or.inr; apply Exists.intro; refine And.intro ?_ ?_; focus rfl))
local macro_rules | `(tactic| walk_at "go") => `(tactic| repeat (walk_at "st"))
section
variable {P : Program} {w : World} {K : PySem.W.Frag} {mg : Str → Option Value} {base : Heap}
theorem eight {cs : List Int} (h : cs.length = 8) : ∃ c0 c1 c2 c3 c4 c5 c6 c7, cs = [c0, c1, c2, c3, c4, c5, c6, c7] := by
  match cs, h with
  | [c0, c1, c2, c3, c4, c5, c6, c7], _ => exact ⟨c0, c1, c2, c3, c4, c5, c6, c7, rfl⟩
theorem ok_l_placed (T : Top K mg) : FnOk P w K mg base CX0 3 T.l_placed.f T.l_placed.fd ["_law_deck_here"] (spPlaced2 (rcOf T)) := by
  have G_l_draw : FnOk P w K mg base CX0 1 T.l_draw.f T.l_draw.fd ["_law_deck_here", "_law_many"] spDraw := ok_l_draw T
  have G_Places_init : FnR P w K mg base CX0 1 T.Places_init.f (spPlacesS T.Places.C) := ok_Places_init T
  refine T.l_placed.F.ok sc_l_placed (fun vs H Q E h => ?_) (fun cdv A outer s H vs Q E hr h => ?_)
  · obtain ⟨a, d, m, rfl, _⟩ := h
    rfl
  obtain ⟨a, d, m, rfl, D, hm, q⟩ := h
  refine ⟨_, (pss_cons (ps_par (i := 1) (j := 2) (by rfl) sc_l_placed.nd rfl rfl (by decide) rfl rfl (pa_cons (pe_lc (own := [("_law_k", 3)]) (by rfl) sc_l_placed.nd (pi_range1 (by rfl) T.range (pa_cons pe_int pa_nil)) (blkOk_by (N := ["_law_deck_here", "_law_p", "_law_many", "_law_k"]) (sc := defScope s_l_placed) (own := [("_law_k", 3)]) (by decide +kernel)) (fun _ _ _ _ _ => (pg_name (i := 3) sc_l_placed.nd rfl (.inl rfl))) (fun _ _ _ _ _ => pts_nil) (fun _ _ _ _ _ => (pe_op op_sub (pe_call G_l_draw (hr.mono (by omega)) (by rfl) T.l_draw.g T.l_draw.F.kp T.l_draw.b .nil pass0 (pa_cons (pv 0) (pa_cons pe_int pa_nil))) pe_int))) (pa_cons (pe_call G_l_draw (hr.mono (by omega)) (by rfl) T.l_draw.g T.l_draw.F.kp T.l_draw.b .nil pass0 (pa_cons (pv 0) (pa_cons pe_int pa_nil))) pa_nil)) (by rfl))
      (pss_cons (ps_if (pt_cmpR op_eq (pv 2) pe_int (nomark _)) (pss_one (ps_ret (pe_tupA (pa_cons (pe_makeR0 T.mk_Places G_Places_init (hr.mono (by omega)) (by rfl) T.Places.g pass0) (pa_cons (pe_tupA (pa_cons pe_str pa_nil)) pa_nil))))) pss_nil)
      (pss_cons (ps_if (pt_cmpR op_eq (pv 2) pe_int (nomark _)) (pss_one (ps_ret (pe_tupA (pa_cons (StX.pe_makeR T.mk_Places G_Places_init (hr.mono (by omega)) (by rfl) T.Places.g pass0 (pa_cons (pe_ix (ix_listK (K := K) rfl) (pv 1) pe_int (fun _ _ => rfl)) pa_nil)) (pa_cons (pe_tupA (pa_cons pe_str (pa_cons (pe_ix (ix_listK (K := K) rfl) (pv 1) pe_int (fun _ _ => rfl)) pa_nil))) pa_nil))))) pss_nil)
      (pss_cons (ps_if (pt_cmpR op_eq (pv 2) pe_int (nomark _)) (pss_one (ps_ret (pe_tupA (pa_cons (StX.pe_makeR T.mk_Places G_Places_init (hr.mono (by omega)) (by rfl) T.Places.g pass0 (pa_cons (pe_ix (ix_listK (K := K) rfl) (pv 1) pe_int (fun _ _ => rfl)) (pa_cons (pe_ix (ix_listK (K := K) rfl) (pv 1) pe_int (fun _ _ => rfl)) pa_nil))) (pa_cons (pe_tupA (pa_cons pe_str (pa_cons (pe_ix (ix_listK (K := K) rfl) (pv 1) pe_int (fun _ _ => rfl)) (pa_cons (pe_ix (ix_listK (K := K) rfl) (pv 1) pe_int (fun _ _ => rfl)) pa_nil)))) pa_nil))))) pss_nil)
      (pss_one (ps_ret (pe_tupA (pa_cons (StX.pe_makeR T.mk_Places G_Places_init (hr.mono (by omega)) (by rfl) T.Places.g pass0 (pa_cons (pe_ix (ix_listK (K := K) rfl) (pv 1) pe_int (fun _ _ => rfl)) (pa_cons (pe_ix (ix_listK (K := K) rfl) (pv 1) pe_int (fun _ _ => rfl)) (pa_cons (pe_ix (ix_listK (K := K) rfl) (pv 1) pe_int (fun _ _ => rfl)) (pa_cons (pe_ix (ix_listK (K := K) rfl) (pv 1) pe_int (fun _ _ => rfl)) (pa_cons (pe_ix (ix_listK (K := K) rfl) (pv 1) pe_int (fun _ _ => rfl)) (pa_cons (pe_ix (ix_listK (K := K) rfl) (pv 1) pe_int (fun _ _ => rfl)) (pa_cons (pe_ix (ix_listK (K := K) rfl) (pv 1) pe_int (fun _ _ => rfl)) (pa_cons (pe_ix (ix_listK (K := K) rfl) (pv 1) pe_int (fun _ _ => rfl)) pa_nil))))))))) (pa_cons (pe_op (op_catTK (K := K) rfl) (pe_tupA (pa_cons pe_str pa_nil)) (pe_callTy (T := "tuple") (call_tupleK (K := K) rfl) (by rfl) T.tuple (by decide +kernel) (pa_cons (pv 1) pa_nil))) pa_nil))))))))), ?_⟩
  walk_at "go"
  intro L hL
  have oL := D.off hL
  have ac : a ∉ [L] ∧ d ∉ [L] := by
    simp only [List.mem_cons, List.not_mem_nil, or_false, not_or] at oL ⊢
    exact ⟨fun z => oL.1 z.symm, fun z => oL.2 z.symm⟩
  refine lc_range (lo := 0) (n := 8) (fun i H2 => Kp [a, d] H H2 ∧ ∃ cs : List Int, H2 L = some (.lst (cs.map V.int)) ∧ cs.length = i ∧ Deck H2 a d (m + (i : Int))) ⟨(Kp.new hL).sub (by simp), [], upd_same, rfl, (D.kp0 (Kp.new hL)).cast (by simp)⟩ ?_ ?_
  · rintro i H2 hi ⟨k2, cs, d2, l2, D2⟩
    have hmM : m + (i : Int) ≤ MANY := by show m + (i : Int) ≤ 1000000000; omega
    walk_at "go"
    intro r3 H3 r30 r31 D3 k3
    have d3 := k3.keep _ _ d2 oL
    have l3 : (cs.map V.int).length < sizeLine := by
      rw [List.length_map]
      exact sz_lt (by omega)
    walk_at "go"
    have k4 := Kp.put (u := .lst (cs.map V.int ++ [.int (r3 - 1)])) d3 (fun _ y => by cases y)
    refine ⟨(k2.trans k3).step1 k4 (.inr hL), cs ++ [r3 - 1], ?_, by rw [List.length_append, l2]; rfl, ((D3.kp k4 ac.1 ac.2)).cast (by omega)⟩
    rw [upd_same, List.map_append]
    rfl
  rintro H2 ⟨k2, cs, d2, l2, D2⟩
  obtain ⟨c0, c1, c2, c3, c4, c5, c6, c7, rfl⟩ := eight l2
  have D2 : Deck H2 a d (m + 8) := D2
  have hmM : m + 8 ≤ MANY := by show m + 8 ≤ 1000000000; omega
  walk_at "go"
  intro r H3 r0 r1 D3 k3
  have k13 := k2.trans k3
  have d3 := k3.keep _ _ d2 oL
  have done : ∀ (ps ns : List Int) (x dx u tv t : Addr) (H4 : Hp), (∀ k, k ∈ ns ↔ k ∈ ps) → H4 x = some (.ins T.Places.C dx [("places", .ref u)]) → H4 u = some (.tup (ns.map V.int)) → H4 tv = some (.tup (.str "places" :: ps.map V.int)) → H4 t = some (.tup [.ref x, .ref tv]) → ps.length ≤ 30 → Kp [] H3 H4 → Q (.ref t) H4 := fun ps ns x dx u tv t H4 mem hx hu htv ht hl k4 =>
    q (.places ns) (.places ps) t H4 (m + 8 + 1) ⟨x, .ref tv, ht, ⟨T.Places.C, dx, u, rfl, hx, hu⟩, mk_tup htv (trs_cons mk_str (trs_int _)), Nat.le_refl _, Nat.le_refl _, hl, fun v p => by simp only [Rul.go, mem]⟩ (by omega) (by omega) (D3.kp0 k4) (k13.step0 k4)
  walk_at "go"
  refine ite2 (fun hc => ?_) (fun hc => ?_)
  · walk_at "go"
    intro x dx hx hdx hne
    have kx := made_ins (C := T.Places.C) hx hdx hne
    have ix : (upd (upd H3 dx (.own x)) x (.ins T.Places.C dx [])) x = some (.ins T.Places.C dx []) := upd_same
    generalize (upd (upd H3 dx (.own x)) x (.ins T.Places.C dx [])) = H4 at kx ix ⊢
    refine ⟨[.ref x], [], rfl, rfl, sz_lit rfl, fun p hp => ?_⟩
    have kp := kx.trans (Kp.new (u := HO.tup []) hp)
    have ip : (upd H4 p (HO.tup [])) x = some (.ins T.Places.C dx []) := (Kp.new (u := HO.tup []) hp).keep _ _ ix (by simp)
    have tp : (upd H4 p (HO.tup [])) p = some (.tup ([].map V.int)) := upd_same
    generalize upd H4 p (HO.tup []) = H5 at kp ip tp ⊢
    refine ⟨x, dx, p, [], rfl, ip, tp, by decide, fun ns u H6 mem pw hx6 hu6 k6 => ⟨rfl, ?_⟩⟩
    have k36 := kp.step1 k6 (.inr hx)
    have d6 := k36.keep _ _ d3 (by simp)
    walk_at "go"
    intro tv H7 htv e7
    have k7 := new_kp htv e7
    have a7 := new_at e7
    walk_at "go"
    intro t H8 ht e8
    have k8 := new_kp ht e8
    exact done [] ns x dx u tv t H8 mem ((k7.trans k8).keep _ _ hx6 (by simp)) ((k7.trans k8).keep _ _ hu6 (by simp)) (k8.keep _ _ a7 (by simp)) (new_at e8) (by decide) ((k36.trans k7).trans k8)
  · walk_at "go"
    refine ite2 (fun hc => ?_) (fun hc => ?_)
    · walk_at "go"
      intro x dx hx hdx hne
      have kx := made_ins (C := T.Places.C) hx hdx hne
      have ix : (upd (upd H3 dx (.own x)) x (.ins T.Places.C dx [])) x = some (.ins T.Places.C dx []) := upd_same
      generalize (upd (upd H3 dx (.own x)) x (.ins T.Places.C dx [])) = H4 at kx ix ⊢
      refine ⟨[.ref x], [.int c0], rfl, rfl, sz_lit rfl, fun p hp => ?_⟩
      have kp := kx.trans (Kp.new (u := HO.tup [.int c0]) hp)
      have ip : (upd H4 p (HO.tup [.int c0])) x = some (.ins T.Places.C dx []) := (Kp.new (u := HO.tup [.int c0]) hp).keep _ _ ix (by simp)
      have tp : (upd H4 p (HO.tup [.int c0])) p = some (.tup ([c0].map V.int)) := upd_same
      generalize upd H4 p (HO.tup [.int c0]) = H5 at kp ip tp ⊢
      refine ⟨x, dx, p, [c0], rfl, ip, tp, by show 1 < 64; decide, fun ns u H6 mem pw hx6 hu6 k6 => ⟨rfl, ?_⟩⟩
      have k36 := kp.step1 k6 (.inr hx)
      have d6 := k36.keep _ _ d3 (by simp)
      walk_at "go"
      intro tv H7 htv e7
      have k7 := new_kp htv e7
      have a7 := new_at e7
      walk_at "go"
      intro t H8 ht e8
      have k8 := new_kp ht e8
      exact done [c0] ns x dx u tv t H8 mem ((k7.trans k8).keep _ _ hx6 (by simp)) ((k7.trans k8).keep _ _ hu6 (by simp)) (k8.keep _ _ a7 (by simp)) (new_at e8) (by show 1 ≤ 30; decide) ((k36.trans k7).trans k8)
    · walk_at "go"
      refine ite2 (fun hc => ?_) (fun hc => ?_)
      · walk_at "go"
        intro x dx hx hdx hne
        have kx := made_ins (C := T.Places.C) hx hdx hne
        have ix : (upd (upd H3 dx (.own x)) x (.ins T.Places.C dx [])) x = some (.ins T.Places.C dx []) := upd_same
        generalize (upd (upd H3 dx (.own x)) x (.ins T.Places.C dx [])) = H4 at kx ix ⊢
        refine ⟨[.ref x], [.int c0, .int c1], rfl, rfl, sz_lit rfl, fun p hp => ?_⟩
        have kp := kx.trans (Kp.new (u := HO.tup [.int c0, .int c1]) hp)
        have ip : (upd H4 p (HO.tup [.int c0, .int c1])) x = some (.ins T.Places.C dx []) := (Kp.new (u := HO.tup [.int c0, .int c1]) hp).keep _ _ ix (by simp)
        have tp : (upd H4 p (HO.tup [.int c0, .int c1])) p = some (.tup ([c0, c1].map V.int)) := upd_same
        generalize upd H4 p (HO.tup [.int c0, .int c1]) = H5 at kp ip tp ⊢
        refine ⟨x, dx, p, [c0, c1], rfl, ip, tp, by show 2 < 64; decide, fun ns u H6 mem pw hx6 hu6 k6 => ⟨rfl, ?_⟩⟩
        have k36 := kp.step1 k6 (.inr hx)
        have d6 := k36.keep _ _ d3 (by simp)
        walk_at "go"
        intro tv H7 htv e7
        have k7 := new_kp htv e7
        have a7 := new_at e7
        walk_at "go"
        intro t H8 ht e8
        have k8 := new_kp ht e8
        exact done [c0, c1] ns x dx u tv t H8 mem ((k7.trans k8).keep _ _ hx6 (by simp)) ((k7.trans k8).keep _ _ hu6 (by simp)) (k8.keep _ _ a7 (by simp)) (new_at e8) (by show 2 ≤ 30; decide) ((k36.trans k7).trans k8)
      · have a0 : atI ([c0, c1, c2, c3, c4, c5, c6, c7].map V.int) 0 = some (.int c0) := rfl
        have a1 : atI ([c0, c1, c2, c3, c4, c5, c6, c7].map V.int) 1 = some (.int c1) := rfl
        have a2 : atI ([c0, c1, c2, c3, c4, c5, c6, c7].map V.int) 2 = some (.int c2) := rfl
        have a3 : atI ([c0, c1, c2, c3, c4, c5, c6, c7].map V.int) 3 = some (.int c3) := rfl
        have a4 : atI ([c0, c1, c2, c3, c4, c5, c6, c7].map V.int) 4 = some (.int c4) := rfl
        have a5 : atI ([c0, c1, c2, c3, c4, c5, c6, c7].map V.int) 5 = some (.int c5) := rfl
        have a6 : atI ([c0, c1, c2, c3, c4, c5, c6, c7].map V.int) 6 = some (.int c6) := rfl
        have a7 : atI ([c0, c1, c2, c3, c4, c5, c6, c7].map V.int) 7 = some (.int c7) := rfl
        walk_at "go"
        intro x dx hx hdx hne
        have kx := made_ins (C := T.Places.C) hx hdx hne
        have ix : (upd (upd H3 dx (.own x)) x (.ins T.Places.C dx [])) x = some (.ins T.Places.C dx []) := upd_same
        generalize (upd (upd H3 dx (.own x)) x (.ins T.Places.C dx [])) = H4 at kx ix ⊢
        refine ⟨[.ref x], [.int c0, .int c1, .int c2, .int c3, .int c4, .int c5, .int c6, .int c7], rfl, rfl, sz_lit rfl, fun p hp => ?_⟩
        have kp := kx.trans (Kp.new (u := HO.tup [.int c0, .int c1, .int c2, .int c3, .int c4, .int c5, .int c6, .int c7]) hp)
        have ip : (upd H4 p (HO.tup [.int c0, .int c1, .int c2, .int c3, .int c4, .int c5, .int c6, .int c7])) x = some (.ins T.Places.C dx []) := (Kp.new (u := HO.tup [.int c0, .int c1, .int c2, .int c3, .int c4, .int c5, .int c6, .int c7]) hp).keep _ _ ix (by simp)
        have tp : (upd H4 p (HO.tup [.int c0, .int c1, .int c2, .int c3, .int c4, .int c5, .int c6, .int c7])) p = some (.tup ([c0, c1, c2, c3, c4, c5, c6, c7].map V.int)) := upd_same
        generalize upd H4 p (HO.tup [.int c0, .int c1, .int c2, .int c3, .int c4, .int c5, .int c6, .int c7]) = H5 at kp ip tp ⊢
        refine ⟨x, dx, p, [c0, c1, c2, c3, c4, c5, c6, c7], rfl, ip, tp, by show 8 < 64; decide, fun ns u H6 mem pw hx6 hu6 k6 => ⟨rfl, ?_⟩⟩
        have k36 := kp.step1 k6 (.inr hx)
        have d6 := k36.keep _ _ d3 (by simp)
        walk_at "go"
        intro tc H7 htc e7
        have k7 := new_kp htc e7
        have a7 := new_at e7
        have d7 := k7.keep _ _ d6 (by simp)
        walk_at "go"
        intro tl H8 htl a8 k8
        have b8 := k8.keep _ _ a7 (by simp)
        walk_at "go"
        intro tv H9 a9 k9
        walk_at "go"
        intro t H10 ht e10
        have k10 := new_kp ht e10
        have k6a := ((k7.trans k8).trans k9).trans k10
        exact done [c0, c1, c2, c3, c4, c5, c6, c7] ns x dx u tv t H10 mem (k6a.keep _ _ hx6 (by simp)) (k6a.keep _ _ hu6 (by simp)) (k10.keep _ _ a9 (by simp)) (new_at e10) (by show 8 ≤ 30; decide) (k36.trans k6a)
end
end EH
namespace EH
open PySem L2
local macro_rules | `(tactic| walk_at "sd") => `(tactic| first | assumption | ((with_reducible show (_ : Int) ≤ _); omega) | ((with_reducible show (_ : Int) < _); omega) | rfl | exact SqL.of (by assumption) | exact SqT.of (by assumption) | exact atI_nat (j := 0) rfl | exact atI_nat (j := 1) rfl | exact atI_nat (j := 2) rfl | exact atI_nat (j := 3) rfl | exact sz_lit rfl | exact lt_lit rfl | exact pos_lit rfl | exact le_lit rfl | exact Or.inl (SqL.of (by assumption)) | exact ⟨_, SqL.of (by assumption)⟩ | exact ⟨_, SqT.of (by assumption)⟩ | exact Or.inr (SqT.of (by assumption)) | exact ClsV.ty _ | exact TyX.base (TyOf.int _) | exact TyX.base (TyOf.str _) | exact TyX.base (TyOf.tup (by assumption)) | exact kit_ty isi_ss | exact kit_ty isi_is | exact kit_ty isi_ts | exact kit_ty isi_si | exact kit_ty isi_ii | exact kit_ty isi_ti | exact kit_ty isi_st | exact kit_ty isi_it | exact kit_ty isi_tt | exact Or.inl ⟨_, Or.inl (by assumption)⟩ | exact DGet.k (k := Sum.inr _) (by assumption) | exact DGet.k (k := Sum.inl _) (by assumption) | (refine cpow_of ?_; decide) | (refine cmul_of ?_; decide) | (show (_ : Int) ≠ 0; first | decide | omega) | (refine cdivn_of ?_; decide) | exact Or.inl ⟨rfl, _, SqL.of (by assumption)⟩ | omega)
local macro_rules | `(tactic| walk_at "st") => `(tactic| first | (apply Exists.intro) | (refine And.intro ?_ ?_; focus (walk_at "sd")) | (apply Or.inl; apply Exists.intro; refine And.intro ?_ ?_; focus rfl) | (apply Or.inr; apply Exists.intro; refine And.intro ?_ ?_; focus rfl))
local macro_rules | `(tactic| walk_at "go") => `(tactic| repeat (walk_at "st"))
section
variable {P : Program} {w : World} {K : PySem.W.Frag} {mg : Str → Option Value} {base : Heap}
theorem ok_l_way (T : Top K mg) : ∀ n : Nat, FnOk P w K mg base CX0 (n + 1) T.l_way.f T.l_way.fd ["_law_told", "_law_value_here", "_law_place"] (spWayOf n)
  | 0 => fn_no (by rintro vs H Q E ⟨r, tv, v, p, _, _, _, h, _⟩; have := r.dp_pos; omega)
  | n + 1 => by
    have G_l_way := ok_l_way T n
    refine T.l_way.F.ok sc_l_way (fun vs H Q E h => ?_) (fun cdv A outer s H vs Q E hr h => ?_)
    · obtain ⟨r, tv, v, p, rfl, _⟩ := h
      rfl
    obtain ⟨r, tv, v, p, rfl, ht, hw, hd, q⟩ := h
    have hu := hu_of hr
    have hu64 := hr.units
    refine ⟨_, (pss_cons (ps_set (i := 3) sc_l_way.nd rfl (.inl rfl) (pe_ix (ix_tupK (K := K) rfl) (pv 0) pe_int (fun _ _ => rfl)))
      (pss_cons (ps_if (pt_cmpR (op_in_seqK (K := K) rfl) (pv 3) (pe_tupA (pa_cons pe_str (pa_cons pe_str (pa_cons pe_str pa_nil)))) (by rfl)) (pss_cons (ps_set (i := 4) sc_l_way.nd rfl (.inl rfl) (pe_op op_add (pe_call G_l_way (hr.mono (by omega)) (by rfl) T.l_way.g T.l_way.F.kp T.l_way.b .nil pass0 (pa_cons (pe_ix (ix_tupK (K := K) rfl) (pv 0) pe_int (fun _ _ => rfl)) (pa_cons (pv 1) (pa_cons (pv 2) pa_nil)))) (pe_call G_l_way (hr.mono (by omega)) (by rfl) T.l_way.g T.l_way.F.kp T.l_way.b .nil pass0 (pa_cons (pe_ix (ix_tupK (K := K) rfl) (pv 0) pe_int (fun _ _ => rfl)) (pa_cons (pv 1) (pa_cons (pv 2) pa_nil))))))
      (pss_one (ps_ret (pe_ix (ix_listK (K := K) rfl) (pe_dget hu (pe_disp (pps_cons pe_str (pe_lstA (pa_cons pe_int (pa_cons pe_int (pa_cons pe_int pa_nil)))) (pps_cons pe_str (pe_lstA (pa_cons pe_int (pa_cons pe_int (pa_cons pe_int pa_nil)))) (pps_cons pe_str (pe_lstA (pa_cons pe_int (pa_cons pe_int (pa_cons pe_int pa_nil)))) pps_nil))) (by rfl) (by rfl) (fun z => by cases z) (by decide)) (pv 3) (fun _ _ => rfl)) (pv 4) (fun _ _ => rfl))))) pss_nil)
      (pss_cons (ps_if (pt_cmpR op_eq (pv 3) pe_str (nomark _)) (pss_one (ps_ret (pe_op op_sub pe_int (pe_call G_l_way (hr.mono (by omega)) (by rfl) T.l_way.g T.l_way.F.kp T.l_way.b .nil pass0 (pa_cons (pe_ix (ix_tupK (K := K) rfl) (pv 0) pe_int (fun _ _ => rfl)) (pa_cons (pv 1) (pa_cons (pv 2) pa_nil))))))) pss_nil)
      (pss_cons (ps_if (pt_cmpR (op_in_seqK (K := K) rfl) (pv 3) (pe_tupA (pa_cons pe_str (pa_cons pe_str pa_nil))) (by rfl)) (pss_cons (ps_set (i := 5) sc_l_way.nd rfl (.inl rfl) (pe_cmpR op_eq (pe_op op_modN (pe_op op_fdivN (pe_callTy (T := "int") call_int1 (by rfl) T.int (by decide +kernel) (pa_cons (pv 1) pa_nil)) pe_int) pe_int) pe_int (nomark _)))
      (pss_one (ps_ret (pe_callTy (T := "int") call_int1 (by rfl) T.int (by decide +kernel) (pa_cons (pe_cmpR (op_eqDK (K := K) rfl hu64) (pv 5) (pe_cmpR op_eq (pv 3) pe_str (nomark _)) (nomark _)) pa_nil))))) pss_nil)
      (pss_cons (ps_if (pt_cmpR op_eq (pv 3) pe_str (nomark _)) (pss_one (ps_ret (pe_callTy (T := "int") call_int1 (by rfl) T.int (by decide +kernel) (pa_cons (pe_cmpR op_lt (pv 1) (pe_ix (ix_tupK (K := K) rfl) (pv 0) pe_int (fun _ _ => rfl)) (nomark _)) pa_nil)))) pss_nil)
      (pss_cons (ps_if (pt_cmpR op_eq (pv 3) pe_str (nomark _)) (pss_one (ps_ret (pe_callTy (T := "int") call_int1 (by rfl) T.int (by decide +kernel) (pa_cons (pe_cmpR (op_in_seqK (K := K) rfl) (pv 2) (pe_slice (sl_tupK (K := K) rfl) (pv 0) (po_some pe_int) po_none) (by rfl)) pa_nil)))) pss_nil)
      (pss_one (ps_ret (pe_callTy (T := "int") call_int1 (by rfl) T.int (by decide +kernel) (pa_cons (pe_dget hu (pe_disp (pps_cons pe_str pe_bl (pps_cons pe_str pe_bl (pps_cons pe_str (pe_cmpR op_lt (pv 1) pe_int (nomark _)) (pps_cons pe_str (pe_cmpR op_gt (pv 1) pe_int (nomark _)) pps_nil)))) (by rfl) (by rfl) (fun z => by cases z) (by decide)) (pv 3) (fun _ _ => rfl)) pa_nil)))))))))), ?_⟩
    cases r with
    | down =>
      obtain ⟨ta, x1, rfl, hta, t1⟩ := tr_tup1 ht
      cases tr_str t1
      walk_at "go"
      intro u1 H1 hu1 e1
      have k1 := new_kp hu1 e1
      have a1 := new_at e1
      refine ⟨u1, _, rfl, .inr (SqT.of a1), rfl, rfl, _, rfl, ?_⟩
      refine iteF ?_
      have t1 := k1.tup _ _ hta
      walk_at "go"
      first | refine iteF ?_ | skip
      walk_at "go"
      intro u2 H2 hu2 e2
      have k2 := new_kp hu2 e2
      have a2 := new_at e2
      refine ⟨u2, _, rfl, .inr (SqT.of a2), rfl, rfl, _, rfl, ?_⟩
      refine iteF ?_
      have t2 := k2.tup _ _ t1
      walk_at "go"
      first | refine iteF ?_ | skip
      walk_at "go"
      first | refine iteF ?_ | skip
      walk_at "go"
      walk_at "go"
      intro dd hdd
      walk_at "go"
      refine ⟨upd_same, [(Sum.inr "down", .bl false), (Sum.inr "up", .bl true), (Sum.inr "zero", .bl (decide (v < 0))), (Sum.inr "away", .bl (decide (0 < v)))], rfl, by show 4 ≤ 15; decide, ?_⟩
      have k3 : Kp [] H2 (upd (upd H2 dd (.dK [])) dd (.dK (mergeK [] [(Sum.inr "down", .bl false), (Sum.inr "up", .bl true), (Sum.inr "zero", .bl (decide (v < 0))), (Sum.inr "away", .bl (decide (0 < v)))]))) := (Kp.new hdd).step1 (Kp.put upd_same (fun _ z => by cases z)) (.inr hdd)
      have a3 : (upd (upd H2 dd (.dK [])) dd (.dK (mergeK [] [(Sum.inr "down", .bl false), (Sum.inr "up", .bl true), (Sum.inr "zero", .bl (decide (v < 0))), (Sum.inr "away", .bl (decide (0 < v)))]))) dd = some (.dK [(Sum.inr "down", .bl false), (Sum.inr "up", .bl true), (Sum.inr "zero", .bl (decide (v < 0))), (Sum.inr "away", .bl (decide (0 < v)))]) := by rw [upd_same]; rfl
      generalize (upd (upd H2 dd (.dK [])) dd (.dK (mergeK [] [(Sum.inr "down", .bl false), (Sum.inr "up", .bl true), (Sum.inr "zero", .bl (decide (v < 0))), (Sum.inr "away", .bl (decide (0 < v)))]))) = H3 at k3 a3 ⊢
      walk_at "go"
      exact q H3 ((k1.trans k2).trans k3)
    | up =>
      obtain ⟨ta, x1, rfl, hta, t1⟩ := tr_tup1 ht
      cases tr_str t1
      walk_at "go"
      intro u1 H1 hu1 e1
      have k1 := new_kp hu1 e1
      have a1 := new_at e1
      refine ⟨u1, _, rfl, .inr (SqT.of a1), rfl, rfl, _, rfl, ?_⟩
      refine iteF ?_
      have t1 := k1.tup _ _ hta
      walk_at "go"
      first | refine iteF ?_ | skip
      walk_at "go"
      intro u2 H2 hu2 e2
      have k2 := new_kp hu2 e2
      have a2 := new_at e2
      refine ⟨u2, _, rfl, .inr (SqT.of a2), rfl, rfl, _, rfl, ?_⟩
      refine iteF ?_
      have t2 := k2.tup _ _ t1
      walk_at "go"
      first | refine iteF ?_ | skip
      walk_at "go"
      first | refine iteF ?_ | skip
      walk_at "go"
      walk_at "go"
      intro dd hdd
      walk_at "go"
      refine ⟨upd_same, [(Sum.inr "down", .bl false), (Sum.inr "up", .bl true), (Sum.inr "zero", .bl (decide (v < 0))), (Sum.inr "away", .bl (decide (0 < v)))], rfl, by show 4 ≤ 15; decide, ?_⟩
      have k3 : Kp [] H2 (upd (upd H2 dd (.dK [])) dd (.dK (mergeK [] [(Sum.inr "down", .bl false), (Sum.inr "up", .bl true), (Sum.inr "zero", .bl (decide (v < 0))), (Sum.inr "away", .bl (decide (0 < v)))]))) := (Kp.new hdd).step1 (Kp.put upd_same (fun _ z => by cases z)) (.inr hdd)
      have a3 : (upd (upd H2 dd (.dK [])) dd (.dK (mergeK [] [(Sum.inr "down", .bl false), (Sum.inr "up", .bl true), (Sum.inr "zero", .bl (decide (v < 0))), (Sum.inr "away", .bl (decide (0 < v)))]))) dd = some (.dK [(Sum.inr "down", .bl false), (Sum.inr "up", .bl true), (Sum.inr "zero", .bl (decide (v < 0))), (Sum.inr "away", .bl (decide (0 < v)))]) := by rw [upd_same]; rfl
      generalize (upd (upd H2 dd (.dK [])) dd (.dK (mergeK [] [(Sum.inr "down", .bl false), (Sum.inr "up", .bl true), (Sum.inr "zero", .bl (decide (v < 0))), (Sum.inr "away", .bl (decide (0 < v)))]))) = H3 at k3 a3 ⊢
      walk_at "go"
      exact q H3 ((k1.trans k2).trans k3)
    | even =>
      obtain ⟨ta, x1, rfl, hta, t1⟩ := tr_tup1 ht
      cases tr_str t1
      walk_at "go"
      intro u1 H1 hu1 e1
      have k1 := new_kp hu1 e1
      have a1 := new_at e1
      refine ⟨u1, _, rfl, .inr (SqT.of a1), rfl, rfl, _, rfl, ?_⟩
      refine iteF ?_
      have t1 := k1.tup _ _ hta
      walk_at "go"
      first | refine iteF ?_ | skip
      walk_at "go"
      intro u2 H2 hu2 e2
      have k2 := new_kp hu2 e2
      have a2 := new_at e2
      refine ⟨u2, _, rfl, .inr (SqT.of a2), rfl, rfl, _, rfl, ?_⟩
      refine iteT ?_
      have t2 := k2.tup _ _ t1
      walk_at "go"
      refine ⟨.bl _, .bl _, rfl, rfl, ?_⟩
      walk_at "go"
      have e : (if PyData.eqv (.bool (decide (V.int ((v.fdiv 2).fmod 2) = V.int 1))) (.bool (decide (V.str "even" = V.str "even"))) = true then (1 : Int) else 0) = b01 (v / 2 % 2 = 1) := by
        have e1 : decide (V.str "even" = V.str "even") = true := by simp
        rw [e1, dec_int, Int.fdiv_eq_ediv_of_nonneg _ (by decide), Int.fmod_eq_emod_of_nonneg _ (by decide)]
        unfold b01
        by_cases z : v / 2 % 2 = 1
        · rw [decide_eq_true z]
          rw [if_pos (by rfl), if_pos (by omega)]
        · rw [decide_eq_false z]
          rw [if_neg (by decide), if_neg (by omega)]
      show Q (.int (if PyData.eqv (.bool (decide (V.int ((v.fdiv 2).fmod 2) = V.int 1))) (.bool (decide (V.str "even" = V.str "even"))) = true then (1 : Int) else 0)) H2
      rw [e]
      exact q H2 (k1.trans k2)
    | odd =>
      obtain ⟨ta, x1, rfl, hta, t1⟩ := tr_tup1 ht
      cases tr_str t1
      walk_at "go"
      intro u1 H1 hu1 e1
      have k1 := new_kp hu1 e1
      have a1 := new_at e1
      refine ⟨u1, _, rfl, .inr (SqT.of a1), rfl, rfl, _, rfl, ?_⟩
      refine iteF ?_
      have t1 := k1.tup _ _ hta
      walk_at "go"
      first | refine iteF ?_ | skip
      walk_at "go"
      intro u2 H2 hu2 e2
      have k2 := new_kp hu2 e2
      have a2 := new_at e2
      refine ⟨u2, _, rfl, .inr (SqT.of a2), rfl, rfl, _, rfl, ?_⟩
      refine iteT ?_
      have t2 := k2.tup _ _ t1
      walk_at "go"
      refine ⟨.bl _, .bl _, rfl, rfl, ?_⟩
      walk_at "go"
      have e : (if PyData.eqv (.bool (decide (V.int ((v.fdiv 2).fmod 2) = V.int 1))) (.bool (decide (V.str "odd" = V.str "even"))) = true then (1 : Int) else 0) = b01 (¬ v / 2 % 2 = 1) := by
        have e1 : decide (V.str "odd" = V.str "even") = false := by decide
        rw [e1, dec_int, Int.fdiv_eq_ediv_of_nonneg _ (by decide), Int.fmod_eq_emod_of_nonneg _ (by decide)]
        unfold b01
        by_cases z : v / 2 % 2 = 1
        · rw [decide_eq_true z]
          rw [if_neg (by decide), if_neg (by omega)]
        · rw [decide_eq_false z]
          rw [if_pos (by rfl), if_pos (by omega)]
      show Q (.int (if PyData.eqv (.bool (decide (V.int ((v.fdiv 2).fmod 2) = V.int 1))) (.bool (decide (V.str "odd" = V.str "even"))) = true then (1 : Int) else 0)) H2
      rw [e]
      exact q H2 (k1.trans k2)
    | zero =>
      obtain ⟨ta, x1, rfl, hta, t1⟩ := tr_tup1 ht
      cases tr_str t1
      walk_at "go"
      intro u1 H1 hu1 e1
      have k1 := new_kp hu1 e1
      have a1 := new_at e1
      refine ⟨u1, _, rfl, .inr (SqT.of a1), rfl, rfl, _, rfl, ?_⟩
      refine iteF ?_
      have t1 := k1.tup _ _ hta
      walk_at "go"
      first | refine iteF ?_ | skip
      walk_at "go"
      intro u2 H2 hu2 e2
      have k2 := new_kp hu2 e2
      have a2 := new_at e2
      refine ⟨u2, _, rfl, .inr (SqT.of a2), rfl, rfl, _, rfl, ?_⟩
      refine iteF ?_
      have t2 := k2.tup _ _ t1
      walk_at "go"
      first | refine iteF ?_ | skip
      walk_at "go"
      first | refine iteF ?_ | skip
      walk_at "go"
      walk_at "go"
      intro dd hdd
      walk_at "go"
      refine ⟨upd_same, [(Sum.inr "down", .bl false), (Sum.inr "up", .bl true), (Sum.inr "zero", .bl (decide (v < 0))), (Sum.inr "away", .bl (decide (0 < v)))], rfl, by show 4 ≤ 15; decide, ?_⟩
      have k3 : Kp [] H2 (upd (upd H2 dd (.dK [])) dd (.dK (mergeK [] [(Sum.inr "down", .bl false), (Sum.inr "up", .bl true), (Sum.inr "zero", .bl (decide (v < 0))), (Sum.inr "away", .bl (decide (0 < v)))]))) := (Kp.new hdd).step1 (Kp.put upd_same (fun _ z => by cases z)) (.inr hdd)
      have a3 : (upd (upd H2 dd (.dK [])) dd (.dK (mergeK [] [(Sum.inr "down", .bl false), (Sum.inr "up", .bl true), (Sum.inr "zero", .bl (decide (v < 0))), (Sum.inr "away", .bl (decide (0 < v)))]))) dd = some (.dK [(Sum.inr "down", .bl false), (Sum.inr "up", .bl true), (Sum.inr "zero", .bl (decide (v < 0))), (Sum.inr "away", .bl (decide (0 < v)))]) := by rw [upd_same]; rfl
      generalize (upd (upd H2 dd (.dK [])) dd (.dK (mergeK [] [(Sum.inr "down", .bl false), (Sum.inr "up", .bl true), (Sum.inr "zero", .bl (decide (v < 0))), (Sum.inr "away", .bl (decide (0 < v)))]))) = H3 at k3 a3 ⊢
      walk_at "go"
      have e : (if decide (v < 0) = true then (1 : Int) else 0) = b01 (v < 0) := by
        unfold b01
        simp only [decide_eq_true_eq]
      show Q (.int (if decide (v < 0) = true then (1 : Int) else 0)) H3
      rw [e]
      exact q H3 ((k1.trans k2).trans k3)
    | away =>
      obtain ⟨ta, x1, rfl, hta, t1⟩ := tr_tup1 ht
      cases tr_str t1
      walk_at "go"
      intro u1 H1 hu1 e1
      have k1 := new_kp hu1 e1
      have a1 := new_at e1
      refine ⟨u1, _, rfl, .inr (SqT.of a1), rfl, rfl, _, rfl, ?_⟩
      refine iteF ?_
      have t1 := k1.tup _ _ hta
      walk_at "go"
      first | refine iteF ?_ | skip
      walk_at "go"
      intro u2 H2 hu2 e2
      have k2 := new_kp hu2 e2
      have a2 := new_at e2
      refine ⟨u2, _, rfl, .inr (SqT.of a2), rfl, rfl, _, rfl, ?_⟩
      refine iteF ?_
      have t2 := k2.tup _ _ t1
      walk_at "go"
      first | refine iteF ?_ | skip
      walk_at "go"
      first | refine iteF ?_ | skip
      walk_at "go"
      walk_at "go"
      intro dd hdd
      walk_at "go"
      refine ⟨upd_same, [(Sum.inr "down", .bl false), (Sum.inr "up", .bl true), (Sum.inr "zero", .bl (decide (v < 0))), (Sum.inr "away", .bl (decide (0 < v)))], rfl, by show 4 ≤ 15; decide, ?_⟩
      have k3 : Kp [] H2 (upd (upd H2 dd (.dK [])) dd (.dK (mergeK [] [(Sum.inr "down", .bl false), (Sum.inr "up", .bl true), (Sum.inr "zero", .bl (decide (v < 0))), (Sum.inr "away", .bl (decide (0 < v)))]))) := (Kp.new hdd).step1 (Kp.put upd_same (fun _ z => by cases z)) (.inr hdd)
      have a3 : (upd (upd H2 dd (.dK [])) dd (.dK (mergeK [] [(Sum.inr "down", .bl false), (Sum.inr "up", .bl true), (Sum.inr "zero", .bl (decide (v < 0))), (Sum.inr "away", .bl (decide (0 < v)))]))) dd = some (.dK [(Sum.inr "down", .bl false), (Sum.inr "up", .bl true), (Sum.inr "zero", .bl (decide (v < 0))), (Sum.inr "away", .bl (decide (0 < v)))]) := by rw [upd_same]; rfl
      generalize (upd (upd H2 dd (.dK [])) dd (.dK (mergeK [] [(Sum.inr "down", .bl false), (Sum.inr "up", .bl true), (Sum.inr "zero", .bl (decide (v < 0))), (Sum.inr "away", .bl (decide (0 < v)))]))) = H3 at k3 a3 ⊢
      walk_at "go"
      have e : (if decide (0 < v) = true then (1 : Int) else 0) = b01 (v > 0) := by
        unfold b01
        simp only [decide_eq_true_eq]
      show Q (.int (if decide (0 < v) = true then (1 : Int) else 0)) H3
      rw [e]
      exact q H3 ((k1.trans k2).trans k3)
    | blw n0 =>
      obtain ⟨ta, x1, x2, rfl, hta, t1, t2⟩ := tr_tup2 ht
      cases tr_str t1
      cases tr_int t2
      walk_at "go"
      intro u1 H1 hu1 e1
      have k1 := new_kp hu1 e1
      have a1 := new_at e1
      refine ⟨u1, _, rfl, .inr (SqT.of a1), rfl, rfl, _, rfl, ?_⟩
      refine iteF ?_
      have t1 := k1.tup _ _ hta
      walk_at "go"
      first | refine iteF ?_ | skip
      walk_at "go"
      intro u2 H2 hu2 e2
      have k2 := new_kp hu2 e2
      have a2 := new_at e2
      refine ⟨u2, _, rfl, .inr (SqT.of a2), rfl, rfl, _, rfl, ?_⟩
      refine iteF ?_
      have t2 := k2.tup _ _ t1
      walk_at "go"
      first | refine iteT ?_ | skip
      walk_at "go"
      have e : (if decide (v < n0) = true then (1 : Int) else 0) = b01 (v < n0) := by
        unfold b01
        simp only [decide_eq_true_eq]
      show Q (.int (if decide (v < n0) = true then (1 : Int) else 0)) H2
      rw [e]
      exact q H2 (k1.trans k2)
    | places ps =>
      obtain ⟨ta, xs, rfl, hta, hxs⟩ := tr_tup ht
      obtain ⟨x1, xs2, rfl, t1, hx2⟩ := trs_cons_of hxs
      cases tr_str t1
      obtain rfl := trs_int_of hx2
      walk_at "go"
      intro u1 H1 hu1 e1
      have k1 := new_kp hu1 e1
      have a1 := new_at e1
      refine ⟨u1, _, rfl, .inr (SqT.of a1), rfl, rfl, _, rfl, ?_⟩
      refine iteF ?_
      have t1 := k1.tup _ _ hta
      walk_at "go"
      first | refine iteF ?_ | skip
      walk_at "go"
      intro u2 H2 hu2 e2
      have k2 := new_kp hu2 e2
      have a2 := new_at e2
      refine ⟨u2, _, rfl, .inr (SqT.of a2), rfl, rfl, _, rfl, ?_⟩
      refine iteF ?_
      have t2 := k2.tup _ _ t1
      walk_at "go"
      first | refine iteF ?_ | skip
      walk_at "go"
      first | refine iteT ?_ | skip
      walk_at "go"
      intro u3 H3 a3 k3
      have ec : cutV (V.str "places" :: ps.map V.int) (some 1) none = ps.map V.int := cut_1c _ _
      rw [ec] at a3
      refine ⟨u3, _, rfl, .inr (SqT.of a3), rfl, flat_is ps, ?_⟩
      walk_at "go"
      have e : (if inV (V.int p) (ps.map V.int) = true then (1 : Int) else 0) = b01 (p ∈ ps) := by
        rw [inV_ints]
        unfold b01
        simp only [decide_eq_true_eq]
      show Q (.int (if inV (V.int p) (ps.map V.int) = true then (1 : Int) else 0)) H3
      rw [e]
      exact q H3 ((k1.trans k2).trans k3)
    | turned r =>
      obtain ⟨ta, x1, x2, rfl, hta, t1, t2⟩ := tr_tup2 ht
      cases tr_str t1
      have hd2 : r.dp ≤ n := by have : r.dp + 1 ≤ n + 1 := hd; omega
      have hw2 : r.wok := hw
      walk_at "go"
      intro u1 H1 hu1 e1
      have k1 := new_kp hu1 e1
      have a1 := new_at e1
      refine ⟨u1, _, rfl, .inr (SqT.of a1), rfl, rfl, _, rfl, ?_⟩
      refine iteF ?_
      have t1 := k1.tup _ _ hta
      have ht2 := k1.tr t2
      walk_at "go"
      first | refine iteT ?_ | skip
      walk_at "go"
      intro H2 k2
      walk_at "go"
      exact q H2 (k1.trans k2)
    | join wd r s' =>
      obtain ⟨ta, x1, x2, x3, rfl, hta, t1, t2, t3⟩ := tr_tup3 ht
      cases tr_str t1
      obtain ⟨hwd, hwa, hwb⟩ := (show (wd = "and" ∨ wd = "or" ∨ wd = "xor") ∧ r.wok ∧ s'.wok from hw)
      have hdm : max r.dp s'.dp + 1 ≤ n + 1 := hd
      have hd1 : r.dp ≤ n := by omega
      have hd2 : s'.dp ≤ n := by omega
      have g1 := r.way_01 v p
      have g2 := s'.way_01 v p
      rcases hwd with rfl | rfl | rfl
      · walk_at "go"
        intro u1 H1 hu1 e1
        have k1 := new_kp hu1 e1
        have a1 := new_at e1
        refine ⟨u1, _, rfl, .inr (SqT.of a1), rfl, rfl, _, rfl, ?_⟩
        refine iteT ?_
        have h1 := k1.tup _ _ hta
        have t21 := k1.tr t2
        have t31 := k1.tr t3
        walk_at "go"
        intro H2 k2
        have h2 := k2.tup _ _ h1
        have t32 := k2.tr t31
        walk_at "go"
        intro H3 k3
        walk_at "go"
        intro dd hdd
        have kd : Kp [] H3 (upd H3 dd (.dK [])) := Kp.new hdd
        have ad : (upd H3 dd (.dK [])) dd = some (.dK []) := upd_same
        generalize upd H3 dd (.dK []) = H4 at kd ad ⊢
        walk_at "go"
        intro la A1 hla ela
        have ka := new_kp hla ela
        have aa := new_at ela
        walk_at "go"
        intro lb A2 hlb elb
        have kb := new_kp hlb elb
        have ab := new_at elb
        walk_at "go"
        intro lc A3 hlc elc
        have kc := new_kp hlc elc
        have ac := new_at elc
        have k4 := (ka.trans kb).trans kc
        refine ⟨k4.at ad, [(Sum.inr "and", .ref la), (Sum.inr "or", .ref lb), (Sum.inr "xor", .ref lc)], rfl, by show 3 ≤ 15; decide, ?_⟩
        have kp := Kp.put (u := .dK (mergeK [] [(Sum.inr "and", .ref la), (Sum.inr "or", .ref lb), (Sum.inr "xor", .ref lc)])) (k4.at ad) (fun _ z => by cases z)
        have pa : (upd A3 dd (.dK (mergeK [] [(Sum.inr "and", .ref la), (Sum.inr "or", .ref lb), (Sum.inr "xor", .ref lc)]))) dd = some (.dK [(Sum.inr "and", .ref la), (Sum.inr "or", .ref lb), (Sum.inr "xor", .ref lc)]) := by rw [upd_same]; rfl
        have la3 : (upd A3 dd (.dK (mergeK [] [(Sum.inr "and", .ref la), (Sum.inr "or", .ref lb), (Sum.inr "xor", .ref lc)]))) la = some (.lst [.int 0, .int 0, .int 1]) := by rw [upd_ne (ne_of_none ad hla).symm]; exact (kb.trans kc).at aa
        have lb3 : (upd A3 dd (.dK (mergeK [] [(Sum.inr "and", .ref la), (Sum.inr "or", .ref lb), (Sum.inr "xor", .ref lc)]))) lb = some (.lst [.int 0, .int 1, .int 1]) := by rw [upd_ne (ne_of_none (ka.at ad) hlb).symm]; exact kc.at ab
        have lc3 : (upd A3 dd (.dK (mergeK [] [(Sum.inr "and", .ref la), (Sum.inr "or", .ref lb), (Sum.inr "xor", .ref lc)]))) lc = some (.lst [.int 0, .int 1, .int 0]) := by rw [upd_ne (ne_of_none ((ka.trans kb).at ad) hlc).symm]; exact ac
        generalize upd A3 dd (.dK (mergeK [] [(Sum.inr "and", .ref la), (Sum.inr "or", .ref lb), (Sum.inr "xor", .ref lc)])) = H5 at kp pa la3 lb3 lc3 ⊢
        have kk : Kp [] H H5 := ((k1.trans k2).trans k3).trans (kd.step1 ((k4.sub (by simp)).trans kp) (.inr hdd))
        have iv : ∃ j : Int, atI [V.int 0, V.int 0, V.int 1] (r.way v p + s'.way v p) = some (.int j) ∧ j = b01 (r.way v p + s'.way v p = 2) := by
          unfold b01
          rcases g1 with g1 | g1 <;> rcases g2 with g2 | g2 <;> rw [g1, g2] <;> exact ⟨_, rfl, by decide⟩
        obtain ⟨j, hj, ej⟩ := iv
        walk_at "go"
        have q2 := q H5 kk
        simp only [Rul.way] at q2
        rw [if_pos trivial] at q2
        rw [← ej] at q2
        exact q2
      · walk_at "go"
        intro u1 H1 hu1 e1
        have k1 := new_kp hu1 e1
        have a1 := new_at e1
        refine ⟨u1, _, rfl, .inr (SqT.of a1), rfl, rfl, _, rfl, ?_⟩
        refine iteT ?_
        have h1 := k1.tup _ _ hta
        have t21 := k1.tr t2
        have t31 := k1.tr t3
        walk_at "go"
        intro H2 k2
        have h2 := k2.tup _ _ h1
        have t32 := k2.tr t31
        walk_at "go"
        intro H3 k3
        walk_at "go"
        intro dd hdd
        have kd : Kp [] H3 (upd H3 dd (.dK [])) := Kp.new hdd
        have ad : (upd H3 dd (.dK [])) dd = some (.dK []) := upd_same
        generalize upd H3 dd (.dK []) = H4 at kd ad ⊢
        walk_at "go"
        intro la A1 hla ela
        have ka := new_kp hla ela
        have aa := new_at ela
        walk_at "go"
        intro lb A2 hlb elb
        have kb := new_kp hlb elb
        have ab := new_at elb
        walk_at "go"
        intro lc A3 hlc elc
        have kc := new_kp hlc elc
        have ac := new_at elc
        have k4 := (ka.trans kb).trans kc
        refine ⟨k4.at ad, [(Sum.inr "and", .ref la), (Sum.inr "or", .ref lb), (Sum.inr "xor", .ref lc)], rfl, by show 3 ≤ 15; decide, ?_⟩
        have kp := Kp.put (u := .dK (mergeK [] [(Sum.inr "and", .ref la), (Sum.inr "or", .ref lb), (Sum.inr "xor", .ref lc)])) (k4.at ad) (fun _ z => by cases z)
        have pa : (upd A3 dd (.dK (mergeK [] [(Sum.inr "and", .ref la), (Sum.inr "or", .ref lb), (Sum.inr "xor", .ref lc)]))) dd = some (.dK [(Sum.inr "and", .ref la), (Sum.inr "or", .ref lb), (Sum.inr "xor", .ref lc)]) := by rw [upd_same]; rfl
        have la3 : (upd A3 dd (.dK (mergeK [] [(Sum.inr "and", .ref la), (Sum.inr "or", .ref lb), (Sum.inr "xor", .ref lc)]))) la = some (.lst [.int 0, .int 0, .int 1]) := by rw [upd_ne (ne_of_none ad hla).symm]; exact (kb.trans kc).at aa
        have lb3 : (upd A3 dd (.dK (mergeK [] [(Sum.inr "and", .ref la), (Sum.inr "or", .ref lb), (Sum.inr "xor", .ref lc)]))) lb = some (.lst [.int 0, .int 1, .int 1]) := by rw [upd_ne (ne_of_none (ka.at ad) hlb).symm]; exact kc.at ab
        have lc3 : (upd A3 dd (.dK (mergeK [] [(Sum.inr "and", .ref la), (Sum.inr "or", .ref lb), (Sum.inr "xor", .ref lc)]))) lc = some (.lst [.int 0, .int 1, .int 0]) := by rw [upd_ne (ne_of_none ((ka.trans kb).at ad) hlc).symm]; exact ac
        generalize upd A3 dd (.dK (mergeK [] [(Sum.inr "and", .ref la), (Sum.inr "or", .ref lb), (Sum.inr "xor", .ref lc)])) = H5 at kp pa la3 lb3 lc3 ⊢
        have kk : Kp [] H H5 := ((k1.trans k2).trans k3).trans (kd.step1 ((k4.sub (by simp)).trans kp) (.inr hdd))
        have iv : ∃ j : Int, atI [V.int 0, V.int 1, V.int 1] (r.way v p + s'.way v p) = some (.int j) ∧ j = b01 (r.way v p + s'.way v p > 0) := by
          unfold b01
          rcases g1 with g1 | g1 <;> rcases g2 with g2 | g2 <;> rw [g1, g2] <;> exact ⟨_, rfl, by decide⟩
        obtain ⟨j, hj, ej⟩ := iv
        walk_at "go"
        have q2 := q H5 kk
        simp only [Rul.way] at q2
        rw [if_neg (by decide +kernel), if_pos trivial] at q2
        rw [← ej] at q2
        exact q2
      · walk_at "go"
        intro u1 H1 hu1 e1
        have k1 := new_kp hu1 e1
        have a1 := new_at e1
        refine ⟨u1, _, rfl, .inr (SqT.of a1), rfl, rfl, _, rfl, ?_⟩
        refine iteT ?_
        have h1 := k1.tup _ _ hta
        have t21 := k1.tr t2
        have t31 := k1.tr t3
        walk_at "go"
        intro H2 k2
        have h2 := k2.tup _ _ h1
        have t32 := k2.tr t31
        walk_at "go"
        intro H3 k3
        walk_at "go"
        intro dd hdd
        have kd : Kp [] H3 (upd H3 dd (.dK [])) := Kp.new hdd
        have ad : (upd H3 dd (.dK [])) dd = some (.dK []) := upd_same
        generalize upd H3 dd (.dK []) = H4 at kd ad ⊢
        walk_at "go"
        intro la A1 hla ela
        have ka := new_kp hla ela
        have aa := new_at ela
        walk_at "go"
        intro lb A2 hlb elb
        have kb := new_kp hlb elb
        have ab := new_at elb
        walk_at "go"
        intro lc A3 hlc elc
        have kc := new_kp hlc elc
        have ac := new_at elc
        have k4 := (ka.trans kb).trans kc
        refine ⟨k4.at ad, [(Sum.inr "and", .ref la), (Sum.inr "or", .ref lb), (Sum.inr "xor", .ref lc)], rfl, by show 3 ≤ 15; decide, ?_⟩
        have kp := Kp.put (u := .dK (mergeK [] [(Sum.inr "and", .ref la), (Sum.inr "or", .ref lb), (Sum.inr "xor", .ref lc)])) (k4.at ad) (fun _ z => by cases z)
        have pa : (upd A3 dd (.dK (mergeK [] [(Sum.inr "and", .ref la), (Sum.inr "or", .ref lb), (Sum.inr "xor", .ref lc)]))) dd = some (.dK [(Sum.inr "and", .ref la), (Sum.inr "or", .ref lb), (Sum.inr "xor", .ref lc)]) := by rw [upd_same]; rfl
        have la3 : (upd A3 dd (.dK (mergeK [] [(Sum.inr "and", .ref la), (Sum.inr "or", .ref lb), (Sum.inr "xor", .ref lc)]))) la = some (.lst [.int 0, .int 0, .int 1]) := by rw [upd_ne (ne_of_none ad hla).symm]; exact (kb.trans kc).at aa
        have lb3 : (upd A3 dd (.dK (mergeK [] [(Sum.inr "and", .ref la), (Sum.inr "or", .ref lb), (Sum.inr "xor", .ref lc)]))) lb = some (.lst [.int 0, .int 1, .int 1]) := by rw [upd_ne (ne_of_none (ka.at ad) hlb).symm]; exact kc.at ab
        have lc3 : (upd A3 dd (.dK (mergeK [] [(Sum.inr "and", .ref la), (Sum.inr "or", .ref lb), (Sum.inr "xor", .ref lc)]))) lc = some (.lst [.int 0, .int 1, .int 0]) := by rw [upd_ne (ne_of_none ((ka.trans kb).at ad) hlc).symm]; exact ac
        generalize upd A3 dd (.dK (mergeK [] [(Sum.inr "and", .ref la), (Sum.inr "or", .ref lb), (Sum.inr "xor", .ref lc)])) = H5 at kp pa la3 lb3 lc3 ⊢
        have kk : Kp [] H H5 := ((k1.trans k2).trans k3).trans (kd.step1 ((k4.sub (by simp)).trans kp) (.inr hdd))
        have iv : ∃ j : Int, atI [V.int 0, V.int 1, V.int 0] (r.way v p + s'.way v p) = some (.int j) ∧ j = b01 (r.way v p + s'.way v p = 1) := by
          unfold b01
          rcases g1 with g1 | g1 <;> rcases g2 with g2 | g2 <;> rw [g1, g2] <;> exact ⟨_, rfl, by decide⟩
        obtain ⟨j, hj, ej⟩ := iv
        walk_at "go"
        have q2 := q H5 kk
        simp only [Rul.way] at q2
        rw [if_neg (by decide +kernel), if_neg (by decide +kernel)] at q2
        rw [← ej] at q2
        exact q2
end
end EH
namespace EH
open PySem L2
local macro_rules | `(tactic| walk_at "sd") => `(tactic| first | assumption | ((with_reducible show (_ : Int) ≤ _); omega) | ((with_reducible show (_ : Int) < _); omega) | rfl | exact SqL.of (by assumption) | exact SqT.of (by assumption) | exact atI_nat (j := 0) rfl | exact atI_nat (j := 1) rfl | exact atI_nat (j := 2) rfl | exact atI_nat (j := 3) rfl | exact sz_lit rfl | exact lt_lit rfl | exact pos_lit rfl | exact le_lit rfl | exact Or.inl (SqL.of (by assumption)) | exact ⟨_, SqL.of (by assumption)⟩ | exact ⟨_, SqT.of (by assumption)⟩ | exact Or.inr (SqT.of (by assumption)) | exact ClsV.ty _ | exact TyX.base (TyOf.int _) | exact TyX.base (TyOf.str _) | exact TyX.base (TyOf.tup (by assumption)) | exact kit_ty isi_ss | exact kit_ty isi_is | exact kit_ty isi_ts | exact kit_ty isi_si | exact kit_ty isi_ii | exact kit_ty isi_ti | exact kit_ty isi_st | exact kit_ty isi_it | exact kit_ty isi_tt | exact Or.inl ⟨_, Or.inl (by assumption)⟩ | exact DGet.k (k := Sum.inr _) (by assumption) | exact DGet.k (k := Sum.inl _) (by assumption) | (refine cpow_of ?_; decide) | (refine cmul_of ?_; decide) | (show (_ : Int) ≠ 0; first | decide | omega) | (refine cdivn_of ?_; decide) | exact Or.inl ⟨rfl, _, SqL.of (by assumption)⟩ | omega)
local macro_rules | `(tactic| walk_at "st") => `(tactic| first | (apply Exists.intro) | (refine And.intro ?_ ?_; focus (walk_at "sd")) | (apply Or.inl; apply Exists.intro; refine And.intro ?_ ?_; focus rfl) | (apply Or.inr; apply Exists.intro; refine And.intro ?_ ?_; focus rfl))
local macro_rules | `(tactic| walk_at "go") => `(tactic| repeat (walk_at "st"))
def spChC (fv : Str → Option V) : Sp := fun vs H Q _ => ∃ (v p n : Int) (t : Addr) (r : Rul), vs = [.int v, .int p, .int n] ∧ fv "_law_told" = some (.ref t) ∧ Tr H r.d (.ref t) ∧ r.wok ∧ r.dp ≤ 5 ∧ ∀ H', Kp [] H H' → Q (.int (r.way v p)) H'
theorem kp_unhid {cl : List Addr} {H H1 : Hp} {S : List Addr} (k : Kp S (hid cl H) H1) : Kp S H (unhid cl H H1) := by
  refine ⟨fun b o e n => ?_, fun b xs e => ?_, fun b φ e => ?_⟩
  · by_cases hb : b ∈ cl
    · rw [unhid_in hb]; exact e
    · rw [unhid_out hb]; exact k.keep b o (by rw [hid_out hb]; exact e) n
  · by_cases hb : b ∈ cl
    · rw [unhid_in hb]; exact e
    · rw [unhid_out hb]; exact k.tup b xs (by rw [hid_out hb]; exact e)
  · by_cases hb : b ∈ cl
    · rw [unhid_in hb]; exact e
    · rw [unhid_out hb]; exact k.ext b φ (by rw [hid_out hb]; exact e)
section
variable {P : Program} {w : World} {K : PySem.W.Frag} {mg : Str → Option Value} {base : Heap}
theorem ch_ok (T : Top K mg) {k : Nat} {L : LamC} {fv : Str → Option V} (b : IsCh L) : LamOk P w K mg base (k + 8) L fv (spChC fv) := by
  refine ⟨fun A outer s H f us vs Q E hr e0 lh r h => ?_⟩
  obtain ⟨v, p, n, t, rl, rfl, hp, ht, hw, hd, q⟩ := h
  obtain ⟨q1, q2, q3, q4, c0, q5⟩ := b
  obtain ⟨Lq, Lp, Lb, Ls, Lc, Lpm, Lc', Lct⟩ := L
  simp only at q1 q2 q3 q4 q5
  subst q1 q2 q3 q4 q5
  have G_l_way : FnOk P w K mg base CX0 6 T.l_way.f T.l_way.fd ["_law_told", "_law_value_here", "_law_place"] (spWayOf 5) := ok_l_way T 5
  refine lam_run (k := k + 7) ch_sc ?_ ?_ ?_ lh hr e0 r rfl (fun hr' => (pe_call G_l_way (hr'.mono (by omega)) (by rfl) T.l_way.g T.l_way.F.kp T.l_way.b .nil pass0 (pa_cons (pv 3) (pa_cons (pv 0) (pa_cons (pv 1) pa_nil))))) ?_
  · intro z hz
    cases List.mem_singleton.mp hz
    rfl
  · intro y hy
    have all : ∀ y ∈ (lamScope s_l_chooser).names, y.2 = .free → y.1 = "_law_told" := by decide +kernel
    have e1 : y = "_law_told" := all (y, .free) (PySem.mem_of_lookup hy) rfl
    exact ⟨c0, by rw [e1]; rfl⟩
  · cases r with
    | cons r1 r =>
      cases r with
      | cons r2 r =>
        cases r with
        | cons r3 r =>
          cases r
          rfl
  · obtain ⟨v0, ev0, hc0⟩ := lh.cell "_law_told" c0 rfl
    have ht' : Tr (hid [c0] H) rl.d (.ref t) := Tr.mono (fun b xs e => by
      rw [hid_out (fun z => ?_)]
      · exact e
      · rw [List.mem_singleton.mp z, hc0] at e
        cases e) _ _ ht
    rw [show List.map fv [("_law_told" : Str)] = [some (.ref t)] from by rw [List.map_cons, List.map_nil, hp]]
    have fin : ∀ H', Kp [] (hid [c0] H) H' → Q (.int (rl.way v p)) (unhid [c0] H H') := fun H' k => q _ (kp_unhid k)
    refine ⟨_, rfl, _, rfl, _, rfl, rl, .ref t, v, p, rfl, ht', hw, hd, fin⟩
end
def CPch (rl : Rul) (H : Hp) (f : Addr) : Prop := ∃ (L : LamC) (fv : Str → Option V) (t : Addr), IsCh L ∧ LamH H f L fv ∧ fv "_law_told" = some (.ref t) ∧ Tr H rl.d (.ref t)
section
variable {P : Program} {w : World} {K : PySem.W.Frag} {mg : Str → Option Value} {base : Heap}
theorem ch_chooser (T : Top K mg) {k : Nat} {rl : Rul} (hw : rl.wok) (hd : rl.dp ≤ 5) : Chooser P w K mg base (k + 8) IsCh spChC (CPch rl) [] (fun _ v p => rl.way v p) := by
  refine ⟨fun L fv b => ch_ok T b, fun S H H' f h k _ => ?_, fun _ _ _ _ z => (nomatch z), fun H f h => ?_⟩
  · obtain ⟨L, fv, t, i, l, e, ht⟩ := h
    exact ⟨L, fv, t, i, l.kp k, e, k.tr ht⟩
  · obtain ⟨L, fv, t, i, l, e, ht⟩ := h
    exact ⟨L, fv, i, l, fun v pl n Q q => ⟨v, pl, n, t, rl, rfl, e, ht, hw, hd, fun H' k => q H' k⟩⟩
def spLRunCh (m : Nat) : Sp := fun vs H Q E => ∃ rl : Rul, rl.wok ∧ rl.dp ≤ 5 ∧ spLRun (CPch rl) (fun _ v p => rl.way v p) m vs H Q E
theorem ok_l_runCh (T : Top K mg) (m : Nat) : FnOk P w K mg base CX0 (m + 14) T.l_run.f T.l_run.fd ["_law_program_here", "_law_number_here", "_law_choose"] (spLRunCh m) :=
  ⟨fun vs H Q E ⟨rl, hw, hd, h⟩ => (ok_l_run (P := P) (w := w) (base := base) T (k := 5) (ch_chooser T hw hd) m).len vs H Q E h, fun A outer s H args us vs Q E a b c d ⟨rl, hw, hd, h⟩ => (ok_l_run (P := P) (w := w) (base := base) T (k := 5) (ch_chooser T hw hd) m).run A outer s H args us vs Q E a b c d h⟩
end
end EH
namespace EH
open PySem L2
local macro_rules | `(tactic| walk_at "sd") => `(tactic| first | assumption | ((with_reducible show (_ : Int) ≤ _); omega) | ((with_reducible show (_ : Int) < _); omega) | rfl | exact SqL.of (by assumption) | exact SqT.of (by assumption) | exact atI_nat (j := 0) rfl | exact atI_nat (j := 1) rfl | exact atI_nat (j := 2) rfl | exact atI_nat (j := 3) rfl | exact sz_lit rfl | exact lt_lit rfl | exact pos_lit rfl | exact le_lit rfl | exact Or.inl (SqL.of (by assumption)) | exact ⟨_, SqL.of (by assumption)⟩ | exact ⟨_, SqT.of (by assumption)⟩ | exact Or.inr (SqT.of (by assumption)) | exact ClsV.ty _ | exact TyX.base (TyOf.int _) | exact TyX.base (TyOf.str _) | exact TyX.base (TyOf.tup (by assumption)) | exact kit_ty isi_ss | exact kit_ty isi_is | exact kit_ty isi_ts | exact kit_ty isi_si | exact kit_ty isi_ii | exact kit_ty isi_ti | exact kit_ty isi_st | exact kit_ty isi_it | exact kit_ty isi_tt | exact Or.inl ⟨_, Or.inl (by assumption)⟩ | exact DGet.k (k := Sum.inr _) (by assumption) | exact DGet.k (k := Sum.inl _) (by assumption) | (refine cpow_of ?_; decide) | (refine cmul_of ?_; decide) | (show (_ : Int) ≠ 0; first | decide | omega) | (refine cdivn_of ?_; decide) | exact Or.inl ⟨rfl, _, SqL.of (by assumption)⟩ | omega)
local macro_rules | `(tactic| walk_at "st") => `(tactic| first | (apply Exists.intro) | (refine And.intro ?_ ?_; focus (walk_at "sd")) | (apply Or.inl; apply Exists.intro; refine And.intro ?_ ?_; focus rfl) | (apply Or.inr; apply Exists.intro; refine And.intro ?_ ?_; focus rfl))
local macro_rules | `(tactic| walk_at "go") => `(tactic| repeat (walk_at "st"))
section
variable {P : Program} {w : World} {K : PySem.W.Frag} {mg : Str → Option Value} {base : Heap}
theorem rul_c (T : Top K mg) : ∀ C, (rcOf T).has C → RulC K C T.Rule_invert.f T.Rule_and.f T.Rule_or.f T.Rule_xor.f := by
  rintro C (rfl | rfl | rfl | rfl | rfl | rfl | rfl | rfl | rfl | h | h)
  · exact T.op_Rule
  · exact T.op_Down
  · exact T.op_Up
  · exact T.op_Even
  · exact T.op_Odd
  · exact T.op_Zero
  · exact T.op_Away
  · exact T.op_Turned
  · exact T.op_Joined
  · cases h; exact T.op_Below
  · cases h; exact T.op_Places
theorem rul_is (T : Top K mg) : ∀ C, (rcOf T).has C → PySem.W.isIn K (.ref C) T.Rule.C = true := by
  rintro C (rfl | rfl | rfl | rfl | rfl | rfl | rfl | rfl | rfl | h | h)
  · exact T.is_Rule
  · exact T.is_Down
  · exact T.is_Up
  · exact T.is_Even
  · exact T.is_Odd
  · exact T.is_Zero
  · exact T.is_Away
  · exact T.is_Turned
  · exact T.is_Joined
  · cases h; exact T.is_Below
  · cases h; exact T.is_Places
theorem ok_l_rule (T : Top K mg) : ∀ n : Nat, FnOk P w K mg base CX0 (n + 5) T.l_rule.f T.l_rule.fd ["_law_deck_here", "_law_high"] (spRul (rcOf T) n)
  | 0 => fn_no (by rintro vs H Q E ⟨a, d, m, hi, h, _, _, h1, _⟩; omega)
  | n + 1 => by
    have G_l_draw : FnOk P w K mg base CX0 1 T.l_draw.f T.l_draw.fd ["_law_deck_here", "_law_many"] spDraw := ok_l_draw T
    have G_l_one : FnOk P w K mg base CX0 2 T.l_one.f T.l_one.fd ["_law_deck_here", "_law_items"] (spOne K) := ok_l_one T
    have G_l_placed : FnOk P w K mg base CX0 3 T.l_placed.f T.l_placed.fd ["_law_deck_here"] (spPlaced2 (rcOf T)) := ok_l_placed T
    have G_Below_init : FnOk P w K mg base CX0 1 T.Below_init.f T.Below_init.fd ["self", "number"] (spBelowI T.Below.C) := ok_Below_init T
    have G_l_rule := ok_l_rule T n
    have O_and := opsc_and (rul_c T) T.Rule_and.m.fn
    have O_or := opsc_or (rul_c T) T.Rule_or.m.fn
    have O_xor := opsc_xor (rul_c T) T.Rule_xor.m.fn
    have O_inv : ∀ C, (rcOf T).has C → PySem.W.findIn K (.ref C) "__invert__" = some (some (.ref T.Rule_invert.f)) := fun C h => (rul_c T C h).inv
    have O_invf := T.Rule_invert.m.fn
    have F_and : FnR P w K mg base CX0 3 T.Rule_and.f (spBin (rcOf T) "and") := dm_rawM T.Rule_and (ok_Rule_and T)
    have F_or : FnR P w K mg base CX0 3 T.Rule_or.f (spBin (rcOf T) "or") := dm_rawM T.Rule_or (ok_Rule_or T)
    have F_xor : FnR P w K mg base CX0 3 T.Rule_xor.f (spBin (rcOf T) "xor") := dm_rawM T.Rule_xor (ok_Rule_xor T)
    have F_inv : FnR P w K mg base CX0 3 T.Rule_invert.f (spInv (rcOf T)) := dm_rawM T.Rule_invert (ok_Rule_inv T)
    refine T.l_rule.F.ok sc_l_rule (fun vs H Q E h => ?_) (fun cdv A outer s H vs Q E hr h => ?_)
    · obtain ⟨a, d, m, hi, h, rfl, _⟩ := h
      rfl
    obtain ⟨a, d, m, _, hi, rfl, rfl, hn, D, hm, q⟩ := h
    have hu := hu_of hr
    have cn := costU_nn hi
    refine ⟨_, (pss_cutA (ps_set (i := 2) sc_l_rule.nd rfl (.inl rfl) (pe_ifExp (pt_cmpR op_gt (pv 1) pe_int (nomark _)) (pe_call G_l_draw (hr.mono (by omega)) (by rfl) T.l_draw.g T.l_draw.F.kp T.l_draw.b .nil pass0 (pa_cons (pv 0) (pa_cons pe_int pa_nil))) (pe_call G_l_draw (hr.mono (by omega)) (by rfl) T.l_draw.g T.l_draw.F.kp T.l_draw.b .nil pass0 (pa_cons (pv 0) (pa_cons pe_int pa_nil)))))
      (pss_cons (ps_if (pt_cmpR op_ge (pv 2) pe_int (nomark _)) (pss_cons (ps_par (i := 3) (j := 4) (by rfl) sc_l_rule.nd rfl rfl (by decide) rfl rfl (pa_cons (pe_call G_l_rule (hr.mono (by omega)) (by rfl) T.l_rule.g T.l_rule.F.kp T.l_rule.b .nil pass0 (pa_cons (pv 0) (pa_cons (pe_op op_sub (pv 1) pe_int) pa_nil))) (pa_cons (pe_call G_l_rule (hr.mono (by omega)) (by rfl) T.l_rule.g T.l_rule.F.kp T.l_rule.b .nil pass0 (pa_cons (pv 0) (pa_cons (pe_op op_sub (pv 1) pe_int) pa_nil))) pa_nil)) (by rfl))
      (pss_cons (ps_if (pt_cmpR op_eq (pv 2) pe_int (nomark _)) (pss_one (ps_ret (pe_tupA (pa_cons (pe_un (un_own O_inv O_invf F_inv (hr.mono (by omega)) pass0) (pe_ix (ix_tupK (K := K) rfl) (pv 3) pe_int (fun _ _ => rfl))) (pa_cons (pe_tupA (pa_cons pe_str (pa_cons (pe_ix (ix_tupK (K := K) rfl) (pv 3) pe_int (fun _ _ => rfl)) pa_nil))) pa_nil))))) pss_nil)
      (pss_cons (ps_if (pt_cmpR op_eq (pv 2) pe_int (nomark _)) (pss_one (ps_ret (pe_tupA (pa_cons (pe_op (op_own (op := .BitAnd) O_and F_and (hr.mono (by omega)) pass0 rfl hu) (pe_ix (ix_tupK (K := K) rfl) (pv 3) pe_int (fun _ _ => rfl)) (pe_ix (ix_tupK (K := K) rfl) (pv 4) pe_int (fun _ _ => rfl))) (pa_cons (pe_tupA (pa_cons pe_str (pa_cons (pe_ix (ix_tupK (K := K) rfl) (pv 3) pe_int (fun _ _ => rfl)) (pa_cons (pe_ix (ix_tupK (K := K) rfl) (pv 4) pe_int (fun _ _ => rfl)) pa_nil)))) pa_nil))))) pss_nil)
      (pss_cons (ps_if (pt_cmpR op_eq (pv 2) pe_int (nomark _)) (pss_one (ps_ret (pe_tupA (pa_cons (pe_op (op_own (op := .BitOr) O_or F_or (hr.mono (by omega)) pass0 rfl hu) (pe_ix (ix_tupK (K := K) rfl) (pv 3) pe_int (fun _ _ => rfl)) (pe_ix (ix_tupK (K := K) rfl) (pv 4) pe_int (fun _ _ => rfl))) (pa_cons (pe_tupA (pa_cons pe_str (pa_cons (pe_ix (ix_tupK (K := K) rfl) (pv 3) pe_int (fun _ _ => rfl)) (pa_cons (pe_ix (ix_tupK (K := K) rfl) (pv 4) pe_int (fun _ _ => rfl)) pa_nil)))) pa_nil))))) pss_nil)
      (pss_one (ps_ret (pe_tupA (pa_cons (pe_op (op_own (op := .BitXor) O_xor F_xor (hr.mono (by omega)) pass0 rfl hu) (pe_ix (ix_tupK (K := K) rfl) (pv 3) pe_int (fun _ _ => rfl)) (pe_ix (ix_tupK (K := K) rfl) (pv 4) pe_int (fun _ _ => rfl))) (pa_cons (pe_tupA (pa_cons pe_str (pa_cons (pe_ix (ix_tupK (K := K) rfl) (pv 3) pe_int (fun _ _ => rfl)) (pa_cons (pe_ix (ix_tupK (K := K) rfl) (pv 4) pe_int (fun _ _ => rfl)) pa_nil)))) pa_nil))))))))) pss_nil)
      (pss_cons (ps_if (pt_cmpR (op_in_seqK (K := K) rfl) (pv 2) (pe_tupA (pa_cons pe_int (pa_cons pe_int pa_nil))) (by rfl)) (pss_cons (ps_set (i := 5) sc_l_rule.nd rfl (.inl rfl) (pe_call G_l_one (hr.mono (by omega)) (by rfl) T.l_one.g T.l_one.F.kp T.l_one.b .nil pass0 (pa_cons (pv 0) (pa_cons (pe_lstA (pa_cons pe_int (pa_cons pe_int (pa_cons (pe_un un_neg pe_int) (pa_cons (pe_op op_sub (pe_call G_l_draw (hr.mono (by omega)) (by rfl) T.l_draw.g T.l_draw.F.kp T.l_draw.b .nil pass0 (pa_cons (pv 0) (pa_cons pe_int pa_nil))) pe_int) (pa_cons (pe_op op_sub (pe_op op_mul (pe_op op_pow pe_int pe_int) (pe_call G_l_draw (hr.mono (by omega)) (by rfl) T.l_draw.g T.l_draw.F.kp T.l_draw.b .nil pass0 (pa_cons (pv 0) (pa_cons pe_int pa_nil)))) pe_int) pa_nil)))))) pa_nil))))
      (pss_one (ps_ret (pe_tupA (pa_cons (pe_make T.mk_Below G_Below_init (hr.mono (by omega)) (by rfl) T.Below.g T.Below_init.b .nil pass0 (pa_cons (pv 5) pa_nil)) (pa_cons (pe_tupA (pa_cons pe_str (pa_cons (pv 5) pa_nil))) pa_nil)))))) pss_nil)
      (pss_cons (ps_if (pt_cmpR op_gt (pv 2) pe_int (nomark _)) (pss_one (ps_ret (pe_call G_l_placed (hr.mono (by omega)) (by rfl) T.l_placed.g T.l_placed.F.kp T.l_placed.b .nil pass0 (pa_cons (pv 0) pa_nil)))) pss_nil)
      (pss_cons (ps_set (i := 6) sc_l_rule.nd rfl (.inl rfl) (pe_ix (ix_listK (K := K) rfl) (pe_lstA (pa_cons (pe_mk0 ⟨T.Down.mks, T.i0_Down, T.Down.kp⟩ (by rfl) T.Down.g) (pa_cons (pe_mk0 ⟨T.Up.mks, T.i0_Up, T.Up.kp⟩ (by rfl) T.Up.g) (pa_cons (pe_mk0 ⟨T.Even.mks, T.i0_Even, T.Even.kp⟩ (by rfl) T.Even.g) (pa_cons (pe_mk0 ⟨T.Odd.mks, T.i0_Odd, T.Odd.kp⟩ (by rfl) T.Odd.g) (pa_cons (pe_mk0 ⟨T.Zero.mks, T.i0_Zero, T.Zero.kp⟩ (by rfl) T.Zero.g) (pa_cons (pe_mk0 ⟨T.Away.mks, T.i0_Away, T.Away.kp⟩ (by rfl) T.Away.g) (pa_cons (pe_mk0 ⟨T.Rule.mks, T.i0_Rule, T.Rule.kp⟩ (by rfl) T.Rule.g) pa_nil)))))))) (pv 2) (fun _ _ => rfl)))
      (pss_one (ps_ret (pe_tupA (pa_cons (pv 6) (pa_cons (pe_tupA (pa_cons (pe_ix (ix_listK (K := K) rfl) (pe_lstA (pa_cons pe_str (pa_cons pe_str (pa_cons pe_str (pa_cons pe_str (pa_cons pe_str (pa_cons pe_str (pa_cons pe_str pa_nil)))))))) (pv 2) (fun _ _ => rfl)) pa_nil)) pa_nil)))))))))), ?_⟩
    have hmM : m ≤ MANY := by show m ≤ 1000000000; omega
    refine ⟨⟨fun σ1 H1 => Lp (∃ r : Int, σ1 = [some (.ref a), some (.int (hi : Int)), some (.int r), none, none, none, none] ∧ 0 ≤ r ∧ r < 15 ∧ (hi = 0 → r < 11) ∧ Deck H1 a d (m + 1) ∧ Kp [a, d] H H1), ?_, ?_⟩⟩
    · walk_at "go"
      refine ite2 (fun hc => ?_) (fun hc => ?_)
      · have hc1 := of_decide_eq_true hc
        walk_at "go"
        intro r H1 r0 r1 D1 k1
        exact ⟨r, rfl, r0, r1, fun z => absurd z (by omega), D1, k1⟩
      · walk_at "go"
        intro r H1 r0 r1 D1 k1
        exact ⟨r, rfl, r0, by omega, fun _ => r1, D1, k1⟩
    · rintro σ1 H1 ⟨⟨r, rfl, r0, r1, r2, D1, k1⟩⟩
      walk_at "go"
      refine ite2 (fun hc => ?_) (fun hc => ?_)
      · have hc1 := of_decide_eq_true hc
        obtain ⟨h', rfl⟩ : ∃ h', hi = h' + 1 := ⟨hi - 1, by omega⟩
        have ec : costU (h' + 1) = 20 + 2 * costU h' := rfl
        have cn' := costU_nn h'
        have eh : ((h' + 1 : Nat) : Int) - 1 = (h' : Int) := by omega
        walk_at "go"
        intro r1 r1' t1 H2 m2 p1 ml2 mu2 D2 k2
        walk_at "go"
        intro r2 r2' t2 H3 m3 p2 ml3 mu3 D3 k3
        have p1 := p1.kp k3 (deck_nins D2)
        obtain ⟨a1, tv1, g1, g2, g3, g4, g5, g6, g7⟩ := p1
        obtain ⟨a2, tv2, f1, f2, f3, f4, f5, f6, f7⟩ := p2
        obtain ⟨C1, dx1, fs1, i1, c1⟩ := g2.cls
        obtain ⟨C2, dx2, fs2, i2, c2⟩ := f2.cls
        have G3 := g2.kp0 (Kp.refl (S := []))
        walk_at "go"
        refine ite2 (fun hd => ?_) (fun hd => ?_)
        · walk_at "go"
          intro x dx H4 hx ix k4
          have g14 := k4.tup _ _ g1
          have f14 := k4.tup _ _ f1
          walk_at "go"
          intro u H5 hu5 e5
          have k5 := new_kp hu5 e5
          have a5 := new_at e5
          walk_at "go"
          intro t H6 ht e6
          have k6 := new_kp ht e6
          have k46 := (k4.trans k5).trans k6
          exact q (.turned r1) (.turned r1') t H6 m3 ⟨x, .ref u, new_at e6, ⟨dx, a1, (k5.trans k6).keep _ _ ix (by simp), g2.kp0 k46⟩, mk_tup (k6.keep _ _ a5 (by simp)) (trs_cons mk_str (trs_cons (k46.tr g3) trs_nil)), by show r1.dp + 1 ≤ _; omega, by show r1'.dp + 1 ≤ _; omega, g6, fun v p => by simp only [Rul.go, g7]⟩ (by omega) (by omega) (D3.kp0 k46) (((k1.trans k2).trans k3).step0 k46)
        · walk_at "go"
          refine ite2 (fun hd => ?_) (fun hd => ?_)
          · walk_at "go"
            intro x dx H4 hx ix k4
            have g14 := k4.tup _ _ g1
            have f14 := k4.tup _ _ f1
            walk_at "go"
            intro u H5 hu5 e5
            have k5 := new_kp hu5 e5
            have a5 := new_at e5
            walk_at "go"
            intro t H6 ht e6
            have k6 := new_kp ht e6
            have k46 := (k4.trans k5).trans k6
            exact q (.join "and" r1 r2) (.join "and" r1' r2') t H6 m3 ⟨x, .ref u, new_at e6, ⟨dx, a1, a2, (k5.trans k6).keep _ _ ix (by simp), g2.kp0 k46, f2.kp0 k46⟩, mk_tup (k6.keep _ _ a5 (by simp)) (trs_cons mk_str (trs_cons (k46.tr g3) (trs_cons (k46.tr f3) trs_nil))), by show max r1.dp r2.dp + 1 ≤ _; omega, by show max r1'.dp r2'.dp + 1 ≤ _; omega, ⟨.inl rfl, g6, f6⟩, fun v p => by simp only [Rul.go, g7, f7]⟩ (by omega) (by omega) (D3.kp0 k46) (((k1.trans k2).trans k3).step0 k46)
          · walk_at "go"
            refine ite2 (fun hd => ?_) (fun hd => ?_)
            · walk_at "go"
              intro x dx H4 hx ix k4
              have g14 := k4.tup _ _ g1
              have f14 := k4.tup _ _ f1
              walk_at "go"
              intro u H5 hu5 e5
              have k5 := new_kp hu5 e5
              have a5 := new_at e5
              walk_at "go"
              intro t H6 ht e6
              have k6 := new_kp ht e6
              have k46 := (k4.trans k5).trans k6
              exact q (.join "or" r1 r2) (.join "or" r1' r2') t H6 m3 ⟨x, .ref u, new_at e6, ⟨dx, a1, a2, (k5.trans k6).keep _ _ ix (by simp), g2.kp0 k46, f2.kp0 k46⟩, mk_tup (k6.keep _ _ a5 (by simp)) (trs_cons mk_str (trs_cons (k46.tr g3) (trs_cons (k46.tr f3) trs_nil))), by show max r1.dp r2.dp + 1 ≤ _; omega, by show max r1'.dp r2'.dp + 1 ≤ _; omega, ⟨.inr (.inl rfl), g6, f6⟩, fun v p => by simp only [Rul.go, g7, f7]⟩ (by omega) (by omega) (D3.kp0 k46) (((k1.trans k2).trans k3).step0 k46)
            · walk_at "go"
              intro x dx H4 hx ix k4
              have g14 := k4.tup _ _ g1
              have f14 := k4.tup _ _ f1
              walk_at "go"
              intro u H5 hu5 e5
              have k5 := new_kp hu5 e5
              have a5 := new_at e5
              walk_at "go"
              intro t H6 ht e6
              have k6 := new_kp ht e6
              have k46 := (k4.trans k5).trans k6
              exact q (.join "xor" r1 r2) (.join "xor" r1' r2') t H6 m3 ⟨x, .ref u, new_at e6, ⟨dx, a1, a2, (k5.trans k6).keep _ _ ix (by simp), g2.kp0 k46, f2.kp0 k46⟩, mk_tup (k6.keep _ _ a5 (by simp)) (trs_cons mk_str (trs_cons (k46.tr g3) (trs_cons (k46.tr f3) trs_nil))), by show max r1.dp r2.dp + 1 ≤ _; omega, by show max r1'.dp r2'.dp + 1 ≤ _; omega, ⟨.inr (.inr rfl), g6, f6⟩, fun v p => by simp only [Rul.go, g7, f7]⟩ (by omega) (by omega) (D3.kp0 k46) (((k1.trans k2).trans k3).step0 k46)
      · have hc1 : ¬ 11 ≤ r := fun z => hc (decide_eq_true z)
        have off1 : ∀ p, H1 p = none → p ∉ [a, d] := fun p hp => D1.off hp
        have hm1 : m + 1 ≤ MANY := by show m + 1 ≤ 1000000000; omega
        have hm2 : m + 1 + 1 ≤ MANY := by show m + 1 + 1 ≤ 1000000000; omega
        have hm3 : m + 1 + 1 + 1 ≤ MANY := by show m + 1 + 1 + 1 ≤ 1000000000; omega
        walk_at "go"
        intro u8 H2 hu8 e8
        have k8 := new_kp hu8 e8
        have a8 := new_at e8
        have D2 := D1.kp0 k8
        refine ⟨u8, _, rfl, .inr (SqT.of a8), rfl, rfl, _, rfl, ?_⟩
        have ei : inV (V.int r) [V.int 7, V.int 8] = decide (r ∈ [(7 : Int), 8]) := inV_ints r [7, 8]
        refine ite2 (fun hd => ?_) (fun hd => ?_)
        · walk_at "go"
          intro s1 H3 s10 s11 D3 k3
          have cpow : CPow 10 40 := cpow_of (by decide)
          walk_at "go"
          intro s2 H4 s20 s21 D4 k4
          walk_at "go"
          have c4 : CMul (10 ^ Int.toNat 40) s2 := .inr ⟨by omega, by omega⟩
          refine ⟨c4, ?_⟩
          walk_at "go"
          intro l9 H5 hl9 e9
          have k9 := new_kp hl9 e9
          have a9 := new_at e9
          have D5 := D4.kp0 k9
          have off5 := D4.off hl9
          walk_at "go"
          intro y H6 hy D6 k6
          have hy2 : y ∈ ([0, 1, -1, s1 - 30, 10 ^ Int.toNat 40 * s2 - 7] : List Int).map V.int := hy
          obtain ⟨nb, rfl, _⟩ := mem_ints (P := fun _ => True) hy2 (fun _ _ => trivial)
          walk_at "go"
          intro x dx hx hdx hne
          have kx := made_ins (C := T.Below.C) hx hdx hne
          refine ⟨x, dx, nb, rfl, upd_same, fun H7 hx7 k7 => ⟨rfl, ?_⟩⟩
          have k67 := kx.step1 k7 (.inr hx)
          walk_at "go"
          intro u H8 hu8' e8'
          have k8' := new_kp hu8' e8'
          have a8' := new_at e8'
          walk_at "go"
          intro t H9 ht e9'
          have k9' := new_kp ht e9'
          have kk := (k67.trans k8').trans k9'
          exact q (.blw nb) (.blw nb) t H9 _ ⟨x, .ref u, new_at e9', ⟨T.Below.C, dx, rfl, (k8'.trans k9').keep _ _ hx7 (by simp)⟩, mk_tup (k9'.keep _ _ a8' (by simp)) (trs_cons mk_str (trs_cons mk_int trs_nil)), by show 1 ≤ _; omega, by show 1 ≤ _; omega, trivial, fun _ _ => rfl⟩ (by omega) (by omega) (D6.kp0 kk) (((((k1.step0 k8).trans k3).trans k4).step0 k9 |>.trans k6).step0 kk)
        · have hd1 : ¬ r ∈ [(7 : Int), 8] := fun z => hd (by rw [← decide_eq_true_eq (p := r ∈ [(7 : Int), 8]), ← ei] at z; exact z)
          have h7 : r ≠ 7 := fun z => hd1 (by rw [z]; simp)
          have h8 : r ≠ 8 := fun z => hd1 (by rw [z]; simp)
          walk_at "go"
          refine ite2 (fun he => ?_) (fun he => ?_)
          · walk_at "go"
            intro rr rr' t H3 m3 p3 ml3 mu3 D3 k3
            exact q rr rr' t H3 m3 (p3.mono (by omega)) (by omega) (by omega) D3 ((k1.step0 k8).trans k3)
          · have he1 : ¬ 8 < r := fun z => he (decide_eq_true z)
            walk_at "go"
            intro xa0 da0 Ga0 hxa0 hda0 nea0 ia0 ka0
            walk_at "go"
            intro xa1 da1 Ga1 hxa1 hda1 nea1 ia1 ka1
            walk_at "go"
            intro xa2 da2 Ga2 hxa2 hda2 nea2 ia2 ka2
            walk_at "go"
            intro xa3 da3 Ga3 hxa3 hda3 nea3 ia3 ka3
            walk_at "go"
            intro xa4 da4 Ga4 hxa4 hda4 nea4 ia4 ka4
            walk_at "go"
            intro xa5 da5 Ga5 hxa5 hda5 nea5 ia5 ka5
            walk_at "go"
            intro xa6 da6 Ga6 hxa6 hda6 nea6 ia6 ka6
            walk_at "go"
            intro la Gl hla el
            have kla := new_kp hla el
            have ala := new_at el
            have j0 := kla
            have j1 := ka6.trans j0
            have j2 := ka5.trans j1
            have j3 := ka4.trans j2
            have j4 := ka3.trans j3
            have j5 := ka2.trans j4
            have j6 := ka1.trans j5
            have j7 := ka0.trans j6
            have ra0 : RAt (rcOf T) Gl .down xa0 := (show RAt (rcOf T) Ga0 .down xa0 from ⟨_, da0, .inl rfl, ia0⟩).kp0 j6
            have ra1 : RAt (rcOf T) Gl .up xa1 := (show RAt (rcOf T) Ga1 .up xa1 from ⟨da1, ia1⟩).kp0 j5
            have ra2 : RAt (rcOf T) Gl .even xa2 := (show RAt (rcOf T) Ga2 .even xa2 from ⟨da2, ia2⟩).kp0 j4
            have ra3 : RAt (rcOf T) Gl .odd xa3 := (show RAt (rcOf T) Ga3 .odd xa3 from ⟨da3, ia3⟩).kp0 j3
            have ra4 : RAt (rcOf T) Gl .zero xa4 := (show RAt (rcOf T) Ga4 .zero xa4 from ⟨da4, ia4⟩).kp0 j2
            have ra5 : RAt (rcOf T) Gl .away xa5 := (show RAt (rcOf T) Ga5 .away xa5 from ⟨da5, ia5⟩).kp0 j1
            have ra6 : RAt (rcOf T) Gl .down xa6 := (show RAt (rcOf T) Ga6 .down xa6 from ⟨_, da6, .inr rfl, ia6⟩).kp0 j0
            have kk : Kp [a, d] H Gl := (k1.step0 k8).step0 j7
            have fin : ∀ (rl : Rul) (x u t : Addr) (wd : Str) (G : Hp), RAt (rcOf T) Gl rl x → rl.d = .tuple [.str wd] → rl.dp = 1 → rl.wok → G u = some (.tup [.str wd]) → G t = some (.tup [.ref x, .ref u]) → Kp [] Gl G → Q (.ref t) G := fun rl x u t wd G hra ed edp hw hu9 ht9 kg => q rl rl t G (m + 1) ⟨x, .ref u, ht9, hra.kp0 kg, by rw [ed]; exact mk_tup hu9 (trs_cons mk_str trs_nil), by omega, by omega, hw, fun _ _ => rfl⟩ (by omega) (by omega) (D2.kp0 (j7.trans kg)) (kk.step0 kg)
            rcases (show r = 0 ∨ r = 1 ∨ r = 2 ∨ r = 3 ∨ r = 4 ∨ r = 5 ∨ r = 6 by omega) with rfl | rfl | rfl | rfl | rfl | rfl | rfl
            · have at1 : atI [V.ref xa0, V.ref xa1, V.ref xa2, V.ref xa3, V.ref xa4, V.ref xa5, V.ref xa6] 0 = some (.ref xa0) := rfl
              have at2 : atI [V.str "down", V.str "up", V.str "even", V.str "odd", V.str "zero", V.str "away", V.str "down"] 0 = some (.str "down") := rfl
              walk_at "go"
              intro lb Gb hlb eb
              have kb := new_kp hlb eb
              have ab := new_at eb
              walk_at "go"
              intro u Gu hu9 eu
              have ku := new_kp hu9 eu
              walk_at "go"
              intro t Gt ht et
              have kt := new_kp ht et
              exact fin .down xa0 u t "down" Gt ra0 rfl rfl trivial (kt.keep _ _ (new_at eu) (by simp)) (new_at et) ((kb.trans ku).trans kt)
            · have at1 : atI [V.ref xa0, V.ref xa1, V.ref xa2, V.ref xa3, V.ref xa4, V.ref xa5, V.ref xa6] 1 = some (.ref xa1) := rfl
              have at2 : atI [V.str "down", V.str "up", V.str "even", V.str "odd", V.str "zero", V.str "away", V.str "down"] 1 = some (.str "up") := rfl
              walk_at "go"
              intro lb Gb hlb eb
              have kb := new_kp hlb eb
              have ab := new_at eb
              walk_at "go"
              intro u Gu hu9 eu
              have ku := new_kp hu9 eu
              walk_at "go"
              intro t Gt ht et
              have kt := new_kp ht et
              exact fin .up xa1 u t "up" Gt ra1 rfl rfl trivial (kt.keep _ _ (new_at eu) (by simp)) (new_at et) ((kb.trans ku).trans kt)
            · have at1 : atI [V.ref xa0, V.ref xa1, V.ref xa2, V.ref xa3, V.ref xa4, V.ref xa5, V.ref xa6] 2 = some (.ref xa2) := rfl
              have at2 : atI [V.str "down", V.str "up", V.str "even", V.str "odd", V.str "zero", V.str "away", V.str "down"] 2 = some (.str "even") := rfl
              walk_at "go"
              intro lb Gb hlb eb
              have kb := new_kp hlb eb
              have ab := new_at eb
              walk_at "go"
              intro u Gu hu9 eu
              have ku := new_kp hu9 eu
              walk_at "go"
              intro t Gt ht et
              have kt := new_kp ht et
              exact fin .even xa2 u t "even" Gt ra2 rfl rfl trivial (kt.keep _ _ (new_at eu) (by simp)) (new_at et) ((kb.trans ku).trans kt)
            · have at1 : atI [V.ref xa0, V.ref xa1, V.ref xa2, V.ref xa3, V.ref xa4, V.ref xa5, V.ref xa6] 3 = some (.ref xa3) := rfl
              have at2 : atI [V.str "down", V.str "up", V.str "even", V.str "odd", V.str "zero", V.str "away", V.str "down"] 3 = some (.str "odd") := rfl
              walk_at "go"
              intro lb Gb hlb eb
              have kb := new_kp hlb eb
              have ab := new_at eb
              walk_at "go"
              intro u Gu hu9 eu
              have ku := new_kp hu9 eu
              walk_at "go"
              intro t Gt ht et
              have kt := new_kp ht et
              exact fin .odd xa3 u t "odd" Gt ra3 rfl rfl trivial (kt.keep _ _ (new_at eu) (by simp)) (new_at et) ((kb.trans ku).trans kt)
            · have at1 : atI [V.ref xa0, V.ref xa1, V.ref xa2, V.ref xa3, V.ref xa4, V.ref xa5, V.ref xa6] 4 = some (.ref xa4) := rfl
              have at2 : atI [V.str "down", V.str "up", V.str "even", V.str "odd", V.str "zero", V.str "away", V.str "down"] 4 = some (.str "zero") := rfl
              walk_at "go"
              intro lb Gb hlb eb
              have kb := new_kp hlb eb
              have ab := new_at eb
              walk_at "go"
              intro u Gu hu9 eu
              have ku := new_kp hu9 eu
              walk_at "go"
              intro t Gt ht et
              have kt := new_kp ht et
              exact fin .zero xa4 u t "zero" Gt ra4 rfl rfl trivial (kt.keep _ _ (new_at eu) (by simp)) (new_at et) ((kb.trans ku).trans kt)
            · have at1 : atI [V.ref xa0, V.ref xa1, V.ref xa2, V.ref xa3, V.ref xa4, V.ref xa5, V.ref xa6] 5 = some (.ref xa5) := rfl
              have at2 : atI [V.str "down", V.str "up", V.str "even", V.str "odd", V.str "zero", V.str "away", V.str "down"] 5 = some (.str "away") := rfl
              walk_at "go"
              intro lb Gb hlb eb
              have kb := new_kp hlb eb
              have ab := new_at eb
              walk_at "go"
              intro u Gu hu9 eu
              have ku := new_kp hu9 eu
              walk_at "go"
              intro t Gt ht et
              have kt := new_kp ht et
              exact fin .away xa5 u t "away" Gt ra5 rfl rfl trivial (kt.keep _ _ (new_at eu) (by simp)) (new_at et) ((kb.trans ku).trans kt)
            · have at1 : atI [V.ref xa0, V.ref xa1, V.ref xa2, V.ref xa3, V.ref xa4, V.ref xa5, V.ref xa6] 6 = some (.ref xa6) := rfl
              have at2 : atI [V.str "down", V.str "up", V.str "even", V.str "odd", V.str "zero", V.str "away", V.str "down"] 6 = some (.str "down") := rfl
              walk_at "go"
              intro lb Gb hlb eb
              have kb := new_kp hlb eb
              have ab := new_at eb
              walk_at "go"
              intro u Gu hu9 eu
              have ku := new_kp hu9 eu
              walk_at "go"
              intro t Gt ht et
              have kt := new_kp ht et
              exact fin .down xa6 u t "down" Gt ra6 rfl rfl trivial (kt.keep _ _ (new_at eu) (by simp)) (new_at et) ((kb.trans ku).trans kt)
end
end EH
namespace EH
open PySem L2 LamX
/-! ### a run asks its choices at odd values alone -/
section
variable {d1 d2 : Nat → Int → Int → Int} {ways : Int → Option Int}
theorem halv_odd (h : ∀ k v p, v % 2 = 1 → d1 k v p = d2 k v p) (s : Cs) (v p : Int) : halv d1 ways s v p = halv d2 ways s v p := by
  unfold halv
  by_cases z : v % 2 = 0
  · rw [if_pos z, if_pos z]
  · rw [if_neg z, if_neg z, h _ _ _ (by omega)]
mutual
theorem run_odd (h : ∀ k v p, v % 2 = 1 → d1 k v p = d2 k v p) : ∀ (t : Sm) (p : Int) (s : Cs), Sm.run d1 ways t p s = Sm.run d2 ways t p s
  | .set x e, p, s => by simp only [Sm.run]
  | .half x e, p, s => by simp only [Sm.run, halv_odd h]
  | .tell e, p, s => by simp only [Sm.run]
  | .say c, p, s => by simp only [Sm.run]
  | .stop c, p, s => by simp only [Sm.run]
  | .ite t y n, p, s => by
    simp only [Sm.run]
    rw [runs_odd h y, runs_odd h n]
  | .rep k b, p, s => by
    simp only [Sm.run]
    have e : (fun s => Sm.runs d1 ways b (p + 1) s) = fun s => Sm.runs d2 ways b (p + 1) s := by
      funext s
      exact runs_odd h b (p + 1) s
    rw [e]
theorem runs_odd (h : ∀ k v p, v % 2 = 1 → d1 k v p = d2 k v p) : ∀ (b : List Sm) (p : Int) (s : Cs), Sm.runs d1 ways b p s = Sm.runs d2 ways b p s
  | [], p, s => by simp only [Sm.runs]
  | t :: r, p, s => by
    simp only [Sm.runs]
    rw [run_odd h t p s]
    split
    · rfl
    · exact runs_odd h r _ _
end
end
theorem runs_way {r r' : Rul} (h : ∀ v p, r'.go v p = r.go v p) (b : List Sm) (num : Int) : Sm.runs (fun _ v p => r'.way v p) noWay b 0 (cs0 num) = Sm.runs (fun _ v p => r.go v p) noWay b 0 (cs0 num) :=
  runs_odd (fun k v p ho => by
    show r'.way v p = r.go v p
    rw [Rul.way_odd ho, h]) b 0 (cs0 num)
theorem turns_01 {dec : Nat → Int → Int → Int} {ways : Int → Option Int} (h : ∀ k v p, dec k v p = 0 ∨ dec k v p = 1) {b : List Sm} (ok : Sm.oks b) (p : Int) (n : Int) : ∀ i ∈ (Sm.runs dec ways b p (cs0 n)).2.turns, i = 0 ∨ i = 1 := by
  refine Sm.invs (J := fun _ _ s => ∀ i ∈ s.turns, i = 0 ∨ i = 1) (fun _ _ _ _ _ j _ _ => j) (fun st pl ok p w hh s j => ?_) b ok p 0 0 (cs0 n) (fun i hi => nomatch hi)
  cases st with
  | set x e => simp only [Sm.run]; exact j
  | tell e => simp only [Sm.run]; exact j
  | say c => simp only [Sm.run]; exact j
  | stop c => simp only [Sm.run]; exact j
  | ite t y n => exact absurd pl id
  | rep k b => exact absurd pl id
  | half x e =>
    simp only [Sm.run]
    unfold halv
    split
    · exact j
    · split
      · exact j
      · intro i hi
        rcases List.mem_append.mp hi with hi | hi
        · exact j i hi
        · rw [List.mem_singleton.mp hi]
          exact h _ _ _
theorem runs_okD {dec : Nat → Int → Int → Int} (h : ∀ k v p, dec k v p = 0 ∨ dec k v p = 1) {b : List Sm} (pr : PrOk b) {n : Int} (h1 : -BIG ≤ n) (h2 : n ≤ BIG) : ROk (Sm.runs (dec) noWay b 0 (cs0 n)) := by
  have hn : n.natAbs ≤ BN := by
    have e : (BN : Int) = BIG := by decide +kernel
    omega
  have he : ∀ x, ((cs0 n).env x).natAbs ≤ BN * 729 ^ 0 := by
    intro x
    show (env0 n x).natAbs ≤ _
    unfold env0
    rw [Nat.pow_zero, Nat.mul_one]
    split
    · exact hn
    · exact Nat.zero_le _
  have m : Mag (Sm.wts b) _ := runs_mag (dec := dec) (ways := noWay) h noWay_01 b pr.ok 0 (cs0 n) ⟨he, (fun k hk => nomatch hk), Nat.le_refl _⟩
  have hb := bm_ok pr.wt
  refine ⟨fun k hk => (m.said k hk).mono (by omega), Nat.le_trans m.len pr.wt, fun c e => Sm.words b pr.ok 0 (cs0 n) c e, ?_, ?_⟩
  · exact turns_01 h pr.ok 0 n
  · have := turns_le (dec := dec) (ways := noWay) b pr.ok 0 (cs0 n)
    have hh := pr.hv
    have e : (cs0 n).turns.length = 0 := rfl
    omega
theorem tab_nins {H : Hp} {Pt : Addr} {q : Str} (t : TabS H Pt q) : ∀ x ∈ [Pt], ∀ C dx fs, H x ≠ some (.ins C dx fs) := fun x hx C dx fs e => by
  obtain ⟨ps, h1, _⟩ := t
  rw [List.mem_singleton.mp hx, h1] at e
  cases e
theorem Rul.d_ref {H : Hp} {v : V} : ∀ {r : Rul}, Tr H r.d v → ∃ ta tvs, v = .ref ta ∧ H ta = some (.tup tvs)
  | .down, h => by obtain ⟨a, xs, e, h, _⟩ := tr_tup h; exact ⟨a, xs, e, h⟩
  | .up, h => by obtain ⟨a, xs, e, h, _⟩ := tr_tup h; exact ⟨a, xs, e, h⟩
  | .even, h => by obtain ⟨a, xs, e, h, _⟩ := tr_tup h; exact ⟨a, xs, e, h⟩
  | .odd, h => by obtain ⟨a, xs, e, h, _⟩ := tr_tup h; exact ⟨a, xs, e, h⟩
  | .zero, h => by obtain ⟨a, xs, e, h, _⟩ := tr_tup h; exact ⟨a, xs, e, h⟩
  | .away, h => by obtain ⟨a, xs, e, h, _⟩ := tr_tup h; exact ⟨a, xs, e, h⟩
  | .blw n, h => by obtain ⟨a, xs, e, h, _⟩ := tr_tup h; exact ⟨a, xs, e, h⟩
  | .places ps, h => by obtain ⟨a, xs, e, h, _⟩ := tr_tup h; exact ⟨a, xs, e, h⟩
  | .turned r, h => by obtain ⟨a, xs, e, h, _⟩ := tr_tup h; exact ⟨a, xs, e, h⟩
  | .join w a b, h => by obtain ⟨a, xs, e, h, _⟩ := tr_tup h; exact ⟨a, xs, e, h⟩
end EH
namespace EH
open PySem L2
/-! ### programs can be shown -/
structure Sw (d : PyData) (W D : Nat) : Prop where
  sh : d.showable = true
  ls : d.leavesShort 13 = true
  wt : d.weight ≤ W
  dp : d.depth ≤ D
structure Sws (ds : List PyData) (W D : Nat) : Prop where
  sh : PyData.showableAll ds = true
  ls : PyData.leavesShortAll 13 ds = true
  wt : PyData.weightAll ds ≤ W
  dp : PyData.depthAll ds ≤ D
theorem Sw.mono {d : PyData} {W D W' D' : Nat} (h : Sw d W D) (a : W ≤ W') (b : D ≤ D') : Sw d W' D' := ⟨h.sh, h.ls, Nat.le_trans h.wt a, Nat.le_trans h.dp b⟩
theorem Sws.mono {d : List PyData} {W D W' D' : Nat} (h : Sws d W D) (a : W ≤ W') (b : D ≤ D') : Sws d W' D' := ⟨h.sh, h.ls, Nat.le_trans h.wt a, Nat.le_trans h.dp b⟩
theorem sws_nil : Sws [] 0 0 := ⟨by simp only [PyData.showableAll], by simp only [PyData.leavesShortAll], by simp only [PyData.weightAll]; exact Nat.le_refl _, by simp only [PyData.depthAll]; exact Nat.le_refl _⟩
theorem sws_cons {d : PyData} {ds : List PyData} {W D W' : Nat} (h : Sw d W D) (t : Sws ds W' D) : Sws (d :: ds) (W + 1 + W') D := by
  obtain ⟨h1, h2, h3, h4⟩ := h
  obtain ⟨t1, t2, t3, t4⟩ := t
  refine ⟨by simp only [PyData.showableAll, h1, t1]; rfl, by simp only [PyData.leavesShortAll, h2, t2]; rfl, ?_, ?_⟩
  · simp only [PyData.weightAll]; omega
  · simp only [PyData.depthAll]; omega
theorem sw_tup {ds : List PyData} {W D : Nat} (t : Sws ds W D) : Sw (.tuple ds) (W + 1) (D + 1) := by
  obtain ⟨t1, t2, t3, t4⟩ := t
  refine ⟨by simp only [PyData.showable, t1], by simp only [PyData.leavesShort, t2], ?_, ?_⟩
  · simp only [PyData.weight]; omega
  · simp only [PyData.depth]; omega
theorem sw_lst {ds : List PyData} {W D : Nat} (t : Sws ds W D) : Sw (.list ds) (W + 1) (D + 1) := by
  obtain ⟨t1, t2, t3, t4⟩ := t
  refine ⟨by simp only [PyData.showable, t1], by simp only [PyData.leavesShort, t2], ?_, ?_⟩
  · simp only [PyData.weight]; omega
  · simp only [PyData.depth]; omega
theorem sw_int {i : Int} (h : i.natAbs < 1000) : Sw (.int i) 20 0 := by
  have hl : i.natAbs.log2 ≤ 10 := by
    by_cases z : i.natAbs = 0
    · rw [z]; decide
    · exact Nat.le_of_lt_succ ((Nat.log2_lt z).mpr (by have : (2:Nat) ^ 11 = 2048 := by decide
                                                       omega))
  refine ⟨?_, ?_, ?_, ?_⟩
  · simp only [PyData.showable, decide_eq_true_eq]; omega
  · simp only [PyData.leavesShort, decide_eq_true_eq]
    have e := int_text_length_le10 (a := i) (k := 12) (by decide) (Nat.lt_of_lt_of_le h (by decide))
    show (Str.ofString (toString i)).length ≤ 13
    rw [ofString_length]
    exact e
  · simp only [PyData.weight]
    split <;> omega
  · simp only [PyData.depth]; exact Nat.le_refl _
theorem sw_str {c : Str} {n : Nat} (h : PyData.strOk c = true ∧ c.length ≤ n) : Sw (.str c) n 0 := by
  refine ⟨by simp only [PyData.showable], ?_, ?_, ?_⟩
  · exact PyData.leavesShort_of_canLay0 13 (.str c) (by simp only [PyData.canLay0]; exact h.1) (by simp only [PyData.intsShort])
  · simp only [PyData.weight]; exact h.2
  · simp only [PyData.depth]; exact Nat.le_refl _
theorem Sw.shw {d : PyData} {W D : Nat} (h : Sw d W D) (hw : W ≤ 1000000) (hd : D ≤ 60) : Shw d := by
  refine ⟨h.sh, Nat.le_trans (PyData.shown_le 13 (by decide) d h.ls) ?_, Nat.le_trans h.dp hd⟩
  have := h.wt
  have : (15 : Nat) * d.weight + 13 ≤ 16777216 := by omega
  exact Nat.le_trans this (by decide +kernel)
theorem sw_kw (x : Str) (h : PyData.strOk x = true ∧ x.length ≤ 6) : Sw (.str x) 6 0 := sw_str h
def exW : Nat → Nat
  | 0 => 1000
  | n + 1 => 2 * exW n + 40
theorem exW_ge : ∀ n, 1000 ≤ exW n
  | 0 => Nat.le_refl _
  | n + 1 => by have := exW_ge n; simp only [exW]; omega
theorem Ex.sw : ∀ {e : Ex} (n : Nat), e.ok → e.deep ≤ n + 1 → Sw e.d (exW n) n
  | .num i, n, h, _ => by
    have h : -99 ≤ i ∧ i ≤ 99 := h
    have := exW_ge n
    exact (sw_int (by omega)).mono (by omega) (Nat.zero_le _)
  | .var x, n, h, _ => (sw_str h).mono (exW_ge n) (Nat.zero_le _)
  | .plus a b, 0, h, d => absurd (show max a.deep b.deep + 1 ≤ 1 from d) (by have := a.deep_pos; omega)
  | .plus a b, n + 1, h, d => by
    have d : max a.deep b.deep + 1 ≤ n + 1 + 1 := d
    have ha := Ex.sw n (show a.ok ∧ b.ok from h).1 (by omega)
    have hb := Ex.sw n (show a.ok ∧ b.ok from h).2 (by omega)
    exact (sw_tup (sws_cons ((sw_kw "plus" (by decide +kernel)).mono (Nat.le_refl _) (Nat.zero_le _)) (sws_cons ha (sws_cons hb (sws_nil.mono (Nat.le_refl _) (Nat.zero_le _)))))).mono (by simp only [exW]; omega) (Nat.le_refl _)
  | .minus a b, 0, h, d => absurd (show max a.deep b.deep + 1 ≤ 1 from d) (by have := a.deep_pos; omega)
  | .minus a b, n + 1, h, d => by
    have d : max a.deep b.deep + 1 ≤ n + 1 + 1 := d
    have ha := Ex.sw n (show a.ok ∧ b.ok from h).1 (by omega)
    have hb := Ex.sw n (show a.ok ∧ b.ok from h).2 (by omega)
    exact (sw_tup (sws_cons ((sw_kw "minus" (by decide +kernel)).mono (Nat.le_refl _) (Nat.zero_le _)) (sws_cons ha (sws_cons hb (sws_nil.mono (Nat.le_refl _) (Nat.zero_le _)))))).mono (by simp only [exW]; omega) (Nat.le_refl _)
  | .times k a, 0, h, d => absurd (show a.deep + 1 ≤ 1 from d) (by have := a.deep_pos; omega)
  | .times k a, n + 1, h, d => by
    have d : a.deep + 1 ≤ n + 1 + 1 := d
    obtain ⟨h1, h2, h3⟩ := (show -9 ≤ k ∧ k ≤ 9 ∧ a.ok from h)
    have ha := Ex.sw n h3 (by omega)
    have := exW_ge n
    exact (sw_tup (sws_cons ((sw_kw "times" (by decide +kernel)).mono (Nat.le_refl _) (Nat.zero_le _)) (sws_cons ((sw_int (i := k) (by omega)).mono (Nat.le_refl _) (Nat.zero_le _)) (sws_cons ha (sws_nil.mono (Nat.le_refl _) (Nat.zero_le _)))))).mono (by simp only [exW]; omega) (Nat.le_refl _)
theorem Ex.sw3 {e : Ex} (h : e.ok) (d : e.deep ≤ 3) : Sw e.d 4200 2 := (Ex.sw 2 h d).mono (by decide) (Nat.le_refl _)
theorem Ts.sw : ∀ {t : Ts}, t.ok → Sw t.d (8420 + 20 * t.nots) (3 + t.nots)
  | .less a b, h => by
    obtain ⟨⟨o1, d1⟩, o2, d2⟩ := (show (a.ok ∧ a.deep ≤ 3) ∧ b.ok ∧ b.deep ≤ 3 from h)
    exact (sw_tup (sws_cons ((sw_kw "less" (by decide +kernel)).mono (Nat.le_refl _) (Nat.zero_le _)) (sws_cons (Ex.sw3 o1 d1) (sws_cons (Ex.sw3 o2 d2) (sws_nil.mono (Nat.le_refl _) (Nat.zero_le _)))))).mono (by simp only [Ts.nots]; omega) (by simp only [Ts.nots]; omega)
  | .odd a, h => by
    obtain ⟨o1, d1⟩ := (show a.ok ∧ a.deep ≤ 3 from h)
    exact (sw_tup (sws_cons ((sw_kw "odd" (by decide +kernel)).mono (Nat.le_refl _) (Nat.zero_le _)) (sws_cons (Ex.sw3 o1 d1) (sws_nil.mono (Nat.le_refl _) (Nat.zero_le _))))).mono (by simp only [Ts.nots]; omega) (by simp only [Ts.nots]; omega)
  | .not t, h => by
    have ih := Ts.sw (t := t) h
    exact (sw_tup (sws_cons ((sw_kw "not" (by decide +kernel)).mono (Nat.le_refl _) (Nat.zero_le _)) (sws_cons ih (sws_nil.mono (Nat.le_refl _) (Nat.zero_le _))))).mono (by simp only [Ts.nots]; omega) (by simp only [Ts.nots]; omega)
mutual
theorem Sm.sw : ∀ {s : Sm}, s.ok → Sw s.d (9000 * s.pl - 1) (6 + 2 * s.nest)
  | .ite t y n, h => by
    simp only [Sm.ok] at h
    have ht := Ts.sw h.1
    have hy := sw_tup (Sm.sws h.2.2.1)
    have hn := sw_tup (Sm.sws h.2.2.2)
    simp only [Sm.d, Sm.pl, Sm.nest]
    exact (sw_tup (D := 5 + 2 * (max (Sm.nests y) (Sm.nests n) + 1)) (sws_cons ((sw_kw "if" (by decide +kernel)).mono (Nat.le_refl _) (Nat.zero_le _)) (sws_cons (ht.mono (Nat.le_refl _) (by omega)) (sws_cons (hy.mono (Nat.le_refl _) (by omega)) (sws_cons (hn.mono (Nat.le_refl _) (by omega)) (sws_nil.mono (Nat.le_refl _) (Nat.zero_le _))))))).mono (by omega) (by omega)
  | .rep k b, h => by
    simp only [Sm.ok] at h
    have hb := sw_tup (Sm.sws h.2)
    simp only [Sm.d, Sm.pl, Sm.nest]
    exact (sw_tup (D := 5 + 2 * (Sm.nests b + 1)) (sws_cons ((sw_kw "repeat" (by decide +kernel)).mono (Nat.le_refl _) (Nat.zero_le _)) (sws_cons ((sw_int (i := (k : Int)) (by omega)).mono (Nat.le_refl _) (Nat.zero_le _)) (sws_cons (hb.mono (Nat.le_refl _) (by omega)) (sws_nil.mono (Nat.le_refl _) (Nat.zero_le _)))))).mono (by omega) (by omega)
  | .set x e, h => by
    simp only [Sm.ok] at h
    simp only [Sm.d, Sm.pl, Sm.nest]
    exact (sw_tup (sws_cons ((sw_kw "set" (by decide +kernel)).mono (Nat.le_refl _) (Nat.zero_le _)) (sws_cons ((sw_str h.2).mono (Nat.le_refl _) (Nat.zero_le _)) (sws_cons (Ex.sw3 h.1.1 h.1.2) (sws_nil.mono (Nat.le_refl _) (Nat.zero_le _)))))).mono (by omega) (by omega)
  | .half x e, h => by
    simp only [Sm.ok] at h
    simp only [Sm.d, Sm.pl, Sm.nest]
    exact (sw_tup (sws_cons ((sw_kw "half" (by decide +kernel)).mono (Nat.le_refl _) (Nat.zero_le _)) (sws_cons ((sw_str h.2).mono (Nat.le_refl _) (Nat.zero_le _)) (sws_cons (Ex.sw3 h.1.1 h.1.2) (sws_nil.mono (Nat.le_refl _) (Nat.zero_le _)))))).mono (by omega) (by omega)
  | .tell e, h => by
    simp only [Sm.ok] at h
    simp only [Sm.d, Sm.pl, Sm.nest]
    exact (sw_tup (sws_cons ((sw_kw "tell" (by decide +kernel)).mono (Nat.le_refl _) (Nat.zero_le _)) (sws_cons (Ex.sw3 h.1 h.2) (sws_nil.mono (Nat.le_refl _) (Nat.zero_le _))))).mono (by omega) (by omega)
  | .say c, h => by
    simp only [Sm.ok] at h
    simp only [Sm.d, Sm.pl, Sm.nest]
    exact (sw_tup (D := 0) (sws_cons (sw_kw "say" (by decide +kernel)) (sws_cons (sw_str h) sws_nil))).mono (by omega) (by omega)
  | .stop c, h => by
    simp only [Sm.ok] at h
    simp only [Sm.d, Sm.pl, Sm.nest]
    exact (sw_tup (D := 0) (sws_cons (sw_kw "stop" (by decide +kernel)) (sws_cons (sw_str h) sws_nil))).mono (by omega) (by omega)
theorem Sm.sws : ∀ {b : List Sm}, Sm.oks b → Sws (Sm.ds b) (9000 * Sm.pls b) (6 + 2 * Sm.nests b)
  | [], _ => by simp only [Sm.ds]; exact sws_nil.mono (Nat.zero_le _) (Nat.zero_le _)
  | s :: r, h => by
    simp only [Sm.oks] at h
    have h1 := Sm.sw h.1
    have h2 := Sm.sws h.2
    have := s.pl_pos
    simp only [Sm.ds, Sm.pls, Sm.nests]
    exact (sws_cons (h1.mono (Nat.le_refl _) (show 6 + 2 * s.nest ≤ 6 + 2 * max s.nest (Sm.nests r) by omega)) (h2.mono (Nat.le_refl _) (by omega))).mono (by omega) (Nat.le_refl _)
end
theorem ints_sws : ∀ {l : List Int}, ty01 l → Sws (l.map PyData.int) (21 * l.length) 0
  | [], _ => sws_nil
  | i :: r, h => by
    have h1 := h i List.mem_cons_self
    have h2 := ints_sws (l := r) fun x hx => h x (List.mem_cons_of_mem _ hx)
    simp only [List.map_cons, List.length_cons]
    exact (sws_cons (sw_int (i := i) (by omega)) h2).mono (by omega) (Nat.le_refl _)
theorem prog_sw {b : List Sm} (p : PrOk b) : Sw (.tuple (Sm.ds b)) 216001 15 := by
  have := p.pl
  have := p.nest
  exact (sw_tup (Sm.sws p.ok)).mono (by omega) (by omega)
theorem kept_shw {b : List Sm} {cs : List Int} (p : PrOk b) (h : ty01 cs) (l : cs.length ≤ 60) : Shw (.list [.tuple (Sm.ds b), .tuple (cs.map PyData.int)]) := by
  have h1 := prog_sw p
  have h2 := sw_tup (ints_sws h)
  exact (sw_lst (sws_cons h1 (sws_cons (h2.mono (Nat.le_refl _) (by decide)) (sws_nil.mono (Nat.le_refl _) (Nat.zero_le _))))).shw (by omega) (by decide)
end EH
namespace EH
open PySem PySem.Spec PyProof.Rows L2 LamX
/-! ### a law's own head with tables of code objects, its def of the kind FnG -/
section
variable {P : Program} {w : World} {K : PySem.W.Frag} {mg mb : Str → Option Value} {CX : CXT} {k : Nat} {fa a : Addr} {fd : FuncData} {x : Str} {sp : Sp} {s₁ : Shared} {vs : List Value} {ns : List Int} {c Pt : Addr}
def tabObj0 : Obj := { cls := .none, data := .fields #[] }
theorem law_coreGT (KX : K.In s₁.heap) (hns : s₁.heap.Ns mainGlobals mg) (hb : s₁.heap.Ns builtinsNs mb) (hbb : ∀ x : Str, x ≠ "__name__" → mb x = bootBuiltins x) (hlim : s₁.heap.NoLimit) (hg : s₁.gens = #[])
    (hT : s₁.heap.get? Pt = some tabObj0) (nT : K.lookup Pt = none) (C : PySem.W.CodeHd s₁.heap c Pt)
    (hbm : ∃ (bm : Addr) (ob : Obj), mg "__builtins__" = some (.ref bm) ∧ bm ≠ builtinsNs ∧ s₁.heap.get? bm = some ob ∧ ob.cls = .type "module" ∧ ob.dict = some builtinsNs ∧ ob.data = .plain)
    (ha : s₁.heap.get? a = some { cls := .type "list", data := .seq vs.toArray }) (hr : Room k callerA)
    (F : ∀ base : Heap, K.In base → base.Ns mainGlobals mg → TabB base mg c Pt → FnG P w K mg base CX k fa fd [x] sp) (hbind : ∀ (s : Shared) (u : Value), BindsTo s fd ⟨[u], []⟩ [(x, u)])
    (hCX : ∀ H e s', CX [] H s₁ (fun _ _ _ => False) e s' → False) (H : Hp) (hH : H Pt = some (.tbl #[])) (hO : ∀ b, b ≠ Pt → H b = none ∨ ∃ o xs, H b = some (.frz o (.lst xs))) (hsp : sp [.ref a] H (fun v _ => v = .bl true) fun _ _ _ => False) (hok : HOk P w H s₁.heap) (hA : ∀ b, H b ≠ none → b = a ∨ b = Pt) (hK : H a ≠ none → K.lookup a = none) :
    codeAny (model P w) callerA (.call (.ref fa) ⟨[.ref a], []⟩) (fun r s' => r = .ok (.ret (.bool true)) ∧ OldK s₁.heap s'.heap ∧ s'.os = s₁.os ∧ AllBare s'.gens) s₁ := by
  have untracked : ∀ {b : Addr} {o : Obj}, s₁.heap.get? b = some o → (∀ vs n, o.data ≠ .seq vs n) → o.data ≠ .fields #[] → H b = none := fun {b o} e h1 h2 => by
    cases q : H b with
    | none => rfl
    | some u =>
      rcases hA b (by rw [q]; exact fun z => nomatch z) with rfl | rfl
      · rw [ha] at e
        cases e
        exact absurd rfl (h1 _ _)
      · rw [hT] at e
        cases e
        exact absurd rfl h2
  have nsK : ∀ {b : Addr} {m : Str → Option Value}, s₁.heap.Ns b m → (hidT s₁.heap H).Ns b m := fun ⟨o, es, ep, e, d, r⟩ =>
    ⟨o, es, ep, hidT_get e (untracked e (fun _ _ z => by rw [d] at z; cases z) fun z => by rw [d] at z; cases z), d, r⟩
  have kin : K.In (hidT s₁.heap H) := fun b o e => by
    refine hidT_get (KX b o e) ?_
    cases q : H b with
    | none => rfl
    | some u =>
      rcases hA b (by rw [q]; exact fun z => nomatch z) with rfl | rfl
      · rw [hK (by rw [q]; exact fun z => nomatch z)] at e
        cases e
      · rw [nT] at e
        cases e
  have md : Mod K mg (hidT s₁.heap H) := ⟨kin, nsK hns, ⟨mb, nsK hb, hbb⟩, by obtain ⟨mc, h1, h2⟩ := hlim; exact ⟨mc, nsK h1, h2⟩⟩
  have tb : TabB (hidT s₁.heap H) mg c Pt := by
    refine ⟨?_, ?_, fun z => ?_⟩
    · obtain ⟨o, us, file, tf, flags, tg, inF, text, tt, e1, r1, r2, r3, rest⟩ := C
      refine ⟨o, us, file, tf, flags, tg, inF, text, tt, hidT_get e1 (untracked e1 (fun _ _ z => by rw [r2] at z; cases z) fun z => ?_), r1, r2, r3, rest⟩
      rw [r2] at z
      cases z
      simp at r3
    · obtain ⟨bm, ob, b1, b2, b3, b4, b5, b6⟩ := hbm
      refine ⟨bm, ob, b1, b2, fun z => ?_, fun z => ?_, hidT_get b3 (untracked b3 (fun _ _ z => by rw [b6] at z; cases z) fun z => by rw [b6] at z; cases z), b4, b5, b6⟩
      · obtain ⟨o, es, ep, e, hd, _⟩ := hns
        rw [z, e] at b3
        cases b3
        rw [hd] at b6
        cases b6
      · rw [z, hT] at b3
        cases b3
        cases b6
    · obtain ⟨o, es, ep, e, hd, _⟩ := hns
      rw [z, hT] at e
      cases e
      cases hd
  have e0 : Env0 P w K mg (hidT s₁.heap H) callerA [] s₁ H := ⟨rfl, md, fun _ _ e => of_hidT e, Nat.le_of_eq (hidT_size _ _), trivial, (fun b z => absurd (show b ∈ ([] : List Addr) from z) (by simp)), hok, .of_eq hg⟩
  refine codeAny_mono ((F _ kin (nsK hns) tb).run callerA [] s₁ H ⟨[.ref a], []⟩ [.ref a] [.ref a] _ _ rfl hr e0 (hbind s₁ (.ref a)) (.cons rfl .nil) hsp) fun r s' h => ?_
  cases r with
  | error e => exact (hCX H e s' h).elim
  | ok fl => cases fl with
    | next => exact h.elim
    | brk => exact h.elim
    | cont => exact h.elim
    | ret u =>
      obtain ⟨v, H', os, bare, un, hok', rv, q⟩ := h
      cases (show v = .bl true from q)
      cases (show u = Value.bool true from rv)
      have old : ∀ b o, b ≠ Pt → s₁.heap.get? b = some o → s'.heap.get? b = some o := fun b o nb e => by
        rcases hO b nb with z | ⟨ob, xs, z⟩
        · exact un.keep b o e z (fun y => nomatch (show b ∈ ([] : List Addr) from y)) (fun y => nomatch y)
        · obtain ⟨e1, _⟩ := hok b _ z
          obtain ⟨e2, _⟩ := hok' b _ (un.frzs b ob _ z)
          rw [e] at e1
          cases e1
          exact e2
      obtain ⟨more, ht⟩ := un.tbls Pt #[] hH
      have hm : s'.heap.get? Pt = some { cls := .none, data := .fields (#[] ++ more) } := hok' Pt _ ht
      refine ⟨rfl, ⟨fun b o e => ?_, fun b o e => ?_⟩, os, bare⟩
      · by_cases hb : b = Pt
        · subst hb
          rw [hT] at e
          cases e
          exact .inr (.inl ⟨(C.tab hT).isCodeTable, rfl, #[], more, rfl, hm⟩)
        · exact .inl (old b o hb e)
      · by_cases hb : b = Pt
        · subst hb
          exact ⟨_, hm⟩
        · exact ⟨o, old b o hb e⟩
theorem law_callGT (KX : K.In s₁.heap) (hns : s₁.heap.Ns mainGlobals mg) (hb : s₁.heap.Ns builtinsNs mb) (hbb : ∀ x : Str, x ≠ "__name__" → mb x = bootBuiltins x) (hlim : s₁.heap.NoLimit) (hg : s₁.gens = #[])
    (hT : s₁.heap.get? Pt = some tabObj0) (nT : K.lookup Pt = none) (C : PySem.W.CodeHd s₁.heap c Pt)
    (hbm : ∃ (bm : Addr) (ob : Obj), mg "__builtins__" = some (.ref bm) ∧ bm ≠ builtinsNs ∧ s₁.heap.get? bm = some ob ∧ ob.cls = .type "module" ∧ ob.dict = some builtinsNs ∧ ob.data = .plain)
    (ha : s₁.heap.get? a = some { cls := .type "list", data := .seq vs.toArray }) (hi : IntsAre vs ns) (hl : ns.length ≤ sizeLine) (hr : Room k callerA)
    (F : ∀ base : Heap, K.In base → base.Ns mainGlobals mg → TabB base mg c Pt → FnG P w K mg base CX k fa fd [x] sp) (hbind : ∀ (s : Shared) (u : Value), BindsTo s fd ⟨[u], []⟩ [(x, u)])
    (hsp : ∀ H : Hp, H Pt = some (.tbl #[]) → SqL K H a (ns.map V.int) → sp [.ref a] H (fun v _ => v = .bl true) fun _ _ _ => False) (hCX : ∀ H e s', CX [] H s₁ (fun _ _ _ => False) e s' → False) :
    codeAny (model P w) callerA (.call (.ref fa) ⟨[.ref a], []⟩) (fun r s' => r = .ok (.ret (.bool true)) ∧ OldK s₁.heap s'.heap ∧ s'.os = s₁.os ∧ AllBare s'.gens) s₁ := by
  have rv := vals_ints hi
  have core := law_coreGT (k := k) (fa := fa) (sp := sp) KX hns hb hbb hlim hg hT nT C hbm ha hr F hbind hCX
  have aP : a ≠ Pt := fun z => by
    rw [z, hT] at ha
    have z' : Data.fields #[] = Data.seq vs.toArray _ := congrArg Obj.data (Option.some.inj ha)
    cases z'
  cases hk : K.lookup a with
  | some o =>
    have e := KX a o hk
    rw [ha] at e
    cases e
    have atP : ∀ b : Addr, b = Pt → (fun b => if b = Pt then some (HO.tbl #[]) else none) b = some (.tbl #[]) := fun b z => if_pos z
    have off : ∀ b : Addr, b ≠ Pt → (fun b => if b = Pt then some (HO.tbl #[]) else none) b = none := fun b z => if_neg z
    generalize (fun b => if b = Pt then some (HO.tbl #[]) else none) = H0 at atP off
    have hS : SqL K H0 a (ns.map V.int) := .inr ⟨_, vs.toArray, _, hk, rfl, rfl, rfl, by rw [List.size_toArray, hi.length]; exact hl, by simpa using rv⟩
    refine core H0 (atP Pt rfl) (fun b z => .inl (off b z)) (hsp H0 (atP Pt rfl) hS) (fun b u z => ?_) (fun b z => ?_) fun z => absurd (off a aP) z
    · by_cases y : b = Pt
      · have e := (atP b y).symm.trans z
        cases e
        subst y
        exact hT
      · exact nomatch (off b y).symm.trans z
    · by_cases y : b = Pt
      · exact .inr y
      · exact absurd (off b y) z
  | none =>
    have atP : ∀ b : Addr, b = Pt → (fun b => if b = Pt then some (HO.tbl #[]) else if b = a then some (HO.frz { cls := .type "list", data := .seq vs.toArray } (.lst (ns.map V.int))) else none) b = some (.tbl #[]) := fun b z => if_pos z
    have at_a : ∀ b : Addr, b = a → (fun b => if b = Pt then some (HO.tbl #[]) else if b = a then some (HO.frz { cls := .type "list", data := .seq vs.toArray } (.lst (ns.map V.int))) else none) b = some (.frz { cls := .type "list", data := .seq vs.toArray } (.lst (ns.map V.int))) := fun b z => (if_neg (by rw [z]; exact aP)).trans (if_pos z)
    have off : ∀ b : Addr, b ≠ Pt → b ≠ a → (fun b => if b = Pt then some (HO.tbl #[]) else if b = a then some (HO.frz { cls := .type "list", data := .seq vs.toArray } (.lst (ns.map V.int))) else none) b = none := fun b z y => (if_neg z).trans (if_neg y)
    generalize (fun b => if b = Pt then some (HO.tbl #[]) else if b = a then some (HO.frz { cls := .type "list", data := .seq vs.toArray } (.lst (ns.map V.int))) else none) = H0 at atP at_a off
    refine core H0 (atP Pt rfl) (fun b z => ?_) (hsp H0 (atP Pt rfl) (.inl (.inr ⟨_, at_a a rfl⟩))) (fun b u z => ?_) (fun b z => ?_) fun _ => hk
    · by_cases y : b = a
      · exact .inr ⟨_, _, at_a b y⟩
      · exact .inl (off b z y)
    · by_cases y : b = Pt
      · have e := (atP b y).symm.trans z
        cases e
        subst y
        exact hT
      · by_cases y2 : b = a
        · have e := (at_a b y2).symm.trans z
          cases e
          subst y2
          exact ⟨ha, by rw [List.length_map]; exact hl, vs, _, rv, ha⟩
        · exact nomatch (off b y y2).symm.trans z
    · by_cases y : b = Pt
      · exact .inr y
      · by_cases y2 : b = a
        · exact .inl y2
        · exact absurd (off b y y2) z
end
/-- as walk_ofG, with one table: of the def whose code object is at c -/
theorem walk_ofGT {l : PySem.W.OpenLaw} {n k : Nat} {q : Program} {loose : List Str} {XP : (Str → Option Value) → Heap → Prop} {YP : World → Heap → Prop} {d : DefRec} {K : Params → PySem.W.Frag} {x : Str}
    (hn : l.most = some n) (hn2 : n ≤ sizeLine) (hdf : d.params.defaults = []) (hr : Room k callerA) (hY : ∀ (w : World) (h : Heap), YP w h → (K w.params).In h)
    (F : ∀ (w : World) (mg : Str → Option Value) (fa : Addr) (h : Heap), YP w h → (K w.params).In h → h.Ns mainGlobals mg → mg d.name = some (.ref fa) →
      ∃ (fd : FuncData) (c Pt : Addr) (sp : Sp), h.get? Pt = some tabObj0 ∧ (K w.params).lookup Pt = none ∧ PySem.W.CodeHd h c Pt ∧ (∀ (s : Shared) (u : Value), BindsTo s fd ⟨[u], []⟩ [(x, u)]) ∧
        (∀ (H : Hp) (a : Addr) (ns : List Int), ns.length ≤ n → H Pt = some (.tbl #[]) → SqL (K w.params) H a (ns.map V.int) → sp [.ref a] H (fun v _ => v = .bl true) fun _ _ _ => False) ∧
        ∀ base : Heap, (K w.params).In base → base.Ns mainGlobals mg → TabB base mg c Pt → FnG l.prog w (K w.params) mg base CX0 k fa fd [x] sp) :
    PySem.W.WalkO q loose XP YP l.row.toRowW d [] (fun f vs => PySem.call f vs) := by
  refine Att.attach_call hn hdf fun w s₀ s₁ mg mb fa o pm cd doc a vs ns G Y ho hd hcd hmg hobj hints hlen hg => ?_
  obtain ⟨fd, c, Pt, sp, hT, nT, C, hb, hsp, hF⟩ := F w mg fa _ Y (hY w _ Y) G.T.g hmg
  exact law_callGT (hY w _ Y) G.T.g G.T.b G.T.builtins G.T.nolimit hg hT nT C G.T.bmain hobj hints (Nat.le_trans hlen hn2) hr hF hb (fun H hH hS => hsp H a ns hlen hH hS) fun _ _ _ z => z
end EH
namespace EH
open PySem L2
local macro_rules | `(tactic| walk_at "sd") => `(tactic| first | assumption | ((with_reducible show (_ : Int) ≤ _); omega) | ((with_reducible show (_ : Int) < _); omega) | rfl | exact SqL.of (by assumption) | exact SqT.of (by assumption) | exact atI_nat (j := 0) rfl | exact atI_nat (j := 1) rfl | exact atI_nat (j := 2) rfl | exact atI_nat (j := 3) rfl | exact sz_lit rfl | exact lt_lit rfl | exact pos_lit rfl | exact le_lit rfl | exact Or.inl (SqL.of (by assumption)) | exact ⟨_, SqL.of (by assumption)⟩ | exact ⟨_, SqT.of (by assumption)⟩ | exact Or.inr (SqT.of (by assumption)) | exact ClsV.ty _ | exact TyX.base (TyOf.int _) | exact TyX.base (TyOf.str _) | exact TyX.base (TyOf.tup (by assumption)) | exact kit_ty isi_ss | exact kit_ty isi_is | exact kit_ty isi_ts | exact kit_ty isi_si | exact kit_ty isi_ii | exact kit_ty isi_ti | exact kit_ty isi_st | exact kit_ty isi_it | exact kit_ty isi_tt | exact Or.inl ⟨_, Or.inl (by assumption)⟩ | exact DGet.k (k := Sum.inr _) (by assumption) | exact DGet.k (k := Sum.inl _) (by assumption) | (refine cpow_of ?_; decide) | (refine cmul_of ?_; decide) | (show (_ : Int) ≠ 0; first | decide | omega) | (refine cdivn_of ?_; decide) | exact Or.inl ⟨rfl, _, SqL.of (by assumption)⟩ | omega)
local macro_rules | `(tactic| walk_at "st") => `(tactic| first | (apply Exists.intro) | (refine And.intro ?_ ?_; focus (walk_at "sd")) | (apply Or.inl; apply Exists.intro; refine And.intro ?_ ?_; focus rfl) | (apply Or.inr; apply Exists.intro; refine And.intro ?_ ?_; focus rfl))
local macro_rules | `(tactic| walk_at "go") => `(tactic| repeat (walk_at "st"))
section
variable {P : Program} {w : World} {K : PySem.W.Frag} {mg : Str → Option Value} {base : Heap}
open LamX
theorem ok_law (T : Top K mg) {cc Pt : Addr} (hcode : T.l_chooser.fd.code = .ref cc) (TB : TabB base mg cc Pt) : FnG P w K mg base CX0 33 T.law.f T.law.fd ["_law_script"] (spLawT Pt K) := by
  have G_l_deck := ok_l_deck (P := P) (w := w) (base := base) (k := 0) T
  have G_l_names := ok_l_names (P := P) (w := w) (base := base) T
  have G_l_program := ok_l_program (P := P) (w := w) (base := base) T
  have G_l_number := ok_l_number (P := P) (w := w) (base := base) T
  have G_l_rule : FnOk P w K mg base CX0 8 T.l_rule.f T.l_rule.fd ["_law_deck_here", "_law_high"] (spRul (rcOf T) 3) := ok_l_rule T 3
  have G_l_chooser := ok_l_chooser (P := P) (w := w) (base := base) T hcode TB
  have G_l_run := ok_l_runCh (P := P) (w := w) (base := base) T 4
  have G_run_by := ok_run_by (P := P) (w := w) (base := base) T (rcalls T 4) 4
  refine Fun.okG T.law.F sc_law (fun vs H Q E h => ?_) (fun cdv A outer s H vs Q E fr hr h => ?_)
  · obtain ⟨a, ns, rfl, _⟩ := h
    rfl
  obtain ⟨sa, ns, rfl, hS, hl, hP, q⟩ := h
  have hu64 := hr.units
  refine ⟨_, (pss_cons (ps_set (i := 1) sc_law.nd rfl (.inl rfl) (pe_call G_l_deck (hr.mono (by omega)) (by rfl) T.l_deck.g T.l_deck.F.kp T.l_deck.b .nil pass0 (pa_cons (pv 0) pa_nil)))
      (pss_cons (ps_forA (ps_for PassesOwn.never rfl (pi_range1 (by rfl) T.range (pa_cons pe_int pa_nil)) (pg_name (i := 2) sc_law.nd rfl (.inl rfl)) (pss_cons (ps_set (i := 3) sc_law.nd rfl (.inl rfl) (pe_call G_l_program (hr.mono (by omega)) (by rfl) T.l_program.g T.l_program.F.kp T.l_program.b .nil pass0 (pa_cons (pv 1) (pa_cons (pe_call G_l_names (hr.mono (by omega)) (by rfl) T.l_names.g T.l_names.F.kp T.l_names.b .nil pass0 (pa_cons (pv 1) pa_nil)) pa_nil))))
      (pss_one (ps_forA (ps_for PassesOwn.never rfl (pi_range1 (by rfl) T.range (pa_cons pe_int pa_nil)) (pg_name (i := 4) sc_law.nd rfl (.inl rfl)) (pss_cons (ps_asg (pe_call G_l_rule (hr.mono (by omega)) (by rfl) T.l_rule.g T.l_rule.F.kp T.l_rule.b .nil pass0 (pa_cons (pv 1) (pa_cons pe_int pa_nil))) (pg_tup (by rfl) (pgs_cons (pg_name (i := 5) sc_law.nd rfl (.inl rfl)) (pgs_cons (pg_name (i := 6) sc_law.nd rfl (.inl rfl)) pgs_nil))))
      (pss_cons (ps_set (i := 7) sc_law.nd rfl (.inl rfl) (pe_call G_l_number (hr.mono (by omega)) (by rfl) T.l_number.g T.l_number.F.kp T.l_number.b .nil pass0 (pa_cons (pv 1) pa_nil)))
      (pss_cons (ps_set (i := 8) sc_law.nd rfl (.inl rfl) (pe_call G_l_run (hr.mono (by omega)) (by rfl) T.l_run.g T.l_run.F.kp T.l_run.b .nil pass0 (pa_cons (pv 3) (pa_cons (pv 7) (pa_cons (pe_call G_l_chooser (hr.mono (by omega)) (by rfl) T.l_chooser.g T.l_chooser.F.kp T.l_chooser.b .nil pass0 (pa_cons (pv 6) pa_nil)) pa_nil)))))
      (pss_one (ps_if (pt_cmpR op_ne (pe_callB (id := "repr") (call_reprT fr hu64) (by rfl) T.repr (by decide +kernel) (pa_cons (pe_call G_run_by (hr.mono (by omega)) (by rfl) T.run_by.g T.run_by.F.kp T.run_by.b .nil pass0 (pa_cons (pv 3) (pa_cons (pv 7) (pa_cons (pv 5) pa_nil)))) pa_nil)) (pe_callB (id := "repr") (call_reprT fr hu64) (by rfl) T.repr (by decide +kernel) (pa_cons (pv 8) pa_nil)) (nomark _)) (pss_one (ps_ret pe_bl)) pss_nil)))))))))))
      (pss_one (ps_ret pe_bl)))), ?_⟩
  have tb0 : TabS H Pt chQ := TabS.nil hP
  walk_at "go"
  intro a c H1 ha hc k1 D1
  have tb1 := tab_kp tb0 k1 (by simp)
  walk_at "go"
  refine ⟨for_range (lo := 0) (n := Int.toNat 5) (fun i σ H2 => Lp (∃ (w2 w3 w4 w5 w6 w7 w8 : Option V) (m : Int), σ = [some (.ref sa), some (.ref a), w2, w3, w4, w5, w6, w7, w8] ∧ 0 ≤ m ∧ m ≤ (i : Int) * 2000000 ∧ Deck H2 a c m ∧ TabS H2 Pt chQ)) ⟨_, _, _, _, _, _, _, 0, rfl, by omega, by omega, D1, tb1⟩ ?_ ?_⟩
  · rintro i σ H2 hi ⟨⟨w2, w3, w4, w5, w6, w7, w8, m, rfl, m0, mu, D2, tb2⟩⟩
    have hi5 : i < 5 := hi
    have hm : m ≤ 600000000 := by omega
    walk_at "go"
    intro nm L R H3 m3 hnm lr N3 ml3 mu3 D3 k3
    have tb3 := tab_kp tb2 k3 (tab_off tb2 D2)
    have hm3 : m3 ≤ 600000000 := by omega
    walk_at "go"
    intro v b H4 m4 t4 pr ml4 mu4 D4 k4
    have tb4 := tab_kp tb3 k4 (tab_off tb3 D3)
    have pro := pr.ok
    have prn := pr.nest
    have prw : Sm.wts b ≤ 100000 := Nat.le_trans pr.wt (by decide)
    have prp : Sm.pls b ≤ 1000000 := Nat.le_trans pr.pl (by decide)
    walk_at "go"
    refine ⟨for_range (lo := 0) (n := Int.toNat 5) (fun j σ H5 => Lp (∃ (w4 w5 w6 w7 w8 : Option V) (m5 : Int), σ = [some (.ref sa), some (.ref a), some (.int (0 + (i : Int))), some v, w4, w5, w6, w7, w8] ∧ m4 ≤ m5 ∧ m5 ≤ m4 + (j : Int) * 400 ∧ Deck H5 a c m5 ∧ TabS H5 Pt chQ ∧ Tr H5 (.tuple (Sm.ds b)) v)) ⟨_, _, _, _, _, m4, rfl, by omega, by omega, D4, tb4, t4⟩ ?_ ?_⟩
    · rintro j σ H5 hj ⟨⟨w4, w5, w6, w7, w8, m5, rfl, ml5, mu5, D5, tb5, t5⟩⟩
      have hj5 : j < 5 := hj
      have c2 : costU 2 = 140 := by decide
      have e2 : (2 : Int) = ((2 : Nat) : Int) := rfl
      have hm5 : m5 + costU 2 ≤ 700000000 := by omega
      walk_at "go"
      intro r r' tp H6 m6 p6 ml6 mu6 D6 k6
      have tb6 := tab_kp tb5 k6 (tab_off tb5 D5)
      have t6 := k6.tr t5
      obtain ⟨ra, tv, g1, g2, g3, g4, g5, g6, g7⟩ := p6
      have hm6 : m6 ≤ 600000000 := by omega
      walk_at "go"
      intro n H7 m7 n1 n2 ml7 mu7 D7 k7
      have tb7 := tab_kp tb6 k7 (tab_off tb6 D6)
      have t7 := k7.tr t6
      have g2 := g2.kp k7 (deck_nins D6)
      have g3 := k7.tr g3
      obtain ⟨ta, tvs, etv⟩ : ∃ ta tvs, tv = V.ref ta ∧ H7 ta = some (.tup tvs) := r'.d_ref g3
      obtain ⟨rfl, htv⟩ := etv
      walk_at "go"
      intro f L fv H9 iB lh efv tb9 k9
      have g3 := k9.tr g3
      have g2 := g2.kp k9 (tab_nins tb7)
      have t9 := k9.tr t7
      have D9 := D7.kpT tb7 k9
      refine ⟨r', g6, by omega, v, b, n, f, rfl, t9, ⟨L, fv, ta, iB, lh, efv, g3⟩, pro, prw, prp, prn, fun tr H10 r10 k10 => ?_⟩
      rw [runs_way g7] at r10
      have ro : ROk (Sm.runs (fun _ v p => r.go v p) noWay b 0 (cs0 n)) := runs_okD (fun k v p => r.go_01 v p) pr n1 n2
      have g2 := g2.kp0 k10
      have t10 := k10.tr t9
      have rv : RuleV (rcOf T) 5 H10 (.ref ra) (fun _ v p => r.go v p) := ⟨ra, r, rfl, g2, by omega, rfl⟩
      walk_at "go"
      intro ts H11 r11 k11
      have r1011 := k11.tr r10
      generalize Sm.runs (fun _ v p => r.go v p) noWay b 0 (cs0 n) = RR at ro r11 r1011
      have sR := res_shw ro
      walk_at "go"
      intro z2 hz2
      walk_at "go"
      intro z3 hz3
      cases hz2.trans hz3.symm
      refine ⟨rfl, _, rfl, ?_⟩
      have ez : (!decide (V.str z2 = V.str z2)) = false := by simp
      rw [ez]
      refine iteF ?_
      have kk := k10.trans k11
      exact ⟨_, _, _, _, _, m7, rfl, by omega, by rw [Int.natCast_add, Int.add_mul]; omega, D9.kp0 kk, tab_kp tb9 kk (by simp), k11.tr t10⟩
    · rintro σ H5 ⟨⟨w4, w5, w6, w7, w8, m5, rfl, ml5, mu5, D5, tb5, t5⟩⟩
      exact ⟨_, _, _, _, _, _, _, m5, rfl, by omega, by rw [Int.natCast_add, Int.add_mul]; omega, D5, tb5⟩
  · rintro σ H2 ⟨⟨w2, w3, w4, w5, w6, w7, w8, m, rfl, m0, mu, D2, tb2⟩⟩
    walk_at "go"
    exact q H2
end
end EH
namespace EH
open PySem L2 PyProof.Rows
theorem all_mk {P : Program} {w : World} {K : PySem.W.Frag} {h : Heap} {mg : Str → Option Value} {fa : Addr} (X : K.In h) (G : h.Ns mainGlobals mg) (hfa : mg "law" = some (.ref fa))
    {C_Course : Addr}
    {C_Rule : Addr}
    {C_Down : Addr}
    {C_Up : Addr}
    {C_Even : Addr}
    {C_Odd : Addr}
    {C_Zero : Addr}
    {C_Away : Addr}
    {C_Below : Addr}
    {C_Places : Addr}
    {C_Turned : Addr}
    {C_Joined : Addr}
    {f1 : Addr} {od1 an1 : Option Addr} {sl1 : Array (Option Value)} {oc1 kV1 dc1 pm1 cd1 ct1 : Value}
    {f2 : Addr} {od2 an2 : Option Addr} {sl2 : Array (Option Value)} {oc2 kV2 dc2 pm2 cd2 ct2 : Value}
    {f3 : Addr} {od3 an3 : Option Addr} {sl3 : Array (Option Value)} {oc3 kV3 dc3 pm3 cd3 ct3 : Value}
    {f4 : Addr} {od4 an4 : Option Addr} {sl4 : Array (Option Value)} {oc4 kV4 dc4 pm4 cd4 ct4 : Value}
    {f5 : Addr} {od5 an5 : Option Addr} {sl5 : Array (Option Value)} {oc5 kV5 dc5 pm5 cd5 ct5 : Value}
    {f6 : Addr} {od6 an6 : Option Addr} {sl6 : Array (Option Value)} {oc6 kV6 dc6 pm6 cd6 ct6 : Value}
    {f7 : Addr} {od7 an7 : Option Addr} {sl7 : Array (Option Value)} {oc7 kV7 dc7 pm7 cd7 ct7 : Value}
    {f8 : Addr} {od8 an8 : Option Addr} {sl8 : Array (Option Value)} {oc8 kV8 dc8 pm8 cd8 ct8 : Value}
    {f9 : Addr} {od9 an9 : Option Addr} {sl9 : Array (Option Value)} {oc9 kV9 dc9 pm9 cd9 ct9 : Value}
    {f10 : Addr} {od10 an10 : Option Addr} {sl10 : Array (Option Value)} {oc10 kV10 dc10 pm10 cd10 ct10 : Value}
    {f11 : Addr} {od11 an11 : Option Addr} {sl11 : Array (Option Value)} {oc11 kV11 dc11 pm11 cd11 ct11 : Value}
    {f12 : Addr} {od12 an12 : Option Addr} {sl12 : Array (Option Value)} {oc12 kV12 dc12 pm12 cd12 ct12 : Value}
    {f13 : Addr} {od13 an13 : Option Addr} {sl13 : Array (Option Value)} {oc13 kV13 dc13 pm13 cd13 ct13 : Value}
    {f14 : Addr} {od14 an14 : Option Addr} {sl14 : Array (Option Value)} {oc14 kV14 dc14 pm14 cd14 ct14 : Value}
    {f15 : Addr} {od15 an15 : Option Addr} {sl15 : Array (Option Value)} {oc15 kV15 dc15 pm15 cd15 ct15 : Value}
    {f16 : Addr} {od16 an16 : Option Addr} {sl16 : Array (Option Value)} {oc16 kV16 dc16 pm16 cd16 ct16 : Value}
    {f17 : Addr} {od17 an17 : Option Addr} {sl17 : Array (Option Value)} {oc17 kV17 dc17 pm17 cd17 ct17 : Value}
    {f18 : Addr} {od18 an18 : Option Addr} {sl18 : Array (Option Value)} {oc18 kV18 dc18 pm18 cd18 ct18 : Value}
    {f19 : Addr} {od19 an19 : Option Addr} {sl19 : Array (Option Value)} {oc19 kV19 dc19 pm19 cd19 ct19 : Value}
    {f20 : Addr} {od20 an20 : Option Addr} {sl20 : Array (Option Value)} {oc20 kV20 dc20 pm20 cd20 ct20 : Value}
    {f21 : Addr} {od21 an21 : Option Addr} {sl21 : Array (Option Value)} {oc21 kV21 dc21 pm21 cd21 ct21 : Value}
    {f22 : Addr} {od22 an22 : Option Addr} {sl22 : Array (Option Value)} {oc22 kV22 dc22 pm22 cd22 ct22 : Value}
    {f23 : Addr} {od23 an23 : Option Addr} {sl23 : Array (Option Value)} {oc23 kV23 dc23 pm23 cd23 ct23 : Value}
    {f24 : Addr} {od24 an24 : Option Addr} {sl24 : Array (Option Value)} {oc24 kV24 dc24 pm24 cd24 ct24 : Value}
    {f25 : Addr} {od25 an25 : Option Addr} {sl25 : Array (Option Value)} {oc25 kV25 dc25 pm25 cd25 ct25 : Value}
    {f26 : Addr} {od26 an26 : Option Addr} {sl26 : Array (Option Value)} {oc26 kV26 dc26 pm26 cd26 ct26 : Value}
    {f27 : Addr} {od27 an27 : Option Addr} {sl27 : Array (Option Value)} {oc27 kV27 dc27 pm27 cd27 ct27 : Value}
    {f28 : Addr} {od28 an28 : Option Addr} {sl28 : Array (Option Value)} {oc28 kV28 dc28 pm28 cd28 ct28 : Value}
    {f29 : Addr} {od29 an29 : Option Addr} {sl29 : Array (Option Value)} {oc29 kV29 dc29 pm29 cd29 ct29 : Value}
    {f30 : Addr} {od30 an30 : Option Addr} {sl30 : Array (Option Value)} {oc30 kV30 dc30 pm30 cd30 ct30 : Value}
    {f31 : Addr} {od31 an31 : Option Addr} {sl31 : Array (Option Value)} {oc31 kV31 dc31 pm31 cd31 ct31 : Value}
    {f32 : Addr} {od32 an32 : Option Addr} {sl32 : Array (Option Value)} {oc32 kV32 dc32 pm32 cd32 ct32 : Value}
    {f33 : Addr} {od33 an33 : Option Addr} {sl33 : Array (Option Value)} {oc33 kV33 dc33 pm33 cd33 ct33 : Value}
    {f34 : Addr} {od34 an34 : Option Addr} {sl34 : Array (Option Value)} {oc34 kV34 dc34 pm34 cd34 ct34 : Value}
    {f35 : Addr} {od35 an35 : Option Addr} {sl35 : Array (Option Value)} {oc35 kV35 dc35 pm35 cd35 ct35 : Value}
    {f36 : Addr} {od36 an36 : Option Addr} {sl36 : Array (Option Value)} {oc36 kV36 dc36 pm36 cd36 ct36 : Value}
    {f37 : Addr} {od37 an37 : Option Addr} {sl37 : Array (Option Value)} {oc37 kV37 dc37 pm37 cd37 ct37 : Value}
    {f38 : Addr} {od38 an38 : Option Addr} {sl38 : Array (Option Value)} {oc38 kV38 dc38 pm38 cd38 ct38 : Value}
    {f39 : Addr} {od39 an39 : Option Addr} {sl39 : Array (Option Value)} {oc39 kV39 dc39 pm39 cd39 ct39 : Value}
    {f40 : Addr} {od40 an40 : Option Addr} {sl40 : Array (Option Value)} {oc40 kV40 dc40 pm40 cd40 ct40 : Value}
    {f41 : Addr} {od41 an41 : Option Addr} {sl41 : Array (Option Value)} {oc41 kV41 dc41 pm41 cd41 ct41 : Value}
    {f42 : Addr} {od42 an42 : Option Addr} {sl42 : Array (Option Value)} {oc42 kV42 dc42 pm42 cd42 ct42 : Value}
    {f43 : Addr} {od43 an43 : Option Addr} {sl43 : Array (Option Value)} {oc43 kV43 dc43 pm43 cd43 ct43 : Value}
    {f44 : Addr} {od44 an44 : Option Addr} {sl44 : Array (Option Value)} {oc44 kV44 dc44 pm44 cd44 ct44 : Value}
    {f45 : Addr} {od45 an45 : Option Addr} {sl45 : Array (Option Value)} {oc45 kV45 dc45 pm45 cd45 ct45 : Value}
    {f46 : Addr} {od46 an46 : Option Addr} {sl46 : Array (Option Value)} {oc46 kV46 dc46 pm46 cd46 ct46 : Value}
    {f47 : Addr} {od47 an47 : Option Addr} {sl47 : Array (Option Value)} {oc47 kV47 dc47 pm47 cd47 ct47 : Value}
    {f48 : Addr} {od48 an48 : Option Addr} {sl48 : Array (Option Value)} {oc48 kV48 dc48 pm48 cd48 ct48 : Value}
    {f49 : Addr} {od49 an49 : Option Addr} {sl49 : Array (Option Value)} {oc49 kV49 dc49 pm49 cd49 ct49 : Value}
    {f50 : Addr} {od50 an50 : Option Addr} {sl50 : Array (Option Value)} {oc50 kV50 dc50 pm50 cd50 ct50 : Value}
    {f51 : Addr} {od51 an51 : Option Addr} {sl51 : Array (Option Value)} {oc51 kV51 dc51 pm51 cd51 ct51 : Value}
    {f52 : Addr} {od52 an52 : Option Addr} {sl52 : Array (Option Value)} {oc52 kV52 dc52 pm52 cd52 ct52 : Value}
    {f53 : Addr} {od53 an53 : Option Addr} {sl53 : Array (Option Value)} {oc53 kV53 dc53 pm53 cd53 ct53 : Value}
    {f54 : Addr} {od54 an54 : Option Addr} {sl54 : Array (Option Value)} {oc54 kV54 dc54 pm54 cd54 ct54 : Value}
    {f55 : Addr} {od55 an55 : Option Addr} {sl55 : Array (Option Value)} {oc55 kV55 dc55 pm55 cd55 ct55 : Value}
    {f56 : Addr} {od56 an56 : Option Addr} {sl56 : Array (Option Value)} {oc56 kV56 dc56 pm56 cd56 ct56 : Value}
    {f57 : Addr} {od57 an57 : Option Addr} {sl57 : Array (Option Value)} {oc57 kV57 dc57 pm57 cd57 ct57 : Value}
    {f58 : Addr} {od58 an58 : Option Addr} {sl58 : Array (Option Value)} {oc58 kV58 dc58 pm58 cd58 ct58 : Value}
    {f59 : Addr} {od59 an59 : Option Addr} {sl59 : Array (Option Value)} {oc59 kV59 dc59 pm59 cd59 ct59 : Value}
    {f60 : Addr} {od60 an60 : Option Addr} {sl60 : Array (Option Value)} {oc60 kV60 dc60 pm60 ct60 : Value} {cc Pt : Addr} {cod : Option Addr} {coc : Value} {csl : Array (Option Value)} {cvs : Array Value}
    {f61 : Addr} {od61 an61 : Option Addr} {sl61 : Array (Option Value)} {oc61 kV61 dc61 pm61 cd61 ct61 : Value}
    {ocd_Rule : ClassData} {ors_Rule : List Value}
    {ocd_Down : ClassData} {ors_Down : List Value}
    {ocd_Up : ClassData} {ors_Up : List Value}
    {ocd_Even : ClassData} {ors_Even : List Value}
    {ocd_Odd : ClassData} {ors_Odd : List Value}
    {ocd_Zero : ClassData} {ors_Zero : List Value}
    {ocd_Away : ClassData} {ors_Away : List Value}
    {ocd_Below : ClassData} {ors_Below : List Value}
    {ocd_Places : ClassData} {ors_Places : List Value}
    {ocd_Turned : ClassData} {ors_Turned : List Value}
    {ocd_Joined : ClassData} {ors_Joined : List Value}
    {t_DOWN : Tok}
    {t_INPUT : Tok}
    (aC_Course : PySem.W.nsIn K mainGlobals "Course" = some (some (.ref C_Course)))
    (pg_Course : PySem.W.plainGet K C_Course Str.empty = true)
    (hd_Course : PySem.W.hasDictIn K C_Course = true)
    (po_Course : PySem.W.plainOver K C_Course = true)
    (sa_Course : PySem.W.findIn K (.ref C_Course) "__setattr__" = some (some (.builtin "object.__setattr__")))
    (mk_Course : PySem.W.makesIn K C_Course = true)
    (kc_Course : PySem.W.keepIn K (.ref C_Course) = true)
    (aC_Rule : PySem.W.nsIn K mainGlobals "Rule" = some (some (.ref C_Rule)))
    (pg_Rule : PySem.W.plainGet K C_Rule Str.empty = true)
    (hd_Rule : PySem.W.hasDictIn K C_Rule = true)
    (po_Rule : PySem.W.plainOver K C_Rule = true)
    (sa_Rule : PySem.W.findIn K (.ref C_Rule) "__setattr__" = some (some (.builtin "object.__setattr__")))
    (mk_Rule : PySem.W.makesIn K C_Rule = true)
    (kc_Rule : PySem.W.keepIn K (.ref C_Rule) = true)
    (i0_Rule : PySem.W.findIn K (.ref C_Rule) "__init__" = some (some (.builtin "object.__init__")))
    (aC_Down : PySem.W.nsIn K mainGlobals "Down" = some (some (.ref C_Down)))
    (pg_Down : PySem.W.plainGet K C_Down Str.empty = true)
    (hd_Down : PySem.W.hasDictIn K C_Down = true)
    (po_Down : PySem.W.plainOver K C_Down = true)
    (sa_Down : PySem.W.findIn K (.ref C_Down) "__setattr__" = some (some (.builtin "object.__setattr__")))
    (mk_Down : PySem.W.makesIn K C_Down = true)
    (kc_Down : PySem.W.keepIn K (.ref C_Down) = true)
    (i0_Down : PySem.W.findIn K (.ref C_Down) "__init__" = some (some (.builtin "object.__init__")))
    (aC_Up : PySem.W.nsIn K mainGlobals "Up" = some (some (.ref C_Up)))
    (pg_Up : PySem.W.plainGet K C_Up Str.empty = true)
    (hd_Up : PySem.W.hasDictIn K C_Up = true)
    (po_Up : PySem.W.plainOver K C_Up = true)
    (sa_Up : PySem.W.findIn K (.ref C_Up) "__setattr__" = some (some (.builtin "object.__setattr__")))
    (mk_Up : PySem.W.makesIn K C_Up = true)
    (kc_Up : PySem.W.keepIn K (.ref C_Up) = true)
    (i0_Up : PySem.W.findIn K (.ref C_Up) "__init__" = some (some (.builtin "object.__init__")))
    (aC_Even : PySem.W.nsIn K mainGlobals "Even" = some (some (.ref C_Even)))
    (pg_Even : PySem.W.plainGet K C_Even Str.empty = true)
    (hd_Even : PySem.W.hasDictIn K C_Even = true)
    (po_Even : PySem.W.plainOver K C_Even = true)
    (sa_Even : PySem.W.findIn K (.ref C_Even) "__setattr__" = some (some (.builtin "object.__setattr__")))
    (mk_Even : PySem.W.makesIn K C_Even = true)
    (kc_Even : PySem.W.keepIn K (.ref C_Even) = true)
    (i0_Even : PySem.W.findIn K (.ref C_Even) "__init__" = some (some (.builtin "object.__init__")))
    (aC_Odd : PySem.W.nsIn K mainGlobals "Odd" = some (some (.ref C_Odd)))
    (pg_Odd : PySem.W.plainGet K C_Odd Str.empty = true)
    (hd_Odd : PySem.W.hasDictIn K C_Odd = true)
    (po_Odd : PySem.W.plainOver K C_Odd = true)
    (sa_Odd : PySem.W.findIn K (.ref C_Odd) "__setattr__" = some (some (.builtin "object.__setattr__")))
    (mk_Odd : PySem.W.makesIn K C_Odd = true)
    (kc_Odd : PySem.W.keepIn K (.ref C_Odd) = true)
    (i0_Odd : PySem.W.findIn K (.ref C_Odd) "__init__" = some (some (.builtin "object.__init__")))
    (aC_Zero : PySem.W.nsIn K mainGlobals "Zero" = some (some (.ref C_Zero)))
    (pg_Zero : PySem.W.plainGet K C_Zero Str.empty = true)
    (hd_Zero : PySem.W.hasDictIn K C_Zero = true)
    (po_Zero : PySem.W.plainOver K C_Zero = true)
    (sa_Zero : PySem.W.findIn K (.ref C_Zero) "__setattr__" = some (some (.builtin "object.__setattr__")))
    (mk_Zero : PySem.W.makesIn K C_Zero = true)
    (kc_Zero : PySem.W.keepIn K (.ref C_Zero) = true)
    (i0_Zero : PySem.W.findIn K (.ref C_Zero) "__init__" = some (some (.builtin "object.__init__")))
    (aC_Away : PySem.W.nsIn K mainGlobals "Away" = some (some (.ref C_Away)))
    (pg_Away : PySem.W.plainGet K C_Away Str.empty = true)
    (hd_Away : PySem.W.hasDictIn K C_Away = true)
    (po_Away : PySem.W.plainOver K C_Away = true)
    (sa_Away : PySem.W.findIn K (.ref C_Away) "__setattr__" = some (some (.builtin "object.__setattr__")))
    (mk_Away : PySem.W.makesIn K C_Away = true)
    (kc_Away : PySem.W.keepIn K (.ref C_Away) = true)
    (i0_Away : PySem.W.findIn K (.ref C_Away) "__init__" = some (some (.builtin "object.__init__")))
    (aC_Below : PySem.W.nsIn K mainGlobals "Below" = some (some (.ref C_Below)))
    (pg_Below : PySem.W.plainGet K C_Below Str.empty = true)
    (hd_Below : PySem.W.hasDictIn K C_Below = true)
    (po_Below : PySem.W.plainOver K C_Below = true)
    (sa_Below : PySem.W.findIn K (.ref C_Below) "__setattr__" = some (some (.builtin "object.__setattr__")))
    (mk_Below : PySem.W.makesIn K C_Below = true)
    (kc_Below : PySem.W.keepIn K (.ref C_Below) = true)
    (aC_Places : PySem.W.nsIn K mainGlobals "Places" = some (some (.ref C_Places)))
    (pg_Places : PySem.W.plainGet K C_Places Str.empty = true)
    (hd_Places : PySem.W.hasDictIn K C_Places = true)
    (po_Places : PySem.W.plainOver K C_Places = true)
    (sa_Places : PySem.W.findIn K (.ref C_Places) "__setattr__" = some (some (.builtin "object.__setattr__")))
    (mk_Places : PySem.W.makesIn K C_Places = true)
    (kc_Places : PySem.W.keepIn K (.ref C_Places) = true)
    (aC_Turned : PySem.W.nsIn K mainGlobals "Turned" = some (some (.ref C_Turned)))
    (pg_Turned : PySem.W.plainGet K C_Turned Str.empty = true)
    (hd_Turned : PySem.W.hasDictIn K C_Turned = true)
    (po_Turned : PySem.W.plainOver K C_Turned = true)
    (sa_Turned : PySem.W.findIn K (.ref C_Turned) "__setattr__" = some (some (.builtin "object.__setattr__")))
    (mk_Turned : PySem.W.makesIn K C_Turned = true)
    (kc_Turned : PySem.W.keepIn K (.ref C_Turned) = true)
    (aC_Joined : PySem.W.nsIn K mainGlobals "Joined" = some (some (.ref C_Joined)))
    (pg_Joined : PySem.W.plainGet K C_Joined Str.empty = true)
    (hd_Joined : PySem.W.hasDictIn K C_Joined = true)
    (po_Joined : PySem.W.plainOver K C_Joined = true)
    (sa_Joined : PySem.W.findIn K (.ref C_Joined) "__setattr__" = some (some (.builtin "object.__setattr__")))
    (mk_Joined : PySem.W.makesIn K C_Joined = true)
    (kc_Joined : PySem.W.keepIn K (.ref C_Joined) = true)
    (a1 : PySem.W.nsIn K mainGlobals "blocks_of" = some (some (.ref f1)))
    (l1 : K.lookup f1 = some ⟨oc1, od1, .func (PySem.W.fnOf "blocks_of" "blocks_of" (defArgs s_blocks_of) (defBody s_blocks_of) (defScope s_blocks_of) .none kV1 dc1 pm1 an1 cd1 ct1), sl1⟩)
    (c1 : PySem.W.codeIn K cd1 "blocks_of" = true)
    (k1 : PySem.W.keepIn K (.ref f1) = true)
    (a2 : PySem.W.nsIn K mainGlobals "places_in" = some (some (.ref f2)))
    (l2 : K.lookup f2 = some ⟨oc2, od2, .func (PySem.W.fnOf "places_in" "places_in" (defArgs s_places_in) (defBody s_places_in) (defScope s_places_in) .none kV2 dc2 pm2 an2 cd2 ct2), sl2⟩)
    (c2 : PySem.W.codeIn K cd2 "places_in" = true)
    (k2 : PySem.W.keepIn K (.ref f2) = true)
    (a3 : PySem.W.nsIn K mainGlobals "value_of" = some (some (.ref f3)))
    (l3 : K.lookup f3 = some ⟨oc3, od3, .func (PySem.W.fnOf "value_of" "value_of" (defArgs s_value_of) (defBody s_value_of) (defScope s_value_of) .none kV3 dc3 pm3 an3 cd3 ct3), sl3⟩)
    (c3 : PySem.W.codeIn K cd3 "value_of" = true)
    (k3 : PySem.W.keepIn K (.ref f3) = true)
    (a4 : PySem.W.nsIn K mainGlobals "is_true" = some (some (.ref f4)))
    (l4 : K.lookup f4 = some ⟨oc4, od4, .func (PySem.W.fnOf "is_true" "is_true" (defArgs s_is_true) (defBody s_is_true) (defScope s_is_true) .none kV4 dc4 pm4 an4 cd4 ct4), sl4⟩)
    (c4 : PySem.W.codeIn K cd4 "is_true" = true)
    (k4 : PySem.W.keepIn K (.ref f4) = true)
    (a5 : PySem.W.findIn K (.ref C_Course) "__init__" = some (some (.ref f5)))
    (i5 : PySem.W.isFn K (.ref f5) = true)
    (l5 : K.lookup f5 = some ⟨oc5, od5, .func (PySem.W.fnOf "__init__" "Course.__init__" (defArgs s_Course_init) (defBody s_Course_init) (defScope s_Course_init) .none kV5 dc5 pm5 an5 cd5 ct5), sl5⟩)
    (c5 : PySem.W.codeIn K cd5 "Course.__init__" = true)
    (k5 : PySem.W.keepIn K (.ref f5) = true)
    (a6 : PySem.W.findIn K (.ref C_Course) "choice" = some (some (.ref f6)))
    (i6 : PySem.W.isFn K (.ref f6) = true)
    (l6 : K.lookup f6 = some ⟨oc6, od6, .func (PySem.W.fnOf "choice" "Course.choice" (defArgs s_Course_choice) (defBody s_Course_choice) (defScope s_Course_choice) .none kV6 dc6 pm6 an6 cd6 ct6), sl6⟩)
    (c6 : PySem.W.codeIn K cd6 "Course.choice" = true)
    (k6 : PySem.W.keepIn K (.ref f6) = true)
    (a7 : PySem.W.findIn K (.ref C_Course) "halved" = some (some (.ref f7)))
    (i7 : PySem.W.isFn K (.ref f7) = true)
    (l7 : K.lookup f7 = some ⟨oc7, od7, .func (PySem.W.fnOf "halved" "Course.halved" (defArgs s_Course_halved) (defBody s_Course_halved) (defScope s_Course_halved) .none kV7 dc7 pm7 an7 cd7 ct7), sl7⟩)
    (c7 : PySem.W.codeIn K cd7 "Course.halved" = true)
    (k7 : PySem.W.keepIn K (.ref f7) = true)
    (a8 : PySem.W.findIn K (.ref C_Course) "do" = some (some (.ref f8)))
    (i8 : PySem.W.isFn K (.ref f8) = true)
    (l8 : K.lookup f8 = some ⟨oc8, od8, .func (PySem.W.fnOf "do" "Course.do" (defArgs s_Course_do) (defBody s_Course_do) (defScope s_Course_do) .none kV8 dc8 pm8 an8 cd8 ct8), sl8⟩)
    (c8 : PySem.W.codeIn K cd8 "Course.do" = true)
    (k8 : PySem.W.keepIn K (.ref f8) = true)
    (a9 : PySem.W.findIn K (.ref C_Course) "parts" = some (some (.ref f9)))
    (i9 : PySem.W.isFn K (.ref f9) = true)
    (l9 : K.lookup f9 = some ⟨oc9, od9, .func (PySem.W.fnOf "parts" "Course.parts" (defArgs s_Course_parts) (defBody s_Course_parts) (defScope s_Course_parts) .none kV9 dc9 pm9 an9 cd9 ct9), sl9⟩)
    (c9 : PySem.W.codeIn K cd9 "Course.parts" = true)
    (k9 : PySem.W.keepIn K (.ref f9) = true)
    (a10 : PySem.W.findIn K (.ref C_Course) "go" = some (some (.ref f10)))
    (i10 : PySem.W.isFn K (.ref f10) = true)
    (l10 : K.lookup f10 = some ⟨oc10, od10, .func (PySem.W.fnOf "go" "Course.go" (defArgs s_Course_go) (defBody s_Course_go) (defScope s_Course_go) .none kV10 dc10 pm10 an10 cd10 ct10), sl10⟩)
    (c10 : PySem.W.codeIn K cd10 "Course.go" = true)
    (k10 : PySem.W.keepIn K (.ref f10) = true)
    (a11 : PySem.W.nsIn K mainGlobals "course_of" = some (some (.ref f11)))
    (l11 : K.lookup f11 = some ⟨oc11, od11, .func (PySem.W.fnOf "course_of" "course_of" (defArgs s_course_of) (defBody s_course_of) (defScope s_course_of) .none kV11 dc11 pm11 an11 cd11 ct11), sl11⟩)
    (c11 : PySem.W.codeIn K cd11 "course_of" = true)
    (k11 : PySem.W.keepIn K (.ref f11) = true)
    (a12 : PySem.W.findIn K (.ref C_Rule) "__call__" = some (some (.ref f12)))
    (i12 : PySem.W.isFn K (.ref f12) = true)
    (l12 : K.lookup f12 = some ⟨oc12, od12, .func (PySem.W.fnOf "__call__" "Rule.__call__" (defArgs s_Rule_call) (defBody s_Rule_call) (defScope s_Rule_call) .none kV12 dc12 pm12 an12 cd12 ct12), sl12⟩)
    (c12 : PySem.W.codeIn K cd12 "Rule.__call__" = true)
    (k12 : PySem.W.keepIn K (.ref f12) = true)
    (a13 : PySem.W.findIn K (.ref C_Rule) "__invert__" = some (some (.ref f13)))
    (i13 : PySem.W.isFn K (.ref f13) = true)
    (l13 : K.lookup f13 = some ⟨oc13, od13, .func (PySem.W.fnOf "__invert__" "Rule.__invert__" (defArgs s_Rule_invert) (defBody s_Rule_invert) (defScope s_Rule_invert) .none kV13 dc13 pm13 an13 cd13 ct13), sl13⟩)
    (c13 : PySem.W.codeIn K cd13 "Rule.__invert__" = true)
    (k13 : PySem.W.keepIn K (.ref f13) = true)
    (a14 : PySem.W.findIn K (.ref C_Rule) "__and__" = some (some (.ref f14)))
    (i14 : PySem.W.isFn K (.ref f14) = true)
    (l14 : K.lookup f14 = some ⟨oc14, od14, .func (PySem.W.fnOf "__and__" "Rule.__and__" (defArgs s_Rule_and) (defBody s_Rule_and) (defScope s_Rule_and) .none kV14 dc14 pm14 an14 cd14 ct14), sl14⟩)
    (c14 : PySem.W.codeIn K cd14 "Rule.__and__" = true)
    (k14 : PySem.W.keepIn K (.ref f14) = true)
    (a15 : PySem.W.findIn K (.ref C_Rule) "__or__" = some (some (.ref f15)))
    (i15 : PySem.W.isFn K (.ref f15) = true)
    (l15 : K.lookup f15 = some ⟨oc15, od15, .func (PySem.W.fnOf "__or__" "Rule.__or__" (defArgs s_Rule_or) (defBody s_Rule_or) (defScope s_Rule_or) .none kV15 dc15 pm15 an15 cd15 ct15), sl15⟩)
    (c15 : PySem.W.codeIn K cd15 "Rule.__or__" = true)
    (k15 : PySem.W.keepIn K (.ref f15) = true)
    (a16 : PySem.W.findIn K (.ref C_Rule) "__xor__" = some (some (.ref f16)))
    (i16 : PySem.W.isFn K (.ref f16) = true)
    (l16 : K.lookup f16 = some ⟨oc16, od16, .func (PySem.W.fnOf "__xor__" "Rule.__xor__" (defArgs s_Rule_xor) (defBody s_Rule_xor) (defScope s_Rule_xor) .none kV16 dc16 pm16 an16 cd16 ct16), sl16⟩)
    (c16 : PySem.W.codeIn K cd16 "Rule.__xor__" = true)
    (k16 : PySem.W.keepIn K (.ref f16) = true)
    (a17 : PySem.W.findIn K (.ref C_Rule) "marks" = some (some (.ref f17)))
    (i17 : PySem.W.isFn K (.ref f17) = true)
    (l17 : K.lookup f17 = some ⟨oc17, od17, .func (PySem.W.fnOf "marks" "Rule.marks" (defArgs s_Rule_marks) (defBody s_Rule_marks) (defScope s_Rule_marks) .none kV17 dc17 pm17 an17 cd17 ct17), sl17⟩)
    (c17 : PySem.W.codeIn K cd17 "Rule.marks" = true)
    (k17 : PySem.W.keepIn K (.ref f17) = true)
    (a18 : PySem.W.findIn K (.ref C_Down) "__call__" = some (some (.ref f18)))
    (i18 : PySem.W.isFn K (.ref f18) = true)
    (l18 : K.lookup f18 = some ⟨oc18, od18, .func (PySem.W.fnOf "__call__" "Down.__call__" (defArgs s_Down_call) (defBody s_Down_call) (defScope s_Down_call) .none kV18 dc18 pm18 an18 cd18 ct18), sl18⟩)
    (c18 : PySem.W.codeIn K cd18 "Down.__call__" = true)
    (k18 : PySem.W.keepIn K (.ref f18) = true)
    (a19 : PySem.W.findIn K (.ref C_Up) "__call__" = some (some (.ref f19)))
    (i19 : PySem.W.isFn K (.ref f19) = true)
    (l19 : K.lookup f19 = some ⟨oc19, od19, .func (PySem.W.fnOf "__call__" "Up.__call__" (defArgs s_Up_call) (defBody s_Up_call) (defScope s_Up_call) .none kV19 dc19 pm19 an19 cd19 ct19), sl19⟩)
    (c19 : PySem.W.codeIn K cd19 "Up.__call__" = true)
    (k19 : PySem.W.keepIn K (.ref f19) = true)
    (a20 : PySem.W.findIn K (.ref C_Even) "__call__" = some (some (.ref f20)))
    (i20 : PySem.W.isFn K (.ref f20) = true)
    (l20 : K.lookup f20 = some ⟨oc20, od20, .func (PySem.W.fnOf "__call__" "Even.__call__" (defArgs s_Even_call) (defBody s_Even_call) (defScope s_Even_call) .none kV20 dc20 pm20 an20 cd20 ct20), sl20⟩)
    (c20 : PySem.W.codeIn K cd20 "Even.__call__" = true)
    (k20 : PySem.W.keepIn K (.ref f20) = true)
    (a21 : PySem.W.findIn K (.ref C_Even) "marks" = some (some (.ref f21)))
    (i21 : PySem.W.isFn K (.ref f21) = true)
    (l21 : K.lookup f21 = some ⟨oc21, od21, .func (PySem.W.fnOf "marks" "Even.marks" (defArgs s_Even_marks) (defBody s_Even_marks) (defScope s_Even_marks) .none kV21 dc21 pm21 an21 cd21 ct21), sl21⟩)
    (c21 : PySem.W.codeIn K cd21 "Even.marks" = true)
    (k21 : PySem.W.keepIn K (.ref f21) = true)
    (a22 : PySem.W.findIn K (.ref C_Odd) "__call__" = some (some (.ref f22)))
    (i22 : PySem.W.isFn K (.ref f22) = true)
    (l22 : K.lookup f22 = some ⟨oc22, od22, .func (PySem.W.fnOf "__call__" "Odd.__call__" (defArgs s_Odd_call) (defBody s_Odd_call) (defScope s_Odd_call) .none kV22 dc22 pm22 an22 cd22 ct22), sl22⟩)
    (c22 : PySem.W.codeIn K cd22 "Odd.__call__" = true)
    (k22 : PySem.W.keepIn K (.ref f22) = true)
    (a23 : PySem.W.findIn K (.ref C_Odd) "marks" = some (some (.ref f23)))
    (i23 : PySem.W.isFn K (.ref f23) = true)
    (l23 : K.lookup f23 = some ⟨oc23, od23, .func (PySem.W.fnOf "marks" "Odd.marks" (defArgs s_Odd_marks) (defBody s_Odd_marks) (defScope s_Odd_marks) .none kV23 dc23 pm23 an23 cd23 ct23), sl23⟩)
    (c23 : PySem.W.codeIn K cd23 "Odd.marks" = true)
    (k23 : PySem.W.keepIn K (.ref f23) = true)
    (a24 : PySem.W.findIn K (.ref C_Zero) "__call__" = some (some (.ref f24)))
    (i24 : PySem.W.isFn K (.ref f24) = true)
    (l24 : K.lookup f24 = some ⟨oc24, od24, .func (PySem.W.fnOf "__call__" "Zero.__call__" (defArgs s_Zero_call) (defBody s_Zero_call) (defScope s_Zero_call) .none kV24 dc24 pm24 an24 cd24 ct24), sl24⟩)
    (c24 : PySem.W.codeIn K cd24 "Zero.__call__" = true)
    (k24 : PySem.W.keepIn K (.ref f24) = true)
    (a25 : PySem.W.findIn K (.ref C_Zero) "marks" = some (some (.ref f25)))
    (i25 : PySem.W.isFn K (.ref f25) = true)
    (l25 : K.lookup f25 = some ⟨oc25, od25, .func (PySem.W.fnOf "marks" "Zero.marks" (defArgs s_Zero_marks) (defBody s_Zero_marks) (defScope s_Zero_marks) .none kV25 dc25 pm25 an25 cd25 ct25), sl25⟩)
    (c25 : PySem.W.codeIn K cd25 "Zero.marks" = true)
    (k25 : PySem.W.keepIn K (.ref f25) = true)
    (a26 : PySem.W.findIn K (.ref C_Away) "__call__" = some (some (.ref f26)))
    (i26 : PySem.W.isFn K (.ref f26) = true)
    (l26 : K.lookup f26 = some ⟨oc26, od26, .func (PySem.W.fnOf "__call__" "Away.__call__" (defArgs s_Away_call) (defBody s_Away_call) (defScope s_Away_call) .none kV26 dc26 pm26 an26 cd26 ct26), sl26⟩)
    (c26 : PySem.W.codeIn K cd26 "Away.__call__" = true)
    (k26 : PySem.W.keepIn K (.ref f26) = true)
    (a27 : PySem.W.findIn K (.ref C_Away) "marks" = some (some (.ref f27)))
    (i27 : PySem.W.isFn K (.ref f27) = true)
    (l27 : K.lookup f27 = some ⟨oc27, od27, .func (PySem.W.fnOf "marks" "Away.marks" (defArgs s_Away_marks) (defBody s_Away_marks) (defScope s_Away_marks) .none kV27 dc27 pm27 an27 cd27 ct27), sl27⟩)
    (c27 : PySem.W.codeIn K cd27 "Away.marks" = true)
    (k27 : PySem.W.keepIn K (.ref f27) = true)
    (a28 : PySem.W.findIn K (.ref C_Below) "__init__" = some (some (.ref f28)))
    (i28 : PySem.W.isFn K (.ref f28) = true)
    (l28 : K.lookup f28 = some ⟨oc28, od28, .func (PySem.W.fnOf "__init__" "Below.__init__" (defArgs s_Below_init) (defBody s_Below_init) (defScope s_Below_init) .none kV28 dc28 pm28 an28 cd28 ct28), sl28⟩)
    (c28 : PySem.W.codeIn K cd28 "Below.__init__" = true)
    (k28 : PySem.W.keepIn K (.ref f28) = true)
    (a29 : PySem.W.findIn K (.ref C_Below) "__call__" = some (some (.ref f29)))
    (i29 : PySem.W.isFn K (.ref f29) = true)
    (l29 : K.lookup f29 = some ⟨oc29, od29, .func (PySem.W.fnOf "__call__" "Below.__call__" (defArgs s_Below_call) (defBody s_Below_call) (defScope s_Below_call) .none kV29 dc29 pm29 an29 cd29 ct29), sl29⟩)
    (c29 : PySem.W.codeIn K cd29 "Below.__call__" = true)
    (k29 : PySem.W.keepIn K (.ref f29) = true)
    (a30 : PySem.W.findIn K (.ref C_Below) "marks" = some (some (.ref f30)))
    (i30 : PySem.W.isFn K (.ref f30) = true)
    (l30 : K.lookup f30 = some ⟨oc30, od30, .func (PySem.W.fnOf "marks" "Below.marks" (defArgs s_Below_marks) (defBody s_Below_marks) (defScope s_Below_marks) .none kV30 dc30 pm30 an30 cd30 ct30), sl30⟩)
    (c30 : PySem.W.codeIn K cd30 "Below.marks" = true)
    (k30 : PySem.W.keepIn K (.ref f30) = true)
    (a31 : PySem.W.findIn K (.ref C_Places) "__init__" = some (some (.ref f31)))
    (i31 : PySem.W.isFn K (.ref f31) = true)
    (l31 : K.lookup f31 = some ⟨oc31, od31, .func (PySem.W.fnOf "__init__" "Places.__init__" (defArgs s_Places_init) (defBody s_Places_init) (defScope s_Places_init) .none kV31 dc31 pm31 an31 cd31 ct31), sl31⟩)
    (c31 : PySem.W.codeIn K cd31 "Places.__init__" = true)
    (k31 : PySem.W.keepIn K (.ref f31) = true)
    (a32 : PySem.W.findIn K (.ref C_Places) "__call__" = some (some (.ref f32)))
    (i32 : PySem.W.isFn K (.ref f32) = true)
    (l32 : K.lookup f32 = some ⟨oc32, od32, .func (PySem.W.fnOf "__call__" "Places.__call__" (defArgs s_Places_call) (defBody s_Places_call) (defScope s_Places_call) .none kV32 dc32 pm32 an32 cd32 ct32), sl32⟩)
    (c32 : PySem.W.codeIn K cd32 "Places.__call__" = true)
    (k32 : PySem.W.keepIn K (.ref f32) = true)
    (a33 : PySem.W.findIn K (.ref C_Turned) "__init__" = some (some (.ref f33)))
    (i33 : PySem.W.isFn K (.ref f33) = true)
    (l33 : K.lookup f33 = some ⟨oc33, od33, .func (PySem.W.fnOf "__init__" "Turned.__init__" (defArgs s_Turned_init) (defBody s_Turned_init) (defScope s_Turned_init) .none kV33 dc33 pm33 an33 cd33 ct33), sl33⟩)
    (c33 : PySem.W.codeIn K cd33 "Turned.__init__" = true)
    (k33 : PySem.W.keepIn K (.ref f33) = true)
    (a34 : PySem.W.findIn K (.ref C_Turned) "__call__" = some (some (.ref f34)))
    (i34 : PySem.W.isFn K (.ref f34) = true)
    (l34 : K.lookup f34 = some ⟨oc34, od34, .func (PySem.W.fnOf "__call__" "Turned.__call__" (defArgs s_Turned_call) (defBody s_Turned_call) (defScope s_Turned_call) .none kV34 dc34 pm34 an34 cd34 ct34), sl34⟩)
    (c34 : PySem.W.codeIn K cd34 "Turned.__call__" = true)
    (k34 : PySem.W.keepIn K (.ref f34) = true)
    (a35 : PySem.W.findIn K (.ref C_Turned) "marks" = some (some (.ref f35)))
    (i35 : PySem.W.isFn K (.ref f35) = true)
    (l35 : K.lookup f35 = some ⟨oc35, od35, .func (PySem.W.fnOf "marks" "Turned.marks" (defArgs s_Turned_marks) (defBody s_Turned_marks) (defScope s_Turned_marks) .none kV35 dc35 pm35 an35 cd35 ct35), sl35⟩)
    (c35 : PySem.W.codeIn K cd35 "Turned.marks" = true)
    (k35 : PySem.W.keepIn K (.ref f35) = true)
    (a36 : PySem.W.findIn K (.ref C_Joined) "__init__" = some (some (.ref f36)))
    (i36 : PySem.W.isFn K (.ref f36) = true)
    (l36 : K.lookup f36 = some ⟨oc36, od36, .func (PySem.W.fnOf "__init__" "Joined.__init__" (defArgs s_Joined_init) (defBody s_Joined_init) (defScope s_Joined_init) .none kV36 dc36 pm36 an36 cd36 ct36), sl36⟩)
    (c36 : PySem.W.codeIn K cd36 "Joined.__init__" = true)
    (k36 : PySem.W.keepIn K (.ref f36) = true)
    (a37 : PySem.W.findIn K (.ref C_Joined) "__call__" = some (some (.ref f37)))
    (i37 : PySem.W.isFn K (.ref f37) = true)
    (l37 : K.lookup f37 = some ⟨oc37, od37, .func (PySem.W.fnOf "__call__" "Joined.__call__" (defArgs s_Joined_call) (defBody s_Joined_call) (defScope s_Joined_call) .none kV37 dc37 pm37 an37 cd37 ct37), sl37⟩)
    (c37 : PySem.W.codeIn K cd37 "Joined.__call__" = true)
    (k37 : PySem.W.keepIn K (.ref f37) = true)
    (a38 : PySem.W.findIn K (.ref C_Joined) "marks" = some (some (.ref f38)))
    (i38 : PySem.W.isFn K (.ref f38) = true)
    (l38 : K.lookup f38 = some ⟨oc38, od38, .func (PySem.W.fnOf "marks" "Joined.marks" (defArgs s_Joined_marks) (defBody s_Joined_marks) (defScope s_Joined_marks) .none kV38 dc38 pm38 an38 cd38 ct38), sl38⟩)
    (c38 : PySem.W.codeIn K cd38 "Joined.marks" = true)
    (k38 : PySem.W.keepIn K (.ref f38) = true)
    (a39 : PySem.W.nsIn K mainGlobals "run_by" = some (some (.ref f39)))
    (l39 : K.lookup f39 = some ⟨oc39, od39, .func (PySem.W.fnOf "run_by" "run_by" (defArgs s_run_by) (defBody s_run_by) (defScope s_run_by) .none kV39 dc39 pm39 an39 cd39 ct39), sl39⟩)
    (c39 : PySem.W.codeIn K cd39 "run_by" = true)
    (k39 : PySem.W.keepIn K (.ref f39) = true)
    (a40 : PySem.W.nsIn K mainGlobals "_law_deck" = some (some (.ref f40)))
    (l40 : K.lookup f40 = some ⟨oc40, od40, .func (PySem.W.fnOf "_law_deck" "_law_deck" (defArgs s_l_deck) (defBody s_l_deck) (defScope s_l_deck) .none kV40 dc40 pm40 an40 cd40 ct40), sl40⟩)
    (c40 : PySem.W.codeIn K cd40 "_law_deck" = true)
    (k40 : PySem.W.keepIn K (.ref f40) = true)
    (a41 : PySem.W.nsIn K mainGlobals "_law_draw" = some (some (.ref f41)))
    (l41 : K.lookup f41 = some ⟨oc41, od41, .func (PySem.W.fnOf "_law_draw" "_law_draw" (defArgs s_l_draw) (defBody s_l_draw) (defScope s_l_draw) .none kV41 dc41 pm41 an41 cd41 ct41), sl41⟩)
    (c41 : PySem.W.codeIn K cd41 "_law_draw" = true)
    (k41 : PySem.W.keepIn K (.ref f41) = true)
    (a42 : PySem.W.nsIn K mainGlobals "_law_one" = some (some (.ref f42)))
    (l42 : K.lookup f42 = some ⟨oc42, od42, .func (PySem.W.fnOf "_law_one" "_law_one" (defArgs s_l_one) (defBody s_l_one) (defScope s_l_one) .none kV42 dc42 pm42 an42 cd42 ct42), sl42⟩)
    (c42 : PySem.W.codeIn K cd42 "_law_one" = true)
    (k42 : PySem.W.keepIn K (.ref f42) = true)
    (a43 : PySem.W.nsIn K mainGlobals "_law_names" = some (some (.ref f43)))
    (l43 : K.lookup f43 = some ⟨oc43, od43, .func (PySem.W.fnOf "_law_names" "_law_names" (defArgs s_l_names) (defBody s_l_names) (defScope s_l_names) .none kV43 dc43 pm43 an43 cd43 ct43), sl43⟩)
    (c43 : PySem.W.codeIn K cd43 "_law_names" = true)
    (k43 : PySem.W.keepIn K (.ref f43) = true)
    (a44 : PySem.W.nsIn K mainGlobals "_law_expression" = some (some (.ref f44)))
    (l44 : K.lookup f44 = some ⟨oc44, od44, .func (PySem.W.fnOf "_law_expression" "_law_expression" (defArgs s_l_expression) (defBody s_l_expression) (defScope s_l_expression) .none kV44 dc44 pm44 an44 cd44 ct44), sl44⟩)
    (c44 : PySem.W.codeIn K cd44 "_law_expression" = true)
    (k44 : PySem.W.keepIn K (.ref f44) = true)
    (a45 : PySem.W.nsIn K mainGlobals "_law_test" = some (some (.ref f45)))
    (l45 : K.lookup f45 = some ⟨oc45, od45, .func (PySem.W.fnOf "_law_test" "_law_test" (defArgs s_l_test) (defBody s_l_test) (defScope s_l_test) .none kV45 dc45 pm45 an45 cd45 ct45), sl45⟩)
    (c45 : PySem.W.codeIn K cd45 "_law_test" = true)
    (k45 : PySem.W.keepIn K (.ref f45) = true)
    (a46 : PySem.W.nsIn K mainGlobals "_law_plain" = some (some (.ref f46)))
    (l46 : K.lookup f46 = some ⟨oc46, od46, .func (PySem.W.fnOf "_law_plain" "_law_plain" (defArgs s_l_plain) (defBody s_l_plain) (defScope s_l_plain) .none kV46 dc46 pm46 an46 cd46 ct46), sl46⟩)
    (c46 : PySem.W.codeIn K cd46 "_law_plain" = true)
    (k46 : PySem.W.keepIn K (.ref f46) = true)
    (a47 : PySem.W.nsIn K mainGlobals "_law_row" = some (some (.ref f47)))
    (l47 : K.lookup f47 = some ⟨oc47, od47, .func (PySem.W.fnOf "_law_row" "_law_row" (defArgs s_l_row) (defBody s_l_row) (defScope s_l_row) .none kV47 dc47 pm47 an47 cd47 ct47), sl47⟩)
    (c47 : PySem.W.codeIn K cd47 "_law_row" = true)
    (k47 : PySem.W.keepIn K (.ref f47) = true)
    (a48 : PySem.W.nsIn K mainGlobals "_law_block" = some (some (.ref f48)))
    (l48 : K.lookup f48 = some ⟨oc48, od48, .func (PySem.W.fnOf "_law_block" "_law_block" (defArgs s_l_block) (defBody s_l_block) (defScope s_l_block) .none kV48 dc48 pm48 an48 cd48 ct48), sl48⟩)
    (c48 : PySem.W.codeIn K cd48 "_law_block" = true)
    (k48 : PySem.W.keepIn K (.ref f48) = true)
    (a49 : PySem.W.nsIn K mainGlobals "_law_program" = some (some (.ref f49)))
    (l49 : K.lookup f49 = some ⟨oc49, od49, .func (PySem.W.fnOf "_law_program" "_law_program" (defArgs s_l_program) (defBody s_l_program) (defScope s_l_program) .none kV49 dc49 pm49 an49 cd49 ct49), sl49⟩)
    (c49 : PySem.W.codeIn K cd49 "_law_program" = true)
    (k49 : PySem.W.keepIn K (.ref f49) = true)
    (a50 : PySem.W.nsIn K mainGlobals "_law_number" = some (some (.ref f50)))
    (l50 : K.lookup f50 = some ⟨oc50, od50, .func (PySem.W.fnOf "_law_number" "_law_number" (defArgs s_l_number) (defBody s_l_number) (defScope s_l_number) .none kV50 dc50 pm50 an50 cd50 ct50), sl50⟩)
    (c50 : PySem.W.codeIn K cd50 "_law_number" = true)
    (k50 : PySem.W.keepIn K (.ref f50) = true)
    (a51 : PySem.W.nsIn K mainGlobals "_law_value" = some (some (.ref f51)))
    (l51 : K.lookup f51 = some ⟨oc51, od51, .func (PySem.W.fnOf "_law_value" "_law_value" (defArgs s_l_value) (defBody s_l_value) (defScope s_l_value) .none kV51 dc51 pm51 an51 cd51 ct51), sl51⟩)
    (c51 : PySem.W.codeIn K cd51 "_law_value" = true)
    (k51 : PySem.W.keepIn K (.ref f51) = true)
    (a52 : PySem.W.nsIn K mainGlobals "_law_true" = some (some (.ref f52)))
    (l52 : K.lookup f52 = some ⟨oc52, od52, .func (PySem.W.fnOf "_law_true" "_law_true" (defArgs s_l_true) (defBody s_l_true) (defScope s_l_true) .none kV52 dc52 pm52 an52 cd52 ct52), sl52⟩)
    (c52 : PySem.W.codeIn K cd52 "_law_true" = true)
    (k52 : PySem.W.keepIn K (.ref f52) = true)
    (a53 : PySem.W.nsIn K mainGlobals "_law_size" = some (some (.ref f53)))
    (l53 : K.lookup f53 = some ⟨oc53, od53, .func (PySem.W.fnOf "_law_size" "_law_size" (defArgs s_l_size) (defBody s_l_size) (defScope s_l_size) .none kV53 dc53 pm53 an53 cd53 ct53), sl53⟩)
    (c53 : PySem.W.codeIn K cd53 "_law_size" = true)
    (k53 : PySem.W.keepIn K (.ref f53) = true)
    (a54 : PySem.W.nsIn K mainGlobals "_law_go" = some (some (.ref f54)))
    (l54 : K.lookup f54 = some ⟨oc54, od54, .func (PySem.W.fnOf "_law_go" "_law_go" (defArgs s_l_go) (defBody s_l_go) (defScope s_l_go) .none kV54 dc54 pm54 an54 cd54 ct54), sl54⟩)
    (c54 : PySem.W.codeIn K cd54 "_law_go" = true)
    (k54 : PySem.W.keepIn K (.ref f54) = true)
    (a55 : PySem.W.nsIn K mainGlobals "_law_do" = some (some (.ref f55)))
    (l55 : K.lookup f55 = some ⟨oc55, od55, .func (PySem.W.fnOf "_law_do" "_law_do" (defArgs s_l_do) (defBody s_l_do) (defScope s_l_do) .none kV55 dc55 pm55 an55 cd55 ct55), sl55⟩)
    (c55 : PySem.W.codeIn K cd55 "_law_do" = true)
    (k55 : PySem.W.keepIn K (.ref f55) = true)
    (a56 : PySem.W.nsIn K mainGlobals "_law_run" = some (some (.ref f56)))
    (l56 : K.lookup f56 = some ⟨oc56, od56, .func (PySem.W.fnOf "_law_run" "_law_run" (defArgs s_l_run) (defBody s_l_run) (defScope s_l_run) .none kV56 dc56 pm56 an56 cd56 ct56), sl56⟩)
    (c56 : PySem.W.codeIn K cd56 "_law_run" = true)
    (k56 : PySem.W.keepIn K (.ref f56) = true)
    (a57 : PySem.W.nsIn K mainGlobals "_law_rule" = some (some (.ref f57)))
    (l57 : K.lookup f57 = some ⟨oc57, od57, .func (PySem.W.fnOf "_law_rule" "_law_rule" (defArgs s_l_rule) (defBody s_l_rule) (defScope s_l_rule) .none kV57 dc57 pm57 an57 cd57 ct57), sl57⟩)
    (c57 : PySem.W.codeIn K cd57 "_law_rule" = true)
    (k57 : PySem.W.keepIn K (.ref f57) = true)
    (a58 : PySem.W.nsIn K mainGlobals "_law_placed" = some (some (.ref f58)))
    (l58 : K.lookup f58 = some ⟨oc58, od58, .func (PySem.W.fnOf "_law_placed" "_law_placed" (defArgs s_l_placed) (defBody s_l_placed) (defScope s_l_placed) .none kV58 dc58 pm58 an58 cd58 ct58), sl58⟩)
    (c58 : PySem.W.codeIn K cd58 "_law_placed" = true)
    (k58 : PySem.W.keepIn K (.ref f58) = true)
    (a59 : PySem.W.nsIn K mainGlobals "_law_way" = some (some (.ref f59)))
    (l59 : K.lookup f59 = some ⟨oc59, od59, .func (PySem.W.fnOf "_law_way" "_law_way" (defArgs s_l_way) (defBody s_l_way) (defScope s_l_way) .none kV59 dc59 pm59 an59 cd59 ct59), sl59⟩)
    (c59 : PySem.W.codeIn K cd59 "_law_way" = true)
    (k59 : PySem.W.keepIn K (.ref f59) = true)
    (a60 : PySem.W.nsIn K mainGlobals "_law_chooser" = some (some (.ref f60)))
    (l60 : K.lookup f60 = some ⟨oc60, od60, .func (PySem.W.fnOf "_law_chooser" "_law_chooser" (defArgs s_l_chooser) (defBody s_l_chooser) (defScope s_l_chooser) .none kV60 dc60 pm60 an60 (.ref cc) ct60), sl60⟩)
    (c60 : PySem.W.codeIn K (.ref cc) "_law_chooser" = true)
    (tlk : K.lookup cc = some ⟨coc, cod, .fields cvs, csl⟩)
    (te11 : cvs[11]? = some (.ref Pt))
    (tch : PySem.W.codeHdIn K cc Pt = true)
    (tno : K.lookup Pt = none)
    (ttb : h.get? Pt = some tabObj0)
    (k60 : PySem.W.keepIn K (.ref f60) = true)
    (a61 : PySem.W.nsIn K mainGlobals "law" = some (some (.ref f61)))
    (l61 : K.lookup f61 = some ⟨oc61, od61, .func (PySem.W.fnOf "law" "law" (defArgs s_law) (defBody s_law) (defScope s_law) .none kV61 dc61 pm61 an61 cd61 ct61), sl61⟩)
    (c61 : PySem.W.codeIn K cd61 "law" = true)
    (k61 : PySem.W.keepIn K (.ref f61) = true)
    (n_Course_names : PySem.W.findIn K (.ref C_Course) "names" = some none)
    (n_Course_said : PySem.W.findIn K (.ref C_Course) "said" = some none)
    (n_Course_turns : PySem.W.findIn K (.ref C_Course) "turns" = some none)
    (n_Course_choices : PySem.W.findIn K (.ref C_Course) "choices" = some none)
    (n_Course_ways : PySem.W.findIn K (.ref C_Course) "ways" = some none)
    (n_Course_rule : PySem.W.findIn K (.ref C_Course) "rule" = some none)
    (n_Below_number : PySem.W.findIn K (.ref C_Below) "number" = some none)
    (n_Places_places : PySem.W.findIn K (.ref C_Places) "places" = some none)
    (n_Turned_inner : PySem.W.findIn K (.ref C_Turned) "inner" = some none)
    (n_Joined_word : PySem.W.findIn K (.ref C_Joined) "word" = some none)
    (n_Joined_one : PySem.W.findIn K (.ref C_Joined) "one" = some none)
    (n_Joined_other : PySem.W.findIn K (.ref C_Joined) "other" = some none)
    (oth : PySem.W.nsIn K cStatics "thirdparty.any" = some none)
    (ot_Rule : PySem.W.typeIn K (.ref C_Rule) = some (.type "type"))
    (oc_Rule : PySem.W.clsIn K C_Rule = some ocd_Rule)
    (om_Rule : ocd_Rule.mro = .ref C_Rule :: ors_Rule)
    (on_Rule : ocd_Rule.name.cps.foldl (fun k c => k + (Str.utf8Of c).length) 0 ≤ 100)
    (ol_Rule : ocd_Rule.name.toString.length ≤ 50)
    (oi_Rule : PySem.W.findIn K (.ref C_Rule) "__invert__" = some (some (.ref f13)))
    (oa_Rule : PySem.W.findIn K (.ref C_Rule) "__and__" = some (some (.ref f14)))
    (oar_Rule : PySem.W.findIn K (.ref C_Rule) "__rand__" = some none)
    (oo_Rule : PySem.W.findIn K (.ref C_Rule) "__or__" = some (some (.ref f15)))
    (oor_Rule : PySem.W.findIn K (.ref C_Rule) "__ror__" = some none)
    (ox_Rule : PySem.W.findIn K (.ref C_Rule) "__xor__" = some (some (.ref f16)))
    (oxr_Rule : PySem.W.findIn K (.ref C_Rule) "__rxor__" = some none)
    (of_Rule : PySem.W.findCls K (.ref C_Rule) (.type "type") "__ror__" = some (.get (.builtin "wrapper_descriptor.__get__") (.builtin "type.__ror__") (.ref C_Rule) (.type "type")))
    (is_Rule : PySem.W.isIn K (.ref C_Rule) C_Rule = true)
    (ot_Down : PySem.W.typeIn K (.ref C_Down) = some (.type "type"))
    (oc_Down : PySem.W.clsIn K C_Down = some ocd_Down)
    (om_Down : ocd_Down.mro = .ref C_Down :: ors_Down)
    (on_Down : ocd_Down.name.cps.foldl (fun k c => k + (Str.utf8Of c).length) 0 ≤ 100)
    (ol_Down : ocd_Down.name.toString.length ≤ 50)
    (oi_Down : PySem.W.findIn K (.ref C_Down) "__invert__" = some (some (.ref f13)))
    (oa_Down : PySem.W.findIn K (.ref C_Down) "__and__" = some (some (.ref f14)))
    (oar_Down : PySem.W.findIn K (.ref C_Down) "__rand__" = some none)
    (oo_Down : PySem.W.findIn K (.ref C_Down) "__or__" = some (some (.ref f15)))
    (oor_Down : PySem.W.findIn K (.ref C_Down) "__ror__" = some none)
    (ox_Down : PySem.W.findIn K (.ref C_Down) "__xor__" = some (some (.ref f16)))
    (oxr_Down : PySem.W.findIn K (.ref C_Down) "__rxor__" = some none)
    (of_Down : PySem.W.findCls K (.ref C_Down) (.type "type") "__ror__" = some (.get (.builtin "wrapper_descriptor.__get__") (.builtin "type.__ror__") (.ref C_Down) (.type "type")))
    (is_Down : PySem.W.isIn K (.ref C_Down) C_Rule = true)
    (ot_Up : PySem.W.typeIn K (.ref C_Up) = some (.type "type"))
    (oc_Up : PySem.W.clsIn K C_Up = some ocd_Up)
    (om_Up : ocd_Up.mro = .ref C_Up :: ors_Up)
    (on_Up : ocd_Up.name.cps.foldl (fun k c => k + (Str.utf8Of c).length) 0 ≤ 100)
    (ol_Up : ocd_Up.name.toString.length ≤ 50)
    (oi_Up : PySem.W.findIn K (.ref C_Up) "__invert__" = some (some (.ref f13)))
    (oa_Up : PySem.W.findIn K (.ref C_Up) "__and__" = some (some (.ref f14)))
    (oar_Up : PySem.W.findIn K (.ref C_Up) "__rand__" = some none)
    (oo_Up : PySem.W.findIn K (.ref C_Up) "__or__" = some (some (.ref f15)))
    (oor_Up : PySem.W.findIn K (.ref C_Up) "__ror__" = some none)
    (ox_Up : PySem.W.findIn K (.ref C_Up) "__xor__" = some (some (.ref f16)))
    (oxr_Up : PySem.W.findIn K (.ref C_Up) "__rxor__" = some none)
    (of_Up : PySem.W.findCls K (.ref C_Up) (.type "type") "__ror__" = some (.get (.builtin "wrapper_descriptor.__get__") (.builtin "type.__ror__") (.ref C_Up) (.type "type")))
    (is_Up : PySem.W.isIn K (.ref C_Up) C_Rule = true)
    (ot_Even : PySem.W.typeIn K (.ref C_Even) = some (.type "type"))
    (oc_Even : PySem.W.clsIn K C_Even = some ocd_Even)
    (om_Even : ocd_Even.mro = .ref C_Even :: ors_Even)
    (on_Even : ocd_Even.name.cps.foldl (fun k c => k + (Str.utf8Of c).length) 0 ≤ 100)
    (ol_Even : ocd_Even.name.toString.length ≤ 50)
    (oi_Even : PySem.W.findIn K (.ref C_Even) "__invert__" = some (some (.ref f13)))
    (oa_Even : PySem.W.findIn K (.ref C_Even) "__and__" = some (some (.ref f14)))
    (oar_Even : PySem.W.findIn K (.ref C_Even) "__rand__" = some none)
    (oo_Even : PySem.W.findIn K (.ref C_Even) "__or__" = some (some (.ref f15)))
    (oor_Even : PySem.W.findIn K (.ref C_Even) "__ror__" = some none)
    (ox_Even : PySem.W.findIn K (.ref C_Even) "__xor__" = some (some (.ref f16)))
    (oxr_Even : PySem.W.findIn K (.ref C_Even) "__rxor__" = some none)
    (of_Even : PySem.W.findCls K (.ref C_Even) (.type "type") "__ror__" = some (.get (.builtin "wrapper_descriptor.__get__") (.builtin "type.__ror__") (.ref C_Even) (.type "type")))
    (is_Even : PySem.W.isIn K (.ref C_Even) C_Rule = true)
    (ot_Odd : PySem.W.typeIn K (.ref C_Odd) = some (.type "type"))
    (oc_Odd : PySem.W.clsIn K C_Odd = some ocd_Odd)
    (om_Odd : ocd_Odd.mro = .ref C_Odd :: ors_Odd)
    (on_Odd : ocd_Odd.name.cps.foldl (fun k c => k + (Str.utf8Of c).length) 0 ≤ 100)
    (ol_Odd : ocd_Odd.name.toString.length ≤ 50)
    (oi_Odd : PySem.W.findIn K (.ref C_Odd) "__invert__" = some (some (.ref f13)))
    (oa_Odd : PySem.W.findIn K (.ref C_Odd) "__and__" = some (some (.ref f14)))
    (oar_Odd : PySem.W.findIn K (.ref C_Odd) "__rand__" = some none)
    (oo_Odd : PySem.W.findIn K (.ref C_Odd) "__or__" = some (some (.ref f15)))
    (oor_Odd : PySem.W.findIn K (.ref C_Odd) "__ror__" = some none)
    (ox_Odd : PySem.W.findIn K (.ref C_Odd) "__xor__" = some (some (.ref f16)))
    (oxr_Odd : PySem.W.findIn K (.ref C_Odd) "__rxor__" = some none)
    (of_Odd : PySem.W.findCls K (.ref C_Odd) (.type "type") "__ror__" = some (.get (.builtin "wrapper_descriptor.__get__") (.builtin "type.__ror__") (.ref C_Odd) (.type "type")))
    (is_Odd : PySem.W.isIn K (.ref C_Odd) C_Rule = true)
    (ot_Zero : PySem.W.typeIn K (.ref C_Zero) = some (.type "type"))
    (oc_Zero : PySem.W.clsIn K C_Zero = some ocd_Zero)
    (om_Zero : ocd_Zero.mro = .ref C_Zero :: ors_Zero)
    (on_Zero : ocd_Zero.name.cps.foldl (fun k c => k + (Str.utf8Of c).length) 0 ≤ 100)
    (ol_Zero : ocd_Zero.name.toString.length ≤ 50)
    (oi_Zero : PySem.W.findIn K (.ref C_Zero) "__invert__" = some (some (.ref f13)))
    (oa_Zero : PySem.W.findIn K (.ref C_Zero) "__and__" = some (some (.ref f14)))
    (oar_Zero : PySem.W.findIn K (.ref C_Zero) "__rand__" = some none)
    (oo_Zero : PySem.W.findIn K (.ref C_Zero) "__or__" = some (some (.ref f15)))
    (oor_Zero : PySem.W.findIn K (.ref C_Zero) "__ror__" = some none)
    (ox_Zero : PySem.W.findIn K (.ref C_Zero) "__xor__" = some (some (.ref f16)))
    (oxr_Zero : PySem.W.findIn K (.ref C_Zero) "__rxor__" = some none)
    (of_Zero : PySem.W.findCls K (.ref C_Zero) (.type "type") "__ror__" = some (.get (.builtin "wrapper_descriptor.__get__") (.builtin "type.__ror__") (.ref C_Zero) (.type "type")))
    (is_Zero : PySem.W.isIn K (.ref C_Zero) C_Rule = true)
    (ot_Away : PySem.W.typeIn K (.ref C_Away) = some (.type "type"))
    (oc_Away : PySem.W.clsIn K C_Away = some ocd_Away)
    (om_Away : ocd_Away.mro = .ref C_Away :: ors_Away)
    (on_Away : ocd_Away.name.cps.foldl (fun k c => k + (Str.utf8Of c).length) 0 ≤ 100)
    (ol_Away : ocd_Away.name.toString.length ≤ 50)
    (oi_Away : PySem.W.findIn K (.ref C_Away) "__invert__" = some (some (.ref f13)))
    (oa_Away : PySem.W.findIn K (.ref C_Away) "__and__" = some (some (.ref f14)))
    (oar_Away : PySem.W.findIn K (.ref C_Away) "__rand__" = some none)
    (oo_Away : PySem.W.findIn K (.ref C_Away) "__or__" = some (some (.ref f15)))
    (oor_Away : PySem.W.findIn K (.ref C_Away) "__ror__" = some none)
    (ox_Away : PySem.W.findIn K (.ref C_Away) "__xor__" = some (some (.ref f16)))
    (oxr_Away : PySem.W.findIn K (.ref C_Away) "__rxor__" = some none)
    (of_Away : PySem.W.findCls K (.ref C_Away) (.type "type") "__ror__" = some (.get (.builtin "wrapper_descriptor.__get__") (.builtin "type.__ror__") (.ref C_Away) (.type "type")))
    (is_Away : PySem.W.isIn K (.ref C_Away) C_Rule = true)
    (ot_Below : PySem.W.typeIn K (.ref C_Below) = some (.type "type"))
    (oc_Below : PySem.W.clsIn K C_Below = some ocd_Below)
    (om_Below : ocd_Below.mro = .ref C_Below :: ors_Below)
    (on_Below : ocd_Below.name.cps.foldl (fun k c => k + (Str.utf8Of c).length) 0 ≤ 100)
    (ol_Below : ocd_Below.name.toString.length ≤ 50)
    (oi_Below : PySem.W.findIn K (.ref C_Below) "__invert__" = some (some (.ref f13)))
    (oa_Below : PySem.W.findIn K (.ref C_Below) "__and__" = some (some (.ref f14)))
    (oar_Below : PySem.W.findIn K (.ref C_Below) "__rand__" = some none)
    (oo_Below : PySem.W.findIn K (.ref C_Below) "__or__" = some (some (.ref f15)))
    (oor_Below : PySem.W.findIn K (.ref C_Below) "__ror__" = some none)
    (ox_Below : PySem.W.findIn K (.ref C_Below) "__xor__" = some (some (.ref f16)))
    (oxr_Below : PySem.W.findIn K (.ref C_Below) "__rxor__" = some none)
    (of_Below : PySem.W.findCls K (.ref C_Below) (.type "type") "__ror__" = some (.get (.builtin "wrapper_descriptor.__get__") (.builtin "type.__ror__") (.ref C_Below) (.type "type")))
    (is_Below : PySem.W.isIn K (.ref C_Below) C_Rule = true)
    (ot_Places : PySem.W.typeIn K (.ref C_Places) = some (.type "type"))
    (oc_Places : PySem.W.clsIn K C_Places = some ocd_Places)
    (om_Places : ocd_Places.mro = .ref C_Places :: ors_Places)
    (on_Places : ocd_Places.name.cps.foldl (fun k c => k + (Str.utf8Of c).length) 0 ≤ 100)
    (ol_Places : ocd_Places.name.toString.length ≤ 50)
    (oi_Places : PySem.W.findIn K (.ref C_Places) "__invert__" = some (some (.ref f13)))
    (oa_Places : PySem.W.findIn K (.ref C_Places) "__and__" = some (some (.ref f14)))
    (oar_Places : PySem.W.findIn K (.ref C_Places) "__rand__" = some none)
    (oo_Places : PySem.W.findIn K (.ref C_Places) "__or__" = some (some (.ref f15)))
    (oor_Places : PySem.W.findIn K (.ref C_Places) "__ror__" = some none)
    (ox_Places : PySem.W.findIn K (.ref C_Places) "__xor__" = some (some (.ref f16)))
    (oxr_Places : PySem.W.findIn K (.ref C_Places) "__rxor__" = some none)
    (of_Places : PySem.W.findCls K (.ref C_Places) (.type "type") "__ror__" = some (.get (.builtin "wrapper_descriptor.__get__") (.builtin "type.__ror__") (.ref C_Places) (.type "type")))
    (is_Places : PySem.W.isIn K (.ref C_Places) C_Rule = true)
    (ot_Turned : PySem.W.typeIn K (.ref C_Turned) = some (.type "type"))
    (oc_Turned : PySem.W.clsIn K C_Turned = some ocd_Turned)
    (om_Turned : ocd_Turned.mro = .ref C_Turned :: ors_Turned)
    (on_Turned : ocd_Turned.name.cps.foldl (fun k c => k + (Str.utf8Of c).length) 0 ≤ 100)
    (ol_Turned : ocd_Turned.name.toString.length ≤ 50)
    (oi_Turned : PySem.W.findIn K (.ref C_Turned) "__invert__" = some (some (.ref f13)))
    (oa_Turned : PySem.W.findIn K (.ref C_Turned) "__and__" = some (some (.ref f14)))
    (oar_Turned : PySem.W.findIn K (.ref C_Turned) "__rand__" = some none)
    (oo_Turned : PySem.W.findIn K (.ref C_Turned) "__or__" = some (some (.ref f15)))
    (oor_Turned : PySem.W.findIn K (.ref C_Turned) "__ror__" = some none)
    (ox_Turned : PySem.W.findIn K (.ref C_Turned) "__xor__" = some (some (.ref f16)))
    (oxr_Turned : PySem.W.findIn K (.ref C_Turned) "__rxor__" = some none)
    (of_Turned : PySem.W.findCls K (.ref C_Turned) (.type "type") "__ror__" = some (.get (.builtin "wrapper_descriptor.__get__") (.builtin "type.__ror__") (.ref C_Turned) (.type "type")))
    (is_Turned : PySem.W.isIn K (.ref C_Turned) C_Rule = true)
    (ot_Joined : PySem.W.typeIn K (.ref C_Joined) = some (.type "type"))
    (oc_Joined : PySem.W.clsIn K C_Joined = some ocd_Joined)
    (om_Joined : ocd_Joined.mro = .ref C_Joined :: ors_Joined)
    (on_Joined : ocd_Joined.name.cps.foldl (fun k c => k + (Str.utf8Of c).length) 0 ≤ 100)
    (ol_Joined : ocd_Joined.name.toString.length ≤ 50)
    (oi_Joined : PySem.W.findIn K (.ref C_Joined) "__invert__" = some (some (.ref f13)))
    (oa_Joined : PySem.W.findIn K (.ref C_Joined) "__and__" = some (some (.ref f14)))
    (oar_Joined : PySem.W.findIn K (.ref C_Joined) "__rand__" = some none)
    (oo_Joined : PySem.W.findIn K (.ref C_Joined) "__or__" = some (some (.ref f15)))
    (oor_Joined : PySem.W.findIn K (.ref C_Joined) "__ror__" = some none)
    (ox_Joined : PySem.W.findIn K (.ref C_Joined) "__xor__" = some (some (.ref f16)))
    (oxr_Joined : PySem.W.findIn K (.ref C_Joined) "__rxor__" = some none)
    (of_Joined : PySem.W.findCls K (.ref C_Joined) (.type "type") "__ror__" = some (.get (.builtin "wrapper_descriptor.__get__") (.builtin "type.__ror__") (.ref C_Joined) (.type "type")))
    (is_Joined : PySem.W.isIn K (.ref C_Joined) C_Rule = true)
    (g_DOWN : PySem.W.nsIn K mainGlobals "DOWN" = some (some (.int 0 t_DOWN)))
    (g_INPUT : PySem.W.nsIn K mainGlobals "INPUT" = some (some (.str "n" t_INPUT)))
    (z_abs : PySem.W.nsIn K mainGlobals "abs" = some none)
    (z_int : PySem.W.nsIn K mainGlobals "int" = some none)
    (z_isinstance : PySem.W.nsIn K mainGlobals "isinstance" = some none)
    (z_len : PySem.W.nsIn K mainGlobals "len" = some none)
    (z_max : PySem.W.nsIn K mainGlobals "max" = some none)
    (z_range : PySem.W.nsIn K mainGlobals "range" = some none)
    (z_repr : PySem.W.nsIn K mainGlobals "repr" = some none)
    (z_set : PySem.W.nsIn K mainGlobals "set" = some none)
    (z_sorted : PySem.W.nsIn K mainGlobals "sorted" = some none)
    (z_str : PySem.W.nsIn K mainGlobals "str" = some none)
    (z_sum : PySem.W.nsIn K mainGlobals "sum" = some none)
    (z_tuple : PySem.W.nsIn K mainGlobals "tuple" = some none) :
    ∃ (fd : FuncData) (c Pt : Addr) (sp : Sp), h.get? Pt = some tabObj0 ∧ K.lookup Pt = none ∧ PySem.W.CodeHd h c Pt ∧ (∀ (s : Shared) (v : Value), BindsTo s fd ⟨[v], []⟩ [("_law_script", v)]) ∧ (∀ (H : Hp) (a : Addr) (ns : List Int), ns.length ≤ 63 → H Pt = some (.tbl #[]) → SqL K H a (ns.map V.int) → sp [.ref a] H (fun v _ => v = .bl true) fun _ _ _ => False) ∧ ∀ base : Heap, K.In base → base.Ns mainGlobals mg → LamX.TabB base mg c Pt → FnG P w K mg base CX0 33 fa fd ["_law_script"] sp := by
  have e := hfa.symm.trans (PySem.W.mg_of X G a61)
  cases e
  have F1 := fun_mk (st := s_blocks_of) l1 c1 k1
  have b1 := F1.binds (ps := ["statement"]) fun _ _ _ _ _ _ us hl => match us, hl with | [_], _ => rfl
  have F2 := fun_mk (st := s_places_in) l2 c2 k2
  have b2 := F2.binds (ps := ["statement"]) fun _ _ _ _ _ _ us hl => match us, hl with | [_], _ => rfl
  have F3 := fun_mk (st := s_value_of) l3 c3 k3
  have b3 := F3.binds (ps := ["expression", "names"]) fun _ _ _ _ _ _ us hl => match us, hl with | [_, _], _ => rfl
  have F4 := fun_mk (st := s_is_true) l4 c4 k4
  have b4 := F4.binds (ps := ["test", "names"]) fun _ _ _ _ _ _ us hl => match us, hl with | [_, _], _ => rfl
  have F5 := fun_mk (st := s_Course_init) l5 c5 k5
  have b5 := F5.binds (ps := ["self", "number", "choices", "ways", "rule"]) fun _ _ _ _ _ _ us hl => match us, hl with | [_, _, _, _, _], _ => rfl
  have F6 := fun_mk (st := s_Course_choice) l6 c6 k6
  have b6 := F6.binds (ps := ["self", "value", "place"]) fun _ _ _ _ _ _ us hl => match us, hl with | [_, _, _], _ => rfl
  have F7 := fun_mk (st := s_Course_halved) l7 c7 k7
  have b7 := F7.binds (ps := ["self", "value", "place"]) fun _ _ _ _ _ _ us hl => match us, hl with | [_, _, _], _ => rfl
  have F8 := fun_mk (st := s_Course_do) l8 c8 k8
  have b8 := F8.binds (ps := ["self", "statement", "place"]) fun _ _ _ _ _ _ us hl => match us, hl with | [_, _, _], _ => rfl
  have F9 := fun_mk (st := s_Course_parts) l9 c9 k9
  have b9 := F9.binds (ps := ["self", "statement", "place"]) fun _ _ _ _ _ _ us hl => match us, hl with | [_, _, _], _ => rfl
  have F10 := fun_mk (st := s_Course_go) l10 c10 k10
  have b10 := F10.binds (ps := ["self", "block", "place"]) fun _ _ _ _ _ _ us hl => match us, hl with | [_, _, _], _ => rfl
  have F11 := fun_mk (st := s_course_of) l11 c11 k11
  have b11 := F11.binds (ps := ["program", "number", "choices", "ways", "rule"]) fun _ _ _ _ _ _ us hl => match us, hl with | [_, _, _, _, _], _ => rfl
  have F12 := fun_mk (st := s_Rule_call) l12 c12 k12
  have b12 := F12.binds (ps := ["self", "value", "place"]) fun _ _ _ _ _ _ us hl => match us, hl with | [_, _, _], _ => rfl
  have F13 := fun_mk (st := s_Rule_invert) l13 c13 k13
  have b13 := F13.binds (ps := ["self"]) fun _ _ _ _ _ _ us hl => match us, hl with | [_], _ => rfl
  have F14 := fun_mk (st := s_Rule_and) l14 c14 k14
  have b14 := F14.binds (ps := ["self", "other"]) fun _ _ _ _ _ _ us hl => match us, hl with | [_, _], _ => rfl
  have F15 := fun_mk (st := s_Rule_or) l15 c15 k15
  have b15 := F15.binds (ps := ["self", "other"]) fun _ _ _ _ _ _ us hl => match us, hl with | [_, _], _ => rfl
  have F16 := fun_mk (st := s_Rule_xor) l16 c16 k16
  have b16 := F16.binds (ps := ["self", "other"]) fun _ _ _ _ _ _ us hl => match us, hl with | [_, _], _ => rfl
  have F17 := fun_mk (st := s_Rule_marks) l17 c17 k17
  have b17 := F17.binds (ps := ["self"]) fun _ _ _ _ _ _ us hl => match us, hl with | [_], _ => rfl
  have F18 := fun_mk (st := s_Down_call) l18 c18 k18
  have b18 := F18.binds (ps := ["self", "value", "place"]) fun _ _ _ _ _ _ us hl => match us, hl with | [_, _, _], _ => rfl
  have F19 := fun_mk (st := s_Up_call) l19 c19 k19
  have b19 := F19.binds (ps := ["self", "value", "place"]) fun _ _ _ _ _ _ us hl => match us, hl with | [_, _, _], _ => rfl
  have F20 := fun_mk (st := s_Even_call) l20 c20 k20
  have b20 := F20.binds (ps := ["self", "value", "place"]) fun _ _ _ _ _ _ us hl => match us, hl with | [_, _, _], _ => rfl
  have F21 := fun_mk (st := s_Even_marks) l21 c21 k21
  have b21 := F21.binds (ps := ["self"]) fun _ _ _ _ _ _ us hl => match us, hl with | [_], _ => rfl
  have F22 := fun_mk (st := s_Odd_call) l22 c22 k22
  have b22 := F22.binds (ps := ["self", "value", "place"]) fun _ _ _ _ _ _ us hl => match us, hl with | [_, _, _], _ => rfl
  have F23 := fun_mk (st := s_Odd_marks) l23 c23 k23
  have b23 := F23.binds (ps := ["self"]) fun _ _ _ _ _ _ us hl => match us, hl with | [_], _ => rfl
  have F24 := fun_mk (st := s_Zero_call) l24 c24 k24
  have b24 := F24.binds (ps := ["self", "value", "place"]) fun _ _ _ _ _ _ us hl => match us, hl with | [_, _, _], _ => rfl
  have F25 := fun_mk (st := s_Zero_marks) l25 c25 k25
  have b25 := F25.binds (ps := ["self"]) fun _ _ _ _ _ _ us hl => match us, hl with | [_], _ => rfl
  have F26 := fun_mk (st := s_Away_call) l26 c26 k26
  have b26 := F26.binds (ps := ["self", "value", "place"]) fun _ _ _ _ _ _ us hl => match us, hl with | [_, _, _], _ => rfl
  have F27 := fun_mk (st := s_Away_marks) l27 c27 k27
  have b27 := F27.binds (ps := ["self"]) fun _ _ _ _ _ _ us hl => match us, hl with | [_], _ => rfl
  have F28 := fun_mk (st := s_Below_init) l28 c28 k28
  have b28 := F28.binds (ps := ["self", "number"]) fun _ _ _ _ _ _ us hl => match us, hl with | [_, _], _ => rfl
  have F29 := fun_mk (st := s_Below_call) l29 c29 k29
  have b29 := F29.binds (ps := ["self", "value", "place"]) fun _ _ _ _ _ _ us hl => match us, hl with | [_, _, _], _ => rfl
  have F30 := fun_mk (st := s_Below_marks) l30 c30 k30
  have b30 := F30.binds (ps := ["self"]) fun _ _ _ _ _ _ us hl => match us, hl with | [_], _ => rfl
  have F31 := fun_mk (st := s_Places_init) l31 c31 k31
  have b31 : ∀ us rest : List Value, us.length = (["self"] : List Str).length → bindArgs (PySem.W.fnOf "__init__" "Places.__init__" (defArgs s_Places_init) (defBody s_Places_init) (defScope s_Places_init) .none kV31 dc31 pm31 an31 cd31 ct31) ⟨us ++ rest, []⟩ = (newTuple rest >>= fun t => pure ((["self"] : List Str).zip us ++ [(("places" : Str), t)])) := StX.bind_star1 (B := fun l => bindArgs (PySem.W.fnOf "__init__" "Places.__init__" (defArgs s_Places_init) (defBody s_Places_init) (defScope s_Places_init) .none kV31 dc31 pm31 an31 cd31 ct31) ⟨l, []⟩) (fun _ => rfl) (fun _ _ _ => rfl)
  have F32 := fun_mk (st := s_Places_call) l32 c32 k32
  have b32 := F32.binds (ps := ["self", "value", "place"]) fun _ _ _ _ _ _ us hl => match us, hl with | [_, _, _], _ => rfl
  have F33 := fun_mk (st := s_Turned_init) l33 c33 k33
  have b33 := F33.binds (ps := ["self", "rule"]) fun _ _ _ _ _ _ us hl => match us, hl with | [_, _], _ => rfl
  have F34 := fun_mk (st := s_Turned_call) l34 c34 k34
  have b34 := F34.binds (ps := ["self", "value", "place"]) fun _ _ _ _ _ _ us hl => match us, hl with | [_, _, _], _ => rfl
  have F35 := fun_mk (st := s_Turned_marks) l35 c35 k35
  have b35 := F35.binds (ps := ["self"]) fun _ _ _ _ _ _ us hl => match us, hl with | [_], _ => rfl
  have F36 := fun_mk (st := s_Joined_init) l36 c36 k36
  have b36 := F36.binds (ps := ["self", "word", "one", "other"]) fun _ _ _ _ _ _ us hl => match us, hl with | [_, _, _, _], _ => rfl
  have F37 := fun_mk (st := s_Joined_call) l37 c37 k37
  have b37 := F37.binds (ps := ["self", "value", "place"]) fun _ _ _ _ _ _ us hl => match us, hl with | [_, _, _], _ => rfl
  have F38 := fun_mk (st := s_Joined_marks) l38 c38 k38
  have b38 := F38.binds (ps := ["self"]) fun _ _ _ _ _ _ us hl => match us, hl with | [_], _ => rfl
  have F39 := fun_mk (st := s_run_by) l39 c39 k39
  have b39 := F39.binds (ps := ["program", "number", "rule"]) fun _ _ _ _ _ _ us hl => match us, hl with | [_, _, _], _ => rfl
  have F40 := fun_mk (st := s_l_deck) l40 c40 k40
  have b40 := F40.binds (ps := ["_law_script"]) fun _ _ _ _ _ _ us hl => match us, hl with | [_], _ => rfl
  have F41 := fun_mk (st := s_l_draw) l41 c41 k41
  have b41 := F41.binds (ps := ["_law_deck_here", "_law_many"]) fun _ _ _ _ _ _ us hl => match us, hl with | [_, _], _ => rfl
  have F42 := fun_mk (st := s_l_one) l42 c42 k42
  have b42 := F42.binds (ps := ["_law_deck_here", "_law_items"]) fun _ _ _ _ _ _ us hl => match us, hl with | [_, _], _ => rfl
  have F43 := fun_mk (st := s_l_names) l43 c43 k43
  have b43 := F43.binds (ps := ["_law_deck_here"]) fun _ _ _ _ _ _ us hl => match us, hl with | [_], _ => rfl
  have F44 := fun_mk (st := s_l_expression) l44 c44 k44
  have b44 := F44.binds (ps := ["_law_deck_here", "_law_names_here", "_law_deep"]) fun _ _ _ _ _ _ us hl => match us, hl with | [_, _, _], _ => rfl
  have F45 := fun_mk (st := s_l_test) l45 c45 k45
  have b45 := F45.binds (ps := ["_law_deck_here", "_law_names_here", "_law_left", "_law_times"]) fun _ _ _ _ _ _ us hl => match us, hl with | [_, _, _, _], _ => rfl
  have F46 := fun_mk (st := s_l_plain) l46 c46 k46
  have b46 := F46.binds (ps := ["_law_deck_here", "_law_names_here", "_law_left", "_law_times"]) fun _ _ _ _ _ _ us hl => match us, hl with | [_, _, _, _], _ => rfl
  have F47 := fun_mk (st := s_l_row) l47 c47 k47
  have b47 := F47.binds (ps := ["_law_deck_here", "_law_names_here", "_law_left", "_law_times", "_law_depth"]) fun _ _ _ _ _ _ us hl => match us, hl with | [_, _, _, _, _], _ => rfl
  have F48 := fun_mk (st := s_l_block) l48 c48 k48
  have b48 := F48.binds (ps := ["_law_deck_here", "_law_names_here", "_law_left", "_law_times", "_law_depth"]) fun _ _ _ _ _ _ us hl => match us, hl with | [_, _, _, _, _], _ => rfl
  have F49 := fun_mk (st := s_l_program) l49 c49 k49
  have b49 := F49.binds (ps := ["_law_deck_here", "_law_names_here"]) fun _ _ _ _ _ _ us hl => match us, hl with | [_, _], _ => rfl
  have F50 := fun_mk (st := s_l_number) l50 c50 k50
  have b50 := F50.binds (ps := ["_law_deck_here"]) fun _ _ _ _ _ _ us hl => match us, hl with | [_], _ => rfl
  have F51 := fun_mk (st := s_l_value) l51 c51 k51
  have b51 := F51.binds (ps := ["_law_expression_here", "_law_names_here"]) fun _ _ _ _ _ _ us hl => match us, hl with | [_, _], _ => rfl
  have F52 := fun_mk (st := s_l_true) l52 c52 k52
  have b52 := F52.binds (ps := ["_law_test_here", "_law_names_here"]) fun _ _ _ _ _ _ us hl => match us, hl with | [_, _], _ => rfl
  have F53 := fun_mk (st := s_l_size) l53 c53 k53
  have b53 := F53.binds (ps := ["_law_block_here"]) fun _ _ _ _ _ _ us hl => match us, hl with | [_], _ => rfl
  have F54 := fun_mk (st := s_l_go) l54 c54 k54
  have b54 := F54.binds (ps := ["_law_world", "_law_block_here", "_law_place"]) fun _ _ _ _ _ _ us hl => match us, hl with | [_, _, _], _ => rfl
  have F55 := fun_mk (st := s_l_do) l55 c55 k55
  have b55 := F55.binds (ps := ["_law_world", "_law_row_here", "_law_place"]) fun _ _ _ _ _ _ us hl => match us, hl with | [_, _, _], _ => rfl
  have F56 := fun_mk (st := s_l_run) l56 c56 k56
  have b56 := F56.binds (ps := ["_law_program_here", "_law_number_here", "_law_choose"]) fun _ _ _ _ _ _ us hl => match us, hl with | [_, _, _], _ => rfl
  have F57 := fun_mk (st := s_l_rule) l57 c57 k57
  have b57 := F57.binds (ps := ["_law_deck_here", "_law_high"]) fun _ _ _ _ _ _ us hl => match us, hl with | [_, _], _ => rfl
  have F58 := fun_mk (st := s_l_placed) l58 c58 k58
  have b58 := F58.binds (ps := ["_law_deck_here"]) fun _ _ _ _ _ _ us hl => match us, hl with | [_], _ => rfl
  have F59 := fun_mk (st := s_l_way) l59 c59 k59
  have b59 := F59.binds (ps := ["_law_told", "_law_value_here", "_law_place"]) fun _ _ _ _ _ _ us hl => match us, hl with | [_, _, _], _ => rfl
  have F60 := fun_mk (st := s_l_chooser) l60 c60 k60
  have b60 := F60.binds (ps := ["_law_told"]) fun _ _ _ _ _ _ us hl => match us, hl with | [_], _ => rfl
  have F61 := fun_mk (st := s_law) l61 c61 k61
  have b61 := F61.binds (ps := ["_law_script"]) fun _ _ _ _ _ _ us hl => match us, hl with | [_], _ => rfl
  refine ⟨PySem.W.fnOf "law" "law" (defArgs s_law) (defBody s_law) (defScope s_law) .none kV61 dc61 pm61 an61 cd61 ct61, cc, Pt, spLawT Pt K, ttb, tno, PySem.W.codeHd_of_K X tch, fun s v => .of_eq rfl, fun H a ns hl hH hS => ⟨a, ns, rfl, hS, hl, hH, fun _ => rfl⟩, fun base _ _ TB => ok_law (P := P) (w := w) (base := base) (T := { i0_Rule := i0_Rule, i0_Down := i0_Down, i0_Up := i0_Up, i0_Even := i0_Even, i0_Odd := i0_Odd, i0_Zero := i0_Zero, i0_Away := i0_Away, blocks_of := ⟨_, _, F1, b1, PySem.W.mg_of X G a1⟩, places_in := ⟨_, _, F2, b2, PySem.W.mg_of X G a2⟩, value_of := ⟨_, _, F3, b3, PySem.W.mg_of X G a3⟩, is_true := ⟨_, _, F4, b4, PySem.W.mg_of X G a4⟩, Course_init := ⟨_, _, F5, b5, ⟨a5, i5, k5⟩⟩, mk_Course := ⟨mk_Course, a5, i5, kc_Course⟩, Course_choice := ⟨_, _, F6, b6, ⟨a6, i6, k6⟩⟩, Course_halved := ⟨_, _, F7, b7, ⟨a7, i7, k7⟩⟩, Course_do := ⟨_, _, F8, b8, ⟨a8, i8, k8⟩⟩, Course_parts := ⟨_, _, F9, b9, ⟨a9, i9, k9⟩⟩, Course_go := ⟨_, _, F10, b10, ⟨a10, i10, k10⟩⟩, course_of := ⟨_, _, F11, b11, PySem.W.mg_of X G a11⟩, Rule_call := ⟨_, _, F12, b12, ⟨a12, i12, k12⟩⟩, Rule_invert := ⟨_, _, F13, b13, ⟨a13, i13, k13⟩⟩, Rule_and := ⟨_, _, F14, b14, ⟨a14, i14, k14⟩⟩, Rule_or := ⟨_, _, F15, b15, ⟨a15, i15, k15⟩⟩, Rule_xor := ⟨_, _, F16, b16, ⟨a16, i16, k16⟩⟩, Rule_marks := ⟨_, _, F17, b17, ⟨a17, i17, k17⟩⟩, Down_call := ⟨_, _, F18, b18, ⟨a18, i18, k18⟩⟩, Up_call := ⟨_, _, F19, b19, ⟨a19, i19, k19⟩⟩, Even_call := ⟨_, _, F20, b20, ⟨a20, i20, k20⟩⟩, Even_marks := ⟨_, _, F21, b21, ⟨a21, i21, k21⟩⟩, Odd_call := ⟨_, _, F22, b22, ⟨a22, i22, k22⟩⟩, Odd_marks := ⟨_, _, F23, b23, ⟨a23, i23, k23⟩⟩, Zero_call := ⟨_, _, F24, b24, ⟨a24, i24, k24⟩⟩, Zero_marks := ⟨_, _, F25, b25, ⟨a25, i25, k25⟩⟩, Away_call := ⟨_, _, F26, b26, ⟨a26, i26, k26⟩⟩, Away_marks := ⟨_, _, F27, b27, ⟨a27, i27, k27⟩⟩, Below_init := ⟨_, _, F28, b28, ⟨a28, i28, k28⟩⟩, mk_Below := ⟨mk_Below, a28, i28, kc_Below⟩, Below_call := ⟨_, _, F29, b29, ⟨a29, i29, k29⟩⟩, Below_marks := ⟨_, _, F30, b30, ⟨a30, i30, k30⟩⟩, Places_init := ⟨_, _, F31, b31, ⟨a31, i31, k31⟩⟩, mk_Places := ⟨mk_Places, a31, i31, kc_Places⟩, Places_call := ⟨_, _, F32, b32, ⟨a32, i32, k32⟩⟩, Turned_init := ⟨_, _, F33, b33, ⟨a33, i33, k33⟩⟩, mk_Turned := ⟨mk_Turned, a33, i33, kc_Turned⟩, Turned_call := ⟨_, _, F34, b34, ⟨a34, i34, k34⟩⟩, Turned_marks := ⟨_, _, F35, b35, ⟨a35, i35, k35⟩⟩, Joined_init := ⟨_, _, F36, b36, ⟨a36, i36, k36⟩⟩, mk_Joined := ⟨mk_Joined, a36, i36, kc_Joined⟩, Joined_call := ⟨_, _, F37, b37, ⟨a37, i37, k37⟩⟩, Joined_marks := ⟨_, _, F38, b38, ⟨a38, i38, k38⟩⟩, run_by := ⟨_, _, F39, b39, PySem.W.mg_of X G a39⟩, l_deck := ⟨_, _, F40, b40, PySem.W.mg_of X G a40⟩, l_draw := ⟨_, _, F41, b41, PySem.W.mg_of X G a41⟩, l_one := ⟨_, _, F42, b42, PySem.W.mg_of X G a42⟩, l_names := ⟨_, _, F43, b43, PySem.W.mg_of X G a43⟩, l_expression := ⟨_, _, F44, b44, PySem.W.mg_of X G a44⟩, l_test := ⟨_, _, F45, b45, PySem.W.mg_of X G a45⟩, l_plain := ⟨_, _, F46, b46, PySem.W.mg_of X G a46⟩, l_row := ⟨_, _, F47, b47, PySem.W.mg_of X G a47⟩, l_block := ⟨_, _, F48, b48, PySem.W.mg_of X G a48⟩, l_program := ⟨_, _, F49, b49, PySem.W.mg_of X G a49⟩, l_number := ⟨_, _, F50, b50, PySem.W.mg_of X G a50⟩, l_value := ⟨_, _, F51, b51, PySem.W.mg_of X G a51⟩, l_true := ⟨_, _, F52, b52, PySem.W.mg_of X G a52⟩, l_size := ⟨_, _, F53, b53, PySem.W.mg_of X G a53⟩, l_go := ⟨_, _, F54, b54, PySem.W.mg_of X G a54⟩, l_do := ⟨_, _, F55, b55, PySem.W.mg_of X G a55⟩, l_run := ⟨_, _, F56, b56, PySem.W.mg_of X G a56⟩, l_rule := ⟨_, _, F57, b57, PySem.W.mg_of X G a57⟩, l_placed := ⟨_, _, F58, b58, PySem.W.mg_of X G a58⟩, l_way := ⟨_, _, F59, b59, PySem.W.mg_of X G a59⟩, l_chooser := ⟨_, _, F60, b60, PySem.W.mg_of X G a60⟩, law := ⟨_, _, F61, b61, PySem.W.mg_of X G a61⟩, Course := ⟨C_Course, ⟨pg_Course, hd_Course, po_Course, sa_Course⟩, PySem.W.mg_of X G aC_Course, mk_Course, kc_Course⟩, n_Course_names := n_Course_names, n_Course_said := n_Course_said, n_Course_turns := n_Course_turns, n_Course_choices := n_Course_choices, n_Course_ways := n_Course_ways, n_Course_rule := n_Course_rule, Rule := ⟨C_Rule, ⟨pg_Rule, hd_Rule, po_Rule, sa_Rule⟩, PySem.W.mg_of X G aC_Rule, mk_Rule, kc_Rule⟩, Down := ⟨C_Down, ⟨pg_Down, hd_Down, po_Down, sa_Down⟩, PySem.W.mg_of X G aC_Down, mk_Down, kc_Down⟩, Up := ⟨C_Up, ⟨pg_Up, hd_Up, po_Up, sa_Up⟩, PySem.W.mg_of X G aC_Up, mk_Up, kc_Up⟩, Even := ⟨C_Even, ⟨pg_Even, hd_Even, po_Even, sa_Even⟩, PySem.W.mg_of X G aC_Even, mk_Even, kc_Even⟩, Odd := ⟨C_Odd, ⟨pg_Odd, hd_Odd, po_Odd, sa_Odd⟩, PySem.W.mg_of X G aC_Odd, mk_Odd, kc_Odd⟩, Zero := ⟨C_Zero, ⟨pg_Zero, hd_Zero, po_Zero, sa_Zero⟩, PySem.W.mg_of X G aC_Zero, mk_Zero, kc_Zero⟩, Away := ⟨C_Away, ⟨pg_Away, hd_Away, po_Away, sa_Away⟩, PySem.W.mg_of X G aC_Away, mk_Away, kc_Away⟩, Below := ⟨C_Below, ⟨pg_Below, hd_Below, po_Below, sa_Below⟩, PySem.W.mg_of X G aC_Below, mk_Below, kc_Below⟩, n_Below_number := n_Below_number, Places := ⟨C_Places, ⟨pg_Places, hd_Places, po_Places, sa_Places⟩, PySem.W.mg_of X G aC_Places, mk_Places, kc_Places⟩, n_Places_places := n_Places_places, Turned := ⟨C_Turned, ⟨pg_Turned, hd_Turned, po_Turned, sa_Turned⟩, PySem.W.mg_of X G aC_Turned, mk_Turned, kc_Turned⟩, n_Turned_inner := n_Turned_inner, Joined := ⟨C_Joined, ⟨pg_Joined, hd_Joined, po_Joined, sa_Joined⟩, PySem.W.mg_of X G aC_Joined, mk_Joined, kc_Joined⟩, n_Joined_word := n_Joined_word, n_Joined_one := n_Joined_one, n_Joined_other := n_Joined_other, is_Rule := is_Rule, op_Rule := ⟨⟨ocd_Rule, ors_Rule, ⟨oth, ot_Rule, oc_Rule, on_Rule, ol_Rule⟩, om_Rule⟩, oi_Rule, oa_Rule, oar_Rule, oo_Rule, oor_Rule, ox_Rule, oxr_Rule, of_Rule⟩, is_Down := is_Down, op_Down := ⟨⟨ocd_Down, ors_Down, ⟨oth, ot_Down, oc_Down, on_Down, ol_Down⟩, om_Down⟩, oi_Down, oa_Down, oar_Down, oo_Down, oor_Down, ox_Down, oxr_Down, of_Down⟩, is_Up := is_Up, op_Up := ⟨⟨ocd_Up, ors_Up, ⟨oth, ot_Up, oc_Up, on_Up, ol_Up⟩, om_Up⟩, oi_Up, oa_Up, oar_Up, oo_Up, oor_Up, ox_Up, oxr_Up, of_Up⟩, is_Even := is_Even, op_Even := ⟨⟨ocd_Even, ors_Even, ⟨oth, ot_Even, oc_Even, on_Even, ol_Even⟩, om_Even⟩, oi_Even, oa_Even, oar_Even, oo_Even, oor_Even, ox_Even, oxr_Even, of_Even⟩, is_Odd := is_Odd, op_Odd := ⟨⟨ocd_Odd, ors_Odd, ⟨oth, ot_Odd, oc_Odd, on_Odd, ol_Odd⟩, om_Odd⟩, oi_Odd, oa_Odd, oar_Odd, oo_Odd, oor_Odd, ox_Odd, oxr_Odd, of_Odd⟩, is_Zero := is_Zero, op_Zero := ⟨⟨ocd_Zero, ors_Zero, ⟨oth, ot_Zero, oc_Zero, on_Zero, ol_Zero⟩, om_Zero⟩, oi_Zero, oa_Zero, oar_Zero, oo_Zero, oor_Zero, ox_Zero, oxr_Zero, of_Zero⟩, is_Away := is_Away, op_Away := ⟨⟨ocd_Away, ors_Away, ⟨oth, ot_Away, oc_Away, on_Away, ol_Away⟩, om_Away⟩, oi_Away, oa_Away, oar_Away, oo_Away, oor_Away, ox_Away, oxr_Away, of_Away⟩, is_Below := is_Below, op_Below := ⟨⟨ocd_Below, ors_Below, ⟨oth, ot_Below, oc_Below, on_Below, ol_Below⟩, om_Below⟩, oi_Below, oa_Below, oar_Below, oo_Below, oor_Below, ox_Below, oxr_Below, of_Below⟩, is_Places := is_Places, op_Places := ⟨⟨ocd_Places, ors_Places, ⟨oth, ot_Places, oc_Places, on_Places, ol_Places⟩, om_Places⟩, oi_Places, oa_Places, oar_Places, oo_Places, oor_Places, ox_Places, oxr_Places, of_Places⟩, is_Turned := is_Turned, op_Turned := ⟨⟨ocd_Turned, ors_Turned, ⟨oth, ot_Turned, oc_Turned, on_Turned, ol_Turned⟩, om_Turned⟩, oi_Turned, oa_Turned, oar_Turned, oo_Turned, oor_Turned, ox_Turned, oxr_Turned, of_Turned⟩, is_Joined := is_Joined, op_Joined := ⟨⟨ocd_Joined, ors_Joined, ⟨oth, ot_Joined, oc_Joined, on_Joined, ol_Joined⟩, om_Joined⟩, oi_Joined, oa_Joined, oar_Joined, oo_Joined, oor_Joined, ox_Joined, oxr_Joined, of_Joined⟩, t_DOWN := t_DOWN, g_DOWN := PySem.W.mg_of X G g_DOWN, t_INPUT := t_INPUT, g_INPUT := PySem.W.mg_of X G g_INPUT, abs := PySem.W.mg_none_of X G z_abs, int := PySem.W.mg_none_of X G z_int, isinstance := PySem.W.mg_none_of X G z_isinstance, len := PySem.W.mg_none_of X G z_len, max := PySem.W.mg_none_of X G z_max, range := PySem.W.mg_none_of X G z_range, repr := PySem.W.mg_none_of X G z_repr, set := PySem.W.mg_none_of X G z_set, sorted := PySem.W.mg_none_of X G z_sorted, str := PySem.W.mg_none_of X G z_str, sum := PySem.W.mg_none_of X G z_sum, tuple := PySem.W.mg_none_of X G z_tuple }) rfl TB⟩
end EH
open PySem PySem.W PyProof.Rows
set_option maxRecDepth 100000 in
set_option maxHeartbeats 0 in
theorem PySem.Challenge.cw_eitherhalf_k43_runs_by_rules_holds : PySem.Challenge.rw_eitherhalf_k43_runs_by_rules.Holds := by
  w_on; o_law; km_head; (case hw => w_witness2)
  k_fill
  refine EH.walk_ofGT (l := PySem.Challenge.rw_eitherhalf_k43_runs_by_rules) (n := 63) (k := 33) (x := "_law_script") rfl (by decide) rfl ⟨rfl, by decide, by decide⟩ (fun w h Y => PySem.W.km_in_of Y) ?F
  case F =>
    intro w mg fa h Y KX G hmg
    refine' EH.all_mk KX G hmg ?aC_Course ?pg_Course ?hd_Course ?po_Course ?sa_Course ?mk_Course ?kc_Course ?aC_Rule ?pg_Rule ?hd_Rule ?po_Rule ?sa_Rule ?mk_Rule ?kc_Rule ?i0_Rule ?aC_Down ?pg_Down ?hd_Down ?po_Down ?sa_Down ?mk_Down ?kc_Down ?i0_Down ?aC_Up ?pg_Up ?hd_Up ?po_Up ?sa_Up ?mk_Up ?kc_Up ?i0_Up ?aC_Even ?pg_Even ?hd_Even ?po_Even ?sa_Even ?mk_Even ?kc_Even ?i0_Even ?aC_Odd ?pg_Odd ?hd_Odd ?po_Odd ?sa_Odd ?mk_Odd ?kc_Odd ?i0_Odd ?aC_Zero ?pg_Zero ?hd_Zero ?po_Zero ?sa_Zero ?mk_Zero ?kc_Zero ?i0_Zero ?aC_Away ?pg_Away ?hd_Away ?po_Away ?sa_Away ?mk_Away ?kc_Away ?i0_Away ?aC_Below ?pg_Below ?hd_Below ?po_Below ?sa_Below ?mk_Below ?kc_Below ?aC_Places ?pg_Places ?hd_Places ?po_Places ?sa_Places ?mk_Places ?kc_Places ?aC_Turned ?pg_Turned ?hd_Turned ?po_Turned ?sa_Turned ?mk_Turned ?kc_Turned ?aC_Joined ?pg_Joined ?hd_Joined ?po_Joined ?sa_Joined ?mk_Joined ?kc_Joined ?a1 ?l1 ?c1 ?k1 ?a2 ?l2 ?c2 ?k2 ?a3 ?l3 ?c3 ?k3 ?a4 ?l4 ?c4 ?k4 ?a5 ?i5 ?l5 ?c5 ?k5 ?a6 ?i6 ?l6 ?c6 ?k6 ?a7 ?i7 ?l7 ?c7 ?k7 ?a8 ?i8 ?l8 ?c8 ?k8 ?a9 ?i9 ?l9 ?c9 ?k9 ?a10 ?i10 ?l10 ?c10 ?k10 ?a11 ?l11 ?c11 ?k11 ?a12 ?i12 ?l12 ?c12 ?k12 ?a13 ?i13 ?l13 ?c13 ?k13 ?a14 ?i14 ?l14 ?c14 ?k14 ?a15 ?i15 ?l15 ?c15 ?k15 ?a16 ?i16 ?l16 ?c16 ?k16 ?a17 ?i17 ?l17 ?c17 ?k17 ?a18 ?i18 ?l18 ?c18 ?k18 ?a19 ?i19 ?l19 ?c19 ?k19 ?a20 ?i20 ?l20 ?c20 ?k20 ?a21 ?i21 ?l21 ?c21 ?k21 ?a22 ?i22 ?l22 ?c22 ?k22 ?a23 ?i23 ?l23 ?c23 ?k23 ?a24 ?i24 ?l24 ?c24 ?k24 ?a25 ?i25 ?l25 ?c25 ?k25 ?a26 ?i26 ?l26 ?c26 ?k26 ?a27 ?i27 ?l27 ?c27 ?k27 ?a28 ?i28 ?l28 ?c28 ?k28 ?a29 ?i29 ?l29 ?c29 ?k29 ?a30 ?i30 ?l30 ?c30 ?k30 ?a31 ?i31 ?l31 ?c31 ?k31 ?a32 ?i32 ?l32 ?c32 ?k32 ?a33 ?i33 ?l33 ?c33 ?k33 ?a34 ?i34 ?l34 ?c34 ?k34 ?a35 ?i35 ?l35 ?c35 ?k35 ?a36 ?i36 ?l36 ?c36 ?k36 ?a37 ?i37 ?l37 ?c37 ?k37 ?a38 ?i38 ?l38 ?c38 ?k38 ?a39 ?l39 ?c39 ?k39 ?a40 ?l40 ?c40 ?k40 ?a41 ?l41 ?c41 ?k41 ?a42 ?l42 ?c42 ?k42 ?a43 ?l43 ?c43 ?k43 ?a44 ?l44 ?c44 ?k44 ?a45 ?l45 ?c45 ?k45 ?a46 ?l46 ?c46 ?k46 ?a47 ?l47 ?c47 ?k47 ?a48 ?l48 ?c48 ?k48 ?a49 ?l49 ?c49 ?k49 ?a50 ?l50 ?c50 ?k50 ?a51 ?l51 ?c51 ?k51 ?a52 ?l52 ?c52 ?k52 ?a53 ?l53 ?c53 ?k53 ?a54 ?l54 ?c54 ?k54 ?a55 ?l55 ?c55 ?k55 ?a56 ?l56 ?c56 ?k56 ?a57 ?l57 ?c57 ?k57 ?a58 ?l58 ?c58 ?k58 ?a59 ?l59 ?c59 ?k59 ?a60 ?l60 ?c60 ?tlk ?te11 ?tch ?tno ?ttb ?k60 ?a61 ?l61 ?c61 ?k61 ?n_Course_names ?n_Course_said ?n_Course_turns ?n_Course_choices ?n_Course_ways ?n_Course_rule ?n_Below_number ?n_Places_places ?n_Turned_inner ?n_Joined_word ?n_Joined_one ?n_Joined_other ?oth ?ot_Rule ?oc_Rule ?om_Rule ?on_Rule ?ol_Rule ?oi_Rule ?oa_Rule ?oar_Rule ?oo_Rule ?oor_Rule ?ox_Rule ?oxr_Rule ?of_Rule ?is_Rule ?ot_Down ?oc_Down ?om_Down ?on_Down ?ol_Down ?oi_Down ?oa_Down ?oar_Down ?oo_Down ?oor_Down ?ox_Down ?oxr_Down ?of_Down ?is_Down ?ot_Up ?oc_Up ?om_Up ?on_Up ?ol_Up ?oi_Up ?oa_Up ?oar_Up ?oo_Up ?oor_Up ?ox_Up ?oxr_Up ?of_Up ?is_Up ?ot_Even ?oc_Even ?om_Even ?on_Even ?ol_Even ?oi_Even ?oa_Even ?oar_Even ?oo_Even ?oor_Even ?ox_Even ?oxr_Even ?of_Even ?is_Even ?ot_Odd ?oc_Odd ?om_Odd ?on_Odd ?ol_Odd ?oi_Odd ?oa_Odd ?oar_Odd ?oo_Odd ?oor_Odd ?ox_Odd ?oxr_Odd ?of_Odd ?is_Odd ?ot_Zero ?oc_Zero ?om_Zero ?on_Zero ?ol_Zero ?oi_Zero ?oa_Zero ?oar_Zero ?oo_Zero ?oor_Zero ?ox_Zero ?oxr_Zero ?of_Zero ?is_Zero ?ot_Away ?oc_Away ?om_Away ?on_Away ?ol_Away ?oi_Away ?oa_Away ?oar_Away ?oo_Away ?oor_Away ?ox_Away ?oxr_Away ?of_Away ?is_Away ?ot_Below ?oc_Below ?om_Below ?on_Below ?ol_Below ?oi_Below ?oa_Below ?oar_Below ?oo_Below ?oor_Below ?ox_Below ?oxr_Below ?of_Below ?is_Below ?ot_Places ?oc_Places ?om_Places ?on_Places ?ol_Places ?oi_Places ?oa_Places ?oar_Places ?oo_Places ?oor_Places ?ox_Places ?oxr_Places ?of_Places ?is_Places ?ot_Turned ?oc_Turned ?om_Turned ?on_Turned ?ol_Turned ?oi_Turned ?oa_Turned ?oar_Turned ?oo_Turned ?oor_Turned ?ox_Turned ?oxr_Turned ?of_Turned ?is_Turned ?ot_Joined ?oc_Joined ?om_Joined ?on_Joined ?ol_Joined ?oi_Joined ?oa_Joined ?oar_Joined ?oo_Joined ?oor_Joined ?ox_Joined ?oxr_Joined ?of_Joined ?is_Joined ?g_DOWN ?g_INPUT ?z_abs ?z_int ?z_isinstance ?z_len ?z_max ?z_range ?z_repr ?z_set ?z_sorted ?z_str ?z_sum ?z_tuple
    (case aC_Course => k_is)
    (case pg_Course => k_is)
    (case hd_Course => k_is)
    (case po_Course => k_is)
    (case sa_Course => k_is)
    (case mk_Course => k_is)
    (case kc_Course => k_is)
    (case aC_Rule => k_is)
    (case pg_Rule => k_is)
    (case hd_Rule => k_is)
    (case po_Rule => k_is)
    (case sa_Rule => k_is)
    (case mk_Rule => k_is)
    (case kc_Rule => k_is)
    (case i0_Rule => k_is)
    (case aC_Down => k_is)
    (case pg_Down => k_is)
    (case hd_Down => k_is)
    (case po_Down => k_is)
    (case sa_Down => k_is)
    (case mk_Down => k_is)
    (case kc_Down => k_is)
    (case i0_Down => k_is)
    (case aC_Up => k_is)
    (case pg_Up => k_is)
    (case hd_Up => k_is)
    (case po_Up => k_is)
    (case sa_Up => k_is)
    (case mk_Up => k_is)
    (case kc_Up => k_is)
    (case i0_Up => k_is)
    (case aC_Even => k_is)
    (case pg_Even => k_is)
    (case hd_Even => k_is)
    (case po_Even => k_is)
    (case sa_Even => k_is)
    (case mk_Even => k_is)
    (case kc_Even => k_is)
    (case i0_Even => k_is)
    (case aC_Odd => k_is)
    (case pg_Odd => k_is)
    (case hd_Odd => k_is)
    (case po_Odd => k_is)
    (case sa_Odd => k_is)
    (case mk_Odd => k_is)
    (case kc_Odd => k_is)
    (case i0_Odd => k_is)
    (case aC_Zero => k_is)
    (case pg_Zero => k_is)
    (case hd_Zero => k_is)
    (case po_Zero => k_is)
    (case sa_Zero => k_is)
    (case mk_Zero => k_is)
    (case kc_Zero => k_is)
    (case i0_Zero => k_is)
    (case aC_Away => k_is)
    (case pg_Away => k_is)
    (case hd_Away => k_is)
    (case po_Away => k_is)
    (case sa_Away => k_is)
    (case mk_Away => k_is)
    (case kc_Away => k_is)
    (case i0_Away => k_is)
    (case aC_Below => k_is)
    (case pg_Below => k_is)
    (case hd_Below => k_is)
    (case po_Below => k_is)
    (case sa_Below => k_is)
    (case mk_Below => k_is)
    (case kc_Below => k_is)
    (case aC_Places => k_is)
    (case pg_Places => k_is)
    (case hd_Places => k_is)
    (case po_Places => k_is)
    (case sa_Places => k_is)
    (case mk_Places => k_is)
    (case kc_Places => k_is)
    (case aC_Turned => k_is)
    (case pg_Turned => k_is)
    (case hd_Turned => k_is)
    (case po_Turned => k_is)
    (case sa_Turned => k_is)
    (case mk_Turned => k_is)
    (case kc_Turned => k_is)
    (case aC_Joined => k_is)
    (case pg_Joined => k_is)
    (case hd_Joined => k_is)
    (case po_Joined => k_is)
    (case sa_Joined => k_is)
    (case mk_Joined => k_is)
    (case kc_Joined => k_is)
    (case a1 => k_is)
    (case l1 => k_is)
    (case c1 => k_is)
    (case k1 => k_is)
    (case a2 => k_is)
    (case l2 => k_is)
    (case c2 => k_is)
    (case k2 => k_is)
    (case a3 => k_is)
    (case l3 => k_is)
    (case c3 => k_is)
    (case k3 => k_is)
    (case a4 => k_is)
    (case l4 => k_is)
    (case c4 => k_is)
    (case k4 => k_is)
    (case a5 => k_is)
    (case i5 => k_is)
    (case l5 => k_is)
    (case c5 => k_is)
    (case k5 => k_is)
    (case a6 => k_is)
    (case i6 => k_is)
    (case l6 => k_is)
    (case c6 => k_is)
    (case k6 => k_is)
    (case a7 => k_is)
    (case i7 => k_is)
    (case l7 => k_is)
    (case c7 => k_is)
    (case k7 => k_is)
    (case a8 => k_is)
    (case i8 => k_is)
    (case l8 => k_is)
    (case c8 => k_is)
    (case k8 => k_is)
    (case a9 => k_is)
    (case i9 => k_is)
    (case l9 => k_is)
    (case c9 => k_is)
    (case k9 => k_is)
    (case a10 => k_is)
    (case i10 => k_is)
    (case l10 => k_is)
    (case c10 => k_is)
    (case k10 => k_is)
    (case a11 => k_is)
    (case l11 => k_is)
    (case c11 => k_is)
    (case k11 => k_is)
    (case a12 => k_is)
    (case i12 => k_is)
    (case l12 => k_is)
    (case c12 => k_is)
    (case k12 => k_is)
    (case a13 => k_is)
    (case i13 => k_is)
    (case l13 => k_is)
    (case c13 => k_is)
    (case k13 => k_is)
    (case a14 => k_is)
    (case i14 => k_is)
    (case l14 => k_is)
    (case c14 => k_is)
    (case k14 => k_is)
    (case a15 => k_is)
    (case i15 => k_is)
    (case l15 => k_is)
    (case c15 => k_is)
    (case k15 => k_is)
    (case a16 => k_is)
    (case i16 => k_is)
    (case l16 => k_is)
    (case c16 => k_is)
    (case k16 => k_is)
    (case a17 => k_is)
    (case i17 => k_is)
    (case l17 => k_is)
    (case c17 => k_is)
    (case k17 => k_is)
    (case a18 => k_is)
    (case i18 => k_is)
    (case l18 => k_is)
    (case c18 => k_is)
    (case k18 => k_is)
    (case a19 => k_is)
    (case i19 => k_is)
    (case l19 => k_is)
    (case c19 => k_is)
    (case k19 => k_is)
    (case a20 => k_is)
    (case i20 => k_is)
    (case l20 => k_is)
    (case c20 => k_is)
    (case k20 => k_is)
    (case a21 => k_is)
    (case i21 => k_is)
    (case l21 => k_is)
    (case c21 => k_is)
    (case k21 => k_is)
    (case a22 => k_is)
    (case i22 => k_is)
    (case l22 => k_is)
    (case c22 => k_is)
    (case k22 => k_is)
    (case a23 => k_is)
    (case i23 => k_is)
    (case l23 => k_is)
    (case c23 => k_is)
    (case k23 => k_is)
    (case a24 => k_is)
    (case i24 => k_is)
    (case l24 => k_is)
    (case c24 => k_is)
    (case k24 => k_is)
    (case a25 => k_is)
    (case i25 => k_is)
    (case l25 => k_is)
    (case c25 => k_is)
    (case k25 => k_is)
    (case a26 => k_is)
    (case i26 => k_is)
    (case l26 => k_is)
    (case c26 => k_is)
    (case k26 => k_is)
    (case a27 => k_is)
    (case i27 => k_is)
    (case l27 => k_is)
    (case c27 => k_is)
    (case k27 => k_is)
    (case a28 => k_is)
    (case i28 => k_is)
    (case l28 => k_is)
    (case c28 => k_is)
    (case k28 => k_is)
    (case a29 => k_is)
    (case i29 => k_is)
    (case l29 => k_is)
    (case c29 => k_is)
    (case k29 => k_is)
    (case a30 => k_is)
    (case i30 => k_is)
    (case l30 => k_is)
    (case c30 => k_is)
    (case k30 => k_is)
    (case a31 => k_is)
    (case i31 => k_is)
    (case l31 => k_is)
    (case c31 => k_is)
    (case k31 => k_is)
    (case a32 => k_is)
    (case i32 => k_is)
    (case l32 => k_is)
    (case c32 => k_is)
    (case k32 => k_is)
    (case a33 => k_is)
    (case i33 => k_is)
    (case l33 => k_is)
    (case c33 => k_is)
    (case k33 => k_is)
    (case a34 => k_is)
    (case i34 => k_is)
    (case l34 => k_is)
    (case c34 => k_is)
    (case k34 => k_is)
    (case a35 => k_is)
    (case i35 => k_is)
    (case l35 => k_is)
    (case c35 => k_is)
    (case k35 => k_is)
    (case a36 => k_is)
    (case i36 => k_is)
    (case l36 => k_is)
    (case c36 => k_is)
    (case k36 => k_is)
    (case a37 => k_is)
    (case i37 => k_is)
    (case l37 => k_is)
    (case c37 => k_is)
    (case k37 => k_is)
    (case a38 => k_is)
    (case i38 => k_is)
    (case l38 => k_is)
    (case c38 => k_is)
    (case k38 => k_is)
    (case a39 => k_is)
    (case l39 => k_is)
    (case c39 => k_is)
    (case k39 => k_is)
    (case a40 => k_is)
    (case l40 => k_is)
    (case c40 => k_is)
    (case k40 => k_is)
    (case a41 => k_is)
    (case l41 => k_is)
    (case c41 => k_is)
    (case k41 => k_is)
    (case a42 => k_is)
    (case l42 => k_is)
    (case c42 => k_is)
    (case k42 => k_is)
    (case a43 => k_is)
    (case l43 => k_is)
    (case c43 => k_is)
    (case k43 => k_is)
    (case a44 => k_is)
    (case l44 => k_is)
    (case c44 => k_is)
    (case k44 => k_is)
    (case a45 => k_is)
    (case l45 => k_is)
    (case c45 => k_is)
    (case k45 => k_is)
    (case a46 => k_is)
    (case l46 => k_is)
    (case c46 => k_is)
    (case k46 => k_is)
    (case a47 => k_is)
    (case l47 => k_is)
    (case c47 => k_is)
    (case k47 => k_is)
    (case a48 => k_is)
    (case l48 => k_is)
    (case c48 => k_is)
    (case k48 => k_is)
    (case a49 => k_is)
    (case l49 => k_is)
    (case c49 => k_is)
    (case k49 => k_is)
    (case a50 => k_is)
    (case l50 => k_is)
    (case c50 => k_is)
    (case k50 => k_is)
    (case a51 => k_is)
    (case l51 => k_is)
    (case c51 => k_is)
    (case k51 => k_is)
    (case a52 => k_is)
    (case l52 => k_is)
    (case c52 => k_is)
    (case k52 => k_is)
    (case a53 => k_is)
    (case l53 => k_is)
    (case c53 => k_is)
    (case k53 => k_is)
    (case a54 => k_is)
    (case l54 => k_is)
    (case c54 => k_is)
    (case k54 => k_is)
    (case a55 => k_is)
    (case l55 => k_is)
    (case c55 => k_is)
    (case k55 => k_is)
    (case a56 => k_is)
    (case l56 => k_is)
    (case c56 => k_is)
    (case k56 => k_is)
    (case a57 => k_is)
    (case l57 => k_is)
    (case c57 => k_is)
    (case k57 => k_is)
    (case a58 => k_is)
    (case l58 => k_is)
    (case c58 => k_is)
    (case k58 => k_is)
    (case a59 => k_is)
    (case l59 => k_is)
    (case c59 => k_is)
    (case k59 => k_is)
    (case a60 => k_is)
    (case l60 => k_is)
    (case c60 => k_is)
    (case tlk => k_is)
    (case te11 => exact rfl)
    (case tch => kernel_rfl)
    (case tno => kernel_rfl)
    (case ttb => exact PySem.W.km_tabs_of Y _ (by k_mem))
    (case k60 => k_is)
    (case a61 => k_is)
    (case l61 => k_is)
    (case c61 => k_is)
    (case k61 => k_is)
    (case n_Course_names => k_is)
    (case n_Course_said => k_is)
    (case n_Course_turns => k_is)
    (case n_Course_choices => k_is)
    (case n_Course_ways => k_is)
    (case n_Course_rule => k_is)
    (case n_Below_number => k_is)
    (case n_Places_places => k_is)
    (case n_Turned_inner => k_is)
    (case n_Joined_word => k_is)
    (case n_Joined_one => k_is)
    (case n_Joined_other => k_is)
    (case oth => k_is)
    (case ot_Rule => k_is)
    (case oc_Rule => k_is)
    (case om_Rule => exact rfl)
    (case on_Rule => decide +kernel)
    (case ol_Rule => decide +kernel)
    (case oi_Rule => k_is)
    (case oa_Rule => k_is)
    (case oar_Rule => k_is)
    (case oo_Rule => k_is)
    (case oor_Rule => k_is)
    (case ox_Rule => k_is)
    (case oxr_Rule => k_is)
    (case of_Rule => k_is)
    (case is_Rule => k_is)
    (case ot_Down => k_is)
    (case oc_Down => k_is)
    (case om_Down => exact rfl)
    (case on_Down => decide +kernel)
    (case ol_Down => decide +kernel)
    (case oi_Down => k_is)
    (case oa_Down => k_is)
    (case oar_Down => k_is)
    (case oo_Down => k_is)
    (case oor_Down => k_is)
    (case ox_Down => k_is)
    (case oxr_Down => k_is)
    (case of_Down => k_is)
    (case is_Down => k_is)
    (case ot_Up => k_is)
    (case oc_Up => k_is)
    (case om_Up => exact rfl)
    (case on_Up => decide +kernel)
    (case ol_Up => decide +kernel)
    (case oi_Up => k_is)
    (case oa_Up => k_is)
    (case oar_Up => k_is)
    (case oo_Up => k_is)
    (case oor_Up => k_is)
    (case ox_Up => k_is)
    (case oxr_Up => k_is)
    (case of_Up => k_is)
    (case is_Up => k_is)
    (case ot_Even => k_is)
    (case oc_Even => k_is)
    (case om_Even => exact rfl)
    (case on_Even => decide +kernel)
    (case ol_Even => decide +kernel)
    (case oi_Even => k_is)
    (case oa_Even => k_is)
    (case oar_Even => k_is)
    (case oo_Even => k_is)
    (case oor_Even => k_is)
    (case ox_Even => k_is)
    (case oxr_Even => k_is)
    (case of_Even => k_is)
    (case is_Even => k_is)
    (case ot_Odd => k_is)
    (case oc_Odd => k_is)
    (case om_Odd => exact rfl)
    (case on_Odd => decide +kernel)
    (case ol_Odd => decide +kernel)
    (case oi_Odd => k_is)
    (case oa_Odd => k_is)
    (case oar_Odd => k_is)
    (case oo_Odd => k_is)
    (case oor_Odd => k_is)
    (case ox_Odd => k_is)
    (case oxr_Odd => k_is)
    (case of_Odd => k_is)
    (case is_Odd => k_is)
    (case ot_Zero => k_is)
    (case oc_Zero => k_is)
    (case om_Zero => exact rfl)
    (case on_Zero => decide +kernel)
    (case ol_Zero => decide +kernel)
    (case oi_Zero => k_is)
    (case oa_Zero => k_is)
    (case oar_Zero => k_is)
    (case oo_Zero => k_is)
    (case oor_Zero => k_is)
    (case ox_Zero => k_is)
    (case oxr_Zero => k_is)
    (case of_Zero => k_is)
    (case is_Zero => k_is)
    (case ot_Away => k_is)
    (case oc_Away => k_is)
    (case om_Away => exact rfl)
    (case on_Away => decide +kernel)
    (case ol_Away => decide +kernel)
    (case oi_Away => k_is)
    (case oa_Away => k_is)
    (case oar_Away => k_is)
    (case oo_Away => k_is)
    (case oor_Away => k_is)
    (case ox_Away => k_is)
    (case oxr_Away => k_is)
    (case of_Away => k_is)
    (case is_Away => k_is)
    (case ot_Below => k_is)
    (case oc_Below => k_is)
    (case om_Below => exact rfl)
    (case on_Below => decide +kernel)
    (case ol_Below => decide +kernel)
    (case oi_Below => k_is)
    (case oa_Below => k_is)
    (case oar_Below => k_is)
    (case oo_Below => k_is)
    (case oor_Below => k_is)
    (case ox_Below => k_is)
    (case oxr_Below => k_is)
    (case of_Below => k_is)
    (case is_Below => k_is)
    (case ot_Places => k_is)
    (case oc_Places => k_is)
    (case om_Places => exact rfl)
    (case on_Places => decide +kernel)
    (case ol_Places => decide +kernel)
    (case oi_Places => k_is)
    (case oa_Places => k_is)
    (case oar_Places => k_is)
    (case oo_Places => k_is)
    (case oor_Places => k_is)
    (case ox_Places => k_is)
    (case oxr_Places => k_is)
    (case of_Places => k_is)
    (case is_Places => k_is)
    (case ot_Turned => k_is)
    (case oc_Turned => k_is)
    (case om_Turned => exact rfl)
    (case on_Turned => decide +kernel)
    (case ol_Turned => decide +kernel)
    (case oi_Turned => k_is)
    (case oa_Turned => k_is)
    (case oar_Turned => k_is)
    (case oo_Turned => k_is)
    (case oor_Turned => k_is)
    (case ox_Turned => k_is)
    (case oxr_Turned => k_is)
    (case of_Turned => k_is)
    (case is_Turned => k_is)
    (case ot_Joined => k_is)
    (case oc_Joined => k_is)
    (case om_Joined => exact rfl)
    (case on_Joined => decide +kernel)
    (case ol_Joined => decide +kernel)
    (case oi_Joined => k_is)
    (case oa_Joined => k_is)
    (case oar_Joined => k_is)
    (case oo_Joined => k_is)
    (case oor_Joined => k_is)
    (case ox_Joined => k_is)
    (case oxr_Joined => k_is)
    (case of_Joined => k_is)
    (case is_Joined => k_is)
    (case g_DOWN => k_is)
    (case g_INPUT => k_is)
    (case z_abs => k_is)
    (case z_int => k_is)
    (case z_isinstance => k_is)
    (case z_len => k_is)
    (case z_max => k_is)
    (case z_range => k_is)
    (case z_repr => k_is)
    (case z_set => k_is)
    (case z_sorted => k_is)
    (case z_str => k_is)
    (case z_sum => k_is)
    (case z_tuple => k_is)
#print axioms PySem.Challenge.cw_eitherhalf_k43_runs_by_rules_holds
