import PyProof.Rows.All
import Wide.All
import OpenK.AllK
import Wide.FinOn
import HandS.ForMost
import HandS.Wide
import HandS.TupAny
import HandS.TupMul
import HandS.IsInst
import HandS.Codes
import HandS.ExcInit
import HandS.WordsExc
import HandS.TryMany
import HandS.WrittenGet
import HandS.Dict
import HandS.Style
import HandS.Deep
import HandS.Text
import HandS.Iter
import HandS.Walk
import HandS.ExcValue
import HandS.ExcOwn
import KE.SortData
import HandS.Conv
import KE.KDictSum
import HandS.Lambda
import HandS.EndTab
import HandS.More
import HandS.RaiseMore
import HandS.Call
import HandS.StrMore
import HandS.StrSplit
import KE.IntTextLaws
import PySem.Challenge.RW_eitherhalf_k05_whole_beginnings_of_texts
set_option Elab.async false
set_option linter.all false
set_option maxRecDepth 100000
set_option maxHeartbeats 4000000
namespace EH
open PySem L2
def topS (i : Nat) : Stmt := PySem.Challenge.pw_eitherhalf_k05_whole_beginnings_of_texts.main.body.getD i (.Pass ⟨0, 0, 0, 0⟩)
abbrev s_BadText_init : Stmt := inClass (topS 12) 0
abbrev s_BadProgram_init : Stmt := inClass (topS 13) 0
abbrev s_is_whole : Stmt := topS 20
abbrev s_is_word_programs : Stmt := topS 21
abbrev s_is_name_programs : Stmt := topS 23
abbrev s_is_expression : Stmt := topS 25
abbrev s_is_test : Stmt := topS 26
abbrev s_is_plain : Stmt := topS 27
abbrev s_is_statement : Stmt := topS 28
abbrev s_blocks_of : Stmt := topS 29
abbrev s_items_within : Stmt := topS 30
abbrev s_rows_of : Stmt := topS 31
abbrev s_order_error : Stmt := topS 32
abbrev s_bare : Stmt := topS 33
abbrev s_own_count : Stmt := topS 34
abbrev s_counted : Stmt := topS 35
abbrev s_weight : Stmt := topS 36
abbrev s_program_error : Stmt := topS 37
abbrev s_expression_text : Stmt := topS 49
abbrev s_test_text : Stmt := topS 50
abbrev s_line_text : Stmt := topS 51
abbrev s_part_lines : Stmt := topS 52
abbrev s_block_lines : Stmt := topS 53
abbrev s_program_text : Stmt := topS 54
abbrev s_is_word_texts : Stmt := topS 55
abbrev s_is_name_texts : Stmt := topS 57
abbrev s_integer_of : Stmt := topS 59
abbrev s_sum_at : Stmt := topS 60
abbrev s_expression_at : Stmt := topS 61
abbrev s_expression_of : Stmt := topS 62
abbrev s_plain_test_of : Stmt := topS 63
abbrev s_test_of : Stmt := topS 64
abbrev s_setting_of : Stmt := topS 65
abbrev s_statement_of : Stmt := topS 66
abbrev s_Part_init : Stmt := inClass (topS 67) 0
abbrev s_Part_lacks_line : Stmt := inClass (topS 67) 1
abbrev s_ProgramReader_init : Stmt := inClass (topS 68) 0
abbrev s_ProgramReader_close : Stmt := inClass (topS 68) 1
abbrev s_ProgramReader_come_to : Stmt := inClass (topS 68) 2
abbrev s_ProgramReader_read : Stmt := inClass (topS 68) 3
abbrev s_ProgramReader_put : Stmt := inClass (topS 68) 4
abbrev s_parse_program : Stmt := topS 69
abbrev s_l_deck : Stmt := topS 71
abbrev s_l_draw : Stmt := topS 72
abbrev s_l_one : Stmt := topS 73
abbrev s_l_expr : Stmt := topS 74
abbrev s_l_test : Stmt := topS 75
abbrev s_l_block : Stmt := topS 76
abbrev s_l_if : Stmt := topS 77
abbrev s_l_statement : Stmt := topS 78
abbrev s_l_program : Stmt := topS 79
abbrev s_l_names : Stmt := topS 80
abbrev s_l_parsed : Stmt := topS 81
abbrev s_law : Stmt := topS 82

/-! ### what is kept but for some addresses -/
structure Kp (S : List Addr) (H H' : Hp) : Prop where
  keep : ∀ b o, H b = some o → b ∉ S → H' b = some o
  tup : ∀ b xs, H b = some (.tup xs) → H' b = some (.tup xs)
  ext : ∀ b φ, H b = some (.ext φ) → H' b = some (.ext φ)
theorem Kp.refl {S : List Addr} {H : Hp} : Kp S H H := ⟨fun _ _ h _ => h, fun _ _ h => h, fun _ _ h => h⟩
theorem Kp.trans {S : List Addr} {H H1 H2 : Hp} (a : Kp S H H1) (b : Kp S H1 H2) : Kp S H H2 := ⟨fun c o h n => b.keep c o (a.keep c o h n) n, fun c xs h => b.tup c xs (a.tup c xs h), fun c φ h => b.ext c φ (a.ext c φ h)⟩
theorem Kp.sub {S S' : List Addr} {H H1 : Hp} (a : Kp S H H1) (h : ∀ b, b ∈ S → b ∈ S') : Kp S' H H1 := ⟨fun c o e n => a.keep c o e fun z => n (h c z), a.tup, a.ext⟩
theorem Kp.at {H H1 : Hp} {b : Addr} {o : HO} (a : Kp [] H H1) (h : H b = some o) : H1 b = some o := a.keep b o h (by simp)
theorem Kp.free {S : List Addr} {H H1 : Hp} {p : Addr} (a : Kp S H H1) (h : H1 p = none) (n : p ∉ S) : H p = none := by
  cases e : H p with
  | none => rfl
  | some o =>
    rw [a.keep p o e n] at h
    cases h
theorem Kp.step {S S1 : List Addr} {H H1 H2 : Hp} (a : Kp S H H1) (b : Kp S1 H1 H2) (h : ∀ p ∈ S1, p ∈ S ∨ H p = none) : Kp S H H2 :=
  ⟨fun c o e n => b.keep c o (a.keep c o e n) fun z => (h c z).elim n fun y => (by rw [y] at e; cases e), fun c xs e => b.tup c xs (a.tup c xs e), fun c φ e => b.ext c φ (a.ext c φ e)⟩
theorem Kp.step0 {S : List Addr} {H H1 H2 : Hp} (a : Kp S H H1) (b : Kp [] H1 H2) : Kp S H H2 := a.step b fun _ z => nomatch z
theorem Kp.step1 {S : List Addr} {H H1 H2 : Hp} {p : Addr} (a : Kp S H H1) (b : Kp [p] H1 H2) (h : p ∈ S ∨ H p = none) : Kp S H H2 := a.step b fun _ z => by
  rcases List.mem_cons.mp z with rfl | z
  · exact h
  · cases z
theorem Kp.new {H : Hp} {p : Addr} {u : HO} (h : H p = none) : Kp [] H (upd H p u) := ⟨fun c o e _ => by rw [upd_ne (ne_of_none e h)]; exact e, fun c o e => by rw [upd_ne (ne_of_none e h)]; exact e, fun c o e => by rw [upd_ne (ne_of_none e h)]; exact e⟩
theorem Kp.put {H : Hp} {p : Addr} {u v : HO} (h : H p = some v) (hv : ∀ xs, v ≠ .tup xs) (he : ∀ φ, v ≠ .ext φ := by intro φ z; cases z) : Kp [p] H (upd H p u) := ⟨fun c o e n => by rw [upd_ne (by intro z; subst z; exact n (by simp))]; exact e,
  fun c xs e => by rw [upd_ne (by intro z; subst z; rw [h] at e; exact hv xs (Option.some.inj e))]; exact e,
  fun c φ e => by rw [upd_ne (by intro z; subst z; rw [h] at e; exact he φ (Option.some.inj e))]; exact e⟩
theorem Kp.seq {K : PySem.W.Frag} {S : List Addr} {H H' : Hp} {a : Addr} {xs : List V} (k : Kp S H H') (h : SqL K H a xs) (n : a ∉ S) : SqL K H' a xs := by
  rcases h with (h | ⟨o, h⟩) | h
  · exact .inl (.inl (k.keep _ _ h n))
  · exact .inl (.inr ⟨o, k.keep _ _ h n⟩)
  · exact .inr h
theorem ne1 {a p : Addr} (h : a ≠ p) : a ∉ [p] := by simp [h]
theorem ne2 {a p q : Addr} (h : a ≠ p) (h2 : a ≠ q) : a ∉ [p, q] := by simp [h, h2]

/-! ### rules whose new heaps are letters -/
section
variable {X : Cx} {e : Expr} {es : List Expr} {pos : Pos}
theorem PE.imp {t t' : TE} (h : PE X e t) (i : ∀ σ H Q, t' σ H Q → t σ H Q) : PE X e t' := ⟨fun pins s σ H Q I q => h.run pins s σ H Q I (i σ H Q q)⟩
theorem OpR.imp {f : Value → Value → Sem Value} {r r' : R2} (h : OpR X f r) (i : ∀ x y H Q, r' x y H Q → r x y H Q) : OpR X f r' := fun pins s σ H x y v u Q I a b q => h pins s σ H x y v u Q I a b (i x y H Q q)
theorem CallR.imp {f : Value} {r r' : List V → Hp → VK → Prop} (h : CallR X f r) (i : ∀ xs H Q, r' xs H Q → r xs H Q) : CallR X f r' := fun pins s σ H xs us Q I a q => h pins s σ H xs us Q I a (i xs H Q q)
theorem SlR.imp {r r' : V → Option Int → Option Int → Hp → VK → Prop} (h : SlR X r) (i : ∀ x lo hi H Q, r' x lo hi H Q → r x lo hi H Q) : SlR X r' := fun pins s σ H x v vl vu lo hi sl Q I rx hs pl pu q => h pins s σ H x v vl vu lo hi sl Q I rx hs pl pu (i x lo hi H Q q)
theorem MtR.imp {id : String} {r r' : V → List V → Hp → VK → Prop} (h : MtR X id r) (i : ∀ x xs H Q, r' x xs H Q → r x xs H Q) : MtR X id r' := fun pins s σ H x xs v us Q I a b q => h pins s σ H x xs v us Q I a b (i x xs H Q q)
theorem PSet.imp {t t' : TSet} (h : PSet X t) (i : ∀ o k v H Q, t' o k v H Q → t o k v H Q) : PSet X t' := fun pins s σ H o k v ov iv u Q I a b c q => h pins s σ H o k v ov iv u Q I a b c (i o k v H Q q)
/-- a new object at p -/
def NewQ (H : Hp) (o : HO) (Q : VK) : Prop := ∀ p H2, H p = none → H2 p = some o → Kp [] H H2 → Q (.ref p) H2
theorem NewQ.to {H : Hp} {o : HO} {Q : VK} (h : NewQ H o Q) : ∀ p, H p = none → Q (.ref p) (upd H p o) := fun p hp => h p _ hp upd_same (Kp.new hp)
theorem newQ_iff {H : Hp} {o : HO} {Q : VK} (S : Prop) : (S ∧ ∀ p H2, H p = none → H2 = upd H p o → Q (.ref p) H2) = (S ∧ ∀ p, H p = none → Q (.ref p) (upd H p o)) :=
  propext ⟨fun h => ⟨h.1, fun p hp => h.2 p _ hp rfl⟩, fun h => ⟨h.1, fun p H2 hp e => e ▸ h.2 p hp⟩⟩
def tTupA (t : TA) : TE := fun σ H Q => t σ H fun xs H1 => xs.length ≤ sizeLine ∧ ∀ p H2, H1 p = none → H2 = upd H1 p (.tup xs) → Q (.ref p) H2
def tLstA (t : TA) : TE := fun σ H Q => t σ H fun xs H1 => xs.length ≤ sizeLine ∧ ∀ p H2, H1 p = none → H2 = upd H1 p (.lst xs) → Q (.ref p) H2
theorem pe_tupA {x1} {t : TA} (h : PA X es t) : PE X (.Tuple es x1 pos) (tTupA t) := PE.imp (pe_tup h) fun σ H Q q => by
  unfold tTup
  unfold tTupA at q
  simp only [newQ_iff] at q
  exact q
theorem pe_lstA {t : TA} (h : PA X es t) : PE X (.List es pos) (tLstA t) := PE.imp (pe_lst h) fun σ H Q q => by
  unfold tLst
  unfold tLstA at q
  simp only [newQ_iff] at q
  exact q
theorem new_at {H H2 : Hp} {p : Addr} {o : HO} (e : H2 = upd H p o) : H2 p = some o := by rw [e]; exact upd_same
theorem new_kp {H H2 : Hp} {p : Addr} {o : HO} (h : H p = none) (e : H2 = upd H p o) : Kp [] H H2 := by rw [e]; exact Kp.new h
/-- what follows a store at p -/
def PutQ (H : Hp) (p : Addr) (o : HO) (Q : Hp → Prop) : Prop := ∀ H2, H2 p = some o → Kp [p] H H2 → Q H2
theorem PutQ.to {H : Hp} {p : Addr} {o v : HO} {Q : Hp → Prop} (h : PutQ H p o Q) (e : H p = some v) (hv : ∀ xs, v ≠ .tup xs) (he : ∀ φ, v ≠ .ext φ := by intro φ z; cases z) : Q (upd H p o) := h _ upd_same (Kp.put e hv he)
def rSetA : TSet := fun o i v H Q => ∃ p xs k j, o = .ref p ∧ i = .int k ∧ H p = some (.lst xs) ∧ ixN xs.length k = some j ∧ PutQ H p (.lst (xs.set j v)) Q
theorem set_listA : PSet X rSetA := PSet.imp set_list fun o i v H Q ⟨p, xs, k, j, a, b, c, d, q⟩ => ⟨p, xs, k, j, a, b, c, d, q.to c (fun _ z => by cases z)⟩
def rAppendA : V → List V → Hp → VK → Prop := fun x vs H Q => ∃ l xs y, x = .ref l ∧ vs = [y] ∧ H l = some (.lst xs) ∧ xs.length < sizeLine ∧ PutQ H l (.lst (xs ++ [y])) (Q .non)
def rExtendA : V → List V → Hp → VK → Prop := fun x vs H Q => ∃ l b xs zs, x = .ref l ∧ vs = [.ref b] ∧ H l = some (.lst xs) ∧ H b = some (.lst zs) ∧ xs.length + zs.length ≤ sizeLine ∧ PutQ H l (.lst (xs ++ zs)) (Q .non)
def rCatLA : R2 := fun x y H Q => ∃ l b xs zs, x = .ref l ∧ y = .ref b ∧ H l = some (.lst xs) ∧ H b = some (.lst zs) ∧ xs.length + zs.length ≤ sizeLine ∧ NewQ H (.lst (xs ++ zs)) Q
theorem op_catL : OpR X (binaryOp .Add) rCatLA := OpR.imp op_cat fun x y H Q ⟨l, b, xs, zs, e1, e2, h1, h2, z, q⟩ => ⟨l, b, xs, zs, e1, e2, h1, h2, z, q.to⟩
/-- tuple + tuple: some tuple of both -/
def rCatTA (K : PySem.W.Frag) : R2 := fun x y H Q => ∃ a b xs ys, x = .ref a ∧ y = .ref b ∧ H a = some (.tup xs) ∧ H b = some (.tup ys) ∧ xs.length + ys.length ≤ sizeLine ∧ ∀ p H2, H2 p = some (.tup (xs ++ ys)) → Kp [] H H2 → Q (.ref p) H2
theorem op_catT2 : OpR X (binaryOp .Add) (rCatTA X.K) := OpR.imp op_catA fun x y H Q ⟨a, b, xs, ys, e1, e2, h1, h2, z, q⟩ => by
  refine ⟨a, b, xs, ys, e1, e2, SqT.of h1, SqT.of h2, z, fun e => ?_, fun _ e => ?_, fun _ _ p hp => q p _ upd_same (Kp.new hp)⟩
  · subst e; exact q b H h2 Kp.refl
  · subst e; exact q a H (by rw [List.append_nil]; exact h1) Kp.refl
def rSlLA (K : PySem.W.Frag) : V → Option Int → Option Int → Hp → VK → Prop := fun x lo hi H Q => ∃ a xs, x = .ref a ∧ SqL K H a xs ∧ NewQ H (.lst (cutV xs lo hi)) Q
theorem sl_listA : SlR X (rSlLA X.K) := SlR.imp sl_list fun x lo hi H Q ⟨a, xs, e, h, q⟩ => ⟨a, xs, e, h, q.to⟩
theorem cutV_whole {xs : List V} {lo hi : Option Int} (h : HT.sIx xs.length 0 lo = 0 ∧ HT.sIx xs.length xs.length hi = xs.length) : cutV xs lo hi = xs := by
  unfold cutV
  rw [h.1, h.2]
  simp
def rSlTA (K : PySem.W.Frag) : V → Option Int → Option Int → Hp → VK → Prop := fun x lo hi H Q => ∃ a xs, x = .ref a ∧ H a = some (.tup xs) ∧ ∀ p H2, H2 p = some (.tup (cutV xs lo hi)) → Kp [] H H2 → Q (.ref p) H2
theorem sl_tupB : SlR X (rSlTA X.K) := SlR.imp sl_tupA fun x lo hi H Q ⟨a, xs, e, h, q⟩ => by
  refine ⟨a, xs, e, SqT.of h, fun z => ?_, fun _ p hp => q p _ upd_same (Kp.new hp)⟩
  exact q a H (by rw [cutV_whole z]; exact h) Kp.refl
theorem mt_appendA : MtR X "list.append" rAppendA := MtR.imp mt_append fun x vs H Q ⟨l, xs, y, e1, e2, h1, z, q⟩ => ⟨l, xs, y, e1, e2, h1, z, q.to h1 (fun _ z => by cases z)⟩
theorem mt_extendA : MtR X "list.extend" rExtendA := MtR.imp mt_extend fun x vs H Q ⟨l, b, xs, zs, e1, e2, h1, h2, z, q⟩ => ⟨l, b, xs, zs, e1, e2, h1, h2, z, q.to h1 (fun _ z => by cases z)⟩
/-- tuple(xs) of a list: a new tuple -/
def rTupOfA (K : PySem.W.Frag) : List V → Hp → VK → Prop := fun xs H Q => ∃ p ys, xs = [.ref p] ∧ SqL K H p ys ∧ NewQ H (.tup ys) Q
theorem call_tupleA : CallR X (.type "tuple") (rTupOfA X.K) := CallR.imp call_tuple_of fun xs H Q ⟨p, ys, e, h, q⟩ => ⟨p, ys, e, .inl ⟨h, q.to⟩⟩
/-- a loop, a cut: what is said there is said by hand -/
structure Lp (p : Prop) : Prop where
  h : p
theorem Lp.eq (p : Prop) : Lp p = p := propext ⟨fun x => x.h, fun x => ⟨x⟩⟩
def tForA (wi : TI) (g : TG) (tb : TS) : TS := fun D σ H => wi σ H fun J H1 => Lp (∃ W : Nat → Nat → L2.St → Hp → Prop, (∃ m, W 0 m σ H1) ∧ ∀ i m σ H, W i m σ H →
  (J.stop i H ∧ D.nx σ H) ∨ (J.go i H ∧ ∃ N : L2.St → Hp → Prop, (∀ σ' H', N σ' H' → ∃ m', m' < m ∧ W (i + 1) m' σ' H') ∧ ∀ x H', J.yld i H x H' → g x σ H' fun σ2 H2 => tb { D with nx := N, ct := N, bk := D.nx } σ2 H2))
theorem tForA_eq (wi : TI) (g : TG) (tb : TS) : tForA wi g tb = tFor wi g tb := by
  funext D σ H
  unfold tForA tFor
  simp only [Lp.eq]
theorem ps_forA {tg iter : Expr} {body : List Stmt} {wi : TI} {g : TG} {tb : TS} (h : PS X (.For tg iter body [] pos) (tFor wi g tb)) : PS X (.For tg iter body [] pos) (tForA wi g tb) := by rw [tForA_eq]; exact h
def tWhileA (c : TT) (tb : TS) : TS := fun D σ H => Lp (tWhile c tb D σ H)
theorem ps_whileA {c : Expr} {body : List Stmt} {tc : TT} {tb : TS} (h : PS X (.While c body [] pos) (tWhile tc tb)) : PS X (.While c body [] pos) (tWhileA tc tb) := by
  have e : tWhileA tc tb = tWhile tc tb := by
    funext D σ H
    unfold tWhileA
    rw [Lp.eq]
  rw [e]
  exact h
def tCutA (t u : TS) : TS := fun D σ H => Lp (C8.tCut t u D σ H)
theorem pss_cutA {st : Stmt} {rest : List Stmt} {t u : TS} (h1 : PS X st t) (h2 : PSs X rest u) : PSs X (st :: rest) (tCutA t u) := by
  have e : tCutA t u = C8.tCut t u := by
    funext D σ H
    unfold tCutA
    rw [Lp.eq]
  rw [e]
  exact C8.pss_cut h1 h2
/-! the same rules over a written part that is told by a letter -/
variable {K : PySem.W.Frag}
theorem cr_sumK (hK : X.K = K) (hc : X.calm = true) : CallR X (.builtin "sum") (rSum K) := hK ▸ cr_sum hc
theorem ix_listK (hK : X.K = K) : IxR X (rIxL K) := hK ▸ ix_list
theorem ix_tupK (hK : X.K = K) : IxR X (rIxT K) := hK ▸ ix_tup
theorem op_in_seqK (hK : X.K = K) : OpR X (compareOp .In) (rIn K false) := hK ▸ op_in_seq
theorem op_notIn_seqK (hK : X.K = K) : OpR X (compareOp .NotIn) (rIn K true) := hK ▸ op_notIn_seq
def rLenK (K : PySem.W.Frag) : List V → Hp → VK → Prop := fun xs H Q => ∃ p ys, xs = [.ref p] ∧ (SqL K H p ys ∨ SqT K H p ys) ∧ Q (.int ys.length) H
theorem call_lenK (hK : X.K = K) : CallR X (.builtin "len") (rLenK K) := hK ▸ call_len_seq
theorem call_isiK (hK : X.K = K) : CallR X (.builtin "isinstance") (rIsi K) := hK ▸ call_isi
theorem call_tupleK (hK : X.K = K) : CallR X (.type "tuple") (rTupOfA K) := hK ▸ call_tupleA
theorem sl_listK (hK : X.K = K) : SlR X (rSlLA K) := hK ▸ sl_listA
theorem sl_tupK (hK : X.K = K) : SlR X (rSlTA K) := hK ▸ sl_tupB
theorem op_catTK (hK : X.K = K) : OpR X (binaryOp .Add) (rCatTA K) := hK ▸ op_catT2
theorem pi_listK {tg l : Expr} {tl : TE} (hK : X.K = K) (hl : PE X l tl) : PI X tg l (iList K tl) := hK ▸ pi_list hl
theorem pi_tupK {tg l : Expr} {tl : TE} (hK : X.K = K) (hl : PE X l tl) : PI X tg l (iTup K tl) := hK ▸ pi_tup hl
theorem pe_bmK {T name id : String} {o e : Expr} {es : List Expr} {r : V → List V → Hp → VK → Prop} {to : TE} {t : TA} {apos cpos : Pos} (hK : X.K = K) (pa : PlainAttrs T) (slot : Slot T name id) (hty : typeOf (.builtin id) = pure (.type "method_descriptor")) (hm : MtR X id r) (ho : PE X o to) (ha : PA X (e :: es) t)
    (hbase : attributeBase o name X.env (eval o X.env) = eval o X.env := by rfl)
    (hfew : ((backTo cpos (starEach (e :: es) X.env)).all (fun x => !x.1) && (backToKw cpos (keywordEach [] X.env)).all (fun x => x.1.isSome) && decide ((e :: es).length + ([] : List Keyword).length + (if ([] : List Keyword).isEmpty then 0 else 1) < 30)) = true := by rfl)
    (hline : (apos.endLine == cpos.line) = true := by rfl) (hs : starEach (e :: es) X.env = (false, eval e X.env) :: starEach es X.env := by rfl) (hplain : (backTo cpos (starEach es X.env)).any (·.1) = false := by rfl) :
    PE X (.Call (.Attribute o name apos) (e :: es) [] cpos) (tBM K T r to t) := hK ▸ pe_bm pa slot hty hm ho ha hbase hfew hline hs hplain
theorem pe_fldK {o : Expr} {f : Str} {ta : TE} (hK : X.K = K) (he : PE X o ta) (hb : attributeBase o f X.env (eval o X.env) = eval o X.env := by rfl) : PE X (.Attribute o f pos) (tFld K ta f) := hK ▸ pe_fld he hb
/-- o.f = e -/
def sFldA (K : PySem.W.Frag) (ta tv : TE) (f : Str) : TS := fun D σ H => tv σ H fun y H1 => ta σ H1 fun x H2 => ∃ a C dx fs, x = .ref a ∧ H2 a = some (.ins C dx fs) ∧ Cls K C ∧ NoAttr K C f ∧ fs.length < 1000 ∧ PutQ H2 a (.ins C dx (putF f y fs)) (D.nx σ)
theorem ps_fldA {o value : Expr} {f : Str} {ta tv : TE} {pos' : Pos} (hK : X.K = K) (ha : PE X o ta) (hv : PE X value tv) (hs : swapsWith value (some (.Attribute o f pos')) pos.line X.env = pure false := by rfl) : PS X (.Assign [.Attribute o f pos'] value pos) (sFldA K ta tv f) := by
  subst hK
  constructor
  intro pins s σ H D I h
  refine plainObj_wpAny_Assign_Attribute (thn (hv.run pins s σ H _ I h) fun u s1 h1 => ?_) hs
  obtain ⟨y, H1, I1, ry, q⟩ := h1
  refine thn (ha.run pins s1 σ H1 _ I1 q) fun ov s2 h2 => ?_
  obtain ⟨x, H2, I2, rx, a, C, dx, fs, ex, ea, c, n, l, q2⟩ := h2
  subst ex
  cases (show ov = Value.ref a from rx)
  exact setattr_ok I2 ea c n l ry fun s3 I3 => ⟨σ, _, I3, q2.to ea (fun _ z => by cases z)⟩
end

/-! ### the deck: its cells at c, how many numbers were drawn -/
structure DkOk (cs : List Int) (n : Int) : Prop where
  len : cs.length ≤ 63
  pos : ∀ x ∈ cs, (0 : Int) ≤ x
  n0 : 0 ≤ n
structure Deck (H : Hp) (a c : Addr) (n : Int) : Prop where
  ex : ∃ cs : List Int, H a = some (.lst [.ref c, .int n]) ∧ H c = some (.lst (cs.map V.int)) ∧ DkOk cs n
theorem Deck.ne {H : Hp} {a c : Addr} {n : Int} (d : Deck H a c n) : a ≠ c := by
  obtain ⟨cs, h1, h2, ok⟩ := d.ex
  refine ne_of h1 h2 fun z => ?_
  have z1 := HO.lst.inj z
  cases cs with
  | nil => cases z1
  | cons x r => cases z1
theorem Deck.kp {S : List Addr} {H H' : Hp} {a c : Addr} {n : Int} (d : Deck H a c n) (k : Kp S H H') (ha : a ∉ S) (hc : c ∉ S) : Deck H' a c n := by
  obtain ⟨cs, h1, h2, ok⟩ := d.ex
  exact ⟨cs, k.keep _ _ h1 ha, k.keep _ _ h2 hc, ok⟩
theorem Deck.kp0 {H H' : Hp} {a c : Addr} {n : Int} (d : Deck H a c n) (k : Kp [] H H') : Deck H' a c n := d.kp k (by simp) (by simp)
theorem Deck.a_some {H : Hp} {a c : Addr} {n : Int} (d : Deck H a c n) : ∃ xs, H a = some (.lst xs) := by
  obtain ⟨cs, h1, h2, ok⟩ := d.ex
  exact ⟨_, h1⟩
theorem Deck.c_some {H : Hp} {a c : Addr} {n : Int} (d : Deck H a c n) : ∃ xs, H c = some (.lst xs) := by
  obtain ⟨cs, h1, h2, ok⟩ := d.ex
  exact ⟨_, h2⟩
/-- a new address is not the deck's -/
theorem Deck.off {H : Hp} {a c p : Addr} {n : Int} (d : Deck H a c n) (h : H p = none) : p ∉ [a, c] := by
  obtain ⟨xs, h1⟩ := d.a_some
  obtain ⟨ys, h2⟩ := d.c_some
  exact ne2 (ne_of_none h1 h).symm (ne_of_none h2 h).symm
abbrev MANY : Int := 1000000000
def spDraw : Sp := fun vs H Q _ => ∃ (a c : Addr) (n many : Int), vs = [.ref a, .int many] ∧ Deck H a c n ∧ n ≤ MANY ∧ 0 < many ∧ many.natAbs < 2 ^ 1000 ∧
  ∀ (r : Int) (H' : Hp), 0 ≤ r → r < many → Deck H' a c (n + 1) → Kp [a, c] H H' → Q (.int r) H'
def spDeck (K : PySem.W.Frag) : Sp := fun vs H Q _ => ∃ (s : Addr) (ns : List Int), vs = [.ref s] ∧ SqL K H s (ns.map V.int) ∧ ns.length ≤ 63 ∧
  ∀ (a c : Addr) (H' : Hp), H a = none → H c = none → Kp [] H H' → Deck H' a c 0 → Q (.ref a) H'
/-- an item of a list that is drawn -/
def spOne (K : PySem.W.Frag) : Sp := fun vs H Q _ => ∃ (a c l : Addr) (n : Int) (xs : List V), vs = [.ref a, .ref l] ∧ Deck H a c n ∧ n ≤ MANY ∧ SqL K H l xs ∧ l ∉ [a, c] ∧ 0 < xs.length ∧ xs.length ≤ 1000000 ∧
  ∀ (x : V) (H' : Hp), x ∈ xs → Deck H' a c (n + 1) → Kp [a, c] H H' → Q x H'
/-- a sign of a text that is drawn -/
def spOneS : Sp := fun vs H Q _ => ∃ (a c : Addr) (n : Int) (z : Str), vs = [.ref a, .str z] ∧ Deck H a c n ∧ n ≤ MANY ∧ 0 < z.length ∧ z.length ≤ 1000000 ∧ ∀ (ch : Nat) (H' : Hp), ch ∈ z.cps.toList → Deck H' a c (n + 1) → Kp [a, c] H H' → Q (.str ⟨#[ch]⟩) H'
def spOne2 (K : PySem.W.Frag) : Sp := fun vs H Q E => spOne K vs H Q E ∨ spOneS vs H Q E
theorem pow1000 {m : Nat} (h : m ≤ 1000000) : ((m : Int)).natAbs < 2 ^ 1000 := by
  have e : ((m : Int)).natAbs < 2 ^ 30 := by
    have e2 : (2 : Nat) ^ 30 = 1073741824 := by decide
    rw [e2]
    omega
  exact Nat.lt_of_lt_of_le e (Nat.pow_le_pow_right (by decide) (by decide))
/-- a def of the text, as the top has left it -/
structure DA (K : PySem.W.Frag) (mg : Str → Option Value) (x : Str) (st : Stmt) (ps : List Str) where
  f : Addr
  fd : FuncData
  F : Fun K x x st f fd
  b : Binds K fd ps []
  g : mg x = some (.ref f)
/-- a class of the text, a method of it -/
structure CA (K : PySem.W.Frag) (mg : Str → Option Value) (x : Str) where
  C : Addr
  cl : Cls K C
  g : mg x = some (.ref C)
  mks : PySem.W.makesIn K C = true
  kp : PySem.W.keepIn K (.ref C) = true
structure DM (K : PySem.W.Frag) (C : Addr) (m q : Str) (st : Stmt) (ps : List Str) where
  f : Addr
  fd : FuncData
  F : Fun K m q st f fd
  b : Binds K fd ps []
  m : Meth K C m f
theorem atI_mem {α : Type} {xs : List α} {i : Int} (h0 : 0 ≤ i) (h : i < (xs.length : Int)) : ∃ v, atI xs i = some v ∧ v ∈ xs := by
  have hi : i.toNat < xs.length := by omega
  have e : i = ((i.toNat : Nat) : Int) := by omega
  have q : atI xs ((i.toNat : Nat) : Int) = some xs[i.toNat] := atI_nat (List.getElem?_eq_getElem hi)
  rw [← e] at q
  exact ⟨xs[i.toNat], q, List.getElem_mem hi⟩
theorem ixN_nat {n : Nat} {i : Int} (h0 : 0 ≤ i) (h : i < (n : Int)) : ixN n i = some i.toNat := by
  unfold ixN
  rw [if_pos h0, if_pos h]
theorem isi_ss : kitB "str" "str" = some true := by decide +kernel
theorem isi_is : kitB "int" "str" = some false := by decide +kernel
theorem isi_ts : kitB "tuple" "str" = some false := by decide +kernel
theorem isi_si : kitB "str" "int" = some false := by decide +kernel
theorem isi_ii : kitB "int" "int" = some true := by decide +kernel
theorem isi_ti : kitB "tuple" "int" = some false := by decide +kernel
theorem isi_st : kitB "str" "tuple" = some false := by decide +kernel
theorem isi_it : kitB "int" "tuple" = some false := by decide +kernel
theorem isi_tt : kitB "tuple" "tuple" = some true := by decide +kernel
theorem cpow_of {i j : Int} (h : 0 ≤ j ∧ j ≤ 1000000 ∧ i.natAbs < 2 ^ 64) : CPow i j := h
theorem cmul_of {i j : Int} (h : -(2 ^ 64) < i ∧ i < 2 ^ 64) : CMul i j := .inl h
theorem cdivn_of {i j : Int} (h : j ≠ 0 ∧ j.natAbs < 1073741824) : CDivN i j := h
theorem lt_lit {n : Nat} (h : Nat.ble (n + 1) 1000 = true) : n < 1000 := Nat.le_of_ble_eq_true h
theorem le_lit {n : Nat} (h : Nat.ble n 1000 = true) : n ≤ 1000000 := Nat.le_trans (Nat.le_of_ble_eq_true h) (by decide)
theorem pos_lit {n : Nat} (h : Nat.ble 1 n = true) : 0 < n := Nat.le_of_ble_eq_true h
theorem sz_lit {n : Nat} (h : Nat.ble n 1000 = true) : n ≤ sizeLine := Nat.le_trans (Nat.le_of_ble_eq_true h) (by decide)
theorem sz_lt {n : Nat} (h : n ≤ 1000000) : n < sizeLine := Nat.lt_of_le_of_lt h (by decide)
theorem sz_le {n : Nat} (h : n ≤ 1000000) : n ≤ sizeLine := Nat.le_of_lt (sz_lt h)
end EH
namespace EH
open PySem PySem.Spec PyProof.Rows L2
/-! ### B.__init__(self, ..) of an own class B over ValueError -/
structure BaseI (K : PySem.W.Frag) (B : Addr) : Prop where
  ga : PySem.W.specialIn K (.ref B) "__getattribute__" = some (some (.builtin "type.__getattribute__"))
  rd : PySem.W.readsIn K B (.type "type") = true
  ini : PySem.W.findCls K (.ref B) (.type "type") "__init__" = some (.val (.builtin "ValueError.__init__"))
section
variable {X : Cx} {e : Expr} {es : List Expr} {ta : TA} {p1 p2 pos : Pos} {x : Str} {B : Addr}
/-- the built-in __init__ on an error that is being made, with what stands behind it among the arguments -/
theorem ve_init {pins : List (Addr × Obj)} {σ : L2.St} {Q : VK} {us : List Value} {t : Shared}
    (h : AP X pins σ (fun vs H1 => ∃ (a C : Addr) (ws : List V), vs = .ref a :: ws ∧ ws.length ≤ 1000 ∧ OexC X.K C ∧ H1 a = some (exo a C none) ∧ Q .non H1) us t) :
    wpAny (model X.prog X.w) X.A (call (.builtin "ValueError.__init__") us) (EP X pins σ Q) X.xe t := by
  rcases h with ⟨_, G, J, vals, a, C, ws, rfl, few, own, at_, out⟩
  match us, vals with
  | _ :: ur, .cons ea rest =>
    rw [show _ = Value.ref a from ea]
    have e := Paired.length rest
    exact oinit_ok own J at_ (by rw [sizeLine_eq]; omega) fun t' J' => ⟨.non, G, J', rfl, out⟩
theorem pe_heinit {pl : Sem Bool} (hg : Gl X x) (hm : X.mg x = some (.ref B)) (T : BaseI X.K B) (ha : PA X (e :: es) ta) (hdb : (x == ("__debug__" : Str)) = false := by decide)
    (hc : eval (.Call (.Attribute (.Name x p1) "__init__" p2) (e :: es) [] pos) X.env = (do
      let c ← eval (.Name x p1) X.env
      standAt p2.atName
      let (m, self) ← holding [c] (getMethod c "__init__" pl)
      callWith pos m self (backTo pos (starEach (e :: es) X.env)) (backToKw pos (keywordEach [] X.env))) := by rfl)
    (h1 : starEach (e :: es) X.env = (false, eval e X.env) :: starEach es X.env := by rfl) (h2 : (backTo pos (starEach es X.env)).any (·.1) = false := by rfl) :
    PE X (.Call (.Attribute (.Name x p1) "__init__" p2) (e :: es) [] pos) (tVeI X.K ta) :=
  .mk fun pins s σ H Q I h =>
    have named := fun (k : Nat) => PyProof.Rows.callWith_method1 (env := X.env) (first := []) (thn (ha.run pos pins { s with toks := k } σ H _ (I.tok k) h) fun _ _ => ve_init) h1 h2
    PySem.W.methodCall_KW (ld_glob I hg hm (PySem.W.method_cls I.kIn T.ga (PySem.W.cls_value I.kIn T.rd T.ini (by decide +kernel) (named _))) hdb) hc
end
/-- C.__init__(self, f): the base's __init__, self.f = f -/
def spErrI (C : Addr) (f : Str) : Sp := fun vs H Q _ => ∃ (a : Addr) (v : V), vs = [.ref a, v] ∧ H a = some (exo a C none) ∧ ∀ dx, H dx = none → dx ≠ a → Q .non (upd (upd H dx (exd dx [(f, v)])) a (exo a C (some dx)))
/-- what is written of an error's class with one field -/
structure ErrC (K : PySem.W.Frag) (C : Addr) (f : Str) : Prop where
  ox : OexC K C
  noN : PySem.W.findIn K (.ref C) f = some none
  ga : PySem.W.findIn K (.ref C) "__getattribute__" = some (some (.builtin "BaseException.__getattribute__"))
  gg : PySem.W.findIn K (.ref C) "__getattr__" = some none
  hdC : PySem.W.hasDictIn K C = true
  te : PySem.W.exmOne K (.ref C) (.ref C) = some true
section
variable {X : Cx} {C : Addr} {f : Str}
/-- n.f, n the error that the suite holds (at a; its class cls, its dict d) -/
def tByE (f : Str) (C : Addr) (a : Addr) (cls : Value) (d : Option Addr) (te : TE) : TE := fun σ H Q => te σ H fun x H1 => x = .ref a ∧ cls = .ref C ∧ ∃ (dd : Addr) (v : V), d = some dd ∧ H1 dd = some (.xd [(f, v)]) ∧ Q v H1
theorem pe_byE {a : Addr} {oe : Obj} {cls : Value} {d : Option Addr} {pn : List (Addr × Obj)} {e : Expr} {te : TE} {pos : Pos} (T : ErrC X.K C f) (hz : Zc cls d oe) (hf : ∃ vs, oe.data = .fields vs) (he : PE (X.suite a ((a, oe) :: pn)) e te)
    (hb : attributeBase e f X.env (eval e X.env) = eval e X.env := by rfl) :
    PE (X.suite a ((a, oe) :: pn)) (.Attribute e f pos) (tByE f C a cls d te) := by
  refine ⟨fun pins s σ H Q I h => ?_⟩
  refine attr_of hb (thn (he.run pins s σ H _ I h) fun u s1 hh => ?_)
  obtain ⟨x, H1, I1, rx, ex, ec, dd, v, ed, ea, q⟩ := hh
  subst ex
  obtain rfl : u = Value.ref a := rx
  subst ec
  subst ed
  obtain ⟨ha, _⟩ := I1.pin (a, oe) (List.mem_append_left _ List.mem_cons_self)
  obtain ⟨vs, hd⟩ := hf
  have hx : ObjOk X.prog X.w H1 s1.heap dd (.xd [(f, v)]) := I1.hok dd _ ea
  obtain ⟨mA, hns, hr⟩ := hx
  obtain ⟨od, ho, hl⟩ := lookIn_ns hns
  have l : List.lookup f [(f, v)] = some v := by simp [List.lookup]
  obtain ⟨u, hu, ru⟩ := RelO.some_of (v := v) (o := mA f) (by rw [← l]; exact hr f)
  have J : PySem.W.InstAt s1.heap a oe C (some od) := ⟨ha, hz.1, by unfold PySem.W.notCls; rw [hd] <;> rfl, by rw [hz.2]; exact ho⟩
  exact HandSPX.exc_get I1.kIn J T.ga T.gg T.ox.exC (PySem.W.findObj_own T.hdC T.noN rfl (by rw [hl, hu])) (handed_of ru) ⟨v, H1, I1.tok _, ru, q⟩
end
/-! with the frame of their own, and as facts of a law's top -/
section
variable {X : Cx} {K : PySem.W.Frag}
theorem pe_heinitK (hK : X.K = K) {e : Expr} {es : List Expr} {ta : TA} {p1 p2 pos : Pos} {x : Str} {B : Addr} {pl : Sem Bool} (hg : Gl X x) (hm : X.mg x = some (.ref B)) (T : BaseI K B) (ha : PA X (e :: es) ta) (hdb : (x == ("__debug__" : Str)) = false := by decide)
    (hc : eval (.Call (.Attribute (.Name x p1) "__init__" p2) (e :: es) [] pos) X.env = (do
      let c ← eval (.Name x p1) X.env
      standAt p2.atName
      let (m, self) ← holding [c] (getMethod c "__init__" pl)
      callWith pos m self (backTo pos (starEach (e :: es) X.env)) (backToKw pos (keywordEach [] X.env))) := by rfl)
    (h1 : starEach (e :: es) X.env = (false, eval e X.env) :: starEach es X.env := by rfl) (h2 : (backTo pos (starEach es X.env)).any (·.1) = false := by rfl) :
    PE X (.Call (.Attribute (.Name x p1) "__init__" p2) (e :: es) [] pos) (tVeI K ta) := by
  subst hK
  exact pe_heinit hg hm T ha hdb hc h1 h2
theorem ps_ostK (hK : X.K = K) {o e : Expr} {to te : TE} {f : Str} {p' pos : Pos} (ho : PE X o to) (he : PE X e te) (hs : swapsWith e (some (.Attribute o f p')) pos.line X.env = pure false := by rfl) : PS X (.Assign [.Attribute o f p'] e pos) (tOst K f to te) := by
  subst hK
  exact ps_ost ho he hs
end
/-- a class of errors with one field; its __init__; its own base -/
structure EA (K : PySem.W.Frag) (mg : Str → Option Value) (x f : Str) where
  C : Addr
  g : mg x = some (.ref C)
  E : ErrC K C f
structure EI (K : PySem.W.Frag) (C : Addr) (q : Str) (st : Stmt) (ps : List Str) where
  f : Addr
  fd : FuncData
  F : Fun K "__init__" q st f fd
  b : Binds K fd ps []
  iC : PySem.W.findIn K (.ref C) "__init__" = some (some (.ref f))
  tI : PySem.W.typeIn K (.ref f) = some (.type "function")
structure BA (K : PySem.W.Frag) (mg : Str → Option Value) (x : Str) where
  C : Addr
  g : mg x = some (.ref C)
  B : BaseI K C
/-- an error of the class at S is what «except S» names -/
theorem exm_self {K : PySem.W.Frag} {S : Addr} (h1 : PySem.W.subIn K (.ref S) (.type "BaseException") = some true) (h2 : PySem.W.isClsIn K S = true) (h3 : PySem.W.typeIn K (.ref S) = some (.type "type")) (h4 : PySem.W.subIn K (.ref S) (.ref S) = some true) :
    PySem.W.exmOne K (.ref S) (.ref S) = some true := by
  have e1 : (PySem.W.subIn K (.ref S) (.type "BaseException") == some true) = true := by rw [h1] <;> rfl
  have e2 : ((PySem.W.clsIn K S).isSome && PySem.W.typeIn K (.ref S) == some (.type "type")) = true := by
    have h2' : (PySem.W.clsIn K S).isSome = true := h2
    rw [h2', h3] <;> rfl
  show (if (PySem.W.subIn K (.ref S) (.type "BaseException") == some true) = true then (if ((PySem.W.clsIn K S).isSome && PySem.W.typeIn K (.ref S) == some (.type "type")) = true then PySem.W.subIn K (.ref S) (.ref S) else none) else none) = some true
  rw [if_pos e1, if_pos e2]
  exact h4
/-! ### d.get(k, x) of a written dict of texts -/
def KD (K : PySem.W.Frag) (w : World) (a : Addr) : Prop := ∃ es n, K.lookup a = some ⟨.type "dict", none, .dict es n, #[]⟩ ∧ PySem.W.KeysLit w.params es.toList ∧ (a == sysModules) = false
def tKGet2 (K : PySem.W.Frag) (w : World) (td ty tx : TE) : TE := fun σ H Q => td σ H fun x H1 => ∃ a, x = .ref a ∧ KD K w a ∧ ty σ H1 fun y H2 => tx σ H2 fun z H3 => ∃ c, y = .str c ∧ ((∃ v, KDct K w a c v ∧ Q v H3) ∨ (KMiss K w a c ∧ Q z H3))
section
variable {X : Cx} {o e f : Expr} {apos cpos : Pos} {td ty tx : TE}
theorem pe_kget2 (ho : PE X o td) (he : PE X e ty) (hf : PE X f tx) (m : M2 X o "get" apos e f cpos) : PE X (.Call (.Attribute o "get" apos) [e, f] [] cpos) (tKGet2 X.K X.w td ty tx) := by
  refine ⟨fun pins s σ H Q I h => ?_⟩
  refine wpAny_Call_method m.base m.few m.line PySem.F.plainAttrs_dict PySem.F.slot_dict_get PySem.F.type_dict_get (thn (ho.run pins s σ H _ I h) fun u s1 ⟨x, H1, I1, rx, a, ex, ⟨es, n, hl, hk, low⟩, q1⟩ => ?_)
  subst ex
  obtain rfl : u = Value.ref a := rx
  have hm1 := PySem.W.mapOf_K (prog := X.prog) (w := X.w) I1.kIn hl hk
  refine ⟨hm1.typeIs, fun b q => ?_, ?_⟩
  · cases q
    exact ⟨_, I1.kIn _ _ hl, rfl⟩
  rw [m.trees]
  refine Calls.callWith_builtin rfl (Calls.evalArgs_plain (Calls.spliced_cons (thn (he.run pins s1 σ H1 _ I1 q1) fun iv s2 ⟨y, H2, I2, ry, q2⟩ =>
    Calls.spliced_cons (thn (hf.run pins s2 σ H2 _ I2 q2) fun fv s3 ⟨z, H3, I3, rz, c, ey, q3⟩ => Calls.spliced_nil ?_))))
  subst ey
  obtain ⟨t, rfl⟩ := (show ∃ t, iv = Value.str c t from ry)
  have hm := PySem.W.mapOf_K (prog := X.prog) (w := X.w) I3.kIn hl hk
  refine call_meetsIn PySem.F.slot_dict_get hm.typeIs PySem.F.entry_dict_get (PySem.F.args_dict_get_3 _ _ _) (meets_dict_get_default (strKind X.prog X.w) a (strKind_is X.prog X.w c t) low fv) ⟨_, hm, ?_⟩
  rcases q3 with ⟨v, ⟨es', n', u0, hl', hk', e1, ru⟩, q⟩ | ⟨⟨es', n', hl', hk', _, e1⟩, q⟩
  · rw [PySem.W.find_K hl e1]
    exact ⟨v, H3, I3.tok _, ru, q⟩
  · rw [PySem.W.find_K hl e1]
    exact ⟨z, H3, I3.tok _, rz, q⟩
theorem pe_kget2K {K : PySem.W.Frag} {w : World} (hK : X.K = K) (hw : X.w = w) (ho : PE X o td) (he : PE X e ty) (hf : PE X f tx) (m : M2 X o "get" apos e f cpos) : PE X (.Call (.Attribute o "get" apos) [e, f] [] cpos) (tKGet2 K w td ty tx) := hw ▸ hK ▸ pe_kget2 ho he hf m
end
/-! what is not among the keys -/
def kst : Value → Option Str
  | .str x _ => some x
  | _ => none
theorem kmiss_of {K : PySem.W.Frag} {w : World} {a : Addr} {es : Array DictEntry} {n : Nat} {L : List Str} {x : Str} (hl : K.lookup a = some ⟨.type "dict", none, .dict es n, #[]⟩) (hk : PySem.W.KeysLit w.params es.toList) (low : (a == sysModules) = false)
    (ks : es.toList.map (fun e => kst e.key) = L.map some) (hx : x ∉ L) : KMiss K w a x := by
  refine ⟨es, n, hl, hk, low, ?_⟩
  unfold PySem.W.nsIn
  rw [hl]
  have key : ∀ e ∈ es.toList, ∃ y t, e.key = .str y t ∧ y ≠ x := fun e he => by
    obtain ⟨y, t, e1, _⟩ := hk.all e he
    refine ⟨y, t, e1, fun z => hx ?_⟩
    have : kst e.key ∈ L.map some := by rw [← ks]; exact List.mem_map.mpr ⟨e, he, rfl⟩
    rw [e1, z] at this
    obtain ⟨y', h1, h2⟩ := List.mem_map.mp this
    exact (Option.some.inj h2) ▸ h1
  have f1 : es.toList.find? (·.key.isStr x) = none := List.find?_eq_none.mpr fun e he => by
    obtain ⟨y, t, e1, ne⟩ := key e he
    rw [e1]
    simpa [Value.isStr] using ne
  have f2 : es.toList.any (·.refKey) = false := List.any_eq_false.mpr fun e he => by
    obtain ⟨y, t, e1, ne⟩ := key e he
    simp [DictEntry.refKey, e1]
  show (match es.toList.find? (·.key.isStr x) with | some e => some (some e.val) | none => if es.toList.any (·.refKey) then none else some none) = some none
  rw [f1, f2]
  rfl
/-! ### a try whose clauses all name the error: except A as n: .. except B as m: .. -/
/-- X's frame has caught an exception (at a, of the class cls, its dict d); sI is the state without it, B the ground -/
structure Cau (X : Cx) (pins : List (Addr × Obj)) (σ : L2.St) (H : Hp) (B : Heap) (a : Addr) (cls : Value) (d : Option Addr) (sI s : Shared) : Prop where
  stk : X.stack = X.env :: X.outer
  own : X.env.frame = some X.env.locals
  inv : Inv X pins σ H sI
  grd : ∀ b o, sI.heap.get? b = some o → b ∉ frs X.stack → B.get? b = some o
  ups : sI.heap.UpToSlots s.heap
  fly : HandSPX.FlyingZ B (X.env :: X.outer) a (Zc cls d) s.heap
  new : H a = none
  oss : s.os = sI.os
  bar : AllBare s.gens
theorem frs_head {e : Env} {l : List Env} {b : Addr} (h : e.frame = some b) : b ∈ frs (e :: l) := List.mem_filterMap.mpr ⟨e, .head _, h⟩
theorem frs_tail {e : Env} {l : List Env} {b : Addr} (h : b ∈ frs l) : b ∈ frs (e :: l) := by
  obtain ⟨x, hx, hb⟩ := List.mem_filterMap.mp h
  exact List.mem_filterMap.mpr ⟨x, .tail _ hx, hb⟩
section
variable {X : Cx} {pins : List (Addr × Obj)} {σ : L2.St} {H : Hp} {B : Heap} {a : Addr} {cls : Value} {d : Option Addr} {sI s : Shared}
theorem Cau.here (c : Cau X pins σ H B a cls d sI s) : Inv X pins σ H s := c.inv.landed c.grd c.fly.1 c.ups c.oss c.bar
theorem Cau.onto (c : Cau X pins σ H B a cls d sI s) {g : Heap} (f : HandSPX.FlyingZ B (X.env :: X.outer) a (Zc cls d) g) (u : s.heap.UpToSlots g) : Cau X pins σ H B a cls d sI { s with heap := g } :=
  { c with ups := c.ups.trans u, fly := f }
/-- its record, and the state in which a suite runs -/
theorem Cau.held (c : Cau X pins σ H B a cls d sI s) : ∃ oe, s.heap.get? a = some oe ∧ Zc cls d oe ∧ (∃ vs, oe.data = .fields vs) ∧ Inv (X.suite a ((a, oe) :: (X.pn ++ pins))) [] σ H s := by
  obtain ⟨oe, rs, g1, g2, g3⟩ := c.fly.there
  have out : a ∉ frs (X.env :: X.outer) := fun m => by
    obtain ⟨_, o, g4, nf⟩ := c.fly.2.2.1.mem m
    rw [g1] at g4
    exact nf rs (Option.some.inj g4 ▸ g3)
  exact ⟨oe, g1, g2, ⟨rs, g3⟩, c.here.suite g1 g3 c.new (fun z => out (frs_head (by rw [c.own, z]))) fun m => out (frs_tail m)⟩
/-- a clause is asked -/
theorem Cau.asked (c : Cau X pins σ H B a cls d sI s) {x : Str} {k : Value} {b : Bool} {np : Pos} {R : Bool → Shared → Prop} {E F : Value → Shared → Prop} (hn : Names X x k) (hb : PySem.W.exmOne X.K cls k = some b) (q : R b s) :
    wpAny (model X.prog X.w) (X.A.mark (some (.ref a))) (eval (.Name x np) X.env) (fun v t => wpAny (model X.prog X.w) (X.A.mark (some (.ref a))) (excMatches (.ref a) v) R F t) E s := by
  obtain ⟨oe, g1, g2, -, J⟩ := c.held
  have ty : PySem.W.Looks (model X.prog X.w) s.heap (typeOf (.ref a)) cls := fun _ _ _ _ k q => wpAny_typeOf_ref (k a oe g1) (g2.1.symm ▸ q)
  have fit : wpAny (model X.prog X.w) (X.A.mark (some (.ref a))) (excMatches (.ref a) k) R F s := (PySem.W.exm_one c.here.kIn ty hb).here q
  obtain ⟨n1, n2, n3 | ⟨n3, n4, n5⟩⟩ := hn
  · exact ld_glob J n1 n3 fit n2
  · exact ld_blt J n1 n3 n4 fit n5 n2
/-- how a suite's end is seen behind the clause: the name is gone -/
def unb (i : Nat) (D : Ends) : Ends := { nx := fun σ H => D.nx (σ.set i none) H, rt := D.rt, bk := fun σ H => D.bk (σ.set i none) H, ct := fun σ H => D.ct (σ.set i none) H }
/-- its suite runs, with the name -/
theorem Cau.runs (c : Cau X pins σ H B a cls d sI s) {n : Str} {i : Nat} {st : List Stmt} {p : Pos} {D : Ends} {ts : TS} {E1 E2 E3 : Value → Shared → Prop} (hN : X.N.Nodup) (hi : X.N[i]? = some n) (hl : X.env.kindOf n = some .local)
    (hs : ∀ (oe : Obj) (pn : List (Addr × Obj)), Zc cls d oe → (∃ vs, oe.data = .fields vs) → PSs (X.suite a ((a, oe) :: pn)) st ts) (h : ts (unb i D) (σ.set i (some (.ref a))) H) :
    wpAny (model X.prog X.w) (X.A.mark (some (.ref a))) (setFlight (.ref a) none) (fun _ s1 => wpAny (model X.prog X.w) (X.A.mark (some (.ref a))) (storeName X.env n (.ref a)) (fun _ s2 => wpAny (model X.prog X.w) (X.A.mark (some (.ref a))) (execs st X.env)
      (fun f s3 => wpAny (model X.prog X.w) X.A (do bindName X.env n .none; unbindBehindTheSuite X.env n p) (fun _ s4 => SP X pins D f s4) X.xe s3) E1 s2) E2 s1) E3 s := by
  refine HandSPX.lands_againZ c.fly fun g fl up => ?_
  have c2 := c.onto fl up
  obtain ⟨oe, -, g2, g3, J⟩ := c2.held
  refine store_ok (X := X.suite a ((a, oe) :: (X.pn ++ pins))) (v := .ref a) J hN hi (.inl hl) rfl (fun s2 J2 => ?_) (.inr hl)
  refine wpAny_mono ((hs oe _ g2 g3).run [] s2 _ H _ J2 h) (fun f s3 out => ?_) fun _ _ z => z.elim
  have away : ∀ {σ3 : L2.St} {H3 : Hp} {Q : Unit → Shared → Prop}, Inv (X.suite a ((a, oe) :: (X.pn ++ pins))) [] σ3 H3 s3 → (∀ t, Inv X pins (σ3.set i none) H3 t → Q () t) → wpAny (model X.prog X.w) X.A (do bindName X.env n .none; unbindBehindTheSuite X.env n p) Q X.xe s3 :=
    fun J3 hq => gone_ok (J3.unsuite c.inv.ok) hN hi hl hq
  match f, out with
  | .next, ⟨_, _, J3, q⟩ => exact away J3 fun _ J4 => ⟨_, _, J4, q⟩
  | .brk, ⟨_, _, J3, q⟩ => exact away J3 fun _ J4 => ⟨_, _, J4, q⟩
  | .cont, ⟨_, _, J3, q⟩ => exact away J3 fun _ J4 => ⟨_, _, J4, q⟩
  | .ret _, ⟨_, _, _, J3, r, q⟩ => exact away J3 fun _ J4 => ⟨_, _, _, J4, r, q⟩
/-- no clause takes it -/
theorem Cau.passed (c : Cau X pins σ H B a cls d sI s) {W : WX} {Q : Flow → Shared → Prop} (tk : Takes X W) (w : W cls d σ H) : wpAny (model X.prog X.w) X.A (handleBy (.ref a) X.env []) Q X.xe s := by
  refine wpAny_handleBy_nil ?_
  obtain ⟨-, -, -, oe, rs, T, oT, ts, g1, -, g3, g4, -⟩ := id c.fly
  have up : wpAny (model X.prog X.w) X.A (setFlight (.ref a) X.env.frame) (fun _ t => wpAny (model X.prog X.w) X.A (throw (.ref a) : Sem Flow) Q X.xe t) X.xe s := by
    rw [c.own]
    refine HandSPX.setFlight_upZ c.fly fun g hd u => wpAny_throw (tk _ _ ⟨a, B, sI, pins, σ, H, cls, d, rfl, c.inv, c.grd, c.ups.trans u, ?_, c.new, c.oss, c.bar, w⟩)
    rw [c.stk]
    exact .inr (.inr hd)
  unfold PySem.passOn
  refine wpAny_bind (wpAny_field g1 g3 g4 ?_)
  rw [if_neg (by simp)]
  first
    | exact wpAny_bind up
    | exact wpAny_bind (wpAny_pure (wpAny_bind up))
end
/-- a clause: the class, the name's slot, what its suite does -/
abbrev NCl := Value × Nat × (Addr → Value → Option Addr → TS)
/-- what the clauses, one after the other, wish of an exception -/
def wNs (K : PySem.W.Frag) (Wout : WX) (D : Ends) : List NCl → WX
  | [] => Wout
  | (k, i, ts) :: r => fun cls d σ H => ∃ b, PySem.W.exmOne K cls k = some b ∧ (b = true → ∀ a, H a = none → ts a cls d (unb i D) (σ.set i (some (.ref a))) H) ∧ (b = false → wNs K Wout D r cls d σ H)
inductive NHs (X : Cx) : List ExceptHandler → List NCl → Prop
  | nil : NHs X [] []
  | cons {x n : Str} {k : Value} {i : Nat} {ts : Addr → Value → Option Addr → TS} {b : Stmt} {bs : List Stmt} {p p' : Pos} {hds : List ExceptHandler} {l : List NCl} (hn : Names X x k) (hi : X.N[i]? = some n) (hl : X.env.kindOf n = some .local)
      (hs : ∀ (a : Addr) (cls : Value) (d : Option Addr) (oe : Obj) (pn : List (Addr × Obj)), Zc cls d oe → (∃ vs, oe.data = .fields vs) → PSs (X.suite a ((a, oe) :: pn)) (b :: bs) (ts a cls d)) (r : NHs X hds l) :
      NHs X (.ExceptHandler (some (.Name x p)) (some n) (b :: bs) p' :: hds) ((k, i, ts) :: l)
theorem Cau.clauses {X : Cx} {pins : List (Addr × Obj)} {σ : L2.St} {H : Hp} {B : Heap} {a : Addr} {cls : Value} {d : Option Addr} {sI s : Shared} {W : WX} {D : Ends} (hN : X.N.Nodup) (tk : Takes X W) (c : Cau X pins σ H B a cls d sI s) :
    ∀ {hds : List ExceptHandler} {l : List NCl}, NHs X hds l → wNs X.K W D l cls d σ H → wpAny (model X.prog X.w) X.A (handleBy (.ref a) X.env hds) (SP X pins D) X.xe s
  | _, _, .nil, w => c.passed tk w
  | _, _, .cons hn hi hl hs r, ⟨true, e, yes, _⟩ => wpAny_handleBy_cons (codeAny_handlers_test (c.asked hn e (codeAny_handlers_suite_as (c.runs hN hi hl (hs a cls d) (yes rfl a c.new))))) (by intro z; cases z)
  | _, _, .cons hn hi hl hs r, ⟨false, e, _, no⟩ => wpAny_handleBy_cons (codeAny_handlers_test (c.asked hn e (Cau.clauses hN tk c r (no rfl)))) (by intro z; cases z)
theorem ps_try_named {X : Cx} {body : List Stmt} {h0 : ExceptHandler} {hds : List ExceptHandler} {l : List NCl} {p : Pos} {tb : WX → TS} {W : WX} (hs : X.stack = X.env :: X.outer) (hf : X.env.frame = some X.env.locals) (hN : X.N.Nodup) (tk : Takes X W)
    (hb : ∀ (W : WX) (pn : List (Addr × Obj)) (xe : Value → Shared → Prop), Takes (X.tr pn xe) W → PassesOwn (model X.prog X.w) X.A X.env xe → PSs (X.tr pn xe) body (tb W))
    (hh : NHs X (h0 :: hds) l) : PS X (.Try body (h0 :: hds) [] [] p) (fun D σ H => tb (wNs X.K W D l) D σ H) := by
  constructor
  intro pins s σ H D I h
  have fr : X.A.frames = some (X.env :: X.outer) := hs ▸ I.ok.frames
  refine wpAny_Try_except (wpAny_mono ((hb (wNs X.K W D l) (X.pn ++ pins) (fun e t => wpAny (model X.prog X.w) X.A (noteFrame e X.env) (fun _ t2 => wpAny (model X.prog X.w) X.A (setFlight e none) (fun _ t3 => wpAny (model X.prog X.w) X.A (handleBy e X.env (h0 :: hds)) (SP X pins D) X.xe t3) X.xe t2) X.xe t) ?_ PassesOwn.looking).run
    [] s σ H D (I.toTry _) h) ?_ fun _ _ z => z)
  · rintro _ t ⟨a, B, sI, pins', σ', H', cls, d, rfl, J, gr, up, sky, na, os, ag, w⟩
    have c : ∀ g, HandSPX.FlyingZ B (X.env :: X.outer) a (Zc cls d) g → t.heap.UpToSlots g → Cau X pins σ' H' B a cls d sI { t with heap := g } := fun g f u => ⟨hs, hf, J.ofTry I.ok, gr, up.trans u, f, na, os, ag⟩
    exact Sky.land Zc.steady fr hf (hs ▸ sky) fun g f u => (c g f u).clauses hN tk hh w
  · intro f t out
    match f, out with
    | .next, ⟨_, _, J, q⟩ => exact wpAny_execs_nil ⟨_, _, J.ofTry I.ok, q⟩
    | .brk, ⟨_, _, J, q⟩ => exact ⟨_, _, J.ofTry I.ok, q⟩
    | .cont, ⟨_, _, J, q⟩ => exact ⟨_, _, J.ofTry I.ok, q⟩
    | .ret _, ⟨_, _, _, J, r, q⟩ => exact ⟨_, _, _, J.ofTry I.ok, r, q⟩
/-- whether an error of the class C is one of S -/
theorem exm_two {K : PySem.W.Frag} {C S : Addr} {b : Bool} (h1 : PySem.W.subIn K (.ref S) (.type "BaseException") = some true) (h2 : PySem.W.isClsIn K S = true) (h3 : PySem.W.typeIn K (.ref S) = some (.type "type")) (h4 : PySem.W.subIn K (.ref C) (.ref S) = some b) :
    PySem.W.exmOne K (.ref C) (.ref S) = some b := by
  have i1 : (PySem.W.subIn K (.ref S) (.type "BaseException") == some true) = true := by rw [h1] <;> rfl
  have i2 : ((PySem.W.clsIn K S).isSome && PySem.W.typeIn K (.ref S) == some (.type "type")) = true := by
    have i0 : (PySem.W.clsIn K S).isSome = true := h2
    rw [i0, h3] <;> rfl
  unfold PySem.W.exmOne
  rw [if_pos i1]
  refine Eq.trans (if_pos i2) h4
end EH
namespace EH
open PySem L2 PyProof.Rows
/-! ### defs that write texts of displays: nothing of that sort is under way around them -/
def Free (A : Around) : Prop := A.guards = some []
structure FnG (P : Program) (w : World) (K : PySem.W.Frag) (mg : Str → Option Value) (base : Heap) (CX : CXT) (k : Nat) (f : Addr) (fd : FuncData) (ps : List Str) (sp : Sp) : Prop where
  len : ∀ vs H Q E, sp vs H Q E → vs.length = ps.length
  run : ∀ (A : Around) (outer : List Env) (s : Shared) (H : Hp) (args : Args) (us : List Value) (vs : List V) (Q : VK) (E : XK),
    Free A → Room k A → Env0 P w K mg base A outer s H → BindsTo s fd args (ps.zip us) → Vals vs us → sp vs H Q E → codeAny (model P w) A (.call (.ref f) args) (CR CX outer P w H s Q E) s
section
variable {P : Program} {w : World} {K : PySem.W.Frag} {mg : Str → Option Value} {base : Heap} {CX : CXT}
theorem Fun.okG {x qual : Str} {st : Stmt} {f : Addr} {fd : FuncData} {N ps : List Str} {k : Nat} {sp : Sp} (F : Fun K x qual st f fd) (S : FnScope N ps (defScope st)) (len : ∀ vs H Q E, sp vs H Q E → vs.length = ps.length)
    (body : ∀ (cdv : Value) (A : Around) (outer : List Env) (s : Shared) (H : Hp) (vs : List V) (Q : VK) (E : XK), Free (A.deeper (envOfC qual (defScope st) s.heap.objs.size f cdv)) →
      Room k (A.deeper (envOfC qual (defScope st) s.heap.objs.size f cdv)) → sp vs H Q E →
      ∃ t, PSs (cxOf CX0 P w K mg base N qual (defScope st) f cdv A outer s H E).nox (defBody st) t ∧ t { nx := fun _ H' => Q .non H', rt := Q } (start N vs) H) : FnG P w K mg base CX0 (k + 1) f fd ps sp := by
  refine ⟨len, fun A outer s H args us vs Q E fr hr e0 hb r hsp => ?_⟩
  obtain ⟨oc, od, kV, doc, pm, an, cdv, ct, osl, rfl, lk, hcd⟩ := F.ex
  have hl := len _ _ _ _ hsp
  have KX : K.In s.heap := e0.mod.kin.keeps fun b o e => (e0.bs b o e).1
  have lim : s.heap.NoLimit := e0.mod.nolimit.keeps fun b o e => (e0.bs b o e).1
  have kinds : ∀ y ∈ ps.zip us, (defScope st).names.lookup y.1 = some .local ∨ ((defScope st).names.lookup y.1 = some .cell ∧ ((cellsFrom (s.heap.objs.size + 1) (defScope st).names []).lookup y.1).isSome = true) := by
    rintro ⟨n, v⟩ hy
    rcases S.par n (List.of_mem_zip hy).1 with q | q
    · exact .inl q
    · exact .inr ⟨q, PySem.W.cellsFrom_some _ _ _ (.inl q)⟩
  refine codeAny_call_function hr.depth (KX _ _ lk) rfl S.co S.gen rfl (PySem.W.codeRec_of KX hcd) (hb _ _ _ _ ?_)
  refine wpAny_newFunctionEnv_cells S.kind kinds fun env he s1 y => ?_
  subst he
  refine ⟨lim.keeps y.toInCall.keep, codeAny_func ?_⟩
  obtain ⟨t, ht, hq⟩ := body cdv A outer s H vs Q E fr (hr.deeper _) hsp
  have I0 : Inv (cxOf CX0 P w K mg base N qual (defScope st) f cdv A outer s H E) [] (start N vs) H s1 := inv_start S hr.hd e0 hl r y
  refine wpAny_mono (ht.nox.run [] s1 (start N vs) H _ I0 hq) (fun fl s' hs => ?_) fun _ _ z => z
  have close : ∀ {σ' : L2.St} {H' : Hp} {v : V} {u : Value}, Inv (cxOf CX0 P w K mg base N qual (defScope st) f cdv A outer s H E) [] σ' H' s' → RelV v u → Q v H' → CE outer P w H s Q u s' :=
    fun J rv q => ⟨_, _, J.os, J.bare, J.base, J.hok, rv, q⟩
  cases fl with
  | ret u => obtain ⟨v, σ', H', J, rv, q⟩ := hs; exact close J rv q
  | next => obtain ⟨σ', H', J, q⟩ := hs; exact close (v := V.non) (u := Value.none) J rfl q
  | brk => obtain ⟨_, _, _, q⟩ := hs; exact q.elim
  | cont => obtain ⟨_, _, _, q⟩ := hs; exact q.elim
end
section
variable {X : Cx} {CX : CXT} {k : Nat} {f C : Addr} {fd : FuncData} {ps : List Str} {sp : Sp} {dvs : List V} {ds : List Value} {E : XK} {x m : Str} {p pos apos : Pos} {e o : Expr} {es : List Expr} {ta : TE} {t : TA}
end
/-! ### repr -/
section
variable {X : Cx}
/-- repr of data: the text of the data -/
def rReprD (K : PySem.W.Frag) : List V → Hp → VK → Prop := fun xs H Q => ∃ x d, xs = [x] ∧ Dp K H x d ∧ d.showable = true ∧ d.shown.length ≤ sizeLine ∧ d.depth ≤ 60 ∧ Q (.str d.shown) H
theorem call_reprD (fr : Free X.A) (hu : X.A.units + 64 < cLine) : CallR X (.builtin "repr") (rReprD X.K) := by
  intro pins s σ H xs us Q I r h
  obtain ⟨x, d, rfl, hd, sh, sz, dp, q⟩ := h
  obtain ⟨u, rfl, rx⟩ := vals1 r
  obtain ⟨as, rd⟩ := Dp.reads I d x u hd rx
  have nd : d.hasDict = false := by
    have all : ∀ (d : PyData) (v : V), Dp X.K H v d → d.hasDict = false := by
      intro d v h
      exact Dp.rec (motive_1 := fun v d _ => d.hasDict = false) (motive_2 := fun vs ds _ => PyData.hasDictAll ds = false) (by simp only [PyData.hasDict]) (fun _ => by simp only [PyData.hasDict]) (fun _ => by simp only [PyData.hasDict])
        (fun _ => by simp only [PyData.hasDict]) (fun _ _ ih => by simp only [PyData.hasDict]; exact ih) (fun _ _ ih => by simp only [PyData.hasDict]; exact ih) (by simp only [PyData.hasDictAll]) (fun _ _ i1 i2 => by simp only [PyData.hasDictAll, i1, i2, Bool.or_self]) h
    exact all d x hd
  cases hd with
  | non => cases (show u = Value.none from rx); exact PySem.P.repr_of_none ⟨.str _, H, I.tok _, ⟨_, rfl⟩, q⟩
  | bl b =>
    cases (show u = Value.bool b from rx)
    refine PySem.P.repr_of_bool ⟨.str _, H, I.tok _, ⟨_, rfl⟩, ?_⟩
    rw [PyData.shown_bool] at q
    exact q
  | int i =>
    obtain ⟨t, rfl⟩ := (show ∃ t, u = Value.int i t from rx)
    refine PySem.P.repr_of_int (by simpa [PyData.showable] using sh) ⟨.str _, H, I.tok _, ⟨_, rfl⟩, ?_⟩
    rw [PyData.shown_int] at q
    exact q
  | str y =>
    obtain ⟨t, rfl⟩ := (show ∃ t, u = Value.str y t from rx)
    refine PySem.P.repr_of_str ⟨.str _, H, I.tok _, ⟨_, rfl⟩, ?_⟩ ?_
    · simp only [PyData.shown] at q; exact q
    · simp only [PyData.shown] at sz; exact sz
  | lst h1 h2 =>
    cases rx
    exact repr_of_reads' rd sh (PyData.noDict_hsm nd) fr (by omega) (fun _ _ z => z) (fun h' t tk hk => ⟨.str _, H, I.kept hk, ⟨_, rfl⟩, q⟩) sz
  | tup h1 h2 =>
    cases rx
    exact repr_of_reads' rd sh (PyData.noDict_hsm nd) fr (by omega) (fun _ _ z => z) (fun h' t tk hk => ⟨.str _, H, I.kept hk, ⟨_, rfl⟩, q⟩) sz
end
/-! ### a law's own head, its def of the kind FnG -/
section
variable {P : Program} {w : World} {K : PySem.W.Frag} {mg mb : Str → Option Value} {CX : CXT} {k : Nat} {fa a : Addr} {fd : FuncData} {x : Str} {sp : Sp} {s₁ : Shared} {vs : List Value} {ns : List Int}
theorem law_coreG (KX : K.In s₁.heap) (hns : s₁.heap.Ns mainGlobals mg) (hb : s₁.heap.Ns builtinsNs mb) (hbb : ∀ x : Str, x ≠ "__name__" → mb x = bootBuiltins x) (hlim : s₁.heap.NoLimit) (hg : s₁.gens = #[])
    (ha : s₁.heap.get? a = some { cls := .type "list", data := .seq vs.toArray }) (hr : Room k callerA)
    (F : ∀ base : Heap, K.In base → base.Ns mainGlobals mg → FnG P w K mg base CX k fa fd [x] sp) (hbind : ∀ (s : Shared) (u : Value), BindsTo s fd ⟨[u], []⟩ [(x, u)])
    (hCX : ∀ H e s', CX [] H s₁ (fun _ _ _ => False) e s' → False) (H : Hp) (hO : Only H) (hsp : sp [.ref a] H (fun v _ => v = .bl true) fun _ _ _ => False) (hok : HOk P w H s₁.heap) (hA : ∀ b, H b ≠ none → b = a) (hK : H a ≠ none → K.lookup a = none) :
    codeAny (model P w) callerA (.call (.ref fa) ⟨[.ref a], []⟩) (fun r s' => r = .ok (.ret (.bool true)) ∧ OldK s₁.heap s'.heap ∧ s'.os = s₁.os ∧ AllBare s'.gens) s₁ := by
  have un_a : ∀ {b : Addr}, b ≠ a → H b = none := fun {b} h => by
    cases q : H b with
    | none => rfl
    | some u => exact absurd (hA b (by rw [q]; exact fun z => nomatch z)) h
  have dictFree : ∀ {b : Addr} {o : Obj} {es : Array DictEntry} {ep : Nat}, s₁.heap.get? b = some o → o.data = .dict es ep → H b = none := fun {b o es ep} e d => by
    refine un_a fun z => ?_
    subst z
    rw [ha] at e
    cases e
    cases (show Data.seq vs.toArray _ = Data.dict es ep from d)
  have nsK : ∀ {b : Addr} {m : Str → Option Value}, s₁.heap.Ns b m → (hidT s₁.heap H).Ns b m := fun ⟨o, es, ep, e, d, r⟩ => ⟨o, es, ep, hidT_get e (dictFree e d), d, r⟩
  have kin : K.In (hidT s₁.heap H) := fun b o e => by
    refine hidT_get (KX b o e) ?_
    by_cases z : b = a
    · subst z
      cases q : H b with
      | none => rfl
      | some u => rw [hK (by rw [q]; exact fun z => nomatch z)] at e; cases e
    · exact un_a z
  have md : Mod K mg (hidT s₁.heap H) := ⟨kin, nsK hns, ⟨mb, nsK hb, hbb⟩, by obtain ⟨mc, h1, h2⟩ := hlim; exact ⟨mc, nsK h1, h2⟩⟩
  have e0 : Env0 P w K mg (hidT s₁.heap H) callerA [] s₁ H := ⟨rfl, md, fun _ _ e => of_hidT e, Nat.le_of_eq (hidT_size _ _), trivial, (fun b z => absurd (show b ∈ ([] : List Addr) from z) (by simp)), hok, .of_eq hg⟩
  refine codeAny_mono ((F _ kin (nsK hns)).run callerA [] s₁ H ⟨[.ref a], []⟩ [.ref a] [.ref a] _ _ rfl hr e0 (hbind s₁ (.ref a)) (.cons rfl .nil) hsp) fun r s' h => ?_
  cases r with
  | error e => exact (hCX H e s' h).elim
  | ok fl => cases fl with
    | next => exact h.elim
    | brk => exact h.elim
    | cont => exact h.elim
    | ret u =>
      obtain ⟨v, H', os, bare, un, hok', rv, q⟩ := h
      cases (show v = .bl true from q)
      cases (show u = Value.bool true from rv)
      refine ⟨rfl, OldK.of_keep fun b o e => ?_, os, bare⟩
      rcases hO b with z | ⟨ob, xs, z⟩
      · exact un.keep b o e z (fun y => nomatch (show b ∈ ([] : List Addr) from y)) (fun y => nomatch y)
      · obtain ⟨e1, _⟩ := hok b _ z
        obtain ⟨e2, _⟩ := hok' b _ (un.frzs b ob _ z)
        rw [e] at e1
        cases e1
        exact e2
theorem law_callG (KX : K.In s₁.heap) (hns : s₁.heap.Ns mainGlobals mg) (hb : s₁.heap.Ns builtinsNs mb) (hbb : ∀ x : Str, x ≠ "__name__" → mb x = bootBuiltins x) (hlim : s₁.heap.NoLimit) (hg : s₁.gens = #[])
    (ha : s₁.heap.get? a = some { cls := .type "list", data := .seq vs.toArray }) (hi : IntsAre vs ns) (hl : ns.length ≤ sizeLine) (hr : Room k callerA)
    (F : ∀ base : Heap, K.In base → base.Ns mainGlobals mg → FnG P w K mg base CX k fa fd [x] sp) (hbind : ∀ (s : Shared) (u : Value), BindsTo s fd ⟨[u], []⟩ [(x, u)])
    (hsp : ∀ H : Hp, Only H → SqL K H a (ns.map V.int) → sp [.ref a] H (fun v _ => v = .bl true) fun _ _ _ => False) (hCX : ∀ H e s', CX [] H s₁ (fun _ _ _ => False) e s' → False) :
    codeAny (model P w) callerA (.call (.ref fa) ⟨[.ref a], []⟩) (fun r s' => r = .ok (.ret (.bool true)) ∧ OldK s₁.heap s'.heap ∧ s'.os = s₁.os ∧ AllBare s'.gens) s₁ := by
  have rv := vals_ints hi
  have core := law_coreG (k := k) (fa := fa) (sp := sp) KX hns hb hbb hlim hg ha hr F hbind hCX
  cases hk : K.lookup a with
  | some o =>
    have e := KX a o hk
    rw [ha] at e
    cases e
    have hS : SqL K (fun _ => none) a (ns.map V.int) := .inr ⟨_, vs.toArray, _, hk, rfl, rfl, rfl, by rw [List.size_toArray, hi.length]; exact hl, by simpa using rv⟩
    exact core (fun _ => none) (fun _ => .inl rfl) (hsp _ (fun _ => .inl rfl) hS) (fun b u z => nomatch (show (none : Option HO) = some u from z)) (fun b z => absurd rfl z) fun z => absurd rfl z
  | none =>
    have at_a : ∀ b : Addr, b = a → (fun b => if b = a then some (HO.frz { cls := .type "list", data := .seq vs.toArray } (.lst (ns.map V.int))) else none) b = some (.frz { cls := .type "list", data := .seq vs.toArray } (.lst (ns.map V.int))) := fun b z => if_pos z
    have off_a : ∀ b : Addr, b ≠ a → (fun b => if b = a then some (HO.frz { cls := .type "list", data := .seq vs.toArray } (.lst (ns.map V.int))) else none) b = none := fun b z => if_neg z
    generalize (fun b => if b = a then some (HO.frz { cls := .type "list", data := .seq vs.toArray } (.lst (ns.map V.int))) else none) = H0 at at_a off_a
    have only : Only H0 := fun b => by
      by_cases z : b = a
      · exact .inr ⟨_, _, at_a b z⟩
      · exact .inl (off_a b z)
    refine core H0 only (hsp H0 only (.inl (.inr ⟨_, at_a a rfl⟩))) (fun b u z => ?_) (fun b z => ?_) fun _ => hk
    · by_cases y : b = a
      · have e := (at_a b y).symm.trans z
        cases e
        subst y
        exact ⟨ha, by rw [List.length_map]; exact hl, vs, _, rv, ha⟩
      · exact nomatch (off_a b y).symm.trans z
    · by_cases y : b = a
      · exact y
      · exact absurd (off_a b y) z
end
theorem walk_ofG {l : PySem.W.OpenLaw} {n k : Nat} {q : Program} {loose : List Str} {XP : (Str → Option Value) → Heap → Prop} {YP : World → Heap → Prop} {d : DefRec} {K : Params → PySem.W.Frag} {sp : PySem.W.Frag → Sp} {x : Str}
    (hn : l.most = some n) (hn2 : n ≤ sizeLine) (hdf : d.params.defaults = []) (hr : Room k callerA) (hY : ∀ (w : World) (h : Heap), YP w h → (K w.params).In h)
    (F : ∀ (w : World) (mg : Str → Option Value) (fa : Addr) (h : Heap), (K w.params).In h → h.Ns mainGlobals mg → mg d.name = some (.ref fa) →
      ∃ fd : FuncData, (∀ (s : Shared) (u : Value), BindsTo s fd ⟨[u], []⟩ [(x, u)]) ∧ ∀ base : Heap, (K w.params).In base → base.Ns mainGlobals mg → FnG l.prog w (K w.params) mg base CX0 k fa fd [x] (sp (K w.params)))
    (hsp : ∀ (K : PySem.W.Frag) (H : Hp) (a : Addr) (ns : List Int), ns.length ≤ n → SqL K H a (ns.map V.int) → sp K [.ref a] H (fun v _ => v = .bl true) fun _ _ _ => False) :
    PySem.W.WalkO q loose XP YP l.row.toRowW d [] (fun f vs => PySem.call f vs) := by
  refine Att.attach_call hn hdf fun w s₀ s₁ mg mb fa o pm cd doc a vs ns G Y ho hd hcd hmg hobj hints hlen hg => ?_
  obtain ⟨fd, hb, hF⟩ := F w mg fa _ (hY w _ Y) G.T.g hmg
  exact law_callG (hY w _ Y) G.T.g G.T.b G.T.builtins G.T.nolimit hg hobj hints (Nat.le_trans hlen hn2) hr hF hb (fun H _ hS => hsp _ H a ns hlen hS) fun _ _ _ z => z
def spLaw (K : PySem.W.Frag) : Sp := fun vs H Q _ => ∃ (a : Addr) (ns : List Int), vs = [.ref a] ∧ SqL K H a (ns.map V.int) ∧ ns.length ≤ 63 ∧ ∀ H', Q (.bl true) H'
/-! ### t[::-1] of a tuple -/
section
variable {prog : Program} {w : World} {A : Around} {E : Value → Shared → Prop} {s : Shared}
end
section
variable {X : Cx}
end
section
variable {X : Cx} {K : PySem.W.Frag}
end
end EH
namespace EH
open PySem L2
/-! ### programs as plain data -/
inductive Ex where
  | num (i : Int) | var (x : Str) | plus (a b : Ex) | minus (a b : Ex) | times (k : Int) (a : Ex)
inductive Ts where
  | less (a b : Ex) | odd (a : Ex) | not (t : Ts)
inductive Sm where
  | set (x : Str) (e : Ex) | half (x : Str) (e : Ex) | tell (e : Ex) | say (w : Str) | stop (w : Str)
  | ite (t : Ts) (yes no : List Sm) | rep (k : Nat) (b : List Sm)
/-! what a value is in the heap: tuples of tuples, ints, texts -/
mutual
def Tr (H : Hp) : PyData → V → Prop
  | .none, v => v = .non
  | .bool b, v => v = .bl b
  | .int i, v => v = .int i
  | .str x, v => v = .str x
  | .tuple ds, v => ∃ a xs, v = .ref a ∧ H a = some (.tup xs) ∧ TrAll H ds xs
  | .list _, _ => False
  | .dict _, _ => False
def TrAll (H : Hp) : List PyData → List V → Prop
  | [], xs => xs = []
  | d :: ds, xs => ∃ v vs, xs = v :: vs ∧ Tr H d v ∧ TrAll H ds vs
end
mutual
theorem Tr.mono {H H' : Hp} (k : ∀ b xs, H b = some (.tup xs) → H' b = some (.tup xs)) : ∀ (d : PyData) (v : V), Tr H d v → Tr H' d v
  | .none, v, h => by simp only [Tr] at h ⊢; exact h
  | .bool b, v, h => by simp only [Tr] at h ⊢; exact h
  | .int i, v, h => by simp only [Tr] at h ⊢; exact h
  | .str x, v, h => by simp only [Tr] at h ⊢; exact h
  | .tuple ds, v, h => by
    simp only [Tr] at h ⊢
    obtain ⟨a, xs, e, h1, h2⟩ := h
    exact ⟨a, xs, e, k a xs h1, TrAll.mono k ds xs h2⟩
  | .list _, v, h => by simp only [Tr] at h
  | .dict _, v, h => by simp only [Tr] at h
theorem TrAll.mono {H H' : Hp} (k : ∀ b xs, H b = some (.tup xs) → H' b = some (.tup xs)) : ∀ (ds : List PyData) (vs : List V), TrAll H ds vs → TrAll H' ds vs
  | [], vs, h => by simp only [TrAll] at h ⊢; exact h
  | d :: ds, vs, h => by
    simp only [TrAll] at h ⊢
    obtain ⟨v, r, e, h1, h2⟩ := h
    exact ⟨v, r, e, Tr.mono k d v h1, TrAll.mono k ds r h2⟩
end
theorem Kp.tr {S : List Addr} {H H' : Hp} {d : PyData} {v : V} (k : Kp S H H') (h : Tr H d v) : Tr H' d v := Tr.mono k.tup d v h
theorem Kp.trAll {S : List Addr} {H H' : Hp} {d : List PyData} {v : List V} (k : Kp S H H') (h : TrAll H d v) : TrAll H' d v := TrAll.mono k.tup d v h
mutual
theorem Tr.dp {K : PySem.W.Frag} {H : Hp} : ∀ (d : PyData) (v : V), Tr H d v → Dp K H v d
  | .none, v, h => by simp only [Tr] at h; subst h; exact .non
  | .bool b, v, h => by simp only [Tr] at h; subst h; exact .bl b
  | .int i, v, h => by simp only [Tr] at h; subst h; exact .int i
  | .str x, v, h => by simp only [Tr] at h; subst h; exact .str x
  | .tuple ds, v, h => by
    simp only [Tr] at h
    obtain ⟨a, xs, e, h1, h2⟩ := h
    subst e
    exact .tup (SqT.of h1) (TrAll.dp ds xs h2)
  | .list _, v, h => by simp only [Tr] at h
  | .dict _, v, h => by simp only [Tr] at h
theorem TrAll.dp {K : PySem.W.Frag} {H : Hp} : ∀ (ds : List PyData) (vs : List V), TrAll H ds vs → DpAll K H vs ds
  | [], vs, h => by simp only [TrAll] at h; subst h; exact .nil
  | d :: ds, vs, h => by
    simp only [TrAll] at h
    obtain ⟨v, r, e, h1, h2⟩ := h
    subst e
    exact .cons (Tr.dp d v h1) (TrAll.dp ds r h2)
end
theorem TrAll.length {H : Hp} : ∀ {ds : List PyData} {vs : List V}, TrAll H ds vs → vs.length = ds.length
  | [], vs, h => by simp only [TrAll] at h; subst h; rfl
  | d :: ds, vs, h => by
    simp only [TrAll] at h
    obtain ⟨v, r, e, h1, h2⟩ := h
    subst e
    rw [List.length_cons, List.length_cons, TrAll.length h2]
theorem TrAll.get {H : Hp} : ∀ {ds : List PyData} {vs : List V} {i : Nat} {d : PyData}, TrAll H ds vs → ds[i]? = some d → ∃ v, vs[i]? = some v ∧ Tr H d v
  | [], vs, i, d, h, e => by simp at e
  | d :: ds, vs, 0, d', h, e => by
    simp only [TrAll] at h
    obtain ⟨v, r, rfl, h1, h2⟩ := h
    cases e
    exact ⟨v, rfl, h1⟩
  | d :: ds, vs, i + 1, d', h, e => by
    simp only [TrAll] at h
    obtain ⟨v, r, rfl, h1, h2⟩ := h
    exact TrAll.get (i := i) h2 e
theorem TrAll.append {H : Hp} : ∀ {ds es : List PyData} {vs ws : List V}, TrAll H ds vs → TrAll H es ws → TrAll H (ds ++ es) (vs ++ ws)
  | [], es, vs, ws, h, g => by simp only [TrAll] at h; subst h; exact g
  | d :: ds, es, vs, ws, h, g => by
    simp only [TrAll] at h
    obtain ⟨v, r, rfl, h1, h2⟩ := h
    simp only [List.cons_append, TrAll]
    exact ⟨v, r ++ ws, rfl, h1, TrAll.append h2 g⟩
/-! what a tuple is -/
theorem tr_int {H : Hp} {i : Int} {v : V} (h : Tr H (.int i) v) : v = .int i := by simp only [Tr] at h; exact h
theorem tr_str {H : Hp} {x : Str} {v : V} (h : Tr H (.str x) v) : v = .str x := by simp only [Tr] at h; exact h
theorem tr_tup {H : Hp} {ds : List PyData} {v : V} (h : Tr H (.tuple ds) v) : ∃ a xs, v = .ref a ∧ H a = some (.tup xs) ∧ TrAll H ds xs := by simp only [Tr] at h; exact h
theorem tr_tup2 {H : Hp} {d1 d2 : PyData} {v : V} (h : Tr H (.tuple [d1, d2]) v) : ∃ a x1 x2, v = .ref a ∧ H a = some (.tup [x1, x2]) ∧ Tr H d1 x1 ∧ Tr H d2 x2 := by
  simp only [Tr, TrAll] at h
  obtain ⟨a, xs, rfl, h1, x1, _, rfl, t1, x2, _, rfl, t2, rfl⟩ := h
  exact ⟨a, x1, x2, rfl, h1, t1, t2⟩
theorem tr_tup3 {H : Hp} {d1 d2 d3 : PyData} {v : V} (h : Tr H (.tuple [d1, d2, d3]) v) : ∃ a x1 x2 x3, v = .ref a ∧ H a = some (.tup [x1, x2, x3]) ∧ Tr H d1 x1 ∧ Tr H d2 x2 ∧ Tr H d3 x3 := by
  simp only [Tr, TrAll] at h
  obtain ⟨a, xs, rfl, h1, x1, _, rfl, t1, x2, _, rfl, t2, x3, _, rfl, t3, rfl⟩ := h
  exact ⟨a, x1, x2, x3, rfl, h1, t1, t2, t3⟩
theorem tr_tup4 {H : Hp} {d1 d2 d3 d4 : PyData} {v : V} (h : Tr H (.tuple [d1, d2, d3, d4]) v) : ∃ a x1 x2 x3 x4, v = .ref a ∧ H a = some (.tup [x1, x2, x3, x4]) ∧ Tr H d1 x1 ∧ Tr H d2 x2 ∧ Tr H d3 x3 ∧ Tr H d4 x4 := by
  simp only [Tr, TrAll] at h
  obtain ⟨a, xs, rfl, h1, x1, _, rfl, t1, x2, _, rfl, t2, x3, _, rfl, t3, x4, _, rfl, t4, rfl⟩ := h
  exact ⟨a, x1, x2, x3, x4, rfl, h1, t1, t2, t3, t4⟩
theorem mk_tup {H : Hp} {ds : List PyData} {a : Addr} {xs : List V} (h : H a = some (.tup xs)) (t : TrAll H ds xs) : Tr H (.tuple ds) (.ref a) := by simp only [Tr]; exact ⟨a, xs, rfl, h, t⟩
theorem trs_nil {H : Hp} : TrAll H [] [] := by simp only [TrAll]
theorem trs_cons {H : Hp} {d : PyData} {ds : List PyData} {v : V} {vs : List V} (h : Tr H d v) (t : TrAll H ds vs) : TrAll H (d :: ds) (v :: vs) := by simp only [TrAll]; exact ⟨v, vs, rfl, h, t⟩
theorem mk_int {H : Hp} {i : Int} : Tr H (.int i) (.int i) := by simp only [Tr]
theorem mk_str {H : Hp} {x : Str} : Tr H (.str x) (.str x) := by simp only [Tr]
theorem mk_non {H : Hp} : Tr H .none .non := by simp only [Tr]
/-! their data -/
def Ex.d : Ex → PyData
  | .num i => .int i
  | .var x => .str x
  | .plus a b => .tuple [.str "plus", a.d, b.d]
  | .minus a b => .tuple [.str "minus", a.d, b.d]
  | .times k a => .tuple [.str "times", .int k, a.d]
def Ts.d : Ts → PyData
  | .less a b => .tuple [.str "less", a.d, b.d]
  | .odd a => .tuple [.str "odd", a.d]
  | .not t => .tuple [.str "not", t.d]
mutual
def Sm.d : Sm → PyData
  | .set x e => .tuple [.str "set", .str x, e.d]
  | .half x e => .tuple [.str "half", .str x, e.d]
  | .tell e => .tuple [.str "tell", e.d]
  | .say w => .tuple [.str "say", .str w]
  | .stop w => .tuple [.str "stop", .str w]
  | .ite t y n => .tuple [.str "if", t.d, .tuple (Sm.ds y), .tuple (Sm.ds n)]
  | .rep k b => .tuple [.str "repeat", .int k, .tuple (Sm.ds b)]
def Sm.ds : List Sm → List PyData
  | [] => []
  | s :: r => s.d :: Sm.ds r
end
/-! ### what they are worth -/
def Ex.ev (env : Str → Int) : Ex → Int
  | .num i => i
  | .var x => env x
  | .plus a b => a.ev env + b.ev env
  | .minus a b => a.ev env - b.ev env
  | .times k a => k * a.ev env
def Ts.ev (env : Str → Int) : Ts → Bool
  | .less a b => decide (a.ev env < b.ev env)
  | .odd a => decide ((a.ev env) % 2 = 1)
  | .not t => !t.ev env
/-- a name that can be shown -/
def NmOk (x : Str) : Prop := PyData.strOk x = true ∧ x.length ≤ 1000
/-- factors are small -/
def Ex.ok : Ex → Prop
  | .num i => -99 ≤ i ∧ i ≤ 99
  | .var x => NmOk x
  | .plus a b => a.ok ∧ b.ok
  | .minus a b => a.ok ∧ b.ok
  | .times k a => -9 ≤ k ∧ k ≤ 9 ∧ a.ok
def Ex.deep : Ex → Nat
  | .num _ => 1
  | .var _ => 1
  | .plus a b => max a.deep b.deep + 1
  | .minus a b => max a.deep b.deep + 1
  | .times _ a => a.deep + 1
/-! ### places -/
mutual
def Sm.pl : Sm → Nat
  | .ite _ y n => 1 + (Sm.pls y + Sm.pls n)
  | .rep _ b => 1 + Sm.pls b
  | .set _ _ => 1
  | .half _ _ => 1
  | .tell _ => 1
  | .say _ => 1
  | .stop _ => 1
def Sm.pls : List Sm → Nat
  | [] => 0
  | s :: r => s.pl + Sm.pls r
end
mutual
def Sm.nest : Sm → Nat
  | .ite _ y n => max (Sm.nests y) (Sm.nests n) + 1
  | .rep _ b => Sm.nests b + 1
  | .set _ _ => 0
  | .half _ _ => 0
  | .tell _ => 0
  | .say _ => 0
  | .stop _ => 0
def Sm.nests : List Sm → Nat
  | [] => 0
  | s :: r => max s.nest (Sm.nests r)
end
def Sm.blks : Sm → List (List Sm)
  | .ite _ y n => [y, n]
  | .rep _ b => [b]
  | .set _ _ => []
  | .half _ _ => []
  | .tell _ => []
  | .say _ => []
  | .stop _ => []
theorem Sm.pl_blks : ∀ s : Sm, s.pl = 1 + ((Sm.blks s).map Sm.pls).sum
  | .ite _ y n => by simp [Sm.pl, Sm.blks]
  | .rep _ b => by simp [Sm.pl, Sm.blks]
  | .set _ _ => by simp [Sm.pl, Sm.blks]
  | .half _ _ => by simp [Sm.pl, Sm.blks]
  | .tell _ => by simp [Sm.pl, Sm.blks]
  | .say _ => by simp [Sm.pl, Sm.blks]
  | .stop _ => by simp [Sm.pl, Sm.blks]
theorem Sm.pl_pos (s : Sm) : 0 < s.pl := by rw [Sm.pl_blks]; omega
theorem Sm.len_pls : ∀ l : List Sm, l.length ≤ Sm.pls l
  | [] => by simp
  | s :: r => by
    have := Sm.len_pls r
    have := s.pl_pos
    simp only [Sm.pls, List.length_cons]
    omega
theorem Sm.nest_mem : ∀ {l : List Sm} {s : Sm}, s ∈ l → s.nest ≤ Sm.nests l
  | [], s, h => by cases h
  | t :: r, s, h => by
    simp only [Sm.nests]
    rcases List.mem_cons.mp h with rfl | h
    · omega
    · have := Sm.nest_mem h
      omega
theorem Sm.pl_mem : ∀ {l : List Sm} {s : Sm}, s ∈ l → s.pl ≤ Sm.pls l
  | [], s, h => by cases h
  | t :: r, s, h => by
    simp only [Sm.pls]
    rcases List.mem_cons.mp h with rfl | h
    · omega
    · have := Sm.pl_mem h
      omega
theorem Sm.blk_nest : ∀ {s : Sm} {b : List Sm}, b ∈ s.blks → Sm.nests b + 1 ≤ s.nest
  | .ite _ y n, b, h => by
    simp only [Sm.blks, List.mem_cons, List.not_mem_nil, or_false] at h
    simp only [Sm.nest]
    rcases h with rfl | rfl <;> omega
  | .rep _ _, b, h => by
    simp only [Sm.blks, List.mem_cons, List.not_mem_nil, or_false] at h
    subst h
    simp only [Sm.nest]
    omega
  | .set _ _, b, h => by simp [Sm.blks] at h
  | .half _ _, b, h => by simp [Sm.blks] at h
  | .tell _, b, h => by simp [Sm.blks] at h
  | .say _, b, h => by simp [Sm.blks] at h
  | .stop _, b, h => by simp [Sm.blks] at h
theorem Sm.blk_pls : ∀ {s : Sm} {b : List Sm}, b ∈ s.blks → Sm.pls b + 1 ≤ s.pl
  | .ite _ y n, b, h => by
    simp only [Sm.blks, List.mem_cons, List.not_mem_nil, or_false] at h
    simp only [Sm.pl]
    rcases h with rfl | rfl <;> omega
  | .rep _ _, b, h => by
    simp only [Sm.blks, List.mem_cons, List.not_mem_nil, or_false] at h
    subst h
    simp only [Sm.pl]
    omega
  | .set _ _, b, h => by simp [Sm.blks] at h
  | .half _ _, b, h => by simp [Sm.blks] at h
  | .tell _, b, h => by simp [Sm.blks] at h
  | .say _, b, h => by simp [Sm.blks] at h
  | .stop _, b, h => by simp [Sm.blks] at h
theorem Sm.blks_le : ∀ s : Sm, s.blks.length ≤ 2
  | .ite _ y n => by simp [Sm.blks]
  | .rep _ b => by simp [Sm.blks]
  | .set _ _ => by simp [Sm.blks]
  | .half _ _ => by simp [Sm.blks]
  | .tell _ => by simp [Sm.blks]
  | .say _ => by simp [Sm.blks]
  | .stop _ => by simp [Sm.blks]
theorem Sm.ds_map : ∀ l : List Sm, Sm.ds l = l.map Sm.d
  | [] => by simp [Sm.ds]
  | s :: r => by simp [Sm.ds, Sm.ds_map r]
def sp0 (f : Nat → Sp) : Nat → Sp
  | 0 => fun _ _ _ _ => False
  | n + 1 => f n
theorem fn_no {P : Program} {w : World} {K : PySem.W.Frag} {mg : Str → Option Value} {base : Heap} {k : Nat} {f : Addr} {fd : FuncData} {ps : List Str} {sp : Sp} (no : ∀ vs H Q E, ¬ sp vs H Q E) : FnOk P w K mg base CX0 k f fd ps sp :=
  ⟨fun vs H Q E h => absurd h (no vs H Q E), fun A outer s H args us vs Q E _ _ _ _ h => absurd h (no vs H Q E)⟩
/-! ### the names of a run -/
def EnvRel (kvs : List (Key × V)) (env : Str → Int) : Prop := ∀ y : Str, (valV kvs (Sum.inr y)).getD (.int 0) = .int (env y)
/-- expressions at most three deep -/
def Ts.ok : Ts → Prop
  | .less a b => (a.ok ∧ a.deep ≤ 3) ∧ b.ok ∧ b.deep ≤ 3
  | .odd a => a.ok ∧ a.deep ≤ 3
  | .not t => t.ok
def Ts.nots : Ts → Nat
  | .less _ _ => 0
  | .odd _ => 0
  | .not t => t.nots + 1
theorem Ex.deep_pos : ∀ e : Ex, 0 < e.deep
  | .num _ => Nat.one_pos
  | .var _ => Nat.one_pos
  | .plus _ _ => Nat.succ_pos _
  | .minus _ _ => Nat.succ_pos _
  | .times _ _ => Nat.succ_pos _
theorem dec_int (a b : Int) : decide (V.int a = V.int b) = decide (a = b) := decide_eq_decide.mpr ⟨fun h => V.int.inj h, fun h => by rw [h]⟩
/-! ### runs as plain functions -/
structure Cs where
  env : Str → Int
  said : List Key
  turns : List Int
def setE (env : Str → Int) (x : Str) (v : Int) : Str → Int := fun y => if y = x then v else env y
section
variable (dec : Nat → Int → Int → Int) (ways : Int → Option Int)
def halv (s : Cs) (v p : Int) : Int × Cs :=
  if v % 2 = 0 then (v / 2, s) else
    match ways p with
    | some c => (v / 2 + c, s)
    | none => (v / 2 + dec s.turns.length v p, { s with turns := s.turns ++ [dec s.turns.length v p] })
def iterN : Nat → (Cs → Option Str × Cs) → Cs → Option Str × Cs
  | 0, _, s => (none, s)
  | n + 1, f, s => match f s with
    | (some c, s') => (some c, s')
    | (none, s') => iterN n f s'
mutual
def Sm.run : Sm → Int → Cs → Option Str × Cs
  | .set x e, _, s => (none, { s with env := setE s.env x (e.ev s.env) })
  | .half x e, p, s => (none, { (halv dec ways s (e.ev s.env) p).2 with env := setE s.env x (halv dec ways s (e.ev s.env) p).1 })
  | .tell e, _, s => (none, { s with said := s.said ++ [Sum.inl (e.ev s.env)] })
  | .say c, _, s => (none, { s with said := s.said ++ [Sum.inr c] })
  | .stop c, _, s => (some c, s)
  | .ite t y n, p, s => if t.ev s.env then Sm.runs y (p + 1) s else Sm.runs n (p + 1 + (Sm.pls y : Int)) s
  | .rep k b, p, s => iterN k (fun s => Sm.runs b (p + 1) s) s
def Sm.runs : List Sm → Int → Cs → Option Str × Cs
  | [], _, s => (none, s)
  | t :: r, p, s => match t.run p s with
    | (some c, s') => (some c, s')
    | (none, s') => Sm.runs r (p + (t.pl : Int)) s'
end
end
mutual
def Sm.wt : Sm → Nat
  | .ite _ y n => 1 + (Sm.wts y + Sm.wts n)
  | .rep k b => 1 + k * Sm.wts b
  | .set _ _ => 1
  | .half _ _ => 1
  | .tell _ => 1
  | .say _ => 1
  | .stop _ => 1
def Sm.wts : List Sm → Nat
  | [] => 0
  | s :: r => s.wt + Sm.wts r
end
mutual
def Sm.ok : Sm → Prop
  | .ite t y n => t.ok ∧ t.nots ≤ 2 ∧ Sm.oks y ∧ Sm.oks n
  | .rep k b => k ≤ 8 ∧ Sm.oks b
  | .set x e => (e.ok ∧ e.deep ≤ 3) ∧ NmOk x
  | .half x e => (e.ok ∧ e.deep ≤ 3) ∧ NmOk x
  | .tell e => e.ok ∧ e.deep ≤ 3
  | .say c => PyData.strOk c = true ∧ c.length ≤ 20
  | .stop c => PyData.strOk c = true ∧ c.length ≤ 20
def Sm.oks : List Sm → Prop
  | [] => True
  | s :: r => s.ok ∧ Sm.oks r
end
/-! ### the object of a run -/
structure Cad where
  x : Addr
  dx : Addr
  nd : Addr
  sd : Addr
  td : Addr
  cd : Addr
  wd : Addr
def cfs (a : Cad) (r : V) : List (Str × V) := [("names", .ref a.nd), ("said", .ref a.sd), ("turns", .ref a.td), ("choices", .ref a.cd), ("ways", .ref a.wd), ("rule", r)]
structure CAt (C : Addr) (H : Hp) (a : Cad) (r : V) (chs : List Int) (wk : List (Key × V)) (n : Nat) (s : Cs) : Prop where
  ob : H a.x = some (.ins C a.dx (cfs a r))
  nm : ∃ kvs, H a.nd = some (.dK kvs) ∧ EnvRel kvs s.env ∧ kvs.length ≤ n + 1
  sa : H a.sd = some (.lst (s.said.map kV))
  tu : H a.td = some (.lst (s.turns.map V.int))
  ch : H a.cd = some (.tup (chs.map V.int))
  wy : H a.wd = some (.dK wk)
  ls : s.said.length ≤ n
  lt : s.turns.length ≤ n
  ne1 : a.nd ≠ a.wd
  ne2 : a.sd ≠ a.td
  lc : chs.length ≤ 1000000
def decC (chs : List Int) : Nat → Int → Int → Int := fun k _ _ => chs.getD k 0
theorem CAt.mono {C : Addr} {H : Hp} {a : Cad} {r : V} {chs : List Int} {wk : List (Key × V)} {n m : Nat} {s : Cs} (c : CAt C H a r chs wk n s) (h : n ≤ m) : CAt C H a r chs wk m s := by
  obtain ⟨kvs, h1, h2, h3⟩ := c.nm
  have := c.ls
  have := c.lt
  exact ⟨c.ob, ⟨kvs, h1, h2, by omega⟩, c.sa, c.tu, c.ch, c.wy, by omega, by omega, c.ne1, c.ne2, c.lc⟩
theorem CAt.kp0 {C : Addr} {H H' : Hp} {a : Cad} {r : V} {chs : List Int} {wk : List (Key × V)} {n : Nat} {s : Cs} (c : CAt C H a r chs wk n s) (k : Kp [] H H') : CAt C H' a r chs wk n s := by
  obtain ⟨kvs, h1, h2, h3⟩ := c.nm
  exact ⟨k.at c.ob, ⟨kvs, k.at h1, h2, h3⟩, k.at c.sa, k.at c.tu, k.tup _ _ c.ch, k.at c.wy, c.ls, c.lt, c.ne1, c.ne2, c.lc⟩
theorem EnvRel.put {kvs : List (Key × V)} {env : Str → Int} (h : EnvRel kvs env) (x : Str) (v : Int) : EnvRel (putK kvs (Sum.inr x) (.int v)) (setE env x v) := by
  intro y
  rw [valV_put]
  unfold setE
  by_cases e : y = x
  · subst e
    rw [if_pos rfl, if_pos rfl]
    rfl
  · rw [if_neg e, if_neg (fun z => e (Sum.inr.inj z))]
    exact h y
/-- the name x stands for v behind a store -/
theorem CAt.put {C : Addr} {H H1 : Hp} {a : Cad} {r : V} {chs : List Int} {wk : List (Key × V)} {n : Nat} {s : Cs} {kvs : List (Key × V)} {x : Str} {v : Int} (c : CAt C H a r chs wk n s) (hk : H a.nd = some (.dK kvs)) (he : EnvRel kvs s.env)
    (hl : kvs.length ≤ n + 1) (e : H1 = upd H a.nd (.dK (putK kvs (Sum.inr x) (.int v)))) : CAt C H1 a r chs wk (n + 1) { s with env := setE s.env x v } ∧ Kp [a.nd, a.sd, a.td] H H1 := by
  have k : Kp [a.nd] H H1 := by rw [e]; exact Kp.put hk (fun _ z => by cases z)
  have l2 := length_putK kvs (Sum.inr x : Key) (V.int v)
  have := c.ls
  have := c.lt
  refine ⟨⟨k.keep _ _ c.ob (EH.ne1 (ne_of c.ob hk (fun z => by cases z))), ⟨_, by rw [e]; exact upd_same, he.put x v, by omega⟩, k.keep _ _ c.sa (EH.ne1 (ne_of c.sa hk (fun z => by cases z))), k.keep _ _ c.tu (EH.ne1 (ne_of c.tu hk (fun z => by cases z))),
    k.tup _ _ c.ch, k.keep _ _ c.wy (EH.ne1 c.ne1.symm), by show s.said.length ≤ _; omega, by show s.turns.length ≤ _; omega, c.ne1, c.ne2, c.lc⟩, k.sub (by simp)⟩
theorem CAt.say {C : Addr} {H H1 : Hp} {a : Cad} {r : V} {chs : List Int} {wk : List (Key × V)} {n : Nat} {s : Cs} {v : Key} (c : CAt C H a r chs wk n s) (h1 : H1 a.sd = some (.lst (s.said.map kV ++ [kV v]))) (k : Kp [a.sd] H H1) :
    CAt C H1 a r chs wk (n + 1) { s with said := s.said ++ [v] } ∧ Kp [a.nd, a.sd, a.td] H H1 := by
  obtain ⟨kvs, g1, g2, g3⟩ := c.nm
  have := c.ls
  have := c.lt
  refine ⟨⟨k.keep _ _ c.ob (EH.ne1 (ne_of c.ob c.sa (fun z => by cases z))), ⟨kvs, k.keep _ _ g1 (EH.ne1 (ne_of g1 c.sa (fun z => by cases z))), g2, by omega⟩, by rw [h1, List.map_append]; rfl, k.keep _ _ c.tu (EH.ne1 c.ne2.symm),
    k.tup _ _ c.ch, k.keep _ _ c.wy (EH.ne1 (ne_of c.wy c.sa (fun z => by cases z))), by show (s.said ++ [v]).length ≤ _; rw [List.length_append, List.length_singleton]; omega, by show s.turns.length ≤ _; omega, c.ne1, c.ne2, c.lc⟩, k.sub (by simp)⟩
theorem CAt.turn {C : Addr} {H H1 : Hp} {a : Cad} {r : V} {chs : List Int} {wk : List (Key × V)} {n : Nat} {s : Cs} {v : Int} (c : CAt C H a r chs wk n s) (h1 : H1 a.td = some (.lst (s.turns.map V.int ++ [.int v]))) (k : Kp [a.td] H H1) :
    CAt C H1 a r chs wk (n + 1) { s with turns := s.turns ++ [v] } ∧ Kp [a.nd, a.sd, a.td] H H1 := by
  obtain ⟨kvs, g1, g2, g3⟩ := c.nm
  have := c.ls
  have := c.lt
  refine ⟨⟨k.keep _ _ c.ob (EH.ne1 (ne_of c.ob c.tu (fun z => by cases z))), ⟨kvs, k.keep _ _ g1 (EH.ne1 (ne_of g1 c.tu (fun z => by cases z))), g2, by omega⟩, k.keep _ _ c.sa (EH.ne1 c.ne2), by rw [h1, List.map_append]; rfl,
    k.tup _ _ c.ch, k.keep _ _ c.wy (EH.ne1 (ne_of c.wy c.tu (fun z => by cases z))), by show s.said.length ≤ _; omega, by show (s.turns ++ [v]).length ≤ _; rw [List.length_append, List.length_singleton]; omega, c.ne1, c.ne2, c.lc⟩, k.sub (by simp)⟩
/-! ### the promises -/
def Sm.plain : Sm → Prop
  | .ite _ _ _ => False
  | .rep _ _ => False
  | .set _ _ => True
  | .half _ _ => True
  | .tell _ => True
  | .say _ => True
  | .stop _ => True
/-! ### the parts of a statement with blocks -/
section
variable (dec : Nat → Int → Int → Int) (ways : Int → Option Int)
end
theorem oks_mem : ∀ {l : List Sm} {s : Sm}, Sm.oks l → s ∈ l → s.ok
  | [], s, _, h => by cases h
  | t :: r, s, o, h => by
    simp only [Sm.oks] at o
    rcases List.mem_cons.mp h with rfl | h
    · exact o.1
    · exact oks_mem o.2 h
theorem ok_blk : ∀ {st : Sm} {b : List Sm}, st.ok → b ∈ st.blks → Sm.oks b
  | .ite t y n, b, o, h => by
    simp only [Sm.ok] at o
    simp only [Sm.blks, List.mem_cons, List.not_mem_nil, or_false] at h
    rcases h with rfl | rfl
    · exact o.2.2.1
    · exact o.2.2.2
  | .rep k b', b, o, h => by
    simp only [Sm.ok] at o
    simp only [Sm.blks, List.mem_cons, List.not_mem_nil, or_false] at h
    subst h
    exact o.2
  | .set _ _, b, o, h => by simp [Sm.blks] at h
  | .half _ _, b, o, h => by simp [Sm.blks] at h
  | .tell _, b, o, h => by simp [Sm.blks] at h
  | .say _, b, o, h => by simp [Sm.blks] at h
  | .stop _, b, o, h => by simp [Sm.blks] at h
def Sm.kw : Sm → Str
  | .ite _ _ _ => "if"
  | .rep _ _ => "repeat"
  | .set _ _ => "set"
  | .half _ _ => "half"
  | .tell _ => "tell"
  | .say _ => "say"
  | .stop _ => "stop"
theorem Sm.head {H : Hp} {v : V} : ∀ {t : Sm}, Tr H t.d v → ∃ u rest, v = .ref u ∧ H u = some (.tup (.str t.kw :: rest))
  | .ite _ _ _, h => by obtain ⟨u, x1, x2, x3, x4, rfl, h1, t1, _⟩ := tr_tup4 h; cases tr_str t1; exact ⟨u, _, rfl, h1⟩
  | .rep _ _, h => by obtain ⟨u, x1, x2, x3, rfl, h1, t1, _⟩ := tr_tup3 h; cases tr_str t1; exact ⟨u, _, rfl, h1⟩
  | .set _ _, h => by obtain ⟨u, x1, x2, x3, rfl, h1, t1, _⟩ := tr_tup3 h; cases tr_str t1; exact ⟨u, _, rfl, h1⟩
  | .half _ _, h => by obtain ⟨u, x1, x2, x3, rfl, h1, t1, _⟩ := tr_tup3 h; cases tr_str t1; exact ⟨u, _, rfl, h1⟩
  | .tell _, h => by obtain ⟨u, x1, x2, rfl, h1, t1, _⟩ := tr_tup2 h; cases tr_str t1; exact ⟨u, _, rfl, h1⟩
  | .say _, h => by obtain ⟨u, x1, x2, rfl, h1, t1, _⟩ := tr_tup2 h; cases tr_str t1; exact ⟨u, _, rfl, h1⟩
  | .stop _, h => by obtain ⟨u, x1, x2, rfl, h1, t1, _⟩ := tr_tup2 h; cases tr_str t1; exact ⟨u, _, rfl, h1⟩
/-! ### what a run tells -/
def kD : Key → PyData
  | .inl i => .int i
  | .inr x => .str x
def wD : Option Str → PyData
  | none => .none
  | some c => .str c
def env0 (n : Int) : Str → Int := fun y => if y = "n" then n else 0
def cs0 (n : Int) : Cs := ⟨env0 n, [], []⟩
def noWay : Int → Option Int := fun _ => none
/-! ### programs that are drawn -/
/-- the names stand at nm -/
structure Nms (H : Hp) (nm a c : Addr) (names : List Str) : Prop where
  at_ : H nm = some (.lst (names.map V.str))
  off : nm ∉ [a, c]
  len : 0 < names.length ∧ names.length ≤ 1000
  oks : ∀ x ∈ names, NmOk x
theorem Nms.kp {S : List Addr} {H H' : Hp} {nm a c : Addr} {names : List Str} (x : Nms H nm a c names) (k : Kp S H H') (h : nm ∉ S) : Nms H' nm a c names := ⟨k.keep _ _ x.at_ h, x.off, x.len, x.oks⟩
theorem Nms.kp0 {H H' : Hp} {nm a c : Addr} {names : List Str} (x : Nms H nm a c names) (k : Kp [] H H') : Nms H' nm a c names := x.kp k (by simp)
theorem Nms.kpD {H H' : Hp} {nm a c : Addr} {names : List Str} (x : Nms H nm a c names) (k : Kp [a, c] H H') : Nms H' nm a c names := x.kp k x.off
/-! names that come from a list, words that come from the law's own lists -/
def Ex.inN (N : List Str) : Ex → Prop
  | .num _ => True
  | .var x => x ∈ N
  | .plus a b => a.inN N ∧ b.inN N
  | .minus a b => a.inN N ∧ b.inN N
  | .times _ a => a.inN N
def Ts.inN (N : List Str) : Ts → Prop
  | .less a b => a.inN N ∧ b.inN N
  | .odd a => a.inN N
  | .not t => t.inN N
def WdIn (c : Str) : Prop := c ∈ (["go", "7", "half", "odd", "end", "0", "not"] : List Str)
mutual
def Sm.inN (N : List Str) : Sm → Prop
  | .ite t y n => t.inN N ∧ Sm.insN N y ∧ Sm.insN N n
  | .rep _ b => Sm.insN N b
  | .set x e => e.inN N ∧ x ∈ N
  | .half x e => e.inN N ∧ x ∈ N
  | .tell e => e.inN N
  | .say c => WdIn c
  | .stop c => WdIn c
def Sm.insN (N : List Str) : List Sm → Prop
  | [] => True
  | s :: r => s.inN N ∧ Sm.insN N r
end
theorem mem_ints {P : Int → Prop} {x : V} : ∀ {l : List Int}, x ∈ l.map V.int → (∀ i ∈ l, P i) → ∃ i, x = .int i ∧ P i := fun {l} h q => by
  obtain ⟨i, hi, rfl⟩ := List.mem_map.mp h
  exact ⟨i, rfl, q i hi⟩
/-- what the counters are -/
structure Lf where
  p : Int
  w : Int
  h : Int
  c : Int
def Lf.vs (l : Lf) : List V := [.int l.p, .int l.w, .int l.h, .int l.c]
structure Gs (H : Hp) (a c nm lf : Addr) (m : Int) (names : List Str) (l : Lf) : Prop where
  dk : Deck H a c m
  nms : Nms H nm a c names
  lft : H lf = some (.lst l.vs)
  off : lf ∉ [a, c, nm]
theorem Gs.kp0 {H H' : Hp} {a c nm lf : Addr} {m : Int} {names : List Str} {l : Lf} (g : Gs H a c nm lf m names l) (k : Kp [] H H') : Gs H' a c nm lf m names l := ⟨g.dk.kp0 k, g.nms.kp0 k, k.at g.lft, g.off⟩
theorem Gs.nac {H : Hp} {a c nm lf : Addr} {m : Int} {names : List Str} {l : Lf} (g : Gs H a c nm lf m names l) : lf ∉ [a, c] := by
  have := g.off
  simp only [List.mem_cons, List.not_mem_nil, or_false, not_or] at this ⊢
  exact ⟨this.1, this.2.1⟩
theorem Gs.drawn {H H' : Hp} {a c nm lf : Addr} {m m' : Int} {names : List Str} {l : Lf} (g : Gs H a c nm lf m names l) (d : Deck H' a c m') (k : Kp [a, c] H H') : Gs H' a c nm lf m' names l :=
  ⟨d, g.nms.kpD k, k.keep _ _ g.lft g.nac, g.off⟩
theorem Gs.left {H H' : Hp} {a c nm lf : Addr} {m : Int} {names : List Str} {l l' : Lf} (g : Gs H a c nm lf m names l) (h : H' lf = some (.lst l'.vs)) (k : Kp [lf] H H') : Gs H' a c nm lf m names l' := by
  have o := g.off
  simp only [List.mem_cons, List.not_mem_nil, or_false, not_or] at o
  exact ⟨g.dk.kp k (ne1 (fun z => o.1 z.symm)) (ne1 (fun z => o.2.1 z.symm)), g.nms.kp k (ne1 (fun z => o.2.2 z.symm)), h, g.off⟩
/-! data that are tuples of tuples: what == asks -/
section
variable {X : Cx}
end
theorem Ex.dep : ∀ e : Ex, e.d.depth + 1 ≤ e.deep
  | .num _ => by simp [Ex.d, Ex.deep, PyData.depth]
  | .var _ => by simp [Ex.d, Ex.deep, PyData.depth]
  | .plus a b => by
    have := Ex.dep a
    have := Ex.dep b
    simp only [Ex.d, Ex.deep, PyData.depth, PyData.depthAll]
    omega
  | .minus a b => by
    have := Ex.dep a
    have := Ex.dep b
    simp only [Ex.d, Ex.deep, PyData.depth, PyData.depthAll]
    omega
  | .times _ a => by
    have := Ex.dep a
    simp only [Ex.d, Ex.deep, PyData.depth, PyData.depthAll]
    omega
theorem Ts.dep : ∀ {t : Ts}, t.ok → t.d.depth ≤ t.nots + 4
  | .less a b, h => by
    have := Ex.dep a
    have := Ex.dep b
    obtain ⟨⟨_, h1⟩, _, h2⟩ := (show (a.ok ∧ a.deep ≤ 3) ∧ b.ok ∧ b.deep ≤ 3 from h)
    simp only [Ts.d, Ts.nots, PyData.depth, PyData.depthAll]
    omega
  | .odd a, h => by
    have := Ex.dep a
    obtain ⟨_, h1⟩ := (show a.ok ∧ a.deep ≤ 3 from h)
    simp only [Ts.d, Ts.nots, PyData.depth, PyData.depthAll]
    omega
  | .not t, h => by
    have := Ts.dep (t := t) h
    simp only [Ts.d, Ts.nots, PyData.depth, PyData.depthAll]
    omega
def Ts.isOdd : Ts → Bool
  | .less _ _ => false
  | .odd _ => true
  | .not t => t.isOdd
/-! what a statement counts -/
mutual
def Sm.hv : Sm → Nat
  | .ite t y n => (if t.isOdd then 1 else 0) + (Sm.hvs y + Sm.hvs n)
  | .rep k b => k * Sm.hvs b
  | .half _ _ => 1
  | .set _ _ => 0
  | .tell _ => 0
  | .say _ => 0
  | .stop _ => 0
def Sm.hvs : List Sm → Nat
  | [] => 0
  | s :: r => s.hv + Sm.hvs r
end
mutual
def Sm.cp : Sm → Nat
  | .ite t y n => (if t.isOdd then 0 else 1) + (Sm.cps y + Sm.cps n)
  | .rep k b => k * Sm.cps b
  | .half _ _ => 0
  | .set _ _ => 0
  | .tell _ => 0
  | .say _ => 0
  | .stop _ => 0
def Sm.cps : List Sm → Nat
  | [] => 0
  | s :: r => s.cp + Sm.cps r
end
/-- words and names are those of the text; times at most eight -/
def Lf.nn (l : Lf) : Prop := 0 ≤ l.p ∧ 0 ≤ l.w ∧ 0 ≤ l.h ∧ 0 ≤ l.c
def Lf.le (l l' : Lf) : Prop := l'.p ≤ l.p ∧ l'.w ≤ l.w ∧ l'.h ≤ l.h ∧ l'.c ≤ l.c
/-! ### statements and blocks that are drawn -/
/-- what is left behind a statement, a block -/
structure Took (t : Int) (pl wt hv cp : Nat) (l l' : Lf) : Prop where
  p : (pl : Int) ≤ l.p - l'.p
  w : t * (wt : Int) ≤ l.w - l'.w
  h : t * (hv : Int) ≤ l.h - l'.h
  c : t * (cp : Int) ≤ l.c - l'.c
theorem Took.add {t : Int} {p1 w1 h1 c1 p2 w2 h2 c2 : Nat} {l l1 l2 : Lf} (a : Took t p1 w1 h1 c1 l l1) (b : Took t p2 w2 h2 c2 l1 l2) : Took t (p1 + p2) (w1 + w2) (h1 + h2) (c1 + c2) l l2 := by
  have := a.p; have := a.w; have := a.h; have := a.c; have := b.p; have := b.w; have := b.h; have := b.c
  refine ⟨?_, ?_, ?_, ?_⟩ <;> (simp only [Int.natCast_add, Int.mul_add]; omega)
theorem Took.le {t : Int} (ht : 0 ≤ t) {p w h c : Nat} {l l' : Lf} (a : Took t p w h c l l') : l.le l' := by
  have := a.p; have := a.w; have := a.h; have := a.c
  have z1 : 0 ≤ t * (w : Int) := Int.mul_nonneg ht (Int.natCast_nonneg _)
  have z2 : 0 ≤ t * (h : Int) := Int.mul_nonneg ht (Int.natCast_nonneg _)
  have z3 : 0 ≤ t * (c : Int) := Int.mul_nonneg ht (Int.natCast_nonneg _)
  exact ⟨by omega, by omega, by omega, by omega⟩
theorem Took.none {t : Int} {l : Lf} : Took t 0 0 0 0 l l := by
  refine ⟨?_, ?_, ?_, ?_⟩ <;> simp
theorem Took.of {t : Int} {p w h c p' w' h' c' : Nat} {l l' : Lf} (a : Took t p w h c l l') (e1 : p = p') (e2 : w = w') (e3 : h = h') (e4 : c = c') : Took t p' w' h' c' l l' := by subst e1 e2 e3 e4; exact a
theorem Took.rep {t : Int} {k p w h c : Nat} {l l' : Lf} (a : Took (t * (k : Int)) p w h c l l') : Took t p (k * w) (k * h) (k * c) l l' := by
  refine ⟨a.p, ?_, ?_, ?_⟩
  · have := a.w
    rw [Int.natCast_mul, ← Int.mul_assoc]
    exact this
  · have := a.h
    rw [Int.natCast_mul, ← Int.mul_assoc]
    exact this
  · have := a.c
    rw [Int.natCast_mul, ← Int.mul_assoc]
    exact this
/-- what a drawn statement keeps -/
structure SOk (N : List Str) (t depth : Int) (l l' : Lf) (s : Sm) : Prop where
  ok : s.ok
  inn : s.inN N
  nest : (s.nest : Int) + depth ≤ 4
  took : Took t s.pl s.wt s.hv s.cp l l'
structure BOk (N : List Str) (t depth : Int) (l l' : Lf) (b : List Sm) : Prop where
  ok : Sm.oks b
  inn : Sm.insN N b
  nest : b = [] ∨ (Sm.nests b : Int) + depth ≤ 4
  took : Took t (Sm.pls b) (Sm.wts b) (Sm.hvs b) (Sm.cps b) l l'
mutual
theorem Sm.dep : ∀ {s : Sm}, s.ok → s.d.depth ≤ 2 * s.nest + 8
  | .set x e, h => by
    simp only [Sm.ok] at h
    have := e.dep
    simp only [Sm.d, PyData.depth, PyData.depthAll]
    omega
  | .half x e, h => by
    simp only [Sm.ok] at h
    have := e.dep
    simp only [Sm.d, PyData.depth, PyData.depthAll]
    omega
  | .tell e, h => by
    simp only [Sm.ok] at h
    have := e.dep
    simp only [Sm.d, PyData.depth, PyData.depthAll]
    omega
  | .say c, h => by simp [Sm.d, PyData.depth, PyData.depthAll]
  | .stop c, h => by simp [Sm.d, PyData.depth, PyData.depthAll]
  | .ite t y n, h => by
    simp only [Sm.ok] at h
    have := Ts.dep h.1
    have := Sm.deps h.2.2.1
    have := Sm.deps h.2.2.2
    simp only [Sm.d, PyData.depth, PyData.depthAll, Sm.nest]
    omega
  | .rep k b, h => by
    simp only [Sm.ok] at h
    have := Sm.deps h.2
    simp only [Sm.d, PyData.depth, PyData.depthAll, Sm.nest]
    omega
theorem Sm.deps : ∀ {b : List Sm}, Sm.oks b → PyData.depthAll (Sm.ds b) ≤ 2 * Sm.nests b + 8
  | [], _ => by simp [Sm.ds, PyData.depthAll]
  | s :: r, h => by
    simp only [Sm.oks] at h
    have := Sm.dep h.1
    have := Sm.deps h.2
    simp only [Sm.ds, PyData.depthAll, Sm.nests]
    omega
end
theorem Sm.ds_app : ∀ (b c : List Sm), Sm.ds (b ++ c) = Sm.ds b ++ Sm.ds c
  | [], c => by simp only [List.nil_append, Sm.ds]
  | s :: r, c => by simp only [List.cons_append, Sm.ds, Sm.ds_app r c]
theorem Sm.oks_app : ∀ {b c : List Sm}, Sm.oks b → Sm.oks c → Sm.oks (b ++ c)
  | [], c, _, h => h
  | s :: r, c, h, g => by
    simp only [Sm.oks] at h
    simp only [List.cons_append, Sm.oks]
    exact ⟨h.1, Sm.oks_app h.2 g⟩
theorem Sm.pls_app : ∀ (b c : List Sm), Sm.pls (b ++ c) = Sm.pls b + Sm.pls c
  | [], c => by simp only [List.nil_append, Sm.pls]; omega
  | s :: r, c => by simp only [List.cons_append, Sm.pls, Sm.pls_app r c]; omega
theorem Sm.wts_app : ∀ (b c : List Sm), Sm.wts (b ++ c) = Sm.wts b + Sm.wts c
  | [], c => by simp only [List.nil_append, Sm.wts]; omega
  | s :: r, c => by simp only [List.cons_append, Sm.wts, Sm.wts_app r c]; omega
theorem Sm.hvs_app : ∀ (b c : List Sm), Sm.hvs (b ++ c) = Sm.hvs b + Sm.hvs c
  | [], c => by simp only [List.nil_append, Sm.hvs]; omega
  | s :: r, c => by simp only [List.cons_append, Sm.hvs, Sm.hvs_app r c]; omega
theorem Sm.cps_app : ∀ (b c : List Sm), Sm.cps (b ++ c) = Sm.cps b + Sm.cps c
  | [], c => by simp only [List.nil_append, Sm.cps]; omega
  | s :: r, c => by simp only [List.cons_append, Sm.cps, Sm.cps_app r c]; omega
theorem Sm.nests_app : ∀ (b c : List Sm), Sm.nests (b ++ c) ≤ Sm.nests b ∨ Sm.nests (b ++ c) ≤ Sm.nests c
  | [], c => .inr (by simp only [List.nil_append]; omega)
  | s :: r, c => by
    have := Sm.nests_app r c
    simp only [List.cons_append, Sm.nests]
    omega
theorem BOk.nil {N : List Str} {t d : Int} {l : Lf} : BOk N t d l l [] := ⟨by simp only [Sm.oks], by simp only [Sm.insN], .inl rfl, by simp only [Sm.pls, Sm.wts, Sm.hvs, Sm.cps]; exact Took.none⟩
theorem BOk.one {N : List Str} {t d : Int} {l l1 : Lf} {s : Sm} (x : SOk N t d l l1 s) : BOk N t d l l1 [s] := by
  refine ⟨by simp only [Sm.oks]; exact ⟨x.ok, trivial⟩, by simp only [Sm.insN]; exact ⟨x.inn, trivial⟩, .inr ?_, x.took.of ?_ ?_ ?_ ?_⟩
  · have := x.nest
    simp only [Sm.nests]
    omega
  · simp only [Sm.pls]; omega
  · simp only [Sm.wts]; omega
  · simp only [Sm.hvs]; omega
  · simp only [Sm.cps]; omega
/-! ### programs, numbers, choices -/
structure PrOk (b : List Sm) : Prop where
  ok : Sm.oks b
  nest : Sm.nests b ≤ 4
  pl : Sm.pls b ≤ 24
  wt : Sm.wts b ≤ 60
  hv : Sm.hvs b ≤ 4
  cp : Sm.cps b ≤ 3
theorem BOk.pr {N : List Str} {l : Lf} {b : List Sm} (x : BOk N 1 0 ⟨24, 60, 4, 3⟩ l b) (h : l.nn) : PrOk b := by
  obtain ⟨h1, h2, h3, h4⟩ := h
  have a1 : _ ≤ 24 - l.p := x.took.p
  have a2 : _ ≤ 60 - l.w := x.took.w
  have a3 : _ ≤ 4 - l.h := x.took.h
  have a4 : _ ≤ 3 - l.c := x.took.c
  refine ⟨x.ok, ?_, by omega, by omega, by omega, by omega⟩
  rcases x.nest with rfl | h
  · simp only [Sm.nests]; omega
  · omega
/-! ### texts -/
def rJoinA : V → List V → Hp → VK → Prop := fun x xs H Q => ∃ a p, ∃ ys : List Str, x = .str a ∧ xs = [.ref p] ∧ H p = some (.lst (ys.map V.str)) ∧ (ys.map (·.length)).sum + ys.length * a.length ≤ 16777216 ∧ Q (.str (Txt.join a ys)) H
section
variable {X : Cx}
theorem mt_joinA : MtR X "str.join" rJoinA := fun pins s σ H x xs v us Q I rx rxs ⟨a, p, ys, e1, e2, h, z, q⟩ => mt_join pins s σ H x xs v us Q I rx rxs ⟨a, p, ys, e1, e2, .inl (SqL.of h), z, q⟩
theorem pe_joinA {o e : Expr} {to te : TE} {apos pos : Pos} (ho : PE X o to) (he : PE X e te) (hs : starEach [e] X.env = [(false, eval e X.env)] := by rfl) (hbase : attributeBase o "join" X.env (eval o X.env) = eval o X.env := by rfl) (hline : (apos.endLine == pos.line) = true := by rfl) :
    PE X (.Call (.Attribute o "join" apos) [e] [] pos) (tM1 rJoinA to te) := pe_m1 F.slot_str_join F.type_str_join mt_joinA ho he hs hbase hline
end
theorem strOk_app {a b : Str} (h1 : PyData.strOk a = true) (h2 : PyData.strOk b = true) : PyData.strOk (a ++ b) = true := by
  show (a.cps ++ b.cps).all _ = true
  rw [Array.all_append]
  rw [show a.cps.all (· < 0x110000) = true from h1, show b.cps.all (· < 0x110000) = true from h2]
  rfl
theorem strOk_of {a : Str} (h : ∀ c ∈ a.cps.toList, c < 0x110000) : PyData.strOk a = true := by
  show a.cps.all _ = true
  rw [← Array.all_toList, List.all_eq_true]
  intro c hc
  exact decide_eq_true (h c hc)
def letters : Str := "abcdefgijkmoqruvwxyz"
def signs : Str := letters ++ "0123456789"
def nmsOf (L R : Str) : List Str := ["n", L ++ "q" ++ R, L ++ "x" ++ R, L ++ "z" ++ R]
structure LR (L R : Str) : Prop where
  l : ∀ c ∈ L.cps.toList, c ∈ letters.cps.toList
  r : ∀ c ∈ R.cps.toList, c ∈ signs.cps.toList
  ll : L.length ≤ 8
  rl : R.length ≤ 8
theorem sign_ok {c : Nat} (h : c ∈ signs.cps.toList) : c < 0x110000 := by
  have : ∀ c ∈ signs.cps.toList, c < 0x110000 := by decide +kernel
  exact this c h
theorem letter_sign {c : Nat} (h : c ∈ letters.cps.toList) : c ∈ signs.cps.toList := by
  have : ∀ c ∈ letters.cps.toList, c ∈ signs.cps.toList := by decide +kernel
  exact this c h
theorem LR.oks {L R : Str} (x : LR L R) : ∀ y ∈ nmsOf L R, NmOk y := by
  have h1 : PyData.strOk L = true := strOk_of fun c hc => sign_ok (letter_sign (x.l c hc))
  have h2 : PyData.strOk R = true := strOk_of fun c hc => sign_ok (x.r c hc)
  intro y hy
  simp only [nmsOf, List.mem_cons, List.not_mem_nil, or_false] at hy
  have ln : ∀ q : Str, q.length ≤ 8 → (L ++ q ++ R).length ≤ 1000 := by
    intro q hq
    have a1 := x.ll
    have a2 := x.rl
    have e : (L ++ q ++ R).length = L.length + q.length + R.length := by
      show ((L.cps ++ q.cps) ++ R.cps).size = _
      rw [Array.size_append, Array.size_append]
      rfl
    omega
  rcases hy with rfl | rfl | rfl | rfl
  · exact ⟨by decide +kernel, by decide +kernel⟩
  · exact ⟨strOk_app (strOk_app h1 (by decide +kernel)) h2, ln _ (by decide +kernel)⟩
  · exact ⟨strOk_app (strOk_app h1 (by decide +kernel)) h2, ln _ (by decide +kernel)⟩
  · exact ⟨strOk_app (strOk_app h1 (by decide +kernel)) h2, ln _ (by decide +kernel)⟩
theorem iteB {b : Bool} {p q : Prop} (h1 : b = true → p) (h2 : b = false → q) : if b = true then p else q := by
  cases b with
  | true => exact h1 rfl
  | false => exact h2 rfl
/-! ### against an empty list, an empty tuple -/
def rNeNil : R2 := fun x y H Q => ∃ a b xs, x = .ref a ∧ y = .ref b ∧ H a = some (.lst xs) ∧ H b = some (.lst []) ∧ Q (.bl (!xs.isEmpty)) H
def rEqNil : R2 := fun x y H Q => ∃ a b xs, x = .ref a ∧ y = .ref b ∧ H a = some (.lst xs) ∧ H b = some (.lst []) ∧ Q (.bl xs.isEmpty) H
def rNeNilT : R2 := fun x y H Q => ∃ a b xs, x = .ref a ∧ y = .ref b ∧ H a = some (.tup xs) ∧ H b = some (.tup []) ∧ Q (.bl (!xs.isEmpty)) H
section
variable {X : Cx}
theorem nil_len {xs : List V} {its : List Value} (r : Vals xs its) : its.toArray.size = 0 ↔ xs.isEmpty = true := by
  have := r.length
  rw [List.size_toArray, ← this]
  cases xs with
  | nil => exact ⟨fun _ => rfl, fun _ => rfl⟩
  | cons a b => exact ⟨fun z => (nomatch z), fun z => (nomatch z)⟩
theorem op_neNil (hu : X.A.units + 1 < cLine) : OpR X (compareOp .NotEq) rNeNil := by
  intro pins s σ H x y v u Q I rx ry h
  obtain ⟨a, b, xs, rfl, rfl, ha, hb, q⟩ := h
  cases rx
  cases ry
  obtain ⟨its, r, ht, hz⟩ := I.list (SqL.of ha)
  obtain ⟨its2, r2, ht2, hz2⟩ := I.list (SqL.of hb)
  have e2 := nil_len r2
  have e1 := nil_len r
  have z2 : its2.toArray.size = 0 := e2.mpr rfl
  cases xs with
  | nil =>
    have z1 : its.toArray.size = 0 := e1.mpr rfl
    refine SeqAt.RcNeAt.lists ht.isList ht2.isList (z1.trans z2.symm) (by omega) (e := fun _ => true) (fun j h1 _ => absurd h1 (by omega)) _ _ _ _ ?_
    exact ⟨.bl _, H, I, by rw [z1]; rfl, q⟩
  | cons c d =>
    refine SeqAt.RcNeAt.lists_lengths ht.isList ht2.isList ?_ (by omega) _ _ _ _ ⟨.bl _, H, I, rfl, q⟩
    have : its.toArray.size ≠ 0 := fun z => by have := e1.mp z; cases this
    rw [z2]
    simpa using this
theorem op_eqNil (hu : X.A.units + 1 < cLine) : OpR X (compareOp .Eq) rEqNil := by
  intro pins s σ H x y v u Q I rx ry h
  obtain ⟨a, b, xs, rfl, rfl, ha, hb, q⟩ := h
  cases rx
  cases ry
  obtain ⟨its, r, ht, hz⟩ := I.list (SqL.of ha)
  obtain ⟨its2, r2, ht2, hz2⟩ := I.list (SqL.of hb)
  have e2 := nil_len r2
  have e1 := nil_len r
  have z2 : its2.toArray.size = 0 := e2.mpr rfl
  cases xs with
  | nil =>
    have z1 : its.toArray.size = 0 := e1.mpr rfl
    refine SeqAt.RcAt.lists ht.isList ht2.isList (z1.trans z2.symm) (by omega) (e := fun _ => true) (fun j h1 _ => absurd h1 (by omega)) _ _ _ _ ?_
    exact ⟨.bl _, H, I, by rw [z1]; rfl, q⟩
  | cons c d =>
    refine SeqAt.RcAt.lists_lengths ht.isList ht2.isList ?_ (by omega) _ _ _ _ ⟨.bl _, H, I, rfl, q⟩
    have : its.toArray.size ≠ 0 := fun z => by have := e1.mp z; cases this
    rw [z2]
    simpa using this
theorem op_neNilT (hu : X.A.units + 1 < cLine) : OpR X (compareOp .NotEq) rNeNilT := by
  intro pins s σ H x y v u Q I rx ry h
  obtain ⟨a, b, xs, rfl, rfl, ha, hb, q⟩ := h
  cases rx
  cases ry
  obtain ⟨its, r, ht, hz⟩ := I.tuple (SqT.of ha)
  obtain ⟨its2, r2, ht2, hz2⟩ := I.tuple (SqT.of hb)
  have e2 := nil_len r2
  have e1 := nil_len r
  have z2 : its2.toArray.size = 0 := e2.mpr rfl
  refine SeqAt.RcNeAt.tuples ht ht2 (by omega) (e := fun _ => true) (fun j h1 h2 => absurd h2 (by omega)) _ _ _ _ ⟨.bl _, H, I, ?_, q⟩
  rw [z2, Nat.min_zero]
  show Value.bool (!(true && its.toArray.size == 0)) = Value.bool (!xs.isEmpty)
  cases xs with
  | nil => rw [e1.mpr rfl]; rfl
  | cons c d =>
    have : its.toArray.size ≠ 0 := fun z => by have := e1.mp z; cases this
    rw [show (its.toArray.size == 0) = false from beq_false_of_ne this]
    rfl
/-! ### xs[::-1], xs.pop() -/
def tRevA (K : PySem.W.Frag) (te : TE) : TE := fun σ H Q => te σ H fun x H1 => ∃ a xs, x = .ref a ∧ SqL K H1 a xs ∧ ∀ p H2, H1 p = none → H2 = upd H1 p (.lst xs.reverse) → Q (.ref p) H2
theorem pe_revLA {K : PySem.W.Frag} {e : Expr} {te : TE} {k : Nat} {p1 p2 p3 pos : Pos} (hK : X.K = K) (he : PE X e te) : PE X (.Subscript e (.Slice none none (some (.UnaryOp .USub (.Constant (.int 1) k p1) p2)) p3) pos) (tRevA K te) := by
  subst hK
  refine PE.imp (pe_revL he) fun σ H Q q => ?_
  unfold tRevL
  unfold tRevA at q
  have z : (fun (x : V) (H1 : Hp) => ∃ a xs, x = .ref a ∧ SqL X.K H1 a xs ∧ ∀ p, H1 p = none → Q (.ref p) (upd H1 p (.lst xs.reverse))) = (fun (x : V) (H1 : Hp) => ∃ a xs, x = .ref a ∧ SqL X.K H1 a xs ∧ ∀ p H2, H1 p = none → H2 = upd H1 p (.lst xs.reverse) → Q (.ref p) H2) := by
    funext x H1
    exact propext ⟨fun ⟨a, xs, e, h, q⟩ => ⟨a, xs, e, h, fun p H2 hp e2 => e2 ▸ q p hp⟩, fun ⟨a, xs, e, h, q⟩ => ⟨a, xs, e, h, fun p hp => q p _ hp rfl⟩⟩
  rw [z]
  exact q
def rPopA : V → List V → Hp → VK → Prop := fun x vs H Q => ∃ l xs y, x = .ref l ∧ vs = [] ∧ H l = some (.lst (xs ++ [y])) ∧ PutQ H l (.lst xs) (Q y)
theorem mt_popA : MtR X "list.pop" rPopA := MtR.imp mt_pop fun x vs H Q ⟨l, xs, y, e1, e2, h1, q⟩ => ⟨l, xs ++ [y], y, e1, e2, h1, by simp, by rw [List.dropLast_concat]; exact q.to h1 (fun _ z => by cases z)⟩
end
/-! ### what every run keeps -/
section
variable {J : Nat → Nat → Cs → Prop}
theorem iterN_inv {f : Cs → Option Str × Cs} {dw dh : Nat} (mono : ∀ w h w' h' s, J w h s → w ≤ w' → h ≤ h' → J w' h' s) (st : ∀ w h s, J w h s → J (w + dw) (h + dh) (f s).2) : ∀ (k w h : Nat) (s : Cs), J w h s → J (w + k * dw) (h + k * dh) (iterN k f s).2
  | 0, w, h, s, j => mono _ _ _ _ _ j (Nat.le_add_right _ _) (Nat.le_add_right _ _)
  | k + 1, w, h, s, j => by
    have j1 := st w h s j
    rw [iterN, Nat.succ_mul, Nat.succ_mul]
    cases e : f s with
    | mk c s' =>
      rw [e] at j1
      cases c with
      | none => exact mono _ _ _ _ _ (iterN_inv mono st k _ _ s' j1) (by omega) (by omega)
      | some c => exact mono _ _ _ _ _ j1 (by omega) (by omega)
variable {dec : Nat → Int → Int → Int} {ways : Int → Option Int}
mutual
theorem Sm.inv (mono : ∀ w h w' h' s, J w h s → w ≤ w' → h ≤ h' → J w' h' s) (pl : ∀ st : Sm, st.plain → st.ok → ∀ p w h s, J w h s → J (w + 1) (h + st.hv) (st.run dec ways p s).2) :
    ∀ (t : Sm), t.ok → ∀ (p : Int) (w h : Nat) (s : Cs), J w h s → J (w + t.wt) (h + t.hv) (t.run dec ways p s).2
  | .ite t y n, o, p, w, h, s, j => by
    simp only [Sm.ok] at o
    simp only [Sm.run, Sm.wt, Sm.hv]
    by_cases hc : t.ev s.env = true
    · have jj := Sm.invs mono pl y o.2.2.1 (p + 1) w h s j
      rw [if_pos hc]
      refine mono _ _ _ _ _ jj ?_ ?_ <;> omega
    · have jj := Sm.invs mono pl n o.2.2.2 (p + 1 + (Sm.pls y : Int)) w h s j
      rw [if_neg hc]
      refine mono _ _ _ _ _ jj ?_ ?_ <;> omega
  | .rep k b, o, p, w, h, s, j => by
    simp only [Sm.ok] at o
    simp only [Sm.run, Sm.wt, Sm.hv]
    have jj := iterN_inv mono (fun w h s j => Sm.invs mono pl b o.2 (p + 1) w h s j) k w h s j
    refine mono _ _ _ _ _ jj ?_ ?_ <;> omega
  | .set x e, o, p, w, h, s, j => by
    have := pl (.set x e) trivial o p w h s j
    simp only [Sm.wt]
    exact this
  | .half x e, o, p, w, h, s, j => by
    have := pl (.half x e) trivial o p w h s j
    simp only [Sm.wt]
    exact this
  | .tell e, o, p, w, h, s, j => by
    have := pl (.tell e) trivial o p w h s j
    simp only [Sm.wt]
    exact this
  | .say c, o, p, w, h, s, j => by
    have := pl (.say c) trivial o p w h s j
    simp only [Sm.wt]
    exact this
  | .stop c, o, p, w, h, s, j => by
    have := pl (.stop c) trivial o p w h s j
    simp only [Sm.wt]
    exact this
theorem Sm.invs (mono : ∀ w h w' h' s, J w h s → w ≤ w' → h ≤ h' → J w' h' s) (pl : ∀ st : Sm, st.plain → st.ok → ∀ p w h s, J w h s → J (w + 1) (h + st.hv) (st.run dec ways p s).2) :
    ∀ (b : List Sm), Sm.oks b → ∀ (p : Int) (w h : Nat) (s : Cs), J w h s → J (w + Sm.wts b) (h + Sm.hvs b) (Sm.runs dec ways b p s).2
  | [], _, p, w, h, s, j => by
    simp only [Sm.runs]
    exact mono _ _ _ _ _ j (Nat.le_add_right _ _) (Nat.le_add_right _ _)
  | t :: r, o, p, w, h, s, j => by
    simp only [Sm.oks] at o
    have j1 := Sm.inv mono pl t o.1 p w h s j
    simp only [Sm.runs, Sm.wts, Sm.hvs]
    cases e : Sm.run dec ways t p s with
    | mk c s' =>
      rw [e] at j1
      cases c with
      | none => exact mono _ _ _ _ _ (Sm.invs mono pl r o.2 _ _ _ s' j1) (by omega) (by omega)
      | some c => exact mono _ _ _ _ _ j1 (by omega) (by omega)
end
end
section
variable {dec : Nat → Int → Int → Int} {ways : Int → Option Int}
theorem halv_turns (s : Cs) (v p : Int) : (halv dec ways s v p).2.turns = s.turns ∨ (halv dec ways s v p).2.turns = s.turns ++ [dec s.turns.length v p] := by
  unfold halv
  split
  · exact .inl rfl
  · split
    · exact .inl rfl
    · exact .inr rfl
theorem plain_turns (st : Sm) (h : st.plain) (p : Int) (s : Cs) : (st.run dec ways p s).2.turns = s.turns ∨ (st.hv = 1 ∧ ∃ v, (st.run dec ways p s).2.turns = s.turns ++ [dec s.turns.length v p]) := by
  cases st with
  | ite _ _ _ => exact h.elim
  | rep _ _ => exact h.elim
  | set x e => exact .inl (by simp only [Sm.run])
  | half x e =>
    simp only [Sm.run, Sm.hv]
    rcases halv_turns (dec := dec) (ways := ways) s (e.ev s.env) p with h | h
    · exact .inl h
    · exact .inr ⟨trivial, _, h⟩
  | tell e => exact .inl (by simp only [Sm.run])
  | say c => exact .inl (by simp only [Sm.run])
  | stop c => exact .inl (by simp only [Sm.run])
theorem turns_le (b : List Sm) (o : Sm.oks b) (p : Int) (s : Cs) : (Sm.runs dec ways b p s).2.turns.length ≤ s.turns.length + Sm.hvs b := by
  have := Sm.invs (J := fun _ h s' => s'.turns.length ≤ s.turns.length + h) (dec := dec) (ways := ways) (fun _ _ _ _ _ j _ hh => Nat.le_trans j (by omega)) (fun st hp ho p w h s' j => by
    rcases plain_turns (dec := dec) (ways := ways) st hp p s' with e | ⟨e1, v, e2⟩
    · rw [e]; omega
    · rw [e2, e1, List.length_append]
      simp only [List.length_singleton]
      omega) b o p 0 0 s (Nat.le_refl _)
  simpa using this
theorem turns_ge (b : List Sm) (o : Sm.oks b) (p : Int) (s : Cs) : s.turns.length ≤ (Sm.runs dec ways b p s).2.turns.length :=
  Sm.invs (J := fun _ _ s' => s.turns.length ≤ s'.turns.length) (dec := dec) (ways := ways) (fun _ _ _ _ _ j _ _ => j) (fun st hp ho p w h s' j => by
    rcases plain_turns (dec := dec) (ways := ways) st hp p s' with e | ⟨e1, v, e2⟩
    · rw [e]; exact j
    · rw [e2, List.length_append]
      omega) b o p 0 0 s (Nat.le_refl _)
end
/-- the first n choices -/
def tk (chs : List Int) (n : Nat) : List Int := (List.range n).map fun i => chs.getD i 0
theorem tk_succ (chs : List Int) (n : Nat) : tk chs (n + 1) = tk chs n ++ [chs.getD n 0] := by
  unfold tk
  rw [List.range_succ, List.map_append]
  rfl
theorem tk_len (chs : List Int) (n : Nat) : (tk chs n).length = n := by
  unfold tk
  rw [List.length_map, List.length_range]
theorem turns_tk {chs : List Int} {ways : Int → Option Int} (b : List Sm) (o : Sm.oks b) (p : Int) (n : Int) : (Sm.runs (decC chs) ways b p (cs0 n)).2.turns = tk chs (Sm.runs (decC chs) ways b p (cs0 n)).2.turns.length :=
  Sm.invs (J := fun _ _ s' => s'.turns = tk chs s'.turns.length) (dec := decC chs) (ways := ways) (fun _ _ _ _ _ j _ _ => j) (fun st hp ho p w h s' j => by
    rcases plain_turns (dec := decC chs) (ways := ways) st hp p s' with e | ⟨e1, v, e2⟩
    · rw [e]; exact j
    · rw [e2, List.length_append, List.length_singleton, tk_succ, ← j]
      rfl) b o p 0 0 (cs0 n) rfl
/-! ### runs that differ from the turn j on -/
def Rl (j : Nat) (a b : Option Str × Cs) : Prop := a = b ∨ (j < a.2.turns.length ∧ j < b.2.turns.length)
theorem iterN_ge {f : Cs → Option Str × Cs} (mf : ∀ s, s.turns.length ≤ (f s).2.turns.length) : ∀ (k : Nat) (s : Cs), s.turns.length ≤ (iterN k f s).2.turns.length
  | 0, s => Nat.le_refl _
  | k + 1, s => by
    have h := mf s
    rw [iterN]
    cases e : f s with
    | mk c s' =>
      rw [e] at h
      cases c with
      | none => exact Nat.le_trans h (iterN_ge mf k s')
      | some c => exact h
theorem iterN_ge1 {f : Cs → Option Str × Cs} (mf : ∀ s, s.turns.length ≤ (f s).2.turns.length) (k : Nat) (s : Cs) : (f s).2.turns.length ≤ (iterN (k + 1) f s).2.turns.length := by
  rw [iterN]
  cases e : f s with
  | mk c s' =>
    cases c with
    | none => exact iterN_ge mf k s'
    | some c => exact Nat.le_refl _
theorem iterN_rel {j : Nat} {f g : Cs → Option Str × Cs} (mf : ∀ s, s.turns.length ≤ (f s).2.turns.length) (mg : ∀ s, s.turns.length ≤ (g s).2.turns.length) (r : ∀ s, Rl j (f s) (g s)) : ∀ (k : Nat) (s : Cs), Rl j (iterN k f s) (iterN k g s)
  | 0, s => .inl rfl
  | k + 1, s => by
    rcases r s with h | ⟨h1, h2⟩
    · rw [iterN, iterN, ← h]
      cases e : f s with
      | mk c s' =>
        cases c with
        | none => exact iterN_rel mf mg r k s'
        | some c => exact .inl rfl
    · exact .inr ⟨Nat.lt_of_lt_of_le h1 (iterN_ge1 mf k s), Nat.lt_of_lt_of_le h2 (iterN_ge1 mg k s)⟩
section
variable {d1 d2 : Nat → Int → Int → Int} {ways : Int → Option Int} {j : Nat}
theorem runs_ge1 {dec : Nat → Int → Int → Int} (t : Sm) (r : List Sm) (o : Sm.oks r) (p : Int) (s : Cs) : (Sm.run dec ways t p s).2.turns.length ≤ (Sm.runs dec ways (t :: r) p s).2.turns.length := by
  simp only [Sm.runs]
  cases e : Sm.run dec ways t p s with
  | mk c s' =>
    cases c with
    | none => exact turns_ge r o _ s'
    | some c => exact Nat.le_refl _
mutual
theorem Sm.rel (ag : ∀ k v p, k < j → d1 k v p = d2 k v p) : ∀ (t : Sm), t.ok → ∀ (p : Int) (s : Cs), Rl j (t.run d1 ways p s) (t.run d2 ways p s)
  | .ite t y n, o, p, s => by
    simp only [Sm.ok] at o
    simp only [Sm.run]
    split
    · exact Sm.rels ag y o.2.2.1 _ s
    · exact Sm.rels ag n o.2.2.2 _ s
  | .rep k b, o, p, s => by
    simp only [Sm.ok] at o
    simp only [Sm.run]
    exact iterN_rel (fun s => turns_ge b o.2 _ s) (fun s => turns_ge b o.2 _ s) (fun s => Sm.rels ag b o.2 _ s) k s
  | .set x e, o, p, s => by simp only [Sm.run]; exact .inl rfl
  | .half x e, o, p, s => by
    by_cases h : s.turns.length < j
    · refine .inl ?_
      simp only [Sm.run, halv, ag _ _ _ h]
    · simp only [Sm.run, halv]
      split
      · exact .inl rfl
      · split
        · exact .inl rfl
        · refine .inr ⟨?_, ?_⟩
          · show j < (s.turns ++ [_]).length
            rw [List.length_append, List.length_singleton]
            omega
          · show j < (s.turns ++ [_]).length
            rw [List.length_append, List.length_singleton]
            omega
  | .tell e, o, p, s => by simp only [Sm.run]; exact .inl rfl
  | .say c, o, p, s => by simp only [Sm.run]; exact .inl rfl
  | .stop c, o, p, s => by simp only [Sm.run]; exact .inl rfl
theorem Sm.rels (ag : ∀ k v p, k < j → d1 k v p = d2 k v p) : ∀ (b : List Sm), Sm.oks b → ∀ (p : Int) (s : Cs), Rl j (Sm.runs d1 ways b p s) (Sm.runs d2 ways b p s)
  | [], _, p, s => by simp only [Sm.runs]; exact .inl rfl
  | t :: r, o, p, s => by
    simp only [Sm.oks] at o
    rcases Sm.rel ag t o.1 p s with h | ⟨h1, h2⟩
    · simp only [Sm.runs, ← h]
      cases e : Sm.run d1 ways t p s with
      | mk c s' =>
        cases c with
        | none => exact Sm.rels ag r o.2 _ s'
        | some c => exact .inl rfl
    · exact .inr ⟨Nat.lt_of_lt_of_le h1 (runs_ge1 t r o.2 p s), Nat.lt_of_lt_of_le h2 (runs_ge1 t r o.2 p s)⟩
end
end
/-- the same turns at the start, the same run -/
theorem runs_same {c1 c2 : List Int} {ways : Int → Option Int} (b : List Sm) (o : Sm.oks b) (p n : Int) (h : ∀ k, k < (Sm.runs (decC c1) ways b p (cs0 n)).2.turns.length → c1.getD k 0 = c2.getD k 0) : Sm.runs (decC c2) ways b p (cs0 n) = Sm.runs (decC c1) ways b p (cs0 n) := by
  rcases Sm.rels (d1 := decC c1) (d2 := decC c2) (ways := ways) (j := (Sm.runs (decC c1) ways b p (cs0 n)).2.turns.length) (fun k _ _ hk => h k hk) b o p (cs0 n) with e | ⟨h1, _⟩
  · exact e.symm
  · exact absurd h1 (Nat.lt_irrefl _)
theorem runs_other {c1 c2 : List Int} {ways : Int → Option Int} (b : List Sm) (o : Sm.oks b) (p n : Int) (j : Nat) (hj : j < (Sm.runs (decC c1) ways b p (cs0 n)).2.turns.length) (h : ∀ k, k < j → c1.getD k 0 = c2.getD k 0) :
    (Sm.runs (decC c2) ways b p (cs0 n)).2.turns.take (j + 1) = tk c2 (j + 1) := by
  have l : j < (Sm.runs (decC c2) ways b p (cs0 n)).2.turns.length := by
    rcases Sm.rels (d1 := decC c1) (d2 := decC c2) (ways := ways) (j := j) (fun k _ _ hk => h k hk) b o p (cs0 n) with e | ⟨_, h2⟩
    · rw [← e]; exact hj
    · exact h2
  rw [turns_tk b o p n]
  unfold tk
  rw [← List.map_take, List.take_range, Nat.min_eq_left l]
/-! ### how large the numbers are -/
theorem Ex.ev_le {env : Str → Int} {M : Nat} (hM : 99 ≤ M) (h : ∀ x, (env x).natAbs ≤ M) : ∀ {e : Ex}, e.ok → (e.ev env).natAbs ≤ M * 9 ^ e.deep
  | .num i, o => by
    obtain ⟨h1, h2⟩ := (show -99 ≤ i ∧ i ≤ 99 from o)
    show i.natAbs ≤ M * 9 ^ 1
    omega
  | .var x, o => by
    have := h x
    show (env x).natAbs ≤ M * 9 ^ 1
    omega
  | .plus a b, o => by
    have h1 := Ex.ev_le hM h (e := a) (show a.ok ∧ b.ok from o).1
    have h2 := Ex.ev_le hM h (e := b) (show a.ok ∧ b.ok from o).2
    show (a.ev env + b.ev env).natAbs ≤ M * 9 ^ (max a.deep b.deep + 1)
    have p1 : M * 9 ^ a.deep ≤ M * 9 ^ max a.deep b.deep := Nat.mul_le_mul_left _ (Nat.pow_le_pow_right (by decide) (Nat.le_max_left _ _))
    have p2 : M * 9 ^ b.deep ≤ M * 9 ^ max a.deep b.deep := Nat.mul_le_mul_left _ (Nat.pow_le_pow_right (by decide) (Nat.le_max_right _ _))
    rw [Nat.pow_succ, ← Nat.mul_assoc]
    omega
  | .minus a b, o => by
    have h1 := Ex.ev_le hM h (e := a) (show a.ok ∧ b.ok from o).1
    have h2 := Ex.ev_le hM h (e := b) (show a.ok ∧ b.ok from o).2
    show (a.ev env - b.ev env).natAbs ≤ M * 9 ^ (max a.deep b.deep + 1)
    have p1 : M * 9 ^ a.deep ≤ M * 9 ^ max a.deep b.deep := Nat.mul_le_mul_left _ (Nat.pow_le_pow_right (by decide) (Nat.le_max_left _ _))
    have p2 : M * 9 ^ b.deep ≤ M * 9 ^ max a.deep b.deep := Nat.mul_le_mul_left _ (Nat.pow_le_pow_right (by decide) (Nat.le_max_right _ _))
    rw [Nat.pow_succ, ← Nat.mul_assoc]
    omega
  | .times k a, o => by
    obtain ⟨k1, k2, oa⟩ := (show -9 ≤ k ∧ k ≤ 9 ∧ a.ok from o)
    have h1 := Ex.ev_le hM h (e := a) oa
    show (k * a.ev env).natAbs ≤ M * 9 ^ (a.deep + 1)
    rw [Int.natAbs_mul, Nat.pow_succ, ← Nat.mul_assoc, Nat.mul_comm]
    exact Nat.mul_le_mul h1 (by omega)
/-- a number, a text that a run may tell -/
def kOk (M : Nat) : Key → Prop
  | .inl i => i.natAbs ≤ M
  | .inr c => PyData.strOk c = true ∧ c.length ≤ 20
theorem kOk.mono {M M' : Nat} (h : M ≤ M') : ∀ {k : Key}, kOk M k → kOk M' k
  | .inl _, o => Nat.le_trans o h
  | .inr _, o => o
def BN : Nat := 10 ^ 60
structure Mag (w : Nat) (s : Cs) : Prop where
  env : ∀ x, (s.env x).natAbs ≤ BN * 729 ^ w
  said : ∀ k ∈ s.said, kOk (BN * 729 ^ w) k
  len : s.said.length ≤ w
theorem bn_mono {w w' : Nat} (h : w ≤ w') : BN * 729 ^ w ≤ BN * 729 ^ w' := Nat.mul_le_mul_left _ (Nat.pow_le_pow_right (by decide) h)
theorem bn_99 (w : Nat) : 99 ≤ BN * 729 ^ w := Nat.le_trans (by decide : 99 ≤ BN * 1) (Nat.mul_le_mul_left _ (Nat.one_le_pow _ _ (by decide)))
theorem Mag.mono {w w' : Nat} {s : Cs} (m : Mag w s) (h : w ≤ w') : Mag w' s := ⟨fun x => Nat.le_trans (m.env x) (bn_mono h), fun k hk => (m.said k hk).mono (bn_mono h), Nat.le_trans m.len h⟩
theorem Mag.ev {w : Nat} {s : Cs} (m : Mag w s) {e : Ex} (o : e.ok) (d : e.deep ≤ 3) : (e.ev s.env).natAbs ≤ BN * 729 ^ (w + 1) := by
  have h := Ex.ev_le (bn_99 w) m.env o
  refine Nat.le_trans h ?_
  rw [Nat.pow_succ, ← Nat.mul_assoc]
  exact Nat.mul_le_mul_left _ (Nat.le_trans (Nat.pow_le_pow_right (by decide) d) (by decide))
section
variable {dec : Nat → Int → Int → Int} {ways : Int → Option Int}
theorem iterN_word {Pz : Str → Prop} {f : Cs → Option Str × Cs} (h : ∀ s c, (f s).1 = some c → Pz c) : ∀ (k : Nat) (s : Cs) (c : Str), (iterN k f s).1 = some c → Pz c
  | 0, s, c, e => nomatch (show (none : Option Str) = some c from e)
  | k + 1, s, c, e => by
    rw [iterN] at e
    have h1 := h s
    cases z : f s with
    | mk d s' =>
      rw [z] at e h1
      cases d with
      | none => exact iterN_word h k s' c e
      | some d => exact h1 c e
mutual
theorem Sm.word : ∀ (t : Sm), t.ok → ∀ (p : Int) (s : Cs) (c : Str), (t.run dec ways p s).1 = some c → PyData.strOk c = true ∧ c.length ≤ 20
  | .ite t y n, o, p, s, c, e => by
    simp only [Sm.ok] at o
    simp only [Sm.run] at e
    by_cases hc : t.ev s.env = true
    · rw [if_pos hc] at e
      exact Sm.words y o.2.2.1 _ s c e
    · rw [if_neg hc] at e
      exact Sm.words n o.2.2.2 _ s c e
  | .rep k b, o, p, s, c, e => by
    simp only [Sm.ok] at o
    simp only [Sm.run] at e
    exact iterN_word (fun s c e => Sm.words b o.2 _ s c e) k s c e
  | .set x e', o, p, s, c, e => by simp only [Sm.run] at e; exact nomatch e
  | .half x e', o, p, s, c, e => by simp only [Sm.run] at e; exact nomatch e
  | .tell e', o, p, s, c, e => by simp only [Sm.run] at e; exact nomatch e
  | .say c', o, p, s, c, e => by simp only [Sm.run] at e; exact nomatch e
  | .stop c', o, p, s, c, e => by
    simp only [Sm.ok] at o
    simp only [Sm.run] at e
    cases e
    exact o
theorem Sm.words : ∀ (b : List Sm), Sm.oks b → ∀ (p : Int) (s : Cs) (c : Str), (Sm.runs dec ways b p s).1 = some c → PyData.strOk c = true ∧ c.length ≤ 20
  | [], _, p, s, c, e => by simp only [Sm.runs] at e; exact nomatch e
  | t :: r, o, p, s, c, e => by
    simp only [Sm.oks] at o
    have h1 := Sm.word t o.1 p s
    simp only [Sm.runs] at e
    cases z : Sm.run dec ways t p s with
    | mk d s' =>
      rw [z] at e h1
      cases d with
      | none => exact Sm.words r o.2 _ s' c e
      | some d => exact h1 c e
end
end
/-! ### what is told can be shown -/
def BM : Nat := 10 ^ 240
structure ROk (r : Option Str × Cs) : Prop where
  said : ∀ k ∈ r.2.said, kOk (BM - 1) k
  len : r.2.said.length ≤ 60
  word : ∀ c, r.1 = some c → PyData.strOk c = true ∧ c.length ≤ 20
  turns : ∀ i ∈ r.2.turns, i = 0 ∨ i = 1
  tlen : r.2.turns.length ≤ 4
theorem decC_01 {chs : List Int} (h : ∀ i ∈ chs, i = 0 ∨ i = 1) (k : Nat) (v p : Int) : decC chs k v p = 0 ∨ decC chs k v p = 1 := by
  show chs.getD k 0 = 0 ∨ chs.getD k 0 = 1
  rw [List.getD_eq_getElem?_getD]
  cases e : chs[k]? with
  | none => exact .inl rfl
  | some i => exact h i (List.mem_of_getElem? e)
theorem tk_01 {chs : List Int} (h : ∀ i ∈ chs, i = 0 ∨ i = 1) (n : Nat) : ∀ i ∈ tk chs n, i = 0 ∨ i = 1 := by
  intro i hi
  unfold tk at hi
  obtain ⟨k, _, rfl⟩ := List.mem_map.mp hi
  exact decC_01 h k 0 0
theorem log_le {i : Int} (h : i.natAbs ≤ BM - 1) : i.natAbs.log2 < 900 := by
  by_cases z : i.natAbs = 0
  · rw [z]; decide
  · rw [Nat.log2_lt z]
    exact Nat.lt_of_le_of_lt h (by decide +kernel)
theorem kD_showable {k : Key} (h : kOk (BM - 1) k) : (kD k).showable = true := by
  cases k with
  | inl i =>
    show PyData.showable (.int i) = true
    simp only [PyData.showable, decide_eq_true_eq]
    have := log_le (show i.natAbs ≤ BM - 1 from h)
    omega
  | inr c => simp only [kD, PyData.showable]
def ty01 (l : List Int) : Prop := ∀ i ∈ l, i = 0 ∨ i = 1
theorem kD_short {k : Key} (h : kOk (BM - 1) k) : (kD k).leavesShort 241 = true := by
  cases k with
  | inl i =>
    show PyData.leavesShort 241 (.int i) = true
    simp only [PyData.leavesShort, decide_eq_true_eq]
    have hi : i.natAbs < 10 ^ 240 := by
      have : 0 < BM := by decide +kernel
      exact Nat.lt_of_le_of_lt (show i.natAbs ≤ BM - 1 from h) (by show BM - 1 < BM; omega)
    have e := int_text_length_le10 (k := 240) (by decide) hi
    show (Str.ofString (toString i)).length ≤ 241
    rw [ofString_length]
    exact e
  | inr c =>
    show PyData.leavesShort 241 (.str c) = true
    exact PyData.leavesShort_of_canLay0 241 (.str c) (by simp only [PyData.canLay0]; exact h.1) (by simp only [PyData.intsShort])
theorem kD_depth (k : Key) : (kD k).depth = 0 := by cases k <;> simp only [kD, PyData.depth]
/-- data that repr may be asked of -/
structure Shw (d : PyData) : Prop where
  sh : d.showable = true
  sz : d.shown.length ≤ sizeLine
  dp : d.depth ≤ 60
section
variable {X : Cx}
end
/-! ### short: the trailing noughts go -/
theorem cut_to (xs : List V) (k : Nat) : cutV xs none (some (k : Int)) = xs.take k := by
  unfold cutV
  rw [HT.sIx_none, List.drop_zero, HT.sIx_nat]
  rw [Nat.sub_zero, ← List.take_take, List.take_length]
theorem tk_getD {chs : List Int} {n k : Nat} (h : k < n) : (tk chs n).getD k 0 = chs.getD k 0 := by
  unfold tk
  rw [List.getD_eq_getElem?_getD, List.getElem?_map, List.getElem?_range h]
  rfl
theorem getD_app {a b : List Int} {k : Nat} (h : k < a.length) : (a ++ b).getD k 0 = a.getD k 0 := by
  rw [List.getD_eq_getElem?_getD, List.getD_eq_getElem?_getD, List.getElem?_append_left h]
theorem ty01.take {l : List Int} (h : ty01 l) (k : Nat) : ty01 (l.take k) := fun i hi => h i (List.mem_of_mem_take hi)
/-! ### all runs on a number, one behind another -/
def nxt : List Int → Option (List Int)
  | [] => none
  | x :: r => match nxt r with
    | some c => some (x :: c)
    | none => if x = 1 then none else some [1]
theorem nxt_ones : ∀ {t : List Int}, (∀ x ∈ t, x = 1) → nxt t = none
  | [], _ => rfl
  | x :: r, h => by
    rw [nxt, nxt_ones (fun y hy => h y (List.mem_cons_of_mem _ hy))]
    show (if x = 1 then none else some [1]) = none
    rw [if_pos (h x List.mem_cons_self)]
theorem nxt_at {x : Int} {r : List Int} (hx : x ≠ 1) (hr : ∀ y ∈ r, y = 1) : ∀ p : List Int, nxt (p ++ x :: r) = some (p ++ [1])
  | [] => by
    show nxt (x :: r) = _
    rw [nxt, nxt_ones hr]
    show (if x = 1 then none else some [1]) = _
    rw [if_neg hx]
    rfl
  | y :: p => by
    show nxt (y :: (p ++ x :: r)) = _
    rw [nxt, nxt_at hx hr p]
    rfl
theorem nxt_cases : ∀ t : List Int, (nxt t = none ∧ ∀ x ∈ t, x = 1) ∨ ∃ p x r, t = p ++ x :: r ∧ x ≠ 1 ∧ (∀ y ∈ r, y = 1) ∧ nxt t = some (p ++ [1])
  | [] => .inl ⟨rfl, fun x h => nomatch h⟩
  | x :: r => by
    rcases nxt_cases r with ⟨h1, h2⟩ | ⟨p, y, q, rfl, hy, hq, e⟩
    · by_cases hx : x = 1
      · refine .inl ⟨nxt_ones ?_, ?_⟩ <;>
        · intro z hz
          rcases List.mem_cons.mp hz with rfl | hz
          · exact hx
          · exact h2 z hz
      · exact .inr ⟨[], x, r, rfl, hx, h2, nxt_at hx h2 []⟩
    · exact .inr ⟨x :: p, y, q, rfl, hy, hq, nxt_at hy hq (x :: p)⟩
/-- the number that a row of turns writes, k figures -/
def wl : Nat → List Int → Int
  | _, [] => 0
  | 0, _ :: _ => 0
  | k + 1, x :: r => x * (2 : Int) ^ k + wl k r
/-- the part of the whole that turns stand for -/
def pw (k : Nat) (t : List Int) : Int := (2 : Int) ^ (k - t.length)
theorem pw_pos (k : Nat) (t : List Int) : 1 ≤ pw k t := by
  have : (0 : Int) < (2 : Int) ^ (k - t.length) := Int.pow_pos (by decide)
  unfold pw
  omega
theorem pw_cons (k : Nat) (x : Int) (r : List Int) : pw (k + 1) (x :: r) = pw k r := by
  unfold pw
  rw [List.length_cons, Nat.add_sub_add_right]
theorem pow2_succ (k : Nat) : (2 : Int) ^ (k + 1) = 2 * (2 : Int) ^ k := by rw [Int.pow_succ, Int.mul_comm]
theorem wl_nil (k : Nat) : wl k [] = 0 := by cases k <;> rfl
theorem wl_ones : ∀ {k : Nat} {t : List Int}, (∀ x ∈ t, x = 1) → t.length ≤ k → wl k t + pw k t = (2 : Int) ^ k
  | k, [], _, _ => by rw [wl_nil]; unfold pw; simp
  | 0, x :: r, _, l => absurd l (Nat.not_succ_le_zero _)
  | k + 1, x :: r, h, l => by
    have ih := wl_ones (k := k) (t := r) (fun y hy => h y (List.mem_cons_of_mem _ hy)) (Nat.le_of_succ_le_succ l)
    rw [pw_cons, pow2_succ, wl, h x List.mem_cons_self]
    omega
theorem ty01.tail {x : Int} {r : List Int} (h : ty01 (x :: r)) : ty01 r := fun i hi => h i (List.mem_cons_of_mem _ hi)
theorem ty01.head {x : Int} {r : List Int} (h : ty01 (x :: r)) : x = 0 ∨ x = 1 := h x List.mem_cons_self
theorem wl_nxt : ∀ {k : Nat} {t c : List Int}, ty01 t → t.length ≤ k → nxt t = some c → wl k c = wl k t + pw k t
  | k, [], c, _, _, e => nomatch (show (none : Option (List Int)) = some c from e)
  | 0, x :: r, c, _, l, _ => absurd l (Nat.not_succ_le_zero _)
  | k + 1, x :: r, c, h, l, e => by
    rcases nxt_cases r with ⟨h1, h2⟩ | ⟨p, y, q, rfl, hy, hq, e1⟩
    · rw [nxt, h1] at e
      have e : (if x = 1 then none else some [1]) = some c := e
      by_cases hx : x = 1
      · rw [if_pos hx] at e; cases e
      · rw [if_neg hx] at e
        cases e
        have x0 : x = 0 := by
          rcases h.head with z | z
          · exact z
          · exact absurd z hx
        have o := wl_ones (k := k) h2 (Nat.le_of_succ_le_succ l)
        rw [pw_cons]
        show 1 * (2 : Int) ^ k + wl k [] = (x * (2 : Int) ^ k + wl k r) + pw k r
        rw [wl_nil, x0]
        omega
    · have ih := wl_nxt (k := k) h.tail (Nat.le_of_succ_le_succ l) e1
      rw [nxt, e1] at e
      cases e
      rw [pw_cons, wl, wl, ih]
      omega
theorem nxt_none {t : List Int} (h : nxt t = none) : ∀ x ∈ t, x = 1 := by
  rcases nxt_cases t with ⟨_, h2⟩ | ⟨p, x, r, _, _, _, e⟩
  · exact h2
  · rw [e] at h; cases h
theorem wl_rng : ∀ {k : Nat} {t : List Int}, ty01 t → t.length ≤ k → 0 ≤ wl k t ∧ wl k t + pw k t ≤ (2 : Int) ^ k
  | k, [], _, _ => by rw [wl_nil]; unfold pw; simp
  | 0, x :: r, _, l => absurd l (Nat.not_succ_le_zero _)
  | k + 1, x :: r, h, l => by
    have ih := wl_rng (k := k) h.tail (Nat.le_of_succ_le_succ l)
    have p := pw_pos k r
    rw [pw_cons, pow2_succ, wl]
    rcases h.head with z | z <;> rw [z] <;> constructor <;> omega
theorem wl_zeros : ∀ (k : Nat) (c : List Int) (m : Nat), wl k (c ++ List.replicate m 0) = wl k c
  | k, [], 0 => rfl
  | 0, [], m + 1 => rfl
  | k + 1, [], m + 1 => by
    have := wl_zeros k [] m
    rw [List.nil_append] at this
    show 0 * (2 : Int) ^ k + wl k (List.replicate m 0) = 0
    rw [this, wl_nil]
    omega
  | 0, x :: r, m => rfl
  | k + 1, x :: r, m => by
    show x * (2 : Int) ^ k + wl k (r ++ List.replicate m 0) = _
    rw [wl_zeros k r m]
    rfl
theorem tk_zeros {c : List Int} {n : Nat} (h : c.length ≤ n) : tk c n = c ++ List.replicate (n - c.length) 0 := by
  refine List.ext_getElem? fun i => ?_
  unfold tk
  rw [List.getElem?_map]
  by_cases l : i < n
  · rw [List.getElem?_range l]
    show some (c.getD i 0) = _
    rw [List.getD_eq_getElem?_getD]
    by_cases l2 : i < c.length
    · rw [List.getElem?_append_left l2, List.getElem?_eq_getElem l2]
      rfl
    · rw [List.getElem?_append_right (by omega), List.getElem?_eq_none (by omega), List.getElem?_replicate, if_pos (by omega)]
      rfl
  · rw [List.getElem?_eq_none (by rw [List.length_range]; omega), List.getElem?_eq_none (by rw [List.length_append, List.length_replicate]; omega)]
    rfl
theorem wl_tk {k : Nat} {c : List Int} {n : Nat} (h : c.length ≤ n) : wl k (tk c n) = wl k c := by rw [tk_zeros h, wl_zeros]
/-- a number between those of t begins with t -/
theorem wl_pre : ∀ {k : Nat} {t v : List Int}, ty01 t → ty01 v → v.length = k → t.length ≤ k → wl k t ≤ wl k v → wl k v < wl k t + pw k t → ∃ s, v = t ++ s
  | k, [], v, _, _, _, _, _, _ => ⟨v, rfl⟩
  | 0, x :: r, v, _, _, _, l, _, _ => absurd l (Nat.not_succ_le_zero _)
  | k + 1, x :: r, [], _, _, lv, _, _, _ => nomatch lv
  | k + 1, x :: r, y :: w, h, g, lv, l, a, b => by
    have l1 := Nat.le_of_succ_le_succ l
    have lw : w.length = k := Nat.succ.inj lv
    have r1 := wl_rng (k := k) h.tail l1
    have r2 := wl_rng (k := k) g.tail (Nat.le_of_eq lw)
    have p1 := pw_pos k w
    have p2 := pw_pos k r
    rw [pw_cons] at b
    rw [wl, wl] at a b
    have e : x = y := by
      rcases h.head with z | z <;> rcases g.head with u | u <;> rw [z, u] at a b <;> rw [z, u] <;> omega
    subst e
    obtain ⟨s, rfl⟩ := wl_pre (k := k) h.tail g.tail lw l1 (by omega) (by omega)
    exact ⟨s, rfl⟩
/-- t comes ahead of u, and is no beginning of it -/
inductive Ahd : List Int → List Int → Prop
  | lt {r w : List Int} : Ahd (0 :: r) (1 :: w)
  | eq {x : Int} {r w : List Int} : Ahd r w → Ahd (x :: r) (x :: w)
theorem wl_ahd : ∀ {k : Nat} {t u : List Int}, ty01 t → ty01 u → t.length ≤ k → u.length ≤ k → wl k t + pw k t ≤ wl k u → Ahd t u
  | k, [], u, _, g, _, lu, a => by
    have r := wl_rng g lu
    have p := pw_pos k u
    rw [wl_nil] at a
    have e : pw k [] = (2 : Int) ^ k := by unfold pw; simp
    omega
  | 0, x :: r, u, _, _, l, _, _ => absurd l (Nat.not_succ_le_zero _)
  | k + 1, x :: r, [], h, _, l, _, a => by
    have r1 := wl_rng h l
    have p := pw_pos (k + 1) (x :: r)
    rw [wl_nil] at a
    omega
  | k + 1, x :: r, y :: w, h, g, l, lu, a => by
    have l1 := Nat.le_of_succ_le_succ l
    have lw := Nat.le_of_succ_le_succ lu
    have r1 := wl_rng (k := k) h.tail l1
    have r2 := wl_rng (k := k) g.tail lw
    have p1 := pw_pos k w
    have p2 := pw_pos k r
    rw [pw_cons] at a
    rw [wl, wl] at a
    rcases h.head with z | z <;> rcases g.head with v | v <;> rw [z, v] at a ⊢
    · exact .eq (wl_ahd (k := k) h.tail g.tail l1 lw (by omega))
    · exact .lt
    · omega
    · exact .eq (wl_ahd (k := k) h.tail g.tail l1 lw (by omega))
section
variable (ways : Int → Option Int) (b : List Sm) (n : Int)
abbrev rn (c : List Int) : Option Str × Cs := Sm.runs (decC c) ways b 0 (cs0 n)
/-- the runs so far, and the choices of the next one -/
inductive Chn : List (Option Str × Cs) → Option (List Int) → Prop
  | nil : Chn [] (some [])
  | snoc {Rs : List (Option Str × Cs)} {c : List Int} : Chn Rs (some c) → Chn (Rs ++ [rn ways b n c]) (nxt (rn ways b n c).2.turns)
end
def topO (k : Nat) : Option (List Int) → Int
  | some c => wl k c
  | none => (2 : Int) ^ k
structure ChOk (ways : Int → Option Int) (b : List Sm) (n : Int) (k : Nat) (Rs : List (Option Str × Cs)) (o : Option (List Int)) : Prop where
  self : ∀ R ∈ Rs, rn ways b n R.2.turns = R ∧ ty01 R.2.turns ∧ R.2.turns.length ≤ k ∧ wl k R.2.turns + pw k R.2.turns ≤ topO k o
  sum : (Rs.map fun R => pw k R.2.turns).sum = topO k o
  cs : ∀ c, o = some c → ty01 c ∧ c.length ≤ (rn ways b n c).2.turns.length
  all : ∀ v : List Int, v.length = k → ty01 v → wl k v < topO k o → rn ways b n v ∈ Rs
  ord : Rs.Pairwise fun R S => Ahd R.2.turns S.2.turns
section
variable {ways : Int → Option Int} {b : List Sm} {n : Int} {k : Nat}
theorem rn_turns (o : Sm.oks b) (c : List Int) : (rn ways b n c).2.turns = tk c (rn ways b n c).2.turns.length := turns_tk b o 0 n
theorem rn_len (o : Sm.oks b) (hv : Sm.hvs b ≤ k) (c : List Int) : (rn ways b n c).2.turns.length ≤ k := by
  have := turns_le (dec := decC c) (ways := ways) b o 0 (cs0 n)
  have e : (cs0 n).turns.length = 0 := rfl
  show (Sm.runs (decC c) ways b 0 (cs0 n)).2.turns.length ≤ k
  omega
theorem rn_self (o : Sm.oks b) (c : List Int) : rn ways b n (rn ways b n c).2.turns = rn ways b n c := by
  refine runs_same (c1 := c) (c2 := (rn ways b n c).2.turns) (ways := ways) b o 0 n fun i hi => ?_
  have e := tk_getD (chs := c) hi
  rw [← rn_turns o c] at e
  exact e.symm
theorem ChOk.nil (o : Sm.oks b) : ChOk ways b n k [] (some []) := by
  refine ⟨(fun R h => nomatch h), ?_, ?_, ?_, .nil⟩
  · show (0 : Int) = wl k []
    rw [wl_nil]
  · rintro c ⟨⟩
    exact ⟨(fun i h => nomatch h), Nat.zero_le _⟩
  · intro v l h a
    have := (wl_rng h (Nat.le_of_eq l)).1
    have a : wl k v < wl k [] := a
    rw [wl_nil] at a
    omega
theorem ChOk.snoc (o : Sm.oks b) (hv : Sm.hvs b ≤ k) {Rs : List (Option Str × Cs)} {c : List Int} (h : ChOk ways b n k Rs (some c)) : ChOk ways b n k (Rs ++ [rn ways b n c]) (nxt (rn ways b n c).2.turns) := by
  obtain ⟨c01, cl⟩ := h.cs c rfl
  have tt := rn_turns (ways := ways) (n := n) o c
  have tl := rn_len (ways := ways) (n := n) o hv c
  have t01 : ty01 (rn ways b n c).2.turns := by
    rw [tt]
    exact tk_01 c01 _
  have wc : wl k (rn ways b n c).2.turns = wl k c := by
    rw [tt]
    exact wl_tk cl
  have top : topO k (nxt (rn ways b n c).2.turns) = wl k c + pw k (rn ways b n c).2.turns := by
    cases e : nxt (rn ways b n c).2.turns with
    | none =>
      have := wl_ones (k := k) (nxt_none e) tl
      show (2 : Int) ^ k = _
      omega
    | some c2 =>
      have := wl_nxt t01 tl e
      show wl k c2 = _
      omega
  have p := pw_pos k (rn ways b n c).2.turns
  have tc : topO k (some c) = wl k c := rfl
  refine ⟨?_, ?_, ?_, ?_, ?_⟩
  · intro R hR
    rcases List.mem_append.mp hR with z | z
    · obtain ⟨a1, a2, a3, a4⟩ := h.self R z
      exact ⟨a1, a2, a3, by omega⟩
    · cases List.mem_singleton.mp z
      exact ⟨rn_self o c, t01, tl, by omega⟩
  · rw [List.map_append, List.sum_append, h.sum, top]
    show wl k c + (pw k _ + 0) = _
    omega
  · intro c2 e
    rcases nxt_cases (rn ways b n c).2.turns with ⟨z, _⟩ | ⟨q, x, r, et, hx, hr, e2⟩
    · rw [z] at e; cases e
    · rw [e2] at e
      cases e
      have q01 : ty01 (q ++ [1]) := by
        intro i hi
        rcases List.mem_append.mp hi with z | z
        · exact t01 i (by rw [et]; exact List.mem_append_left _ z)
        · cases List.mem_singleton.mp z
          exact .inr rfl
      refine ⟨q01, ?_⟩
      have hj : q.length < (rn ways b n c).2.turns.length := by
        rw [et, List.length_append, List.length_cons]
        omega
      have ot := runs_other (c1 := c) (c2 := q ++ [1]) (ways := ways) b o 0 n q.length hj (by
        intro i hi
        have e := tk_getD (chs := c) (show i < (rn ways b n c).2.turns.length by omega)
        rw [← tt, et] at e
        rw [← e, List.getD_eq_getElem?_getD, List.getD_eq_getElem?_getD, List.getElem?_append_left hi, List.getElem?_append_left hi])
      have := congrArg List.length ot
      rw [List.length_take, tk_len] at this
      rw [List.length_append, List.length_singleton]
      show q.length + 1 ≤ (Sm.runs (decC (q ++ [1])) ways b 0 (cs0 n)).2.turns.length
      omega
  · intro v l v01 a
    by_cases z : wl k v < wl k c
    · exact List.mem_append_left _ (h.all v l v01 z)
    · refine List.mem_append_right _ (List.mem_singleton.mpr ?_)
      obtain ⟨s, rfl⟩ := wl_pre t01 v01 l tl (by omega) (by omega)
      refine runs_same (c1 := c) (c2 := (rn ways b n c).2.turns ++ s) (ways := ways) b o 0 n fun i hi => ?_
      rw [getD_app hi]
      have e := tk_getD (chs := c) hi
      rw [← rn_turns o c] at e
      exact e.symm
  · rw [List.pairwise_append]
    refine ⟨h.ord, List.pairwise_singleton _ _, ?_⟩
    intro R hR S hS
    cases List.mem_singleton.mp hS
    obtain ⟨a1, a2, a3, a4⟩ := h.self R hR
    exact wl_ahd a2 t01 a3 tl (by omega)
theorem Chn.ok (o : Sm.oks b) (hv : Sm.hvs b ≤ k) {Rs : List (Option Str × Cs)} {c : Option (List Int)} (h : Chn ways b n Rs c) : ChOk ways b n k Rs c := by
  generalize e : c = c' at h
  induction h generalizing c with
  | nil => exact ChOk.nil o
  | snoc h ih => exact (ih rfl).snoc o hv
theorem sum_ge {Rs : List (Option Str × Cs)} : (Rs.length : Int) ≤ (Rs.map fun R => pw k R.2.turns).sum := by
  induction Rs with
  | nil => exact Int.le_refl 0
  | cons R r ih =>
    have := pw_pos k R.2.turns
    rw [List.map_cons, List.sum_cons, List.length_cons]
    omega
theorem topO_le {o : Option (List Int)} (h : ∀ c, o = some c → ty01 c ∧ c.length ≤ k) : topO k o ≤ (2 : Int) ^ k := by
  cases o with
  | none => exact Int.le_refl _
  | some c =>
    obtain ⟨h1, h2⟩ := h c rfl
    have := wl_rng h1 h2
    have := pw_pos k c
    show wl k c ≤ _
    omega
theorem ChOk.len (o : Sm.oks b) (hv : Sm.hvs b ≤ k) {Rs : List (Option Str × Cs)} {c : Option (List Int)} (h : ChOk ways b n k Rs c) : (Rs.length : Int) ≤ (2 : Int) ^ k := by
  refine Int.le_trans (sum_ge (k := k)) ?_
  rw [h.sum]
  refine topO_le fun c e => ?_
  obtain ⟨h1, h2⟩ := h.cs c e
  exact ⟨h1, Nat.le_trans h2 (rn_len o hv c)⟩
end
/-! ### what program_error asks, on data -/
def LETS : Str := "abcdefghijklmnopqrstuvwxyz"
def SGNS : Str := "abcdefghijklmnopqrstuvwxyz0123456789"
def KEPTS : List V := [.str "half", .str "tell", .str "say", .str "stop", .str "if", .str "else", .str "repeat", .str "pass", .str "odd", .str "not", .str "program"]
def wholeB (lo hi : Int) : PyData → Bool
  | .int i => decide (lo ≤ i) && decide (i ≤ hi)
  | _ => false
def sgnsB (z : Str) : Bool := z.cps.toList.all fun c => decide (c ∈ SGNS.cps.toList)
def lenB (z : Str) : Bool := decide (1 ≤ (z.length : Int)) && decide ((z.length : Int) ≤ 8)
def wordB : PyData → Bool
  | .str z => lenB z && sgnsB z
  | _ => false
def headB (z : Str) : Bool := match z.cps.toList with
  | [] => false
  | c :: _ => decide (c ∈ LETS.cps.toList)
def nameB : PyData → Bool
  | .str z => lenB z && headB z && sgnsB z && !inV (.str z) KEPTS
  | _ => false
def exprB : Nat → PyData → Bool
  | 0, _ => false
  | n + 1, .tuple [.str k, b, c] => exprB n c && (if k = "times" then wholeB (-9) 9 b else inV (.str k) [.str "plus", .str "minus"] && exprB n b)
  | n + 1, .tuple _ => false
  | n + 1, d => nameB d || wholeB (-99) 99 d
def testB : Nat → PyData → Bool
  | n, .tuple [.str k, b, c] => decide (k = "less") && exprB 3 b && exprB 3 c
  | 0, .tuple [.str k, b] => decide (k = "odd") && exprB 3 b
  | n + 1, .tuple [.str k, b] => if k = "odd" then exprB 3 b else decide (k = "not") && testB n b
  | _, _ => false
def plainB : PyData → Bool
  | .tuple [.str k, b, c] => inV (.str k) [.str "set", .str "half"] && nameB b && exprB 3 c
  | .tuple [.str k, b] => if k = "tell" then exprB 3 b else inV (.str k) [.str "say", .str "stop"] && wordB b
  | _ => false
def isTupB : PyData → Bool
  | .tuple _ => true
  | _ => false
def stmtB : PyData → Bool
  | .tuple [.str k, t, y, n] => decide (k = "if") && testB 2 t && isTupB y && isTupB n
  | .tuple [.str k, t, b] => if k = "repeat" then wholeB 0 8 t && isTupB b else plainB (.tuple [.str k, t, b])
  | .tuple [.str k, b] => plainB (.tuple [.str k, b])
  | _ => false
mutual
/-- no text is longer than the line -/
def Szd : PyData → Prop
  | .str z => z.length ≤ 1000000
  | .tuple ds => Szds ds
  | .none => True
  | .bool _ => True
  | .int _ => True
  | .list _ => True
  | .dict _ => True
def Szds : List PyData → Prop
  | [] => True
  | d :: r => Szd d ∧ Szds r
end
theorem Szds.get : ∀ {ds : List PyData} {i : Nat} {d : PyData}, Szds ds → ds[i]? = some d → Szd d
  | [], i, d, h, e => by simp at e
  | x :: r, 0, d, h, e => by
    simp only [Szds] at h
    cases e
    exact h.1
  | x :: r, i + 1, d, h, e => by
    simp only [Szds] at h
    exact Szds.get (i := i) h.2 e
def spWhole : Sp := fun vs H Q _ => ∃ (v : V) (d : PyData) (lo hi : Int), vs = [v, .int lo, .int hi] ∧ Tr H d v ∧ Q (.bl (wholeB lo hi d)) H
def spBoolD (f : PyData → Bool) : Sp := fun vs H Q _ => ∃ (v : V) (d : PyData), vs = [v] ∧ Tr H d v ∧ Szd d ∧ ∀ H', Kp [] H H' → Q (.bl (f d)) H'
def spBoolN (f : Nat → PyData → Bool) (n : Nat) : Sp := fun vs H Q _ => ∃ (v : V) (d : PyData) (m : Int), vs = [v, .int m] ∧ m = (n : Int) ∧ Tr H d v ∧ Szd d ∧ ∀ H', Kp [] H H' → Q (.bl (f n d)) H'
theorem dec_str (a b : Str) : decide (V.str a = V.str b) = decide (a = b) := decide_eq_decide.mpr ⟨fun h => V.str.inj h, fun h => by rw [h]⟩
theorem dec_len {α : Type} {l : List α} {n : Nat} (h : l.length ≠ n) : decide (V.int (l.length : Int) = V.int (n : Int)) = false := by
  rw [dec_int]
  exact decide_eq_false (by omega)
theorem in2 {k a b : Str} (h : inV (.str k) [.str a, .str b] = true) : k = a ∨ k = b := by
  unfold inV at h
  simp only [List.any_cons, List.any_nil, Bool.or_false, Bool.or_eq_true] at h
  rcases h with h | h
  · exact .inl (by simpa [eqV] using h : a = k).symm
  · exact .inr (by simpa [eqV] using h : b = k).symm
theorem isi_tup {K : PySem.W.Frag} {H : Hp} {d : PyData} {v : V} (h : Tr H d v) : ∃ t, TyX K H v t ∧ PySem.W.kitOne K t (.type "tuple") = some (isTupB d) := by
  cases d with
  | none => simp only [Tr] at h; subst h; exact ⟨_, .base .non, kit_ty (by decide +kernel)⟩
  | bool b => simp only [Tr] at h; subst h; exact ⟨_, .base (.bl _), kit_ty (show kitB "bool" "tuple" = some false by decide +kernel)⟩
  | int b => simp only [Tr] at h; subst h; exact ⟨_, .base (.int _), kit_ty (show kitB "int" "tuple" = some false by decide +kernel)⟩
  | str b => simp only [Tr] at h; subst h; exact ⟨_, .base (.str _), kit_ty (show kitB "str" "tuple" = some false by decide +kernel)⟩
  | list ds => simp only [Tr] at h
  | dict ds => simp only [Tr] at h
  | tuple ds =>
    obtain ⟨a, xs, rfl, h1, _⟩ := tr_tup h
    exact ⟨_, .base (.tup h1), kit_ty (show kitB "tuple" "tuple" = some true by decide +kernel)⟩
def spStmt (f : PyData → Bool) : Sp := fun vs H Q _ => ∃ (v : V) (k : Str) (ds : List PyData), vs = [v] ∧ Tr H (.tuple (.str k :: ds)) v ∧ Szds ds ∧ ∀ H', Kp [] H H' → Q (.bl (f (.tuple (.str k :: ds)))) H'
theorem isi_bs : kitB "bool" "str" = some false := by decide +kernel
theorem isi_bi : kitB "bool" "int" = some true := by decide +kernel
theorem isi_bt : kitB "bool" "tuple" = some false := by decide +kernel
theorem isi_bb : kitB "bool" "bool" = some true := by decide +kernel
theorem isi_ns : kitB "NoneType" "str" = some false := by decide +kernel
theorem isi_ni : kitB "NoneType" "int" = some false := by decide +kernel
theorem isi_nt : kitB "NoneType" "tuple" = some false := by decide +kernel
theorem isi_nb : kitB "NoneType" "bool" = some false := by decide +kernel
theorem isi_sb : kitB "str" "bool" = some false := by decide +kernel
theorem isi_ib : kitB "int" "bool" = some false := by decide +kernel
theorem isi_tb : kitB "tuple" "bool" = some false := by decide +kernel
/-! ### the blocks of a statement, on data -/
def blksD : PyData → List PyData
  | .tuple [.str k, _, y, n] => if k = "if" then [y, n] else []
  | .tuple [.str k, _, b] => if k = "repeat" then [b] else []
  | _ => []
def itemsD : PyData → List PyData
  | .tuple ds => ds
  | _ => []
def bitems (d : PyData) : List PyData := (blksD d).flatMap itemsD
theorem plain_kw {w : Str} {ds : List PyData} (h : plainB (.tuple (.str w :: ds)) = true) : w ≠ "if" ∧ w ≠ "repeat" := by
  have a1 : inV (.str "if") [.str "set", .str "half"] = false := by decide +kernel
  have a2 : inV (.str "if") [.str "say", .str "stop"] = false := by decide +kernel
  have a3 : ¬ (("if" : Str) = "tell") := by decide +kernel
  have b1 : inV (.str "repeat") [.str "set", .str "half"] = false := by decide +kernel
  have b2 : inV (.str "repeat") [.str "say", .str "stop"] = false := by decide +kernel
  have b3 : ¬ (("repeat" : Str) = "tell") := by decide +kernel
  rcases ds with _ | ⟨d2, _ | ⟨d3, _ | ⟨d4, r⟩⟩⟩
  · exact absurd h (by show ¬ (false = true); decide)
  · replace h : (if w = "tell" then exprB 3 d2 else inV (.str w) [.str "say", .str "stop"] && wordB d2) = true := h
    constructor
    · rintro rfl
      rw [if_neg a3, a2] at h
      exact absurd h (by simp)
    · rintro rfl
      rw [if_neg b3, b2] at h
      exact absurd h (by simp)
  · replace h : (inV (.str w) [.str "set", .str "half"] && nameB d2 && exprB 3 d3) = true := h
    constructor
    · rintro rfl
      rw [a1] at h
      exact absurd h (by simp)
    · rintro rfl
      rw [b1] at h
      exact absurd h (by simp)
  · exact absurd h (by show ¬ (false = true); decide)
theorem stmt_cases {d : PyData} (h : stmtB d = true) : (∃ t y n, d = .tuple [.str "if", t, .tuple y, .tuple n] ∧ testB 2 t = true) ∨ (∃ k b, d = .tuple [.str "repeat", .int k, .tuple b] ∧ 0 ≤ k ∧ k ≤ 8) ∨
    (∃ w ds, d = .tuple (.str w :: ds) ∧ w ≠ "if" ∧ w ≠ "repeat" ∧ plainB d = true ∧ blksD d = []) := by
  have tup : ∀ e, isTupB e = true → ∃ es, e = .tuple es := by
    intro e he
    cases e with
    | tuple es => exact ⟨es, rfl⟩
    | none => exact absurd he (by decide)
    | bool b => exact absurd he (by show ¬ (false = true); decide)
    | int b => exact absurd he (by show ¬ (false = true); decide)
    | str b => exact absurd he (by show ¬ (false = true); decide)
    | list b => exact absurd he (by show ¬ (false = true); decide)
    | dict b => exact absurd he (by show ¬ (false = true); decide)
  have pl : ∀ w ds, plainB (.tuple (.str w :: ds)) = true → (∃ w' ds', PyData.tuple (.str w :: ds) = .tuple (.str w' :: ds') ∧ w' ≠ "if" ∧ w' ≠ "repeat" ∧ plainB (.tuple (.str w :: ds)) = true ∧ blksD (.tuple (.str w :: ds)) = []) := by
    intro w ds hp
    obtain ⟨n1, n2⟩ := plain_kw hp
    refine ⟨w, ds, rfl, n1, n2, hp, ?_⟩
    rcases ds with _ | ⟨d2, _ | ⟨d3, _ | ⟨d4, _ | ⟨d5, r⟩⟩⟩⟩
    · rfl
    · rfl
    · show (if w = "repeat" then [d3] else []) = []
      rw [if_neg n2]
    · show (if w = "if" then [d3, d4] else []) = []
      rw [if_neg n1]
    · rfl
  unfold stmtB at h
  split at h
  · rename_i k t y n
    simp only [Bool.and_eq_true, decide_eq_true_eq] at h
    obtain ⟨⟨⟨rfl, h2⟩, h3⟩, h4⟩ := h
    obtain ⟨ys, rfl⟩ := tup y h3
    obtain ⟨ns, rfl⟩ := tup n h4
    exact .inl ⟨t, ys, ns, rfl, h2⟩
  · rename_i k t b
    by_cases e : k = "repeat"
    · rw [if_pos e] at h
      subst e
      simp only [Bool.and_eq_true] at h
      obtain ⟨h1, h2⟩ := h
      obtain ⟨bs, rfl⟩ := tup b h2
      cases t with
      | int i =>
        replace h1 : (decide (0 ≤ i) && decide (i ≤ 8)) = true := h1
        simp only [Bool.and_eq_true, decide_eq_true_eq] at h1
        exact .inr (.inl ⟨i, bs, rfl, h1.1, h1.2⟩)
      | none => exact absurd h1 (by decide)
      | bool b => exact absurd h1 (by show ¬ (false = true); decide)
      | tuple b => exact absurd h1 (by show ¬ (false = true); decide)
      | str b => exact absurd h1 (by show ¬ (false = true); decide)
      | list b => exact absurd h1 (by show ¬ (false = true); decide)
      | dict b => exact absurd h1 (by show ¬ (false = true); decide)
    · rw [if_neg e] at h
      exact .inr (.inr (pl _ _ h))
  · exact .inr (.inr (pl _ _ h))
  · cases h
/-- something that has the form of a statement, as far as its blocks go -/
def StD (d : PyData) : Prop := (∃ t y n, d = .tuple [.str "if", t, .tuple y, .tuple n]) ∨ (∃ k b, d = .tuple [.str "repeat", k, .tuple b]) ∨ (∃ w ds, d = .tuple (.str w :: ds) ∧ w ≠ "if" ∧ w ≠ "repeat" ∧ blksD d = [])
theorem stmt_std {d : PyData} (h : stmtB d = true) : StD d := by
  rcases stmt_cases h with ⟨t, y, n, e, _⟩ | ⟨k, b, e, _⟩ | ⟨w, ds, e, n1, n2, _, eb⟩
  · exact .inl ⟨t, y, n, e⟩
  · exact .inr (.inl ⟨.int k, b, e⟩)
  · exact .inr (.inr ⟨w, ds, e, n1, n2, eb⟩)
theorem Sm.std (s : Sm) : StD s.d := by
  cases s with
  | ite t y n => exact .inl ⟨t.d, Sm.ds y, Sm.ds n, by simp only [Sm.d]⟩
  | rep k b => exact .inr (.inl ⟨.int k, Sm.ds b, by simp only [Sm.d]⟩)
  | set x e => exact .inr (.inr ⟨"set", _, by simp only [Sm.d]; rfl, by decide +kernel, by decide +kernel, by simp only [Sm.d, blksD]; rw [if_neg (by decide +kernel)]⟩)
  | half x e => exact .inr (.inr ⟨"half", _, by simp only [Sm.d]; rfl, by decide +kernel, by decide +kernel, by simp only [Sm.d, blksD]; rw [if_neg (by decide +kernel)]⟩)
  | tell e => exact .inr (.inr ⟨"tell", _, by simp only [Sm.d]; rfl, by decide +kernel, by decide +kernel, by simp only [Sm.d, blksD]⟩)
  | say e => exact .inr (.inr ⟨"say", _, by simp only [Sm.d]; rfl, by decide +kernel, by decide +kernel, by simp only [Sm.d, blksD]⟩)
  | stop e => exact .inr (.inr ⟨"stop", _, by simp only [Sm.d]; rfl, by decide +kernel, by decide +kernel, by simp only [Sm.d, blksD]⟩)
def spBlocksD : Sp := fun vs H Q _ => ∃ (v : V) (d : PyData), vs = [v] ∧ Tr H d v ∧ StD d ∧ ∀ (p : Addr) (bs : List V) (H' : Hp), H p = none → H' p = some (.lst bs) → TrAll H' (blksD d) bs → Kp [] H H' → Q (.ref p) H'
def pairD (q : Int × PyData) : PyData := .tuple [.int q.1, q.2]
mutual
/-- how many parts there are -/
def dsz : PyData → Nat
  | .tuple ds => 1 + dszs ds
  | .none => 1
  | .bool _ => 1
  | .int _ => 1
  | .str _ => 1
  | .list _ => 1
  | .dict _ => 1
def dszs : List PyData → Nat
  | [] => 0
  | d :: r => dsz d + dszs r
end
theorem dsz_pos (d : PyData) : 1 ≤ dsz d := by cases d <;> simp only [dsz] <;> omega
theorem dszs_app : ∀ (a b : List PyData), dszs (a ++ b) = dszs a + dszs b
  | [], b => by simp only [List.nil_append, dszs]; omega
  | d :: r, b => by simp only [List.cons_append, dszs, dszs_app r b]; omega
theorem dszs_len : ∀ a : List PyData, a.length ≤ dszs a
  | [] => Nat.le_refl _
  | d :: r => by
    have := dsz_pos d
    have := dszs_len r
    simp only [dszs, List.length_cons]
    omega
theorem items_sz (d : PyData) : dszs (itemsD d) + 1 ≤ dsz d := by
  cases d with
  | tuple ds => simp only [itemsD, dsz]; omega
  | none => simp only [itemsD, dsz, dszs]; omega
  | bool _ => simp only [itemsD, dsz, dszs]; omega
  | int _ => simp only [itemsD, dsz, dszs]; omega
  | str _ => simp only [itemsD, dsz, dszs]; omega
  | list _ => simp only [itemsD, dsz, dszs]; omega
  | dict _ => simp only [itemsD, dsz, dszs]; omega
theorem bitems_sz (d : PyData) : dszs (bitems d) + 1 ≤ dsz d := by
  unfold bitems
  unfold blksD
  split
  · rename_i k t y n
    have h1 := items_sz y
    have h2 := items_sz n
    split
    · simp only [List.flatMap_cons, List.flatMap_nil, List.append_nil, dszs_app, dsz, dszs]
      omega
    · simp only [List.flatMap_nil, dsz, dszs]
      omega
  · rename_i k t b
    have h1 := items_sz b
    split
    · simp only [List.flatMap_cons, List.flatMap_nil, List.append_nil, dsz, dszs]
      omega
    · simp only [List.flatMap_nil, dsz, dszs]
      omega
  · have := dsz_pos d
    simp only [List.flatMap_nil, dszs]
    omega
theorem Szds.app : ∀ {a b : List PyData}, Szds a → Szds b → Szds (a ++ b)
  | [], b, _, h => h
  | d :: r, b, h, g => by
    simp only [Szds] at h
    simp only [List.cons_append, Szds]
    exact ⟨h.1, Szds.app h.2 g⟩
theorem Szd.items {d : PyData} (h : Szd d) : Szds (itemsD d) := by
  cases d with
  | tuple ds => simpa only [Szd, itemsD] using h
  | none => simp only [itemsD, Szds]
  | bool _ => simp only [itemsD, Szds]
  | int _ => simp only [itemsD, Szds]
  | str _ => simp only [itemsD, Szds]
  | list _ => simp only [itemsD, Szds]
  | dict _ => simp only [itemsD, Szds]
theorem Szd.bitems {d : PyData} (h : Szd d) : Szds (bitems d) := by
  unfold EH.bitems blksD
  split
  · rename_i k t y n
    simp only [Szd, Szds] at h
    split
    · simp only [List.flatMap_cons, List.flatMap_nil, List.append_nil]
      exact h.2.2.1.items.app h.2.2.2.1.items
    · simp only [List.flatMap_nil, Szds]
  · rename_i k t b
    simp only [Szd, Szds] at h
    split
    · simp only [List.flatMap_cons, List.flatMap_nil, List.append_nil]
      exact h.2.2.1.items
    · simp only [List.flatMap_nil, Szds]
  · simp only [List.flatMap_nil, Szds]
def spWithin : Sp := fun vs H Q _ => ∃ (v : V) (d : PyData) (dep : Int), vs = [v, .int dep] ∧ Tr H d v ∧ StD d ∧ dsz d ≤ 1000000 ∧
  ∀ (p : Addr) (us : List V) (H' : Hp), H p = none → H' p = some (.lst us) → TrAll H' ((((bitems d).map fun e => pairD (dep + 1, e))).reverse) us → Kp [] H H' → Q (.ref p) H'
theorem TrAll.rev {H : Hp} : ∀ {ds : List PyData} {vs : List V}, TrAll H ds vs → TrAll H ds.reverse vs.reverse
  | [], vs, h => by
    simp only [TrAll] at h
    subst h
    exact trs_nil
  | d :: ds, vs, h => by
    simp only [TrAll] at h
    obtain ⟨v, r, rfl, h1, h2⟩ := h
    rw [List.reverse_cons, List.reverse_cons]
    exact (TrAll.rev h2).append (trs_cons h1 trs_nil)
theorem TrAll.app_inv {H : Hp} : ∀ {ds es : List PyData} {vs : List V}, TrAll H (ds ++ es) vs → ∃ us ws, vs = us ++ ws ∧ TrAll H ds us ∧ TrAll H es ws
  | [], es, vs, h => ⟨[], vs, rfl, trs_nil, h⟩
  | d :: ds, es, vs, h => by
    simp only [List.cons_append, TrAll] at h
    obtain ⟨v, r, rfl, h1, h2⟩ := h
    obtain ⟨us, ws, rfl, h3, h4⟩ := TrAll.app_inv h2
    exact ⟨v :: us, ws, rfl, trs_cons h1 h3, h4⟩
theorem TrAll.snoc_inv {H : Hp} {ds : List PyData} {e : PyData} {vs : List V} (h : TrAll H (ds ++ [e]) vs) : ∃ us u, vs = us ++ [u] ∧ TrAll H ds us ∧ Tr H e u := by
  obtain ⟨us, ws, rfl, h1, h2⟩ := TrAll.app_inv h
  simp only [TrAll] at h2
  obtain ⟨u, _, rfl, h3, rfl⟩ := h2
  exact ⟨us, u, rfl, h1, h3⟩
/-! ### the first wrong statement -/
def stk (l : List (Int × PyData)) : List PyData := l.map (·.2)
def ordE : Nat → List (Int × PyData) → Int → Option (Int × Str)
  | 0, _, _ => none
  | _ + 1, [], _ => none
  | f + 1, (dep, d) :: r, p => if 3 < dep then some (p, "nest") else if stmtB d = true then ordE f (((bitems d).map fun e => (dep + 1, e)) ++ r) (p + 1) else some (p, "statement")
theorem stk_app (a b : List (Int × PyData)) : stk (a ++ b) = stk a ++ stk b := List.map_append
theorem stk_bi (dep : Int) (l : List PyData) : stk (l.map fun e => (dep, e)) = l := by
  unfold stk
  rw [List.map_map]
  exact List.map_id l
theorem ordE_fuel : ∀ (f g : Nat) (l : List (Int × PyData)) (p : Int), dszs (stk l) < f → dszs (stk l) < g → ordE f l p = ordE g l p
  | 0, g, l, p, h, _ => absurd h (Nat.not_lt_zero _)
  | f + 1, 0, l, p, _, h => absurd h (Nat.not_lt_zero _)
  | f + 1, g + 1, [], p, _, _ => rfl
  | f + 1, g + 1, (dep, d) :: r, p, h1, h2 => by
    simp only [ordE]
    split
    · rfl
    · split
      · have hb := bitems_sz d
        have e : dszs (stk ((dep, d) :: r)) = dsz d + dszs (stk r) := by
          show dszs (d :: stk r) = _
          simp only [dszs]
        have e2 : dszs (stk (((bitems d).map fun e => (dep + 1, e)) ++ r)) = dszs (bitems d) + dszs (stk r) := by rw [stk_app, stk_bi, dszs_app]
        exact ordE_fuel f g _ _ (by omega) (by omega)
      · rfl
def errD : Option (Int × Str) → PyData
  | none => .none
  | some (p, w) => .tuple [.int p, .str w]
def ordErr (ds : List PyData) : Option (Int × Str) := ordE (dszs ds + 1) (ds.map fun e => (0, e)) 0
def spOrder : Sp := fun vs H Q _ => ∃ (v : V) (ds : List PyData), vs = [v] ∧ Tr H (.tuple ds) v ∧ Szds ds ∧ dszs ds ≤ 1000000 ∧ ∀ (t : V) (H' : Hp), Tr H' (errD (ordErr ds)) t → Kp [] H H' → Q t H'
/-! ### what passes is a program -/
theorem sgns_ok {z : Str} (h : sgnsB z = true) : PyData.strOk z = true := by
  have hs : ∀ c ∈ SGNS.cps.toList, c < 0x110000 := by decide +kernel
  show z.cps.all _ = true
  rw [← Array.all_toList, List.all_eq_true]
  intro c hc
  unfold sgnsB at h
  rw [List.all_eq_true] at h
  exact decide_eq_true (hs c (of_decide_eq_true (h c hc)))
theorem lenB_le {z : Str} (h : lenB z = true) : z.length ≤ 8 := by
  unfold lenB at h
  rw [Bool.and_eq_true] at h
  have := of_decide_eq_true h.2
  omega
theorem name_str {d : PyData} (h : nameB d = true) : ∃ z, d = .str z ∧ NmOk z := by
  cases d with
  | str z =>
    replace h : (lenB z && headB z && sgnsB z && !inV (.str z) KEPTS) = true := h
    simp only [Bool.and_eq_true] at h
    obtain ⟨⟨⟨h1, h2⟩, h3⟩, h4⟩ := h
    have := lenB_le h1
    exact ⟨z, rfl, sgns_ok h3, by omega⟩
  | none => exact absurd h (by decide)
  | bool b => exact absurd h (by show ¬ (false = true); decide)
  | int b => exact absurd h (by show ¬ (false = true); decide)
  | tuple b => exact absurd h (by show ¬ (false = true); decide)
  | list b => exact absurd h (by show ¬ (false = true); decide)
  | dict b => exact absurd h (by show ¬ (false = true); decide)
theorem word_str {d : PyData} (h : wordB d = true) : ∃ z, d = .str z ∧ PyData.strOk z = true ∧ z.length ≤ 20 := by
  cases d with
  | str z =>
    replace h : (lenB z && sgnsB z) = true := h
    simp only [Bool.and_eq_true] at h
    have := lenB_le h.1
    exact ⟨z, rfl, sgns_ok h.2, by omega⟩
  | none => exact absurd h (by decide)
  | bool b => exact absurd h (by show ¬ (false = true); decide)
  | int b => exact absurd h (by show ¬ (false = true); decide)
  | tuple b => exact absurd h (by show ¬ (false = true); decide)
  | list b => exact absurd h (by show ¬ (false = true); decide)
  | dict b => exact absurd h (by show ¬ (false = true); decide)
theorem whole_int {lo hi : Int} {d : PyData} (h : wholeB lo hi d = true) : ∃ i, d = .int i ∧ lo ≤ i ∧ i ≤ hi := by
  cases d with
  | int i =>
    replace h : (decide (lo ≤ i) && decide (i ≤ hi)) = true := h
    simp only [Bool.and_eq_true, decide_eq_true_eq] at h
    exact ⟨i, rfl, h.1, h.2⟩
  | none => exact absurd h (by show ¬ (false = true); decide)
  | bool b => exact absurd h (by show ¬ (false = true); decide)
  | str b => exact absurd h (by show ¬ (false = true); decide)
  | tuple b => exact absurd h (by show ¬ (false = true); decide)
  | list b => exact absurd h (by show ¬ (false = true); decide)
  | dict b => exact absurd h (by show ¬ (false = true); decide)
theorem expr_tup {n : Nat} {ds : List PyData} (h : exprB (n + 1) (.tuple ds) = true) : ∃ k b c, ds = [.str k, b, c] ∧ exprB n c = true ∧ (if k = "times" then wholeB (-9) 9 b else inV (.str k) [.str "plus", .str "minus"] && exprB n b) = true := by
  have no : ∀ {P : Prop}, (false = true) → P := fun z => by cases z
  rcases ds with _ | ⟨d1, _ | ⟨d2, _ | ⟨d3, _ | ⟨d4, r⟩⟩⟩⟩
  · exact no h
  · cases d1 <;> exact no h
  · cases d1 <;> exact no h
  · cases d1 with
    | str k =>
      replace h : (exprB n d3 && (if k = "times" then wholeB (-9) 9 d2 else inV (.str k) [.str "plus", .str "minus"] && exprB n d2)) = true := h
      rw [Bool.and_eq_true] at h
      exact ⟨k, d2, d3, rfl, h.1, h.2⟩
    | none => exact no h
    | bool _ => exact no h
    | int _ => exact no h
    | tuple _ => exact no h
    | list _ => exact no h
    | dict _ => exact no h
  · cases d1 <;> exact no h
theorem expr_flat {n : Nat} {d : PyData} (h : (nameB d || wholeB (-99) 99 d) = true) : ∃ e : Ex, d = e.d ∧ e.ok ∧ e.deep ≤ n + 1 := by
  rw [Bool.or_eq_true] at h
  rcases h with h | h
  · obtain ⟨z, rfl, ok⟩ := name_str h
    exact ⟨.var z, by simp only [Ex.d], ok, by simp only [Ex.deep]; omega⟩
  · obtain ⟨i, rfl, i1, i2⟩ := whole_int h
    exact ⟨.num i, by simp only [Ex.d], ⟨i1, i2⟩, by simp only [Ex.deep]; omega⟩
theorem expr_ex : ∀ (n : Nat) {d : PyData}, exprB n d = true → ∃ e : Ex, d = e.d ∧ e.ok ∧ e.deep ≤ n
  | 0, d, h => absurd h (by unfold exprB; simp)
  | n + 1, d, h => by
    cases d with
    | tuple ds =>
      obtain ⟨k, b, c, rfl, h1, h2⟩ := expr_tup h
      obtain ⟨ec, rfl, oc, dc⟩ := expr_ex n h1
      by_cases hk : k = "times"
      · rw [if_pos hk] at h2
        obtain ⟨i, rfl, i1, i2⟩ := whole_int h2
        subst hk
        exact ⟨.times i ec, by simp only [Ex.d], ⟨i1, i2, oc⟩, by simp only [Ex.deep]; omega⟩
      · rw [if_neg hk] at h2
        simp only [Bool.and_eq_true] at h2
        obtain ⟨hi, hb⟩ := h2
        obtain ⟨eb, rfl, ob, db⟩ := expr_ex n hb
        rcases in2 hi with rfl | rfl
        · exact ⟨.plus eb ec, by simp only [Ex.d], ⟨ob, oc⟩, by simp only [Ex.deep]; omega⟩
        · exact ⟨.minus eb ec, by simp only [Ex.d], ⟨ob, oc⟩, by simp only [Ex.deep]; omega⟩
    | none => exact expr_flat h
    | bool b => exact expr_flat h
    | int b => exact expr_flat h
    | str b => exact expr_flat h
    | list b => exact expr_flat h
    | dict b => exact expr_flat h
theorem test_ts : ∀ (n : Nat) {d : PyData}, testB n d = true → ∃ t : Ts, d = t.d ∧ t.ok ∧ t.nots ≤ n
  | n, d, h => by
    unfold testB at h
    split at h
    · rename_i k b c
      simp only [Bool.and_eq_true, decide_eq_true_eq] at h
      obtain ⟨⟨rfl, h1⟩, h2⟩ := h
      obtain ⟨eb, rfl, ob, db⟩ := expr_ex 3 h1
      obtain ⟨ec, rfl, oc, dc⟩ := expr_ex 3 h2
      exact ⟨.less eb ec, by simp only [Ts.d], ⟨⟨ob, db⟩, oc, dc⟩, Nat.zero_le _⟩
    · rename_i k b
      simp only [Bool.and_eq_true, decide_eq_true_eq] at h
      obtain ⟨rfl, h1⟩ := h
      obtain ⟨eb, rfl, ob, db⟩ := expr_ex 3 h1
      exact ⟨.odd eb, by simp only [Ts.d], ⟨ob, db⟩, Nat.zero_le _⟩
    · rename_i n k b
      by_cases hk : k = "odd"
      · rw [if_pos hk] at h
        subst hk
        obtain ⟨eb, rfl, ob, db⟩ := expr_ex 3 h
        exact ⟨.odd eb, by simp only [Ts.d], ⟨ob, db⟩, Nat.zero_le _⟩
      · rw [if_neg hk] at h
        simp only [Bool.and_eq_true, decide_eq_true_eq] at h
        obtain ⟨rfl, h1⟩ := h
        obtain ⟨t, rfl, ot, nt⟩ := test_ts n h1
        exact ⟨.not t, by simp only [Ts.d], ot, by simp only [Ts.nots]; omega⟩
    · cases h
theorem plain_sm {d : PyData} (h : plainB d = true) : ∃ s : Sm, d = s.d ∧ s.ok ∧ s.nest = 0 := by
  unfold plainB at h
  split at h
  · rename_i k b c
    simp only [Bool.and_eq_true] at h
    obtain ⟨⟨hi, h1⟩, h2⟩ := h
    obtain ⟨z, rfl, oz⟩ := name_str h1
    obtain ⟨e, rfl, oe, de⟩ := expr_ex 3 h2
    rcases in2 hi with rfl | rfl
    · exact ⟨.set z e, by simp only [Sm.d], by simp only [Sm.ok]; exact ⟨⟨oe, de⟩, oz⟩, by simp only [Sm.nest]⟩
    · exact ⟨.half z e, by simp only [Sm.d], by simp only [Sm.ok]; exact ⟨⟨oe, de⟩, oz⟩, by simp only [Sm.nest]⟩
  · rename_i k b
    by_cases hk : k = "tell"
    · rw [if_pos hk] at h
      subst hk
      obtain ⟨e, rfl, oe, de⟩ := expr_ex 3 h
      exact ⟨.tell e, by simp only [Sm.d], by simp only [Sm.ok]; exact ⟨oe, de⟩, by simp only [Sm.nest]⟩
    · rw [if_neg hk] at h
      simp only [Bool.and_eq_true] at h
      obtain ⟨hi, h1⟩ := h
      obtain ⟨z, rfl, oz⟩ := word_str h1
      rcases in2 hi with rfl | rfl
      · exact ⟨.say z, by simp only [Sm.d], by simp only [Sm.ok]; exact oz, by simp only [Sm.nest]⟩
      · exact ⟨.stop z, by simp only [Sm.d], by simp only [Sm.ok]; exact oz, by simp only [Sm.nest]⟩
  · cases h
theorem sms_of {dep : Int} : ∀ {l : List PyData}, (∀ d ∈ l, ∃ s : Sm, d = s.d ∧ s.ok ∧ (s.nest : Int) + dep ≤ 4) → ∃ b : List Sm, l = Sm.ds b ∧ Sm.oks b ∧ (b = [] ∨ (Sm.nests b : Int) + dep ≤ 4)
  | [], _ => ⟨[], by simp only [Sm.ds], by simp only [Sm.oks], .inl rfl⟩
  | d :: r, h => by
    obtain ⟨s, rfl, o, n⟩ := h d List.mem_cons_self
    obtain ⟨b, rfl, ob, nb⟩ := sms_of fun e he => h e (List.mem_cons_of_mem _ he)
    refine ⟨s :: b, by simp only [Sm.ds], by simp only [Sm.oks]; exact ⟨o, ob⟩, .inr ?_⟩
    simp only [Sm.nests]
    rcases nb with rfl | nb
    · simp only [Sm.nests]
      omega
    · omega
theorem ord_none : ∀ (f : Nat) (l : List (Int × PyData)) (p : Int), dszs (stk l) < f → ordE f l p = none → ∀ q ∈ l, ∃ s : Sm, q.2 = s.d ∧ s.ok ∧ (s.nest : Int) + q.1 ≤ 4
  | 0, l, p, hf, _ => absurd hf (Nat.not_lt_zero _)
  | f + 1, [], p, _, _ => fun q h => nomatch h
  | f + 1, (dep, d) :: r, p, hf, h => by
    simp only [ordE] at h
    by_cases hd : 3 < dep
    · rw [if_pos hd] at h; cases h
    · rw [if_neg hd] at h
      by_cases hs : stmtB d = true
      · rw [if_pos hs] at h
        have hb := bitems_sz d
        have e : dszs (stk ((dep, d) :: r)) = dsz d + dszs (stk r) := by
          show dszs (d :: stk r) = _
          simp only [dszs]
        have e2 : dszs (stk (((bitems d).map fun e => (dep + 1, e)) ++ r)) = dszs (bitems d) + dszs (stk r) := by rw [stk_app, stk_bi, dszs_app]
        have ih := ord_none f _ _ (by omega) h
        intro q hq
        rcases List.mem_cons.mp hq with rfl | hq
        · have each : ∀ e ∈ bitems d, ∃ s : Sm, e = s.d ∧ s.ok ∧ (s.nest : Int) + (dep + 1) ≤ 4 := fun e he => ih (dep + 1, e) (List.mem_append_left _ (List.mem_map.mpr ⟨e, he, rfl⟩))
          rcases stmt_cases hs with ⟨t, y, n, rfl, ht⟩ | ⟨k, b, rfl, k1, k2⟩ | ⟨w, ds, rfl, n1, n2, hp, eb⟩
          · have eb : bitems (.tuple [.str "if", t, .tuple y, .tuple n]) = y ++ n := by
              unfold bitems
              rw [show blksD (.tuple [.str "if", t, .tuple y, .tuple n]) = [.tuple y, .tuple n] by unfold blksD; exact if_pos rfl]
              simp [itemsD]
            rw [eb] at each
            obtain ⟨ys, ey, oy, ny⟩ := sms_of (dep := dep + 1) (l := y) fun e he => each e (List.mem_append_left _ he)
            obtain ⟨ns, en, on, nn⟩ := sms_of (dep := dep + 1) (l := n) fun e he => each e (List.mem_append_right _ he)
            obtain ⟨ts, et, ot, nt⟩ := test_ts 2 ht
            subst ey en et
            refine ⟨.ite ts ys ns, by simp only [Sm.d], by simp only [Sm.ok]; exact ⟨ot, nt, oy, on⟩, ?_⟩
            simp only [Sm.nest]
            have z1 : (Sm.nests ys : Int) + (dep + 1) ≤ 4 := by
              rcases ny with rfl | ny
              · simp only [Sm.nests]; omega
              · exact ny
            have z2 : (Sm.nests ns : Int) + (dep + 1) ≤ 4 := by
              rcases nn with rfl | nn
              · simp only [Sm.nests]; omega
              · exact nn
            omega
          · have eb : bitems (.tuple [.str "repeat", .int k, .tuple b]) = b := by
              unfold bitems
              rw [show blksD (.tuple [.str "repeat", .int k, .tuple b]) = [.tuple b] by unfold blksD; exact if_pos rfl]
              simp [itemsD]
            rw [eb] at each
            obtain ⟨bs, ey, oy, ny⟩ := sms_of (dep := dep + 1) (l := b) each
            subst ey
            refine ⟨.rep k.toNat bs, ?_, ?_, ?_⟩
            · simp only [Sm.d]
              rw [Int.toNat_of_nonneg k1]
            · simp only [Sm.ok]
              exact ⟨by omega, oy⟩
            · simp only [Sm.nest]
              rcases ny with rfl | ny
              · simp only [Sm.nests]; omega
              · omega
          · obtain ⟨s, es, os, ns⟩ := plain_sm hp
            exact ⟨s, es, os, by rw [ns]; show ((0 : Nat) : Int) + dep ≤ 4; omega⟩
        · exact ih q (List.mem_append_right _ hq)
      · rw [if_neg hs] at h; cases h
theorem ordErr_none {ds : List PyData} (h : ordErr ds = none) : ∃ b : List Sm, ds = Sm.ds b ∧ Sm.oks b ∧ Sm.nests b ≤ 4 := by
  have hs : stk (ds.map fun e => ((0 : Int), e)) = ds := stk_bi 0 ds
  have := ord_none _ _ _ (by rw [hs]; omega) h
  obtain ⟨b, e, o, n⟩ := sms_of (dep := 0) (l := ds) fun d hd => this (0, d) (List.mem_map.mpr ⟨d, hd, rfl⟩)
  refine ⟨b, e, o, ?_⟩
  rcases n with rfl | n
  · simp only [Sm.nests]; omega
  · omega
/-! ### the statements in order -/
mutual
def Sm.prs (dep : Int) : Sm → List (Int × Sm)
  | .ite t y n => (dep, .ite t y n) :: (Sm.prss (dep + 1) y ++ Sm.prss (dep + 1) n)
  | .rep k b => (dep, .rep k b) :: Sm.prss (dep + 1) b
  | .set x e => [(dep, .set x e)]
  | .half x e => [(dep, .half x e)]
  | .tell e => [(dep, .tell e)]
  | .say w => [(dep, .say w)]
  | .stop w => [(dep, .stop w)]
def Sm.prss (dep : Int) : List Sm → List (Int × Sm)
  | [] => []
  | s :: r => Sm.prs dep s ++ Sm.prss dep r
end
mutual
theorem Sm.prs_len (dep : Int) : ∀ s : Sm, (s.prs dep).length = s.pl
  | .ite t y n => by simp only [Sm.prs, Sm.pl, List.length_cons, List.length_append, Sm.prss_len (dep + 1) y, Sm.prss_len (dep + 1) n]; omega
  | .rep k b => by simp only [Sm.prs, Sm.pl, List.length_cons, Sm.prss_len (dep + 1) b]; omega
  | .set x e => by simp only [Sm.prs, Sm.pl, List.length_singleton]
  | .half x e => by simp only [Sm.prs, Sm.pl, List.length_singleton]
  | .tell e => by simp only [Sm.prs, Sm.pl, List.length_singleton]
  | .say w => by simp only [Sm.prs, Sm.pl, List.length_singleton]
  | .stop w => by simp only [Sm.prs, Sm.pl, List.length_singleton]
theorem Sm.prss_len (dep : Int) : ∀ b : List Sm, (Sm.prss dep b).length = Sm.pls b
  | [] => by simp only [Sm.prss, Sm.pls, List.length_nil]
  | s :: r => by simp only [Sm.prss, Sm.pls, List.length_append, Sm.prs_len dep s, Sm.prss_len dep r]
end
def pairS (q : Int × Sm) : PyData := .tuple [.int q.1, q.2.d]
/-- the items of the blocks of a statement -/
def Sm.inn : Sm → List Sm
  | .ite _ y n => y ++ n
  | .rep _ b => b
  | _ => []
theorem Sm.prs_inn (dep : Int) (s : Sm) : s.prs dep = (dep, s) :: Sm.prss (dep + 1) s.inn := by
  have app : ∀ (a b : List Sm), Sm.prss (dep + 1) (a ++ b) = Sm.prss (dep + 1) a ++ Sm.prss (dep + 1) b := by
    intro a b
    induction a with
    | nil => simp only [List.nil_append, Sm.prss]
    | cons s r ih => simp only [List.cons_append, Sm.prss, ih, List.append_assoc]
  cases s with
  | ite t y n => simp only [Sm.prs, Sm.inn, app]
  | rep k b => simp only [Sm.prs, Sm.inn]
  | set x e => simp only [Sm.prs, Sm.inn, Sm.prss]
  | half x e => simp only [Sm.prs, Sm.inn, Sm.prss]
  | tell e => simp only [Sm.prs, Sm.inn, Sm.prss]
  | say w => simp only [Sm.prs, Sm.inn, Sm.prss]
  | stop w => simp only [Sm.prs, Sm.inn, Sm.prss]
theorem Sm.bitems_inn (s : Sm) : bitems s.d = Sm.ds s.inn := by
  unfold bitems
  cases s with
  | ite t y n =>
    rw [show blksD (Sm.ite t y n).d = [.tuple (Sm.ds y), .tuple (Sm.ds n)] by simp only [Sm.d, blksD]; exact if_pos trivial]
    simp [itemsD, Sm.inn, Sm.ds_app]
  | rep k b =>
    rw [show blksD (Sm.rep k b).d = [.tuple (Sm.ds b)] by simp only [Sm.d, blksD]; exact if_pos trivial]
    simp [itemsD, Sm.inn]
  | set x e => rw [show blksD (Sm.set x e).d = [] by simp only [Sm.d, blksD]; rw [if_neg (by decide +kernel)]]; simp [Sm.inn, Sm.ds]
  | half x e => rw [show blksD (Sm.half x e).d = [] by simp only [Sm.d, blksD]; rw [if_neg (by decide +kernel)]]; simp [Sm.inn, Sm.ds]
  | tell e => simp [Sm.d, blksD, Sm.inn, Sm.ds]
  | say e => simp [Sm.d, blksD, Sm.inn, Sm.ds]
  | stop e => simp [Sm.d, blksD, Sm.inn, Sm.ds]
theorem Sm.blksD_eq (s : Sm) : blksD s.d = s.blks.map fun b => .tuple (Sm.ds b) := by
  cases s with
  | ite t y n => simp only [Sm.d, blksD, Sm.blks, List.map_cons, List.map_nil]; exact if_pos trivial
  | rep k b => simp only [Sm.d, blksD, Sm.blks, List.map_cons, List.map_nil]; exact if_pos trivial
  | set x e => simp only [Sm.d, blksD, Sm.blks, List.map_nil]; exact if_neg (by decide +kernel)
  | half x e => simp only [Sm.d, blksD, Sm.blks, List.map_nil]; exact if_neg (by decide +kernel)
  | tell e => simp only [Sm.d, blksD, Sm.blks, List.map_nil]
  | say e => simp only [Sm.d, blksD, Sm.blks, List.map_nil]
  | stop e => simp only [Sm.d, blksD, Sm.blks, List.map_nil]
/-- what is left to walk -/
def prL (l : List (Int × Sm)) : List (Int × Sm) := l.flatMap fun q => q.2.prs q.1
theorem prL_cons (dep : Int) (s : Sm) (l : List (Int × Sm)) : prL ((dep, s) :: l) = (dep, s) :: prL ((s.inn.map fun e => (dep + 1, e)) ++ l) := by
  have e : ∀ (d : Int) (b : List Sm), Sm.prss d b = prL (b.map fun e => (d, e)) := by
    intro d b
    induction b with
    | nil => simp only [Sm.prss, List.map_nil, prL, List.flatMap_nil]
    | cons s r ih => simp only [Sm.prss, ih, List.map_cons, prL, List.flatMap_cons]
  unfold prL
  rw [List.flatMap_cons, List.flatMap_append]
  show s.prs dep ++ _ = _
  rw [Sm.prs_inn, e]
  rfl
theorem prL_start (b : List Sm) : prL (b.map fun e => ((0 : Int), e)) = Sm.prss 0 b := by
  induction b with
  | nil => simp only [Sm.prss, List.map_nil, prL, List.flatMap_nil]
  | cons s r ih =>
    simp only [Sm.prss, List.map_cons, prL, List.flatMap_cons]
    unfold prL at ih
    rw [ih]
theorem dsz_mem : ∀ {l : List PyData} {d : PyData}, d ∈ l → dsz d ≤ dszs l
  | [], d, h => nomatch h
  | x :: r, d, h => by
    simp only [dszs]
    rcases List.mem_cons.mp h with rfl | h
    · omega
    · have := dsz_mem h
      omega
mutual
theorem Sm.pl_dsz : ∀ s : Sm, s.pl ≤ dsz s.d
  | .ite t y n => by
    have := Sm.pls_dsz y
    have := Sm.pls_dsz n
    simp only [Sm.pl, Sm.d, dsz, dszs]
    omega
  | .rep k b => by
    have := Sm.pls_dsz b
    simp only [Sm.pl, Sm.d, dsz, dszs]
    omega
  | .set x e => by simp only [Sm.pl, Sm.d, dsz, dszs]; omega
  | .half x e => by simp only [Sm.pl, Sm.d, dsz, dszs]; omega
  | .tell e => by simp only [Sm.pl, Sm.d, dsz, dszs]; omega
  | .say w => by simp only [Sm.pl, Sm.d, dsz, dszs]; omega
  | .stop w => by simp only [Sm.pl, Sm.d, dsz, dszs]; omega
theorem Sm.pls_dsz : ∀ b : List Sm, Sm.pls b ≤ dszs (Sm.ds b)
  | [] => by simp only [Sm.pls, Sm.ds, dszs]; omega
  | s :: r => by
    have := Sm.pl_dsz s
    have := Sm.pls_dsz r
    simp only [Sm.pls, Sm.ds, dszs]
    omega
end
theorem prL_len : ∀ l : List (Int × Sm), l.length ≤ (prL l).length
  | [] => Nat.le_refl _
  | q :: r => by
    have h1 := prL_len r
    have h2 := Sm.prs_len q.1 q.2
    have h3 := q.2.pl_pos
    unfold prL at h1 ⊢
    rw [List.flatMap_cons, List.length_append, List.length_cons]
    omega
def spRows : Sp := fun vs H Q _ => ∃ (v : V) (b : List Sm), vs = [v] ∧ Tr H (.tuple (Sm.ds b)) v ∧ dszs (Sm.ds b) ≤ 1000000 ∧ ∀ (p : Addr) (us : List V) (H' : Hp), H p = none → H' p = some (.lst us) → TrAll H' ((Sm.prss 0 b).map pairS) us → Kp [] H H' → Q (.ref p) H'
/-! ### counts -/
def cnt (sort : Str) (s : Sm) : Nat := if sort = "weight" then s.wt else if sort = "half" then s.hv else s.cp
def cnts (sort : Str) (b : List Sm) : Nat := if sort = "weight" then Sm.wts b else if sort = "half" then Sm.hvs b else Sm.cps b
def SrtW (sort : Str) : Prop := sort = "weight" ∨ sort = "half" ∨ sort = "less"
def own (sort : Str) (s : Sm) : Nat := if sort = "weight" then 1 else match s with
  | .ite t _ _ => if sort = "half" then (if t.isOdd then 1 else 0) else (if t.isOdd then 0 else 1)
  | .half _ _ => if sort = "half" then 1 else 0
  | _ => 0
def Sm.tms : Sm → Nat
  | .rep k _ => k
  | _ => 1
theorem cnt_own {sort : Str} (s : Sm) : cnt sort s = own sort s + ((s.blks.map (cnts sort)).sum) * s.tms := by
  unfold cnt own cnts
  by_cases h1 : sort = "weight"
  · simp only [if_pos h1]
    cases s <;> simp [Sm.wt, Sm.blks, Sm.tms, Nat.mul_comm]
  · simp only [if_neg h1]
    by_cases h2 : sort = "half"
    · simp only [if_pos h2]
      cases s <;> simp [Sm.hv, Sm.blks, Sm.tms, Nat.mul_comm]
    · simp only [if_neg h2]
      cases s <;> simp [Sm.cp, Sm.blks, Sm.tms, Nat.mul_comm]
theorem cnts_cons {sort : Str} (s : Sm) (r : List Sm) : cnts sort (s :: r) = cnt sort s + cnts sort r := by
  unfold cnts cnt
  by_cases h1 : sort = "weight"
  · simp only [if_pos h1, Sm.wts]
  · simp only [if_neg h1]
    by_cases h2 : sort = "half"
    · simp only [if_pos h2, Sm.hvs]
    · simp only [if_neg h2, Sm.cps]
theorem cnts_nil {sort : Str} : cnts sort [] = 0 := by
  unfold cnts
  split
  · simp only [Sm.wts]
  · split
    · simp only [Sm.hvs]
    · simp only [Sm.cps]
def Ts.base : Ts → Ts
  | .not t => t.base
  | t => t
theorem Ts.base_not : ∀ (t t0 : Ts), t.base ≠ .not t0
  | .less _ _, t0 => fun h => by cases h
  | .odd _, t0 => fun h => by cases h
  | .not t, t0 => Ts.base_not t t0
theorem Ts.base_odd : ∀ t : Ts, t.base.isOdd = t.isOdd
  | .less _ _ => rfl
  | .odd _ => rfl
  | .not t => Ts.base_odd t
def spBare : Sp := fun vs H Q _ => ∃ (v : V) (t : Ts), vs = [v] ∧ Tr H t.d v ∧ ∀ v', Tr H t.base.d v' → Q v' H
def spOwn : Sp := fun vs H Q _ => ∃ (v : V) (s : Sm) (sort : Str), vs = [v, .str sort] ∧ Tr H s.d v ∧ SrtW sort ∧ Q (.int (own sort s)) H
def spCounted (n : Nat) : Sp := fun vs H Q _ => ∃ (v : V) (b : List Sm) (sort : Str), vs = [v, .str sort] ∧ Tr H (.tuple (Sm.ds b)) v ∧ SrtW sort ∧ Sm.oks b ∧ b.length ≤ 1000000 ∧ Sm.pls b ≤ 1000000 ∧ Sm.nests b ≤ n ∧ ∀ H', Kp [] H H' → Q (.int (cnts sort b)) H'
def spWeight (n : Nat) : Sp := fun vs H Q _ => ∃ (v : V) (b : List Sm), vs = [v] ∧ Tr H (.tuple (Sm.ds b)) v ∧ Sm.oks b ∧ Sm.pls b ≤ 1000000 ∧ Sm.nests b ≤ n ∧ ∀ H', Kp [] H H' → Q (.int (Sm.wts b)) H'
def bndErr (b : List Sm) : Option Str :=
  if 24 < Sm.pls b then some "places" else if 60 < Sm.wts b then some "weight" else if 4 < Sm.hvs b then some "halvings" else if 3 < Sm.cps b then some "comparings" else none
def bndD : Option Str → PyData
  | none => .none
  | some w => .tuple [.none, .str w]
/-- what program_error tells of a value -/
inductive PErr : PyData → PyData → Prop
  | prog {d : PyData} (h : isTupB d = false) : PErr d (.tuple [.none, .str "program"])
  | ord {ds : List PyData} {p : Int} {w : Str} (h : ordErr ds = some (p, w)) : PErr (.tuple ds) (.tuple [.int p, .str w])
  | bnd {b : List Sm} (h : ordErr (Sm.ds b) = none) : PErr (.tuple (Sm.ds b)) (bndD (bndErr b))
def spPErr : Sp := fun vs H Q _ => ∃ (v : V) (d : PyData), vs = [v] ∧ Tr H d v ∧ Szd d ∧ dsz d ≤ 1000000 ∧ ∀ (t : V) (e : PyData) (H' : Hp), Tr H' e t → PErr d e → Kp [] H H' → Q t H'
/-! ### places play no part where choices go by their number -/
def NoP (dec : Nat → Int → Int → Int) : Prop := ∀ k v p q, dec k v p = dec k v q
theorem decC_noP (chs : List Int) : NoP (decC chs) := fun _ _ _ _ => rfl
theorem iterN_congr {f g : Cs → Option Str × Cs} (h : ∀ s, f s = g s) : ∀ (k : Nat) (s : Cs), iterN k f s = iterN k g s
  | 0, s => rfl
  | k + 1, s => by
    rw [iterN, iterN, h s]
    cases g s with
    | mk c s' =>
      cases c with
      | none => exact iterN_congr h k s'
      | some c => rfl
section
variable {dec : Nat → Int → Int → Int}
theorem halv_p (h : NoP dec) (s : Cs) (v p q : Int) : halv dec noWay s v p = halv dec noWay s v q := by
  unfold halv
  simp only [noWay]
  rw [h _ v p q]
mutual
theorem Sm.run_p (h : NoP dec) : ∀ (t : Sm) (p q : Int) (s : Cs), t.run dec noWay p s = t.run dec noWay q s
  | .ite t y n, p, q, s => by
    simp only [Sm.run]
    split
    · exact Sm.runs_p h y _ _ s
    · exact Sm.runs_p h n _ _ s
  | .rep k b, p, q, s => by
    simp only [Sm.run]
    exact iterN_congr (fun s => Sm.runs_p h b _ _ s) k s
  | .set x e, p, q, s => by simp only [Sm.run]
  | .half x e, p, q, s => by simp only [Sm.run, halv_p h s _ p q]
  | .tell e, p, q, s => by simp only [Sm.run]
  | .say c, p, q, s => by simp only [Sm.run]
  | .stop c, p, q, s => by simp only [Sm.run]
theorem Sm.runs_p (h : NoP dec) : ∀ (b : List Sm) (p q : Int) (s : Cs), Sm.runs dec noWay b p s = Sm.runs dec noWay b q s
  | [], p, q, s => by simp only [Sm.runs]
  | t :: r, p, q, s => by
    simp only [Sm.runs, Sm.run_p h t p q s]
    cases Sm.run dec noWay t q s with
    | mk c s' =>
      cases c with
      | none => exact Sm.runs_p h r _ _ s'
      | some c => rfl
end
theorem runs_app {ways : Int → Option Int} : ∀ (a b : List Sm) (p : Int) (s : Cs), Sm.runs dec ways (a ++ b) p s = match Sm.runs dec ways a p s with
    | (some c, s') => (some c, s')
    | (none, s') => Sm.runs dec ways b (p + (Sm.pls a : Int)) s'
  | [], b, p, s => by
    simp only [List.nil_append, Sm.runs, Sm.pls]
    rw [show p + ((0 : Nat) : Int) = p by omega]
  | t :: r, b, p, s => by
    simp only [List.cons_append, Sm.runs, Sm.pls]
    cases Sm.run dec ways t p s with
    | mk c s' =>
      cases c with
      | none =>
        show Sm.runs dec ways (r ++ b) (p + (t.pl : Int)) s' = match Sm.runs dec ways r (p + (t.pl : Int)) s' with
          | (some c, s') => (some c, s')
          | (none, s') => Sm.runs dec ways b (p + ((t.pl + Sm.pls r : Nat) : Int)) s'
        rw [runs_app r b]
        cases Sm.runs dec ways r (p + (t.pl : Int)) s' with
        | mk c2 s2 =>
          cases c2 with
          | none =>
            show Sm.runs dec ways b (p + (t.pl : Int) + (Sm.pls r : Int)) s2 = Sm.runs dec ways b (p + ((t.pl + Sm.pls r : Nat) : Int)) s2
            rw [show p + (t.pl : Int) + (Sm.pls r : Int) = p + ((t.pl + Sm.pls r : Nat) : Int) by omega]
          | some c2 => rfl
      | some c => rfl
end
/-- the same runs -/
def EqB (b b' : List Sm) : Prop := ∀ (chs : List Int) (p q : Int) (s : Cs), Sm.runs (decC chs) noWay b p s = Sm.runs (decC chs) noWay b' q s
theorem EqB.refl (b : List Sm) : EqB b b := fun chs p q s => Sm.runs_p (decC_noP chs) b p q s
theorem EqB.app {a a' b b' : List Sm} (h1 : EqB a a') (h2 : EqB b b') : EqB (a ++ b) (a' ++ b') := fun chs p q s => by
  rw [runs_app, runs_app, h1 chs p q s]
  cases Sm.runs (decC chs) noWay a' q s with
  | mk c s' =>
    cases c with
    | none => exact h2 chs _ _ s'
    | some c => rfl
theorem runs_one {dec : Nat → Int → Int → Int} {ways : Int → Option Int} (t : Sm) (p : Int) (s : Cs) : Sm.runs dec ways [t] p s = t.run dec ways p s := by
  simp only [Sm.runs]
  cases t.run dec ways p s with
  | mk c s' => cases c <;> rfl
theorem EqB.rep {b b' : List Sm} (h : EqB b b') (k : Nat) : EqB [.rep k b] [.rep k b'] := fun chs p q s => by
  rw [runs_one, runs_one]
  simp only [Sm.run]
  exact iterN_congr (fun s => h chs _ _ s) k s
theorem EqB.ite {t t' : Ts} {y y' n n' : List Sm} (ht : ∀ env, t'.ev env = t.ev env) (h1 : EqB y y') (h2 : EqB n n') : EqB [.ite t y n] [.ite t' y' n'] := fun chs p q s => by
  rw [runs_one, runs_one]
  simp only [Sm.run, ht]
  split
  · exact h1 chs _ _ s
  · exact h2 chs _ _ s
theorem EqB.turn {t t' : Ts} {y y' n n' : List Sm} (ht : ∀ env, t.ev env = !t'.ev env) (h1 : EqB y y') (h2 : EqB n n') : EqB [.ite t y n] [.ite t' n' y'] := fun chs p q s => by
  rw [runs_one, runs_one]
  simp only [Sm.run, ht]
  cases t'.ev s.env with
  | true => exact h2 chs _ _ s
  | false => exact h1 chs _ _ s
theorem EqB.stop (c : Str) (r : List Sm) : EqB [.stop c] (.stop c :: r) := fun chs p q s => by
  rw [runs_one]
  simp only [Sm.run, Sm.runs]
theorem EqB.set {x : Str} {e e' : Ex} (h : ∀ env, e'.ev env = e.ev env) : EqB [.set x e] [.set x e'] := fun chs p q s => by
  rw [runs_one, runs_one]
  simp only [Sm.run, h]
theorem EqB.half {x : Str} {e e' : Ex} (h : ∀ env, e'.ev env = e.ev env) : EqB [.half x e] [.half x e'] := fun chs p q s => by
  rw [runs_one, runs_one]
  simp only [Sm.run, h, halv_p (decC_noP chs) s _ p q]
theorem EqB.tell {e e' : Ex} (h : ∀ env, e'.ev env = e.ev env) : EqB [.tell e] [.tell e'] := fun chs p q s => by
  rw [runs_one, runs_one]
  simp only [Sm.run, h]
structure Oth (N : Nat) (b b' : List Sm) : Prop where
  eq : EqB b b'
  ok : Sm.oks b'
  nest : Sm.nests b' ≤ N
  wt : Sm.wts b' ≤ 2 * Sm.wts b
  pl : Sm.pls b' ≤ 2 ^ (N + 1) * Sm.pls b
theorem Oth.nil (N : Nat) : Oth N [] [] := ⟨EqB.refl _, by simp only [Sm.oks], by simp only [Sm.nests]; omega, by simp only [Sm.wts]; omega, by simp only [Sm.pls]; omega⟩
theorem Oth.app {N : Nat} {a a' b b' : List Sm} (h1 : Oth N a a') (h2 : Oth N b b') : Oth N (a ++ b) (a' ++ b') := by
  refine ⟨h1.eq.app h2.eq, Sm.oks_app h1.ok h2.ok, ?_, ?_, ?_⟩
  · have := Sm.nests_app a' b'
    have := h1.nest
    have := h2.nest
    omega
  · rw [Sm.wts_app, Sm.wts_app]
    have := h1.wt
    have := h2.wt
    omega
  · rw [Sm.pls_app, Sm.pls_app, Nat.mul_add]
    exact Nat.add_le_add h1.pl h2.pl
theorem two_le (N : Nat) : 2 ≤ 2 ^ (N + 1) := by
  have : 1 ≤ 2 ^ N := Nat.one_le_pow _ _ (by decide)
  rw [Nat.pow_succ]
  omega
theorem Oth.one {N : Nat} {s s' : Sm} (he : EqB [s] [s']) (ho : s'.ok) (hn : s'.nest ≤ N) (hw : s'.wt ≤ 2 * s.wt) (hp : s'.pl ≤ 2 ^ (N + 1) * s.pl) : Oth N [s] [s'] := by
  refine ⟨he, by simp only [Sm.oks]; exact ⟨ho, trivial⟩, ?_, ?_, ?_⟩
  · simp only [Sm.nests]; omega
  · simp only [Sm.wts]; omega
  · simp only [Sm.pls, Nat.add_zero]; exact hp
theorem Oth.stop {N : Nat} {c : Str} (h : (Sm.stop c).ok) {j : Nat} (hj : j ≤ 1) : Oth N [.stop c] (.stop c :: List.replicate j (.say "never")) := by
  have nev : (Sm.say "never").ok := by simp only [Sm.ok]; exact ⟨by decide +kernel, by decide +kernel⟩
  have t2 := two_le N
  rcases (show j = 0 ∨ j = 1 by omega) with rfl | rfl
  · refine ⟨EqB.stop c _, by simp only [List.replicate_zero, Sm.oks]; exact ⟨h, trivial⟩, ?_, ?_, ?_⟩
    · simp only [List.replicate_zero, Sm.nests, Sm.nest]; omega
    · simp only [List.replicate_zero, Sm.wts, Sm.wt]; omega
    · simp only [List.replicate_zero, Sm.pls, Sm.pl]; omega
  · refine ⟨EqB.stop c _, by simp only [List.replicate_one, Sm.oks]; exact ⟨h, nev, trivial⟩, ?_, ?_, ?_⟩
    · simp only [List.replicate_one, Sm.nests, Sm.nest]; omega
    · simp only [List.replicate_one, Sm.wts, Sm.wt]; omega
    · simp only [List.replicate_one, Sm.pls, Sm.pl]; omega
theorem Oth.rep {N : Nat} {b b' : List Sm} (h : Oth N b b') {k : Nat} (hk : k ≤ 8) : Oth (N + 1) [.rep k b] [.rep k b'] := by
  have := h.nest
  have hw := h.wt
  have hp := h.pl
  refine Oth.one (h.eq.rep k) (by simp only [Sm.ok]; exact ⟨hk, h.ok⟩) (by simp only [Sm.nest]; omega) ?_ ?_
  · simp only [Sm.wt]
    have : k * Sm.wts b' ≤ k * (2 * Sm.wts b) := Nat.mul_le_mul_left _ hw
    rw [Nat.mul_left_comm] at this
    omega
  · have t2 := two_le (N + 1)
    simp only [Sm.pl]
    rw [Nat.mul_add, Nat.mul_one]
    have : 2 ^ (N + 1) * Sm.pls b ≤ 2 ^ (N + 1 + 1) * Sm.pls b := Nat.mul_le_mul_right _ (Nat.pow_le_pow_right (by decide) (by omega))
    omega
theorem Oth.ite {N : Nat} {t t' : Ts} {y y' n n' : List Sm} (ht : ∀ env, t'.ev env = t.ev env) (to : t'.ok) (tn : t'.nots ≤ 2) (h1 : Oth N y y') (h2 : Oth N n n') : Oth (N + 1) [.ite t y n] [.ite t' y' n'] := by
  have a1 := h1.nest; have a2 := h2.nest; have b1 := h1.wt; have b2 := h2.wt; have c1 := h1.pl; have c2 := h2.pl
  refine Oth.one (EqB.ite ht h1.eq h2.eq) (by simp only [Sm.ok]; exact ⟨to, tn, h1.ok, h2.ok⟩) (by simp only [Sm.nest]; omega) (by simp only [Sm.wt]; omega) ?_
  have t2 := two_le (N + 1)
  simp only [Sm.pl]
  rw [Nat.mul_add, Nat.mul_one, Nat.mul_add]
  have e1 : 2 ^ (N + 1) * Sm.pls y ≤ 2 ^ (N + 1 + 1) * Sm.pls y := Nat.mul_le_mul_right _ (Nat.pow_le_pow_right (by decide) (by omega))
  have e2 : 2 ^ (N + 1) * Sm.pls n ≤ 2 ^ (N + 1 + 1) * Sm.pls n := Nat.mul_le_mul_right _ (Nat.pow_le_pow_right (by decide) (by omega))
  omega
theorem Oth.turn {N : Nat} {t t' : Ts} {y y' n n' : List Sm} (ht : ∀ env, t.ev env = !t'.ev env) (to : t'.ok) (tn : t'.nots ≤ 2) (h1 : Oth N y y') (h2 : Oth N n n') : Oth (N + 1) [.ite t y n] [.ite t' n' y'] := by
  have a1 := h1.nest; have a2 := h2.nest; have b1 := h1.wt; have b2 := h2.wt; have c1 := h1.pl; have c2 := h2.pl
  refine Oth.one (EqB.turn ht h1.eq h2.eq) (by simp only [Sm.ok]; exact ⟨to, tn, h2.ok, h1.ok⟩) (by simp only [Sm.nest]; omega) (by simp only [Sm.wt]; omega) ?_
  have t2 := two_le (N + 1)
  simp only [Sm.pl]
  rw [Nat.mul_add, Nat.mul_one, Nat.mul_add]
  have e1 : 2 ^ (N + 1) * Sm.pls y ≤ 2 ^ (N + 1 + 1) * Sm.pls y := Nat.mul_le_mul_right _ (Nat.pow_le_pow_right (by decide) (by omega))
  have e2 : 2 ^ (N + 1) * Sm.pls n ≤ 2 ^ (N + 1 + 1) * Sm.pls n := Nat.mul_le_mul_right _ (Nat.pow_le_pow_right (by decide) (by omega))
  omega
theorem Oth.plain {N : Nat} {s s' : Sm} (he : EqB [s] [s']) (ho : s'.ok) (h1 : s.plain) (h2 : s'.plain) : Oth N [s] [s'] := by
  have t2 := two_le N
  refine Oth.one he ho ?_ ?_ ?_
  · cases s' <;> simp only [Sm.nest] <;> first | omega | exact h2.elim
  · cases s <;> cases s' <;> simp only [Sm.wt] <;> first | omega | exact h1.elim | exact h2.elim
  · cases s <;> cases s' <;> simp only [Sm.pl] <;> first | omega | exact h1.elim | exact h2.elim
/-! ### sums turned about -/
inductive Nd where
  | e (x : Ex) | t (x : Ts)
def Nd.d : Nd → PyData
  | .e x => x.d
  | .t x => x.d
def Nd.ok (n : Nat) : Nd → Prop
  | .e x => x.ok ∧ x.deep ≤ n
  | .t x => x.ok ∧ x.nots + 4 ≤ n
inductive Nd.to : Nd → Nd → Prop
  | e {x y : Ex} (o : y.ok) (d : y.deep ≤ x.deep) (h : ∀ env, y.ev env = x.ev env) : Nd.to (.e x) (.e y)
  | t {x y : Ts} (o : y.ok) (d : y.nots = x.nots) (h : ∀ env, y.ev env = x.ev env) : Nd.to (.t x) (.t y)
inductive Nds : List Nd → List Nd → Prop
  | nil : Nds [] []
  | cons {x y : Nd} {l r : List Nd} (h : x.to y) (t : Nds l r) : Nds (x :: l) (y :: r)
theorem Nds.snoc {l r : List Nd} {x y : Nd} (h : Nds l r) (t : x.to y) : Nds (l ++ [x]) (r ++ [y]) := by
  induction h with
  | nil => exact .cons t .nil
  | cons h _ ih => exact .cons h ih
end EH
namespace EH
open PySem PySem.Spec PyProof.Rows L2
/-! ### sorted of a tuple of data, x in a list of data, repr of a list -/
section
variable {X : Cx}
def rReprLs : List V → Hp → VK → Prop := fun xs H Q => ∃ a vs ds, xs = [.ref a] ∧ H a = some (.lst vs) ∧ TrAll H ds vs ∧ Shw (.list ds) ∧ ∀ z, z = (PyData.list ds).shown → Q (.str z) H
theorem call_reprLs (fr : Free X.A) (hu : X.A.units + 64 < cLine) : CallR X (.builtin "repr") rReprLs := CallR.imp (call_reprD fr hu) fun xs H Q ⟨a, vs, ds, e, h, t, s, q⟩ => ⟨.ref a, .list ds, e, .lst (SqL.of h) (TrAll.dp ds vs t), s.sh, s.sz, s.dp, q _ rfl⟩
end
/-! ### sorted of anything that can be collected: data -/
section
variable {X : Cx}
/-- data that can be sorted; one alone always -/
def Srt (ds : List PyData) : Prop := PySem.W.Sortable ds ∨ (ds.length ≤ 1 ∧ ∀ d ∈ ds, d ≠ .none)
/-- the data of a key -/
def keyD (k : List Key) : PyData := .tuple (k.map kD)
end
/-! ### tuple * int, any number from 0 on -/
section
variable {X : Cx}
end
end EH
namespace EH
open PySem L2
/-- a run as runs_on tells it -/
def runD (r : Option Str × Cs) : PyData := .tuple [.tuple (r.2.turns.map PyData.int), .tuple (r.2.said.map kD), wD r.1]
section
variable {ways : Int → Option Int} {b : List Sm} {n : Int} {k : Nat}
theorem Chn.len (o : Sm.oks b) (hv : Sm.hvs b ≤ 8) {Rs : List (Option Str × Cs)} {c : Option (List Int)} (h : Chn ways b n Rs c) : Rs.length ≤ 256 := by
  have := (h.ok (k := 8) o hv).len o hv
  have e : (2 : Int) ^ 8 = 256 := by decide
  omega
end
/-! ### programs can be shown -/
structure Sw (d : PyData) (W D : Nat) : Prop where
  sh : d.showable = true
  ls : d.leavesShort 13 = true
  wt : d.weight ≤ W
  dp : d.depth ≤ D
structure Sws (ds : List PyData) (W D : Nat) : Prop where
  sh : PyData.showableAll ds = true
  ls : PyData.leavesShortAll 13 ds = true
  wt : PyData.weightAll ds ≤ W
  dp : PyData.depthAll ds ≤ D
theorem Sw.mono {d : PyData} {W D W' D' : Nat} (h : Sw d W D) (a : W ≤ W') (b : D ≤ D') : Sw d W' D' := ⟨h.sh, h.ls, Nat.le_trans h.wt a, Nat.le_trans h.dp b⟩
theorem Sws.mono {d : List PyData} {W D W' D' : Nat} (h : Sws d W D) (a : W ≤ W') (b : D ≤ D') : Sws d W' D' := ⟨h.sh, h.ls, Nat.le_trans h.wt a, Nat.le_trans h.dp b⟩
theorem sws_nil : Sws [] 0 0 := ⟨by simp only [PyData.showableAll], by simp only [PyData.leavesShortAll], by simp only [PyData.weightAll]; exact Nat.le_refl _, by simp only [PyData.depthAll]; exact Nat.le_refl _⟩
theorem sws_cons {d : PyData} {ds : List PyData} {W D W' : Nat} (h : Sw d W D) (t : Sws ds W' D) : Sws (d :: ds) (W + 1 + W') D := by
  obtain ⟨h1, h2, h3, h4⟩ := h
  obtain ⟨t1, t2, t3, t4⟩ := t
  refine ⟨by simp only [PyData.showableAll, h1, t1]; rfl, by simp only [PyData.leavesShortAll, h2, t2]; rfl, ?_, ?_⟩
  · simp only [PyData.weightAll]; omega
  · simp only [PyData.depthAll]; omega
theorem sw_tup {ds : List PyData} {W D : Nat} (t : Sws ds W D) : Sw (.tuple ds) (W + 1) (D + 1) := by
  obtain ⟨t1, t2, t3, t4⟩ := t
  refine ⟨by simp only [PyData.showable, t1], by simp only [PyData.leavesShort, t2], ?_, ?_⟩
  · simp only [PyData.weight]; omega
  · simp only [PyData.depth]; omega
theorem sw_int {i : Int} (h : i.natAbs < 1000) : Sw (.int i) 20 0 := by
  have hl : i.natAbs.log2 ≤ 10 := by
    by_cases z : i.natAbs = 0
    · rw [z]; decide
    · exact Nat.le_of_lt_succ ((Nat.log2_lt z).mpr (by have : (2:Nat) ^ 11 = 2048 := by decide
                                                       omega))
  refine ⟨?_, ?_, ?_, ?_⟩
  · simp only [PyData.showable, decide_eq_true_eq]; omega
  · simp only [PyData.leavesShort, decide_eq_true_eq]
    have e := int_text_length_le10 (a := i) (k := 12) (by decide) (Nat.lt_of_lt_of_le h (by decide))
    show (Str.ofString (toString i)).length ≤ 13
    rw [ofString_length]
    exact e
  · simp only [PyData.weight]
    split <;> omega
  · simp only [PyData.depth]; exact Nat.le_refl _
theorem sw_str {c : Str} {n : Nat} (h : PyData.strOk c = true ∧ c.length ≤ n) : Sw (.str c) n 0 := by
  refine ⟨by simp only [PyData.showable], ?_, ?_, ?_⟩
  · exact PyData.leavesShort_of_canLay0 13 (.str c) (by simp only [PyData.canLay0]; exact h.1) (by simp only [PyData.intsShort])
  · simp only [PyData.weight]; exact h.2
  · simp only [PyData.depth]; exact Nat.le_refl _
theorem Sw.shw {d : PyData} {W D : Nat} (h : Sw d W D) (hw : W ≤ 1000000) (hd : D ≤ 60) : Shw d := by
  refine ⟨h.sh, Nat.le_trans (PyData.shown_le 13 (by decide) d h.ls) ?_, Nat.le_trans h.dp hd⟩
  have := h.wt
  have : (15 : Nat) * d.weight + 13 ≤ 16777216 := by omega
  exact Nat.le_trans this (by decide +kernel)
theorem sw_kw (x : Str) (h : PyData.strOk x = true ∧ x.length ≤ 6) : Sw (.str x) 6 0 := sw_str h
def exW : Nat → Nat
  | 0 => 1000
  | n + 1 => 2 * exW n + 40
theorem exW_ge : ∀ n, 1000 ≤ exW n
  | 0 => Nat.le_refl _
  | n + 1 => by have := exW_ge n; simp only [exW]; omega
theorem Ex.sw : ∀ {e : Ex} (n : Nat), e.ok → e.deep ≤ n + 1 → Sw e.d (exW n) n
  | .num i, n, h, _ => by
    have h : -99 ≤ i ∧ i ≤ 99 := h
    have := exW_ge n
    exact (sw_int (by omega)).mono (by omega) (Nat.zero_le _)
  | .var x, n, h, _ => (sw_str h).mono (exW_ge n) (Nat.zero_le _)
  | .plus a b, 0, h, d => absurd (show max a.deep b.deep + 1 ≤ 1 from d) (by have := a.deep_pos; omega)
  | .plus a b, n + 1, h, d => by
    have d : max a.deep b.deep + 1 ≤ n + 1 + 1 := d
    have ha := Ex.sw n (show a.ok ∧ b.ok from h).1 (by omega)
    have hb := Ex.sw n (show a.ok ∧ b.ok from h).2 (by omega)
    exact (sw_tup (sws_cons ((sw_kw "plus" (by decide +kernel)).mono (Nat.le_refl _) (Nat.zero_le _)) (sws_cons ha (sws_cons hb (sws_nil.mono (Nat.le_refl _) (Nat.zero_le _)))))).mono (by simp only [exW]; omega) (Nat.le_refl _)
  | .minus a b, 0, h, d => absurd (show max a.deep b.deep + 1 ≤ 1 from d) (by have := a.deep_pos; omega)
  | .minus a b, n + 1, h, d => by
    have d : max a.deep b.deep + 1 ≤ n + 1 + 1 := d
    have ha := Ex.sw n (show a.ok ∧ b.ok from h).1 (by omega)
    have hb := Ex.sw n (show a.ok ∧ b.ok from h).2 (by omega)
    exact (sw_tup (sws_cons ((sw_kw "minus" (by decide +kernel)).mono (Nat.le_refl _) (Nat.zero_le _)) (sws_cons ha (sws_cons hb (sws_nil.mono (Nat.le_refl _) (Nat.zero_le _)))))).mono (by simp only [exW]; omega) (Nat.le_refl _)
  | .times k a, 0, h, d => absurd (show a.deep + 1 ≤ 1 from d) (by have := a.deep_pos; omega)
  | .times k a, n + 1, h, d => by
    have d : a.deep + 1 ≤ n + 1 + 1 := d
    obtain ⟨h1, h2, h3⟩ := (show -9 ≤ k ∧ k ≤ 9 ∧ a.ok from h)
    have ha := Ex.sw n h3 (by omega)
    have := exW_ge n
    exact (sw_tup (sws_cons ((sw_kw "times" (by decide +kernel)).mono (Nat.le_refl _) (Nat.zero_le _)) (sws_cons ((sw_int (i := k) (by omega)).mono (Nat.le_refl _) (Nat.zero_le _)) (sws_cons ha (sws_nil.mono (Nat.le_refl _) (Nat.zero_le _)))))).mono (by simp only [exW]; omega) (Nat.le_refl _)
theorem Ex.sw3 {e : Ex} (h : e.ok) (d : e.deep ≤ 3) : Sw e.d 4200 2 := (Ex.sw 2 h d).mono (by decide) (Nat.le_refl _)
theorem Ts.sw : ∀ {t : Ts}, t.ok → Sw t.d (8420 + 20 * t.nots) (3 + t.nots)
  | .less a b, h => by
    obtain ⟨⟨o1, d1⟩, o2, d2⟩ := (show (a.ok ∧ a.deep ≤ 3) ∧ b.ok ∧ b.deep ≤ 3 from h)
    exact (sw_tup (sws_cons ((sw_kw "less" (by decide +kernel)).mono (Nat.le_refl _) (Nat.zero_le _)) (sws_cons (Ex.sw3 o1 d1) (sws_cons (Ex.sw3 o2 d2) (sws_nil.mono (Nat.le_refl _) (Nat.zero_le _)))))).mono (by simp only [Ts.nots]; omega) (by simp only [Ts.nots]; omega)
  | .odd a, h => by
    obtain ⟨o1, d1⟩ := (show a.ok ∧ a.deep ≤ 3 from h)
    exact (sw_tup (sws_cons ((sw_kw "odd" (by decide +kernel)).mono (Nat.le_refl _) (Nat.zero_le _)) (sws_cons (Ex.sw3 o1 d1) (sws_nil.mono (Nat.le_refl _) (Nat.zero_le _))))).mono (by simp only [Ts.nots]; omega) (by simp only [Ts.nots]; omega)
  | .not t, h => by
    have ih := Ts.sw (t := t) h
    exact (sw_tup (sws_cons ((sw_kw "not" (by decide +kernel)).mono (Nat.le_refl _) (Nat.zero_le _)) (sws_cons ih (sws_nil.mono (Nat.le_refl _) (Nat.zero_le _))))).mono (by simp only [Ts.nots]; omega) (by simp only [Ts.nots]; omega)
mutual
theorem Sm.sw : ∀ {s : Sm}, s.ok → Sw s.d (9000 * s.pl - 1) (6 + 2 * s.nest)
  | .ite t y n, h => by
    simp only [Sm.ok] at h
    have ht := Ts.sw h.1
    have hy := sw_tup (Sm.sws h.2.2.1)
    have hn := sw_tup (Sm.sws h.2.2.2)
    simp only [Sm.d, Sm.pl, Sm.nest]
    exact (sw_tup (D := 5 + 2 * (max (Sm.nests y) (Sm.nests n) + 1)) (sws_cons ((sw_kw "if" (by decide +kernel)).mono (Nat.le_refl _) (Nat.zero_le _)) (sws_cons (ht.mono (Nat.le_refl _) (by omega)) (sws_cons (hy.mono (Nat.le_refl _) (by omega)) (sws_cons (hn.mono (Nat.le_refl _) (by omega)) (sws_nil.mono (Nat.le_refl _) (Nat.zero_le _))))))).mono (by omega) (by omega)
  | .rep k b, h => by
    simp only [Sm.ok] at h
    have hb := sw_tup (Sm.sws h.2)
    simp only [Sm.d, Sm.pl, Sm.nest]
    exact (sw_tup (D := 5 + 2 * (Sm.nests b + 1)) (sws_cons ((sw_kw "repeat" (by decide +kernel)).mono (Nat.le_refl _) (Nat.zero_le _)) (sws_cons ((sw_int (i := (k : Int)) (by omega)).mono (Nat.le_refl _) (Nat.zero_le _)) (sws_cons (hb.mono (Nat.le_refl _) (by omega)) (sws_nil.mono (Nat.le_refl _) (Nat.zero_le _)))))).mono (by omega) (by omega)
  | .set x e, h => by
    simp only [Sm.ok] at h
    simp only [Sm.d, Sm.pl, Sm.nest]
    exact (sw_tup (sws_cons ((sw_kw "set" (by decide +kernel)).mono (Nat.le_refl _) (Nat.zero_le _)) (sws_cons ((sw_str h.2).mono (Nat.le_refl _) (Nat.zero_le _)) (sws_cons (Ex.sw3 h.1.1 h.1.2) (sws_nil.mono (Nat.le_refl _) (Nat.zero_le _)))))).mono (by omega) (by omega)
  | .half x e, h => by
    simp only [Sm.ok] at h
    simp only [Sm.d, Sm.pl, Sm.nest]
    exact (sw_tup (sws_cons ((sw_kw "half" (by decide +kernel)).mono (Nat.le_refl _) (Nat.zero_le _)) (sws_cons ((sw_str h.2).mono (Nat.le_refl _) (Nat.zero_le _)) (sws_cons (Ex.sw3 h.1.1 h.1.2) (sws_nil.mono (Nat.le_refl _) (Nat.zero_le _)))))).mono (by omega) (by omega)
  | .tell e, h => by
    simp only [Sm.ok] at h
    simp only [Sm.d, Sm.pl, Sm.nest]
    exact (sw_tup (sws_cons ((sw_kw "tell" (by decide +kernel)).mono (Nat.le_refl _) (Nat.zero_le _)) (sws_cons (Ex.sw3 h.1 h.2) (sws_nil.mono (Nat.le_refl _) (Nat.zero_le _))))).mono (by omega) (by omega)
  | .say c, h => by
    simp only [Sm.ok] at h
    simp only [Sm.d, Sm.pl, Sm.nest]
    exact (sw_tup (D := 0) (sws_cons (sw_kw "say" (by decide +kernel)) (sws_cons (sw_str h) sws_nil))).mono (by omega) (by omega)
  | .stop c, h => by
    simp only [Sm.ok] at h
    simp only [Sm.d, Sm.pl, Sm.nest]
    exact (sw_tup (D := 0) (sws_cons (sw_kw "stop" (by decide +kernel)) (sws_cons (sw_str h) sws_nil))).mono (by omega) (by omega)
theorem Sm.sws : ∀ {b : List Sm}, Sm.oks b → Sws (Sm.ds b) (9000 * Sm.pls b) (6 + 2 * Sm.nests b)
  | [], _ => by simp only [Sm.ds]; exact sws_nil.mono (Nat.zero_le _) (Nat.zero_le _)
  | s :: r, h => by
    simp only [Sm.oks] at h
    have h1 := Sm.sw h.1
    have h2 := Sm.sws h.2
    have := s.pl_pos
    simp only [Sm.ds, Sm.pls, Sm.nests]
    exact (sws_cons (h1.mono (Nat.le_refl _) (show 6 + 2 * s.nest ≤ 6 + 2 * max s.nest (Sm.nests r) by omega)) (h2.mono (Nat.le_refl _) (by omega))).mono (by omega) (Nat.le_refl _)
end
theorem prog_sw {b : List Sm} (p : PrOk b) : Sw (.tuple (Sm.ds b)) 216001 15 := by
  have := p.pl
  have := p.nest
  exact (sw_tup (Sm.sws p.ok)).mono (by omega) (by omega)
/-! ### what the law itself asks of right statements -/
/-! what the counts are -/
def oc : Sm → Nat
  | .ite t _ _ => if t.isOdd then 0 else 1
  | _ => 0
theorem base_not (t : Ts) : (Ts.not t).base = t.base := rfl
theorem tup_inj2 {a b c d : PyData} (h : PyData.tuple [a, b] = .tuple [c, d]) : a = c ∧ b = d := by
  have h := PyData.tuple.inj h
  exact ⟨(List.cons.inj h).1, (List.cons.inj (List.cons.inj h).2).1⟩
theorem tup_inj3 {a b c d e f : PyData} (h : PyData.tuple [a, b, c] = .tuple [d, e, f]) : a = d ∧ b = e ∧ c = f := by
  have h := PyData.tuple.inj h
  have h2 := List.cons.inj h
  have h3 := List.cons.inj h2.2
  exact ⟨h2.1, h3.1, (List.cons.inj h3.2).1⟩
theorem tup_inj4 {a b c d e f g i : PyData} (h : PyData.tuple [a, b, c, d] = .tuple [e, f, g, i]) : a = e ∧ b = f ∧ c = g ∧ d = i := by
  have h := PyData.tuple.inj h
  have h2 := List.cons.inj h
  have h3 := List.cons.inj h2.2
  have h4 := List.cons.inj h3.2
  exact ⟨h2.1, h3.1, h4.1, (List.cons.inj h4.2).1⟩
theorem kw_ne {a b : Str} {r s : List PyData} (n : a ≠ b) (h : PyData.tuple (.str a :: r) = .tuple (.str b :: s)) : False := n (PyData.str.inj (List.cons.inj (PyData.tuple.inj h)).1)
theorem Ex.d_inj : ∀ a b : Ex, a.d = b.d → a = b := by
  intro a
  induction a with
  | num i => intro b h; cases b <;> simp only [Ex.d] at h <;> first | (cases h; done) | (cases h; rfl)
  | var i => intro b h; cases b <;> simp only [Ex.d] at h <;> first | (cases h; done) | (cases h; rfl)
  | plus x y ix iy =>
    intro b h
    cases b with
    | num i => simp only [Ex.d] at h; cases h
    | var i => simp only [Ex.d] at h; cases h
    | plus x' y' =>
      simp only [Ex.d] at h
      obtain ⟨_, h1, h2⟩ := tup_inj3 h
      rw [ix _ h1, iy _ h2]
    | minus x' y' => simp only [Ex.d] at h; exact (kw_ne (by decide +kernel) h).elim
    | times x' y' => simp only [Ex.d] at h; exact (kw_ne (by decide +kernel) h).elim
  | minus x y ix iy =>
    intro b h
    cases b with
    | num i => simp only [Ex.d] at h; cases h
    | var i => simp only [Ex.d] at h; cases h
    | minus x' y' =>
      simp only [Ex.d] at h
      obtain ⟨_, h1, h2⟩ := tup_inj3 h
      rw [ix _ h1, iy _ h2]
    | plus x' y' => simp only [Ex.d] at h; exact (kw_ne (by decide +kernel) h).elim
    | times x' y' => simp only [Ex.d] at h; exact (kw_ne (by decide +kernel) h).elim
  | times x y iy =>
    intro b h
    cases b with
    | num i => simp only [Ex.d] at h; cases h
    | var i => simp only [Ex.d] at h; cases h
    | times x' y' =>
      simp only [Ex.d] at h
      obtain ⟨_, h1, h2⟩ := tup_inj3 h
      rw [PyData.int.inj h1, iy _ h2]
    | plus x' y' => simp only [Ex.d] at h; exact (kw_ne (by decide +kernel) h).elim
    | minus x' y' => simp only [Ex.d] at h; exact (kw_ne (by decide +kernel) h).elim
theorem Ts.d_inj : ∀ a b : Ts, a.d = b.d → a = b := by
  intro a
  induction a with
  | less x y =>
    intro b h
    cases b with
    | less x' y' =>
      simp only [Ts.d] at h
      obtain ⟨_, h1, h2⟩ := tup_inj3 h
      rw [Ex.d_inj _ _ h1, Ex.d_inj _ _ h2]
    | odd x' => simp only [Ts.d] at h; exact (kw_ne (by decide +kernel) h).elim
    | not x' => simp only [Ts.d] at h; exact (kw_ne (by decide +kernel) h).elim
  | odd x =>
    intro b h
    cases b with
    | odd x' =>
      simp only [Ts.d] at h
      obtain ⟨_, h1⟩ := tup_inj2 h
      rw [Ex.d_inj _ _ h1]
    | less x' y' => simp only [Ts.d] at h; exact (kw_ne (by decide +kernel) h).elim
    | not x' => simp only [Ts.d] at h; exact (kw_ne (by decide +kernel) h).elim
  | not x ih =>
    intro b h
    cases b with
    | not x' =>
      simp only [Ts.d] at h
      obtain ⟨_, h1⟩ := tup_inj2 h
      rw [ih _ h1]
    | less x' y' => simp only [Ts.d] at h; exact (kw_ne (by decide +kernel) h).elim
    | odd x' => simp only [Ts.d] at h; exact (kw_ne (by decide +kernel) h).elim
mutual
theorem Sm.d_inj : ∀ a b : Sm, a.d = b.d → a = b
  | .set x e, b, h => by
    cases b <;> simp only [Sm.d] at h <;> first | exact (kw_ne (by decide +kernel) h).elim | (obtain ⟨_, h1, h2⟩ := tup_inj3 h; rw [PyData.str.inj h1, Ex.d_inj _ _ h2])
  | .half x e, b, h => by
    cases b <;> simp only [Sm.d] at h <;> first | exact (kw_ne (by decide +kernel) h).elim | (obtain ⟨_, h1, h2⟩ := tup_inj3 h; rw [PyData.str.inj h1, Ex.d_inj _ _ h2])
  | .tell e, b, h => by
    cases b <;> simp only [Sm.d] at h <;> first | exact (kw_ne (by decide +kernel) h).elim | (obtain ⟨_, h1⟩ := tup_inj2 h; rw [Ex.d_inj _ _ h1])
  | .say e, b, h => by
    cases b <;> simp only [Sm.d] at h <;> first | exact (kw_ne (by decide +kernel) h).elim | (obtain ⟨_, h1⟩ := tup_inj2 h; rw [PyData.str.inj h1])
  | .stop e, b, h => by
    cases b <;> simp only [Sm.d] at h <;> first | exact (kw_ne (by decide +kernel) h).elim | (obtain ⟨_, h1⟩ := tup_inj2 h; rw [PyData.str.inj h1])
  | .ite t y n, b, h => by
    cases b with
    | ite t' y' n' =>
      simp only [Sm.d] at h
      obtain ⟨_, h1, h2, h3⟩ := tup_inj4 h
      rw [Ts.d_inj _ _ h1, Sm.ds_inj y y' (PyData.tuple.inj h2), Sm.ds_inj n n' (PyData.tuple.inj h3)]
    | set _ _ => simp only [Sm.d] at h; exact (kw_ne (by decide +kernel) h).elim
    | half _ _ => simp only [Sm.d] at h; exact (kw_ne (by decide +kernel) h).elim
    | tell _ => simp only [Sm.d] at h; exact (kw_ne (by decide +kernel) h).elim
    | say _ => simp only [Sm.d] at h; exact (kw_ne (by decide +kernel) h).elim
    | stop _ => simp only [Sm.d] at h; exact (kw_ne (by decide +kernel) h).elim
    | rep _ _ => simp only [Sm.d] at h; exact (kw_ne (by decide +kernel) h).elim
  | .rep k y, b, h => by
    cases b with
    | rep k' y' =>
      simp only [Sm.d] at h
      obtain ⟨_, h1, h2⟩ := tup_inj3 h
      rw [Int.ofNat.inj (PyData.int.inj h1), Sm.ds_inj y y' (PyData.tuple.inj h2)]
    | set _ _ => simp only [Sm.d] at h; exact (kw_ne (by decide +kernel) h).elim
    | half _ _ => simp only [Sm.d] at h; exact (kw_ne (by decide +kernel) h).elim
    | tell _ => simp only [Sm.d] at h; exact (kw_ne (by decide +kernel) h).elim
    | say _ => simp only [Sm.d] at h; exact (kw_ne (by decide +kernel) h).elim
    | stop _ => simp only [Sm.d] at h; exact (kw_ne (by decide +kernel) h).elim
    | ite _ _ _ => simp only [Sm.d] at h; exact (kw_ne (by decide +kernel) h).elim
theorem Sm.ds_inj : ∀ a b : List Sm, Sm.ds a = Sm.ds b → a = b
  | [], [], _ => rfl
  | [], s :: r, h => by simp only [Sm.ds] at h; cases h
  | s :: r, [], h => by simp only [Sm.ds] at h; cases h
  | s :: r, s' :: r', h => by
    simp only [Sm.ds] at h
    have h := List.cons.inj h
    rw [Sm.d_inj s s' h.1, Sm.ds_inj r r' h.2]
end
theorem PErr.one {d e e' : PyData} (h : PErr d e) (g : PErr d e') : e = e' := by
  cases h with
  | prog h => 
    cases g with
    | prog _ => rfl
    | ord h2 => cases h
    | bnd h2 => cases h
  | ord h1 =>
    generalize eD : PyData.tuple _ = D at g
    cases g with
    | prog h => subst eD; cases h
    | ord h2 => cases eD; rw [h1] at h2; cases h2; rfl
    | bnd h2 => cases eD; rw [h1] at h2; cases h2
  | bnd h1 =>
    generalize eD : PyData.tuple _ = D at g
    cases g with
    | prog h => subst eD; cases h
    | ord h2 => cases eD; rw [h1] at h2; cases h2
    | bnd h2 => rw [Sm.ds_inj _ _ (PyData.tuple.inj eD)]
/-- right statements, all through -/
inductive VS : Sm → Prop
  | mk {s : Sm} : stmtB s.d = true → (∀ s' ∈ s.inn, VS s') → VS s
def VD (d : PyData) : Prop := ∃ s : Sm, d = s.d ∧ VS s
theorem VD.items {d e : PyData} (h : VD d) (m : e ∈ bitems d) : VD e := by
  obtain ⟨s, rfl, h⟩ := h
  cases h with
  | mk _ h2 =>
    rw [Sm.bitems_inn, Sm.ds_map] at m
    obtain ⟨s', hs, rfl⟩ := List.mem_map.mp m
    exact ⟨s', rfl, h2 s' hs⟩
section
variable {X : Cx}
end
theorem nests_take : ∀ (b : List Sm) (n : Nat), Sm.nests (b.take n) ≤ Sm.nests b
  | [], n => by rw [List.take_nil]; exact Nat.le_refl _
  | s :: r, 0 => by simp only [List.take_zero, Sm.nests]; omega
  | s :: r, n + 1 => by
    have := nests_take r n
    simp only [List.take_succ_cons, Sm.nests]
    omega
theorem oks_take : ∀ {b : List Sm} (n : Nat), Sm.oks b → Sm.oks (b.take n)
  | [], n, _ => by rw [List.take_nil]; simp only [Sm.oks]
  | s :: r, 0, _ => by simp only [List.take_zero, Sm.oks]
  | s :: r, n + 1, h => by
    simp only [Sm.oks] at h
    simp only [List.take_succ_cons, Sm.oks]
    exact ⟨h.1, oks_take n h.2⟩
theorem PrOk.take {b : List Sm} (h : PrOk b) (n : Nat) : PrOk (b.take n) := by
  have e : b.take n ++ b.drop n = b := List.take_append_drop n b
  have e1 := Sm.pls_app (b.take n) (b.drop n)
  have e2 := Sm.wts_app (b.take n) (b.drop n)
  have e3 := Sm.hvs_app (b.take n) (b.drop n)
  have e4 := Sm.cps_app (b.take n) (b.drop n)
  rw [e] at e1 e2 e3 e4
  have h1 := h.pl; have h2 := h.wt; have h3 := h.hv; have h4 := h.cp; have h5 := h.nest; have h6 := nests_take b n
  exact ⟨oks_take n h.ok, by omega, by omega, by omega, by omega, by omega⟩
/-! how many parts a program has -/
theorem Ex.dsz_le : ∀ e : Ex, dsz e.d ≤ 4 ^ e.deep
  | .num i => by simp only [Ex.d, Ex.deep, dsz]; decide
  | .var x => by simp only [Ex.d, Ex.deep, dsz]; decide
  | .plus a b => by
    have h1 := Ex.dsz_le a
    have h2 := Ex.dsz_le b
    have p1 : 4 ^ a.deep ≤ 4 ^ max a.deep b.deep := Nat.pow_le_pow_right (by decide) (Nat.le_max_left _ _)
    have p2 : 4 ^ b.deep ≤ 4 ^ max a.deep b.deep := Nat.pow_le_pow_right (by decide) (Nat.le_max_right _ _)
    have p3 : 4 ^ 1 ≤ 4 ^ max a.deep b.deep := Nat.pow_le_pow_right (by decide) (by have := a.deep_pos; omega)
    simp only [Ex.d, Ex.deep, dsz, dszs]
    rw [Nat.pow_succ]
    omega
  | .minus a b => by
    have h1 := Ex.dsz_le a
    have h2 := Ex.dsz_le b
    have p1 : 4 ^ a.deep ≤ 4 ^ max a.deep b.deep := Nat.pow_le_pow_right (by decide) (Nat.le_max_left _ _)
    have p2 : 4 ^ b.deep ≤ 4 ^ max a.deep b.deep := Nat.pow_le_pow_right (by decide) (Nat.le_max_right _ _)
    have p3 : 4 ^ 1 ≤ 4 ^ max a.deep b.deep := Nat.pow_le_pow_right (by decide) (by have := a.deep_pos; omega)
    simp only [Ex.d, Ex.deep, dsz, dszs]
    rw [Nat.pow_succ]
    omega
  | .times k a => by
    have h1 := Ex.dsz_le a
    have p3 : 4 ^ 1 ≤ 4 ^ a.deep := Nat.pow_le_pow_right (by decide) a.deep_pos
    simp only [Ex.d, Ex.deep, dsz, dszs]
    rw [Nat.pow_succ]
    omega
theorem Ex.dsz64 {e : Ex} (h : e.deep ≤ 3) : dsz e.d ≤ 64 := Nat.le_trans (Ex.dsz_le e) (Nat.pow_le_pow_right (by decide) h)
theorem Ts.dsz_le : ∀ {t : Ts}, t.ok → dsz t.d ≤ 132 + 2 * t.nots
  | .less a b, h => by
    obtain ⟨⟨_, h1⟩, _, h2⟩ := (show (a.ok ∧ a.deep ≤ 3) ∧ b.ok ∧ b.deep ≤ 3 from h)
    have := Ex.dsz64 h1
    have := Ex.dsz64 h2
    simp only [Ts.d, dsz, dszs]
    omega
  | .odd a, h => by
    obtain ⟨_, h1⟩ := (show a.ok ∧ a.deep ≤ 3 from h)
    have := Ex.dsz64 h1
    simp only [Ts.d, dsz, dszs]
    omega
  | .not t, h => by
    have := Ts.dsz_le (t := t) h
    simp only [Ts.d, dsz, dszs, Ts.nots]
    omega
mutual
theorem Sm.dsz_le : ∀ {s : Sm}, s.ok → dsz s.d ≤ 150 * s.pl
  | .ite t y n, h => by
    simp only [Sm.ok] at h
    have := Ts.dsz_le h.1
    have := Sm.dszs_le h.2.2.1
    have := Sm.dszs_le h.2.2.2
    simp only [Sm.d, Sm.pl, dsz, dszs]
    omega
  | .rep k b, h => by
    simp only [Sm.ok] at h
    have := Sm.dszs_le h.2
    simp only [Sm.d, Sm.pl, dsz, dszs]
    omega
  | .set x e, h => by
    simp only [Sm.ok] at h
    have := Ex.dsz64 h.1.2
    simp only [Sm.d, Sm.pl, dsz, dszs]
    omega
  | .half x e, h => by
    simp only [Sm.ok] at h
    have := Ex.dsz64 h.1.2
    simp only [Sm.d, Sm.pl, dsz, dszs]
    omega
  | .tell e, h => by
    simp only [Sm.ok] at h
    have := Ex.dsz64 h.2
    simp only [Sm.d, Sm.pl, dsz, dszs]
    omega
  | .say c, h => by simp only [Sm.d, Sm.pl, dsz, dszs]; omega
  | .stop c, h => by simp only [Sm.d, Sm.pl, dsz, dszs]; omega
theorem Sm.dszs_le : ∀ {b : List Sm}, Sm.oks b → dszs (Sm.ds b) ≤ 150 * Sm.pls b
  | [], _ => by simp only [Sm.ds, dszs]; omega
  | s :: r, h => by
    simp only [Sm.oks] at h
    have := Sm.dsz_le h.1
    have := Sm.dszs_le h.2
    simp only [Sm.ds, Sm.pls, dszs]
    omega
end
theorem Ex.szd : ∀ {e : Ex}, e.ok → Szd e.d
  | .num i, _ => by simp only [Ex.d, Szd]
  | .var x, h => by
    have := (show NmOk x from h).2
    simp only [Ex.d, Szd]
    omega
  | .plus a b, h => by simp only [Ex.d, Szd, Szds]; exact ⟨by decide +kernel, Ex.szd (show a.ok ∧ b.ok from h).1, Ex.szd (show a.ok ∧ b.ok from h).2, trivial⟩
  | .minus a b, h => by simp only [Ex.d, Szd, Szds]; exact ⟨by decide +kernel, Ex.szd (show a.ok ∧ b.ok from h).1, Ex.szd (show a.ok ∧ b.ok from h).2, trivial⟩
  | .times k a, h => by simp only [Ex.d, Szd, Szds]; exact ⟨by decide +kernel, trivial, Ex.szd (show -9 ≤ k ∧ k ≤ 9 ∧ a.ok from h).2.2, trivial⟩
theorem Ts.szd : ∀ {t : Ts}, t.ok → Szd t.d
  | .less a b, h => by
    obtain ⟨⟨h1, _⟩, h2, _⟩ := (show (a.ok ∧ a.deep ≤ 3) ∧ b.ok ∧ b.deep ≤ 3 from h)
    simp only [Ts.d, Szd, Szds]
    exact ⟨by decide +kernel, Ex.szd h1, Ex.szd h2, trivial⟩
  | .odd a, h => by
    obtain ⟨h1, _⟩ := (show a.ok ∧ a.deep ≤ 3 from h)
    simp only [Ts.d, Szd, Szds]
    exact ⟨by decide +kernel, Ex.szd h1, trivial⟩
  | .not t, h => by
    simp only [Ts.d, Szd, Szds]
    exact ⟨by decide +kernel, Ts.szd (t := t) h, trivial⟩
mutual
theorem Sm.szd : ∀ {s : Sm}, s.ok → Szd s.d
  | .ite t y n, h => by
    simp only [Sm.ok] at h
    simp only [Sm.d, Szd, Szds]
    exact ⟨by decide +kernel, Ts.szd h.1, Sm.szds h.2.2.1, Sm.szds h.2.2.2, trivial⟩
  | .rep k b, h => by
    simp only [Sm.ok] at h
    simp only [Sm.d, Szd, Szds]
    exact ⟨by decide +kernel, trivial, Sm.szds h.2, trivial⟩
  | .set x e, h => by
    simp only [Sm.ok] at h
    simp only [Sm.d, Szd, Szds]
    exact ⟨by decide +kernel, Nat.le_trans h.2.2 (by decide), Ex.szd h.1.1, trivial⟩
  | .half x e, h => by
    simp only [Sm.ok] at h
    simp only [Sm.d, Szd, Szds]
    exact ⟨by decide +kernel, Nat.le_trans h.2.2 (by decide), Ex.szd h.1.1, trivial⟩
  | .tell e, h => by
    simp only [Sm.ok] at h
    simp only [Sm.d, Szd, Szds]
    exact ⟨by decide +kernel, Ex.szd h.1, trivial⟩
  | .say c, h => by
    simp only [Sm.ok] at h
    simp only [Sm.d, Szd, Szds]
    exact ⟨by decide +kernel, Nat.le_trans h.2 (by decide), trivial⟩
  | .stop c, h => by
    simp only [Sm.ok] at h
    simp only [Sm.d, Szd, Szds]
    exact ⟨by decide +kernel, Nat.le_trans h.2 (by decide), trivial⟩
theorem Sm.szds : ∀ {b : List Sm}, Sm.oks b → Szds (Sm.ds b)
  | [], _ => by simp only [Sm.ds, Szds]
  | s :: r, h => by
    simp only [Sm.oks] at h
    simp only [Sm.ds, Szds]
    exact ⟨Sm.szd h.1, Sm.szds h.2⟩
end
end EH
namespace EH
open PySem PySem.Spec PyProof.Rows L2 LamX
/-! ### lambdas that are made, kept, and called later -/
def LamO (f : Addr) (o : Obj) : HO := .ext fun h => h.get? f = some o
def CellO (c : Addr) (v : V) : HO := .ext fun h => ∃ u, RelV v u ∧ h.IsCell c (some u)
structure LamC where
  q : Str
  params : Arguments
  body : Expr
  scope : Scope
  clo : List (Str × Addr)
  pm : Value
  c' : Addr
  ctv : Value
def LamC.obj (L : LamC) : Obj := PySem.W.kla_obj "<lambda>" L.q L.params L.body L.scope L.clo L.pm L.c' L.ctv
structure LamH (H : Hp) (f : Addr) (L : LamC) (fv : Str → Option V) : Prop where
  fn : H f = some (LamO f L.obj)
  code : H L.c' = some (CodeO L.c' L.q)
  cell : ∀ y c, L.clo.lookup y = some c → ∃ v, fv y = some v ∧ H c = some (CellO c v)
  dis : ∀ x y c, L.clo.lookup x = some c → L.clo.lookup y = some c → x = y
theorem LamH.kp {S : List Addr} {H H' : Hp} {f : Addr} {L : LamC} {fv : Str → Option V} (l : LamH H f L fv) (k : Kp S H H') : LamH H' f L fv := by
  refine ⟨k.ext _ _ l.fn, k.ext _ _ l.code, fun y c e => ?_, l.dis⟩
  obtain ⟨v, e1, e2⟩ := l.cell y c e
  exact ⟨v, e1, k.ext _ _ e2⟩
/-- a lambda's names: parameters, then captured ones -/
structure LamSc (N ps frees : List Str) (sc : Scope) : Prop where
  kind : sc.kind = .function
  co : sc.isCoroutine = false
  gen : sc.isGenerator = false
  nd : N.Nodup
  all : N = ps ++ frees
  par : ∀ x ∈ ps, sc.names.lookup x = some .local
  fre : ∀ x ∈ frees, sc.names.lookup x = some .free
  nocell : ∀ y ∈ sc.names, y.2 ≠ .cell
section
variable {P : Program} {w : World} {K : PySem.W.Frag} {mg : Str → Option Value} {base : Heap}
end
/-! ### a lambda is made and kept -/
section
variable {X : Cx}
end
/-! ### a def that returns a lambda: its cells are known from then on -/
section
variable {P : Program} {w : World} {K : PySem.W.Frag} {mg : Str → Option Value} {base : Heap}
end
/-! ### a kept lambda is called -/
structure LamOk (P : Program) (w : World) (K : PySem.W.Frag) (mg : Str → Option Value) (base : Heap) (k : Nat) (L : LamC) (fv : Str → Option V) (sp : Sp) : Prop where
  run : ∀ (A : Around) (outer : List Env) (s : Shared) (H : Hp) (f : Addr) (us : List Value) (vs : List V) (Q : VK) (E : XK), Room k A → Env0 P w K mg base A outer s H → LamH H f L fv → Vals vs us → sp vs H Q E → codeAny (model P w) A (.call (.ref f) ⟨us, []⟩) (CR CX0 outer P w H s Q E) s
section
variable {X : Cx}
end
/-! ### a dict's display, its new heaps by letters -/
section
variable {X : Cx}
end
/-! ### the law's own walk: a world of names, items, turns, and a function that chooses -/
structure Wad where
  x : Addr
  nd : Addr
  sd : Addr
  td : Addr
  f : Addr
def wkvs (a : Wad) : List (Key × V) := [(Sum.inr "names", .ref a.nd), (Sum.inr "items", .ref a.sd), (Sum.inr "turns", .ref a.td), (Sum.inr "choose", .ref a.f)]
structure WAt (CP : Hp → Addr → Prop) (ow : List Addr) (H : Hp) (a : Wad) (n : Nat) (s : Cs) : Prop where
  ob : H a.x = some (.dK (wkvs a))
  nm : ∃ kvs, H a.nd = some (.dK kvs) ∧ EnvRel kvs s.env ∧ kvs.length ≤ n + 1
  sa : H a.sd = some (.lst (s.said.map kV))
  tu : H a.td = some (.lst (s.turns.map V.int))
  ch : CP H a.f
  ls : s.said.length ≤ n
  lt : s.turns.length ≤ n
  ne1 : a.nd ≠ a.x
  ne2 : a.sd ≠ a.td
  dis : ∀ x ∈ [a.nd, a.sd, a.td], x ∉ ow
section
variable {CP : Hp → Addr → Prop} {ow : List Addr} {H H1 : Hp} {a : Wad} {n m : Nat} {s : Cs}
theorem WAt.g1 (c : WAt CP ow H a n s) : DGet H a.x (.str "names") (some (.ref a.nd)) := DGet.k (k := Sum.inr "names") c.ob
theorem WAt.g2 (c : WAt CP ow H a n s) : DGet H a.x (.str "items") (some (.ref a.sd)) := DGet.k (k := Sum.inr "items") c.ob
theorem WAt.g3 (c : WAt CP ow H a n s) : DGet H a.x (.str "turns") (some (.ref a.td)) := DGet.k (k := Sum.inr "turns") c.ob
theorem WAt.g4 (c : WAt CP ow H a n s) : DGet H a.x (.str "choose") (some (.ref a.f)) := DGet.k (k := Sum.inr "choose") c.ob
theorem WAt.mono (c : WAt CP ow H a n s) (h : n ≤ m) : WAt CP ow H a m s := by
  obtain ⟨kvs, h1, h2, h3⟩ := c.nm
  have := c.ls
  have := c.lt
  exact ⟨c.ob, ⟨kvs, h1, h2, by omega⟩, c.sa, c.tu, c.ch, by omega, by omega, c.ne1, c.ne2, c.dis⟩
theorem WAt.kp0 (kp : ∀ S H H' f, CP H f → Kp S H H' → (∀ x ∈ S, x ∉ ow) → CP H' f) (c : WAt CP ow H a n s) (k : Kp [] H H1) : WAt CP ow H1 a n s := by
  obtain ⟨kvs, h1, h2, h3⟩ := c.nm
  exact ⟨k.at c.ob, ⟨kvs, k.at h1, h2, h3⟩, k.at c.sa, k.at c.tu, kp _ _ _ _ c.ch k (fun _ z => nomatch z), c.ls, c.lt, c.ne1, c.ne2, c.dis⟩
theorem WAt.put {kvs : List (Key × V)} {x : Str} {v : Int} (kp : ∀ S H H' f, CP H f → Kp S H H' → (∀ x ∈ S, x ∉ ow) → CP H' f) (c : WAt CP ow H a n s) (hk : H a.nd = some (.dK kvs)) (he : EnvRel kvs s.env)
    (hl : kvs.length ≤ n + 1) (e : H1 = upd H a.nd (.dK (putK kvs (Sum.inr x) (.int v)))) : WAt CP ow H1 a (n + 1) { s with env := setE s.env x v } ∧ Kp [a.nd, a.sd, a.td] H H1 := by
  have k : Kp [a.nd] H H1 := by rw [e]; exact Kp.put hk (fun _ z => by cases z)
  have l2 := length_putK kvs (Sum.inr x : Key) (V.int v)
  have := c.ls
  have := c.lt
  refine ⟨⟨k.keep _ _ c.ob (EH.ne1 c.ne1.symm), ⟨_, by rw [e]; exact upd_same, he.put x v, by omega⟩, k.keep _ _ c.sa (EH.ne1 (ne_of c.sa hk (fun z => by cases z))), k.keep _ _ c.tu (EH.ne1 (ne_of c.tu hk (fun z => by cases z))),
    kp _ _ _ _ c.ch k (fun x hx => c.dis x (by cases List.mem_singleton.mp hx; simp)), by show s.said.length ≤ _; omega, by show s.turns.length ≤ _; omega, c.ne1, c.ne2, c.dis⟩, k.sub (by simp)⟩
theorem WAt.say {v : Key} (kp : ∀ S H H' f, CP H f → Kp S H H' → (∀ x ∈ S, x ∉ ow) → CP H' f) (c : WAt CP ow H a n s) (h1 : H1 a.sd = some (.lst (s.said.map kV ++ [kV v]))) (k : Kp [a.sd] H H1) :
    WAt CP ow H1 a (n + 1) { s with said := s.said ++ [v] } ∧ Kp [a.nd, a.sd, a.td] H H1 := by
  obtain ⟨kvs, g1, g2, g3⟩ := c.nm
  have := c.ls
  have := c.lt
  refine ⟨⟨k.keep _ _ c.ob (EH.ne1 (ne_of c.ob c.sa (fun z => by cases z))), ⟨kvs, k.keep _ _ g1 (EH.ne1 (ne_of g1 c.sa (fun z => by cases z))), g2, by omega⟩, by rw [h1, List.map_append]; rfl, k.keep _ _ c.tu (EH.ne1 c.ne2.symm),
    kp _ _ _ _ c.ch k (fun x hx => c.dis x (by cases List.mem_singleton.mp hx; simp)), by show (s.said ++ [v]).length ≤ _; rw [List.length_append, List.length_singleton]; omega, by show s.turns.length ≤ _; omega, c.ne1, c.ne2, c.dis⟩, k.sub (by simp)⟩
theorem WAt.turn {v : Int} (kp : ∀ S H H' f, CP H f → Kp S H H' → (∀ x ∈ S, x ∉ ow) → CP H' f) (c : WAt CP ow H a n s) (h1 : H1 a.td = some (.lst (s.turns.map V.int ++ [.int v]))) (k : Kp [a.td] H H1) :
    WAt CP ow H1 a (n + 1) { s with turns := s.turns ++ [v] } ∧ Kp [a.nd, a.sd, a.td] H H1 := by
  obtain ⟨kvs, g1, g2, g3⟩ := c.nm
  have := c.ls
  have := c.lt
  refine ⟨⟨k.keep _ _ c.ob (EH.ne1 (ne_of c.ob c.tu (fun z => by cases z))), ⟨kvs, k.keep _ _ g1 (EH.ne1 (ne_of g1 c.tu (fun z => by cases z))), g2, by omega⟩, k.keep _ _ c.sa (EH.ne1 c.ne2), by rw [h1, List.map_append]; rfl,
    kp _ _ _ _ c.ch k (fun x hx => c.dis x (by cases List.mem_singleton.mp hx; simp)), by show s.said.length ≤ _; omega, by show (s.turns ++ [v]).length ≤ _; rw [List.length_append, List.length_singleton]; omega, c.ne1, c.ne2, c.dis⟩, k.sub (by simp)⟩
end
theorem WAt.off {CP : Hp → Addr → Prop} {ow : List Addr} {H : Hp} {a : Wad} {n : Nat} {s : Cs} {l : Addr} (c : WAt CP ow H a n s) (h : H l = none) : l ∉ [a.nd, a.sd, a.td] := by
  obtain ⟨kvs, g1, _⟩ := c.nm
  simp [(ne_of_none g1 h).symm, (ne_of_none c.sa h).symm, (ne_of_none c.tu h).symm]
/-- a function that chooses, called by value, place and the number of the turn -/
structure Chooser (P : Program) (w : World) (K : PySem.W.Frag) (mg : Str → Option Value) (base : Heap) (k : Nat) (LS : LamC → Prop) (sp : (Str → Option V) → Sp) (CP : Hp → Addr → Prop) (ow : List Addr) (dec : Nat → Int → Int → Int) : Prop where
  F : ∀ L fv, LS L → LamOk P w K mg base k L fv (sp fv)
  kp : ∀ S H H' f, CP H f → Kp S H H' → (∀ x ∈ S, x ∉ ow) → CP H' f
  fr : ∀ H f, CP H f → ∀ x ∈ ow, H x ≠ none
  atF : ∀ H f, CP H f → ∃ L fv, LS L ∧ LamH H f L fv ∧ ∀ (v p : Int) (n : Nat) (Q : VK), (∀ H', Kp [] H H' → Q (.int (dec n v p)) H') → sp fv [.int v, .int p, .int n] H Q fun _ _ _ => False
end EH
namespace EH
open PySem L2
/-! ### all runs on a number by sixteen choices, sorted by their turns -/
section
variable {ways : Int → Option Int} {b : List Sm} {n : Int}
theorem Chn.same : ∀ (m : Nat) {Rs Rs' : List (Option Str × Cs)} {c c' : Option (List Int)}, Rs.length = m → Rs'.length = m → Chn ways b n Rs c → Chn ways b n Rs' c' → Rs = Rs' ∧ c = c'
  | 0, Rs, Rs', c, c', h1, h2, a, e => by
    cases a with
    | nil =>
      cases e with
      | nil => exact ⟨rfl, rfl⟩
      | snoc e => simp at h2
    | snoc a => simp at h1
  | m + 1, Rs, Rs', c, c', h1, h2, a, e => by
    cases a with
    | nil => simp at h1
    | snoc a =>
      cases e with
      | nil => simp at h2
      | snoc e =>
        rw [List.length_append] at h1 h2
        obtain ⟨z1, z2⟩ := Chn.same m (by simpa using h1) (by simpa using h2) a e
        cases z2
        subst z1
        exact ⟨rfl, rfl⟩
theorem Chn.pre : ∀ (m : Nat) {Rs : List (Option Str × Cs)} {c : Option (List Int)}, m < Rs.length → Chn ways b n Rs c → ∃ Rs' c', Rs'.length = m ∧ Chn ways b n Rs' (some c') := by
  intro m Rs c hm h
  induction h with
  | nil => simp at hm
  | @snoc Rs c h ih =>
    by_cases z : m < Rs.length
    · exact ih z
    · rw [List.length_append, List.length_singleton] at hm
      exact ⟨Rs, c, by omega, h⟩
end
/-- a sorted list is the strictly rising one with the same items -/
theorem sorted_eq {α : Type} {lt : α → α → Bool} : ∀ {m l : List α}, l.Perm m → l.Pairwise (fun a b => lt b a = false) → m.Pairwise (fun a b => lt a b = true) → l = m
  | [], l, p, _, _ => p.eq_nil
  | a :: m, [], p, _, _ => absurd p.length_eq (by simp)
  | a :: m, x :: l, p, hs, hm => by
    have hs' := List.pairwise_cons.mp hs
    have hm' := List.pairwise_cons.mp hm
    have e : x = a := by
      have h1 : a ∈ x :: l := p.mem_iff.mpr List.mem_cons_self
      have h2 : x ∈ a :: m := p.mem_iff.mp List.mem_cons_self
      rcases List.mem_cons.mp h1 with z | z
      · exact z.symm
      · rcases List.mem_cons.mp h2 with y | y
        · exact y
        · have a1 := hs'.1 a z
          have a2 := hm'.1 x y
          rw [a1] at a2
          cases a2
    subst e
    rw [sorted_eq (List.perm_cons x |>.mp p) hs'.2 hm'.2]
def bits (j : Nat) : List Int := [(j : Int) / 8, (j : Int) / 4 % 2, (j : Int) / 2 % 2, (j : Int) % 2]
theorem bits_ok {j : Nat} (h : j < 16) : ty01 (bits j) ∧ (bits j).length = 4 := by
  refine ⟨?_, rfl⟩
  intro i hi
  simp only [bits, List.mem_cons, List.not_mem_nil, or_false] at hi
  rcases hi with rfl | rfl | rfl | rfl <;> omega
theorem bits_all {v : List Int} (h : ty01 v) (l : v.length = 4) : ∃ j, j < 16 ∧ bits j = v := by
  match v, l with
  | [x, y, z, w], _ =>
    have hx := h x (by simp)
    have hy := h y (by simp)
    have hz := h z (by simp)
    have hw := h w (by simp)
    refine ⟨(8 * x + 4 * y + 2 * z + w).toNat, by omega, ?_⟩
    simp only [bits]
    rw [show (((8 * x + 4 * y + 2 * z + w).toNat : Nat) : Int) = 8 * x + 4 * y + 2 * z + w by omega]
    congr 1
    · omega
    · congr 1
      · omega
      · congr 1
        · omega
        · congr 1
          omega
def tkey (R : Option Str × Cs) : List Key := R.2.turns.map Sum.inl
theorem tkey_inj {R S : Option Str × Cs} (h : tkey R = tkey S) : R.2.turns = S.2.turns := by
  unfold tkey at h
  exact List.map_inj_right (fun a b e => Sum.inl.inj e) |>.mp h
theorem keyD_tkey (R : Option Str × Cs) : keyD (tkey R) = .tuple (R.2.turns.map PyData.int) := by
  unfold keyD tkey
  rw [List.map_map]
  rfl
theorem ahd_lt : ∀ {t u : List Int}, Ahd t u → PySem.W.rowLt (t.map .int) (u.map .int) = true := by
  intro t u h
  rw [PySem.W.dataLt_ints]
  refine decide_eq_true ?_
  induction h with
  | lt => exact List.cons_lt_cons_iff.mpr (.inl (by decide))
  | eq h ih => exact List.cons_lt_cons_iff.mpr (.inr ⟨rfl, ih⟩)
section
variable {ways : Int → Option Int} {b : List Sm} {n : Int}
theorem chn_mem {Rs : List (Option Str × Cs)} (o : Sm.oks b) (hv : Sm.hvs b ≤ 4) (h : Chn ways b n Rs none) (R : Option Str × Cs) : R ∈ Rs ↔ ∃ j, j < 16 ∧ R = rn ways b n (bits j) := by
  have ok := h.ok (k := 4) o hv
  constructor
  · intro hR
    obtain ⟨e, t01, tl, _⟩ := ok.self R hR
    have l4 : (tk R.2.turns 4).length = 4 := tk_len _ _
    obtain ⟨j, hj, eb⟩ := bits_all (tk_01 t01 4) l4
    refine ⟨j, hj, ?_⟩
    rw [eb]
    have e2 : rn ways b n (tk R.2.turns 4) = rn ways b n R.2.turns := by
      refine runs_same (c1 := R.2.turns) (c2 := tk R.2.turns 4) (ways := ways) b o 0 n fun i hi => ?_
      have : i < 4 := Nat.lt_of_lt_of_le hi (rn_len o hv _)
      exact (tk_getD this).symm
    rw [e2, e]
  · rintro ⟨j, hj, rfl⟩
    obtain ⟨b1, b2⟩ := bits_ok hj
    refine ok.all _ b2 b1 ?_
    have := wl_rng b1 (Nat.le_of_eq b2)
    have := pw_pos 4 (bits j)
    show wl 4 (bits j) < (2 : Int) ^ 4
    omega
/-- what the dict holds: each run once, by its turns -/
structure AllAt (ways : Int → Option Int) (b : List Sm) (n : Int) (H : Hp) (kvs : List (List Key × V)) (Ss : List (Option Str × Cs)) (i : Nat) : Prop where
  keys : kvs.map (·.1) = Ss.map tkey
  nd : (Ss.map tkey).Nodup
  val : ∀ R ∈ Ss, ∃ v, valV kvs (tkey R) = some v ∧ Tr H (runD R) v
  from_ : ∀ R ∈ Ss, ∃ j, j < 16 ∧ R = rn ways b n (bits j)
  all : ∀ j, j < i → rn ways b n (bits j) ∈ Ss
theorem AllAt.kp {H H' : Hp} {S : List Addr} {kvs : List (List Key × V)} {Ss : List (Option Str × Cs)} {i : Nat} (h : AllAt ways b n H kvs Ss i) (k : Kp S H H') : AllAt ways b n H' kvs Ss i :=
  ⟨h.keys, h.nd, fun R hR => let ⟨v, e, t⟩ := h.val R hR; ⟨v, e, k.tr t⟩, h.from_, h.all⟩
theorem AllAt.put {H : Hp} {kvs : List (List Key × V)} {Ss : List (Option Str × Cs)} {i : Nat} {v : V} (o : Sm.oks b) (hi : i < 16) (h : AllAt ways b n H kvs Ss i) (t : Tr H (runD (rn ways b n (bits i))) v) :
    ∃ Ss', AllAt ways b n H (putK kvs (tkey (rn ways b n (bits i))) v) Ss' (i + 1) := by
  have self : ∀ R, (∃ j, j < 16 ∧ R = rn ways b n (bits j)) → rn ways b n R.2.turns = R := by
    rintro R ⟨j, hj, rfl⟩
    exact rn_self o _
  generalize hR : rn ways b n (bits i) = R at t
  have fR : ∃ j, j < 16 ∧ R = rn ways b n (bits j) := ⟨i, hi, hR.symm⟩
  have one : ∀ S ∈ Ss, tkey S = tkey R → S = R := fun S hS e => by
    rw [← self S (h.from_ S hS), ← self R fR, tkey_inj e]
  by_cases hm : R ∈ Ss
  · refine ⟨Ss, ?_, h.nd, fun S hS => ?_, h.from_, fun j hj => ?_⟩
    · have hk : (kvs.any fun kv => decide (kv.1 = tkey R)) = true := by
        have : tkey R ∈ kvs.map (·.1) := by rw [h.keys]; exact List.mem_map.mpr ⟨R, hm, rfl⟩
        obtain ⟨p, hp, e⟩ := List.mem_map.mp this
        exact List.any_eq_true.mpr ⟨p, hp, decide_eq_true e⟩
      unfold putK
      rw [if_pos hk, List.map_map, ← h.keys]
      refine List.map_congr_left fun p _ => ?_
      show (if p.1 = tkey R then (p.1, v) else p).1 = p.1
      split <;> rfl
    · rw [valV_put]
      by_cases e : tkey S = tkey R
      · rw [if_pos e, one S hS e]
        exact ⟨v, rfl, t⟩
      · rw [if_neg e]
        exact h.val S hS
    · by_cases z : j = i
      · subst z; rw [hR]; exact hm
      · exact h.all j (by omega)
  · have nk : tkey R ∉ Ss.map tkey := fun z => by
      obtain ⟨S, hS, e⟩ := List.mem_map.mp z
      exact hm (one S hS e ▸ hS)
    have hk : ¬ (kvs.any fun kv => decide (kv.1 = tkey R)) = true := by
      intro z
      obtain ⟨p, hp, e⟩ := List.any_eq_true.mp z
      exact nk (by rw [← h.keys]; exact List.mem_map.mpr ⟨p, hp, of_decide_eq_true e⟩)
    refine ⟨Ss ++ [R], ?_, ?_, fun S hS => ?_, fun S hS => ?_, fun j hj => ?_⟩
    · unfold putK
      rw [if_neg hk, List.map_append, List.map_append, h.keys]
      rfl
    · rw [List.map_append]
      refine List.nodup_append.mpr ⟨h.nd, by simp, ?_⟩
      intro x hx y hy e
      subst e
      have : x = tkey R := by simpa using hy
      exact nk (this ▸ hx)
    · rw [valV_put]
      rcases List.mem_append.mp hS with z | z
      · by_cases e : tkey S = tkey R
        · exact absurd (one S z e ▸ z) hm
        · rw [if_neg e]
          exact h.val S z
      · cases List.mem_singleton.mp z
        rw [if_pos rfl]
        exact ⟨v, rfl, t⟩
    · rcases List.mem_append.mp hS with z | z
      · exact h.from_ S z
      · cases List.mem_singleton.mp z
        exact fR
    · by_cases z : j = i
      · subst z; rw [hR]; simp
      · exact List.mem_append_left _ (h.all j (by omega))
theorem AllAt.sorted {H : Hp} {kvs : List (List Key × V)} {Ss Rs : List (Option Str × Cs)} (o : Sm.oks b) (hv : Sm.hvs b ≤ 4) (c : Chn ways b n Rs none) (h : AllAt ways b n H kvs Ss 16) :
    PySem.W.AllAlike (kvs.map fun p => keyD p.1) ∧ Srt (kvs.map fun p => keyD p.1) ∧ (kvs.map fun p => keyD p.1).mergeSort (PySem.W.dataLe false id) = Rs.map (fun R => .tuple (R.2.turns.map PyData.int)) ∧ (∀ R ∈ Rs, ∃ v, valV kvs (tkey R) = some v ∧ Tr H (runD R) v) ∧ kvs.length ≤ 16 := by
  have ok := c.ok (k := 4) o hv
  have ek : (kvs.map fun p => keyD p.1) = Ss.map fun R => .tuple (R.2.turns.map PyData.int) := by
    have : (kvs.map fun p => keyD p.1) = (kvs.map (·.1)).map keyD := by rw [List.map_map]; rfl
    rw [this, h.keys, List.map_map]
    exact List.map_congr_left fun R _ => keyD_tkey R
  have mem : ∀ R, R ∈ Ss ↔ R ∈ Rs := fun R => by
    rw [chn_mem o hv c]
    exact ⟨h.from_ R, fun ⟨j, hj, e⟩ => e ▸ h.all j hj⟩
  have strict : (Rs.map fun R => PyData.tuple (R.2.turns.map PyData.int)).Pairwise (fun a b => PySem.W.dataLt a b = true) := by
    rw [List.pairwise_map]
    refine ok.ord.imp fun hA => ?_
    rw [PySem.W.dataLt_tuple]
    exact ahd_lt hA
  have ndS : Ss.Nodup := (List.pairwise_map.mp h.nd).imp fun hne e => hne (by rw [e])
  have ndR : Rs.Nodup := by
    refine ok.ord.imp fun hA e => ?_
    subst e
    have := ahd_lt hA
    rw [PySem.W.dataLt_ints, decide_eq_true_eq] at this
    exact absurd this (List.lt_irrefl _)
  have perm : Ss.Perm Rs := (List.perm_ext_iff_of_nodup ndS ndR).mpr mem
  have lenR := c.len o (Nat.le_trans hv (by decide))
  have lenR16 : Rs.length ≤ 16 := by
    have := ok.len o hv
    have e : (2 : Int) ^ 4 = 16 := by decide
    omega
  refine ⟨?_, ?_, ?_, fun R hR => h.val R ((mem R).mpr hR), ?_⟩
  · rw [ek]
    refine PySem.W.AllAlike.of fun R S => ?_
    show PySem.W.alike (.tuple _) (.tuple _) = true
    simp only [PySem.W.alike]
    exact PySem.W.alike_ints _ _
  · rw [ek]
    by_cases z : ∃ R ∈ Rs, R.2.turns = []
    · obtain ⟨R, hR, e⟩ := z
      refine .inr ⟨?_, fun d hd => ?_⟩
      · have s := ok.sum
        have hp : pw 4 R.2.turns = 16 := by rw [e]; decide
        have tt : topO 4 none = 16 := by decide
        rw [tt] at s
        rw [List.length_map, perm.length_eq]
        obtain ⟨A, B, rfl⟩ := List.append_of_mem hR
        rw [List.map_append, List.map_cons, List.sum_append, List.sum_cons, hp] at s
        have sA := sum_ge (k := 4) (Rs := A)
        have sB := sum_ge (k := 4) (Rs := B)
        rw [List.length_append, List.length_cons]
        omega
      · obtain ⟨S, _, rfl⟩ := List.mem_map.mp hd
        exact fun z => by cases z
    · refine .inl (.inl fun d hd => ?_)
      obtain ⟨S, hS, rfl⟩ := List.mem_map.mp hd
      have := fun e => z ⟨S, (mem S).mp hS, e⟩
      cases e : S.2.turns with
      | nil => exact absurd e this
      | cons x r => exact ⟨_, _, rfl⟩
  · rw [ek]
    refine sorted_eq (lt := PySem.W.dataLt) ((List.mergeSort_perm _ _).trans (perm.map _)) ?_ strict
    have := PySem.W.sort_pairwise (PySem.W.sortLe_total (PyProof.Rows.listOrd PyProof.Rows.itemOrd) false fun d : PyData => PySem.W.keyToks (id d)) (Ss.map fun R => PyData.tuple (R.2.turns.map PyData.int))
    refine List.Pairwise.imp (fun {x y} hxy => ?_) this
    have hxy : (!PySem.W.dataLt y x) = true := hxy
    cases e : PySem.W.dataLt y x with
    | false => rfl
    | true => rw [e] at hxy; cases hxy
  · have := congrArg List.length h.keys
    rw [List.length_map, List.length_map, perm.length_eq] at this
    omega
end
section
variable {X : Cx} {pos : Pos}
end
/-! ### rows of runs can be shown -/
structure Bk (d : PyData) (B D : Nat) : Prop where
  sh : d.showable = true
  ls : d.leavesShort 241 = true
  bk : d.bulk ≤ B
  dp : d.depth ≤ D
structure Bks (ds : List PyData) (B D : Nat) : Prop where
  sh : PyData.showableAll ds = true
  ls : PyData.leavesShortAll 241 ds = true
  bk : PyData.bulkAll ds ≤ B
  dp : PyData.depthAll ds ≤ D
theorem Bk.mono {d : PyData} {W D W' D' : Nat} (h : Bk d W D) (a : W ≤ W') (b : D ≤ D') : Bk d W' D' := ⟨h.sh, h.ls, Nat.le_trans h.bk a, Nat.le_trans h.dp b⟩
theorem Bks.mono {d : List PyData} {W D W' D' : Nat} (h : Bks d W D) (a : W ≤ W') (b : D ≤ D') : Bks d W' D' := ⟨h.sh, h.ls, Nat.le_trans h.bk a, Nat.le_trans h.dp b⟩
theorem bks_nil : Bks [] 0 0 := ⟨by simp only [PyData.showableAll], by simp only [PyData.leavesShortAll], by simp only [PyData.bulkAll]; exact Nat.le_refl _, by simp only [PyData.depthAll]; exact Nat.le_refl _⟩
theorem bks_cons {d : PyData} {ds : List PyData} {W D W' : Nat} (h : Bk d W D) (t : Bks ds W' D) : Bks (d :: ds) (W + 1 + W') D := by
  obtain ⟨h1, h2, h3, h4⟩ := h
  obtain ⟨t1, t2, t3, t4⟩ := t
  refine ⟨by simp only [PyData.showableAll, h1, t1]; rfl, by simp only [PyData.leavesShortAll, h2, t2]; rfl, ?_, ?_⟩
  · simp only [PyData.bulkAll]; omega
  · simp only [PyData.depthAll]; omega
theorem bk_lst {ds : List PyData} {W D : Nat} (t : Bks ds W D) : Bk (.list ds) W (D + 1) := by
  obtain ⟨t1, t2, t3, t4⟩ := t
  refine ⟨by simp only [PyData.showable, t1], by simp only [PyData.leavesShort, t2], ?_, ?_⟩
  · simp only [PyData.bulk]; omega
  · simp only [PyData.depth]; omega
theorem bk_kD {k : Key} (h : kOk (BM - 1) k) : Bk (kD k) 20 0 := by
  refine ⟨kD_showable h, kD_short h, ?_, by rw [kD_depth]; exact Nat.le_refl _⟩
  cases k with
  | inl i =>
    show PyData.bulk (.int i) ≤ 20
    simp only [PyData.bulk]
    exact Nat.zero_le _
  | inr c =>
    show PyData.bulk (.str c) ≤ 20
    simp only [PyData.bulk]
    exact h.2
theorem Bk.shw {d : PyData} {W D : Nat} (h : Bk d W D) (hw : W ≤ 65000) (hd : D ≤ 60) : Shw d := by
  refine ⟨h.sh, Nat.le_trans (PyData.shown_le_bulk 241 (by decide) d h.ls) ?_, Nat.le_trans h.dp hd⟩
  have := h.bk
  have : (243 : Nat) * d.bulk + 241 ≤ 16777216 := by omega
  exact Nat.le_trans this (by decide +kernel)
/-! ### texts of programs -/
def iTxt (i : Int) : Str := Str.ofString (toString i)
def Ex.txt : Ex → Str
  | .num i => iTxt i
  | .var x => x
  | .plus a b => "(" ++ a.txt ++ " + " ++ b.txt ++ ")"
  | .minus a b => "(" ++ a.txt ++ " - " ++ b.txt ++ ")"
  | .times k a => "(" ++ iTxt k ++ " * " ++ a.txt ++ ")"
def Ts.txt : Ts → Str
  | .not t => "not " ++ t.txt
  | .odd a => "odd " ++ a.txt
  | .less a b => a.txt ++ " < " ++ b.txt
def Sm.line : Sm → Str
  | .set x e => x ++ " = " ++ e.txt
  | .half x e => x ++ " = half " ++ e.txt
  | .tell e => "tell " ++ e.txt
  | .say w => "say" ++ " " ++ w
  | .stop w => "stop" ++ " " ++ w
  | .ite t _ _ => "if " ++ t.txt
  | .rep k _ => "repeat" ++ " " ++ iTxt (k : Int)
mutual
def Sm.lns (a : Str) : Sm → List Str
  | .ite t y n => (a ++ (Sm.ite t y n).line) :: ((if y = [] then [a ++ "  " ++ "pass"] else Sm.lnss (a ++ "  ") y) ++ (if n = [] then [] else (a ++ "else") :: Sm.lnss (a ++ "  ") n))
  | .rep k b => (a ++ (Sm.rep k b).line) :: (if b = [] then [a ++ "  " ++ "pass"] else Sm.lnss (a ++ "  ") b)
  | .set x e => [a ++ (Sm.set x e).line]
  | .half x e => [a ++ (Sm.half x e).line]
  | .tell e => [a ++ (Sm.tell e).line]
  | .say w => [a ++ (Sm.say w).line]
  | .stop w => [a ++ (Sm.stop w).line]
def Sm.lnss (a : Str) : List Sm → List Str
  | [] => []
  | s :: r => Sm.lns a s ++ Sm.lnss a r
end
/-! ### what the reader takes: names, words -/
def NmG (x : Str) : Prop := PyData.strOk x = true ∧ x.length ≤ 8 ∧ nameB (.str x) = true
def Ex.gd : Ex → Prop
  | .num _ => True
  | .var x => nameB (.str x) = true
  | .plus a b => a.gd ∧ b.gd
  | .minus a b => a.gd ∧ b.gd
  | .times _ a => a.gd
def Ts.gd : Ts → Prop
  | .not t => t.gd
  | .odd a => a.gd
  | .less a b => a.gd ∧ b.gd
def Sm.gdL : Sm → Prop
  | .set x e => nameB (.str x) = true ∧ e.gd
  | .half x e => nameB (.str x) = true ∧ e.gd
  | .tell e => e.gd
  | .say w => wordB (.str w) = true
  | .stop w => wordB (.str w) = true
  | .ite t _ _ => t.gd
  | .rep _ _ => True
/-! ### sizes -/
theorem iTxt_len {i : Int} (h : i.natAbs < 1000) : (iTxt i).length ≤ 5 := by
  have e := int_text_length_le10 (a := i) (k := 3) (by decide) (by simpa using h)
  unfold iTxt
  rw [ofString_length]
  omega
theorem Ex.txt_len : ∀ {e : Ex}, e.ok → e.txt.length + 5 ≤ 1005 * 2 ^ e.deep
  | .num i, h => by
    have := iTxt_len (i := i) (by have := h.1; have := h.2; omega)
    simp only [Ex.txt, Ex.deep]
    omega
  | .var x, h => by
    have := h.2
    simp only [Ex.txt, Ex.deep]
    omega
  | .plus a b, h => by
    have h1 := Ex.txt_len h.1
    have h2 := Ex.txt_len h.2
    have l1 : 2 ^ a.deep ≤ 2 ^ max a.deep b.deep := Nat.pow_le_pow_right (by decide) (Nat.le_max_left _ _)
    have l2 : 2 ^ b.deep ≤ 2 ^ max a.deep b.deep := Nat.pow_le_pow_right (by decide) (Nat.le_max_right _ _)
    have e1 : (("(" : Str)).length = 1 ∧ ((" + " : Str)).length = 3 ∧ ((")" : Str)).length = 1 := by decide +kernel
    simp only [Ex.txt, Ex.deep, Str.length_append, Nat.pow_succ, e1.1, e1.2.1, e1.2.2]
    omega
  | .minus a b, h => by
    have h1 := Ex.txt_len h.1
    have h2 := Ex.txt_len h.2
    have l1 : 2 ^ a.deep ≤ 2 ^ max a.deep b.deep := Nat.pow_le_pow_right (by decide) (Nat.le_max_left _ _)
    have l2 : 2 ^ b.deep ≤ 2 ^ max a.deep b.deep := Nat.pow_le_pow_right (by decide) (Nat.le_max_right _ _)
    have e1 : (("(" : Str)).length = 1 ∧ ((" - " : Str)).length = 3 ∧ ((")" : Str)).length = 1 := by decide +kernel
    simp only [Ex.txt, Ex.deep, Str.length_append, Nat.pow_succ, e1.1, e1.2.1, e1.2.2]
    omega
  | .times k a, h => by
    have h2 := Ex.txt_len h.2.2
    have h1 := iTxt_len (i := k) (by have := h.1; have := h.2.1; omega)
    have e1 : (("(" : Str)).length = 1 ∧ ((" * " : Str)).length = 3 ∧ ((")" : Str)).length = 1 := by decide +kernel
    have p : 1 ≤ 2 ^ a.deep := Nat.one_le_two_pow
    simp only [Ex.txt, Ex.deep, Str.length_append, Nat.pow_succ, e1.1, e1.2.1, e1.2.2]
    omega
/-! ### str(x) of a number or a text -/
section
variable {X : Cx}
theorem cr_strAny : CallR X (.type "str") (fun xs H Q => (∃ a, xs = [.str a] ∧ Q (.str a) H) ∨ ∃ i, xs = [.int i] ∧ i.natAbs.log2 < 1920 ∧ Q (.str (iTxt i)) H) := by
  intro pins s σ H xs us Q I r h
  rcases h with h | h
  · exact SkE.call_str_str pins s σ H xs us Q I r h
  · exact call_str_int pins s σ H xs us Q I r h
end
/-- the signs between two parts, in a written dict -/
def SgOk (K : PySem.W.Frag) (w : World) (a : Addr) : Prop := KDct K w a "plus" (.str " + ") ∧ KDct K w a "minus" (.str " - ") ∧ KDct K w a "times" (.str " * ")
def spETxt (n : Nat) : Sp := fun vs H Q _ => ∃ (v : V) (e : Ex), vs = [v] ∧ Tr H e.d v ∧ e.ok ∧ e.deep ≤ n ∧ e.deep ≤ 8 ∧ Q (.str e.txt) H
def spTTxt (n : Nat) : Sp := fun vs H Q _ => ∃ (v : V) (t : Ts), vs = [v] ∧ Tr H t.d v ∧ t.ok ∧ t.nots ≤ n ∧ t.nots ≤ 1000 ∧ Q (.str t.txt) H
theorem Ex.txt_le {e : Ex} (h : e.ok) (hd : e.deep ≤ 8) : e.txt.length ≤ 300000 := by
  have h1 := Ex.txt_len h
  have h2 : 2 ^ e.deep ≤ 2 ^ 8 := Nat.pow_le_pow_right (by decide) hd
  omega
theorem log_small {i : Int} (h : i.natAbs < 1000) : i.natAbs.log2 < 1920 := by
  by_cases z : i.natAbs = 0
  · rw [z]; decide
  · exact Nat.lt_of_lt_of_le ((Nat.log2_lt z).mpr (show i.natAbs < 2 ^ 10 by omega)) (by decide)
theorem Ex.txt3 {e : Ex} (h : e.ok ∧ e.deep ≤ 3) : e.txt.length ≤ 9000 := by
  have h1 := Ex.txt_len h.1
  have h2 : 2 ^ e.deep ≤ 2 ^ 3 := Nat.pow_le_pow_right (by decide) h.2
  omega
theorem Ts.txt_len : ∀ {t : Ts}, t.ok → t.txt.length ≤ 20000 + 4 * t.nots
  | .less a b, h => by
    have h1 := Ex.txt3 h.1
    have h2 := Ex.txt3 h.2
    have e1 : ((" < " : Str)).length = 3 := by decide +kernel
    simp only [Ts.txt, Str.length_append, e1]
    omega
  | .odd a, h => by
    have h1 := Ex.txt3 h
    have e1 : (("odd " : Str)).length = 4 := by decide +kernel
    simp only [Ts.txt, Str.length_append, e1]
    omega
  | .not t, h => by
    have h1 := Ts.txt_len (t := t) h
    have e1 : (("not " : Str)).length = 4 := by decide +kernel
    simp only [Ts.txt, Str.length_append, e1, Ts.nots]
    omega
theorem Sm.line_len : ∀ {s : Sm}, s.ok → s.line.length ≤ 30000
  | .set x e, h => by
    have h1 := Ex.txt3 h.1
    have h2 := h.2.2
    have e1 : ((" = " : Str)).length = 3 := by decide +kernel
    simp only [Sm.line, Str.length_append, e1]
    omega
  | .half x e, h => by
    have h1 := Ex.txt3 h.1
    have h2 := h.2.2
    have e1 : ((" = half " : Str)).length = 8 := by decide +kernel
    simp only [Sm.line, Str.length_append, e1]
    omega
  | .tell e, h => by
    have h1 := Ex.txt3 h
    have e1 : (("tell " : Str)).length = 5 := by decide +kernel
    simp only [Sm.line, Str.length_append, e1]
    omega
  | .say c, h => by
    have h1 := h.2
    have e1 : (("say" : Str)).length = 3 ∧ ((" " : Str)).length = 1 := by decide +kernel
    simp only [Sm.line, Str.length_append, e1.1, e1.2]
    omega
  | .stop c, h => by
    have h1 := h.2
    have e1 : (("stop" : Str)).length = 4 ∧ ((" " : Str)).length = 1 := by decide +kernel
    simp only [Sm.line, Str.length_append, e1.1, e1.2]
    omega
  | .ite t y n, h => by
    have h1 := Ts.txt_len h.1
    have h2 := h.2.1
    have e1 : (("if " : Str)).length = 3 := by decide +kernel
    simp only [Sm.line, Str.length_append, e1]
    omega
  | .rep k b, h => by
    have h1 := iTxt_len (i := (k : Int)) (by have := h.1; omega)
    have e1 : (("repeat" : Str)).length = 6 ∧ ((" " : Str)).length = 1 := by decide +kernel
    simp only [Sm.line, Str.length_append, e1.1, e1.2]
    omega
def spLine : Sp := fun vs H Q _ => ∃ (v : V) (s : Sm), vs = [v] ∧ Tr H s.d v ∧ s.ok ∧ Q (.str s.line) H
def partL (a : Str) (b : List Sm) : List Str := if b = [] then [a ++ "pass"] else Sm.lnss a b
theorem lns_ite (a : Str) (t : Ts) (y n : List Sm) : Sm.lns a (.ite t y n) = (a ++ (Sm.ite t y n).line) :: (partL (a ++ "  ") y ++ (if n = [] then [] else (a ++ "else") :: Sm.lnss (a ++ "  ") n)) := by simp only [Sm.lns, partL]
theorem lns_rep (a : Str) (k : Nat) (b : List Sm) : Sm.lns a (.rep k b) = (a ++ (Sm.rep k b).line) :: partL (a ++ "  ") b := by simp only [Sm.lns, partL]
theorem lnss_app (a : Str) : ∀ b c : List Sm, Sm.lnss a (b ++ c) = Sm.lnss a b ++ Sm.lnss a c
  | [], c => by simp only [Sm.lnss, List.nil_append]
  | s :: r, c => by simp only [List.cons_append, Sm.lnss, lnss_app a r c, List.append_assoc]
theorem lnss_one (a : Str) (s : Sm) : Sm.lnss a [s] = Sm.lns a s := by simp only [Sm.lnss, List.append_nil]
theorem partL_len {a : Str} {b : List Sm} {m : Nat} (h : (Sm.lnss a b).length ≤ m) : (partL a b).length ≤ m + 1 := by
  unfold partL
  split
  · simp
  · omega
mutual
theorem Sm.lns_len : ∀ (a : Str) (s : Sm), (Sm.lns a s).length ≤ 3 * s.pl
  | a, .ite t y n => by
    have h1 := partL_len (Sm.lnss_len (a ++ "  ") y)
    have h2 := Sm.lnss_len (a ++ "  ") n
    rw [lns_ite]
    simp only [List.length_cons, List.length_append, Sm.pl]
    split
    · simp only [List.length_nil]; omega
    · simp only [List.length_cons]; omega
  | a, .rep k b => by
    have h1 := partL_len (Sm.lnss_len (a ++ "  ") b)
    rw [lns_rep]
    simp only [List.length_cons, Sm.pl]
    omega
  | a, .set x e => by simp [Sm.lns, Sm.pl]
  | a, .half x e => by simp [Sm.lns, Sm.pl]
  | a, .tell e => by simp [Sm.lns, Sm.pl]
  | a, .say c => by simp [Sm.lns, Sm.pl]
  | a, .stop c => by simp [Sm.lns, Sm.pl]
theorem Sm.lnss_len : ∀ (a : Str) (b : List Sm), (Sm.lnss a b).length ≤ 3 * Sm.pls b
  | a, [] => by simp [Sm.lnss]
  | a, s :: r => by
    have h1 := Sm.lns_len a s
    have h2 := Sm.lnss_len a r
    simp only [Sm.lnss, List.length_append, Sm.pls]
    omega
end
theorem Sm.pls_take : ∀ (b : List Sm) (i : Nat), Sm.pls (b.take i) ≤ Sm.pls b
  | [], i => by simp
  | s :: r, 0 => by simp [Sm.pls]
  | s :: r, i + 1 => by
    have := Sm.pls_take r i
    simp only [List.take_succ_cons, Sm.pls]
    omega
def spLns (n : Nat) : Sp := fun vs H Q _ => ∃ (v : V) (a : Str) (b : List Sm), vs = [v, .str a] ∧ Tr H (.tuple (Sm.ds b)) v ∧ Sm.oks b ∧ Sm.nests b ≤ n ∧ Sm.pls b ≤ 1000 ∧ a.length + 2 * n ≤ 1000 ∧
  ∀ (l : Addr) (H' : Hp), H l = none → H' l = some (.lst ((Sm.lnss a b).map V.str)) → Kp [] H H' → Q (.ref l) H'
def spPartL (n : Nat) : Sp := fun vs H Q _ => ∃ (v : V) (a : Str) (b : List Sm), vs = [v, .str a] ∧ Tr H (.tuple (Sm.ds b)) v ∧ Sm.oks b ∧ Sm.nests b ≤ n ∧ Sm.pls b ≤ 1000 ∧ a.length + 2 * n ≤ 1000 ∧
  ∀ (l : Addr) (H' : Hp), H l = none → H' l = some (.lst ((partL a b).map V.str)) → Kp [] H H' → Q (.ref l) H'
def sp0L (sp : Nat → Sp) (n : Nat) : Sp := fun vs H Q E => ∃ n', n = n' + 1 ∧ sp n' vs H Q E
theorem Sm.oks_mem : ∀ {l : List Sm} {s : Sm}, Sm.oks l → s ∈ l → s.ok
  | x :: r, s, h, m => by
    simp only [Sm.oks] at h
    rcases List.mem_cons.mp m with rfl | m
    · exact h.1
    · exact Sm.oks_mem h.2 m
theorem two_len : ("  " : Str).length = 2 := by decide +kernel
theorem else_len : ("else" : Str).length = 4 := by decide +kernel
/-! ### what is drawn -/
/-- a list of names, not one of the deck's -/
structure Nm01 (H : Hp) (nm a c : Addr) (ns : List Str) : Prop where
  at_ : H nm = some (.lst (ns.map V.str))
  off : nm ∉ [a, c]
  ok : ∀ x ∈ ns, NmG x
  l0 : 0 < ns.length
  l1 : ns.length ≤ 10
theorem Nm01.kp {H H' : Hp} {nm a c : Addr} {ns : List Str} (h : Nm01 H nm a c ns) (k : Kp [a, c] H H') : Nm01 H' nm a c ns := ⟨k.keep _ _ h.at_ h.off, h.off, h.ok, h.l0, h.l1⟩
def spNames01 : Sp := fun vs H Q _ => ∃ (a c : Addr) (m k : Int), vs = [.ref a, .int k] ∧ (0 ≤ k ∧ k ≤ 5) ∧ Deck H a c m ∧ m ≤ 600000000 ∧
  ∀ (nm : Addr) (ns : List Str) (H' : Hp) (m' : Int), Nm01 H' nm a c ns → m ≤ m' → m' ≤ m + 100 → Deck H' a c m' → Kp [a, c] H H' → Q (.ref nm) H'
theorem int_strOk (i : Int) : PyData.strOk (iTxt i) = true := by
  unfold iTxt PyData.strOk
  rw [Str.ofString_eq_toList]
  rw [Array.all_eq_true]
  intro k hk
  simp only [List.getElem_toArray, List.getElem_map, decide_eq_true_eq]
  have hv := ((toString i).toList[k]'(by simpa using hk)).valid
  rcases hv with h | ⟨_, h⟩
  · exact Nat.lt_trans h (by decide)
  · exact h
/-- an expression whose text is short -/
structure Xt (e : Ex) : Prop where
  ok : e.ok
  so : PyData.strOk e.txt = true
  le : e.txt.length + 5 ≤ 15 * 2 ^ e.deep
  gd : e.gd
def cE01 : Nat → Int
  | 0 => 0
  | n + 1 => 5 + 2 * cE01 n
def spExpr01 (n : Nat) : Sp := fun vs H Q _ => ∃ (a c nm : Addr) (m deep : Int) (ns : List Str), vs = [.ref a, .ref nm, .int deep] ∧ Deck H a c m ∧ m + cE01 n ≤ 700000000 ∧ Nm01 H nm a c ns ∧ 1 ≤ deep ∧ deep ≤ (n : Int) ∧ n ≤ 3 ∧
  ∀ (v : V) (e : Ex) (H' : Hp) (m' : Int), Tr H' e.d v → Xt e → (e.deep : Int) ≤ deep → m ≤ m' → m' ≤ m + cE01 n → Deck H' a c m' → Kp [a, c] H H' → Q v H'
theorem xt_num {i : Int} (h : -99 ≤ i ∧ i ≤ 99) : Xt (.num i) := by
  have l := iTxt_len (i := i) (by omega)
  refine ⟨h, ?_, by simp only [Ex.txt, Ex.deep]; omega, trivial⟩
  exact int_strOk i
theorem xt_var {x : Str} (h : NmG x) : Xt (.var x) := by
  have l := h.2.1
  exact ⟨⟨h.1, by omega⟩, h.1, by simp only [Ex.txt, Ex.deep]; omega, h.2.2⟩
theorem so3 {p s q x y : Str} (hp : PyData.strOk p = true) (hs : PyData.strOk s = true) (hq : PyData.strOk q = true) (h1 : PyData.strOk x = true) (h2 : PyData.strOk y = true) : PyData.strOk (p ++ x ++ s ++ y ++ q) = true := strOk_app (strOk_app (strOk_app (strOk_app hp h1) hs) h2) hq
theorem xt_plus {a b : Ex} (h : Xt a) (g : Xt b) : Xt (.plus a b) := by
  refine ⟨⟨h.ok, g.ok⟩, so3 (by decide +kernel) (by decide +kernel) (by decide +kernel) h.so g.so, ?_, h.gd, g.gd⟩
  have h1 := h.le
  have h2 := g.le
  have l1 : 2 ^ a.deep ≤ 2 ^ max a.deep b.deep := Nat.pow_le_pow_right (by decide) (Nat.le_max_left _ _)
  have l2 : 2 ^ b.deep ≤ 2 ^ max a.deep b.deep := Nat.pow_le_pow_right (by decide) (Nat.le_max_right _ _)
  have e1 : (("(" : Str)).length = 1 ∧ ((" + " : Str)).length = 3 ∧ ((")" : Str)).length = 1 := by decide +kernel
  simp only [Ex.txt, Ex.deep, Str.length_append, Nat.pow_succ, e1.1, e1.2.1, e1.2.2]
  omega
theorem xt_minus {a b : Ex} (h : Xt a) (g : Xt b) : Xt (.minus a b) := by
  refine ⟨⟨h.ok, g.ok⟩, so3 (by decide +kernel) (by decide +kernel) (by decide +kernel) h.so g.so, ?_, h.gd, g.gd⟩
  have h1 := h.le
  have h2 := g.le
  have l1 : 2 ^ a.deep ≤ 2 ^ max a.deep b.deep := Nat.pow_le_pow_right (by decide) (Nat.le_max_left _ _)
  have l2 : 2 ^ b.deep ≤ 2 ^ max a.deep b.deep := Nat.pow_le_pow_right (by decide) (Nat.le_max_right _ _)
  have e1 : (("(" : Str)).length = 1 ∧ ((" - " : Str)).length = 3 ∧ ((")" : Str)).length = 1 := by decide +kernel
  simp only [Ex.txt, Ex.deep, Str.length_append, Nat.pow_succ, e1.1, e1.2.1, e1.2.2]
  omega
theorem xt_times {k : Int} {a : Ex} (hk : -9 ≤ k ∧ k ≤ 9) (g : Xt a) : Xt (.times k a) := by
  refine ⟨⟨hk.1, hk.2, g.ok⟩, so3 (by decide +kernel) (by decide +kernel) (by decide +kernel) (int_strOk k) g.so, ?_, g.gd⟩
  have h2 := g.le
  have h1 := iTxt_len (i := k) (by omega)
  have p : 1 ≤ 2 ^ a.deep := Nat.one_le_two_pow
  have e1 : (("(" : Str)).length = 1 ∧ ((" * " : Str)).length = 3 ∧ ((")" : Str)).length = 1 := by decide +kernel
  simp only [Ex.txt, Ex.deep, Str.length_append, Nat.pow_succ, e1.1, e1.2.1, e1.2.2]
  omega
theorem Xt.len3 {e : Ex} (h : Xt e) (hd : e.deep ≤ 3) : e.txt.length ≤ 115 := by
  have h1 := h.le
  have h2 : 2 ^ e.deep ≤ 2 ^ 3 := Nat.pow_le_pow_right (by decide) hd
  omega
/-- a test whose text is short -/
structure Tt (o : Bool) (k : Nat) (t : Ts) : Prop where
  ok : t.ok
  nots : t.nots = k
  so : PyData.strOk t.txt = true
  le : t.txt.length ≤ 240 + 4 * k
  gd : t.gd
  odd : t.isOdd = o
theorem tt_odd {e : Ex} (h : Xt e) (hd : e.deep ≤ 3) : Tt true 0 (.odd e) := by
  have l := h.len3 hd
  have e1 : (("odd " : Str)).length = 4 := by decide +kernel
  exact ⟨⟨h.ok, hd⟩, rfl, strOk_app (by decide +kernel) h.so, by simp only [Ts.txt, Str.length_append, e1]; omega, h.gd, rfl⟩
theorem tt_less {a b : Ex} (h : Xt a) (hd : a.deep ≤ 3) (g : Xt b) (gd : b.deep ≤ 3) : Tt false 0 (.less a b) := by
  have l := h.len3 hd
  have l2 := g.len3 gd
  have e1 : ((" < " : Str)).length = 3 := by decide +kernel
  exact ⟨⟨⟨h.ok, hd⟩, g.ok, gd⟩, rfl, strOk_app (strOk_app h.so (by decide +kernel)) g.so, by simp only [Ts.txt, Str.length_append, e1]; omega, ⟨h.gd, g.gd⟩, rfl⟩
theorem tt_not {o : Bool} {k : Nat} {t : Ts} (h : Tt o k t) : Tt o (k + 1) (.not t) := by
  have l := h.le
  have e1 : (("not " : Str)).length = 4 := by decide +kernel
  exact ⟨h.ok, by simp only [Ts.nots, h.nots], strOk_app (by decide +kernel) h.so, by simp only [Ts.txt, Str.length_append, e1]; omega, h.gd, h.odd⟩
def spTest01 : Sp := fun vs H Q _ => ∃ (a c nm : Addr) (m : Int) (o : Bool) (ns : List Str), vs = [.ref a, .ref nm, .bl o] ∧ Deck H a c m ∧ m ≤ 600000000 ∧ Nm01 H nm a c ns ∧
  ∀ (v : V) (t : Ts) (k : Nat) (H' : Hp) (m' : Int), Tr H' t.d v → Tt o k t → k ≤ 2 → m ≤ m' → m' ≤ m + 200 → Deck H' a c m' → Kp [a, c] H H' → Q v H'
/-- a statement whose line is short, and those within it -/
def Lk (s : Sm) : Prop := (PyData.strOk s.line = true ∧ s.line.length ≤ 300) ∧ s.gdL
mutual
def Sm.tx : Sm → Prop
  | .ite t y n => Lk (.ite t y n) ∧ Sm.txs y ∧ Sm.txs n
  | .rep k b => Lk (.rep k b) ∧ Sm.txs b
  | .set x e => Lk (.set x e)
  | .half x e => Lk (.half x e)
  | .tell e => Lk (.tell e)
  | .say c => Lk (.say c)
  | .stop c => Lk (.stop c)
def Sm.txs : List Sm → Prop
  | [] => True
  | s :: r => s.tx ∧ Sm.txs r
end
theorem txs_app : ∀ {b c : List Sm}, Sm.txs b → Sm.txs c → Sm.txs (b ++ c)
  | [], c, _, h => h
  | s :: r, c, h, g => by
    simp only [Sm.txs, List.cons_append] at h ⊢
    exact ⟨h.1, txs_app h.2 g⟩
theorem oks_app01 : ∀ {b c : List Sm}, Sm.oks b → Sm.oks c → Sm.oks (b ++ c)
  | [], c, _, h => h
  | s :: r, c, h, g => by
    simp only [Sm.oks, List.cons_append] at h ⊢
    exact ⟨h.1, oks_app01 h.2 g⟩
theorem pls_app01 : ∀ b c : List Sm, Sm.pls (b ++ c) = Sm.pls b + Sm.pls c
  | [], c => by simp [Sm.pls]
  | s :: r, c => by simp only [List.cons_append, Sm.pls, pls_app01 r c]; omega
theorem nests_app01 : ∀ b c : List Sm, Sm.nests (b ++ c) = max (Sm.nests b) (Sm.nests c)
  | [], c => by simp [Sm.nests]
  | s :: r, c => by simp only [List.cons_append, Sm.nests, nests_app01 r c]; omega
/-- what is used of what is left -/
structure Used (t : Int) (p w h c : Nat) (l l' : Lf) : Prop where
  p : (p : Int) + l'.p = l.p
  w : t * (w : Int) + l'.w = l.w
  h : t * (h : Int) + l'.h = l.h
  c : t * (c : Int) + l'.c = l.c
  nn : l'.nn
def UsedS (t : Int) (s : Sm) (l l' : Lf) : Prop := Used t s.pl s.wt s.hv s.cp l l'
def UsedB (t : Int) (b : List Sm) (l l' : Lf) : Prop := Used t (Sm.pls b) (Sm.wts b) (Sm.hvs b) (Sm.cps b) l l'
theorem used_nil {t : Int} {l : Lf} (h : l.nn) : UsedB t [] l l := ⟨by simp [Sm.pls], by simp [Sm.wts], by simp [Sm.hvs], by simp [Sm.cps], h⟩
theorem wts_app01 : ∀ b c : List Sm, Sm.wts (b ++ c) = Sm.wts b + Sm.wts c
  | [], c => by simp [Sm.wts]
  | s :: r, c => by simp only [List.cons_append, Sm.wts, wts_app01 r c]; omega
theorem hvs_app01 : ∀ b c : List Sm, Sm.hvs (b ++ c) = Sm.hvs b + Sm.hvs c
  | [], c => by simp [Sm.hvs]
  | s :: r, c => by simp only [List.cons_append, Sm.hvs, hvs_app01 r c]; omega
theorem cps_app01 : ∀ b c : List Sm, Sm.cps (b ++ c) = Sm.cps b + Sm.cps c
  | [], c => by simp [Sm.cps]
  | s :: r, c => by simp only [List.cons_append, Sm.cps, cps_app01 r c]; omega
theorem mul_add01 (t : Int) (a b : Nat) : t * ((a + b : Nat) : Int) = t * (a : Int) + t * (b : Int) := by rw [Int.natCast_add, Int.mul_add]
theorem Used.add {t : Int} {p w h c p' w' h' c' : Nat} {l l' l2 : Lf} (u : Used t p w h c l l') (v : Used t p' w' h' c' l' l2) : Used t (p + p') (w + w') (h + h') (c + c') l l2 := by
  refine ⟨?_, ?_, ?_, ?_, v.nn⟩
  · have := u.p; have := v.p; omega
  · rw [mul_add01]; have := u.w; have := v.w; omega
  · rw [mul_add01]; have := u.h; have := v.h; omega
  · rw [mul_add01]; have := u.c; have := v.c; omega
theorem used_snoc {t : Int} {b : List Sm} {s : Sm} {l l' l2 : Lf} (u : UsedB t b l l') (v : UsedS t s l' l2) : UsedB t (b ++ [s]) l l2 := by
  have h := Used.add u v
  unfold UsedB
  rw [pls_app01, wts_app01, hvs_app01, cps_app01]
  simpa [Sm.pls, Sm.wts, Sm.hvs, Sm.cps] using h
theorem used_leaf {t : Int} {s : Sm} {l0 l1 l2 l3 : Int} (e : s.pl = 1 ∧ s.wt = 1 ∧ s.hv = 0 ∧ s.cp = 0) (h0 : 1 ≤ l0) (h1 : t ≤ l1) (hn : Lf.nn ⟨l0, l1, l2, l3⟩) : UsedS t s ⟨l0, l1, l2, l3⟩ ⟨l0 - 1, l1 - t, l2, l3⟩ := by
  obtain ⟨a1, a2, a3, a4⟩ := hn
  simp only at a1 a2 a3 a4
  refine ⟨?_, ?_, ?_, ?_, ⟨?_, ?_, a3, a4⟩⟩
  · rw [e.1]; show ((1 : Nat) : Int) + (l0 - 1) = l0; omega
  · rw [e.2.1]; show t * ((1 : Nat) : Int) + (l1 - t) = l1; omega
  · rw [e.2.2.1]; show t * ((0 : Nat) : Int) + l2 = l2; omega
  · rw [e.2.2.2]; show t * ((0 : Nat) : Int) + l3 = l3; omega
  · show 0 ≤ l0 - 1; omega
  · show 0 ≤ l1 - t; omega
theorem used_half {t : Int} {x : Str} {e : Ex} {l0 l1 l2 l3 : Int} (h0 : 1 ≤ l0) (h1 : t ≤ l1) (h2 : t ≤ l2) (hn : Lf.nn ⟨l0, l1, l2, l3⟩) : UsedS t (.half x e) ⟨l0, l1, l2, l3⟩ ⟨l0 - 1, l1 - t, l2 - t, l3⟩ := by
  obtain ⟨a1, a2, a3, a4⟩ := hn
  simp only at a1 a2 a3 a4
  refine ⟨?_, ?_, ?_, ?_, ⟨?_, ?_, ?_, a4⟩⟩
  · show ((1 : Nat) : Int) + (l0 - 1) = l0; omega
  · show t * ((1 : Nat) : Int) + (l1 - t) = l1; omega
  · show t * ((1 : Nat) : Int) + (l2 - t) = l2; omega
  · show t * ((0 : Nat) : Int) + l3 = l3; omega
  · show 0 ≤ l0 - 1; omega
  · show 0 ≤ l1 - t; omega
  · show 0 ≤ l2 - t; omega
theorem used_rep {t : Int} {k : Nat} {b : List Sm} {l0 l1 l2 l3 : Int} {l5 : Lf} (u : UsedB (t * (k : Int)) b ⟨l0 - 1, l1 - t, l2, l3⟩ l5) : UsedS t (.rep k b) ⟨l0, l1, l2, l3⟩ l5 := by
  obtain ⟨a1, a2, a3, a4, a5⟩ := u
  simp only at a1 a2 a3 a4
  refine ⟨?_, ?_, ?_, ?_, a5⟩
  · show ((Sm.pl (.rep k b) : Nat) : Int) + l5.p = l0
    simp only [Sm.pl]
    omega
  · show t * ((1 + k * Sm.wts b : Nat) : Int) + l5.w = l1
    rw [mul_add01, Int.natCast_mul, ← Int.mul_assoc]
    omega
  · show t * ((k * Sm.hvs b : Nat) : Int) + l5.h = l2
    rw [Int.natCast_mul, ← Int.mul_assoc]
    omega
  · show t * ((k * Sm.cps b : Nat) : Int) + l5.c = l3
    rw [Int.natCast_mul, ← Int.mul_assoc]
    omega
theorem used_ite {t p0 w0 h0 c0 : Int} {tt : Ts} {y n : List Sm} {lA lB : Lf} (o : Bool) (ho : tt.isOdd = o) (u1 : UsedB t y (if o then ⟨p0, w0, h0 - t, c0⟩ else ⟨p0, w0, h0, c0 - t⟩) lA) (u2 : UsedB t n lA lB) : UsedS t (.ite tt y n) ⟨p0 + 1, w0 + t, h0, c0⟩ lB := by
  have u := Used.add u1 u2
  obtain ⟨a1, a2, a3, a4, a5⟩ := u
  cases o with
  | true =>
    simp only [if_true] at a1 a2 a3 a4
    refine ⟨?_, ?_, ?_, ?_, a5⟩
    · show ((Sm.pl (.ite tt y n) : Nat) : Int) + lB.p = p0 + 1
      simp only [Sm.pl]
      omega
    · show t * ((1 + (Sm.wts y + Sm.wts n) : Nat) : Int) + lB.w = w0 + t
      rw [mul_add01]
      omega
    · show t * (((if tt.isOdd then 1 else 0) + (Sm.hvs y + Sm.hvs n) : Nat) : Int) + lB.h = h0
      rw [ho, if_pos rfl, mul_add01]
      omega
    · show t * (((if tt.isOdd then 0 else 1) + (Sm.cps y + Sm.cps n) : Nat) : Int) + lB.c = c0
      rw [ho, if_pos rfl, Nat.zero_add]
      exact a4
  | false =>
    simp only [Bool.false_eq_true, if_false] at a1 a2 a3 a4
    refine ⟨?_, ?_, ?_, ?_, a5⟩
    · show ((Sm.pl (.ite tt y n) : Nat) : Int) + lB.p = p0 + 1
      simp only [Sm.pl]
      omega
    · show t * ((1 + (Sm.wts y + Sm.wts n) : Nat) : Int) + lB.w = w0 + t
      rw [mul_add01]
      omega
    · show t * (((if tt.isOdd then 1 else 0) + (Sm.hvs y + Sm.hvs n) : Nat) : Int) + lB.h = h0
      rw [ho, if_neg Bool.false_ne_true, Nat.zero_add]
      exact a3
    · show t * (((if tt.isOdd then 0 else 1) + (Sm.cps y + Sm.cps n) : Nat) : Int) + lB.c = c0
      rw [ho, if_neg Bool.false_ne_true, mul_add01]
      omega
/-- the state in which programs are drawn: deck, names, what is left -/
structure Gs01 (H : Hp) (a c nm lf : Addr) (m : Int) (ns : List Str) (l : Lf) : Prop where
  dk : Deck H a c m
  nms : Nm01 H nm a c ns
  lft : H lf = some (.lst l.vs)
  off : lf ∉ [a, c]
theorem Gs01.kpD {H H' : Hp} {a c nm lf : Addr} {m m' : Int} {ns : List Str} {l : Lf} (g : Gs01 H a c nm lf m ns l) (k : Kp [a, c] H H') (D : Deck H' a c m') : Gs01 H' a c nm lf m' ns l := ⟨D, g.nms.kp k, k.keep _ _ g.lft g.off, g.off⟩
theorem Gs01.kp0 {H H' : Hp} {a c nm lf : Addr} {m : Int} {ns : List Str} {l : Lf} (g : Gs01 H a c nm lf m ns l) (k : Kp [] H H') : Gs01 H' a c nm lf m ns l := g.kpD (k.sub (by simp)) (g.dk.kp0 k)
theorem Gs01.ne {H : Hp} {a c nm lf : Addr} {m : Int} {ns : List Str} {l : Lf} (g : Gs01 H a c nm lf m ns l) : nm ≠ lf := by
  have h := g.lft
  refine ne_of g.nms.at_ h fun z => ?_
  have z1 := HO.lst.inj z
  cases ns with
  | nil => cases z1
  | cons x r => cases z1
theorem Gs01.put {H H' : Hp} {a c nm lf : Addr} {m : Int} {ns : List Str} {l l' : Lf} (g : Gs01 H a c nm lf m ns l) (h : H' lf = some (.lst l'.vs)) (k : Kp [lf] H H') : Gs01 H' a c nm lf m ns l' := by
  have oa : a ∉ [lf] ∧ c ∉ [lf] := by
    have := g.off
    simp only [List.mem_cons, List.not_mem_nil, or_false, not_or] at this ⊢
    exact ⟨fun z => this.1 z.symm, fun z => this.2 z.symm⟩
  exact ⟨g.dk.kp k oa.1 oa.2, ⟨k.keep _ _ g.nms.at_ (by simpa using g.ne), g.nms.off, g.nms.ok, g.nms.l0, g.nms.l1⟩, h, g.off⟩
def cB01 : Nat → Int
  | 0 => 0
  | n + 1 => 2 + 5 * (400 + 2 * cB01 n)
theorem cB01_nn : ∀ n, 0 ≤ cB01 n
  | 0 => by decide
  | n + 1 => by have := cB01_nn n; simp only [cB01]; omega
def spBlock01 (n : Nat) : Sp := fun vs H Q _ => ∃ (a c nm lf : Addr) (m depth times : Int) (l0 : Lf) (ns : List Str), vs = [.ref a, .ref nm, .int depth, .int times, .ref lf] ∧ Gs01 H a c nm lf m ns l0 ∧ l0.nn ∧ 0 ≤ depth ∧ depth + (n : Int) = 4 ∧ 1 ≤ n ∧ m + cB01 n ≤ 500000000 ∧
  ∀ (v : V) (b : List Sm) (H' : Hp) (m' : Int) (l0' : Lf), Tr H' (.tuple (Sm.ds b)) v → Sm.oks b → Sm.txs b → Sm.nests b + 1 ≤ n → UsedB times b l0 l0' → m ≤ m' → m' ≤ m + cB01 n → Gs01 H' a c nm lf m' ns l0' → Kp [a, c, lf] H H' → Q v H'
def spStmt01 (n : Nat) : Sp := fun vs H Q _ => ∃ (a c nm lf : Addr) (m depth times : Int) (l0 : Lf) (ns : List Str), vs = [.ref a, .ref nm, .int depth, .int times, .ref lf] ∧ Gs01 H a c nm lf m ns l0 ∧ (1 ≤ l0.p ∧ times ≤ l0.w ∧ l0.nn) ∧ 0 ≤ depth ∧ depth + (n : Int) + 1 = 4 ∧ m + 400 + 2 * cB01 n ≤ 500000000 ∧
  ∀ (v : V) (s : Sm) (H' : Hp) (m' : Int) (l0' : Lf), Tr H' s.d v → s.ok → s.tx → s.nest ≤ n → UsedS times s l0 l0' → m ≤ m' → m' ≤ m + (400 + 2 * cB01 n) → Gs01 H' a c nm lf m' ns l0' → Kp [a, c, lf] H H' → Q v H'
def spIf01 (n : Nat) : Sp := fun vs H Q _ => ∃ (a c nm lf : Addr) (m depth times p0 w0 h0 c0 at_ : Int) (ns : List Str), vs = [.ref a, .ref nm, .int depth, .int times, .ref lf, .int at_] ∧ Gs01 H a c nm lf m ns ⟨p0, w0, h0, c0⟩ ∧ ((at_ = 2 ∧ times ≤ h0) ∨ (at_ = 3 ∧ times ≤ c0)) ∧ Lf.nn ⟨p0, w0, h0, c0⟩ ∧ 0 ≤ depth ∧ depth + (n : Int) + 1 = 4 ∧ 1 ≤ n ∧ m + 300 + 2 * cB01 n ≤ 500000000 ∧
  ∀ (v : V) (s : Sm) (H' : Hp) (m' : Int) (l0' : Lf), Tr H' s.d v → s.ok → s.tx → s.nest ≤ n → UsedS times s ⟨p0 + 1, w0 + times, h0, c0⟩ l0' → m ≤ m' → m' ≤ m + (300 + 2 * cB01 n) → Gs01 H' a c nm lf m' ns l0' → Kp [a, c, lf] H H' → Q v H'
theorem lk_if {o : Bool} {k : Nat} {t : Ts} {y n : List Sm} (h : Tt o k t) (hk : k ≤ 2) : Lk (.ite t y n) := by
  have l := h.le
  have e1 : (("if " : Str)).length = 3 := by decide +kernel
  exact ⟨⟨strOk_app (by decide +kernel) h.so, by simp only [Sm.line, Str.length_append, e1]; omega⟩, h.gd⟩
theorem nmok01 {x : Str} (h : NmG x) : NmOk x := ⟨h.1, by have := h.2.1; omega⟩
theorem lk_set {x : Str} {e : Ex} (hx : NmG x) (h : Xt e) (hd : e.deep ≤ 3) : Lk (.set x e) := by
  have l := h.len3 hd
  have hl := hx.2.1
  have e1 : ((" = " : Str)).length = 3 := by decide +kernel
  exact ⟨⟨strOk_app (strOk_app hx.1 (by decide +kernel)) h.so, by simp only [Sm.line, Str.length_append, e1]; omega⟩, hx.2.2, h.gd⟩
theorem lk_half {x : Str} {e : Ex} (hx : NmG x) (h : Xt e) (hd : e.deep ≤ 3) : Lk (.half x e) := by
  have l := h.len3 hd
  have hl := hx.2.1
  have e1 : ((" = half " : Str)).length = 8 := by decide +kernel
  exact ⟨⟨strOk_app (strOk_app hx.1 (by decide +kernel)) h.so, by simp only [Sm.line, Str.length_append, e1]; omega⟩, hx.2.2, h.gd⟩
theorem lk_tell {e : Ex} (h : Xt e) (hd : e.deep ≤ 3) : Lk (.tell e) := by
  have l := h.len3 hd
  have e1 : (("tell " : Str)).length = 5 := by decide +kernel
  exact ⟨⟨strOk_app (by decide +kernel) h.so, by simp only [Sm.line, Str.length_append, e1]; omega⟩, h.gd⟩
theorem lk_say {c : Str} (h : PyData.strOk c = true ∧ c.length ≤ 20 ∧ wordB (.str c) = true) : Lk (.say c) := by
  have hl := h.2.1
  have e1 : (("say" : Str)).length = 3 ∧ ((" " : Str)).length = 1 := by decide +kernel
  exact ⟨⟨strOk_app (strOk_app (by decide +kernel) (by decide +kernel)) h.1, by simp only [Sm.line, Str.length_append, e1.1, e1.2]; omega⟩, h.2.2⟩
theorem lk_stop {c : Str} (h : PyData.strOk c = true ∧ c.length ≤ 20 ∧ wordB (.str c) = true) : Lk (.stop c) := by
  have hl := h.2.1
  have e1 : (("stop" : Str)).length = 4 ∧ ((" " : Str)).length = 1 := by decide +kernel
  exact ⟨⟨strOk_app (strOk_app (by decide +kernel) (by decide +kernel)) h.1, by simp only [Sm.line, Str.length_append, e1.1, e1.2]; omega⟩, h.2.2⟩
theorem lk_rep {k : Nat} {b : List Sm} (hk : k ≤ 8) : Lk (.rep k b) := by
  have l := iTxt_len (i := (k : Int)) (by omega)
  have e1 : (("repeat" : Str)).length = 6 ∧ ((" " : Str)).length = 1 := by decide +kernel
  exact ⟨⟨strOk_app (strOk_app (by decide +kernel) (by decide +kernel)) (int_strOk _), by simp only [Sm.line, Str.length_append, e1.1, e1.2]; omega⟩, trivial⟩
theorem mem_strs01 {P : Str → Prop} {x : V} : ∀ {l : List Str}, x ∈ l.map V.str → (∀ i ∈ l, P i) → ∃ i, x = .str i ∧ P i := fun {l} h q => by
  obtain ⟨i, hi, rfl⟩ := List.mem_map.mp h
  exact ⟨i, rfl, q i hi⟩
/-! ### all lines are short -/
def Fit (M : Nat) (x : Str) : Prop := PyData.strOk x = true ∧ x.length ≤ M
theorem fit_line {a : Str} {s : Sm} {M : Nat} (h : Lk s) (ha : PyData.strOk a = true) (hM : a.length + 300 ≤ M) : Fit M (a ++ s.line) := ⟨strOk_app ha h.1.1, by rw [Str.length_append]; have := h.1.2; omega⟩
mutual
theorem lns_fit : ∀ (s : Sm) (n : Nat) (a : Str), s.tx → s.nest ≤ n → PyData.strOk a = true → ∀ x ∈ Sm.lns a s, Fit (a.length + 2 * n + 300) x
  | .ite t y nn, n, a, h, hn, ha => by
    obtain ⟨hl, hy, hnn⟩ := h
    simp only [Sm.nest] at hn
    have ha2 : PyData.strOk (a ++ "  ") = true := strOk_app ha (by decide +kernel)
    have la2 : (a ++ "  ").length = a.length + 2 := by rw [Str.length_append, two_len]
    rw [lns_ite]
    intro x hx
    rcases List.mem_cons.mp hx with rfl | hx
    · exact fit_line hl ha (by omega)
    rcases List.mem_append.mp hx with hx | hx
    · unfold partL at hx
      split at hx
      · cases List.mem_singleton.mp hx
        exact ⟨strOk_app ha2 (by decide +kernel), by rw [Str.length_append, la2, show ("pass" : Str).length = 4 by decide +kernel]; omega⟩
      · have := lnss_fit y (n - 1) (a ++ "  ") hy (by omega) ha2 x hx
        exact ⟨this.1, by have h2 := this.2; rw [la2] at h2; omega⟩
    · split at hx
      · cases hx
      · rcases List.mem_cons.mp hx with rfl | hx
        · exact ⟨strOk_app ha (by decide +kernel), by rw [Str.length_append, else_len]; omega⟩
        · have := lnss_fit nn (n - 1) (a ++ "  ") hnn (by omega) ha2 x hx
          exact ⟨this.1, by have h2 := this.2; rw [la2] at h2; omega⟩
  | .rep k b, n, a, h, hn, ha => by
    obtain ⟨hl, hb⟩ := h
    simp only [Sm.nest] at hn
    have ha2 : PyData.strOk (a ++ "  ") = true := strOk_app ha (by decide +kernel)
    have la2 : (a ++ "  ").length = a.length + 2 := by rw [Str.length_append, two_len]
    rw [lns_rep]
    intro x hx
    rcases List.mem_cons.mp hx with rfl | hx
    · exact fit_line hl ha (by omega)
    · unfold partL at hx
      split at hx
      · cases List.mem_singleton.mp hx
        exact ⟨strOk_app ha2 (by decide +kernel), by rw [Str.length_append, la2, show ("pass" : Str).length = 4 by decide +kernel]; omega⟩
      · have := lnss_fit b (n - 1) (a ++ "  ") hb (by omega) ha2 x hx
        exact ⟨this.1, by have h2 := this.2; rw [la2] at h2; omega⟩
  | .set x e, n, a, h, hn, ha => by
    intro y hy
    simp only [Sm.lns, List.mem_singleton] at hy
    rw [hy]
    exact fit_line h ha (by omega)
  | .half x e, n, a, h, hn, ha => by
    intro y hy
    simp only [Sm.lns, List.mem_singleton] at hy
    rw [hy]
    exact fit_line h ha (by omega)
  | .tell e, n, a, h, hn, ha => by
    intro y hy
    simp only [Sm.lns, List.mem_singleton] at hy
    rw [hy]
    exact fit_line h ha (by omega)
  | .say c, n, a, h, hn, ha => by
    intro y hy
    simp only [Sm.lns, List.mem_singleton] at hy
    rw [hy]
    exact fit_line h ha (by omega)
  | .stop c, n, a, h, hn, ha => by
    intro y hy
    simp only [Sm.lns, List.mem_singleton] at hy
    rw [hy]
    exact fit_line h ha (by omega)
theorem lnss_fit : ∀ (b : List Sm) (n : Nat) (a : Str), Sm.txs b → Sm.nests b ≤ n → PyData.strOk a = true → ∀ x ∈ Sm.lnss a b, Fit (a.length + 2 * n + 300) x
  | [], n, a, _, _, _ => by
    intro x hx
    simp only [Sm.lnss] at hx
    cases hx
  | s :: r, n, a, h, hn, ha => by
    simp only [Sm.txs] at h
    simp only [Sm.nests] at hn
    intro x hx
    simp only [Sm.lnss] at hx
    rcases List.mem_append.mp hx with hx | hx
    · exact lns_fit s n a h.1 (by omega) ha x hx
    · exact lnss_fit r n a h.2 (by omega) ha x hx
end
theorem joinS_fit {s : Str} {M : Nat} (hs : PyData.strOk s = true) : ∀ l : List Str, (∀ x ∈ l, Fit M x) → Fit (l.length * (M + s.length)) (Str.join s l)
  | [], _ => ⟨by show PyData.strOk (Str.join s []) = true; rw [show Str.join s [] = Str.ofString "" from rfl]; decide +kernel, by rw [show Str.join s [] = Str.ofString "" from rfl, show (Str.ofString "").length = 0 by decide +kernel]; exact Nat.zero_le _⟩
  | [x], h => by
    have h1 := h x List.mem_cons_self
    exact ⟨h1.1, by have := h1.2; show x.length ≤ _; simp only [List.length_singleton]; omega⟩
  | x :: y :: r, h => by
    have h1 := h x List.mem_cons_self
    have h2 := joinS_fit hs (y :: r) fun z hz => h z (List.mem_cons_of_mem _ hz)
    have e : Str.join s (x :: y :: r) = x ++ s ++ Str.join s (y :: r) := rfl
    rw [e]
    refine ⟨strOk_app (strOk_app h1.1 hs) h2.1, ?_⟩
    have a1 := h1.2
    have a2 := h2.2
    rw [Str.length_append, Str.length_append, List.length_cons, Nat.succ_mul]
    omega
def pText (b : List Sm) : Str := Txt.join "\n" ("program" :: Sm.lnss "" b)
theorem sum_fit {M : Nat} : ∀ l : List Str, (∀ x ∈ l, Fit M x) → (l.map (·.length)).sum ≤ l.length * M
  | [], _ => by simp
  | x :: r, h => by
    have h1 := (h x List.mem_cons_self).2
    have h2 := sum_fit r fun z hz => h z (List.mem_cons_of_mem _ hz)
    simp only [List.map_cons, List.sum_cons, List.length_cons, Nat.succ_mul]
    omega
structure PTx (b : List Sm) : Prop where
  ok : Sm.oks b
  tx : Sm.txs b
  nest : Sm.nests b ≤ 3
  pl : Sm.pls b ≤ 24
  wt : Sm.wts b ≤ 60
  hv : Sm.hvs b ≤ 4
  cp : Sm.cps b ≤ 3
theorem PTx.fit {b : List Sm} (h : PTx b) : ∀ x ∈ ("program" : Str) :: Sm.lnss "" b, Fit 306 x := by
  intro x hx
  rcases List.mem_cons.mp hx with rfl | hx
  · exact ⟨by decide +kernel, by decide +kernel⟩
  · have := lnss_fit b 3 "" h.tx h.nest (by decide +kernel) x hx
    exact ⟨this.1, by have h2 := this.2; rw [show ("" : Str).length = 0 by decide +kernel] at h2; omega⟩
theorem PTx.len {b : List Sm} (h : PTx b) : (("program" : Str) :: Sm.lnss "" b).length ≤ 73 := by
  have h1 := Sm.lnss_len "" b
  have h2 := h.pl
  simp only [List.length_cons]
  omega
theorem nl_len : ("\n" : Str).length = 1 := by decide +kernel
theorem PTx.sum {b : List Sm} (h : PTx b) : ((("program" : Str) :: Sm.lnss "" b).map (·.length)).sum + (("program" : Str) :: Sm.lnss "" b).length * ("\n" : Str).length ≤ 16777216 := by
  have h1 := sum_fit _ h.fit
  have h2 := h.len
  have h3 : (("program" : Str) :: Sm.lnss "" b).length * 306 ≤ 73 * 306 := Nat.mul_le_mul_right _ h2
  rw [nl_len]
  omega
theorem PTx.text {b : List Sm} (h : PTx b) : Fit 22411 (pText b) := by
  have h1 := joinS_fit (s := "\n") (M := 306) (by decide +kernel) _ h.fit
  have h3 : (("program" : Str) :: Sm.lnss "" b).length * 307 ≤ 73 * 307 := Nat.mul_le_mul_right _ h.len
  unfold pText
  rw [TL.join_eq]
  refine ⟨h1.1, Nat.le_trans h1.2 ?_⟩
  rw [nl_len]
  exact h3
def spProg01 : Sp := fun vs H Q _ => ∃ (a c nm : Addr) (m most : Int) (ns : List Str), vs = [.ref a, .ref nm, .int most] ∧ (0 ≤ most ∧ most ≤ 24) ∧ Deck H a c m ∧ m ≤ 400000000 ∧ Nm01 H nm a c ns ∧
  ∀ (v : V) (b : List Sm) (H' : Hp) (m' : Int), Tr H' (.tuple (Sm.ds b)) v → PTx b → m ≤ m' → m' ≤ m + cB01 4 → Deck H' a c m' → Kp [a, c] H H' → Q v H'
def spPText : Sp := fun vs H Q _ => ∃ (v : V) (b : List Sm), vs = [v] ∧ Tr H (.tuple (Sm.ds b)) v ∧ PTx b ∧ ∀ H', Kp [] H H' → Q (.str (pText b)) H'
/-! names that are none of the kept words -/
def KW : List Str := ["half", "tell", "say", "stop", "if", "else", "repeat", "pass", "odd", "not", "program"]
theorem kept_mem {z : Str} (h : inV (.str z) KEPTS = true) : z ∈ KW := by
  have e : ∀ y : Str, eqV (.str y) (.str z) = decide (z = y) := fun y => by
    show (y == z) = _
    rw [Bool.eq_iff_iff, beq_iff_eq, decide_eq_true_iff]
    exact eq_comm
  have e2 : KEPTS = KW.map V.str := rfl
  unfold inV at h
  rw [e2, List.any_map, List.any_eq_true] at h
  obtain ⟨y, hy, h2⟩ := h
  rw [show (((fun x => eqV x (V.str z)) ∘ V.str) y) = decide (z = y) from e y, decide_eq_true_iff] at h2
  exact h2 ▸ hy
theorem name_g {z : Str} {c : Nat} {r : List Nat} (hz : z.cps.toList = c :: r) (hl : z.length ≤ 8) (hc : c ∈ LETS.cps.toList) (hr : ∀ x ∈ r, x ∈ SGNS.cps.toList) (hk : z ∉ KW) : NmG z := by
  have e1 : headB z = true := by
    unfold headB
    rw [hz]
    exact decide_eq_true hc
  have ls : ∀ x ∈ LETS.cps.toList, x ∈ SGNS.cps.toList := by decide +kernel
  have lim : ∀ x ∈ SGNS.cps.toList, x < 0x110000 := by decide +kernel
  have al : ∀ x ∈ z.cps.toList, x ∈ SGNS.cps.toList := by
    rw [hz]
    intro x hx
    rcases List.mem_cons.mp hx with rfl | hx
    · exact ls _ hc
    · exact hr x hx
  have e2 : sgnsB z = true := List.all_eq_true.mpr fun x hx => decide_eq_true (al x hx)
  have e3 : lenB z = true := by
    have l : z.length = r.length + 1 := by
      show z.cps.size = _
      rw [← Array.length_toList, hz]
      rfl
    unfold lenB
    rw [Bool.and_eq_true, decide_eq_true_iff, decide_eq_true_iff]
    omega
  have e4 : inV (.str z) KEPTS = false := Bool.eq_false_iff.mpr fun h => hk (kept_mem h)
  refine ⟨?_, hl, ?_⟩
  · unfold PyData.strOk
    rw [Array.all_eq_true']
    intro x hx
    exact decide_eq_true (lim x (al x (by simpa using hx)))
  · show (lenB z && headB z && sgnsB z && !inV (.str z) KEPTS) = true
    rw [e1, e2, e3, e4]
    rfl
theorem NmG.word {x : Str} (h : NmG x) : wordB (.str x) = true := by
  have h2 : (lenB x && headB x && sgnsB x && !inV (.str x) KEPTS) = true := h.2.2
  show (lenB x && sgnsB x) = true
  rw [Bool.and_eq_true, Bool.and_eq_true, Bool.and_eq_true] at h2
  rw [h2.1.1.1, h2.1.2]
  rfl
end EH
namespace EH
open PySem L2 TL
theorem sIx_nat (n d a : Nat) : HT.sIx n d (some (a : Int)) = min a n := by
  unfold HT.sIx
  simp
  omega
/-! ### reading texts of programs: what the defs compute, on lists of signs -/
def FGS : Str := "0123456789"
def mkS (l : List Nat) : Str := ⟨l.toArray⟩
theorem tl_mkS (l : List Nat) : tl (mkS l) = l := rfl
theorem mkS_tl (z : Str) : mkS (tl z) = z := mk_tl z
theorem mkS_inj {l m : List Nat} (h : mkS l = mkS m) : l = m := congrArg tl h
theorem len_mkS (l : List Nat) : (mkS l).length = l.length := len_tl _
theorem lf_eq : (Str.ofString "abcdefghijklmnopqrstuvwxyz" ++ Str.ofString "0123456789" : Str) = SGNS := by decide +kernel
theorem bad_empty (C : Str) (l : List Nat) : (List.map (fun c => V.str ⟨#[c]⟩) (l.filter fun c => !decide (c ∈ C.cps.toList))).isEmpty = l.all fun c => decide (c ∈ C.cps.toList) := by
  induction l with
  | nil => rfl
  | cons c r ih =>
    cases hc : decide (c ∈ C.cps.toList) with
    | true =>
      rw [List.filter_cons_of_neg (by rw [hc]; simp), List.all_cons, hc, ih]
      rfl
    | false =>
      rw [List.filter_cons_of_pos (by rw [hc]; rfl), List.all_cons, hc]
      rfl
def figB (c : Nat) : Bool := decide (c ∈ FGS.cps.toList)
theorem figB_iff {c : Nat} : figB c = true ↔ 48 ≤ c ∧ c ≤ 57 := by
  have e : FGS.cps.toList = [48, 49, 50, 51, 52, 53, 54, 55, 56, 57] := by decide +kernel
  unfold figB
  rw [decide_eq_true_iff, e]
  simp only [List.mem_cons, List.not_mem_nil, or_false]
  omega
def wordT (m : Int) (z : Str) : Bool := (decide (1 ≤ (z.length : Int)) && decide ((z.length : Int) ≤ m)) && sgnsB z
def nameT (z : Str) : Bool := wordT 8 z && (headB z && !inV (.str z) KEPTS)
theorem nameT_eq (z : Str) : nameT z = nameB (.str z) := by
  show (((decide (1 ≤ (z.length : Int)) && decide ((z.length : Int) ≤ 8)) && sgnsB z) && (headB z && !inV (.str z) KEPTS)) = ((decide (1 ≤ (z.length : Int)) && decide ((z.length : Int) ≤ 8)) && headB z && sgnsB z && !inV (.str z) KEPTS)
  generalize decide (1 ≤ (z.length : Int)) = a
  generalize decide ((z.length : Int) ≤ 8) = b
  generalize sgnsB z = c
  generalize headB z = d
  generalize (!inV (.str z) KEPTS) = e
  cases a <;> cases b <;> cases c <;> cases d <;> cases e <;> rfl
/-- the figures of what may be a number -/
def figsL (l : List Nat) : List Nat := if l.head? = some 45 then l.tail else l
def dv (l : List Nat) : Int := ((NumText.digitsVal l : Nat) : Int)
def intL (m : Nat) (l : List Nat) : Option Int :=
  if (figsL l).length < 1 ∨ m < (figsL l).length ∨ (figsL l).all figB = false then none
  else if (figsL l).head? = some 48 ∧ l ≠ [48] then none
  else some (if l.head? = some 45 then - dv (figsL l) else dv (figsL l))
theorem intL_text {l : List Nat} {m : Nat} {i : Int} (hm : m ≤ 600) (h : intL m l = some i) : PySem.intText? (mkS l) = some i ∧ (mkS l).length ≤ 640 := by
  unfold intL at h
  split at h
  · cases h
  · rename_i h1
    split at h
    · cases h
    · cases h
      simp only [not_or, Nat.not_lt] at h1
      obtain ⟨a, b, c⟩ := h1
      have c : NumText.AllDigits (figsL l) := fun d hd => figB_iff.mp (List.all_eq_true.mp (by simpa using c) d hd)
      cases l with
      | nil => simp [figsL] at a
      | cons d r =>
        by_cases e : d = 45
        · subst e
          have ef : figsL (45 :: r) = r := by simp [figsL]
          rw [ef] at a b c ⊢
          rw [if_pos (show (45 :: r).head? = some 45 from rfl)]
          have ll : (mkS (45 :: r)).length ≤ 640 := by rw [len_mkS, List.length_cons]; omega
          exact ⟨PySem.intText_neg (x := mkS (45 :: r)) (cs := r) rfl c (by rintro rfl; simp at a) (by omega), ll⟩
        · have ef : figsL (d :: r) = d :: r := by simp [figsL, e]
          rw [ef] at a b c ⊢
          rw [if_neg (by simpa using e)]
          have ll : (mkS (d :: r)).length ≤ 640 := by rw [len_mkS]; omega
          exact ⟨PySem.intText_digits (x := mkS (d :: r)) c (List.cons_ne_nil _ _) (by omega), ll⟩
/-! ### slices and beginnings, on lists of signs -/
theorem cut_from (z : Str) (a : Nat) : cutS z (some (a : Int)) none = mkS ((tl z).drop a) := by
  have e1 : HT.sIx z.length 0 (some (a : Int)) = min a z.length := sIx_nat _ _ _
  refine ext_tl ?_
  unfold cutS mkS
  simp only [e1]
  show ((tl z).drop (min a z.length)).take (z.length - min a z.length) = (tl z).drop a
  rw [len_tl]
  rcases Nat.le_total a (tl z).length with h | h
  · rw [Nat.min_eq_left h, List.take_of_length_le (by rw [List.length_drop]; exact Nat.le_refl _)]
  · rw [Nat.min_eq_right h, Nat.sub_self, List.take_zero, List.drop_eq_nil_of_le h]
theorem cut_mid (z : Str) {a b : Nat} (h : a ≤ b) : cutS z (some (a : Int)) (some (b : Int)) = mkS (((tl z).drop a).take (b - a)) := by
  have e1 : HT.sIx z.length 0 (some (a : Int)) = min a z.length := sIx_nat _ _ _
  have e2 : HT.sIx z.length z.length (some (b : Int)) = min b z.length := sIx_nat _ _ _
  refine ext_tl ?_
  unfold cutS mkS
  simp only [e1, e2]
  show ((tl z).drop (min a z.length)).take (min b z.length - min a z.length) = ((tl z).drop a).take (b - a)
  rw [len_tl]
  rcases Nat.le_total a (tl z).length with h1 | h1
  · rw [Nat.min_eq_left h1]
    rcases Nat.le_total b (tl z).length with h2 | h2
    · rw [Nat.min_eq_left h2]
    · rw [Nat.min_eq_right h2, List.take_of_length_le (by rw [List.length_drop]; exact Nat.le_refl _), List.take_of_length_le (by rw [List.length_drop]; omega)]
  · rw [Nat.min_eq_right h1, Nat.min_eq_right (by omega), Nat.sub_self, List.take_zero, List.drop_eq_nil_of_le h1, List.take_nil]
theorem take1_head (c : Nat) : ∀ l : List Nat, l.take 1 = [c] ↔ l.head? = some c
  | [] => by simp
  | d :: r => by simp
theorem starts_pre (x y : Str) (hy : tl y ≠ []) : Txt.startswith x y = pre (tl y) (tl x) := by
  have h := at_iff (x := x) hy 0
  rw [List.drop_zero] at h
  rw [Bool.eq_iff_iff, ← h]
  unfold Txt.startswith StrLaws.At
  rw [Bool.and_eq_true, decide_eq_true_iff]
theorem str_lit {l m : List Nat} {x : Str} (h : tl x = m) : decide (V.str (mkS l) = V.str x) = decide (l = m) := by
  refine decide_eq_decide.mpr ⟨fun e => ?_, fun e => ?_⟩
  · have := congrArg tl (V.str.inj e)
    rw [← h, ← this, tl_mkS]
  · rw [← mkS_tl x, h, e]
theorem pre_one (c : Nat) : ∀ l : List Nat, pre [c] l = decide (l.head? = some c)
  | [] => by simp [pre]
  | d :: r => by
    rw [Bool.eq_iff_iff]
    simp [pre]
theorem figs_str (z : Str) : (if Txt.startswith z "-" = true then cutS z (some 1) none else z) = mkS (figsL (tl z)) := by
  have e0 : tl (Str.ofString "-") = [45] := by decide +kernel
  rw [starts_pre z "-" (by rw [e0]; simp), e0, pre_one]
  unfold figsL
  by_cases h : (tl z).head? = some 45
  · rw [if_pos (decide_eq_true h), if_pos h]
    exact (cut_from z 1).trans (by rw [List.drop_one])
  · rw [if_neg (by simpa using h), if_neg h, mkS_tl]
theorem figs_len (l : List Nat) : (figsL l).length ≤ l.length := by
  unfold figsL
  split
  · rw [List.length_tail]; omega
  · exact Nat.le_refl _
/-! ### expressions -/
def tokB (c : Nat) : Bool := !(c == 32 || c == 41 || c == 40)
def tokL (l : List Nat) : List Nat := l.takeWhile tokB
def atomL (l : List Nat) : Option (Ex × Nat) := match intL 20 (tokL l) with
  | some i => some (.num i, (tokL l).length)
  | none => if nameT (mkS (tokL l)) then some (.var (mkS (tokL l)), (tokL l).length) else none
def isNum : Ex → Option Int
  | .num i => some i
  | _ => none
def opL (w : List Nat) (one : Ex) (two : Ex) : Option Ex :=
  if w = [32, 43, 32] then some (.plus one two)
  else if w = [32, 45, 32] then some (.minus one two)
  else if w = [32, 42, 32] then (isNum one).map fun k => .times k two
  else none
def opB (w : List Nat) (one : Ex) : Bool := w = [32, 43, 32] || w = [32, 45, 32] || (w = [32, 42, 32] && (isNum one).isSome)
def pE : Nat → List Nat → Option (Ex × Nat)
  | 0, _ => none
  | n + 1, l => if l.head? = some 40 then
      match pE n (l.drop 1) with
      | none => none
      | some (one, k) =>
        if opB ((l.drop (1 + k)).take 3) one then
          match pE n (l.drop (1 + k + 3)) with
          | none => none
          | some (two, m) => if (l.drop (1 + k + 3 + m)).head? = some 41 then (opL ((l.drop (1 + k)).take 3) one two).map fun e => (e, 1 + k + 3 + m + 1) else none
        else none
    else atomL l
theorem atomL_le {l : List Nat} {e : Ex} {k : Nat} (h : atomL l = some (e, k)) : k ≤ l.length := by
  have ht : (tokL l).length ≤ l.length := (List.takeWhile_prefix tokB).length_le
  unfold atomL at h
  split at h
  · cases h; exact ht
  · split at h
    · cases h; exact ht
    · cases h
theorem head_drop_lt {l : List Nat} {i c : Nat} (h : (l.drop i).head? = some c) : i < l.length := by
  rcases Nat.lt_or_ge i l.length with z | z
  · exact z
  · rw [List.drop_eq_nil_of_le z] at h
    cases h
theorem pE_le : ∀ {n : Nat} {l : List Nat} {e : Ex} {k : Nat}, pE n l = some (e, k) → k ≤ l.length
  | 0, l, e, k, h => by cases h
  | n + 1, l, e, k, h => by
    rw [pE] at h
    split at h
    · split at h
      · cases h
      · split at h
        · split at h
          · cases h
          · split at h
            · rename_i h4
              obtain ⟨e', _, h5⟩ := Option.map_eq_some_iff.mp h
              cases h5
              exact head_drop_lt h4
            · cases h
        · cases h
    · exact atomL_le h
/-- an expression, all of the text -/
def pX (l : List Nat) : Option Ex := match pE 20 l with
  | some (e, k) => if k = l.length then some e else none
  | none => none
/-! ### tests -/
def NOTL : List Nat := [110, 111, 116, 32]
def ODDL : List Nat := [111, 100, 100, 32]
def LESSL : List Nat := [32, 60, 32]
def HALFL : List Nat := [104, 97, 108, 102, 32]
def EQL : List Nat := [61, 32]
def pP (l : List Nat) : Option Ts :=
  if pre ODDL l then (pX (l.drop 4)).map .odd
  else match pE 20 l with
  | none => none
  | some (e, k) => if (l.drop k).take 3 = LESSL then (pX (l.drop (k + 3))).map (.less e) else none
/-- how many "not " stand ahead, and what follows -/
def notsL : Nat → List Nat → Nat × List Nat
  | 0, l => (0, l)
  | n + 1, l => if pre NOTL l then ((notsL n (l.drop 4)).1 + 1, (notsL n (l.drop 4)).2) else (0, l)
def nots : Nat → Ts → Ts
  | 0, t => t
  | n + 1, t => .not (nots n t)
theorem notsL_fuel : ∀ {n m : Nat} {l : List Nat}, l.length ≤ n → l.length ≤ m → notsL n l = notsL m l
  | 0, 0, l, _, _ => rfl
  | 0, m + 1, l, h, _ => by
    obtain rfl : l = [] := List.eq_nil_of_length_eq_zero (by omega)
    rfl
  | n + 1, 0, l, _, h => by
    obtain rfl : l = [] := List.eq_nil_of_length_eq_zero (by omega)
    rfl
  | n + 1, m + 1, l, h1, h2 => by
    have e : l ≠ [] → (l.drop 4).length ≤ n ∧ (l.drop 4).length ≤ m := fun hn => by
      have := List.length_pos_iff.mpr hn
      rw [List.length_drop]
      omega
    by_cases h : l = []
    · subst h; rfl
    · obtain ⟨a, b⟩ := e h
      rw [notsL, notsL, notsL_fuel a b]
def notsF (l : List Nat) : Nat × List Nat := notsL l.length l
theorem notsF_step {l : List Nat} (h : pre NOTL l = true) : notsF l = ((notsF (l.drop 4)).1 + 1, (notsF (l.drop 4)).2) ∧ (l.drop 4).length < l.length := by
  cases l with
  | nil => cases h
  | cons c r =>
    have hl : ((c :: r).drop 4).length ≤ r.length := by rw [List.length_drop, List.length_cons]; omega
    have e : notsL r.length ((c :: r).drop 4) = notsF ((c :: r).drop 4) := notsL_fuel hl (Nat.le_refl _)
    refine ⟨?_, by rw [List.length_cons]; omega⟩
    show notsL (r.length + 1) (c :: r) = _
    rw [notsL, if_pos h, e]
theorem notsF_stop {l : List Nat} (h : pre NOTL l = false) : notsF l = (0, l) := by
  cases l with
  | nil => rfl
  | cons c r =>
    show notsL (r.length + 1) (c :: r) = _
    rw [notsL, if_neg (by rw [h]; exact Bool.false_ne_true)]
def pT (l : List Nat) : Option Ts := match pP (notsF l).2 with
  | none => none
  | some t => if 20 < (notsF l).1 then none else some (nots (notsF l).1 t)
/-! ### lines -/
def setL (x : Str) (l : List Nat) : Option (List PyData) :=
  if nameT x && pre EQL l then
    if pre HALFL (l.drop 2) then (pX ((l.drop 2).drop 5)).map fun e => [.str "half", .str x, e.d]
    else (pX (l.drop 2)).map fun e => [.str "set", .str x, e.d]
  else none
def wd (l : List Nat) : Str := mkS (l.takeWhile fun c => c != 32)
def rst (l : List Nat) : List Nat := (l.dropWhile fun c => c != 32).drop 1
def pS (l : List Nat) : Option (List PyData) :=
  if wd l = "say" ∨ wd l = "stop" then (if wordT 8 (mkS (rst l)) then some [.str (wd l), .str (mkS (rst l))] else none)
  else if wd l = "tell" then (pX (rst l)).map fun e => [.str "tell", e.d]
  else if wd l = "if" then (pT (rst l)).map fun t => [.str "if", t.d]
  else if wd l = "repeat" then (intL 20 (rst l)).map fun i => [.str "repeat", .int i]
  else setL (wd l) (rst l)
theorem tok_at : ∀ {l : List Nat} {j : Nat}, j < (tokL l).length → ∃ c, l[j]? = some c ∧ tokB c = true
  | [], j, h => by simp [tokL] at h
  | d :: r, j, h => by
    unfold tokL at h
    by_cases e : tokB d = true
    · rw [List.takeWhile_cons_of_pos e] at h
      cases j with
      | zero => exact ⟨d, rfl, e⟩
      | succ j => exact tok_at (l := r) (by simpa [tokL] using h)
    · rw [List.takeWhile_cons_of_neg e] at h
      simp at h
theorem tok_end : ∀ {l : List Nat} {c : Nat}, l[(tokL l).length]? = some c → tokB c = false
  | [], c, h => by simp [tokL] at h
  | d :: r, c, h => by
    unfold tokL at h
    by_cases e : tokB d = true
    · rw [List.takeWhile_cons_of_pos e] at h
      exact tok_end (l := r) (by simpa [tokL] using h)
    · rw [List.takeWhile_cons_of_neg e] at h
      simp at h
      subst h
      simpa using e
theorem tok_take (l : List Nat) : l.take (tokL l).length = tokL l := List.prefix_iff_eq_take.mp (List.takeWhile_prefix tokB) |>.symm
theorem tok_len (l : List Nat) : (tokL l).length ≤ l.length := (List.takeWhile_prefix tokB).length_le
theorem tok_in (c : Nat) : inV (.str ⟨#[c]⟩) [.str (Str.ofString " "), .str (Str.ofString ")"), .str (Str.ofString "(")] = !tokB c := by
  have e : ∀ (d : Nat) (x : Str), tl x = [d] → (eqV (.str x) (.str ⟨#[c]⟩)) = (c == d) := fun d x h => by
    rw [show x = mkS [d] from (mkS_tl x).symm.trans (by rw [h])]
    rw [Bool.eq_iff_iff]
    show ((mkS [d] == mkS [c]) = true) ↔ _
    rw [beq_iff_eq, beq_iff_eq]
    exact ⟨fun z => by have := mkS_inj z; simpa using this.symm, fun z => by rw [z]⟩
  unfold inV tokB
  rw [List.any_cons, List.any_cons, List.any_cons, List.any_nil, e 32 _ (by decide +kernel), e 41 _ (by decide +kernel), e 40 _ (by decide +kernel)]
  simp [Bool.or_assoc]
/-! ### the words of the signs -/
def opW (w : List Nat) : Str := if w = [32, 43, 32] then "plus" else if w = [32, 45, 32] then "minus" else if w = [32, 42, 32] then "times" else ""
def WKEYS : List Str := [" + ", " - ", " * "]
def WdOk (K : PySem.W.Frag) (w : World) (a : Addr) : Prop := KD K w a ∧ KDct K w a " + " (.str "plus") ∧ KDct K w a " - " (.str "minus") ∧ KDct K w a " * " (.str "times") ∧ ∀ x, x ∉ WKEYS → KMiss K w a x
theorem p_lit : mkS [32, 43, 32] = " + " := by decide +kernel
theorem m_lit : mkS [32, 45, 32] = " - " := by decide +kernel
theorem t_lit : mkS [32, 42, 32] = " * " := by decide +kernel
theorem WdOk.get {K : PySem.W.Frag} {w : World} {a : Addr} (h : WdOk K w a) (l : List Nat) : KDct K w a (mkS l) (.str (opW l)) ∨ (KMiss K w a (mkS l) ∧ opW l = "") := by
  obtain ⟨_, h1, h2, h3, h4⟩ := h
  unfold opW
  by_cases e1 : l = [32, 43, 32]
  · rw [if_pos e1, e1, p_lit]; exact .inl h1
  · rw [if_neg e1]
    by_cases e2 : l = [32, 45, 32]
    · rw [if_pos e2, e2, m_lit]; exact .inl h2
    · rw [if_neg e2]
      by_cases e3 : l = [32, 42, 32]
      · rw [if_pos e3, e3, t_lit]; exact .inl h3
      · rw [if_neg e3]
        refine .inr ⟨h4 _ fun z => ?_, rfl⟩
        unfold WKEYS at z
        simp only [List.mem_cons, List.not_mem_nil, or_false] at z
        rw [← p_lit, ← m_lit, ← t_lit] at z
        rcases z with z | z | z
        · exact e1 (mkS_inj z)
        · exact e2 (mkS_inj z)
        · exact e3 (mkS_inj z)
/-- what an operator makes of two expressions -/
theorem opB_data {w : List Nat} {one : Ex} (h : opB w one = true) : opW w ≠ "" ∧ w.length = 3 ∧ ∀ two, ∃ e, opL w one two = some e ∧ e.d = .tuple [.str (opW w), one.d, two.d] := by
  unfold opB at h
  unfold opW opL
  by_cases e1 : w = [32, 43, 32]
  · subst e1
    exact ⟨by decide +kernel, rfl, fun two => ⟨_, by rw [if_pos rfl], by rw [if_pos rfl]; rfl⟩⟩
  · rw [if_neg e1]
    by_cases e2 : w = [32, 45, 32]
    · subst e2
      exact ⟨by decide +kernel, rfl, fun two => ⟨_, by rw [if_neg e1, if_pos rfl], by rw [if_pos rfl]; rfl⟩⟩
    · rw [if_neg e2]
      by_cases e3 : w = [32, 42, 32]
      · subst e3
        cases one with
        | num i => exact ⟨by decide +kernel, rfl, fun two => ⟨.times i two, rfl, rfl⟩⟩
        | var x => simp [isNum] at h
        | plus a b => simp [isNum] at h
        | minus a b => simp [isNum] at h
        | times a b => simp [isNum] at h
      · simp [e1, e2, e3] at h
theorem tw_all {p : Nat → Bool} : ∀ {l : List Nat}, (∀ c ∈ l, p c = true) → l.takeWhile p = l ∧ l.dropWhile p = []
  | [], _ => ⟨rfl, rfl⟩
  | c :: r, h => by
    obtain ⟨a, b⟩ := tw_all (l := r) fun d hd => h d (List.mem_cons_of_mem _ hd)
    rw [List.takeWhile_cons_of_pos (h c List.mem_cons_self), List.dropWhile_cons_of_pos (h c List.mem_cons_self), a]
    exact ⟨rfl, b⟩
/-! ### the first blank of a line -/
theorem par_32 : ∀ (l acc : List Nat), par [32] acc l = if 32 ∈ l then some (acc ++ l.takeWhile (fun c => c != 32), (l.dropWhile fun c => c != 32).drop 1) else none
  | [], acc => by simp [par]
  | c :: r, acc => by
    by_cases h : c = 32
    · subst h
      rw [par_hit (by simp [pre])]
      simp
    · rw [par_miss (pre_of_head [] r h), par_32 r]
      have e : (c != 32) = true := by simpa using h
      rw [List.takeWhile_cons_of_pos (p := fun c => c != 32) e, List.dropWhile_cons_of_pos (p := fun c => c != 32) e]
      by_cases m : 32 ∈ r
      · rw [if_pos m, if_pos (List.mem_cons_of_mem _ m)]
        simp
      · rw [if_neg m, if_neg (by simp only [List.mem_cons, not_or]; exact ⟨fun z => h z.symm, m⟩)]
theorem part_line (z : Str) : (Txt.partition z " ").1 = wd (tl z) ∧ (Txt.partition z " ").2.2 = mkS (rst (tl z)) := by
  have e32 : tl (Str.ofString " ") = [32] := by decide +kernel
  rw [partition_par z " " (by rw [e32]; simp), e32, par_32]
  by_cases h : 32 ∈ tl z
  · rw [if_pos h]
    exact ⟨by unfold wd mkS; simp, rfl⟩
  · rw [if_neg h]
    obtain ⟨e1, e2⟩ := tw_all (p := fun c => c != 32) (l := tl z) fun c hc => by
      have : c ≠ 32 := fun e => h (e ▸ hc)
      simpa using this
    refine ⟨?_, ?_⟩
    · show z = wd (tl z)
      unfold wd
      rw [e1, mkS_tl]
    · show Str.empty = mkS (rst (tl z))
      unfold rst
      rw [e2]
      rfl
theorem inV2 (x a b : Str) : inV (.str x) [.str a, .str b] = decide (x = a ∨ x = b) := by
  have e : ∀ y : Str, eqV (.str y) (.str x) = decide (x = y) := fun y => by
    show (y == x) = _
    rw [Bool.eq_iff_iff, beq_iff_eq, decide_eq_true_iff]
    exact eq_comm
  unfold inV
  rw [List.any_cons, List.any_cons, List.any_nil, e, e, Bool.or_false, ← Bool.decide_or]
theorem inV3 (x a b c : Str) : inV (.str x) [.str a, .str b, .str c] = decide (x = a ∨ x = b ∨ x = c) := by
  have e : ∀ y : Str, eqV (.str y) (.str x) = decide (x = y) := fun y => by
    show (y == x) = _
    rw [Bool.eq_iff_iff, beq_iff_eq, decide_eq_true_iff]
    exact eq_comm
  unfold inV
  rw [List.any_cons, List.any_cons, List.any_cons, List.any_nil, e, e, e, Bool.or_false, ← Bool.decide_or, ← Bool.decide_or]
theorem ex_non {H : Hp} {e : Ex} {v : V} (h : Tr H e.d v) : decide (v = V.non) = false := by
  cases e with
  | num i => cases tr_int h; rfl
  | var x => cases tr_str h; rfl
  | plus a b => obtain ⟨u, _, _, _, rfl, _⟩ := tr_tup3 (show Tr H (.tuple [.str "plus", a.d, b.d]) v from h); rfl
  | minus a b => obtain ⟨u, _, _, _, rfl, _⟩ := tr_tup3 (show Tr H (.tuple [.str "minus", a.d, b.d]) v from h); rfl
  | times a b => obtain ⟨u, _, _, _, rfl, _⟩ := tr_tup3 (show Tr H (.tuple [.str "times", .int a, b.d]) v from h); rfl
theorem ts_ref {H : Hp} {e : Ts} {v : V} (h : Tr H e.d v) : ∃ u, v = .ref u := by
  cases e with
  | less a b => obtain ⟨u, _, _, _, rfl, _⟩ := tr_tup3 (show Tr H (.tuple [.str "less", a.d, b.d]) v from h); exact ⟨u, rfl⟩
  | odd a => obtain ⟨u, _, _, rfl, _⟩ := tr_tup2 (show Tr H (.tuple [.str "odd", a.d]) v from h); exact ⟨u, rfl⟩
  | not a => obtain ⟨u, _, _, rfl, _⟩ := tr_tup2 (show Tr H (.tuple [.str "not", a.d]) v from h); exact ⟨u, rfl⟩
/-! ### promises of the walk -/
def spWordT : Sp := fun vs H Q _ => ∃ (z : Str) (m : Int), vs = [.str z, .int m] ∧ z.length ≤ 1000000 ∧ ∀ H', Kp [] H H' → Q (.bl (wordT m z)) H'
def spNameT : Sp := fun vs H Q _ => ∃ z : Str, vs = [.str z] ∧ z.length ≤ 1000000 ∧ ∀ H', Kp [] H H' → Q (.bl (nameT z)) H'
def oI : Option Int → V
  | none => .non
  | some i => .int i
def spIntT : Sp := fun vs H Q _ => ∃ (z : Str) (mi : Int) (m : Nat), vs = [.str z, .int mi] ∧ mi = (m : Int) ∧ m ≤ 600 ∧ z.length ≤ 1000000 ∧ ∀ H', Kp [] H H' → Q (oI (intL m (tl z))) H'
def exO : Option (Ex × Nat) → PyData
  | none => .none
  | some (e, k) => .tuple [e.d, .int (k : Int)]
def shO (a : Nat) (o : Option (Ex × Nat)) : Option (Ex × Nat) := o.map fun p => (p.1, a + p.2)
def spEAt (n : Nat) : Sp := fun vs H Q _ => ∃ (z : Str) (ai : Int) (a : Nat) (deep : Int), vs = [.str z, .int ai, .int deep] ∧ ai = (a : Int) ∧ z.length ≤ 1000000 ∧ a ≤ z.length ∧ deep + (n : Int) = 21 ∧
  ∀ (t : V) (H' : Hp), Tr H' (exO (shO a (pE n ((tl z).drop a)))) t → Kp [] H H' → Q t H'
def spSumAt (n : Nat) : Sp := fun vs H Q _ => ∃ (z : Str) (ai : Int) (a : Nat) (deep : Int), vs = [.str z, .int ai, .int deep] ∧ ai = (a : Int) ∧ z.length ≤ 1000000 ∧ ((tl z).drop a).head? = some 40 ∧ deep + 1 + (n : Int) = 21 ∧
  ∀ (t : V) (H' : Hp), Tr H' (exO (shO a (pE (n + 1) ((tl z).drop a)))) t → Kp [] H H' → Q t H'
def eO : Option Ex → PyData
  | none => .none
  | some e => e.d
def spX : Sp := fun vs H Q _ => ∃ z : Str, vs = [.str z] ∧ z.length ≤ 1000000 ∧ ∀ (t : V) (H' : Hp), Tr H' (eO (pX (tl z))) t → Kp [] H H' → Q t H'
def tO : Option Ts → PyData
  | none => .none
  | some e => e.d
def spPlainT : Sp := fun vs H Q _ => ∃ z : Str, vs = [.str z] ∧ z.length ≤ 1000000 ∧ ∀ (t : V) (H' : Hp), Tr H' (tO (pP (tl z))) t → Kp [] H H' → Q t H'
def spTestOf : Sp := fun vs H Q _ => ∃ z : Str, vs = [.str z] ∧ z.length ≤ 1000000 ∧ ∀ (t : V) (H' : Hp), Tr H' (tO (pT (tl z))) t → Kp [] H H' → Q t H'
def sO : Option (List PyData) → PyData
  | none => .none
  | some ds => .tuple ds
def spSetting : Sp := fun vs H Q _ => ∃ x z : Str, vs = [.str x, .str z] ∧ x.length ≤ 1000000 ∧ z.length ≤ 1000000 ∧ ∀ (t : V) (H' : Hp), Tr H' (sO (setL x (tl z))) t → Kp [] H H' → Q t H'
def spStmtOf : Sp := fun vs H Q _ => ∃ z : Str, vs = [.str z] ∧ z.length ≤ 1000000 ∧ ∀ (t : V) (H' : Hp), Tr H' (sO (pS (tl z))) t → Kp [] H H' → Q t H'
/-! ### the reader: blocks that are open, the innermost first -/
structure Pt where
  kind : Str
  head : List PyData
  rows : List PyData
  over : Bool
def lacks (p : Pt) : Bool := !decide (p.kind = "program") && (p.rows.isEmpty && !p.over)
/-- what an else makes of the statement ahead of it -/
def elseD (b : List PyData) : PyData → PyData
  | .tuple ds => .tuple (ds.take 3 ++ [.tuple b])
  | d => d
def clz1 (p o : Pt) : Pt :=
  if p.kind = "else" then ⟨o.kind, o.head, o.rows.dropLast ++ (o.rows.getLast?.map (elseD p.rows)).toList, o.over⟩
  else if p.kind = "if" then ⟨o.kind, o.head, o.rows ++ [.tuple (p.head ++ [.tuple p.rows, .tuple []])], o.over⟩
  else ⟨o.kind, o.head, o.rows ++ [.tuple (p.head ++ [.tuple p.rows])], o.over⟩
theorem clz1_same (p o : Pt) : (clz1 p o).kind = o.kind ∧ (clz1 p o).head = o.head ∧ (clz1 p o).over = o.over := by
  unfold clz1
  split
  · exact ⟨rfl, rfl, rfl⟩
  · split <;> exact ⟨rfl, rfl, rfl⟩
theorem clz1_len (p o : Pt) : (clz1 p o).rows.length ≤ o.rows.length + 1 := by
  unfold clz1
  split
  · show (o.rows.dropLast ++ (o.rows.getLast?.map (elseD p.rows)).toList).length ≤ _
    rw [List.length_append, List.length_dropLast]
    have : (o.rows.getLast?.map (elseD p.rows)).toList.length ≤ 1 := by cases o.rows.getLast?.map (elseD p.rows) <;> simp
    omega
  · split
    · show (o.rows ++ [_]).length ≤ _
      rw [List.length_append, List.length_singleton]
      exact Nat.le_refl _
    · show (o.rows ++ [_]).length ≤ _
      rw [List.length_append, List.length_singleton]
      exact Nat.le_refl _
def clz : List Pt → List Pt
  | p :: o :: r => clz1 p o :: r
  | st => st
theorem clz1_kind (p o : Pt) : (clz1 p o).kind = o.kind := by
  unfold clz1
  split
  · rfl
  · split <;> rfl
/-- so many blocks are ended; the kind of the last one -/
def comeTo : Nat → List Pt → Str → List Pt × Str
  | 0, st, k => (st, k)
  | n + 1, p :: r, _ => comeTo n (clz (p :: r)) p.kind
  | _ + 1, [], k => ([], k)
def kwD : List PyData → Str
  | .str w :: _ => w
  | _ => ""
def putP : List Pt → Option (List PyData) → Option (List Pt)
  | _, none => none
  | [], some _ => none
  | p :: r, some ds => if kwD ds = "if" ∨ kwD ds = "repeat" then some (⟨kwD ds, ds, [], false⟩ :: p :: r) else some ({ p with rows := p.rows ++ [.tuple ds] } :: r)
def restL (l : List Nat) : List Nat := l.dropWhile fun c => c == 32
def blanks (l : List Nat) : Nat := l.length - (restL l).length
def topLacks : List Pt → Bool
  | p :: _ => lacks p
  | [] => false
def PASSL : List Nat := [112, 97, 115, 115]
def ELSEL : List Nat := [101, 108, 115, 101]
def readP (st : List Pt) (l : List Nat) : Option (List Pt) :=
  if blanks l % 2 = 1 ∨ st.length - 1 < blanks l / 2 ∨ (topLacks st = true ∧ blanks l / 2 ≠ st.length - 1) then none
  else
    if restL l = ELSEL ∧ (comeTo (st.length - 1 - blanks l / 2) st "").2 = "if" then some (⟨"else", [], [], false⟩ :: (comeTo (st.length - 1 - blanks l / 2) st "").1)
    else match (comeTo (st.length - 1 - blanks l / 2) st "").1 with
      | [] => none
      | p :: r =>
        if restL l = PASSL then (if topLacks st = true ∧ p.kind ≠ "else" then some ({ p with over := true } :: r) else none)
        else if p.over then none else putP (p :: r) (pS (restL l))
def st0 : List Pt := [⟨"program", [], [], false⟩]
/-- the lines behind the head; the number of the first wrong one -/
def readsP : List Pt → Nat → List (List Nat) → List Pt ⊕ Nat
  | st, _, [] => .inl st
  | st, n, l :: r => match readP st l with
    | some st' => readsP st' (n + 1) r
    | none => .inr n
inductive PRes02 where
  | text (n : Nat)
  | rows (ds : List PyData)
def progL : List Nat := [112, 114, 111, 103, 114, 97, 109]
def parseL (ls : List (List Nat)) : PRes02 := match ls with
  | [] => .text 0
  | h :: r => if h ≠ progL then .text 0 else match readsP st0 1 r with
    | .inr n => .text n
    | .inl st => if topLacks st = true then .text (r.length + 1) else match (comeTo (st.length - 1) st "").1 with
      | [p] => .rows p.rows
      | _ => .rows []
/-! ### the else of a block stands behind an if -/
def EndT (p : Pt) : Prop := ∃ r0 ds, p.rows = r0 ++ [.tuple ds]
def StOk : List Pt → Prop
  | [] => True
  | p :: r => (∀ o r', r = o :: r' → (p.kind = "else" → EndT o)) ∧ StOk r
theorem StOk.clz : ∀ {st : List Pt}, StOk st → StOk (EH.clz st)
  | [], h => h
  | [p], h => h
  | p :: o :: r, h => by
    have ho := h.2
    obtain ⟨h1, h2⟩ := ho
    exact ⟨fun o' r' e he => h1 o' r' e (by rw [← clz1_kind p o]; exact he), h2⟩
theorem clz_top {p o : Pt} {r : List Pt} (h : StOk (p :: o :: r)) : EndT (clz1 p o) := by
  unfold clz1
  by_cases e : p.kind = "else"
  · obtain ⟨r0, ds, hr⟩ := h.1 o r rfl e
    rw [if_pos e]
    refine ⟨r0, ds.take 3 ++ [.tuple p.rows], ?_⟩
    show o.rows.dropLast ++ (o.rows.getLast?.map (elseD p.rows)).toList = _
    rw [hr, List.dropLast_concat, List.getLast?_concat]
    rfl
  · rw [if_neg e]
    by_cases e2 : p.kind = "if"
    · rw [if_pos e2]
      exact ⟨_, _, rfl⟩
    · rw [if_neg e2]
      exact ⟨_, _, rfl⟩
theorem comeTo_add : ∀ (j : Nat) (st : List Pt) (k : Str), j + 2 ≤ st.length → comeTo (j + 1) st k = (clz (comeTo j st k).1, ((comeTo j st k).1.head?.map Pt.kind).getD "") ∧ (comeTo j st k).1.length + j = st.length
  | 0, p :: r, k, h => ⟨rfl, rfl⟩
  | 0, [], k, h => by simp at h
  | j + 1, [], k, h => by simp at h
  | j + 1, [p], k, h => by simp at h
  | j + 1, p :: o :: r, k, h => by
    obtain ⟨e1, e2⟩ := comeTo_add j (clz1 p o :: r) p.kind (by simp at h ⊢; omega)
    refine ⟨?_, ?_⟩
    · show comeTo (j + 1) (clz1 p o :: r) p.kind = _
      exact e1
    · show (comeTo j (clz1 p o :: r) p.kind).1.length + (j + 1) = _
      rw [List.length_cons] at e2 ⊢
      rw [List.length_cons]
      omega
theorem comeTo_len : ∀ (j : Nat) (st : List Pt) (k : Str), j + 1 ≤ st.length → (comeTo j st k).1.length + j = st.length
  | 0, st, k, h => rfl
  | j + 1, [], k, h => by simp at h
  | j + 1, [p], k, h => by simp at h
  | j + 1, p :: o :: r, k, h => by
    have e2 := comeTo_len j (clz1 p o :: r) p.kind (by simp at h ⊢; omega)
    show (comeTo j (clz1 p o :: r) p.kind).1.length + (j + 1) = _
    rw [List.length_cons] at e2 ⊢
    rw [List.length_cons]
    omega
theorem comeTo_end : ∀ {j : Nat} {st : List Pt} {k : Str}, StOk st → j ≠ 0 → j + 1 ≤ st.length → ∃ o q, (comeTo j st k).1 = o :: q ∧ EndT o
  | 0, st, k, ok, hz, h => absurd rfl hz
  | j + 1, [], k, ok, hz, h => by simp at h
  | j + 1, [p], k, ok, hz, h => by simp at h
  | j + 1, p :: o :: r, k, ok, hz, h => by
    show ∃ o' q, (comeTo j (clz1 p o :: r) p.kind).1 = o' :: q ∧ EndT o'
    by_cases e : j = 0
    · subst e
      exact ⟨_, _, rfl, clz_top ok⟩
    · exact comeTo_end (StOk.clz ok) e (by simp at h ⊢; omega)
theorem comeTo_ok : ∀ (j : Nat) {st : List Pt} {k : Str}, StOk st → StOk (comeTo j st k).1
  | 0, st, k, h => h
  | j + 1, [], k, h => h
  | j + 1, p :: r, k, h => comeTo_ok j (st := clz (p :: r)) (StOk.clz h)
/-! ### the reader in the heap -/
structure PdR where
  p : Addr
  dx : Addr
  r : Addr
structure PtAt (C : Addr) (H : Hp) (a : PdR) (P : Pt) : Prop where
  ob : ∃ hv, H a.p = some (.ins C a.dx [("kind", .str P.kind), ("head", hv), ("rows", .ref a.r), ("is_over", .bl P.over)]) ∧ Tr H (.tuple P.head) hv
  rw : ∃ vs, H a.r = some (.lst vs) ∧ TrAll H P.rows vs
theorem PtAt.kp {C : Addr} {S : List Addr} {H H' : Hp} {a : PdR} {P : Pt} (h : PtAt C H a P) (k : Kp S H H') (n1 : a.p ∉ S) (n2 : a.r ∉ S) : PtAt C H' a P := by
  obtain ⟨hv, h1, h2⟩ := h.ob
  obtain ⟨vs, g1, g2⟩ := h.rw
  exact ⟨⟨hv, k.keep _ _ h1 n1, k.tr h2⟩, ⟨vs, k.keep _ _ g1 n2, k.trAll g2⟩⟩
def ownR : List PdR → List Addr
  | [] => []
  | a :: r => a.p :: a.r :: ownR r
structure RdAt (CR C : Addr) (H : Hp) (x dx L : Addr) (as : List PdR) (st : List Pt) (n : Nat) : Prop where
  ob : H x = some (.ins CR dx [("blocks_open", .ref L)])
  ls : H L = some (.lst (as.reverse.map fun a => V.ref a.p))
  pts : Paired (PtAt C H) as st
  nd : (x :: L :: ownR as).Nodup
  rl : ∀ P ∈ st, P.rows.length ≤ n ∧ P.head.length ≤ 3
  sl : st.length ≤ n + 1
theorem ptsKp {C : Addr} {S : List Addr} {H H' : Hp} (k : Kp S H H') : ∀ {as : List PdR} {st : List Pt}, Paired (PtAt C H) as st → (∀ b ∈ ownR as, b ∉ S) → Paired (PtAt C H') as st
  | _, _, .nil, _ => .nil
  | _, _, .cons h t, d => .cons (h.kp k (d _ (by simp [ownR])) (d _ (by simp [ownR]))) (ptsKp k t fun b hb => d b (by simp only [ownR, List.mem_cons]; exact .inr (.inr hb)))
theorem RdAt.kp {CR C : Addr} {S : List Addr} {H H' : Hp} {x dx L : Addr} {as : List PdR} {st : List Pt} {n : Nat} (h : RdAt CR C H x dx L as st n) (k : Kp S H H') (d : ∀ b ∈ x :: L :: ownR as, b ∉ S) : RdAt CR C H' x dx L as st n :=
  ⟨k.keep _ _ h.ob (d _ (by simp)), k.keep _ _ h.ls (d _ (by simp)), ptsKp k h.pts fun b hb => d b (by simp [hb]), h.nd, h.rl, h.sl⟩
theorem RdAt.kp0 {CR C : Addr} {H H' : Hp} {x dx L : Addr} {as : List PdR} {st : List Pt} {n : Nat} (h : RdAt CR C H x dx L as st n) (k : Kp [] H H') : RdAt CR C H' x dx L as st n := h.kp k fun _ _ z => nomatch z
theorem RdAt.mono {CR C : Addr} {H : Hp} {x dx L : Addr} {as : List PdR} {st : List Pt} {n m : Nat} (h : RdAt CR C H x dx L as st n) (l : n ≤ m) : RdAt CR C H x dx L as st m :=
  ⟨h.ob, h.ls, h.pts, h.nd, fun P hP => ⟨Nat.le_trans (h.rl P hP).1 l, (h.rl P hP).2⟩, Nat.le_trans h.sl (by omega)⟩
theorem RdAt.someR {CR C : Addr} {H : Hp} {x dx L : Addr} {as : List PdR} {st : List Pt} {n : Nat} (h : RdAt CR C H x dx L as st n) : ∀ b ∈ x :: L :: ownR as, ∃ o, H b = some o := by
  intro b hb
  rcases List.mem_cons.mp hb with rfl | hb
  · exact ⟨_, h.ob⟩
  rcases List.mem_cons.mp hb with rfl | hb
  · exact ⟨_, h.ls⟩
  have key : ∀ {as : List PdR} {st : List Pt}, Paired (PtAt C H) as st → b ∈ ownR as → ∃ o, H b = some o := by
    intro as st p hb
    induction p with
    | nil => cases hb
    | cons h t ih =>
      obtain ⟨hv, h1, _⟩ := h.ob
      obtain ⟨vs, g1, _⟩ := h.rw
      simp only [ownR, List.mem_cons] at hb
      rcases hb with rfl | rfl | hb
      · exact ⟨_, h1⟩
      · exact ⟨_, g1⟩
      · exact ih hb
  exact key h.pts hb
theorem ixN_last {n : Nat} : ixN (n + 1) (-1) = some n := by
  unfold ixN
  rw [if_neg (by decide), if_pos (by omega)]
  congr 1
  omega
theorem atI_last02 {α : Type} (xs : List α) (v : α) : atI (xs ++ [v]) (-1) = some v := by
  unfold atI
  rw [List.length_append, List.length_singleton, ixN_last]
  show (xs ++ [v])[xs.length]? = some v
  rw [List.getElem?_append_right (Nat.le_refl _), Nat.sub_self]
  rfl
theorem set_last {α : Type} (xs : List α) (u v : α) : (xs ++ [u]).set xs.length v = xs ++ [v] := by
  rw [List.set_append_right _ _ (Nat.le_refl _), Nat.sub_self]
  rfl
theorem trAll_take {H : Hp} : ∀ (n : Nat) {ds : List PyData} {vs : List V}, TrAll H ds vs → TrAll H (ds.take n) (vs.take n)
  | 0, ds, vs, h => by rw [List.take_zero, List.take_zero]; exact trs_nil
  | n + 1, [], vs, h => by
    simp only [TrAll] at h
    subst h
    rw [List.take_nil, List.take_nil]
    exact trs_nil
  | n + 1, d :: ds, vs, h => by
    simp only [TrAll] at h
    obtain ⟨v, r, rfl, h1, h2⟩ := h
    rw [List.take_succ_cons, List.take_succ_cons]
    exact trs_cons h1 (trAll_take n h2)
/-! promises -/
def spPartInit (C : Addr) : Sp := fun vs H Q _ => ∃ (x dx : Addr) (k : Str) (hv : V) (ds : List PyData), vs = [.ref x, .str k, hv] ∧ H x = some (.ins C dx []) ∧ Tr H (.tuple ds) hv ∧
  ∀ (r : Addr) (H' : Hp), H r = none → PtAt C H' ⟨x, dx, r⟩ ⟨k, ds, [], false⟩ → Kp [x] H H' → Q .non H'
def spLacks (C : Addr) : Sp := fun vs H Q _ => ∃ (a : PdR) (P : Pt), vs = [.ref a.p] ∧ PtAt C H a P ∧ P.rows.length ≤ 1000000 ∧ ∀ H', Kp [] H H' → Q (.bl (lacks P)) H'
def spRdInit (CR C : Addr) : Sp := fun vs H Q _ => ∃ (x dx : Addr), vs = [.ref x] ∧ H x = some (.ins CR dx []) ∧
  ∀ (L : Addr) (a : PdR) (H' : Hp), RdAt CR C H' x dx L [a] st0 0 → (∀ b ∈ L :: ownR [a], H b = none) → Kp [x] H H' → Q .non H'
def spClose (CR C : Addr) : Sp := fun vs H Q _ => ∃ (x dx L : Addr) (a b : PdR) (as : List PdR) (P O : Pt) (st : List Pt) (n : Nat), vs = [.ref x] ∧ RdAt CR C H x dx L (a :: b :: as) (P :: O :: st) n ∧ StOk (P :: O :: st) ∧ n ≤ 900000 ∧
  ∀ H', RdAt CR C H' x dx L (b :: as) (clz (P :: O :: st)) (n + 1) → Kp (x :: L :: ownR (a :: b :: as)) H H' → Q (.str P.kind) H'
def spCome (CR C : Addr) : Sp := fun vs H Q _ => ∃ (x dx L : Addr) (as : List PdR) (st : List Pt) (n d : Nat) (di : Int), vs = [.ref x, .int di] ∧ di = (d : Int) ∧ RdAt CR C H x dx L as st n ∧ StOk st ∧ n ≤ 800000 ∧ st.length ≤ 10000 ∧ 1 ≤ st.length ∧
  ∀ (as' : List PdR) (H' : Hp), RdAt CR C H' x dx L as' (comeTo (st.length - 1 - d) st "").1 (n + st.length) → (∀ b ∈ ownR as', b ∈ ownR as) → Kp (x :: L :: ownR as) H H' → Q (.str (comeTo (st.length - 1 - d) st "").2) H'
theorem RdAt.push {CR C : Addr} {H H4 H5 : Hp} {x dx L y dy r' : Addr} {as : List PdR} {st : List Pt} {n : Nat} {P0 : Pt} (R : RdAt CR C H x dx L as st n) (hy : H y = none) (hr : H r' = none) (k4 : Kp [] H H4) (pt : PtAt C H4 ⟨y, dy, r'⟩ P0)
    (k5 : Kp [L] H4 H5) (l5 : H5 L = some (.lst ((as.reverse.map fun a => V.ref a.p) ++ [V.ref y]))) (lp : P0.rows.length ≤ n + 1 ∧ P0.head.length ≤ 3) : RdAt CR C H5 x dx L (⟨y, dy, r'⟩ :: as) (P0 :: st) (n + 1) := by
  have fy : ∀ b ∈ x :: L :: ownR as, b ≠ y ∧ b ≠ r' := fun b hb => by
    obtain ⟨o', ho⟩ := R.someR b hb
    exact ⟨ne_of_none ho hy, ne_of_none ho hr⟩
  obtain ⟨hv, oby, thy⟩ := pt.ob
  obtain ⟨vsy, rwy, tvy⟩ := pt.rw
  have nyr : y ≠ r' := ne_of oby rwy (fun z => by cases z)
  have nxL : x ≠ L := fun z => (List.nodup_cons.mp R.nd).1 (by simp [z])
  have fL := fy L (by simp)
  refine ⟨k5.keep _ _ (k4.at R.ob) (ne1 nxL), by rw [l5]; simp, .cons (pt.kp k5 (ne1 fL.1.symm) (ne1 fL.2.symm)) (ptsKp k5 (ptsKp k4 R.pts fun _ _ => by simp) fun b hb => ne1 fun z => ?_), ?_, fun P' hP' => ?_, ?_⟩
  · subst z
    exact (List.nodup_cons.mp (List.nodup_cons.mp R.nd).2).1 hb
  · have n0 := R.nd
    rw [List.nodup_cons, List.nodup_cons] at n0 ⊢
    obtain ⟨n1, n2, n3⟩ := n0
    refine ⟨fun hb => ?_, fun hb => ?_, ?_⟩
    · have hx := fy x (by simp)
      simp only [ownR, List.mem_cons] at hb n1
      rcases hb with z | z | z | z
      · exact n1 (.inl z)
      · exact hx.1 z
      · exact hx.2 z
      · exact n1 (.inr z)
    · simp only [ownR, List.mem_cons] at hb
      rcases hb with z | z | z
      · exact fL.1 z
      · exact fL.2 z
      · exact n2 z
    · show (y :: r' :: ownR as).Nodup
      rw [List.nodup_cons, List.nodup_cons]
      refine ⟨fun hb => ?_, fun hb => ?_, n3⟩
      · rcases List.mem_cons.mp hb with z | z
        · exact nyr z
        · exact (fy y (by simp [z])).1 rfl
      · exact (fy r' (by simp [hb])).2 rfl
  · rcases List.mem_cons.mp hP' with rfl | hP'
    · exact lp
    · obtain ⟨z1, z2⟩ := R.rl P' hP'
      exact ⟨by omega, z2⟩
  · have := R.sl
    rw [List.length_cons]
    omega
theorem RdAt.over {CR C : Addr} {H H' : Hp} {x dx L : Addr} {a : PdR} {as : List PdR} {p : Pt} {st : List Pt} {n : Nat} {hv : V} {b : Bool} (R : RdAt CR C H x dx L (a :: as) (p :: st) n) (t : Tr H (.tuple p.head) hv) (k : Kp [a.p] H H') (o : H' a.p = some (.ins C a.dx [("kind", .str p.kind), ("head", hv), ("rows", .ref a.r), ("is_over", .bl b)])) : RdAt CR C H' x dx L (a :: as) ({ p with over := b } :: st) n := by
  have nd := R.nd
  simp only [ownR, List.nodup_cons, List.mem_cons, not_or] at nd
  obtain ⟨vs, g1, g2⟩ := (by cases R.pts with | cons h t => exact h.rw : ∃ vs, H a.r = some (.lst vs) ∧ TrAll H p.rows vs)
  have pr : Paired (PtAt C H) as st := by cases R.pts with | cons h t => exact t
  refine ⟨k.keep _ _ R.ob (ne1 nd.1.2.1), k.keep _ _ R.ls (ne1 nd.2.1.1), .cons ⟨⟨hv, o, k.tr t⟩, ⟨vs, k.keep _ _ g1 (ne1 fun z => nd.2.2.1.1 z.symm), k.trAll g2⟩⟩ (ptsKp k pr fun y hy => ne1 fun z => nd.2.2.1.2 (z ▸ hy)), R.nd, fun P' hP' => ?_, R.sl⟩
  rcases List.mem_cons.mp hP' with rfl | hP'
  · exact R.rl p (by simp)
  · exact R.rl P' (by simp [hP'])
theorem drop_tw {α : Type} (p : α → Bool) : ∀ l : List α, l.drop (l.takeWhile p).length = l.dropWhile p
  | [] => rfl
  | c :: r => by
    by_cases h : p c = true
    · rw [List.takeWhile_cons_of_pos h, List.dropWhile_cons_of_pos h, List.length_cons, List.drop_succ_cons]
      exact drop_tw p r
    · rw [List.takeWhile_cons_of_neg h, List.dropWhile_cons_of_neg h]
      rfl
theorem lstrip32 (z : Str) : Txt.lstripChars z " " = mkS (restL (tl z)) := by
  have e0 : (Str.ofString " ").cps = #[32] := by decide +kernel
  have ef : ((Str.ofString " ").cps.contains : Nat → Bool) = fun c => c == 32 := by
    funext c
    rw [e0, Bool.eq_iff_iff]
    simp
  unfold Txt.lstripChars
  rw [PyProof.Rows.stripBy_eq, ef]
  refine ext_tl ?_
  show tl (Builtin.Str.strSub z (z.cps.toList.takeWhile fun c => c == 32).length z.length) = tl (mkS (restL (tl z)))
  rw [tl_strSub_end, tl_mkS]
  unfold restL
  show (tl z).drop ((tl z).takeWhile fun c => c == 32).length = _
  exact drop_tw _ _
theorem restL_le (l : List Nat) : (restL l).length ≤ l.length := (List.dropWhile_suffix _).length_le
theorem pS_form {l : List Nat} {ds : List PyData} (h : pS l = some ds) : ∃ w r, ds = .str w :: r ∧ ds.length ≤ 3 := by
  unfold pS at h
  have key : ∀ {α : Type} {o : Option α} {f : α → List PyData}, o.map f = some ds → (∀ x, ∃ w r, f x = .str w :: r ∧ (f x).length ≤ 3) → ∃ w r, ds = .str w :: r ∧ ds.length ≤ 3 := fun {α o f} e g => by
    obtain ⟨x, _, rfl⟩ := Option.map_eq_some_iff.mp e
    exact g x
  split at h
  · split at h
    · cases h
      exact ⟨_, _, rfl, by simp⟩
    · cases h
  · split at h
    · exact key h fun x => ⟨_, _, rfl, by simp⟩
    · split at h
      · exact key h fun x => ⟨_, _, rfl, by simp⟩
      · split at h
        · exact key h fun x => ⟨_, _, rfl, by simp⟩
        · unfold setL at h
          split at h
          · split at h
            · exact key h fun x => ⟨_, _, rfl, by simp⟩
            · exact key h fun x => ⟨_, _, rfl, by simp⟩
          · cases h
def FmS (o : Option (List PyData)) : Prop := ∀ ds, o = some ds → ∃ w r, ds = .str w :: r ∧ ds.length ≤ 3
def spPut (CR C : Addr) : Sp := fun vs H Q _ => ∃ (x dx L : Addr) (as : List PdR) (st : List Pt) (n : Nat) (sv : V) (o : Option (List PyData)), vs = [.ref x, sv] ∧ RdAt CR C H x dx L as st n ∧ st ≠ [] ∧ n ≤ 900000 ∧ Tr H (sO o) sv ∧ FmS o ∧
  (o = none → Q (.bl false) H) ∧ ∀ (st' : List Pt) (as' : List PdR) (H' : Hp), putP st o = some st' → RdAt CR C H' x dx L as' st' (n + 1) → (∀ b ∈ ownR as', b ∈ ownR as ∨ H b = none) → Kp (x :: L :: ownR as) H H' → Q (.bl true) H'
def spRead (CR C : Addr) : Sp := fun vs H Q _ => ∃ (x dx L : Addr) (as : List PdR) (st : List Pt) (n : Nat) (z : Str), vs = [.ref x, .str z] ∧ RdAt CR C H x dx L as st n ∧ StOk st ∧ 1 ≤ st.length ∧ st.length ≤ 10000 ∧ n ≤ 700000 ∧ z.length ≤ 1000000 ∧
  (readP st (tl z) = none → ∀ H', Kp (x :: L :: ownR as) H H' → Q (.bl false) H') ∧
  ∀ (st' : List Pt) (as' : List PdR) (H' : Hp), readP st (tl z) = some st' → RdAt CR C H' x dx L as' st' (n + st.length + 1) → (∀ b ∈ ownR as', b ∈ ownR as ∨ H b = none) → Kp (x :: L :: ownR as) H H' → Q (.bl true) H'
theorem pi_enumS {X : Cx} {K : PySem.W.Frag} {e : Expr} {ta : TA} {p pos tpos : Pos} {elts : List Expr} {kk : Nat} (hK : X.K = K) (hg : Gl X "enumerate") (hm : X.mg "enumerate" = none) (ha : PA X [e] ta) (hs : starEach [e] X.env = [(false, eval e X.env)] := by rfl) :
    PI X (.Tuple elts kk tpos) (.Call (.Name "enumerate" p) [e] [] pos) (iEnum K ta) := hK ▸ pi_enum hg hm ha hs
theorem for_enumS {K : PySem.W.Frag} {a : Addr} {xs : List V} {g : TG} {tb : TS} {D : Ends} {σ : L2.St} {H : Hp} (Pv : Nat → L2.St → Hp → Prop) (h0 : Pv 0 σ H) (hl : ∀ i σ H, i ≤ xs.length → Pv i σ H → SqL K H a xs)
    (hs : ∀ i x σ H T, xs[i]? = some x → Pv i σ H → H T = none → g (.ref T) σ (upd H T (.tup [.int (i : Nat), x])) fun σ2 H2 => tb { D with nx := Pv (i + 1), ct := Pv (i + 1), bk := D.nx } σ2 H2) (hd : ∀ σ H, Pv xs.length σ H → D.nx σ H) :
    ∃ W : Nat → Nat → L2.St → Hp → Prop, (∃ m, W 0 m σ H) ∧ ∀ i m σ H, W i m σ H →
      ((Ite K a).stop i H ∧ D.nx σ H) ∨ ((Ite K a).go i H ∧ ∃ N : L2.St → Hp → Prop, (∀ σ' H', N σ' H' → ∃ m', m' < m ∧ W (i + 1) m' σ' H') ∧ ∀ x H', (Ite K a).yld i H x H' → g x σ H' fun σ2 H2 => tb { D with nx := N, ct := N, bk := D.nx } σ2 H2) := by
  refine ⟨fun i m σ H => m = xs.length - i ∧ i ≤ xs.length ∧ Pv i σ H, ⟨xs.length, by simp, Nat.zero_le _, h0⟩, ?_⟩
  rintro i m σ H ⟨rfl, hi, p⟩
  have q := hl i σ H hi p
  by_cases hlt : i < xs.length
  · refine .inr ⟨⟨xs, xs[i], q, by simp [hlt]⟩, Pv (i + 1), fun σ' H' p' => ⟨xs.length - (i + 1), by omega, rfl, hlt, p'⟩, fun v H' y => ?_⟩
    obtain ⟨T, x, rfl, hT, rfl, hx⟩ := y
    exact hs i x σ H T (hx xs (q)) p hT
  · have e : i = xs.length := by omega
    subst e
    exact .inl ⟨⟨xs, q, Nat.le_refl _⟩, hd σ H p⟩
theorem readP_ok {st st' : List Pt} {l : List Nat} (ok : StOk st) (h1 : 1 ≤ st.length) (e : readP st l = some st') : StOk st' ∧ 1 ≤ st'.length ∧ st'.length ≤ st.length + 1 := by
  unfold readP at e
  split at e
  · cases e
  · have clen := comeTo_len (st.length - 1 - blanks l / 2) st "" (by omega)
    have okC := comeTo_ok (st.length - 1 - blanks l / 2) (k := "") ok
    have cend : st.length - 1 - blanks l / 2 ≠ 0 → ∃ o q, (comeTo (st.length - 1 - blanks l / 2) st "").1 = o :: q ∧ EndT o := fun hz => comeTo_end ok hz (by omega)
    have ck0 : st.length - 1 - blanks l / 2 = 0 → (comeTo (st.length - 1 - blanks l / 2) st "").2 = "" := fun hz => by rw [hz]; rfl
    generalize comeTo (st.length - 1 - blanks l / 2) st "" = C at e clen okC cend ck0
    obtain ⟨st3, kk⟩ := C
    dsimp only at e clen okC cend ck0
    split at e
    · rename_i hE
      cases e
      refine ⟨⟨fun o r' er _ => ?_, okC⟩, by simp, by simp only [List.length_cons]; omega⟩
      have hz : st.length - 1 - blanks l / 2 ≠ 0 := fun hz => by
        rw [ck0 hz] at hE
        exact absurd hE.2 (by decide)
      obtain ⟨o2, q, e2, h2⟩ := cend hz
      rw [e2] at er
      cases er
      exact h2
    · cases st3 with
      | nil => cases e
      | cons p r =>
        dsimp only at e
        rw [List.length_cons] at clen
        split at e
        · split at e
          · cases e
            exact ⟨⟨okC.1, okC.2⟩, by simp, by rw [List.length_cons]; omega⟩
          · cases e
        · split at e
          · cases e
          · revert e
            cases pS (restL l) with
            | none => intro e; cases e
            | some ds =>
              intro e
              unfold putP at e
              dsimp only at e
              split at e
              · rename_i hk
                cases e
                refine ⟨⟨fun o r' er ek => ?_, okC⟩, by simp, by rw [List.length_cons, List.length_cons]; omega⟩
                have ek : kwD ds = "else" := ek
                rw [ek] at hk
                rcases hk with z | z
                · exact absurd z (by decide)
                · exact absurd z (by decide)
              · cases e
                exact ⟨⟨okC.1, okC.2⟩, by simp, by rw [List.length_cons]; omega⟩
def rdTo : List Pt → List (List Nat) → Option (List Pt)
  | st, [] => some st
  | st, l :: r => (readP st l).bind fun s => rdTo s r
theorem rdTo_app : ∀ (a b : List (List Nat)) (st : List Pt), rdTo st (a ++ b) = (rdTo st a).bind fun s => rdTo s b
  | [], b, st => rfl
  | l :: a, b, st => by
    show (readP st l).bind (fun s => rdTo s (a ++ b)) = ((readP st l).bind fun s => rdTo s a).bind fun s => rdTo s b
    cases readP st l with
    | none => rfl
    | some s => exact rdTo_app a b s
theorem rdTo_ok : ∀ {r : List (List Nat)} {st st' : List Pt}, StOk st → 1 ≤ st.length → rdTo st r = some st' → StOk st' ∧ 1 ≤ st'.length ∧ st'.length ≤ st.length + r.length
  | [], st, st', ok, h1, h => by
    cases h
    exact ⟨ok, h1, Nat.le_refl _⟩
  | l :: r, st, st', ok, h1, h => by
    unfold rdTo at h
    obtain ⟨s, e1, e2⟩ := Option.bind_eq_some_iff.mp h
    obtain ⟨a1, a2, a3⟩ := readP_ok ok h1 e1
    obtain ⟨b1, b2, b3⟩ := rdTo_ok a1 a2 e2
    exact ⟨b1, b2, by rw [List.length_cons]; omega⟩
theorem st0_ok : StOk st0 := ⟨fun o r' e => (nomatch e), trivial⟩
theorem rdTo_take {r : List (List Nat)} {st st' : List Pt} (h : rdTo st r = some st') (i : Nat) : ∃ s, rdTo st (r.take i) = some s := by
  rw [← List.take_append_drop i r, rdTo_app] at h
  obtain ⟨s, e, _⟩ := Option.bind_eq_some_iff.mp h
  exact ⟨s, e⟩
theorem comeTo_one {st : List Pt} (h : 1 ≤ st.length) : ∃ p, (comeTo (st.length - 1) st "").1 = [p] := by
  have := comeTo_len (st.length - 1) st "" (by omega)
  generalize (comeTo (st.length - 1) st "").1 = C at this ⊢
  match C, this with
  | [p], _ => exact ⟨p, rfl⟩
  | [], z => simp at z; omega
  | p :: q :: r, z => simp at z; omega
/-- a text whose lines make a program that is right -/
structure TxtP (z : Str) (ds : List PyData) : Prop where
  len : z.length ≤ 900000
  ls : (Txt.split z "\n").length ≤ 700
  le : ∀ l ∈ Txt.split z "\n", l.length ≤ 1000000
  rd : parseL ((Txt.split z "\n").map tl) = .rows ds
  sz : Szd (.tuple ds) ∧ dsz (.tuple ds) ≤ 1000000
  ok : ∀ e, PErr (.tuple ds) e → e = .none
/-- a text of fitting sizes -/
structure TxtZ (z : Str) : Prop where
  ne : Txt.split z "\n" ≠ []
  len : z.length ≤ 900000
  ls : (Txt.split z "\n").length ≤ 700
  le : ∀ l ∈ Txt.split z "\n", l.length ≤ 1000000
/-- what is read of a text: the number of the first wrong line, or rows whose program is right or wrong -/
def spParseE (CT CP : Addr) : Sp := fun vs H Q E => ∃ (z : Str), vs = [.str z] ∧ TxtZ z ∧
  (∀ n : Nat, parseL ((Txt.split z "\n").map tl) = .text n → ∀ (d : Addr) (H' : Hp), H d = none → H' d = some (.xd [("line", .int (n : Int))]) → Kp [] H H' → E (.ref CT) (some d) H') ∧
  (∀ ds, parseL ((Txt.split z "\n").map tl) = .rows ds → Szd (.tuple ds) ∧ dsz (.tuple ds) ≤ 1000000 ∧ ∀ e, PErr (.tuple ds) e →
    (e = .none → ∀ (t : V) (H' : Hp), Tr H' (.tuple ds) t → Kp [] H H' → Q t H') ∧
    (e ≠ .none → ∀ (d : Addr) (ev : V) (H' : Hp), H d = none → Tr H' e ev → H' d = some (.xd [("error", ev)]) → Kp [] H H' → E (.ref CP) (some d) H'))
/-! ### what is written is read again: numbers, names -/
theorem numL_head (n : Nat) : (numL n).head? = some 48 → n = 0 := by
  induction n using Nat.strongRecOn with
  | _ n ih =>
    intro h
    by_cases h10 : n < 10
    · rw [numL_lt h10] at h
      simp at h
      omega
    · rw [numL_step (by omega)] at h
      have hne := numL_ne (n / 10)
      have e : (numL (n / 10) ++ [48 + n % 10]).head? = (numL (n / 10)).head? := by
        cases hq : numL (n / 10) with
        | nil => exact absurd hq hne
        | cons a b => rfl
      rw [e] at h
      have := ih (n / 10) (by omega) h
      omega
theorem iTxt_nn (n : Nat) : tl (iTxt (n : Int)) = numL n := tl_num n
theorem iTxt_neg (n : Nat) : tl (iTxt (Int.negSucc n)) = 45 :: numL (n + 1) := by
  have e := tl_num (n + 1)
  rw [tl_ofString] at e
  unfold iTxt
  rw [tl_ofString]
  show ("-" ++ toString (n + 1)).toList.map Char.toNat = _
  rw [String.toList_append, List.map_append]
  have e' : (toString (n + 1)).toList.map Char.toNat = numL (n + 1) := e
  rw [e']
  rfl
theorem numL_figs (n : Nat) : (numL n).all figB = true := List.all_eq_true.mpr fun c hc => figB_iff.mpr (numL_digits n c hc)
theorem numL_h45 (n : Nat) : (numL n).head? ≠ some 45 := fun h => by
  have := numL_digits n 45 (List.mem_of_mem_head? h)
  omega
theorem int_txt {m : Nat} {i : Int} (hm : 0 < m) (h : i.natAbs < 10 ^ m) : intL m (tl (iTxt i)) = some i := by
  cases i with
  | ofNat n =>
    have e : tl (iTxt (Int.ofNat n)) = numL n := iTxt_nn n
    have ef : figsL (numL n) = numL n := by unfold figsL; rw [if_neg (numL_h45 n)]
    have l1 : 1 ≤ (numL n).length := List.length_pos_iff.mpr (numL_ne n)
    have l2 := numL_len hm (show n < 10 ^ m from h)
    rw [e]
    unfold intL
    rw [ef, if_neg (by simp only [not_or]; exact ⟨by omega, by omega, by rw [numL_figs]; simp⟩)]
    rw [if_neg (by
      rintro ⟨a, b⟩
      have := numL_head n a
      subst this
      exact b (by rw [numL_lt (by decide)]))]
    rw [if_neg (numL_h45 n)]
    show some ((NumText.digitsVal (numL n) : Nat) : Int) = _
    rw [numL_val]
    rfl
  | negSucc n =>
    rw [iTxt_neg]
    have ef : figsL (45 :: numL (n + 1)) = numL (n + 1) := by simp [figsL]
    have l1 : 1 ≤ (numL (n + 1)).length := List.length_pos_iff.mpr (numL_ne (n + 1))
    have l2 := numL_len hm (show n + 1 < 10 ^ m from h)
    unfold intL
    rw [ef, if_neg (by simp only [not_or]; exact ⟨by omega, by omega, by rw [numL_figs]; simp⟩)]
    rw [if_neg (by
      rintro ⟨a, b⟩
      have := numL_head (n + 1) a
      omega)]
    rw [if_pos (show (45 :: numL (n + 1)).head? = some 45 from rfl)]
    show some (- ((NumText.digitsVal (numL (n + 1)) : Nat) : Int)) = _
    rw [numL_val]
    rfl
theorem int_signs (i : Int) : ∀ c ∈ tl (iTxt i), c = 45 ∨ (48 ≤ c ∧ c ≤ 57) := by
  intro c hc
  cases i with
  | ofNat n =>
    rw [show tl (iTxt (Int.ofNat n)) = numL n from iTxt_nn n] at hc
    exact .inr (numL_digits n c hc)
  | negSucc n =>
    rw [iTxt_neg] at hc
    rcases List.mem_cons.mp hc with rfl | hc
    · exact .inl rfl
    · exact .inr (numL_digits _ c hc)
theorem int_ne (i : Int) : tl (iTxt i) ≠ [] := by
  cases i with
  | ofNat n => rw [show tl (iTxt (Int.ofNat n)) = numL n from iTxt_nn n]; exact numL_ne n
  | negSucc n => rw [iTxt_neg]; simp
theorem tok_of {c : Nat} (h : c ≠ 32 ∧ c ≠ 40 ∧ c ≠ 41) : tokB c = true := by
  unfold tokB
  simp [h.1, h.2.1, h.2.2]
theorem int_tok (i : Int) : ∀ c ∈ tl (iTxt i), tokB c = true := fun c hc => tok_of (by rcases int_signs i c hc with h | h <;> omega)
/-- what may follow a name or a number -/
def Stp (r : List Nat) : Prop := ∀ c, r.head? = some c → tokB c = false
theorem tok_app {a r : List Nat} (ha : ∀ c ∈ a, tokB c = true) (hr : Stp r) : tokL (a ++ r) = a := by
  unfold tokL
  rw [List.takeWhile_append_of_pos ha]
  cases r with
  | nil => simp
  | cons c r => rw [List.takeWhile_cons_of_neg (by rw [hr c rfl]; simp), List.append_nil]
theorem name_parts {x : Str} (h : nameB (.str x) = true) : lenB x = true ∧ headB x = true ∧ sgnsB x = true ∧ inV (.str x) KEPTS = false := by
  have h2 : (lenB x && headB x && sgnsB x && !inV (.str x) KEPTS) = true := h
  rw [Bool.and_eq_true, Bool.and_eq_true, Bool.and_eq_true, Bool.not_eq_true'] at h2
  exact ⟨h2.1.1.1, h2.1.1.2, h2.1.2, h2.2⟩
theorem sgn_range {c : Nat} (h : c ∈ SGNS.cps.toList) : (97 ≤ c ∧ c ≤ 122) ∨ (48 ≤ c ∧ c ≤ 57) := by
  have : ∀ c ∈ SGNS.cps.toList, (97 ≤ c ∧ c ≤ 122) ∨ (48 ≤ c ∧ c ≤ 57) := by decide +kernel
  exact this c h
theorem let_range {c : Nat} (h : c ∈ LETS.cps.toList) : 97 ≤ c ∧ c ≤ 122 := by
  have : ∀ c ∈ LETS.cps.toList, 97 ≤ c ∧ c ≤ 122 := by decide +kernel
  exact this c h
theorem word_range {x : Str} (h : sgnsB x = true) : ∀ c ∈ tl x, (97 ≤ c ∧ c ≤ 122) ∨ (48 ≤ c ∧ c ≤ 57) := fun c hc => sgn_range (of_decide_eq_true (List.all_eq_true.mp h c hc))
theorem name_range {x : Str} (h : nameB (.str x) = true) : ∀ c ∈ tl x, (97 ≤ c ∧ c ≤ 122) ∨ (48 ≤ c ∧ c ≤ 57) := word_range (name_parts h).2.2.1
theorem name_head {x : Str} (h : nameB (.str x) = true) : ∃ d r, tl x = d :: r ∧ 97 ≤ d ∧ d ≤ 122 := by
  have h1 := (name_parts h).2.1
  unfold headB at h1
  cases e : x.cps.toList with
  | nil => rw [e] at h1; cases h1
  | cons d r =>
    rw [e] at h1
    exact ⟨d, r, e, let_range (of_decide_eq_true h1)⟩
theorem name_tok {x : Str} (h : nameB (.str x) = true) : ∀ c ∈ tl x, tokB c = true := fun c hc => tok_of (by have := name_range h c hc; omega)
theorem name_noint {x : Str} (h : nameB (.str x) = true) (m : Nat) : intL m (tl x) = none := by
  obtain ⟨d, r, e, h1, h2⟩ := name_head h
  rw [e]
  unfold intL
  have ef : figsL (d :: r) = d :: r := by
    unfold figsL
    rw [if_neg (by simp; omega)]
  rw [ef, if_pos]
  right
  right
  rw [List.all_cons, show figB d = false from Bool.eq_false_iff.mpr fun z => by have := figB_iff.mp z; omega]
  rfl
theorem atom_num {i : Int} {r : List Nat} (h : i.natAbs < 10 ^ 20) (hr : Stp r) : atomL (tl (iTxt i) ++ r) = some (.num i, (tl (iTxt i)).length) := by
  unfold atomL
  rw [tok_app (int_tok i) hr, int_txt (by decide) h]
theorem atom_var {x : Str} {r : List Nat} (h : nameB (.str x) = true) (hr : Stp r) : atomL (tl x ++ r) = some (.var x, (tl x).length) := by
  unfold atomL
  rw [tok_app (name_tok h) hr, name_noint h]
  dsimp only
  rw [mkS_tl, nameT_eq, h]
  rfl
/-! ### expressions -/
def Ex.bg : Ex → Prop
  | .num i => i.natAbs < 10 ^ 20
  | .var _ => True
  | .plus a b => a.bg ∧ b.bg
  | .minus a b => a.bg ∧ b.bg
  | .times k a => k.natAbs < 10 ^ 20 ∧ a.bg
theorem Ex.bg_of : ∀ {e : Ex}, e.ok → e.bg
  | .num i, h => by
    have h1 := h.1
    have h2 := h.2
    show i.natAbs < 10 ^ 20
    have : i.natAbs < 1000 := by omega
    exact Nat.lt_trans this (by decide)
  | .var x, h => trivial
  | .plus a b, h => ⟨Ex.bg_of h.1, Ex.bg_of h.2⟩
  | .minus a b, h => ⟨Ex.bg_of h.1, Ex.bg_of h.2⟩
  | .times k a, h => by
    have h1 := h.1
    have h2 := h.2.1
    refine ⟨?_, Ex.bg_of h.2.2⟩
    have : k.natAbs < 1000 := by omega
    exact Nat.lt_trans this (by decide)
def OPL (c : Nat) : List Nat := [32, c, 32]
theorem tl_op {a b : Str} {s : Str} {c : Nat} (h : tl s = OPL c) : tl ("(" ++ a ++ s ++ b ++ ")") = 40 :: (tl a ++ (OPL c ++ (tl b ++ [41]))) := by
  rw [tl_append, tl_append, tl_append, tl_append, h, show tl ("(" : Str) = [40] by decide +kernel, show tl (")" : Str) = [41] by decide +kernel]
  simp
theorem stp_op (c : Nat) (r : List Nat) : Stp (OPL c ++ r) := fun d h => by
  cases h
  rfl
theorem stp_end (r : List Nat) : Stp (41 :: r) := fun d h => by
  cases h
  rfl
theorem pE_step {n : Nat} {a b r : List Nat} {ea eb e : Ex} {c : Nat} (ha : ∀ r, Stp r → pE n (a ++ r) = some (ea, a.length)) (hb : ∀ r, Stp r → pE n (b ++ r) = some (eb, b.length)) (ho : opB (OPL c) ea = true) (he : opL (OPL c) ea eb = some e) :
    pE (n + 1) (40 :: (a ++ (OPL c ++ (b ++ [41]))) ++ r) = some (e, (40 :: (a ++ (OPL c ++ (b ++ [41])))).length) := by
  have e0 : (40 :: (a ++ (OPL c ++ (b ++ [41]))) ++ r) = 40 :: (a ++ (OPL c ++ (b ++ 41 :: r))) := by simp
  have d1 : ∀ t : List Nat, (40 :: (a ++ t)).drop (1 + a.length) = t := fun t => by
    rw [Nat.add_comm, List.drop_succ_cons, List.drop_left]
  have e1 := ha (OPL c ++ (b ++ 41 :: r)) (stp_op c _)
  have e2 := hb (41 :: r) (stp_end r)
  have d2 : (40 :: (a ++ (OPL c ++ (b ++ 41 :: r)))).drop (1 + a.length + 3) = b ++ 41 :: r := by
    rw [← List.drop_drop, d1]
    rfl
  have d3 : (40 :: (a ++ (OPL c ++ (b ++ 41 :: r)))).drop (1 + a.length + 3 + b.length) = 41 :: r := by
    rw [← List.drop_drop, d2, List.drop_left]
  rw [e0, pE, if_pos (show (40 :: (a ++ (OPL c ++ (b ++ 41 :: r)))).head? = some 40 from rfl), show (40 :: (a ++ (OPL c ++ (b ++ 41 :: r)))).drop 1 = a ++ (OPL c ++ (b ++ 41 :: r)) from rfl, e1]
  dsimp only
  rw [d1, show (OPL c ++ (b ++ 41 :: r)).take 3 = OPL c from rfl, if_pos ho, d2, e2]
  dsimp only
  rw [d3, if_pos (show (41 :: r).head? = some 41 from rfl), he]
  simp only [Option.map_some, Option.some.injEq, Prod.mk.injEq, true_and, List.length_cons, List.length_append]
  show _ = a.length + (3 + (b.length + 1)) + 1
  omega
theorem e_pos : ∀ e : Ex, 1 ≤ e.deep
  | .num _ => Nat.le_refl _
  | .var _ => Nat.le_refl _
  | .plus a b => by simp [Ex.deep]
  | .minus a b => by simp [Ex.deep]
  | .times _ a => by simp [Ex.deep]
theorem head_ne {a r : List Nat} (h : ∀ c ∈ a, tokB c = true) (hn : a ≠ []) : (a ++ r).head? ≠ some 40 := fun z => by
  cases a with
  | nil => exact hn rfl
  | cons d a =>
    cases z
    have := h 40 List.mem_cons_self
    cases this
theorem pE_num {n : Nat} {i : Int} {r : List Nat} (h : i.natAbs < 10 ^ 20) (hr : Stp r) : pE (n + 1) (tl (iTxt i) ++ r) = some (.num i, (tl (iTxt i)).length) := by
  rw [pE, if_neg (head_ne (int_tok i) (int_ne i)), atom_num h hr]
theorem name_ne {x : Str} (h : nameB (.str x) = true) : tl x ≠ [] := by
  obtain ⟨d, r, e, _⟩ := name_head h
  rw [e]
  simp
theorem pE_txt : ∀ {e : Ex} {n : Nat} {r : List Nat}, e.bg → e.gd → e.deep ≤ n → Stp r → pE n (tl e.txt ++ r) = some (e, (tl e.txt).length)
  | e, 0, r, _, _, hn, _ => by
    have := e_pos e
    omega
  | .num i, n + 1, r, hb, hg, hn, hr => pE_num hb hr
  | .var x, n + 1, r, hb, hg, hn, hr => by
    show pE (n + 1) (tl x ++ r) = some (.var x, (tl x).length)
    rw [pE, if_neg (head_ne (name_tok hg) (name_ne hg)), atom_var hg hr]
  | .plus a b, n + 1, r, hb, hg, hn, hr => by
    simp only [Ex.deep] at hn
    have et : tl (Ex.plus a b).txt = 40 :: (tl a.txt ++ (OPL 43 ++ (tl b.txt ++ [41]))) := tl_op (by decide +kernel)
    rw [et]
    exact pE_step (fun r hr => pE_txt hb.1 hg.1 (by omega) hr) (fun r hr => pE_txt hb.2 hg.2 (by omega) hr) rfl rfl
  | .minus a b, n + 1, r, hb, hg, hn, hr => by
    simp only [Ex.deep] at hn
    have et : tl (Ex.minus a b).txt = 40 :: (tl a.txt ++ (OPL 45 ++ (tl b.txt ++ [41]))) := tl_op (by decide +kernel)
    rw [et]
    exact pE_step (fun r hr => pE_txt hb.1 hg.1 (by omega) hr) (fun r hr => pE_txt hb.2 hg.2 (by omega) hr) rfl rfl
  | .times k a, n + 1, r, hb, hg, hn, hr => by
    simp only [Ex.deep] at hn
    have et : tl (Ex.times k a).txt = 40 :: (tl (iTxt k) ++ (OPL 42 ++ (tl a.txt ++ [41]))) := tl_op (by decide +kernel)
    rw [et]
    have h1 := e_pos a
    obtain ⟨m, rfl⟩ : ∃ m, n = m + 1 := ⟨n - 1, by omega⟩
    exact pE_step (ea := .num k) (fun r hr => pE_num hb.1 hr) (fun r hr => pE_txt hb.2 hg (by omega) hr) rfl rfl
theorem stp_nil : Stp [] := fun c h => nomatch h
theorem pX_txt {e : Ex} (hb : e.bg) (hg : e.gd) (hd : e.deep ≤ 20) : pX (tl e.txt) = some e := by
  have h := pE_txt (r := []) hb hg hd stp_nil
  rw [List.append_nil] at h
  unfold pX
  rw [h]
  dsimp only
  rw [if_pos rfl]
/-! ### what is written is read again: tests, lines -/
theorem pre_tok {u l : List Nat} (hu : ∀ c ∈ u, tokB c = true) (h : pre (u ++ [32]) l = true) : tokL l = u := by
  have e : l.take (u ++ [32]).length = u ++ [32] := by
    have h2 : (l.take (u ++ [32]).length == u ++ [32]) = true := h
    exact eq_of_beq h2
  rw [← List.take_append_drop (u ++ [32]).length l, e, List.append_assoc]
  exact tok_app hu (fun c hc => by cases hc; rfl)
theorem mkS_ne {x : Str} {u : List Nat} (hk : nameB (.str (mkS u)) = false) (h : nameB (.str x) = true) : tl x ≠ u := fun e => by
  rw [← e, mkS_tl, h] at hk
  cases hk
theorem par_txt {a b s : Str} (r : List Nat) : ∃ q, tl ("(" ++ a ++ s ++ b ++ ")") ++ r = 40 :: q := by
  rw [tl_append, tl_append, tl_append, tl_append, show tl ("(" : Str) = [40] by decide +kernel]
  exact ⟨_, rfl⟩
theorem nopre {u : List Nat} {d : Nat} {u' : List Nat} (eu : u = d :: u') (hd : 97 ≤ d) (hu : ∀ c ∈ u, tokB c = true) (hk : nameB (.str (mkS u)) = false) : ∀ {e : Ex} {r : List Nat}, e.gd → Stp r → pre (u ++ [32]) (tl e.txt ++ r) = false
  | .num i, r, hg, hr => Bool.eq_false_iff.mpr fun h => by
    have h2 := pre_tok hu h
    rw [show tl (Ex.num i).txt = tl (iTxt i) from rfl, tok_app (int_tok i) hr] at h2
    have := int_signs i d (by rw [h2, eu]; simp)
    omega
  | .var x, r, hg, hr => Bool.eq_false_iff.mpr fun h => by
    have h2 := pre_tok hu h
    rw [show tl (Ex.var x).txt = tl x from rfl, tok_app (name_tok hg) hr] at h2
    exact mkS_ne hk hg h2
  | .plus a b, r, hg, hr => by
    obtain ⟨q, e⟩ := par_txt (a := a.txt) (b := b.txt) (s := " + ") r
    rw [show tl (Ex.plus a b).txt ++ r = 40 :: q from e, eu]
    exact pre_of_head _ _ (by omega)
  | .minus a b, r, hg, hr => by
    obtain ⟨q, e⟩ := par_txt (a := a.txt) (b := b.txt) (s := " - ") r
    rw [show tl (Ex.minus a b).txt ++ r = 40 :: q from e, eu]
    exact pre_of_head _ _ (by omega)
  | .times k b, r, hg, hr => by
    obtain ⟨q, e⟩ := par_txt (a := iTxt k) (b := b.txt) (s := " * ") r
    rw [show tl (Ex.times k b).txt ++ r = 40 :: q from e, eu]
    exact pre_of_head _ _ (by omega)
theorem stp_sp (r : List Nat) : Stp (32 :: r) := fun c h => by cases h; rfl
theorem no_odd {e : Ex} {r : List Nat} (hg : e.gd) (hr : Stp r) : pre ODDL (tl e.txt ++ r) = false := nopre (u := [111, 100, 100]) rfl (by decide) (by decide) (by decide +kernel) hg hr
theorem no_not {e : Ex} {r : List Nat} (hg : e.gd) (hr : Stp r) : pre NOTL (tl e.txt ++ r) = false := nopre (u := [110, 111, 116]) rfl (by decide) (by decide) (by decide +kernel) hg hr
theorem no_half {e : Ex} {r : List Nat} (hg : e.gd) (hr : Stp r) : pre HALFL (tl e.txt ++ r) = false := nopre (u := [104, 97, 108, 102]) rfl (by decide) (by decide) (by decide +kernel) hg hr
def Ts.bg : Ts → Prop
  | .less a b => (a.bg ∧ a.deep ≤ 20) ∧ b.bg ∧ b.deep ≤ 20
  | .odd a => a.bg ∧ a.deep ≤ 20
  | .not t => t.bg
theorem Ts.bg_of : ∀ {t : Ts}, t.ok → t.bg
  | .less a b, h => ⟨⟨Ex.bg_of h.1.1, by have := h.1.2; omega⟩, Ex.bg_of h.2.1, by have := h.2.2; omega⟩
  | .odd a, h => ⟨Ex.bg_of h.1, by have := h.2; omega⟩
  | .not t, h => Ts.bg_of (t := t) h
theorem tl_odd (a : Ex) : tl (Ts.odd a).txt = ODDL ++ tl a.txt := by
  show tl ("odd " ++ a.txt) = _
  rw [tl_append, show tl ("odd " : Str) = ODDL by decide +kernel]
theorem tl_not (t : Ts) : tl (Ts.not t).txt = NOTL ++ tl t.txt := by
  show tl ("not " ++ t.txt) = _
  rw [tl_append, show tl ("not " : Str) = NOTL by decide +kernel]
theorem tl_less (a b : Ex) : tl (Ts.less a b).txt = tl a.txt ++ (LESSL ++ tl b.txt) := by
  show tl (a.txt ++ " < " ++ b.txt) = _
  rw [tl_append, tl_append, show tl (" < " : Str) = LESSL by decide +kernel, List.append_assoc]
theorem notsF_txt : ∀ {t : Ts}, t.gd → notsF (tl t.txt) = (t.nots, tl t.base.txt)
  | .odd a, h => notsF_stop (by rw [tl_odd]; rfl)
  | .less a b, h => notsF_stop (by rw [tl_less]; exact no_not h.1 (stp_sp _))
  | .not t, h => by
    rw [tl_not, (notsF_step (pre_self NOTL _)).1, show (NOTL ++ tl t.txt).drop 4 = tl t.txt from rfl, notsF_txt (t := t) h]
    rfl
theorem nots_base : ∀ t : Ts, nots t.nots t.base = t
  | .odd a => rfl
  | .less a b => rfl
  | .not t => by
    show Ts.not (nots t.nots t.base) = .not t
    rw [nots_base t]
theorem pP_base : ∀ {t : Ts}, t.bg → t.gd → pP (tl t.base.txt) = some t.base
  | .odd a, hb, hg => by
    show pP (tl (Ts.odd a).txt) = _
    unfold pP
    rw [tl_odd, if_pos (pre_self ODDL _), show (ODDL ++ tl a.txt).drop 4 = tl a.txt from rfl, pX_txt hb.1 hg hb.2]
    rfl
  | .less a b, hb, hg => by
    show pP (tl (Ts.less a b).txt) = _
    unfold pP
    rw [tl_less, if_neg (by rw [no_odd (r := LESSL ++ tl b.txt) hg.1 (stp_sp _)]; simp), pE_txt (r := LESSL ++ tl b.txt) hb.1.1 hg.1 hb.1.2 (stp_sp _)]
    dsimp only
    rw [List.drop_left, if_pos (show (LESSL ++ tl b.txt).take 3 = LESSL from rfl), ← List.drop_drop, List.drop_left, show (LESSL ++ tl b.txt).drop 3 = tl b.txt from rfl, pX_txt hb.2.1 hg.2 hb.2.2]
    rfl
  | .not t, hb, hg => pP_base (t := t) hb hg
theorem pT_txt {t : Ts} (hb : t.bg) (hg : t.gd) (hn : t.nots ≤ 20) : pT (tl t.txt) = some t := by
  unfold pT
  rw [notsF_txt hg]
  dsimp only
  rw [pP_base hb hg]
  dsimp only
  rw [if_neg (by omega), nots_base]
/-! ### lines -/
theorem tw_stop {a r : List Nat} (h : 32 ∉ a) : (a ++ 32 :: r).takeWhile (fun c => c != 32) = a ∧ (a ++ 32 :: r).dropWhile (fun c => c != 32) = 32 :: r := by
  induction a with
  | nil => exact ⟨rfl, rfl⟩
  | cons c a ih =>
    have hc : (c != 32) = true := by
      have : c ≠ 32 := fun e => h (by simp [e])
      simpa using this
    obtain ⟨i1, i2⟩ := ih fun z => h (List.mem_cons_of_mem _ z)
    rw [List.cons_append, List.takeWhile_cons_of_pos (p := fun c => c != 32) hc, List.dropWhile_cons_of_pos (p := fun c => c != 32) hc, i1, i2]
    exact ⟨rfl, rfl⟩
theorem wd_at {a r : List Nat} (h : 32 ∉ a) : wd (a ++ 32 :: r) = mkS a ∧ rst (a ++ 32 :: r) = r := by
  obtain ⟨h1, h2⟩ := tw_stop (r := r) h
  unfold wd rst
  rw [h1, h2]
  exact ⟨rfl, rfl⟩
def Sm.hd : Sm → List PyData
  | .set x e => [.str "set", .str x, e.d]
  | .half x e => [.str "half", .str x, e.d]
  | .tell e => [.str "tell", e.d]
  | .say w => [.str "say", .str w]
  | .stop w => [.str "stop", .str w]
  | .ite t _ _ => [.str "if", t.d]
  | .rep k _ => [.str "repeat", .int k]
/-- what a line must be for the reader -/
structure Ln (l : List Nat) (ds : List PyData) : Prop where
  h0 : ∃ c r, l = c :: r ∧ c ≠ 32
  sp : 32 ∈ l
  nl : 10 ∉ l
  ps : pS l = some ds
theorem mk_lit {l : List Nat} {s : String} (h : tl (Str.ofString s) = l) : mkS l = Str.ofString s := by rw [← h, mkS_tl]
theorem ex_nl : ∀ {e : Ex}, e.gd → 10 ∉ tl e.txt
  | .num i, hg => fun h => by have := int_signs i 10 h; omega
  | .var x, hg => fun h => by have := name_range hg 10 h; omega
  | .plus a b, hg => by
    have h1 := ex_nl (e := a) hg.1
    have h2 := ex_nl (e := b) hg.2
    rw [show tl (Ex.plus a b).txt = 40 :: (tl a.txt ++ (OPL 43 ++ (tl b.txt ++ [41]))) from tl_op (by decide +kernel)]
    simp [OPL, h1, h2]
  | .minus a b, hg => by
    have h1 := ex_nl (e := a) hg.1
    have h2 := ex_nl (e := b) hg.2
    rw [show tl (Ex.minus a b).txt = 40 :: (tl a.txt ++ (OPL 45 ++ (tl b.txt ++ [41]))) from tl_op (by decide +kernel)]
    simp [OPL, h1, h2]
  | .times k b, hg => by
    have h1 : 10 ∉ tl (iTxt k) := fun h => by have := int_signs k 10 h; omega
    have h2 := ex_nl (e := b) hg
    rw [show tl (Ex.times k b).txt = 40 :: (tl (iTxt k) ++ (OPL 42 ++ (tl b.txt ++ [41]))) from tl_op (by decide +kernel)]
    simp [OPL, h1, h2]
theorem ts_nl : ∀ {t : Ts}, t.gd → 10 ∉ tl t.txt
  | .odd a, hg => by
    rw [tl_odd]
    simp [ODDL, ex_nl hg]
  | .less a b, hg => by
    rw [tl_less]
    simp [LESSL, ex_nl hg.1, ex_nl hg.2]
  | .not t, hg => by
    rw [tl_not]
    simp [NOTL, ts_nl (t := t) hg]
theorem name_line {x : Str} (h : nameB (.str x) = true) : 32 ∉ tl x ∧ 10 ∉ tl x ∧ (∃ c r, tl x = c :: r ∧ c ≠ 32) := by
  obtain ⟨d, r, e, h1, _⟩ := name_head h
  exact ⟨fun z => by have := name_range h 32 z; omega, fun z => by have := name_range h 10 z; omega, d, r, e, by omega⟩
theorem not_kw {x : Str} (h : nameB (.str x) = true) {s : String} (hs : nameB (.str (Str.ofString s)) = false) : x ≠ Str.ofString s := fun e => by
  rw [← e, h] at hs
  cases hs
theorem pS_set {x : Str} {r : List Nat} (h : nameB (.str x) = true) : pS (tl x ++ 32 :: r) = setL x r := by
  obtain ⟨e1, e2⟩ := wd_at (r := r) (name_line h).1
  unfold pS
  rw [e1, e2, mkS_tl]
  rw [if_neg (by rintro (z | z); exact not_kw h (by decide +kernel) z; exact not_kw h (by decide +kernel) z), if_neg (fun z => not_kw h (s := "tell") (by decide +kernel) z), if_neg (fun z => not_kw h (s := "if") (by decide +kernel) z), if_neg (fun z => not_kw h (s := "repeat") (by decide +kernel) z)]
theorem nameT_of {x : Str} (h : nameB (.str x) = true) : nameT x = true := by rw [nameT_eq, h]
theorem ln_set {x : Str} {e : Ex} (hx : nameB (.str x) = true) (hb : e.bg) (hg : e.gd) (hd : e.deep ≤ 20) : Ln (tl (Sm.line (.set x e))) [.str "set", .str x, e.d] := by
  have et : tl (Sm.line (.set x e)) = tl x ++ 32 :: (EQL ++ tl e.txt) := by
    show tl (x ++ " = " ++ e.txt) = _
    rw [tl_append, tl_append, show tl (" = " : Str) = [32, 61, 32] by decide +kernel, List.append_assoc]
    rfl
  obtain ⟨n1, n2, c, r, e1, e2⟩ := name_line hx
  rw [et]
  refine ⟨⟨c, r ++ 32 :: (EQL ++ tl e.txt), by rw [e1]; rfl, e2⟩, by simp, by simp [EQL, n2, ex_nl hg], ?_⟩
  rw [pS_set hx]
  unfold setL
  have nh : pre HALFL (tl e.txt) = false := by
    have := no_half (r := []) hg stp_nil
    rwa [List.append_nil] at this
  rw [nameT_of hx, pre_self, if_pos (show (true && true) = true from rfl), show (EQL ++ tl e.txt).drop 2 = tl e.txt from rfl, nh, if_neg Bool.false_ne_true, pX_txt hb hg hd]
  rfl
theorem ln_half {x : Str} {e : Ex} (hx : nameB (.str x) = true) (hb : e.bg) (hg : e.gd) (hd : e.deep ≤ 20) : Ln (tl (Sm.line (.half x e))) [.str "half", .str x, e.d] := by
  have et : tl (Sm.line (.half x e)) = tl x ++ 32 :: (EQL ++ (HALFL ++ tl e.txt)) := by
    show tl (x ++ " = half " ++ e.txt) = _
    rw [tl_append, tl_append, show tl (" = half " : Str) = [32, 61, 32, 104, 97, 108, 102, 32] by decide +kernel, List.append_assoc]
    rfl
  obtain ⟨n1, n2, c, r, e1, e2⟩ := name_line hx
  rw [et]
  refine ⟨⟨c, r ++ 32 :: (EQL ++ (HALFL ++ tl e.txt)), by rw [e1]; rfl, e2⟩, by simp, by simp [EQL, HALFL, n2, ex_nl hg], ?_⟩
  rw [pS_set hx]
  unfold setL
  rw [nameT_of hx, pre_self, if_pos (show (true && true) = true from rfl), show (EQL ++ (HALFL ++ tl e.txt)).drop 2 = HALFL ++ tl e.txt from rfl, pre_self, if_pos rfl, show (HALFL ++ tl e.txt).drop 5 = tl e.txt from rfl, pX_txt hb hg hd]
  rfl
theorem wdk {a r : List Nat} {s : String} (h : tl (Str.ofString s) = a) (hs : 32 ∉ a) : wd (a ++ 32 :: r) = Str.ofString s ∧ rst (a ++ 32 :: r) = r := by
  obtain ⟨e1, e2⟩ := wd_at (r := r) hs
  exact ⟨by rw [e1, mk_lit h], e2⟩
theorem ln_tell {e : Ex} (hb : e.bg) (hg : e.gd) (hd : e.deep ≤ 20) : Ln (tl (Sm.line (.tell e))) [.str "tell", e.d] := by
  have et : tl (Sm.line (.tell e)) = [116, 101, 108, 108] ++ 32 :: tl e.txt := by
    show tl ("tell " ++ e.txt) = _
    rw [tl_append, show tl ("tell " : Str) = [116, 101, 108, 108] ++ [32] by decide +kernel, List.append_assoc]
    rfl
  rw [et]
  refine ⟨⟨116, _, rfl, by decide⟩, by simp, by simp [ex_nl hg], ?_⟩
  obtain ⟨e1, e2⟩ := wdk (r := tl e.txt) (a := [116, 101, 108, 108]) (s := "tell") (by decide +kernel) (by decide)
  unfold pS
  rw [e1, e2, if_neg (by decide +kernel), if_pos rfl, pX_txt hb hg hd]
  rfl
theorem ln_if {t : Ts} {y n : List Sm} (hb : t.bg) (hg : t.gd) (hn : t.nots ≤ 20) : Ln (tl (Sm.line (.ite t y n))) [.str "if", t.d] := by
  have et : tl (Sm.line (.ite t y n)) = [105, 102] ++ 32 :: tl t.txt := by
    show tl ("if " ++ t.txt) = _
    rw [tl_append, show tl ("if " : Str) = [105, 102] ++ [32] by decide +kernel, List.append_assoc]
    rfl
  rw [et]
  refine ⟨⟨105, _, rfl, by decide⟩, by simp, by simp [ts_nl hg], ?_⟩
  obtain ⟨e1, e2⟩ := wdk (r := tl t.txt) (a := [105, 102]) (s := "if") (by decide +kernel) (by decide)
  unfold pS
  rw [e1, e2, if_neg (by decide +kernel), if_neg (by decide +kernel), if_pos rfl, pT_txt hb hg hn]
  rfl
theorem ln_rep {k : Nat} {b : List Sm} (hk : k < 10 ^ 20) : Ln (tl (Sm.line (.rep k b))) [.str "repeat", .int k] := by
  have et : tl (Sm.line (.rep k b)) = [114, 101, 112, 101, 97, 116] ++ 32 :: tl (iTxt (k : Int)) := by
    show tl ("repeat" ++ " " ++ iTxt (k : Int)) = _
    rw [tl_append, tl_append, show tl ("repeat" : Str) = [114, 101, 112, 101, 97, 116] by decide +kernel, show tl (" " : Str) = [32] by decide +kernel, List.append_assoc]
    rfl
  rw [et]
  refine ⟨⟨114, _, rfl, by decide⟩, by simp, fun h => ?_, ?_⟩
  · have : 10 ∈ tl (iTxt (k : Int)) := by simpa using h
    have := int_signs _ 10 this
    omega
  obtain ⟨e1, e2⟩ := wdk (r := tl (iTxt (k : Int))) (a := [114, 101, 112, 101, 97, 116]) (s := "repeat") (by decide +kernel) (by decide)
  unfold pS
  rw [e1, e2, if_neg (by decide +kernel), if_neg (by decide +kernel), if_neg (by decide +kernel), if_pos rfl, int_txt (by decide) (by simpa using hk)]
  rfl
theorem word_nl {w : Str} (h : wordB (.str w) = true) : 10 ∉ tl w := fun z => by
  have h2 : (lenB w && sgnsB w) = true := h
  rw [Bool.and_eq_true] at h2
  have := word_range h2.2 10 z
  omega
theorem wordT_of {w : Str} (h : wordB (.str w) = true) : wordT 8 w = true := h
theorem ln_say {w : Str} (h : wordB (.str w) = true) : Ln (tl (Sm.line (.say w))) [.str "say", .str w] := by
  have et : tl (Sm.line (.say w)) = [115, 97, 121] ++ 32 :: tl w := by
    show tl ("say" ++ " " ++ w) = _
    rw [tl_append, tl_append, show tl ("say" : Str) = [115, 97, 121] by decide +kernel, show tl (" " : Str) = [32] by decide +kernel, List.append_assoc]
    rfl
  rw [et]
  refine ⟨⟨115, _, rfl, by decide⟩, by simp, by simp [word_nl h], ?_⟩
  obtain ⟨e1, e2⟩ := wdk (r := tl w) (a := [115, 97, 121]) (s := "say") (by decide +kernel) (by decide)
  unfold pS
  rw [e1, e2, if_pos (.inl rfl), mkS_tl, if_pos (wordT_of h)]
theorem ln_stop {w : Str} (h : wordB (.str w) = true) : Ln (tl (Sm.line (.stop w))) [.str "stop", .str w] := by
  have et : tl (Sm.line (.stop w)) = [115, 116, 111, 112] ++ 32 :: tl w := by
    show tl ("stop" ++ " " ++ w) = _
    rw [tl_append, tl_append, show tl ("stop" : Str) = [115, 116, 111, 112] by decide +kernel, show tl (" " : Str) = [32] by decide +kernel, List.append_assoc]
    rfl
  rw [et]
  refine ⟨⟨115, _, rfl, by decide⟩, by simp, by simp [word_nl h], ?_⟩
  obtain ⟨e1, e2⟩ := wdk (r := tl w) (a := [115, 116, 111, 112]) (s := "stop") (by decide +kernel) (by decide)
  unfold pS
  rw [e1, e2, if_pos (.inr rfl), mkS_tl, if_pos (wordT_of h)]
mutual
/-- all lines are read again -/
def Sm.rg : Sm → Prop
  | .ite t y n => Ln (tl (Sm.line (.ite t y n))) (Sm.hd (.ite t y n)) ∧ Sm.rgs y ∧ Sm.rgs n
  | .rep k b => Ln (tl (Sm.line (.rep k b))) (Sm.hd (.rep k b)) ∧ Sm.rgs b
  | .set x e => Ln (tl (Sm.line (.set x e))) (Sm.hd (.set x e))
  | .half x e => Ln (tl (Sm.line (.half x e))) (Sm.hd (.half x e))
  | .tell e => Ln (tl (Sm.line (.tell e))) (Sm.hd (.tell e))
  | .say w => Ln (tl (Sm.line (.say w))) (Sm.hd (.say w))
  | .stop w => Ln (tl (Sm.line (.stop w))) (Sm.hd (.stop w))
def Sm.rgs : List Sm → Prop
  | [] => True
  | s :: r => s.rg ∧ Sm.rgs r
end
mutual
theorem Sm.rg_of : ∀ s : Sm, s.ok → s.tx → s.rg
  | .ite t y n, h, x => ⟨ln_if (Ts.bg_of h.1) x.1.2 (by have := h.2.1; omega), Sm.rgs_of y h.2.2.1 x.2.1, Sm.rgs_of n h.2.2.2 x.2.2⟩
  | .rep k b, h, x => ⟨ln_rep (by have := h.1; exact Nat.lt_of_le_of_lt this (by decide)), Sm.rgs_of b h.2 x.2⟩
  | .set y e, h, x => ln_set x.2.1 (Ex.bg_of h.1.1) x.2.2 (by have := h.1.2; omega)
  | .half y e, h, x => ln_half x.2.1 (Ex.bg_of h.1.1) x.2.2 (by have := h.1.2; omega)
  | .tell e, h, x => ln_tell (Ex.bg_of h.1) x.2 (by have := h.2; omega)
  | .say w, h, x => ln_say x.2
  | .stop w, h, x => ln_stop x.2
theorem Sm.rgs_of : ∀ b : List Sm, Sm.oks b → Sm.txs b → Sm.rgs b
  | [], _, _ => trivial
  | s :: r, h, x => ⟨Sm.rg_of s h.1 x.1, Sm.rgs_of r h.2 x.2⟩
end
/-! ### what is written is read again: programs -/
def spc (d : Nat) : List Nat := List.replicate (2 * d) 32
structure Rdy (st : List Pt) (d : Nat) (q : List Pt) (k : Str) : Prop where
  ct : comeTo (st.length - 1 - d) st "" = (q, k)
  le : d + 1 ≤ st.length
  ql : q.length = d + 1
  lk : topLacks st = true → st.length = d + 1
theorem restL_spc {l : List Nat} (h : ∃ c r, l = c :: r ∧ c ≠ 32) : ∀ n, restL (List.replicate n 32 ++ l) = l
  | 0 => by
    obtain ⟨c, r, rfl, hc⟩ := h
    unfold restL
    rw [List.replicate_zero, List.nil_append, List.dropWhile_cons_of_neg (by simpa using hc)]
  | n + 1 => by
    unfold restL
    rw [List.replicate_succ, List.cons_append, List.dropWhile_cons_of_pos (by rfl)]
    exact restL_spc h n
theorem blanks_spc {l : List Nat} (h : ∃ c r, l = c :: r ∧ c ≠ 32) (d : Nat) : blanks (spc d ++ l) = 2 * d := by
  unfold blanks spc
  rw [restL_spc h, List.length_append, List.length_replicate]
  omega
def readQ (st q : List Pt) (k : Str) (l : List Nat) : Option (List Pt) :=
  if l = ELSEL ∧ k = "if" then some (⟨"else", [], [], false⟩ :: q) else match q with
    | [] => none
    | p :: r => if l = PASSL then (if topLacks st = true ∧ p.kind ≠ "else" then some ({ p with over := true } :: r) else none) else if p.over then none else putP (p :: r) (pS l)
theorem readP_at {st q : List Pt} {d : Nat} {k : Str} {l : List Nat} (R : Rdy st d q k) (hl : ∃ c r, l = c :: r ∧ c ≠ 32) : readP st (spc d ++ l) = readQ st q k l := by
  have e1 : 2 * d % 2 = 0 := by omega
  have e2 : 2 * d / 2 = d := by omega
  have le := R.le
  unfold readP
  rw [blanks_spc hl, show restL (spc d ++ l) = l from restL_spc hl _, e1, e2, R.ct, if_neg (by
    simp only [not_or, not_and]
    exact ⟨by decide, by omega, fun z => by have := R.lk z; omega⟩)]
  rfl
theorem Rdy.self {p : Pt} {r : List Pt} {d : Nat} (h : r.length = d) : Rdy (p :: r) d (p :: r) "" := by
  subst h
  refine ⟨?_, Nat.le_refl _, rfl, fun _ => rfl⟩
  rw [List.length_cons, Nat.add_sub_cancel, Nat.sub_self]
  rfl
theorem Rdy.down {st r : List Pt} {p q : Pt} {d : Nat} {k : Str} (R : Rdy st (d + 1) (q :: p :: r) k) (ht : topLacks st = false) : Rdy st d (clz1 q p :: r) q.kind := by
  have le := R.le
  have e : st.length - 1 - d = (st.length - 1 - (d + 1)) + 1 := by omega
  obtain ⟨h1, h2⟩ := comeTo_add (st.length - 1 - (d + 1)) st "" (by omega)
  have ql := R.ql
  refine ⟨?_, by omega, ?_, fun z => by rw [ht] at z; cases z⟩
  · rw [e, h1, R.ct]
    rfl
  · simp only [List.length_cons] at ql ⊢
    omega
theorem len_r {st r : List Pt} {p : Pt} {d : Nat} {k : Str} (R : Rdy st d (p :: r) k) : r.length = d := by
  have := R.ql
  rw [List.length_cons] at this
  omega
theorem ln_else {l : List Nat} {ds : List PyData} (h : Ln l ds) : l ≠ ELSEL ∧ l ≠ PASSL := by
  have := h.sp
  refine ⟨fun e => ?_, fun e => ?_⟩
  · rw [e] at this
    exact absurd this (by decide)
  · rw [e] at this
    exact absurd this (by decide)
theorem read_line {st r : List Pt} {p : Pt} {d : Nat} {k : Str} {l : List Nat} {ds : List PyData} (R : Rdy st d (p :: r) k) (ho : p.over = false) (h : Ln l ds) : readP st (spc d ++ l) = putP (p :: r) (some ds) := by
  obtain ⟨n1, n2⟩ := ln_else h
  rw [readP_at R h.h0]
  unfold readQ
  rw [if_neg fun z => n1 z.1]
  dsimp only
  rw [if_neg n2, ho, if_neg Bool.false_ne_true, h.ps]
def Done (st : List Pt) (ls : List (List Nat)) (d : Nat) (q : List Pt) : Prop := ∃ st' k', rdTo st ls = some st' ∧ Rdy st' d q k' ∧ topLacks st' = false
theorem Done.one {st q : List Pt} {l : List Nat} {p : Pt} {r : List Pt} {d : Nat} (h : readP st l = some (p :: r)) (hr : r.length = d) (ht : p.rows ≠ []) : Done st [l] d (p :: r) := by
  refine ⟨p :: r, "", ?_, Rdy.self hr, ?_⟩
  · show (readP st l).bind (fun s => rdTo s []) = _
    rw [h]
    rfl
  · show lacks p = false
    unfold lacks
    cases hq : p.rows with
    | nil => exact absurd hq ht
    | cons a b => simp
theorem plain_done {st r : List Pt} {p : Pt} {d : Nat} {k : Str} {l : List Nat} {ds : List PyData} (R : Rdy st d (p :: r) k) (ho : p.over = false) (h : Ln l ds) (hk : ¬ (kwD ds = "if" ∨ kwD ds = "repeat")) :
    Done st [spc d ++ l] d ({ p with rows := p.rows ++ [.tuple ds] } :: r) := by
  refine Done.one (q := []) ?_ (len_r R) (by simp)
  rw [read_line R ho h]
  unfold putP
  exact if_neg hk
/-- a block that is not empty, or "pass" -/
theorem opens {st r : List Pt} {p : Pt} {d : Nat} {k : Str} {l : List Nat} {ds : List PyData} (R : Rdy st d (p :: r) k) (ho : p.over = false) (h : Ln l ds) (hk : kwD ds = "if" ∨ kwD ds = "repeat") :
    readP st (spc d ++ l) = some (⟨kwD ds, ds, [], false⟩ :: p :: r) ∧ Rdy (⟨kwD ds, ds, [], false⟩ :: p :: r) (d + 1) (⟨kwD ds, ds, [], false⟩ :: p :: r) "" := by
  refine ⟨?_, Rdy.self (by rw [List.length_cons, len_r R])⟩
  rw [read_line R ho h]
  unfold putP
  exact if_pos hk
theorem pass_done {r : List Pt} {q : Pt} {d : Nat} (hr : r.length = d) (h1 : q.kind ≠ "program") (h2 : q.kind ≠ "else") (h3 : q.rows = []) (h4 : q.over = false) : Done (q :: r) [spc d ++ PASSL] d ({ q with over := true } :: r) := by
  have hl : lacks q = true := by
    unfold lacks
    rw [h3, h4, decide_eq_false h1]
    rfl
  refine ⟨{ q with over := true } :: r, "", ?_, Rdy.self hr, ?_⟩
  · show (readP (q :: r) (spc d ++ PASSL)).bind (fun s => rdTo s []) = _
    rw [readP_at (l := PASSL) (Rdy.self hr) ⟨112, _, rfl, by decide⟩]
    unfold readQ
    rw [if_neg (fun z => absurd z.1 (by decide))]
    dsimp only
    rw [if_pos (show PASSL = PASSL from rfl), if_pos ⟨hl, h2⟩]
    rfl
  · show lacks _ = false
    unfold lacks
    simp
theorem Done.app {st q q2 : List Pt} {a b : List (List Nat)} {d d2 : Nat} (h : Done st a d q) (g : ∀ st' k', Rdy st' d q k' → topLacks st' = false → Done st' b d2 q2) : Done st (a ++ b) d2 q2 := by
  obtain ⟨st1, k1, e1, R1, t1⟩ := h
  obtain ⟨st2, k2, e2, R2, t2⟩ := g st1 k1 R1 t1
  refine ⟨st2, k2, ?_, R2, t2⟩
  rw [rdTo_app, e1]
  exact e2
theorem tl_ahead {a b : Str} {d : Nat} (h : tl a = spc d) : tl (a ++ b) = spc d ++ tl b := by rw [tl_append, h]
theorem tl_step {a : Str} {d : Nat} (h : tl a = spc d) : tl (a ++ "  ") = spc (d + 1) := by
  rw [tl_append, h, show tl ("  " : Str) = [32, 32] by decide +kernel]
  unfold spc
  rw [show 2 * (d + 1) = 2 * d + 2 by omega, ← List.replicate_append_replicate]
  rfl
theorem clz_rep {q p : Pt} {ds : List PyData} (hk : q.kind = "repeat") : clz1 q p = { p with rows := p.rows ++ [.tuple (q.head ++ [.tuple q.rows])] } := by
  unfold clz1
  rw [if_neg (by rw [hk]; decide +kernel), if_neg (by rw [hk]; decide +kernel)]
theorem clz_if {q p : Pt} {ds : List PyData} (hk : q.kind = "if") : clz1 q p = { p with rows := p.rows ++ [.tuple (q.head ++ [.tuple q.rows, .tuple []])] } := by
  unfold clz1
  rw [if_neg (by rw [hk]; decide +kernel), if_pos hk]
theorem clz_else {q p : Pt} {rs ds : List PyData} (hk : q.kind = "else") (hp : p.rows = rs ++ [.tuple ds]) : clz1 q p = { p with rows := rs ++ [.tuple (ds.take 3 ++ [.tuple q.rows])] } := by
  unfold clz1
  rw [if_pos hk, hp, List.dropLast_concat, List.getLast?_concat]
  rfl
theorem else_at {st r : List Pt} {p : Pt} {d : Nat} (R : Rdy st d (p :: r) "if") : readP st (spc d ++ ELSEL) = some (⟨"else", [], [], false⟩ :: p :: r) := by
  rw [readP_at (l := ELSEL) R ⟨101, _, rfl, by decide⟩]
  unfold readQ
  rw [if_pos ⟨rfl, rfl⟩]
mutual
theorem rd_s : ∀ (s : Sm) {a : Str} {d : Nat} {st r : List Pt} {p : Pt} {k : Str}, tl a = spc d → s.rg → Rdy st d (p :: r) k → p.over = false → Done st ((Sm.lns a s).map tl) d ({ p with rows := p.rows ++ [s.d] } :: r)
  | .set x e, a, d, st, r, p, k, ha, hg, R, ho => by
    simp only [Sm.lns, List.map_cons, List.map_nil, tl_ahead ha]
    exact plain_done R ho hg (by show ¬ (("set" : Str) = "if" ∨ ("set" : Str) = "repeat"); decide +kernel)
  | .half x e, a, d, st, r, p, k, ha, hg, R, ho => by
    simp only [Sm.lns, List.map_cons, List.map_nil, tl_ahead ha]
    exact plain_done R ho hg (by show ¬ (("half" : Str) = "if" ∨ ("half" : Str) = "repeat"); decide +kernel)
  | .tell e, a, d, st, r, p, k, ha, hg, R, ho => by
    simp only [Sm.lns, List.map_cons, List.map_nil, tl_ahead ha]
    exact plain_done R ho hg (by show ¬ (("tell" : Str) = "if" ∨ ("tell" : Str) = "repeat"); decide +kernel)
  | .say w, a, d, st, r, p, k, ha, hg, R, ho => by
    simp only [Sm.lns, List.map_cons, List.map_nil, tl_ahead ha]
    exact plain_done R ho hg (by show ¬ (("say" : Str) = "if" ∨ ("say" : Str) = "repeat"); decide +kernel)
  | .stop w, a, d, st, r, p, k, ha, hg, R, ho => by
    simp only [Sm.lns, List.map_cons, List.map_nil, tl_ahead ha]
    exact plain_done R ho hg (by show ¬ (("stop" : Str) = "if" ∨ ("stop" : Str) = "repeat"); decide +kernel)
  | .rep kk b, a, d, st, r, p, k, ha, hg, R, ho => by
    obtain ⟨o1, o2⟩ := opens R ho hg.1 (.inr rfl)
    obtain ⟨st2, q2, k2, e2, R2, t2, g1, g2, g3⟩ := rd_part b (tl_step ha) hg.2 (q := ⟨"repeat", [.str "repeat", .int kk], [], false⟩) (r := p :: r) (by rw [List.length_cons, len_r R]) (by show ("repeat" : Str) ≠ "program"; decide +kernel) (by show ("repeat" : Str) ≠ "else"; decide +kernel) rfl rfl
    rw [lns_rep, List.map_cons, tl_ahead ha]
    refine ⟨st2, q2.kind, ?_, ?_, t2⟩
    · show (readP st _).bind (fun s => rdTo s _) = _
      rw [o1]
      exact e2
    · have := R2.down t2
      rw [clz_rep (ds := []) (g1.trans rfl), g2, g3] at this
      exact this
  | .ite t y n, a, d, st, r, p, k, ha, hg, R, ho => by
    obtain ⟨o1, o2⟩ := opens R ho hg.1 (.inl rfl)
    obtain ⟨st2, q2, k2, e2, R2, t2, g1, g2, g3⟩ := rd_part y (tl_step ha) hg.2.1 (q := ⟨"if", [.str "if", t.d], [], false⟩) (r := p :: r) (by rw [List.length_cons, len_r R]) (by show ("if" : Str) ≠ "program"; decide +kernel) (by show ("if" : Str) ≠ "else"; decide +kernel) rfl rfl
    have D2 := R2.down t2
    rw [clz_if (ds := []) (g1.trans rfl), g2, g3] at D2
    have h1 : Done st (((a ++ (Sm.ite t y n).line) :: partL (a ++ "  ") y).map tl) d ({ p with rows := p.rows ++ [.tuple [.str "if", t.d, .tuple (Sm.ds y), .tuple []]] } :: r) := by
      rw [List.map_cons, tl_ahead ha]
      refine ⟨st2, q2.kind, ?_, D2, t2⟩
      show (readP st _).bind (fun s => rdTo s _) = _
      rw [o1]
      exact e2
    rw [lns_ite]
    by_cases hn : n = []
    · subst hn
      rw [if_pos rfl, List.append_nil]
      exact h1
    · rw [if_neg hn, ← List.cons_append, List.map_append]
      have D2' : Rdy st2 d ({ p with rows := p.rows ++ [.tuple [.str "if", t.d, .tuple (Sm.ds y), .tuple []]] } :: r) "if" := by
        have g1' : q2.kind = "if" := g1
        rw [g1'] at D2
        exact D2
      have e3 := else_at D2'
      have R3 : Rdy (⟨"else", [], [], false⟩ :: { p with rows := p.rows ++ [.tuple [.str "if", t.d, .tuple (Sm.ds y), .tuple []]] } :: r) (d + 1) (⟨"else", [], [], false⟩ :: { p with rows := p.rows ++ [.tuple [.str "if", t.d, .tuple (Sm.ds y), .tuple []]] } :: r) "" := Rdy.self (by rw [List.length_cons, len_r R])
      obtain ⟨st4, k4, e4, R4, t4⟩ := rd_b n hn (tl_step ha) hg.2.2 R3 rfl
      have D4 := R4.down t4
      rw [clz_else (rs := p.rows) (ds := [.str "if", t.d, .tuple (Sm.ds y), .tuple []]) rfl rfl] at D4
      refine ⟨st4, _, ?_, D4, t4⟩
      obtain ⟨s', k', x1, x2, x3⟩ := h1
      have xx : s' = st2 := by
        have y1 : rdTo st (((a ++ (Sm.ite t y n).line) :: partL (a ++ "  ") y).map tl) = some st2 := by
          rw [List.map_cons, tl_ahead ha]
          show (readP st _).bind (fun s => rdTo s _) = _
          rw [o1]
          exact e2
        rw [y1] at x1
        cases x1
        rfl
      subst xx
      rw [rdTo_app, x1, List.map_cons, tl_ahead ha, show tl ("else" : Str) = ELSEL by decide +kernel]
      show (readP s' _).bind (fun s => rdTo s _) = _
      rw [e3]
      exact e4
theorem rd_b : ∀ (b : List Sm) (hb : b ≠ []) {a : Str} {d : Nat} {st r : List Pt} {p : Pt} {k : Str}, tl a = spc d → Sm.rgs b → Rdy st d (p :: r) k → p.over = false → Done st ((Sm.lnss a b).map tl) d ({ p with rows := p.rows ++ Sm.ds b } :: r)
  | [], hb, a, d, st, r, p, k, ha, hg, R, ho => absurd rfl hb
  | s :: t, hb, a, d, st, r, p, k, ha, hg, R, ho => by
    have h1 := rd_s s ha hg.1 R ho
    by_cases ht : t = []
    · subst ht
      simp only [Sm.lnss, List.append_nil]
      exact h1
    · show Done st ((Sm.lns a s ++ Sm.lnss a t).map tl) d _
      rw [List.map_append]
      refine h1.app fun st' k' R' _ => ?_
      have h2 := rd_b t ht ha hg.2 R' ho
      simp only [List.append_assoc] at h2
      exact h2
theorem rd_part : ∀ (b : List Sm) {a : Str} {d : Nat} {r : List Pt} {q : Pt}, tl a = spc d → Sm.rgs b → r.length = d → q.kind ≠ "program" → q.kind ≠ "else" → q.rows = [] → q.over = false →
    ∃ st2 q2 k2, rdTo (q :: r) ((partL a b).map tl) = some st2 ∧ Rdy st2 d (q2 :: r) k2 ∧ topLacks st2 = false ∧ q2.kind = q.kind ∧ q2.head = q.head ∧ q2.rows = Sm.ds b
  | [], a, d, r, q, ha, hg, hr, h1, h2, h3, h4 => by
    obtain ⟨st2, k2, e, R2, t2⟩ := pass_done hr h1 h2 h3 h4
    refine ⟨st2, _, k2, ?_, R2, t2, rfl, rfl, h3⟩
    show rdTo _ [tl (a ++ "pass")] = _
    rw [tl_ahead ha, show tl ("pass" : Str) = PASSL by decide +kernel]
    exact e
  | s :: t, a, d, r, q, ha, hg, hr, h1, h2, h3, h4 => by
    obtain ⟨st2, k2, e, R2, t2⟩ := rd_b (s :: t) (by simp) ha hg (Rdy.self (p := q) hr) h4
    refine ⟨st2, _, k2, ?_, R2, t2, rfl, rfl, ?_⟩
    · unfold partL
      rw [if_neg (by simp)]
      exact e
    · show q.rows ++ _ = _
      rw [h3, List.nil_append]
end
/-! ### programs that are drawn are right -/
theorem whole_of {lo hi i : Int} (h : lo ≤ i ∧ i ≤ hi) : wholeB lo hi (.int i) = true := by
  show (decide (lo ≤ i) && decide (i ≤ hi)) = true
  rw [decide_eq_true h.1, decide_eq_true h.2]
  rfl
theorem exprB_of : ∀ {e : Ex} {n : Nat}, e.ok → e.gd → e.deep ≤ n → exprB n e.d = true
  | e, 0, _, _, h => by
    have := e_pos e
    omega
  | .num i, n + 1, h, g, hd => by
    show (nameB (.int i) || wholeB (-99) 99 (.int i)) = true
    rw [whole_of ⟨h.1, h.2⟩, Bool.or_true]
  | .var x, n + 1, h, g, hd => by
    show (nameB (.str x) || wholeB (-99) 99 (.str x)) = true
    rw [show nameB (.str x) = true from g]
    rfl
  | .plus a b, n + 1, h, g, hd => by
    simp only [Ex.deep] at hd
    have h1 := exprB_of (e := a) (n := n) h.1 g.1 (by omega)
    have h2 := exprB_of (e := b) (n := n) h.2 g.2 (by omega)
    show (exprB n b.d && (if ("plus" : Str) = "times" then wholeB (-9) 9 a.d else inV (.str "plus") [.str "plus", .str "minus"] && exprB n a.d)) = true
    rw [h2, if_neg (by decide +kernel), h1]
    decide +kernel
  | .minus a b, n + 1, h, g, hd => by
    simp only [Ex.deep] at hd
    have h1 := exprB_of (e := a) (n := n) h.1 g.1 (by omega)
    have h2 := exprB_of (e := b) (n := n) h.2 g.2 (by omega)
    show (exprB n b.d && (if ("minus" : Str) = "times" then wholeB (-9) 9 a.d else inV (.str "minus") [.str "plus", .str "minus"] && exprB n a.d)) = true
    rw [h2, if_neg (by decide +kernel), h1]
    decide +kernel
  | .times k a, n + 1, h, g, hd => by
    simp only [Ex.deep] at hd
    have h2 := exprB_of (e := a) (n := n) h.2.2 g (by omega)
    show (exprB n a.d && (if ("times" : Str) = "times" then wholeB (-9) 9 (.int k) else inV (.str "times") [.str "plus", .str "minus"] && exprB n (.int k))) = true
    rw [h2, if_pos rfl, whole_of ⟨h.1, h.2.1⟩]
    rfl
theorem testB_of : ∀ {t : Ts} {n : Nat}, t.ok → t.gd → t.nots ≤ n → testB n t.d = true
  | .less a b, n, h, g, hn => by
    have h1 := exprB_of (e := a) (n := 3) h.1.1 g.1 h.1.2
    have h2 := exprB_of (e := b) (n := 3) h.2.1 g.2 h.2.2
    have e : testB n (.tuple [.str "less", a.d, b.d]) = (decide (("less" : Str) = "less") && exprB 3 a.d && exprB 3 b.d) := by cases n <;> rfl
    show testB n (.tuple [.str "less", a.d, b.d]) = true
    rw [e, h1, h2, decide_eq_true rfl]
    rfl
  | .odd a, 0, h, g, hn => by
    have h1 := exprB_of (e := a) (n := 3) h.1 g h.2
    show (decide (("odd" : Str) = "odd") && exprB 3 a.d) = true
    rw [h1, decide_eq_true rfl]
    rfl
  | .odd a, n + 1, h, g, hn => by
    have h1 := exprB_of (e := a) (n := 3) h.1 g h.2
    show (if ("odd" : Str) = "odd" then exprB 3 a.d else _) = true
    rw [if_pos rfl, h1]
  | .not t, 0, h, g, hn => by simp [Ts.nots] at hn
  | .not t, n + 1, h, g, hn => by
    have h1 := testB_of (t := t) (n := n) h g (by simp only [Ts.nots] at hn; omega)
    show (if ("not" : Str) = "odd" then exprB 3 t.d else decide (("not" : Str) = "not") && testB n t.d) = true
    rw [if_neg (by decide +kernel), h1, decide_eq_true rfl]
    rfl
theorem stmtB_of : ∀ {s : Sm}, s.ok → s.tx → stmtB s.d = true
  | .set x e, h, g => by
    have h1 := exprB_of (n := 3) h.1.1 g.2.2 h.1.2
    have h2 : nameB (.str x) = true := g.2.1
    show (if ("set" : Str) = "repeat" then wholeB 0 8 (.str x) && isTupB e.d else (inV (.str "set") [.str "set", .str "half"] && nameB (.str x) && exprB 3 e.d)) = true
    rw [if_neg (by decide +kernel), h1, h2]
    decide +kernel
  | .half x e, h, g => by
    have h1 := exprB_of (n := 3) h.1.1 g.2.2 h.1.2
    have h2 : nameB (.str x) = true := g.2.1
    show (if ("half" : Str) = "repeat" then wholeB 0 8 (.str x) && isTupB e.d else (inV (.str "half") [.str "set", .str "half"] && nameB (.str x) && exprB 3 e.d)) = true
    rw [if_neg (by decide +kernel), h1, h2]
    decide +kernel
  | .tell e, h, g => by
    have h1 := exprB_of (n := 3) h.1 g.2 h.2
    show (if ("tell" : Str) = "tell" then exprB 3 e.d else inV (.str "tell") [.str "say", .str "stop"] && wordB e.d) = true
    rw [if_pos rfl, h1]
  | .say w, h, g => by
    have h2 : wordB (.str w) = true := g.2
    show (if ("say" : Str) = "tell" then exprB 3 (.str w) else inV (.str "say") [.str "say", .str "stop"] && wordB (.str w)) = true
    rw [if_neg (by decide +kernel), h2]
    decide +kernel
  | .stop w, h, g => by
    have h2 : wordB (.str w) = true := g.2
    show (if ("stop" : Str) = "tell" then exprB 3 (.str w) else inV (.str "stop") [.str "say", .str "stop"] && wordB (.str w)) = true
    rw [if_neg (by decide +kernel), h2]
    decide +kernel
  | .ite t y n, h, g => by
    have h1 := testB_of (n := 2) h.1 g.1.2 h.2.1
    show (decide (("if" : Str) = "if") && testB 2 t.d && true && true) = true
    rw [h1, decide_eq_true rfl]
    rfl
  | .rep k b, h, g => by
    show (if ("repeat" : Str) = "repeat" then wholeB 0 8 (.int (k : Int)) && true else plainB (.tuple [.str "repeat", .int (k : Int), .tuple (Sm.ds b)])) = true
    rw [if_pos rfl, whole_of ⟨by omega, by have := h.1; omega⟩]
    rfl
theorem txs_mem : ∀ {l : List Sm} {s : Sm}, Sm.txs l → s ∈ l → s.tx
  | x :: r, s, h, m => by
    simp only [Sm.txs] at h
    rcases List.mem_cons.mp m with rfl | m
    · exact h.1
    · exact txs_mem h.2 m
theorem nests_mem01 : ∀ {l : List Sm} {s : Sm}, s ∈ l → s.nest ≤ Sm.nests l
  | x :: r, s, m => by
    simp only [Sm.nests]
    rcases List.mem_cons.mp m with rfl | m
    · omega
    · have := nests_mem01 (l := r) m
      omega
theorem inn_good {s : Sm} (h : s.ok) (g : s.tx) : ∀ e ∈ s.inn, e.ok ∧ e.tx ∧ e.nest + 1 ≤ s.nest := by
  cases s with
  | ite t y n =>
    intro e he
    rcases List.mem_append.mp (show e ∈ y ++ n from he) with z | z
    · refine ⟨Sm.oks_mem h.2.2.1 z, txs_mem g.2.1 z, ?_⟩
      have := nests_mem01 z
      simp only [Sm.nest]
      omega
    · refine ⟨Sm.oks_mem h.2.2.2 z, txs_mem g.2.2 z, ?_⟩
      have := nests_mem01 z
      simp only [Sm.nest]
      omega
  | rep k b =>
    intro e he
    have z : e ∈ b := he
    refine ⟨Sm.oks_mem h.2 z, txs_mem g.2 z, ?_⟩
    have := nests_mem01 z
    simp only [Sm.nest]
    omega
  | set x e => intro e he; cases he
  | half x e => intro e he; cases he
  | tell e => intro e he; cases he
  | say w => intro e he; cases he
  | stop w => intro e he; cases he
theorem ordE_none : ∀ (f : Nat) (l : List (Int × Sm)) (p : Int), (∀ x ∈ l, x.2.ok ∧ x.2.tx ∧ x.1 + (x.2.nest : Int) ≤ 3) → ordE f (l.map fun x => (x.1, x.2.d)) p = none
  | 0, l, p, _ => rfl
  | f + 1, [], p, _ => rfl
  | f + 1, (dep, s) :: r, p, h => by
    obtain ⟨h1, h2, h3⟩ := h (dep, s) List.mem_cons_self
    simp only at h3
    rw [List.map_cons]
    simp only [ordE]
    rw [if_neg (by omega), if_pos (stmtB_of h1 h2), Sm.bitems_inn, Sm.ds_map, List.map_map]
    have e : (s.inn.map ((fun e => (dep + 1, e)) ∘ Sm.d)) ++ (r.map fun x => (x.1, x.2.d)) = ((s.inn.map fun e => (dep + 1, e)) ++ r).map fun x => (x.1, x.2.d) := by
      rw [List.map_append, List.map_map]
      rfl
    rw [e]
    refine ordE_none f _ _ fun x hx => ?_
    rcases List.mem_append.mp hx with z | z
    · obtain ⟨e, he, rfl⟩ := List.mem_map.mp z
      obtain ⟨a1, a2, a3⟩ := inn_good h1 h2 e he
      have a3 : e.nest + 1 ≤ s.nest := a3
      exact ⟨a1, a2, by show dep + 1 + (e.nest : Int) ≤ 3; omega⟩
    · exact h x (List.mem_cons_of_mem _ z)
theorem PTx.ord {b : List Sm} (h : PTx b) : ordErr (Sm.ds b) = none := by
  unfold ordErr
  have e : (Sm.ds b).map (fun e => ((0 : Int), e)) = (b.map fun s => ((0 : Int), s)).map fun x => (x.1, x.2.d) := by
    rw [Sm.ds_map, List.map_map, List.map_map]
    rfl
  rw [e]
  refine ordE_none _ _ _ fun x hx => ?_
  obtain ⟨s, hs, rfl⟩ := List.mem_map.mp hx
  refine ⟨Sm.oks_mem h.ok hs, txs_mem h.tx hs, ?_⟩
  have := nests_mem01 hs
  have := h.nest
  show (0 : Int) + (s.nest : Int) ≤ 3
  omega
theorem PTx.bnd {b : List Sm} (h : PTx b) : bndErr b = none := by
  have h1 := h.pl
  have h2 := h.wt
  have h3 := h.hv
  have h4 := h.cp
  unfold bndErr
  rw [if_neg (by omega), if_neg (by omega), if_neg (by omega), if_neg (by omega)]
theorem PTx.err {b : List Sm} (h : PTx b) {e : PyData} (g : PErr (.tuple (Sm.ds b)) e) : e = .none := by
  generalize hd : PyData.tuple (Sm.ds b) = d at g
  cases g with
  | prog h2 => subst hd; cases h2
  | ord h2 => cases hd; rw [h.ord] at h2; cases h2
  | bnd h2 =>
    rename_i b2
    have e2 := Sm.ds_inj _ _ (PyData.tuple.inj hd)
    subst e2
    rw [h.bnd]
    rfl
/-! ### the text of a program is read as the program -/
theorem PTx.rg {b : List Sm} (h : PTx b) : Sm.rgs b := Sm.rgs_of b h.ok h.tx
mutual
theorem lns_nl : ∀ (s : Sm) (a : Str), s.rg → 10 ∉ tl a → ∀ x ∈ Sm.lns a s, 10 ∉ tl x
  | .ite t y n, a, h, ha => by
    have ha2 : 10 ∉ tl (a ++ "  ") := by
      rw [tl_append, show tl ("  " : Str) = [32, 32] by decide +kernel]
      simp [ha]
    rw [lns_ite]
    intro x hx
    rcases List.mem_cons.mp hx with rfl | hx
    · rw [tl_append]
      simp [ha, h.1.nl]
    rcases List.mem_append.mp hx with hx | hx
    · unfold partL at hx
      split at hx
      · cases List.mem_singleton.mp hx
        rw [tl_append, show tl ("pass" : Str) = PASSL by decide +kernel]
        simp [ha2, PASSL]
      · exact lnss_nl y _ h.2.1 ha2 x hx
    · split at hx
      · cases hx
      · rcases List.mem_cons.mp hx with rfl | hx
        · rw [tl_append, show tl ("else" : Str) = ELSEL by decide +kernel]
          simp [ha, ELSEL]
        · exact lnss_nl n _ h.2.2 ha2 x hx
  | .rep k b, a, h, ha => by
    have ha2 : 10 ∉ tl (a ++ "  ") := by
      rw [tl_append, show tl ("  " : Str) = [32, 32] by decide +kernel]
      simp [ha]
    rw [lns_rep]
    intro x hx
    rcases List.mem_cons.mp hx with rfl | hx
    · rw [tl_append]
      simp [ha, h.1.nl]
    · unfold partL at hx
      split at hx
      · cases List.mem_singleton.mp hx
        rw [tl_append, show tl ("pass" : Str) = PASSL by decide +kernel]
        simp [ha2, PASSL]
      · exact lnss_nl b _ h.2 ha2 x hx
  | .set y e, a, h, ha => by
    intro x hx
    simp only [Sm.lns, List.mem_singleton] at hx
    rw [hx, tl_append]
    simp [ha, (show Ln _ _ from h).nl]
  | .half y e, a, h, ha => by
    intro x hx
    simp only [Sm.lns, List.mem_singleton] at hx
    rw [hx, tl_append]
    simp [ha, (show Ln _ _ from h).nl]
  | .tell e, a, h, ha => by
    intro x hx
    simp only [Sm.lns, List.mem_singleton] at hx
    rw [hx, tl_append]
    simp [ha, (show Ln _ _ from h).nl]
  | .say w, a, h, ha => by
    intro x hx
    simp only [Sm.lns, List.mem_singleton] at hx
    rw [hx, tl_append]
    simp [ha, (show Ln _ _ from h).nl]
  | .stop w, a, h, ha => by
    intro x hx
    simp only [Sm.lns, List.mem_singleton] at hx
    rw [hx, tl_append]
    simp [ha, (show Ln _ _ from h).nl]
theorem lnss_nl : ∀ (b : List Sm) (a : Str), Sm.rgs b → 10 ∉ tl a → ∀ x ∈ Sm.lnss a b, 10 ∉ tl x
  | [], a, h, ha => by
    intro x hx
    simp only [Sm.lnss] at hx
    cases hx
  | s :: r, a, h, ha => by
    intro x hx
    simp only [Sm.lnss] at hx
    rcases List.mem_append.mp hx with hx | hx
    · exact lns_nl s a h.1 ha x hx
    · exact lnss_nl r a h.2 ha x hx
end
theorem readsP_of : ∀ {r : List (List Nat)} {st st' : List Pt} {n : Nat}, rdTo st r = some st' → readsP st n r = .inl st'
  | [], st, st', n, h => by
    cases h
    rfl
  | l :: r, st, st', n, h => by
    unfold rdTo at h
    unfold readsP
    obtain ⟨s, e1, e2⟩ := Option.bind_eq_some_iff.mp h
    rw [e1]
    exact readsP_of e2
theorem parse_lines {b : List Sm} (h : Sm.rgs b) : parseL ((("program" : Str) :: Sm.lnss "" b).map tl) = .rows (Sm.ds b) := by
  have e0 : tl ("" : Str) = spc 0 := by decide +kernel
  have ep : tl ("program" : Str) = progL := by decide +kernel
  have R0 : Rdy st0 0 (⟨"program", [], [], false⟩ :: []) "" := Rdy.self rfl
  have key : ∃ st k, rdTo st0 ((Sm.lnss "" b).map tl) = some st ∧ Rdy st 0 (⟨"program", [], Sm.ds b, false⟩ :: []) k ∧ topLacks st = false := by
    cases b with
    | nil => exact ⟨st0, "", rfl, R0, rfl⟩
    | cons s r => exact rd_b (s :: r) (by simp) e0 h R0 rfl
  obtain ⟨st, k, e1, R, e2⟩ := key
  unfold parseL
  rw [List.map_cons, ep]
  dsimp only
  rw [if_neg (fun z => z rfl), readsP_of e1]
  dsimp only
  rw [e2, if_neg Bool.false_ne_true]
  have := R.ct
  rw [Nat.sub_zero] at this
  rw [this]
theorem split_text {b : List Sm} (h : Sm.rgs b) : Txt.split (pText b) "\n" = ("program" : Str) :: Sm.lnss "" b := by
  unfold pText
  refine split_join (s := 10) (S := []) (by decide +kernel) (by decide +kernel) (by simp) fun p hp => ?_
  rcases List.mem_cons.mp hp with rfl | hp
  · decide +kernel
  · exact lnss_nl b "" h (by decide +kernel) p hp
theorem PTx.txtP {b : List Sm} (h : PTx b) : TxtP (pText b) (Sm.ds b) := by
  have hs := split_text h.rg
  refine ⟨by have := h.text.2; omega, ?_, fun l hl => ?_, ?_, ⟨by simp only [Szd]; exact Sm.szds h.ok, ?_⟩, fun e he => h.err he⟩
  · rw [hs]
    have := h.len
    omega
  · rw [hs] at hl
    have := (h.fit l hl).2
    omega
  · rw [hs]
    exact parse_lines h.rg
  · have h1 := Sm.dszs_le h.ok
    have h2 := h.pl
    simp only [dsz]
    omega
/-! ### beginnings of the lines of a program -/
/-- a line that wants a block behind it -/
def IsHd (x : Str) : Prop := ∃ d l, tl x = spc d ++ l ∧ (l = ELSEL ∨ ∃ ds, Ln l ds ∧ (kwD ds = "if" ∨ kwD ds = "repeat"))
def HdLast (ls : List Str) : Prop := ∃ p x, ls = p ++ [x] ∧ IsHd x
structure SubB (c b : List Sm) : Prop where
  ok : Sm.oks b → Sm.oks c
  tx : Sm.txs b → Sm.txs c
  nest : Sm.nests c ≤ Sm.nests b
  pl : Sm.pls c ≤ Sm.pls b
  wt : Sm.wts c ≤ Sm.wts b
  hv : Sm.hvs c ≤ Sm.hvs b
  cp : Sm.cps c ≤ Sm.cps b
structure SubS (c b : Sm) : Prop where
  ok : b.ok → c.ok
  tx : b.tx → c.tx
  nest : c.nest ≤ b.nest
  pl : c.pl ≤ b.pl
  wt : c.wt ≤ b.wt
  hv : c.hv ≤ b.hv
  cp : c.cp ≤ b.cp
theorem SubS.refl (s : Sm) : SubS s s := ⟨id, id, Nat.le_refl _, Nat.le_refl _, Nat.le_refl _, Nat.le_refl _, Nat.le_refl _⟩
theorem SubB.refl (s : List Sm) : SubB s s := ⟨id, id, Nat.le_refl _, Nat.le_refl _, Nat.le_refl _, Nat.le_refl _, Nat.le_refl _⟩
theorem SubB.nil (b : List Sm) : SubB [] b := ⟨fun _ => trivial, fun _ => trivial, Nat.zero_le _, Nat.zero_le _, Nat.zero_le _, Nat.zero_le _, Nat.zero_le _⟩
theorem SubB.cons {s s' : Sm} {r r' : List Sm} (h : SubS s' s) (g : SubB r' r) : SubB (s' :: r') (s :: r) := by
  have := h.nest; have := h.pl; have := h.wt; have := h.hv; have := h.cp
  have := g.nest; have := g.pl; have := g.wt; have := g.hv; have := g.cp
  refine ⟨fun x => ⟨h.ok x.1, g.ok x.2⟩, fun x => ⟨h.tx x.1, g.tx x.2⟩, ?_, ?_, ?_, ?_, ?_⟩
  · simp only [Sm.nests]; omega
  · simp only [Sm.pls]; omega
  · simp only [Sm.wts]; omega
  · simp only [Sm.hvs]; omega
  · simp only [Sm.cps]; omega
theorem SubS.ite {t : Ts} {y n y' n' : List Sm} (h : SubB y' y) (g : SubB n' n) : SubS (.ite t y' n') (.ite t y n) := by
  have := h.nest; have := h.pl; have := h.wt; have := h.hv; have := h.cp
  have := g.nest; have := g.pl; have := g.wt; have := g.hv; have := g.cp
  refine ⟨fun x => ⟨x.1, x.2.1, h.ok x.2.2.1, g.ok x.2.2.2⟩, fun x => ⟨x.1, h.tx x.2.1, g.tx x.2.2⟩, ?_, ?_, ?_, ?_, ?_⟩
  · simp only [Sm.nest]; omega
  · simp only [Sm.pl]; omega
  · simp only [Sm.wt]; omega
  · simp only [Sm.hv]; omega
  · simp only [Sm.cp]; omega
theorem SubS.rep {k : Nat} {b b' : List Sm} (h : SubB b' b) : SubS (.rep k b') (.rep k b) := by
  have := h.nest; have := h.pl
  have w := Nat.mul_le_mul_left k h.wt
  have v := Nat.mul_le_mul_left k h.hv
  have c := Nat.mul_le_mul_left k h.cp
  refine ⟨fun x => ⟨x.1, h.ok x.2⟩, fun x => ⟨x.1, h.tx x.2⟩, ?_, ?_, ?_, ?_, ?_⟩
  · simp only [Sm.nest]; omega
  · simp only [Sm.pl]; omega
  · simp only [Sm.wt]; omega
  · simp only [Sm.hv]; omega
  · simp only [Sm.cp]; omega
theorem HdLast.one {x : Str} (h : IsHd x) : HdLast [x] := ⟨[], x, rfl, h⟩
theorem HdLast.app {p ls : List Str} (h : HdLast ls) : HdLast (p ++ ls) := by
  obtain ⟨q, x, rfl, hx⟩ := h
  exact ⟨p ++ q, x, by simp, hx⟩
theorem hd_line {a : Str} {d : Nat} {s : Sm} {ds : List PyData} (ha : tl a = spc d) (h : Ln (tl s.line) ds) (hk : kwD ds = "if" ∨ kwD ds = "repeat") : IsHd (a ++ s.line) := ⟨d, tl s.line, tl_ahead ha, .inr ⟨ds, h, hk⟩⟩
theorem hd_else {a : Str} {d : Nat} (ha : tl a = spc d) : IsHd (a ++ "else") := ⟨d, ELSEL, by rw [tl_ahead ha, show tl ("else" : Str) = ELSEL by decide +kernel], .inl rfl⟩
theorem take_app_le {α : Type} {a b : List α} {k : Nat} (h : k ≤ a.length) : (a ++ b).take k = a.take k := by rw [List.take_append, Nat.sub_eq_zero_of_le h, List.take_zero, List.append_nil]
theorem take_app_gt {α : Type} {a b : List α} {k : Nat} (h : a.length ≤ k) : (a ++ b).take k = a ++ b.take (k - a.length) := by rw [List.take_append, List.take_of_length_le h]
mutual
theorem cut_s : ∀ (s : Sm) {a : Str} {d : Nat} (k : Nat), tl a = spc d → s.rg → 1 ≤ k → k ≤ (Sm.lns a s).length → (∃ s', SubS s' s ∧ Sm.lns a s' = (Sm.lns a s).take k) ∨ HdLast ((Sm.lns a s).take k)
  | .set x e, a, d, k, ha, hg, h1, hk => .inl ⟨_, SubS.refl _, by rw [List.take_of_length_le]; simp only [Sm.lns, List.length_singleton]; exact h1⟩
  | .half x e, a, d, k, ha, hg, h1, hk => .inl ⟨_, SubS.refl _, by rw [List.take_of_length_le]; simp only [Sm.lns, List.length_singleton]; exact h1⟩
  | .tell e, a, d, k, ha, hg, h1, hk => .inl ⟨_, SubS.refl _, by rw [List.take_of_length_le]; simp only [Sm.lns, List.length_singleton]; exact h1⟩
  | .say w, a, d, k, ha, hg, h1, hk => .inl ⟨_, SubS.refl _, by rw [List.take_of_length_le]; simp only [Sm.lns, List.length_singleton]; exact h1⟩
  | .stop w, a, d, k, ha, hg, h1, hk => .inl ⟨_, SubS.refl _, by rw [List.take_of_length_le]; simp only [Sm.lns, List.length_singleton]; exact h1⟩
  | .rep kk b, a, d, k, ha, hg, h1, hk => by
    obtain ⟨j, rfl⟩ : ∃ j, k = j + 1 := ⟨k - 1, by omega⟩
    rw [lns_rep] at hk ⊢
    rw [List.length_cons] at hk
    rw [List.take_succ_cons]
    by_cases hj : j = 0
    · subst hj
      exact .inr (HdLast.one (hd_line ha hg.1 (.inr rfl)))
    · rcases cut_part b j (tl_step ha) hg.2 (by omega) (by omega) with ⟨b', hb, e⟩ | h
      · exact .inl ⟨.rep kk b', SubS.rep hb, by rw [lns_rep, e]; rfl⟩
      · exact .inr (HdLast.app (p := [a ++ (Sm.rep kk b).line]) h)
  | .ite t y n, a, d, k, ha, hg, h1, hk => by
    obtain ⟨j, rfl⟩ : ∃ j, k = j + 1 := ⟨k - 1, by omega⟩
    rw [lns_ite] at hk ⊢
    rw [List.length_cons, List.length_append] at hk
    rw [List.take_succ_cons]
    by_cases hj : j = 0
    · subst hj
      exact .inr (HdLast.one (hd_line ha hg.1 (.inl rfl)))
    · by_cases hp : j ≤ (partL (a ++ "  ") y).length
      · rw [take_app_le hp]
        rcases cut_part y j (tl_step ha) hg.2.1 (by omega) hp with ⟨y', hy, e⟩ | h
        · exact .inl ⟨.ite t y' [], SubS.ite hy (SubB.nil n), by rw [lns_ite, e, if_pos rfl, List.append_nil]; rfl⟩
        · exact .inr (HdLast.app (p := [a ++ (Sm.ite t y n).line]) h)
      · rw [take_app_gt (by omega)]
        by_cases hn : n = []
        · subst hn
          rw [if_pos rfl, List.length_nil] at hk
          omega
        · rw [if_neg hn] at hk ⊢
          rw [List.length_cons] at hk
          obtain ⟨i, hi⟩ : ∃ i, j - (partL (a ++ "  ") y).length = i + 1 := ⟨j - (partL (a ++ "  ") y).length - 1, by omega⟩
          rw [hi, List.take_succ_cons]
          by_cases hi0 : i = 0
          · subst hi0
            exact .inr (HdLast.app (p := [a ++ (Sm.ite t y n).line]) (HdLast.app (HdLast.one (hd_else ha))))
          · rcases cut_b n i (tl_step ha) hg.2.2 (by omega) (by omega) with ⟨n', h0, hn', e⟩ | h
            · exact .inl ⟨.ite t y n', SubS.ite (SubB.refl y) hn', by rw [lns_ite, if_neg h0, e]; rfl⟩
            · exact .inr (HdLast.app (p := [a ++ (Sm.ite t y n).line]) (HdLast.app (HdLast.app (p := [a ++ "else"]) h)))
theorem cut_b : ∀ (b : List Sm) {a : Str} {d : Nat} (k : Nat), tl a = spc d → Sm.rgs b → 1 ≤ k → k ≤ (Sm.lnss a b).length → (∃ b', b' ≠ [] ∧ SubB b' b ∧ Sm.lnss a b' = (Sm.lnss a b).take k) ∨ HdLast ((Sm.lnss a b).take k)
  | [], a, d, k, ha, hg, h1, hk => by simp [Sm.lnss] at hk; omega
  | s :: r, a, d, k, ha, hg, h1, hk => by
    have ec : Sm.lnss a (s :: r) = Sm.lns a s ++ Sm.lnss a r := by simp only [Sm.lnss]
    rw [ec] at hk ⊢
    rw [List.length_append] at hk
    by_cases hs : k ≤ (Sm.lns a s).length
    · rw [take_app_le hs]
      rcases cut_s s k ha hg.1 h1 hs with ⟨s', h, e⟩ | h
      · exact .inl ⟨[s'], by simp, SubB.cons h (SubB.nil r), by rw [lnss_one, e]⟩
      · exact .inr h
    · rw [take_app_gt (by omega)]
      rcases cut_b r (k - (Sm.lns a s).length) ha hg.2 (by omega) (by omega) with ⟨r', h0, h, e⟩ | h
      · exact .inl ⟨s :: r', by simp, SubB.cons (SubS.refl s) h, by simp only [Sm.lnss]; rw [e]⟩
      · exact .inr (HdLast.app h)
theorem cut_part : ∀ (b : List Sm) {a : Str} {d : Nat} (k : Nat), tl a = spc d → Sm.rgs b → 1 ≤ k → k ≤ (partL a b).length → (∃ b', SubB b' b ∧ partL a b' = (partL a b).take k) ∨ HdLast ((partL a b).take k)
  | [], a, d, k, ha, hg, h1, hk => .inl ⟨[], SubB.refl _, by rw [List.take_of_length_le]; exact h1⟩
  | s :: t, a, d, k, ha, hg, h1, hk => by
    have ep : partL a (s :: t) = Sm.lnss a (s :: t) := by unfold partL; rw [if_neg (by simp)]
    rw [ep] at hk ⊢
    rcases cut_b (s :: t) k ha hg h1 hk with ⟨b', h0, h, e⟩ | h
    · exact .inl ⟨b', h, by unfold partL; rw [if_neg h0]; exact e⟩
    · exact .inr h
end
theorem PTx.sub {b c : List Sm} (h : PTx b) (s : SubB c b) : PTx c :=
  ⟨s.ok h.ok, s.tx h.tx, Nat.le_trans s.nest h.nest, Nat.le_trans s.pl h.pl, Nat.le_trans s.wt h.wt, Nat.le_trans s.hv h.hv, Nat.le_trans s.cp h.cp⟩
theorem pS_else : pS ELSEL = none := by decide +kernel
theorem lacks_new {k : Str} {ds : List PyData} (h : k ≠ "program") : topLacks (⟨k, ds, [], false⟩ :: r) = true := by
  show lacks _ = true
  unfold lacks
  rw [decide_eq_false h]
  rfl
/-- behind a header a line must follow -/
theorem readP_hd {x : Str} {s s' : List Pt} (h : IsHd x) (e : readP s (tl x) = some s') : topLacks s' = true := by
  obtain ⟨d, l, ex, hl⟩ := h
  have h0 : ∃ c r, l = c :: r ∧ c ≠ 32 := by
    rcases hl with rfl | ⟨ds, h, _⟩
    · exact ⟨101, _, rfl, by decide⟩
    · exact h.h0
  rw [ex] at e
  unfold readP at e
  rw [show restL (spc d ++ l) = l from restL_spc h0 _] at e
  split at e
  · cases e
  · split at e
    · cases e
      exact lacks_new (by decide +kernel)
    · rename_i hne
      split at e
      · cases e
      · rename_i p r heq
        rcases hl with rfl | ⟨ds, hln, hk⟩
        · rw [if_neg (by decide), pS_else] at e
          split at e
          · cases e
          · cases e
        · rw [if_neg (ln_else hln).2, hln.ps] at e
          split at e
          · cases e
          · unfold putP at e
            dsimp only at e
            rw [if_pos hk] at e
            cases e
            refine lacks_new fun z => ?_
            rcases hk with hk | hk
            · rw [hk] at z
              exact absurd z (by decide +kernel)
            · rw [hk] at z
              exact absurd z (by decide +kernel)
theorem prog_to {b : List Sm} (h : Sm.rgs b) : ∃ st, rdTo st0 ((Sm.lnss "" b).map tl) = some st := by
  have e0 : tl ("" : Str) = spc 0 := by decide +kernel
  cases b with
  | nil => exact ⟨st0, rfl⟩
  | cons s r =>
    obtain ⟨st, k, e1, _⟩ := rd_b (s :: r) (by simp) e0 h (Rdy.self (p := ⟨"program", [], [], false⟩) (r := []) rfl) rfl
    exact ⟨st, e1⟩
/-- a beginning that ends with a header: the number of lines is told -/
theorem hd_text {b : List Sm} (h : Sm.rgs b) {k : Nat} (hk : k ≤ (Sm.lnss "" b).length) (hl : HdLast ((Sm.lnss "" b).take k)) : ∃ s, rdTo st0 (((Sm.lnss "" b).take k).map tl) = some s ∧ topLacks s = true := by
  obtain ⟨st, e⟩ := prog_to h
  obtain ⟨s, es⟩ := rdTo_take e k
  rw [← List.map_take] at es
  refine ⟨s, es, ?_⟩
  obtain ⟨p, x, ep, hx⟩ := hl
  rw [ep, List.map_append, rdTo_app] at es
  obtain ⟨s0, e1, e2⟩ := Option.bind_eq_some_iff.mp es
  obtain ⟨s1, e3, e4⟩ := Option.bind_eq_some_iff.mp (show (readP s0 (tl x)).bind (fun s => rdTo s []) = some s from e2)
  cases e4
  exact readP_hd hx e3
/-- a wrong line is wrong behind all -/
theorem readP_wrong {st : List Pt} {l : List Nat} (h1 : restL l ≠ ELSEL) (h2 : restL l ≠ PASSL) (h3 : pS (restL l) = none) : readP st l = none := by
  unfold readP
  split
  · rfl
  · rw [if_neg fun z => h1 z.1]
    cases (comeTo (st.length - 1 - blanks l / 2) st "").1 with
    | nil => rfl
    | cons p r =>
      dsimp only
      rw [h3]
      split
      · rfl
      · rfl
/-! ### data without bools: == is equality -/
theorem PTx.pr {b : List Sm} (h : PTx b) : PrOk b := ⟨h.ok, by have := h.nest; omega, h.pl, h.wt, h.hv, h.cp⟩
theorem PTx.shw {b : List Sm} (h : PTx b) : Shw (.tuple (Sm.ds b)) := (prog_sw h.pr).shw (by decide) (by decide)
end EH
namespace EH
open PySem PySem.Spec PyProof.Rows L2
/-- an error is made: its dict is new, all else stays -/
theorem err_made {C : Addr} {f : Str} {v : V} {H : Hp} {Q : XK} (h : ∀ (d : Addr) (H' : Hp), H d = none → H' d = some (.xd [(f, v)]) → Kp [] H H' → Q (.ref C) (some d) H') :
    ([v] : List V).length ≤ 1000 ∧ ∀ a, H a = none → spErrI C f (.ref a :: ([v] ++ [])) (upd H a (exo a C none)) (fun v2 H2 => v2 = .non ∧ ∃ (d : Addr) (fs : List (Str × V)), H2 a = some (exo a C (some d)) ∧ H2 d = some (exd d fs) ∧ H d = none ∧ Q (.ref C) (some d) (upd (del H2 a) d (.xd fs))) (fun _ _ _ => False) := by
  refine ⟨by show 1 ≤ 1000; decide, fun a ha => ⟨a, v, rfl, upd_same, fun dx hdx hne => ⟨rfl, dx, [(f, v)], upd_same, by rw [upd_ne hne, upd_same], ?_, ?_⟩⟩⟩
  · rwa [upd_ne hne] at hdx
  · have hd : H dx = none := by rwa [upd_ne hne] at hdx
    have same : ∀ c, H c ≠ none → upd (del (upd (upd (upd H a (exo a C none)) dx (exd dx [(f, v)])) a (exo a C (some dx))) a) dx (.xd [(f, v)]) c = H c := fun c hc => by
      have h1 : c ≠ a := fun z => hc (z ▸ ha)
      have h2 : c ≠ dx := fun z => hc (z ▸ hd)
      rw [upd_ne h2, del_ne h1, upd_ne h1, upd_ne h2, upd_ne h1]
    exact h dx _ hd upd_same ⟨fun c o e _ => by rw [same c (by rw [e]; simp)]; exact e, fun c o e => by rw [same c (by rw [e]; simp)]; exact e, fun c o e => by rw [same c (by rw [e]; simp)]; exact e⟩
theorem readsP_fail : ∀ {r : List (List Nat)} {st s : List Pt} {n j : Nat} {l : List Nat}, rdTo st (r.take j) = some s → r[j]? = some l → readP s l = none → readsP st n r = .inr (n + j)
  | [], st, s, n, j, l, h, hl, hn => by simp at hl
  | a :: r, st, s, n, 0, l, h, hl, hn => by
    cases h
    cases hl
    unfold readsP
    rw [hn]
    rfl
  | a :: r, st, s, n, j + 1, l, h, hl, hn => by
    rw [List.take_succ_cons] at h
    unfold rdTo at h
    obtain ⟨s1, e1, e2⟩ := Option.bind_eq_some_iff.mp h
    have ih := readsP_fail (n := n + 1) e2 hl hn
    unfold readsP
    rw [e1]
    dsimp only
    rw [ih]
    congr 1
    omega
theorem readsP_okk : ∀ {r : List (List Nat)} {st s : List Pt} {n : Nat}, rdTo st r = some s → readsP st n r = .inl s
  | [], st, s, n, h => by
    cases h
    rfl
  | a :: r, st, s, n, h => by
    unfold rdTo at h
    obtain ⟨s1, e1, e2⟩ := Option.bind_eq_some_iff.mp h
    unfold readsP
    rw [e1]
    exact readsP_okk e2
theorem parseL_head {a : List Nat} {r : List (List Nat)} (h : a ≠ progL) : parseL (a :: r) = .text 0 := by
  unfold parseL
  dsimp only
  rw [if_pos h]
theorem parseL_fail {r : List (List Nat)} {s : List Pt} {j : Nat} {l : List Nat} (h : rdTo st0 (r.take j) = some s) (hl : r[j]? = some l) (hn : readP s l = none) : parseL (progL :: r) = .text (j + 1) := by
  unfold parseL
  dsimp only
  rw [if_neg (fun z => z rfl), readsP_fail h hl hn]
  dsimp only
  rw [Nat.add_comm]
theorem parseL_lack {r : List (List Nat)} {s : List Pt} (h : rdTo st0 r = some s) (ht : topLacks s = true) : parseL (progL :: r) = .text (r.length + 1) := by
  unfold parseL
  dsimp only
  rw [if_neg (fun z => z rfl), readsP_okk h]
  dsimp only
  rw [if_pos ht]
theorem parseL_rowsE {r : List (List Nat)} {s : List Pt} {p : Pt} (h : rdTo st0 r = some s) (ht : topLacks s = false) (hc : (comeTo (s.length - 1) s "").1 = [p]) : parseL (progL :: r) = .rows p.rows := by
  unfold parseL
  dsimp only
  rw [if_neg (fun z => z rfl), readsP_okk h]
  dsimp only
  rw [ht, if_neg Bool.false_ne_true, hc]
theorem perr_non {H : Hp} {d e : PyData} {t : V} (pe : PErr d e) (te : Tr H e t) (he : e ≠ .none) : decide (t = V.non) = false := by
  have key : ∀ {ds : List PyData}, Tr H (.tuple ds) t → decide (t = V.non) = false := fun {ds} h => by
    obtain ⟨a, xs, rfl, _⟩ := tr_tup h
    rfl
  cases pe with
  | prog h => exact key te
  | ord h => exact key te
  | bnd h =>
    rename_i b
    revert te he
    cases bndErr b with
    | none => intro te he; exact absurd rfl he
    | some w => intro te he; exact key te
end EH
namespace EH
open PySem L2 TL
/-! ### the first word of a line -/
theorem split32_head (z : Str) : ∃ r, Txt.split z " " = wd (tl z) :: r := by
  have e32 : tl (Str.ofString " ") = [32] := by decide +kernel
  have hs : (Txt.split z " ").map tl = spl [32] 0 [] (tl z) := by
    have := split_spl z " " (by rw [e32]; simp) (kind_ok (by decide +kernel))
    rw [e32] at this
    exact this
  have key : ∃ r, spl [32] 0 [] (tl z) = ((tl z).takeWhile fun c => c != 32) :: r := by
    by_cases h : 32 ∈ tl z
    · obtain ⟨p, q, e, hp⟩ := List.eq_append_cons_of_mem h
      rw [e, (tw_stop (r := q) hp).1]
      exact ⟨_, by rw [show p ++ 32 :: q = p ++ ([32] ++ q) from rfl, spl_part1 hp, List.nil_append]⟩
    · have ea : ((tl z).takeWhile fun c => c != 32) = tl z := (tw_all (p := fun c => c != 32) (l := tl z) fun c hc => by
        have : c ≠ 32 := fun e => h (e ▸ hc)
        simpa using this).1
      exact ⟨[], by rw [spl_last1 h, List.nil_append, ea]⟩
  obtain ⟨r, hr⟩ := key
  rw [hr] at hs
  cases hc : Txt.split z " " with
  | nil => rw [hc] at hs; cases hs
  | cons a t =>
    rw [hc, List.map_cons] at hs
    refine ⟨t, ?_⟩
    have h1 := (List.cons.inj hs).1
    rw [show a = wd (tl z) from ext_tl (h1.trans (by unfold wd; rw [tl_mkS]))]
theorem tw_app32 {b : List Nat} (hb : ∀ c ∈ b, c = 32) : ∀ a : List Nat, (a ++ b).takeWhile (fun c => c != 32) = a.takeWhile fun c => c != 32
  | [] => by
    cases b with
    | nil => rfl
    | cons c r =>
      cases hb c List.mem_cons_self
      rfl
  | c :: a => by
    by_cases h : c = 32
    · subst h
      rfl
    · have e : (c != 32) = true := by simpa using h
      rw [List.cons_append, List.takeWhile_cons_of_pos (p := fun c => c != 32) e, List.takeWhile_cons_of_pos (p := fun c => c != 32) e, tw_app32 hb a]
theorem strip_form (z : Str) : ∃ s b : List Nat, Txt.stripChars z " " = mkS s ∧ restL (tl z) = s ++ b ∧ ∀ c ∈ b, c = 32 := by
  have e0 : (Str.ofString " ").cps = #[32] := by decide +kernel
  have ef : ((Str.ofString " ").cps.contains : Nat → Bool) = fun c => c == 32 := by
    funext c
    rw [e0, Bool.eq_iff_iff]
    simp
  have em : restL (tl z) = (tl z).drop ((tl z).takeWhile fun c => c == 32).length := (drop_tw _ _).symm
  refine ⟨(restL (tl z)).take ((restL (tl z)).length - ((restL (tl z)).reverse.takeWhile fun c => c == 32).length), (restL (tl z)).drop ((restL (tl z)).length - ((restL (tl z)).reverse.takeWhile fun c => c == 32).length), ?_, (List.take_append_drop _ _).symm, fun c hc => ?_⟩
  · unfold Txt.stripChars
    rw [PyProof.Rows.stripBy_eq, ef]
    refine ext_tl ?_
    rw [tl_mkS]
    have e2 : PySem.stripHi (fun c => c == 32) true z (PySem.stripLo (fun c => c == 32) true z) = z.length - ((restL (tl z)).reverse.takeWhile fun c => c == 32).length := by
      rw [em]
      rfl
    rw [e2]
    show tl (Builtin.Str.strSub z ((tl z).takeWhile fun c => c == 32).length _) = _
    rw [tl_strSub, em, List.length_drop, len_tl, Nat.sub_right_comm]
  · have hr : (restL (tl z)).drop ((restL (tl z)).length - ((restL (tl z)).reverse.takeWhile fun c => c == 32).length) = ((restL (tl z)).reverse.takeWhile fun c => c == 32).reverse := by
      generalize restL (tl z) = m
      have h1 : m.reverse.takeWhile (fun c => c == 32) ++ m.reverse.dropWhile (fun c => c == 32) = m.reverse := List.takeWhile_append_dropWhile
      have h2 : m = (m.reverse.dropWhile fun c => c == 32).reverse ++ (m.reverse.takeWhile fun c => c == 32).reverse := by
        rw [← List.reverse_append, h1, List.reverse_reverse]
      have hl : m.length - (m.reverse.takeWhile fun c => c == 32).length = (m.reverse.dropWhile fun c => c == 32).reverse.length := by
        have := congrArg List.length h1
        rw [List.length_append, List.length_reverse] at this
        rw [List.length_reverse]
        omega
      rw [hl]
      conv => lhs; rw [h2]
      simp
    rw [hr, List.mem_reverse] at hc
    have := List.all_eq_true.mp (List.all_takeWhile (p := fun c => c == 32) (l := (restL (tl z)).reverse)) c hc
    simpa using this
/-- the first word of a line, as the law reads it -/
def fw (z : Str) : Str := wd (restL (tl z))
theorem strip_split (z : Str) : ∃ r, Txt.split (Txt.stripChars z " ") " " = fw z :: r := by
  obtain ⟨s, b, e1, e2, hb⟩ := strip_form z
  obtain ⟨r, hr⟩ := split32_head (Txt.stripChars z " ")
  refine ⟨r, ?_⟩
  rw [hr, e1, tl_mkS]
  unfold fw wd
  rw [e2, tw_app32 hb]
/-! ### which lines are headers -/
theorem pS_kw {l : List Nat} {ds : List PyData} (h : pS l = some ds) : wd l ≠ "else" ∧ (wd l = "if" ∨ wd l = "repeat" → kwD ds = "if" ∨ kwD ds = "repeat") ∧ (kwD ds = "if" ∨ kwD ds = "repeat" → wd l = "if" ∨ wd l = "repeat") := by
  unfold pS at h
  split at h
  · rename_i hw
    split at h
    · cases h
      rcases hw with hw | hw
      · rw [hw]
        exact ⟨by decide +kernel, fun z => absurd z (by decide +kernel), id⟩
      · rw [hw]
        exact ⟨by decide +kernel, fun z => absurd z (by decide +kernel), id⟩
    · cases h
  · split at h
    · rename_i hw
      obtain ⟨x, _, rfl⟩ := Option.map_eq_some_iff.mp h
      rw [hw]
      exact ⟨by decide +kernel, fun z => absurd z (by decide +kernel), fun z => absurd (show ("tell" : Str) = "if" ∨ ("tell" : Str) = "repeat" from z) (by decide +kernel)⟩
    · split at h
      · rename_i hw
        obtain ⟨x, _, rfl⟩ := Option.map_eq_some_iff.mp h
        rw [hw]
        exact ⟨by decide +kernel, fun _ => .inl rfl, fun _ => .inl rfl⟩
      · split at h
        · rename_i hw
          obtain ⟨x, _, rfl⟩ := Option.map_eq_some_iff.mp h
          rw [hw]
          exact ⟨by decide +kernel, fun _ => .inr rfl, fun _ => .inr rfl⟩
        · rename_i h1 h2
          unfold setL at h
          split at h
          · rename_i hn
            refine ⟨fun z => ?_, fun z => ?_, fun z => ?_⟩
            · rw [z] at hn
              exact absurd hn (by rw [show nameT "else" = false by decide +kernel]; simp)
            · rcases z with z | z
              · exact absurd z h1
              · exact absurd z h2
            · exfalso
              split at h
              · obtain ⟨x, _, rfl⟩ := Option.map_eq_some_iff.mp h
                exact absurd (show ("half" : Str) = "if" ∨ ("half" : Str) = "repeat" from z) (by decide +kernel)
              · obtain ⟨x, _, rfl⟩ := Option.map_eq_some_iff.mp h
                exact absurd (show ("set" : Str) = "if" ∨ ("set" : Str) = "repeat" from z) (by decide +kernel)
          · cases h
/-- the words that want a line behind them -/
def HdW (x : Str) : Prop := fw x = "if" ∨ fw x = "repeat" ∨ fw x = "else"
/-- a line of a program -/
def IsLn (x : Str) : Prop := ∃ d l, tl x = spc d ++ l ∧ (l = ELSEL ∨ l = PASSL ∨ ∃ ds, Ln l ds)
theorem fw_of {x : Str} {d : Nat} {l : List Nat} (e : tl x = spc d ++ l) (h : ∃ c r, l = c :: r ∧ c ≠ 32) : fw x = wd l := by
  unfold fw
  rw [e, show restL (spc d ++ l) = l from restL_spc h _]
theorem hd_word {x : Str} (h : IsHd x) : HdW x := by
  obtain ⟨d, l, e, rfl | ⟨ds, hl, hk⟩⟩ := h
  · refine .inr (.inr ?_)
    rw [fw_of e ⟨101, _, rfl, by decide⟩]
    decide +kernel
  · have := (pS_kw hl.ps).2.2 hk
    unfold HdW
    rw [fw_of e hl.h0]
    rcases this with z | z
    · exact .inl z
    · exact .inr (.inl z)
theorem word_hd {x : Str} (h : IsLn x) (hw : HdW x) : IsHd x := by
  obtain ⟨d, l, e, rfl | rfl | ⟨ds, hl⟩⟩ := h
  · exact ⟨d, _, e, .inl rfl⟩
  · unfold HdW at hw
    rw [fw_of e ⟨112, _, rfl, by decide⟩] at hw
    exact absurd hw (by decide +kernel)
  · unfold HdW at hw
    rw [fw_of e hl.h0] at hw
    obtain ⟨k1, k2, _⟩ := pS_kw hl.ps
    refine ⟨d, l, e, .inr ⟨ds, hl, k2 ?_⟩⟩
    rcases hw with z | z | z
    · exact .inl z
    · exact .inr z
    · exact absurd z k1
theorem isLn_at {a : Str} {d : Nat} {s : Sm} {ds : List PyData} (ha : tl a = spc d) (h : Ln (tl s.line) ds) : IsLn (a ++ s.line) := ⟨d, _, tl_ahead ha, .inr (.inr ⟨ds, h⟩)⟩
theorem isLn_pass {a : Str} {d : Nat} (ha : tl a = spc d) : IsLn (a ++ "pass") := ⟨d, PASSL, by rw [tl_ahead ha, show tl ("pass" : Str) = PASSL by decide +kernel], .inr (.inl rfl)⟩
theorem isLn_else {a : Str} {d : Nat} (ha : tl a = spc d) : IsLn (a ++ "else") := ⟨d, ELSEL, by rw [tl_ahead ha, show tl ("else" : Str) = ELSEL by decide +kernel], .inl rfl⟩
mutual
theorem lns_isLn : ∀ (s : Sm) {a : Str} {d : Nat}, tl a = spc d → s.rg → ∀ x ∈ Sm.lns a s, IsLn x
  | .set y e, a, d, ha, hg => fun x hx => by
    simp only [Sm.lns, List.mem_singleton] at hx
    rw [hx]
    exact isLn_at ha (show Ln _ _ from hg)
  | .half y e, a, d, ha, hg => fun x hx => by
    simp only [Sm.lns, List.mem_singleton] at hx
    rw [hx]
    exact isLn_at ha (show Ln _ _ from hg)
  | .tell e, a, d, ha, hg => fun x hx => by
    simp only [Sm.lns, List.mem_singleton] at hx
    rw [hx]
    exact isLn_at ha (show Ln _ _ from hg)
  | .say w, a, d, ha, hg => fun x hx => by
    simp only [Sm.lns, List.mem_singleton] at hx
    rw [hx]
    exact isLn_at ha (show Ln _ _ from hg)
  | .stop w, a, d, ha, hg => fun x hx => by
    simp only [Sm.lns, List.mem_singleton] at hx
    rw [hx]
    exact isLn_at ha (show Ln _ _ from hg)
  | .rep k b, a, d, ha, hg => fun x hx => by
    rw [lns_rep] at hx
    rcases List.mem_cons.mp hx with rfl | hx
    · exact isLn_at ha hg.1
    · exact part_isLn b (tl_step ha) hg.2 x hx
  | .ite t y n, a, d, ha, hg => fun x hx => by
    rw [lns_ite] at hx
    rcases List.mem_cons.mp hx with rfl | hx
    · exact isLn_at ha hg.1
    rcases List.mem_append.mp hx with hx | hx
    · exact part_isLn y (tl_step ha) hg.2.1 x hx
    · split at hx
      · cases hx
      · rcases List.mem_cons.mp hx with rfl | hx
        · exact isLn_else ha
        · exact lnss_isLn n (tl_step ha) hg.2.2 x hx
theorem lnss_isLn : ∀ (b : List Sm) {a : Str} {d : Nat}, tl a = spc d → Sm.rgs b → ∀ x ∈ Sm.lnss a b, IsLn x
  | [], a, d, ha, hg => fun x hx => by
    simp only [Sm.lnss] at hx
    cases hx
  | s :: r, a, d, ha, hg => fun x hx => by
    simp only [Sm.lnss] at hx
    rcases List.mem_append.mp hx with hx | hx
    · exact lns_isLn s ha hg.1 x hx
    · exact lnss_isLn r ha hg.2 x hx
theorem part_isLn : ∀ (b : List Sm) {a : Str} {d : Nat}, tl a = spc d → Sm.rgs b → ∀ x ∈ partL a b, IsLn x
  | [], a, d, ha, hg => fun x hx => by
    unfold partL at hx
    rw [if_pos rfl, List.mem_singleton] at hx
    rw [hx]
    exact isLn_pass ha
  | s :: r, a, d, ha, hg => fun x hx => by
    unfold partL at hx
    rw [if_neg (by simp)] at hx
    simp only [Sm.lnss] at hx
    rcases List.mem_append.mp hx with hx | hx
    · exact lns_isLn s ha hg.1 x hx
    · exact lnss_isLn r ha hg.2 x hx
end
/-! ### beginnings of a text, and wrong lines behind them -/
def PL (b : List Sm) : List Str := ("program" : Str) :: Sm.lnss "" b
theorem PL_nil : PL [] = [("program" : Str)] := by unfold PL; simp only [Sm.lnss]
/-- a beginning of the lines of b: the lines of a smaller program, or one that ends with a header -/
theorem begin05 {b : List Sm} (h : PTx b) {j : Nat} (hj : j ≤ (Sm.lnss "" b).length) {x : Str} (hx : (PL b)[j]? = some x) :
    (¬ HdW x ∧ ∃ c, PTx c ∧ PL c = (PL b).take (j + 1)) ∨ (HdW x ∧ parseL (((PL b).take (j + 1)).map tl) = .text (j + 1)) := by
  have e0 : tl ("" : Str) = spc 0 := by decide +kernel
  have ep : tl ("program" : Str) = progL := by decide +kernel
  have hd : HdLast ((Sm.lnss "" b).take j) → parseL (((PL b).take (j + 1)).map tl) = .text (j + 1) := fun hl => by
    obtain ⟨s, e1, e2⟩ := hd_text h.rg hj hl
    show parseL ((("program" : Str) :: (Sm.lnss "" b).take j).map tl) = _
    rw [List.map_cons, ep, parseL_lack e1 e2, List.length_map, List.length_take, Nat.min_eq_left hj]
  cases j with
  | zero =>
    cases (show some ("program" : Str) = some x from hx)
    refine .inl ⟨?_, [], h.sub (SubB.nil b), ?_⟩
    · unfold HdW
      decide +kernel
    · rw [PL_nil]
      rfl
  | succ i =>
    have hx' : (Sm.lnss "" b)[i]? = some x := hx
    have hmem : x ∈ Sm.lnss "" b := List.mem_of_getElem? hx'
    have et : (Sm.lnss "" b).take (i + 1) = (Sm.lnss "" b).take i ++ [x] := by rw [List.take_add_one, hx']; rfl
    have hln := lnss_isLn b e0 h.rg x hmem
    by_cases hw : HdW x
    · exact .inr ⟨hw, hd ⟨_, x, et, word_hd hln hw⟩⟩
    · refine .inl ⟨hw, ?_⟩
      rcases cut_b b (i + 1) e0 h.rg (by omega) hj with ⟨c, _, hs, ec⟩ | ⟨p, y, ey, hy⟩
      · exact ⟨c, h.sub hs, by show ("program" : Str) :: Sm.lnss "" c = _; rw [ec]; rfl⟩
      · exfalso
        rw [et] at ey
        have : x = y := by
          have := congrArg List.getLast? ey
          simpa using this
        exact hw (hd_word (this ▸ hy))
/-- a line that is wrong wherever it stands -/
structure WrL (l : Str) : Prop where
  nl : 10 ∉ tl l
  len : l.length ≤ 100
  e1 : restL (tl l) ≠ ELSEL
  e2 : restL (tl l) ≠ PASSL
  e3 : pS (restL (tl l)) = none
theorem wrong05 {b : List Sm} (h : PTx b) {j : Nat} (hj : j ≤ (Sm.lnss "" b).length) {l : Str} (hl : WrL l) : parseL ((((PL b).take (j + 1)) ++ [l]).map tl) = .text (j + 1) := by
  have ep : tl ("program" : Str) = progL := by decide +kernel
  obtain ⟨st, e⟩ := prog_to h.rg
  obtain ⟨s, es⟩ := rdTo_take e j
  show parseL ((("program" : Str) :: ((Sm.lnss "" b).take j ++ [l])).map tl) = _
  rw [List.map_cons, ep]
  have ln : (((Sm.lnss "" b).take j).map tl).length = j := by rw [List.length_map, List.length_take, Nat.min_eq_left hj]
  refine parseL_fail (s := s) (j := j) (l := tl l) ?_ ?_ (readP_wrong hl.e1 hl.e2 hl.e3)
  · rw [List.map_append, take_app_le (by rw [ln]; exact Nat.le_refl _), List.take_of_length_le (by rw [ln]; exact Nat.le_refl _), List.map_take]
    exact es
  · rw [List.map_append, List.getElem?_append_right (by rw [ln]; exact Nat.le_refl _), ln, Nat.sub_self]
    rfl
def WRONG : List Str := ["say On", "tell", "else if", "x = ", "  ", "  pass pass", "tell 1 + 1", "if odd", "repeat n", "say  on"]
theorem wrong_all : ∀ l ∈ WRONG, WrL l := by
  have key : ∀ l ∈ WRONG, 10 ∉ tl l ∧ l.length ≤ 100 ∧ restL (tl l) ≠ ELSEL ∧ restL (tl l) ≠ PASSL ∧ pS (restL (tl l)) = none := by decide +kernel
  exact fun l hl => ⟨(key l hl).1, (key l hl).2.1, (key l hl).2.2.1, (key l hl).2.2.2.1, (key l hl).2.2.2.2⟩
/-! ### the texts of lines -/
theorem PL_nl {b : List Sm} (h : PTx b) : ∀ x ∈ PL b, 10 ∉ tl x := fun x hx => by
  rcases List.mem_cons.mp hx with rfl | hx
  · decide +kernel
  · exact lnss_nl b "" h.rg (by decide +kernel) x hx
theorem split_lines {ls : List Str} (h0 : ls ≠ []) (h : ∀ x ∈ ls, 10 ∉ tl x) : Txt.split (Txt.join "\n" ls) "\n" = ls :=
  split_join (s := 10) (S := []) (by decide +kernel) (by decide +kernel) h0 h
theorem join_snoc {y l : Str} : ∀ {ls : List Str}, ls ≠ [] → Str.join y (ls ++ [l]) = Str.join y ls ++ y ++ l
  | [], h => absurd rfl h
  | [x], _ => rfl
  | x :: z :: r, _ => by
    show x ++ y ++ Str.join y (z :: r ++ [l]) = x ++ y ++ Str.join y (z :: r) ++ y ++ l
    rw [join_snoc (by simp)]
    refine ext_tl ?_
    simp only [tl_append, List.append_assoc]
theorem txtZ05 {ls : List Str} (h0 : ls ≠ []) (h : ∀ x ∈ ls, 10 ∉ tl x) (hf : ∀ x ∈ ls, x.length ≤ 400) (hl : ls.length ≤ 80) : TxtZ (Txt.join "\n" ls) := by
  have hs := split_lines h0 h
  refine ⟨by rw [hs]; exact h0, ?_, by rw [hs]; omega, fun l hl => by rw [hs] at hl; have := hf l hl; omega⟩
  rw [join_eq]
  have h1 := StrLaws.join_length_le "\n" ls
  have h2 : (ls.map (·.length)).sum ≤ ls.length * 400 := by
    clear h0 h hs h1 hl
    induction ls with
    | nil => simp
    | cons a r ih =>
      have := hf a List.mem_cons_self
      have := ih fun x hx => hf x (List.mem_cons_of_mem _ hx)
      simp only [List.map_cons, List.sum_cons, List.length_cons, Nat.succ_mul]
      omega
  rw [nl_len] at h1
  have h3 : ls.length * 400 ≤ 80 * 400 := Nat.mul_le_mul_right _ hl
  omega
/-- what the law makes of a text: ["ok", program], ["text", line] or ["program", error] -/
def spParsed : Sp := fun vs H Q _ => ∃ (z : Str), vs = [.str z] ∧ TxtZ z ∧
  (∀ n : Nat, parseL ((Txt.split z "\n").map tl) = .text n → ∀ (l : Addr) (H' : Hp), H' l = some (.lst [.str "text", .int (n : Int)]) → Kp [] H H' → Q (.ref l) H') ∧
  (∀ ds, parseL ((Txt.split z "\n").map tl) = .rows ds → Szd (.tuple ds) ∧ dsz (.tuple ds) ≤ 1000000 ∧ ∀ e, PErr (.tuple ds) e →
    (e = .none → ∀ (t : V) (l : Addr) (H' : Hp), Tr H' (.tuple ds) t → H' l = some (.lst [.str "ok", t]) → Kp [] H H' → Q (.ref l) H') ∧
    (e ≠ .none → ∀ (ev : V) (l : Addr) (H' : Hp), Tr H' e ev → H' l = some (.lst [.str "program", ev]) → Kp [] H H' → Q (.ref l) H'))
/-- a text that is a program's -/
theorem parsed_ok {b : List Sm} (h : PTx b) {ds : List PyData} (e : parseL ((PL b).map tl) = .rows ds) : ds = Sm.ds b := by
  rw [show parseL ((PL b).map tl) = .rows (Sm.ds b) from parse_lines h.rg] at e
  exact (PRes02.rows.inj e).symm
theorem strip_len (z : Str) : (Txt.stripChars z " ").length ≤ z.length := by
  obtain ⟨s, b, e1, e2, _⟩ := strip_form z
  have h1 := congrArg List.length e2
  have h2 := restL_le (tl z)
  rw [List.length_append] at h1
  rw [e1, len_mkS, len_tl z]
  omega
theorem sum05 : ∀ {ls : List Str}, (∀ x ∈ ls, x.length ≤ 400) → (ls.map (·.length)).sum ≤ ls.length * 400
  | [], _ => by simp
  | a :: r, h => by
    have h1 := h a List.mem_cons_self
    have h2 := sum05 (ls := r) fun x hx => h x (List.mem_cons_of_mem _ hx)
    simp only [List.map_cons, List.sum_cons, List.length_cons, Nat.succ_mul]
    omega
theorem join05 {ls : List Str} (h : ∀ x ∈ ls, x.length ≤ 400) (hl : ls.length ≤ 80) : (ls.map (·.length)).sum + ls.length * ("\n" : Str).length ≤ 16777216 := by
  have h1 := sum05 h
  have h3 : ls.length * 400 ≤ 80 * 400 := Nat.mul_le_mul_right _ hl
  rw [nl_len]
  omega
theorem shw05 {n : Nat} (h : n ≤ 1000) : Shw (.list [.str "text", .int (n : Int)]) := by
  have k1 : Bk (.str "text") 20 0 := bk_kD (k := .inr "text") ⟨by decide +kernel, by decide +kernel⟩
  have k2 : Bk (.int (n : Int)) 20 0 := bk_kD (k := .inl (n : Int)) (by
    show ((n : Int)).natAbs ≤ BM - 1
    have : 1000 ≤ BM - 1 := by unfold BM; decide +kernel
    omega)
  exact (bk_lst (bks_cons k1 (bks_cons k2 bks_nil))).shw (by decide) (by decide)
theorem trs05 {H : Hp} {n : Int} : TrAll H [.str "text", .int n] [V.str "text", V.int n] := trs_cons mk_str (trs_cons mk_int trs_nil)
/-- a beginning's text, and the same with a line more -/
theorem PL_take {b : List Sm} (h : PTx b) (k : Nat) : (∀ x ∈ (PL b).take k, 10 ∉ tl x) ∧ (∀ x ∈ (PL b).take k, x.length ≤ 400) ∧ ((PL b).take k).length ≤ 73 :=
  ⟨fun x hx => PL_nl h x (List.mem_of_mem_take hx), fun x hx => by have := (h.fit x (List.mem_of_mem_take hx)).2; omega, by rw [List.length_take]; have : (PL b).length ≤ 73 := h.len; omega⟩
instance (x : Str) : Decidable (HdW x) := inferInstanceAs (Decidable (_ ∨ _ ∨ _))
theorem HdW.iff {x : Str} : inV (V.str (fw x)) [V.str "if", V.str "repeat", V.str "else"] = decide (HdW x) := inV3 _ _ _ _
/-- what is told of a beginning: one state -/
theorem parsed05 {b : List Sm} {j : Nat} {x z : Str} (bg : (¬ HdW x ∧ ∃ c, PTx c ∧ PL c = (PL b).take (j + 1)) ∨ (HdW x ∧ parseL (((PL b).take (j + 1)).map tl) = .text (j + 1)))
    (hz : Txt.split z "\n" = (PL b).take (j + 1)) {H : Hp} {Q : Addr → Hp → Prop}
    (h : ∀ (l : Addr) (H' : Hp), Kp [] H H' → ((HdW x ∧ H' l = some (.lst [.str "text", .int ((j + 1 : Nat) : Int)])) ∨ (¬ HdW x ∧ ∃ (c : List Sm) (t : V), PTx c ∧ PL c = (PL b).take (j + 1) ∧ Tr H' (.tuple (Sm.ds c)) t ∧ H' l = some (.lst [.str "ok", t]))) → Q l H') :
    (∀ n : Nat, parseL ((Txt.split z "\n").map tl) = .text n → ∀ (l : Addr) (H' : Hp), H' l = some (.lst [.str "text", .int (n : Int)]) → Kp [] H H' → Q l H') ∧
    (∀ ds, parseL ((Txt.split z "\n").map tl) = .rows ds → Szd (.tuple ds) ∧ dsz (.tuple ds) ≤ 1000000 ∧ ∀ e, PErr (.tuple ds) e →
      (e = .none → ∀ (t : V) (l : Addr) (H' : Hp), Tr H' (.tuple ds) t → H' l = some (.lst [.str "ok", t]) → Kp [] H H' → Q l H') ∧
      (e ≠ .none → ∀ (ev : V) (l : Addr) (H' : Hp), Tr H' e ev → H' l = some (.lst [.str "program", ev]) → Kp [] H H' → Q l H')) := by
  rw [hz]
  rcases bg with ⟨nh, c, pc, ec⟩ | ⟨hd, et⟩
  · rw [← ec]
    refine ⟨fun n hn => ?_, fun ds hds => ?_⟩
    · rw [show parseL ((PL c).map tl) = .rows (Sm.ds c) from parse_lines pc.rg] at hn
      cases hn
    · cases parsed_ok pc hds
      obtain ⟨s1, s2⟩ := pc.txtP.sz
      exact ⟨s1, s2, fun e pe => ⟨fun he t l H' t1 e1 k1 => h l H' k1 (.inr ⟨nh, c, t, pc, ec, t1, e1⟩), fun he => absurd (pc.err pe) he⟩⟩
  · refine ⟨fun n hn l H' e1 k1 => ?_, fun ds hds => ?_⟩
    · rw [et] at hn
      cases hn
      exact h l H' k1 (.inl ⟨hd, e1⟩)
    · rw [et] at hds
      cases hds
/-- what is told where a wrong line follows -/
theorem parsedW05 {b : List Sm} {j : Nat} {z l0 : Str} (ew : parseL ((((PL b).take (j + 1)) ++ [l0]).map tl) = .text (j + 1))
    (hz : Txt.split z "\n" = (PL b).take (j + 1) ++ [l0]) {H : Hp} {Q : Addr → Hp → Prop}
    (h : ∀ (l : Addr) (H' : Hp), Kp [] H H' → H' l = some (.lst [.str "text", .int ((j + 1 : Nat) : Int)]) → Q l H') :
    (∀ n : Nat, parseL ((Txt.split z "\n").map tl) = .text n → ∀ (l : Addr) (H' : Hp), H' l = some (.lst [.str "text", .int (n : Int)]) → Kp [] H H' → Q l H') ∧
    (∀ ds, parseL ((Txt.split z "\n").map tl) = .rows ds → Szd (.tuple ds) ∧ dsz (.tuple ds) ≤ 1000000 ∧ ∀ e, PErr (.tuple ds) e →
      (e = .none → ∀ (t : V) (l : Addr) (H' : Hp), Tr H' (.tuple ds) t → H' l = some (.lst [.str "ok", t]) → Kp [] H H' → Q l H') ∧
      (e ≠ .none → ∀ (ev : V) (l : Addr) (H' : Hp), Tr H' e ev → H' l = some (.lst [.str "program", ev]) → Kp [] H H' → Q l H')) := by
  rw [hz, ew]
  refine ⟨fun n hn l H' e1 k1 => ?_, fun ds hds => ?_⟩
  · cases hn
    exact h l H' k1 e1
  · cases hds
end EH
namespace EH
open PySem L2
theorem sc_BadText_init : FnScope ["self", "line"] ["self", "line"] (defScope s_BadText_init) := ⟨rfl, rfl, rfl, by decide +kernel, rfl, by decide +kernel, by decide +kernel⟩
theorem sc_BadProgram_init : FnScope ["self", "error"] ["self", "error"] (defScope s_BadProgram_init) := ⟨rfl, rfl, rfl, by decide +kernel, rfl, by decide +kernel, by decide +kernel⟩
theorem sc_is_whole : FnScope ["value", "least", "most"] ["value", "least", "most"] (defScope s_is_whole) := ⟨rfl, rfl, rfl, by decide +kernel, rfl, by decide +kernel, by decide +kernel⟩
theorem sc_is_word_programs : FnScope ["value", "sign"] ["value"] (defScope s_is_word_programs) := ⟨rfl, rfl, rfl, by decide +kernel, rfl, by decide +kernel, by decide +kernel⟩
theorem sc_is_name_programs : FnScope ["value", "sign"] ["value"] (defScope s_is_name_programs) := ⟨rfl, rfl, rfl, by decide +kernel, rfl, by decide +kernel, by decide +kernel⟩
theorem sc_is_expression : FnScope ["value", "left"] ["value", "left"] (defScope s_is_expression) := ⟨rfl, rfl, rfl, by decide +kernel, rfl, by decide +kernel, by decide +kernel⟩
theorem sc_is_test : FnScope ["value", "nots"] ["value", "nots"] (defScope s_is_test) := ⟨rfl, rfl, rfl, by decide +kernel, rfl, by decide +kernel, by decide +kernel⟩
theorem sc_is_plain : FnScope ["value"] ["value"] (defScope s_is_plain) := ⟨rfl, rfl, rfl, by decide +kernel, rfl, by decide +kernel, by decide +kernel⟩
theorem sc_is_statement : FnScope ["value"] ["value"] (defScope s_is_statement) := ⟨rfl, rfl, rfl, by decide +kernel, rfl, by decide +kernel, by decide +kernel⟩
theorem sc_blocks_of : FnScope ["statement"] ["statement"] (defScope s_blocks_of) := ⟨rfl, rfl, rfl, by decide +kernel, rfl, by decide +kernel, by decide +kernel⟩
theorem sc_items_within : FnScope ["statement", "depth", "found", "block", "item"] ["statement", "depth"] (defScope s_items_within) := ⟨rfl, rfl, rfl, by decide +kernel, rfl, by decide +kernel, by decide +kernel⟩
theorem sc_rows_of : FnScope ["program", "left", "found", "depth", "statement", "item"] ["program"] (defScope s_rows_of) := ⟨rfl, rfl, rfl, by decide +kernel, rfl, by decide +kernel, by decide +kernel⟩
theorem sc_order_error : FnScope ["value", "left", "place", "depth", "item"] ["value"] (defScope s_order_error) := ⟨rfl, rfl, rfl, by decide +kernel, rfl, by decide +kernel, by decide +kernel⟩
theorem sc_bare : FnScope ["test"] ["test"] (defScope s_bare) := ⟨rfl, rfl, rfl, by decide +kernel, rfl, by decide +kernel, by decide +kernel⟩
theorem sc_own_count : FnScope ["statement", "sort"] ["statement", "sort"] (defScope s_own_count) := ⟨rfl, rfl, rfl, by decide +kernel, rfl, by decide +kernel, by decide +kernel⟩
theorem sc_counted : FnScope ["block", "sort", "found", "statement", "inner", "part"] ["block", "sort"] (defScope s_counted) := ⟨rfl, rfl, rfl, by decide +kernel, rfl, by decide +kernel, by decide +kernel⟩
theorem sc_weight : FnScope ["program"] ["program"] (defScope s_weight) := ⟨rfl, rfl, rfl, by decide +kernel, rfl, by decide +kernel, by decide +kernel⟩
theorem sc_program_error : FnScope ["value", "found"] ["value"] (defScope s_program_error) := ⟨rfl, rfl, rfl, by decide +kernel, rfl, by decide +kernel, by decide +kernel⟩
theorem sc_expression_text : FnScope ["expression", "word", "one", "other"] ["expression"] (defScope s_expression_text) := ⟨rfl, rfl, rfl, by decide +kernel, rfl, by decide +kernel, by decide +kernel⟩
theorem sc_test_text : FnScope ["test"] ["test"] (defScope s_test_text) := ⟨rfl, rfl, rfl, by decide +kernel, rfl, by decide +kernel, by decide +kernel⟩
theorem sc_line_text : FnScope ["statement", "word"] ["statement"] (defScope s_line_text) := ⟨rfl, rfl, rfl, by decide +kernel, rfl, by decide +kernel, by decide +kernel⟩
theorem sc_part_lines : FnScope ["block", "ahead"] ["block", "ahead"] (defScope s_part_lines) := ⟨rfl, rfl, rfl, by decide +kernel, rfl, by decide +kernel, by decide +kernel⟩
theorem sc_block_lines : FnScope ["block", "ahead", "lines", "statement"] ["block", "ahead"] (defScope s_block_lines) := ⟨rfl, rfl, rfl, by decide +kernel, rfl, by decide +kernel, by decide +kernel⟩
theorem sc_program_text : FnScope ["program"] ["program"] (defScope s_program_text) := ⟨rfl, rfl, rfl, by decide +kernel, rfl, by decide +kernel, by decide +kernel⟩
theorem sc_is_word_texts : FnScope ["text", "most", "sign"] ["text", "most"] (defScope s_is_word_texts) := ⟨rfl, rfl, rfl, by decide +kernel, rfl, by decide +kernel, by decide +kernel⟩
theorem sc_is_name_texts : FnScope ["text"] ["text"] (defScope s_is_name_texts) := ⟨rfl, rfl, rfl, by decide +kernel, rfl, by decide +kernel, by decide +kernel⟩
theorem sc_integer_of : FnScope ["text", "most", "figures", "sign"] ["text", "most"] (defScope s_integer_of) := ⟨rfl, rfl, rfl, by decide +kernel, rfl, by decide +kernel, by decide +kernel⟩
theorem sc_sum_at : FnScope ["text", "at", "deep", "left", "one", "end", "word", "right"] ["text", "at", "deep"] (defScope s_sum_at) := ⟨rfl, rfl, rfl, by decide +kernel, rfl, by decide +kernel, by decide +kernel⟩
theorem sc_expression_at : FnScope ["text", "at", "deep", "end", "number"] ["text", "at", "deep"] (defScope s_expression_at) := ⟨rfl, rfl, rfl, by decide +kernel, rfl, by decide +kernel, by decide +kernel⟩
theorem sc_expression_of : FnScope ["text", "found"] ["text"] (defScope s_expression_of) := ⟨rfl, rfl, rfl, by decide +kernel, rfl, by decide +kernel, by decide +kernel⟩
theorem sc_plain_test_of : FnScope ["text", "expression", "left", "right"] ["text"] (defScope s_plain_test_of) := ⟨rfl, rfl, rfl, by decide +kernel, rfl, by decide +kernel, by decide +kernel⟩
theorem sc_test_of : FnScope ["text", "nots", "test", "turn"] ["text"] (defScope s_test_of) := ⟨rfl, rfl, rfl, by decide +kernel, rfl, by decide +kernel, by decide +kernel⟩
theorem sc_setting_of : FnScope ["name", "text", "word", "expression"] ["name", "text"] (defScope s_setting_of) := ⟨rfl, rfl, rfl, by decide +kernel, rfl, by decide +kernel, by decide +kernel⟩
theorem sc_statement_of : FnScope ["line", "word", "space", "rest", "value"] ["line"] (defScope s_statement_of) := ⟨rfl, rfl, rfl, by decide +kernel, rfl, by decide +kernel, by decide +kernel⟩
theorem sc_Part_init : FnScope ["self", "kind", "head"] ["self", "kind", "head"] (defScope s_Part_init) := ⟨rfl, rfl, rfl, by decide +kernel, rfl, by decide +kernel, by decide +kernel⟩
theorem sc_Part_lacks_line : FnScope ["self"] ["self"] (defScope s_Part_lacks_line) := ⟨rfl, rfl, rfl, by decide +kernel, rfl, by decide +kernel, by decide +kernel⟩
theorem sc_ProgramReader_init : FnScope ["self"] ["self"] (defScope s_ProgramReader_init) := ⟨rfl, rfl, rfl, by decide +kernel, rfl, by decide +kernel, by decide +kernel⟩
theorem sc_ProgramReader_close : FnScope ["self", "part", "block", "outer"] ["self"] (defScope s_ProgramReader_close) := ⟨rfl, rfl, rfl, by decide +kernel, rfl, by decide +kernel, by decide +kernel⟩
theorem sc_ProgramReader_come_to : FnScope ["self", "depth", "kind"] ["self", "depth"] (defScope s_ProgramReader_come_to) := ⟨rfl, rfl, rfl, by decide +kernel, rfl, by decide +kernel, by decide +kernel⟩
theorem sc_ProgramReader_read : FnScope ["self", "line", "rest", "depth", "odd_space", "deepest", "lacks", "kind"] ["self", "line"] (defScope s_ProgramReader_read) := ⟨rfl, rfl, rfl, by decide +kernel, rfl, by decide +kernel, by decide +kernel⟩
theorem sc_ProgramReader_put : FnScope ["self", "statement"] ["self", "statement"] (defScope s_ProgramReader_put) := ⟨rfl, rfl, rfl, by decide +kernel, rfl, by decide +kernel, by decide +kernel⟩
theorem sc_parse_program : FnScope ["value", "lines", "reader", "number", "line", "program", "error"] ["value"] (defScope s_parse_program) := ⟨rfl, rfl, rfl, by decide +kernel, rfl, by decide +kernel, by decide +kernel⟩
theorem sc_l_deck : FnScope ["_law_script", "_law_cell"] ["_law_script"] (defScope s_l_deck) := ⟨rfl, rfl, rfl, by decide +kernel, rfl, by decide +kernel, by decide +kernel⟩
theorem sc_l_draw : FnScope ["_law_deck_here", "_law_many", "_law_cell", "_law_at", "_law_mixed"] ["_law_deck_here", "_law_many"] (defScope s_l_draw) := ⟨rfl, rfl, rfl, by decide +kernel, rfl, by decide +kernel, by decide +kernel⟩
theorem sc_l_one : FnScope ["_law_deck_here", "_law_items"] ["_law_deck_here", "_law_items"] (defScope s_l_one) := ⟨rfl, rfl, rfl, by decide +kernel, rfl, by decide +kernel, by decide +kernel⟩
theorem sc_l_expr : FnScope ["_law_deck_here", "_law_names_here", "_law_deep", "_law_way", "_law_numbers"] ["_law_deck_here", "_law_names_here", "_law_deep"] (defScope s_l_expr) := ⟨rfl, rfl, rfl, by decide +kernel, rfl, by decide +kernel, by decide +kernel⟩
theorem sc_l_test : FnScope ["_law_deck_here", "_law_names_here", "_law_is_odd", "_law_test_here", "_law_k"] ["_law_deck_here", "_law_names_here", "_law_is_odd"] (defScope s_l_test) := ⟨rfl, rfl, rfl, by decide +kernel, rfl, by decide +kernel, by decide +kernel⟩
theorem sc_l_block : FnScope ["_law_deck_here", "_law_names_here", "_law_depth", "_law_times", "_law_left", "_law_found", "_law_k"] ["_law_deck_here", "_law_names_here", "_law_depth", "_law_times", "_law_left"] (defScope s_l_block) := ⟨rfl, rfl, rfl, by decide +kernel, rfl, by decide +kernel, by decide +kernel⟩
theorem sc_l_if : FnScope ["_law_deck_here", "_law_names_here", "_law_depth", "_law_times", "_law_left", "_law_at", "_law_test_here", "_law_yes", "_law_no"] ["_law_deck_here", "_law_names_here", "_law_depth", "_law_times", "_law_left", "_law_at"] (defScope s_l_if) := ⟨rfl, rfl, rfl, by decide +kernel, rfl, by decide +kernel, by decide +kernel⟩
theorem sc_l_statement : FnScope ["_law_deck_here", "_law_names_here", "_law_depth", "_law_times", "_law_left", "_law_way", "_law_at", "_law_many", "_law_is_empty"] ["_law_deck_here", "_law_names_here", "_law_depth", "_law_times", "_law_left"] (defScope s_l_statement) := ⟨rfl, rfl, rfl, by decide +kernel, rfl, by decide +kernel, by decide +kernel⟩
theorem sc_l_program : FnScope ["_law_deck_here", "_law_names_here", "_law_most"] ["_law_deck_here", "_law_names_here", "_law_most"] (defScope s_l_program) := ⟨rfl, rfl, rfl, by decide +kernel, rfl, by decide +kernel, by decide +kernel⟩
theorem sc_l_names : FnScope ["_law_deck_here", "_law_many", "_law_found", "_law_k", "_law_name", "_law_j"] ["_law_deck_here", "_law_many"] (defScope s_l_names) := ⟨rfl, rfl, rfl, by decide +kernel, rfl, by decide +kernel, by decide +kernel⟩
theorem sc_l_parsed : FnScope ["_law_text", "_law_found", "error"] ["_law_text"] (defScope s_l_parsed) := ⟨rfl, rfl, rfl, by decide +kernel, rfl, by decide +kernel, by decide +kernel⟩
theorem sc_law : FnScope ["_law_script", "_law_deck_here", "_law_wrong", "_law_turn", "_law_program_here", "_law_lines", "_law_many", "_law_text", "_law_words", "_law_found"] ["_law_script"] (defScope s_law) := ⟨rfl, rfl, rfl, by decide +kernel, rfl, by decide +kernel, by decide +kernel⟩
structure DAo (K : PySem.W.Frag) (mg : Str → Option Value) (x own : Str) (st : Stmt) (ps : List Str) where
  f : Addr
  fd : FuncData
  F : Fun K own own st f fd
  b : Binds K fd ps []
  g : mg x = some (.ref f)
set_option genInjectivity false in
set_option genSizeOfSpec false in
structure Top (K : PySem.W.Frag) (mg : Str → Option Value) where
  is_whole : DA K mg "is_whole" s_is_whole ["value", "least", "most"]
  is_word_programs : DAo K mg "is_word_programs" "is_word" s_is_word_programs ["value"]
  is_name_programs : DAo K mg "is_name_programs" "is_name" s_is_name_programs ["value"]
  is_expression : DA K mg "is_expression" s_is_expression ["value", "left"]
  is_test : DA K mg "is_test" s_is_test ["value", "nots"]
  is_plain : DA K mg "is_plain" s_is_plain ["value"]
  is_statement : DA K mg "is_statement" s_is_statement ["value"]
  blocks_of : DA K mg "blocks_of" s_blocks_of ["statement"]
  items_within : DA K mg "items_within" s_items_within ["statement", "depth"]
  rows_of : DA K mg "rows_of" s_rows_of ["program"]
  order_error : DA K mg "order_error" s_order_error ["value"]
  bare : DA K mg "bare" s_bare ["test"]
  own_count : DA K mg "own_count" s_own_count ["statement", "sort"]
  counted : DA K mg "counted" s_counted ["block", "sort"]
  weight : DA K mg "weight" s_weight ["program"]
  program_error : DA K mg "program_error" s_program_error ["value"]
  expression_text : DA K mg "expression_text" s_expression_text ["expression"]
  test_text : DA K mg "test_text" s_test_text ["test"]
  line_text : DA K mg "line_text" s_line_text ["statement"]
  part_lines : DA K mg "part_lines" s_part_lines ["block", "ahead"]
  block_lines : DA K mg "block_lines" s_block_lines ["block", "ahead"]
  program_text : DA K mg "program_text" s_program_text ["program"]
  is_word_texts : DAo K mg "is_word_texts" "is_word" s_is_word_texts ["text", "most"]
  is_name_texts : DAo K mg "is_name_texts" "is_name" s_is_name_texts ["text"]
  integer_of : DA K mg "integer_of" s_integer_of ["text", "most"]
  sum_at : DA K mg "sum_at" s_sum_at ["text", "at", "deep"]
  expression_at : DA K mg "expression_at" s_expression_at ["text", "at", "deep"]
  expression_of : DA K mg "expression_of" s_expression_of ["text"]
  plain_test_of : DA K mg "plain_test_of" s_plain_test_of ["text"]
  test_of : DA K mg "test_of" s_test_of ["text"]
  setting_of : DA K mg "setting_of" s_setting_of ["name", "text"]
  statement_of : DA K mg "statement_of" s_statement_of ["line"]
  parse_program : DA K mg "parse_program" s_parse_program ["value"]
  l_deck : DA K mg "_law_deck" s_l_deck ["_law_script"]
  l_draw : DA K mg "_law_draw" s_l_draw ["_law_deck_here", "_law_many"]
  l_one : DA K mg "_law_one" s_l_one ["_law_deck_here", "_law_items"]
  l_expr : DA K mg "_law_expr" s_l_expr ["_law_deck_here", "_law_names_here", "_law_deep"]
  l_test : DA K mg "_law_test" s_l_test ["_law_deck_here", "_law_names_here", "_law_is_odd"]
  l_block : DA K mg "_law_block" s_l_block ["_law_deck_here", "_law_names_here", "_law_depth", "_law_times", "_law_left"]
  l_if : DA K mg "_law_if" s_l_if ["_law_deck_here", "_law_names_here", "_law_depth", "_law_times", "_law_left", "_law_at"]
  l_statement : DA K mg "_law_statement" s_l_statement ["_law_deck_here", "_law_names_here", "_law_depth", "_law_times", "_law_left"]
  l_program : DA K mg "_law_program" s_l_program ["_law_deck_here", "_law_names_here", "_law_most"]
  l_names : DA K mg "_law_names" s_l_names ["_law_deck_here", "_law_many"]
  l_parsed : DA K mg "_law_parsed" s_l_parsed ["_law_text"]
  law : DA K mg "law" s_law ["_law_script"]
  Part : CA K mg "Part"
  Part_init : DM K Part.C "__init__" "Part.__init__" s_Part_init ["self", "kind", "head"]
  Part_lacks_line : DM K Part.C "lacks_line" "Part.lacks_line" s_Part_lacks_line ["self"]
  mk_Part : Mk K Part.C Part_init.f
  n_Part_kind : NoAttr K Part.C "kind"
  n_Part_head : NoAttr K Part.C "head"
  n_Part_rows : NoAttr K Part.C "rows"
  n_Part_is_over : NoAttr K Part.C "is_over"
  ProgramReader : CA K mg "ProgramReader"
  ProgramReader_init : DM K ProgramReader.C "__init__" "ProgramReader.__init__" s_ProgramReader_init ["self"]
  ProgramReader_close : DM K ProgramReader.C "close" "ProgramReader.close" s_ProgramReader_close ["self"]
  ProgramReader_come_to : DM K ProgramReader.C "come_to" "ProgramReader.come_to" s_ProgramReader_come_to ["self", "depth"]
  ProgramReader_read : DM K ProgramReader.C "read" "ProgramReader.read" s_ProgramReader_read ["self", "line"]
  ProgramReader_put : DM K ProgramReader.C "put" "ProgramReader.put" s_ProgramReader_put ["self", "statement"]
  mk_ProgramReader : Mk K ProgramReader.C ProgramReader_init.f
  n_ProgramReader_blocks_open : NoAttr K ProgramReader.C "blocks_open"
  HalfError : BA K mg "HalfError"
  BadText : EA K mg "BadText" "line"
  BadText_init : EI K BadText.C "BadText.__init__" s_BadText_init ["self", "line"]
  BadProgram : EA K mg "BadProgram" "error"
  BadProgram_init : EI K BadProgram.C "BadProgram.__init__" s_BadProgram_init ["self", "error"]
  x_BadProgram_BadText : PySem.W.exmOne K (.ref BadProgram.C) (.ref BadText.C) = some false
  t_MAX_NAME : Tok
  g_MAX_NAME : mg "MAX_NAME" = some (.int 8 t_MAX_NAME)
  t_MAX_WORD : Tok
  g_MAX_WORD : mg "MAX_WORD" = some (.int 8 t_MAX_WORD)
  t_MAX_TIMES : Tok
  g_MAX_TIMES : mg "MAX_TIMES" = some (.int 8 t_MAX_TIMES)
  t_MAX_DEEP : Tok
  g_MAX_DEEP : mg "MAX_DEEP" = some (.int 3 t_MAX_DEEP)
  t_MAX_NOTS : Tok
  g_MAX_NOTS : mg "MAX_NOTS" = some (.int 2 t_MAX_NOTS)
  t_MAX_PLACES : Tok
  g_MAX_PLACES : mg "MAX_PLACES" = some (.int 24 t_MAX_PLACES)
  t_MAX_WEIGHT : Tok
  g_MAX_WEIGHT : mg "MAX_WEIGHT" = some (.int 60 t_MAX_WEIGHT)
  t_MAX_HALVINGS : Tok
  g_MAX_HALVINGS : mg "MAX_HALVINGS" = some (.int 4 t_MAX_HALVINGS)
  t_MAX_COMPARINGS : Tok
  g_MAX_COMPARINGS : mg "MAX_COMPARINGS" = some (.int 3 t_MAX_COMPARINGS)
  t_MAX_NEST : Tok
  g_MAX_NEST : mg "MAX_NEST" = some (.int 3 t_MAX_NEST)
  t_LETTERS_programs : Tok
  g_LETTERS_programs : mg "LETTERS_programs" = some (.str "abcdefghijklmnopqrstuvwxyz" t_LETTERS_programs)
  t_SIGNS_programs : Tok
  g_SIGNS_programs : mg "SIGNS_programs" = some (.str "abcdefghijklmnopqrstuvwxyz0123456789" t_SIGNS_programs)
  t_MOST_NUMBER : Tok
  g_MOST_NUMBER : mg "MOST_NUMBER" = some (.int 99 t_MOST_NUMBER)
  t_MOST_FACTOR : Tok
  g_MOST_FACTOR : mg "MOST_FACTOR" = some (.int 9 t_MOST_FACTOR)
  t_LETTERS_texts : Tok
  g_LETTERS_texts : mg "LETTERS_texts" = some (.str "abcdefghijklmnopqrstuvwxyz" t_LETTERS_texts)
  t_FIGURES : Tok
  g_FIGURES : mg "FIGURES" = some (.str "0123456789" t_FIGURES)
  t_HEAD : Tok
  g_HEAD : mg "HEAD" = some (.str "program" t_HEAD)
  t_STEP : Tok
  g_STEP : mg "STEP" = some (.str "  " t_STEP)
  t_MOST_FIGURES : Tok
  g_MOST_FIGURES : mg "MOST_FIGURES" = some (.int 20 t_MOST_FIGURES)
  t_MOST_DEEP : Tok
  g_MOST_DEEP : mg "MOST_DEEP" = some (.int 20 t_MOST_DEEP)
  t_MOST_NOTS : Tok
  g_MOST_NOTS : mg "MOST_NOTS" = some (.int 20 t_MOST_NOTS)
  KEPT : Addr
  g_KEPT : mg "KEPT" = some (.ref KEPT)
  q_KEPT : ∀ H, SqT K H KEPT [.str "half", .str "tell", .str "say", .str "stop", .str "if", .str "else", .str "repeat", .str "pass", .str "odd", .str "not", .str "program"]
  KEPT_WORDS : Addr
  g_KEPT_WORDS : mg "KEPT_WORDS" = some (.ref KEPT_WORDS)
  q_KEPT_WORDS : ∀ H, SqT K H KEPT_WORDS [.str "half", .str "tell", .str "say", .str "stop", .str "if", .str "else", .str "repeat", .str "pass", .str "odd", .str "not", .str "program"]
  SIGNS_texts : Addr
  g_SIGNS_texts : mg "SIGNS_texts" = some (.ref SIGNS_texts)
  WORDS : Addr
  g_WORDS : mg "WORDS" = some (.ref WORDS)
  abs : mg "abs" = none
  bool : mg "bool" = none
  divmod : mg "divmod" = none
  enumerate : mg "enumerate" = none
  int : mg "int" = none
  isinstance : mg "isinstance" = none
  len : mg "len" = none
  range : mg "range" = none
  repr : mg "repr" = none
  str : mg "str" = none
  sum : mg "sum" = none
  tuple : mg "tuple" = none
end EH
namespace EH
open PySem L2
local macro_rules | `(tactic| walk_at "sd") => `(tactic| first | assumption | ((with_reducible show (_ : Int) ≤ _); omega) | ((with_reducible show (_ : Int) < _); omega) | rfl | exact SqL.of (by assumption) | exact SqT.of (by assumption) | exact atI_nat (j := 0) rfl | exact atI_nat (j := 1) rfl | exact atI_nat (j := 2) rfl | exact atI_nat (j := 3) rfl | exact sz_lit rfl | exact lt_lit rfl | exact pos_lit rfl | exact le_lit rfl | exact Or.inl (SqL.of (by assumption)) | exact ⟨_, SqL.of (by assumption)⟩ | exact ⟨_, SqT.of (by assumption)⟩ | exact Or.inr (SqT.of (by assumption)) | exact ClsV.ty _ | exact TyX.base (TyOf.int _) | exact TyX.base (TyOf.str _) | exact TyX.base (TyOf.tup (by assumption)) | exact kit_ty isi_ss | exact kit_ty isi_is | exact kit_ty isi_ts | exact kit_ty isi_si | exact kit_ty isi_ii | exact kit_ty isi_ti | exact kit_ty isi_st | exact kit_ty isi_it | exact kit_ty isi_tt | exact Or.inl ⟨_, Or.inl (by assumption)⟩ | exact DGet.k (k := Sum.inr _) (by assumption) | exact DGet.k (k := Sum.inl _) (by assumption) | (refine cpow_of ?_; decide) | (refine cmul_of ?_; decide) | (show (_ : Int) ≠ 0; first | decide | omega) | (refine cdivn_of ?_; decide) | exact Or.inl ⟨rfl, _, SqL.of (by assumption)⟩ | omega)
local macro_rules | `(tactic| walk_at "st") => `(tactic| first | (apply Exists.intro) | (refine And.intro ?_ ?_; focus (walk_at "sd")) | (apply Or.inl; apply Exists.intro; refine And.intro ?_ ?_; focus rfl) | (apply Or.inr; apply Exists.intro; refine And.intro ?_ ?_; focus rfl))
local macro_rules | `(tactic| walk_at "go") => `(tactic| repeat (walk_at "st"))
section
variable {P : Program} {w : World} {K : PySem.W.Frag} {mg : Str → Option Value} {base : Heap}
theorem ok_l_draw (T : Top K mg) {k : Nat} : FnOk P w K mg base CX0 (k + 1) T.l_draw.f T.l_draw.fd ["_law_deck_here", "_law_many"] spDraw := by
  refine T.l_draw.F.ok sc_l_draw (fun vs H Q E h => ?_) (fun cdv A outer s H vs Q E hr h => ?_)
  · obtain ⟨a, c, n, many, rfl, _⟩ := h
    rfl
  obtain ⟨a, c, n, many, rfl, hD, hn, hm, hm2, q⟩ := h
  refine ⟨_, (pss_cons (ps_asg (pe_op op_add (pe_ix (ix_listK (K := K) rfl) (pv 0) pe_int (fun _ _ => rfl)) pe_int) (pg_sub (pv 0) pe_int set_listA))
      (pss_cons (ps_asg (pe_tupA (pa_cons pe_int (pa_cons (pe_un un_neg pe_int) pa_nil))) (pg_tup (by rfl) (pgs_cons (pg_name (i := 2) sc_l_draw.nd rfl (.inl rfl)) (pgs_cons (pg_name (i := 3) sc_l_draw.nd rfl (.inl rfl)) pgs_nil))))
      (pss_cons (ps_if (pt_cmpR op_gt (pe_callB (id := "len") (call_lenK (K := K) rfl) (by rfl) T.len PySem.boot_len (pa_cons (pe_ix (ix_listK (K := K) rfl) (pv 0) pe_int (fun _ _ => rfl)) pa_nil)) pe_int (nomark _)) (pss_cons (ps_set (i := 3) sc_l_draw.nd rfl (.inl rfl) (pe_op op_modN (pe_callTy (T := "int") call_int1 (by rfl) T.int (by decide +kernel) (pa_cons (pe_ix (ix_listK (K := K) rfl) (pv 0) pe_int (fun _ _ => rfl)) pa_nil)) (pe_callB (id := "len") (call_lenK (K := K) rfl) (by rfl) T.len PySem.boot_len (pa_cons (pe_ix (ix_listK (K := K) rfl) (pv 0) pe_int (fun _ _ => rfl)) pa_nil))))
      (pss_one (ps_set (i := 2) sc_l_draw.nd rfl (.inl rfl) (pe_ix (ix_listK (K := K) rfl) (pe_ix (ix_listK (K := K) rfl) (pv 0) pe_int (fun _ _ => rfl)) (pv 3) (fun _ _ => rfl))))) pss_nil)
      (pss_cons (ps_if (pt_cmpR op_ge (pv 2) (pe_op op_pow pe_int pe_int) (nomark _)) (pss_cons (ps_asg (pe_op op_fdivW (pe_callTy (T := "int") call_int1 (by rfl) T.int (by decide +kernel) (pa_cons (pv 2) pa_nil)) (pv 1)) (pg_sub (pe_ix (ix_listK (K := K) rfl) (pv 0) pe_int (fun _ _ => rfl)) (pv 3) set_listA))
      (pss_one (ps_ret (pe_op op_modN (pe_callTy (T := "int") call_int1 (by rfl) T.int (by decide +kernel) (pa_cons (pv 2) pa_nil)) (pv 1))))) pss_nil)
      (pss_cons (ps_set (i := 4) sc_l_draw.nd rfl (.inl rfl) (pe_op op_add (pe_op op_add (pe_op op_modN (pe_callTy (T := "int") call_int1 (by rfl) T.int (by decide +kernel) (pa_cons (pv 2) pa_nil)) pe_int) (pe_op op_mul pe_int (pe_ix (ix_listK (K := K) rfl) (pv 0) pe_int (fun _ _ => rfl)))) pe_int))
      (pss_one (ps_ret (pe_op op_modN (pe_callTy (T := "int") call_int1 (by rfl) T.int (by decide +kernel) (pa_cons (pe_op op_modN (pe_callTy (T := "int") call_int1 (by rfl) T.int (by decide +kernel) (pa_cons (pe_op op_pow (pv 4) pe_int) pa_nil)) pe_int) pa_nil)) (pv 1))))))))), ?_⟩
  obtain ⟨cs, h1, h2, ok⟩ := hD.ex
  have hn1 : n ≤ 1000000000 := hn
  have nac : a ≠ c := hD.ne
  walk_at "go"
  intro H1 g1 k1
  replace g1 : H1 a = some (.lst [V.ref c, V.int (n + 1)]) := g1
  walk_at "go"
  intro t H2 ht e2
  have g2 := new_at e2
  have k2 := new_kp ht e2
  have a2 := k2.at g1
  have c1 := k1.keep _ _ h2 (ne1 nac.symm)
  have c2 := k2.at c1
  clear e2
  walk_at "go"
  have len1 : ((cs.map V.int).length : Int) = (cs.length : Int) := by rw [List.length_map]
  have l63 := ok.len
  have n0 := ok.n0
  refine ite2 (fun hc => ?_) (fun hc => ?_)
  · have hc1 : (0 : Int) < ((cs.map V.int).length : Int) := of_decide_eq_true hc
    have f0 := Int.fmod_nonneg_of_pos (a := n + 1) hc1
    have f1 := Int.fmod_lt_of_pos (a := n + 1) hc1
    obtain ⟨v, hv, vm⟩ := atI_mem f0 f1
    obtain ⟨x, xm, rfl⟩ := List.mem_map.mp vm
    have x0 := ok.pos x xm
    walk_at "go"
    refine ite2 (fun hd => ?_) (fun hd => ?_)
    · walk_at "go"
      refine ⟨⟨hm, Nat.lt_of_lt_of_le (PySem.Flt.log2_lt_of (by decide) hm2) (by decide)⟩, ?_⟩
      walk_at "go"
      refine ⟨ixN_nat f0 f1, ?_⟩
      intro H3 g3 k3
      walk_at "go"
      refine q _ H3 (Int.fmod_nonneg_of_pos _ hm) (Int.fmod_lt_of_pos _ hm) ⟨cs.set ((n + 1).fmod ((cs.map V.int).length : Int)).toNat (x / many), k3.keep _ _ a2 (ne1 nac), ?_, ?_, ?_, by omega⟩ ((((Kp.refl.step1 k1 (.inl (by simp))).step0 k2)).step1 k3 (.inl (by simp)))
      · rw [g3, List.map_set]
      · rw [List.length_set]
        exact l63
      · intro y hy
        rcases List.mem_or_eq_of_mem_set hy with hy | rfl
        · exact ok.pos y hy
        · exact Int.ediv_nonneg x0 (Int.le_of_lt hm)
    · walk_at "go"
      have m0 := Int.fmod_nonneg_of_pos x (b := 2147483563) (by decide)
      have m1 := Int.fmod_lt_of_pos x (b := 2147483563) (by decide)
      refine ⟨⟨by decide, by decide, ?_⟩, ?_⟩
      · show (x.fmod 2147483563 + 8117 * (n + 1) + 3).natAbs < 2 ^ 64
        have e : (2 : Nat) ^ 64 = 18446744073709551616 := by decide
        rw [e]
        omega
      walk_at "go"
      exact q _ H2 (Int.fmod_nonneg_of_pos _ hm) (Int.fmod_lt_of_pos _ hm) ⟨cs, a2, c2, l63, ok.pos, by omega⟩ ((Kp.refl.step1 k1 (.inl (by simp))).step0 k2)
  · walk_at "go"
    refine ⟨⟨by decide, by decide, ?_⟩, ?_⟩
    · show ((0 : Int).fmod 2147483563 + 8117 * (n + 1) + 3).natAbs < 2 ^ 64
      have e : (2 : Nat) ^ 64 = 18446744073709551616 := by decide
      have e2 : (0 : Int).fmod 2147483563 = 0 := by decide
      rw [e, e2]
      omega
    walk_at "go"
    exact q _ H2 (Int.fmod_nonneg_of_pos _ hm) (Int.fmod_lt_of_pos _ hm) ⟨cs, a2, c2, l63, ok.pos, by omega⟩ ((Kp.refl.step1 k1 (.inl (by simp))).step0 k2)
theorem ok_l_one2 (T : Top K mg) {k : Nat} : FnOk P w K mg base CX0 (k + 2) T.l_one.f T.l_one.fd ["_law_deck_here", "_law_items"] (spOne2 K) := by
  have G_l_draw : FnOk P w K mg base CX0 (k + 1) T.l_draw.f T.l_draw.fd ["_law_deck_here", "_law_many"] spDraw := ok_l_draw T
  refine T.l_one.F.ok sc_l_one (fun vs H Q E h => ?_) (fun cdv A outer s H vs Q E hr h => ?_)
  · rcases h with ⟨a, c, l, n, xs, rfl, _⟩ | ⟨a, c, n, z, rfl, _⟩ <;> rfl
  refine ⟨_, (pss_one (ps_ret (pe_ix (IxR.or (ix_listK (K := K) rfl) ix_str) (pv 1) (pe_call G_l_draw (hr.mono (by omega)) (by rfl) T.l_draw.g T.l_draw.F.kp T.l_draw.b .nil pass0 (pa_cons (pv 0) (pa_cons (pe_callB (id := "len") (CallR.or (call_lenK (K := K) rfl) call_len_str) (by rfl) T.len PySem.boot_len (pa_cons (pv 1) pa_nil)) pa_nil))) (fun _ _ => rfl)))), ?_⟩
  rcases h with ⟨a, c, l, n, xs, rfl, hD, hn, hS, hl, h0, hz, q⟩ | ⟨a, c, n, z, rfl, hD, hn, h0, hz, q⟩
  · refine ⟨_, rfl, _, rfl, _, rfl, .inl ⟨l, xs, rfl, .inl hS, a, c, n, _, rfl, hD, hn, by omega, pow1000 hz, fun r H1 r0 r1 D1 k1 => ?_⟩⟩
    obtain ⟨v, hv, vm⟩ := atI_mem r0 r1
    exact .inl ⟨l, xs, _, _, rfl, rfl, k1.seq hS hl, hv, q _ H1 vm D1 k1⟩
  · refine ⟨_, rfl, _, rfl, _, rfl, .inr ⟨z, rfl, sz_le hz, a, c, n, _, rfl, hD, hn, by omega, pow1000 hz, fun r H1 r0 r1 D1 k1 => ?_⟩⟩
    have r2 : r < (z.cps.toList.length : Int) := by rw [Array.length_toList]; exact r1
    obtain ⟨v, hv, vm⟩ := atI_mem r0 r2
    exact .inr ⟨z, _, v, rfl, rfl, sz_le hz, hv, q _ H1 vm D1 k1⟩
theorem ok_l_one (T : Top K mg) {k : Nat} : FnOk P w K mg base CX0 (k + 2) T.l_one.f T.l_one.fd ["_law_deck_here", "_law_items"] (spOne K) := (ok_l_one2 T).imp fun _ _ _ _ h => .inl h
theorem ok_l_oneS (T : Top K mg) {k : Nat} : FnOk P w K mg base CX0 (k + 2) T.l_one.f T.l_one.fd ["_law_deck_here", "_law_items"] spOneS := (ok_l_one2 T).imp fun _ _ _ _ h => .inr h
end
section
variable {P : Program} {w : World} {K : PySem.W.Frag} {mg : Str → Option Value} {base : Heap}
theorem ok_l_deck (T : Top K mg) {k : Nat} : FnOk P w K mg base CX0 (k + 1) T.l_deck.f T.l_deck.fd ["_law_script"] (spDeck K) := by
  refine T.l_deck.F.ok sc_l_deck (fun vs H Q E h => ?_) (fun cdv A outer s H vs Q E hr h => ?_)
  · obtain ⟨a, ns, rfl, _⟩ := h
    rfl
  obtain ⟨a, ns, rfl, hS, hl, q⟩ := h
  refine ⟨_, (pss_one (ps_ret (pe_lstA (pa_cons (pe_lc (own := [("_law_cell", 1)]) (by rfl) sc_l_deck.nd (pi_listK (K := K) rfl (pe_slice (sl_listK (K := K) rfl) (pv 0) po_none (po_some pe_int))) (blkOk_by (N := ["_law_script", "_law_cell"]) (sc := defScope s_l_deck) (own := [("_law_cell", 1)]) (by decide +kernel)) (fun _ _ _ _ _ => (pg_name (i := 1) sc_l_deck.nd rfl (.inl rfl))) (fun _ _ _ _ _ => pts_nil) (fun _ _ _ _ _ => (pe_callB (id := "abs") call_abs (by rfl) T.abs (by decide +kernel) (pa_cons (pv 1) pa_nil)))) (pa_cons pe_int pa_nil))))), ?_⟩
  have hc : cutV (ns.map V.int) none (some 63) = ns.map V.int := by
    apply cutV_whole
    refine ⟨rfl, ?_⟩
    show HT.sIx _ _ (some ((63 : Nat) : Int)) = _
    rw [HT.sIx_nat, List.length_map]
    omega
  walk_at "go"
  intro p H1 hp g1 k1
  rw [hc] at g1
  refine ⟨p, rfl, ⟨_, SqL.of g1⟩, fun D hD => ?_⟩
  refine lc_list (K := K) (a := p) (xs := ns.map V.int) (fun i H2 => Kp [D] H1 H2 ∧ H2 D = some (.lst ((ns.take i).map fun x => V.int (if x < 0 then -x else x)))) ⟨(Kp.new hD).sub (by simp), upd_same⟩ ?_ ?_ ?_
  · rintro i H2 _ ⟨k2, _⟩
    exact SqL.of (k2.keep _ _ g1 (ne1 (ne_of_none g1 hD)))
  · rintro i x H2 hx ⟨k2, d2⟩
    rw [List.getElem?_map] at hx
    cases e : ns[i]? with
    | none => rw [e] at hx; cases hx
    | some z =>
      rw [e] at hx
      cases hx
      have hz : (List.map (fun x => V.int (if x < 0 then -x else x)) (List.take i ns)).length < sizeLine := by
        rw [List.length_map, List.length_take]
        exact sz_lt (by omega)
      walk_at "go"
      refine ⟨k2.step1 (Kp.put d2 (fun _ y => by cases y)) (.inl (by simp)), ?_⟩
      rw [upd_same, List.take_add_one, e, List.map_append]
      rfl
  · rintro H2 ⟨k2, d2⟩
    rw [List.length_map, List.take_length] at d2
    walk_at "go"
    intro r H3 hr3 e3
    have k3 := new_kp hr3 e3
    have k4 : Kp [] H H3 := ((k1.step1 k2 (.inr (k1.free hD (by simp)))).step0 k3)
    refine q r D H3 (((k1.step1 k2 (.inr (k1.free hD (by simp))))).free hr3 (by simp)) (k1.free hD (by simp)) k4 ⟨⟨ns.map fun x => if x < 0 then -x else x, new_at e3, ?_, ?_, ?_, by decide⟩⟩
    · rw [k3.at d2, List.map_map]
      rfl
    · rw [List.length_map]
      exact hl
    · intro x hx
      obtain ⟨y, _, rfl⟩ := List.mem_map.mp hx
      split <;> omega
end
section
variable {P : Program} {w : World} {K : PySem.W.Frag} {mg : Str → Option Value} {base : Heap}
theorem ok_l_expr (T : Top K mg) : ∀ n : Nat, FnOk P w K mg base CX0 (n + 2) T.l_expr.f T.l_expr.fd ["_law_deck_here", "_law_names_here", "_law_deep"] (spExpr01 n)
  | 0 => fn_no (by rintro vs H Q E ⟨a, c, nm, m, deep, ns, _, _, _, _, h1, h2, _⟩; omega)
  | n + 1 => by
    have G_l_draw : FnOk P w K mg base CX0 1 T.l_draw.f T.l_draw.fd ["_law_deck_here", "_law_many"] spDraw := ok_l_draw T
    have G_l_one : FnOk P w K mg base CX0 2 T.l_one.f T.l_one.fd ["_law_deck_here", "_law_items"] (spOne K) := ok_l_one T
    have G_l_expr : FnOk P w K mg base CX0 (n + 2) T.l_expr.f T.l_expr.fd ["_law_deck_here", "_law_names_here", "_law_deep"] (spExpr01 n) := ok_l_expr T n
    refine T.l_expr.F.ok sc_l_expr (fun vs H Q E h => ?_) (fun cdv A outer s H vs Q E hr h => ?_)
    · obtain ⟨a, c, nm, m, deep, ns, rfl, _⟩ := h
      rfl
    obtain ⟨a, c, nm, m, deep, ns, rfl, hD, hm, hN, h1, h2, h3, q⟩ := h
    refine ⟨_, (pss_cons (ps_set (i := 3) sc_l_expr.nd rfl (.inl rfl) (pe_call G_l_draw (hr.mono (by omega)) (by rfl) T.l_draw.g T.l_draw.F.kp T.l_draw.b .nil pass0 (pa_cons (pv 0) (pa_cons pe_int pa_nil))))
      (pss_cons (ps_if (PW.pt (pw_or (pt_cmpR op_eq (pv 2) pe_int (nomark _)) (pw_or1 (pt_cmpR op_lt (pv 3) pe_int (nomark _))))) (pss_cons (ps_set (i := 4) sc_l_expr.nd rfl (.inl rfl) (pe_lstA (pa_cons pe_int (pa_cons pe_int (pa_cons (pe_un un_neg pe_int) (pa_cons pe_int (pa_cons pe_int (pa_cons (pe_un un_neg pe_int) (pa_cons (pe_op op_sub (pe_call G_l_draw (hr.mono (by omega)) (by rfl) T.l_draw.g T.l_draw.F.kp T.l_draw.b .nil pass0 (pa_cons (pv 0) (pa_cons pe_int pa_nil))) pe_int) pa_nil)))))))))
      (pss_one (ps_ret (pe_ifExp (pt_cmpR op_lt (pv 3) pe_int (nomark _)) (pe_call G_l_one (hr.mono (by omega)) (by rfl) T.l_one.g T.l_one.F.kp T.l_one.b .nil pass0 (pa_cons (pv 0) (pa_cons (pv 1) pa_nil))) (pe_call G_l_one (hr.mono (by omega)) (by rfl) T.l_one.g T.l_one.F.kp T.l_one.b .nil pass0 (pa_cons (pv 0) (pa_cons (pv 4) pa_nil))))))) pss_nil)
      (pss_cons (ps_if (pt_cmpR op_eq (pv 3) pe_int (nomark _)) (pss_one (ps_ret (pe_tupA (pa_cons pe_str (pa_cons (pe_op op_sub (pe_call G_l_draw (hr.mono (by omega)) (by rfl) T.l_draw.g T.l_draw.F.kp T.l_draw.b .nil pass0 (pa_cons (pv 0) (pa_cons pe_int pa_nil))) pe_int) (pa_cons (pe_call G_l_expr (hr.mono (by omega)) (by rfl) T.l_expr.g T.l_expr.F.kp T.l_expr.b .nil pass0 (pa_cons (pv 0) (pa_cons (pv 1) (pa_cons (pe_op op_sub (pv 2) pe_int) pa_nil)))) pa_nil)))))) pss_nil)
      (pss_one (ps_ret (pe_tupA (pa_cons (pe_call G_l_one (hr.mono (by omega)) (by rfl) T.l_one.g T.l_one.F.kp T.l_one.b .nil pass0 (pa_cons (pv 0) (pa_cons (pe_lstA (pa_cons pe_str (pa_cons pe_str pa_nil))) pa_nil))) (pa_cons (pe_call G_l_expr (hr.mono (by omega)) (by rfl) T.l_expr.g T.l_expr.F.kp T.l_expr.b .nil pass0 (pa_cons (pv 0) (pa_cons (pv 1) (pa_cons (pe_op op_sub (pv 2) pe_int) pa_nil)))) (pa_cons (pe_call G_l_expr (hr.mono (by omega)) (by rfl) T.l_expr.g T.l_expr.F.kp T.l_expr.b .nil pass0 (pa_cons (pv 0) (pa_cons (pv 1) (pa_cons (pe_op op_sub (pv 2) pe_int) pa_nil)))) pa_nil))))))))), ?_⟩
    have ce : cE01 (n + 1) = 5 + 2 * cE01 n := rfl
    have cn : 0 ≤ cE01 n ∧ cE01 n ≤ 100 := by
      have : n = 0 ∨ n = 1 ∨ n = 2 := by omega
      rcases this with rfl | rfl | rfl <;> decide
    obtain ⟨cn0, cn1⟩ := cn
    have hmM : m ≤ MANY := by show m ≤ 1000000000; omega
    walk_at "go"
    intro r H1 r0 r1 D1 k1
    have hN1 := hN.kp k1
    have hm1 : m + 1 ≤ MANY := by show m + 1 ≤ 1000000000; omega
    have hm2 : m + 1 + 1 ≤ MANY := by show m + 1 + 1 ≤ 1000000000; omega
    have hm3 : m + 1 + 1 + 1 ≤ MANY := by show m + 1 + 1 + 1 ≤ 1000000000; omega
    walk_at "go"
    refine ite2 (fun hc => ?_) (fun hc => ?_)
    · walk_at "go"
      intro r3 H2 r30 r31 D2 k2
      have hN2 := hN1.kp k2
      walk_at "go"
      intro l H3 hl e3
      have k3 := new_kp hl e3
      have a3 := new_at e3
      have D3 := D2.kp0 k3
      have off3 := D2.off hl
      have hN3 := hN2.kp (k3.sub (by simp))
      have nmat := hN3.at_
      have nmoff := hN3.off
      have hl0 : 0 < (ns.map V.str).length := by rw [List.length_map]; exact hN.l0
      have hl1 : (ns.map V.str).length ≤ 1000000 := by rw [List.length_map]; have := hN.l1; omega
      walk_at "go"
      refine ite2 (fun hd => ?_) (fun hd => ?_)
      · walk_at "go"
        intro x H4 hx D4 k4
        obtain ⟨y, hy, rfl⟩ := List.mem_map.mp hx
        exact q _ (.var y) H4 (m + 1 + 1 + 1) mk_str (xt_var (hN.ok y hy)) h1 (by omega) (by omega) D4 (((k1.trans k2).step0 k3).trans k4)
      · walk_at "go"
        intro x H4 hx D4 k4
        have hx2 : x ∈ ([0, 1, -1, 2, 99, -99, r3 - 99] : List Int).map V.int := hx
        obtain ⟨i, rfl, i0, i1⟩ := mem_ints (P := fun i => -99 ≤ i ∧ i ≤ 99) hx2 (by
          intro i hi
          simp only [List.mem_cons, List.not_mem_nil, or_false] at hi
          omega)
        exact q _ (.num i) H4 (m + 1 + 1 + 1) mk_int (xt_num ⟨i0, i1⟩) h1 (by omega) (by omega) D4 (((k1.trans k2).step0 k3).trans k4)
    · have hc1 : ¬ deep = 1 := fun z => of_decide_eq_false (Bool.eq_false_iff.mpr hc) (congrArg V.int z)
      have d0 : 1 ≤ deep - 1 := by omega
      have d1 : deep - 1 ≤ (n : Int) := by omega
      have d2 : n ≤ 3 := by omega
      walk_at "go"
      refine ite2 (fun hd0 => ?_) (fun hd0 => ?_)
      · walk_at "go"
        intro r3 H2 r30 r31 D2 k2
        have hN2 := hN1.kp k2
        walk_at "go"
        intro l H3 hl e3
        have k3 := new_kp hl e3
        have a3 := new_at e3
        have D3 := D2.kp0 k3
        have off3 := D2.off hl
        have hN3 := hN2.kp (k3.sub (by simp))
        have nmat := hN3.at_
        have nmoff := hN3.off
        have hl0 : 0 < (ns.map V.str).length := by rw [List.length_map]; exact hN.l0
        have hl1 : (ns.map V.str).length ≤ 1000000 := by rw [List.length_map]; have := hN.l1; omega
        walk_at "go"
        refine ite2 (fun hd => ?_) (fun hd => ?_)
        · walk_at "go"
          intro x H4 hx D4 k4
          obtain ⟨y, hy, rfl⟩ := List.mem_map.mp hx
          exact q _ (.var y) H4 (m + 1 + 1 + 1) mk_str (xt_var (hN.ok y hy)) h1 (by omega) (by omega) D4 (((k1.trans k2).step0 k3).trans k4)
        · walk_at "go"
          intro x H4 hx D4 k4
          have hx2 : x ∈ ([0, 1, -1, 2, 99, -99, r3 - 99] : List Int).map V.int := hx
          obtain ⟨i, rfl, i0, i1⟩ := mem_ints (P := fun i => -99 ≤ i ∧ i ≤ 99) hx2 (by
            intro i hi
            simp only [List.mem_cons, List.not_mem_nil, or_false] at hi
            omega)
          exact q _ (.num i) H4 (m + 1 + 1 + 1) mk_int (xt_num ⟨i0, i1⟩) h1 (by omega) (by omega) D4 (((k1.trans k2).step0 k3).trans k4)
      · walk_at "go"
        refine ite2 (fun he => ?_) (fun he => ?_)
        · walk_at "go"
          intro r3 H2 r30 r31 D2 k2
          have hN2 := hN1.kp k2
          have hm4 : m + 1 + 1 + cE01 n ≤ 700000000 := by omega
          walk_at "go"
          intro v e H3 m3 t3 x3 de ml3 mu3 D3 k3
          walk_at "go"
          intro u H4 hu e4
          have k4 := new_kp hu e4
          exact q (.ref u) (.times (r3 - 9) e) H4 m3 (mk_tup (new_at e4) (trs_cons mk_str (trs_cons mk_int (trs_cons (k4.tr t3) trs_nil)))) (xt_times ⟨by omega, by omega⟩ x3) (by show ((e.deep + 1 : Nat) : Int) ≤ deep; omega) (by omega) (by omega) (D3.kp0 k4) (((k1.trans k2).trans k3).step0 k4)
        · walk_at "go"
          intro l H2 hl e2
          have k2 := new_kp hl e2
          have a2 := new_at e2
          have D2 := D1.kp0 k2
          have off2 := D1.off hl
          walk_at "go"
          intro x H3 hx D3 k3
          have hN3 := (hN1.kp (k2.sub (by simp))).kp k3
          have hm4 : m + 1 + 1 + cE01 n ≤ 700000000 := by omega
          obtain ⟨wd, rfl, wm⟩ : ∃ wd : Str, x = .str wd ∧ (wd = "plus" ∨ wd = "minus") := by
            simp only [List.mem_cons, List.not_mem_nil, or_false] at hx
            rcases hx with rfl | rfl
            · exact ⟨_, rfl, .inl rfl⟩
            · exact ⟨_, rfl, .inr rfl⟩
          walk_at "go"
          intro v4 e4 H4 m4 t4 x4 d4 ml4 mu4 D4 k4
          have hN4 := hN3.kp k4
          have hm5 : m4 + cE01 n ≤ 700000000 := by omega
          walk_at "go"
          intro v5 e5 H5 m5 t5 x5 d5 ml5 mu5 D5 k5
          walk_at "go"
          intro u H6 hu e6
          have k6 := new_kp hu e6
          have kk := ((((k1.step0 k2).trans k3).trans k4).trans k5).step0 k6
          rcases wm with rfl | rfl
          · exact q (.ref u) (.plus e4 e5) H6 m5 (mk_tup (new_at e6) (trs_cons mk_str (trs_cons (k6.tr (k5.tr t4)) (trs_cons (k6.tr t5) trs_nil)))) (xt_plus x4 x5) (by show ((max e4.deep e5.deep + 1 : Nat) : Int) ≤ deep; omega) (by omega) (by omega) (D5.kp0 k6) kk
          · exact q (.ref u) (.minus e4 e5) H6 m5 (mk_tup (new_at e6) (trs_cons mk_str (trs_cons (k6.tr (k5.tr t4)) (trs_cons (k6.tr t5) trs_nil)))) (xt_minus x4 x5) (by show ((max e4.deep e5.deep + 1 : Nat) : Int) ≤ deep; omega) (by omega) (by omega) (D5.kp0 k6) kk
end
section
variable {P : Program} {w : World} {K : PySem.W.Frag} {mg : Str → Option Value} {base : Heap}
theorem ok_l_test01 (T : Top K mg) : FnOk P w K mg base CX0 6 T.l_test.f T.l_test.fd ["_law_deck_here", "_law_names_here", "_law_is_odd"] spTest01 := by
  have G_l_draw : FnOk P w K mg base CX0 1 T.l_draw.f T.l_draw.fd ["_law_deck_here", "_law_many"] spDraw := ok_l_draw T
  have G_l_one : FnOk P w K mg base CX0 2 T.l_one.f T.l_one.fd ["_law_deck_here", "_law_items"] (spOne K) := ok_l_one T
  have G_l_expr : FnOk P w K mg base CX0 5 T.l_expr.f T.l_expr.fd ["_law_deck_here", "_law_names_here", "_law_deep"] (spExpr01 3) := ok_l_expr T 3
  have c3 : cE01 3 = 35 := by decide
  refine T.l_test.F.ok sc_l_test (fun vs H Q E h => ?_) (fun cdv A outer s H vs Q E hr h => ?_)
  · obtain ⟨a, c, nm, m, o, ns, rfl, _⟩ := h
    rfl
  obtain ⟨a, c, nm, m, o, ns, rfl, D0, hm, hN, q⟩ := h
  refine ⟨_, (pss_cons (ps_set (i := 3) sc_l_test.nd rfl (.inl rfl) (pe_tupA (pa_cons pe_str (pa_cons (pe_call G_l_expr (hr.mono (by omega)) (by rfl) T.l_expr.g T.l_expr.F.kp T.l_expr.b .nil pass0 (pa_cons (pv 0) (pa_cons (pv 1) (pa_cons (pe_op op_add pe_int (pe_call G_l_draw (hr.mono (by omega)) (by rfl) T.l_draw.g T.l_draw.F.kp T.l_draw.b .nil pass0 (pa_cons (pv 0) (pa_cons pe_int pa_nil)))) pa_nil)))) pa_nil))))
      (pss_cutA (ps_if (pt_not (pt_val (pv 2))) (pss_one (ps_set (i := 3) sc_l_test.nd rfl (.inl rfl) (pe_tupA (pa_cons pe_str (pa_cons (pe_call G_l_expr (hr.mono (by omega)) (by rfl) T.l_expr.g T.l_expr.F.kp T.l_expr.b .nil pass0 (pa_cons (pv 0) (pa_cons (pv 1) (pa_cons (pe_op op_add pe_int (pe_call G_l_draw (hr.mono (by omega)) (by rfl) T.l_draw.g T.l_draw.F.kp T.l_draw.b .nil pass0 (pa_cons (pv 0) (pa_cons pe_int pa_nil)))) pa_nil)))) (pa_cons (pe_call G_l_expr (hr.mono (by omega)) (by rfl) T.l_expr.g T.l_expr.F.kp T.l_expr.b .nil pass0 (pa_cons (pv 0) (pa_cons (pv 1) (pa_cons (pe_op op_add pe_int (pe_call G_l_draw (hr.mono (by omega)) (by rfl) T.l_draw.g T.l_draw.F.kp T.l_draw.b .nil pass0 (pa_cons (pv 0) (pa_cons pe_int pa_nil)))) pa_nil)))) pa_nil)))))) pss_nil)
      (pss_cons (ps_forA (ps_for PassesOwn.never rfl (pi_range1 (by rfl) T.range (pa_cons (pe_call G_l_one (hr.mono (by omega)) (by rfl) T.l_one.g T.l_one.F.kp T.l_one.b .nil pass0 (pa_cons (pv 0) (pa_cons (pe_lstA (pa_cons pe_int (pa_cons pe_int (pa_cons pe_int (pa_cons pe_int pa_nil))))) pa_nil))) pa_nil)) (pg_name (i := 4) sc_l_test.nd rfl (.inl rfl)) (pss_one (ps_set (i := 3) sc_l_test.nd rfl (.inl rfl) (pe_tupA (pa_cons pe_str (pa_cons (pv 3) pa_nil)))))))
      (pss_one (ps_ret (pv 3)))))), ?_⟩
  have hmM : m ≤ MANY := by show m ≤ 1000000000; omega
  walk_at "go"
  intro r1 H1 r10 r11 D1 k1
  have hN1 := hN.kp k1
  have hm1 : m + 1 + cE01 3 ≤ 700000000 := by omega
  have d31 : 1 + r1 ≤ ((3 : Nat) : Int) := by omega
  have d30 : 1 ≤ 1 + r1 := by omega
  walk_at "go"
  intro v2 e2 H2 m2 t2 x2 de2 ml2 mu2 D2 k2
  have hN2 := hN1.kp k2
  walk_at "go"
  intro u3 H3 hu3 e3
  have k3 := new_kp hu3 e3
  have T3 : Tr H3 (Ts.odd e2).d (.ref u3) := mk_tup (new_at e3) (trs_cons mk_str (trs_cons (k3.tr t2) trs_nil))
  have D3 := D2.kp0 k3
  have hN3 := hN2.kp (k3.sub (by simp))
  have K3 : Kp [a, c] H H3 := (k1.trans k2).step0 k3
  have tt3 := tt_odd x2 (by omega)
  walk_at "go"
  refine ⟨⟨fun σ X => Lp (∃ (tv : V) (t : Ts) (m' : Int), σ = [some (.ref a), some (.ref nm), some (.bl o), some tv, none] ∧ Tr X t.d tv ∧ Tt o 0 t ∧ m ≤ m' ∧ m' ≤ m + 110 ∧ Deck X a c m' ∧ Kp [a, c] H X), ?_, ?_⟩⟩
  · cases o with
    | true =>
      walk_at "go"
      exact ⟨_, _, m2, rfl, T3, tt3, by omega, by omega, D3, K3⟩
    | false =>
      have hmM2 : m2 ≤ MANY := by show m2 ≤ 1000000000; omega
      walk_at "go"
      intro r4 H4 r40 r41 D4 k4
      have hN4 := hN3.kp k4
      have hm4 : m2 + 1 + cE01 3 ≤ 700000000 := by omega
      have d41 : 1 + r4 ≤ ((3 : Nat) : Int) := by omega
      have d40 : 1 ≤ 1 + r4 := by omega
      walk_at "go"
      intro v5 e5 H5 m5 t5 x5 de5 ml5 mu5 D5 k5
      have hN5 := hN4.kp k5
      have hmM5 : m5 ≤ MANY := by show m5 ≤ 1000000000; omega
      walk_at "go"
      intro r6 H6 r60 r61 D6 k6
      have hN6 := hN5.kp k6
      have hm6 : m5 + 1 + cE01 3 ≤ 700000000 := by omega
      have d61 : 1 + r6 ≤ ((3 : Nat) : Int) := by omega
      have d60 : 1 ≤ 1 + r6 := by omega
      walk_at "go"
      intro v7 e7 H7 m7 t7 x7 de7 ml7 mu7 D7 k7
      walk_at "go"
      intro u8 H8 hu8 e8
      have k8 := new_kp hu8 e8
      have T8 : Tr H8 (Ts.less e5 e7).d (.ref u8) := mk_tup (new_at e8) (trs_cons mk_str (trs_cons (k8.tr (k7.tr (k6.tr t5))) (trs_cons (k8.tr t7) trs_nil)))
      walk_at "go"
      exact ⟨_, _, m7, rfl, T8, tt_less x5 (by omega) x7 (by omega), by omega, by omega, D7.kp0 k8, ((((K3.trans k4).trans k5).trans k6).trans k7).step0 k8⟩
  · rintro σ X ⟨⟨tv, t, m1', rfl, tX, tt, ml, mu, DX, kx⟩⟩
    have hmMX : m1' ≤ MANY := by show m1' ≤ 1000000000; omega
    walk_at "go"
    intro l Y1 hl e1'
    have j1 := new_kp hl e1'
    have b1 := new_at e1'
    have DY1 := DX.kp0 j1
    have offl := DX.off hl
    walk_at "go"
    intro y Y2 hy DY2 j2
    have hy2 : y ∈ ([0, 0, 1, 2] : List Int).map V.int := hy
    obtain ⟨g, rfl, hg0, hg1⟩ := mem_ints (P := fun i => 0 ≤ i ∧ i ≤ 2) hy2 (by decide)
    have tY := j2.tr (j1.tr tX)
    have kY := (kx.step0 j1).trans j2
    walk_at "go"
    refine ⟨for_range (lo := 0) (n := Int.toNat g) (fun i σ Z => Lp (∃ (tv : V) (t : Ts) (w4 : Option V), σ = [some (.ref a), some (.ref nm), some (.bl o), some tv, w4] ∧ Tr Z t.d tv ∧ Tt o i t ∧ Kp [] Y2 Z)) ⟨tv, t, none, rfl, tY, tt, Kp.refl⟩ ?_ ?_⟩
    · rintro i σ Z hi ⟨tv, t, w4, rfl, tZ, tt, kz⟩
      walk_at "go"
      intro u Z2 hu e2'
      have k' := new_kp hu e2'
      walk_at "go"
      exact ⟨_, .not t, _, rfl, mk_tup (new_at e2') (trs_cons mk_str (trs_cons (k'.tr tZ) trs_nil)), tt_not tt, kz.trans k'⟩
    · rintro σ Z ⟨tv, t, w4, rfl, tZ, tt, kz⟩
      walk_at "go"
      exact q tv t _ Z _ tZ tt (by omega) (by omega) (by omega) (DY2.kp0 kz) (kY.step0 kz)
end
section
variable {P : Program} {w : World} {K : PySem.W.Frag} {mg : Str → Option Value} {base : Heap}
theorem ok_l_if01 (T : Top K mg) {n k : Nat} (hk : 6 ≤ k) (G_l_block : FnOk P w K mg base CX0 k T.l_block.f T.l_block.fd ["_law_deck_here", "_law_names_here", "_law_depth", "_law_times", "_law_left"] (spBlock01 n)) : FnOk P w K mg base CX0 (k + 1) T.l_if.f T.l_if.fd ["_law_deck_here", "_law_names_here", "_law_depth", "_law_times", "_law_left", "_law_at"] (spIf01 n) := by
  have G_l_draw : FnOk P w K mg base CX0 1 T.l_draw.f T.l_draw.fd ["_law_deck_here", "_law_many"] spDraw := ok_l_draw T
  have G_l_test : FnOk P w K mg base CX0 6 T.l_test.f T.l_test.fd ["_law_deck_here", "_law_names_here", "_law_is_odd"] spTest01 := ok_l_test01 T
  refine T.l_if.F.ok sc_l_if (fun vs H Q E h => ?_) (fun cdv A outer s H vs Q E hr h => ?_)
  · obtain ⟨a, c, nm, lf, m, depth, times, p0, w0, h0, c0, at_, ns, rfl, _⟩ := h
    rfl
  obtain ⟨a, c, nm, lf, m, depth, times, p0, w0, h0, c0, at_, ns, rfl, g, hat, hl0, hd0, hdn, hn1, hm, q⟩ := h
  have cb := cB01_nn n
  refine ⟨_, (pss_cutA (ps_asg (pe_op op_sub (pe_ix (ix_listK (K := K) rfl) (pv 4) (pv 5) (fun _ _ => rfl)) (pv 3)) (pg_sub (pv 4) (pv 5) set_listA))
      (pss_cons (ps_par3 (i := 6) (j := 7) (l := 8) (by rfl) sc_l_if.nd rfl rfl rfl (by decide) (by decide) (by decide) rfl rfl rfl (pa_cons (pe_call G_l_test (hr.mono (by omega)) (by rfl) T.l_test.g T.l_test.F.kp T.l_test.b .nil pass0 (pa_cons (pv 0) (pa_cons (pv 1) (pa_cons (pe_cmpR op_eq (pv 5) pe_int (nomark _)) pa_nil)))) (pa_cons (pe_tupA pa_nil) (pa_cons (pe_tupA pa_nil) pa_nil))) (by rfl))
      (pss_cutA (ps_if (pt_cmpR op_gt (pe_call G_l_draw (hr.mono (by omega)) (by rfl) T.l_draw.g T.l_draw.F.kp T.l_draw.b .nil pass0 (pa_cons (pv 0) (pa_cons pe_int pa_nil))) pe_int (nomark _)) (pss_one (ps_set (i := 7) sc_l_if.nd rfl (.inl rfl) (pe_call G_l_block (hr.mono (by omega)) (by rfl) T.l_block.g T.l_block.F.kp T.l_block.b .nil pass0 (pa_cons (pv 0) (pa_cons (pv 1) (pa_cons (pe_op op_add (pv 2) pe_int) (pa_cons (pv 3) (pa_cons (pv 4) pa_nil)))))))) pss_nil)
      (pss_cutA (ps_if (pt_cmpR op_gt (pe_call G_l_draw (hr.mono (by omega)) (by rfl) T.l_draw.g T.l_draw.F.kp T.l_draw.b .nil pass0 (pa_cons (pv 0) (pa_cons pe_int pa_nil))) pe_int (nomark _)) (pss_one (ps_set (i := 8) sc_l_if.nd rfl (.inl rfl) (pe_call G_l_block (hr.mono (by omega)) (by rfl) T.l_block.g T.l_block.F.kp T.l_block.b .nil pass0 (pa_cons (pv 0) (pa_cons (pv 1) (pa_cons (pe_op op_add (pv 2) pe_int) (pa_cons (pv 3) (pa_cons (pv 4) pa_nil)))))))) pss_nil)
      (pss_one (ps_ret (pe_tupA (pa_cons pe_str (pa_cons (pv 6) (pa_cons (pv 7) (pa_cons (pv 8) pa_nil))))))))))), ?_⟩
  obtain ⟨l0, el0, nl0⟩ : ∃ l0 : Lf, l0 = (if decide (at_ = 2) then ⟨p0, w0, h0 - times, c0⟩ else ⟨p0, w0, h0, c0 - times⟩) ∧ l0.nn := by
    refine ⟨_, rfl, ?_⟩
    obtain ⟨a1, a2, a3, a4⟩ := hl0
    simp only at a1 a2 a3 a4
    rcases hat with ⟨rfl, h⟩ | ⟨rfl, h⟩
    · exact ⟨a1, a2, by show 0 ≤ h0 - times; omega, a4⟩
    · exact ⟨a1, a2, a3, by show 0 ≤ c0 - times; omega⟩
  refine ⟨⟨fun σ X => Lp (σ = [some (.ref a), some (.ref nm), some (.int depth), some (.int times), some (.ref lf), some (.int at_), none, none, none] ∧ Gs01 X a c nm lf m ns l0 ∧ Kp [lf] H X), ?_, ?_⟩⟩
  · have hlf : H lf = some (.lst [.int p0, .int w0, .int h0, .int c0]) := g.lft
    rcases hat with ⟨rfl, _⟩ | ⟨rfl, _⟩
    · walk_at "go"
      intro H3 f3 k3
      refine ⟨rfl, ?_, k3⟩
      rw [el0]
      exact g.put (l' := ⟨p0, w0, h0 - times, c0⟩) f3 k3
    · walk_at "go"
      intro H3 f3 k3
      refine ⟨rfl, ?_, k3⟩
      rw [el0]
      exact g.put (l' := ⟨p0, w0, h0, c0 - times⟩) f3 k3
  · rintro σ X ⟨⟨rfl, gX, kx⟩⟩
    have D1 := gX.dk
    have N1 := gX.nms
    have hm6 : m ≤ 600000000 := by omega
    walk_at "go"
    intro v1 t1 kk H1 m1 T1 tt1 hk1 ml1 mu1 D1' k1
    have g1 := gX.kpD k1 D1'
    have ho : t1.isOdd = decide (at_ = 2) := by rw [tt1.odd]; exact decide_eq_decide.mpr ⟨fun h => V.int.inj h, fun h => by rw [h]⟩
    walk_at "go"
    intro u2 H2 hu2 e2
    have k2 := new_kp hu2 e2
    walk_at "go"
    intro u3 H3 hu3 e3
    have k3 := new_kp hu3 e3
    have g3 := (g1.kp0 k2).kp0 k3
    have K3 : Kp [a, c, lf] H H3 := (((kx.sub (by simp)).trans (k1.sub (by simp))).step0 k2).step0 k3
    have T13 := k3.tr (k2.tr T1)
    have Ty : Tr H3 (.tuple (Sm.ds [])) (.ref u2) := k3.tr (mk_tup (new_at e2) trs_nil)
    have Tn : Tr H3 (.tuple (Sm.ds [])) (.ref u3) := mk_tup (new_at e3) trs_nil
    walk_at "go"
    refine ⟨⟨fun σ Y => Lp (∃ (y : List Sm) (vy : V) (m2 : Int) (lA : Lf), σ = [some (.ref a), some (.ref nm), some (.int depth), some (.int times), some (.ref lf), some (.int at_), some v1, some vy, some (.ref u3)] ∧ Tr Y t1.d v1 ∧ Tr Y (.tuple (Sm.ds y)) vy ∧ Tr Y (.tuple (Sm.ds [])) (.ref u3) ∧ Sm.oks y ∧ Sm.txs y ∧ Sm.nests y + 1 ≤ n ∧ UsedB times y l0 lA ∧ m ≤ m2 ∧ m2 ≤ m + 210 + cB01 n ∧ Gs01 Y a c nm lf m2 ns lA ∧ Kp [a, c, lf] H Y), ?_, ?_⟩⟩
    · have D3 := g3.dk
      have hmM : m1 ≤ MANY := by show m1 ≤ 1000000000; omega
      walk_at "go"
      intro r H4 r0 r1 D4 k4
      have g4 := g3.kpD k4 D4
      walk_at "go"
      refine ite2 (fun hc => ?_) (fun hc => ?_)
      · have hdp : 0 ≤ depth + 1 := by omega
        have hdp2 : depth + 1 + (n : Int) = 4 := by omega
        have hm4 : m1 + 1 + cB01 n ≤ 500000000 := by omega
        walk_at "go"
        intro vb b H5 m5 l5 Tb ob xb nb pb ml5 mu5 g5 k5
        walk_at "go"
        have K5 : Kp [a, c, lf] H3 H5 := (k4.sub (by simp)).trans k5
        exact ⟨b, vb, m5, l5, rfl, K5.tr T13, Tb, K5.tr Tn, ob, xb, nb, pb, by omega, by omega, g5, K3.trans K5⟩
      · have K4 : Kp [a, c, lf] H3 H4 := k4.sub (by simp)
        walk_at "go"
        exact ⟨[], .ref u2, m1 + 1, l0, rfl, K4.tr T13, K4.tr Ty, K4.tr Tn, trivial, trivial, by simp only [Sm.nests]; omega, used_nil nl0, by omega, by omega, g4, K3.trans K4⟩
    · rintro σ Y ⟨⟨y, vy, m2, lA, rfl, T1Y, TyY, TnY, oy, xy, ny, py, ml2, mu2, gY, kY⟩⟩
      have hlA := py.nn
      walk_at "go"
      refine ⟨⟨fun σ Z => Lp (∃ (nn : List Sm) (vn : V) (m3 : Int) (lB : Lf), σ = [some (.ref a), some (.ref nm), some (.int depth), some (.int times), some (.ref lf), some (.int at_), some v1, some vy, some vn] ∧ Tr Z t1.d v1 ∧ Tr Z (.tuple (Sm.ds y)) vy ∧ Tr Z (.tuple (Sm.ds nn)) vn ∧ Sm.oks nn ∧ Sm.txs nn ∧ Sm.nests nn + 1 ≤ n ∧ UsedB times nn lA lB ∧ m ≤ m3 ∧ m3 ≤ m + 220 + 2 * cB01 n ∧ Gs01 Z a c nm lf m3 ns lB ∧ Kp [a, c, lf] H Z), ?_, ?_⟩⟩
      · have D3 := gY.dk
        have hmM : m2 ≤ MANY := by show m2 ≤ 1000000000; omega
        walk_at "go"
        intro r H4 r0 r1 D4 k4
        have g4 := gY.kpD k4 D4
        walk_at "go"
        refine ite2 (fun hc => ?_) (fun hc => ?_)
        · have hdp : 0 ≤ depth + 1 := by omega
          have hdp2 : depth + 1 + (n : Int) = 4 := by omega
          have hm4 : m2 + 1 + cB01 n ≤ 500000000 := by omega
          walk_at "go"
          intro vb b H5 m5 l5 Tb ob xb nb pb ml5 mu5 g5 k5
          walk_at "go"
          have K5 : Kp [a, c, lf] Y H5 := (k4.sub (by simp)).trans k5
          exact ⟨b, vb, m5, l5, rfl, K5.tr T1Y, K5.tr TyY, Tb, ob, xb, nb, pb, by omega, by omega, g5, kY.trans K5⟩
        · have K4 : Kp [a, c, lf] Y H4 := k4.sub (by simp)
          walk_at "go"
          exact ⟨[], .ref u3, m2 + 1, lA, rfl, K4.tr T1Y, K4.tr TyY, K4.tr TnY, trivial, trivial, by simp only [Sm.nests]; omega, used_nil hlA, by omega, by omega, g4, kY.trans K4⟩
      · rintro σ Z ⟨⟨nn, vn, m3, lB, rfl, T1Z, TyZ, TnZ, on, xn, nnn, pn, ml3, mu3, gZ, kZ⟩⟩
        walk_at "go"
        intro u H6 hu e6
        have k6 := new_kp hu e6
        exact q (.ref u) (.ite t1 y nn) H6 m3 lB (mk_tup (new_at e6) (trs_cons mk_str (trs_cons (k6.tr T1Z) (trs_cons (k6.tr TyZ) (trs_cons (k6.tr TnZ) trs_nil))))) ⟨tt1.ok, by have := tt1.nots; omega, oy, on⟩ ⟨lk_if tt1 hk1, xy, xn⟩ (by simp only [Sm.nest]; omega) (used_ite (decide (at_ = 2)) ho (el0 ▸ py) pn) (by omega) (by omega) (gZ.kp0 k6) (kZ.step0 k6)
end
section
variable {P : Program} {w : World} {K : PySem.W.Frag} {mg : Str → Option Value} {base : Heap}
theorem ok_l_statement01 (T : Top K mg) {n k : Nat} (hk : 6 ≤ k) (G_l_block : FnOk P w K mg base CX0 k T.l_block.f T.l_block.fd ["_law_deck_here", "_law_names_here", "_law_depth", "_law_times", "_law_left"] (spBlock01 n)) : FnOk P w K mg base CX0 (k + 2) T.l_statement.f T.l_statement.fd ["_law_deck_here", "_law_names_here", "_law_depth", "_law_times", "_law_left"] (spStmt01 n) := by
  have G_l_draw : FnOk P w K mg base CX0 1 T.l_draw.f T.l_draw.fd ["_law_deck_here", "_law_many"] spDraw := ok_l_draw T
  have G_l_one : FnOk P w K mg base CX0 2 T.l_one.f T.l_one.fd ["_law_deck_here", "_law_items"] (spOne K) := ok_l_one T
  have G_l_expr : FnOk P w K mg base CX0 5 T.l_expr.f T.l_expr.fd ["_law_deck_here", "_law_names_here", "_law_deep"] (spExpr01 3) := ok_l_expr T 3
  have G_l_if : FnOk P w K mg base CX0 (k + 1) T.l_if.f T.l_if.fd ["_law_deck_here", "_law_names_here", "_law_depth", "_law_times", "_law_left", "_law_at"] (spIf01 n) := ok_l_if01 T hk G_l_block
  have c3 : cE01 3 = 35 := by decide
  refine T.l_statement.F.ok sc_l_statement (fun vs H Q E h => ?_) (fun cdv A outer s H vs Q E hr h => ?_)
  · obtain ⟨a, c, nm, lf, m, depth, times, l0, ns, rfl, _⟩ := h
    rfl
  obtain ⟨a, c, nm, lf, m, depth, times, ⟨l0, l1, l2, l3⟩, ns, rfl, g, ⟨hl0, hl1, hnn⟩, hd0, hdn, hm, q⟩ := h
  simp only at hl0 hl1
  have hnn0 : Lf.nn ⟨l0 - 1, l1 - times, l2, l3⟩ := ⟨by show 0 ≤ l0 - 1; omega, by show 0 ≤ l1 - times; omega, hnn.2.2.1, hnn.2.2.2⟩
  have cb := cB01_nn n
  refine ⟨_, (pss_cons (ps_asg (pe_tupA (pa_cons (pe_op op_sub (pe_ix (ix_listK (K := K) rfl) (pv 4) pe_int (fun _ _ => rfl)) pe_int) (pa_cons (pe_op op_sub (pe_ix (ix_listK (K := K) rfl) (pv 4) pe_int (fun _ _ => rfl)) (pv 3)) pa_nil))) (pg_tup (by rfl) (pgs_cons (pg_sub (pv 4) pe_int set_listA) (pgs_cons (pg_sub (pv 4) pe_int set_listA) pgs_nil))))
      (pss_cutA (ps_par (i := 5) (j := 6) (by rfl) sc_l_statement.nd rfl rfl (by decide) rfl rfl (pa_cons (pe_call G_l_draw (hr.mono (by omega)) (by rfl) T.l_draw.g T.l_draw.F.kp T.l_draw.b .nil pass0 (pa_cons (pv 0) (pa_cons pe_int pa_nil))) (pa_cons (pe_call G_l_one (hr.mono (by omega)) (by rfl) T.l_one.g T.l_one.F.kp T.l_one.b .nil pass0 (pa_cons (pv 0) (pa_cons (pe_lstA (pa_cons pe_int (pa_cons pe_int pa_nil))) pa_nil))) pa_nil)) (by rfl))
      (pss_cutA (ps_if (PW.pt (pw_and (pt_cmpR op_lt (pv 5) pe_int (nomark _)) (pw_and1 (pt_cmpR op_ge (pe_ix (ix_listK (K := K) rfl) (pv 4) pe_int (fun _ _ => rfl)) (pv 3) (nomark _))))) (pss_cons (ps_asg (pe_op op_sub (pe_ix (ix_listK (K := K) rfl) (pv 4) pe_int (fun _ _ => rfl)) (pv 3)) (pg_sub (pv 4) pe_int set_listA))
      (pss_one (ps_ret (pe_tupA (pa_cons pe_str (pa_cons (pe_call G_l_one (hr.mono (by omega)) (by rfl) T.l_one.g T.l_one.F.kp T.l_one.b .nil pass0 (pa_cons (pv 0) (pa_cons (pv 1) pa_nil))) (pa_cons (pe_call G_l_expr (hr.mono (by omega)) (by rfl) T.l_expr.g T.l_expr.F.kp T.l_expr.b .nil pass0 (pa_cons (pv 0) (pa_cons (pv 1) (pa_cons (pe_op op_add pe_int (pe_call G_l_draw (hr.mono (by omega)) (by rfl) T.l_draw.g T.l_draw.F.kp T.l_draw.b .nil pass0 (pa_cons (pv 0) (pa_cons pe_int pa_nil)))) pa_nil)))) pa_nil))))))) pss_nil)
      (pss_cutA (ps_if (PW.pt (pw_and (pt_cmpR (op_in_seqK (K := K) rfl) (pv 5) (pe_lstA (pa_cons pe_int (pa_cons pe_int pa_nil))) (by rfl)) (pw_and (pt_cmpR op_lt (pv 2) pe_int (nomark _)) (pw_and1 (pt_cmpR op_ge (pe_ix (ix_listK (K := K) rfl) (pv 4) (pv 6) (fun _ _ => rfl)) (pv 3) (nomark _)))))) (pss_one (ps_ret (pe_call G_l_if (hr.mono (by omega)) (by rfl) T.l_if.g T.l_if.F.kp T.l_if.b .nil pass0 (pa_cons (pv 0) (pa_cons (pv 1) (pa_cons (pv 2) (pa_cons (pv 3) (pa_cons (pv 4) (pa_cons (pv 6) pa_nil))))))))) pss_nil)
      (pss_cutA (ps_if (PW.pt (pw_and (pt_cmpR op_eq (pv 5) pe_int (nomark _)) (pw_and1 (pt_cmpR op_lt (pv 2) pe_int (nomark _))))) (pss_cons (ps_par (i := 7) (j := 8) (by rfl) sc_l_statement.nd rfl rfl (by decide) rfl rfl (pa_cons (pe_call G_l_one (hr.mono (by omega)) (by rfl) T.l_one.g T.l_one.F.kp T.l_one.b .nil pass0 (pa_cons (pv 0) (pa_cons (pe_lstA (pa_cons pe_int (pa_cons pe_int (pa_cons pe_int (pa_cons pe_int (pa_cons pe_int (pa_cons pe_int pa_nil))))))) pa_nil))) (pa_cons (pe_cmpR op_eq (pe_call G_l_draw (hr.mono (by omega)) (by rfl) T.l_draw.g T.l_draw.F.kp T.l_draw.b .nil pass0 (pa_cons (pv 0) (pa_cons pe_int pa_nil))) pe_int (nomark _)) pa_nil)) (by rfl))
      (pss_one (ps_ret (pe_tupA (pa_cons pe_str (pa_cons (pv 7) (pa_cons (pe_ifExp (pt_val (pv 8)) (pe_tupA pa_nil) (pe_call G_l_block (hr.mono (by omega)) (by rfl) T.l_block.g T.l_block.F.kp T.l_block.b .nil pass0 (pa_cons (pv 0) (pa_cons (pv 1) (pa_cons (pe_op op_add (pv 2) pe_int) (pa_cons (pe_op op_mul (pv 3) (pv 7)) (pa_cons (pv 4) pa_nil))))))) pa_nil))))))) pss_nil)
      (pss_cutA (ps_if (pt_cmpR op_eq (pv 5) pe_int (nomark _)) (pss_one (ps_ret (pe_tupA (pa_cons pe_str (pa_cons (pe_call G_l_one (hr.mono (by omega)) (by rfl) T.l_one.g T.l_one.F.kp T.l_one.b .nil pass0 (pa_cons (pv 0) (pa_cons (pe_lstA (pa_cons pe_str (pa_cons pe_str (pa_cons pe_str (pa_cons pe_str (pa_cons pe_str pa_nil)))))) pa_nil))) pa_nil))))) pss_nil)
      (pss_cutA (ps_if (PW.pt (pw_and (pt_cmpR op_eq (pv 5) pe_int (nomark _)) (pw_and1 (pt_cmpR op_eq (pe_call G_l_draw (hr.mono (by omega)) (by rfl) T.l_draw.g T.l_draw.F.kp T.l_draw.b .nil pass0 (pa_cons (pv 0) (pa_cons pe_int pa_nil))) pe_int (nomark _))))) (pss_one (ps_ret (pe_tupA (pa_cons pe_str (pa_cons (pe_call G_l_one (hr.mono (by omega)) (by rfl) T.l_one.g T.l_one.F.kp T.l_one.b .nil pass0 (pa_cons (pv 0) (pa_cons (pe_lstA (pa_cons pe_str (pa_cons pe_str (pa_cons pe_str pa_nil)))) pa_nil))) pa_nil))))) pss_nil)
      (pss_cutA (ps_if (pt_cmpR op_lt (pv 5) pe_int (nomark _)) (pss_one (ps_ret (pe_tupA (pa_cons pe_str (pa_cons (pe_call G_l_one (hr.mono (by omega)) (by rfl) T.l_one.g T.l_one.F.kp T.l_one.b .nil pass0 (pa_cons (pv 0) (pa_cons (pv 1) pa_nil))) (pa_cons (pe_call G_l_expr (hr.mono (by omega)) (by rfl) T.l_expr.g T.l_expr.F.kp T.l_expr.b .nil pass0 (pa_cons (pv 0) (pa_cons (pv 1) (pa_cons pe_int pa_nil)))) pa_nil)))))) pss_nil)
      (pss_one (ps_ret (pe_tupA (pa_cons pe_str (pa_cons (pe_call G_l_expr (hr.mono (by omega)) (by rfl) T.l_expr.g T.l_expr.F.kp T.l_expr.b .nil pass0 (pa_cons (pv 0) (pa_cons (pv 1) (pa_cons (pe_op op_add pe_int (pe_call G_l_draw (hr.mono (by omega)) (by rfl) T.l_draw.g T.l_draw.F.kp T.l_draw.b .nil pass0 (pa_cons (pv 0) (pa_cons pe_int pa_nil)))) pa_nil)))) pa_nil))))))))))))), ?_⟩
  have hlf : H lf = some (.lst [.int l0, .int l1, .int l2, .int l3]) := g.lft
  walk_at "go"
  intro u1 H1 hu1 e1
  have k1 := new_kp hu1 e1
  have sq1 : SqT K H1 u1 [.int (l0 - 1), .int (l1 - times)] := SqT.of (new_at e1)
  have lf1 := k1.at hlf
  have g1 := g.kp0 k1
  walk_at "go"
  intro H2 f2 k2
  walk_at "go"
  intro H3 f3 k3
  have g3 : Gs01 H3 a c nm lf m ns ⟨l0 - 1, l1 - times, l2, l3⟩ := (g1.put (l' := ⟨l0 - 1, l1, l2, l3⟩) f2 k2).put (l' := ⟨l0 - 1, l1 - times, l2, l3⟩) f3 k3
  have K3 : Kp [a, c, lf] H H3 := ((Kp.refl (S := [a, c, lf])).step0 k1).trans ((k2.trans k3).sub (by simp))
  have D3 := g3.dk
  have hmM0 : m ≤ MANY := by show m ≤ 1000000000; omega
  have hmM01 : m + 1 ≤ MANY := by show m + 1 ≤ 1000000000; omega
  walk_at "go"
  refine ⟨⟨(fun σ X => Lp (∃ (way at_ m1 : Int), σ = [some (.ref a), some (.ref nm), some (.int depth), some (.int times), some (.ref lf), some (.int way), some (.int at_), none, none] ∧ (0 ≤ way ∧ way < 10) ∧ (at_ = 2 ∨ at_ = 3) ∧ Gs01 X a c nm lf m1 ns ⟨l0 - 1, l1 - times, l2, l3⟩ ∧ m ≤ m1 ∧ m1 ≤ m + 3 ∧ Kp [a, c, lf] H X)), ?_, ?_⟩⟩
  · walk_at "go"
    intro r4 H4 r40 r41 D4 k4
    have g4 := g3.kpD k4 D4
    walk_at "go"
    intro l5 H5 hl5 e5
    have k5 := new_kp hl5 e5
    have a5 := new_at e5
    have D5 := D4.kp0 k5
    have off5 := D4.off hl5
    walk_at "go"
    intro y H6 hy D6 k6
    have hy2 : y ∈ ([2, 3] : List Int).map V.int := hy
    obtain ⟨at_, rfl, hat⟩ := mem_ints (P := fun i => i = 2 ∨ i = 3) hy2 (by decide)
    have g6 := (g4.kp0 k5).kpD k6 D6
    walk_at "go"
    exact ⟨r4, at_, m + 1 + 1, rfl, ⟨r40, r41⟩, hat, g6, by omega, by omega, ((K3.trans (k4.sub (by simp))).step0 k5).trans (k6.sub (by simp))⟩
  · rintro σ X1 ⟨⟨way, at_, m1, rfl, ⟨w0, w1⟩, hat, gX, ml1, mu1, kX⟩⟩
    have DX := gX.dk
    have NX := gX.nms
    have hmM : m1 ≤ MANY := by show m1 ≤ 1000000000; omega
    have hmM1 : m1 + 1 ≤ MANY := by show m1 + 1 ≤ 1000000000; omega
    have nl0 : 0 < (ns.map V.str).length := by rw [List.length_map]; exact NX.l0
    have nl1 : (ns.map V.str).length ≤ 1000000 := by rw [List.length_map]; have := NX.l1; omega
    have nmat := NX.at_
    have nmoff := NX.off
    have hl00 : 0 ≤ l0 - 1 := by omega
    have hlf : _ = some (HO.lst [V.int (l0 - 1), V.int (l1 - times), V.int l2, V.int l3]) := gX.lft
    walk_at "go"
    refine ⟨⟨(fun σ X => Lp (∃ (way at_ m1 : Int), σ = [some (.ref a), some (.ref nm), some (.int depth), some (.int times), some (.ref lf), some (.int way), some (.int at_), none, none] ∧ (0 ≤ way ∧ way < 10) ∧ (at_ = 2 ∨ at_ = 3) ∧ Gs01 X a c nm lf m1 ns ⟨l0 - 1, l1 - times, l2, l3⟩ ∧ m ≤ m1 ∧ m1 ≤ m + 4 ∧ Kp [a, c, lf] H X)), ?_, ?_⟩⟩
    · walk_at "go"
      refine ite2 (fun hc => ?_) (fun hc => ?_)
      · walk_at "go"
        refine ite2 (fun hd => ?_) (fun hd => ?_)
        · have hd2 : times ≤ l2 := of_decide_eq_true hd
          walk_at "go"
          intro X2 f2 k2
          have g2 := gX.put (l' := ⟨l0 - 1, l1 - times, l2 - times, l3⟩) f2 k2
          have D2 := g2.dk
          have N2 := g2.nms
          have nmat2 := N2.at_
          walk_at "go"
          intro x X3 hx D3' k3
          obtain ⟨y, hy, rfl⟩ := List.mem_map.mp hx
          have g3' := g2.kpD k3 D3'
          walk_at "go"
          intro r X4 r0 r1 D4 k4
          have g4 := g3'.kpD k4 D4
          have N4 := g4.nms
          have hm4 : m1 + 1 + 1 + cE01 3 ≤ 700000000 := by omega
          have d40 : 1 ≤ 1 + r := by omega
          have d41 : 1 + r ≤ ((3 : Nat) : Int) := by omega
          walk_at "go"
          intro v5 e5 X5 m5 t5 x5 de5 ml5 mu5 D5 k5
          have g5 := g4.kpD k5 D5
          walk_at "go"
          intro u6 X6 hu6 e6
          have k6 := new_kp hu6 e6
          have KK : Kp [a, c, lf] X1 X6 := ((((k2.sub (by simp)).trans (k3.sub (by simp))).trans (k4.sub (by simp))).trans (k5.sub (by simp))).step0 k6
          exact q (.ref u6) (.half y e5) X6 m5 ⟨l0 - 1, l1 - times, l2 - times, l3⟩ (mk_tup (new_at e6) (trs_cons mk_str (trs_cons mk_str (trs_cons (k6.tr t5) trs_nil)))) ⟨⟨x5.ok, by omega⟩, nmok01 (NX.ok y hy)⟩ (lk_half (NX.ok y hy) x5 (by omega)) (Nat.zero_le _) (used_half hl0 hl1 hd2 hnn) (by omega) (by omega) (g5.kp0 k6) (kX.trans KK)
        · walk_at "go"
          exact ⟨way, at_, m1, rfl, ⟨w0, w1⟩, hat, gX, ml1, by omega, kX⟩
      · walk_at "go"
        exact ⟨way, at_, m1, rfl, ⟨w0, w1⟩, hat, gX, ml1, by omega, kX⟩
    · rintro σ X2 ⟨⟨way, at_, m1, rfl, ⟨w0, w1⟩, hat, gX, ml1, mu1, kX⟩⟩
      have DX := gX.dk
      have NX := gX.nms
      have hmM : m1 ≤ MANY := by show m1 ≤ 1000000000; omega
      have hmM1 : m1 + 1 ≤ MANY := by show m1 + 1 ≤ 1000000000; omega
      have nl0 : 0 < (ns.map V.str).length := by rw [List.length_map]; exact NX.l0
      have nl1 : (ns.map V.str).length ≤ 1000000 := by rw [List.length_map]; have := NX.l1; omega
      have nmat := NX.at_
      have nmoff := NX.off
      have hl00 : 0 ≤ l0 - 1 := by omega
      have hlf : _ = some (HO.lst [V.int (l0 - 1), V.int (l1 - times), V.int l2, V.int l3]) := gX.lft
      walk_at "go"
      refine ⟨⟨(fun σ X => Lp (∃ (way at_ m1 : Int), σ = [some (.ref a), some (.ref nm), some (.int depth), some (.int times), some (.ref lf), some (.int way), some (.int at_), none, none] ∧ (0 ≤ way ∧ way < 10) ∧ (at_ = 2 ∨ at_ = 3) ∧ Gs01 X a c nm lf m1 ns ⟨l0 - 1, l1 - times, l2, l3⟩ ∧ m ≤ m1 ∧ m1 ≤ m + 5 ∧ Kp [a, c, lf] H X)), ?_, ?_⟩⟩
      · walk_at "go"
        intro l2' X2 hl2 e2
        have k2 := new_kp hl2 e2
        refine ⟨l2', _, rfl, .inl (SqL.of (new_at e2)), rfl, rfl, _, rfl, ?_⟩
        have hlf2 := k2.at hlf
        obtain ⟨la, hla, hat2⟩ : ∃ la : Int, atI [V.int (l0 - 1), V.int (l1 - times), V.int l2, V.int l3] at_ = some (.int la) ∧ ((at_ = 2 ∧ la = l2) ∨ (at_ = 3 ∧ la = l3)) := by
          rcases hat with rfl | rfl
          · exact ⟨l2, rfl, .inl ⟨rfl, rfl⟩⟩
          · exact ⟨l3, rfl, .inr ⟨rfl, rfl⟩⟩
        refine ite2 (fun hc => ?_) (fun hc => ?_)
        · walk_at "go"
          refine ite2 (fun hd => ?_) (fun hd => ?_)
          · have hd1 : depth < 3 := of_decide_eq_true hd
            walk_at "go"
            refine ite2 (fun he => ?_) (fun he => ?_)
            · have g2 := gX.kp0 k2
              have he2 : times ≤ la := of_decide_eq_true he
              have hat3 : (at_ = 2 ∧ times ≤ l2) ∨ (at_ = 3 ∧ times ≤ l3) := by omega
              have hn1 : 1 ≤ n := by omega
              have hm2 : m1 + 300 + 2 * cB01 n ≤ 500000000 := by omega
              walk_at "go"
              intro vv st Y m' l' Tv okv txv nv pv ml' mu' gY kY
              rw [Int.sub_add_cancel, Int.sub_add_cancel] at pv
              exact q vv st Y m' l' Tv okv txv nv pv (by omega) (by omega) gY ((kX.step0 k2).trans kY)
            · walk_at "go"
              exact ⟨way, at_, m1, rfl, ⟨w0, w1⟩, hat, gX.kp0 k2, ml1, by omega, kX.step0 k2⟩
          · walk_at "go"
            exact ⟨way, at_, m1, rfl, ⟨w0, w1⟩, hat, gX.kp0 k2, ml1, by omega, kX.step0 k2⟩
        · walk_at "go"
          exact ⟨way, at_, m1, rfl, ⟨w0, w1⟩, hat, gX.kp0 k2, ml1, by omega, kX.step0 k2⟩
      · rintro σ X3 ⟨⟨way, at_, m1, rfl, ⟨w0, w1⟩, hat, gX, ml1, mu1, kX⟩⟩
        have DX := gX.dk
        have NX := gX.nms
        have hmM : m1 ≤ MANY := by show m1 ≤ 1000000000; omega
        have hmM1 : m1 + 1 ≤ MANY := by show m1 + 1 ≤ 1000000000; omega
        have nl0 : 0 < (ns.map V.str).length := by rw [List.length_map]; exact NX.l0
        have nl1 : (ns.map V.str).length ≤ 1000000 := by rw [List.length_map]; have := NX.l1; omega
        have nmat := NX.at_
        have nmoff := NX.off
        have hl00 : 0 ≤ l0 - 1 := by omega
        have hlf : _ = some (HO.lst [V.int (l0 - 1), V.int (l1 - times), V.int l2, V.int l3]) := gX.lft
        walk_at "go"
        refine ⟨⟨(fun σ X => Lp (∃ (way at_ m1 : Int), σ = [some (.ref a), some (.ref nm), some (.int depth), some (.int times), some (.ref lf), some (.int way), some (.int at_), none, none] ∧ (0 ≤ way ∧ way < 10) ∧ (at_ = 2 ∨ at_ = 3) ∧ Gs01 X a c nm lf m1 ns ⟨l0 - 1, l1 - times, l2, l3⟩ ∧ m ≤ m1 ∧ m1 ≤ m + 6 ∧ Kp [a, c, lf] H X)), ?_, ?_⟩⟩
        · walk_at "go"
          refine ite2 (fun hc => ?_) (fun hc => ?_)
          · walk_at "go"
            refine ite2 (fun hd => ?_) (fun hd => ?_)
            · have hd1 : depth < 3 := of_decide_eq_true hd
              walk_at "go"
              intro l2' Y2 hl2 e2
              have k2 := new_kp hl2 e2
              have a2 := new_at e2
              have D2 := DX.kp0 k2
              have off2 := DX.off hl2
              walk_at "go"
              intro y Y3 hy D3' k3
              have hy2 : y ∈ ([0, 1, 2, 2, 3, 8] : List Int).map V.int := hy
              obtain ⟨mny, rfl, hm0, hm8⟩ := mem_ints (P := fun i => 0 ≤ i ∧ i ≤ 8) hy2 (by decide)
              obtain ⟨kk, rfl⟩ : ∃ kk : Nat, mny = (kk : Int) := ⟨mny.toNat, by omega⟩
              have g3' := (gX.kp0 k2).kpD k3 D3'
              walk_at "go"
              intro r Y4 r0 r1 D4 k4
              have g4 := g3'.kpD k4 D4
              have K4 : Kp [a, c, lf] X3 Y4 := (((Kp.refl (S := [a, c, lf])).step0 k2).trans (k3.sub (by simp))).trans (k4.sub (by simp))
              walk_at "go"
              refine ite2 (fun he => ?_) (fun he => ?_)
              · walk_at "go"
                intro u5 Y5 hu5 e5
                have k5 := new_kp hu5 e5
                walk_at "go"
                intro u6 Y6 hu6 e6
                have k6 := new_kp hu6 e6
                exact q (.ref u6) (.rep kk []) Y6 (m1 + 1 + 1) ⟨l0 - 1, l1 - times, l2, l3⟩ (mk_tup (new_at e6) (trs_cons mk_str (trs_cons mk_int (trs_cons (k6.tr (mk_tup (new_at e5) trs_nil)) trs_nil)))) ⟨by omega, trivial⟩ ⟨lk_rep (by omega), trivial⟩ (by simp only [Sm.nest, Sm.nests]; omega) (used_leaf (by simp [Sm.pl, Sm.pls, Sm.wt, Sm.wts, Sm.hv, Sm.hvs, Sm.cp, Sm.cps]) hl0 hl1 hnn) (by omega) (by omega) ((g4.kp0 k5).kp0 k6) (((kX.trans K4).step0 k5).step0 k6)
              · have hdp : 0 ≤ depth + 1 := by omega
                have hdp2 : depth + 1 + (n : Int) = 4 := by omega
                have hn1 : 1 ≤ n := by omega
                have hm4 : m1 + 1 + 1 + cB01 n ≤ 500000000 := by omega
                have cm : CMul times (kk : Int) := .inr ⟨by omega, by omega⟩
                walk_at "go"
                intro vb bb Y5 m5 l5 Tb ob xb nb pb ml5 mu5 g5 k5
                walk_at "go"
                intro u6 Y6 hu6 e6
                have k6 := new_kp hu6 e6
                exact q (.ref u6) (.rep kk bb) Y6 m5 l5 (mk_tup (new_at e6) (trs_cons mk_str (trs_cons mk_int (trs_cons (k6.tr Tb) trs_nil)))) ⟨by omega, ob⟩ ⟨lk_rep (by omega), xb⟩ (by simp only [Sm.nest]; omega) (used_rep pb) (by omega) (by omega) (g5.kp0 k6) (((kX.trans K4).trans k5).step0 k6)
            · walk_at "go"
              exact ⟨way, at_, m1, rfl, ⟨w0, w1⟩, hat, gX, ml1, by omega, kX⟩
          · walk_at "go"
            exact ⟨way, at_, m1, rfl, ⟨w0, w1⟩, hat, gX, ml1, by omega, kX⟩
        · rintro σ X4 ⟨⟨way, at_, m1, rfl, ⟨w0, w1⟩, hat, gX, ml1, mu1, kX⟩⟩
          have DX := gX.dk
          have NX := gX.nms
          have hmM : m1 ≤ MANY := by show m1 ≤ 1000000000; omega
          have hmM1 : m1 + 1 ≤ MANY := by show m1 + 1 ≤ 1000000000; omega
          have nl0 : 0 < (ns.map V.str).length := by rw [List.length_map]; exact NX.l0
          have nl1 : (ns.map V.str).length ≤ 1000000 := by rw [List.length_map]; have := NX.l1; omega
          have nmat := NX.at_
          have nmoff := NX.off
          have hl00 : 0 ≤ l0 - 1 := by omega
          have hlf : _ = some (HO.lst [V.int (l0 - 1), V.int (l1 - times), V.int l2, V.int l3]) := gX.lft
          walk_at "go"
          refine ⟨⟨(fun σ X => Lp (∃ (way at_ m1 : Int), σ = [some (.ref a), some (.ref nm), some (.int depth), some (.int times), some (.ref lf), some (.int way), some (.int at_), none, none] ∧ (0 ≤ way ∧ way < 10) ∧ (at_ = 2 ∨ at_ = 3) ∧ Gs01 X a c nm lf m1 ns ⟨l0 - 1, l1 - times, l2, l3⟩ ∧ m ≤ m1 ∧ m1 ≤ m + 7 ∧ Kp [a, c, lf] H X)), ?_, ?_⟩⟩
          · walk_at "go"
            refine ite2 (fun hc => ?_) (fun hc => ?_)
            · walk_at "go"
              intro l2' X3 hl2 e2
              have k3 := new_kp hl2 e2
              have a3 := new_at e2
              have D3' := DX.kp0 k3
              have off3 := DX.off hl2
              walk_at "go"
              intro x X4 hx D4 k4
              have hx2 : x ∈ (["on", "half", "7", "z9", "program"] : List Str).map V.str := hx
              obtain ⟨cw, rfl, hcw⟩ := mem_strs01 (P := fun c => PyData.strOk c = true ∧ c.length ≤ 20 ∧ wordB (.str c) = true) hx2 (by decide +kernel)
              have g4 := (gX.kp0 k3).kpD k4 D4
              walk_at "go"
              intro u6 X6 hu6 e6
              have k6 := new_kp hu6 e6
              exact q (.ref u6) (.say cw) X6 (m1 + 1) ⟨l0 - 1, l1 - times, l2, l3⟩ (mk_tup (new_at e6) (trs_cons mk_str (trs_cons mk_str trs_nil))) ⟨hcw.1, hcw.2.1⟩ (lk_say hcw) (Nat.zero_le _) (used_leaf (by simp [Sm.pl, Sm.pls, Sm.wt, Sm.wts, Sm.hv, Sm.hvs, Sm.cp, Sm.cps]) hl0 hl1 hnn) (by omega) (by omega) (g4.kp0 k6) ((((kX).step0 k3).trans (k4.sub (by simp))).step0 k6)
            · walk_at "go"
              exact ⟨way, at_, m1, rfl, ⟨w0, w1⟩, hat, gX, ml1, by omega, kX⟩
          · rintro σ X5 ⟨⟨way, at_, m1, rfl, ⟨w0, w1⟩, hat, gX, ml1, mu1, kX⟩⟩
            have DX := gX.dk
            have NX := gX.nms
            have hmM : m1 ≤ MANY := by show m1 ≤ 1000000000; omega
            have hmM1 : m1 + 1 ≤ MANY := by show m1 + 1 ≤ 1000000000; omega
            have nl0 : 0 < (ns.map V.str).length := by rw [List.length_map]; exact NX.l0
            have nl1 : (ns.map V.str).length ≤ 1000000 := by rw [List.length_map]; have := NX.l1; omega
            have nmat := NX.at_
            have nmoff := NX.off
            have hl00 : 0 ≤ l0 - 1 := by omega
            have hlf : _ = some (HO.lst [V.int (l0 - 1), V.int (l1 - times), V.int l2, V.int l3]) := gX.lft
            walk_at "go"
            refine ⟨⟨(fun σ X => Lp (∃ (way at_ m1 : Int), σ = [some (.ref a), some (.ref nm), some (.int depth), some (.int times), some (.ref lf), some (.int way), some (.int at_), none, none] ∧ (0 ≤ way ∧ way < 10) ∧ (at_ = 2 ∨ at_ = 3) ∧ Gs01 X a c nm lf m1 ns ⟨l0 - 1, l1 - times, l2, l3⟩ ∧ m ≤ m1 ∧ m1 ≤ m + 8 ∧ Kp [a, c, lf] H X)), ?_, ?_⟩⟩
            · walk_at "go"
              refine ite2 (fun hc => ?_) (fun hc => ?_)
              · walk_at "go"
                intro r X2 r0 r1 D2 k2
                have g2 := gX.kpD k2 D2
                walk_at "go"
                refine ite2 (fun hd => ?_) (fun hd => ?_)
                · walk_at "go"
                  intro l2' X3 hl2 e2
                  have k3 := new_kp hl2 e2
                  have a3 := new_at e2
                  have D3' := D2.kp0 k3
                  have off3 := D2.off hl2
                  walk_at "go"
                  intro x X4 hx D4 k4
                  have hx2 : x ∈ (["end", "0", "stop"] : List Str).map V.str := hx
                  obtain ⟨cw, rfl, hcw⟩ := mem_strs01 (P := fun c => PyData.strOk c = true ∧ c.length ≤ 20 ∧ wordB (.str c) = true) hx2 (by decide +kernel)
                  have g4 := (g2.kp0 k3).kpD k4 D4
                  walk_at "go"
                  intro u6 X6 hu6 e6
                  have k6 := new_kp hu6 e6
                  exact q (.ref u6) (.stop cw) X6 (m1 + 1 + 1) ⟨l0 - 1, l1 - times, l2, l3⟩ (mk_tup (new_at e6) (trs_cons mk_str (trs_cons mk_str trs_nil))) ⟨hcw.1, hcw.2.1⟩ (lk_stop hcw) (Nat.zero_le _) (used_leaf (by simp [Sm.pl, Sm.pls, Sm.wt, Sm.wts, Sm.hv, Sm.hvs, Sm.cp, Sm.cps]) hl0 hl1 hnn) (by omega) (by omega) (g4.kp0 k6) ((((kX.trans (k2.sub (by simp))).step0 k3).trans (k4.sub (by simp))).step0 k6)
                · walk_at "go"
                  exact ⟨way, at_, m1 + 1, rfl, ⟨w0, w1⟩, hat, g2, by omega, by omega, kX.trans (k2.sub (by simp))⟩
              · walk_at "go"
                exact ⟨way, at_, m1, rfl, ⟨w0, w1⟩, hat, gX, ml1, by omega, kX⟩
            · rintro σ X6 ⟨⟨way, at_, m1, rfl, ⟨w0, w1⟩, hat, gX, ml1, mu1, kX⟩⟩
              have DX := gX.dk
              have NX := gX.nms
              have hmM : m1 ≤ MANY := by show m1 ≤ 1000000000; omega
              have hmM1 : m1 + 1 ≤ MANY := by show m1 + 1 ≤ 1000000000; omega
              have nl0 : 0 < (ns.map V.str).length := by rw [List.length_map]; exact NX.l0
              have nl1 : (ns.map V.str).length ≤ 1000000 := by rw [List.length_map]; have := NX.l1; omega
              have nmat := NX.at_
              have nmoff := NX.off
              have hl00 : 0 ≤ l0 - 1 := by omega
              have hlf : _ = some (HO.lst [V.int (l0 - 1), V.int (l1 - times), V.int l2, V.int l3]) := gX.lft
              walk_at "go"
              refine ⟨⟨(fun σ X => Lp (∃ (way at_ m1 : Int), σ = [some (.ref a), some (.ref nm), some (.int depth), some (.int times), some (.ref lf), some (.int way), some (.int at_), none, none] ∧ (0 ≤ way ∧ way < 10) ∧ (at_ = 2 ∨ at_ = 3) ∧ Gs01 X a c nm lf m1 ns ⟨l0 - 1, l1 - times, l2, l3⟩ ∧ m ≤ m1 ∧ m1 ≤ m + 9 ∧ Kp [a, c, lf] H X)), ?_, ?_⟩⟩
              · walk_at "go"
                refine ite2 (fun hc => ?_) (fun hc => ?_)
                · walk_at "go"
                  intro x X3 hx D3' k3
                  obtain ⟨y, hy, rfl⟩ := List.mem_map.mp hx
                  have g3' := gX.kpD k3 D3'
                  have N3 := g3'.nms
                  have hm4 : m1 + 1 + cE01 3 ≤ 700000000 := by omega
                  have d41 : (3 : Int) ≤ ((3 : Nat) : Int) := by decide
                  walk_at "go"
                  intro v5 e5 X5 m5 t5 x5 de5 ml5 mu5 D5 k5
                  have g5 := g3'.kpD k5 D5
                  walk_at "go"
                  intro u6 X6 hu6 e6
                  have k6 := new_kp hu6 e6
                  exact q (.ref u6) (.set y e5) X6 m5 ⟨l0 - 1, l1 - times, l2, l3⟩ (mk_tup (new_at e6) (trs_cons mk_str (trs_cons mk_str (trs_cons (k6.tr t5) trs_nil)))) ⟨⟨x5.ok, by omega⟩, nmok01 (NX.ok y hy)⟩ (lk_set (NX.ok y hy) x5 (by omega)) (Nat.zero_le _) (used_leaf (by simp [Sm.pl, Sm.pls, Sm.wt, Sm.wts, Sm.hv, Sm.hvs, Sm.cp, Sm.cps]) hl0 hl1 hnn) (by omega) (by omega) (g5.kp0 k6) (((kX.trans (k3.sub (by simp))).trans (k5.sub (by simp))).step0 k6)
                · walk_at "go"
                  exact ⟨way, at_, m1, rfl, ⟨w0, w1⟩, hat, gX, ml1, by omega, kX⟩
              · rintro σ X7 ⟨⟨way, at_, m1, rfl, ⟨w0, w1⟩, hat, gX, ml1, mu1, kX⟩⟩
                have DX := gX.dk
                have NX := gX.nms
                have hmM : m1 ≤ MANY := by show m1 ≤ 1000000000; omega
                have hmM1 : m1 + 1 ≤ MANY := by show m1 + 1 ≤ 1000000000; omega
                have nl0 : 0 < (ns.map V.str).length := by rw [List.length_map]; exact NX.l0
                have nl1 : (ns.map V.str).length ≤ 1000000 := by rw [List.length_map]; have := NX.l1; omega
                have nmat := NX.at_
                have nmoff := NX.off
                have hl00 : 0 ≤ l0 - 1 := by omega
                have hlf : _ = some (HO.lst [V.int (l0 - 1), V.int (l1 - times), V.int l2, V.int l3]) := gX.lft
                walk_at "go"
                intro r X4 r0 r1 D4 k4
                have g4 := gX.kpD k4 D4
                have N4 := g4.nms
                have hm4 : m1 + 1 + cE01 3 ≤ 700000000 := by omega
                have d40 : 1 ≤ 1 + r := by omega
                have d41 : 1 + r ≤ ((3 : Nat) : Int) := by omega
                walk_at "go"
                intro v5 e5 X5 m5 t5 x5 de5 ml5 mu5 D5 k5
                have g5 := g4.kpD k5 D5
                walk_at "go"
                intro u6 X6 hu6 e6
                have k6 := new_kp hu6 e6
                exact q (.ref u6) (.tell e5) X6 m5 ⟨l0 - 1, l1 - times, l2, l3⟩ (mk_tup (new_at e6) (trs_cons mk_str (trs_cons (k6.tr t5) trs_nil))) ⟨x5.ok, by omega⟩ (lk_tell x5 (by omega)) (Nat.zero_le _) (used_leaf (by simp [Sm.pl, Sm.pls, Sm.wt, Sm.wts, Sm.hv, Sm.hvs, Sm.cp, Sm.cps]) hl0 hl1 hnn) (by omega) (by omega) (g5.kp0 k6) (((kX.trans (k4.sub (by simp))).trans (k5.sub (by simp))).step0 k6)
end
section
variable {P : Program} {w : World} {K : PySem.W.Frag} {mg : Str → Option Value} {base : Heap}
theorem ok_l_block01 (T : Top K mg) : ∀ n : Nat, FnOk P w K mg base CX0 (3 * n + 7) T.l_block.f T.l_block.fd ["_law_deck_here", "_law_names_here", "_law_depth", "_law_times", "_law_left"] (spBlock01 n)
  | 0 => fn_no (by rintro vs H Q E ⟨a, c, nm, lf, m, depth, times, l0, ns, _, _, _, _, _, h1, _⟩; omega)
  | n + 1 => by
    have G_l_one : FnOk P w K mg base CX0 2 T.l_one.f T.l_one.fd ["_law_deck_here", "_law_items"] (spOne K) := ok_l_one T
    have G_l_statement : FnOk P w K mg base CX0 (3 * n + 9) T.l_statement.f T.l_statement.fd ["_law_deck_here", "_law_names_here", "_law_depth", "_law_times", "_law_left"] (spStmt01 n) := ok_l_statement01 T (by omega) (ok_l_block01 T n)
    refine T.l_block.F.ok sc_l_block (fun vs H Q E h => ?_) (fun cdv A outer s H vs Q E hr h => ?_)
    · obtain ⟨a, c, nm, lf, m, depth, times, l0, ns, rfl, _⟩ := h
      rfl
    obtain ⟨a, c, nm, lf, m, depth, times, l0, ns, rfl, g, hl0, hd0, hdn, _, hm, q⟩ := h
    have cb := cB01_nn n
    have ce : cB01 (n + 1) = 2 + 5 * (400 + 2 * cB01 n) := rfl
    refine ⟨_, (pss_cons (ps_set (i := 5) sc_l_block.nd rfl (.inl rfl) (pe_lstA pa_nil))
      (pss_cons (ps_forA (ps_for PassesOwn.never rfl (pi_range1 (by rfl) T.range (pa_cons (pe_op op_add (pe_call G_l_one (hr.mono (by omega)) (by rfl) T.l_one.g T.l_one.F.kp T.l_one.b .nil pass0 (pa_cons (pv 0) (pa_cons (pe_lstA (pa_cons pe_int (pa_cons pe_int (pa_cons pe_int (pa_cons pe_int (pa_cons pe_int pa_nil)))))) pa_nil))) (pe_callTy (T := "int") call_int1 (by rfl) T.int (by decide +kernel) (pa_cons (pe_cmpR op_eq (pv 2) pe_int (nomark _)) pa_nil))) pa_nil)) (pg_name (i := 6) sc_l_block.nd rfl (.inl rfl)) (pss_one (ps_if (PW.pt (pw_and (pt_cmpR op_gt (pe_ix (ix_listK (K := K) rfl) (pv 4) pe_int (fun _ _ => rfl)) pe_int (nomark _)) (pw_and1 (pt_cmpR op_ge (pe_ix (ix_listK (K := K) rfl) (pv 4) pe_int (fun _ _ => rfl)) (pv 3) (nomark _))))) (pss_one (ps_expr (pe_bmK (K := K) rfl PySem.F.plainAttrs_list PySem.F.slot_list_append PySem.F.type_list_append mt_appendA (pv 5) (pa_cons (pe_call G_l_statement (hr.mono (by omega)) (by rfl) T.l_statement.g T.l_statement.F.kp T.l_statement.b .nil pass0 (pa_cons (pv 0) (pa_cons (pv 1) (pa_cons (pv 2) (pa_cons (pv 3) (pa_cons (pv 4) pa_nil)))))) pa_nil)))) pss_nil))))
      (pss_one (ps_ret (pe_callTy (T := "tuple") (call_tupleK (K := K) rfl) (by rfl) T.tuple (by decide +kernel) (pa_cons (pv 5) pa_nil)))))), ?_⟩
    walk_at "go"
    intro fl H1 hfl e1
    have k1 := new_kp hfl e1
    have f1 := new_at e1
    have g1 := g.kp0 k1
    have D1 := g1.dk
    have offl := g.dk.off hfl
    have nfl : fl ≠ lf := by
      have h := g.lft
      intro z
      rw [z, h] at hfl
      cases hfl
    have nnf : nm ≠ fl := ne_of_none g.nms.at_ hfl
    have ofl : fl ∉ [a, c, lf] := by
      simp only [List.mem_cons, List.not_mem_nil, or_false, not_or] at offl ⊢
      exact ⟨offl.1, offl.2, nfl⟩
    have hmM : m ≤ MANY := by show m ≤ 1000000000; omega
    walk_at "go"
    intro l2 H2 hl2 e2
    have k2 := new_kp hl2 e2
    have a2 := new_at e2
    have D2 := D1.kp0 k2
    have off2 := D1.off hl2
    walk_at "go"
    intro y H3 hy D3 k3
    have hy2 : y ∈ ([1, 2, 2, 3, 4] : List Int).map V.int := hy
    obtain ⟨r, rfl, hr0, hr1⟩ := mem_ints (P := fun i => 0 ≤ i ∧ i ≤ 4) hy2 (by decide)
    have g3 := (g1.kp0 k2).kpD k3 D3
    have f3 := k3.keep _ _ (k2.at f1) offl
    have K3 : Kp [a, c, lf] H H3 := (((Kp.refl (S := [a, c, lf])).step0 k1).step0 k2).trans (k3.sub (by simp))
    have c5 : ∀ i : Nat, i < 5 → (i : Int) * (400 + 2 * cB01 n) + (400 + 2 * cB01 n) = ((i + 1 : Nat) : Int) * (400 + 2 * cB01 n) := fun i _ => by rw [Int.natCast_add, Int.add_mul]; omega
    have m5 : ∀ i : Nat, i ≤ 5 → (i : Int) * (400 + 2 * cB01 n) ≤ 5 * (400 + 2 * cB01 n) := fun i hi => Int.mul_le_mul_of_nonneg_right (by omega) (by omega)
    have m4 : ∀ i : Nat, i < 5 → (i : Int) * (400 + 2 * cB01 n) ≤ 4 * (400 + 2 * cB01 n) := fun i hi => Int.mul_le_mul_of_nonneg_right (by omega) (by omega)
    walk_at "go"
    generalize hz : (if decide (V.int depth = V.int 0) = true then (1 : Int) else 0) = z
    have hz2 : 0 ≤ z ∧ z ≤ 1 := by
      rw [← hz]
      split <;> omega
    clear hz
    obtain ⟨hz0, hz1⟩ := hz2
    refine ⟨for_range (lo := 0) (n := Int.toNat (r + z)) (fun i σ X => Lp (∃ (w6 : Option V) (vs : List V) (b : List Sm) (m1 : Int) (l' : Lf), σ = [some (.ref a), some (.ref nm), some (.int depth), some (.int times), some (.ref lf), some (.ref fl), w6] ∧ X fl = some (.lst vs) ∧ TrAll X (Sm.ds b) vs ∧ vs.length ≤ i ∧ Sm.oks b ∧ Sm.txs b ∧ Sm.nests b ≤ n ∧ UsedB times b l0 l' ∧ m ≤ m1 ∧ m1 ≤ m + 1 + (i : Int) * (400 + 2 * cB01 n) ∧ Gs01 X a c nm lf m1 ns l' ∧ Kp [a, c, lf, fl] H3 X)) ⟨none, [], [], m + 1, l0, rfl, f3, trs_nil, by simp, trivial, trivial, Nat.zero_le _, used_nil hl0, by omega, by omega, g3, Kp.refl⟩ ?_ ?_⟩
    · rintro i σ X hi ⟨w6, vs, b, m1, l', rfl, fX, tX, lv, okb, txb, nb, pb, ml, mu, gX, kx⟩
      have hi5 : i < 5 := by omega
      have ci := c5 i hi5
      have mi := m4 i hi5
      obtain ⟨p', w', h', c'⟩ := l'
      have hlf : X lf = some (.lst [.int p', .int w', .int h', .int c']) := gX.lft
      have hmm : m1 + 400 + 2 * cB01 n ≤ 500000000 := by omega
      walk_at "go"
      refine ite2 (fun hc => ?_) (fun hc => ?_)
      · have hc1 : 0 < p' := of_decide_eq_true hc
        have hdn2 : depth + (n : Int) + 1 = 4 := by omega
        walk_at "go"
        refine ite2 (fun hd => ?_) (fun hd => ?_)
        · have hd1 : times ≤ w' := of_decide_eq_true hd
          have hst : 1 ≤ (⟨p', w', h', c'⟩ : Lf).p ∧ times ≤ (⟨p', w', h', c'⟩ : Lf).w ∧ (⟨p', w', h', c'⟩ : Lf).nn := ⟨by show 1 ≤ p'; omega, hd1, pb.nn⟩
          walk_at "go"
          intro v st Y m2 l2 Tv ov tv nv pv ml2 mu2 gY kY
          have fY := kY.keep _ _ fX ofl
          have zv : vs.length < sizeLine := sz_lt (by omega)
          walk_at "go"
          intro Z fZ kZ
          have oa : a ∉ [fl] ∧ c ∉ [fl] ∧ lf ∉ [fl] ∧ nm ∉ [fl] := by
            have h2 : nm ≠ fl := nnf
            simp only [List.mem_cons, List.not_mem_nil, or_false, not_or] at ofl ⊢
            exact ⟨fun z => ofl.1 z.symm, fun z => ofl.2.1 z.symm, fun z => ofl.2.2 z.symm, h2⟩
          have gZ : Gs01 Z a c nm lf m2 ns l2 := by
            exact ⟨gY.dk.kp kZ oa.1 oa.2.1, ⟨kZ.keep _ _ gY.nms.at_ oa.2.2.2, gY.nms.off, gY.nms.ok, gY.nms.l0, gY.nms.l1⟩, kZ.keep _ _ gY.lft oa.2.2.1, gY.off⟩
          have kk : Kp [a, c, lf, fl] X Z := (kY.sub (by simp)).trans (kZ.sub (by simp))
          refine ⟨_, _, b ++ [st], m2, l2, rfl, fZ, ?_, by rw [List.length_append, List.length_singleton]; omega, oks_app01 okb ⟨ov, trivial⟩, txs_app txb ⟨tv, trivial⟩, by rw [nests_app01]; simp only [Sm.nests]; omega, used_snoc pb pv, by omega, by omega, gZ, kx.trans kk⟩
          rw [Sm.ds_map, List.map_append]
          have := (kk.trAll tX).append (trs_cons (kZ.tr Tv) trs_nil)
          rw [Sm.ds_map] at this
          exact this
        · walk_at "go"
          exact ⟨_, vs, b, m1, _, rfl, fX, tX, by omega, okb, txb, nb, pb, ml, by omega, gX, kx⟩
      · walk_at "go"
        exact ⟨_, vs, b, m1, _, rfl, fX, tX, by omega, okb, txb, nb, pb, ml, by omega, gX, kx⟩
    · rintro σ X ⟨w6, vs, b, m1, l', rfl, fX, tX, lv, okb, txb, nb, pb, ml, mu, gX, kx⟩
      have mi := m5 (Int.toNat (r + z)) (by omega)
      have z1 : vs.length ≤ sizeLine := Nat.le_of_lt (sz_lt (by omega))
      walk_at "go"
      intro t X2 ht ft k2'
      have KX : Kp [a, c, lf] H X := K3.step kx fun z hz => by
        simp only [List.mem_cons, List.not_mem_nil, or_false] at hz
        rcases hz with rfl | rfl | rfl | rfl
        · exact .inl (by simp)
        · exact .inl (by simp)
        · exact .inl (by simp)
        · exact .inr hfl
      exact q (.ref t) b X2 m1 l' (mk_tup ft (k2'.trAll tX)) okb txb (by omega) pb (by omega) (by omega) (gX.kp0 k2') (KX.step0 k2')
end
section
variable {P : Program} {w : World} {K : PySem.W.Frag} {mg : Str → Option Value} {base : Heap}
theorem s300 : 300000 ≤ sizeLine := by decide
theorem ok_expression_text (T : Top K mg) (DS : SgOk K w T.SIGNS_texts) : ∀ n : Nat, FnOk P w K mg base CX0 n T.expression_text.f T.expression_text.fd ["expression"] (spETxt n)
  | 0 => fn_no (fun vs H Q E ⟨v, e, _, _, _, h, _⟩ => by cases e <;> simp [Ex.deep] at h)
  | n + 1 => by
    have G_expression_text : FnOk P w K mg base CX0 n T.expression_text.f T.expression_text.fd ["expression"] (spETxt n) := ok_expression_text T DS n
    obtain ⟨d1, d2, d3⟩ := DS
    refine T.expression_text.F.ok sc_expression_text (fun vs H Q E h => ?_) (fun cdv A outer s H vs Q E hr h => ?_)
    · obtain ⟨v, e, rfl, _⟩ := h
      rfl
    obtain ⟨v, e, rfl, hT, ok, hd, h8, q⟩ := h
    have hu := hu_of hr
    refine ⟨_, (pss_cons (ps_if (pt_not (pt_val (pe_callB (id := "isinstance") (call_isiK (K := K) rfl) (by rfl) T.isinstance (by decide +kernel) (pa_cons (pv 0) (pa_cons (pe_bltn (v := .ty "tuple") (u := .type "tuple") (by rfl) T.tuple (by decide +kernel) rfl) pa_nil))))) (pss_one (ps_ret (pe_callTy (T := "str") cr_strAny (by rfl) T.str (by decide +kernel) (pa_cons (pv 0) pa_nil)))) pss_nil)
      (pss_cons (ps_asg (pv 0) (pg_tup (by rfl) (pgs_cons (pg_name (i := 1) sc_expression_text.nd rfl (.inl rfl)) (pgs_cons (pg_name (i := 2) sc_expression_text.nd rfl (.inl rfl)) (pgs_cons (pg_name (i := 3) sc_expression_text.nd rfl (.inl rfl)) pgs_nil)))))
      (pss_one (ps_ret (pe_op op_add_str (pe_op op_add_str (pe_op op_add_str (pe_op op_add_str pe_str (pe_call G_expression_text (hr.mono (by omega)) (by rfl) T.expression_text.g T.expression_text.F.kp T.expression_text.b .nil pass0 (pa_cons (pv 2) pa_nil))) (pe_ix ix_kdict (pe_glob (v := .ref T.SIGNS_texts) (by rfl) T.g_SIGNS_texts rfl) (pv 1) (fun _ _ => rfl))) (pe_call G_expression_text (hr.mono (by omega)) (by rfl) T.expression_text.g T.expression_text.F.kp T.expression_text.b .nil pass0 (pa_cons (pv 3) pa_nil))) pe_str))))), ?_⟩
    have len := Ex.txt_le ok h8
    cases e with
    | num i =>
      cases tr_int hT
      have lg := log_small (i := i) (by have := ok.1; have := ok.2; omega)
      walk_at "go"
      exact q
    | var x =>
      cases tr_str hT
      walk_at "go"
      exact q
    | plus a b =>
      obtain ⟨u, z1, z2, z3, rfl, hu2, tz1, tz2, tz3⟩ := tr_tup3 hT
      cases tr_str tz1
      obtain ⟨oa, ob⟩ := ok
      obtain ⟨da, db, ea, eb⟩ : a.deep ≤ n ∧ b.deep ≤ n ∧ a.deep ≤ 8 ∧ b.deep ≤ 8 := by simp only [Ex.deep] at hd h8; omega
      simp only [Ex.txt, Str.length_append] at len
      have y1 : ("(" : Str).length + a.txt.length ≤ sizeLine := Nat.le_trans (by omega) s300
      have y2 : ("(" ++ a.txt : Str).length + (" + " : Str).length ≤ sizeLine := Nat.le_trans (by simp only [Str.length_append]; omega) s300
      have y3 : ("(" ++ a.txt ++ " + " : Str).length + b.txt.length ≤ sizeLine := Nat.le_trans (by simp only [Str.length_append]; omega) s300
      have y4 : ("(" ++ a.txt ++ " + " ++ b.txt : Str).length + (")" : Str).length ≤ sizeLine := Nat.le_trans (by simp only [Str.length_append]; omega) s300
      have sq : SqT K H u [.str "plus", z2, z3] := SqT.of hu2
      walk_at "go"
      exact q
    | minus a b =>
      obtain ⟨u, z1, z2, z3, rfl, hu2, tz1, tz2, tz3⟩ := tr_tup3 hT
      cases tr_str tz1
      obtain ⟨oa, ob⟩ := ok
      obtain ⟨da, db, ea, eb⟩ : a.deep ≤ n ∧ b.deep ≤ n ∧ a.deep ≤ 8 ∧ b.deep ≤ 8 := by simp only [Ex.deep] at hd h8; omega
      simp only [Ex.txt, Str.length_append] at len
      have y1 : ("(" : Str).length + a.txt.length ≤ sizeLine := Nat.le_trans (by omega) s300
      have y2 : ("(" ++ a.txt : Str).length + (" - " : Str).length ≤ sizeLine := Nat.le_trans (by simp only [Str.length_append]; omega) s300
      have y3 : ("(" ++ a.txt ++ " - " : Str).length + b.txt.length ≤ sizeLine := Nat.le_trans (by simp only [Str.length_append]; omega) s300
      have y4 : ("(" ++ a.txt ++ " - " ++ b.txt : Str).length + (")" : Str).length ≤ sizeLine := Nat.le_trans (by simp only [Str.length_append]; omega) s300
      have sq : SqT K H u [.str "minus", z2, z3] := SqT.of hu2
      walk_at "go"
      exact q
    | times k a =>
      obtain ⟨u, z1, z2, z3, rfl, hu2, tz1, tz2, tz3⟩ := tr_tup3 hT
      cases tr_str tz1
      obtain ⟨ok1, ok2, oa⟩ := ok
      have tk : Tr H (Ex.num k).d z2 := tz2
      have okk : (Ex.num k).ok := ⟨by omega, by omega⟩
      obtain ⟨da, ea⟩ : a.deep ≤ n ∧ a.deep ≤ 8 := by simp only [Ex.deep] at hd h8; omega
      have dk : (Ex.num k).deep ≤ n := by
        have : 1 ≤ a.deep := by cases a <;> simp [Ex.deep]
        simp only [Ex.deep]
        omega
      have dk8 : (Ex.num k).deep ≤ 8 := by simp only [Ex.deep]; decide
      simp only [Ex.txt, Str.length_append] at len
      have y1 : ("(" : Str).length + (Ex.num k).txt.length ≤ sizeLine := Nat.le_trans (by simp only [Ex.txt]; omega) s300
      have y2 : ("(" ++ (Ex.num k).txt : Str).length + (" * " : Str).length ≤ sizeLine := Nat.le_trans (by simp only [Ex.txt, Str.length_append]; omega) s300
      have y3 : ("(" ++ (Ex.num k).txt ++ " * " : Str).length + a.txt.length ≤ sizeLine := Nat.le_trans (by simp only [Ex.txt, Str.length_append]; omega) s300
      have y4 : ("(" ++ (Ex.num k).txt ++ " * " ++ a.txt : Str).length + (")" : Str).length ≤ sizeLine := Nat.le_trans (by simp only [Ex.txt, Str.length_append]; omega) s300
      have sq : SqT K H u [.str "times", z2, z3] := SqT.of hu2
      walk_at "go"
      exact q
end
section
variable {P : Program} {w : World} {K : PySem.W.Frag} {mg : Str → Option Value} {base : Heap}
theorem ok_test_text (T : Top K mg) (DS : SgOk K w T.SIGNS_texts) : ∀ n : Nat, FnOk P w K mg base CX0 (n + 9) T.test_text.f T.test_text.fd ["test"] (spTTxt n)
  | n => by
    have G_expression_text : FnOk P w K mg base CX0 8 T.expression_text.f T.expression_text.fd ["expression"] (spETxt 8) := ok_expression_text T DS 8
    have G_test_text : FnOk P w K mg base CX0 (n + 8) T.test_text.f T.test_text.fd ["test"] (fun vs H Q E => ∃ n', n = n' + 1 ∧ spTTxt n' vs H Q E) := by
      cases n with
      | zero => exact fn_no (fun _ _ _ _ ⟨_, e, _⟩ => nomatch e)
      | succ m => exact (ok_test_text T DS m).imp fun _ _ _ _ ⟨N', e, h⟩ => (Nat.succ.inj e) ▸ h
    refine T.test_text.F.ok sc_test_text (fun vs H Q E h => ?_) (fun cdv A outer s H vs Q E hr h => ?_)
    · obtain ⟨v, t, rfl, _⟩ := h
      rfl
    obtain ⟨v, t, rfl, hT, ok, hn, h8, q⟩ := h
    have hu := hu_of hr
    have len := Ts.txt_len ok
    refine ⟨_, (pss_cons (ps_if (pt_cmpR op_eq (pe_ix (ix_tupK (K := K) rfl) (pv 0) pe_int (fun _ _ => rfl)) pe_str (nomark _)) (pss_one (ps_ret (pe_op op_add_str pe_str (pe_call G_test_text (hr.mono (by omega)) (by rfl) T.test_text.g T.test_text.F.kp T.test_text.b .nil pass0 (pa_cons (pe_ix (ix_tupK (K := K) rfl) (pv 0) pe_int (fun _ _ => rfl)) pa_nil))))) pss_nil)
      (pss_cons (ps_if (pt_cmpR op_eq (pe_ix (ix_tupK (K := K) rfl) (pv 0) pe_int (fun _ _ => rfl)) pe_str (nomark _)) (pss_one (ps_ret (pe_op op_add_str pe_str (pe_call G_expression_text (hr.mono (by omega)) (by rfl) T.expression_text.g T.expression_text.F.kp T.expression_text.b .nil pass0 (pa_cons (pe_ix (ix_tupK (K := K) rfl) (pv 0) pe_int (fun _ _ => rfl)) pa_nil))))) pss_nil)
      (pss_one (ps_ret (pe_op op_add_str (pe_op op_add_str (pe_call G_expression_text (hr.mono (by omega)) (by rfl) T.expression_text.g T.expression_text.F.kp T.expression_text.b .nil pass0 (pa_cons (pe_ix (ix_tupK (K := K) rfl) (pv 0) pe_int (fun _ _ => rfl)) pa_nil)) pe_str) (pe_call G_expression_text (hr.mono (by omega)) (by rfl) T.expression_text.g T.expression_text.F.kp T.expression_text.b .nil pass0 (pa_cons (pe_ix (ix_tupK (K := K) rfl) (pv 0) pe_int (fun _ _ => rfl)) pa_nil))))))), ?_⟩
    cases t with
    | not t =>
      obtain ⟨u, z1, z2, rfl, hu2, tz1, tz2⟩ := tr_tup2 hT
      cases tr_str tz1
      simp only [Ts.nots] at hn h8 len
      obtain ⟨n', rfl⟩ : ∃ n', n = n' + 1 := ⟨n - 1, by omega⟩
      have okt : t.ok := ok
      have hn' : t.nots ≤ n' := by omega
      have h8' : t.nots ≤ 1000 := by omega
      simp only [Ts.txt, Str.length_append] at len
      have y1 : ("not " : Str).length + t.txt.length ≤ sizeLine := Nat.le_trans (by omega) s300
      walk_at "go"
      exact q
    | odd a =>
      obtain ⟨u, z1, z2, rfl, hu2, tz1, tz2⟩ := tr_tup2 hT
      cases tr_str tz1
      obtain ⟨oa, da⟩ := ok
      have da8 : a.deep ≤ 8 := by omega
      simp only [Ts.txt, Str.length_append] at len
      have y1 : ("odd " : Str).length + a.txt.length ≤ sizeLine := Nat.le_trans (by omega) s300
      walk_at "go"
      exact q
    | less a b =>
      obtain ⟨u, z1, z2, z3, rfl, hu2, tz1, tz2, tz3⟩ := tr_tup3 hT
      cases tr_str tz1
      obtain ⟨⟨oa, da⟩, ob, db⟩ := ok
      have da8 : a.deep ≤ 8 := by omega
      have db8 : b.deep ≤ 8 := by omega
      simp only [Ts.txt, Str.length_append] at len
      have y1 : a.txt.length + (" < " : Str).length ≤ sizeLine := Nat.le_trans (by omega) s300
      have y2 : (a.txt ++ " < " : Str).length + b.txt.length ≤ sizeLine := Nat.le_trans (by simp only [Str.length_append]; omega) s300
      walk_at "go"
      exact q
end
section
variable {P : Program} {w : World} {K : PySem.W.Frag} {mg : Str → Option Value} {base : Heap}
theorem ok_line_text (T : Top K mg) (DS : SgOk K w T.SIGNS_texts) : FnOk P w K mg base CX0 12 T.line_text.f T.line_text.fd ["statement"] spLine := by
  have G_expression_text : FnOk P w K mg base CX0 8 T.expression_text.f T.expression_text.fd ["expression"] (spETxt 8) := ok_expression_text T DS 8
  have G_test_text : FnOk P w K mg base CX0 11 T.test_text.f T.test_text.fd ["test"] (spTTxt 2) := ok_test_text T DS 2
  refine T.line_text.F.ok sc_line_text (fun vs H Q E h => ?_) (fun cdv A outer s H vs Q E hr h => ?_)
  · obtain ⟨v, s, rfl, _⟩ := h
    rfl
  obtain ⟨v, st, rfl, hT, ok, q⟩ := h
  have hu := hu_of hr
  have len := Sm.line_len ok
  refine ⟨_, (pss_cons (ps_set (i := 1) sc_line_text.nd rfl (.inl rfl) (pe_ix (ix_tupK (K := K) rfl) (pv 0) pe_int (fun _ _ => rfl)))
      (pss_cons (ps_if (pt_cmpR op_eq (pv 1) pe_str (nomark _)) (pss_one (ps_ret (pe_op op_add_str (pe_op op_add_str (pe_ix (ix_tupK (K := K) rfl) (pv 0) pe_int (fun _ _ => rfl)) pe_str) (pe_call G_expression_text (hr.mono (by omega)) (by rfl) T.expression_text.g T.expression_text.F.kp T.expression_text.b .nil pass0 (pa_cons (pe_ix (ix_tupK (K := K) rfl) (pv 0) pe_int (fun _ _ => rfl)) pa_nil))))) pss_nil)
      (pss_cons (ps_if (pt_cmpR op_eq (pv 1) pe_str (nomark _)) (pss_one (ps_ret (pe_op op_add_str (pe_op op_add_str (pe_ix (ix_tupK (K := K) rfl) (pv 0) pe_int (fun _ _ => rfl)) pe_str) (pe_call G_expression_text (hr.mono (by omega)) (by rfl) T.expression_text.g T.expression_text.F.kp T.expression_text.b .nil pass0 (pa_cons (pe_ix (ix_tupK (K := K) rfl) (pv 0) pe_int (fun _ _ => rfl)) pa_nil))))) pss_nil)
      (pss_cons (ps_if (pt_cmpR op_eq (pv 1) pe_str (nomark _)) (pss_one (ps_ret (pe_op op_add_str pe_str (pe_call G_expression_text (hr.mono (by omega)) (by rfl) T.expression_text.g T.expression_text.F.kp T.expression_text.b .nil pass0 (pa_cons (pe_ix (ix_tupK (K := K) rfl) (pv 0) pe_int (fun _ _ => rfl)) pa_nil))))) pss_nil)
      (pss_cons (ps_if (pt_cmpR op_eq (pv 1) pe_str (nomark _)) (pss_one (ps_ret (pe_op op_add_str pe_str (pe_call G_test_text (hr.mono (by omega)) (by rfl) T.test_text.g T.test_text.F.kp T.test_text.b .nil pass0 (pa_cons (pe_ix (ix_tupK (K := K) rfl) (pv 0) pe_int (fun _ _ => rfl)) pa_nil))))) pss_nil)
      (pss_one (ps_ret (pe_op op_add_str (pe_op op_add_str (pv 1) pe_str) (pe_callTy (T := "str") cr_strAny (by rfl) T.str (by decide +kernel) (pa_cons (pe_ix (ix_tupK (K := K) rfl) (pv 0) pe_int (fun _ _ => rfl)) pa_nil)))))))))), ?_⟩
  cases st with
  | set x e =>
    obtain ⟨u, z1, z2, z3, rfl, hu2, tz1, tz2, tz3⟩ := tr_tup3 hT
    cases tr_str tz1
    cases tr_str tz2
    obtain ⟨⟨oa, da⟩, nx⟩ := ok
    have da8 : e.deep ≤ 8 := by omega
    simp only [Sm.line, Str.length_append] at len
    have y1 : x.length + (" = " : Str).length ≤ sizeLine := Nat.le_trans (by omega) s300
    have y2 : (x ++ " = " : Str).length + e.txt.length ≤ sizeLine := Nat.le_trans (by simp only [Str.length_append]; omega) s300
    walk_at "go"
    exact q
  | half x e =>
    obtain ⟨u, z1, z2, z3, rfl, hu2, tz1, tz2, tz3⟩ := tr_tup3 hT
    cases tr_str tz1
    cases tr_str tz2
    obtain ⟨⟨oa, da⟩, nx⟩ := ok
    have da8 : e.deep ≤ 8 := by omega
    simp only [Sm.line, Str.length_append] at len
    have y1 : x.length + (" = half " : Str).length ≤ sizeLine := Nat.le_trans (by omega) s300
    have y2 : (x ++ " = half " : Str).length + e.txt.length ≤ sizeLine := Nat.le_trans (by simp only [Str.length_append]; omega) s300
    walk_at "go"
    exact q
  | tell e =>
    obtain ⟨u, z1, z2, rfl, hu2, tz1, tz2⟩ := tr_tup2 hT
    cases tr_str tz1
    obtain ⟨oa, da⟩ := ok
    have da8 : e.deep ≤ 8 := by omega
    simp only [Sm.line, Str.length_append] at len
    have y1 : ("tell " : Str).length + e.txt.length ≤ sizeLine := Nat.le_trans (by omega) s300
    walk_at "go"
    exact q
  | say c =>
    obtain ⟨u, z1, z2, rfl, hu2, tz1, tz2⟩ := tr_tup2 hT
    cases tr_str tz1
    cases tr_str tz2
    simp only [Sm.line, Str.length_append] at len
    have y1 : ("say" : Str).length + (" " : Str).length ≤ sizeLine := Nat.le_trans (by omega) s300
    have y2 : ("say" ++ " " : Str).length + c.length ≤ sizeLine := Nat.le_trans (by simp only [Str.length_append]; omega) s300
    walk_at "go"
    exact q
  | stop c =>
    obtain ⟨u, z1, z2, rfl, hu2, tz1, tz2⟩ := tr_tup2 hT
    cases tr_str tz1
    cases tr_str tz2
    simp only [Sm.line, Str.length_append] at len
    have y1 : ("stop" : Str).length + (" " : Str).length ≤ sizeLine := Nat.le_trans (by omega) s300
    have y2 : ("stop" ++ " " : Str).length + c.length ≤ sizeLine := Nat.le_trans (by simp only [Str.length_append]; omega) s300
    walk_at "go"
    exact q
  | ite t y n =>
    obtain ⟨u, z1, z2, z3, z4, rfl, hu2, tz1, tz2, tz3, tz4⟩ := tr_tup4 hT
    cases tr_str tz1
    obtain ⟨ot, nt, oy, on⟩ := ok
    have nt8 : t.nots ≤ 1000 := by omega
    simp only [Sm.line, Str.length_append] at len
    have y1 : ("if " : Str).length + t.txt.length ≤ sizeLine := Nat.le_trans (by omega) s300
    walk_at "go"
    exact q
  | rep k b =>
    obtain ⟨u, z1, z2, z3, rfl, hu2, tz1, tz2, tz3⟩ := tr_tup3 hT
    cases tr_str tz1
    cases tr_int tz2
    have lg := log_small (i := (k : Int)) (by have := ok.1; omega)
    simp only [Sm.line, Str.length_append] at len
    have y1 : ("repeat" : Str).length + (" " : Str).length ≤ sizeLine := Nat.le_trans (by omega) s300
    have y2 : ("repeat" ++ " " : Str).length + (iTxt (k : Int)).length ≤ sizeLine := Nat.le_trans (by simp only [Str.length_append]; omega) s300
    walk_at "go"
    exact q
end
section
variable {P : Program} {w : World} {K : PySem.W.Frag} {mg : Str → Option Value} {base : Heap}
theorem ok_part_lines (T : Top K mg) {N k : Nat} (G_block_lines : FnOk P w K mg base CX0 k T.block_lines.f T.block_lines.fd ["block", "ahead"] (spLns N)) : FnOk P w K mg base CX0 (k + 1) T.part_lines.f T.part_lines.fd ["block", "ahead"] (spPartL N) := by
  refine T.part_lines.F.ok sc_part_lines (fun vs H Q E h => ?_) (fun cdv A outer s H vs Q E hr h => ?_)
  · obtain ⟨v, a, b, rfl, _⟩ := h
    rfl
  obtain ⟨v, a, b, rfl, hT, ok, nb, pb, la, q⟩ := h
  have hu := hu_of hr
  refine ⟨_, (pss_one (ps_ret (pe_ifExp (pt_cmpR (op_neNilT hu) (pv 0) (pe_tupA pa_nil) (nomark _)) (pe_call G_block_lines (hr.mono (by omega)) (by rfl) T.block_lines.g T.block_lines.F.kp T.block_lines.b .nil pass0 (pa_cons (pv 0) (pa_cons (pv 1) pa_nil))) (pe_lstA (pa_cons (pe_op op_add_str (pv 1) pe_str) pa_nil))))), ?_⟩
  have hT0 := hT
  obtain ⟨ta, vs, rfl, hta, tvs⟩ := tr_tup hT
  rw [Sm.ds_map] at tvs
  have lv : vs.length = b.length := by rw [tvs.length, List.length_map]
  have y1 : a.length + ("pass" : Str).length ≤ sizeLine := Nat.le_trans (by have : ("pass" : Str).length = 4 := by decide +kernel
                                                                            omega) s300
  walk_at "go"
  intro p H1 hp e1
  have k1 := new_kp hp e1
  have hta1 := k1.tup _ _ hta
  have a1 := new_at e1
  have hT1 := k1.tr hT0
  walk_at "go"
  refine ite2 (fun hc => ?_) (fun hc => ?_)
  · have nb0 : b ≠ [] := fun z => by
      rw [z] at lv
      rw [List.length_eq_zero_iff.mp lv] at hc
      cases hc
    have e : partL a b = Sm.lnss a b := if_neg nb0
    rw [e] at q
    walk_at "go"
    intro l H2 hl fl k2
    exact q l H2 (k1.free hl (by simp)) fl (k1.trans k2)
  · have nb0 : b = [] := by
      cases vs with
      | nil => exact List.length_eq_zero_iff.mp lv.symm
      | cons x r => exact absurd rfl hc
    have e : partL a b = [a ++ "pass"] := if_pos nb0
    rw [e] at q
    walk_at "go"
    intro l H2 hl e2
    exact q l H2 (k1.free hl (by simp)) (new_at e2) (k1.trans (new_kp hl e2))
theorem ok_block_lines (T : Top K mg) (DS : SgOk K w T.SIGNS_texts) : ∀ N : Nat, FnOk P w K mg base CX0 (2 * N + 14) T.block_lines.f T.block_lines.fd ["block", "ahead"] (spLns N)
  | N => by
    have G_line_text : FnOk P w K mg base CX0 12 T.line_text.f T.line_text.fd ["statement"] spLine := ok_line_text T DS
    have G_block_lines : FnOk P w K mg base CX0 (2 * N + 12) T.block_lines.f T.block_lines.fd ["block", "ahead"] (sp0L spLns N) := by
      cases N with
      | zero => exact fn_no (fun _ _ _ _ ⟨_, e, _⟩ => nomatch e)
      | succ m => exact (ok_block_lines T DS m).imp fun _ _ _ _ ⟨N', e, h⟩ => (Nat.succ.inj e) ▸ h
    have G_part_lines : FnOk P w K mg base CX0 (2 * N + 13) T.part_lines.f T.part_lines.fd ["block", "ahead"] (sp0L spPartL N) := by
      cases N with
      | zero => exact fn_no (fun _ _ _ _ ⟨_, e, _⟩ => nomatch e)
      | succ m => exact (ok_part_lines T (ok_block_lines T DS m)).imp fun _ _ _ _ ⟨N', e, h⟩ => (Nat.succ.inj e) ▸ h
    refine T.block_lines.F.ok sc_block_lines (fun vs H Q E h => ?_) (fun cdv A outer s H vs Q E hr h => ?_)
    · obtain ⟨v, a, b, rfl, _⟩ := h
      rfl
    obtain ⟨v, a, b, rfl, hT, ok, nb, pb, la, q⟩ := h
    have hu := hu_of hr
    refine ⟨_, (pss_cons (ps_set (i := 2) sc_block_lines.nd rfl (.inl rfl) (pe_lstA pa_nil))
      (pss_cons (ps_forA (ps_for PassesOwn.never rfl (pi_tupK (K := K) rfl (pv 0)) (pg_name (i := 3) sc_block_lines.nd rfl (.inl rfl)) (pss_cons (ps_expr (pe_bmK (K := K) rfl PySem.F.plainAttrs_list PySem.F.slot_list_append PySem.F.type_list_append mt_appendA (pv 2) (pa_cons (pe_op op_add_str (pv 1) (pe_call G_line_text (hr.mono (by omega)) (by rfl) T.line_text.g T.line_text.F.kp T.line_text.b .nil pass0 (pa_cons (pv 3) pa_nil))) pa_nil)))
      (pss_cons (ps_if (pt_cmpR (op_in_seqK (K := K) rfl) (pe_ix (ix_tupK (K := K) rfl) (pv 3) pe_int (fun _ _ => rfl)) (pe_tupA (pa_cons pe_str (pa_cons pe_str pa_nil))) (by rfl)) (pss_one (ps_expr (pe_bmK (K := K) rfl PySem.F.plainAttrs_list PySem.F.slot_list_extend PySem.F.type_list_extend mt_extendA (pv 2) (pa_cons (pe_call G_part_lines (hr.mono (by omega)) (by rfl) T.part_lines.g T.part_lines.F.kp T.part_lines.b .nil pass0 (pa_cons (pe_ix (ix_tupK (K := K) rfl) (pv 3) pe_int (fun _ _ => rfl)) (pa_cons (pe_op op_add_str (pv 1) (pe_glob (v := .str "  ") (by rfl) T.g_STEP ⟨_, rfl⟩)) pa_nil))) pa_nil)))) pss_nil)
      (pss_one (ps_if (PW.pt (pw_and (pt_cmpR op_eq (pe_ix (ix_tupK (K := K) rfl) (pv 3) pe_int (fun _ _ => rfl)) pe_str (nomark _)) (pw_and1 (pt_cmpR (op_neNilT hu) (pe_ix (ix_tupK (K := K) rfl) (pv 3) pe_int (fun _ _ => rfl)) (pe_tupA pa_nil) (nomark _))))) (pss_cons (ps_expr (pe_bmK (K := K) rfl PySem.F.plainAttrs_list PySem.F.slot_list_append PySem.F.type_list_append mt_appendA (pv 2) (pa_cons (pe_op op_add_str (pv 1) pe_str) pa_nil)))
      (pss_one (ps_expr (pe_bmK (K := K) rfl PySem.F.plainAttrs_list PySem.F.slot_list_extend PySem.F.type_list_extend mt_extendA (pv 2) (pa_cons (pe_call G_block_lines (hr.mono (by omega)) (by rfl) T.block_lines.g T.block_lines.F.kp T.block_lines.b .nil pass0 (pa_cons (pe_ix (ix_tupK (K := K) rfl) (pv 3) pe_int (fun _ _ => rfl)) (pa_cons (pe_op op_add_str (pv 1) (pe_glob (v := .str "  ") (by rfl) T.g_STEP ⟨_, rfl⟩)) pa_nil))) pa_nil))))) pss_nil))))))
      (pss_one (ps_ret (pv 2))))), ?_⟩
    obtain ⟨ta, vs, rfl, hta, tvs⟩ := tr_tup hT
    rw [Sm.ds_map] at tvs
    have lv : vs.length = b.length := by rw [tvs.length, List.length_map]
    have lb : b.length ≤ 1000 := Nat.le_trans (Sm.len_pls b) pb
    walk_at "go"
    intro fl H1 hfl e1
    have k1 := new_kp hfl e1
    have hta1 := k1.tup _ _ hta
    have sq1 : SqT K H1 ta vs := SqT.of hta1
    walk_at "go"
    refine ⟨for_tup (K := K) (a := ta) (xs := vs) (fun i σ X => Lp (∃ (w3 : Option V), σ = [some (.ref ta), some (.str a), some (.ref fl), w3] ∧ X fl = some (.lst ((Sm.lnss a (b.take i)).map V.str)) ∧ Kp [fl] H1 X)) ⟨none, rfl, new_at e1, Kp.refl⟩ (fun i σ X _ x => ?_) ?_ ?_⟩
    · obtain ⟨⟨w3, _, _, kx⟩⟩ := x
      exact SqT.of (kx.tup _ _ hta1)
    · rintro i x σ X hx ⟨⟨w3, rfl, f3, kx⟩⟩
      have kx0 : Kp [] H X := k1.step1 kx (.inr hfl)
      have hi : i < b.length := by
        obtain ⟨h, _⟩ := List.getElem?_eq_some_iff.mp hx
        omega
      have hb : b[i]? = some b[i] := List.getElem?_eq_getElem hi
      have hmem : b[i] ∈ b := List.getElem_mem hi
      obtain ⟨x', hx', tx⟩ := tvs.get (i := i) (d := (b[i]).d) (by rw [List.getElem?_map, hb]; rfl)
      rw [hx] at hx'
      cases hx'
      have oks := Sm.oks_mem ok hmem
      generalize b[i] = st at hb hmem tx oks
      have tx3 := kx0.tr tx
      have nst := Sm.nest_mem hmem
      have pst := Sm.pl_mem hmem
      have ll := Sm.line_len oks
      have y1 : a.length + st.line.length ≤ sizeLine := Nat.le_trans (by omega) s300
      have etk : Sm.lnss a (b.take (i + 1)) = Sm.lnss a (b.take i) ++ Sm.lns a st := by
        rw [List.take_add_one, hb, lnss_app]
        show _ ++ Sm.lnss a [st] = _
        rw [lnss_one]
      have lfs : (Sm.lnss a (b.take i)).length ≤ 3000 := by
        have h1 := Sm.lnss_len a (b.take i)
        have h2 := Sm.pls_take b i
        omega
      generalize Sm.lnss a (b.take i) = fs at f3 etk lfs
      have z1 : (fs.map V.str).length < sizeLine := sz_lt (by rw [List.length_map]; omega)
      have fin : ∀ (more : List Str) (w3 : Option V), Sm.lns a st = (a ++ st.line) :: more → ∀ Y : Hp, Y fl = some (.lst (fs.map V.str ++ [V.str (a ++ st.line)] ++ more.map V.str)) → Kp [fl] X Y → Y fl = some (.lst ((Sm.lnss a (b.take (i + 1))).map V.str)) ∧ Kp [fl] H1 Y := fun more w3 e Y h k => by
        refine ⟨?_, kx.trans k⟩
        rw [etk, e, h, List.map_append, List.map_cons, List.append_assoc]
        rfl
      cases st with
      | set x e =>
        obtain ⟨u, z1, z2, z3, rfl, hu2, tz1, tz2, tz3⟩ := tr_tup3 tx3
        cases tr_str tz1
        walk_at "go"
        intro X4 f4 k4
        have hu4 := k4.tup _ _ hu2
        walk_at "go"
        intro u5 X5 hu5 e5
        have k5 := new_kp hu5 e5
        have hu6 := k5.tup _ _ hu4
        refine ⟨u5, _, rfl, .inr (SqT.of (new_at e5)), rfl, rfl, _, rfl, ?_⟩
        refine iteF ?_
        walk_at "go"
        have ff := fin [] none (by simp only [Sm.lns]) X5 (by rw [k5.at f4, List.map_nil, List.append_nil]) (k4.step0 k5)
        exact ⟨_, rfl, ff.1, ff.2⟩
      | half x e =>
        obtain ⟨u, z1, z2, z3, rfl, hu2, tz1, tz2, tz3⟩ := tr_tup3 tx3
        cases tr_str tz1
        walk_at "go"
        intro X4 f4 k4
        have hu4 := k4.tup _ _ hu2
        walk_at "go"
        intro u5 X5 hu5 e5
        have k5 := new_kp hu5 e5
        have hu6 := k5.tup _ _ hu4
        refine ⟨u5, _, rfl, .inr (SqT.of (new_at e5)), rfl, rfl, _, rfl, ?_⟩
        refine iteF ?_
        walk_at "go"
        have ff := fin [] none (by simp only [Sm.lns]) X5 (by rw [k5.at f4, List.map_nil, List.append_nil]) (k4.step0 k5)
        exact ⟨_, rfl, ff.1, ff.2⟩
      | tell e =>
        obtain ⟨u, z1, z2, rfl, hu2, tz1, tz2⟩ := tr_tup2 tx3
        cases tr_str tz1
        walk_at "go"
        intro X4 f4 k4
        have hu4 := k4.tup _ _ hu2
        walk_at "go"
        intro u5 X5 hu5 e5
        have k5 := new_kp hu5 e5
        have hu6 := k5.tup _ _ hu4
        refine ⟨u5, _, rfl, .inr (SqT.of (new_at e5)), rfl, rfl, _, rfl, ?_⟩
        refine iteF ?_
        walk_at "go"
        have ff := fin [] none (by simp only [Sm.lns]) X5 (by rw [k5.at f4, List.map_nil, List.append_nil]) (k4.step0 k5)
        exact ⟨_, rfl, ff.1, ff.2⟩
      | say c =>
        obtain ⟨u, z1, z2, rfl, hu2, tz1, tz2⟩ := tr_tup2 tx3
        cases tr_str tz1
        walk_at "go"
        intro X4 f4 k4
        have hu4 := k4.tup _ _ hu2
        walk_at "go"
        intro u5 X5 hu5 e5
        have k5 := new_kp hu5 e5
        have hu6 := k5.tup _ _ hu4
        refine ⟨u5, _, rfl, .inr (SqT.of (new_at e5)), rfl, rfl, _, rfl, ?_⟩
        refine iteF ?_
        walk_at "go"
        have ff := fin [] none (by simp only [Sm.lns]) X5 (by rw [k5.at f4, List.map_nil, List.append_nil]) (k4.step0 k5)
        exact ⟨_, rfl, ff.1, ff.2⟩
      | stop c =>
        obtain ⟨u, z1, z2, rfl, hu2, tz1, tz2⟩ := tr_tup2 tx3
        cases tr_str tz1
        walk_at "go"
        intro X4 f4 k4
        have hu4 := k4.tup _ _ hu2
        walk_at "go"
        intro u5 X5 hu5 e5
        have k5 := new_kp hu5 e5
        have hu6 := k5.tup _ _ hu4
        refine ⟨u5, _, rfl, .inr (SqT.of (new_at e5)), rfl, rfl, _, rfl, ?_⟩
        refine iteF ?_
        walk_at "go"
        have ff := fin [] none (by simp only [Sm.lns]) X5 (by rw [k5.at f4, List.map_nil, List.append_nil]) (k4.step0 k5)
        exact ⟨_, rfl, ff.1, ff.2⟩
      | ite t yy nn =>
        obtain ⟨u, z1, z2, z3, z4, rfl, hu2, tz1, tz2, tz3, tz4⟩ := tr_tup4 tx3
        cases tr_str tz1
        have oks2 := oks
        obtain ⟨ot, nt, oy, on⟩ := oks2
        simp only [Sm.nest] at nst
        simp only [Sm.pl] at pst
        obtain ⟨N', hNe⟩ : ∃ N', N = N' + 1 := ⟨N - 1, by omega⟩
        have ny : Sm.nests yy ≤ N' := by omega
        have nn' : Sm.nests nn ≤ N' := by omega
        have py : Sm.pls yy ≤ 1000 := by omega
        have pn : Sm.pls nn ≤ 1000 := by omega
        have y2 : a.length + ("  " : Str).length ≤ sizeLine := Nat.le_trans (by rw [two_len]; omega) s300
        have y3 : a.length + ("else" : Str).length ≤ sizeLine := Nat.le_trans (by rw [else_len]; omega) s300
        have la2 : (a ++ "  ").length + 2 * N' ≤ 1000 := by rw [Str.length_append, two_len]; omega
        have py2 := partL_len (Sm.lnss_len (a ++ "  ") yy)
        have pn2 := Sm.lnss_len (a ++ "  ") nn
        obtain ⟨tn, ns, rfl, htn, tns⟩ := tr_tup tz4
        have lns : ns.length = nn.length := by rw [Sm.ds_map] at tns; rw [tns.length, List.length_map]
        walk_at "go"
        intro X4 f4 k4
        have hu4 := k4.tup _ _ hu2
        walk_at "go"
        intro u5 X5 hu5 e5
        have k5 := new_kp hu5 e5
        have hu6 := k5.tup _ _ hu4
        refine ⟨u5, _, rfl, .inr (SqT.of (new_at e5)), rfl, rfl, _, rfl, ?_⟩
        refine iteT ?_
        have tz36 := k5.tr (k4.tr tz3)
        have f5 := k5.at f4
        walk_at "go"
        intro l6 H6 hl6 fl6 k6
        have f6 := k6.at f5
        have z6 : (fs.map V.str ++ [V.str (a ++ (Sm.ite t yy nn).line)]).length + ((partL (a ++ "  ") yy).map V.str).length ≤ sizeLine := Nat.le_of_lt (sz_lt (by simp only [List.length_append, List.length_map, List.length_singleton]; omega))
        walk_at "go"
        intro X7 f7 k7
        have K7 : Kp [fl] X X7 := ((k4.step0 k5).step0 k6).trans k7
        have hu7 := K7.tup _ _ hu2
        have htn7 := K7.tup _ _ htn
        have tz47 := K7.tr tz4
        walk_at "go"
        intro p8 H8 hp8 e8
        have k8 := new_kp hp8 e8
        have a8 := new_at e8
        have hu8 := k8.tup _ _ hu7
        have htn8 := k8.tup _ _ htn7
        have tz48 := k8.tr tz47
        have f8 := k8.at f7
        walk_at "go"
        refine ite2 (fun hc => ?_) (fun hc => ?_)
        · have n0 : nn ≠ [] := fun z => by
            rw [z] at lns
            rw [List.length_eq_zero_iff.mp lns] at hc
            cases hc
          have z8 : (fs.map V.str ++ [V.str (a ++ (Sm.ite t yy nn).line)] ++ (partL (a ++ "  ") yy).map V.str).length < sizeLine := sz_lt (by simp only [List.length_append, List.length_map, List.length_singleton]; omega)
          walk_at "go"
          intro X9 f9 k9
          have tz49 := k9.tr tz48
          have hu9 := k9.tup _ _ hu8
          walk_at "go"
          intro l10 H10 hl10 fl10 k10
          have f10 := k10.at f9
          have z10 : (fs.map V.str ++ [V.str (a ++ (Sm.ite t yy nn).line)] ++ (partL (a ++ "  ") yy).map V.str ++ [V.str (a ++ "else")]).length + ((Sm.lnss (a ++ "  ") nn).map V.str).length ≤ sizeLine := Nat.le_of_lt (sz_lt (by simp only [List.length_append, List.length_map, List.length_singleton]; omega))
          walk_at "go"
          intro X11 f11 k11
          have ff := fin (partL (a ++ "  ") yy ++ (a ++ "else") :: Sm.lnss (a ++ "  ") nn) none (by rw [lns_ite, if_neg n0]) X11 (by rw [f11, List.map_append, List.map_cons]; simp only [List.append_assoc, List.cons_append, List.nil_append]) ((((K7.step0 k8).trans k9).step0 k10).trans k11)
          exact ⟨_, rfl, ff.1, ff.2⟩
        · have n0 : nn = [] := by
            cases ns with
            | nil => exact List.length_eq_zero_iff.mp lns.symm
            | cons x r => exact absurd rfl hc
          have ff := fin (partL (a ++ "  ") yy) none (by rw [lns_ite, if_pos n0, List.append_nil]) H8 f8 (K7.step0 k8)
          walk_at "go"
          exact ⟨_, rfl, ff.1, ff.2⟩
      | rep k bb =>
        obtain ⟨u, z1, z2, z3, rfl, hu2, tz1, tz2, tz3⟩ := tr_tup3 tx3
        cases tr_str tz1
        have oks2 := oks
        obtain ⟨ok8, oy⟩ := oks2
        simp only [Sm.nest] at nst
        simp only [Sm.pl] at pst
        obtain ⟨N', hNe⟩ : ∃ N', N = N' + 1 := ⟨N - 1, by omega⟩
        have ny : Sm.nests bb ≤ N' := by omega
        have py : Sm.pls bb ≤ 1000 := by omega
        have y2 : a.length + ("  " : Str).length ≤ sizeLine := Nat.le_trans (by rw [two_len]; omega) s300
        have la2 : (a ++ "  ").length + 2 * N' ≤ 1000 := by rw [Str.length_append, two_len]; omega
        have py2 := partL_len (Sm.lnss_len (a ++ "  ") bb)
        walk_at "go"
        intro X4 f4 k4
        have hu4 := k4.tup _ _ hu2
        walk_at "go"
        intro u5 X5 hu5 e5
        have k5 := new_kp hu5 e5
        have hu6 := k5.tup _ _ hu4
        refine ⟨u5, _, rfl, .inr (SqT.of (new_at e5)), rfl, rfl, _, rfl, ?_⟩
        refine iteT ?_
        have tz36 := k5.tr (k4.tr tz3)
        have f5 := k5.at f4
        walk_at "go"
        intro l6 H6 hl6 fl6 k6
        have f6 := k6.at f5
        have z6 : (fs.map V.str ++ [V.str (a ++ (Sm.rep k bb).line)]).length + ((partL (a ++ "  ") bb).map V.str).length ≤ sizeLine := Nat.le_of_lt (sz_lt (by simp only [List.length_append, List.length_map, List.length_singleton]; omega))
        walk_at "go"
        intro X7 f7 k7
        have K7 : Kp [fl] X X7 := ((k4.step0 k5).step0 k6).trans k7
        have hu7 := K7.tup _ _ hu2
        have ff := fin (partL (a ++ "  ") bb) none (by rw [lns_rep]) X7 f7 K7
        walk_at "go"
        exact ⟨_, rfl, ff.1, ff.2⟩
    · rintro σ X ⟨⟨w3, rfl, f3, kx⟩⟩
      have kx0 : Kp [] H X := k1.step1 kx (.inr hfl)
      rw [List.take_of_length_le (by omega)] at f3
      walk_at "go"
      exact q fl X hfl f3 kx0
end
section
variable {P : Program} {w : World} {K : PySem.W.Frag} {mg : Str → Option Value} {base : Heap}
theorem ok_l_program01 (T : Top K mg) : FnOk P w K mg base CX0 20 T.l_program.f T.l_program.fd ["_law_deck_here", "_law_names_here", "_law_most"] spProg01 := by
  have G_l_block : FnOk P w K mg base CX0 19 T.l_block.f T.l_block.fd ["_law_deck_here", "_law_names_here", "_law_depth", "_law_times", "_law_left"] (spBlock01 4) := ok_l_block01 T 4
  have c4 : cB01 4 ≤ 3000000 := by decide
  have c40 : 0 ≤ cB01 4 := by decide
  refine T.l_program.F.ok sc_l_program (fun vs H Q E h => ?_) (fun cdv A outer s H vs Q E hr h => ?_)
  · obtain ⟨a, c, nm, m, most, ns, rfl, _⟩ := h
    rfl
  obtain ⟨a, c, nm, m, most, ns, rfl, ⟨h0, h24⟩, D, hm, hN, q⟩ := h
  refine ⟨_, (pss_one (ps_ret (pe_call G_l_block (hr.mono (by omega)) (by rfl) T.l_block.g T.l_block.F.kp T.l_block.b .nil pass0 (pa_cons (pv 0) (pa_cons (pv 1) (pa_cons pe_int (pa_cons pe_int (pa_cons (pe_lstA (pa_cons (pv 2) (pa_cons pe_int (pa_cons pe_int (pa_cons pe_int pa_nil))))) pa_nil)))))))), ?_⟩
  walk_at "go"
  intro lf H1 hlf e1
  have k1 := new_kp hlf e1
  have g1 : Gs01 H1 a c nm lf m ns ⟨most, 60, 4, 3⟩ := ⟨D.kp0 k1, hN.kp (k1.sub (by simp)), new_at e1, D.off hlf⟩
  have nn0 : Lf.nn ⟨most, 60, 4, 3⟩ := ⟨h0, (by decide : (0 : Int) ≤ 60), (by decide : (0 : Int) ≤ 4), (by decide : (0 : Int) ≤ 3)⟩
  have hd : (0 : Int) + ((4 : Nat) : Int) = 4 := by decide
  have h04 : 1 ≤ 4 := by decide
  have hmm : m + cB01 4 ≤ 500000000 := by omega
  walk_at "go"
  intro v b H2 m2 l2 Tv ob xb nb pb ml2 mu2 g2 k2
  obtain ⟨u1, u2, u3, u4, u5, u6, u7, u8⟩ := pb
  simp only [Int.one_mul] at u1 u2 u3 u4
  have k02 : Kp [a, c] H H2 := ((Kp.refl (S := [a, c])).step0 k1).step k2 fun z hz => by
    simp only [List.mem_cons, List.not_mem_nil, or_false] at hz
    rcases hz with rfl | rfl | rfl
    · exact .inl (by simp)
    · exact .inl (by simp)
    · exact .inr hlf
  exact q v b H2 m2 Tv ⟨ob, xb, by omega, by omega, by omega, by omega, by omega⟩ ml2 mu2 g2.dk k02
theorem ok_program_text (T : Top K mg) (DS : SgOk K w T.SIGNS_texts) : FnOk P w K mg base CX0 23 T.program_text.f T.program_text.fd ["program"] spPText := by
  have G_block_lines : FnOk P w K mg base CX0 22 T.block_lines.f T.block_lines.fd ["block", "ahead"] (spLns 4) := ok_block_lines T DS 4
  refine T.program_text.F.ok sc_program_text (fun vs H Q E h => ?_) (fun cdv A outer s H vs Q E hr h => ?_)
  · obtain ⟨v, b, rfl, _⟩ := h
    rfl
  obtain ⟨v, b, rfl, hT, pt, q⟩ := h
  refine ⟨_, (pss_one (ps_ret (pe_joinA pe_str (pe_op op_catL (pe_lstA (pa_cons (pe_glob (v := .str "program") (by rfl) T.g_HEAD ⟨_, rfl⟩) pa_nil)) (pe_call G_block_lines (hr.mono (by omega)) (by rfl) T.block_lines.g T.block_lines.F.kp T.block_lines.b .nil pass0 (pa_cons (pv 0) (pa_cons pe_str pa_nil))))))), ?_⟩
  have ok := pt.ok
  have nb : Sm.nests b ≤ 4 := by have := pt.nest; omega
  have pb : Sm.pls b ≤ 1000 := by have := pt.pl; omega
  have la : ("" : Str).length + 2 * 4 ≤ 1000 := by decide +kernel
  have ln := pt.len
  walk_at "go"
  refine ⟨⟨_, rfl⟩, ?_⟩
  walk_at "go"
  intro l1 H1 hl1 e1
  have k1 := new_kp hl1 e1
  have a1 := new_at e1
  have hT1 := k1.tr hT
  walk_at "go"
  intro l2 H2 hl2 fl2 k2
  have a2 := k2.at a1
  have zz : [V.str "program"].length + ((Sm.lnss "" b).map V.str).length ≤ sizeLine := Nat.le_of_lt (sz_lt (by simp only [List.length_cons, List.length_map, List.length_nil] at ln ⊢; omega))
  walk_at "go"
  intro l3 H3 hl3 f3 k3
  have q := q H3 ((k1.trans k2).trans k3)
  exact ⟨_, l3, "program" :: Sm.lnss "" b, rfl, rfl, f3, pt.sum, q⟩
end
theorem bcdef_g {z : Str} {ch : Nat} {l : List Nat} (e : z.cps.toList = ch :: l) (hc : ch ∈ [98, 99, 100, 101, 102]) (hl : ∀ c ∈ l, c ∈ (Str.ofString "abcxyz0123456789").cps.toList) (h8 : l.length ≤ 7) : NmG z := by
  have lz : z.length ≤ 8 := by
    show z.cps.size ≤ 8
    rw [← Array.length_toList, e, List.length_cons]
    omega
  have h1 : ∀ c ∈ [98, 99, 100, 101, 102], c ∈ LETS.cps.toList := by decide +kernel
  have h2 : ∀ c ∈ (Str.ofString "abcxyz0123456789").cps.toList, c ∈ SGNS.cps.toList := by decide +kernel
  refine name_g e lz (h1 ch hc) (fun c hx => h2 c (hl c hx)) fun hk => ?_
  have all : ∀ w ∈ KW, w.cps.toList.head?.any (fun c => decide (c ∈ [98, 99, 100, 101, 102])) = true → w.cps.toList.tail.all (fun c => decide (c ∈ (Str.ofString "abcxyz0123456789").cps.toList)) = false := by decide +kernel
  have h3 := all z hk (by rw [e]; exact decide_eq_true hc)
  rw [e] at h3
  have h4 : l.all (fun c => decide (c ∈ (Str.ofString "abcxyz0123456789").cps.toList)) = true := List.all_eq_true.mpr fun c hx => decide_eq_true (hl c hx)
  have h5 : l.all (fun c => decide (c ∈ (Str.ofString "abcxyz0123456789").cps.toList)) = false := h3
  rw [h4] at h5
  cases h5
section
variable {P : Program} {w : World} {K : PySem.W.Frag} {mg : Str → Option Value} {base : Heap}
theorem ok_l_names01 (T : Top K mg) : FnOk P w K mg base CX0 4 T.l_names.f T.l_names.fd ["_law_deck_here", "_law_many"] spNames01 := by
  have G_l_one : FnOk P w K mg base CX0 2 T.l_one.f T.l_one.fd ["_law_deck_here", "_law_items"] (spOne K) := ok_l_one T
  have G_l_oneS : FnOk P w K mg base CX0 2 T.l_one.f T.l_one.fd ["_law_deck_here", "_law_items"] spOneS := ok_l_oneS T
  refine T.l_names.F.ok sc_l_names (fun vs H Q E h => ?_) (fun cdv A outer s H vs Q E hr h => ?_)
  · obtain ⟨a, c, m, k, rfl, _⟩ := h
    rfl
  obtain ⟨a, c, m, k, rfl, ⟨hk0, hk⟩, D0, hm, q⟩ := h
  have hu64 := hr.units
  refine ⟨_, (pss_cons (ps_set (i := 2) sc_l_names.nd rfl (.inl rfl) (pe_lstA (pa_cons pe_str pa_nil)))
      (pss_cons (ps_forA (ps_for PassesOwn.never rfl (pi_range1 (by rfl) T.range (pa_cons (pv 1) pa_nil)) (pg_name (i := 3) sc_l_names.nd rfl (.inl rfl)) (pss_cons (ps_set (i := 4) sc_l_names.nd rfl (.inl rfl) (pe_ix ix_str pe_str (pv 3) (fun _ _ => rfl)))
      (pss_cons (ps_forA (ps_for PassesOwn.never rfl (pi_range1 (by rfl) T.range (pa_cons (pe_call G_l_one (hr.mono (by omega)) (by rfl) T.l_one.g T.l_one.F.kp T.l_one.b .nil pass0 (pa_cons (pv 0) (pa_cons (pe_lstA (pa_cons pe_int (pa_cons pe_int (pa_cons pe_int (pa_cons pe_int (pa_cons pe_int pa_nil)))))) pa_nil))) pa_nil)) (pg_name (i := 5) sc_l_names.nd rfl (.inl rfl)) (pss_one (ps_set (i := 4) sc_l_names.nd rfl (.inl rfl) (pe_op op_add_str (pv 4) (pe_call G_l_oneS (hr.mono (by omega)) (by rfl) T.l_one.g T.l_one.F.kp T.l_one.b .nil pass0 (pa_cons (pv 0) (pa_cons pe_str pa_nil))))))))
      (pss_one (ps_expr (pe_bmK (K := K) rfl PySem.F.plainAttrs_list PySem.F.slot_list_append PySem.F.type_list_append mt_appendA (pv 2) (pa_cons (pv 4) pa_nil))))))))
      (pss_one (ps_ret (pv 2))))), ?_⟩
  obtain ⟨sl, sl2⟩ : 0 < (Str.ofString "abcxyz0123456789").length ∧ (Str.ofString "abcxyz0123456789").length ≤ 1000000 := by decide +kernel
  walk_at "go"
  intro fl H1 hfl e1
  have k1 := new_kp hfl e1
  have f1 := new_at e1
  have D1 := D0.kp0 k1
  have oD := D0.off hfl
  have oa : a ∉ [fl] ∧ c ∉ [fl] := by
    simp only [List.mem_cons, List.not_mem_nil, or_false, not_or] at oD ⊢
    exact ⟨fun z => oD.1 z.symm, fun z => oD.2 z.symm⟩
  walk_at "go"
  refine ⟨for_range (lo := 0) (n := Int.toNat k) (fun i σ X => Lp (∃ (w3 w4 w5 : Option V) (m' : Int) (ns : List Str), σ = [some (.ref a), some (.int k), some (.ref fl), w3, w4, w5] ∧ m ≤ m' ∧ m' ≤ m + (i : Int) * 10 ∧ Deck X a c m' ∧ Kp [a, c, fl] H1 X ∧ X fl = some (.lst (ns.map V.str)) ∧ (∀ x ∈ ns, NmG x) ∧ ns.length = i + 1)) ⟨none, none, none, m, ["n"], rfl, by omega, by omega, D1, Kp.refl, f1, fun x hx => by cases List.mem_singleton.mp hx; exact ⟨by decide +kernel, by decide +kernel, by decide +kernel⟩, rfl⟩ ?_ ?_⟩
  · rintro i σ X hi ⟨w3, w4, w5, m', ns, rfl, ml, mu, DX, kx, fX, hns, ln⟩
    have hi5 : i < 5 := by omega
    have hmM : m' ≤ MANY := by show m' ≤ 1000000000; omega
    obtain ⟨ch, hch, hs⟩ : ∃ ch : Nat, atI ((Str.ofString "bcdef").cps.toList) (0 + (i : Int)) = some ch ∧ ch ∈ [98, 99, 100, 101, 102] := by
      rcases (show i = 0 ∨ i = 1 ∨ i = 2 ∨ i = 3 ∨ i = 4 by omega) with rfl | rfl | rfl | rfl | rfl
      · exact ⟨98, by decide +kernel, by decide⟩
      · exact ⟨99, by decide +kernel, by decide⟩
      · exact ⟨100, by decide +kernel, by decide⟩
      · exact ⟨101, by decide +kernel, by decide⟩
      · exact ⟨102, by decide +kernel, by decide⟩
    walk_at "go"
    intro l2 X2 hl2 e2
    have k2 := new_kp hl2 e2
    have a2 := new_at e2
    have D2 := DX.kp0 k2
    have off2 := DX.off hl2
    walk_at "go"
    intro y X3 hy D3 k3
    have hy2 : y ∈ ([0, 0, 1, 3, 7] : List Int).map V.int := hy
    obtain ⟨g, rfl, hg0, hg1⟩ := mem_ints (P := fun i => 0 ≤ i ∧ i ≤ 7) hy2 (by decide)
    have f3 := k3.keep _ _ (k2.at fX) oD
    walk_at "go"
    refine ⟨for_range (lo := 0) (n := Int.toNat g) (fun t σ Y => Lp (∃ (w5 : Option V) (m2 : Int) (z : Str), σ = [some (.ref a), some (.int k), some (.ref fl), some (.int (0 + (i : Int))), some (.str z), w5] ∧ m' + 1 ≤ m2 ∧ m2 ≤ m' + 1 + (t : Int) ∧ Deck Y a c m2 ∧ Kp [a, c] X3 Y ∧ (∃ l, z.cps.toList = ch :: l ∧ (∀ c ∈ l, c ∈ (Str.ofString "abcxyz0123456789").cps.toList) ∧ l.length = t))) ⟨w5, m' + 1, ⟨#[ch]⟩, rfl, by omega, by omega, D3, Kp.refl, ⟨[], rfl, (fun _ h => nomatch h), rfl⟩⟩ ?_ ?_⟩
    · rintro t σ Y ht ⟨w5, m2, z, rfl, ml2, mu2, DY, ky, ⟨zl, ez, az, lzl⟩⟩
      have lz : z.length = 1 + t := by show z.cps.size = _; rw [← Array.length_toList, ez, List.length_cons]; omega
      have ht7 : t < 7 := by omega
      have hmM2 : m2 ≤ MANY := by show m2 ≤ 1000000000; omega
      walk_at "go"
      intro ch2 Y2 hch2 DY2 kY2
      have zsz : z.length + (⟨#[ch2]⟩ : Str).length ≤ sizeLine := Nat.le_of_lt (sz_lt (by rw [lz]; show 1 + t + 1 ≤ _; omega))
      walk_at "go"
      exact ⟨_, m2 + 1, z ++ ⟨#[ch2]⟩, rfl, by omega, by omega, DY2, ky.trans kY2, ⟨zl ++ [ch2], by show (z.cps ++ #[ch2]).toList = _; simp [ez], fun x hx => (List.mem_append.mp hx).elim (az x) fun h => by cases List.mem_singleton.mp h; exact hch2, by rw [List.length_append, lzl]; rfl⟩⟩
    · rintro σ Y ⟨w5, m2, z, rfl, ml2, mu2, DY, ky, ⟨zl, ez, az, lzl⟩⟩
      have gz : NmG z := bcdef_g ez hs az (by omega)
      have fY := ky.keep _ _ f3 oD
      have zn : (ns.map V.str).length < sizeLine := sz_lt (by rw [List.length_map]; omega)
      walk_at "go"
      intro Z fZ kZ
      have kk : Kp [a, c, fl] X Z := (((Kp.refl (S := [a, c, fl])).step0 k2).trans (k3.sub (by simp))).trans ((ky.sub (by simp)).trans (kZ.sub (by simp)))
      exact ⟨_, _, _, m2, ns ++ [z], rfl, by omega, by omega, DY.kp kZ oa.1 oa.2, kx.trans kk, by rw [fZ, List.map_append]; rfl, fun x hx => (List.mem_append.mp hx).elim (hns x) fun h => by cases List.mem_singleton.mp h; exact gz, by rw [List.length_append, ln]; rfl⟩
  · rintro σ X ⟨w3, w4, w5, m', ns, rfl, ml, mu, DX, kx, fX, hns, ln⟩
    have kH : Kp [a, c] H X := ((Kp.refl (S := [a, c])).step0 k1).step kx fun z hz => by
      simp only [List.mem_cons, List.not_mem_nil, or_false] at hz
      rcases hz with rfl | rfl | rfl
      · exact .inl (by simp)
      · exact .inl (by simp)
      · exact .inr hfl
    walk_at "go"
    exact q fl ns X m' ⟨fX, oD, hns, by omega, by omega⟩ (by omega) (by omega) DX kH
end
section
open TL
variable {P : Program} {w : World} {K : PySem.W.Frag} {mg : Str → Option Value} {base : Heap}
theorem sgn_keep {z C : Str} {D : Addr} {H X : Hp} {i c : Nat} (sz : z.length ≤ 1000000) (hc : z.cps[i]? = some c) (kX : Kp [D] H X) (dX : X D = some (.lst (((z.cps.toList.take i).filter fun c => !decide (c ∈ C.cps.toList)).map fun c => V.str ⟨#[c]⟩))) :
    (((z.cps.toList.take i).filter fun c => !decide (c ∈ C.cps.toList)).map fun c => V.str ⟨#[c]⟩).length < sizeLine ∧
    ((!decide (c ∈ C.cps.toList)) = true → Kp [D] H (upd X D (.lst ((((z.cps.toList.take i).filter fun c => !decide (c ∈ C.cps.toList)).map fun c => V.str ⟨#[c]⟩) ++ [V.str ⟨#[c]⟩]))) ∧ (upd X D (.lst ((((z.cps.toList.take i).filter fun c => !decide (c ∈ C.cps.toList)).map fun c => V.str ⟨#[c]⟩) ++ [V.str ⟨#[c]⟩]))) D = some (.lst (((z.cps.toList.take (i + 1)).filter fun c => !decide (c ∈ C.cps.toList)).map fun c => V.str ⟨#[c]⟩))) ∧
    ((!decide (c ∈ C.cps.toList)) = false → Kp [D] H X ∧ X D = some (.lst (((z.cps.toList.take (i + 1)).filter fun c => !decide (c ∈ C.cps.toList)).map fun c => V.str ⟨#[c]⟩))) := by
  have ht : z.cps.toList.take (i + 1) = z.cps.toList.take i ++ [c] := by
    rw [List.take_add_one, Array.getElem?_toList, hc]
    rfl
  refine ⟨?_, fun h => ⟨kX.step1 (Kp.put dX (fun _ z => by cases z)) (.inl (by simp)), ?_⟩, fun h => ⟨kX, ?_⟩⟩
  · have := List.length_filter_le (fun c => !decide (c ∈ C.cps.toList)) (z.cps.toList.take i)
    rw [List.length_take] at this
    rw [List.length_map]
    exact sz_lt (by have : z.cps.toList.length = z.length := Array.length_toList; omega)
  · rw [upd_same, ht, List.filter_append, List.map_append, List.filter_cons_of_pos (p := fun c => !decide (c ∈ C.cps.toList)) h]
    rfl
  · rw [dX, ht, List.filter_append, List.filter_cons_of_neg (p := fun c => !decide (c ∈ C.cps.toList)) (by show ¬ ((!decide (c ∈ C.cps.toList)) = true); rw [h]; simp), List.filter_nil, List.append_nil]
theorem ok_is_word_texts (T : Top K mg) {k : Nat} : FnOk P w K mg base CX0 (k + 1) T.is_word_texts.f T.is_word_texts.fd ["text", "most"] spWordT := by
  refine T.is_word_texts.F.ok sc_is_word_texts (fun vs H Q E h => ?_) (fun cdv A outer s H vs Q E hr h => ?_)
  · obtain ⟨z, m, rfl, _⟩ := h
    rfl
  obtain ⟨z, m, rfl, sz, q⟩ := h
  have hu := hu_of hr
  refine ⟨_, (pss_one (ps_ret (pe_and (pe_chain op_le op_le pe_int (pe_callB (id := "len") call_len_str (by rfl) T.len PySem.boot_len (pa_cons (pv 0) pa_nil)) (pv 1)) (pe_one (pe_cmpR (op_eqNil hu) (pe_lc (own := [("sign", 2)]) (by rfl) sc_is_word_texts.nd (pi_str (pv 0)) (blkOk_by (N := ["text", "most", "sign"]) (sc := defScope s_is_word_texts) (own := [("sign", 2)]) (by decide +kernel)) (fun _ _ _ _ _ => (pg_name (i := 2) sc_is_word_texts.nd rfl (.inl rfl))) (fun _ _ _ _ _ => (pts_one (pt_cmpR op_notIn_sign (pv 2) (pe_op op_add_str (pe_glob (v := .str "abcdefghijklmnopqrstuvwxyz") (by rfl) T.g_LETTERS_texts ⟨_, rfl⟩) (pe_glob (v := .str "0123456789") (by rfl) T.g_FIGURES ⟨_, rfl⟩)) (by rfl)))) (fun _ _ _ _ _ => (pv 2))) (pe_lstA pa_nil) (nomark _)))))), ?_⟩
  have lz : z.length ≤ sizeLine := sz_le sz
  have lab : (Str.ofString "abcdefghijklmnopqrstuvwxyz").length + (Str.ofString "0123456789").length ≤ sizeLine := sz_le (by decide +kernel)
  unfold wordT at q
  walk_at "go"
  refine iteB (fun h1 => ?_) (fun h1 => ?_)
  · rw [h1] at q
    walk_at "go"
    refine iteB (fun h2 => ?_) (fun h2 => ?_)
    · rw [h2] at q
      walk_at "go"
      intro D hD
      refine lc_it walk_str (fun i X2 => Lp (Kp [D] H X2 ∧ X2 D = some (.lst (((z.cps.toList.take i).filter fun c => !decide (c ∈ SGNS.cps.toList)).map fun c => V.str ⟨#[c]⟩)))) ⟨(Kp.new hD).sub (by simp), upd_same⟩ (fun _ _ _ _ => trivial) ?_ ?_
      · rintro i x X2 X3 hi ⟨⟨kX, dX⟩⟩ ⟨rfl, c, hc, rfl⟩
        obtain ⟨sa, s1, s2⟩ := sgn_keep sz hc kX dX
        walk_at "go"
        rw [lf_eq]
        refine iteB (fun hc2 => ?_) (fun hc2 => ?_)
        · walk_at "go"
          exact ⟨s1 hc2⟩
        · exact ⟨s2 hc2⟩
      · rintro X2 ⟨⟨kX, dX⟩⟩
        rw [List.take_of_length_le (by rw [Array.length_toList]; exact Nat.le_refl _)] at dX
        have es := bad_empty SGNS z.cps.toList
        have kX' : Kp [] H X2 := Kp.refl.step1 kX (.inr hD)
        walk_at "go"
        intro l3 X3 hl3 e3
        have k3 := new_kp hl3 e3
        have a3 := new_at e3
        refine ⟨D, l3, _, rfl, rfl, k3.at dX, a3, ?_⟩
        rw [es]
        exact q X3 (kX'.step0 k3)
    · have q2 := q H Kp.refl
      rw [h2] at q2
      exact q2
  · have q2 := q H Kp.refl
    rw [h1] at q2
    walk_at "go"
    exact q2
theorem ok_is_name_texts (T : Top K mg) {k : Nat} : FnOk P w K mg base CX0 (k + 2) T.is_name_texts.f T.is_name_texts.fd ["text"] spNameT := by
  have G_is_word_texts := ok_is_word_texts (P := P) (w := w) (base := base) (k := k) T
  refine T.is_name_texts.F.ok sc_is_name_texts (fun vs H Q E h => ?_) (fun cdv A outer s H vs Q E hr h => ?_)
  · obtain ⟨z, rfl, _⟩ := h
    rfl
  obtain ⟨z, rfl, sz, q⟩ := h
  have hu := hu_of hr
  refine ⟨_, (pss_one (ps_ret (pe_and (pe_call G_is_word_texts (hr.mono (by omega)) (by rfl) T.is_word_texts.g T.is_word_texts.F.kp T.is_word_texts.b .nil pass0 (pa_cons (pv 0) (pa_cons (pe_glob (v := .int 8) (by rfl) T.g_MAX_NAME ⟨_, rfl⟩) pa_nil))) (pe_and (pe_cmpR op_in_sign (pe_ix ix_str (pv 0) pe_int (fun _ _ => rfl)) (pe_glob (v := .str "abcdefghijklmnopqrstuvwxyz") (by rfl) T.g_LETTERS_texts ⟨_, rfl⟩) (by rfl)) (pe_one (pe_cmpR (op_notIn_seqK (K := K) rfl) (pv 0) (pe_glob (v := .ref T.KEPT_WORDS) (by rfl) T.g_KEPT_WORDS rfl) (by rfl))))))), ?_⟩
  have lz : z.length ≤ sizeLine := sz_le sz
  unfold nameT at q
  walk_at "go"
  intro H1 k1
  walk_at "go"
  refine iteB (fun h1 => ?_) (fun h1 => ?_)
  · rw [h1] at q
    obtain ⟨c0, r0, e0⟩ : ∃ c0 r0, z.cps.toList = c0 :: r0 := by
      cases e : z.cps.toList with
      | nil =>
        have e2 : z.cps.toList.length = z.length := Array.length_toList
        rw [e, List.length_nil] at e2
        unfold wordT at h1
        rw [← e2] at h1
        exact absurd h1 (by simp)
      | cons c r => exact ⟨c, r, rfl⟩
    have a0 : atI z.cps.toList 0 = some c0 := by
      rw [e0]
      exact atI_nat (j := 0) rfl
    have hd0 : headB z = decide (c0 ∈ LETS.cps.toList) := by
      unfold headB
      rw [e0]
    rw [hd0] at q
    walk_at "go"
    refine iteB (fun h3 => ?_) (fun h3 => ?_)
    · replace h3 : decide (c0 ∈ LETS.cps.toList) = true := h3
      rw [h3] at q
      walk_at "go"
      exact ⟨.inr (T.q_KEPT_WORDS H1), rfl, by decide +kernel, q H1 k1⟩
    · replace h3 : decide (c0 ∈ LETS.cps.toList) = false := h3
      have q2 := q H1 k1
      rw [h3] at q2
      exact q2
  · have q2 := q H1 k1
    rw [h1] at q2
    exact q2
theorem ok_integer_of (T : Top K mg) {k : Nat} : FnOk P w K mg base CX0 (k + 1) T.integer_of.f T.integer_of.fd ["text", "most"] spIntT := by
  refine T.integer_of.F.ok sc_integer_of (fun vs H Q E h => ?_) (fun cdv A outer s H vs Q E hr h => ?_)
  · obtain ⟨z, mi, m, rfl, _⟩ := h
    rfl
  obtain ⟨z, mi, m, rfl, rfl, hm, sz, q⟩ := h
  have hu := hu_of hr
  refine ⟨_, (pss_cutA (ps_set (i := 2) sc_integer_of.nd rfl (.inl rfl) (pe_ifExp (pt_val (pe_m1 PySem.F.slot_str_startswith PySem.F.type_str_startswith mt_startswith (pv 0) pe_str)) (pe_slice sl_str (pv 0) (po_some pe_int) po_none) (pv 0)))
      (pss_cons (ps_if (PW.pt (pw_or (pt_not (pt_chain op_le op_le pe_int (pe_callB (id := "len") call_len_str (by rfl) T.len PySem.boot_len (pa_cons (pv 2) pa_nil)) (pv 1))) (pw_or1 (pt_cmpR (op_neNil hu) (pe_lc (own := [("sign", 3)]) (by rfl) sc_integer_of.nd (pi_str (pv 2)) (blkOk_by (N := ["text", "most", "figures", "sign"]) (sc := defScope s_integer_of) (own := [("sign", 3)]) (by decide +kernel)) (fun _ _ _ _ _ => (pg_name (i := 3) sc_integer_of.nd rfl (.inl rfl))) (fun _ _ _ _ _ => (pts_one (pt_cmpR op_notIn_sign (pv 3) (pe_glob (v := .str "0123456789") (by rfl) T.g_FIGURES ⟨_, rfl⟩) (by rfl)))) (fun _ _ _ _ _ => (pv 3))) (pe_lstA pa_nil) (nomark _))))) (pss_one (ps_ret pe_non)) pss_nil)
      (pss_cons (ps_if (PW.pt (pw_and (pt_cmpR op_eq (pe_ix ix_str (pv 2) pe_int (fun _ _ => rfl)) pe_str (nomark _)) (pw_and1 (pt_cmpR op_ne (pv 0) pe_str (nomark _))))) (pss_one (ps_ret pe_non)) pss_nil)
      (pss_one (ps_ret (pe_callTy (T := "int") call_int_str (by rfl) T.int (by decide +kernel) (pa_cons (pv 0) pa_nil))))))), ?_⟩
  have lz : z.length ≤ sizeLine := sz_le sz
  refine ⟨⟨fun σ X => Lp (∃ F : Str, σ = [some (.str z), some (.int (m : Int)), some (.str F), none] ∧ X = H ∧ F = mkS (figsL (tl z))), ?_, ?_⟩⟩
  · have ef := figs_str z
    walk_at "go"
    refine ⟨⟨_, rfl⟩, ?_⟩
    walk_at "go"
    refine ite2 (fun hc => ?_) (fun hc => ?_)
    · rw [if_pos hc] at ef
      walk_at "go"
      exact ⟨_, rfl, rfl, ef⟩
    · rw [if_neg hc] at ef
      walk_at "go"
      exact ⟨_, rfl, rfl, ef⟩
  · rintro σ X ⟨⟨F, rfl, rfl, eF⟩⟩
    have tF : tl F = figsL (tl z) := by rw [eF, tl_mkS]
    have lF : F.length ≤ 1000000 := by
      rw [len_tl, tF]
      exact Nat.le_trans (figs_len _) (by rw [← len_tl]; exact sz)
    have lF2 : F.length ≤ sizeLine := sz_le lF
    have elen : F.length = (figsL (tl z)).length := by rw [len_tl, tF]
    unfold intL at q
    rw [← elen, ← tF] at q
    have bad : (F.length < 1 ∨ m < F.length ∨ (tl F).all figB = false) → ∀ H', Kp [] X H' → Q .non H' := fun hb => by
      rw [if_pos hb] at q
      exact q
    have efs : (tl F).all figB = F.cps.toList.all fun c => decide (c ∈ FGS.cps.toList) := rfl
    walk_at "go"
    refine ite2 (fun h1 => ?_) (fun h1 => ?_)
    · have h1 := of_decide_eq_true h1
      walk_at "go"
      cases h2 : decide ((F.length : Int) ≤ (m : Int)) with
      | false =>
        have h2 := of_decide_eq_false h2
        refine iteT ?_
        refine iteT ?_
        exact bad (.inr (.inl (by omega))) X Kp.refl
      | true =>
        have h2 := of_decide_eq_true h2
        refine iteF ?_
        walk_at "go"
        intro D hD
        refine lc_it walk_str (fun i X2 => Lp (Kp [D] X X2 ∧ X2 D = some (.lst (((F.cps.toList.take i).filter fun c => !decide (c ∈ FGS.cps.toList)).map fun c => V.str ⟨#[c]⟩)))) ⟨(Kp.new hD).sub (by simp), upd_same⟩ (fun _ _ _ _ => trivial) ?_ ?_
        · rintro i x X2 X3 hi ⟨⟨kX, dX⟩⟩ ⟨rfl, c, hc, rfl⟩
          obtain ⟨sa, s1, s2⟩ := sgn_keep (C := FGS) lF hc kX dX
          walk_at "go"
          refine iteB (fun hc2 => ?_) (fun hc2 => ?_)
          · walk_at "go"
            exact ⟨s1 hc2⟩
          · exact ⟨s2 hc2⟩
        · rintro X2 ⟨⟨kX, dX⟩⟩
          rw [List.take_of_length_le (by rw [Array.length_toList]; exact Nat.le_refl _)] at dX
          have es := bad_empty FGS F.cps.toList
          have kX' : Kp [] X X2 := Kp.refl.step1 kX (.inr hD)
          walk_at "go"
          intro l3 X3 hl3 e3
          have k3 := new_kp hl3 e3
          have a3 := new_at e3
          have KK := kX'.step0 k3
          refine ⟨D, l3, _, rfl, rfl, k3.at dX, a3, _, rfl, ?_⟩
          rw [es, ← efs]
          refine iteB (fun h3 => ?_) (fun h3 => ?_)
          · walk_at "go"
            exact bad (.inr (.inr (by simpa using h3))) X3 KK
          · have h3 : (tl F).all figB = true := by simpa using h3
            rw [if_neg (by rw [h3]; simp only [not_or]; exact ⟨by omega, by omega, by simp⟩)] at q
            obtain ⟨c0, r0, e0⟩ : ∃ c0 r0, F.cps.toList = c0 :: r0 := by
              cases e : F.cps.toList with
              | nil =>
                have e2 : F.cps.toList.length = F.length := Array.length_toList
                rw [e, List.length_nil] at e2
                omega
              | cons c r => exact ⟨c, r, rfl⟩
            have a0 : atI F.cps.toList 0 = some c0 := by
              rw [e0]
              exact atI_nat (j := 0) rfl
            have hh : (tl F).head? = some c0 := by
              show F.cps.toList.head? = _
              rw [e0]
              rfl
            have z0 : tl (Str.ofString "0") = [48] := by decide +kernel
            rw [hh] at q
            walk_at "go"
            rw [show decide (V.str { cps := #[c0] } = V.str (Str.ofString "0")) = decide ([c0] = [48]) from str_lit z0]
            have rest : ¬ (some c0 = some 48 ∧ tl z ≠ [48]) → ∃ i, intL m (tl z) = some i ∧ Q (.int i) X3 := fun hn => by
              rw [if_neg hn] at q
              refine ⟨_, ?_, q X3 KK⟩
              unfold intL
              rw [← elen, ← tF, if_neg (by rw [h3]; simp only [not_or]; exact ⟨by omega, by omega, by simp⟩), hh, if_neg hn]
            have fin : ¬ (some c0 = some 48 ∧ tl z ≠ [48]) → ∃ n, PySem.intText? z = some n ∧ z.length ≤ 640 ∧ Q (.int n) X3 := fun hn => by
              obtain ⟨i, e1, q1⟩ := rest hn
              obtain ⟨e2, e3⟩ := intL_text hm e1
              rw [mkS_tl] at e2 e3
              exact ⟨i, e2, e3, q1⟩
            refine ite2 (fun h4 => ?_) (fun h4 => ?_)
            · have h4 : c0 = 48 := by simpa using h4
              walk_at "go"
              rw [show (V.str z) = V.str (mkS (tl z)) by rw [mkS_tl], str_lit z0]
              refine ite2 (fun h5 => ?_) (fun h5 => ?_)
              · rw [if_pos ⟨by rw [h4], by simpa using h5⟩] at q
                walk_at "go"
                exact q X3 KK
              · obtain ⟨n, e1, e2, q1⟩ := fin (fun h => absurd h.2 (by simpa using h5))
                walk_at "go"
                exact q1
            · have h4 : c0 ≠ 48 := by simpa using h4
              obtain ⟨n, e1, e2, q1⟩ := fin (fun h => absurd (Option.some.inj h.1) h4)
              walk_at "go"
              exact q1
    · have h1 : ¬ (1 : Int) ≤ (F.length : Int) := fun z => h1 (decide_eq_true z)
      walk_at "go"
      refine iteT ?_
      refine iteT ?_
      exact bad (.inl (by omega)) X Kp.refl
end
section
open TL
variable {P : Program} {w : World} {K : PySem.W.Frag} {mg : Str → Option Value} {base : Heap}
theorem ok_sum_at (T : Top K mg) (DW : WdOk K w T.WORDS) {n k : Nat} (G_expression_at : FnOk P w K mg base CX0 k T.expression_at.f T.expression_at.fd ["text", "at", "deep"] (spEAt n)) : FnOk P w K mg base CX0 (k + 1) T.sum_at.f T.sum_at.fd ["text", "at", "deep"] (spSumAt n) := by
  refine T.sum_at.F.ok sc_sum_at (fun vs H Q E h => ?_) (fun cdv A outer s H vs Q E hr h => ?_)
  · obtain ⟨z, ai, a, deep, rfl, _⟩ := h
    rfl
  obtain ⟨z, ai, a, deep, rfl, rfl, sz, hd, hde, q⟩ := h
  have hu := hu_of hr
  refine ⟨_, (pss_cons (ps_set (i := 3) sc_sum_at.nd rfl (.inl rfl) (pe_call G_expression_at (hr.mono (by omega)) (by rfl) T.expression_at.g T.expression_at.F.kp T.expression_at.b .nil pass0 (pa_cons (pv 0) (pa_cons (pe_op op_add (pv 1) pe_int) (pa_cons (pe_op op_add (pv 2) pe_int) pa_nil)))))
      (pss_cons (ps_if (pt_cmpR op_isN (pv 3) pe_non (nomark _)) (pss_one (ps_ret pe_non)) pss_nil)
      (pss_cons (ps_asg (pv 3) (pg_tup (by rfl) (pgs_cons (pg_name (i := 4) sc_sum_at.nd rfl (.inl rfl)) (pgs_cons (pg_name (i := 5) sc_sum_at.nd rfl (.inl rfl)) pgs_nil))))
      (pss_cutA (ps_set (i := 6) sc_sum_at.nd rfl (.inl rfl) (pe_kget2K (K := K) (w := w) rfl rfl (pe_glob (v := .ref T.WORDS) (by rfl) T.g_WORDS rfl) (pe_slice sl_str (pv 0) (po_some (pv 5)) (po_some (pe_op op_add (pv 5) pe_int))) pe_str ⟨by rfl, by rfl, by rfl, by rfl⟩))
      (pss_cutA (ps_if (PW.pt (pw_or (pt_cmpR op_eq (pv 6) pe_str (nomark _)) (pw_or1 (PW.pt (pw_and (pt_cmpR op_eq (pv 6) pe_str (nomark _)) (pw_and1 (pt_not (pt_val (pe_callB (id := "isinstance") (call_isiK (K := K) rfl) (by rfl) T.isinstance (by decide +kernel) (pa_cons (pv 4) (pa_cons (pe_bltn (v := .ty "int") (u := .type "int") (by rfl) T.int (by decide +kernel) rfl) pa_nil))))))))))) (pss_one (ps_ret pe_non)) pss_nil)
      (pss_cons (ps_set (i := 7) sc_sum_at.nd rfl (.inl rfl) (pe_call G_expression_at (hr.mono (by omega)) (by rfl) T.expression_at.g T.expression_at.F.kp T.expression_at.b .nil pass0 (pa_cons (pv 0) (pa_cons (pe_op op_add (pv 5) pe_int) (pa_cons (pe_op op_add (pv 2) pe_int) pa_nil)))))
      (pss_cons (ps_if (PW.pt (pw_or (pt_cmpR op_isN (pv 7) pe_non (nomark _)) (pw_or1 (pt_cmpR op_ne (pe_slice sl_str (pv 0) (po_some (pe_ix (ix_tupK (K := K) rfl) (pv 7) pe_int (fun _ _ => rfl))) (po_some (pe_op op_add (pe_ix (ix_tupK (K := K) rfl) (pv 7) pe_int (fun _ _ => rfl)) pe_int))) pe_str (nomark _))))) (pss_one (ps_ret pe_non)) pss_nil)
      (pss_one (ps_ret (pe_tupA (pa_cons (pe_tupA (pa_cons (pv 6) (pa_cons (pv 4) (pa_cons (pe_ix (ix_tupK (K := K) rfl) (pv 7) pe_int (fun _ _ => rfl)) pa_nil)))) (pa_cons (pe_op op_add (pe_ix (ix_tupK (K := K) rfl) (pv 7) pe_int (fun _ _ => rfl)) pe_int) pa_nil)))))))))))), ?_⟩
  have lz : z.length ≤ sizeLine := sz_le sz
  have ha := head_drop_lt hd
  rw [← len_tl] at ha
  have ed1 : ((tl z).drop a).drop 1 = (tl z).drop (a + 1) := List.drop_drop
  have non : pE (n + 1) ((tl z).drop a) = none → ∀ H', Kp [] H H' → Q .non H' := fun e H' k' => by
    rw [e] at q
    exact q .non H' (by simp only [shO, exO, Option.map_none, Tr]) k'
  have ea1 : (a : Int) + 1 = ((a + 1 : Nat) : Int) := rfl
  walk_at "go"
  intro t H1 ht k1
  rw [pE, if_pos hd, ed1] at q non
  cases e1 : pE n ((tl z).drop (a + 1)) with
  | none =>
    rw [e1] at ht non
    have et : t = .non := by simpa only [shO, exO, Option.map_none, Tr] using ht
    subst et
    walk_at "go"
    exact non rfl H1 k1
  | some p =>
    obtain ⟨one, k⟩ := p
    have lk := pE_le e1
    rw [List.length_drop, ← len_tl] at lk
    rw [e1] at ht non q
    obtain ⟨u, v1, v2, rfl, hu1, t1, t2⟩ := tr_tup2 (show Tr H1 (.tuple [one.d, .int ((a + 1 + k : Nat) : Int)]) t from ht)
    cases tr_int t2
    have ec := cut_mid z (show a + 1 + k ≤ a + 1 + k + 3 by omega)
    rw [show a + 1 + k + 3 - (a + 1 + k) = 3 by omega] at ec
    have ew : ((tl z).drop (a + 1 + k)).take 3 = (((tl z).drop a).drop (1 + k)).take 3 := by rw [List.drop_drop, ← Nat.add_assoc]
    rw [ew] at ec
    simp only [← ew] at q non
    rw [ew] at q non
    have kd := DW.1
    walk_at "go"
    refine ⟨⟨fun σ X => Lp (σ = [some (.str z), some (.int (a : Int)), some (.int deep), some (.ref u), some v1, some (.int ((a + 1 + k : Nat) : Int)), some (.str (opW ((((tl z).drop a).drop (1 + k)).take 3))), none] ∧ X = H1), ?_, ?_⟩⟩
    · walk_at "go"
      rw [show cutS z (some ((a + 1 + k : Nat) : Int)) (some (((a + 1 + k : Nat) : Int) + 3)) = mkS ((((tl z).drop a).drop (1 + k)).take 3) from ec]
      rcases DW.get ((((tl z).drop a).drop (1 + k)).take 3) with h | ⟨h, e⟩
      · exact .inl ⟨_, h, ⟨rfl, rfl⟩⟩
      · refine .inr ⟨h, ?_⟩
        rw [e]
        exact ⟨rfl, rfl⟩
    · rintro σ X ⟨⟨rfl, rfl⟩⟩
      generalize ewl : (((tl z).drop a).drop (1 + k)).take 3 = wl at q non
      refine ⟨⟨fun σ X' => Lp (σ = [some (.str z), some (.int (a : Int)), some (.int deep), some (.ref u), some v1, some (.int ((a + 1 + k : Nat) : Int)), some (.str (opW wl)), none] ∧ X' = X ∧ opB wl one = true), ?_, ?_⟩⟩
      · have bad : opB wl one = false → Q .non X := fun h => non (by rw [h]; rfl) X k1
        by_cases w1 : wl = [32, 43, 32]
        · subst w1
          rw [show opW [32, 43, 32] = "plus" from rfl]
          walk_at "go"
          exact ⟨rfl, rfl, rfl⟩
        · by_cases w2 : wl = [32, 45, 32]
          · subst w2
            rw [show opW [32, 45, 32] = "minus" from rfl]
            walk_at "go"
            exact ⟨rfl, rfl, rfl⟩
          · by_cases w3 : wl = [32, 42, 32]
            · subst w3
              rw [show opW [32, 42, 32] = "times" from rfl]
              cases one with
              | num i =>
                cases tr_int t1
                walk_at "go"
                exact ⟨rfl, rfl, rfl⟩
              | var x =>
                cases tr_str t1
                walk_at "go"
                exact bad rfl
              | plus b c =>
                obtain ⟨u1, y1, y2, y3, rfl, hu2, _, _, _⟩ := tr_tup3 (show Tr X (.tuple [.str "plus", b.d, c.d]) v1 from t1)
                walk_at "go"
                exact bad rfl
              | minus b c =>
                obtain ⟨u1, y1, y2, y3, rfl, hu2, _, _, _⟩ := tr_tup3 (show Tr X (.tuple [.str "minus", b.d, c.d]) v1 from t1)
                walk_at "go"
                exact bad rfl
              | times b c =>
                obtain ⟨u1, y1, y2, y3, rfl, hu2, _, _, _⟩ := tr_tup3 (show Tr X (.tuple [.str "times", .int b, c.d]) v1 from t1)
                walk_at "go"
                exact bad rfl
            · rw [show opW wl = "" by unfold opW; rw [if_neg w1, if_neg w2, if_neg w3]]
              walk_at "go"
              exact bad (by unfold opB; simp [w1, w2, w3])
      · rintro σ X' ⟨⟨rfl, rfl, hop⟩⟩
        obtain ⟨_, l3, mk⟩ := opB_data hop
        have hend : a + 1 + k + 3 ≤ z.length := by
          have : (((tl z).drop a).drop (1 + k)).take 3 = wl := ewl
          have := congrArg List.length this
          rw [l3, List.length_take, List.length_drop, List.length_drop, ← len_tl] at this
          omega
        have ea3 : ((a + 1 + k : Nat) : Int) + 3 = ((a + 1 + k + 3 : Nat) : Int) := rfl
        have ed3 : ((tl z).drop a).drop (1 + k + 3) = (tl z).drop (a + 1 + k + 3) := by rw [List.drop_drop, ← Nat.add_assoc, ← Nat.add_assoc]
        rw [if_pos hop, ed3] at q non
        walk_at "go"
        intro t2 H2 ht2 k2
        cases e2 : pE n ((tl z).drop (a + 1 + k + 3)) with
        | none =>
          rw [e2] at ht2 non
          have et : t2 = .non := by simpa only [shO, exO, Option.map_none, Tr] using ht2
          subst et
          walk_at "go"
          exact non rfl H2 (k1.trans k2)
        | some p2 =>
          obtain ⟨two, m⟩ := p2
          rw [e2] at ht2 non q
          obtain ⟨u2, y1, y2, rfl, hu2, s1, s2⟩ := tr_tup2 (show Tr H2 (.tuple [two.d, .int ((a + 1 + k + 3 + m : Nat) : Int)]) t2 from ht2)
          cases tr_int s2
          have lm := pE_le e2
          rw [List.length_drop, ← len_tl] at lm
          have ec1 := cut_mid z (show a + 1 + k + 3 + m ≤ a + 1 + k + 3 + m + 1 by omega)
          rw [show a + 1 + k + 3 + m + 1 - (a + 1 + k + 3 + m) = 1 by omega] at ec1
          have c41 : tl (Str.ofString ")") = [41] := by decide +kernel
          have eh : (((tl z).drop a).drop (1 + k + 3 + m)).head? = ((tl z).drop (a + 1 + k + 3 + m)).head? := by rw [List.drop_drop, show a + (1 + k + 3 + m) = a + 1 + k + 3 + m by omega]
          have e41 : ((tl z).drop (a + 1 + k + 3 + m)).take 1 = [41] ↔ ((tl z).drop (a + 1 + k + 3 + m)).head? = some 41 := take1_head _ _
          obtain ⟨e, ee, de⟩ := mk two
          dsimp only at q non
          rw [ee] at q non
          rw [eh] at q non
          have a2 := k2.tr t1
          walk_at "go"
          rw [show cutS z (some ((a + 1 + k + 3 + m : Nat) : Int)) (some (((a + 1 + k + 3 + m : Nat) : Int) + 1)) = mkS (((tl z).drop (a + 1 + k + 3 + m)).take 1) from ec1, str_lit c41]
          refine ite2 (fun h5 => ?_) (fun h5 => ?_)
          · have h5 : ¬ ((tl z).drop (a + 1 + k + 3 + m)).head? = some 41 := fun zz => by rw [decide_eq_true (e41.mpr zz)] at h5; exact absurd h5 (by decide)
            rw [if_neg h5] at non
            walk_at "go"
            exact non rfl H2 (k1.trans k2)
          · have h5 : ((tl z).drop (a + 1 + k + 3 + m)).head? = some 41 := e41.mp (by simpa using h5)
            rw [if_pos h5] at q
            walk_at "go"
            intro p6 H6 hp6 e6
            have k6 := new_kp hp6 e6
            have hu26 := k6.tup _ _ hu2
            have a6 := new_at e6
            walk_at "go"
            intro p7 H7 hp7 e7
            have k7 := new_kp hp7 e7
            refine q (.ref p7) H7 ?_ (((k1.trans k2).trans k6).trans k7)
            have de2 : Tr H7 e.d (.ref p6) := by
              rw [de]
              exact mk_tup (k7.tup _ _ a6) (trs_cons mk_str (trs_cons (k7.tr (k6.tr a2)) (trs_cons (k7.tr (k6.tr s1)) trs_nil)))
            show Tr H7 (.tuple [e.d, .int ((a + (1 + k + 3 + m + 1) : Nat) : Int)]) (.ref p7)
            rw [show ((a + (1 + k + 3 + m + 1) : Nat) : Int) = ((a + 1 + k + 3 + m : Nat) : Int) + 1 by omega]
            exact mk_tup (new_at e7) (trs_cons de2 (trs_cons mk_int trs_nil))
end
section
open TL
variable {P : Program} {w : World} {K : PySem.W.Frag} {mg : Str → Option Value} {base : Heap}
theorem ok_expression_at (T : Top K mg) (DW : WdOk K w T.WORDS) : ∀ n : Nat, FnOk P w K mg base CX0 (2 * n + 4) T.expression_at.f T.expression_at.fd ["text", "at", "deep"] (spEAt n)
  | n => by
    have G_sum_at : FnOk P w K mg base CX0 (2 * n + 3) T.sum_at.f T.sum_at.fd ["text", "at", "deep"] (sp0L spSumAt n) := by
      cases n with
      | zero => exact fn_no (fun _ _ _ _ ⟨_, e, _⟩ => nomatch e)
      | succ m => exact (ok_sum_at T DW (ok_expression_at T DW m)).imp fun _ _ _ _ ⟨N', e, h⟩ => (Nat.succ.inj e) ▸ h
    have G_integer_of := ok_integer_of (P := P) (w := w) (base := base) (k := 0) T
    have G_is_name_texts := ok_is_name_texts (P := P) (w := w) (base := base) (k := 0) T
    refine T.expression_at.F.ok sc_expression_at (fun vs H Q E h => ?_) (fun cdv A outer s H vs Q E hr h => ?_)
    · obtain ⟨z, ai, a, deep, rfl, _⟩ := h
      rfl
    obtain ⟨z, ai, a, deep, rfl, rfl, sz, ha, hde, q⟩ := h
    have hu := hu_of hr
    refine ⟨_, (pss_cons (ps_if (pt_cmpR op_gt (pv 2) (pe_glob (v := .int 20) (by rfl) T.g_MOST_DEEP ⟨_, rfl⟩) (nomark _)) (pss_one (ps_ret pe_non)) pss_nil)
      (pss_cons (ps_if (pt_cmpR op_eq (pe_slice sl_str (pv 0) (po_some (pv 1)) (po_some (pe_op op_add (pv 1) pe_int))) pe_str (nomark _)) (pss_one (ps_ret (pe_call G_sum_at (hr.mono (by omega)) (by rfl) T.sum_at.g T.sum_at.F.kp T.sum_at.b .nil pass0 (pa_cons (pv 0) (pa_cons (pv 1) (pa_cons (pv 2) pa_nil)))))) pss_nil)
      (pss_cons (ps_set (i := 3) sc_expression_at.nd rfl (.inl rfl) (pv 1))
      (pss_cutA (ps_whileA (ps_while PassesOwn.never (PW.pt (pw_and (pt_cmpR op_lt (pv 3) (pe_callB (id := "len") call_len_str (by rfl) T.len PySem.boot_len (pa_cons (pv 0) pa_nil)) (nomark _)) (pw_and1 (pt_cmpR (op_notIn_seqK (K := K) rfl) (pe_ix ix_str (pv 0) (pv 3) (fun _ _ => rfl)) (pe_tupA (pa_cons pe_str (pa_cons pe_str (pa_cons pe_str pa_nil)))) (by rfl))))) (pss_one (ps_aug (i := 3) sc_expression_at.nd rfl (.inl rfl) pe_int ip_add))))
      (pss_cons (ps_set (i := 4) sc_expression_at.nd rfl (.inl rfl) (pe_call G_integer_of (hr.mono (by omega)) (by rfl) T.integer_of.g T.integer_of.F.kp T.integer_of.b .nil pass0 (pa_cons (pe_slice sl_str (pv 0) (po_some (pv 1)) (po_some (pv 3))) (pa_cons (pe_glob (v := .int 20) (by rfl) T.g_MOST_FIGURES ⟨_, rfl⟩) pa_nil))))
      (pss_cons (ps_if (pt_cmpR op_notN (pv 4) pe_non (nomark _)) (pss_one (ps_ret (pe_tupA (pa_cons (pv 4) (pa_cons (pv 3) pa_nil))))) pss_nil)
      (pss_one (ps_ret (pe_ifExp (pt_val (pe_call G_is_name_texts (hr.mono (by omega)) (by rfl) T.is_name_texts.g T.is_name_texts.F.kp T.is_name_texts.b .nil pass0 (pa_cons (pe_slice sl_str (pv 0) (po_some (pv 1)) (po_some (pv 3))) pa_nil))) (pe_tupA (pa_cons (pe_slice sl_str (pv 0) (po_some (pv 1)) (po_some (pv 3))) (pa_cons (pv 3) pa_nil))) pe_non))))))))), ?_⟩
    have lz : z.length ≤ sizeLine := sz_le sz
    walk_at "go"
    refine ite2 (fun hc => ?_) (fun hc => ?_)
    · have hc := of_decide_eq_true hc
      obtain rfl : n = 0 := by omega
      walk_at "go"
      exact q .non H (by simp only [pE, shO, exO, Option.map_none, Tr]) Kp.refl
    · have hc := of_decide_eq_false (Bool.eq_false_iff.mpr hc)
      obtain ⟨n1, rfl⟩ : ∃ m, n = m + 1 := ⟨n - 1, by omega⟩
      have ec := cut_mid z (show a ≤ a + 1 by omega)
      rw [show a + 1 - a = 1 by omega] at ec
      have c40 : tl (Str.ofString "(") = [40] := by decide +kernel
      have e40 : ((tl z).drop a).take 1 = [40] ↔ ((tl z).drop a).head? = some 40 := take1_head _ _
      walk_at "go"
      rw [show cutS z (some (a : Int)) (some ((a : Int) + 1)) = mkS (((tl z).drop a).take 1) from ec, str_lit c40]
      refine ite2 (fun h5 => ?_) (fun h5 => ?_)
      · have h5 : ((tl z).drop a).head? = some 40 := e40.mp (of_decide_eq_true h5)
        walk_at "go"
        intro t H' ht k'
        exact q t H' ht k'
      · have h5 : ¬ ((tl z).drop a).head? = some 40 := fun zz => h5 (decide_eq_true (e40.mpr zz))
        have eat : pE (n1 + 1) ((tl z).drop a) = atomL ((tl z).drop a) := by rw [pE, if_neg h5]
        rw [eat] at q
        clear eat
        have ll : ((tl z).drop a).length = z.length - a := by rw [List.length_drop, ← len_tl]
        have tl1 := tok_len ((tl z).drop a)
        have e20 : (20 : Int) = ((20 : Nat) : Int) := rfl
        walk_at "go"
        refine ⟨⟨fun σ X => Lp (σ = [some (.str z), some (.int (a : Int)), some (.int deep), some (.int ((a + (tokL ((tl z).drop a)).length : Nat) : Int)), none] ∧ Kp [] H X), ?_, ?_⟩⟩
        · walk_at "go"
          refine ⟨fun m σ X => Lp (∃ j : Nat, m = (tokL ((tl z).drop a)).length - j ∧ j ≤ (tokL ((tl z).drop a)).length ∧ σ = [some (.str z), some (.int (a : Int)), some (.int deep), some (.int ((a + j : Nat) : Int)), none] ∧ Kp [] H X), ⟨_, ⟨0, rfl, Nat.zero_le _, rfl, Kp.refl⟩⟩, ?_⟩
          rintro m σ X ⟨⟨j, rfl, hj, rfl, kX⟩⟩
          walk_at "go"
          refine ite2 (fun h6 => ?_) (fun h6 => ?_)
          · have h6 := of_decide_eq_true h6
            obtain ⟨c, hcc⟩ : ∃ c, (tl z)[a + j]? = some c := ⟨_, List.getElem?_eq_getElem (by rw [← len_tl]; omega)⟩
            have hcl : ((tl z).drop a)[j]? = some c := by rw [List.getElem?_drop]; exact hcc
            have ac : atI z.cps.toList ((a + j : Nat) : Int) = some c := atI_nat hcc
            walk_at "go"
            intro p1 X1 hp1 e1
            have k1 := new_kp hp1 e1
            have a1 := new_at e1
            walk_at "go"
            rw [tok_in]
            cases htb : tokB c with
            | true =>
              refine iteT ?_
              have hj2 : j < (tokL ((tl z).drop a)).length := by
                rcases Nat.lt_or_ge j (tokL ((tl z).drop a)).length with y | y
                · exact y
                · obtain rfl : j = (tokL ((tl z).drop a)).length := by omega
                  rw [tok_end hcl] at htb
                  cases htb
              refine ⟨fun σ X => Lp (σ = [some (.str z), some (.int (a : Int)), some (.int deep), some (.int ((a + (j + 1) : Nat) : Int)), none] ∧ Kp [] H X), fun σ' H' x => ?_, ?_⟩
              · obtain ⟨⟨e, k'⟩⟩ := x
                exact ⟨(tokL ((tl z).drop a)).length - (j + 1), by omega, ⟨j + 1, rfl, hj2, e, k'⟩⟩
              · walk_at "go"
                exact ⟨rfl, kX.trans k1⟩
            | false =>
              refine iteF ?_
              obtain rfl : j = (tokL ((tl z).drop a)).length := by
                rcases Nat.lt_or_ge j (tokL ((tl z).drop a)).length with y | y
                · obtain ⟨c', h1, h2⟩ := tok_at y
                  rw [hcl] at h1
                  cases h1
                  rw [htb] at h2
                  cases h2
                · omega
              exact ⟨rfl, kX.trans k1⟩
          · have h6 := of_decide_eq_false (Bool.eq_false_iff.mpr h6)
            obtain rfl : j = (tokL ((tl z).drop a)).length := by omega
            walk_at "go"
            exact ⟨rfl, kX⟩
        · rintro σ X ⟨⟨rfl, kX⟩⟩
          have ec2 := cut_mid z (show a ≤ a + (tokL ((tl z).drop a)).length by omega)
          rw [show a + (tokL ((tl z).drop a)).length - a = (tokL ((tl z).drop a)).length by omega, tok_take] at ec2
          have lt2 : (mkS (tokL ((tl z).drop a))).length ≤ 1000000 := by rw [len_mkS]; omega
          walk_at "go"
          rw [ec2]
          refine ⟨lt2, fun X1 k1 => ?_⟩
          rw [tl_mkS]
          unfold atomL at q
          have kk := kX.trans k1
          cases e1 : intL 20 (tokL ((tl z).drop a)) with
          | some i =>
            rw [e1] at q
            walk_at "go"
            intro p2 X2 hp2 e2
            refine q (.ref p2) X2 ?_ (kk.trans (new_kp hp2 e2))
            exact mk_tup (new_at e2) (trs_cons mk_int (trs_cons mk_int trs_nil))
          | none =>
            rw [e1] at q
            walk_at "go"
            rw [ec2]
            refine ⟨lt2, fun X2 k2 => ?_⟩
            have kk2 := kk.trans k2
            cases e2 : nameT (mkS (tokL ((tl z).drop a))) with
            | true =>
              dsimp only at q
              rw [if_pos e2] at q
              walk_at "go"
              rw [ec2]
              intro p3 X3 hp3 e3
              refine q (.ref p3) X3 ?_ (kk2.trans (new_kp hp3 e3))
              exact mk_tup (new_at e3) (trs_cons mk_str (trs_cons mk_int trs_nil))
            | false =>
              dsimp only at q
              rw [if_neg (by rw [e2]; exact Bool.false_ne_true)] at q
              walk_at "go"
              exact q .non X2 (by simp only [shO, exO, Option.map_none, Tr]) kk2
end
section
open TL
variable {P : Program} {w : World} {K : PySem.W.Frag} {mg : Str → Option Value} {base : Heap}
theorem ok_expression_of (T : Top K mg) (DW : WdOk K w T.WORDS) : FnOk P w K mg base CX0 45 T.expression_of.f T.expression_of.fd ["text"] spX := by
  have G_expression_at := ok_expression_at (P := P) (w := w) (base := base) T DW 20
  refine T.expression_of.F.ok sc_expression_of (fun vs H Q E h => ?_) (fun cdv A outer s H vs Q E hr h => ?_)
  · obtain ⟨z, rfl, _⟩ := h
    rfl
  obtain ⟨z, rfl, sz, q⟩ := h
  have hu := hu_of hr
  refine ⟨_, (pss_cons (ps_set (i := 1) sc_expression_of.nd rfl (.inl rfl) (pe_call G_expression_at (hr.mono (by omega)) (by rfl) T.expression_at.g T.expression_at.F.kp T.expression_at.b .nil pass0 (pa_cons (pv 0) (pa_cons pe_int (pa_cons pe_int pa_nil)))))
      (pss_one (ps_ret (pe_ifExp (PW.pt (pw_and (pt_cmpR op_notN (pv 1) pe_non (nomark _)) (pw_and1 (pt_cmpR op_eq (pe_ix (ix_tupK (K := K) rfl) (pv 1) pe_int (fun _ _ => rfl)) (pe_callB (id := "len") call_len_str (by rfl) T.len PySem.boot_len (pa_cons (pv 0) pa_nil)) (nomark _))))) (pe_ix (ix_tupK (K := K) rfl) (pv 1) pe_int (fun _ _ => rfl)) pe_non)))), ?_⟩
  have lz : z.length ≤ sizeLine := sz_le sz
  have e0 : (0 : Int) = ((0 : Nat) : Int) := rfl
  have e1 : (1 : Int) + ((20 : Nat) : Int) = 21 := rfl
  walk_at "go"
  intro t H1 ht k1
  rw [List.drop_zero] at ht
  unfold pX at q
  cases e2 : pE 20 (tl z) with
  | none =>
    rw [e2] at ht q
    obtain rfl : t = .non := by simpa only [shO, exO, Option.map_none, Tr] using ht
    walk_at "go"
    exact q .non H1 (by simp only [eO, Tr]) k1
  | some p =>
    obtain ⟨e, k⟩ := p
    rw [e2] at ht q
    obtain ⟨u, v1, v2, rfl, hu1, t1, t2⟩ := tr_tup2 (show Tr H1 (.tuple [e.d, .int ((0 + k : Nat) : Int)]) t from ht)
    cases tr_int t2
    walk_at "go"
    dsimp only at q
    refine ite2 (fun hc => ?_) (fun hc => ?_)
    · have hc : k = (tl z).length := by
        have := V.int.inj (of_decide_eq_true hc)
        rw [← len_tl]
        omega
      rw [if_pos hc] at q
      walk_at "go"
      exact q v1 H1 t1 k1
    · have hc : ¬ k = (tl z).length := fun zz => by
        rw [← len_tl] at zz
        exact hc (decide_eq_true (by rw [zz, Nat.zero_add]))
      rw [if_neg hc] at q
      walk_at "go"
      exact q .non H1 (by simp only [eO, Tr]) k1
theorem ok_plain_test_of (T : Top K mg) (DW : WdOk K w T.WORDS) : FnOk P w K mg base CX0 46 T.plain_test_of.f T.plain_test_of.fd ["text"] spPlainT := by
  have G_expression_at := ok_expression_at (P := P) (w := w) (base := base) T DW 20
  have G_expression_of := ok_expression_of (P := P) (w := w) (base := base) T DW
  refine T.plain_test_of.F.ok sc_plain_test_of (fun vs H Q E h => ?_) (fun cdv A outer s H vs Q E hr h => ?_)
  · obtain ⟨z, rfl, _⟩ := h
    rfl
  obtain ⟨z, rfl, sz, q⟩ := h
  have hu := hu_of hr
  refine ⟨_, (pss_cons (ps_if (pt_val (pe_m1 PySem.F.slot_str_startswith PySem.F.type_str_startswith mt_startswith (pv 0) pe_str)) (pss_cons (ps_set (i := 1) sc_plain_test_of.nd rfl (.inl rfl) (pe_call G_expression_of (hr.mono (by omega)) (by rfl) T.expression_of.g T.expression_of.F.kp T.expression_of.b .nil pass0 (pa_cons (pe_slice sl_str (pv 0) (po_some pe_int) po_none) pa_nil)))
      (pss_one (ps_ret (pe_ifExp (pt_cmpR op_isN (pv 1) pe_non (nomark _)) pe_non (pe_tupA (pa_cons pe_str (pa_cons (pv 1) pa_nil))))))) pss_nil)
      (pss_cons (ps_set (i := 2) sc_plain_test_of.nd rfl (.inl rfl) (pe_call G_expression_at (hr.mono (by omega)) (by rfl) T.expression_at.g T.expression_at.F.kp T.expression_at.b .nil pass0 (pa_cons (pv 0) (pa_cons pe_int (pa_cons pe_int pa_nil)))))
      (pss_cons (ps_if (PW.pt (pw_or (pt_cmpR op_isN (pv 2) pe_non (nomark _)) (pw_or1 (pt_cmpR op_ne (pe_slice sl_str (pv 0) (po_some (pe_ix (ix_tupK (K := K) rfl) (pv 2) pe_int (fun _ _ => rfl))) (po_some (pe_op op_add (pe_ix (ix_tupK (K := K) rfl) (pv 2) pe_int (fun _ _ => rfl)) pe_int))) pe_str (nomark _))))) (pss_one (ps_ret pe_non)) pss_nil)
      (pss_cons (ps_set (i := 3) sc_plain_test_of.nd rfl (.inl rfl) (pe_call G_expression_of (hr.mono (by omega)) (by rfl) T.expression_of.g T.expression_of.F.kp T.expression_of.b .nil pass0 (pa_cons (pe_slice sl_str (pv 0) (po_some (pe_op op_add (pe_ix (ix_tupK (K := K) rfl) (pv 2) pe_int (fun _ _ => rfl)) pe_int)) po_none) pa_nil)))
      (pss_one (ps_ret (pe_ifExp (pt_cmpR op_isN (pv 3) pe_non (nomark _)) pe_non (pe_tupA (pa_cons pe_str (pa_cons (pe_ix (ix_tupK (K := K) rfl) (pv 2) pe_int (fun _ _ => rfl)) (pa_cons (pv 3) pa_nil))))))))))), ?_⟩
  have lz : z.length ≤ sizeLine := sz_le sz
  have e0 : (0 : Int) = ((0 : Nat) : Int) := rfl
  have e1 : (1 : Int) + ((20 : Nat) : Int) = 21 := rfl
  have eodd : tl (Str.ofString "odd ") = ODDL := by decide +kernel
  have eles : tl (Str.ofString " < ") = LESSL := by decide +kernel
  have est : Txt.startswith z (Str.ofString "odd ") = pre ODDL (tl z) := by rw [starts_pre z (Str.ofString "odd ") (by rw [eodd]; unfold ODDL; simp), eodd]
  have c4 : cutS z (some (4 : Int)) none = mkS ((tl z).drop 4) := cut_from z 4
  have l4 : ∀ i, (mkS ((tl z).drop i)).length ≤ 1000000 := fun i => by rw [len_mkS, List.length_drop, ← len_tl]; omega
  unfold pP at q
  walk_at "go"
  refine ⟨⟨_, rfl⟩, ?_⟩
  walk_at "go"
  rw [est]
  refine ite2 (fun hc => ?_) (fun hc => ?_)
  · rw [if_pos hc] at q
    walk_at "go"
    rw [c4]
    refine ⟨l4 4, fun t H1 ht k1 => ?_⟩
    rw [tl_mkS] at ht
    cases e : pX ((tl z).drop 4) with
    | none =>
      rw [e] at ht q
      obtain rfl : t = .non := by simpa only [eO, Tr] using ht
      walk_at "go"
      exact q .non H1 (by simp only [tO, Option.map_none, Tr]) k1
    | some x =>
      rw [e] at ht q
      have nn := ex_non (e := x) ht
      walk_at "go"
      rw [nn]
      refine iteF ?_
      walk_at "go"
      intro p2 H2 hp2 e2
      have k2 := new_kp hp2 e2
      exact q (.ref p2) H2 (mk_tup (new_at e2) (trs_cons mk_str (trs_cons (k2.tr ht) trs_nil))) (k1.trans k2)
  · rw [if_neg hc] at q
    walk_at "go"
    intro t H1 ht k1
    rw [List.drop_zero] at ht
    cases e2 : pE 20 (tl z) with
    | none =>
      rw [e2] at ht q
      obtain rfl : t = .non := by simpa only [shO, exO, Option.map_none, Tr] using ht
      walk_at "go"
      exact q .non H1 (by simp only [tO, Tr]) k1
    | some p =>
      obtain ⟨x, k⟩ := p
      rw [e2] at ht q
      obtain ⟨u, v1, v2, rfl, hu1, t1, t2⟩ := tr_tup2 (show Tr H1 (.tuple [x.d, .int ((0 + k : Nat) : Int)]) t from ht)
      cases tr_int t2
      rw [Nat.zero_add] at hu1
      dsimp only at q
      have ec := cut_mid z (show k ≤ k + 3 by omega)
      rw [show k + 3 - k = 3 by omega] at ec
      have ef := cut_from z (k + 3)
      walk_at "go"
      rw [show cutS z (some (k : Int)) (some ((k : Int) + 3)) = mkS (((tl z).drop k).take 3) from ec, str_lit eles]
      refine ite2 (fun h5 => ?_) (fun h5 => ?_)
      · have h5 : ¬ ((tl z).drop k).take 3 = LESSL := by simpa using h5
        rw [if_neg h5] at q
        walk_at "go"
        exact q .non H1 (by simp only [tO, Tr]) k1
      · have h5 : ((tl z).drop k).take 3 = LESSL := by simpa using h5
        rw [if_pos h5] at q
        walk_at "go"
        rw [show cutS z (some ((k : Int) + 3)) none = mkS ((tl z).drop (k + 3)) from ef]
        refine ⟨l4 (k + 3), fun t3 H3 ht3 k3 => ?_⟩
        rw [tl_mkS] at ht3
        cases e : pX ((tl z).drop (k + 3)) with
        | none =>
          rw [e] at ht3 q
          obtain rfl : t3 = .non := by simpa only [eO, Tr] using ht3
          walk_at "go"
          exact q .non H3 (by simp only [tO, Option.map_none, Tr]) (k1.trans k3)
        | some y =>
          rw [e] at ht3 q
          have nn := ex_non (e := y) ht3
          have hu3 := k3.tup _ _ hu1
          walk_at "go"
          rw [nn]
          refine iteF ?_
          walk_at "go"
          intro p2 H2 hp2 e2
          have k2 := new_kp hp2 e2
          exact q (.ref p2) H2 (mk_tup (new_at e2) (trs_cons mk_str (trs_cons (k2.tr (k3.tr t1)) (trs_cons (k2.tr ht3) trs_nil)))) ((k1.trans k3).trans k2)
theorem ok_test_of (T : Top K mg) (DW : WdOk K w T.WORDS) : FnOk P w K mg base CX0 47 T.test_of.f T.test_of.fd ["text"] spTestOf := by
  have G_plain_test_of := ok_plain_test_of (P := P) (w := w) (base := base) T DW
  refine T.test_of.F.ok sc_test_of (fun vs H Q E h => ?_) (fun cdv A outer s H vs Q E hr h => ?_)
  · obtain ⟨z, rfl, _⟩ := h
    rfl
  obtain ⟨z, rfl, sz, q⟩ := h
  have hu := hu_of hr
  refine ⟨_, (pss_cons (ps_set (i := 1) sc_test_of.nd rfl (.inl rfl) pe_int)
      (pss_cutA (ps_whileA (ps_while PassesOwn.never (pt_val (pe_m1 PySem.F.slot_str_startswith PySem.F.type_str_startswith mt_startswith (pv 0) pe_str)) (pss_cons (ps_aug (i := 1) sc_test_of.nd rfl (.inl rfl) pe_int ip_add)
      (pss_one (ps_set (i := 0) sc_test_of.nd rfl (.inl rfl) (pe_slice sl_str (pv 0) (po_some pe_int) po_none))))))
      (pss_cons (ps_set (i := 2) sc_test_of.nd rfl (.inl rfl) (pe_call G_plain_test_of (hr.mono (by omega)) (by rfl) T.plain_test_of.g T.plain_test_of.F.kp T.plain_test_of.b .nil pass0 (pa_cons (pv 0) pa_nil)))
      (pss_cons (ps_if (PW.pt (pw_or (pt_cmpR op_isN (pv 2) pe_non (nomark _)) (pw_or1 (pt_cmpR op_gt (pv 1) (pe_glob (v := .int 20) (by rfl) T.g_MOST_NOTS ⟨_, rfl⟩) (nomark _))))) (pss_one (ps_ret pe_non)) pss_nil)
      (pss_cons (ps_forA (ps_for PassesOwn.never rfl (pi_range1 (by rfl) T.range (pa_cons (pv 1) pa_nil)) (pg_name (i := 3) sc_test_of.nd rfl (.inl rfl)) (pss_one (ps_set (i := 2) sc_test_of.nd rfl (.inl rfl) (pe_tupA (pa_cons pe_str (pa_cons (pv 2) pa_nil)))))))
      (pss_one (ps_ret (pv 2)))))))), ?_⟩
  have lz : z.length ≤ sizeLine := sz_le sz
  have enot : tl (Str.ofString "not ") = NOTL := by decide +kernel
  unfold pT at q
  walk_at "go"
  refine ⟨⟨fun σ X => Lp (σ = [some (.str (mkS (notsF (tl z)).2)), some (.int ((notsF (tl z)).1 : Int)), none, none] ∧ X = H ∧ (notsF (tl z)).2.length ≤ 1000000), ?_, ?_⟩⟩
  · walk_at "go"
    refine ⟨fun m σ X => Lp (∃ (j : Nat) (l : List Nat), m = l.length ∧ σ = [some (.str (mkS l)), some (.int (j : Int)), none, none] ∧ X = H ∧ l.length ≤ 1000000 ∧ notsF (tl z) = (j + (notsF l).1, (notsF l).2)), ⟨_, ⟨0, tl z, rfl, by rw [mkS_tl]; rfl, rfl, by rw [← len_tl]; exact sz, by rw [Nat.zero_add]⟩⟩, ?_⟩
    rintro m σ X ⟨⟨j, l, rfl, rfl, rfl, hl, en⟩⟩
    have est : Txt.startswith (mkS l) (Str.ofString "not ") = pre NOTL l := by rw [starts_pre (mkS l) (Str.ofString "not ") (by rw [enot]; unfold NOTL; simp), enot, tl_mkS]
    walk_at "go"
    refine ⟨⟨_, rfl⟩, ?_⟩
    walk_at "go"
    rw [est]
    cases hp : pre NOTL l with
    | true =>
      obtain ⟨e1, e2⟩ := notsF_step hp
      refine iteT ?_
      refine ⟨fun σ X' => Lp (σ = [some (.str (mkS (l.drop 4))), some (.int ((j + 1 : Nat) : Int)), none, none] ∧ X' = X), fun σ' H' x => ?_, ?_⟩
      · obtain ⟨⟨e, k'⟩⟩ := x
        refine ⟨(l.drop 4).length, e2, ⟨j + 1, l.drop 4, rfl, e, k', by omega, ?_⟩⟩
        rw [en, e1]
        exact Prod.ext (by show j + ((notsF (l.drop 4)).1 + 1) = j + 1 + (notsF (l.drop 4)).1; omega) rfl
      · have c4 : cutS (mkS l) (some (4 : Int)) none = mkS (l.drop 4) := (cut_from (mkS l) 4).trans (by rw [tl_mkS])
        have ll : (mkS l).length ≤ sizeLine := sz_le (by rw [len_mkS]; exact hl)
        walk_at "go"
        rw [c4]
        exact ⟨rfl, rfl⟩
    | false =>
      rw [notsF_stop hp] at en
      refine iteF ?_
      rw [en]
      exact ⟨rfl, rfl, hl⟩
  · rintro σ X ⟨⟨rfl, rfl, hl⟩⟩
    generalize notsF (tl z) = nl at q hl
    obtain ⟨k, l⟩ := nl
    dsimp only at q hl
    have ll : (mkS l).length ≤ 1000000 := by rw [len_mkS]; exact hl
    walk_at "go"
    intro t H1 ht k1
    rw [tl_mkS] at ht
    cases e : pP l with
    | none =>
      rw [e] at ht q
      obtain rfl : t = .non := by simpa only [tO, Tr] using ht
      walk_at "go"
      exact q .non H1 (by simp only [tO, Tr]) k1
    | some y =>
      rw [e] at ht q
      dsimp only at q
      obtain ⟨u, rfl⟩ := ts_ref (e := y) ht
      walk_at "go"
      refine ite2 (fun h5 => ?_) (fun h5 => ?_)
      · have h5 := of_decide_eq_true h5
        rw [if_pos (by omega)] at q
        walk_at "go"
        exact q .non H1 (by simp only [tO, Tr]) k1
      · have h5 := of_decide_eq_false (Bool.eq_false_iff.mpr h5)
        rw [if_neg (by omega)] at q
        walk_at "go"
        refine ⟨for_range (lo := 0) (n := Int.toNat ((k : Nat) : Int)) (fun i σ X2 => Lp (∃ (v : V) (w3 : Option V), σ = [some (.str (mkS l)), some (.int (k : Int)), some v, w3] ∧ Tr X2 (nots i y).d v ∧ Kp [] X X2)) ⟨.ref u, none, rfl, ht, k1⟩ ?_ ?_⟩
        · rintro i σ X2 hi ⟨⟨v, w3, rfl, tv, k2⟩⟩
          walk_at "go"
          intro p3 X3 hp3 e3
          have k3 := new_kp hp3 e3
          exact ⟨.ref p3, _, rfl, mk_tup (new_at e3) (trs_cons mk_str (trs_cons (k3.tr tv) trs_nil)), k2.trans k3⟩
        · rintro σ X2 ⟨⟨v, w3, rfl, tv, k2⟩⟩
          rw [Int.toNat_natCast] at tv
          walk_at "go"
          exact q v X2 tv k2
theorem ok_setting_of (T : Top K mg) (DW : WdOk K w T.WORDS) : FnOk P w K mg base CX0 46 T.setting_of.f T.setting_of.fd ["name", "text"] spSetting := by
  have G_expression_of := ok_expression_of (P := P) (w := w) (base := base) T DW
  have G_is_name_texts := ok_is_name_texts (P := P) (w := w) (base := base) (k := 0) T
  refine T.setting_of.F.ok sc_setting_of (fun vs H Q E h => ?_) (fun cdv A outer s H vs Q E hr h => ?_)
  · obtain ⟨x, z, rfl, _⟩ := h
    rfl
  obtain ⟨x, z, rfl, sx, sz, q⟩ := h
  have hu := hu_of hr
  refine ⟨_, (pss_cons (ps_set (i := 2) sc_setting_of.nd rfl (.inl rfl) pe_str)
      (pss_cutA (ps_if (PW.pt (pw_or (pt_not (pt_val (pe_call G_is_name_texts (hr.mono (by omega)) (by rfl) T.is_name_texts.g T.is_name_texts.F.kp T.is_name_texts.b .nil pass0 (pa_cons (pv 0) pa_nil)))) (pw_or1 (pt_not (pt_val (pe_m1 PySem.F.slot_str_startswith PySem.F.type_str_startswith mt_startswith (pv 1) pe_str)))))) (pss_one (ps_ret pe_non)) pss_nil)
      (pss_cons (ps_set (i := 1) sc_setting_of.nd rfl (.inl rfl) (pe_slice sl_str (pv 1) (po_some pe_int) po_none))
      (pss_cutA (ps_if (pt_val (pe_m1 PySem.F.slot_str_startswith PySem.F.type_str_startswith mt_startswith (pv 1) pe_str)) (pss_one (ps_par (i := 2) (j := 1) (by rfl) sc_setting_of.nd rfl rfl (by decide) rfl rfl (pa_cons pe_str (pa_cons (pe_slice sl_str (pv 1) (po_some pe_int) po_none) pa_nil)) (by rfl))) pss_nil)
      (pss_cons (ps_set (i := 3) sc_setting_of.nd rfl (.inl rfl) (pe_call G_expression_of (hr.mono (by omega)) (by rfl) T.expression_of.g T.expression_of.F.kp T.expression_of.b .nil pass0 (pa_cons (pv 1) pa_nil)))
      (pss_one (ps_ret (pe_ifExp (pt_cmpR op_isN (pv 3) pe_non (nomark _)) pe_non (pe_tupA (pa_cons (pv 2) (pa_cons (pv 0) (pa_cons (pv 3) pa_nil)))))))))))), ?_⟩
  have lz : z.length ≤ sizeLine := sz_le sz
  have eeq : tl (Str.ofString "= ") = EQL := by decide +kernel
  have ehf : tl (Str.ofString "half ") = HALFL := by decide +kernel
  have est : Txt.startswith z (Str.ofString "= ") = pre EQL (tl z) := by rw [starts_pre z (Str.ofString "= ") (by rw [eeq]; unfold EQL; simp), eeq]
  unfold setL at q
  walk_at "go"
  have no : ∀ H', Kp [] H H' → (nameT x && pre EQL (tl z)) = false → Q .non H' := fun H' k' h => by
    rw [if_neg (by rw [h]; exact Bool.false_ne_true)] at q
    exact q .non H' (by simp only [sO, Tr]) k'
  refine ⟨⟨fun σ X => Lp (σ = [some (.str x), some (.str z), some (.str "set"), none] ∧ Kp [] H X ∧ (nameT x && pre EQL (tl z)) = true), ?_, ?_⟩⟩
  · walk_at "go"
    intro H1 k1
    walk_at "go"
    cases hn : nameT x with
    | false =>
      rw [hn] at no
      refine iteT ?_
      refine iteT ?_
      exact no H1 k1 rfl
    | true =>
      rw [hn, Bool.true_and] at no
      refine iteF ?_
      walk_at "go"
      refine ⟨⟨_, rfl⟩, ?_⟩
      walk_at "go"
      rw [est]
      cases hp : pre EQL (tl z) with
      | false =>
        walk_at "go"
        exact no H1 k1 hp
      | true =>
        walk_at "go"
        exact ⟨rfl, k1, rfl⟩
  · rintro σ X ⟨⟨rfl, kX, hb⟩⟩
    rw [if_pos hb] at q
    have c2 : cutS z (some (2 : Int)) none = mkS ((tl z).drop 2) := cut_from z 2
    generalize hl2 : (tl z).drop 2 = l2 at q c2
    have ll2 : (mkS l2).length ≤ 1000000 := by rw [len_mkS, ← hl2, List.length_drop, ← len_tl]; omega
    have lz2 : (mkS l2).length ≤ sizeLine := sz_le ll2
    have c5 : cutS (mkS l2) (some (5 : Int)) none = mkS (l2.drop 5) := (cut_from (mkS l2) 5).trans (by rw [tl_mkS])
    have est2 : Txt.startswith (mkS l2) (Str.ofString "half ") = pre HALFL l2 := by rw [starts_pre (mkS l2) (Str.ofString "half ") (by rw [ehf]; unfold HALFL; simp), ehf, tl_mkS]
    walk_at "go"
    rw [c2]
    refine ⟨⟨fun σ X' => Lp (∃ (wd : Str) (l3 : List Nat), σ = [some (.str x), some (.str (mkS l3)), some (.str wd), none] ∧ X' = X ∧ l3.length ≤ 1000000 ∧ (if pre HALFL l2 = true then (pX (l2.drop 5)).map fun e => [PyData.str "half", .str x, e.d] else (pX l2).map fun e => [PyData.str "set", .str x, e.d]) = (pX l3).map fun e => [PyData.str wd, .str x, e.d]), ?_, ?_⟩⟩
    · walk_at "go"
      refine ⟨⟨_, rfl⟩, ?_⟩
      walk_at "go"
      rw [est2]
      cases hp : pre HALFL l2 with
      | true =>
        walk_at "go"
        rw [c5]
        exact ⟨_, _, rfl, rfl, by rw [List.length_drop, ← len_mkS l2]; omega, rfl⟩
      | false =>
        walk_at "go"
        exact ⟨_, _, rfl, rfl, by rw [← len_mkS l2]; exact ll2, rfl⟩
    · rintro σ X' ⟨⟨wd, l3, rfl, rfl, hl3, e3⟩⟩
      rw [e3] at q
      have ll3 : (mkS l3).length ≤ 1000000 := by rw [len_mkS]; exact hl3
      walk_at "go"
      intro t H1 ht k1
      rw [tl_mkS] at ht
      cases e : pX l3 with
      | none =>
        rw [e] at ht q
        obtain rfl : t = .non := by simpa only [eO, Tr] using ht
        walk_at "go"
        exact q .non H1 (by simp only [sO, Option.map_none, Tr]) (kX.trans k1)
      | some y =>
        rw [e] at ht q
        have nn := ex_non (e := y) ht
        walk_at "go"
        rw [nn]
        refine iteF ?_
        walk_at "go"
        intro p2 H2 hp2 e2
        have k2 := new_kp hp2 e2
        exact q (.ref p2) H2 (mk_tup (new_at e2) (trs_cons mk_str (trs_cons mk_str (trs_cons (k2.tr ht) trs_nil)))) ((kX.trans k1).trans k2)
theorem ok_statement_of (T : Top K mg) (DW : WdOk K w T.WORDS) : FnOk P w K mg base CX0 48 T.statement_of.f T.statement_of.fd ["line"] spStmtOf := by
  have G_expression_of := ok_expression_of (P := P) (w := w) (base := base) T DW
  have G_test_of := ok_test_of (P := P) (w := w) (base := base) T DW
  have G_setting_of := ok_setting_of (P := P) (w := w) (base := base) T DW
  have G_is_word_texts := ok_is_word_texts (P := P) (w := w) (base := base) (k := 0) T
  have G_integer_of := ok_integer_of (P := P) (w := w) (base := base) (k := 0) T
  refine T.statement_of.F.ok sc_statement_of (fun vs H Q E h => ?_) (fun cdv A outer s H vs Q E hr h => ?_)
  · obtain ⟨z, rfl, _⟩ := h
    rfl
  obtain ⟨z, rfl, sz, q⟩ := h
  have hu := hu_of hr
  refine ⟨_, (pss_cons (ps_asg (pe_partition (pv 0) pe_str) (pg_tup (by rfl) (pgs_cons (pg_name (i := 1) sc_statement_of.nd rfl (.inl rfl)) (pgs_cons (pg_name (i := 2) sc_statement_of.nd rfl (.inl rfl)) (pgs_cons (pg_name (i := 3) sc_statement_of.nd rfl (.inl rfl)) pgs_nil)))))
      (pss_cons (ps_if (pt_cmpR (op_in_seqK (K := K) rfl) (pv 1) (pe_tupA (pa_cons pe_str (pa_cons pe_str pa_nil))) (by rfl)) (pss_one (ps_ret (pe_ifExp (pt_val (pe_call G_is_word_texts (hr.mono (by omega)) (by rfl) T.is_word_texts.g T.is_word_texts.F.kp T.is_word_texts.b .nil pass0 (pa_cons (pv 3) (pa_cons (pe_glob (v := .int 8) (by rfl) T.g_MAX_WORD ⟨_, rfl⟩) pa_nil)))) (pe_tupA (pa_cons (pv 1) (pa_cons (pv 3) pa_nil))) pe_non))) pss_nil)
      (pss_cons (ps_if (pt_cmpR (op_notIn_seqK (K := K) rfl) (pv 1) (pe_tupA (pa_cons pe_str (pa_cons pe_str (pa_cons pe_str pa_nil)))) (by rfl)) (pss_one (ps_ret (pe_call G_setting_of (hr.mono (by omega)) (by rfl) T.setting_of.g T.setting_of.F.kp T.setting_of.b .nil pass0 (pa_cons (pv 1) (pa_cons (pv 3) pa_nil))))) pss_nil)
      (pss_cutA (ps_if (pt_cmpR op_eq (pv 1) pe_str (nomark _)) (pss_one (ps_set (i := 4) sc_statement_of.nd rfl (.inl rfl) (pe_call G_expression_of (hr.mono (by omega)) (by rfl) T.expression_of.g T.expression_of.F.kp T.expression_of.b .nil pass0 (pa_cons (pv 3) pa_nil)))) (pss_one (ps_if (pt_cmpR op_eq (pv 1) pe_str (nomark _)) (pss_one (ps_set (i := 4) sc_statement_of.nd rfl (.inl rfl) (pe_call G_test_of (hr.mono (by omega)) (by rfl) T.test_of.g T.test_of.F.kp T.test_of.b .nil pass0 (pa_cons (pv 3) pa_nil)))) (pss_one (ps_set (i := 4) sc_statement_of.nd rfl (.inl rfl) (pe_call G_integer_of (hr.mono (by omega)) (by rfl) T.integer_of.g T.integer_of.F.kp T.integer_of.b .nil pass0 (pa_cons (pv 3) (pa_cons (pe_glob (v := .int 20) (by rfl) T.g_MOST_FIGURES ⟨_, rfl⟩) pa_nil))))))))
      (pss_one (ps_ret (pe_ifExp (pt_cmpR op_isN (pv 4) pe_non (nomark _)) pe_non (pe_tupA (pa_cons (pv 1) (pa_cons (pv 4) pa_nil)))))))))), ?_⟩
  have lz : z.length ≤ sizeLine := sz_le sz
  obtain ⟨ep1, ep2⟩ := part_line z
  unfold pS at q
  have b0 : ((Str.ofString " ").length == 0) = false := by decide +kernel
  have e8 : (8 : Int) = 8 := rfl
  have e20 : (20 : Int) = ((20 : Nat) : Int) := rfl
  walk_at "go"
  refine ⟨⟨_, rfl⟩, ?_⟩
  walk_at "go"
  intro pp hpp
  have kp := Kp.new (u := HO.tup [V.str (Txt.partition z (Str.ofString " ")).fst, V.str (Txt.partition z (Str.ofString " ")).snd.fst, V.str (Txt.partition z (Str.ofString " ")).snd.snd]) hpp
  have ap : (upd H pp (HO.tup [V.str (Txt.partition z (Str.ofString " ")).fst, V.str (Txt.partition z (Str.ofString " ")).snd.fst, V.str (Txt.partition z (Str.ofString " ")).snd.snd])) pp = some (.tup [V.str (Txt.partition z (Str.ofString " ")).fst, V.str (Txt.partition z (Str.ofString " ")).snd.fst, V.str (Txt.partition z (Str.ofString " ")).snd.snd]) := upd_same
  generalize upd H pp (HO.tup [V.str (Txt.partition z (Str.ofString " ")).fst, V.str (Txt.partition z (Str.ofString " ")).snd.fst, V.str (Txt.partition z (Str.ofString " ")).snd.snd]) = H1 at kp ap ⊢
  rw [show (Txt.partition z (Str.ofString " ")).fst = wd (tl z) from ep1, show (Txt.partition z (Str.ofString " ")).snd.snd = mkS (rst (tl z)) from ep2] at ap
  have lr : (mkS (rst (tl z))).length ≤ 1000000 := by
    rw [len_mkS]
    unfold rst
    rw [List.length_drop]
    have := (List.dropWhile_suffix (l := tl z) fun c => c != 32).length_le
    rw [← len_tl] at this
    omega
  have lw : (wd (tl z)).length ≤ 1000000 := by
    unfold wd
    rw [len_mkS]
    have := (List.takeWhile_prefix (l := tl z) fun c => c != 32).length_le
    rw [← len_tl] at this
    omega
  generalize wd (tl z) = W at q ap lw
  generalize hR : rst (tl z) = R at q ap lr
  generalize (Txt.partition z (Str.ofString " ")).snd.fst = sp at ap
  walk_at "go"
  intro p2 H2 hp2 e2
  have k2 := new_kp hp2 e2
  have a2 := new_at e2
  have K2 := kp.trans k2
  have ei : (if false = true then !inV (.str W) [.str (Str.ofString "say"), .str (Str.ofString "stop")] else inV (.str W) [.str (Str.ofString "say"), .str (Str.ofString "stop")]) = decide (W = Str.ofString "say" ∨ W = Str.ofString "stop") := inV2 _ _ _
  have ej : (if true = true then !inV (.str W) [.str (Str.ofString "tell"), .str (Str.ofString "if"), .str (Str.ofString "repeat")] else inV (.str W) [.str (Str.ofString "tell"), .str (Str.ofString "if"), .str (Str.ofString "repeat")]) = !decide (W = Str.ofString "tell" ∨ W = Str.ofString "if" ∨ W = Str.ofString "repeat") := congrArg (!·) (inV3 _ _ _ _)
  have dstr : ∀ x : Str, decide (V.str W = V.str x) = decide (W = x) := fun x => decide_eq_decide.mpr ⟨fun h => V.str.inj h, fun h => by rw [h]⟩
  walk_at "go"
  rw [ei]
  refine ite2 (fun h1 => ?_) (fun h1 => ?_)
  · rw [if_pos (of_decide_eq_true h1)] at q
    walk_at "go"
    intro H3 k3
    have K3 := K2.trans k3
    cases hw : wordT 8 (mkS R) with
    | true =>
      rw [if_pos hw] at q
      walk_at "go"
      intro p4 H4 hp4 e4
      have k4 := new_kp hp4 e4
      exact q (.ref p4) H4 (mk_tup (new_at e4) (trs_cons mk_str (trs_cons mk_str trs_nil))) (K3.trans k4)
    | false =>
      rw [if_neg (by rw [hw]; exact Bool.false_ne_true)] at q
      walk_at "go"
      exact q .non H3 (by simp only [sO, Tr]) K3
  · rw [if_neg (of_decide_eq_false (Bool.eq_false_iff.mpr h1))] at q
    walk_at "go"
    intro p3 H3 hp3 e3
    have k3 := new_kp hp3 e3
    have a3 := new_at e3
    have K3 := K2.trans k3
    walk_at "go"
    rw [ej]
    refine ite2 (fun h2 => ?_) (fun h2 => ?_)
    · have h2 : ¬ (W = Str.ofString "tell" ∨ W = Str.ofString "if" ∨ W = Str.ofString "repeat") := by simpa using h2
      simp only [not_or] at h2
      rw [if_neg h2.1, if_neg h2.2.1, if_neg h2.2.2] at q
      walk_at "go"
      intro t H4 ht k4
      rw [tl_mkS] at ht
      exact q t H4 ht (K3.trans k4)
    · have h2 : W = Str.ofString "tell" ∨ W = Str.ofString "if" ∨ W = Str.ofString "repeat" := Decidable.byContradiction fun zz => h2 (by rw [decide_eq_false zz]; rfl)
      walk_at "go"
      refine ⟨⟨fun σ X => Lp (∃ (o : Option PyData) (v : V), σ = [some (.str z), some (.str W), some (.str sp), some (.str (mkS R)), some v] ∧ Kp [] H X ∧ (o = none → v = .non) ∧ (∀ d, o = some d → Tr X d v ∧ decide (v = V.non) = false) ∧
        (if W = Str.ofString "tell" then (pX R).map fun e => [PyData.str "tell", e.d] else if W = Str.ofString "if" then (pT R).map fun t => [PyData.str "if", t.d] else if W = Str.ofString "repeat" then (intL 20 R).map fun i => [PyData.str "repeat", .int i] else setL W R) = o.map fun d => [PyData.str W, d]), ?_, ?_⟩⟩
      · by_cases w1 : W = Str.ofString "tell"
        · subst w1
          walk_at "go"
          intro t H4 ht k4
          rw [tl_mkS] at ht
          refine ⟨(pX R).map Ex.d, t, rfl, K3.trans k4, fun e => ?_, fun d e => ?_, ?_⟩
          · rw [Option.map_eq_none_iff] at e
            rw [e] at ht
            simpa only [eO, Tr] using ht
          · obtain ⟨x, ex, rfl⟩ := Option.map_eq_some_iff.mp e
            rw [ex] at ht
            exact ⟨ht, ex_non (e := x) ht⟩
          · rw [if_pos rfl, Option.map_map]
            rfl
        · by_cases w2 : W = Str.ofString "if"
          · subst w2
            walk_at "go"
            intro t H4 ht k4
            rw [tl_mkS] at ht
            refine ⟨(pT R).map Ts.d, t, rfl, K3.trans k4, fun e => ?_, fun d e => ?_, ?_⟩
            · rw [Option.map_eq_none_iff] at e
              rw [e] at ht
              simpa only [tO, Tr] using ht
            · obtain ⟨x, ex, rfl⟩ := Option.map_eq_some_iff.mp e
              rw [ex] at ht
              obtain ⟨u, rfl⟩ := ts_ref (e := x) ht
              exact ⟨ht, rfl⟩
            · rw [if_neg (by decide +kernel), if_pos rfl, Option.map_map]
              rfl
          · obtain rfl : W = Str.ofString "repeat" := by rcases h2 with h | h | h; exact absurd h w1; exact absurd h w2; exact h
            walk_at "go"
            intro H4 k4
            rw [tl_mkS]
            refine ⟨(intL 20 R).map PyData.int, oI (intL 20 R), rfl, K3.trans k4, fun e => ?_, fun d e => ?_, ?_⟩
            · rw [Option.map_eq_none_iff] at e
              rw [e]
              rfl
            · obtain ⟨x, ex, rfl⟩ := Option.map_eq_some_iff.mp e
              rw [ex]
              exact ⟨mk_int, rfl⟩
            · rw [if_neg (by decide +kernel), if_neg (by decide +kernel), if_pos rfl, Option.map_map]
              rfl
      · rintro σ X ⟨⟨o, v, rfl, kX, o1, o2, eo⟩⟩
        rw [eo] at q
        cases o with
        | none =>
          cases o1 rfl
          walk_at "go"
          exact q .non X (by simp only [sO, Option.map_none, Tr]) kX
        | some d =>
          obtain ⟨tv, nn⟩ := o2 d rfl
          walk_at "go"
          rw [nn]
          refine iteF ?_
          walk_at "go"
          intro p4 H4 hp4 e4
          have k4 := new_kp hp4 e4
          exact q (.ref p4) H4 (mk_tup (new_at e4) (trs_cons mk_str (trs_cons (k4.tr tv) trs_nil))) (kX.trans k4)
end
section
open TL
variable {P : Program} {w : World} {K : PySem.W.Frag} {mg : Str → Option Value} {base : Heap}
theorem ok_Part_init (T : Top K mg) {k : Nat} : FnOk P w K mg base CX0 (k + 1) T.Part_init.f T.Part_init.fd ["self", "kind", "head"] (spPartInit T.Part.C) := by
  refine T.Part_init.F.ok sc_Part_init (fun vs H Q E h => ?_) (fun cdv A outer s H vs Q E hr h => ?_)
  · obtain ⟨x, dx, k, hv, ds, rfl, _⟩ := h
    rfl
  obtain ⟨x, dx, k, hv, ds, rfl, hx, ht, q⟩ := h
  refine ⟨_, (pss_cons (ps_fldA (K := K) rfl (pv 0) (pv 1))
      (pss_cons (ps_fldA (K := K) rfl (pv 0) (pv 2))
      (pss_cons (ps_fldA (K := K) rfl (pv 0) (pe_lstA pa_nil))
      (pss_one (ps_fldA (K := K) rfl (pv 0) pe_bl))))), ?_⟩
  have cl := T.Part.cl
  have n1 := T.n_Part_kind
  have n2 := T.n_Part_head
  have n3 := T.n_Part_rows
  have n4 := T.n_Part_is_over
  walk_at "go"
  intro H1 x1 k1
  walk_at "go"
  intro H2 x2 k2
  walk_at "go"
  intro r H3 hr3 e3
  have k3 := new_kp hr3 e3
  have a3 := new_at e3
  have x3 := k3.at x2
  have nxr : x ≠ r := ne_of_none x2 hr3
  walk_at "go"
  intro H4 x4 k4
  have a4 := k4.keep _ _ a3 (ne1 nxr.symm)
  walk_at "go"
  intro H5 x5 k5
  have a5 := k5.keep _ _ a4 (ne1 nxr.symm)
  have KK : Kp [x] H H5 := ((((k1.trans k2).step0 k3).trans k4).trans k5)
  exact q r H5 ((k1.trans k2).free hr3 (ne1 nxr.symm)) ⟨⟨hv, x5, KK.tr ht⟩, ⟨[], a5, trs_nil⟩⟩ KK
theorem ok_Part_lacks_line (T : Top K mg) {k : Nat} : FnOk P w K mg base CX0 (k + 1) T.Part_lacks_line.f T.Part_lacks_line.fd ["self"] (spLacks T.Part.C) := by
  refine T.Part_lacks_line.F.ok sc_Part_lacks_line (fun vs H Q E h => ?_) (fun cdv A outer s H vs Q E hr h => ?_)
  · obtain ⟨a, P, rfl, _⟩ := h
    rfl
  obtain ⟨a, P, rfl, hP, hl, q⟩ := h
  have hu := hu_of hr
  refine ⟨_, (pss_one (ps_ret (pe_and (pe_cmpR op_ne (pe_fldK (K := K) rfl (pv 0)) (pe_glob (v := .str "program") (by rfl) T.g_HEAD ⟨_, rfl⟩) (nomark _)) (pe_and (pe_cmpR (op_eqNil hu) (pe_fldK (K := K) rfl (pv 0)) (pe_lstA pa_nil) (nomark _)) (pe_one (pe_not (pe_fldK (K := K) rfl (pv 0)))))))), ?_⟩
  have cl := T.Part.cl
  have n1 := T.n_Part_kind
  have n3 := T.n_Part_rows
  have n4 := T.n_Part_is_over
  obtain ⟨hv, ob, th⟩ := hP.ob
  obtain ⟨vs, rw1, tv⟩ := hP.rw
  unfold lacks at q
  have e1 : decide (V.str P.kind = V.str (Str.ofString "program")) = decide (P.kind = "program") := decide_eq_decide.mpr ⟨fun h => V.str.inj h, fun h => by rw [h]⟩
  have ev : P.rows.isEmpty = vs.isEmpty := by
    have := tv.length
    cases hR : P.rows <;> cases vs <;> simp_all
  rw [ev] at q
  walk_at "go"
  rw [e1]
  cases hk : (!decide (P.kind = Str.ofString "program")) with
  | false =>
    rw [hk] at q
    refine iteF ?_
    exact q H Kp.refl
  | true =>
    rw [hk] at q
    refine iteT ?_
    walk_at "go"
    intro l3 H3 hl3 e3
    have k3 := new_kp hl3 e3
    have ob3 := k3.at ob
    have qq := q H3 k3
    refine ⟨a.r, l3, vs, rfl, rfl, k3.at rw1, new_at e3, ?_⟩
    cases hv2 : vs.isEmpty with
    | false =>
      rw [hv2] at qq
      walk_at "go"
      exact qq
    | true =>
      rw [hv2] at qq
      walk_at "go"
      exact qq
theorem ok_ProgramReader_init (T : Top K mg) {k : Nat} : FnOk P w K mg base CX0 (k + 3) T.ProgramReader_init.f T.ProgramReader_init.fd ["self"] (spRdInit T.ProgramReader.C T.Part.C) := by
  have G_Part_init := ok_Part_init (P := P) (w := w) (base := base) (k := k) T
  refine T.ProgramReader_init.F.ok sc_ProgramReader_init (fun vs H Q E h => ?_) (fun cdv A outer s H vs Q E hr h => ?_)
  · obtain ⟨x, dx, rfl, _⟩ := h
    rfl
  obtain ⟨x, dx, rfl, hx, q⟩ := h
  refine ⟨_, (pss_one (ps_fldA (K := K) rfl (pv 0) (pe_lstA (pa_cons (pe_make T.mk_Part G_Part_init (hr.mono (by omega)) (by rfl) T.Part.g T.Part_init.b .nil pass0 (pa_cons (pe_glob (v := .str "program") (by rfl) T.g_HEAD ⟨_, rfl⟩) (pa_cons (pe_tupA pa_nil) pa_nil))) pa_nil)))), ?_⟩
  have cl := T.ProgramReader.cl
  have n1 := T.n_ProgramReader_blocks_open
  walk_at "go"
  intro tp H1 htp e1
  have k1 := new_kp htp e1
  have a1 := new_at e1
  intro y dy hy hdy hne
  have k2 : Kp [] H1 (upd (upd H1 dy (.own y)) y (.ins T.Part.C dy [])) := (Kp.new hdy).step0 (Kp.new (by rw [upd_ne hne.symm]; exact hy))
  have tt : Tr (upd (upd H1 dy (.own y)) y (.ins T.Part.C dy [])) (.tuple []) (.ref tp) := mk_tup (k2.at a1) trs_nil
  refine ⟨y, dy, Str.ofString "program", .ref tp, [], rfl, upd_same, tt, fun r H3 hr3 pt k3 => ⟨rfl, ?_⟩⟩
  have k23 : Kp [] H1 H3 := k2.step1 k3 (.inr hy)
  have x3 := k23.at (k1.at hx)
  walk_at "go"
  intro L H4 hL e4
  have k4 := new_kp hL e4
  have a4 := new_at e4
  have x4 := k4.at x3
  walk_at "go"
  intro H5 x5 k5
  have nxL : x ≠ L := ne_of_none x3 hL
  have a5 := k5.keep _ _ a4 (ne1 nxL.symm)
  have nxy : x ≠ y := ne_of_none (k1.at hx) hy
  have nxr : x ≠ r := ne_of_none (k2.at (k1.at hx)) hr3
  obtain ⟨hv, ob, _⟩ := pt.ob
  obtain ⟨vs, rw1, _⟩ := pt.rw
  have nLy : y ≠ L := ne_of_none ob hL
  have nLr : r ≠ L := ne_of_none rw1 hL
  have nyr : y ≠ r := ne_of ob rw1 (fun z => by cases z)
  have K13 : Kp [] H H3 := k1.trans k23
  refine q L ⟨y, dy, r⟩ H5 ⟨x5, a5, .cons ((pt.kp k4 (by simp) (by simp)).kp k5 (ne1 nxy.symm) (ne1 nxr.symm)) .nil, ?_, fun P hP => ?_, Nat.le_refl _⟩ (fun b hb => ?_) (((K13.trans k4).sub (by simp)).trans k5)
  · simp only [ownR, List.nodup_cons, List.mem_cons, List.not_mem_nil, or_false, not_or, List.nodup_nil, and_true, not_false_eq_true]
    exact ⟨⟨nxL, nxy, nxr⟩, ⟨nLy.symm, nLr.symm⟩, nyr⟩
  · cases List.mem_singleton.mp hP
    exact ⟨Nat.le_refl _, by decide⟩
  · simp only [ownR, List.mem_cons, List.not_mem_nil, or_false] at hb
    rcases hb with rfl | rfl | rfl
    · exact K13.free hL (by simp)
    · exact k1.free hy (by simp)
    · exact (k1.trans k2).free hr3 (by simp)
theorem ok_ProgramReader_close (T : Top K mg) {k : Nat} : FnOk P w K mg base CX0 (k + 1) T.ProgramReader_close.f T.ProgramReader_close.fd ["self"] (spClose T.ProgramReader.C T.Part.C) := by
  refine T.ProgramReader_close.F.ok sc_ProgramReader_close (fun vs H Q E h => ?_) (fun cdv A outer s H vs Q E hr h => ?_)
  · obtain ⟨x, dx, L, a, b, as, P, O, st, n, rfl, _⟩ := h
    rfl
  obtain ⟨x, dx, L, a, b, as, P, O, st, n, rfl, R, ok, hn, q⟩ := h
  refine ⟨_, (pss_cons (ps_set (i := 1) sc_ProgramReader_close.nd rfl (.inl rfl) (pe_bm0 PySem.F.plainAttrs_list PySem.F.slot_list_pop PySem.F.type_list_pop mt_popA (pe_fldK (K := K) rfl (pv 0))))
      (pss_cons (ps_par (i := 2) (j := 3) (by rfl) sc_ProgramReader_close.nd rfl rfl (by decide) rfl rfl (pa_cons (pe_callTy (T := "tuple") (call_tupleK (K := K) rfl) (by rfl) T.tuple (by decide +kernel) (pa_cons (pe_fldK (K := K) rfl (pv 1)) pa_nil)) (pa_cons (pe_ix (ix_listK (K := K) rfl) (pe_fldK (K := K) rfl (pv 0)) (pe_un un_neg pe_int) (fun _ _ => rfl)) pa_nil)) (by rfl))
      (pss_cutA (ps_if (pt_cmpR op_eq (pe_fldK (K := K) rfl (pv 1)) pe_str (nomark _)) (pss_one (ps_asg (pe_op (op_catTK (K := K) rfl) (pe_slice (sl_tupK (K := K) rfl) (pe_ix (ix_listK (K := K) rfl) (pe_fldK (K := K) rfl (pv 3)) (pe_un un_neg pe_int) (fun _ _ => rfl)) po_none (po_some pe_int)) (pe_tupA (pa_cons (pv 2) pa_nil))) (pg_sub (pe_fldK (K := K) rfl (pv 3)) (pe_un un_neg pe_int) set_listA))) (pss_one (ps_if (pt_cmpR op_eq (pe_fldK (K := K) rfl (pv 1)) pe_str (nomark _)) (pss_one (ps_expr (pe_bmK (K := K) rfl PySem.F.plainAttrs_list PySem.F.slot_list_append PySem.F.type_list_append mt_appendA (pe_fldK (K := K) rfl (pv 3)) (pa_cons (pe_op (op_catTK (K := K) rfl) (pe_fldK (K := K) rfl (pv 1)) (pe_tupA (pa_cons (pv 2) (pa_cons (pe_tupA pa_nil) pa_nil)))) pa_nil)))) (pss_one (ps_expr (pe_bmK (K := K) rfl PySem.F.plainAttrs_list PySem.F.slot_list_append PySem.F.type_list_append mt_appendA (pe_fldK (K := K) rfl (pv 3)) (pa_cons (pe_op (op_catTK (K := K) rfl) (pe_fldK (K := K) rfl (pv 1)) (pe_tupA (pa_cons (pv 2) pa_nil))) pa_nil)))))))
      (pss_one (ps_ret (pe_fldK (K := K) rfl (pv 1))))))), ?_⟩
  have cl := T.ProgramReader.cl
  have n1 := T.n_ProgramReader_blocks_open
  have clp := T.Part.cl
  have m1 := T.n_Part_kind
  have m2 := T.n_Part_head
  have m3 := T.n_Part_rows
  have ob := R.ob
  have ls : H L = some (.lst ((as.reverse.map fun a => V.ref a.p) ++ [V.ref b.p] ++ [V.ref a.p])) := by rw [R.ls]; simp
  obtain ⟨p1, pr⟩ : PtAt T.Part.C H a P ∧ Paired (PtAt T.Part.C H) (b :: as) (O :: st) := by
    cases R.pts with
    | cons h t => exact ⟨h, t⟩
  obtain ⟨p2, pr2⟩ : PtAt T.Part.C H b O ∧ Paired (PtAt T.Part.C H) as st := by
    cases pr with
    | cons h t => exact ⟨h, t⟩
  have nd := R.nd
  simp only [ownR, List.nodup_cons, List.mem_cons, not_or] at nd
  walk_at "go"
  intro H1 l1 k1
  have x1 := k1.keep _ _ ob (ne1 nd.1.1)
  have p1a := p1.kp k1 (ne1 (Ne.symm nd.2.1.1)) (ne1 (Ne.symm nd.2.1.2.1))
  have p2a := p2.kp k1 (ne1 (Ne.symm nd.2.1.2.2.1)) (ne1 (Ne.symm nd.2.1.2.2.2.1))
  obtain ⟨hv1, ob1, th1⟩ := p1a.ob
  obtain ⟨vs1, rw1, tv1⟩ := p1a.rw
  obtain ⟨hv2, ob2, th2⟩ := p2a.ob
  obtain ⟨vs2, rw2, tv2⟩ := p2a.rw
  have la := atI_last02 (as.reverse.map fun a => V.ref a.p) (V.ref b.p)
  walk_at "go"
  intro tb H2 htb t2 k2
  have x2 := k2.at x1
  have l2 := k2.at l1
  have o12 := k2.at ob1
  have o22 := k2.at ob2
  have r22 := k2.at rw2
  have tB : Tr H2 (.tuple P.rows) (.ref tb) := mk_tup t2 (k2.trAll tv1)
  have t12 := k2.tr th1
  have v22 := k2.trAll tv2
  have t22 := k2.tr th2
  have lP := R.rl P (by simp)
  have lO := R.rl O (by simp)
  have lv2 : vs2.length = O.rows.length := v22.length
  obtain ⟨c1, c2, c3⟩ := clz1_same P O
  have cl4 := clz1_len P O
  clear p1a p2a rw1 rw2 ob1 ob2 x1 th1 th2 tv1 tv2
  walk_at "go"
  refine ⟨⟨fun σ X => Lp (∃ vs' : List V, σ = [some (.ref x), some (.ref a.p), some (.ref tb), some (.ref b.p)] ∧ X b.r = some (.lst vs') ∧ TrAll X (clz1 P O).rows vs' ∧ Kp [b.r] H2 X), ?_, ?_⟩⟩
  · have dk : ∀ y : Str, decide (V.str P.kind = V.str y) = decide (P.kind = y) := fun y => decide_eq_decide.mpr ⟨fun h => V.str.inj h, fun h => by rw [h]⟩
    walk_at "go"
    rw [dk]
    by_cases e1 : P.kind = Str.ofString "else"
    · rw [decide_eq_true e1]
      obtain ⟨r0, ds, hr0⟩ := ok.1 O st rfl e1
      have er : (clz1 P O).rows = r0 ++ [.tuple (ds.take 3 ++ [.tuple P.rows])] := by
        unfold clz1
        rw [if_pos e1]
        show O.rows.dropLast ++ (O.rows.getLast?.map (elseD P.rows)).toList = _
        rw [hr0, List.dropLast_concat, List.getLast?_concat]
        rfl
      rw [hr0] at v22
      obtain ⟨vs0, u0, rfl, tv0, tu0⟩ := v22.snoc_inv
      obtain ⟨u, us, rfl, hu, tus⟩ := tr_tup tu0
      have lu := atI_last02 vs0 (V.ref u)
      have iu : ixN (vs0 ++ [V.ref u]).length (-1) = some vs0.length := by rw [List.length_append, List.length_singleton]; exact ixN_last
      walk_at "go"
      intro p3 H3 a3 k3
      rw [show cutV us none (some (3 : Int)) = us.take 3 from cut_to us 3] at a3
      have l3 : (us.take 3).length + [V.ref tb].length ≤ sizeLine := sz_le (by rw [List.length_take, List.length_singleton]; omega)
      walk_at "go"
      intro p4 H4 hp4 e4
      have k4 := new_kp hp4 e4
      have a4 := new_at e4
      have a34 := k4.at a3
      walk_at "go"
      intro p5 H5 a5 k5
      have K5 := (k3.trans k4).trans k5
      have o25 := K5.at o22
      have r25 := K5.at r22
      walk_at "go"
      intro H6 r6 k6
      rw [set_last] at r6
      have K6 : Kp [b.r] H2 H6 := (K5.sub (by simp)).trans k6
      refine ⟨_, rfl, r6, ?_, K6⟩
      rw [er]
      refine (K6.trAll tv0).append (trs_cons ?_ trs_nil)
      exact mk_tup (k6.tup _ _ a5) (((k6.trAll (K5.trAll (trAll_take 3 tus)))).append (trs_cons (K6.tr tB) trs_nil))
    · rw [decide_eq_false e1]
      have hzv : vs2.length < sizeLine := sz_lt (by omega)
      obtain ⟨uh, hs, rfl, huh, ths⟩ := tr_tup t12
      have lhs := ths.length
      by_cases e2 : P.kind = Str.ofString "if"
      · have er : (clz1 P O).rows = O.rows ++ [.tuple (P.head ++ [.tuple P.rows, .tuple []])] := by
          unfold clz1
          rw [if_neg e1, if_pos e2]
        walk_at "go"
        rw [dk, decide_eq_true e2]
        walk_at "go"
        intro p3 H3 hp3 e3
        have k3 := new_kp hp3 e3
        have a3 := new_at e3
        walk_at "go"
        intro p4 H4 hp4 e4
        have k4 := new_kp hp4 e4
        have a4 := new_at e4
        have K4 := k3.trans k4
        have huh4 := K4.tup _ _ huh
        have l3 : hs.length + [V.ref tb, V.ref p3].length ≤ sizeLine := sz_le (by show hs.length + 2 ≤ 1000000; omega)
        walk_at "go"
        intro p5 H5 a5 k5
        have K5 := K4.trans k5
        have o25 := K5.at o22
        have r25 := K5.at r22
        walk_at "go"
        intro H6 r6 k6
        have K6 : Kp [b.r] H2 H6 := (K5.sub (by simp)).trans k6
        refine ⟨_, rfl, r6, ?_, K6⟩
        rw [er]
        refine (K6.trAll v22).append (trs_cons ?_ trs_nil)
        exact mk_tup (k6.tup _ _ a5) ((K6.trAll ths).append (trs_cons (K6.tr tB) (trs_cons (mk_tup (k6.tup _ _ (k5.tup _ _ (k4.tup _ _ a3))) trs_nil) trs_nil)))
      · have er : (clz1 P O).rows = O.rows ++ [.tuple (P.head ++ [.tuple P.rows])] := by
          unfold clz1
          rw [if_neg e1, if_neg e2]
        walk_at "go"
        rw [dk, decide_eq_false e2]
        walk_at "go"
        intro p4 H4 hp4 e4
        have k4 := new_kp hp4 e4
        have a4 := new_at e4
        have huh4 := k4.tup _ _ huh
        have l3 : hs.length + [V.ref tb].length ≤ sizeLine := sz_le (by show hs.length + 1 ≤ 1000000; omega)
        walk_at "go"
        intro p5 H5 a5 k5
        have K5 := k4.trans k5
        have o25 := K5.at o22
        have r25 := K5.at r22
        walk_at "go"
        intro H6 r6 k6
        have K6 : Kp [b.r] H2 H6 := (K5.sub (by simp)).trans k6
        refine ⟨_, rfl, r6, ?_, K6⟩
        rw [er]
        refine (K6.trAll v22).append (trs_cons ?_ trs_nil)
        exact mk_tup (k6.tup _ _ a5) ((K6.trAll ths).append (trs_cons (K6.tr tB) trs_nil))
  · rintro σ X ⟨⟨vs', rfl, rX, tX, kX⟩⟩
    have xX := kX.keep _ _ x2 (ne1 nd.1.2.2.2.2.1)
    have oX1 := kX.keep _ _ o12 (ne1 nd.2.2.1.2.2.1)
    walk_at "go"
    have lX := kX.keep _ _ l2 (ne1 nd.2.1.2.2.2.1)
    have bX := kX.keep _ _ o22 (ne1 nd.2.2.2.2.1.1)
    have S1 : Kp (x :: L :: ownR (a :: b :: as)) H X := ((k1.sub (by simp)).trans (k2.sub (by simp))).trans (kX.sub (by simp [ownR]))
    have dL : ∀ y ∈ ownR as, y ∉ [L] := fun y hy z => nd.2.1.2.2.2.2 (List.mem_singleton.mp z ▸ hy)
    have dR : ∀ y ∈ ownR as, y ∉ [b.r] := fun y hy z => nd.2.2.2.2.2.1 (List.mem_singleton.mp z ▸ hy)
    have prX := ptsKp kX (ptsKp k2 (ptsKp k1 pr2 dL) (fun _ _ => by simp)) dR
    refine q X ⟨xX, by rw [lX]; simp, .cons ⟨⟨hv2, by rw [c1, c3]; exact bX, by rw [c2]; exact kX.tr t22⟩, ⟨vs', rX, tX⟩⟩ prX, ?_, fun P' hP' => ?_, ?_⟩ S1
    · simp only [ownR, List.nodup_cons, List.mem_cons, not_or]
      obtain ⟨n1, n2, n3, n4, n5, n6, n7⟩ := nd
      exact ⟨⟨n1.1, n1.2.2.2.1, n1.2.2.2.2.1, n1.2.2.2.2.2⟩, ⟨n2.2.2.1, n2.2.2.2.1, n2.2.2.2.2⟩, n5, n6, n7⟩
    · rcases List.mem_cons.mp hP' with rfl | hP'
      · rw [c2]
        exact ⟨by omega, lO.2⟩
      · obtain ⟨z1, z2⟩ := R.rl P' (by simp [hP'])
        exact ⟨by omega, z2⟩
    · have := R.sl
      rw [List.length_cons, List.length_cons] at this
      show (clz1 P O :: st).length ≤ _
      rw [List.length_cons]
      omega
end
section
open TL
variable {P : Program} {w : World} {K : PySem.W.Frag} {mg : Str → Option Value} {base : Heap}
theorem ok_ProgramReader_come_to (T : Top K mg) {k : Nat} : FnOk P w K mg base CX0 (k + 2) T.ProgramReader_come_to.f T.ProgramReader_come_to.fd ["self", "depth"] (spCome T.ProgramReader.C T.Part.C) := by
  have G_ProgramReader_close := ok_ProgramReader_close (P := P) (w := w) (base := base) (k := k) T
  refine T.ProgramReader_come_to.F.ok sc_ProgramReader_come_to (fun vs H Q E h => ?_) (fun cdv A outer s H vs Q E hr h => ?_)
  · obtain ⟨x, dx, L, as, st, n, d, di, rfl, _⟩ := h
    rfl
  obtain ⟨x, dx, L, as, st, n, d, di, rfl, rfl, R, ok, hn, hl, hl1, q⟩ := h
  refine ⟨_, (pss_cons (ps_set (i := 2) sc_ProgramReader_come_to.nd rfl (.inl rfl) pe_str)
      (pss_cons (ps_whileA (ps_while PassesOwn.never (pt_cmpR op_gt (pe_op op_sub (pe_callB (id := "len") (call_lenK (K := K) rfl) (by rfl) T.len PySem.boot_len (pa_cons (pe_fldK (K := K) rfl (pv 0)) pa_nil)) pe_int) (pv 1) (nomark _)) (pss_one (ps_set (i := 2) sc_ProgramReader_come_to.nd rfl (.inl rfl) (pe_meth0 (pv 0) T.ProgramReader.cl T.ProgramReader_close.m G_ProgramReader_close (hr.mono (by omega)) T.ProgramReader_close.b .nil pass0)))))
      (pss_one (ps_ret (pv 2))))), ?_⟩
  have cl := T.ProgramReader.cl
  have n1 := T.n_ProgramReader_blocks_open
  walk_at "go"
  refine ⟨fun m σ X => Lp (∃ (j : Nat) (as' : List PdR), m = st.length - 1 - d - j ∧ j ≤ st.length - 1 - d ∧ σ = [some (.ref x), some (.int (d : Int)), some (.str (comeTo j st "").2)] ∧ RdAt T.ProgramReader.C T.Part.C X x dx L as' (comeTo j st "").1 (n + j) ∧ (∀ b ∈ ownR as', b ∈ ownR as) ∧ Kp (x :: L :: ownR as) H X), ⟨_, ⟨0, as, rfl, Nat.zero_le _, rfl, R, fun _ h => h, Kp.refl⟩⟩, ?_⟩
  rintro m σ X ⟨⟨j, as', rfl, hj, rfl, RX, sub, kX⟩⟩
  have ob := RX.ob
  have ls := RX.ls
  have la := RX.pts.length
  have lst := comeTo_len j st "" (by omega)
  have hd : (decide ((d : Int) < ((List.map (fun a : PdR => V.ref a.p) as'.reverse).length : Int) - 1)) = decide (j < st.length - 1 - d) := by
    refine decide_eq_decide.mpr ?_
    rw [List.length_map, List.length_reverse, la]
    omega
  walk_at "go"
  rw [hd]
  refine ite2 (fun hc => ?_) (fun hc => ?_)
  · have hc := of_decide_eq_true hc
    obtain ⟨ea, _⟩ := comeTo_add j st "" (by omega)
    have okj := comeTo_ok j (k := "") ok
    generalize hS : comeTo j st "" = S at RX lst la ea okj
    obtain ⟨st', k'⟩ := S
    dsimp only at RX lst la ea okj
    obtain ⟨p, o, r, rfl⟩ : ∃ p o r, st' = p :: o :: r := by
      match st', lst with
      | [], l => simp at l; omega
      | [p], l => simp at l; omega
      | p :: o :: r, _ => exact ⟨p, o, r, rfl⟩
    obtain ⟨a, b, as2, rfl⟩ : ∃ a b as2, as' = a :: b :: as2 := by
      match as', la with
      | [], l => simp at l
      | [a], l => simp at l
      | a :: b :: as2, _ => exact ⟨a, b, as2, rfl⟩
    refine ⟨fun σ X' => Lp (σ = [some (.ref x), some (.int (d : Int)), some (.str (comeTo (j + 1) st "").2)] ∧ RdAt T.ProgramReader.C T.Part.C X' x dx L (b :: as2) (comeTo (j + 1) st "").1 (n + (j + 1)) ∧ Kp (x :: L :: ownR as) H X'), fun σ' H' h => ?_, ?_⟩
    · obtain ⟨⟨e, R', k2⟩⟩ := h
      exact ⟨st.length - 1 - d - (j + 1), by omega, ⟨j + 1, b :: as2, rfl, by omega, e, R', fun y hy => sub y (by simp only [ownR, List.mem_cons] at hy ⊢; exact .inr (.inr hy)), k2⟩⟩
    · walk_at "go"
      intro H' R' k2
      rw [ea]
      refine ⟨rfl, R', kX.trans (k2.sub fun y hy => ?_)⟩
      simp only [List.mem_cons] at hy ⊢
      exact hy.imp id fun z => z.imp id fun y => sub _ y
  · have hc := of_decide_eq_false (Bool.eq_false_iff.mpr hc)
    obtain rfl : j = st.length - 1 - d := by omega
    walk_at "go"
    exact q as' X (RX.mono (by omega)) sub kX
theorem ok_ProgramReader_put (T : Top K mg) {k : Nat} : FnOk P w K mg base CX0 (k + 3) T.ProgramReader_put.f T.ProgramReader_put.fd ["self", "statement"] (spPut T.ProgramReader.C T.Part.C) := by
  have G_Part_init := ok_Part_init (P := P) (w := w) (base := base) (k := k) T
  refine T.ProgramReader_put.F.ok sc_ProgramReader_put (fun vs H Q E h => ?_) (fun cdv A outer s H vs Q E hr h => ?_)
  · obtain ⟨x, dx, L, as, st, n, sv, o, rfl, _⟩ := h
    rfl
  obtain ⟨x, dx, L, as, st, n, sv, o, rfl, R, hne, hn, ts, fm, q0, q1⟩ := h
  refine ⟨_, (pss_cons (ps_if (pt_cmpR op_isN (pv 1) pe_non (nomark _)) (pss_one (ps_ret pe_bl)) pss_nil)
      (pss_cons (ps_if (pt_cmpR (op_in_seqK (K := K) rfl) (pe_ix (ix_tupK (K := K) rfl) (pv 1) pe_int (fun _ _ => rfl)) (pe_tupA (pa_cons pe_str (pa_cons pe_str pa_nil))) (by rfl)) (pss_one (ps_expr (pe_bmK (K := K) rfl PySem.F.plainAttrs_list PySem.F.slot_list_append PySem.F.type_list_append mt_appendA (pe_fldK (K := K) rfl (pv 0)) (pa_cons (pe_make T.mk_Part G_Part_init (hr.mono (by omega)) (by rfl) T.Part.g T.Part_init.b .nil pass0 (pa_cons (pe_ix (ix_tupK (K := K) rfl) (pv 1) pe_int (fun _ _ => rfl)) (pa_cons (pv 1) pa_nil))) pa_nil)))) (pss_one (ps_expr (pe_bmK (K := K) rfl PySem.F.plainAttrs_list PySem.F.slot_list_append PySem.F.type_list_append mt_appendA (pe_fldK (K := K) rfl (pe_ix (ix_listK (K := K) rfl) (pe_fldK (K := K) rfl (pv 0)) (pe_un un_neg pe_int) (fun _ _ => rfl))) (pa_cons (pv 1) pa_nil)))))
      (pss_one (ps_ret pe_bl)))), ?_⟩
  have cl := T.ProgramReader.cl
  have n1 := T.n_ProgramReader_blocks_open
  have clp := T.Part.cl
  have m3 := T.n_Part_rows
  have ob := R.ob
  have ls := R.ls
  cases o with
  | none =>
    obtain rfl : sv = .non := by simpa only [sO, Tr] using ts
    walk_at "go"
    exact q0 rfl
  | some ds =>
    obtain ⟨wd, dr, rfl, lds⟩ := fm ds rfl
    obtain ⟨u, vs, rfl, hu, tvs⟩ := tr_tup (show Tr H (.tuple (.str wd :: dr)) sv from ts)
    obtain ⟨v0, vr, rfl, tv0, tvr⟩ : ∃ v0 vr, vs = v0 :: vr ∧ Tr H (.str wd) v0 ∧ TrAll H dr vr := by simpa only [TrAll] using tvs
    cases tr_str tv0
    obtain ⟨p, r, rfl⟩ : ∃ p r, st = p :: r := by
      cases st with
      | nil => exact absurd rfl hne
      | cons p r => exact ⟨p, r, rfl⟩
    obtain ⟨a, as, rfl⟩ : ∃ a as2, as = a :: as2 := by
      have := R.pts.length
      cases as with
      | nil => simp at this
      | cons a as2 => exact ⟨a, as2, rfl⟩
    have ls : H L = some (.lst ((as.reverse.map fun a => V.ref a.p) ++ [V.ref a.p])) := by rw [R.ls]; simp
    have la := atI_last02 (as.reverse.map fun a => V.ref a.p) (V.ref a.p)
    obtain ⟨p1, pr⟩ : PtAt T.Part.C H a p ∧ Paired (PtAt T.Part.C H) as r := by
      cases R.pts with
      | cons h t => exact ⟨h, t⟩
    have nd := R.nd
    have sq : SqT K H u (.str wd :: vr) := SqT.of hu
    have i0 : atI (V.str wd :: vr) 0 = some (.str wd) := atI_nat (j := 0) rfl
    walk_at "go"
    intro p2 H2 hp2 e2
    have k2 := new_kp hp2 e2
    have a2 := new_at e2
    have ei : (if false = true then !inV (.str wd) [.str (Str.ofString "if"), .str (Str.ofString "repeat")] else inV (.str wd) [.str (Str.ofString "if"), .str (Str.ofString "repeat")]) = decide (wd = Str.ofString "if" ∨ wd = Str.ofString "repeat") := inV2 _ _ _
    have R2 := R.kp0 k2
    have ob2 := k2.at ob
    have ls2 := k2.at ls
    have hu2 := k2.tup _ _ hu
    have ts2 := k2.tr ts
    have p12 := p1.kp k2 (by simp) (by simp)
    obtain ⟨hv1, o1, t1⟩ := p12.ob
    obtain ⟨vs1, r1, tv1⟩ := p12.rw
    have lp := (R.rl p (by simp)).1
    have lv1 := tv1.length
    have hz1 : vs1.length < sizeLine := sz_lt (by omega)
    walk_at "go"
    rw [ei]
    refine ite2 (fun hc => ?_) (fun hc => ?_)
    · have hc := of_decide_eq_true hc
      have ep : putP (p :: r) (some (.str wd :: dr)) = some (⟨wd, .str wd :: dr, [], false⟩ :: p :: r) := by
        unfold putP
        exact if_pos hc
      walk_at "go"
      intro y dy hy hdy hne2
      have k3 : Kp [] H2 (upd (upd H2 dy (.own y)) y (.ins T.Part.C dy [])) := (Kp.new hdy).step0 (Kp.new (by rw [upd_ne hne2.symm]; exact hy))
      refine ⟨y, dy, wd, .ref u, .str wd :: dr, rfl, upd_same, k3.tr ts2, fun r' H4 hr4 pt k4 => ⟨rfl, ?_⟩⟩
      have k24 : Kp [] H2 H4 := k3.step1 k4 (.inr hy)
      have R4 := R2.kp0 k24
      have ob4 := k24.at ob2
      have ls4 := k24.at ls2
      have llen : ((as.reverse.map fun a => V.ref a.p) ++ [V.ref a.p]).length < sizeLine := by
        rw [List.length_append, List.length_map, List.length_reverse, List.length_singleton]
        have h1 := R.pts.length
        have h2 := R.sl
        rw [List.length_cons] at h1
        exact sz_lt (by omega)
      walk_at "go"
      intro H5 l5 k5
      have nyL : y ≠ L := (ne_of_none ls2 hy).symm
      have nrL : r' ≠ L := (ne_of_none (k3.at ls2) hr4).symm
      obtain ⟨hv, oby, thy⟩ := pt.ob
      obtain ⟨vsy, rwy, tvy⟩ := pt.rw
      have nyr : y ≠ r' := ne_of oby rwy (fun z => by cases z)
      have fy : ∀ b ∈ x :: L :: ownR (a :: as), b ≠ y ∧ b ≠ r' := fun b hb => by
        obtain ⟨o', ho⟩ := R2.someR b hb
        exact ⟨ne_of_none ho hy, ne_of_none (k3.at ho) hr4⟩
      have nxL : x ≠ L := fun z => (List.nodup_cons.mp R.nd).1 (by simp [z])
      walk_at "go"
      refine q1 _ (⟨y, dy, r'⟩ :: a :: as) H5 ep ⟨k5.keep _ _ ob4 (ne1 nxL), by rw [l5]; simp, .cons (pt.kp k5 (ne1 nyL) (ne1 nrL)) (ptsKp k5 (ptsKp k24 (ptsKp k2 R.pts fun _ _ => by simp) fun _ _ => by simp) fun b hb => ne1 fun z => ?_), ?_, fun P' hP' => ?_, ?_⟩ (fun b hb => ?_) (((k2.trans k24).sub (by simp)).trans (k5.sub (by simp)))
      · subst z
        exact (List.nodup_cons.mp (List.nodup_cons.mp R.nd).2).1 hb
      · have n0 := R.nd
        rw [List.nodup_cons, List.nodup_cons] at n0 ⊢
        obtain ⟨n1, n2, n3⟩ := n0
        refine ⟨fun hb => ?_, fun hb => ?_, ?_⟩
        · have hx := fy x (by simp)
          simp only [ownR, List.mem_cons] at hb n1
          rcases hb with z | z | z | z
          · exact n1 (.inl z)
          · exact hx.1 z
          · exact hx.2 z
          · exact n1 (.inr z)
        · have hx := fy L (by simp)
          simp only [ownR, List.mem_cons] at hb n2
          rcases hb with z | z | z
          · exact hx.1 z
          · exact hx.2 z
          · exact n2 z
        · show (y :: r' :: ownR (a :: as)).Nodup
          rw [List.nodup_cons, List.nodup_cons]
          refine ⟨fun hb => ?_, fun hb => ?_, n3⟩
          · rcases List.mem_cons.mp hb with z | z
            · exact nyr z
            · exact (fy y (by simp [z])).1 rfl
          · exact (fy r' (by simp [hb])).2 rfl
      · rcases List.mem_cons.mp hP' with rfl | hP'
        · exact ⟨Nat.zero_le _, lds⟩
        · obtain ⟨z1, z2⟩ := R.rl P' hP'
          exact ⟨by omega, z2⟩
      · have := R.sl
        rw [List.length_cons]
        omega
      · rcases List.mem_cons.mp hb with rfl | hb
        · exact .inr (k2.free hy (by simp))
        · rcases List.mem_cons.mp hb with rfl | hb
          · exact .inr ((k2.trans k3).free hr4 (by simp))
          · exact .inl hb
    · have hc := of_decide_eq_false (Bool.eq_false_iff.mpr hc)
      have ep : putP (p :: r) (some (.str wd :: dr)) = some ({ p with rows := p.rows ++ [.tuple (.str wd :: dr)] } :: r) := by
        unfold putP
        exact if_neg hc
      walk_at "go"
      intro H3 r3 k3
      have KK : Kp (x :: L :: ownR (a :: as)) H H3 := (k2.sub (by simp)).trans (k3.sub (by simp [ownR]))
      walk_at "go"
      simp only [ownR, List.nodup_cons, List.mem_cons, not_or] at nd
      refine q1 _ (a :: as) H3 ep ⟨k3.keep _ _ ob2 (ne1 nd.1.2.2.1), k3.keep _ _ (by rw [ls2]; simp) (ne1 nd.2.1.2.1), .cons ⟨⟨hv1, k3.keep _ _ o1 (ne1 nd.2.2.1.1), k3.tr t1⟩, ⟨_, r3, (k3.trAll tv1).append (trs_cons (k3.tr ts2) trs_nil)⟩⟩ (ptsKp k3 (ptsKp k2 pr fun _ _ => by simp) fun y hy z => nd.2.2.2.1 (List.mem_singleton.mp z ▸ hy)), R.nd, fun P' hP' => ?_, Nat.le_succ_of_le R.sl⟩ (fun b hb => .inl hb) KK
      rcases List.mem_cons.mp hP' with rfl | hP'
      · refine ⟨?_, (R.rl p (by simp)).2⟩
        show (p.rows ++ [_]).length ≤ _
        rw [List.length_append, List.length_singleton]
        omega
      · obtain ⟨z1, z2⟩ := R.rl P' (by simp [hP'])
        exact ⟨by omega, z2⟩
end
section
open TL
variable {P : Program} {w : World} {K : PySem.W.Frag} {mg : Str → Option Value} {base : Heap}
theorem ok_ProgramReader_read (T : Top K mg) (DW : WdOk K w T.WORDS) : FnOk P w K mg base CX0 50 T.ProgramReader_read.f T.ProgramReader_read.fd ["self", "line"] (spRead T.ProgramReader.C T.Part.C) := by
  have G_ProgramReader_put := ok_ProgramReader_put (P := P) (w := w) (base := base) (k := 0) T
  have G_ProgramReader_come_to := ok_ProgramReader_come_to (P := P) (w := w) (base := base) (k := 0) T
  have G_Part_lacks_line := ok_Part_lacks_line (P := P) (w := w) (base := base) (k := 0) T
  have G_Part_init := ok_Part_init (P := P) (w := w) (base := base) (k := 0) T
  have G_statement_of := ok_statement_of (P := P) (w := w) (base := base) T DW
  refine T.ProgramReader_read.F.ok sc_ProgramReader_read (fun vs H Q E h => ?_) (fun cdv A outer s H vs Q E hr h => ?_)
  · obtain ⟨x, dx, L, as, st, n, z, rfl, _⟩ := h
    rfl
  obtain ⟨x, dx, L, as, st, n, z, rfl, R, ok, h1, hl, hn, sz, q0, q1⟩ := h
  have hu := hu_of hr
  refine ⟨_, (pss_cons (ps_set (i := 2) sc_ProgramReader_read.nd rfl (.inl rfl) (pe_m1 PySem.F.slot_str_lstrip PySem.F.type_str_lstrip mt_lstripChars (pv 1) pe_str))
      (pss_cons (ps_asg (pe_callB (id := "divmod") call_divmod (by rfl) T.divmod (by decide +kernel) (pa_cons (pe_op op_sub (pe_callB (id := "len") call_len_str (by rfl) T.len PySem.boot_len (pa_cons (pv 1) pa_nil)) (pe_callB (id := "len") call_len_str (by rfl) T.len PySem.boot_len (pa_cons (pv 2) pa_nil))) (pa_cons pe_int pa_nil))) (pg_tup (by rfl) (pgs_cons (pg_name (i := 3) sc_ProgramReader_read.nd rfl (.inl rfl)) (pgs_cons (pg_name (i := 4) sc_ProgramReader_read.nd rfl (.inl rfl)) pgs_nil))))
      (pss_cons (ps_par (i := 5) (j := 6) (by rfl) sc_ProgramReader_read.nd rfl rfl (by decide) rfl rfl (pa_cons (pe_op op_sub (pe_callB (id := "len") (call_lenK (K := K) rfl) (by rfl) T.len PySem.boot_len (pa_cons (pe_fldK (K := K) rfl (pv 0)) pa_nil)) pe_int) (pa_cons (pe_meth0 (pe_ix (ix_listK (K := K) rfl) (pe_fldK (K := K) rfl (pv 0)) (pe_un un_neg pe_int) (fun _ _ => rfl)) T.Part.cl T.Part_lacks_line.m G_Part_lacks_line (hr.mono (by omega)) T.Part_lacks_line.b .nil pass0) pa_nil)) (by rfl))
      (pss_cutA (ps_if (PW.pt (pw_or (pt_cmpR op_eq (pv 4) pe_int (nomark _)) (pw_or (pt_cmpR op_gt (pv 3) (pv 5) (nomark _)) (pw_or1 (PW.pt (pw_and (pt_val (pv 6)) (pw_and1 (pt_cmpR op_ne (pv 3) (pv 5) (nomark _))))))))) (pss_one (ps_ret pe_bl)) pss_nil)
      (pss_cons (ps_set (i := 7) sc_ProgramReader_read.nd rfl (.inl rfl) (pe_meth (pv 0) T.ProgramReader.cl T.ProgramReader_come_to.m G_ProgramReader_come_to (hr.mono (by omega)) T.ProgramReader_come_to.b .nil pass0 (pa_cons (pv 3) pa_nil)))
      (pss_cutA (ps_if (PW.pt (pw_and (pt_cmpR op_eq (pv 2) pe_str (nomark _)) (pw_and1 (pt_cmpR op_eq (pv 7) pe_str (nomark _))))) (pss_cons (ps_expr (pe_bmK (K := K) rfl PySem.F.plainAttrs_list PySem.F.slot_list_append PySem.F.type_list_append mt_appendA (pe_fldK (K := K) rfl (pv 0)) (pa_cons (pe_make T.mk_Part G_Part_init (hr.mono (by omega)) (by rfl) T.Part.g T.Part_init.b .nil pass0 (pa_cons pe_str (pa_cons (pe_tupA pa_nil) pa_nil))) pa_nil)))
      (pss_one (ps_ret pe_bl))) pss_nil)
      (pss_cons (ps_if (pt_cmpR op_eq (pv 2) pe_str (nomark _)) (pss_cons (ps_fldA (K := K) rfl (pe_ix (ix_listK (K := K) rfl) (pe_fldK (K := K) rfl (pv 0)) (pe_un un_neg pe_int) (fun _ _ => rfl)) pe_bl)
      (pss_one (ps_ret (pe_and (pv 6) (pe_one (pe_cmpR op_ne (pe_fldK (K := K) rfl (pe_ix (ix_listK (K := K) rfl) (pe_fldK (K := K) rfl (pv 0)) (pe_un un_neg pe_int) (fun _ _ => rfl))) pe_str (nomark _))))))) pss_nil)
      (pss_one (ps_ret (pe_and (pe_not (pe_fldK (K := K) rfl (pe_ix (ix_listK (K := K) rfl) (pe_fldK (K := K) rfl (pv 0)) (pe_un un_neg pe_int) (fun _ _ => rfl)))) (pe_one (pe_meth (pv 0) T.ProgramReader.cl T.ProgramReader_put.m G_ProgramReader_put (hr.mono (by omega)) T.ProgramReader_put.b .nil pass0 (pa_cons (pe_call G_statement_of (hr.mono (by omega)) (by rfl) T.statement_of.g T.statement_of.F.kp T.statement_of.b .nil pass0 (pa_cons (pv 2) pa_nil)) pa_nil))))))))))))), ?_⟩
  have cl := T.ProgramReader.cl
  have n1 := T.n_ProgramReader_blocks_open
  have clp := T.Part.cl
  have m1 := T.n_Part_kind
  have m4 := T.n_Part_is_over
  have lz : z.length ≤ sizeLine := sz_le sz
  have eL : Txt.lstripChars z (Str.ofString " ") = mkS (restL (tl z)) := lstrip32 z
  have lr := restL_le (tl z)
  rw [← len_tl] at lr
  have lr2 : (mkS (restL (tl z))).length ≤ sizeLine := by rw [len_mkS]; exact sz_le (by omega)
  walk_at "go"
  refine ⟨⟨_, rfl⟩, ?_⟩
  walk_at "go"
  rw [eL]
  walk_at "go"
  have eb : (z.length : Int) - ((mkS (restL (tl z))).length : Int) = ((blanks (tl z) : Nat) : Int) := by
    unfold blanks
    rw [len_mkS, ← len_tl]
    omega
  rw [eb]
  refine ⟨⟨by decide, by decide⟩, fun pd hpd => ?_⟩
  have e1 : ((blanks (tl z) : Nat) : Int) / 2 = ((blanks (tl z) / 2 : Nat) : Int) := by omega
  have e2 : ((blanks (tl z) : Nat) : Int) % 2 = ((blanks (tl z) % 2 : Nat) : Int) := by omega
  rw [e1, e2]
  have kd := Kp.new (u := HO.tup [V.int ((blanks (tl z) / 2 : Nat) : Int), V.int ((blanks (tl z) % 2 : Nat) : Int)]) hpd
  have ad : (upd H pd (HO.tup [V.int ((blanks (tl z) / 2 : Nat) : Int), V.int ((blanks (tl z) % 2 : Nat) : Int)])) pd = some (.tup [V.int ((blanks (tl z) / 2 : Nat) : Int), V.int ((blanks (tl z) % 2 : Nat) : Int)]) := upd_same
  generalize upd H pd (HO.tup [V.int ((blanks (tl z) / 2 : Nat) : Int), V.int ((blanks (tl z) % 2 : Nat) : Int)]) = H1 at kd ad ⊢
  have R1 := R.kp0 kd
  unfold readP at q0 q1
  generalize hbl : blanks (tl z) = B at q0 q1 ad ⊢
  generalize hrl : restL (tl z) = RL at q0 q1 lr lr2 ⊢
  obtain ⟨p, r, rfl⟩ : ∃ p r, st = p :: r := by
    cases st with
    | nil => simp at h1
    | cons p r => exact ⟨p, r, rfl⟩
  obtain ⟨a, as, rfl⟩ : ∃ a as2, as = a :: as2 := by
    have := R.pts.length
    cases as with
    | nil => simp at this
    | cons a as2 => exact ⟨a, as2, rfl⟩
  have p1 : PtAt T.Part.C H1 a p := by
    cases R1.pts with
    | cons h t => exact h
  have ob1 := R1.ob
  have ls1 : H1 L = some (.lst ((as.reverse.map fun a => V.ref a.p) ++ [V.ref a.p])) := by rw [R1.ls]; simp
  have la := atI_last02 (as.reverse.map fun a => V.ref a.p) (V.ref a.p)
  have llen : (((as.reverse.map fun a => V.ref a.p) ++ [V.ref a.p]).length : Int) - 1 = (((p :: r).length - 1 : Nat) : Int) := by
    have := R.pts.length
    rw [List.length_cons] at this
    rw [List.length_append, List.length_map, List.length_reverse, List.length_singleton, ← this]
    omega
  have lp := (R.rl p (by simp)).1
  have lp2 : p.rows.length ≤ 1000000 := by omega
  have sl := R.sl
  obtain ⟨hv1, o1, t1⟩ := id p1.ob
  walk_at "go"
  intro H2 k2
  have R2 := R1.kp0 k2
  have K2 := kd.trans k2
  have bad : (B % 2 = 1 ∨ (p :: r).length - 1 < B / 2 ∨ (topLacks (p :: r) = true ∧ B / 2 ≠ (p :: r).length - 1)) → ∀ X, Kp [] H X → Q (.bl false) X := fun hb X kX => q0 (if_pos hb) X (kX.sub (by simp))
  walk_at "go"
  refine ⟨⟨fun σ X => Lp (∃ dp : Int, σ = [some (.ref x), some (.str z), some (.str (mkS RL)), some (.int ((B / 2 : Nat) : Int)), some (.int ((B % 2 : Nat) : Int)), some (.int dp), some (.bl (lacks p)), none] ∧ dp = (((p :: r).length - 1 : Nat) : Int) ∧ X = H2 ∧ ¬ (B % 2 = 1 ∨ (p :: r).length - 1 < B / 2 ∨ (topLacks (p :: r) = true ∧ B / 2 ≠ (p :: r).length - 1))), ?_, ?_⟩⟩
  · walk_at "go"
    simp only [llen]
    by_cases c1 : B % 2 = 1
    · rw [show decide (V.int ((B % 2 : Nat) : Int) = V.int 1) = true by rw [c1]; rfl]
      refine iteT ?_
      exact bad (.inl c1) H2 K2
    · rw [show decide (V.int ((B % 2 : Nat) : Int) = V.int 1) = false from decide_eq_false fun z => c1 (by have := V.int.inj z; omega)]
      refine iteF ?_
      walk_at "go"
      by_cases c2 : (p :: r).length - 1 < B / 2
      · rw [show decide ((((p :: r).length - 1 : Nat) : Int) < ((B / 2 : Nat) : Int)) = true from decide_eq_true (by omega)]
        refine iteT ?_
        exact bad (.inr (.inl c2)) H2 K2
      · rw [show decide ((((p :: r).length - 1 : Nat) : Int) < ((B / 2 : Nat) : Int)) = false from decide_eq_false (by omega)]
        refine iteF ?_
        walk_at "go"
        cases c3 : lacks p with
        | true =>
          refine iteT ?_
          walk_at "go"
          by_cases c4 : B / 2 = (p :: r).length - 1
          · rw [show decide (V.int ((B / 2 : Nat) : Int) = V.int (((p :: r).length - 1 : Nat) : Int)) = true from decide_eq_true (by rw [c4])]
            refine iteF ?_
            exact ⟨_, rfl, rfl, rfl, by simp only [not_or, not_and]; exact ⟨c1, c2, fun _ z => z c4⟩⟩
          · rw [show decide (V.int ((B / 2 : Nat) : Int) = V.int (((p :: r).length - 1 : Nat) : Int)) = false from decide_eq_false fun z => c4 (by have := V.int.inj z; omega)]
            refine iteT ?_
            exact bad (.inr (.inr ⟨c3, c4⟩)) H2 K2
        | false =>
          refine iteF ?_
          refine iteF ?_
          exact ⟨_, rfl, rfl, rfl, by simp only [not_or, not_and]; exact ⟨c1, c2, fun z => by rw [show topLacks (p :: r) = lacks p from rfl, c3] at z; cases z⟩⟩
  · rintro σ X ⟨⟨dp, rfl, rfl, rfl, hno⟩⟩
    rw [if_neg hno] at q0 q1
    simp only [not_or, not_and] at hno
    have obX := R2.ob
    have hn8 : n ≤ 800000 := by omega
    have ext : EH.comeTo ((p :: r).length - 1 - B / 2) (p :: r) "" = EH.comeTo ((p :: r).length - 1 - B / 2) (p :: r) "" := rfl
    walk_at "go"
    intro as' H3 R3 sub k3
    have clen := comeTo_len ((p :: r).length - 1 - B / 2) (p :: r) "" (by rw [List.length_cons]; omega)
    have cend : (p :: r).length - 1 - B / 2 ≠ 0 → ∃ o q, (comeTo ((p :: r).length - 1 - B / 2) (p :: r) "").1 = o :: q ∧ EndT o := fun hz => comeTo_end ok hz (by rw [List.length_cons]; omega)
    have ck0 : (p :: r).length - 1 - B / 2 = 0 → (comeTo ((p :: r).length - 1 - B / 2) (p :: r) "").2 = "" := fun hz => by rw [hz]; rfl
    generalize comeTo ((p :: r).length - 1 - B / 2) (p :: r) "" = C at q0 q1 R3 clen cend ck0 ⊢
    obtain ⟨st3, kk⟩ := C
    dsimp only at q0 q1 R3 clen cend ck0
    have K3 : Kp (x :: L :: ownR (a :: as)) H H3 := (K2.sub (by simp)).trans k3
    obtain ⟨p3, r3, rfl⟩ : ∃ p3 r3, st3 = p3 :: r3 := by
      cases st3 with
      | nil => simp at clen; omega
      | cons p3 r3 => exact ⟨p3, r3, rfl⟩
    obtain ⟨a3, as3, rfl⟩ : ∃ a3 as3, as' = a3 :: as3 := by
      have := R3.pts.length
      cases as' with
      | nil => simp at this
      | cons a as2 => exact ⟨a, as2, rfl⟩
    have ob3 := R3.ob
    have ls3 : H3 L = some (.lst ((as3.reverse.map fun a => V.ref a.p) ++ [V.ref a3.p])) := by rw [R3.ls]; simp
    have la3 := atI_last02 (as3.reverse.map fun a => V.ref a.p) (V.ref a3.p)
    have p33 : PtAt T.Part.C H3 a3 p3 := by
      cases R3.pts with
      | cons h t => exact h
    obtain ⟨hv3, o3, t3⟩ := id p33.ob
    have back : ∀ b, H3 b = none → b ∈ ownR (a :: as) ∨ H b = none := fun b hb => by
      by_cases hm : b ∈ ownR (a :: as)
      · exact .inl hm
      · right
        cases hH : H b with
        | none => rfl
        | some o =>
          by_cases hm2 : b ∈ x :: L :: ownR (a :: as)
          · exfalso
            obtain ⟨o', ho'⟩ := R3.someR b (by
              simp only [List.mem_cons] at hm2 ⊢
              rcases hm2 with z | z | z
              · exact .inl z
              · exact .inr (.inl z)
              · exact absurd z hm)
            rw [ho'] at hb
            cases hb
          · rw [K3.keep _ _ hH hm2] at hb
            cases hb
    have z1 : tl (Str.ofString "else") = ELSEL := by decide +kernel
    have z2 : tl (Str.ofString "pass") = PASSL := by decide +kernel
    have dk : ∀ y : Str, decide (V.str kk = V.str y) = decide (kk = y) := fun y => decide_eq_decide.mpr ⟨fun h => V.str.inj h, fun h => by rw [h]⟩
    have dk3 : ∀ (y z : Str), decide (V.str y = V.str z) = decide (y = z) := fun y z => decide_eq_decide.mpr ⟨fun h => V.str.inj h, fun h => by rw [h]⟩
    have st3l : (p3 :: r3).length ≤ 10000 := by omega
    walk_at "go"
    refine ⟨⟨fun σ X => Lp (σ = [some (.ref x), some (.str z), some (.str (mkS RL)), some (.int ((B / 2 : Nat) : Int)), some (.int ((B % 2 : Nat) : Int)), some (.int (((p :: r).length - 1 : Nat) : Int)), some (.bl (lacks p)), some (.str kk)] ∧ X = H3 ∧ ¬ (RL = ELSEL ∧ kk = "if")), ?_, ?_⟩⟩
    · walk_at "go"
      rw [str_lit z1]
      by_cases hE : RL = ELSEL
      · rw [decide_eq_true hE]
        refine iteT ?_
        walk_at "go"
        rw [dk]
        by_cases hK : kk = Str.ofString "if"
        · rw [decide_eq_true hK]
          refine iteT ?_
          rw [if_pos ⟨hE, hK⟩] at q1
          have llen3 : ((as3.reverse.map fun a => V.ref a.p) ++ [V.ref a3.p]).length < sizeLine := by
            rw [List.length_append, List.length_map, List.length_reverse, List.length_singleton]
            have h1 := R3.pts.length
            rw [List.length_cons] at h1
            exact sz_lt (by omega)
          walk_at "go"
          intro tp H4 htp e4
          have k4 := new_kp htp e4
          have a4 := new_at e4
          intro y dy hy hdy hne2
          have k5 : Kp [] H4 (upd (upd H4 dy (.own y)) y (.ins T.Part.C dy [])) := (Kp.new hdy).step0 (Kp.new (by rw [upd_ne hne2.symm]; exact hy))
          refine ⟨y, dy, Str.ofString "else", .ref tp, [], rfl, upd_same, mk_tup (k5.at a4) trs_nil, fun r' H6 hr6 pt k6 => ⟨rfl, ?_⟩⟩
          have k46 : Kp [] H4 H6 := k5.step1 k6 (.inr hy)
          have K36 : Kp [] H3 H6 := k4.trans k46
          have ob6 := K36.at ob3
          have ls6 := K36.at ls3
          walk_at "go"
          intro H7 l7 k7
          have hy3 : H3 y = none := k4.free hy (by simp)
          have hr3 : H3 r' = none := (k4.trans k5).free hr6 (by simp)
          have RP := R3.push hy3 hr3 K36 pt k7 (by rw [l7]; simp) ⟨Nat.zero_le _, by decide⟩
          walk_at "go"
          refine q1 _ _ H7 rfl RP (fun b hb => ?_) ((K3.trans (K36.sub (by simp))).trans (k7.sub (by simp)))
          simp only [ownR, List.mem_cons] at hb
          rcases hb with rfl | rfl | hb
          · exact back _ hy3
          · exact back _ hr3
          · exact .inl (sub b (by simp only [ownR, List.mem_cons]; exact hb))
        · rw [decide_eq_false hK]
          refine iteF ?_
          exact ⟨rfl, rfl, fun h => hK h.2⟩
      · rw [decide_eq_false hE]
        refine iteF ?_
        refine iteF ?_
        exact ⟨rfl, rfl, fun h => hE h.1⟩
    · rintro σ X ⟨⟨rfl, rfl, hel⟩⟩
      rw [if_neg hel] at q0 q1
      walk_at "go"
      rw [str_lit z2]
      by_cases hP : RL = PASSL
      · rw [decide_eq_true hP]
        dsimp only at q0 q1
        rw [if_pos hP] at q0 q1
        refine iteT ?_
        walk_at "go"
        intro H4 o4 k4
        have R4 := R3.over t3 k4 (b := true) o4
        have KK : Kp (x :: L :: ownR (a :: as)) H H4 := K3.trans (k4.sub fun b hb => by
          cases List.mem_singleton.mp hb
          simp only [List.mem_cons]
          exact .inr (.inr (by have := sub a3.p (by simp [ownR]); exact this)))
        have ob4 := R4.ob
        have ls4 : H4 L = some (.lst ((as3.reverse.map fun a => V.ref a.p) ++ [V.ref a3.p])) := by rw [R4.ls]; simp
        walk_at "go"
        have dke : decide (V.str p3.kind = V.str (Str.ofString "else")) = decide (p3.kind = "else") := dk3 _ _
        by_cases hl : lacks p = true
        · rw [hl]
          refine iteT ?_
          walk_at "go"
          rw [dke]
          by_cases hk : p3.kind = "else"
          · rw [decide_eq_true hk]
            exact q0 (if_neg fun h => h.2 hk) H4 KK
          · rw [decide_eq_false hk]
            exact q1 _ (a3 :: as3) H4 (if_pos ⟨hl, hk⟩) (R4.mono (by omega)) (fun b hb => .inl (sub b hb)) KK
        · rw [Bool.not_eq_true] at hl
          rw [hl]
          refine iteF ?_
          exact q0 (if_neg fun h => by have := h.1; rw [show topLacks (p :: r) = lacks p from rfl, hl] at this; cases this) H4 KK
      · rw [decide_eq_false hP]
        dsimp only at q0 q1
        rw [if_neg hP] at q0 q1
        refine iteF ?_
        walk_at "go"
        cases hov : p3.over with
        | true =>
          rw [hov] at q0
          refine iteF ?_
          exact q0 (if_pos rfl) X K3
        | false =>
          rw [hov] at q0 q1
          rw [if_neg (by decide)] at q0 q1
          refine iteT ?_
          walk_at "go"
          refine ⟨by rw [len_mkS] at lr2 ⊢; omega, fun sv H5 tsv k5 => ?_⟩
          rw [tl_mkS] at tsv
          have R5 := R3.kp0 k5
          walk_at "go"
          refine ⟨by simp, by omega, tsv, fun ds hds => pS_form hds, fun hz => ?_, fun st' as' H6 hst R6 hb k6 => ?_⟩
          · exact q0 (by rw [hz]; rfl) H5 (K3.trans (k5.sub (by simp)))
          · refine q1 st' as' H6 hst R6 (fun b hb2 => ?_) ((K3.trans (k5.sub (by simp))).trans (k6.sub fun b hb => ?_))
            · rcases hb b hb2 with z | z
              · exact .inl (sub b z)
              · exact back b (k5.free z (by simp))
            · simp only [List.mem_cons] at hb ⊢
              rcases hb with z | z | z
              · exact .inl z
              · exact .inr (.inl z)
              · exact .inr (.inr (sub b z))
end
section
variable {P : Program} {w : World} {K : PySem.W.Frag} {mg : Str → Option Value} {base : Heap}
theorem ok_BadText_init (T : Top K mg) {k : Nat} : FnOk P w K mg base CX0 (k + 1) T.BadText_init.f T.BadText_init.fd ["self", "line"] (spErrI T.BadText.C "line") := by
  refine T.BadText_init.F.ok sc_BadText_init (fun vs H Q E h => ?_) (fun cdv A outer s H vs Q E hr h => ?_)
  · obtain ⟨a, v, rfl, _⟩ := h
    rfl
  obtain ⟨a, v, rfl, ha, q⟩ := h
  refine ⟨_, (pss_cons (ps_expr (pe_heinitK (K := K) rfl (by rfl) T.HalfError.g T.HalfError.B (pa_cons (pv 0) (pa_cons pe_str pa_nil))))
      (pss_one (ps_ostK (K := K) rfl (pv 0) (pv 1)))), ?_⟩
  have T1 := T.BadText.E.ox
  have T2 := T.BadText.E.noN
  walk_at "go"
  exact .inl ⟨ha, q⟩
theorem ok_BadProgram_init (T : Top K mg) {k : Nat} : FnOk P w K mg base CX0 (k + 1) T.BadProgram_init.f T.BadProgram_init.fd ["self", "error"] (spErrI T.BadProgram.C "error") := by
  refine T.BadProgram_init.F.ok sc_BadProgram_init (fun vs H Q E h => ?_) (fun cdv A outer s H vs Q E hr h => ?_)
  · obtain ⟨a, v, rfl, _⟩ := h
    rfl
  obtain ⟨a, v, rfl, ha, q⟩ := h
  refine ⟨_, (pss_cons (ps_expr (pe_heinitK (K := K) rfl (by rfl) T.HalfError.g T.HalfError.B (pa_cons (pv 0) (pa_cons pe_str pa_nil))))
      (pss_one (ps_ostK (K := K) rfl (pv 0) (pv 1)))), ?_⟩
  have T1 := T.BadProgram.E.ox
  have T2 := T.BadProgram.E.noN
  walk_at "go"
  exact .inl ⟨ha, q⟩
end
end EH
namespace EH
open PySem L2
local macro_rules | `(tactic| walk_at "sd") => `(tactic| first | assumption | ((with_reducible show (_ : Int) ≤ _); omega) | ((with_reducible show (_ : Int) < _); omega) | rfl | exact SqL.of (by assumption) | exact SqT.of (by assumption) | exact atI_nat (j := 0) rfl | exact atI_nat (j := 1) rfl | exact atI_nat (j := 2) rfl | exact atI_nat (j := 3) rfl | exact sz_lit rfl | exact lt_lit rfl | exact pos_lit rfl | exact le_lit rfl | exact Or.inl (SqL.of (by assumption)) | exact ⟨_, SqL.of (by assumption)⟩ | exact ⟨_, SqT.of (by assumption)⟩ | exact Or.inr (SqT.of (by assumption)) | exact ClsV.ty _ | exact TyX.base (TyOf.int _) | exact TyX.base (TyOf.str _) | exact TyX.base (TyOf.tup (by assumption)) | exact kit_ty isi_ss | exact kit_ty isi_is | exact kit_ty isi_ts | exact kit_ty isi_si | exact kit_ty isi_ii | exact kit_ty isi_ti | exact kit_ty isi_st | exact kit_ty isi_it | exact kit_ty isi_tt | exact TyX.base TyOf.non | exact TyX.base (TyOf.bl _) | exact kit_ty isi_bs | exact kit_ty isi_bi | exact kit_ty isi_bt | exact kit_ty isi_bb | exact kit_ty isi_ns | exact kit_ty isi_ni | exact kit_ty isi_nt | exact kit_ty isi_nb | exact kit_ty isi_sb | exact kit_ty isi_ib | exact kit_ty isi_tb | exact Or.inl ⟨_, Or.inl (by assumption)⟩ | exact DGet.k (k := Sum.inr _) (by assumption) | exact DGet.k (k := Sum.inl _) (by assumption) | (refine cpow_of ?_; decide) | (refine cmul_of ?_; decide) | (show (_ : Int) ≠ 0; first | decide | omega) | (refine cdivn_of ?_; decide) | exact Or.inl ⟨rfl, _, SqL.of (by assumption)⟩ | omega)
local macro_rules | `(tactic| walk_at "st") => `(tactic| first | (apply Exists.intro) | (refine And.intro ?_ ?_; focus (walk_at "sd")) | (apply Or.inl; apply Exists.intro; refine And.intro ?_ ?_; focus rfl) | (apply Or.inr; apply Exists.intro; refine And.intro ?_ ?_; focus rfl))
local macro_rules | `(tactic| walk_at "go") => `(tactic| repeat (walk_at "st"))
section
variable {P : Program} {w : World} {K : PySem.W.Frag} {mg : Str → Option Value} {base : Heap}
theorem ok_is_whole (T : Top K mg) {k : Nat} : FnOk P w K mg base CX0 (k + 1) T.is_whole.f T.is_whole.fd ["value", "least", "most"] spWhole := by
  refine T.is_whole.F.ok sc_is_whole (fun vs H Q E h => ?_) (fun cdv A outer s H vs Q E hr h => ?_)
  · obtain ⟨v, d, lo, hi, rfl, _⟩ := h
    rfl
  obtain ⟨v, d, lo, hi, rfl, hT, q⟩ := h
  refine ⟨_, (pss_one (ps_ret (pe_and (pe_callB (id := "isinstance") (call_isiK (K := K) rfl) (by rfl) T.isinstance (by decide +kernel) (pa_cons (pv 0) (pa_cons (pe_bltn (v := .ty "int") (u := .type "int") (by rfl) T.int (by decide +kernel) rfl) pa_nil))) (pe_and (pe_not (pe_callB (id := "isinstance") (call_isiK (K := K) rfl) (by rfl) T.isinstance (by decide +kernel) (pa_cons (pv 0) (pa_cons (pe_bltn (v := .ty "bool") (u := .type "bool") (by rfl) T.bool (by decide +kernel) rfl) pa_nil)))) (pe_one (pe_chain op_le op_le (pv 1) (pv 0) (pv 2))))))), ?_⟩
  cases d with
  | none => simp only [Tr] at hT; subst hT; walk_at "go"; exact q
  | bool b => simp only [Tr] at hT; subst hT; walk_at "go"; exact q
  | str z => simp only [Tr] at hT; subst hT; walk_at "go"; exact q
  | tuple ds =>
    obtain ⟨a, xs, rfl, h1, h2⟩ := tr_tup hT
    walk_at "go"
    exact q
  | list ds => simp only [Tr] at hT
  | dict ds => simp only [Tr] at hT
  | int i =>
    simp only [Tr] at hT
    subst hT
    replace q : Q (.bl (decide (lo ≤ i) && decide (i ≤ hi))) H := q
    walk_at "go"
    refine iteB (fun hc => ?_) (fun hc => ?_)
    · walk_at "go"
      rw [hc] at q
      exact q
    · rw [hc] at q
      exact q
theorem signs_ok {H : Hp} {D : Addr} {z : Str} (d : H D = some (.lst ((z.cps.toList.filter fun c => !decide (c ∈ SGNS.cps.toList)).map fun c => V.str ⟨#[c]⟩))) : (List.map (fun c => V.str ⟨#[c]⟩) (z.cps.toList.filter fun c => !decide (c ∈ SGNS.cps.toList))).isEmpty = sgnsB z := by
  unfold sgnsB
  generalize z.cps.toList = l
  induction l with
  | nil => rfl
  | cons c r ih =>
    cases hc : decide (c ∈ SGNS.cps.toList) with
    | true =>
      rw [List.filter_cons_of_neg (by rw [hc]; simp), List.all_cons, hc, ih]
      rfl
    | false =>
      rw [List.filter_cons_of_pos (by rw [hc]; rfl), List.all_cons, hc]
      rfl
theorem ok_is_word_programs (T : Top K mg) {k : Nat} : FnOk P w K mg base CX0 (k + 1) T.is_word_programs.f T.is_word_programs.fd ["value"] (spBoolD wordB) := by
  refine T.is_word_programs.F.ok sc_is_word_programs (fun vs H Q E h => ?_) (fun cdv A outer s H vs Q E hr h => ?_)
  · obtain ⟨v, d, rfl, _⟩ := h
    rfl
  obtain ⟨v, d, rfl, hT, sz, q⟩ := h
  have hu := hu_of hr
  refine ⟨_, (pss_cons (ps_if (PW.pt (pw_or (pt_not (pt_val (pe_callB (id := "isinstance") (call_isiK (K := K) rfl) (by rfl) T.isinstance (by decide +kernel) (pa_cons (pv 0) (pa_cons (pe_bltn (v := .ty "str") (u := .type "str") (by rfl) T.str (by decide +kernel) rfl) pa_nil))))) (pw_or1 (pt_not (pt_chain op_le op_le pe_int (pe_callB (id := "len") call_len_str (by rfl) T.len PySem.boot_len (pa_cons (pv 0) pa_nil)) (pe_glob (v := .int 8) (by rfl) T.g_MAX_WORD ⟨_, rfl⟩)))))) (pss_one (ps_ret pe_bl)) pss_nil)
      (pss_one (ps_ret (pe_cmpR (op_eqNil hu) (pe_lc (own := [("sign", 1)]) (by rfl) sc_is_word_programs.nd (pi_str (pv 0)) (blkOk_by (N := ["value", "sign"]) (sc := defScope s_is_word_programs) (own := [("sign", 1)]) (by decide +kernel)) (fun _ _ _ _ _ => (pg_name (i := 1) sc_is_word_programs.nd rfl (.inl rfl))) (fun _ _ _ _ _ => (pts_one (pt_cmpR op_notIn_sign (pv 1) (pe_glob (v := .str "abcdefghijklmnopqrstuvwxyz0123456789") (by rfl) T.g_SIGNS_programs ⟨_, rfl⟩) (by rfl)))) (fun _ _ _ _ _ => (pv 1))) (pe_lstA pa_nil) (nomark _))))), ?_⟩
  cases d with
  | none => simp only [Tr] at hT; subst hT; walk_at "go"; exact q H Kp.refl
  | bool b => simp only [Tr] at hT; subst hT; walk_at "go"; exact q H Kp.refl
  | int b => simp only [Tr] at hT; subst hT; walk_at "go"; exact q H Kp.refl
  | tuple ds =>
    obtain ⟨a, xs, rfl, h1, h2⟩ := tr_tup hT
    walk_at "go"
    exact q H Kp.refl
  | list ds => simp only [Tr] at hT
  | dict ds => simp only [Tr] at hT
  | str z =>
    simp only [Tr] at hT
    subst hT
    have lz : z.length ≤ sizeLine := sz_le (by simpa only [Szd] using sz)
    replace q : ∀ H', Kp [] H H' → Q (.bl ((decide (1 ≤ (z.length : Int)) && decide ((z.length : Int) ≤ 8)) && sgnsB z)) H' := q
    walk_at "go"
    refine iteB (fun h1 => ?_) (fun h1 => ?_)
    · walk_at "go"
      refine iteB (fun h2 => ?_) (fun h2 => ?_)
      · replace h2 := PyProof.Rows.false_of_not_true h2
        have q2 := q H Kp.refl
        rw [h1, h2] at q2
        exact q2
      · replace h2 := PyProof.Rows.true_of_not_false h2
        rw [h1, h2] at q
        walk_at "go"
        intro D hD
        refine lc_it walk_str (fun i X2 => Lp (Kp [D] H X2 ∧ X2 D = some (.lst (((z.cps.toList.take i).filter fun c => !decide (c ∈ SGNS.cps.toList)).map fun c => V.str ⟨#[c]⟩)))) ⟨(Kp.new hD).sub (by simp), upd_same⟩ (fun _ _ _ _ => trivial) ?_ ?_
        · rintro i x X2 X3 hi ⟨⟨kX, dX⟩⟩ ⟨rfl, c, hc, rfl⟩
          have ht : z.cps.toList.take (i + 1) = z.cps.toList.take i ++ [c] := by
            rw [List.take_add_one, Array.getElem?_toList, hc]
            rfl
          have sa : (((z.cps.toList.take i).filter fun c => !decide (c ∈ SGNS.cps.toList)).map fun c => V.str ⟨#[c]⟩).length < sizeLine := by
            have := List.length_filter_le (fun c => !decide (c ∈ SGNS.cps.toList)) (z.cps.toList.take i)
            rw [List.length_take] at this
            rw [List.length_map]
            exact sz_lt (by have := (show z.length ≤ 1000000 by simpa only [Szd] using sz); have : z.cps.toList.length = z.length := Array.length_toList; omega)
          walk_at "go"
          refine iteB (fun hc2 => ?_) (fun hc2 => ?_)
          · walk_at "go"
            refine ⟨⟨kX.step1 (Kp.put dX (fun _ z => by cases z)) (.inl (by simp)), ?_⟩⟩
            rw [upd_same, ht, List.filter_append, List.map_append]
            rw [List.filter_cons_of_pos (p := fun c => !decide (c ∈ SGNS.cps.toList)) (show (!decide (c ∈ SGNS.cps.toList)) = true from hc2)]
            rfl
          · refine ⟨⟨kX, ?_⟩⟩
            rw [dX, ht, List.filter_append, List.filter_cons_of_neg (p := fun c => !decide (c ∈ SGNS.cps.toList)) (by show ¬ ((!decide (c ∈ SGNS.cps.toList)) = true); rw [show (!decide (c ∈ SGNS.cps.toList)) = false from hc2]; simp), List.filter_nil, List.append_nil]
        · rintro X2 ⟨⟨kX, dX⟩⟩
          rw [List.take_of_length_le (by rw [Array.length_toList]; exact Nat.le_refl _)] at dX
          have es := signs_ok dX
          have kX' : Kp [] H X2 := Kp.refl.step1 kX (.inr hD)
          walk_at "go"
          intro l3 X3 hl3 e3
          have k3 := new_kp hl3 e3
          have a3 := new_at e3
          refine ⟨D, l3, _, rfl, rfl, k3.at dX, a3, ?_⟩
          rw [es]
          exact q X3 (kX'.step0 k3)
    · have q2 := q H Kp.refl
      rw [h1] at q2
      walk_at "go"
      exact q2
theorem ok_is_name_programs (T : Top K mg) {k : Nat} : FnOk P w K mg base CX0 (k + 1) T.is_name_programs.f T.is_name_programs.fd ["value"] (spBoolD nameB) := by
  refine T.is_name_programs.F.ok sc_is_name_programs (fun vs H Q E h => ?_) (fun cdv A outer s H vs Q E hr h => ?_)
  · obtain ⟨v, d, rfl, _⟩ := h
    rfl
  obtain ⟨v, d, rfl, hT, sz, q⟩ := h
  have hu := hu_of hr
  refine ⟨_, (pss_cons (ps_if (PW.pt (pw_or (pt_not (pt_val (pe_callB (id := "isinstance") (call_isiK (K := K) rfl) (by rfl) T.isinstance (by decide +kernel) (pa_cons (pv 0) (pa_cons (pe_bltn (v := .ty "str") (u := .type "str") (by rfl) T.str (by decide +kernel) rfl) pa_nil))))) (pw_or (pt_not (pt_chain op_le op_le pe_int (pe_callB (id := "len") call_len_str (by rfl) T.len PySem.boot_len (pa_cons (pv 0) pa_nil)) (pe_glob (v := .int 8) (by rfl) T.g_MAX_NAME ⟨_, rfl⟩))) (pw_or1 (pt_cmpR op_notIn_sign (pe_ix ix_str (pv 0) pe_int (fun _ _ => rfl)) (pe_glob (v := .str "abcdefghijklmnopqrstuvwxyz") (by rfl) T.g_LETTERS_programs ⟨_, rfl⟩) (by rfl)))))) (pss_one (ps_ret pe_bl)) pss_nil)
      (pss_one (ps_ret (pe_and (pe_cmpR (op_eqNil hu) (pe_lc (own := [("sign", 1)]) (by rfl) sc_is_name_programs.nd (pi_str (pv 0)) (blkOk_by (N := ["value", "sign"]) (sc := defScope s_is_name_programs) (own := [("sign", 1)]) (by decide +kernel)) (fun _ _ _ _ _ => (pg_name (i := 1) sc_is_name_programs.nd rfl (.inl rfl))) (fun _ _ _ _ _ => (pts_one (pt_cmpR op_notIn_sign (pv 1) (pe_glob (v := .str "abcdefghijklmnopqrstuvwxyz0123456789") (by rfl) T.g_SIGNS_programs ⟨_, rfl⟩) (by rfl)))) (fun _ _ _ _ _ => (pv 1))) (pe_lstA pa_nil) (nomark _)) (pe_one (pe_cmpR (op_notIn_seqK (K := K) rfl) (pv 0) (pe_glob (v := .ref T.KEPT) (by rfl) T.g_KEPT rfl) (by rfl))))))), ?_⟩
  cases d with
  | none => simp only [Tr] at hT; subst hT; walk_at "go"; exact q H Kp.refl
  | bool b => simp only [Tr] at hT; subst hT; walk_at "go"; exact q H Kp.refl
  | int b => simp only [Tr] at hT; subst hT; walk_at "go"; exact q H Kp.refl
  | tuple ds =>
    obtain ⟨a, xs, rfl, h1, h2⟩ := tr_tup hT
    walk_at "go"
    exact q H Kp.refl
  | list ds => simp only [Tr] at hT
  | dict ds => simp only [Tr] at hT
  | str z =>
    simp only [Tr] at hT
    subst hT
    have lz : z.length ≤ sizeLine := sz_le (by simpa only [Szd] using sz)
    replace q : ∀ H', Kp [] H H' → Q (.bl ((decide (1 ≤ (z.length : Int)) && decide ((z.length : Int) ≤ 8)) && headB z && sgnsB z && !inV (.str z) KEPTS)) H' := q
    walk_at "go"
    refine iteB (fun h1 => ?_) (fun h1 => ?_)
    · walk_at "go"
      refine iteB (fun h2 => ?_) (fun h2 => ?_)
      · replace h2 := PyProof.Rows.false_of_not_true h2
        have q2 := q H Kp.refl
        rw [h1, h2] at q2
        walk_at "go"
        exact q2
      · replace h2 := PyProof.Rows.true_of_not_false h2
        rw [h1, h2] at q
        obtain ⟨c0, r0, e0⟩ : ∃ c0 r0, z.cps.toList = c0 :: r0 := by
          cases e : z.cps.toList with
          | nil =>
            have : z.cps.toList.length = z.length := Array.length_toList
            rw [e] at this
            have := of_decide_eq_true h1
            rw [List.length_nil] at *
            omega
          | cons c r => exact ⟨c, r, rfl⟩
        have a0 : atI z.cps.toList 0 = some c0 := by
          rw [e0]
          exact atI_nat (j := 0) rfl
        have hd0 : headB z = decide (c0 ∈ LETS.cps.toList) := by
          unfold headB
          rw [e0]
        rw [hd0] at q
        walk_at "go"
        refine iteB (fun h3 => ?_) (fun h3 => ?_)
        · replace h3 : decide (c0 ∈ LETS.cps.toList) = false := PyProof.Rows.false_of_not_true h3
          have q2 := q H Kp.refl
          rw [h3] at q2
          walk_at "go"
          exact q2
        · replace h3 : decide (c0 ∈ LETS.cps.toList) = true := PyProof.Rows.true_of_not_false h3
          rw [h3] at q
          walk_at "go"
          intro D hD
          refine lc_it walk_str (fun i X2 => Lp (Kp [D] H X2 ∧ X2 D = some (.lst (((z.cps.toList.take i).filter fun c => !decide (c ∈ SGNS.cps.toList)).map fun c => V.str ⟨#[c]⟩)))) ⟨(Kp.new hD).sub (by simp), upd_same⟩ (fun _ _ _ _ => trivial) ?_ ?_
          · rintro i x X2 X3 hi ⟨⟨kX, dX⟩⟩ ⟨rfl, c, hc, rfl⟩
            have ht : z.cps.toList.take (i + 1) = z.cps.toList.take i ++ [c] := by
              rw [List.take_add_one, Array.getElem?_toList, hc]
              rfl
            have sa : (((z.cps.toList.take i).filter fun c => !decide (c ∈ SGNS.cps.toList)).map fun c => V.str ⟨#[c]⟩).length < sizeLine := by
              have := List.length_filter_le (fun c => !decide (c ∈ SGNS.cps.toList)) (z.cps.toList.take i)
              rw [List.length_take] at this
              rw [List.length_map]
              exact sz_lt (by have := (show z.length ≤ 1000000 by simpa only [Szd] using sz); have : z.cps.toList.length = z.length := Array.length_toList; omega)
            walk_at "go"
            refine iteB (fun hc2 => ?_) (fun hc2 => ?_)
            · walk_at "go"
              refine ⟨⟨kX.step1 (Kp.put dX (fun _ z => by cases z)) (.inl (by simp)), ?_⟩⟩
              rw [upd_same, ht, List.filter_append, List.map_append]
              rw [List.filter_cons_of_pos (p := fun c => !decide (c ∈ SGNS.cps.toList)) (show (!decide (c ∈ SGNS.cps.toList)) = true from hc2)]
              rfl
            · refine ⟨⟨kX, ?_⟩⟩
              rw [dX, ht, List.filter_append, List.filter_cons_of_neg (p := fun c => !decide (c ∈ SGNS.cps.toList)) (by show ¬ ((!decide (c ∈ SGNS.cps.toList)) = true); rw [show (!decide (c ∈ SGNS.cps.toList)) = false from hc2]; simp), List.filter_nil, List.append_nil]
          · rintro X2 ⟨⟨kX, dX⟩⟩
            rw [List.take_of_length_le (by rw [Array.length_toList]; exact Nat.le_refl _)] at dX
            have es := signs_ok dX
            have kX' : Kp [] H X2 := Kp.refl.step1 kX (.inr hD)
            walk_at "go"
            intro l3 X3 hl3 e3
            have k3 := new_kp hl3 e3
            have a3 := new_at e3
            refine ⟨D, l3, _, rfl, rfl, k3.at dX, a3, ?_⟩
            rw [es]
            have qk := T.q_KEPT X3
            refine ⟨_, rfl, ?_⟩
            refine iteB (fun h4 => ?_) (fun h4 => ?_)
            · rw [h4] at q
              walk_at "go"
              refine ⟨.inr qk, rfl, rfl, ?_⟩
              exact q X3 (kX'.step0 k3)
            · have q2 := q X3 (kX'.step0 k3)
              rw [h4] at q2
              exact q2
    · have q2 := q H Kp.refl
      rw [h1] at q2
      walk_at "go"
      exact q2
end
section
variable {P : Program} {w : World} {K : PySem.W.Frag} {mg : Str → Option Value} {base : Heap}
theorem ok_is_expression (T : Top K mg) : ∀ n : Nat, FnOk P w K mg base CX0 (n + 2) T.is_expression.f T.is_expression.fd ["value", "left"] (spBoolN exprB n)
  | 0 => by
    have G_is_name_programs : FnOk P w K mg base CX0 1 T.is_name_programs.f T.is_name_programs.fd ["value"] (spBoolD nameB) := ok_is_name_programs T
    have G_is_whole : FnOk P w K mg base CX0 1 T.is_whole.f T.is_whole.fd ["value", "least", "most"] spWhole := ok_is_whole T
    have G_is_expression : FnOk P w K mg base CX0 0 T.is_expression.f T.is_expression.fd ["value", "left"] (fun _ _ _ _ => False) := fn_no (fun _ _ _ _ h => h)
    refine T.is_expression.F.ok sc_is_expression (fun vs H Q E h => ?_) (fun cdv A outer s H vs Q E hr h => ?_)
    · obtain ⟨v, d, m, rfl, _⟩ := h
      rfl
    obtain ⟨v, d, m, rfl, rfl, hT, sz, q⟩ := h
    refine ⟨_, (pss_cons (ps_if (pt_cmpR op_eq (pv 1) pe_int (nomark _)) (pss_one (ps_ret pe_bl)) pss_nil)
      (pss_cons (ps_if (pt_not (pt_val (pe_callB (id := "isinstance") (call_isiK (K := K) rfl) (by rfl) T.isinstance (by decide +kernel) (pa_cons (pv 0) (pa_cons (pe_bltn (v := .ty "tuple") (u := .type "tuple") (by rfl) T.tuple (by decide +kernel) rfl) pa_nil))))) (pss_one (ps_ret (pe_or (pe_call G_is_name_programs (hr.mono (by omega)) (by rfl) T.is_name_programs.g T.is_name_programs.F.kp T.is_name_programs.b .nil pass0 (pa_cons (pv 0) pa_nil)) (pe_one (pe_call G_is_whole (hr.mono (by omega)) (by rfl) T.is_whole.g T.is_whole.F.kp T.is_whole.b .nil pass0 (pa_cons (pv 0) (pa_cons (pe_op op_sub pe_int (pe_glob (v := .int 99) (by rfl) T.g_MOST_NUMBER ⟨_, rfl⟩)) (pa_cons (pe_glob (v := .int 99) (by rfl) T.g_MOST_NUMBER ⟨_, rfl⟩) pa_nil)))))))) pss_nil)
      (pss_cons (ps_if (PW.pt (pw_or (pt_cmpR op_ne (pe_callB (id := "len") (call_lenK (K := K) rfl) (by rfl) T.len PySem.boot_len (pa_cons (pv 0) pa_nil)) pe_int (nomark _)) (pw_or (pt_not (pt_val (pe_callB (id := "isinstance") (call_isiK (K := K) rfl) (by rfl) T.isinstance (by decide +kernel) (pa_cons (pe_ix (ix_tupK (K := K) rfl) (pv 0) pe_int (fun _ _ => rfl)) (pa_cons (pe_bltn (v := .ty "str") (u := .type "str") (by rfl) T.str (by decide +kernel) rfl) pa_nil))))) (pw_or1 (pt_not (pt_val (pe_call G_is_expression (hr.mono (by omega)) (by rfl) T.is_expression.g T.is_expression.F.kp T.is_expression.b .nil pass0 (pa_cons (pe_ix (ix_tupK (K := K) rfl) (pv 0) pe_int (fun _ _ => rfl)) (pa_cons (pe_op op_sub (pv 1) pe_int) pa_nil))))))))) (pss_one (ps_ret pe_bl)) pss_nil)
      (pss_cons (ps_if (pt_cmpR op_eq (pe_ix (ix_tupK (K := K) rfl) (pv 0) pe_int (fun _ _ => rfl)) pe_str (nomark _)) (pss_one (ps_ret (pe_call G_is_whole (hr.mono (by omega)) (by rfl) T.is_whole.g T.is_whole.F.kp T.is_whole.b .nil pass0 (pa_cons (pe_ix (ix_tupK (K := K) rfl) (pv 0) pe_int (fun _ _ => rfl)) (pa_cons (pe_op op_sub pe_int (pe_glob (v := .int 9) (by rfl) T.g_MOST_FACTOR ⟨_, rfl⟩)) (pa_cons (pe_glob (v := .int 9) (by rfl) T.g_MOST_FACTOR ⟨_, rfl⟩) pa_nil)))))) pss_nil)
      (pss_one (ps_ret (pe_and (pe_cmpR (op_in_seqK (K := K) rfl) (pe_ix (ix_tupK (K := K) rfl) (pv 0) pe_int (fun _ _ => rfl)) (pe_tupA (pa_cons pe_str (pa_cons pe_str pa_nil))) (by rfl)) (pe_one (pe_call G_is_expression (hr.mono (by omega)) (by rfl) T.is_expression.g T.is_expression.F.kp T.is_expression.b .nil pass0 (pa_cons (pe_ix (ix_tupK (K := K) rfl) (pv 0) pe_int (fun _ _ => rfl)) (pa_cons (pe_op op_sub (pv 1) pe_int) pa_nil))))))))))), ?_⟩
    walk_at "go"
    exact q H Kp.refl
  | n + 1 => by
    have G_is_name_programs : FnOk P w K mg base CX0 1 T.is_name_programs.f T.is_name_programs.fd ["value"] (spBoolD nameB) := ok_is_name_programs T
    have G_is_whole : FnOk P w K mg base CX0 1 T.is_whole.f T.is_whole.fd ["value", "least", "most"] spWhole := ok_is_whole T
    have G_is_expression := ok_is_expression T n
    refine T.is_expression.F.ok sc_is_expression (fun vs H Q E h => ?_) (fun cdv A outer s H vs Q E hr h => ?_)
    · obtain ⟨v, d, m, rfl, _⟩ := h
      rfl
    obtain ⟨v, d, m, rfl, hm, hT, sz, q⟩ := h
    refine ⟨_, (pss_cons (ps_if (pt_cmpR op_eq (pv 1) pe_int (nomark _)) (pss_one (ps_ret pe_bl)) pss_nil)
      (pss_cons (ps_if (pt_not (pt_val (pe_callB (id := "isinstance") (call_isiK (K := K) rfl) (by rfl) T.isinstance (by decide +kernel) (pa_cons (pv 0) (pa_cons (pe_bltn (v := .ty "tuple") (u := .type "tuple") (by rfl) T.tuple (by decide +kernel) rfl) pa_nil))))) (pss_one (ps_ret (pe_or (pe_call G_is_name_programs (hr.mono (by omega)) (by rfl) T.is_name_programs.g T.is_name_programs.F.kp T.is_name_programs.b .nil pass0 (pa_cons (pv 0) pa_nil)) (pe_one (pe_call G_is_whole (hr.mono (by omega)) (by rfl) T.is_whole.g T.is_whole.F.kp T.is_whole.b .nil pass0 (pa_cons (pv 0) (pa_cons (pe_op op_sub pe_int (pe_glob (v := .int 99) (by rfl) T.g_MOST_NUMBER ⟨_, rfl⟩)) (pa_cons (pe_glob (v := .int 99) (by rfl) T.g_MOST_NUMBER ⟨_, rfl⟩) pa_nil)))))))) pss_nil)
      (pss_cons (ps_if (PW.pt (pw_or (pt_cmpR op_ne (pe_callB (id := "len") (call_lenK (K := K) rfl) (by rfl) T.len PySem.boot_len (pa_cons (pv 0) pa_nil)) pe_int (nomark _)) (pw_or (pt_not (pt_val (pe_callB (id := "isinstance") (call_isiK (K := K) rfl) (by rfl) T.isinstance (by decide +kernel) (pa_cons (pe_ix (ix_tupK (K := K) rfl) (pv 0) pe_int (fun _ _ => rfl)) (pa_cons (pe_bltn (v := .ty "str") (u := .type "str") (by rfl) T.str (by decide +kernel) rfl) pa_nil))))) (pw_or1 (pt_not (pt_val (pe_call G_is_expression (hr.mono (by omega)) (by rfl) T.is_expression.g T.is_expression.F.kp T.is_expression.b .nil pass0 (pa_cons (pe_ix (ix_tupK (K := K) rfl) (pv 0) pe_int (fun _ _ => rfl)) (pa_cons (pe_op op_sub (pv 1) pe_int) pa_nil))))))))) (pss_one (ps_ret pe_bl)) pss_nil)
      (pss_cons (ps_if (pt_cmpR op_eq (pe_ix (ix_tupK (K := K) rfl) (pv 0) pe_int (fun _ _ => rfl)) pe_str (nomark _)) (pss_one (ps_ret (pe_call G_is_whole (hr.mono (by omega)) (by rfl) T.is_whole.g T.is_whole.F.kp T.is_whole.b .nil pass0 (pa_cons (pe_ix (ix_tupK (K := K) rfl) (pv 0) pe_int (fun _ _ => rfl)) (pa_cons (pe_op op_sub pe_int (pe_glob (v := .int 9) (by rfl) T.g_MOST_FACTOR ⟨_, rfl⟩)) (pa_cons (pe_glob (v := .int 9) (by rfl) T.g_MOST_FACTOR ⟨_, rfl⟩) pa_nil)))))) pss_nil)
      (pss_one (ps_ret (pe_and (pe_cmpR (op_in_seqK (K := K) rfl) (pe_ix (ix_tupK (K := K) rfl) (pv 0) pe_int (fun _ _ => rfl)) (pe_tupA (pa_cons pe_str (pa_cons pe_str pa_nil))) (by rfl)) (pe_one (pe_call G_is_expression (hr.mono (by omega)) (by rfl) T.is_expression.g T.is_expression.F.kp T.is_expression.b .nil pass0 (pa_cons (pe_ix (ix_tupK (K := K) rfl) (pv 0) pe_int (fun _ _ => rfl)) (pa_cons (pe_op op_sub (pv 1) pe_int) pa_nil))))))))))), ?_⟩
    have z0 : decide (V.int m = V.int 0) = false := by
      rw [dec_int]
      exact decide_eq_false (by omega)
    walk_at "go"
    rw [z0]
    refine iteF ?_
    cases d with
    | none =>
      have hv := hT
      simp only [Tr] at hv
      subst hv
      walk_at "go"
      intro H1 k1
      have q1 : Q (.bl (nameB _ || wholeB (-99) 99 _)) H1 := q H1 k1
      have t1 := k1.tr hT
      refine ⟨_, rfl, iteB (fun hb => ?_) (fun hb => ?_)⟩
      · rw [hb] at q1
        exact q1
      · rw [hb] at q1
        walk_at "go"
        exact q1
    | bool b =>
      have hv := hT
      simp only [Tr] at hv
      subst hv
      walk_at "go"
      intro H1 k1
      have q1 : Q (.bl (nameB _ || wholeB (-99) 99 _)) H1 := q H1 k1
      have t1 := k1.tr hT
      refine ⟨_, rfl, iteB (fun hb => ?_) (fun hb => ?_)⟩
      · rw [hb] at q1
        exact q1
      · rw [hb] at q1
        walk_at "go"
        exact q1
    | int b =>
      have hv := hT
      simp only [Tr] at hv
      subst hv
      walk_at "go"
      intro H1 k1
      have q1 : Q (.bl (nameB _ || wholeB (-99) 99 _)) H1 := q H1 k1
      have t1 := k1.tr hT
      refine ⟨_, rfl, iteB (fun hb => ?_) (fun hb => ?_)⟩
      · rw [hb] at q1
        exact q1
      · rw [hb] at q1
        walk_at "go"
        exact q1
    | str z =>
      have hv := hT
      simp only [Tr] at hv
      subst hv
      walk_at "go"
      intro H1 k1
      have q1 : Q (.bl (nameB _ || wholeB (-99) 99 _)) H1 := q H1 k1
      have t1 := k1.tr hT
      refine ⟨_, rfl, iteB (fun hb => ?_) (fun hb => ?_)⟩
      · rw [hb] at q1
        exact q1
      · rw [hb] at q1
        walk_at "go"
        exact q1
    | list ds => simp only [Tr] at hT
    | dict ds => simp only [Tr] at hT
    | tuple ds =>
      obtain ⟨a, xs, rfl, h1, h2⟩ := tr_tup hT
      have ln := h2.length
      simp only [Szd] at sz
      walk_at "go"
      by_cases l3 : ds.length = 3
      · obtain ⟨d1, d2, d3, rfl⟩ : ∃ d1 d2 d3, ds = [d1, d2, d3] := by
          match ds, l3 with
          | [d1, d2, d3], _ => exact ⟨d1, d2, d3, rfl⟩
        simp only [TrAll] at h2
        obtain ⟨x1, _, rfl, t1, x2, _, rfl, t2, x3, _, rfl, t3, rfl⟩ := h2
        simp only [Szds] at sz
        obtain ⟨s1, s2, s3, _⟩ := sz
        cases d1 with
        | none => simp only [Tr] at t1; subst t1; walk_at "go"; exact q H Kp.refl
        | bool b => simp only [Tr] at t1; subst t1; walk_at "go"; exact q H Kp.refl
        | int b => simp only [Tr] at t1; subst t1; walk_at "go"; exact q H Kp.refl
        | tuple ds =>
          obtain ⟨a2, xs2, rfl, g1, g2⟩ := tr_tup t1
          walk_at "go"
          exact q H Kp.refl
        | list ds => simp only [Tr] at t1
        | dict ds => simp only [Tr] at t1
        | str k =>
          cases tr_str t1
          replace q : ∀ H', Kp [] H H' → Q (.bl (exprB n d3 && (if k = "times" then wholeB (-9) 9 d2 else inV (.str k) [.str "plus", .str "minus"] && exprB n d2))) H' := q
          walk_at "go"
          intro H1 k1
          have h11 := k1.tup _ _ h1
          have t21 := k1.tr t2
          refine ⟨_, rfl, iteB (fun hb => ?_) (fun hb => ?_)⟩
          · replace hb := PyProof.Rows.false_of_not_true hb
            have q1 := q H1 k1
            rw [hb] at q1
            walk_at "go"
            exact q1
          · replace hb := PyProof.Rows.true_of_not_false hb
            rw [hb] at q
            walk_at "go"
            rw [dec_str]
            refine iteB (fun hk => ?_) (fun hk => ?_)
            · have hk := of_decide_eq_true hk
              rw [if_pos hk] at q
              walk_at "go"
              exact q H1 k1
            · have hk := of_decide_eq_false hk
              rw [if_neg hk] at q
              walk_at "go"
              intro u2 H2 hu2 e2
              have k2 := new_kp hu2 e2
              have a2 := new_at e2
              have t22 := k2.tr t21
              have h12 := k2.tup _ _ h11
              refine ⟨u2, _, rfl, .inr (SqT.of a2), rfl, rfl, _, rfl, ?_⟩
              refine iteB (fun hi => ?_) (fun hi => ?_)
              · replace hi : inV (.str k) [.str "plus", .str "minus"] = true := hi
                rw [hi] at q
                walk_at "go"
                intro H3 k3
                exact q H3 ((k1.step0 k2).step0 k3)
              · replace hi : inV (.str k) [.str "plus", .str "minus"] = false := hi
                rw [hi] at q
                exact q H2 (k1.step0 k2)
      · have e3 : decide (V.int (xs.length : Int) = V.int 3) = false := dec_len (n := 3) (by omega)
        rw [e3]
        refine iteT ?_
        have ef : exprB (n + 1) (.tuple ds) = false := by
          unfold exprB
          split <;> simp_all
        walk_at "go"
        have q1 := q H Kp.refl
        rw [ef] at q1
        exact q1
end
section
variable {P : Program} {w : World} {K : PySem.W.Frag} {mg : Str → Option Value} {base : Heap}
theorem ok_is_test (T : Top K mg) : ∀ n : Nat, FnOk P w K mg base CX0 (n + 6) T.is_test.f T.is_test.fd ["value", "nots"] (spBoolN testB n)
  | n => by
    have G_is_expression : FnOk P w K mg base CX0 5 T.is_expression.f T.is_expression.fd ["value", "left"] (spBoolN exprB 3) := ok_is_expression T 3
    have G_is_test : FnOk P w K mg base CX0 (n + 5) T.is_test.f T.is_test.fd ["value", "nots"] (sp0 (spBoolN testB) n) := by
      cases n with
      | zero => exact fn_no (fun _ _ _ _ h => h)
      | succ m => exact ok_is_test T m
    refine T.is_test.F.ok sc_is_test (fun vs H Q E h => ?_) (fun cdv A outer s H vs Q E hr h => ?_)
    · obtain ⟨v, d, m, rfl, _⟩ := h
      rfl
    obtain ⟨v, d, m, rfl, hm, hT, sz, q⟩ := h
    refine ⟨_, (pss_cons (ps_if (PW.pt (pw_or (pt_not (pt_val (pe_callB (id := "isinstance") (call_isiK (K := K) rfl) (by rfl) T.isinstance (by decide +kernel) (pa_cons (pv 0) (pa_cons (pe_bltn (v := .ty "tuple") (u := .type "tuple") (by rfl) T.tuple (by decide +kernel) rfl) pa_nil))))) (pw_or (pt_not (pt_chain op_le op_le pe_int (pe_callB (id := "len") (call_lenK (K := K) rfl) (by rfl) T.len PySem.boot_len (pa_cons (pv 0) pa_nil)) pe_int)) (pw_or1 (pt_not (pt_val (pe_callB (id := "isinstance") (call_isiK (K := K) rfl) (by rfl) T.isinstance (by decide +kernel) (pa_cons (pe_ix (ix_tupK (K := K) rfl) (pv 0) pe_int (fun _ _ => rfl)) (pa_cons (pe_bltn (v := .ty "str") (u := .type "str") (by rfl) T.str (by decide +kernel) rfl) pa_nil))))))))) (pss_one (ps_ret pe_bl)) pss_nil)
      (pss_cons (ps_if (pt_cmpR op_eq (pe_ix (ix_tupK (K := K) rfl) (pv 0) pe_int (fun _ _ => rfl)) pe_str (nomark _)) (pss_one (ps_ret (pe_and (pe_cmpR op_eq (pe_callB (id := "len") (call_lenK (K := K) rfl) (by rfl) T.len PySem.boot_len (pa_cons (pv 0) pa_nil)) pe_int (nomark _)) (pe_and (pe_call G_is_expression (hr.mono (by omega)) (by rfl) T.is_expression.g T.is_expression.F.kp T.is_expression.b .nil pass0 (pa_cons (pe_ix (ix_tupK (K := K) rfl) (pv 0) pe_int (fun _ _ => rfl)) (pa_cons (pe_glob (v := .int 3) (by rfl) T.g_MAX_DEEP ⟨_, rfl⟩) pa_nil))) (pe_one (pe_call G_is_expression (hr.mono (by omega)) (by rfl) T.is_expression.g T.is_expression.F.kp T.is_expression.b .nil pass0 (pa_cons (pe_ix (ix_tupK (K := K) rfl) (pv 0) pe_int (fun _ _ => rfl)) (pa_cons (pe_glob (v := .int 3) (by rfl) T.g_MAX_DEEP ⟨_, rfl⟩) pa_nil)))))))) pss_nil)
      (pss_cons (ps_if (pt_cmpR op_eq (pe_ix (ix_tupK (K := K) rfl) (pv 0) pe_int (fun _ _ => rfl)) pe_str (nomark _)) (pss_one (ps_ret (pe_and (pe_cmpR op_eq (pe_callB (id := "len") (call_lenK (K := K) rfl) (by rfl) T.len PySem.boot_len (pa_cons (pv 0) pa_nil)) pe_int (nomark _)) (pe_one (pe_call G_is_expression (hr.mono (by omega)) (by rfl) T.is_expression.g T.is_expression.F.kp T.is_expression.b .nil pass0 (pa_cons (pe_ix (ix_tupK (K := K) rfl) (pv 0) pe_int (fun _ _ => rfl)) (pa_cons (pe_glob (v := .int 3) (by rfl) T.g_MAX_DEEP ⟨_, rfl⟩) pa_nil))))))) pss_nil)
      (pss_one (ps_ret (pe_and (pe_cmpR op_eq (pe_ix (ix_tupK (K := K) rfl) (pv 0) pe_int (fun _ _ => rfl)) pe_str (nomark _)) (pe_and (pe_cmpR op_eq (pe_callB (id := "len") (call_lenK (K := K) rfl) (by rfl) T.len PySem.boot_len (pa_cons (pv 0) pa_nil)) pe_int (nomark _)) (pe_and (pe_cmpR op_gt (pv 1) pe_int (nomark _)) (pe_one (pe_call G_is_test (hr.mono (by omega)) (by rfl) T.is_test.g T.is_test.F.kp T.is_test.b .nil pass0 (pa_cons (pe_ix (ix_tupK (K := K) rfl) (pv 0) pe_int (fun _ _ => rfl)) (pa_cons (pe_op op_sub (pv 1) pe_int) pa_nil)))))))))))), ?_⟩
    cases d with
    | none =>
      simp only [Tr] at hT
      subst hT
      have ef : testB n (.none) = false := by (unfold testB; cases n <;> rfl)
      rw [ef] at q
      walk_at "go"
      exact q H Kp.refl
    | bool b =>
      simp only [Tr] at hT
      subst hT
      have ef : testB n (.bool b) = false := by (unfold testB; cases n <;> rfl)
      rw [ef] at q
      walk_at "go"
      exact q H Kp.refl
    | int b =>
      simp only [Tr] at hT
      subst hT
      have ef : testB n (.int b) = false := by (unfold testB; cases n <;> rfl)
      rw [ef] at q
      walk_at "go"
      exact q H Kp.refl
    | str b =>
      simp only [Tr] at hT
      subst hT
      have ef : testB n (.str b) = false := by (unfold testB; cases n <;> rfl)
      rw [ef] at q
      walk_at "go"
      exact q H Kp.refl
    | list ds => simp only [Tr] at hT
    | dict ds => simp only [Tr] at hT
    | tuple ds =>
      obtain ⟨a, xs, rfl, h1, h2⟩ := tr_tup hT
      have ln := h2.length
      simp only [Szd] at sz
      rcases ds with _ | ⟨d1, _ | ⟨d2, _ | ⟨d3, _ | ⟨d4, r⟩⟩⟩⟩
      · simp only [TrAll] at h2
        subst h2
        have ef : testB n (.tuple []) = false := by (unfold testB; cases n <;> rfl)
        rw [ef] at q
        walk_at "go"
        exact q H Kp.refl
      · simp only [TrAll] at h2
        obtain ⟨x1, _, rfl, t1, rfl⟩ := h2
        have ef : testB n (.tuple [d1]) = false := by
          unfold testB
          split <;> simp_all
        rw [ef] at q
        walk_at "go"
        exact q H Kp.refl
      · simp only [TrAll] at h2
        obtain ⟨x1, _, rfl, t1, x2, _, rfl, t2, rfl⟩ := h2
        simp only [Szds] at sz
        obtain ⟨s1, s2, _⟩ := sz
        cases d1 with
        | none =>
          simp only [Tr] at t1
          subst t1
          have ef : testB n (.tuple [.none, d2]) = false := by (unfold testB; cases n <;> rfl)
          rw [ef] at q
          walk_at "go"
          exact q H Kp.refl
        | bool b =>
          simp only [Tr] at t1
          subst t1
          have ef : testB n (.tuple [.bool b, d2]) = false := by (unfold testB; cases n <;> rfl)
          rw [ef] at q
          walk_at "go"
          exact q H Kp.refl
        | int b =>
          simp only [Tr] at t1
          subst t1
          have ef : testB n (.tuple [.int b, d2]) = false := by (unfold testB; cases n <;> rfl)
          rw [ef] at q
          walk_at "go"
          exact q H Kp.refl
        | tuple ds =>
          obtain ⟨a2, xs2, rfl, g1, g2⟩ := tr_tup t1
          have ef : testB n (.tuple [.tuple ds, d2]) = false := by (unfold testB; cases n <;> rfl)
          rw [ef] at q
          walk_at "go"
          exact q H Kp.refl
        | list ds => simp only [Tr] at t1
        | dict ds => simp only [Tr] at t1
        | str k =>
          cases tr_str t1
          have eq2 : testB n (.tuple [.str k, d2]) = (if k = "less" then false else if k = "odd" then exprB 3 d2 else decide (k = "not") && decide (0 < n) && testB (n - 1) d2) := by
            have nl : ¬ (("less" : Str) = "odd") := by decide +kernel
            have nl2 : ¬ (("less" : Str) = "not") := by decide +kernel
            cases n with
            | zero =>
              show (decide (k = "odd") && exprB 3 d2) = _
              by_cases k1 : k = "less"
              · subst k1; rw [if_pos rfl, decide_eq_false nl]; rfl
              · rw [if_neg k1]
                by_cases k2 : k = "odd"
                · rw [if_pos k2, decide_eq_true k2]; rfl
                · rw [if_neg k2, decide_eq_false k2]; simp
            | succ m =>
              show (if k = "odd" then exprB 3 d2 else decide (k = "not") && testB m d2) = _
              by_cases k1 : k = "less"
              · subst k1; rw [if_pos rfl, if_neg nl, decide_eq_false nl2]; rfl
              · rw [if_neg k1]
                by_cases k2 : k = "odd"
                · rw [if_pos k2, if_pos k2]
                · rw [if_neg k2, if_neg k2]
                  simp
          rw [eq2] at q
          walk_at "go"
          rw [dec_str]
          refine iteB (fun hk => ?_) (fun hk => ?_)
          · have hk := of_decide_eq_true hk
            rw [if_pos hk] at q
            walk_at "go"
            exact q H Kp.refl
          · have hk := of_decide_eq_false hk
            rw [if_neg hk] at q
            walk_at "go"
            rw [dec_str]
            refine iteB (fun hk2 => ?_) (fun hk2 => ?_)
            · have hk2 := of_decide_eq_true hk2
              rw [if_pos hk2] at q
              walk_at "go"
              exact q
            · have hk2 := of_decide_eq_false hk2
              rw [if_neg hk2] at q
              walk_at "go"
              rw [dec_str]
              refine iteB (fun hk3 => ?_) (fun hk3 => ?_)
              · rw [hk3] at q
                walk_at "go"
                refine iteB (fun hn => ?_) (fun hn => ?_)
                · have hn := of_decide_eq_true hn
                  obtain ⟨j, rfl⟩ : ∃ j, n = j + 1 := ⟨n - 1, by omega⟩
                  rw [decide_eq_true (show 0 < j + 1 by omega)] at q
                  walk_at "go"
                  exact q
                · have hn := of_decide_eq_false hn
                  rw [decide_eq_false (show ¬ 0 < n by omega)] at q
                  exact q H Kp.refl
              · rw [hk3] at q
                exact q H Kp.refl
      · simp only [TrAll] at h2
        obtain ⟨x1, _, rfl, t1, x2, _, rfl, t2, x3, _, rfl, t3, rfl⟩ := h2
        simp only [Szds] at sz
        obtain ⟨s1, s2, s3, _⟩ := sz
        have ef : ∀ k, testB n (.tuple [.str k, d2, d3]) = (decide (k = "less") && exprB 3 d2 && exprB 3 d3) := fun k => by unfold testB; rfl
        cases d1 with
        | none =>
          simp only [Tr] at t1
          subst t1
          have ef : testB n (.tuple [.none, d2, d3]) = false := by (unfold testB; rfl)
          rw [ef] at q
          walk_at "go"
          exact q H Kp.refl
        | bool b =>
          simp only [Tr] at t1
          subst t1
          have ef : testB n (.tuple [.bool b, d2, d3]) = false := by (unfold testB; rfl)
          rw [ef] at q
          walk_at "go"
          exact q H Kp.refl
        | int b =>
          simp only [Tr] at t1
          subst t1
          have ef : testB n (.tuple [.int b, d2, d3]) = false := by (unfold testB; rfl)
          rw [ef] at q
          walk_at "go"
          exact q H Kp.refl
        | tuple ds =>
          obtain ⟨a2, xs2, rfl, g1, g2⟩ := tr_tup t1
          have ef : testB n (.tuple [.tuple ds, d2, d3]) = false := by (unfold testB; rfl)
          rw [ef] at q
          walk_at "go"
          exact q H Kp.refl
        | list ds => simp only [Tr] at t1
        | dict ds => simp only [Tr] at t1
        | str k =>
          cases tr_str t1
          rw [ef] at q
          walk_at "go"
          rw [dec_str]
          refine iteB (fun hk => ?_) (fun hk => ?_)
          · rw [hk] at q
            walk_at "go"
            intro H1 k1
            have h11 := k1.tup _ _ h1
            have t31 := k1.tr t3
            refine ⟨_, rfl, iteB (fun hb => ?_) (fun hb => ?_)⟩
            · rw [hb] at q
              walk_at "go"
              intro H2 k2
              exact q H2 (k1.step0 k2)
            · rw [hb] at q
              exact q H1 k1
          · rw [hk] at q
            walk_at "go"
            rw [dec_str]
            refine iteB (fun hk2 => ?_) (fun hk2 => ?_)
            · walk_at "go"
              exact q H Kp.refl
            · walk_at "go"
              rw [dec_str]
              refine iteB (fun hk3 => ?_) (fun hk3 => ?_)
              · walk_at "go"
                exact q H Kp.refl
              · exact q H Kp.refl
      · simp only [TrAll] at h2
        obtain ⟨x1, _, rfl, t1, x2, _, rfl, t2, x3, _, rfl, t3, x4, xr, rfl, t4, tr⟩ := h2
        have ef : testB n (.tuple (d1 :: d2 :: d3 :: d4 :: r)) = false := by
          unfold testB
          split <;> simp_all
        rw [ef] at q
        have c1 : decide ((2 : Int) ≤ ((x1 :: x2 :: x3 :: x4 :: xr).length : Int)) = true := decide_eq_true (by simp only [List.length_cons]; omega)
        have c2 : decide (((x1 :: x2 :: x3 :: x4 :: xr).length : Int) ≤ 3) = false := decide_eq_false (by simp only [List.length_cons]; omega)
        walk_at "go"
        rw [c1]
        refine iteT ?_
        walk_at "go"
        rw [c2]
        refine iteT ?_
        walk_at "go"
        exact q H Kp.refl
end
section
variable {P : Program} {w : World} {K : PySem.W.Frag} {mg : Str → Option Value} {base : Heap}
theorem ok_is_plain (T : Top K mg) {k : Nat} : FnOk P w K mg base CX0 (k + 6) T.is_plain.f T.is_plain.fd ["value"] (spStmt plainB) := by
  have G_is_expression : FnOk P w K mg base CX0 5 T.is_expression.f T.is_expression.fd ["value", "left"] (spBoolN exprB 3) := ok_is_expression T 3
  have G_is_name_programs : FnOk P w K mg base CX0 1 T.is_name_programs.f T.is_name_programs.fd ["value"] (spBoolD nameB) := ok_is_name_programs T
  have G_is_word_programs : FnOk P w K mg base CX0 1 T.is_word_programs.f T.is_word_programs.fd ["value"] (spBoolD wordB) := ok_is_word_programs T
  refine T.is_plain.F.ok sc_is_plain (fun vs H Q E h => ?_) (fun cdv A outer s H vs Q E hr h => ?_)
  · obtain ⟨v, k, ds, rfl, _⟩ := h
    rfl
  obtain ⟨v, k, ds, rfl, hT, sz, q⟩ := h
  refine ⟨_, (pss_cons (ps_if (pt_cmpR (op_in_seqK (K := K) rfl) (pe_ix (ix_tupK (K := K) rfl) (pv 0) pe_int (fun _ _ => rfl)) (pe_tupA (pa_cons pe_str (pa_cons pe_str pa_nil))) (by rfl)) (pss_one (ps_ret (pe_and (pe_cmpR op_eq (pe_callB (id := "len") (call_lenK (K := K) rfl) (by rfl) T.len PySem.boot_len (pa_cons (pv 0) pa_nil)) pe_int (nomark _)) (pe_and (pe_call G_is_name_programs (hr.mono (by omega)) (by rfl) T.is_name_programs.g T.is_name_programs.F.kp T.is_name_programs.b .nil pass0 (pa_cons (pe_ix (ix_tupK (K := K) rfl) (pv 0) pe_int (fun _ _ => rfl)) pa_nil)) (pe_one (pe_call G_is_expression (hr.mono (by omega)) (by rfl) T.is_expression.g T.is_expression.F.kp T.is_expression.b .nil pass0 (pa_cons (pe_ix (ix_tupK (K := K) rfl) (pv 0) pe_int (fun _ _ => rfl)) (pa_cons (pe_glob (v := .int 3) (by rfl) T.g_MAX_DEEP ⟨_, rfl⟩) pa_nil)))))))) pss_nil)
      (pss_cons (ps_if (pt_cmpR op_eq (pe_ix (ix_tupK (K := K) rfl) (pv 0) pe_int (fun _ _ => rfl)) pe_str (nomark _)) (pss_one (ps_ret (pe_and (pe_cmpR op_eq (pe_callB (id := "len") (call_lenK (K := K) rfl) (by rfl) T.len PySem.boot_len (pa_cons (pv 0) pa_nil)) pe_int (nomark _)) (pe_one (pe_call G_is_expression (hr.mono (by omega)) (by rfl) T.is_expression.g T.is_expression.F.kp T.is_expression.b .nil pass0 (pa_cons (pe_ix (ix_tupK (K := K) rfl) (pv 0) pe_int (fun _ _ => rfl)) (pa_cons (pe_glob (v := .int 3) (by rfl) T.g_MAX_DEEP ⟨_, rfl⟩) pa_nil))))))) pss_nil)
      (pss_one (ps_ret (pe_and (pe_cmpR (op_in_seqK (K := K) rfl) (pe_ix (ix_tupK (K := K) rfl) (pv 0) pe_int (fun _ _ => rfl)) (pe_tupA (pa_cons pe_str (pa_cons pe_str pa_nil))) (by rfl)) (pe_and (pe_cmpR op_eq (pe_callB (id := "len") (call_lenK (K := K) rfl) (by rfl) T.len PySem.boot_len (pa_cons (pv 0) pa_nil)) pe_int (nomark _)) (pe_one (pe_call G_is_word_programs (hr.mono (by omega)) (by rfl) T.is_word_programs.g T.is_word_programs.F.kp T.is_word_programs.b .nil pass0 (pa_cons (pe_ix (ix_tupK (K := K) rfl) (pv 0) pe_int (fun _ _ => rfl)) pa_nil))))))))), ?_⟩
  obtain ⟨a, xs, rfl, h1, h2⟩ := tr_tup hT
  simp only [TrAll] at h2
  obtain ⟨x1, xs, rfl, t1, h2⟩ := h2
  cases tr_str t1
  have ln := h2.length
  walk_at "go"
  intro u2 H2 hu2 e2
  have k2 := new_kp hu2 e2
  have a2 := new_at e2
  have h12 := k2.tup _ _ h1
  have hs2 := k2.trAll h2
  refine ⟨u2, _, rfl, .inr (SqT.of a2), rfl, rfl, _, rfl, ?_⟩
  refine iteB (fun hi => ?_) (fun hi => ?_)
  · replace hi : inV (.str k) [.str "set", .str "half"] = true := hi
    by_cases l3 : ds.length = 2
    · obtain ⟨d2, d3, rfl⟩ : ∃ d2 d3, ds = [d2, d3] := by
        match ds, l3 with
        | [d2, d3], _ => exact ⟨d2, d3, rfl⟩
      simp only [TrAll] at hs2
      obtain ⟨x2, _, rfl, t2, x3, _, rfl, t3, rfl⟩ := hs2
      simp only [Szds] at sz
      obtain ⟨s2, s3, _⟩ := sz
      replace q : ∀ H', Kp [] H H' → Q (.bl (inV (.str k) [.str "set", .str "half"] && nameB d2 && exprB 3 d3)) H' := q
      rw [hi] at q
      walk_at "go"
      intro H3 k3
      have h13 := k3.tup _ _ h12
      have t33 := k3.tr t3
      refine ⟨_, rfl, iteB (fun hb => ?_) (fun hb => ?_)⟩
      · rw [hb] at q
        walk_at "go"
        intro H4 k4
        exact q H4 ((k2.step0 k3).step0 k4)
      · rw [hb] at q
        exact q H3 (k2.step0 k3)
    · have e3 : decide (V.int (((V.str k) :: xs).length : Int) = V.int 3) = false := dec_len (n := 3) (by rw [List.length_cons]; omega)
      have ef : plainB (.tuple (.str k :: ds)) = false := by
        rcases ds with _ | ⟨d2, _ | ⟨d3, r⟩⟩
        · rfl
        · show (if k = "tell" then exprB 3 d2 else inV (.str k) [.str "say", .str "stop"] && wordB d2) = false
          have n1 : inV (.str "tell") [.str "set", .str "half"] = false := by decide +kernel
          have n2 : k ≠ "tell" := by
            rintro rfl
            rw [n1] at hi
            cases hi
          rw [if_neg n2]
          have hi2 : inV (.str k) [.str "say", .str "stop"] = false := by
            cases e : inV (.str k) [.str "say", .str "stop"] with
            | false => rfl
            | true =>
              exfalso
              have f1 := in2 hi
              have f2 := in2 e
              rcases f1 with rfl | rfl <;> rcases f2 with f2 | f2 <;> revert f2 <;> decide +kernel
          rw [hi2]
          rfl
        · rcases r with _ | ⟨d4, r⟩
          · exact absurd rfl l3
          · rfl
      rw [ef] at q
      walk_at "go"
      rw [e3]
      exact q H2 k2
  · replace hi : inV (.str k) [.str "set", .str "half"] = false := hi
    walk_at "go"
    rw [dec_str]
    refine iteB (fun hk => ?_) (fun hk => ?_)
    · have hk := of_decide_eq_true hk
      by_cases l2 : ds.length = 1
      · obtain ⟨d2, rfl⟩ : ∃ d2, ds = [d2] := by
          match ds, l2 with
          | [d2], _ => exact ⟨d2, rfl⟩
        simp only [TrAll] at hs2
        obtain ⟨x2, _, rfl, t2, rfl⟩ := hs2
        simp only [Szds] at sz
        obtain ⟨s2, _⟩ := sz
        replace q : ∀ H', Kp [] H H' → Q (.bl (if k = "tell" then exprB 3 d2 else inV (.str k) [.str "say", .str "stop"] && wordB d2)) H' := q
        rw [if_pos hk] at q
        walk_at "go"
        intro H3 k3
        exact q H3 (k2.step0 k3)
      · have e3 : decide (V.int (((V.str k) :: xs).length : Int) = V.int 2) = false := dec_len (n := 2) (by rw [List.length_cons]; omega)
        have ef : plainB (.tuple (.str k :: ds)) = false := by
          rcases ds with _ | ⟨d2, _ | ⟨d3, _ | ⟨d4, r⟩⟩⟩
          · rfl
          · exact absurd rfl l2
          · show (inV (.str k) [.str "set", .str "half"] && nameB d2 && exprB 3 d3) = false
            rw [hi]
            rfl
          · rfl
        rw [ef] at q
        walk_at "go"
        rw [e3]
        exact q H2 k2
    · have hk := of_decide_eq_false hk
      walk_at "go"
      intro u3 H3 hu3 e3
      have k3 := new_kp hu3 e3
      have a3 := new_at e3
      have h13 := k3.tup _ _ h12
      have hs3 := k3.trAll hs2
      refine ⟨u3, _, rfl, .inr (SqT.of a3), rfl, rfl, _, rfl, ?_⟩
      refine iteB (fun hj => ?_) (fun hj => ?_)
      · replace hj : inV (.str k) [.str "say", .str "stop"] = true := hj
        by_cases l2 : ds.length = 1
        · obtain ⟨d2, rfl⟩ : ∃ d2, ds = [d2] := by
            match ds, l2 with
            | [d2], _ => exact ⟨d2, rfl⟩
          simp only [TrAll] at hs3
          obtain ⟨x2, _, rfl, t2, rfl⟩ := hs3
          simp only [Szds] at sz
          obtain ⟨s2, _⟩ := sz
          replace q : ∀ H', Kp [] H H' → Q (.bl (if k = "tell" then exprB 3 d2 else inV (.str k) [.str "say", .str "stop"] && wordB d2)) H' := q
          rw [if_neg hk, hj] at q
          walk_at "go"
          intro H4 k4
          exact q H4 ((k2.step0 k3).step0 k4)
        · have e3 : decide (V.int (((V.str k) :: xs).length : Int) = V.int 2) = false := dec_len (n := 2) (by rw [List.length_cons]; omega)
          have ef : plainB (.tuple (.str k :: ds)) = false := by
            rcases ds with _ | ⟨d2, _ | ⟨d3, _ | ⟨d4, r⟩⟩⟩
            · rfl
            · exact absurd rfl l2
            · show (inV (.str k) [.str "set", .str "half"] && nameB d2 && exprB 3 d3) = false
              rw [hi]
              rfl
            · rfl
          rw [ef] at q
          walk_at "go"
          rw [e3]
          exact q H3 (k2.step0 k3)
      · replace hj : inV (.str k) [.str "say", .str "stop"] = false := hj
        have ef : plainB (.tuple (.str k :: ds)) = false := by
          rcases ds with _ | ⟨d2, _ | ⟨d3, _ | ⟨d4, r⟩⟩⟩
          · rfl
          · show (if k = "tell" then exprB 3 d2 else inV (.str k) [.str "say", .str "stop"] && wordB d2) = false
            rw [if_neg hk, hj]
            rfl
          · show (inV (.str k) [.str "set", .str "half"] && nameB d2 && exprB 3 d3) = false
            rw [hi]
            rfl
          · rfl
        rw [ef] at q
        exact q H3 (k2.step0 k3)
theorem ok_is_statement (T : Top K mg) {k : Nat} : FnOk P w K mg base CX0 (k + 9) T.is_statement.f T.is_statement.fd ["value"] (spBoolD stmtB) := by
  have G_is_plain : FnOk P w K mg base CX0 6 T.is_plain.f T.is_plain.fd ["value"] (spStmt plainB) := ok_is_plain T
  have G_is_test : FnOk P w K mg base CX0 8 T.is_test.f T.is_test.fd ["value", "nots"] (spBoolN testB 2) := ok_is_test T 2
  have G_is_whole : FnOk P w K mg base CX0 1 T.is_whole.f T.is_whole.fd ["value", "least", "most"] spWhole := ok_is_whole T
  refine T.is_statement.F.ok sc_is_statement (fun vs H Q E h => ?_) (fun cdv A outer s H vs Q E hr h => ?_)
  · obtain ⟨v, d, rfl, _⟩ := h
    rfl
  obtain ⟨v, d, rfl, hT, sz, q⟩ := h
  refine ⟨_, (pss_cons (ps_if (PW.pt (pw_or (pt_not (pt_val (pe_callB (id := "isinstance") (call_isiK (K := K) rfl) (by rfl) T.isinstance (by decide +kernel) (pa_cons (pv 0) (pa_cons (pe_bltn (v := .ty "tuple") (u := .type "tuple") (by rfl) T.tuple (by decide +kernel) rfl) pa_nil))))) (pw_or (pt_cmpR op_eq (pe_callB (id := "len") (call_lenK (K := K) rfl) (by rfl) T.len PySem.boot_len (pa_cons (pv 0) pa_nil)) pe_int (nomark _)) (pw_or1 (pt_not (pt_val (pe_callB (id := "isinstance") (call_isiK (K := K) rfl) (by rfl) T.isinstance (by decide +kernel) (pa_cons (pe_ix (ix_tupK (K := K) rfl) (pv 0) pe_int (fun _ _ => rfl)) (pa_cons (pe_bltn (v := .ty "str") (u := .type "str") (by rfl) T.str (by decide +kernel) rfl) pa_nil))))))))) (pss_one (ps_ret pe_bl)) pss_nil)
      (pss_cons (ps_if (pt_cmpR op_eq (pe_ix (ix_tupK (K := K) rfl) (pv 0) pe_int (fun _ _ => rfl)) pe_str (nomark _)) (pss_cons (ps_if (PW.pt (pw_or (pt_cmpR op_ne (pe_callB (id := "len") (call_lenK (K := K) rfl) (by rfl) T.len PySem.boot_len (pa_cons (pv 0) pa_nil)) pe_int (nomark _)) (pw_or1 (pt_not (pt_val (pe_call G_is_test (hr.mono (by omega)) (by rfl) T.is_test.g T.is_test.F.kp T.is_test.b .nil pass0 (pa_cons (pe_ix (ix_tupK (K := K) rfl) (pv 0) pe_int (fun _ _ => rfl)) (pa_cons (pe_glob (v := .int 2) (by rfl) T.g_MAX_NOTS ⟨_, rfl⟩) pa_nil)))))))) (pss_one (ps_ret pe_bl)) pss_nil)
      (pss_one (ps_ret (pe_and (pe_callB (id := "isinstance") (call_isiK (K := K) rfl) (by rfl) T.isinstance (by decide +kernel) (pa_cons (pe_ix (ix_tupK (K := K) rfl) (pv 0) pe_int (fun _ _ => rfl)) (pa_cons (pe_bltn (v := .ty "tuple") (u := .type "tuple") (by rfl) T.tuple (by decide +kernel) rfl) pa_nil))) (pe_one (pe_callB (id := "isinstance") (call_isiK (K := K) rfl) (by rfl) T.isinstance (by decide +kernel) (pa_cons (pe_ix (ix_tupK (K := K) rfl) (pv 0) pe_int (fun _ _ => rfl)) (pa_cons (pe_bltn (v := .ty "tuple") (u := .type "tuple") (by rfl) T.tuple (by decide +kernel) rfl) pa_nil)))))))) pss_nil)
      (pss_cons (ps_if (pt_cmpR op_eq (pe_ix (ix_tupK (K := K) rfl) (pv 0) pe_int (fun _ _ => rfl)) pe_str (nomark _)) (pss_one (ps_ret (pe_and (pe_cmpR op_eq (pe_callB (id := "len") (call_lenK (K := K) rfl) (by rfl) T.len PySem.boot_len (pa_cons (pv 0) pa_nil)) pe_int (nomark _)) (pe_and (pe_call G_is_whole (hr.mono (by omega)) (by rfl) T.is_whole.g T.is_whole.F.kp T.is_whole.b .nil pass0 (pa_cons (pe_ix (ix_tupK (K := K) rfl) (pv 0) pe_int (fun _ _ => rfl)) (pa_cons pe_int (pa_cons (pe_glob (v := .int 8) (by rfl) T.g_MAX_TIMES ⟨_, rfl⟩) pa_nil)))) (pe_one (pe_callB (id := "isinstance") (call_isiK (K := K) rfl) (by rfl) T.isinstance (by decide +kernel) (pa_cons (pe_ix (ix_tupK (K := K) rfl) (pv 0) pe_int (fun _ _ => rfl)) (pa_cons (pe_bltn (v := .ty "tuple") (u := .type "tuple") (by rfl) T.tuple (by decide +kernel) rfl) pa_nil)))))))) pss_nil)
      (pss_one (ps_ret (pe_call G_is_plain (hr.mono (by omega)) (by rfl) T.is_plain.g T.is_plain.F.kp T.is_plain.b .nil pass0 (pa_cons (pv 0) pa_nil))))))), ?_⟩
  cases d with
  | none => simp only [Tr] at hT; subst hT; walk_at "go"; exact q H Kp.refl
  | bool b => simp only [Tr] at hT; subst hT; walk_at "go"; exact q H Kp.refl
  | int b => simp only [Tr] at hT; subst hT; walk_at "go"; exact q H Kp.refl
  | str b => simp only [Tr] at hT; subst hT; walk_at "go"; exact q H Kp.refl
  | list ds => simp only [Tr] at hT
  | dict ds => simp only [Tr] at hT
  | tuple ds =>
    obtain ⟨a, xs, rfl, h1, h2⟩ := tr_tup hT
    have ln := h2.length
    simp only [Szd] at sz
    rcases ds with _ | ⟨d1, ds⟩
    · simp only [TrAll] at h2
      subst h2
      walk_at "go"
      exact q H Kp.refl
    simp only [TrAll] at h2
    obtain ⟨x1, xs, rfl, t1, h2⟩ := h2
    rw [List.length_cons, List.length_cons] at ln
    simp only [Szds] at sz
    obtain ⟨_, sz⟩ := sz
    have c0 : decide (V.int ((x1 :: xs).length : Int) = V.int 0) = false := dec_len (n := 0) (by simp)
    have ef1 : (∀ k, d1 ≠ .str k) → stmtB (.tuple (d1 :: ds)) = false := by
      intro nk
      unfold stmtB
      split <;> simp_all
    cases d1 with
    | none => rw [ef1 (fun k z => by cases z)] at q; simp only [Tr] at t1; subst t1; walk_at "go"; exact q H Kp.refl
    | bool b => rw [ef1 (fun k z => by cases z)] at q; simp only [Tr] at t1; subst t1; walk_at "go"; exact q H Kp.refl
    | int b => rw [ef1 (fun k z => by cases z)] at q; simp only [Tr] at t1; subst t1; walk_at "go"; exact q H Kp.refl
    | tuple es =>
      rw [ef1 (fun k z => by cases z)] at q
      obtain ⟨a2, xs2, rfl, g1, g2⟩ := tr_tup t1
      walk_at "go"
      exact q H Kp.refl
    | list ds => simp only [Tr] at t1
    | dict ds => simp only [Tr] at t1
    | str k =>
      cases tr_str t1
      have pf : inV (.str "if") [.str "set", .str "half"] = false := by decide +kernel
      have pf2 : inV (.str "if") [.str "say", .str "stop"] = false := by decide +kernel
      have pf3 : ¬ (("if" : Str) = "tell") := by decide +kernel
      have pf4 : ¬ (("if" : Str) = "repeat") := by decide +kernel
      have pr : inV (.str "repeat") [.str "set", .str "half"] = false := by decide +kernel
      have pr2 : inV (.str "repeat") [.str "say", .str "stop"] = false := by decide +kernel
      have pr3 : ¬ (("repeat" : Str) = "tell") := by decide +kernel
      have pr4 : ¬ (("repeat" : Str) = "if") := by decide +kernel
      walk_at "go"
      rw [dec_str]
      refine iteB (fun hk => ?_) (fun hk => ?_)
      · have hk := of_decide_eq_true hk
        subst hk
        by_cases l4 : ds.length = 3
        · obtain ⟨t, y, n, rfl⟩ : ∃ t y n, ds = [t, y, n] := by
            match ds, l4 with
            | [t, y, n], _ => exact ⟨t, y, n, rfl⟩
          simp only [TrAll] at h2
          obtain ⟨x2, _, rfl, t2, x3, _, rfl, t3, x4, _, rfl, t4, rfl⟩ := h2
          simp only [Szds] at sz
          obtain ⟨s2, _⟩ := sz
          replace q : ∀ H', Kp [] H H' → Q (.bl (decide (("if" : Str) = "if") && testB 2 t && isTupB y && isTupB n)) H' := q
          rw [decide_eq_true rfl] at q
          walk_at "go"
          intro H3 k3
          have h13 := k3.tup _ _ h1
          have t33 := k3.tr t3
          have t43 := k3.tr t4
          refine ⟨_, rfl, iteB (fun hb => ?_) (fun hb => ?_)⟩
          · replace hb := PyProof.Rows.false_of_not_true hb
            rw [hb] at q
            walk_at "go"
            exact q H3 k3
          · replace hb := PyProof.Rows.true_of_not_false hb
            rw [hb] at q
            obtain ⟨ty1, ty2, ty3⟩ := isi_tup (K := K) t33
            obtain ⟨tn1, tn2, tn3⟩ := isi_tup (K := K) t43
            walk_at "go"
            refine iteB (fun hy => ?_) (fun hy => ?_)
            · rw [hy] at q
              walk_at "go"
              exact q H3 k3
            · rw [hy] at q
              exact q H3 k3
        · have e3 : decide (V.int (((V.str "if") :: xs).length : Int) = V.int 4) = false := dec_len (n := 4) (by rw [List.length_cons]; omega)
          have ef : stmtB (.tuple (.str "if" :: ds)) = false := by
            rcases ds with _ | ⟨d2, _ | ⟨d3, _ | ⟨d4, _ | ⟨d5, r⟩⟩⟩⟩
            · rfl
            · show (if ("if" : Str) = "tell" then exprB 3 d2 else inV (.str "if") [.str "say", .str "stop"] && wordB d2) = false
              rw [if_neg pf3, pf2]
              rfl
            · show (if ("if" : Str) = "repeat" then wholeB 0 8 d2 && isTupB d3 else inV (.str "if") [.str "set", .str "half"] && nameB d2 && exprB 3 d3) = false
              rw [if_neg pf4, pf]
              rfl
            · exact absurd rfl l4
            · rfl
          rw [ef] at q
          walk_at "go"
          rw [e3]
          refine iteT ?_
          walk_at "go"
          exact q H Kp.refl
      · have hk := of_decide_eq_false hk
        walk_at "go"
        rw [dec_str]
        refine iteB (fun hk2 => ?_) (fun hk2 => ?_)
        · have hk2 := of_decide_eq_true hk2
          subst hk2
          by_cases l3 : ds.length = 2
          · obtain ⟨t, b, rfl⟩ : ∃ t b, ds = [t, b] := by
              match ds, l3 with
              | [t, b], _ => exact ⟨t, b, rfl⟩
            simp only [TrAll] at h2
            obtain ⟨x2, _, rfl, t2, x3, _, rfl, t3, rfl⟩ := h2
            replace q : ∀ H', Kp [] H H' → Q (.bl (if ("repeat" : Str) = "repeat" then wholeB 0 8 t && isTupB b else plainB (.tuple [.str "repeat", t, b]))) H' := q
            rw [if_pos rfl] at q
            walk_at "go"
            refine iteB (fun hb => ?_) (fun hb => ?_)
            · rw [hb] at q
              obtain ⟨ty1, ty2, ty3⟩ := isi_tup (K := K) t3
              walk_at "go"
              exact q H Kp.refl
            · rw [hb] at q
              exact q H Kp.refl
          · have e3 : decide (V.int (((V.str "repeat") :: xs).length : Int) = V.int 3) = false := dec_len (n := 3) (by rw [List.length_cons]; omega)
            have ef : stmtB (.tuple (.str "repeat" :: ds)) = false := by
              rcases ds with _ | ⟨d2, _ | ⟨d3, _ | ⟨d4, _ | ⟨d5, r⟩⟩⟩⟩
              · rfl
              · show (if ("repeat" : Str) = "tell" then exprB 3 d2 else inV (.str "repeat") [.str "say", .str "stop"] && wordB d2) = false
                rw [if_neg pr3, pr2]
                rfl
              · exact absurd rfl l3
              · show (decide (("repeat" : Str) = "if") && testB 2 d2 && isTupB d3 && isTupB d4) = false
                rw [decide_eq_false pr4]
                rfl
              · rfl
            rw [ef] at q
            walk_at "go"
            rw [e3]
            exact q H Kp.refl
        · have hk2 := of_decide_eq_false hk2
          have ef : stmtB (.tuple (.str k :: ds)) = plainB (.tuple (.str k :: ds)) := by
            rcases ds with _ | ⟨d2, _ | ⟨d3, _ | ⟨d4, _ | ⟨d5, r⟩⟩⟩⟩
            · rfl
            · rfl
            · show (if k = "repeat" then wholeB 0 8 d2 && isTupB d3 else plainB (.tuple [.str k, d2, d3])) = _
              rw [if_neg hk2]
            · show (decide (k = "if") && testB 2 d2 && isTupB d3 && isTupB d4) = false
              rw [decide_eq_false hk]
              rfl
            · rfl
          rw [ef] at q
          refine ⟨_, rfl, _, k, ds, rfl, hT, sz, q⟩
end
section
variable {P : Program} {w : World} {K : PySem.W.Frag} {mg : Str → Option Value} {base : Heap}
theorem ok_blocks_ofD (T : Top K mg) {k : Nat} : FnOk P w K mg base CX0 (k + 1) T.blocks_of.f T.blocks_of.fd ["statement"] spBlocksD := by
  refine T.blocks_of.F.ok sc_blocks_of (fun vs H Q E h => ?_) (fun cdv A outer s H vs Q E hr h => ?_)
  · obtain ⟨v, s, rfl, _⟩ := h
    rfl
  obtain ⟨v, d, rfl, hT, hd, q⟩ := h
  refine ⟨_, (pss_cons (ps_if (pt_cmpR op_eq (pe_ix (ix_tupK (K := K) rfl) (pv 0) pe_int (fun _ _ => rfl)) pe_str (nomark _)) (pss_one (ps_ret (pe_lstA (pa_cons (pe_ix (ix_tupK (K := K) rfl) (pv 0) pe_int (fun _ _ => rfl)) (pa_cons (pe_ix (ix_tupK (K := K) rfl) (pv 0) pe_int (fun _ _ => rfl)) pa_nil))))) pss_nil)
      (pss_one (ps_ret (pe_ifExp (pt_cmpR op_eq (pe_ix (ix_tupK (K := K) rfl) (pv 0) pe_int (fun _ _ => rfl)) pe_str (nomark _)) (pe_lstA (pa_cons (pe_ix (ix_tupK (K := K) rfl) (pv 0) pe_int (fun _ _ => rfl)) pa_nil)) (pe_lstA pa_nil))))), ?_⟩
  rcases hd with ⟨t, y, n, rfl⟩ | ⟨k, b, rfl⟩ | ⟨w, ds, rfl, n1, n2, eb⟩
  · obtain ⟨p, x1, x2, x3, x4, rfl, h1, t1, t2, t3, t4⟩ := tr_tup4 hT
    cases tr_str t1
    walk_at "go"
    intro r H1 hr1 e1
    have k1 := new_kp hr1 e1
    refine q r _ H1 hr1 (new_at e1) ?_ k1
    show TrAll H1 (if ("if" : Str) = "if" then [.tuple y, .tuple n] else []) _
    rw [if_pos rfl]
    exact trs_cons (k1.tr t3) (trs_cons (k1.tr t4) trs_nil)
  · obtain ⟨p, x1, x2, x3, rfl, h1, t1, t2, t3⟩ := tr_tup3 hT
    cases tr_str t1
    walk_at "go"
    intro r H1 hr1 e1
    have k1 := new_kp hr1 e1
    refine q r _ H1 hr1 (new_at e1) ?_ k1
    show TrAll H1 (if ("repeat" : Str) = "repeat" then [.tuple b] else []) _
    rw [if_pos rfl]
    exact trs_cons (k1.tr t3) trs_nil
  · obtain ⟨a, xs, rfl, h1, h2⟩ := tr_tup hT
    simp only [TrAll] at h2
    obtain ⟨x1, xs, rfl, t1, h2⟩ := h2
    cases tr_str t1
    rw [eb] at q
    walk_at "go"
    rw [dec_str, decide_eq_false n1]
    refine iteF ?_
    walk_at "go"
    rw [dec_str, decide_eq_false n2]
    refine iteF ?_
    walk_at "go"
    intro r H1 hr1 e1
    exact q r _ H1 hr1 (new_at e1) trs_nil (new_kp hr1 e1)
theorem ok_items_within (T : Top K mg) {k : Nat} : FnOk P w K mg base CX0 (k + 2) T.items_within.f T.items_within.fd ["statement", "depth"] spWithin := by
  have G_blocks_of : FnOk P w K mg base CX0 1 T.blocks_of.f T.blocks_of.fd ["statement"] spBlocksD := ok_blocks_ofD T
  refine T.items_within.F.ok sc_items_within (fun vs H Q E h => ?_) (fun cdv A outer s H vs Q E hr h => ?_)
  · obtain ⟨v, s, dep, rfl, _⟩ := h
    rfl
  obtain ⟨v, d, dep, rfl, hT, hd, hz, q⟩ := h
  refine ⟨_, (pss_cons (ps_set (i := 2) sc_items_within.nd rfl (.inl rfl) (pe_lstA pa_nil))
      (pss_cons (ps_forA (ps_for PassesOwn.never rfl (pi_listK (K := K) rfl (pe_call G_blocks_of (hr.mono (by omega)) (by rfl) T.blocks_of.g T.blocks_of.F.kp T.blocks_of.b .nil pass0 (pa_cons (pv 0) pa_nil))) (pg_name (i := 3) sc_items_within.nd rfl (.inl rfl)) (pss_one (ps_expr (pe_bmK (K := K) rfl PySem.F.plainAttrs_list PySem.F.slot_list_extend PySem.F.type_list_extend mt_extendA (pv 2) (pa_cons (pe_lc (own := [("item", 4)]) (by rfl) sc_items_within.nd (pi_tupK (K := K) rfl (pv 3)) (blkOk_by (N := ["statement", "depth", "found", "block", "item"]) (sc := defScope s_items_within) (own := [("item", 4)]) (by decide +kernel)) (fun _ _ _ _ _ => (pg_name (i := 4) sc_items_within.nd rfl (.inl rfl))) (fun _ _ _ _ _ => pts_nil) (fun _ _ _ _ _ => (pe_tupA (pa_cons (pe_op op_add (pv 1) pe_int) (pa_cons (pv 4) pa_nil))))) pa_nil))))))
      (pss_one (ps_ret (pe_revLA (K := K) rfl (pv 2)))))), ?_⟩
  have bz := bitems_sz d
  walk_at "go"
  intro fl H1 hf e1
  have k1 := new_kp hf e1
  have a1 := new_at e1
  have t1 := k1.tr hT
  walk_at "go"
  intro l2 bs H2 hl2 a2 tb2 k2
  have f2 := k2.at a1
  have nfl : fl ≠ l2 := ne_of_none a1 hl2
  have ktot : Kp [] H H2 := k1.step0 k2
  walk_at "go"
  refine ⟨for_list (K := K) (a := l2) (xs := bs) (fun i σ H3 => Lp (∃ (w3 w4 : Option V) (ws : List V), σ = [some v, some (.int dep), some (.ref fl), w3, w4] ∧ H3 fl = some (.lst ws) ∧ H3 l2 = some (.lst bs) ∧ TrAll H3 ((((blksD d).take i).flatMap itemsD).map fun e => pairD (dep + 1, e)) ws ∧ Kp [fl] H2 H3)) ⟨_, _, _, rfl, f2, a2, by simp only [List.take_zero, List.flatMap_nil, List.map_nil]; exact trs_nil, Kp.refl⟩ (fun i σ H3 _ x => ?_) ?_ ?_⟩
  · obtain ⟨⟨w3, w4, ws, _, _, a3, _⟩⟩ := x
    exact SqL.of a3
  · rintro i x σ H3 hx ⟨⟨w3, w4, ws, rfl, f3, a3, tw3, k3⟩⟩
    have hi : i < (blksD d).length := by
      obtain ⟨h, _⟩ := List.getElem?_eq_some_iff.mp hx
      rw [tb2.length] at h
      exact h
    obtain ⟨bd, hbd⟩ : ∃ bd, (blksD d)[i]? = some bd := ⟨_, List.getElem?_eq_getElem hi⟩
    obtain ⟨x', hx', tx⟩ := tb2.get hbd
    rw [hx] at hx'
    cases hx'
    obtain ⟨ys, rfl⟩ : ∃ ys, bd = .tuple ys := by
      have m := List.mem_of_getElem? hbd
      rcases hd with ⟨t, y, n, rfl⟩ | ⟨k, b, rfl⟩ | ⟨w, ds, rfl, n1, n2, eb⟩
      · replace m : bd ∈ (if ("if" : Str) = "if" then [.tuple y, .tuple n] else []) := m
        rw [if_pos rfl] at m
        simp only [List.mem_cons, List.not_mem_nil, or_false] at m
        rcases m with rfl | rfl
        · exact ⟨_, rfl⟩
        · exact ⟨_, rfl⟩
      · replace m : bd ∈ (if ("repeat" : Str) = "repeat" then [.tuple b] else []) := m
        rw [if_pos rfl] at m
        simp only [List.mem_cons, List.not_mem_nil, or_false] at m
        exact ⟨_, m⟩
      · rw [eb] at m
        cases m
    obtain ⟨ta, vs, rfl, hta, tvs⟩ := tr_tup (k3.tr tx)
    have etk : ((blksD d).take (i + 1)).flatMap itemsD = ((blksD d).take i).flatMap itemsD ++ ys := by
      rw [List.take_add_one, hbd, List.flatMap_append]
      simp [itemsD]
    have ebt : ((blksD d).take (i + 1)).flatMap itemsD ++ ((blksD d).drop (i + 1)).flatMap itemsD = bitems d := by
      rw [← List.flatMap_append, List.take_append_drop]
      rfl
    have lall : (((blksD d).take i).flatMap itemsD).length + ys.length ≤ 1000000 := by
      have e := congrArg List.length ebt
      rw [List.length_append, etk, List.length_append] at e
      have := dszs_len (bitems d)
      omega
    walk_at "go"
    intro D hD
    have nDf : fl ≠ D := ne_of_none f3 hD
    refine lc_tup (K := K) (a := ta) (xs := vs) (fun j H4 => Lp (Kp [D] H3 H4 ∧ ∃ us, H4 D = some (.lst us) ∧ TrAll H4 ((ys.take j).map fun e => pairD (dep + 1, e)) us)) ⟨(Kp.new hD).sub (by simp), [], upd_same, by simp only [List.take_zero, List.map_nil]; exact trs_nil⟩ ?_ ?_ ?_
    · rintro j H4 _ ⟨⟨k4, _⟩⟩
      exact SqT.of (k4.tup _ _ hta)
    · rintro j x H4 hx4 ⟨⟨k4, us, d4, tu4⟩⟩
      have hj : j < ys.length := by
        obtain ⟨h, _⟩ := List.getElem?_eq_some_iff.mp hx4
        rw [tvs.length] at h
        exact h
      have hy : ys[j]? = some ys[j] := List.getElem?_eq_getElem hj
      obtain ⟨x', hx', txx⟩ := tvs.get hy
      rw [hx4] at hx'
      cases hx'
      have tx4 := k4.tr txx
      have lu := tu4.length
      rw [List.length_map, List.length_take] at lu
      have lu2 : us.length < sizeLine := sz_lt (by omega)
      walk_at "go"
      intro r5 H5 hr5 e5
      have k5 := new_kp hr5 e5
      have a5 := new_at e5
      have d5 := k5.at d4
      walk_at "go"
      have k6 := Kp.put (u := .lst (us ++ [.ref r5])) d5 (fun _ y => by cases y)
      refine ⟨⟨(k4.step0 k5).step1 k6 (.inl (by simp)), _, upd_same, ?_⟩⟩
      rw [List.take_add_one, hy, List.map_append]
      exact (k6.trAll (k5.trAll tu4)).append (trs_cons (k6.tr (mk_tup a5 (trs_cons mk_int (trs_cons (k5.tr tx4) trs_nil)))) trs_nil)
    · rintro H4 ⟨⟨k4, us, d4, tu4⟩⟩
      rw [tvs.length, List.take_length] at tu4
      have lu := tu4.length
      rw [List.length_map] at lu
      have lw := tw3.length
      rw [List.length_map] at lw
      have f4 := k4.keep _ _ f3 (ne1 nDf)
      have nl2 : l2 ≠ D := ne_of_none a3 hD
      have l24 := k4.keep _ _ a3 (ne1 nl2)
      have sz4 : ws.length + us.length ≤ sizeLine := sz_le (by omega)
      walk_at "go"
      intro H5 f5 k5
      refine ⟨_, _, _, rfl, f5, k5.keep _ _ l24 (ne1 nfl.symm), ?_, ?_⟩
      · rw [etk, List.map_append]
        exact (k5.trAll (k4.trAll tw3)).append (k5.trAll tu4)
      · have k34 : Kp [] H3 H4 := Kp.refl.step1 k4 (.inr hD)
        exact (k3.step0 k34).trans k5
  · rintro σ H3 ⟨⟨w3, w4, ws, rfl, f3, a3, tw3, k3⟩⟩
    rw [tb2.length, List.take_length] at tw3
    have kH3 : Kp [] H H3 := ktot.step1 k3 (.inr hf)
    walk_at "go"
    intro r4 H4 hr4 e4
    have k4 := new_kp hr4 e4
    exact q r4 _ H4 (kH3.free hr4 (by simp)) (new_at e4) (k4.trAll tw3).rev (kH3.step0 k4)
end
section
variable {P : Program} {w : World} {K : PySem.W.Frag} {mg : Str → Option Value} {base : Heap}
theorem ok_order_error (T : Top K mg) {k : Nat} : FnOk P w K mg base CX0 (k + 10) T.order_error.f T.order_error.fd ["value"] spOrder := by
  have G_items_within : FnOk P w K mg base CX0 2 T.items_within.f T.items_within.fd ["statement", "depth"] spWithin := ok_items_within T
  have G_is_statement : FnOk P w K mg base CX0 9 T.is_statement.f T.is_statement.fd ["value"] (spBoolD stmtB) := ok_is_statement T
  refine T.order_error.F.ok sc_order_error (fun vs H Q E h => ?_) (fun cdv A outer s H vs Q E hr h => ?_)
  · obtain ⟨v, ds, rfl, _⟩ := h
    rfl
  obtain ⟨v, ds, rfl, hT, sz, hz, q⟩ := h
  have hu := hu_of hr
  refine ⟨_, (pss_cons (ps_par (i := 1) (j := 2) (by rfl) sc_order_error.nd rfl rfl (by decide) rfl rfl (pa_cons (pe_revLA (K := K) rfl (pe_lc (own := [("item", 4)]) (by rfl) sc_order_error.nd (pi_tupK (K := K) rfl (pv 0)) (blkOk_by (N := ["value", "left", "place", "depth", "item"]) (sc := defScope s_order_error) (own := [("item", 4)]) (by decide +kernel)) (fun _ _ _ _ _ => (pg_name (i := 4) sc_order_error.nd rfl (.inl rfl))) (fun _ _ _ _ _ => pts_nil) (fun _ _ _ _ _ => (pe_tupA (pa_cons pe_int (pa_cons (pv 4) pa_nil)))))) (pa_cons pe_int pa_nil)) (by rfl))
      (pss_cons (ps_whileA (ps_while PassesOwn.never (pt_cmpR (op_neNil hu) (pv 1) (pe_lstA pa_nil) (nomark _)) (pss_cons (ps_asg (pe_bm0 PySem.F.plainAttrs_list PySem.F.slot_list_pop PySem.F.type_list_pop mt_popA (pv 1)) (pg_tup (by rfl) (pgs_cons (pg_name (i := 3) sc_order_error.nd rfl (.inl rfl)) (pgs_cons (pg_name (i := 4) sc_order_error.nd rfl (.inl rfl)) pgs_nil))))
      (pss_cons (ps_if (pt_cmpR op_gt (pv 3) (pe_glob (v := .int 3) (by rfl) T.g_MAX_NEST ⟨_, rfl⟩) (nomark _)) (pss_one (ps_ret (pe_tupA (pa_cons (pv 2) (pa_cons pe_str pa_nil))))) pss_nil)
      (pss_cons (ps_if (pt_not (pt_val (pe_call G_is_statement (hr.mono (by omega)) (by rfl) T.is_statement.g T.is_statement.F.kp T.is_statement.b .nil pass0 (pa_cons (pv 4) pa_nil)))) (pss_one (ps_ret (pe_tupA (pa_cons (pv 2) (pa_cons pe_str pa_nil))))) pss_nil)
      (pss_cons (ps_expr (pe_bmK (K := K) rfl PySem.F.plainAttrs_list PySem.F.slot_list_extend PySem.F.type_list_extend mt_extendA (pv 1) (pa_cons (pe_call G_items_within (hr.mono (by omega)) (by rfl) T.items_within.g T.items_within.F.kp T.items_within.b .nil pass0 (pa_cons (pv 4) (pa_cons (pv 3) pa_nil))) pa_nil)))
      (pss_one (ps_aug (i := 2) sc_order_error.nd rfl (.inl rfl) pe_int ip_add))))))))
      (pss_one (ps_ret pe_non)))), ?_⟩
  obtain ⟨ta, vs, rfl, hta, tvs⟩ := tr_tup hT
  have dl := dszs_len ds
  walk_at "go"
  intro D hD
  refine lc_tup (K := K) (a := ta) (xs := vs) (fun j H4 => Lp (Kp [D] H H4 ∧ ∃ us, H4 D = some (.lst us) ∧ TrAll H4 ((ds.take j).map fun e => pairD (0, e)) us)) ⟨(Kp.new hD).sub (by simp), [], upd_same, by simp only [List.take_zero, List.map_nil]; exact trs_nil⟩ ?_ ?_ ?_
  · rintro j H4 _ ⟨⟨k4, _⟩⟩
    exact SqT.of (k4.tup _ _ hta)
  · rintro j x H4 hx4 ⟨⟨k4, us, d4, tu4⟩⟩
    have hj : j < ds.length := by
      obtain ⟨h, _⟩ := List.getElem?_eq_some_iff.mp hx4
      rw [tvs.length] at h
      exact h
    have hy : ds[j]? = some ds[j] := List.getElem?_eq_getElem hj
    obtain ⟨x', hx', txx⟩ := tvs.get hy
    rw [hx4] at hx'
    cases hx'
    have tx4 := k4.tr txx
    have lu := tu4.length
    rw [List.length_map, List.length_take] at lu
    have lu2 : us.length < sizeLine := sz_lt (by omega)
    walk_at "go"
    intro r5 H5 hr5 e5
    have k5 := new_kp hr5 e5
    have a5 := new_at e5
    have d5 := k5.at d4
    walk_at "go"
    have k6 := Kp.put (u := .lst (us ++ [.ref r5])) d5 (fun _ y => by cases y)
    refine ⟨⟨(k4.step0 k5).step1 k6 (.inl (by simp)), _, upd_same, ?_⟩⟩
    rw [List.take_add_one, hy, List.map_append]
    exact (k6.trAll (k5.trAll tu4)).append (trs_cons (k6.tr (mk_tup a5 (trs_cons mk_int (trs_cons (k5.tr tx4) trs_nil)))) trs_nil)
  · rintro H4 ⟨⟨k4, us, d4, tu4⟩⟩
    rw [tvs.length, List.take_length] at tu4
    have k4' : Kp [] H H4 := Kp.refl.step1 k4 (.inr hD)
    walk_at "go"
    intro lf H5 hlf e5
    have k5 := new_kp hlf e5
    have a5 := new_at e5
    have kH5 := k4'.step0 k5
    have flf : H lf = none := k4'.free hlf (by simp)
    walk_at "go"
    have st0 : stk (ds.map fun e => ((0 : Int), e)) = ds := stk_bi 0 ds
    refine ⟨fun m σ H6 => Lp (∃ (l : List (Int × PyData)) (p : Int) (us : List V) (w3 w4 : Option V), σ = [some (.ref ta), some (.ref lf), some (.int p), w3, w4] ∧ H6 lf = some (.lst us) ∧ TrAll H6 ((l.map pairD).reverse) us ∧ m = dszs (stk l) ∧ m ≤ 1000000 ∧ Szds (stk l) ∧ (∀ f, dszs (stk l) < f → ordE f l p = ordErr ds) ∧ Kp [] H H6), ⟨dszs ds, ⟨ds.map fun e => (0, e), 0, _, _, _, rfl, a5, ?_, by rw [st0], hz, by rw [st0]; exact sz, fun f hf => ordE_fuel _ _ _ _ hf (by rw [st0]; omega), kH5⟩⟩, ?_⟩
    · rw [List.map_map]
      exact (k5.trAll tu4).rev
    · rintro m σ H6 ⟨⟨l, p, us, w3, w4, rfl, a6, t6, rfl, hm, sz6, fl6, k6⟩⟩
      walk_at "go"
      intro n7 H7 hn7 e7
      have k7 := new_kp hn7 e7
      have a7 := new_at e7
      have a67 := k7.at a6
      have t67 := k7.trAll t6
      refine ⟨lf, n7, us, rfl, rfl, a67, a7, _, rfl, ?_⟩
      rcases l with _ | ⟨⟨dep, d⟩, l⟩
      · simp only [List.map_nil, List.reverse_nil, TrAll] at t67
        subst t67
        refine iteF ?_
        walk_at "go"
        refine q .non H7 ?_ (k6.step0 k7)
        have e := fl6 1 (by simp only [stk, List.map_nil, dszs]; omega)
        rw [← e]
        exact mk_non
      · rw [List.map_cons, List.reverse_cons] at t67
        obtain ⟨us, u, rfl, tl, tu⟩ := t67.snoc_inv
        have ne : ((us ++ [u]).isEmpty) = false := by simp
        rw [ne]
        refine iteT ?_
        obtain ⟨pa, x1, x2, rfl, hpa, tx1, tx2⟩ := tr_tup2 tu
        cases tr_int tx1
        have esz : dszs (stk ((dep, d) :: l)) = dsz d + dszs (stk l) := by
          show dszs (d :: stk l) = _
          simp only [dszs]
        have hb := bitems_sz d
        have ell : dszs (stk (((bitems d).map fun e => (dep + 1, e)) ++ l)) = dszs (bitems d) + dszs (stk l) := by rw [stk_app, stk_bi, dszs_app]
        have szd : Szd d ∧ Szds (stk l) := by
          have : Szds (d :: stk l) := sz6
          simpa only [Szds] using this
        have fl7 := fl6 (dszs (stk ((dep, d) :: l)) + 1) (by omega)
        simp only [ordE] at fl7
        refine ⟨fun σ H9 => Lp (∃ (l' : List (Int × PyData)) (p : Int) (us : List V) (w3 w4 : Option V), σ = [some (.ref ta), some (.ref lf), some (.int p), w3, w4] ∧ H9 lf = some (.lst us) ∧ TrAll H9 ((l'.map pairD).reverse) us ∧ dszs (stk l') < dszs (stk ((dep, d) :: l)) ∧ dszs (stk l') ≤ 1000000 ∧ Szds (stk l') ∧ (∀ f, dszs (stk l') < f → ordE f l' p = ordErr ds) ∧ Kp [] H H9), fun σ' H' x => ?_, ?_⟩
        · obtain ⟨⟨l', p', us', w3', w4', h1, h2, h3, h4, h5, h6, h7, h8⟩⟩ := x
          exact ⟨dszs (stk l'), h4, ⟨l', p', us', w3', w4', h1, h2, h3, rfl, h5, h6, h7, h8⟩⟩
        walk_at "go"
        intro H8 a8 k8
        have hpa8 := k8.tup _ _ hpa
        have tx28 := k8.tr tx2
        have tl8 := k8.trAll tl
        have kH8 : Kp [] H H8 := (k6.step0 k7).step1 k8 (.inr flf)
        walk_at "go"
        refine iteB (fun hdep => ?_) (fun hdep => ?_)
        · have hdep := of_decide_eq_true hdep
          rw [if_pos hdep] at fl7
          walk_at "go"
          intro r9 H9 hr9 e9
          have k9 := new_kp hr9 e9
          refine q (.ref r9) H9 ?_ (kH8.step0 k9)
          rw [← fl7]
          exact mk_tup (new_at e9) (trs_cons mk_int (trs_cons mk_str trs_nil))
        · have hdep := of_decide_eq_false hdep
          rw [if_neg hdep] at fl7
          obtain ⟨szd1, szd2⟩ := szd
          walk_at "go"
          intro H9 k9
          have a89 := k9.at a8
          have tx29 := k9.tr tx28
          have tl9 := k9.trAll tl8
          refine ⟨_, rfl, iteB (fun hb => ?_) (fun hb => ?_)⟩
          · replace hb := PyProof.Rows.false_of_not_true hb
            rw [if_neg (by rw [hb]; simp)] at fl7
            walk_at "go"
            intro r10 H10 hr10 e10
            have k10 := new_kp hr10 e10
            refine q (.ref r10) H10 ?_ ((kH8.step0 k9).step0 k10)
            rw [← fl7]
            exact mk_tup (new_at e10) (trs_cons mk_int (trs_cons mk_str trs_nil))
          · replace hb := PyProof.Rows.true_of_not_false hb
            rw [if_pos hb] at fl7
            have dszd : dsz d ≤ 1000000 := by omega
            have std := stmt_std hb
            walk_at "go"
            intro p10 us10 H10 hp10 a10 t10 k10
            have a810 := k10.at a89
            have tl10 := k10.trAll tl9
            have ll := tl10.length
            have l10 : us10.length = (bitems d).length := by
              have := t10.length
              rw [List.length_reverse, List.length_map] at this
              exact this
            rw [List.length_reverse, List.length_map] at ll
            have lz1 := dszs_len (bitems d)
            have lz2 := dszs_len (stk l)
            have lz3 : (stk l).length = l.length := List.length_map _
            have sz10 : us.length + us10.length ≤ sizeLine := sz_le (by omega)
            walk_at "go"
            intro H11 a11 k11
            walk_at "go"
            refine ⟨((bitems d).map fun e => (dep + 1, e)) ++ l, p + 1, _, _, _, rfl, a11, ?_, by omega, by omega, ?_, ?_, ?_⟩
            · rw [List.map_append, List.reverse_append, List.map_map]
              exact (k11.trAll tl10).append (k11.trAll t10)
            · rw [stk_app, stk_bi]
              exact szd1.bitems.app szd2
            · intro f hf
              rw [← fl7]
              exact ordE_fuel _ _ _ _ hf (by omega)
            · exact ((kH8.step0 k9).step0 k10).step1 k11 (.inr flf)
end
section
variable {P : Program} {w : World} {K : PySem.W.Frag} {mg : Str → Option Value} {base : Heap}
theorem ok_rows_of (T : Top K mg) {k : Nat} : FnOk P w K mg base CX0 (k + 3) T.rows_of.f T.rows_of.fd ["program"] spRows := by
  have G_items_within : FnOk P w K mg base CX0 2 T.items_within.f T.items_within.fd ["statement", "depth"] spWithin := ok_items_within T
  refine T.rows_of.F.ok sc_rows_of (fun vs H Q E h => ?_) (fun cdv A outer s H vs Q E hr h => ?_)
  · obtain ⟨v, ds, rfl, _⟩ := h
    rfl
  obtain ⟨v, b, rfl, hT, hz, q⟩ := h
  have hu := hu_of hr
  refine ⟨_, (pss_cons (ps_par (i := 1) (j := 2) (by rfl) sc_rows_of.nd rfl rfl (by decide) rfl rfl (pa_cons (pe_revLA (K := K) rfl (pe_lc (own := [("item", 5)]) (by rfl) sc_rows_of.nd (pi_tupK (K := K) rfl (pv 0)) (blkOk_by (N := ["program", "left", "found", "depth", "statement", "item"]) (sc := defScope s_rows_of) (own := [("item", 5)]) (by decide +kernel)) (fun _ _ _ _ _ => (pg_name (i := 5) sc_rows_of.nd rfl (.inl rfl))) (fun _ _ _ _ _ => pts_nil) (fun _ _ _ _ _ => (pe_tupA (pa_cons pe_int (pa_cons (pv 5) pa_nil)))))) (pa_cons (pe_lstA pa_nil) pa_nil)) (by rfl))
      (pss_cons (ps_whileA (ps_while PassesOwn.never (pt_cmpR (op_neNil hu) (pv 1) (pe_lstA pa_nil) (nomark _)) (pss_cons (ps_asg (pe_bm0 PySem.F.plainAttrs_list PySem.F.slot_list_pop PySem.F.type_list_pop mt_popA (pv 1)) (pg_tup (by rfl) (pgs_cons (pg_name (i := 3) sc_rows_of.nd rfl (.inl rfl)) (pgs_cons (pg_name (i := 4) sc_rows_of.nd rfl (.inl rfl)) pgs_nil))))
      (pss_cons (ps_expr (pe_bmK (K := K) rfl PySem.F.plainAttrs_list PySem.F.slot_list_append PySem.F.type_list_append mt_appendA (pv 2) (pa_cons (pe_tupA (pa_cons (pv 3) (pa_cons (pv 4) pa_nil))) pa_nil)))
      (pss_one (ps_expr (pe_bmK (K := K) rfl PySem.F.plainAttrs_list PySem.F.slot_list_extend PySem.F.type_list_extend mt_extendA (pv 1) (pa_cons (pe_call G_items_within (hr.mono (by omega)) (by rfl) T.items_within.g T.items_within.F.kp T.items_within.b .nil pass0 (pa_cons (pv 4) (pa_cons (pv 3) pa_nil))) pa_nil))))))))
      (pss_one (ps_ret (pv 2))))), ?_⟩
  obtain ⟨ta, vs, rfl, hta, tvs⟩ := tr_tup hT
  have dl : b.length ≤ dszs (Sm.ds b) := Nat.le_trans (Nat.le_of_eq (by rw [Sm.ds_map, List.length_map])) (dszs_len (Sm.ds b))
  rw [Sm.ds_map] at tvs
  walk_at "go"
  intro D hD
  refine lc_tup (K := K) (a := ta) (xs := vs) (fun j H4 => Lp (Kp [D] H H4 ∧ ∃ us, H4 D = some (.lst us) ∧ TrAll H4 ((b.take j).map fun e => pairS (0, e)) us)) ⟨(Kp.new hD).sub (by simp), [], upd_same, by simp only [List.take_zero, List.map_nil]; exact trs_nil⟩ ?_ ?_ ?_
  · rintro j H4 _ ⟨⟨k4, _⟩⟩
    exact SqT.of (k4.tup _ _ hta)
  · rintro j x H4 hx4 ⟨⟨k4, us, d4, tu4⟩⟩
    have hj : j < b.length := by
      obtain ⟨h, _⟩ := List.getElem?_eq_some_iff.mp hx4
      rw [tvs.length, List.length_map] at h
      exact h
    have hy : b[j]? = some b[j] := List.getElem?_eq_getElem hj
    obtain ⟨x', hx', txx⟩ := tvs.get (i := j) (d := (b[j]).d) (by rw [List.getElem?_map, hy]; rfl)
    rw [hx4] at hx'
    cases hx'
    have tx4 := k4.tr txx
    have lu := tu4.length
    rw [List.length_map, List.length_take] at lu
    have lu2 : us.length < sizeLine := sz_lt (by omega)
    walk_at "go"
    intro r5 H5 hr5 e5
    have k5 := new_kp hr5 e5
    have a5 := new_at e5
    have d5 := k5.at d4
    walk_at "go"
    have k6 := Kp.put (u := .lst (us ++ [.ref r5])) d5 (fun _ y => by cases y)
    refine ⟨⟨(k4.step0 k5).step1 k6 (.inl (by simp)), _, upd_same, ?_⟩⟩
    rw [List.take_add_one, hy, List.map_append]
    exact (k6.trAll (k5.trAll tu4)).append (trs_cons (k6.tr (mk_tup a5 (trs_cons mk_int (trs_cons (k5.tr tx4) trs_nil)))) trs_nil)
  · rintro H4 ⟨⟨k4, us, d4, tu4⟩⟩
    rw [tvs.length, List.length_map, List.take_length] at tu4
    have k4' : Kp [] H H4 := Kp.refl.step1 k4 (.inr hD)
    walk_at "go"
    intro lf H5 hlf e5
    have k5 := new_kp hlf e5
    have a5 := new_at e5
    have kH5 := k4'.step0 k5
    have flf : H lf = none := k4'.free hlf (by simp)
    walk_at "go"
    intro fd H5b hfd e5b
    have k5b := new_kp hfd e5b
    have a5b := new_at e5b
    have a5c := k5b.at a5
    have kH5b := kH5.step0 k5b
    have ffd : H fd = none := kH5.free hfd (by simp)
    have nlf : lf ≠ fd := ne_of_none a5 hfd
    have ln := Sm.prss_len 0 b
    have pz : ∀ b : List Sm, Sm.pls b ≤ dszs (Sm.ds b) := fun b => (Sm.pls_dsz b)
    have pzb := pz b
    walk_at "go"
    refine ⟨fun m σ H6 => Lp (∃ (l : List (Int × Sm)) (dn : List (Int × Sm)) (us ws : List V) (w3 w4 : Option V), σ = [some (.ref ta), some (.ref lf), some (.ref fd), w3, w4, none] ∧ H6 lf = some (.lst us) ∧ TrAll H6 ((l.map pairS).reverse) us ∧ H6 fd = some (.lst ws) ∧ TrAll H6 (dn.map pairS) ws ∧ dn ++ prL l = Sm.prss 0 b ∧ m = (prL l).length ∧ (∀ q ∈ l, dsz q.2.d ≤ 1000000) ∧ l.length ≤ (prL l).length ∧ Kp [] H H6), ⟨(prL (b.map fun e => ((0 : Int), e))).length, ⟨b.map fun e => (0, e), [], _, _, _, _, rfl, a5c, ?_, a5b, trs_nil, ?_, rfl, ?_, ?_, kH5b⟩⟩, ?_⟩
    · rw [List.map_map]
      exact (k5b.trAll (k5.trAll tu4)).rev
    · rw [List.nil_append, prL_start]
    · rintro q hq
      obtain ⟨e, he, rfl⟩ := List.mem_map.mp hq
      exact Nat.le_trans (dsz_mem (by rw [Sm.ds_map]; exact List.mem_map.mpr ⟨e, he, rfl⟩)) hz
    · rw [prL_start, ln, List.length_map]
      exact Sm.len_pls b
    · rintro m σ H6 ⟨⟨l, dn, us, ws, w3, w4, rfl, a6, t6, f6, tf6, ep, rfl, hq6, ll6, k6⟩⟩
      have lep := congrArg List.length ep
      rw [List.length_append, ln] at lep
      walk_at "go"
      intro n7 H7 hn7 e7
      have k7 := new_kp hn7 e7
      have a7 := new_at e7
      have a67 := k7.at a6
      have f67 := k7.at f6
      have t67 := k7.trAll t6
      have tf67 := k7.trAll tf6
      refine ⟨lf, n7, us, rfl, rfl, a67, a7, _, rfl, ?_⟩
      rcases l with _ | ⟨⟨dep, d⟩, l⟩
      · simp only [List.map_nil, List.reverse_nil, TrAll] at t67
        subst t67
        refine iteF ?_
        walk_at "go"
        rw [prL, List.flatMap_nil, List.append_nil] at ep
        rw [ep] at tf67
        exact q fd ws H7 ffd f67 tf67 (k6.step0 k7)
      · rw [List.map_cons, List.reverse_cons] at t67
        obtain ⟨us, u, rfl, tl, tu⟩ := t67.snoc_inv
        have ne : ((us ++ [u]).isEmpty) = false := by simp
        rw [ne]
        refine iteT ?_
        obtain ⟨pa, x1, x2, rfl, hpa, tx1, tx2⟩ := tr_tup2 tu
        cases tr_int tx1
        rw [prL_cons] at ep lep ll6
        have hd1 := hq6 (dep, d) List.mem_cons_self
        refine ⟨fun σ H9 => Lp (∃ (l' : List (Int × Sm)) (dn : List (Int × Sm)) (us ws : List V) (w3 w4 : Option V), σ = [some (.ref ta), some (.ref lf), some (.ref fd), w3, w4, none] ∧ H9 lf = some (.lst us) ∧ TrAll H9 ((l'.map pairS).reverse) us ∧ H9 fd = some (.lst ws) ∧ TrAll H9 (dn.map pairS) ws ∧ dn ++ prL l' = Sm.prss 0 b ∧ (prL l').length < (prL ((dep, d) :: l)).length ∧ (∀ q ∈ l', dsz q.2.d ≤ 1000000) ∧ l'.length ≤ (prL l').length ∧ Kp [] H H9), fun σ' H' x => ?_, ?_⟩
        · obtain ⟨⟨l', dn', us', ws', w3', w4', h1, h2, h3, h4, h5, h6, h7, h8, h9, h10⟩⟩ := x
          exact ⟨_, h7, ⟨l', dn', us', ws', w3', w4', h1, h2, h3, h4, h5, h6, rfl, h8, h9, h10⟩⟩
        walk_at "go"
        intro H8 a8 k8
        have hpa8 := k8.tup _ _ hpa
        have tx28 := k8.tr tx2
        have tl8 := k8.trAll tl
        have f8 := k8.keep _ _ f67 (ne1 nlf.symm)
        have tf8 := k8.trAll tf67
        have kH8 : Kp [] H H8 := (k6.step0 k7).step1 k8 (.inr flf)
        walk_at "go"
        intro r9 H9 hr9 e9
        have k9 := new_kp hr9 e9
        have a9 := new_at e9
        have f9 := k9.at f8
        have a89 := k9.at a8
        have lw := tf8.length
        rw [List.length_map] at lw
        simp only [List.length_cons] at lep ll6
        have lws : ws.length < sizeLine := sz_lt (by omega)
        walk_at "go"
        intro H10 f10 k10
        have a810 := k10.keep _ _ a89 (ne1 nlf)
        have tx10 := k10.tr (k9.tr tx28)
        have tl10 := k10.trAll (k9.trAll tl8)
        have std := d.std
        have a910 := k10.tup _ _ a9
        have kH10 : Kp [] H H10 := (kH8.step0 k9).step1 k10 (.inr ffd)
        have tf10 : TrAll H10 ((dn ++ [(dep, d)]).map pairS) (ws ++ [.ref r9]) := by
          rw [List.map_append]
          exact (k10.trAll (k9.trAll tf8)).append (trs_cons (mk_tup a910 (trs_cons mk_int (trs_cons tx10 trs_nil))) trs_nil)
        walk_at "go"
        intro p11 us11 H11 hp11 a11 t11 k11
        have a811 := k11.at a810
        have f11 := k11.at f10
        have tl11 := k11.trAll tl10
        rw [Sm.bitems_inn, Sm.ds_map, List.map_map] at t11
        have ll := tl11.length
        have l11 : us11.length = d.inn.length := by
          have := t11.length
          rw [List.length_reverse, List.length_map] at this
          exact this
        rw [List.length_reverse, List.length_map] at ll
        have li : d.inn.length ≤ (prL ((d.inn.map fun e => (dep + 1, e)) ++ l)).length ∧ ((d.inn.map fun e => (dep + 1, e)) ++ l).length ≤ (prL ((d.inn.map fun e => (dep + 1, e)) ++ l)).length := by
          have := prL_len ((d.inn.map fun e => (dep + 1, e)) ++ l)
          rw [List.length_append, List.length_map] at this
          rw [List.length_append, List.length_map]
          omega
        have sz11 : us.length + us11.length ≤ sizeLine := by
          have := li.2
          rw [List.length_append, List.length_map] at this
          exact sz_le (by omega)
        walk_at "go"
        intro H12 a12 k12
        refine ⟨(d.inn.map fun e => (dep + 1, e)) ++ l, dn ++ [(dep, d)], _, _, _, _, rfl, a12, ?_, k12.keep _ _ f11 (ne1 nlf.symm), k12.trAll (k11.trAll tf10), ?_, ?_, ?_, li.2, ?_⟩
        · rw [List.map_append, List.reverse_append, List.map_map]
          exact (k12.trAll tl11).append (k12.trAll t11)
        · rw [List.append_assoc]
          exact ep
        · rw [prL_cons, List.length_cons]
          omega
        · intro q hq
          rcases List.mem_append.mp hq with hq | hq
          · obtain ⟨e, he, rfl⟩ := List.mem_map.mp hq
            have h1 := bitems_sz d.d
            rw [Sm.bitems_inn] at h1
            have h2 : dsz e.d ≤ dszs (Sm.ds d.inn) := dsz_mem (by rw [Sm.ds_map]; exact List.mem_map.mpr ⟨e, he, rfl⟩)
            have h3 : dsz d.d ≤ 1000000 := hd1
            show dsz e.d ≤ 1000000
            omega
          · exact hq6 q (List.mem_cons_of_mem _ hq)
        · exact (kH10.step0 k11).step1 k12 (.inr flf)
end
section
variable {P : Program} {w : World} {K : PySem.W.Frag} {mg : Str → Option Value} {base : Heap}
theorem ok_bare (T : Top K mg) {k : Nat} : FnOk P w K mg base CX0 (k + 1) T.bare.f T.bare.fd ["test"] spBare := by
  refine T.bare.F.ok sc_bare (fun vs H Q E h => ?_) (fun cdv A outer s H vs Q E hr h => ?_)
  · obtain ⟨v, t, rfl, _⟩ := h
    rfl
  obtain ⟨v, t, rfl, hT, q⟩ := h
  refine ⟨_, (pss_cons (ps_whileA (ps_while PassesOwn.never (pt_cmpR op_eq (pe_ix (ix_tupK (K := K) rfl) (pv 0) pe_int (fun _ _ => rfl)) pe_str (nomark _)) (pss_one (ps_set (i := 0) sc_bare.nd rfl (.inl rfl) (pe_ix (ix_tupK (K := K) rfl) (pv 0) pe_int (fun _ _ => rfl))))))
      (pss_one (ps_ret (pv 0)))), ?_⟩
  walk_at "go"
  refine ⟨⟨fun m σ H1 => Lp (∃ (v' : V) (t' : Ts), σ = [some v'] ∧ Tr H1 t'.d v' ∧ t'.base = t.base ∧ t'.nots = m ∧ H1 = H), ⟨t.nots, ⟨v, t, rfl, hT, rfl, rfl, rfl⟩⟩, ?_⟩⟩
  rintro m σ H1 ⟨⟨v', t', rfl, ht, eb, em, rfl⟩⟩
  cases t' with
  | less a b =>
    obtain ⟨p, x1, x2, x3, rfl, h1, t1, t2, t3⟩ := tr_tup3 ht
    cases tr_str t1
    walk_at "go"
    rw [← eb] at q
    exact q _ ht
  | odd a =>
    obtain ⟨p, x1, x2, rfl, h1, t1, t2⟩ := tr_tup2 ht
    cases tr_str t1
    walk_at "go"
    rw [← eb] at q
    exact q _ ht
  | not t2 =>
    obtain ⟨p, x1, x2, rfl, h1, t1, t3⟩ := tr_tup2 ht
    cases tr_str t1
    have em2 : t2.nots + 1 = m := em
    refine ⟨_, rfl, _, _, _, _, rfl, rfl, SqT.of h1, atI_nat (j := 0) rfl, rfl, _, rfl, ?_⟩
    refine iteT ?_
    refine ⟨fun σ H2 => Lp (∃ (v' : V), σ = [some v'] ∧ Tr H2 t2.d v' ∧ H2 = H1), fun σ' H' x => ?_, ?_⟩
    · obtain ⟨⟨v', e1, e2, e3⟩⟩ := x
      exact ⟨t2.nots, by omega, ⟨v', t2, e1, e2, eb, rfl, e3⟩⟩
    walk_at "go"
    exact ⟨_, rfl, t3, rfl⟩
theorem ok_own_count (T : Top K mg) {k : Nat} : FnOk P w K mg base CX0 (k + 2) T.own_count.f T.own_count.fd ["statement", "sort"] spOwn := by
  have G_bare : FnOk P w K mg base CX0 1 T.bare.f T.bare.fd ["test"] spBare := ok_bare T
  refine T.own_count.F.ok sc_own_count (fun vs H Q E h => ?_) (fun cdv A outer s H vs Q E hr h => ?_)
  · obtain ⟨v, t, so, rfl, _⟩ := h
    rfl
  obtain ⟨v, st, so, rfl, hT, hs, q⟩ := h
  refine ⟨_, (pss_cons (ps_if (pt_cmpR op_eq (pv 1) pe_str (nomark _)) (pss_one (ps_ret pe_int)) pss_nil)
      (pss_cons (ps_if (pt_cmpR op_eq (pe_ix (ix_tupK (K := K) rfl) (pv 0) pe_int (fun _ _ => rfl)) pe_str (nomark _)) (pss_one (ps_ret (pe_callTy (T := "int") call_int1 (by rfl) T.int (by decide +kernel) (pa_cons (pe_cmpR op_eq (pe_ix (ix_tupK (K := K) rfl) (pe_call G_bare (hr.mono (by omega)) (by rfl) T.bare.g T.bare.F.kp T.bare.b .nil pass0 (pa_cons (pe_ix (ix_tupK (K := K) rfl) (pv 0) pe_int (fun _ _ => rfl)) pa_nil)) pe_int (fun _ _ => rfl)) (pe_ifExp (pt_cmpR op_eq (pv 1) pe_str (nomark _)) pe_str (pv 1)) (nomark _)) pa_nil)))) pss_nil)
      (pss_one (ps_ret (pe_callTy (T := "int") call_int1 (by rfl) T.int (by decide +kernel) (pa_cons (pe_cmpR op_eq (pe_ix (ix_tupK (K := K) rfl) (pv 0) pe_int (fun _ _ => rfl)) (pv 1) (nomark _)) pa_nil)))))), ?_⟩
  have fin : ∀ {i : Int} {b : Bool}, Q (.int (if b = true then 1 else 0)) H → (if b = true then (1 : Int) else 0) = i → Q (.int i) H := fun h e => e ▸ h
  have w1 : ¬ (("half" : Str) = "weight") := by decide +kernel
  have w2 : ¬ (("less" : Str) = "weight") := by decide +kernel
  have w3 : ¬ (("less" : Str) = "half") := by decide +kernel
  rcases hs with rfl | rfl | rfl
  · replace q : Q (.int (own "weight" st : Nat)) H := q
    unfold own at q
    rw [if_pos rfl] at q
    walk_at "go"
    exact q
  · unfold own at q
    rw [if_neg w1] at q
    cases st with
    | ite t y n =>
      obtain ⟨u, x1, x2, x3, x4, rfl, h1, t1, t2, t3, t4⟩ := tr_tup4 hT
      cases tr_str t1
      walk_at "go"
      intro v' tv'
      cases eb : t.base with
      | not t0 => exact absurd eb (Ts.base_not t t0)
      | less a b =>
        rw [eb] at tv'
        obtain ⟨p, y1, y2, y3, rfl, g1, s1, s2, s3⟩ := tr_tup3 tv'
        cases tr_str s1
        have io : t.isOdd = false := by rw [← Ts.base_odd, eb]; rfl
        simp only [io] at q
        walk_at "go"
        exact q
      | odd a =>
        rw [eb] at tv'
        obtain ⟨p, y1, y2, rfl, g1, s1, s2⟩ := tr_tup2 tv'
        cases tr_str s1
        have io : t.isOdd = true := by rw [← Ts.base_odd, eb]; rfl
        simp only [io] at q
        walk_at "go"
        exact q
    | rep k b =>
      obtain ⟨u, x1, x2, x3, rfl, h1, t1, t2, t3⟩ := tr_tup3 hT
      cases tr_str t1
      walk_at "go"
      exact q
    | set x e =>
      obtain ⟨u, x1, x2, x3, rfl, h1, t1, t2, t3⟩ := tr_tup3 hT
      cases tr_str t1
      walk_at "go"
      exact q
    | half x e =>
      obtain ⟨u, x1, x2, x3, rfl, h1, t1, t2, t3⟩ := tr_tup3 hT
      cases tr_str t1
      walk_at "go"
      exact q
    | tell e =>
      obtain ⟨u, x1, x2, rfl, h1, t1, t2⟩ := tr_tup2 hT
      cases tr_str t1
      walk_at "go"
      exact q
    | say e =>
      obtain ⟨u, x1, x2, rfl, h1, t1, t2⟩ := tr_tup2 hT
      cases tr_str t1
      walk_at "go"
      exact q
    | stop e =>
      obtain ⟨u, x1, x2, rfl, h1, t1, t2⟩ := tr_tup2 hT
      cases tr_str t1
      walk_at "go"
      exact q
  · unfold own at q
    rw [if_neg w2] at q
    cases st with
    | ite t y n =>
      obtain ⟨u, x1, x2, x3, x4, rfl, h1, t1, t2, t3, t4⟩ := tr_tup4 hT
      cases tr_str t1
      walk_at "go"
      intro v' tv'
      cases eb : t.base with
      | not t0 => exact absurd eb (Ts.base_not t t0)
      | less a b =>
        rw [eb] at tv'
        obtain ⟨p, y1, y2, y3, rfl, g1, s1, s2, s3⟩ := tr_tup3 tv'
        cases tr_str s1
        have io : t.isOdd = false := by rw [← Ts.base_odd, eb]; rfl
        simp only [io, if_neg w3] at q
        walk_at "go"
        exact q
      | odd a =>
        rw [eb] at tv'
        obtain ⟨p, y1, y2, rfl, g1, s1, s2⟩ := tr_tup2 tv'
        cases tr_str s1
        have io : t.isOdd = true := by rw [← Ts.base_odd, eb]; rfl
        simp only [io, if_neg w3] at q
        walk_at "go"
        exact q
    | rep k b =>
      obtain ⟨u, x1, x2, x3, rfl, h1, t1, t2, t3⟩ := tr_tup3 hT
      cases tr_str t1
      walk_at "go"
      exact q
    | set x e =>
      obtain ⟨u, x1, x2, x3, rfl, h1, t1, t2, t3⟩ := tr_tup3 hT
      cases tr_str t1
      walk_at "go"
      exact q
    | half x e =>
      obtain ⟨u, x1, x2, x3, rfl, h1, t1, t2, t3⟩ := tr_tup3 hT
      cases tr_str t1
      walk_at "go"
      exact q
    | tell e =>
      obtain ⟨u, x1, x2, rfl, h1, t1, t2⟩ := tr_tup2 hT
      cases tr_str t1
      walk_at "go"
      exact q
    | say e =>
      obtain ⟨u, x1, x2, rfl, h1, t1, t2⟩ := tr_tup2 hT
      cases tr_str t1
      walk_at "go"
      exact q
    | stop e =>
      obtain ⟨u, x1, x2, rfl, h1, t1, t2⟩ := tr_tup2 hT
      cases tr_str t1
      walk_at "go"
      exact q
end
section
variable {P : Program} {w : World} {K : PySem.W.Frag} {mg : Str → Option Value} {base : Heap}
theorem ok_counted (T : Top K mg) : ∀ n : Nat, FnOk P w K mg base CX0 (n + 3) T.counted.f T.counted.fd ["block", "sort"] (spCounted n)
  | n => by
    have G_blocks_of : FnOk P w K mg base CX0 1 T.blocks_of.f T.blocks_of.fd ["statement"] spBlocksD := ok_blocks_ofD T
    have G_own_count : FnOk P w K mg base CX0 2 T.own_count.f T.own_count.fd ["statement", "sort"] spOwn := ok_own_count T
    have G_counted : FnOk P w K mg base CX0 (n + 2) T.counted.f T.counted.fd ["block", "sort"] (sp0 spCounted n) := by
      cases n with
      | zero => exact fn_no (fun _ _ _ _ h => h)
      | succ m => exact ok_counted T m
    refine T.counted.F.ok sc_counted (fun vs H Q E h => ?_) (fun cdv A outer s H vs Q E hr h => ?_)
    · obtain ⟨v, b, so, rfl, _⟩ := h
      rfl
    obtain ⟨v, b, so, rfl, hT, hs, ok, lb, pb, nb, q⟩ := h
    refine ⟨_, (pss_cons (ps_set (i := 2) sc_counted.nd rfl (.inl rfl) pe_int)
      (pss_cons (ps_forA (ps_for PassesOwn.never rfl (pi_tupK (K := K) rfl (pv 0)) (pg_name (i := 3) sc_counted.nd rfl (.inl rfl)) (pss_cons (ps_set (i := 4) sc_counted.nd rfl (.inl rfl) (pe_callB (id := "sum") (cr_sumK (K := K) rfl (by rfl)) (by rfl) T.sum (by decide +kernel) (pa_cons (pe_lc (own := [("part", 5)]) (by rfl) sc_counted.nd (pi_listK (K := K) rfl (pe_call G_blocks_of (hr.mono (by omega)) (by rfl) T.blocks_of.g T.blocks_of.F.kp T.blocks_of.b .nil pass0 (pa_cons (pv 3) pa_nil))) (blkOk_by (N := ["block", "sort", "found", "statement", "inner", "part"]) (sc := defScope s_counted) (own := [("part", 5)]) (by decide +kernel)) (fun _ _ _ _ _ => (pg_name (i := 5) sc_counted.nd rfl (.inl rfl))) (fun _ _ _ _ _ => pts_nil) (fun _ _ _ _ _ => (pe_call G_counted (hr.mono (by omega)) (by rfl) T.counted.g T.counted.F.kp T.counted.b .nil pass0 (pa_cons (pv 5) (pa_cons (pv 1) pa_nil))))) pa_nil)))
      (pss_one (ps_aug (i := 2) sc_counted.nd rfl (.inl rfl) (pe_op op_add (pe_call G_own_count (hr.mono (by omega)) (by rfl) T.own_count.g T.own_count.F.kp T.own_count.b .nil pass0 (pa_cons (pv 3) (pa_cons (pv 1) pa_nil))) (pe_op op_mul (pv 4) (pe_ifExp (pt_cmpR op_eq (pe_ix (ix_tupK (K := K) rfl) (pv 3) pe_int (fun _ _ => rfl)) pe_str (nomark _)) (pe_ix (ix_tupK (K := K) rfl) (pv 3) pe_int (fun _ _ => rfl)) pe_int))) ip_add)))))
      (pss_one (ps_ret (pv 2))))), ?_⟩
    obtain ⟨ta, vs, rfl, hta, tvs⟩ := tr_tup hT
    rw [Sm.ds_map] at tvs
    have lv : vs.length = b.length := by rw [tvs.length, List.length_map]
    walk_at "go"
    refine ⟨for_tup (K := K) (a := ta) (xs := vs) (fun i σ H3 => Lp (∃ (w3 w4 : Option V), σ = [some (.ref ta), some (.str so), some (.int (cnts so (b.take i) : Nat)), w3, w4, none] ∧ Kp [] H H3)) ⟨_, _, by rw [List.take_zero, cnts_nil]; rfl, Kp.refl⟩ (fun i σ H3 _ x => ?_) ?_ ?_⟩
    · obtain ⟨⟨w3, w4, _, k3⟩⟩ := x
      exact SqT.of (k3.tup _ _ hta)
    · rintro i x σ H3 hx ⟨⟨w3, w4, rfl, k3⟩⟩
      have hi : i < b.length := by
        obtain ⟨h, _⟩ := List.getElem?_eq_some_iff.mp hx
        omega
      have hy : b[i]? = some b[i] := List.getElem?_eq_getElem hi
      have hmem : b[i] ∈ b := List.getElem_mem hi
      obtain ⟨x', hx', tx⟩ := tvs.get (i := i) (d := (b[i]).d) (by rw [List.getElem?_map, hy]; rfl)
      rw [hx] at hx'
      cases hx'
      generalize b[i] = st at hy hmem tx
      have tx3 := k3.tr tx
      have std := st.std
      have ost := oks_mem ok hmem
      have nst := Sm.nest_mem hmem
      have pst := Sm.pl_mem hmem
      walk_at "go"
      intro l4 bs H4 hl4 a4 tb4 k4
      rw [Sm.blksD_eq] at tb4
      have lbs : bs.length = st.blks.length := by rw [tb4.length, List.length_map]
      have bl2 := st.blks_le
      walk_at "go"
      intro D hD
      have nD : l4 ≠ D := ne_of_none a4 hD
      refine lc_list (K := K) (a := l4) (xs := bs) (fun j H5 => Lp (Kp [D] H4 H5 ∧ H5 D = some (.lst (((st.blks.take j).map fun c => (cnts so c : Int)).map V.int)))) ⟨(Kp.new hD).sub (by simp), upd_same⟩ ?_ ?_ ?_
      · rintro j H5 _ ⟨⟨k5, _⟩⟩
        exact SqL.of (k5.keep _ _ a4 (ne1 nD))
      · rintro j y H5 hy5 ⟨⟨k5, d5⟩⟩
        have hj : j < st.blks.length := by
          obtain ⟨h, _⟩ := List.getElem?_eq_some_iff.mp hy5
          omega
        have hb : st.blks[j]? = some st.blks[j] := List.getElem?_eq_getElem hj
        have mb : st.blks[j] ∈ st.blks := List.getElem_mem hj
        obtain ⟨y', hy', ty⟩ := tb4.get (i := j) (d := .tuple (Sm.ds st.blks[j])) (by rw [List.getElem?_map, hb]; rfl)
        rw [hy5] at hy'
        cases hy'
        generalize st.blks[j] = bk at hb mb ty
        have ty5 := k5.tr ty
        have n1 := Sm.blk_nest mb
        have p1 := Sm.blk_pls mb
        have o1 := ok_blk ost mb
        have ll1 := Sm.len_pls bk
        obtain ⟨n', rfl⟩ : ∃ n', n = n' + 1 := ⟨n - 1, by omega⟩
        have l5 : (((st.blks.take j).map fun c => (cnts so c : Int)).map V.int).length < sizeLine := by
          rw [List.length_map, List.length_map, List.length_take]
          exact sz_lt (by omega)
        walk_at "go"
        intro H6 k6
        have d6 := k6.at d5
        walk_at "go"
        refine ⟨⟨(k5.step0 k6).step1 (Kp.put d6 (fun _ y => by cases y)) (.inl (by simp)), ?_⟩⟩
        rw [upd_same, List.take_add_one, hb, List.map_append, List.map_append]
        rfl
      · rintro H5 ⟨⟨k5, d5⟩⟩
        rw [lbs, List.take_length] at d5
        have es : (st.blks.map fun c => (cnts so c : Int)).sum = (((st.blks.map (cnts so)).sum : Nat) : Int) := by
          generalize st.blks = l
          induction l with
          | nil => rfl
          | cons c r ih =>
            rw [List.map_cons, List.map_cons, List.sum_cons, List.sum_cons, ih]
            omega
        have k5' : Kp [] H4 H5 := Kp.refl.step1 k5 (.inr hD)
        have kH5 := (k3.step0 k4).step0 k5'
        have tx5 := k5'.tr (k4.tr tx3)
        have ec := cnt_own (sort := so) st
        have fin : cnts so (b.take (i + 1)) = cnts so (b.take i) + (own so st + (st.blks.map (cnts so)).sum * st.tms) := by
          rw [List.take_add_one, hy]
          have ap : ∀ l : List Sm, cnts so (l ++ [st]) = cnts so l + cnt so st := by
            intro l
            induction l with
            | nil => rw [List.nil_append, cnts_cons, cnts_nil]; omega
            | cons a r ih => rw [List.cons_append, cnts_cons, cnts_cons, ih]; omega
          show cnts so (b.take i ++ [st]) = _
          rw [ap, ec]
        have ef : ((cnts so (b.take (i + 1)) : Nat) : Int) = (cnts so (b.take i) : Nat) + ((own so st : Nat) + (st.blks.map fun c => (cnts so c : Int)).sum * (st.tms : Nat)) := by
          rw [fin, es]
          simp only [Int.natCast_add, Int.natCast_mul]
        obtain ⟨u5, r5, rfl, h15⟩ := Sm.head tx5
        cases st with
        | rep kk bb =>
          obtain ⟨u, x1, x2, x3, e1, h1, t1, t2, t3⟩ := tr_tup3 tx5
          cases e1
          cases tr_str t1
          cases tr_int t2
          have k8 : kk ≤ 8 := (show kk ≤ 8 ∧ Sm.oks bb by simpa only [Sm.ok] using ost).1
          have cm : CMul ((List.map (fun c => (cnts so c : Int)) (Sm.rep kk bb).blks).sum) (kk : Int) := .inr ⟨by omega, by omega⟩
          walk_at "go"
          rw [ef]
          exact ⟨_, _, rfl, kH5⟩
        | ite t y n =>
          obtain ⟨u, x1, x2, x3, x4, e1, h1, t1, t2, t3, t4⟩ := tr_tup4 tx5
          cases e1
          cases tr_str t1
          have cm : CMul ((List.map (fun c => (cnts so c : Int)) (Sm.ite t y n).blks).sum) 1 := .inr ⟨by decide, by decide⟩
          walk_at "go"
          rw [ef]
          exact ⟨_, _, rfl, kH5⟩
        | set x e =>
          obtain ⟨u, x1, x2, x3, e1, h1, t1, t2, t3⟩ := tr_tup3 tx5
          cases e1
          cases tr_str t1
          have cm : CMul ((List.map (fun c => (cnts so c : Int)) (Sm.set x e).blks).sum) 1 := .inr ⟨by decide, by decide⟩
          walk_at "go"
          rw [ef]
          exact ⟨_, _, rfl, kH5⟩
        | half x e =>
          obtain ⟨u, x1, x2, x3, e1, h1, t1, t2, t3⟩ := tr_tup3 tx5
          cases e1
          cases tr_str t1
          have cm : CMul ((List.map (fun c => (cnts so c : Int)) (Sm.half x e).blks).sum) 1 := .inr ⟨by decide, by decide⟩
          walk_at "go"
          rw [ef]
          exact ⟨_, _, rfl, kH5⟩
        | tell e =>
          obtain ⟨u, x1, x2, e1, h1, t1, t2⟩ := tr_tup2 tx5
          cases e1
          cases tr_str t1
          have cm : CMul ((List.map (fun c => (cnts so c : Int)) (Sm.tell e).blks).sum) 1 := .inr ⟨by decide, by decide⟩
          walk_at "go"
          rw [ef]
          exact ⟨_, _, rfl, kH5⟩
        | say e =>
          obtain ⟨u, x1, x2, e1, h1, t1, t2⟩ := tr_tup2 tx5
          cases e1
          cases tr_str t1
          have cm : CMul ((List.map (fun c => (cnts so c : Int)) (Sm.say e).blks).sum) 1 := .inr ⟨by decide, by decide⟩
          walk_at "go"
          rw [ef]
          exact ⟨_, _, rfl, kH5⟩
        | stop e =>
          obtain ⟨u, x1, x2, e1, h1, t1, t2⟩ := tr_tup2 tx5
          cases e1
          cases tr_str t1
          have cm : CMul ((List.map (fun c => (cnts so c : Int)) (Sm.stop e).blks).sum) 1 := .inr ⟨by decide, by decide⟩
          walk_at "go"
          rw [ef]
          exact ⟨_, _, rfl, kH5⟩
    · rintro σ H3 ⟨⟨w3, w4, rfl, k3⟩⟩
      rw [lv, List.take_length]
      walk_at "go"
      exact q H3 k3
theorem ok_weight (T : Top K mg) (n : Nat) : FnOk P w K mg base CX0 (n + 4) T.weight.f T.weight.fd ["program"] (spWeight n) := by
  have G_counted := ok_counted (P := P) (w := w) (base := base) T n
  refine T.weight.F.ok sc_weight (fun vs H Q E h => ?_) (fun cdv A outer s H vs Q E hr h => ?_)
  · obtain ⟨v, b, rfl, _⟩ := h
    rfl
  obtain ⟨v, b, rfl, hT, ok, pb, nb, q⟩ := h
  refine ⟨_, (pss_one (ps_ret (pe_call G_counted (hr.mono (by omega)) (by rfl) T.counted.g T.counted.F.kp T.counted.b .nil pass0 (pa_cons (pv 0) (pa_cons pe_str pa_nil))))), ?_⟩
  have sw : SrtW "weight" := .inl rfl
  have lb : b.length ≤ 1000000 := Nat.le_trans (Sm.len_pls b) pb
  walk_at "go"
  intro H1 k1
  have := q H1 k1
  unfold cnts
  rw [if_pos rfl]
  exact this
theorem ok_program_error (T : Top K mg) {k : Nat} : FnOk P w K mg base CX0 (k + 11) T.program_error.f T.program_error.fd ["value"] spPErr := by
  have G_order_error : FnOk P w K mg base CX0 10 T.order_error.f T.order_error.fd ["value"] spOrder := ok_order_error T
  have G_rows_of : FnOk P w K mg base CX0 3 T.rows_of.f T.rows_of.fd ["program"] spRows := ok_rows_of T
  have G_weight := ok_weight (P := P) (w := w) (base := base) T 4
  have G_counted := ok_counted (P := P) (w := w) (base := base) T 4
  refine T.program_error.F.ok sc_program_error (fun vs H Q E h => ?_) (fun cdv A outer s H vs Q E hr h => ?_)
  · obtain ⟨v, b, rfl, _⟩ := h
    rfl
  obtain ⟨v, d, rfl, hT, sz, dz, q⟩ := h
  refine ⟨_, (pss_cons (ps_if (pt_not (pt_val (pe_callB (id := "isinstance") (call_isiK (K := K) rfl) (by rfl) T.isinstance (by decide +kernel) (pa_cons (pv 0) (pa_cons (pe_bltn (v := .ty "tuple") (u := .type "tuple") (by rfl) T.tuple (by decide +kernel) rfl) pa_nil))))) (pss_one (ps_ret (pe_tupA (pa_cons pe_non (pa_cons pe_str pa_nil))))) pss_nil)
      (pss_cons (ps_set (i := 1) sc_program_error.nd rfl (.inl rfl) (pe_call G_order_error (hr.mono (by omega)) (by rfl) T.order_error.g T.order_error.F.kp T.order_error.b .nil pass0 (pa_cons (pv 0) pa_nil)))
      (pss_cons (ps_if (pt_cmpR op_notN (pv 1) pe_non (nomark _)) (pss_one (ps_ret (pv 1))) pss_nil)
      (pss_cons (ps_if (pt_cmpR op_gt (pe_callB (id := "len") (call_lenK (K := K) rfl) (by rfl) T.len PySem.boot_len (pa_cons (pe_call G_rows_of (hr.mono (by omega)) (by rfl) T.rows_of.g T.rows_of.F.kp T.rows_of.b .nil pass0 (pa_cons (pv 0) pa_nil)) pa_nil)) (pe_glob (v := .int 24) (by rfl) T.g_MAX_PLACES ⟨_, rfl⟩) (nomark _)) (pss_one (ps_ret (pe_tupA (pa_cons pe_non (pa_cons pe_str pa_nil))))) pss_nil)
      (pss_cons (ps_if (pt_cmpR op_gt (pe_call G_weight (hr.mono (by omega)) (by rfl) T.weight.g T.weight.F.kp T.weight.b .nil pass0 (pa_cons (pv 0) pa_nil)) (pe_glob (v := .int 60) (by rfl) T.g_MAX_WEIGHT ⟨_, rfl⟩) (nomark _)) (pss_one (ps_ret (pe_tupA (pa_cons pe_non (pa_cons pe_str pa_nil))))) pss_nil)
      (pss_cons (ps_if (pt_cmpR op_gt (pe_call G_counted (hr.mono (by omega)) (by rfl) T.counted.g T.counted.F.kp T.counted.b .nil pass0 (pa_cons (pv 0) (pa_cons pe_str pa_nil))) (pe_glob (v := .int 4) (by rfl) T.g_MAX_HALVINGS ⟨_, rfl⟩) (nomark _)) (pss_one (ps_ret (pe_tupA (pa_cons pe_non (pa_cons pe_str pa_nil))))) pss_nil)
      (pss_one (ps_ret (pe_ifExp (pt_cmpR op_gt (pe_call G_counted (hr.mono (by omega)) (by rfl) T.counted.g T.counted.F.kp T.counted.b .nil pass0 (pa_cons (pv 0) (pa_cons pe_str pa_nil))) (pe_glob (v := .int 3) (by rfl) T.g_MAX_COMPARINGS ⟨_, rfl⟩) (nomark _)) (pe_tupA (pa_cons pe_non (pa_cons pe_str pa_nil))) pe_non))))))))), ?_⟩
  have notT : isTupB d = false → ∀ r H1, H r = none → H1 = upd H r (.tup [.non, .str "program"]) → Q (.ref r) H1 := by
    intro nt r H1 hr1 e1
    exact q _ _ H1 (mk_tup (new_at e1) (trs_cons mk_non (trs_cons mk_str trs_nil))) (.prog nt) (new_kp hr1 e1)
  cases d with
  | none =>
    simp only [Tr] at hT; subst hT
    walk_at "go"
    exact notT rfl
  | bool b =>
    simp only [Tr] at hT; subst hT
    walk_at "go"
    exact notT rfl
  | int b =>
    simp only [Tr] at hT; subst hT
    walk_at "go"
    exact notT rfl
  | str b =>
    simp only [Tr] at hT; subst hT
    walk_at "go"
    exact notT rfl
  | list ds => simp only [Tr] at hT
  | dict ds => simp only [Tr] at hT
  | tuple ds =>
    simp only [Szd] at sz
    simp only [dsz] at dz
    have dz2 : dszs ds ≤ 1000000 := by omega
    obtain ⟨ta, vs, rfl, hta, tvs⟩ := tr_tup hT
    walk_at "go"
    intro t1 H1 et k1
    cases eo : ordErr ds with
    | some pw =>
      obtain ⟨p, w⟩ := pw
      rw [eo] at et
      obtain ⟨u, x1, x2, rfl, h1, t1', t2'⟩ := tr_tup2 et
      walk_at "go"
      exact q _ _ H1 et (.ord eo) k1
    | none =>
      rw [eo] at et
      have et : Tr H1 .none t1 := et
      simp only [Tr] at et
      subst et
      obtain ⟨b, rfl, ok, nb⟩ := ordErr_none eo
      have pb := Sm.pls_dsz b
      have pb2 : Sm.pls b ≤ 1000000 := by omega
      have lb2 : b.length ≤ 1000000 := Nat.le_trans (Sm.len_pls b) pb2
      have tT1 := k1.tr hT
      have ln := Sm.prss_len 0 b
      have fin : ∀ e, bndErr b = e → ∀ t H', Tr H' (bndD e) t → Kp [] H H' → Q t H' := fun e he t H' ht kk => q t _ H' (he ▸ ht) (.bnd eo) kk
      unfold bndErr at fin
      have sh : SrtW "half" := .inr (.inl rfl)
      have sl : SrtW "less" := .inr (.inr rfl)
      walk_at "go"
      intro l2 us H2 hl2 a2 tu2 k2
      have lus : us.length = Sm.pls b := by rw [tu2.length, List.length_map, ln]
      have tT2 := k2.tr tT1
      have k02 := k1.step0 k2
      walk_at "go"
      rw [lus]
      refine iteB (fun h1 => ?_) (fun h1 => ?_)
      · have h1 : 24 < Sm.pls b := by have := of_decide_eq_true h1; omega
        rw [if_pos h1] at fin
        walk_at "go"
        intro r H3 hr3 e3
        exact fin _ rfl _ H3 (mk_tup (new_at e3) (trs_cons mk_non (trs_cons mk_str trs_nil))) (k02.step0 (new_kp hr3 e3))
      · have h1 : ¬ 24 < Sm.pls b := by have := of_decide_eq_false h1; omega
        rw [if_neg h1] at fin
        walk_at "go"
        intro H3 k3
        have tT3 := k3.tr tT2
        have k03 := k02.step0 k3
        walk_at "go"
        refine iteB (fun h2 => ?_) (fun h2 => ?_)
        · have h2 : 60 < Sm.wts b := by have := of_decide_eq_true h2; omega
          rw [if_pos h2] at fin
          walk_at "go"
          intro r H4 hr4 e4
          exact fin _ rfl _ H4 (mk_tup (new_at e4) (trs_cons mk_non (trs_cons mk_str trs_nil))) (k03.step0 (new_kp hr4 e4))
        · have h2 : ¬ 60 < Sm.wts b := by have := of_decide_eq_false h2; omega
          rw [if_neg h2] at fin
          walk_at "go"
          intro H4 k4
          have tT4 := k4.tr tT3
          have k04 := k03.step0 k4
          have c1 : cnts "half" b = Sm.hvs b := by
            unfold cnts
            rw [if_neg (by decide +kernel), if_pos rfl]
          have c2 : cnts "less" b = Sm.cps b := by
            unfold cnts
            rw [if_neg (by decide +kernel), if_neg (by decide +kernel)]
          walk_at "go"
          rw [c1]
          refine iteB (fun h3 => ?_) (fun h3 => ?_)
          · have h3 : 4 < Sm.hvs b := by have := of_decide_eq_true h3; omega
            rw [if_pos h3] at fin
            walk_at "go"
            intro r H5 hr5 e5
            exact fin _ rfl _ H5 (mk_tup (new_at e5) (trs_cons mk_non (trs_cons mk_str trs_nil))) (k04.step0 (new_kp hr5 e5))
          · have h3 : ¬ 4 < Sm.hvs b := by have := of_decide_eq_false h3; omega
            rw [if_neg h3] at fin
            walk_at "go"
            intro H5 k5
            have k05 := k04.step0 k5
            walk_at "go"
            rw [c2]
            refine iteB (fun h4 => ?_) (fun h4 => ?_)
            · have h4 : 3 < Sm.cps b := by have := of_decide_eq_true h4; omega
              rw [if_pos h4] at fin
              walk_at "go"
              intro r H6 hr6 e6
              exact fin _ rfl _ H6 (mk_tup (new_at e6) (trs_cons mk_non (trs_cons mk_str trs_nil))) (k05.step0 (new_kp hr6 e6))
            · have h4 : ¬ 3 < Sm.cps b := by have := of_decide_eq_false h4; omega
              rw [if_neg h4] at fin
              exact fin _ rfl _ H5 mk_non k05
end
end EH
namespace EH
open PySem L2
local macro_rules | `(tactic| walk_at "sd") => `(tactic| first | assumption | ((with_reducible show (_ : Int) ≤ _); omega) | ((with_reducible show (_ : Int) < _); omega) | rfl | exact SqL.of (by assumption) | exact SqT.of (by assumption) | exact atI_nat (j := 0) rfl | exact atI_nat (j := 1) rfl | exact atI_nat (j := 2) rfl | exact atI_nat (j := 3) rfl | exact sz_lit rfl | exact lt_lit rfl | exact pos_lit rfl | exact le_lit rfl | exact Or.inl (SqL.of (by assumption)) | exact ⟨_, SqL.of (by assumption)⟩ | exact ⟨_, SqT.of (by assumption)⟩ | exact Or.inr (SqT.of (by assumption)) | exact ClsV.ty _ | exact TyX.base (TyOf.int _) | exact TyX.base (TyOf.str _) | exact TyX.base (TyOf.tup (by assumption)) | exact kit_ty isi_ss | exact kit_ty isi_is | exact kit_ty isi_ts | exact kit_ty isi_si | exact kit_ty isi_ii | exact kit_ty isi_ti | exact kit_ty isi_st | exact kit_ty isi_it | exact kit_ty isi_tt | exact Or.inl ⟨_, Or.inl (by assumption)⟩ | exact DGet.k (k := Sum.inr _) (by assumption) | exact DGet.k (k := Sum.inl _) (by assumption) | (refine cpow_of ?_; decide) | (refine cmul_of ?_; decide) | (show (_ : Int) ≠ 0; first | decide | omega) | (refine cdivn_of ?_; decide) | exact Or.inl ⟨rfl, _, SqL.of (by assumption)⟩ | omega)
local macro_rules | `(tactic| walk_at "st") => `(tactic| first | (apply Exists.intro) | (refine And.intro ?_ ?_; focus (walk_at "sd")) | (apply Or.inl; apply Exists.intro; refine And.intro ?_ ?_; focus rfl) | (apply Or.inr; apply Exists.intro; refine And.intro ?_ ?_; focus rfl))
local macro_rules | `(tactic| walk_at "go") => `(tactic| repeat (walk_at "st"))
section
open TL
variable {P : Program} {w : World} {K : PySem.W.Frag} {mg : Str → Option Value} {base : Heap}
theorem ok_parse_program (T : Top K mg) (DW : WdOk K w T.WORDS) : FnOk P w K mg base (L2.CX P w) 52 T.parse_program.f T.parse_program.fd ["value"] (spParseE T.BadText.C T.BadProgram.C) := by
  have G_ProgramReader_read := ok_ProgramReader_read (P := P) (w := w) (base := base) T DW
  have G_ProgramReader_init := ok_ProgramReader_init (P := P) (w := w) (base := base) (k := 0) T
  have G_ProgramReader_come_to := ok_ProgramReader_come_to (P := P) (w := w) (base := base) (k := 0) T
  have G_Part_lacks_line := ok_Part_lacks_line (P := P) (w := w) (base := base) (k := 0) T
  have G_program_error := ok_program_error (P := P) (w := w) (base := base) (k := 0) T
  have G_BadText_init := ok_BadText_init (P := P) (w := w) (base := base) (k := 0) T
  have G_BadProgram_init := ok_BadProgram_init (P := P) (w := w) (base := base) (k := 0) T
  refine T.parse_program.F.okX sc_parse_program (fun vs H Q E h => ?_) (fun cdv A outer s H vs Q E hr h => ?_)
  · obtain ⟨z, rfl, _⟩ := h
    rfl
  obtain ⟨z, rfl, tx, qT, qR⟩ := h
  have hu := hu_of hr
  refine ⟨_, (pss_cons (ps_if (pt_not (pt_val (pe_callB (id := "isinstance") (call_isiK (K := K) rfl) (by rfl) T.isinstance (by decide +kernel) (pa_cons (pv 0) (pa_cons (pe_bltn (v := .ty "str") (u := .type "str") (by rfl) T.str (by decide +kernel) rfl) pa_nil))))) (pss_one (ps_raise rfl (takes_of rfl rfl rfl rfl) (pmk_oex (X := _) T.BadText.E.ox T.BadText_init.iC T.BadText_init.tI G_BadText_init (hr.mono (by omega)) T.BadText_init.b .nil pass0 (by rfl) T.BadText.g (pa_cons pe_non pa_nil)))) pss_nil)
      (pss_cons (ps_set (i := 1) sc_parse_program.nd rfl (.inl rfl) (pe_split (pv 0) pe_str))
      (pss_cons (ps_if (pt_cmpR op_ne (pe_ix (ix_listK (K := K) rfl) (pv 1) pe_int (fun _ _ => rfl)) (pe_glob (v := .str "program") (by rfl) T.g_HEAD ⟨_, rfl⟩) (nomark _)) (pss_one (ps_raise rfl (takes_of rfl rfl rfl rfl) (pmk_oex (X := _) T.BadText.E.ox T.BadText_init.iC T.BadText_init.tI G_BadText_init (hr.mono (by omega)) T.BadText_init.b .nil pass0 (by rfl) T.BadText.g (pa_cons pe_int pa_nil)))) pss_nil)
      (pss_cons (ps_set (i := 2) sc_parse_program.nd rfl (.inl rfl) (pe_make0 T.mk_ProgramReader G_ProgramReader_init (hr.mono (by omega)) (by rfl) T.ProgramReader.g T.ProgramReader_init.b .nil pass0))
      (pss_cons (ps_forA (ps_for (passes_of rfl) rfl (pi_enumS (K := K) rfl (by rfl) T.enumerate (pa_cons (pv 1) pa_nil)) (pg_tup (by rfl) (pgs_cons (pg_name (i := 3) sc_parse_program.nd rfl (.inl rfl)) (pgs_cons (pg_name (i := 4) sc_parse_program.nd rfl (.inl rfl)) pgs_nil))) (pss_one (ps_if (PW.pt (pw_and (pt_cmpR op_gt (pv 3) pe_int (nomark _)) (pw_and1 (pt_not (pt_val (pe_meth (pv 2) T.ProgramReader.cl T.ProgramReader_read.m G_ProgramReader_read (hr.mono (by omega)) T.ProgramReader_read.b .nil pass0 (pa_cons (pv 4) pa_nil))))))) (pss_one (ps_raise rfl (takes_of rfl rfl rfl rfl) (pmk_oex (X := _) T.BadText.E.ox T.BadText_init.iC T.BadText_init.tI G_BadText_init (hr.mono (by omega)) T.BadText_init.b .nil pass0 (by rfl) T.BadText.g (pa_cons (pv 3) pa_nil)))) pss_nil))))
      (pss_cons (ps_if (pt_val (pe_meth0 (pe_ix (ix_listK (K := K) rfl) (pe_fldK (K := K) rfl (pv 2)) (pe_un un_neg pe_int) (fun _ _ => rfl)) T.Part.cl T.Part_lacks_line.m G_Part_lacks_line (hr.mono (by omega)) T.Part_lacks_line.b .nil pass0)) (pss_one (ps_raise rfl (takes_of rfl rfl rfl rfl) (pmk_oex (X := _) T.BadText.E.ox T.BadText_init.iC T.BadText_init.tI G_BadText_init (hr.mono (by omega)) T.BadText_init.b .nil pass0 (by rfl) T.BadText.g (pa_cons (pe_callB (id := "len") (call_lenK (K := K) rfl) (by rfl) T.len PySem.boot_len (pa_cons (pv 1) pa_nil)) pa_nil)))) pss_nil)
      (pss_cons (ps_expr (pe_meth (pv 2) T.ProgramReader.cl T.ProgramReader_come_to.m G_ProgramReader_come_to (hr.mono (by omega)) T.ProgramReader_come_to.b .nil pass0 (pa_cons pe_int pa_nil)))
      (pss_cons (ps_set (i := 5) sc_parse_program.nd rfl (.inl rfl) (pe_callTy (T := "tuple") (call_tupleK (K := K) rfl) (by rfl) T.tuple (by decide +kernel) (pa_cons (pe_fldK (K := K) rfl (pe_ix (ix_listK (K := K) rfl) (pe_fldK (K := K) rfl (pv 2)) pe_int (fun _ _ => rfl))) pa_nil)))
      (pss_cons (ps_set (i := 6) sc_parse_program.nd rfl (.inl rfl) (pe_call G_program_error (hr.mono (by omega)) (by rfl) T.program_error.g T.program_error.F.kp T.program_error.b .nil pass0 (pa_cons (pv 5) pa_nil)))
      (pss_cons (ps_if (pt_cmpR op_notN (pv 6) pe_non (nomark _)) (pss_one (ps_raise rfl (takes_of rfl rfl rfl rfl) (pmk_oex (X := _) T.BadProgram.E.ox T.BadProgram_init.iC T.BadProgram_init.tI G_BadProgram_init (hr.mono (by omega)) T.BadProgram_init.b .nil pass0 (by rfl) T.BadProgram.g (pa_cons (pv 6) pa_nil)))) pss_nil)
      (pss_one (ps_ret (pv 5))))))))))))), ?_⟩
  have cl := T.ProgramReader.cl
  have n1 := T.n_ProgramReader_blocks_open
  have clp := T.Part.cl
  have m3 := T.n_Part_rows
  have lz : z.length + 2 ≤ sizeLine := sz_le (by have := tx.len; omega)
  have lls := tx.ls
  have lle := tx.le
  have lne := tx.ne
  generalize hLS : Txt.split z (Str.ofString "\n") = LS at lls lle lne qT qR ⊢
  obtain ⟨z0, LT, rfl⟩ : ∃ z0 LT, LS = z0 :: LT := by
    cases LS with
    | nil => exact absurd rfl lne
    | cons a b => exact ⟨a, b, rfl⟩
  rw [List.map_cons] at qT qR
  walk_at "go"
  refine ⟨⟨_, rfl⟩, ?_⟩
  walk_at "go"
  intro lp hlp
  rw [hLS]
  have k1 := Kp.new (u := HO.lst ((z0 :: LT).map V.str)) hlp
  have a1 : (upd H lp (HO.lst ((z0 :: LT).map V.str))) lp = some (.lst ((z0 :: LT).map V.str)) := upd_same
  generalize upd H lp (HO.lst ((z0 :: LT).map V.str)) = H1 at k1 a1 ⊢
  walk_at "go"
  by_cases ez : z0 = Str.ofString "program"
  · subst ez
    have ep : tl (Str.ofString "program") = progL := by decide +kernel
    rw [ep] at qT qR
    dsimp only
    rw [if_neg (by simp)]
    walk_at "go"
    intro x dx hx hdx hne
    have k2 : Kp [] H1 (upd (upd H1 dx (.own x)) x (.ins T.ProgramReader.C dx [])) := (Kp.new hdx).step0 (Kp.new (by rw [upd_ne hne.symm]; exact hx))
    refine ⟨x, dx, rfl, upd_same, fun L a H2 R0 nw k3 => ⟨rfl, ?_⟩⟩
    have k23 : Kp [] H1 H2 := k2.step1 k3 (.inr hx)
    have K2 : Kp [] H H2 := k1.trans k23
    have a2 := k23.at a1
    walk_at "go"
    have fx : ∀ b ∈ x :: L :: ownR [a], H1 b = none := fun b hb => by
      rcases List.mem_cons.mp hb with rfl | hb
      · exact hx
      · exact k2.free (nw b hb) (by simp)
    refine ⟨for_enumS (K := K) (a := lp) (xs := (Str.ofString "program" :: LT).map V.str) (fun i σ X => Lp (∃ (s3 s4 : Option V) (st : List Pt) (as : List PdR), σ = [some (.str z), some (.ref lp), some (.ref x), s3, s4, none, none] ∧ rdTo st0 ((LT.map tl).take (i - 1)) = some st ∧ i - 1 ≤ LT.length ∧ RdAt T.ProgramReader.C T.Part.C X x dx L as st (i * 702) ∧ (∀ b ∈ x :: L :: ownR as, H1 b = none) ∧ Kp [] H1 X)) ⟨_, _, st0, [a], rfl, rfl, Nat.zero_le _, R0.mono (by omega), fx, k23⟩ ?_ ?_ ?_⟩
    · rintro i σ X _ ⟨⟨s3, s4, st, as, rfl, et, li, RX, fX, kX⟩⟩
      exact SqL.of (kX.at a1)
    · rintro i y σ X Tq hy ⟨⟨s3, s4, st, as, rfl, et, li, RX, fX, kX⟩⟩ hT
      have hi := (List.getElem?_eq_some_iff.mp hy).1
      rw [List.length_map, List.length_cons] at hi
      rw [List.length_cons] at lls
      have kT := Kp.new (u := HO.tup [V.int (i : Nat), y]) hT
      have aT : (upd X Tq (HO.tup [V.int (i : Nat), y])) Tq = some (.tup [V.int (i : Nat), y]) := upd_same
      generalize upd X Tq (HO.tup [V.int (i : Nat), y]) = X1 at kT aT ⊢
      have RT := RX.kp0 kT
      cases i with
      | zero =>
        walk_at "go"
        dsimp only
        rw [if_neg (by simp)]
        rw [if_neg (by simp)]
        walk_at "go"
        exact ⟨_, _, st, as, rfl, et, Nat.zero_le _, RT.mono (by omega), fX, kX.trans kT⟩
      | succ j =>
        obtain ⟨l, hl, rfl⟩ : ∃ l, LT[j]? = some l ∧ y = .str l := by
          rw [List.map_cons, List.getElem?_cons_succ, List.getElem?_map] at hy
          obtain ⟨l, h1, h2⟩ := Option.map_eq_some_iff.mp hy
          exact ⟨l, h1, h2.symm⟩
        have hl2 : (LT.map tl)[j]? = some (tl l) := by rw [List.getElem?_map, hl]; rfl
        obtain ⟨o1, o2, o3⟩ := rdTo_ok st0_ok (by simp [st0]) et
        rw [List.length_take] at o3
        have o4 : st.length ≤ 701 := by simp [st0] at o3; omega
        have o5 : st.length ≤ 10000 := by omega
        have o6 : (j + 1) * 702 ≤ 700000 := by omega
        have o7 : l.length ≤ 1000000 := lle l (by rw [List.mem_cons]; exact .inr (List.mem_of_getElem? hl))
        have obT := RT.ob
        walk_at "go"
        dsimp only
        rw [if_pos (decide_eq_true (by omega))]
        walk_at "go"
        refine ⟨fun z1 X2 k2 => ?_, fun st2 as2 X2 h2 R2 nw2 k2 => ?_⟩
        · refine ⟨false, rfl, ?_⟩
          refine iteT ?_
          have KX2 : Kp [] H1 X2 := (kX.trans kT).step k2 fun b hb => .inr (fX b hb)
          refine ⟨_, rfl, err_made (v := V.int ((j + 1 : Nat) : Int)) fun d H' h1 h2 h3 => qT (j + 1) (parseL_fail et hl2 z1) d H' ((k1.trans KX2).free h1 (by simp)) h2 ((k1.trans KX2).trans h3)⟩
        · have e2 : rdTo st0 ((LT.map tl).take (j + 1)) = some st2 := by
            have et' : rdTo st0 ((LT.map tl).take j) = some st := et
            rw [List.take_add_one, hl2, rdTo_app, et']
            show (readP st (tl l)).bind (fun s => rdTo s []) = _
            rw [h2]
            rfl
          refine ⟨true, rfl, ?_⟩
          refine iteF ?_
          refine ⟨_, _, st2, as2, rfl, e2, by omega, R2.mono (by omega), fun b hb => ?_, (kX.trans kT).step k2 fun b hb => .inr (fX b hb)⟩
          rcases List.mem_cons.mp hb with rfl | hb
          · exact fX _ (by simp)
          rcases List.mem_cons.mp hb with rfl | hb
          · exact fX _ (by simp)
          rcases nw2 b hb with z | z
          · exact fX b (by simp [z])
          · exact (kX.trans kT).free z (by simp)
    · rintro σ X ⟨⟨s3, s4, st, as, rfl, et, li, RX, fX, kX⟩⟩
      rw [List.length_map, List.length_cons, Nat.add_sub_cancel, List.take_of_length_le (by rw [List.length_map]; omega)] at et
      obtain ⟨o1, o2, o3⟩ := rdTo_ok st0_ok (by simp [st0]) et
      rw [List.length_map] at o3
      rw [List.length_cons] at lls
      have o5 : st.length ≤ 700 := by simp [st0] at o3; omega
      obtain ⟨pE, hcm⟩ := comeTo_one o2
      obtain ⟨p, r, rfl⟩ : ∃ p r, st = p :: r := by
        cases st with
        | nil => simp at o2
        | cons p r => exact ⟨p, r, rfl⟩
      obtain ⟨a3, as3, rfl⟩ : ∃ a3 as3, as = a3 :: as3 := by
        have := RX.pts.length
        cases as with
        | nil => simp at this
        | cons a as2 => exact ⟨a, as2, rfl⟩
      rw [List.length_map, List.length_cons] at RX
      have ob3 := RX.ob
      have ls3 : X L = some (.lst ((as3.reverse.map fun a => V.ref a.p) ++ [V.ref a3.p])) := by rw [RX.ls]; simp
      have la3 := atI_last02 (as3.reverse.map fun a => V.ref a.p) (V.ref a3.p)
      have p33 : PtAt T.Part.C X a3 p := by
        cases RX.pts with
        | cons h t => exact h
      obtain ⟨hv3, o3', t3⟩ := id p33.ob
      have lp := (RX.rl p (by simp)).1
      have lp2 : p.rows.length ≤ 1000000 := by omega
      walk_at "go"
      intro X2 k2
      have R2 := RX.kp0 k2
      have a1X := k2.at (kX.at a1)
      refine ⟨_, rfl, ?_⟩
      cases hlk : lacks p with
      | true =>
        refine iteT ?_
        walk_at "go"
        have el : (List.map V.str (Str.ofString "program" :: LT)).length = (LT.map tl).length + 1 := by simp
        rw [el]
        exact (err_made fun d H' h1 h2 h3 => qT ((LT.map tl).length + 1) (parseL_lack et hlk) d H' ((k1.trans (kX.trans k2)).free h1 (by simp)) h2 ((k1.trans (kX.trans k2)).trans h3)).2
      | false =>
        refine iteF ?_
        have z0 : (0 : Int) = ((0 : Nat) : Int) := rfl
        have o5b : (p :: r).length ≤ 10000 := by omega
        have n8 : (LT.length + 1) * 702 ≤ 800000 := by omega
        have ob4 := R2.ob
        walk_at "go"
        intro as' X3 R3 sub k3
        rw [Nat.sub_zero, hcm] at R3
        obtain ⟨a4, rfl⟩ : ∃ a4, as' = [a4] := by
          have := R3.pts.length
          match as', this with
          | [a4], _ => exact ⟨a4, rfl⟩
          | [], z => simp at z
          | _ :: _ :: _, z => simp at z
        have p4 : PtAt T.Part.C X3 a4 pE := by
          cases R3.pts with
          | cons h t => exact h
        obtain ⟨hv4, g4, t4⟩ := id p4.ob
        obtain ⟨vs4, r4, tv4⟩ := id p4.rw
        have ob5 := R3.ob
        have ls5 : X3 L = some (.lst [V.ref a4.p]) := R3.ls
        have lv4 : vs4.length ≤ 1000000 := by
          have := tv4.length
          have := (R3.rl pE (by simp)).1
          omega
        have sv4 := sz_le lv4
        obtain ⟨s1, s2, s3⟩ := qR pE.rows (parseL_rowsE et hlk hcm)
        walk_at "go"
        intro pt X4 hp4 q4 k4
        have tp : Tr X4 (.tuple pE.rows) (.ref pt) := mk_tup q4 (k4.trAll tv4)
        walk_at "go"
        intro t e X5 te pe k5
        have K5 : Kp [] H X5 := (k1.trans (((kX.trans k2).step k3 fun b hb => .inr (fX b hb)))).trans (k4.trans k5)
        by_cases he : e = .none
        · subst he
          cases te
          walk_at "go"
          exact (s3 _ pe).1 rfl _ X5 (k5.tr tp) K5
        · have tn := perr_non pe te he
          walk_at "go"
          rw [tn]
          refine iteT ?_
          exact ⟨_, rfl, err_made (v := t) fun d H' h1 h2 h3 => (s3 e pe).2 he d t H' (K5.free h1 (by simp)) (h3.tr te) h2 (K5.trans h3)⟩
  · dsimp only
    rw [if_pos (by simpa using ez)]
    exact err_made fun d H' h1 h2 h3 => qT 0 (parseL_head fun z => ez (ext_tl (z.trans (by decide +kernel)))) d H' (k1.free h1 (by simp)) h2 (k1.trans h3)
end
section
open TL
variable {P : Program} {w : World} {K : PySem.W.Frag} {mg : Str → Option Value} {base : Heap}
theorem ok_l_parsed (T : Top K mg) (DW : WdOk K w T.WORDS) : FnOk P w K mg base CX0 53 T.l_parsed.f T.l_parsed.fd ["_law_text"] spParsed := by
  have G_parse_program := ok_parse_program (P := P) (w := w) (base := base) T DW
  refine T.l_parsed.F.ok sc_l_parsed (fun vs H Q E h => ?_) (fun cdv A outer s H vs Q E hr h => ?_)
  · obtain ⟨z, rfl, _⟩ := h
    rfl
  obtain ⟨z, rfl, tx, qT, qR⟩ := h
  have hu := hu_of hr
  refine ⟨_, (pss_cons (ps_try_named rfl rfl sc_l_parsed.nd takes_none5 (fun W pn xe tk _ => (pss_one (ps_set (i := 1) sc_l_parsed.nd rfl (.inl rfl) (pe_lstA (pa_cons pe_str (pa_cons (pe_callS G_parse_program (hr.mono (by omega)) (by rfl) T.parse_program.g T.parse_program.F.kp T.parse_program.b (fun σ => passAt tk σ) (pa_cons (pv 0) pa_nil)) pa_nil))))))
      (NHs.cons (i := 2) ⟨rfl, by decide, .inl T.BadText.g⟩ rfl rfl (fun a cls d oe pn hz hf => (pss_one (ps_set (i := 1) sc_l_parsed.nd rfl (.inl rfl) (pe_lstA (pa_cons pe_str (pa_cons (pe_byE T.BadText.E hz hf (pv 2)) pa_nil)))))) (NHs.cons (i := 2) ⟨rfl, by decide, .inl T.BadProgram.g⟩ rfl rfl (fun a cls d oe pn hz hf => (pss_one (ps_set (i := 1) sc_l_parsed.nd rfl (.inl rfl) (pe_lstA (pa_cons pe_str (pa_cons (pe_byE T.BadProgram.E hz hf (pv 2)) pa_nil)))))) .nil)))
      (pss_one (ps_ret (pv 1)))), ?_⟩
  walk_at "go"
  refine ⟨fun n hn d H1 hd e1 k1 => ?_, fun ds hds => ?_⟩
  · refine ⟨true, T.BadText.E.te, fun _ a ha => ?_, fun z => (nomatch z)⟩
    walk_at "go"
    intro p H2 hp e2
    have k2 := new_kp hp e2
    walk_at "go"
    exact qT n hn p H2 (new_at e2) (k1.trans k2)
  · obtain ⟨s1, s2, s3⟩ := qR ds hds
    refine ⟨s1, s2, fun e pe => ⟨fun he t H1 t1 k1 => ?_, fun he d ev H1 hd t1 e1 k1 => ?_⟩⟩
    · walk_at "go"
      intro p H2 hp e2
      have k2 := new_kp hp e2
      walk_at "go"
      exact (s3 e pe).1 he t p H2 (k2.tr t1) (new_at e2) (k1.trans k2)
    · refine ⟨false, T.x_BadProgram_BadText, fun z => (nomatch z), fun _ => ?_⟩
      refine ⟨true, T.BadProgram.E.te, fun _ a ha => ?_, fun z => (nomatch z)⟩
      walk_at "go"
      intro p H2 hp e2
      have k2 := new_kp hp e2
      walk_at "go"
      exact (s3 e pe).2 he ev p H2 (k2.tr t1) (new_at e2) (k1.trans k2)
end
section
open TL
variable {P : Program} {w : World} {K : PySem.W.Frag} {mg : Str → Option Value} {base : Heap}
theorem ok_law (T : Top K mg) (DS : SgOk K w T.SIGNS_texts) (DW : WdOk K w T.WORDS) : FnG P w K mg base CX0 54 T.law.f T.law.fd ["_law_script"] (spLaw K) := by
  have G_l_deck := ok_l_deck (P := P) (w := w) (base := base) (k := 0) T
  have G_l_draw : FnOk P w K mg base CX0 1 T.l_draw.f T.l_draw.fd ["_law_deck_here", "_law_many"] spDraw := ok_l_draw T
  have G_l_one : FnOk P w K mg base CX0 2 T.l_one.f T.l_one.fd ["_law_deck_here", "_law_items"] (spOne K) := ok_l_one T
  have G_l_names : FnOk P w K mg base CX0 4 T.l_names.f T.l_names.fd ["_law_deck_here", "_law_many"] spNames01 := ok_l_names01 T
  have G_l_program : FnOk P w K mg base CX0 20 T.l_program.f T.l_program.fd ["_law_deck_here", "_law_names_here", "_law_most"] spProg01 := ok_l_program01 T
  have G_program_text : FnOk P w K mg base CX0 23 T.program_text.f T.program_text.fd ["program"] spPText := ok_program_text T DS
  have G_l_parsed := ok_l_parsed (P := P) (w := w) (base := base) T DW
  have c4 : cB01 4 ≤ 3000000 := by decide
  refine Fun.okG T.law.F sc_law (fun vs H Q E h => ?_) (fun cdv A outer s H vs Q E fr hr h => ?_)
  · obtain ⟨a, ns, rfl, _⟩ := h
    rfl
  obtain ⟨sa, ns, rfl, hS, hl, q⟩ := h
  have hu := hu_of hr
  have hu64 := hr.units
  refine ⟨_, (pss_cons (ps_set (i := 1) sc_law.nd rfl (.inl rfl) (pe_call G_l_deck (hr.mono (by omega)) (by rfl) T.l_deck.g T.l_deck.F.kp T.l_deck.b .nil pass0 (pa_cons (pv 0) pa_nil)))
      (pss_cons (ps_set (i := 2) sc_law.nd rfl (.inl rfl) (pe_lstA (pa_cons pe_str (pa_cons pe_str (pa_cons pe_str (pa_cons pe_str (pa_cons pe_str (pa_cons pe_str (pa_cons pe_str (pa_cons pe_str (pa_cons pe_str (pa_cons pe_str pa_nil))))))))))))
      (pss_cons (ps_forA (ps_for PassesOwn.never rfl (pi_range1 (by rfl) T.range (pa_cons pe_int pa_nil)) (pg_name (i := 3) sc_law.nd rfl (.inl rfl)) (pss_cons (ps_set (i := 4) sc_law.nd rfl (.inl rfl) (pe_call G_l_program (hr.mono (by omega)) (by rfl) T.l_program.g T.l_program.F.kp T.l_program.b .nil pass0 (pa_cons (pv 1) (pa_cons (pe_call G_l_names (hr.mono (by omega)) (by rfl) T.l_names.g T.l_names.F.kp T.l_names.b .nil pass0 (pa_cons (pv 1) (pa_cons (pe_op op_add pe_int (pe_call G_l_draw (hr.mono (by omega)) (by rfl) T.l_draw.g T.l_draw.F.kp T.l_draw.b .nil pass0 (pa_cons (pv 1) (pa_cons pe_int pa_nil)))) pa_nil))) (pa_cons pe_int pa_nil)))))
      (pss_cons (ps_set (i := 5) sc_law.nd rfl (.inl rfl) (pe_split (pe_call G_program_text (hr.mono (by omega)) (by rfl) T.program_text.g T.program_text.F.kp T.program_text.b .nil pass0 (pa_cons (pv 4) pa_nil)) pe_str))
      (pss_one (ps_forA (ps_for PassesOwn.never rfl (pi_range2 (by rfl) T.range (pa_cons pe_int (pa_cons (pe_op op_add (pe_callB (id := "len") (call_lenK (K := K) rfl) (by rfl) T.len PySem.boot_len (pa_cons (pv 5) pa_nil)) pe_int) pa_nil))) (pg_name (i := 6) sc_law.nd rfl (.inl rfl)) (pss_cons (ps_par (i := 7) (j := 8) (by rfl) sc_law.nd rfl rfl (by decide) rfl rfl (pa_cons (pe_joinA pe_str (pe_slice (sl_listK (K := K) rfl) (pv 5) po_none (po_some (pv 6)))) (pa_cons (pe_split (pe_m1 PySem.F.slot_str_strip PySem.F.type_str_strip mt_stripChars (pe_ix (ix_listK (K := K) rfl) (pv 5) (pe_op op_sub (pv 6) pe_int) (fun _ _ => rfl)) pe_str) pe_str) pa_nil)) (by rfl))
      (pss_cons (ps_set (i := 9) sc_law.nd rfl (.inl rfl) (pe_call G_l_parsed (hr.mono (by omega)) (by rfl) T.l_parsed.g T.l_parsed.F.kp T.l_parsed.b .nil pass0 (pa_cons (pv 7) pa_nil)))
      (pss_cutA (ps_if (pt_cmpR (op_in_seqK (K := K) rfl) (pe_ix (ix_listK (K := K) rfl) (pv 8) pe_int (fun _ _ => rfl)) (pe_lstA (pa_cons pe_str (pa_cons pe_str (pa_cons pe_str pa_nil)))) (by rfl)) (pss_one (ps_if (pt_cmpR op_ne (pe_callB (id := "repr") (call_reprLs fr hu64) (by rfl) T.repr (by decide +kernel) (pa_cons (pv 9) pa_nil)) (pe_callB (id := "repr") (call_reprLs fr hu64) (by rfl) T.repr (by decide +kernel) (pa_cons (pe_lstA (pa_cons pe_str (pa_cons (pv 6) pa_nil))) pa_nil)) (nomark _)) (pss_one (ps_ret pe_bl)) pss_nil)) (pss_one (ps_if (PW.pt (pw_or (pt_cmpR op_ne (pe_ix (ix_listK (K := K) rfl) (pv 9) pe_int (fun _ _ => rfl)) pe_str (nomark _)) (pw_or1 (pt_cmpR op_ne (pe_call G_program_text (hr.mono (by omega)) (by rfl) T.program_text.g T.program_text.F.kp T.program_text.b .nil pass0 (pa_cons (pe_ix (ix_listK (K := K) rfl) (pv 9) pe_int (fun _ _ => rfl)) pa_nil)) (pv 7) (nomark _))))) (pss_one (ps_ret pe_bl)) pss_nil)))
      (pss_one (ps_if (pt_cmpR op_ne (pe_callB (id := "repr") (call_reprLs fr hu64) (by rfl) T.repr (by decide +kernel) (pa_cons (pe_call G_l_parsed (hr.mono (by omega)) (by rfl) T.l_parsed.g T.l_parsed.F.kp T.l_parsed.b .nil pass0 (pa_cons (pe_op op_add_str (pe_op op_add_str (pv 7) pe_str) (pe_call G_l_one (hr.mono (by omega)) (by rfl) T.l_one.g T.l_one.F.kp T.l_one.b .nil pass0 (pa_cons (pv 1) (pa_cons (pv 2) pa_nil)))) pa_nil)) pa_nil)) (pe_callB (id := "repr") (call_reprLs fr hu64) (by rfl) T.repr (by decide +kernel) (pa_cons (pe_lstA (pa_cons pe_str (pa_cons (pv 6) pa_nil))) pa_nil)) (nomark _)) (pss_one (ps_ret pe_bl)) pss_nil))))))))))))
      (pss_one (ps_ret pe_bl))))), ?_⟩
  walk_at "go"
  intro a c H1 ha hc k1 D1
  walk_at "go"
  intro wr H2 hwr e2
  have k2 := new_kp hwr e2
  have w2 := new_at e2
  have off2 := D1.off hwr
  have D2 := D1.kp0 k2
  walk_at "go"
  have hm0 : (0 : Int) ≤ 0 ∧ (0 : Int) ≤ MANY := by decide
  refine ⟨for_range (lo := 0) (n := Int.toNat 2) (fun i σ X => Lp (∃ (w3 w4 w5 w6 w7 w8 w9 : Option V) (m : Int), σ = [some (.ref sa), some (.ref a), some (.ref wr), w3, w4, w5, w6, w7, w8, w9] ∧ 0 ≤ m ∧ m ≤ (i : Int) * 8000000 ∧ Deck X a c m ∧ X wr = some (.lst (WRONG.map V.str)))) ⟨_, _, _, _, _, _, _, 0, rfl, by omega, by omega, D2, w2⟩ ?_ ?_⟩
  · rintro i σ X hi ⟨⟨w3, w4, w5, w6, w7, w8, w9, m, rfl, m0, mu, DX, WX⟩⟩
    have hi2 : i < 2 := hi
    have hmM : m ≤ MANY := by show m ≤ 1000000000; omega
    walk_at "go"
    intro r H3 r0 r1 D3 k3
    have hk : 0 ≤ 1 + r ∧ 1 + r ≤ 5 := by omega
    have hm3 : m + 1 ≤ 600000000 := by omega
    walk_at "go"
    intro nm nms H4 m4 hN ml4 mu4 D4 k4
    have hm4 : m4 ≤ 400000000 := by omega
    have h24 : (0 : Int) ≤ 24 ∧ (24 : Int) ≤ 24 := by decide
    walk_at "go"
    intro v b H5 m5 t5 pt ml5 mu5 D5 k5
    walk_at "go"
    intro H6 k6
    have lz := pt.text.2
    have lz2 : (pText b).length + 2 ≤ sizeLine := sz_le (by omega)
    have kW : Kp [a, c] X H6 := ((k3.trans k4).trans k5).trans (k6.sub (by simp))
    refine ⟨⟨_, rfl⟩, ?_⟩
    walk_at "go"
    intro lp hlp
    rw [show Txt.split (pText b) (Str.ofString "\n") = PL b from split_text pt.rg]
    have k7 := Kp.new (u := HO.lst ((PL b).map V.str)) hlp
    have a7 : (upd H6 lp (HO.lst ((PL b).map V.str))) lp = some (.lst ((PL b).map V.str)) := upd_same
    generalize upd H6 lp (HO.lst ((PL b).map V.str)) = H7 at k7 a7 ⊢
    have offW : wr ∉ [a, c] := off2
    have W7 := (kW.trans (k7.sub (by simp))).keep _ _ WX offW
    have D7 := (D5.kp0 k6).kp0 k7
    have offL := (D5.kp0 k6).off hlp
    have nPL : (PL b).length ≤ 73 := pt.len
    walk_at "go"
    have nl : (List.map V.str (PL b)).length = (PL b).length := List.length_map ..
    refine ⟨⟨by decide, by decide, by omega, by omega⟩, ?_⟩
    walk_at "go"
    refine ⟨for_range (lo := 1) (fun j σ X => Lp (∃ (w6 w7 w8 w9 : Option V) (m2 : Int), σ = [some (.ref sa), some (.ref a), some (.ref wr), some (.int (0 + (i : Int))), some v, some (.ref lp), w6, w7, w8, w9] ∧ m5 ≤ m2 ∧ m2 ≤ m5 + (j : Int) ∧ Deck X a c m2 ∧ X wr = some (.lst (WRONG.map V.str)) ∧ X lp = some (.lst ((PL b).map V.str)))) ⟨_, _, _, _, m5, rfl, by omega, by omega, D7, W7, a7⟩ ?_ ?_⟩
    · rintro j σ X1 hj ⟨⟨w6, w7, w8, w9, m2, rfl, ml, mu2, DX1, WX1, LX1⟩⟩
      have hj2 : j < (PL b).length := by omega
      have hj3 : j ≤ (Sm.lnss "" b).length := by
        have : (PL b).length = (Sm.lnss "" b).length + 1 := rfl
        omega
      obtain ⟨x, hx⟩ : ∃ x, (PL b)[j]? = some x := ⟨_, List.getElem?_eq_getElem hj2⟩
      rw [show (1 : Int) + (j : Int) = ((j + 1 : Nat) : Int) by omega]
      have hat : atI ((PL b).map V.str) (((j + 1 : Nat) : Int) - 1) = some (.str x) := by
        rw [show (((j + 1 : Nat) : Int) - 1) = ((j : Nat) : Int) by omega]
        exact atI_nat (by rw [List.getElem?_map, hx]; rfl)
      obtain ⟨p1, p2, p3⟩ := PL_take pt (j + 1)
      have p0 : (PL b).take (j + 1) ≠ [] := by
        intro z
        have := congrArg List.length z
        rw [List.length_take, List.length_nil] at this
        omega
      have lx : x.length ≤ 400 := by have := (pt.fit x (List.mem_of_getElem? hx)).2; omega
      have lxs := sz_le (show x.length ≤ 1000000 by omega)
      have lst := strip_len x
      have lst2 : (Txt.stripChars x " ").length + 2 ≤ sizeLine := sz_le (by omega)
      refine ⟨⟨_, rfl⟩, ?_⟩
      walk_at "go"
      intro pc X2 hpc a8 k8
      rw [cut_to, ← List.map_take] at a8
      have s8 := join05 p2 (by omega)
      refine ⟨_, pc, (PL b).take (j + 1), rfl, rfl, a8, s8, ?_⟩
      have L2 := k8.at LX1
      have D8 := DX1.kp0 k8
      walk_at "go"
      refine ⟨⟨_, rfl⟩, ?_⟩
      walk_at "go"
      refine ⟨⟨_, rfl⟩, ?_⟩
      walk_at "go"
      intro wp hwp
      obtain ⟨ws, hws⟩ := strip_split x
      rw [show Txt.split (Txt.stripChars x (Str.ofString " ")) (Str.ofString " ") = fw x :: ws from hws]
      have k9 := Kp.new (u := HO.lst ((fw x :: ws).map V.str)) hwp
      have a9 : (upd X2 wp (HO.lst ((fw x :: ws).map V.str))) wp = some (.lst ((fw x :: ws).map V.str)) := upd_same
      generalize upd X2 wp (HO.lst ((fw x :: ws).map V.str)) = X3 at k9 a9 ⊢
      rw [List.map_cons] at a9
      have D9 := D8.kp0 k9
      have L9 := k9.at L2
      have W9 := k9.at (k8.at WX1)
      have tz := txtZ05 p0 p1 p2 (by omega)
      have hz : Txt.split (Txt.join "\n" ((PL b).take (j + 1))) "\n" = (PL b).take (j + 1) := split_lines p0 p1
      have bg := begin05 pt hj3 hx
      have sh := shw05 (n := j + 1) (by omega)
      walk_at "go"
      refine parsed05 bg hz fun l X4 k10 hor => ?_
      have a10 := k10.at a9
      have D10 := D9.kp0 k10
      have L10 := k10.at L9
      have W10 := k10.at W9
      walk_at "go"
      refine ⟨⟨(fun σ X => Lp (∃ w9 : Option V, σ = [some (.ref sa), some (.ref a), some (.ref wr), some (.int (0 + (i : Int))), some v, some (.ref lp), some (.int ((j + 1 : Nat) : Int)), some (.str (Txt.join "\n" ((PL b).take (j + 1)))), some (.ref wp), w9] ∧ Kp [] X4 X)), ?_, ?_⟩⟩
      · walk_at "go"
        intro q1 X5 hq1 e11
        have k11 := new_kp hq1 e11
        have q11 := new_at e11
        have a11 := k11.at a10
        refine ⟨q1, _, rfl, .inl (SqL.of q11), rfl, rfl, _, rfl, ?_⟩
        show if inV (V.str (fw x)) [V.str "if", V.str "repeat", V.str "else"] = true then _ else _
        rw [HdW.iff]
        rcases hor with ⟨hd, el⟩ | ⟨nh, cc, t, pc, ec, tt, el⟩
        · rw [decide_eq_true hd]
          refine iteT ?_
          have el11 := k11.at el
          have td : TrAll X5 [PyData.str "text", PyData.int ((j + 1 : Nat) : Int)] [V.str "text", V.int ((j + 1 : Nat) : Int)] := trs05
          walk_at "go"
          intro z1 hz1
          walk_at "go"
          intro q2 X6 hq2 e12
          have k12 := new_kp hq2 e12
          have q12 := new_at e12
          have td2 : TrAll X6 [PyData.str "text", PyData.int ((j + 1 : Nat) : Int)] [V.str "text", V.int ((j + 1 : Nat) : Int)] := trs05
          walk_at "go"
          intro z2 hz2
          cases hz1.trans hz2.symm
          refine ⟨rfl, _, rfl, ?_⟩
          rw [show (!decide (V.str z1 = V.str z1)) = false by simp]
          refine iteF ?_
          exact ⟨_, rfl, k11.trans k12⟩
        · rw [decide_eq_false nh]
          refine iteF ?_
          have el11 := k11.at el
          have tt11 := k11.tr tt
          walk_at "go"
          intro X6 k12
          have ep : pText cc = Txt.join "\n" ((PL b).take (j + 1)) := by
            rw [← ec]
            rfl
          rw [ep]
          walk_at "go"
          rw [show (!decide (V.str (Txt.join "\n" ((PL b).take (j + 1))) = V.str (Txt.join "\n" ((PL b).take (j + 1))))) = false by simp]
          refine iteF ?_
          exact ⟨_, rfl, k11.trans k12⟩
      · rintro σ X5 ⟨⟨w9, rfl, k11⟩⟩
        have D11 := D10.kp0 k11
        have L11 := k11.at L10
        have W11 := k11.at W10
        have lz1 : (Txt.join (Str.ofString "\n") ((PL b).take (j + 1))).length + ("\n" : Str).length ≤ sizeLine := sz_le (by have := tz.len; rw [nl_len]; omega)
        have hm2 : m2 ≤ MANY := by show m2 ≤ 1000000000; omega
        have lw0 : 0 < (WRONG.map V.str).length := by decide
        have lw1 : (WRONG.map V.str).length ≤ 1000000 := by decide
        walk_at "go"
        intro l0v X6 hl0 D12 k12
        obtain ⟨l0, hl0m, rfl⟩ := List.mem_map.mp hl0
        have wl := wrong_all l0 hl0m
        have lz2 : (Txt.join (Str.ofString "\n") ((PL b).take (j + 1)) ++ "\n").length + l0.length ≤ sizeLine := sz_le (by have := tz.len; have := wl.len; rw [Str.length_append, nl_len]; omega)
        have es : Txt.join "\n" ((PL b).take (j + 1)) ++ "\n" ++ l0 = Txt.join "\n" ((PL b).take (j + 1) ++ [l0]) := by
          rw [join_eq, join_eq, join_snoc p0]
        have w1 : ∀ y ∈ (PL b).take (j + 1) ++ [l0], 10 ∉ tl y := fun y hy => by
          rcases List.mem_append.mp hy with hy | hy
          · exact p1 y hy
          · rw [List.mem_singleton.mp hy]
            exact wl.nl
        have w2 : ∀ y ∈ (PL b).take (j + 1) ++ [l0], y.length ≤ 400 := fun y hy => by
          rcases List.mem_append.mp hy with hy | hy
          · exact p2 y hy
          · rw [List.mem_singleton.mp hy]
            have := wl.len
            omega
        have w3 : ((PL b).take (j + 1) ++ [l0]).length ≤ 80 := by rw [List.length_append, List.length_singleton]; omega
        have w0 : (PL b).take (j + 1) ++ [l0] ≠ [] := by simp
        have tz2 : TxtZ (Txt.join "\n" ((PL b).take (j + 1)) ++ "\n" ++ l0) := es ▸ txtZ05 w0 w1 w2 w3
        have hz2 : Txt.split (Txt.join "\n" ((PL b).take (j + 1)) ++ "\n" ++ l0) "\n" = (PL b).take (j + 1) ++ [l0] := by rw [es]; exact split_lines w0 w1
        have ew := wrong05 pt hj3 wl
        walk_at "go"
        refine parsedW05 ew hz2 fun l3 X7 k13 e13 => ?_
        have td : TrAll X7 [PyData.str "text", PyData.int ((j + 1 : Nat) : Int)] [V.str "text", V.int ((j + 1 : Nat) : Int)] := trs05
        walk_at "go"
        intro z1 hz1
        walk_at "go"
        intro q2 X8 hq2 e14
        have k14 := new_kp hq2 e14
        have q14 := new_at e14
        have td2 : TrAll X8 [PyData.str "text", PyData.int ((j + 1 : Nat) : Int)] [V.str "text", V.int ((j + 1 : Nat) : Int)] := trs05
        walk_at "go"
        intro z2 hz2
        cases hz1.trans hz2.symm
        refine ⟨rfl, _, rfl, ?_⟩
        rw [show (!decide (V.str z1 = V.str z1)) = false by simp]
        refine iteF ?_
        have K12 := k12.trans ((k13.trans k14).sub (by simp))
        exact ⟨_, _, _, _, m2 + 1, rfl, by omega, by omega, (D12.kp0 k13).kp0 k14, K12.keep _ _ W11 offW, K12.keep _ _ L11 offL⟩
    · rintro σ X1 ⟨⟨w6, w7, w8, w9, m2, rfl, ml, mu2, DX1, WX1, LX1⟩⟩
      have hn : (Int.toNat (((List.map V.str (PL b)).length : Int) + 1 - 1) : Int) ≤ 73 := by omega
      exact ⟨_, _, _, _, _, _, _, m2, rfl, by omega, by omega, DX1, WX1⟩
  · rintro σ X ⟨⟨w3, w4, w5, w6, w7, w8, w9, m, rfl, m0, mu, DX, WX⟩⟩
    walk_at "go"
    exact q X
end
end EH
namespace EH
open PySem L2 PyProof.Rows
theorem all_mk {P : Program} {w : World} {K : PySem.W.Frag} {h : Heap} {mg : Str → Option Value} {fa : Addr} (X : K.In h) (G : h.Ns mainGlobals mg) (hfa : mg "law" = some (.ref fa))
    {C_Part : Addr}
    {C_ProgramReader : Addr}
    {C_HalfError : Addr}
    {C_BadText : Addr} {nm_BadText qn_BadText : Str} {N_BadText : Addr} {bs_BadText : List Value} {sn_BadText : List Str} {sub_BadText : List Value} {ab_BadText : Bool} {col_BadText : Option Bool} {dd_BadText : Option Addr} {m0_BadText m1_BadText m2_BadText m3_BadText m5_BadText : Option Value}
    {C_BadProgram : Addr} {nm_BadProgram qn_BadProgram : Str} {N_BadProgram : Addr} {bs_BadProgram : List Value} {sn_BadProgram : List Str} {sub_BadProgram : List Value} {ab_BadProgram : Bool} {col_BadProgram : Option Bool} {dd_BadProgram : Option Addr} {m0_BadProgram m1_BadProgram m2_BadProgram m3_BadProgram m5_BadProgram : Option Value}
    {f1 : Addr} {od1 an1 : Option Addr} {sl1 : Array (Option Value)} {oc1 kV1 dc1 pm1 cd1 ct1 : Value}
    {f2 : Addr} {od2 an2 : Option Addr} {sl2 : Array (Option Value)} {oc2 kV2 dc2 pm2 cd2 ct2 : Value}
    {f3 : Addr} {od3 an3 : Option Addr} {sl3 : Array (Option Value)} {oc3 kV3 dc3 pm3 cd3 ct3 : Value}
    {f4 : Addr} {od4 an4 : Option Addr} {sl4 : Array (Option Value)} {oc4 kV4 dc4 pm4 cd4 ct4 : Value}
    {f5 : Addr} {od5 an5 : Option Addr} {sl5 : Array (Option Value)} {oc5 kV5 dc5 pm5 cd5 ct5 : Value}
    {f6 : Addr} {od6 an6 : Option Addr} {sl6 : Array (Option Value)} {oc6 kV6 dc6 pm6 cd6 ct6 : Value}
    {f7 : Addr} {od7 an7 : Option Addr} {sl7 : Array (Option Value)} {oc7 kV7 dc7 pm7 cd7 ct7 : Value}
    {f8 : Addr} {od8 an8 : Option Addr} {sl8 : Array (Option Value)} {oc8 kV8 dc8 pm8 cd8 ct8 : Value}
    {f9 : Addr} {od9 an9 : Option Addr} {sl9 : Array (Option Value)} {oc9 kV9 dc9 pm9 cd9 ct9 : Value}
    {f10 : Addr} {od10 an10 : Option Addr} {sl10 : Array (Option Value)} {oc10 kV10 dc10 pm10 cd10 ct10 : Value}
    {f11 : Addr} {od11 an11 : Option Addr} {sl11 : Array (Option Value)} {oc11 kV11 dc11 pm11 cd11 ct11 : Value}
    {f12 : Addr} {od12 an12 : Option Addr} {sl12 : Array (Option Value)} {oc12 kV12 dc12 pm12 cd12 ct12 : Value}
    {f13 : Addr} {od13 an13 : Option Addr} {sl13 : Array (Option Value)} {oc13 kV13 dc13 pm13 cd13 ct13 : Value}
    {f14 : Addr} {od14 an14 : Option Addr} {sl14 : Array (Option Value)} {oc14 kV14 dc14 pm14 cd14 ct14 : Value}
    {f15 : Addr} {od15 an15 : Option Addr} {sl15 : Array (Option Value)} {oc15 kV15 dc15 pm15 cd15 ct15 : Value}
    {f16 : Addr} {od16 an16 : Option Addr} {sl16 : Array (Option Value)} {oc16 kV16 dc16 pm16 cd16 ct16 : Value}
    {f17 : Addr} {od17 an17 : Option Addr} {sl17 : Array (Option Value)} {oc17 kV17 dc17 pm17 cd17 ct17 : Value}
    {f18 : Addr} {od18 an18 : Option Addr} {sl18 : Array (Option Value)} {oc18 kV18 dc18 pm18 cd18 ct18 : Value}
    {f19 : Addr} {od19 an19 : Option Addr} {sl19 : Array (Option Value)} {oc19 kV19 dc19 pm19 cd19 ct19 : Value}
    {f20 : Addr} {od20 an20 : Option Addr} {sl20 : Array (Option Value)} {oc20 kV20 dc20 pm20 cd20 ct20 : Value}
    {f21 : Addr} {od21 an21 : Option Addr} {sl21 : Array (Option Value)} {oc21 kV21 dc21 pm21 cd21 ct21 : Value}
    {f22 : Addr} {od22 an22 : Option Addr} {sl22 : Array (Option Value)} {oc22 kV22 dc22 pm22 cd22 ct22 : Value}
    {f23 : Addr} {od23 an23 : Option Addr} {sl23 : Array (Option Value)} {oc23 kV23 dc23 pm23 cd23 ct23 : Value}
    {f24 : Addr} {od24 an24 : Option Addr} {sl24 : Array (Option Value)} {oc24 kV24 dc24 pm24 cd24 ct24 : Value}
    {f25 : Addr} {od25 an25 : Option Addr} {sl25 : Array (Option Value)} {oc25 kV25 dc25 pm25 cd25 ct25 : Value}
    {f26 : Addr} {od26 an26 : Option Addr} {sl26 : Array (Option Value)} {oc26 kV26 dc26 pm26 cd26 ct26 : Value}
    {f27 : Addr} {od27 an27 : Option Addr} {sl27 : Array (Option Value)} {oc27 kV27 dc27 pm27 cd27 ct27 : Value}
    {f28 : Addr} {od28 an28 : Option Addr} {sl28 : Array (Option Value)} {oc28 kV28 dc28 pm28 cd28 ct28 : Value}
    {f29 : Addr} {od29 an29 : Option Addr} {sl29 : Array (Option Value)} {oc29 kV29 dc29 pm29 cd29 ct29 : Value}
    {f30 : Addr} {od30 an30 : Option Addr} {sl30 : Array (Option Value)} {oc30 kV30 dc30 pm30 cd30 ct30 : Value}
    {f31 : Addr} {od31 an31 : Option Addr} {sl31 : Array (Option Value)} {oc31 kV31 dc31 pm31 cd31 ct31 : Value}
    {f32 : Addr} {od32 an32 : Option Addr} {sl32 : Array (Option Value)} {oc32 kV32 dc32 pm32 cd32 ct32 : Value}
    {f33 : Addr} {od33 an33 : Option Addr} {sl33 : Array (Option Value)} {oc33 kV33 dc33 pm33 cd33 ct33 : Value}
    {f34 : Addr} {od34 an34 : Option Addr} {sl34 : Array (Option Value)} {oc34 kV34 dc34 pm34 cd34 ct34 : Value}
    {f35 : Addr} {od35 an35 : Option Addr} {sl35 : Array (Option Value)} {oc35 kV35 dc35 pm35 cd35 ct35 : Value}
    {f36 : Addr} {od36 an36 : Option Addr} {sl36 : Array (Option Value)} {oc36 kV36 dc36 pm36 cd36 ct36 : Value}
    {f37 : Addr} {od37 an37 : Option Addr} {sl37 : Array (Option Value)} {oc37 kV37 dc37 pm37 cd37 ct37 : Value}
    {f38 : Addr} {od38 an38 : Option Addr} {sl38 : Array (Option Value)} {oc38 kV38 dc38 pm38 cd38 ct38 : Value}
    {f39 : Addr} {od39 an39 : Option Addr} {sl39 : Array (Option Value)} {oc39 kV39 dc39 pm39 cd39 ct39 : Value}
    {f40 : Addr} {od40 an40 : Option Addr} {sl40 : Array (Option Value)} {oc40 kV40 dc40 pm40 cd40 ct40 : Value}
    {f41 : Addr} {od41 an41 : Option Addr} {sl41 : Array (Option Value)} {oc41 kV41 dc41 pm41 cd41 ct41 : Value}
    {f42 : Addr} {od42 an42 : Option Addr} {sl42 : Array (Option Value)} {oc42 kV42 dc42 pm42 cd42 ct42 : Value}
    {f43 : Addr} {od43 an43 : Option Addr} {sl43 : Array (Option Value)} {oc43 kV43 dc43 pm43 cd43 ct43 : Value}
    {f44 : Addr} {od44 an44 : Option Addr} {sl44 : Array (Option Value)} {oc44 kV44 dc44 pm44 cd44 ct44 : Value}
    {f45 : Addr} {od45 an45 : Option Addr} {sl45 : Array (Option Value)} {oc45 kV45 dc45 pm45 cd45 ct45 : Value}
    {f46 : Addr} {od46 an46 : Option Addr} {sl46 : Array (Option Value)} {oc46 kV46 dc46 pm46 cd46 ct46 : Value}
    {f47 : Addr} {od47 an47 : Option Addr} {sl47 : Array (Option Value)} {oc47 kV47 dc47 pm47 cd47 ct47 : Value}
    {f48 : Addr} {od48 an48 : Option Addr} {sl48 : Array (Option Value)} {oc48 kV48 dc48 pm48 cd48 ct48 : Value}
    {f49 : Addr} {od49 an49 : Option Addr} {sl49 : Array (Option Value)} {oc49 kV49 dc49 pm49 cd49 ct49 : Value}
    {f50 : Addr} {od50 an50 : Option Addr} {sl50 : Array (Option Value)} {oc50 kV50 dc50 pm50 cd50 ct50 : Value}
    {f51 : Addr} {od51 an51 : Option Addr} {sl51 : Array (Option Value)} {oc51 kV51 dc51 pm51 cd51 ct51 : Value}
    {f52 : Addr} {od52 an52 : Option Addr} {sl52 : Array (Option Value)} {oc52 kV52 dc52 pm52 cd52 ct52 : Value}
    {f53 : Addr} {od53 an53 : Option Addr} {sl53 : Array (Option Value)} {oc53 kV53 dc53 pm53 cd53 ct53 : Value}
    {f54 : Addr} {od54 an54 : Option Addr} {sl54 : Array (Option Value)} {oc54 kV54 dc54 pm54 cd54 ct54 : Value}
    {t_MAX_NAME : Tok}
    {t_MAX_WORD : Tok}
    {t_MAX_TIMES : Tok}
    {t_MAX_DEEP : Tok}
    {t_MAX_NOTS : Tok}
    {t_MAX_PLACES : Tok}
    {t_MAX_WEIGHT : Tok}
    {t_MAX_HALVINGS : Tok}
    {t_MAX_COMPARINGS : Tok}
    {t_MAX_NEST : Tok}
    {t_LETTERS_programs : Tok}
    {t_SIGNS_programs : Tok}
    {t_MOST_NUMBER : Tok}
    {t_MOST_FACTOR : Tok}
    {t_LETTERS_texts : Tok}
    {t_FIGURES : Tok}
    {t_HEAD : Tok}
    {t_STEP : Tok}
    {t_MOST_FIGURES : Tok}
    {t_MOST_DEEP : Tok}
    {t_MOST_NOTS : Tok}
    {a_KEPT : Addr} {ob_KEPT : Option Addr} {ns_KEPT : Nat} {ss_KEPT : Array (Option Value)} {u_KEPT_0 u_KEPT_1 u_KEPT_2 u_KEPT_3 u_KEPT_4 u_KEPT_5 u_KEPT_6 u_KEPT_7 u_KEPT_8 u_KEPT_9 u_KEPT_10 : Tok}
    {a_KEPT_WORDS : Addr} {ob_KEPT_WORDS : Option Addr} {ns_KEPT_WORDS : Nat} {ss_KEPT_WORDS : Array (Option Value)} {u_KEPT_WORDS_0 u_KEPT_WORDS_1 u_KEPT_WORDS_2 u_KEPT_WORDS_3 u_KEPT_WORDS_4 u_KEPT_WORDS_5 u_KEPT_WORDS_6 u_KEPT_WORDS_7 u_KEPT_WORDS_8 u_KEPT_WORDS_9 u_KEPT_WORDS_10 : Tok}
    {a_SIGNS_texts : Addr} {es_SIGNS_texts : Array DictEntry} {en_SIGNS_texts : Nat}
    {tk_SIGNS_texts_0 : Tok}
    {tk_SIGNS_texts_1 : Tok}
    {tk_SIGNS_texts_2 : Tok}
    {a_WORDS : Addr} {es_WORDS : Array DictEntry} {en_WORDS : Nat}
    {tk_WORDS_0 : Tok}
    {tk_WORDS_1 : Tok}
    {tk_WORDS_2 : Tok}
    (aC_Part : PySem.W.nsIn K mainGlobals "Part" = some (some (.ref C_Part)))
    (pg_Part : PySem.W.plainGet K C_Part Str.empty = true)
    (hd_Part : PySem.W.hasDictIn K C_Part = true)
    (po_Part : PySem.W.plainOver K C_Part = true)
    (sa_Part : PySem.W.findIn K (.ref C_Part) "__setattr__" = some (some (.builtin "object.__setattr__")))
    (mk_Part : PySem.W.makesIn K C_Part = true)
    (kc_Part : PySem.W.keepIn K (.ref C_Part) = true)
    (aC_ProgramReader : PySem.W.nsIn K mainGlobals "ProgramReader" = some (some (.ref C_ProgramReader)))
    (pg_ProgramReader : PySem.W.plainGet K C_ProgramReader Str.empty = true)
    (hd_ProgramReader : PySem.W.hasDictIn K C_ProgramReader = true)
    (po_ProgramReader : PySem.W.plainOver K C_ProgramReader = true)
    (sa_ProgramReader : PySem.W.findIn K (.ref C_ProgramReader) "__setattr__" = some (some (.builtin "object.__setattr__")))
    (mk_ProgramReader : PySem.W.makesIn K C_ProgramReader = true)
    (kc_ProgramReader : PySem.W.keepIn K (.ref C_ProgramReader) = true)
    (aC_HalfError : PySem.W.nsIn K mainGlobals "HalfError" = some (some (.ref C_HalfError)))
    (ga_HalfError : PySem.W.specialIn K (.ref C_HalfError) "__getattribute__" = some (some (.builtin "type.__getattribute__")))
    (rd_HalfError : PySem.W.readsIn K C_HalfError (.type "type") = true)
    (ini_HalfError : PySem.W.findCls K (.ref C_HalfError) (.type "type") "__init__" = some (.val (.builtin "ValueError.__init__")))
    (aC_BadText : PySem.W.nsIn K mainGlobals "BadText" = some (some (.ref C_BadText)))
    (xL_BadText : K.lookup C_BadText = some (excClassObj nm_BadText qn_BadText C_BadText N_BadText bs_BadText [.ref C_HalfError, .type "ValueError", .type "Exception", .type "BaseException", .type "object"] true sn_BadText sub_BadText ab_BadText col_BadText dd_BadText m0_BadText m1_BadText m2_BadText m3_BadText m5_BadText "ValueError.__new__"))
    (sa_BadText : PySem.W.findIn K (.ref C_BadText) "__setattr__" = some (some (.builtin "object.__setattr__")))
    (ga_BadText : PySem.W.findIn K (.ref C_BadText) "__getattribute__" = some (some (.builtin "BaseException.__getattribute__")))
    (gg_BadText : PySem.W.findIn K (.ref C_BadText) "__getattr__" = some none)
    (no_BadText : PySem.W.findIn K (.ref C_BadText) "line" = some none)
    (kc_BadText : PySem.W.keepIn K (.ref C_BadText) = true)
    (ex_BadText : PySem.W.subIn K (.ref C_BadText) (.type "BaseException") = some true)
    (ty_BadText : PySem.W.typeIn K (.ref C_BadText) = some (.type "type"))
    (hd_BadText : PySem.W.hasDictIn K C_BadText = true)
    (ic_BadText : PySem.W.isClsIn K C_BadText = true)
    (sc_BadText : PySem.W.subIn K (.ref C_BadText) (.ref C_BadText) = some true)
    (aC_BadProgram : PySem.W.nsIn K mainGlobals "BadProgram" = some (some (.ref C_BadProgram)))
    (xL_BadProgram : K.lookup C_BadProgram = some (excClassObj nm_BadProgram qn_BadProgram C_BadProgram N_BadProgram bs_BadProgram [.ref C_HalfError, .type "ValueError", .type "Exception", .type "BaseException", .type "object"] true sn_BadProgram sub_BadProgram ab_BadProgram col_BadProgram dd_BadProgram m0_BadProgram m1_BadProgram m2_BadProgram m3_BadProgram m5_BadProgram "ValueError.__new__"))
    (sa_BadProgram : PySem.W.findIn K (.ref C_BadProgram) "__setattr__" = some (some (.builtin "object.__setattr__")))
    (ga_BadProgram : PySem.W.findIn K (.ref C_BadProgram) "__getattribute__" = some (some (.builtin "BaseException.__getattribute__")))
    (gg_BadProgram : PySem.W.findIn K (.ref C_BadProgram) "__getattr__" = some none)
    (no_BadProgram : PySem.W.findIn K (.ref C_BadProgram) "error" = some none)
    (kc_BadProgram : PySem.W.keepIn K (.ref C_BadProgram) = true)
    (ex_BadProgram : PySem.W.subIn K (.ref C_BadProgram) (.type "BaseException") = some true)
    (ty_BadProgram : PySem.W.typeIn K (.ref C_BadProgram) = some (.type "type"))
    (hd_BadProgram : PySem.W.hasDictIn K C_BadProgram = true)
    (ic_BadProgram : PySem.W.isClsIn K C_BadProgram = true)
    (sc_BadProgram : PySem.W.subIn K (.ref C_BadProgram) (.ref C_BadProgram) = some true)
    (xo_BadProgram_BadText : PySem.W.subIn K (.ref C_BadProgram) (.ref C_BadText) = some false)
    (a1 : PySem.W.findIn K (.ref C_BadText) "__init__" = some (some (.ref f1)))
    (i1 : PySem.W.typeIn K (.ref f1) = some (.type "function"))
    (l1 : K.lookup f1 = some ⟨oc1, od1, .func (PySem.W.fnOf "__init__" "BadText.__init__" (defArgs s_BadText_init) (defBody s_BadText_init) (defScope s_BadText_init) .none kV1 dc1 pm1 an1 cd1 ct1), sl1⟩)
    (c1 : PySem.W.codeIn K cd1 "BadText.__init__" = true)
    (k1 : PySem.W.keepIn K (.ref f1) = true)
    (a2 : PySem.W.findIn K (.ref C_BadProgram) "__init__" = some (some (.ref f2)))
    (i2 : PySem.W.typeIn K (.ref f2) = some (.type "function"))
    (l2 : K.lookup f2 = some ⟨oc2, od2, .func (PySem.W.fnOf "__init__" "BadProgram.__init__" (defArgs s_BadProgram_init) (defBody s_BadProgram_init) (defScope s_BadProgram_init) .none kV2 dc2 pm2 an2 cd2 ct2), sl2⟩)
    (c2 : PySem.W.codeIn K cd2 "BadProgram.__init__" = true)
    (k2 : PySem.W.keepIn K (.ref f2) = true)
    (a3 : PySem.W.nsIn K mainGlobals "is_whole" = some (some (.ref f3)))
    (l3 : K.lookup f3 = some ⟨oc3, od3, .func (PySem.W.fnOf "is_whole" "is_whole" (defArgs s_is_whole) (defBody s_is_whole) (defScope s_is_whole) .none kV3 dc3 pm3 an3 cd3 ct3), sl3⟩)
    (c3 : PySem.W.codeIn K cd3 "is_whole" = true)
    (k3 : PySem.W.keepIn K (.ref f3) = true)
    (a4 : PySem.W.nsIn K mainGlobals "is_word_programs" = some (some (.ref f4)))
    (l4 : K.lookup f4 = some ⟨oc4, od4, .func (PySem.W.fnOf "is_word" "is_word" (defArgs s_is_word_programs) (defBody s_is_word_programs) (defScope s_is_word_programs) .none kV4 dc4 pm4 an4 cd4 ct4), sl4⟩)
    (c4 : PySem.W.codeIn K cd4 "is_word" = true)
    (k4 : PySem.W.keepIn K (.ref f4) = true)
    (a5 : PySem.W.nsIn K mainGlobals "is_name_programs" = some (some (.ref f5)))
    (l5 : K.lookup f5 = some ⟨oc5, od5, .func (PySem.W.fnOf "is_name" "is_name" (defArgs s_is_name_programs) (defBody s_is_name_programs) (defScope s_is_name_programs) .none kV5 dc5 pm5 an5 cd5 ct5), sl5⟩)
    (c5 : PySem.W.codeIn K cd5 "is_name" = true)
    (k5 : PySem.W.keepIn K (.ref f5) = true)
    (a6 : PySem.W.nsIn K mainGlobals "is_expression" = some (some (.ref f6)))
    (l6 : K.lookup f6 = some ⟨oc6, od6, .func (PySem.W.fnOf "is_expression" "is_expression" (defArgs s_is_expression) (defBody s_is_expression) (defScope s_is_expression) .none kV6 dc6 pm6 an6 cd6 ct6), sl6⟩)
    (c6 : PySem.W.codeIn K cd6 "is_expression" = true)
    (k6 : PySem.W.keepIn K (.ref f6) = true)
    (a7 : PySem.W.nsIn K mainGlobals "is_test" = some (some (.ref f7)))
    (l7 : K.lookup f7 = some ⟨oc7, od7, .func (PySem.W.fnOf "is_test" "is_test" (defArgs s_is_test) (defBody s_is_test) (defScope s_is_test) .none kV7 dc7 pm7 an7 cd7 ct7), sl7⟩)
    (c7 : PySem.W.codeIn K cd7 "is_test" = true)
    (k7 : PySem.W.keepIn K (.ref f7) = true)
    (a8 : PySem.W.nsIn K mainGlobals "is_plain" = some (some (.ref f8)))
    (l8 : K.lookup f8 = some ⟨oc8, od8, .func (PySem.W.fnOf "is_plain" "is_plain" (defArgs s_is_plain) (defBody s_is_plain) (defScope s_is_plain) .none kV8 dc8 pm8 an8 cd8 ct8), sl8⟩)
    (c8 : PySem.W.codeIn K cd8 "is_plain" = true)
    (k8 : PySem.W.keepIn K (.ref f8) = true)
    (a9 : PySem.W.nsIn K mainGlobals "is_statement" = some (some (.ref f9)))
    (l9 : K.lookup f9 = some ⟨oc9, od9, .func (PySem.W.fnOf "is_statement" "is_statement" (defArgs s_is_statement) (defBody s_is_statement) (defScope s_is_statement) .none kV9 dc9 pm9 an9 cd9 ct9), sl9⟩)
    (c9 : PySem.W.codeIn K cd9 "is_statement" = true)
    (k9 : PySem.W.keepIn K (.ref f9) = true)
    (a10 : PySem.W.nsIn K mainGlobals "blocks_of" = some (some (.ref f10)))
    (l10 : K.lookup f10 = some ⟨oc10, od10, .func (PySem.W.fnOf "blocks_of" "blocks_of" (defArgs s_blocks_of) (defBody s_blocks_of) (defScope s_blocks_of) .none kV10 dc10 pm10 an10 cd10 ct10), sl10⟩)
    (c10 : PySem.W.codeIn K cd10 "blocks_of" = true)
    (k10 : PySem.W.keepIn K (.ref f10) = true)
    (a11 : PySem.W.nsIn K mainGlobals "items_within" = some (some (.ref f11)))
    (l11 : K.lookup f11 = some ⟨oc11, od11, .func (PySem.W.fnOf "items_within" "items_within" (defArgs s_items_within) (defBody s_items_within) (defScope s_items_within) .none kV11 dc11 pm11 an11 cd11 ct11), sl11⟩)
    (c11 : PySem.W.codeIn K cd11 "items_within" = true)
    (k11 : PySem.W.keepIn K (.ref f11) = true)
    (a12 : PySem.W.nsIn K mainGlobals "rows_of" = some (some (.ref f12)))
    (l12 : K.lookup f12 = some ⟨oc12, od12, .func (PySem.W.fnOf "rows_of" "rows_of" (defArgs s_rows_of) (defBody s_rows_of) (defScope s_rows_of) .none kV12 dc12 pm12 an12 cd12 ct12), sl12⟩)
    (c12 : PySem.W.codeIn K cd12 "rows_of" = true)
    (k12 : PySem.W.keepIn K (.ref f12) = true)
    (a13 : PySem.W.nsIn K mainGlobals "order_error" = some (some (.ref f13)))
    (l13 : K.lookup f13 = some ⟨oc13, od13, .func (PySem.W.fnOf "order_error" "order_error" (defArgs s_order_error) (defBody s_order_error) (defScope s_order_error) .none kV13 dc13 pm13 an13 cd13 ct13), sl13⟩)
    (c13 : PySem.W.codeIn K cd13 "order_error" = true)
    (k13 : PySem.W.keepIn K (.ref f13) = true)
    (a14 : PySem.W.nsIn K mainGlobals "bare" = some (some (.ref f14)))
    (l14 : K.lookup f14 = some ⟨oc14, od14, .func (PySem.W.fnOf "bare" "bare" (defArgs s_bare) (defBody s_bare) (defScope s_bare) .none kV14 dc14 pm14 an14 cd14 ct14), sl14⟩)
    (c14 : PySem.W.codeIn K cd14 "bare" = true)
    (k14 : PySem.W.keepIn K (.ref f14) = true)
    (a15 : PySem.W.nsIn K mainGlobals "own_count" = some (some (.ref f15)))
    (l15 : K.lookup f15 = some ⟨oc15, od15, .func (PySem.W.fnOf "own_count" "own_count" (defArgs s_own_count) (defBody s_own_count) (defScope s_own_count) .none kV15 dc15 pm15 an15 cd15 ct15), sl15⟩)
    (c15 : PySem.W.codeIn K cd15 "own_count" = true)
    (k15 : PySem.W.keepIn K (.ref f15) = true)
    (a16 : PySem.W.nsIn K mainGlobals "counted" = some (some (.ref f16)))
    (l16 : K.lookup f16 = some ⟨oc16, od16, .func (PySem.W.fnOf "counted" "counted" (defArgs s_counted) (defBody s_counted) (defScope s_counted) .none kV16 dc16 pm16 an16 cd16 ct16), sl16⟩)
    (c16 : PySem.W.codeIn K cd16 "counted" = true)
    (k16 : PySem.W.keepIn K (.ref f16) = true)
    (a17 : PySem.W.nsIn K mainGlobals "weight" = some (some (.ref f17)))
    (l17 : K.lookup f17 = some ⟨oc17, od17, .func (PySem.W.fnOf "weight" "weight" (defArgs s_weight) (defBody s_weight) (defScope s_weight) .none kV17 dc17 pm17 an17 cd17 ct17), sl17⟩)
    (c17 : PySem.W.codeIn K cd17 "weight" = true)
    (k17 : PySem.W.keepIn K (.ref f17) = true)
    (a18 : PySem.W.nsIn K mainGlobals "program_error" = some (some (.ref f18)))
    (l18 : K.lookup f18 = some ⟨oc18, od18, .func (PySem.W.fnOf "program_error" "program_error" (defArgs s_program_error) (defBody s_program_error) (defScope s_program_error) .none kV18 dc18 pm18 an18 cd18 ct18), sl18⟩)
    (c18 : PySem.W.codeIn K cd18 "program_error" = true)
    (k18 : PySem.W.keepIn K (.ref f18) = true)
    (a19 : PySem.W.nsIn K mainGlobals "expression_text" = some (some (.ref f19)))
    (l19 : K.lookup f19 = some ⟨oc19, od19, .func (PySem.W.fnOf "expression_text" "expression_text" (defArgs s_expression_text) (defBody s_expression_text) (defScope s_expression_text) .none kV19 dc19 pm19 an19 cd19 ct19), sl19⟩)
    (c19 : PySem.W.codeIn K cd19 "expression_text" = true)
    (k19 : PySem.W.keepIn K (.ref f19) = true)
    (a20 : PySem.W.nsIn K mainGlobals "test_text" = some (some (.ref f20)))
    (l20 : K.lookup f20 = some ⟨oc20, od20, .func (PySem.W.fnOf "test_text" "test_text" (defArgs s_test_text) (defBody s_test_text) (defScope s_test_text) .none kV20 dc20 pm20 an20 cd20 ct20), sl20⟩)
    (c20 : PySem.W.codeIn K cd20 "test_text" = true)
    (k20 : PySem.W.keepIn K (.ref f20) = true)
    (a21 : PySem.W.nsIn K mainGlobals "line_text" = some (some (.ref f21)))
    (l21 : K.lookup f21 = some ⟨oc21, od21, .func (PySem.W.fnOf "line_text" "line_text" (defArgs s_line_text) (defBody s_line_text) (defScope s_line_text) .none kV21 dc21 pm21 an21 cd21 ct21), sl21⟩)
    (c21 : PySem.W.codeIn K cd21 "line_text" = true)
    (k21 : PySem.W.keepIn K (.ref f21) = true)
    (a22 : PySem.W.nsIn K mainGlobals "part_lines" = some (some (.ref f22)))
    (l22 : K.lookup f22 = some ⟨oc22, od22, .func (PySem.W.fnOf "part_lines" "part_lines" (defArgs s_part_lines) (defBody s_part_lines) (defScope s_part_lines) .none kV22 dc22 pm22 an22 cd22 ct22), sl22⟩)
    (c22 : PySem.W.codeIn K cd22 "part_lines" = true)
    (k22 : PySem.W.keepIn K (.ref f22) = true)
    (a23 : PySem.W.nsIn K mainGlobals "block_lines" = some (some (.ref f23)))
    (l23 : K.lookup f23 = some ⟨oc23, od23, .func (PySem.W.fnOf "block_lines" "block_lines" (defArgs s_block_lines) (defBody s_block_lines) (defScope s_block_lines) .none kV23 dc23 pm23 an23 cd23 ct23), sl23⟩)
    (c23 : PySem.W.codeIn K cd23 "block_lines" = true)
    (k23 : PySem.W.keepIn K (.ref f23) = true)
    (a24 : PySem.W.nsIn K mainGlobals "program_text" = some (some (.ref f24)))
    (l24 : K.lookup f24 = some ⟨oc24, od24, .func (PySem.W.fnOf "program_text" "program_text" (defArgs s_program_text) (defBody s_program_text) (defScope s_program_text) .none kV24 dc24 pm24 an24 cd24 ct24), sl24⟩)
    (c24 : PySem.W.codeIn K cd24 "program_text" = true)
    (k24 : PySem.W.keepIn K (.ref f24) = true)
    (a25 : PySem.W.nsIn K mainGlobals "is_word_texts" = some (some (.ref f25)))
    (l25 : K.lookup f25 = some ⟨oc25, od25, .func (PySem.W.fnOf "is_word" "is_word" (defArgs s_is_word_texts) (defBody s_is_word_texts) (defScope s_is_word_texts) .none kV25 dc25 pm25 an25 cd25 ct25), sl25⟩)
    (c25 : PySem.W.codeIn K cd25 "is_word" = true)
    (k25 : PySem.W.keepIn K (.ref f25) = true)
    (a26 : PySem.W.nsIn K mainGlobals "is_name_texts" = some (some (.ref f26)))
    (l26 : K.lookup f26 = some ⟨oc26, od26, .func (PySem.W.fnOf "is_name" "is_name" (defArgs s_is_name_texts) (defBody s_is_name_texts) (defScope s_is_name_texts) .none kV26 dc26 pm26 an26 cd26 ct26), sl26⟩)
    (c26 : PySem.W.codeIn K cd26 "is_name" = true)
    (k26 : PySem.W.keepIn K (.ref f26) = true)
    (a27 : PySem.W.nsIn K mainGlobals "integer_of" = some (some (.ref f27)))
    (l27 : K.lookup f27 = some ⟨oc27, od27, .func (PySem.W.fnOf "integer_of" "integer_of" (defArgs s_integer_of) (defBody s_integer_of) (defScope s_integer_of) .none kV27 dc27 pm27 an27 cd27 ct27), sl27⟩)
    (c27 : PySem.W.codeIn K cd27 "integer_of" = true)
    (k27 : PySem.W.keepIn K (.ref f27) = true)
    (a28 : PySem.W.nsIn K mainGlobals "sum_at" = some (some (.ref f28)))
    (l28 : K.lookup f28 = some ⟨oc28, od28, .func (PySem.W.fnOf "sum_at" "sum_at" (defArgs s_sum_at) (defBody s_sum_at) (defScope s_sum_at) .none kV28 dc28 pm28 an28 cd28 ct28), sl28⟩)
    (c28 : PySem.W.codeIn K cd28 "sum_at" = true)
    (k28 : PySem.W.keepIn K (.ref f28) = true)
    (a29 : PySem.W.nsIn K mainGlobals "expression_at" = some (some (.ref f29)))
    (l29 : K.lookup f29 = some ⟨oc29, od29, .func (PySem.W.fnOf "expression_at" "expression_at" (defArgs s_expression_at) (defBody s_expression_at) (defScope s_expression_at) .none kV29 dc29 pm29 an29 cd29 ct29), sl29⟩)
    (c29 : PySem.W.codeIn K cd29 "expression_at" = true)
    (k29 : PySem.W.keepIn K (.ref f29) = true)
    (a30 : PySem.W.nsIn K mainGlobals "expression_of" = some (some (.ref f30)))
    (l30 : K.lookup f30 = some ⟨oc30, od30, .func (PySem.W.fnOf "expression_of" "expression_of" (defArgs s_expression_of) (defBody s_expression_of) (defScope s_expression_of) .none kV30 dc30 pm30 an30 cd30 ct30), sl30⟩)
    (c30 : PySem.W.codeIn K cd30 "expression_of" = true)
    (k30 : PySem.W.keepIn K (.ref f30) = true)
    (a31 : PySem.W.nsIn K mainGlobals "plain_test_of" = some (some (.ref f31)))
    (l31 : K.lookup f31 = some ⟨oc31, od31, .func (PySem.W.fnOf "plain_test_of" "plain_test_of" (defArgs s_plain_test_of) (defBody s_plain_test_of) (defScope s_plain_test_of) .none kV31 dc31 pm31 an31 cd31 ct31), sl31⟩)
    (c31 : PySem.W.codeIn K cd31 "plain_test_of" = true)
    (k31 : PySem.W.keepIn K (.ref f31) = true)
    (a32 : PySem.W.nsIn K mainGlobals "test_of" = some (some (.ref f32)))
    (l32 : K.lookup f32 = some ⟨oc32, od32, .func (PySem.W.fnOf "test_of" "test_of" (defArgs s_test_of) (defBody s_test_of) (defScope s_test_of) .none kV32 dc32 pm32 an32 cd32 ct32), sl32⟩)
    (c32 : PySem.W.codeIn K cd32 "test_of" = true)
    (k32 : PySem.W.keepIn K (.ref f32) = true)
    (a33 : PySem.W.nsIn K mainGlobals "setting_of" = some (some (.ref f33)))
    (l33 : K.lookup f33 = some ⟨oc33, od33, .func (PySem.W.fnOf "setting_of" "setting_of" (defArgs s_setting_of) (defBody s_setting_of) (defScope s_setting_of) .none kV33 dc33 pm33 an33 cd33 ct33), sl33⟩)
    (c33 : PySem.W.codeIn K cd33 "setting_of" = true)
    (k33 : PySem.W.keepIn K (.ref f33) = true)
    (a34 : PySem.W.nsIn K mainGlobals "statement_of" = some (some (.ref f34)))
    (l34 : K.lookup f34 = some ⟨oc34, od34, .func (PySem.W.fnOf "statement_of" "statement_of" (defArgs s_statement_of) (defBody s_statement_of) (defScope s_statement_of) .none kV34 dc34 pm34 an34 cd34 ct34), sl34⟩)
    (c34 : PySem.W.codeIn K cd34 "statement_of" = true)
    (k34 : PySem.W.keepIn K (.ref f34) = true)
    (a35 : PySem.W.findIn K (.ref C_Part) "__init__" = some (some (.ref f35)))
    (i35 : PySem.W.isFn K (.ref f35) = true)
    (l35 : K.lookup f35 = some ⟨oc35, od35, .func (PySem.W.fnOf "__init__" "Part.__init__" (defArgs s_Part_init) (defBody s_Part_init) (defScope s_Part_init) .none kV35 dc35 pm35 an35 cd35 ct35), sl35⟩)
    (c35 : PySem.W.codeIn K cd35 "Part.__init__" = true)
    (k35 : PySem.W.keepIn K (.ref f35) = true)
    (a36 : PySem.W.findIn K (.ref C_Part) "lacks_line" = some (some (.ref f36)))
    (i36 : PySem.W.isFn K (.ref f36) = true)
    (l36 : K.lookup f36 = some ⟨oc36, od36, .func (PySem.W.fnOf "lacks_line" "Part.lacks_line" (defArgs s_Part_lacks_line) (defBody s_Part_lacks_line) (defScope s_Part_lacks_line) .none kV36 dc36 pm36 an36 cd36 ct36), sl36⟩)
    (c36 : PySem.W.codeIn K cd36 "Part.lacks_line" = true)
    (k36 : PySem.W.keepIn K (.ref f36) = true)
    (a37 : PySem.W.findIn K (.ref C_ProgramReader) "__init__" = some (some (.ref f37)))
    (i37 : PySem.W.isFn K (.ref f37) = true)
    (l37 : K.lookup f37 = some ⟨oc37, od37, .func (PySem.W.fnOf "__init__" "ProgramReader.__init__" (defArgs s_ProgramReader_init) (defBody s_ProgramReader_init) (defScope s_ProgramReader_init) .none kV37 dc37 pm37 an37 cd37 ct37), sl37⟩)
    (c37 : PySem.W.codeIn K cd37 "ProgramReader.__init__" = true)
    (k37 : PySem.W.keepIn K (.ref f37) = true)
    (a38 : PySem.W.findIn K (.ref C_ProgramReader) "close" = some (some (.ref f38)))
    (i38 : PySem.W.isFn K (.ref f38) = true)
    (l38 : K.lookup f38 = some ⟨oc38, od38, .func (PySem.W.fnOf "close" "ProgramReader.close" (defArgs s_ProgramReader_close) (defBody s_ProgramReader_close) (defScope s_ProgramReader_close) .none kV38 dc38 pm38 an38 cd38 ct38), sl38⟩)
    (c38 : PySem.W.codeIn K cd38 "ProgramReader.close" = true)
    (k38 : PySem.W.keepIn K (.ref f38) = true)
    (a39 : PySem.W.findIn K (.ref C_ProgramReader) "come_to" = some (some (.ref f39)))
    (i39 : PySem.W.isFn K (.ref f39) = true)
    (l39 : K.lookup f39 = some ⟨oc39, od39, .func (PySem.W.fnOf "come_to" "ProgramReader.come_to" (defArgs s_ProgramReader_come_to) (defBody s_ProgramReader_come_to) (defScope s_ProgramReader_come_to) .none kV39 dc39 pm39 an39 cd39 ct39), sl39⟩)
    (c39 : PySem.W.codeIn K cd39 "ProgramReader.come_to" = true)
    (k39 : PySem.W.keepIn K (.ref f39) = true)
    (a40 : PySem.W.findIn K (.ref C_ProgramReader) "read" = some (some (.ref f40)))
    (i40 : PySem.W.isFn K (.ref f40) = true)
    (l40 : K.lookup f40 = some ⟨oc40, od40, .func (PySem.W.fnOf "read" "ProgramReader.read" (defArgs s_ProgramReader_read) (defBody s_ProgramReader_read) (defScope s_ProgramReader_read) .none kV40 dc40 pm40 an40 cd40 ct40), sl40⟩)
    (c40 : PySem.W.codeIn K cd40 "ProgramReader.read" = true)
    (k40 : PySem.W.keepIn K (.ref f40) = true)
    (a41 : PySem.W.findIn K (.ref C_ProgramReader) "put" = some (some (.ref f41)))
    (i41 : PySem.W.isFn K (.ref f41) = true)
    (l41 : K.lookup f41 = some ⟨oc41, od41, .func (PySem.W.fnOf "put" "ProgramReader.put" (defArgs s_ProgramReader_put) (defBody s_ProgramReader_put) (defScope s_ProgramReader_put) .none kV41 dc41 pm41 an41 cd41 ct41), sl41⟩)
    (c41 : PySem.W.codeIn K cd41 "ProgramReader.put" = true)
    (k41 : PySem.W.keepIn K (.ref f41) = true)
    (a42 : PySem.W.nsIn K mainGlobals "parse_program" = some (some (.ref f42)))
    (l42 : K.lookup f42 = some ⟨oc42, od42, .func (PySem.W.fnOf "parse_program" "parse_program" (defArgs s_parse_program) (defBody s_parse_program) (defScope s_parse_program) .none kV42 dc42 pm42 an42 cd42 ct42), sl42⟩)
    (c42 : PySem.W.codeIn K cd42 "parse_program" = true)
    (k42 : PySem.W.keepIn K (.ref f42) = true)
    (a43 : PySem.W.nsIn K mainGlobals "_law_deck" = some (some (.ref f43)))
    (l43 : K.lookup f43 = some ⟨oc43, od43, .func (PySem.W.fnOf "_law_deck" "_law_deck" (defArgs s_l_deck) (defBody s_l_deck) (defScope s_l_deck) .none kV43 dc43 pm43 an43 cd43 ct43), sl43⟩)
    (c43 : PySem.W.codeIn K cd43 "_law_deck" = true)
    (k43 : PySem.W.keepIn K (.ref f43) = true)
    (a44 : PySem.W.nsIn K mainGlobals "_law_draw" = some (some (.ref f44)))
    (l44 : K.lookup f44 = some ⟨oc44, od44, .func (PySem.W.fnOf "_law_draw" "_law_draw" (defArgs s_l_draw) (defBody s_l_draw) (defScope s_l_draw) .none kV44 dc44 pm44 an44 cd44 ct44), sl44⟩)
    (c44 : PySem.W.codeIn K cd44 "_law_draw" = true)
    (k44 : PySem.W.keepIn K (.ref f44) = true)
    (a45 : PySem.W.nsIn K mainGlobals "_law_one" = some (some (.ref f45)))
    (l45 : K.lookup f45 = some ⟨oc45, od45, .func (PySem.W.fnOf "_law_one" "_law_one" (defArgs s_l_one) (defBody s_l_one) (defScope s_l_one) .none kV45 dc45 pm45 an45 cd45 ct45), sl45⟩)
    (c45 : PySem.W.codeIn K cd45 "_law_one" = true)
    (k45 : PySem.W.keepIn K (.ref f45) = true)
    (a46 : PySem.W.nsIn K mainGlobals "_law_expr" = some (some (.ref f46)))
    (l46 : K.lookup f46 = some ⟨oc46, od46, .func (PySem.W.fnOf "_law_expr" "_law_expr" (defArgs s_l_expr) (defBody s_l_expr) (defScope s_l_expr) .none kV46 dc46 pm46 an46 cd46 ct46), sl46⟩)
    (c46 : PySem.W.codeIn K cd46 "_law_expr" = true)
    (k46 : PySem.W.keepIn K (.ref f46) = true)
    (a47 : PySem.W.nsIn K mainGlobals "_law_test" = some (some (.ref f47)))
    (l47 : K.lookup f47 = some ⟨oc47, od47, .func (PySem.W.fnOf "_law_test" "_law_test" (defArgs s_l_test) (defBody s_l_test) (defScope s_l_test) .none kV47 dc47 pm47 an47 cd47 ct47), sl47⟩)
    (c47 : PySem.W.codeIn K cd47 "_law_test" = true)
    (k47 : PySem.W.keepIn K (.ref f47) = true)
    (a48 : PySem.W.nsIn K mainGlobals "_law_block" = some (some (.ref f48)))
    (l48 : K.lookup f48 = some ⟨oc48, od48, .func (PySem.W.fnOf "_law_block" "_law_block" (defArgs s_l_block) (defBody s_l_block) (defScope s_l_block) .none kV48 dc48 pm48 an48 cd48 ct48), sl48⟩)
    (c48 : PySem.W.codeIn K cd48 "_law_block" = true)
    (k48 : PySem.W.keepIn K (.ref f48) = true)
    (a49 : PySem.W.nsIn K mainGlobals "_law_if" = some (some (.ref f49)))
    (l49 : K.lookup f49 = some ⟨oc49, od49, .func (PySem.W.fnOf "_law_if" "_law_if" (defArgs s_l_if) (defBody s_l_if) (defScope s_l_if) .none kV49 dc49 pm49 an49 cd49 ct49), sl49⟩)
    (c49 : PySem.W.codeIn K cd49 "_law_if" = true)
    (k49 : PySem.W.keepIn K (.ref f49) = true)
    (a50 : PySem.W.nsIn K mainGlobals "_law_statement" = some (some (.ref f50)))
    (l50 : K.lookup f50 = some ⟨oc50, od50, .func (PySem.W.fnOf "_law_statement" "_law_statement" (defArgs s_l_statement) (defBody s_l_statement) (defScope s_l_statement) .none kV50 dc50 pm50 an50 cd50 ct50), sl50⟩)
    (c50 : PySem.W.codeIn K cd50 "_law_statement" = true)
    (k50 : PySem.W.keepIn K (.ref f50) = true)
    (a51 : PySem.W.nsIn K mainGlobals "_law_program" = some (some (.ref f51)))
    (l51 : K.lookup f51 = some ⟨oc51, od51, .func (PySem.W.fnOf "_law_program" "_law_program" (defArgs s_l_program) (defBody s_l_program) (defScope s_l_program) .none kV51 dc51 pm51 an51 cd51 ct51), sl51⟩)
    (c51 : PySem.W.codeIn K cd51 "_law_program" = true)
    (k51 : PySem.W.keepIn K (.ref f51) = true)
    (a52 : PySem.W.nsIn K mainGlobals "_law_names" = some (some (.ref f52)))
    (l52 : K.lookup f52 = some ⟨oc52, od52, .func (PySem.W.fnOf "_law_names" "_law_names" (defArgs s_l_names) (defBody s_l_names) (defScope s_l_names) .none kV52 dc52 pm52 an52 cd52 ct52), sl52⟩)
    (c52 : PySem.W.codeIn K cd52 "_law_names" = true)
    (k52 : PySem.W.keepIn K (.ref f52) = true)
    (a53 : PySem.W.nsIn K mainGlobals "_law_parsed" = some (some (.ref f53)))
    (l53 : K.lookup f53 = some ⟨oc53, od53, .func (PySem.W.fnOf "_law_parsed" "_law_parsed" (defArgs s_l_parsed) (defBody s_l_parsed) (defScope s_l_parsed) .none kV53 dc53 pm53 an53 cd53 ct53), sl53⟩)
    (c53 : PySem.W.codeIn K cd53 "_law_parsed" = true)
    (k53 : PySem.W.keepIn K (.ref f53) = true)
    (a54 : PySem.W.nsIn K mainGlobals "law" = some (some (.ref f54)))
    (l54 : K.lookup f54 = some ⟨oc54, od54, .func (PySem.W.fnOf "law" "law" (defArgs s_law) (defBody s_law) (defScope s_law) .none kV54 dc54 pm54 an54 cd54 ct54), sl54⟩)
    (c54 : PySem.W.codeIn K cd54 "law" = true)
    (k54 : PySem.W.keepIn K (.ref f54) = true)
    (n_Part_kind : PySem.W.findIn K (.ref C_Part) "kind" = some none)
    (n_Part_head : PySem.W.findIn K (.ref C_Part) "head" = some none)
    (n_Part_rows : PySem.W.findIn K (.ref C_Part) "rows" = some none)
    (n_Part_is_over : PySem.W.findIn K (.ref C_Part) "is_over" = some none)
    (n_ProgramReader_blocks_open : PySem.W.findIn K (.ref C_ProgramReader) "blocks_open" = some none)
    (g_MAX_NAME : PySem.W.nsIn K mainGlobals "MAX_NAME" = some (some (.int 8 t_MAX_NAME)))
    (g_MAX_WORD : PySem.W.nsIn K mainGlobals "MAX_WORD" = some (some (.int 8 t_MAX_WORD)))
    (g_MAX_TIMES : PySem.W.nsIn K mainGlobals "MAX_TIMES" = some (some (.int 8 t_MAX_TIMES)))
    (g_MAX_DEEP : PySem.W.nsIn K mainGlobals "MAX_DEEP" = some (some (.int 3 t_MAX_DEEP)))
    (g_MAX_NOTS : PySem.W.nsIn K mainGlobals "MAX_NOTS" = some (some (.int 2 t_MAX_NOTS)))
    (g_MAX_PLACES : PySem.W.nsIn K mainGlobals "MAX_PLACES" = some (some (.int 24 t_MAX_PLACES)))
    (g_MAX_WEIGHT : PySem.W.nsIn K mainGlobals "MAX_WEIGHT" = some (some (.int 60 t_MAX_WEIGHT)))
    (g_MAX_HALVINGS : PySem.W.nsIn K mainGlobals "MAX_HALVINGS" = some (some (.int 4 t_MAX_HALVINGS)))
    (g_MAX_COMPARINGS : PySem.W.nsIn K mainGlobals "MAX_COMPARINGS" = some (some (.int 3 t_MAX_COMPARINGS)))
    (g_MAX_NEST : PySem.W.nsIn K mainGlobals "MAX_NEST" = some (some (.int 3 t_MAX_NEST)))
    (g_LETTERS_programs : PySem.W.nsIn K mainGlobals "LETTERS_programs" = some (some (.str "abcdefghijklmnopqrstuvwxyz" t_LETTERS_programs)))
    (g_SIGNS_programs : PySem.W.nsIn K mainGlobals "SIGNS_programs" = some (some (.str "abcdefghijklmnopqrstuvwxyz0123456789" t_SIGNS_programs)))
    (g_MOST_NUMBER : PySem.W.nsIn K mainGlobals "MOST_NUMBER" = some (some (.int 99 t_MOST_NUMBER)))
    (g_MOST_FACTOR : PySem.W.nsIn K mainGlobals "MOST_FACTOR" = some (some (.int 9 t_MOST_FACTOR)))
    (g_LETTERS_texts : PySem.W.nsIn K mainGlobals "LETTERS_texts" = some (some (.str "abcdefghijklmnopqrstuvwxyz" t_LETTERS_texts)))
    (g_FIGURES : PySem.W.nsIn K mainGlobals "FIGURES" = some (some (.str "0123456789" t_FIGURES)))
    (g_HEAD : PySem.W.nsIn K mainGlobals "HEAD" = some (some (.str "program" t_HEAD)))
    (g_STEP : PySem.W.nsIn K mainGlobals "STEP" = some (some (.str "  " t_STEP)))
    (g_MOST_FIGURES : PySem.W.nsIn K mainGlobals "MOST_FIGURES" = some (some (.int 20 t_MOST_FIGURES)))
    (g_MOST_DEEP : PySem.W.nsIn K mainGlobals "MOST_DEEP" = some (some (.int 20 t_MOST_DEEP)))
    (g_MOST_NOTS : PySem.W.nsIn K mainGlobals "MOST_NOTS" = some (some (.int 20 t_MOST_NOTS)))
    (g_KEPT : PySem.W.nsIn K mainGlobals "KEPT" = some (some (.ref a_KEPT)))
    (lk_KEPT : K.lookup a_KEPT = some ⟨.type "tuple", ob_KEPT, .seq #[.str "half" u_KEPT_0, .str "tell" u_KEPT_1, .str "say" u_KEPT_2, .str "stop" u_KEPT_3, .str "if" u_KEPT_4, .str "else" u_KEPT_5, .str "repeat" u_KEPT_6, .str "pass" u_KEPT_7, .str "odd" u_KEPT_8, .str "not" u_KEPT_9, .str "program" u_KEPT_10] ns_KEPT, ss_KEPT⟩)
    (g_KEPT_WORDS : PySem.W.nsIn K mainGlobals "KEPT_WORDS" = some (some (.ref a_KEPT_WORDS)))
    (lk_KEPT_WORDS : K.lookup a_KEPT_WORDS = some ⟨.type "tuple", ob_KEPT_WORDS, .seq #[.str "half" u_KEPT_WORDS_0, .str "tell" u_KEPT_WORDS_1, .str "say" u_KEPT_WORDS_2, .str "stop" u_KEPT_WORDS_3, .str "if" u_KEPT_WORDS_4, .str "else" u_KEPT_WORDS_5, .str "repeat" u_KEPT_WORDS_6, .str "pass" u_KEPT_WORDS_7, .str "odd" u_KEPT_WORDS_8, .str "not" u_KEPT_WORDS_9, .str "program" u_KEPT_WORDS_10] ns_KEPT_WORDS, ss_KEPT_WORDS⟩)
    (g_SIGNS_texts : PySem.W.nsIn K mainGlobals "SIGNS_texts" = some (some (.ref a_SIGNS_texts)))
    (lk_SIGNS_texts : K.lookup a_SIGNS_texts = some ⟨.type "dict", none, .dict es_SIGNS_texts en_SIGNS_texts, #[]⟩)
    (kl_SIGNS_texts : PySem.W.KeysLit w.params es_SIGNS_texts.toList)
    (n_SIGNS_texts_0 : PySem.W.nsIn K a_SIGNS_texts "plus" = some (some (.str " + " tk_SIGNS_texts_0)))
    (n_SIGNS_texts_1 : PySem.W.nsIn K a_SIGNS_texts "minus" = some (some (.str " - " tk_SIGNS_texts_1)))
    (n_SIGNS_texts_2 : PySem.W.nsIn K a_SIGNS_texts "times" = some (some (.str " * " tk_SIGNS_texts_2)))
    (g_WORDS : PySem.W.nsIn K mainGlobals "WORDS" = some (some (.ref a_WORDS)))
    (lk_WORDS : K.lookup a_WORDS = some ⟨.type "dict", none, .dict es_WORDS en_WORDS, #[]⟩)
    (kl_WORDS : PySem.W.KeysLit w.params es_WORDS.toList)
    (n_WORDS_0 : PySem.W.nsIn K a_WORDS " + " = some (some (.str "plus" tk_WORDS_0)))
    (n_WORDS_1 : PySem.W.nsIn K a_WORDS " - " = some (some (.str "minus" tk_WORDS_1)))
    (n_WORDS_2 : PySem.W.nsIn K a_WORDS " * " = some (some (.str "times" tk_WORDS_2)))
    (ks_WORDS : es_WORDS.toList.map (fun e => EH.kst e.key) = EH.WKEYS.map some)
    (sm_WORDS : (a_WORDS == sysModules) = false)
    (z_abs : PySem.W.nsIn K mainGlobals "abs" = some none)
    (z_bool : PySem.W.nsIn K mainGlobals "bool" = some none)
    (z_divmod : PySem.W.nsIn K mainGlobals "divmod" = some none)
    (z_enumerate : PySem.W.nsIn K mainGlobals "enumerate" = some none)
    (z_int : PySem.W.nsIn K mainGlobals "int" = some none)
    (z_isinstance : PySem.W.nsIn K mainGlobals "isinstance" = some none)
    (z_len : PySem.W.nsIn K mainGlobals "len" = some none)
    (z_range : PySem.W.nsIn K mainGlobals "range" = some none)
    (z_repr : PySem.W.nsIn K mainGlobals "repr" = some none)
    (z_str : PySem.W.nsIn K mainGlobals "str" = some none)
    (z_sum : PySem.W.nsIn K mainGlobals "sum" = some none)
    (z_tuple : PySem.W.nsIn K mainGlobals "tuple" = some none) :
    ∃ fd : FuncData, (∀ (s : Shared) (v : Value), BindsTo s fd ⟨[v], []⟩ [("_law_script", v)]) ∧ ∀ base : Heap, K.In base → base.Ns mainGlobals mg → FnG P w K mg base CX0 54 fa fd ["_law_script"] (spLaw K) := by
  have e := hfa.symm.trans (PySem.W.mg_of X G a54)
  cases e
  have F1 := fun_mk (st := s_BadText_init) l1 c1 k1
  have b1 := F1.binds (ps := ["self", "line"]) fun _ _ _ _ _ _ us hl => match us, hl with | [_, _], _ => rfl
  have F2 := fun_mk (st := s_BadProgram_init) l2 c2 k2
  have b2 := F2.binds (ps := ["self", "error"]) fun _ _ _ _ _ _ us hl => match us, hl with | [_, _], _ => rfl
  have F3 := fun_mk (st := s_is_whole) l3 c3 k3
  have b3 := F3.binds (ps := ["value", "least", "most"]) fun _ _ _ _ _ _ us hl => match us, hl with | [_, _, _], _ => rfl
  have F4 := fun_mk (st := s_is_word_programs) l4 c4 k4
  have b4 := F4.binds (ps := ["value"]) fun _ _ _ _ _ _ us hl => match us, hl with | [_], _ => rfl
  have F5 := fun_mk (st := s_is_name_programs) l5 c5 k5
  have b5 := F5.binds (ps := ["value"]) fun _ _ _ _ _ _ us hl => match us, hl with | [_], _ => rfl
  have F6 := fun_mk (st := s_is_expression) l6 c6 k6
  have b6 := F6.binds (ps := ["value", "left"]) fun _ _ _ _ _ _ us hl => match us, hl with | [_, _], _ => rfl
  have F7 := fun_mk (st := s_is_test) l7 c7 k7
  have b7 := F7.binds (ps := ["value", "nots"]) fun _ _ _ _ _ _ us hl => match us, hl with | [_, _], _ => rfl
  have F8 := fun_mk (st := s_is_plain) l8 c8 k8
  have b8 := F8.binds (ps := ["value"]) fun _ _ _ _ _ _ us hl => match us, hl with | [_], _ => rfl
  have F9 := fun_mk (st := s_is_statement) l9 c9 k9
  have b9 := F9.binds (ps := ["value"]) fun _ _ _ _ _ _ us hl => match us, hl with | [_], _ => rfl
  have F10 := fun_mk (st := s_blocks_of) l10 c10 k10
  have b10 := F10.binds (ps := ["statement"]) fun _ _ _ _ _ _ us hl => match us, hl with | [_], _ => rfl
  have F11 := fun_mk (st := s_items_within) l11 c11 k11
  have b11 := F11.binds (ps := ["statement", "depth"]) fun _ _ _ _ _ _ us hl => match us, hl with | [_, _], _ => rfl
  have F12 := fun_mk (st := s_rows_of) l12 c12 k12
  have b12 := F12.binds (ps := ["program"]) fun _ _ _ _ _ _ us hl => match us, hl with | [_], _ => rfl
  have F13 := fun_mk (st := s_order_error) l13 c13 k13
  have b13 := F13.binds (ps := ["value"]) fun _ _ _ _ _ _ us hl => match us, hl with | [_], _ => rfl
  have F14 := fun_mk (st := s_bare) l14 c14 k14
  have b14 := F14.binds (ps := ["test"]) fun _ _ _ _ _ _ us hl => match us, hl with | [_], _ => rfl
  have F15 := fun_mk (st := s_own_count) l15 c15 k15
  have b15 := F15.binds (ps := ["statement", "sort"]) fun _ _ _ _ _ _ us hl => match us, hl with | [_, _], _ => rfl
  have F16 := fun_mk (st := s_counted) l16 c16 k16
  have b16 := F16.binds (ps := ["block", "sort"]) fun _ _ _ _ _ _ us hl => match us, hl with | [_, _], _ => rfl
  have F17 := fun_mk (st := s_weight) l17 c17 k17
  have b17 := F17.binds (ps := ["program"]) fun _ _ _ _ _ _ us hl => match us, hl with | [_], _ => rfl
  have F18 := fun_mk (st := s_program_error) l18 c18 k18
  have b18 := F18.binds (ps := ["value"]) fun _ _ _ _ _ _ us hl => match us, hl with | [_], _ => rfl
  have F19 := fun_mk (st := s_expression_text) l19 c19 k19
  have b19 := F19.binds (ps := ["expression"]) fun _ _ _ _ _ _ us hl => match us, hl with | [_], _ => rfl
  have F20 := fun_mk (st := s_test_text) l20 c20 k20
  have b20 := F20.binds (ps := ["test"]) fun _ _ _ _ _ _ us hl => match us, hl with | [_], _ => rfl
  have F21 := fun_mk (st := s_line_text) l21 c21 k21
  have b21 := F21.binds (ps := ["statement"]) fun _ _ _ _ _ _ us hl => match us, hl with | [_], _ => rfl
  have F22 := fun_mk (st := s_part_lines) l22 c22 k22
  have b22 := F22.binds (ps := ["block", "ahead"]) fun _ _ _ _ _ _ us hl => match us, hl with | [_, _], _ => rfl
  have F23 := fun_mk (st := s_block_lines) l23 c23 k23
  have b23 := F23.binds (ps := ["block", "ahead"]) fun _ _ _ _ _ _ us hl => match us, hl with | [_, _], _ => rfl
  have F24 := fun_mk (st := s_program_text) l24 c24 k24
  have b24 := F24.binds (ps := ["program"]) fun _ _ _ _ _ _ us hl => match us, hl with | [_], _ => rfl
  have F25 := fun_mk (st := s_is_word_texts) l25 c25 k25
  have b25 := F25.binds (ps := ["text", "most"]) fun _ _ _ _ _ _ us hl => match us, hl with | [_, _], _ => rfl
  have F26 := fun_mk (st := s_is_name_texts) l26 c26 k26
  have b26 := F26.binds (ps := ["text"]) fun _ _ _ _ _ _ us hl => match us, hl with | [_], _ => rfl
  have F27 := fun_mk (st := s_integer_of) l27 c27 k27
  have b27 := F27.binds (ps := ["text", "most"]) fun _ _ _ _ _ _ us hl => match us, hl with | [_, _], _ => rfl
  have F28 := fun_mk (st := s_sum_at) l28 c28 k28
  have b28 := F28.binds (ps := ["text", "at", "deep"]) fun _ _ _ _ _ _ us hl => match us, hl with | [_, _, _], _ => rfl
  have F29 := fun_mk (st := s_expression_at) l29 c29 k29
  have b29 := F29.binds (ps := ["text", "at", "deep"]) fun _ _ _ _ _ _ us hl => match us, hl with | [_, _, _], _ => rfl
  have F30 := fun_mk (st := s_expression_of) l30 c30 k30
  have b30 := F30.binds (ps := ["text"]) fun _ _ _ _ _ _ us hl => match us, hl with | [_], _ => rfl
  have F31 := fun_mk (st := s_plain_test_of) l31 c31 k31
  have b31 := F31.binds (ps := ["text"]) fun _ _ _ _ _ _ us hl => match us, hl with | [_], _ => rfl
  have F32 := fun_mk (st := s_test_of) l32 c32 k32
  have b32 := F32.binds (ps := ["text"]) fun _ _ _ _ _ _ us hl => match us, hl with | [_], _ => rfl
  have F33 := fun_mk (st := s_setting_of) l33 c33 k33
  have b33 := F33.binds (ps := ["name", "text"]) fun _ _ _ _ _ _ us hl => match us, hl with | [_, _], _ => rfl
  have F34 := fun_mk (st := s_statement_of) l34 c34 k34
  have b34 := F34.binds (ps := ["line"]) fun _ _ _ _ _ _ us hl => match us, hl with | [_], _ => rfl
  have F35 := fun_mk (st := s_Part_init) l35 c35 k35
  have b35 := F35.binds (ps := ["self", "kind", "head"]) fun _ _ _ _ _ _ us hl => match us, hl with | [_, _, _], _ => rfl
  have F36 := fun_mk (st := s_Part_lacks_line) l36 c36 k36
  have b36 := F36.binds (ps := ["self"]) fun _ _ _ _ _ _ us hl => match us, hl with | [_], _ => rfl
  have F37 := fun_mk (st := s_ProgramReader_init) l37 c37 k37
  have b37 := F37.binds (ps := ["self"]) fun _ _ _ _ _ _ us hl => match us, hl with | [_], _ => rfl
  have F38 := fun_mk (st := s_ProgramReader_close) l38 c38 k38
  have b38 := F38.binds (ps := ["self"]) fun _ _ _ _ _ _ us hl => match us, hl with | [_], _ => rfl
  have F39 := fun_mk (st := s_ProgramReader_come_to) l39 c39 k39
  have b39 := F39.binds (ps := ["self", "depth"]) fun _ _ _ _ _ _ us hl => match us, hl with | [_, _], _ => rfl
  have F40 := fun_mk (st := s_ProgramReader_read) l40 c40 k40
  have b40 := F40.binds (ps := ["self", "line"]) fun _ _ _ _ _ _ us hl => match us, hl with | [_, _], _ => rfl
  have F41 := fun_mk (st := s_ProgramReader_put) l41 c41 k41
  have b41 := F41.binds (ps := ["self", "statement"]) fun _ _ _ _ _ _ us hl => match us, hl with | [_, _], _ => rfl
  have F42 := fun_mk (st := s_parse_program) l42 c42 k42
  have b42 := F42.binds (ps := ["value"]) fun _ _ _ _ _ _ us hl => match us, hl with | [_], _ => rfl
  have F43 := fun_mk (st := s_l_deck) l43 c43 k43
  have b43 := F43.binds (ps := ["_law_script"]) fun _ _ _ _ _ _ us hl => match us, hl with | [_], _ => rfl
  have F44 := fun_mk (st := s_l_draw) l44 c44 k44
  have b44 := F44.binds (ps := ["_law_deck_here", "_law_many"]) fun _ _ _ _ _ _ us hl => match us, hl with | [_, _], _ => rfl
  have F45 := fun_mk (st := s_l_one) l45 c45 k45
  have b45 := F45.binds (ps := ["_law_deck_here", "_law_items"]) fun _ _ _ _ _ _ us hl => match us, hl with | [_, _], _ => rfl
  have F46 := fun_mk (st := s_l_expr) l46 c46 k46
  have b46 := F46.binds (ps := ["_law_deck_here", "_law_names_here", "_law_deep"]) fun _ _ _ _ _ _ us hl => match us, hl with | [_, _, _], _ => rfl
  have F47 := fun_mk (st := s_l_test) l47 c47 k47
  have b47 := F47.binds (ps := ["_law_deck_here", "_law_names_here", "_law_is_odd"]) fun _ _ _ _ _ _ us hl => match us, hl with | [_, _, _], _ => rfl
  have F48 := fun_mk (st := s_l_block) l48 c48 k48
  have b48 := F48.binds (ps := ["_law_deck_here", "_law_names_here", "_law_depth", "_law_times", "_law_left"]) fun _ _ _ _ _ _ us hl => match us, hl with | [_, _, _, _, _], _ => rfl
  have F49 := fun_mk (st := s_l_if) l49 c49 k49
  have b49 := F49.binds (ps := ["_law_deck_here", "_law_names_here", "_law_depth", "_law_times", "_law_left", "_law_at"]) fun _ _ _ _ _ _ us hl => match us, hl with | [_, _, _, _, _, _], _ => rfl
  have F50 := fun_mk (st := s_l_statement) l50 c50 k50
  have b50 := F50.binds (ps := ["_law_deck_here", "_law_names_here", "_law_depth", "_law_times", "_law_left"]) fun _ _ _ _ _ _ us hl => match us, hl with | [_, _, _, _, _], _ => rfl
  have F51 := fun_mk (st := s_l_program) l51 c51 k51
  have b51 := F51.binds (ps := ["_law_deck_here", "_law_names_here", "_law_most"]) fun _ _ _ _ _ _ us hl => match us, hl with | [_, _, _], _ => rfl
  have F52 := fun_mk (st := s_l_names) l52 c52 k52
  have b52 := F52.binds (ps := ["_law_deck_here", "_law_many"]) fun _ _ _ _ _ _ us hl => match us, hl with | [_, _], _ => rfl
  have F53 := fun_mk (st := s_l_parsed) l53 c53 k53
  have b53 := F53.binds (ps := ["_law_text"]) fun _ _ _ _ _ _ us hl => match us, hl with | [_], _ => rfl
  have F54 := fun_mk (st := s_law) l54 c54 k54
  have b54 := F54.binds (ps := ["_law_script"]) fun _ _ _ _ _ _ us hl => match us, hl with | [_], _ => rfl
  refine ⟨PySem.W.fnOf "law" "law" (defArgs s_law) (defBody s_law) (defScope s_law) .none kV54 dc54 pm54 an54 cd54 ct54, fun s v => .of_eq rfl, fun base _ _ => ok_law (P := P) (w := w) (base := base) (T := { HalfError := ⟨C_HalfError, PySem.W.mg_of X G aC_HalfError, ⟨ga_HalfError, rd_HalfError, ini_HalfError⟩⟩, BadText := ⟨C_BadText, PySem.W.mg_of X G aC_BadText, ⟨⟨⟨_, _, _, _, _, _, _, _, _, _, _, _, _, _, _, xL_BadText, rfl⟩, sa_BadText, ex_BadText, ty_BadText, kc_BadText⟩, no_BadText, ga_BadText, gg_BadText, hd_BadText, exm_self ex_BadText ic_BadText ty_BadText sc_BadText⟩⟩, BadProgram := ⟨C_BadProgram, PySem.W.mg_of X G aC_BadProgram, ⟨⟨⟨_, _, _, _, _, _, _, _, _, _, _, _, _, _, _, xL_BadProgram, rfl⟩, sa_BadProgram, ex_BadProgram, ty_BadProgram, kc_BadProgram⟩, no_BadProgram, ga_BadProgram, gg_BadProgram, hd_BadProgram, exm_self ex_BadProgram ic_BadProgram ty_BadProgram sc_BadProgram⟩⟩, x_BadProgram_BadText := exm_two ex_BadText ic_BadText ty_BadText xo_BadProgram_BadText, BadText_init := ⟨_, _, F1, b1, a1, i1⟩, BadProgram_init := ⟨_, _, F2, b2, a2, i2⟩, is_whole := ⟨_, _, F3, b3, PySem.W.mg_of X G a3⟩, is_word_programs := ⟨_, _, F4, b4, PySem.W.mg_of X G a4⟩, is_name_programs := ⟨_, _, F5, b5, PySem.W.mg_of X G a5⟩, is_expression := ⟨_, _, F6, b6, PySem.W.mg_of X G a6⟩, is_test := ⟨_, _, F7, b7, PySem.W.mg_of X G a7⟩, is_plain := ⟨_, _, F8, b8, PySem.W.mg_of X G a8⟩, is_statement := ⟨_, _, F9, b9, PySem.W.mg_of X G a9⟩, blocks_of := ⟨_, _, F10, b10, PySem.W.mg_of X G a10⟩, items_within := ⟨_, _, F11, b11, PySem.W.mg_of X G a11⟩, rows_of := ⟨_, _, F12, b12, PySem.W.mg_of X G a12⟩, order_error := ⟨_, _, F13, b13, PySem.W.mg_of X G a13⟩, bare := ⟨_, _, F14, b14, PySem.W.mg_of X G a14⟩, own_count := ⟨_, _, F15, b15, PySem.W.mg_of X G a15⟩, counted := ⟨_, _, F16, b16, PySem.W.mg_of X G a16⟩, weight := ⟨_, _, F17, b17, PySem.W.mg_of X G a17⟩, program_error := ⟨_, _, F18, b18, PySem.W.mg_of X G a18⟩, expression_text := ⟨_, _, F19, b19, PySem.W.mg_of X G a19⟩, test_text := ⟨_, _, F20, b20, PySem.W.mg_of X G a20⟩, line_text := ⟨_, _, F21, b21, PySem.W.mg_of X G a21⟩, part_lines := ⟨_, _, F22, b22, PySem.W.mg_of X G a22⟩, block_lines := ⟨_, _, F23, b23, PySem.W.mg_of X G a23⟩, program_text := ⟨_, _, F24, b24, PySem.W.mg_of X G a24⟩, is_word_texts := ⟨_, _, F25, b25, PySem.W.mg_of X G a25⟩, is_name_texts := ⟨_, _, F26, b26, PySem.W.mg_of X G a26⟩, integer_of := ⟨_, _, F27, b27, PySem.W.mg_of X G a27⟩, sum_at := ⟨_, _, F28, b28, PySem.W.mg_of X G a28⟩, expression_at := ⟨_, _, F29, b29, PySem.W.mg_of X G a29⟩, expression_of := ⟨_, _, F30, b30, PySem.W.mg_of X G a30⟩, plain_test_of := ⟨_, _, F31, b31, PySem.W.mg_of X G a31⟩, test_of := ⟨_, _, F32, b32, PySem.W.mg_of X G a32⟩, setting_of := ⟨_, _, F33, b33, PySem.W.mg_of X G a33⟩, statement_of := ⟨_, _, F34, b34, PySem.W.mg_of X G a34⟩, Part_init := ⟨_, _, F35, b35, ⟨a35, i35, k35⟩⟩, mk_Part := ⟨mk_Part, a35, i35, kc_Part⟩, Part_lacks_line := ⟨_, _, F36, b36, ⟨a36, i36, k36⟩⟩, ProgramReader_init := ⟨_, _, F37, b37, ⟨a37, i37, k37⟩⟩, mk_ProgramReader := ⟨mk_ProgramReader, a37, i37, kc_ProgramReader⟩, ProgramReader_close := ⟨_, _, F38, b38, ⟨a38, i38, k38⟩⟩, ProgramReader_come_to := ⟨_, _, F39, b39, ⟨a39, i39, k39⟩⟩, ProgramReader_read := ⟨_, _, F40, b40, ⟨a40, i40, k40⟩⟩, ProgramReader_put := ⟨_, _, F41, b41, ⟨a41, i41, k41⟩⟩, parse_program := ⟨_, _, F42, b42, PySem.W.mg_of X G a42⟩, l_deck := ⟨_, _, F43, b43, PySem.W.mg_of X G a43⟩, l_draw := ⟨_, _, F44, b44, PySem.W.mg_of X G a44⟩, l_one := ⟨_, _, F45, b45, PySem.W.mg_of X G a45⟩, l_expr := ⟨_, _, F46, b46, PySem.W.mg_of X G a46⟩, l_test := ⟨_, _, F47, b47, PySem.W.mg_of X G a47⟩, l_block := ⟨_, _, F48, b48, PySem.W.mg_of X G a48⟩, l_if := ⟨_, _, F49, b49, PySem.W.mg_of X G a49⟩, l_statement := ⟨_, _, F50, b50, PySem.W.mg_of X G a50⟩, l_program := ⟨_, _, F51, b51, PySem.W.mg_of X G a51⟩, l_names := ⟨_, _, F52, b52, PySem.W.mg_of X G a52⟩, l_parsed := ⟨_, _, F53, b53, PySem.W.mg_of X G a53⟩, law := ⟨_, _, F54, b54, PySem.W.mg_of X G a54⟩, Part := ⟨C_Part, ⟨pg_Part, hd_Part, po_Part, sa_Part⟩, PySem.W.mg_of X G aC_Part, mk_Part, kc_Part⟩, n_Part_kind := n_Part_kind, n_Part_head := n_Part_head, n_Part_rows := n_Part_rows, n_Part_is_over := n_Part_is_over, ProgramReader := ⟨C_ProgramReader, ⟨pg_ProgramReader, hd_ProgramReader, po_ProgramReader, sa_ProgramReader⟩, PySem.W.mg_of X G aC_ProgramReader, mk_ProgramReader, kc_ProgramReader⟩, n_ProgramReader_blocks_open := n_ProgramReader_blocks_open, t_MAX_NAME := t_MAX_NAME, g_MAX_NAME := PySem.W.mg_of X G g_MAX_NAME, t_MAX_WORD := t_MAX_WORD, g_MAX_WORD := PySem.W.mg_of X G g_MAX_WORD, t_MAX_TIMES := t_MAX_TIMES, g_MAX_TIMES := PySem.W.mg_of X G g_MAX_TIMES, t_MAX_DEEP := t_MAX_DEEP, g_MAX_DEEP := PySem.W.mg_of X G g_MAX_DEEP, t_MAX_NOTS := t_MAX_NOTS, g_MAX_NOTS := PySem.W.mg_of X G g_MAX_NOTS, t_MAX_PLACES := t_MAX_PLACES, g_MAX_PLACES := PySem.W.mg_of X G g_MAX_PLACES, t_MAX_WEIGHT := t_MAX_WEIGHT, g_MAX_WEIGHT := PySem.W.mg_of X G g_MAX_WEIGHT, t_MAX_HALVINGS := t_MAX_HALVINGS, g_MAX_HALVINGS := PySem.W.mg_of X G g_MAX_HALVINGS, t_MAX_COMPARINGS := t_MAX_COMPARINGS, g_MAX_COMPARINGS := PySem.W.mg_of X G g_MAX_COMPARINGS, t_MAX_NEST := t_MAX_NEST, g_MAX_NEST := PySem.W.mg_of X G g_MAX_NEST, t_LETTERS_programs := t_LETTERS_programs, g_LETTERS_programs := PySem.W.mg_of X G g_LETTERS_programs, t_SIGNS_programs := t_SIGNS_programs, g_SIGNS_programs := PySem.W.mg_of X G g_SIGNS_programs, t_MOST_NUMBER := t_MOST_NUMBER, g_MOST_NUMBER := PySem.W.mg_of X G g_MOST_NUMBER, t_MOST_FACTOR := t_MOST_FACTOR, g_MOST_FACTOR := PySem.W.mg_of X G g_MOST_FACTOR, t_LETTERS_texts := t_LETTERS_texts, g_LETTERS_texts := PySem.W.mg_of X G g_LETTERS_texts, t_FIGURES := t_FIGURES, g_FIGURES := PySem.W.mg_of X G g_FIGURES, t_HEAD := t_HEAD, g_HEAD := PySem.W.mg_of X G g_HEAD, t_STEP := t_STEP, g_STEP := PySem.W.mg_of X G g_STEP, t_MOST_FIGURES := t_MOST_FIGURES, g_MOST_FIGURES := PySem.W.mg_of X G g_MOST_FIGURES, t_MOST_DEEP := t_MOST_DEEP, g_MOST_DEEP := PySem.W.mg_of X G g_MOST_DEEP, t_MOST_NOTS := t_MOST_NOTS, g_MOST_NOTS := PySem.W.mg_of X G g_MOST_NOTS, KEPT := a_KEPT, g_KEPT := PySem.W.mg_of X G g_KEPT, q_KEPT := fun _ => .inr ⟨_, _, _, lk_KEPT, rfl, rfl, sz_lit rfl, (.cons ⟨_, rfl⟩ (.cons ⟨_, rfl⟩ (.cons ⟨_, rfl⟩ (.cons ⟨_, rfl⟩ (.cons ⟨_, rfl⟩ (.cons ⟨_, rfl⟩ (.cons ⟨_, rfl⟩ (.cons ⟨_, rfl⟩ (.cons ⟨_, rfl⟩ (.cons ⟨_, rfl⟩ (.cons ⟨_, rfl⟩ .nil)))))))))))⟩, KEPT_WORDS := a_KEPT_WORDS, g_KEPT_WORDS := PySem.W.mg_of X G g_KEPT_WORDS, q_KEPT_WORDS := fun _ => .inr ⟨_, _, _, lk_KEPT_WORDS, rfl, rfl, sz_lit rfl, (.cons ⟨_, rfl⟩ (.cons ⟨_, rfl⟩ (.cons ⟨_, rfl⟩ (.cons ⟨_, rfl⟩ (.cons ⟨_, rfl⟩ (.cons ⟨_, rfl⟩ (.cons ⟨_, rfl⟩ (.cons ⟨_, rfl⟩ (.cons ⟨_, rfl⟩ (.cons ⟨_, rfl⟩ (.cons ⟨_, rfl⟩ .nil)))))))))))⟩, SIGNS_texts := a_SIGNS_texts, g_SIGNS_texts := PySem.W.mg_of X G g_SIGNS_texts, WORDS := a_WORDS, g_WORDS := PySem.W.mg_of X G g_WORDS, abs := PySem.W.mg_none_of X G z_abs, bool := PySem.W.mg_none_of X G z_bool, divmod := PySem.W.mg_none_of X G z_divmod, enumerate := PySem.W.mg_none_of X G z_enumerate, int := PySem.W.mg_none_of X G z_int, isinstance := PySem.W.mg_none_of X G z_isinstance, len := PySem.W.mg_none_of X G z_len, range := PySem.W.mg_none_of X G z_range, repr := PySem.W.mg_none_of X G z_repr, str := PySem.W.mg_none_of X G z_str, sum := PySem.W.mg_none_of X G z_sum, tuple := PySem.W.mg_none_of X G z_tuple }) ⟨⟨_, _, _, lk_SIGNS_texts, kl_SIGNS_texts, n_SIGNS_texts_0, ⟨_, rfl⟩⟩, ⟨_, _, _, lk_SIGNS_texts, kl_SIGNS_texts, n_SIGNS_texts_1, ⟨_, rfl⟩⟩, ⟨_, _, _, lk_SIGNS_texts, kl_SIGNS_texts, n_SIGNS_texts_2, ⟨_, rfl⟩⟩⟩ ⟨⟨_, _, lk_WORDS, kl_WORDS, sm_WORDS⟩, ⟨_, _, _, lk_WORDS, kl_WORDS, n_WORDS_0, ⟨_, rfl⟩⟩, ⟨_, _, _, lk_WORDS, kl_WORDS, n_WORDS_1, ⟨_, rfl⟩⟩, ⟨_, _, _, lk_WORDS, kl_WORDS, n_WORDS_2, ⟨_, rfl⟩⟩, fun _ hx => EH.kmiss_of lk_WORDS kl_WORDS sm_WORDS ks_WORDS hx⟩⟩
end EH
open PySem PySem.W PyProof.Rows
set_option maxRecDepth 100000 in
set_option maxHeartbeats 0 in
theorem PySem.Challenge.cw_eitherhalf_k05_whole_beginnings_of_texts_holds : PySem.Challenge.rw_eitherhalf_k05_whole_beginnings_of_texts.Holds := by
  w_on; o_law; k_head; (case hw => w_witness2)
  k_fill
  refine EH.walk_ofG (l := PySem.Challenge.rw_eitherhalf_k05_whole_beginnings_of_texts) (n := 63) (k := 54) (x := "_law_script") (sp := EH.spLaw) rfl (by decide) rfl ⟨rfl, by decide, by decide⟩ (fun w h Y => PySem.W.kIn_of Y) ?F (fun K H a ns hl hS => ⟨a, ns, rfl, hS, hl, fun _ => rfl⟩)
  case F =>
    intro w mg fa h KX G hmg
    refine' EH.all_mk KX G hmg ?aC_Part ?pg_Part ?hd_Part ?po_Part ?sa_Part ?mk_Part ?kc_Part ?aC_ProgramReader ?pg_ProgramReader ?hd_ProgramReader ?po_ProgramReader ?sa_ProgramReader ?mk_ProgramReader ?kc_ProgramReader ?aC_HalfError ?ga_HalfError ?rd_HalfError ?ini_HalfError ?aC_BadText ?xL_BadText ?sa_BadText ?ga_BadText ?gg_BadText ?no_BadText ?kc_BadText ?ex_BadText ?ty_BadText ?hd_BadText ?ic_BadText ?sc_BadText ?aC_BadProgram ?xL_BadProgram ?sa_BadProgram ?ga_BadProgram ?gg_BadProgram ?no_BadProgram ?kc_BadProgram ?ex_BadProgram ?ty_BadProgram ?hd_BadProgram ?ic_BadProgram ?sc_BadProgram ?xo_BadProgram_BadText ?a1 ?i1 ?l1 ?c1 ?k1 ?a2 ?i2 ?l2 ?c2 ?k2 ?a3 ?l3 ?c3 ?k3 ?a4 ?l4 ?c4 ?k4 ?a5 ?l5 ?c5 ?k5 ?a6 ?l6 ?c6 ?k6 ?a7 ?l7 ?c7 ?k7 ?a8 ?l8 ?c8 ?k8 ?a9 ?l9 ?c9 ?k9 ?a10 ?l10 ?c10 ?k10 ?a11 ?l11 ?c11 ?k11 ?a12 ?l12 ?c12 ?k12 ?a13 ?l13 ?c13 ?k13 ?a14 ?l14 ?c14 ?k14 ?a15 ?l15 ?c15 ?k15 ?a16 ?l16 ?c16 ?k16 ?a17 ?l17 ?c17 ?k17 ?a18 ?l18 ?c18 ?k18 ?a19 ?l19 ?c19 ?k19 ?a20 ?l20 ?c20 ?k20 ?a21 ?l21 ?c21 ?k21 ?a22 ?l22 ?c22 ?k22 ?a23 ?l23 ?c23 ?k23 ?a24 ?l24 ?c24 ?k24 ?a25 ?l25 ?c25 ?k25 ?a26 ?l26 ?c26 ?k26 ?a27 ?l27 ?c27 ?k27 ?a28 ?l28 ?c28 ?k28 ?a29 ?l29 ?c29 ?k29 ?a30 ?l30 ?c30 ?k30 ?a31 ?l31 ?c31 ?k31 ?a32 ?l32 ?c32 ?k32 ?a33 ?l33 ?c33 ?k33 ?a34 ?l34 ?c34 ?k34 ?a35 ?i35 ?l35 ?c35 ?k35 ?a36 ?i36 ?l36 ?c36 ?k36 ?a37 ?i37 ?l37 ?c37 ?k37 ?a38 ?i38 ?l38 ?c38 ?k38 ?a39 ?i39 ?l39 ?c39 ?k39 ?a40 ?i40 ?l40 ?c40 ?k40 ?a41 ?i41 ?l41 ?c41 ?k41 ?a42 ?l42 ?c42 ?k42 ?a43 ?l43 ?c43 ?k43 ?a44 ?l44 ?c44 ?k44 ?a45 ?l45 ?c45 ?k45 ?a46 ?l46 ?c46 ?k46 ?a47 ?l47 ?c47 ?k47 ?a48 ?l48 ?c48 ?k48 ?a49 ?l49 ?c49 ?k49 ?a50 ?l50 ?c50 ?k50 ?a51 ?l51 ?c51 ?k51 ?a52 ?l52 ?c52 ?k52 ?a53 ?l53 ?c53 ?k53 ?a54 ?l54 ?c54 ?k54 ?n_Part_kind ?n_Part_head ?n_Part_rows ?n_Part_is_over ?n_ProgramReader_blocks_open ?g_MAX_NAME ?g_MAX_WORD ?g_MAX_TIMES ?g_MAX_DEEP ?g_MAX_NOTS ?g_MAX_PLACES ?g_MAX_WEIGHT ?g_MAX_HALVINGS ?g_MAX_COMPARINGS ?g_MAX_NEST ?g_LETTERS_programs ?g_SIGNS_programs ?g_MOST_NUMBER ?g_MOST_FACTOR ?g_LETTERS_texts ?g_FIGURES ?g_HEAD ?g_STEP ?g_MOST_FIGURES ?g_MOST_DEEP ?g_MOST_NOTS ?g_KEPT ?lk_KEPT ?g_KEPT_WORDS ?lk_KEPT_WORDS ?g_SIGNS_texts ?lk_SIGNS_texts ?kl_SIGNS_texts ?n_SIGNS_texts_0 ?n_SIGNS_texts_1 ?n_SIGNS_texts_2 ?g_WORDS ?lk_WORDS ?kl_WORDS ?n_WORDS_0 ?n_WORDS_1 ?n_WORDS_2 ?ks_WORDS ?sm_WORDS ?z_abs ?z_bool ?z_divmod ?z_enumerate ?z_int ?z_isinstance ?z_len ?z_range ?z_repr ?z_str ?z_sum ?z_tuple
    (case aC_Part => k_is); (case pg_Part => k_is); (case hd_Part => k_is); (case po_Part => k_is); (case sa_Part => k_is); (case mk_Part => k_is)
    (case kc_Part => k_is); (case aC_ProgramReader => k_is); (case pg_ProgramReader => k_is); (case hd_ProgramReader => k_is); (case po_ProgramReader => k_is); (case sa_ProgramReader => k_is)
    (case mk_ProgramReader => k_is); (case kc_ProgramReader => k_is); (case aC_HalfError => k_is); (case ga_HalfError => k_is); (case rd_HalfError => k_is); (case ini_HalfError => k_is)
    (case aC_BadText => k_is); (case xL_BadText => k_is); (case sa_BadText => k_is); (case ga_BadText => k_is); (case gg_BadText => k_is); (case no_BadText => k_is)
    (case kc_BadText => k_is); (case ex_BadText => k_is); (case ty_BadText => k_is); (case hd_BadText => k_is); (case ic_BadText => k_is); (case sc_BadText => first | rfl | k_is)
    (case aC_BadProgram => k_is); (case xL_BadProgram => k_is); (case sa_BadProgram => k_is); (case ga_BadProgram => k_is); (case gg_BadProgram => k_is); (case no_BadProgram => k_is)
    (case kc_BadProgram => k_is); (case ex_BadProgram => k_is); (case ty_BadProgram => k_is); (case hd_BadProgram => k_is); (case ic_BadProgram => k_is); (case sc_BadProgram => first | rfl | k_is)
    (case xo_BadProgram_BadText => first | rfl | k_is); (case a1 => k_is); (case i1 => k_is); (case l1 => k_is); (case c1 => k_is); (case k1 => k_is)
    (case a2 => k_is); (case i2 => k_is); (case l2 => k_is); (case c2 => k_is); (case k2 => k_is); (case a3 => k_is)
    (case l3 => k_is); (case c3 => k_is); (case k3 => k_is); (case a4 => k_is); (case l4 => k_is); (case c4 => k_is)
    (case k4 => k_is); (case a5 => k_is); (case l5 => k_is); (case c5 => k_is); (case k5 => k_is); (case a6 => k_is)
    (case l6 => k_is); (case c6 => k_is); (case k6 => k_is); (case a7 => k_is); (case l7 => k_is); (case c7 => k_is)
    (case k7 => k_is); (case a8 => k_is); (case l8 => k_is); (case c8 => k_is); (case k8 => k_is); (case a9 => k_is)
    (case l9 => k_is); (case c9 => k_is); (case k9 => k_is); (case a10 => k_is); (case l10 => k_is); (case c10 => k_is)
    (case k10 => k_is); (case a11 => k_is); (case l11 => k_is); (case c11 => k_is); (case k11 => k_is); (case a12 => k_is)
    (case l12 => k_is); (case c12 => k_is); (case k12 => k_is); (case a13 => k_is); (case l13 => k_is); (case c13 => k_is)
    (case k13 => k_is); (case a14 => k_is); (case l14 => k_is); (case c14 => k_is); (case k14 => k_is); (case a15 => k_is)
    (case l15 => k_is); (case c15 => k_is); (case k15 => k_is); (case a16 => k_is); (case l16 => k_is); (case c16 => k_is)
    (case k16 => k_is); (case a17 => k_is); (case l17 => k_is); (case c17 => k_is); (case k17 => k_is); (case a18 => k_is)
    (case l18 => k_is); (case c18 => k_is); (case k18 => k_is); (case a19 => k_is); (case l19 => k_is); (case c19 => k_is)
    (case k19 => k_is); (case a20 => k_is); (case l20 => k_is); (case c20 => k_is); (case k20 => k_is); (case a21 => k_is)
    (case l21 => k_is); (case c21 => k_is); (case k21 => k_is); (case a22 => k_is); (case l22 => k_is); (case c22 => k_is)
    (case k22 => k_is); (case a23 => k_is); (case l23 => k_is); (case c23 => k_is); (case k23 => k_is); (case a24 => k_is)
    (case l24 => k_is); (case c24 => k_is); (case k24 => k_is); (case a25 => k_is); (case l25 => k_is); (case c25 => k_is)
    (case k25 => k_is); (case a26 => k_is); (case l26 => k_is); (case c26 => k_is); (case k26 => k_is); (case a27 => k_is)
    (case l27 => k_is); (case c27 => k_is); (case k27 => k_is); (case a28 => k_is); (case l28 => k_is); (case c28 => k_is)
    (case k28 => k_is); (case a29 => k_is); (case l29 => k_is); (case c29 => k_is); (case k29 => k_is); (case a30 => k_is)
    (case l30 => k_is); (case c30 => k_is); (case k30 => k_is); (case a31 => k_is); (case l31 => k_is); (case c31 => k_is)
    (case k31 => k_is); (case a32 => k_is); (case l32 => k_is); (case c32 => k_is); (case k32 => k_is); (case a33 => k_is)
    (case l33 => k_is); (case c33 => k_is); (case k33 => k_is); (case a34 => k_is); (case l34 => k_is); (case c34 => k_is)
    (case k34 => k_is); (case a35 => k_is); (case i35 => k_is); (case l35 => k_is); (case c35 => k_is); (case k35 => k_is)
    (case a36 => k_is); (case i36 => k_is); (case l36 => k_is); (case c36 => k_is); (case k36 => k_is); (case a37 => k_is)
    (case i37 => k_is); (case l37 => k_is); (case c37 => k_is); (case k37 => k_is); (case a38 => k_is); (case i38 => k_is)
    (case l38 => k_is); (case c38 => k_is); (case k38 => k_is); (case a39 => k_is); (case i39 => k_is); (case l39 => k_is)
    (case c39 => k_is); (case k39 => k_is); (case a40 => k_is); (case i40 => k_is); (case l40 => k_is); (case c40 => k_is)
    (case k40 => k_is); (case a41 => k_is); (case i41 => k_is); (case l41 => k_is); (case c41 => k_is); (case k41 => k_is)
    (case a42 => k_is); (case l42 => k_is); (case c42 => k_is); (case k42 => k_is); (case a43 => k_is); (case l43 => k_is)
    (case c43 => k_is); (case k43 => k_is); (case a44 => k_is); (case l44 => k_is); (case c44 => k_is); (case k44 => k_is)
    (case a45 => k_is); (case l45 => k_is); (case c45 => k_is); (case k45 => k_is); (case a46 => k_is); (case l46 => k_is)
    (case c46 => k_is); (case k46 => k_is); (case a47 => k_is); (case l47 => k_is); (case c47 => k_is); (case k47 => k_is)
    (case a48 => k_is); (case l48 => k_is); (case c48 => k_is); (case k48 => k_is); (case a49 => k_is); (case l49 => k_is)
    (case c49 => k_is); (case k49 => k_is); (case a50 => k_is); (case l50 => k_is); (case c50 => k_is); (case k50 => k_is)
    (case a51 => k_is); (case l51 => k_is); (case c51 => k_is); (case k51 => k_is); (case a52 => k_is); (case l52 => k_is)
    (case c52 => k_is); (case k52 => k_is); (case a53 => k_is); (case l53 => k_is); (case c53 => k_is); (case k53 => k_is)
    (case a54 => k_is); (case l54 => k_is); (case c54 => k_is); (case k54 => k_is); (case n_Part_kind => k_is); (case n_Part_head => k_is)
    (case n_Part_rows => k_is); (case n_Part_is_over => k_is); (case n_ProgramReader_blocks_open => k_is); (case g_MAX_NAME => k_is); (case g_MAX_WORD => k_is); (case g_MAX_TIMES => k_is)
    (case g_MAX_DEEP => k_is); (case g_MAX_NOTS => k_is); (case g_MAX_PLACES => k_is); (case g_MAX_WEIGHT => k_is); (case g_MAX_HALVINGS => k_is); (case g_MAX_COMPARINGS => k_is)
    (case g_MAX_NEST => k_is); (case g_LETTERS_programs => k_is); (case g_SIGNS_programs => k_is); (case g_MOST_NUMBER => k_is); (case g_MOST_FACTOR => k_is); (case g_LETTERS_texts => k_is)
    (case g_FIGURES => k_is); (case g_HEAD => k_is); (case g_STEP => k_is); (case g_MOST_FIGURES => k_is); (case g_MOST_DEEP => k_is); (case g_MOST_NOTS => k_is)
    (case g_KEPT => k_is); (case lk_KEPT => k_is); (case g_KEPT_WORDS => k_is); (case lk_KEPT_WORDS => k_is); (case g_SIGNS_texts => k_is); (case lk_SIGNS_texts => k_is)
    (case kl_SIGNS_texts => k_keys); (case n_SIGNS_texts_0 => k_is); (case n_SIGNS_texts_1 => k_is); (case n_SIGNS_texts_2 => k_is); (case g_WORDS => k_is); (case lk_WORDS => k_is)
    (case kl_WORDS => k_keys); (case n_WORDS_0 => k_is); (case n_WORDS_1 => k_is); (case n_WORDS_2 => k_is); (case ks_WORDS => exact rfl); (case sm_WORDS => exact rfl)
    (case z_abs => k_is); (case z_bool => k_is); (case z_divmod => k_is); (case z_enumerate => k_is); (case z_int => k_is); (case z_isinstance => k_is)
    (case z_len => k_is); (case z_range => k_is); (case z_repr => k_is); (case z_str => k_is); (case z_sum => k_is); (case z_tuple => k_is)
#print axioms PySem.Challenge.cw_eitherhalf_k05_whole_beginnings_of_texts_holds
