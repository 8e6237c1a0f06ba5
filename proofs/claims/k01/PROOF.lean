import PyProof.Rows.All
import Wide.All
import OpenK.AllK
import Wide.FinOn
import HandS.ForMost
import HandS.Wide
import HandS.TupAny
import HandS.TupMul
import HandS.IsInst
import HandS.Codes
import HandS.Deep
import HandS.Text
import HandS.Style
import HandS.Iter
import HandS.ExcValue
import HandS.ExcOwn
import KE.SortData
import HandS.Conv
import KE.KDictSum
import HandS.Lambda
import HandS.EndTab
import HandS.More
import HandS.RaiseMore
import HandS.Call
import PySem.Challenge.RW_eitherhalf_k01_texts_of_programs
set_option Elab.async false
set_option linter.all false
set_option maxRecDepth 100000
set_option maxHeartbeats 4000000
namespace EH
open PySem L2
def topS (i : Nat) : Stmt := PySem.Challenge.pw_eitherhalf_k01_texts_of_programs.main.body.getD i (.Pass ⟨0, 0, 0, 0⟩)
abbrev s_expression_text : Stmt := topS 4
abbrev s_test_text : Stmt := topS 5
abbrev s_line_text : Stmt := topS 6
abbrev s_part_lines : Stmt := topS 7
abbrev s_block_lines : Stmt := topS 8
abbrev s_program_text : Stmt := topS 9
abbrev s_l_deck : Stmt := topS 11
abbrev s_l_draw : Stmt := topS 12
abbrev s_l_one : Stmt := topS 13
abbrev s_l_expr : Stmt := topS 14
abbrev s_l_test : Stmt := topS 15
abbrev s_l_block : Stmt := topS 16
abbrev s_l_if : Stmt := topS 17
abbrev s_l_statement : Stmt := topS 18
abbrev s_l_program : Stmt := topS 19
abbrev s_l_names : Stmt := topS 20
abbrev s_l_expr_text : Stmt := topS 21
abbrev s_l_test_text : Stmt := topS 22
abbrev s_l_line : Stmt := topS 23
abbrev s_l_lines : Stmt := topS 24
abbrev s_law : Stmt := topS 25

/-! ### what is kept but for some addresses -/
structure Kp (S : List Addr) (H H' : Hp) : Prop where
  keep : ∀ b o, H b = some o → b ∉ S → H' b = some o
  tup : ∀ b xs, H b = some (.tup xs) → H' b = some (.tup xs)
  ext : ∀ b φ, H b = some (.ext φ) → H' b = some (.ext φ)
theorem Kp.refl {S : List Addr} {H : Hp} : Kp S H H := ⟨fun _ _ h _ => h, fun _ _ h => h, fun _ _ h => h⟩
theorem Kp.trans {S : List Addr} {H H1 H2 : Hp} (a : Kp S H H1) (b : Kp S H1 H2) : Kp S H H2 := ⟨fun c o h n => b.keep c o (a.keep c o h n) n, fun c xs h => b.tup c xs (a.tup c xs h), fun c φ h => b.ext c φ (a.ext c φ h)⟩
theorem Kp.sub {S S' : List Addr} {H H1 : Hp} (a : Kp S H H1) (h : ∀ b, b ∈ S → b ∈ S') : Kp S' H H1 := ⟨fun c o e n => a.keep c o e fun z => n (h c z), a.tup, a.ext⟩
theorem Kp.at {H H1 : Hp} {b : Addr} {o : HO} (a : Kp [] H H1) (h : H b = some o) : H1 b = some o := a.keep b o h (by simp)
theorem Kp.free {S : List Addr} {H H1 : Hp} {p : Addr} (a : Kp S H H1) (h : H1 p = none) (n : p ∉ S) : H p = none := by
  cases e : H p with
  | none => rfl
  | some o =>
    rw [a.keep p o e n] at h
    cases h
theorem Kp.step {S S1 : List Addr} {H H1 H2 : Hp} (a : Kp S H H1) (b : Kp S1 H1 H2) (h : ∀ p ∈ S1, p ∈ S ∨ H p = none) : Kp S H H2 :=
  ⟨fun c o e n => b.keep c o (a.keep c o e n) fun z => (h c z).elim n fun y => (by rw [y] at e; cases e), fun c xs e => b.tup c xs (a.tup c xs e), fun c φ e => b.ext c φ (a.ext c φ e)⟩
theorem Kp.step0 {S : List Addr} {H H1 H2 : Hp} (a : Kp S H H1) (b : Kp [] H1 H2) : Kp S H H2 := a.step b fun _ z => nomatch z
theorem Kp.step1 {S : List Addr} {H H1 H2 : Hp} {p : Addr} (a : Kp S H H1) (b : Kp [p] H1 H2) (h : p ∈ S ∨ H p = none) : Kp S H H2 := a.step b fun _ z => by
  rcases List.mem_cons.mp z with rfl | z
  · exact h
  · cases z
theorem Kp.new {H : Hp} {p : Addr} {u : HO} (h : H p = none) : Kp [] H (upd H p u) := ⟨fun c o e _ => by rw [upd_ne (ne_of_none e h)]; exact e, fun c o e => by rw [upd_ne (ne_of_none e h)]; exact e, fun c o e => by rw [upd_ne (ne_of_none e h)]; exact e⟩
theorem Kp.put {H : Hp} {p : Addr} {u v : HO} (h : H p = some v) (hv : ∀ xs, v ≠ .tup xs) (he : ∀ φ, v ≠ .ext φ := by intro φ z; cases z) : Kp [p] H (upd H p u) := ⟨fun c o e n => by rw [upd_ne (by intro z; subst z; exact n (by simp))]; exact e,
  fun c xs e => by rw [upd_ne (by intro z; subst z; rw [h] at e; exact hv xs (Option.some.inj e))]; exact e,
  fun c φ e => by rw [upd_ne (by intro z; subst z; rw [h] at e; exact he φ (Option.some.inj e))]; exact e⟩
theorem Kp.seq {K : PySem.W.Frag} {S : List Addr} {H H' : Hp} {a : Addr} {xs : List V} (k : Kp S H H') (h : SqL K H a xs) (n : a ∉ S) : SqL K H' a xs := by
  rcases h with (h | ⟨o, h⟩) | h
  · exact .inl (.inl (k.keep _ _ h n))
  · exact .inl (.inr ⟨o, k.keep _ _ h n⟩)
  · exact .inr h
theorem ne1 {a p : Addr} (h : a ≠ p) : a ∉ [p] := by simp [h]
theorem ne2 {a p q : Addr} (h : a ≠ p) (h2 : a ≠ q) : a ∉ [p, q] := by simp [h, h2]

/-! ### rules whose new heaps are letters -/
section
variable {X : Cx} {e : Expr} {es : List Expr} {pos : Pos}
theorem PE.imp {t t' : TE} (h : PE X e t) (i : ∀ σ H Q, t' σ H Q → t σ H Q) : PE X e t' := ⟨fun pins s σ H Q I q => h.run pins s σ H Q I (i σ H Q q)⟩
theorem OpR.imp {f : Value → Value → Sem Value} {r r' : R2} (h : OpR X f r) (i : ∀ x y H Q, r' x y H Q → r x y H Q) : OpR X f r' := fun pins s σ H x y v u Q I a b q => h pins s σ H x y v u Q I a b (i x y H Q q)
theorem CallR.imp {f : Value} {r r' : List V → Hp → VK → Prop} (h : CallR X f r) (i : ∀ xs H Q, r' xs H Q → r xs H Q) : CallR X f r' := fun pins s σ H xs us Q I a q => h pins s σ H xs us Q I a (i xs H Q q)
theorem SlR.imp {r r' : V → Option Int → Option Int → Hp → VK → Prop} (h : SlR X r) (i : ∀ x lo hi H Q, r' x lo hi H Q → r x lo hi H Q) : SlR X r' := fun pins s σ H x v vl vu lo hi sl Q I rx hs pl pu q => h pins s σ H x v vl vu lo hi sl Q I rx hs pl pu (i x lo hi H Q q)
theorem MtR.imp {id : String} {r r' : V → List V → Hp → VK → Prop} (h : MtR X id r) (i : ∀ x xs H Q, r' x xs H Q → r x xs H Q) : MtR X id r' := fun pins s σ H x xs v us Q I a b q => h pins s σ H x xs v us Q I a b (i x xs H Q q)
theorem PSet.imp {t t' : TSet} (h : PSet X t) (i : ∀ o k v H Q, t' o k v H Q → t o k v H Q) : PSet X t' := fun pins s σ H o k v ov iv u Q I a b c q => h pins s σ H o k v ov iv u Q I a b c (i o k v H Q q)
/-- a new object at p -/
def NewQ (H : Hp) (o : HO) (Q : VK) : Prop := ∀ p H2, H p = none → H2 p = some o → Kp [] H H2 → Q (.ref p) H2
theorem NewQ.to {H : Hp} {o : HO} {Q : VK} (h : NewQ H o Q) : ∀ p, H p = none → Q (.ref p) (upd H p o) := fun p hp => h p _ hp upd_same (Kp.new hp)
theorem newQ_iff {H : Hp} {o : HO} {Q : VK} (S : Prop) : (S ∧ ∀ p H2, H p = none → H2 = upd H p o → Q (.ref p) H2) = (S ∧ ∀ p, H p = none → Q (.ref p) (upd H p o)) :=
  propext ⟨fun h => ⟨h.1, fun p hp => h.2 p _ hp rfl⟩, fun h => ⟨h.1, fun p H2 hp e => e ▸ h.2 p hp⟩⟩
def tTupA (t : TA) : TE := fun σ H Q => t σ H fun xs H1 => xs.length ≤ sizeLine ∧ ∀ p H2, H1 p = none → H2 = upd H1 p (.tup xs) → Q (.ref p) H2
def tLstA (t : TA) : TE := fun σ H Q => t σ H fun xs H1 => xs.length ≤ sizeLine ∧ ∀ p H2, H1 p = none → H2 = upd H1 p (.lst xs) → Q (.ref p) H2
theorem pe_tupA {x1} {t : TA} (h : PA X es t) : PE X (.Tuple es x1 pos) (tTupA t) := PE.imp (pe_tup h) fun σ H Q q => by
  unfold tTup
  unfold tTupA at q
  simp only [newQ_iff] at q
  exact q
theorem pe_lstA {t : TA} (h : PA X es t) : PE X (.List es pos) (tLstA t) := PE.imp (pe_lst h) fun σ H Q q => by
  unfold tLst
  unfold tLstA at q
  simp only [newQ_iff] at q
  exact q
theorem new_at {H H2 : Hp} {p : Addr} {o : HO} (e : H2 = upd H p o) : H2 p = some o := by rw [e]; exact upd_same
theorem new_kp {H H2 : Hp} {p : Addr} {o : HO} (h : H p = none) (e : H2 = upd H p o) : Kp [] H H2 := by rw [e]; exact Kp.new h
/-- what follows a store at p -/
def PutQ (H : Hp) (p : Addr) (o : HO) (Q : Hp → Prop) : Prop := ∀ H2, H2 p = some o → Kp [p] H H2 → Q H2
theorem PutQ.to {H : Hp} {p : Addr} {o v : HO} {Q : Hp → Prop} (h : PutQ H p o Q) (e : H p = some v) (hv : ∀ xs, v ≠ .tup xs) (he : ∀ φ, v ≠ .ext φ := by intro φ z; cases z) : Q (upd H p o) := h _ upd_same (Kp.put e hv he)
def rSetA : TSet := fun o i v H Q => ∃ p xs k j, o = .ref p ∧ i = .int k ∧ H p = some (.lst xs) ∧ ixN xs.length k = some j ∧ PutQ H p (.lst (xs.set j v)) Q
theorem set_listA : PSet X rSetA := PSet.imp set_list fun o i v H Q ⟨p, xs, k, j, a, b, c, d, q⟩ => ⟨p, xs, k, j, a, b, c, d, q.to c (fun _ z => by cases z)⟩
def rAppendA : V → List V → Hp → VK → Prop := fun x vs H Q => ∃ l xs y, x = .ref l ∧ vs = [y] ∧ H l = some (.lst xs) ∧ xs.length < sizeLine ∧ PutQ H l (.lst (xs ++ [y])) (Q .non)
def rExtendA : V → List V → Hp → VK → Prop := fun x vs H Q => ∃ l b xs zs, x = .ref l ∧ vs = [.ref b] ∧ H l = some (.lst xs) ∧ H b = some (.lst zs) ∧ xs.length + zs.length ≤ sizeLine ∧ PutQ H l (.lst (xs ++ zs)) (Q .non)
def rCatLA : R2 := fun x y H Q => ∃ l b xs zs, x = .ref l ∧ y = .ref b ∧ H l = some (.lst xs) ∧ H b = some (.lst zs) ∧ xs.length + zs.length ≤ sizeLine ∧ NewQ H (.lst (xs ++ zs)) Q
theorem op_catL : OpR X (binaryOp .Add) rCatLA := OpR.imp op_cat fun x y H Q ⟨l, b, xs, zs, e1, e2, h1, h2, z, q⟩ => ⟨l, b, xs, zs, e1, e2, h1, h2, z, q.to⟩
def rSlLA (K : PySem.W.Frag) : V → Option Int → Option Int → Hp → VK → Prop := fun x lo hi H Q => ∃ a xs, x = .ref a ∧ SqL K H a xs ∧ NewQ H (.lst (cutV xs lo hi)) Q
theorem sl_listA : SlR X (rSlLA X.K) := SlR.imp sl_list fun x lo hi H Q ⟨a, xs, e, h, q⟩ => ⟨a, xs, e, h, q.to⟩
theorem cutV_whole {xs : List V} {lo hi : Option Int} (h : HT.sIx xs.length 0 lo = 0 ∧ HT.sIx xs.length xs.length hi = xs.length) : cutV xs lo hi = xs := by
  unfold cutV
  rw [h.1, h.2]
  simp
def rSlTA (K : PySem.W.Frag) : V → Option Int → Option Int → Hp → VK → Prop := fun x lo hi H Q => ∃ a xs, x = .ref a ∧ H a = some (.tup xs) ∧ ∀ p H2, H2 p = some (.tup (cutV xs lo hi)) → Kp [] H H2 → Q (.ref p) H2
theorem sl_tupB : SlR X (rSlTA X.K) := SlR.imp sl_tupA fun x lo hi H Q ⟨a, xs, e, h, q⟩ => by
  refine ⟨a, xs, e, SqT.of h, fun z => ?_, fun _ p hp => q p _ upd_same (Kp.new hp)⟩
  exact q a H (by rw [cutV_whole z]; exact h) Kp.refl
theorem mt_appendA : MtR X "list.append" rAppendA := MtR.imp mt_append fun x vs H Q ⟨l, xs, y, e1, e2, h1, z, q⟩ => ⟨l, xs, y, e1, e2, h1, z, q.to h1 (fun _ z => by cases z)⟩
theorem mt_extendA : MtR X "list.extend" rExtendA := MtR.imp mt_extend fun x vs H Q ⟨l, b, xs, zs, e1, e2, h1, h2, z, q⟩ => ⟨l, b, xs, zs, e1, e2, h1, h2, z, q.to h1 (fun _ z => by cases z)⟩
/-- tuple(xs) of a list: a new tuple -/
def rTupOfA (K : PySem.W.Frag) : List V → Hp → VK → Prop := fun xs H Q => ∃ p ys, xs = [.ref p] ∧ SqL K H p ys ∧ NewQ H (.tup ys) Q
theorem call_tupleA : CallR X (.type "tuple") (rTupOfA X.K) := CallR.imp call_tuple_of fun xs H Q ⟨p, ys, e, h, q⟩ => ⟨p, ys, e, .inl ⟨h, q.to⟩⟩
/-- a loop, a cut: what is said there is said by hand -/
structure Lp (p : Prop) : Prop where
  h : p
theorem Lp.eq (p : Prop) : Lp p = p := propext ⟨fun x => x.h, fun x => ⟨x⟩⟩
def tForA (wi : TI) (g : TG) (tb : TS) : TS := fun D σ H => wi σ H fun J H1 => Lp (∃ W : Nat → Nat → L2.St → Hp → Prop, (∃ m, W 0 m σ H1) ∧ ∀ i m σ H, W i m σ H →
  (J.stop i H ∧ D.nx σ H) ∨ (J.go i H ∧ ∃ N : L2.St → Hp → Prop, (∀ σ' H', N σ' H' → ∃ m', m' < m ∧ W (i + 1) m' σ' H') ∧ ∀ x H', J.yld i H x H' → g x σ H' fun σ2 H2 => tb { D with nx := N, ct := N, bk := D.nx } σ2 H2))
theorem tForA_eq (wi : TI) (g : TG) (tb : TS) : tForA wi g tb = tFor wi g tb := by
  funext D σ H
  unfold tForA tFor
  simp only [Lp.eq]
theorem ps_forA {tg iter : Expr} {body : List Stmt} {wi : TI} {g : TG} {tb : TS} (h : PS X (.For tg iter body [] pos) (tFor wi g tb)) : PS X (.For tg iter body [] pos) (tForA wi g tb) := by rw [tForA_eq]; exact h
def tCutA (t u : TS) : TS := fun D σ H => Lp (C8.tCut t u D σ H)
theorem pss_cutA {st : Stmt} {rest : List Stmt} {t u : TS} (h1 : PS X st t) (h2 : PSs X rest u) : PSs X (st :: rest) (tCutA t u) := by
  have e : tCutA t u = C8.tCut t u := by
    funext D σ H
    unfold tCutA
    rw [Lp.eq]
  rw [e]
  exact C8.pss_cut h1 h2
/-! the same rules over a written part that is told by a letter -/
variable {K : PySem.W.Frag}
theorem ix_listK (hK : X.K = K) : IxR X (rIxL K) := hK ▸ ix_list
theorem ix_tupK (hK : X.K = K) : IxR X (rIxT K) := hK ▸ ix_tup
theorem op_in_seqK (hK : X.K = K) : OpR X (compareOp .In) (rIn K false) := hK ▸ op_in_seq
def rLenK (K : PySem.W.Frag) : List V → Hp → VK → Prop := fun xs H Q => ∃ p ys, xs = [.ref p] ∧ (SqL K H p ys ∨ SqT K H p ys) ∧ Q (.int ys.length) H
theorem call_lenK (hK : X.K = K) : CallR X (.builtin "len") (rLenK K) := hK ▸ call_len_seq
theorem call_isiK (hK : X.K = K) : CallR X (.builtin "isinstance") (rIsi K) := hK ▸ call_isi
theorem call_tupleK (hK : X.K = K) : CallR X (.type "tuple") (rTupOfA K) := hK ▸ call_tupleA
theorem sl_listK (hK : X.K = K) : SlR X (rSlLA K) := hK ▸ sl_listA
theorem sl_tupK (hK : X.K = K) : SlR X (rSlTA K) := hK ▸ sl_tupB
theorem pi_listK {tg l : Expr} {tl : TE} (hK : X.K = K) (hl : PE X l tl) : PI X tg l (iList K tl) := hK ▸ pi_list hl
theorem pi_tupK {tg l : Expr} {tl : TE} (hK : X.K = K) (hl : PE X l tl) : PI X tg l (iTup K tl) := hK ▸ pi_tup hl
theorem pe_bmK {T name id : String} {o e : Expr} {es : List Expr} {r : V → List V → Hp → VK → Prop} {to : TE} {t : TA} {apos cpos : Pos} (hK : X.K = K) (pa : PlainAttrs T) (slot : Slot T name id) (hty : typeOf (.builtin id) = pure (.type "method_descriptor")) (hm : MtR X id r) (ho : PE X o to) (ha : PA X (e :: es) t)
    (hbase : attributeBase o name X.env (eval o X.env) = eval o X.env := by rfl)
    (hfew : ((backTo cpos (starEach (e :: es) X.env)).all (fun x => !x.1) && (backToKw cpos (keywordEach [] X.env)).all (fun x => x.1.isSome) && decide ((e :: es).length + ([] : List Keyword).length + (if ([] : List Keyword).isEmpty then 0 else 1) < 30)) = true := by rfl)
    (hline : (apos.endLine == cpos.line) = true := by rfl) (hs : starEach (e :: es) X.env = (false, eval e X.env) :: starEach es X.env := by rfl) (hplain : (backTo cpos (starEach es X.env)).any (·.1) = false := by rfl) :
    PE X (.Call (.Attribute o name apos) (e :: es) [] cpos) (tBM K T r to t) := hK ▸ pe_bm pa slot hty hm ho ha hbase hfew hline hs hplain
end

/-! ### the deck: its cells at c, how many numbers were drawn -/
structure DkOk (cs : List Int) (n : Int) : Prop where
  len : cs.length ≤ 63
  pos : ∀ x ∈ cs, (0 : Int) ≤ x
  n0 : 0 ≤ n
structure Deck (H : Hp) (a c : Addr) (n : Int) : Prop where
  ex : ∃ cs : List Int, H a = some (.lst [.ref c, .int n]) ∧ H c = some (.lst (cs.map V.int)) ∧ DkOk cs n
theorem Deck.ne {H : Hp} {a c : Addr} {n : Int} (d : Deck H a c n) : a ≠ c := by
  obtain ⟨cs, h1, h2, ok⟩ := d.ex
  refine ne_of h1 h2 fun z => ?_
  have z1 := HO.lst.inj z
  cases cs with
  | nil => cases z1
  | cons x r => cases z1
theorem Deck.kp {S : List Addr} {H H' : Hp} {a c : Addr} {n : Int} (d : Deck H a c n) (k : Kp S H H') (ha : a ∉ S) (hc : c ∉ S) : Deck H' a c n := by
  obtain ⟨cs, h1, h2, ok⟩ := d.ex
  exact ⟨cs, k.keep _ _ h1 ha, k.keep _ _ h2 hc, ok⟩
theorem Deck.kp0 {H H' : Hp} {a c : Addr} {n : Int} (d : Deck H a c n) (k : Kp [] H H') : Deck H' a c n := d.kp k (by simp) (by simp)
theorem Deck.a_some {H : Hp} {a c : Addr} {n : Int} (d : Deck H a c n) : ∃ xs, H a = some (.lst xs) := by
  obtain ⟨cs, h1, h2, ok⟩ := d.ex
  exact ⟨_, h1⟩
theorem Deck.c_some {H : Hp} {a c : Addr} {n : Int} (d : Deck H a c n) : ∃ xs, H c = some (.lst xs) := by
  obtain ⟨cs, h1, h2, ok⟩ := d.ex
  exact ⟨_, h2⟩
/-- a new address is not the deck's -/
theorem Deck.off {H : Hp} {a c p : Addr} {n : Int} (d : Deck H a c n) (h : H p = none) : p ∉ [a, c] := by
  obtain ⟨xs, h1⟩ := d.a_some
  obtain ⟨ys, h2⟩ := d.c_some
  exact ne2 (ne_of_none h1 h).symm (ne_of_none h2 h).symm
abbrev MANY : Int := 1000000000
def spDraw : Sp := fun vs H Q _ => ∃ (a c : Addr) (n many : Int), vs = [.ref a, .int many] ∧ Deck H a c n ∧ n ≤ MANY ∧ 0 < many ∧ many.natAbs < 2 ^ 1000 ∧
  ∀ (r : Int) (H' : Hp), 0 ≤ r → r < many → Deck H' a c (n + 1) → Kp [a, c] H H' → Q (.int r) H'
def spDeck (K : PySem.W.Frag) : Sp := fun vs H Q _ => ∃ (s : Addr) (ns : List Int), vs = [.ref s] ∧ SqL K H s (ns.map V.int) ∧ ns.length ≤ 63 ∧
  ∀ (a c : Addr) (H' : Hp), H a = none → H c = none → Kp [] H H' → Deck H' a c 0 → Q (.ref a) H'
/-- an item of a list that is drawn -/
def spOne (K : PySem.W.Frag) : Sp := fun vs H Q _ => ∃ (a c l : Addr) (n : Int) (xs : List V), vs = [.ref a, .ref l] ∧ Deck H a c n ∧ n ≤ MANY ∧ SqL K H l xs ∧ l ∉ [a, c] ∧ 0 < xs.length ∧ xs.length ≤ 1000000 ∧
  ∀ (x : V) (H' : Hp), x ∈ xs → Deck H' a c (n + 1) → Kp [a, c] H H' → Q x H'
/-- a sign of a text that is drawn -/
def spOneS : Sp := fun vs H Q _ => ∃ (a c : Addr) (n : Int) (z : Str), vs = [.ref a, .str z] ∧ Deck H a c n ∧ n ≤ MANY ∧ 0 < z.length ∧ z.length ≤ 1000000 ∧ ∀ (ch : Nat) (H' : Hp), ch ∈ z.cps.toList → Deck H' a c (n + 1) → Kp [a, c] H H' → Q (.str ⟨#[ch]⟩) H'
def spOne2 (K : PySem.W.Frag) : Sp := fun vs H Q E => spOne K vs H Q E ∨ spOneS vs H Q E
theorem pow1000 {m : Nat} (h : m ≤ 1000000) : ((m : Int)).natAbs < 2 ^ 1000 := by
  have e : ((m : Int)).natAbs < 2 ^ 30 := by
    have e2 : (2 : Nat) ^ 30 = 1073741824 := by decide
    rw [e2]
    omega
  exact Nat.lt_of_lt_of_le e (Nat.pow_le_pow_right (by decide) (by decide))
/-- a def of the text, as the top has left it -/
structure DA (K : PySem.W.Frag) (mg : Str → Option Value) (x : Str) (st : Stmt) (ps : List Str) where
  f : Addr
  fd : FuncData
  F : Fun K x x st f fd
  b : Binds K fd ps []
  g : mg x = some (.ref f)
/-- a class of the text, a method of it -/
structure CA (K : PySem.W.Frag) (mg : Str → Option Value) (x : Str) where
  C : Addr
  cl : Cls K C
  g : mg x = some (.ref C)
  mks : PySem.W.makesIn K C = true
  kp : PySem.W.keepIn K (.ref C) = true
structure DM (K : PySem.W.Frag) (C : Addr) (m q : Str) (st : Stmt) (ps : List Str) where
  f : Addr
  fd : FuncData
  F : Fun K m q st f fd
  b : Binds K fd ps []
  m : Meth K C m f
theorem atI_mem {α : Type} {xs : List α} {i : Int} (h0 : 0 ≤ i) (h : i < (xs.length : Int)) : ∃ v, atI xs i = some v ∧ v ∈ xs := by
  have hi : i.toNat < xs.length := by omega
  have e : i = ((i.toNat : Nat) : Int) := by omega
  have q : atI xs ((i.toNat : Nat) : Int) = some xs[i.toNat] := atI_nat (List.getElem?_eq_getElem hi)
  rw [← e] at q
  exact ⟨xs[i.toNat], q, List.getElem_mem hi⟩
theorem ixN_nat {n : Nat} {i : Int} (h0 : 0 ≤ i) (h : i < (n : Int)) : ixN n i = some i.toNat := by
  unfold ixN
  rw [if_pos h0, if_pos h]
theorem isi_ss : kitB "str" "str" = some true := by decide +kernel
theorem isi_is : kitB "int" "str" = some false := by decide +kernel
theorem isi_ts : kitB "tuple" "str" = some false := by decide +kernel
theorem isi_si : kitB "str" "int" = some false := by decide +kernel
theorem isi_ii : kitB "int" "int" = some true := by decide +kernel
theorem isi_ti : kitB "tuple" "int" = some false := by decide +kernel
theorem isi_st : kitB "str" "tuple" = some false := by decide +kernel
theorem isi_it : kitB "int" "tuple" = some false := by decide +kernel
theorem isi_tt : kitB "tuple" "tuple" = some true := by decide +kernel
theorem cpow_of {i j : Int} (h : 0 ≤ j ∧ j ≤ 1000000 ∧ i.natAbs < 2 ^ 64) : CPow i j := h
theorem cmul_of {i j : Int} (h : -(2 ^ 64) < i ∧ i < 2 ^ 64) : CMul i j := .inl h
theorem cdivn_of {i j : Int} (h : j ≠ 0 ∧ j.natAbs < 1073741824) : CDivN i j := h
theorem lt_lit {n : Nat} (h : Nat.ble (n + 1) 1000 = true) : n < 1000 := Nat.le_of_ble_eq_true h
theorem le_lit {n : Nat} (h : Nat.ble n 1000 = true) : n ≤ 1000000 := Nat.le_trans (Nat.le_of_ble_eq_true h) (by decide)
theorem pos_lit {n : Nat} (h : Nat.ble 1 n = true) : 0 < n := Nat.le_of_ble_eq_true h
theorem sz_lit {n : Nat} (h : Nat.ble n 1000 = true) : n ≤ sizeLine := Nat.le_trans (Nat.le_of_ble_eq_true h) (by decide)
theorem sz_lt {n : Nat} (h : n ≤ 1000000) : n < sizeLine := Nat.lt_of_le_of_lt h (by decide)
theorem sz_le {n : Nat} (h : n ≤ 1000000) : n ≤ sizeLine := Nat.le_of_lt (sz_lt h)
end EH
namespace EH
open PySem L2 PyProof.Rows
/-! ### defs that write texts of displays: nothing of that sort is under way around them -/
def Free (A : Around) : Prop := A.guards = some []
structure FnG (P : Program) (w : World) (K : PySem.W.Frag) (mg : Str → Option Value) (base : Heap) (CX : CXT) (k : Nat) (f : Addr) (fd : FuncData) (ps : List Str) (sp : Sp) : Prop where
  len : ∀ vs H Q E, sp vs H Q E → vs.length = ps.length
  run : ∀ (A : Around) (outer : List Env) (s : Shared) (H : Hp) (args : Args) (us : List Value) (vs : List V) (Q : VK) (E : XK),
    Free A → Room k A → Env0 P w K mg base A outer s H → BindsTo s fd args (ps.zip us) → Vals vs us → sp vs H Q E → codeAny (model P w) A (.call (.ref f) args) (CR CX outer P w H s Q E) s
section
variable {P : Program} {w : World} {K : PySem.W.Frag} {mg : Str → Option Value} {base : Heap} {CX : CXT}
theorem Fun.okG {x qual : Str} {st : Stmt} {f : Addr} {fd : FuncData} {N ps : List Str} {k : Nat} {sp : Sp} (F : Fun K x qual st f fd) (S : FnScope N ps (defScope st)) (len : ∀ vs H Q E, sp vs H Q E → vs.length = ps.length)
    (body : ∀ (cdv : Value) (A : Around) (outer : List Env) (s : Shared) (H : Hp) (vs : List V) (Q : VK) (E : XK), Free (A.deeper (envOfC qual (defScope st) s.heap.objs.size f cdv)) →
      Room k (A.deeper (envOfC qual (defScope st) s.heap.objs.size f cdv)) → sp vs H Q E →
      ∃ t, PSs (cxOf CX0 P w K mg base N qual (defScope st) f cdv A outer s H E).nox (defBody st) t ∧ t { nx := fun _ H' => Q .non H', rt := Q } (start N vs) H) : FnG P w K mg base CX0 (k + 1) f fd ps sp := by
  refine ⟨len, fun A outer s H args us vs Q E fr hr e0 hb r hsp => ?_⟩
  obtain ⟨oc, od, kV, doc, pm, an, cdv, ct, osl, rfl, lk, hcd⟩ := F.ex
  have hl := len _ _ _ _ hsp
  have KX : K.In s.heap := e0.mod.kin.keeps fun b o e => (e0.bs b o e).1
  have lim : s.heap.NoLimit := e0.mod.nolimit.keeps fun b o e => (e0.bs b o e).1
  have kinds : ∀ y ∈ ps.zip us, (defScope st).names.lookup y.1 = some .local ∨ ((defScope st).names.lookup y.1 = some .cell ∧ ((cellsFrom (s.heap.objs.size + 1) (defScope st).names []).lookup y.1).isSome = true) := by
    rintro ⟨n, v⟩ hy
    rcases S.par n (List.of_mem_zip hy).1 with q | q
    · exact .inl q
    · exact .inr ⟨q, PySem.W.cellsFrom_some _ _ _ (.inl q)⟩
  refine codeAny_call_function hr.depth (KX _ _ lk) rfl S.co S.gen rfl (PySem.W.codeRec_of KX hcd) (hb _ _ _ _ ?_)
  refine wpAny_newFunctionEnv_cells S.kind kinds fun env he s1 y => ?_
  subst he
  refine ⟨lim.keeps y.toInCall.keep, codeAny_func ?_⟩
  obtain ⟨t, ht, hq⟩ := body cdv A outer s H vs Q E fr (hr.deeper _) hsp
  have I0 : Inv (cxOf CX0 P w K mg base N qual (defScope st) f cdv A outer s H E) [] (start N vs) H s1 := inv_start S hr.hd e0 hl r y
  refine wpAny_mono (ht.nox.run [] s1 (start N vs) H _ I0 hq) (fun fl s' hs => ?_) fun _ _ z => z
  have close : ∀ {σ' : L2.St} {H' : Hp} {v : V} {u : Value}, Inv (cxOf CX0 P w K mg base N qual (defScope st) f cdv A outer s H E) [] σ' H' s' → RelV v u → Q v H' → CE outer P w H s Q u s' :=
    fun J rv q => ⟨_, _, J.os, J.bare, J.base, J.hok, rv, q⟩
  cases fl with
  | ret u => obtain ⟨v, σ', H', J, rv, q⟩ := hs; exact close J rv q
  | next => obtain ⟨σ', H', J, q⟩ := hs; exact close (v := V.non) (u := Value.none) J rfl q
  | brk => obtain ⟨_, _, _, q⟩ := hs; exact q.elim
  | cont => obtain ⟨_, _, _, q⟩ := hs; exact q.elim
end
section
variable {X : Cx} {CX : CXT} {k : Nat} {f C : Addr} {fd : FuncData} {ps : List Str} {sp : Sp} {dvs : List V} {ds : List Value} {E : XK} {x m : Str} {p pos apos : Pos} {e o : Expr} {es : List Expr} {ta : TE} {t : TA}
end
/-! ### repr -/
section
variable {X : Cx}
/-- repr of data: the text of the data -/
def rReprD (K : PySem.W.Frag) : List V → Hp → VK → Prop := fun xs H Q => ∃ x d, xs = [x] ∧ Dp K H x d ∧ d.showable = true ∧ d.shown.length ≤ sizeLine ∧ d.depth ≤ 60 ∧ Q (.str d.shown) H
theorem call_reprD (fr : Free X.A) (hu : X.A.units + 64 < cLine) : CallR X (.builtin "repr") (rReprD X.K) := by
  intro pins s σ H xs us Q I r h
  obtain ⟨x, d, rfl, hd, sh, sz, dp, q⟩ := h
  obtain ⟨u, rfl, rx⟩ := vals1 r
  obtain ⟨as, rd⟩ := Dp.reads I d x u hd rx
  have nd : d.hasDict = false := by
    have all : ∀ (d : PyData) (v : V), Dp X.K H v d → d.hasDict = false := by
      intro d v h
      exact Dp.rec (motive_1 := fun v d _ => d.hasDict = false) (motive_2 := fun vs ds _ => PyData.hasDictAll ds = false) (by simp only [PyData.hasDict]) (fun _ => by simp only [PyData.hasDict]) (fun _ => by simp only [PyData.hasDict])
        (fun _ => by simp only [PyData.hasDict]) (fun _ _ ih => by simp only [PyData.hasDict]; exact ih) (fun _ _ ih => by simp only [PyData.hasDict]; exact ih) (by simp only [PyData.hasDictAll]) (fun _ _ i1 i2 => by simp only [PyData.hasDictAll, i1, i2, Bool.or_self]) h
    exact all d x hd
  cases hd with
  | non => cases (show u = Value.none from rx); exact PySem.P.repr_of_none ⟨.str _, H, I.tok _, ⟨_, rfl⟩, q⟩
  | bl b =>
    cases (show u = Value.bool b from rx)
    refine PySem.P.repr_of_bool ⟨.str _, H, I.tok _, ⟨_, rfl⟩, ?_⟩
    rw [PyData.shown_bool] at q
    exact q
  | int i =>
    obtain ⟨t, rfl⟩ := (show ∃ t, u = Value.int i t from rx)
    refine PySem.P.repr_of_int (by simpa [PyData.showable] using sh) ⟨.str _, H, I.tok _, ⟨_, rfl⟩, ?_⟩
    rw [PyData.shown_int] at q
    exact q
  | str y =>
    obtain ⟨t, rfl⟩ := (show ∃ t, u = Value.str y t from rx)
    refine PySem.P.repr_of_str ⟨.str _, H, I.tok _, ⟨_, rfl⟩, ?_⟩ ?_
    · simp only [PyData.shown] at q; exact q
    · simp only [PyData.shown] at sz; exact sz
  | lst h1 h2 =>
    cases rx
    exact repr_of_reads' rd sh (PyData.noDict_hsm nd) fr (by omega) (fun _ _ z => z) (fun h' t tk hk => ⟨.str _, H, I.kept hk, ⟨_, rfl⟩, q⟩) sz
  | tup h1 h2 =>
    cases rx
    exact repr_of_reads' rd sh (PyData.noDict_hsm nd) fr (by omega) (fun _ _ z => z) (fun h' t tk hk => ⟨.str _, H, I.kept hk, ⟨_, rfl⟩, q⟩) sz
end
/-! ### a law's own head, its def of the kind FnG -/
section
variable {P : Program} {w : World} {K : PySem.W.Frag} {mg mb : Str → Option Value} {CX : CXT} {k : Nat} {fa a : Addr} {fd : FuncData} {x : Str} {sp : Sp} {s₁ : Shared} {vs : List Value} {ns : List Int}
theorem law_coreG (KX : K.In s₁.heap) (hns : s₁.heap.Ns mainGlobals mg) (hb : s₁.heap.Ns builtinsNs mb) (hbb : ∀ x : Str, x ≠ "__name__" → mb x = bootBuiltins x) (hlim : s₁.heap.NoLimit) (hg : s₁.gens = #[])
    (ha : s₁.heap.get? a = some { cls := .type "list", data := .seq vs.toArray }) (hr : Room k callerA)
    (F : ∀ base : Heap, K.In base → base.Ns mainGlobals mg → FnG P w K mg base CX k fa fd [x] sp) (hbind : ∀ (s : Shared) (u : Value), BindsTo s fd ⟨[u], []⟩ [(x, u)])
    (hCX : ∀ H e s', CX [] H s₁ (fun _ _ _ => False) e s' → False) (H : Hp) (hO : Only H) (hsp : sp [.ref a] H (fun v _ => v = .bl true) fun _ _ _ => False) (hok : HOk P w H s₁.heap) (hA : ∀ b, H b ≠ none → b = a) (hK : H a ≠ none → K.lookup a = none) :
    codeAny (model P w) callerA (.call (.ref fa) ⟨[.ref a], []⟩) (fun r s' => r = .ok (.ret (.bool true)) ∧ OldK s₁.heap s'.heap ∧ s'.os = s₁.os ∧ AllBare s'.gens) s₁ := by
  have un_a : ∀ {b : Addr}, b ≠ a → H b = none := fun {b} h => by
    cases q : H b with
    | none => rfl
    | some u => exact absurd (hA b (by rw [q]; exact fun z => nomatch z)) h
  have dictFree : ∀ {b : Addr} {o : Obj} {es : Array DictEntry} {ep : Nat}, s₁.heap.get? b = some o → o.data = .dict es ep → H b = none := fun {b o es ep} e d => by
    refine un_a fun z => ?_
    subst z
    rw [ha] at e
    cases e
    cases (show Data.seq vs.toArray _ = Data.dict es ep from d)
  have nsK : ∀ {b : Addr} {m : Str → Option Value}, s₁.heap.Ns b m → (hidT s₁.heap H).Ns b m := fun ⟨o, es, ep, e, d, r⟩ => ⟨o, es, ep, hidT_get e (dictFree e d), d, r⟩
  have kin : K.In (hidT s₁.heap H) := fun b o e => by
    refine hidT_get (KX b o e) ?_
    by_cases z : b = a
    · subst z
      cases q : H b with
      | none => rfl
      | some u => rw [hK (by rw [q]; exact fun z => nomatch z)] at e; cases e
    · exact un_a z
  have md : Mod K mg (hidT s₁.heap H) := ⟨kin, nsK hns, ⟨mb, nsK hb, hbb⟩, by obtain ⟨mc, h1, h2⟩ := hlim; exact ⟨mc, nsK h1, h2⟩⟩
  have e0 : Env0 P w K mg (hidT s₁.heap H) callerA [] s₁ H := ⟨rfl, md, fun _ _ e => of_hidT e, Nat.le_of_eq (hidT_size _ _), trivial, (fun b z => absurd (show b ∈ ([] : List Addr) from z) (by simp)), hok, .of_eq hg⟩
  refine codeAny_mono ((F _ kin (nsK hns)).run callerA [] s₁ H ⟨[.ref a], []⟩ [.ref a] [.ref a] _ _ rfl hr e0 (hbind s₁ (.ref a)) (.cons rfl .nil) hsp) fun r s' h => ?_
  cases r with
  | error e => exact (hCX H e s' h).elim
  | ok fl => cases fl with
    | next => exact h.elim
    | brk => exact h.elim
    | cont => exact h.elim
    | ret u =>
      obtain ⟨v, H', os, bare, un, hok', rv, q⟩ := h
      cases (show v = .bl true from q)
      cases (show u = Value.bool true from rv)
      refine ⟨rfl, OldK.of_keep fun b o e => ?_, os, bare⟩
      rcases hO b with z | ⟨ob, xs, z⟩
      · exact un.keep b o e z (fun y => nomatch (show b ∈ ([] : List Addr) from y)) (fun y => nomatch y)
      · obtain ⟨e1, _⟩ := hok b _ z
        obtain ⟨e2, _⟩ := hok' b _ (un.frzs b ob _ z)
        rw [e] at e1
        cases e1
        exact e2
theorem law_callG (KX : K.In s₁.heap) (hns : s₁.heap.Ns mainGlobals mg) (hb : s₁.heap.Ns builtinsNs mb) (hbb : ∀ x : Str, x ≠ "__name__" → mb x = bootBuiltins x) (hlim : s₁.heap.NoLimit) (hg : s₁.gens = #[])
    (ha : s₁.heap.get? a = some { cls := .type "list", data := .seq vs.toArray }) (hi : IntsAre vs ns) (hl : ns.length ≤ sizeLine) (hr : Room k callerA)
    (F : ∀ base : Heap, K.In base → base.Ns mainGlobals mg → FnG P w K mg base CX k fa fd [x] sp) (hbind : ∀ (s : Shared) (u : Value), BindsTo s fd ⟨[u], []⟩ [(x, u)])
    (hsp : ∀ H : Hp, Only H → SqL K H a (ns.map V.int) → sp [.ref a] H (fun v _ => v = .bl true) fun _ _ _ => False) (hCX : ∀ H e s', CX [] H s₁ (fun _ _ _ => False) e s' → False) :
    codeAny (model P w) callerA (.call (.ref fa) ⟨[.ref a], []⟩) (fun r s' => r = .ok (.ret (.bool true)) ∧ OldK s₁.heap s'.heap ∧ s'.os = s₁.os ∧ AllBare s'.gens) s₁ := by
  have rv := vals_ints hi
  have core := law_coreG (k := k) (fa := fa) (sp := sp) KX hns hb hbb hlim hg ha hr F hbind hCX
  cases hk : K.lookup a with
  | some o =>
    have e := KX a o hk
    rw [ha] at e
    cases e
    have hS : SqL K (fun _ => none) a (ns.map V.int) := .inr ⟨_, vs.toArray, _, hk, rfl, rfl, rfl, by rw [List.size_toArray, hi.length]; exact hl, by simpa using rv⟩
    exact core (fun _ => none) (fun _ => .inl rfl) (hsp _ (fun _ => .inl rfl) hS) (fun b u z => nomatch (show (none : Option HO) = some u from z)) (fun b z => absurd rfl z) fun z => absurd rfl z
  | none =>
    have at_a : ∀ b : Addr, b = a → (fun b => if b = a then some (HO.frz { cls := .type "list", data := .seq vs.toArray } (.lst (ns.map V.int))) else none) b = some (.frz { cls := .type "list", data := .seq vs.toArray } (.lst (ns.map V.int))) := fun b z => if_pos z
    have off_a : ∀ b : Addr, b ≠ a → (fun b => if b = a then some (HO.frz { cls := .type "list", data := .seq vs.toArray } (.lst (ns.map V.int))) else none) b = none := fun b z => if_neg z
    generalize (fun b => if b = a then some (HO.frz { cls := .type "list", data := .seq vs.toArray } (.lst (ns.map V.int))) else none) = H0 at at_a off_a
    have only : Only H0 := fun b => by
      by_cases z : b = a
      · exact .inr ⟨_, _, at_a b z⟩
      · exact .inl (off_a b z)
    refine core H0 only (hsp H0 only (.inl (.inr ⟨_, at_a a rfl⟩))) (fun b u z => ?_) (fun b z => ?_) fun _ => hk
    · by_cases y : b = a
      · have e := (at_a b y).symm.trans z
        cases e
        subst y
        exact ⟨ha, by rw [List.length_map]; exact hl, vs, _, rv, ha⟩
      · exact nomatch (off_a b y).symm.trans z
    · by_cases y : b = a
      · exact y
      · exact absurd (off_a b y) z
end
theorem walk_ofG {l : PySem.W.OpenLaw} {n k : Nat} {q : Program} {loose : List Str} {XP : (Str → Option Value) → Heap → Prop} {YP : World → Heap → Prop} {d : DefRec} {K : Params → PySem.W.Frag} {sp : PySem.W.Frag → Sp} {x : Str}
    (hn : l.most = some n) (hn2 : n ≤ sizeLine) (hdf : d.params.defaults = []) (hr : Room k callerA) (hY : ∀ (w : World) (h : Heap), YP w h → (K w.params).In h)
    (F : ∀ (w : World) (mg : Str → Option Value) (fa : Addr) (h : Heap), (K w.params).In h → h.Ns mainGlobals mg → mg d.name = some (.ref fa) →
      ∃ fd : FuncData, (∀ (s : Shared) (u : Value), BindsTo s fd ⟨[u], []⟩ [(x, u)]) ∧ ∀ base : Heap, (K w.params).In base → base.Ns mainGlobals mg → FnG l.prog w (K w.params) mg base CX0 k fa fd [x] (sp (K w.params)))
    (hsp : ∀ (K : PySem.W.Frag) (H : Hp) (a : Addr) (ns : List Int), ns.length ≤ n → SqL K H a (ns.map V.int) → sp K [.ref a] H (fun v _ => v = .bl true) fun _ _ _ => False) :
    PySem.W.WalkO q loose XP YP l.row.toRowW d [] (fun f vs => PySem.call f vs) := by
  refine Att.attach_call hn hdf fun w s₀ s₁ mg mb fa o pm cd doc a vs ns G Y ho hd hcd hmg hobj hints hlen hg => ?_
  obtain ⟨fd, hb, hF⟩ := F w mg fa _ (hY w _ Y) G.T.g hmg
  exact law_callG (hY w _ Y) G.T.g G.T.b G.T.builtins G.T.nolimit hg hobj hints (Nat.le_trans hlen hn2) hr hF hb (fun H _ hS => hsp _ H a ns hlen hS) fun _ _ _ z => z
def spLaw (K : PySem.W.Frag) : Sp := fun vs H Q _ => ∃ (a : Addr) (ns : List Int), vs = [.ref a] ∧ SqL K H a (ns.map V.int) ∧ ns.length ≤ 63 ∧ ∀ H', Q (.bl true) H'
end EH
namespace EH
open PySem L2
/-! ### programs as plain data -/
inductive Ex where
  | num (i : Int) | var (x : Str) | plus (a b : Ex) | minus (a b : Ex) | times (k : Int) (a : Ex)
inductive Ts where
  | less (a b : Ex) | odd (a : Ex) | not (t : Ts)
inductive Sm where
  | set (x : Str) (e : Ex) | half (x : Str) (e : Ex) | tell (e : Ex) | say (w : Str) | stop (w : Str)
  | ite (t : Ts) (yes no : List Sm) | rep (k : Nat) (b : List Sm)
/-! what a value is in the heap: tuples of tuples, ints, texts -/
mutual
def Tr (H : Hp) : PyData → V → Prop
  | .none, v => v = .non
  | .bool b, v => v = .bl b
  | .int i, v => v = .int i
  | .str x, v => v = .str x
  | .tuple ds, v => ∃ a xs, v = .ref a ∧ H a = some (.tup xs) ∧ TrAll H ds xs
  | .list _, _ => False
  | .dict _, _ => False
def TrAll (H : Hp) : List PyData → List V → Prop
  | [], xs => xs = []
  | d :: ds, xs => ∃ v vs, xs = v :: vs ∧ Tr H d v ∧ TrAll H ds vs
end
mutual
theorem Tr.mono {H H' : Hp} (k : ∀ b xs, H b = some (.tup xs) → H' b = some (.tup xs)) : ∀ (d : PyData) (v : V), Tr H d v → Tr H' d v
  | .none, v, h => by simp only [Tr] at h ⊢; exact h
  | .bool b, v, h => by simp only [Tr] at h ⊢; exact h
  | .int i, v, h => by simp only [Tr] at h ⊢; exact h
  | .str x, v, h => by simp only [Tr] at h ⊢; exact h
  | .tuple ds, v, h => by
    simp only [Tr] at h ⊢
    obtain ⟨a, xs, e, h1, h2⟩ := h
    exact ⟨a, xs, e, k a xs h1, TrAll.mono k ds xs h2⟩
  | .list _, v, h => by simp only [Tr] at h
  | .dict _, v, h => by simp only [Tr] at h
theorem TrAll.mono {H H' : Hp} (k : ∀ b xs, H b = some (.tup xs) → H' b = some (.tup xs)) : ∀ (ds : List PyData) (vs : List V), TrAll H ds vs → TrAll H' ds vs
  | [], vs, h => by simp only [TrAll] at h ⊢; exact h
  | d :: ds, vs, h => by
    simp only [TrAll] at h ⊢
    obtain ⟨v, r, e, h1, h2⟩ := h
    exact ⟨v, r, e, Tr.mono k d v h1, TrAll.mono k ds r h2⟩
end
theorem Kp.tr {S : List Addr} {H H' : Hp} {d : PyData} {v : V} (k : Kp S H H') (h : Tr H d v) : Tr H' d v := Tr.mono k.tup d v h
theorem Kp.trAll {S : List Addr} {H H' : Hp} {d : List PyData} {v : List V} (k : Kp S H H') (h : TrAll H d v) : TrAll H' d v := TrAll.mono k.tup d v h
mutual
theorem Tr.dp {K : PySem.W.Frag} {H : Hp} : ∀ (d : PyData) (v : V), Tr H d v → Dp K H v d
  | .none, v, h => by simp only [Tr] at h; subst h; exact .non
  | .bool b, v, h => by simp only [Tr] at h; subst h; exact .bl b
  | .int i, v, h => by simp only [Tr] at h; subst h; exact .int i
  | .str x, v, h => by simp only [Tr] at h; subst h; exact .str x
  | .tuple ds, v, h => by
    simp only [Tr] at h
    obtain ⟨a, xs, e, h1, h2⟩ := h
    subst e
    exact .tup (SqT.of h1) (TrAll.dp ds xs h2)
  | .list _, v, h => by simp only [Tr] at h
  | .dict _, v, h => by simp only [Tr] at h
theorem TrAll.dp {K : PySem.W.Frag} {H : Hp} : ∀ (ds : List PyData) (vs : List V), TrAll H ds vs → DpAll K H vs ds
  | [], vs, h => by simp only [TrAll] at h; subst h; exact .nil
  | d :: ds, vs, h => by
    simp only [TrAll] at h
    obtain ⟨v, r, e, h1, h2⟩ := h
    subst e
    exact .cons (Tr.dp d v h1) (TrAll.dp ds r h2)
end
theorem TrAll.length {H : Hp} : ∀ {ds : List PyData} {vs : List V}, TrAll H ds vs → vs.length = ds.length
  | [], vs, h => by simp only [TrAll] at h; subst h; rfl
  | d :: ds, vs, h => by
    simp only [TrAll] at h
    obtain ⟨v, r, e, h1, h2⟩ := h
    subst e
    rw [List.length_cons, List.length_cons, TrAll.length h2]
theorem TrAll.get {H : Hp} : ∀ {ds : List PyData} {vs : List V} {i : Nat} {d : PyData}, TrAll H ds vs → ds[i]? = some d → ∃ v, vs[i]? = some v ∧ Tr H d v
  | [], vs, i, d, h, e => by simp at e
  | d :: ds, vs, 0, d', h, e => by
    simp only [TrAll] at h
    obtain ⟨v, r, rfl, h1, h2⟩ := h
    cases e
    exact ⟨v, rfl, h1⟩
  | d :: ds, vs, i + 1, d', h, e => by
    simp only [TrAll] at h
    obtain ⟨v, r, rfl, h1, h2⟩ := h
    exact TrAll.get (i := i) h2 e
theorem TrAll.append {H : Hp} : ∀ {ds es : List PyData} {vs ws : List V}, TrAll H ds vs → TrAll H es ws → TrAll H (ds ++ es) (vs ++ ws)
  | [], es, vs, ws, h, g => by simp only [TrAll] at h; subst h; exact g
  | d :: ds, es, vs, ws, h, g => by
    simp only [TrAll] at h
    obtain ⟨v, r, rfl, h1, h2⟩ := h
    simp only [List.cons_append, TrAll]
    exact ⟨v, r ++ ws, rfl, h1, TrAll.append h2 g⟩
/-! what a tuple is -/
theorem tr_int {H : Hp} {i : Int} {v : V} (h : Tr H (.int i) v) : v = .int i := by simp only [Tr] at h; exact h
theorem tr_str {H : Hp} {x : Str} {v : V} (h : Tr H (.str x) v) : v = .str x := by simp only [Tr] at h; exact h
theorem tr_tup {H : Hp} {ds : List PyData} {v : V} (h : Tr H (.tuple ds) v) : ∃ a xs, v = .ref a ∧ H a = some (.tup xs) ∧ TrAll H ds xs := by simp only [Tr] at h; exact h
theorem tr_tup2 {H : Hp} {d1 d2 : PyData} {v : V} (h : Tr H (.tuple [d1, d2]) v) : ∃ a x1 x2, v = .ref a ∧ H a = some (.tup [x1, x2]) ∧ Tr H d1 x1 ∧ Tr H d2 x2 := by
  simp only [Tr, TrAll] at h
  obtain ⟨a, xs, rfl, h1, x1, _, rfl, t1, x2, _, rfl, t2, rfl⟩ := h
  exact ⟨a, x1, x2, rfl, h1, t1, t2⟩
theorem tr_tup3 {H : Hp} {d1 d2 d3 : PyData} {v : V} (h : Tr H (.tuple [d1, d2, d3]) v) : ∃ a x1 x2 x3, v = .ref a ∧ H a = some (.tup [x1, x2, x3]) ∧ Tr H d1 x1 ∧ Tr H d2 x2 ∧ Tr H d3 x3 := by
  simp only [Tr, TrAll] at h
  obtain ⟨a, xs, rfl, h1, x1, _, rfl, t1, x2, _, rfl, t2, x3, _, rfl, t3, rfl⟩ := h
  exact ⟨a, x1, x2, x3, rfl, h1, t1, t2, t3⟩
theorem tr_tup4 {H : Hp} {d1 d2 d3 d4 : PyData} {v : V} (h : Tr H (.tuple [d1, d2, d3, d4]) v) : ∃ a x1 x2 x3 x4, v = .ref a ∧ H a = some (.tup [x1, x2, x3, x4]) ∧ Tr H d1 x1 ∧ Tr H d2 x2 ∧ Tr H d3 x3 ∧ Tr H d4 x4 := by
  simp only [Tr, TrAll] at h
  obtain ⟨a, xs, rfl, h1, x1, _, rfl, t1, x2, _, rfl, t2, x3, _, rfl, t3, x4, _, rfl, t4, rfl⟩ := h
  exact ⟨a, x1, x2, x3, x4, rfl, h1, t1, t2, t3, t4⟩
theorem mk_tup {H : Hp} {ds : List PyData} {a : Addr} {xs : List V} (h : H a = some (.tup xs)) (t : TrAll H ds xs) : Tr H (.tuple ds) (.ref a) := by simp only [Tr]; exact ⟨a, xs, rfl, h, t⟩
theorem trs_nil {H : Hp} : TrAll H [] [] := by simp only [TrAll]
theorem trs_cons {H : Hp} {d : PyData} {ds : List PyData} {v : V} {vs : List V} (h : Tr H d v) (t : TrAll H ds vs) : TrAll H (d :: ds) (v :: vs) := by simp only [TrAll]; exact ⟨v, vs, rfl, h, t⟩
theorem mk_int {H : Hp} {i : Int} : Tr H (.int i) (.int i) := by simp only [Tr]
theorem mk_str {H : Hp} {x : Str} : Tr H (.str x) (.str x) := by simp only [Tr]
/-! their data -/
def Ex.d : Ex → PyData
  | .num i => .int i
  | .var x => .str x
  | .plus a b => .tuple [.str "plus", a.d, b.d]
  | .minus a b => .tuple [.str "minus", a.d, b.d]
  | .times k a => .tuple [.str "times", .int k, a.d]
def Ts.d : Ts → PyData
  | .less a b => .tuple [.str "less", a.d, b.d]
  | .odd a => .tuple [.str "odd", a.d]
  | .not t => .tuple [.str "not", t.d]
mutual
def Sm.d : Sm → PyData
  | .set x e => .tuple [.str "set", .str x, e.d]
  | .half x e => .tuple [.str "half", .str x, e.d]
  | .tell e => .tuple [.str "tell", e.d]
  | .say w => .tuple [.str "say", .str w]
  | .stop w => .tuple [.str "stop", .str w]
  | .ite t y n => .tuple [.str "if", t.d, .tuple (Sm.ds y), .tuple (Sm.ds n)]
  | .rep k b => .tuple [.str "repeat", .int k, .tuple (Sm.ds b)]
def Sm.ds : List Sm → List PyData
  | [] => []
  | s :: r => s.d :: Sm.ds r
end
/-! ### what they are worth -/
def Ex.ev (env : Str → Int) : Ex → Int
  | .num i => i
  | .var x => env x
  | .plus a b => a.ev env + b.ev env
  | .minus a b => a.ev env - b.ev env
  | .times k a => k * a.ev env
def Ts.ev (env : Str → Int) : Ts → Bool
  | .less a b => decide (a.ev env < b.ev env)
  | .odd a => decide ((a.ev env) % 2 = 1)
  | .not t => !t.ev env
/-- a name that can be shown -/
def NmOk (x : Str) : Prop := PyData.strOk x = true ∧ x.length ≤ 1000
/-- factors are small -/
def Ex.ok : Ex → Prop
  | .num i => -99 ≤ i ∧ i ≤ 99
  | .var x => NmOk x
  | .plus a b => a.ok ∧ b.ok
  | .minus a b => a.ok ∧ b.ok
  | .times k a => -9 ≤ k ∧ k ≤ 9 ∧ a.ok
def Ex.deep : Ex → Nat
  | .num _ => 1
  | .var _ => 1
  | .plus a b => max a.deep b.deep + 1
  | .minus a b => max a.deep b.deep + 1
  | .times _ a => a.deep + 1
/-! ### places -/
mutual
def Sm.pl : Sm → Nat
  | .ite _ y n => 1 + (Sm.pls y + Sm.pls n)
  | .rep _ b => 1 + Sm.pls b
  | .set _ _ => 1
  | .half _ _ => 1
  | .tell _ => 1
  | .say _ => 1
  | .stop _ => 1
def Sm.pls : List Sm → Nat
  | [] => 0
  | s :: r => s.pl + Sm.pls r
end
mutual
def Sm.nest : Sm → Nat
  | .ite _ y n => max (Sm.nests y) (Sm.nests n) + 1
  | .rep _ b => Sm.nests b + 1
  | .set _ _ => 0
  | .half _ _ => 0
  | .tell _ => 0
  | .say _ => 0
  | .stop _ => 0
def Sm.nests : List Sm → Nat
  | [] => 0
  | s :: r => max s.nest (Sm.nests r)
end
def Sm.blks : Sm → List (List Sm)
  | .ite _ y n => [y, n]
  | .rep _ b => [b]
  | .set _ _ => []
  | .half _ _ => []
  | .tell _ => []
  | .say _ => []
  | .stop _ => []
theorem Sm.pl_blks : ∀ s : Sm, s.pl = 1 + ((Sm.blks s).map Sm.pls).sum
  | .ite _ y n => by simp [Sm.pl, Sm.blks]
  | .rep _ b => by simp [Sm.pl, Sm.blks]
  | .set _ _ => by simp [Sm.pl, Sm.blks]
  | .half _ _ => by simp [Sm.pl, Sm.blks]
  | .tell _ => by simp [Sm.pl, Sm.blks]
  | .say _ => by simp [Sm.pl, Sm.blks]
  | .stop _ => by simp [Sm.pl, Sm.blks]
theorem Sm.pl_pos (s : Sm) : 0 < s.pl := by rw [Sm.pl_blks]; omega
theorem Sm.len_pls : ∀ l : List Sm, l.length ≤ Sm.pls l
  | [] => by simp
  | s :: r => by
    have := Sm.len_pls r
    have := s.pl_pos
    simp only [Sm.pls, List.length_cons]
    omega
theorem Sm.nest_mem : ∀ {l : List Sm} {s : Sm}, s ∈ l → s.nest ≤ Sm.nests l
  | [], s, h => by cases h
  | t :: r, s, h => by
    simp only [Sm.nests]
    rcases List.mem_cons.mp h with rfl | h
    · omega
    · have := Sm.nest_mem h
      omega
theorem Sm.pl_mem : ∀ {l : List Sm} {s : Sm}, s ∈ l → s.pl ≤ Sm.pls l
  | [], s, h => by cases h
  | t :: r, s, h => by
    simp only [Sm.pls]
    rcases List.mem_cons.mp h with rfl | h
    · omega
    · have := Sm.pl_mem h
      omega
theorem Sm.ds_map : ∀ l : List Sm, Sm.ds l = l.map Sm.d
  | [] => by simp [Sm.ds]
  | s :: r => by simp [Sm.ds, Sm.ds_map r]
theorem fn_no {P : Program} {w : World} {K : PySem.W.Frag} {mg : Str → Option Value} {base : Heap} {k : Nat} {f : Addr} {fd : FuncData} {ps : List Str} {sp : Sp} (no : ∀ vs H Q E, ¬ sp vs H Q E) : FnOk P w K mg base CX0 k f fd ps sp :=
  ⟨fun vs H Q E h => absurd h (no vs H Q E), fun A outer s H args us vs Q E _ _ _ _ h => absurd h (no vs H Q E)⟩
/-! ### the names of a run -/
def EnvRel (kvs : List (Key × V)) (env : Str → Int) : Prop := ∀ y : Str, (valV kvs (Sum.inr y)).getD (.int 0) = .int (env y)
/-- expressions at most three deep -/
def Ts.ok : Ts → Prop
  | .less a b => (a.ok ∧ a.deep ≤ 3) ∧ b.ok ∧ b.deep ≤ 3
  | .odd a => a.ok ∧ a.deep ≤ 3
  | .not t => t.ok
def Ts.nots : Ts → Nat
  | .less _ _ => 0
  | .odd _ => 0
  | .not t => t.nots + 1
/-! ### runs as plain functions -/
structure Cs where
  env : Str → Int
  said : List Key
  turns : List Int
def setE (env : Str → Int) (x : Str) (v : Int) : Str → Int := fun y => if y = x then v else env y
section
variable (dec : Nat → Int → Int → Int) (ways : Int → Option Int)
def halv (s : Cs) (v p : Int) : Int × Cs :=
  if v % 2 = 0 then (v / 2, s) else
    match ways p with
    | some c => (v / 2 + c, s)
    | none => (v / 2 + dec s.turns.length v p, { s with turns := s.turns ++ [dec s.turns.length v p] })
def iterN : Nat → (Cs → Option Str × Cs) → Cs → Option Str × Cs
  | 0, _, s => (none, s)
  | n + 1, f, s => match f s with
    | (some c, s') => (some c, s')
    | (none, s') => iterN n f s'
mutual
def Sm.run : Sm → Int → Cs → Option Str × Cs
  | .set x e, _, s => (none, { s with env := setE s.env x (e.ev s.env) })
  | .half x e, p, s => (none, { (halv dec ways s (e.ev s.env) p).2 with env := setE s.env x (halv dec ways s (e.ev s.env) p).1 })
  | .tell e, _, s => (none, { s with said := s.said ++ [Sum.inl (e.ev s.env)] })
  | .say c, _, s => (none, { s with said := s.said ++ [Sum.inr c] })
  | .stop c, _, s => (some c, s)
  | .ite t y n, p, s => if t.ev s.env then Sm.runs y (p + 1) s else Sm.runs n (p + 1 + (Sm.pls y : Int)) s
  | .rep k b, p, s => iterN k (fun s => Sm.runs b (p + 1) s) s
def Sm.runs : List Sm → Int → Cs → Option Str × Cs
  | [], _, s => (none, s)
  | t :: r, p, s => match t.run p s with
    | (some c, s') => (some c, s')
    | (none, s') => Sm.runs r (p + (t.pl : Int)) s'
end
end
mutual
def Sm.wt : Sm → Nat
  | .ite _ y n => 1 + (Sm.wts y + Sm.wts n)
  | .rep k b => 1 + k * Sm.wts b
  | .set _ _ => 1
  | .half _ _ => 1
  | .tell _ => 1
  | .say _ => 1
  | .stop _ => 1
def Sm.wts : List Sm → Nat
  | [] => 0
  | s :: r => s.wt + Sm.wts r
end
mutual
def Sm.ok : Sm → Prop
  | .ite t y n => t.ok ∧ t.nots ≤ 2 ∧ Sm.oks y ∧ Sm.oks n
  | .rep k b => k ≤ 8 ∧ Sm.oks b
  | .set x e => (e.ok ∧ e.deep ≤ 3) ∧ NmOk x
  | .half x e => (e.ok ∧ e.deep ≤ 3) ∧ NmOk x
  | .tell e => e.ok ∧ e.deep ≤ 3
  | .say c => PyData.strOk c = true ∧ c.length ≤ 20
  | .stop c => PyData.strOk c = true ∧ c.length ≤ 20
def Sm.oks : List Sm → Prop
  | [] => True
  | s :: r => s.ok ∧ Sm.oks r
end
/-! ### the object of a run -/
structure Cad where
  x : Addr
  dx : Addr
  nd : Addr
  sd : Addr
  td : Addr
  cd : Addr
  wd : Addr
def cfs (a : Cad) (r : V) : List (Str × V) := [("names", .ref a.nd), ("said", .ref a.sd), ("turns", .ref a.td), ("choices", .ref a.cd), ("ways", .ref a.wd), ("rule", r)]
structure CAt (C : Addr) (H : Hp) (a : Cad) (r : V) (chs : List Int) (wk : List (Key × V)) (n : Nat) (s : Cs) : Prop where
  ob : H a.x = some (.ins C a.dx (cfs a r))
  nm : ∃ kvs, H a.nd = some (.dK kvs) ∧ EnvRel kvs s.env ∧ kvs.length ≤ n + 1
  sa : H a.sd = some (.lst (s.said.map kV))
  tu : H a.td = some (.lst (s.turns.map V.int))
  ch : H a.cd = some (.tup (chs.map V.int))
  wy : H a.wd = some (.dK wk)
  ls : s.said.length ≤ n
  lt : s.turns.length ≤ n
  ne1 : a.nd ≠ a.wd
  ne2 : a.sd ≠ a.td
  lc : chs.length ≤ 1000000
def decC (chs : List Int) : Nat → Int → Int → Int := fun k _ _ => chs.getD k 0
theorem CAt.mono {C : Addr} {H : Hp} {a : Cad} {r : V} {chs : List Int} {wk : List (Key × V)} {n m : Nat} {s : Cs} (c : CAt C H a r chs wk n s) (h : n ≤ m) : CAt C H a r chs wk m s := by
  obtain ⟨kvs, h1, h2, h3⟩ := c.nm
  have := c.ls
  have := c.lt
  exact ⟨c.ob, ⟨kvs, h1, h2, by omega⟩, c.sa, c.tu, c.ch, c.wy, by omega, by omega, c.ne1, c.ne2, c.lc⟩
theorem CAt.kp0 {C : Addr} {H H' : Hp} {a : Cad} {r : V} {chs : List Int} {wk : List (Key × V)} {n : Nat} {s : Cs} (c : CAt C H a r chs wk n s) (k : Kp [] H H') : CAt C H' a r chs wk n s := by
  obtain ⟨kvs, h1, h2, h3⟩ := c.nm
  exact ⟨k.at c.ob, ⟨kvs, k.at h1, h2, h3⟩, k.at c.sa, k.at c.tu, k.tup _ _ c.ch, k.at c.wy, c.ls, c.lt, c.ne1, c.ne2, c.lc⟩
theorem EnvRel.put {kvs : List (Key × V)} {env : Str → Int} (h : EnvRel kvs env) (x : Str) (v : Int) : EnvRel (putK kvs (Sum.inr x) (.int v)) (setE env x v) := by
  intro y
  rw [valV_put]
  unfold setE
  by_cases e : y = x
  · subst e
    rw [if_pos rfl, if_pos rfl]
    rfl
  · rw [if_neg e, if_neg (fun z => e (Sum.inr.inj z))]
    exact h y
/-- the name x stands for v behind a store -/
theorem CAt.put {C : Addr} {H H1 : Hp} {a : Cad} {r : V} {chs : List Int} {wk : List (Key × V)} {n : Nat} {s : Cs} {kvs : List (Key × V)} {x : Str} {v : Int} (c : CAt C H a r chs wk n s) (hk : H a.nd = some (.dK kvs)) (he : EnvRel kvs s.env)
    (hl : kvs.length ≤ n + 1) (e : H1 = upd H a.nd (.dK (putK kvs (Sum.inr x) (.int v)))) : CAt C H1 a r chs wk (n + 1) { s with env := setE s.env x v } ∧ Kp [a.nd, a.sd, a.td] H H1 := by
  have k : Kp [a.nd] H H1 := by rw [e]; exact Kp.put hk (fun _ z => by cases z)
  have l2 := length_putK kvs (Sum.inr x : Key) (V.int v)
  have := c.ls
  have := c.lt
  refine ⟨⟨k.keep _ _ c.ob (EH.ne1 (ne_of c.ob hk (fun z => by cases z))), ⟨_, by rw [e]; exact upd_same, he.put x v, by omega⟩, k.keep _ _ c.sa (EH.ne1 (ne_of c.sa hk (fun z => by cases z))), k.keep _ _ c.tu (EH.ne1 (ne_of c.tu hk (fun z => by cases z))),
    k.tup _ _ c.ch, k.keep _ _ c.wy (EH.ne1 c.ne1.symm), by show s.said.length ≤ _; omega, by show s.turns.length ≤ _; omega, c.ne1, c.ne2, c.lc⟩, k.sub (by simp)⟩
theorem CAt.say {C : Addr} {H H1 : Hp} {a : Cad} {r : V} {chs : List Int} {wk : List (Key × V)} {n : Nat} {s : Cs} {v : Key} (c : CAt C H a r chs wk n s) (h1 : H1 a.sd = some (.lst (s.said.map kV ++ [kV v]))) (k : Kp [a.sd] H H1) :
    CAt C H1 a r chs wk (n + 1) { s with said := s.said ++ [v] } ∧ Kp [a.nd, a.sd, a.td] H H1 := by
  obtain ⟨kvs, g1, g2, g3⟩ := c.nm
  have := c.ls
  have := c.lt
  refine ⟨⟨k.keep _ _ c.ob (EH.ne1 (ne_of c.ob c.sa (fun z => by cases z))), ⟨kvs, k.keep _ _ g1 (EH.ne1 (ne_of g1 c.sa (fun z => by cases z))), g2, by omega⟩, by rw [h1, List.map_append]; rfl, k.keep _ _ c.tu (EH.ne1 c.ne2.symm),
    k.tup _ _ c.ch, k.keep _ _ c.wy (EH.ne1 (ne_of c.wy c.sa (fun z => by cases z))), by show (s.said ++ [v]).length ≤ _; rw [List.length_append, List.length_singleton]; omega, by show s.turns.length ≤ _; omega, c.ne1, c.ne2, c.lc⟩, k.sub (by simp)⟩
theorem CAt.turn {C : Addr} {H H1 : Hp} {a : Cad} {r : V} {chs : List Int} {wk : List (Key × V)} {n : Nat} {s : Cs} {v : Int} (c : CAt C H a r chs wk n s) (h1 : H1 a.td = some (.lst (s.turns.map V.int ++ [.int v]))) (k : Kp [a.td] H H1) :
    CAt C H1 a r chs wk (n + 1) { s with turns := s.turns ++ [v] } ∧ Kp [a.nd, a.sd, a.td] H H1 := by
  obtain ⟨kvs, g1, g2, g3⟩ := c.nm
  have := c.ls
  have := c.lt
  refine ⟨⟨k.keep _ _ c.ob (EH.ne1 (ne_of c.ob c.tu (fun z => by cases z))), ⟨kvs, k.keep _ _ g1 (EH.ne1 (ne_of g1 c.tu (fun z => by cases z))), g2, by omega⟩, k.keep _ _ c.sa (EH.ne1 c.ne2), by rw [h1, List.map_append]; rfl,
    k.tup _ _ c.ch, k.keep _ _ c.wy (EH.ne1 (ne_of c.wy c.tu (fun z => by cases z))), by show s.said.length ≤ _; omega, by show (s.turns ++ [v]).length ≤ _; rw [List.length_append, List.length_singleton]; omega, c.ne1, c.ne2, c.lc⟩, k.sub (by simp)⟩
/-! ### the promises -/
def Sm.plain : Sm → Prop
  | .ite _ _ _ => False
  | .rep _ _ => False
  | .set _ _ => True
  | .half _ _ => True
  | .tell _ => True
  | .say _ => True
  | .stop _ => True
/-! ### the parts of a statement with blocks -/
section
variable (dec : Nat → Int → Int → Int) (ways : Int → Option Int)
end
theorem oks_mem : ∀ {l : List Sm} {s : Sm}, Sm.oks l → s ∈ l → s.ok
  | [], s, _, h => by cases h
  | t :: r, s, o, h => by
    simp only [Sm.oks] at o
    rcases List.mem_cons.mp h with rfl | h
    · exact o.1
    · exact oks_mem o.2 h
def Sm.kw : Sm → Str
  | .ite _ _ _ => "if"
  | .rep _ _ => "repeat"
  | .set _ _ => "set"
  | .half _ _ => "half"
  | .tell _ => "tell"
  | .say _ => "say"
  | .stop _ => "stop"
theorem Sm.head {H : Hp} {v : V} : ∀ {t : Sm}, Tr H t.d v → ∃ u rest, v = .ref u ∧ H u = some (.tup (.str t.kw :: rest))
  | .ite _ _ _, h => by obtain ⟨u, x1, x2, x3, x4, rfl, h1, t1, _⟩ := tr_tup4 h; cases tr_str t1; exact ⟨u, _, rfl, h1⟩
  | .rep _ _, h => by obtain ⟨u, x1, x2, x3, rfl, h1, t1, _⟩ := tr_tup3 h; cases tr_str t1; exact ⟨u, _, rfl, h1⟩
  | .set _ _, h => by obtain ⟨u, x1, x2, x3, rfl, h1, t1, _⟩ := tr_tup3 h; cases tr_str t1; exact ⟨u, _, rfl, h1⟩
  | .half _ _, h => by obtain ⟨u, x1, x2, x3, rfl, h1, t1, _⟩ := tr_tup3 h; cases tr_str t1; exact ⟨u, _, rfl, h1⟩
  | .tell _, h => by obtain ⟨u, x1, x2, rfl, h1, t1, _⟩ := tr_tup2 h; cases tr_str t1; exact ⟨u, _, rfl, h1⟩
  | .say _, h => by obtain ⟨u, x1, x2, rfl, h1, t1, _⟩ := tr_tup2 h; cases tr_str t1; exact ⟨u, _, rfl, h1⟩
  | .stop _, h => by obtain ⟨u, x1, x2, rfl, h1, t1, _⟩ := tr_tup2 h; cases tr_str t1; exact ⟨u, _, rfl, h1⟩
/-! ### what a run tells -/
def kD : Key → PyData
  | .inl i => .int i
  | .inr x => .str x
def wD : Option Str → PyData
  | none => .none
  | some c => .str c
def env0 (n : Int) : Str → Int := fun y => if y = "n" then n else 0
def cs0 (n : Int) : Cs := ⟨env0 n, [], []⟩
/-! ### programs that are drawn -/
/-- the names stand at nm -/
structure Nms (H : Hp) (nm a c : Addr) (names : List Str) : Prop where
  at_ : H nm = some (.lst (names.map V.str))
  off : nm ∉ [a, c]
  len : 0 < names.length ∧ names.length ≤ 1000
  oks : ∀ x ∈ names, NmOk x
theorem Nms.kp {S : List Addr} {H H' : Hp} {nm a c : Addr} {names : List Str} (x : Nms H nm a c names) (k : Kp S H H') (h : nm ∉ S) : Nms H' nm a c names := ⟨k.keep _ _ x.at_ h, x.off, x.len, x.oks⟩
theorem Nms.kp0 {H H' : Hp} {nm a c : Addr} {names : List Str} (x : Nms H nm a c names) (k : Kp [] H H') : Nms H' nm a c names := x.kp k (by simp)
theorem Nms.kpD {H H' : Hp} {nm a c : Addr} {names : List Str} (x : Nms H nm a c names) (k : Kp [a, c] H H') : Nms H' nm a c names := x.kp k x.off
/-! names that come from a list, words that come from the law's own lists -/
def Ex.inN (N : List Str) : Ex → Prop
  | .num _ => True
  | .var x => x ∈ N
  | .plus a b => a.inN N ∧ b.inN N
  | .minus a b => a.inN N ∧ b.inN N
  | .times _ a => a.inN N
def Ts.inN (N : List Str) : Ts → Prop
  | .less a b => a.inN N ∧ b.inN N
  | .odd a => a.inN N
  | .not t => t.inN N
def WdIn (c : Str) : Prop := c ∈ (["go", "7", "half", "odd", "end", "0", "not"] : List Str)
mutual
def Sm.inN (N : List Str) : Sm → Prop
  | .ite t y n => t.inN N ∧ Sm.insN N y ∧ Sm.insN N n
  | .rep _ b => Sm.insN N b
  | .set x e => e.inN N ∧ x ∈ N
  | .half x e => e.inN N ∧ x ∈ N
  | .tell e => e.inN N
  | .say c => WdIn c
  | .stop c => WdIn c
def Sm.insN (N : List Str) : List Sm → Prop
  | [] => True
  | s :: r => s.inN N ∧ Sm.insN N r
end
theorem mem_ints {P : Int → Prop} {x : V} : ∀ {l : List Int}, x ∈ l.map V.int → (∀ i ∈ l, P i) → ∃ i, x = .int i ∧ P i := fun {l} h q => by
  obtain ⟨i, hi, rfl⟩ := List.mem_map.mp h
  exact ⟨i, rfl, q i hi⟩
/-- what the counters are -/
structure Lf where
  p : Int
  w : Int
  h : Int
  c : Int
def Lf.vs (l : Lf) : List V := [.int l.p, .int l.w, .int l.h, .int l.c]
structure Gs (H : Hp) (a c nm lf : Addr) (m : Int) (names : List Str) (l : Lf) : Prop where
  dk : Deck H a c m
  nms : Nms H nm a c names
  lft : H lf = some (.lst l.vs)
  off : lf ∉ [a, c, nm]
theorem Gs.kp0 {H H' : Hp} {a c nm lf : Addr} {m : Int} {names : List Str} {l : Lf} (g : Gs H a c nm lf m names l) (k : Kp [] H H') : Gs H' a c nm lf m names l := ⟨g.dk.kp0 k, g.nms.kp0 k, k.at g.lft, g.off⟩
theorem Gs.nac {H : Hp} {a c nm lf : Addr} {m : Int} {names : List Str} {l : Lf} (g : Gs H a c nm lf m names l) : lf ∉ [a, c] := by
  have := g.off
  simp only [List.mem_cons, List.not_mem_nil, or_false, not_or] at this ⊢
  exact ⟨this.1, this.2.1⟩
theorem Gs.drawn {H H' : Hp} {a c nm lf : Addr} {m m' : Int} {names : List Str} {l : Lf} (g : Gs H a c nm lf m names l) (d : Deck H' a c m') (k : Kp [a, c] H H') : Gs H' a c nm lf m' names l :=
  ⟨d, g.nms.kpD k, k.keep _ _ g.lft g.nac, g.off⟩
theorem Gs.left {H H' : Hp} {a c nm lf : Addr} {m : Int} {names : List Str} {l l' : Lf} (g : Gs H a c nm lf m names l) (h : H' lf = some (.lst l'.vs)) (k : Kp [lf] H H') : Gs H' a c nm lf m names l' := by
  have o := g.off
  simp only [List.mem_cons, List.not_mem_nil, or_false, not_or] at o
  exact ⟨g.dk.kp k (ne1 (fun z => o.1 z.symm)) (ne1 (fun z => o.2.1 z.symm)), g.nms.kp k (ne1 (fun z => o.2.2 z.symm)), h, g.off⟩
/-! data that are tuples of tuples: what == asks -/
section
variable {X : Cx}
end
def Ts.isOdd : Ts → Bool
  | .less _ _ => false
  | .odd _ => true
  | .not t => t.isOdd
/-! what a statement counts -/
mutual
def Sm.hv : Sm → Nat
  | .ite t y n => (if t.isOdd then 1 else 0) + (Sm.hvs y + Sm.hvs n)
  | .rep k b => k * Sm.hvs b
  | .half _ _ => 1
  | .set _ _ => 0
  | .tell _ => 0
  | .say _ => 0
  | .stop _ => 0
def Sm.hvs : List Sm → Nat
  | [] => 0
  | s :: r => s.hv + Sm.hvs r
end
mutual
def Sm.cp : Sm → Nat
  | .ite t y n => (if t.isOdd then 0 else 1) + (Sm.cps y + Sm.cps n)
  | .rep k b => k * Sm.cps b
  | .half _ _ => 0
  | .set _ _ => 0
  | .tell _ => 0
  | .say _ => 0
  | .stop _ => 0
def Sm.cps : List Sm → Nat
  | [] => 0
  | s :: r => s.cp + Sm.cps r
end
/-- words and names are those of the text; times at most eight -/
def Lf.nn (l : Lf) : Prop := 0 ≤ l.p ∧ 0 ≤ l.w ∧ 0 ≤ l.h ∧ 0 ≤ l.c
def Lf.le (l l' : Lf) : Prop := l'.p ≤ l.p ∧ l'.w ≤ l.w ∧ l'.h ≤ l.h ∧ l'.c ≤ l.c
/-! ### statements and blocks that are drawn -/
/-- what is left behind a statement, a block -/
structure Took (t : Int) (pl wt hv cp : Nat) (l l' : Lf) : Prop where
  p : (pl : Int) ≤ l.p - l'.p
  w : t * (wt : Int) ≤ l.w - l'.w
  h : t * (hv : Int) ≤ l.h - l'.h
  c : t * (cp : Int) ≤ l.c - l'.c
theorem Took.le {t : Int} (ht : 0 ≤ t) {p w h c : Nat} {l l' : Lf} (a : Took t p w h c l l') : l.le l' := by
  have := a.p; have := a.w; have := a.h; have := a.c
  have z1 : 0 ≤ t * (w : Int) := Int.mul_nonneg ht (Int.natCast_nonneg _)
  have z2 : 0 ≤ t * (h : Int) := Int.mul_nonneg ht (Int.natCast_nonneg _)
  have z3 : 0 ≤ t * (c : Int) := Int.mul_nonneg ht (Int.natCast_nonneg _)
  exact ⟨by omega, by omega, by omega, by omega⟩
theorem Took.none {t : Int} {l : Lf} : Took t 0 0 0 0 l l := by
  refine ⟨?_, ?_, ?_, ?_⟩ <;> simp
theorem Took.of {t : Int} {p w h c p' w' h' c' : Nat} {l l' : Lf} (a : Took t p w h c l l') (e1 : p = p') (e2 : w = w') (e3 : h = h') (e4 : c = c') : Took t p' w' h' c' l l' := by subst e1 e2 e3 e4; exact a
theorem Took.rep {t : Int} {k p w h c : Nat} {l l' : Lf} (a : Took (t * (k : Int)) p w h c l l') : Took t p (k * w) (k * h) (k * c) l l' := by
  refine ⟨a.p, ?_, ?_, ?_⟩
  · have := a.w
    rw [Int.natCast_mul, ← Int.mul_assoc]
    exact this
  · have := a.h
    rw [Int.natCast_mul, ← Int.mul_assoc]
    exact this
  · have := a.c
    rw [Int.natCast_mul, ← Int.mul_assoc]
    exact this
/-- what a drawn statement keeps -/
structure SOk (N : List Str) (t depth : Int) (l l' : Lf) (s : Sm) : Prop where
  ok : s.ok
  inn : s.inN N
  nest : (s.nest : Int) + depth ≤ 4
  took : Took t s.pl s.wt s.hv s.cp l l'
structure BOk (N : List Str) (t depth : Int) (l l' : Lf) (b : List Sm) : Prop where
  ok : Sm.oks b
  inn : Sm.insN N b
  nest : b = [] ∨ (Sm.nests b : Int) + depth ≤ 4
  took : Took t (Sm.pls b) (Sm.wts b) (Sm.hvs b) (Sm.cps b) l l'
theorem BOk.nil {N : List Str} {t d : Int} {l : Lf} : BOk N t d l l [] := ⟨by simp only [Sm.oks], by simp only [Sm.insN], .inl rfl, by simp only [Sm.pls, Sm.wts, Sm.hvs, Sm.cps]; exact Took.none⟩
theorem BOk.one {N : List Str} {t d : Int} {l l1 : Lf} {s : Sm} (x : SOk N t d l l1 s) : BOk N t d l l1 [s] := by
  refine ⟨by simp only [Sm.oks]; exact ⟨x.ok, trivial⟩, by simp only [Sm.insN]; exact ⟨x.inn, trivial⟩, .inr ?_, x.took.of ?_ ?_ ?_ ?_⟩
  · have := x.nest
    simp only [Sm.nests]
    omega
  · simp only [Sm.pls]; omega
  · simp only [Sm.wts]; omega
  · simp only [Sm.hvs]; omega
  · simp only [Sm.cps]; omega
/-! ### programs, numbers, choices -/
structure PrOk (b : List Sm) : Prop where
  ok : Sm.oks b
  nest : Sm.nests b ≤ 4
  pl : Sm.pls b ≤ 24
  wt : Sm.wts b ≤ 60
  hv : Sm.hvs b ≤ 4
  cp : Sm.cps b ≤ 3
/-! ### texts -/
def rJoinA : V → List V → Hp → VK → Prop := fun x xs H Q => ∃ a p, ∃ ys : List Str, x = .str a ∧ xs = [.ref p] ∧ H p = some (.lst (ys.map V.str)) ∧ (ys.map (·.length)).sum + ys.length * a.length ≤ 16777216 ∧ Q (.str (Txt.join a ys)) H
section
variable {X : Cx}
theorem mt_joinA : MtR X "str.join" rJoinA := fun pins s σ H x xs v us Q I rx rxs ⟨a, p, ys, e1, e2, h, z, q⟩ => mt_join pins s σ H x xs v us Q I rx rxs ⟨a, p, ys, e1, e2, .inl (SqL.of h), z, q⟩
theorem pe_joinA {o e : Expr} {to te : TE} {apos pos : Pos} (ho : PE X o to) (he : PE X e te) (hs : starEach [e] X.env = [(false, eval e X.env)] := by rfl) (hbase : attributeBase o "join" X.env (eval o X.env) = eval o X.env := by rfl) (hline : (apos.endLine == pos.line) = true := by rfl) :
    PE X (.Call (.Attribute o "join" apos) [e] [] pos) (tM1 rJoinA to te) := pe_m1 F.slot_str_join F.type_str_join mt_joinA ho he hs hbase hline
end
theorem strOk_app {a b : Str} (h1 : PyData.strOk a = true) (h2 : PyData.strOk b = true) : PyData.strOk (a ++ b) = true := by
  show (a.cps ++ b.cps).all _ = true
  rw [Array.all_append]
  rw [show a.cps.all (· < 0x110000) = true from h1, show b.cps.all (· < 0x110000) = true from h2]
  rfl
theorem strOk_of {a : Str} (h : ∀ c ∈ a.cps.toList, c < 0x110000) : PyData.strOk a = true := by
  show a.cps.all _ = true
  rw [← Array.all_toList, List.all_eq_true]
  intro c hc
  exact decide_eq_true (h c hc)
def letters : Str := "abcdefgijkmoqruvwxyz"
def signs : Str := letters ++ "0123456789"
def nmsOf (L R : Str) : List Str := ["n", L ++ "q" ++ R, L ++ "x" ++ R, L ++ "z" ++ R]
structure LR (L R : Str) : Prop where
  l : ∀ c ∈ L.cps.toList, c ∈ letters.cps.toList
  r : ∀ c ∈ R.cps.toList, c ∈ signs.cps.toList
  ll : L.length ≤ 8
  rl : R.length ≤ 8
theorem sign_ok {c : Nat} (h : c ∈ signs.cps.toList) : c < 0x110000 := by
  have : ∀ c ∈ signs.cps.toList, c < 0x110000 := by decide +kernel
  exact this c h
theorem letter_sign {c : Nat} (h : c ∈ letters.cps.toList) : c ∈ signs.cps.toList := by
  have : ∀ c ∈ letters.cps.toList, c ∈ signs.cps.toList := by decide +kernel
  exact this c h
theorem LR.oks {L R : Str} (x : LR L R) : ∀ y ∈ nmsOf L R, NmOk y := by
  have h1 : PyData.strOk L = true := strOk_of fun c hc => sign_ok (letter_sign (x.l c hc))
  have h2 : PyData.strOk R = true := strOk_of fun c hc => sign_ok (x.r c hc)
  intro y hy
  simp only [nmsOf, List.mem_cons, List.not_mem_nil, or_false] at hy
  have ln : ∀ q : Str, q.length ≤ 8 → (L ++ q ++ R).length ≤ 1000 := by
    intro q hq
    have a1 := x.ll
    have a2 := x.rl
    have e : (L ++ q ++ R).length = L.length + q.length + R.length := by
      show ((L.cps ++ q.cps) ++ R.cps).size = _
      rw [Array.size_append, Array.size_append]
      rfl
    omega
  rcases hy with rfl | rfl | rfl | rfl
  · exact ⟨by decide +kernel, by decide +kernel⟩
  · exact ⟨strOk_app (strOk_app h1 (by decide +kernel)) h2, ln _ (by decide +kernel)⟩
  · exact ⟨strOk_app (strOk_app h1 (by decide +kernel)) h2, ln _ (by decide +kernel)⟩
  · exact ⟨strOk_app (strOk_app h1 (by decide +kernel)) h2, ln _ (by decide +kernel)⟩
/-! ### against an empty list, an empty tuple -/
def rNeNilT : R2 := fun x y H Q => ∃ a b xs, x = .ref a ∧ y = .ref b ∧ H a = some (.tup xs) ∧ H b = some (.tup []) ∧ Q (.bl (!xs.isEmpty)) H
section
variable {X : Cx}
theorem nil_len {xs : List V} {its : List Value} (r : Vals xs its) : its.toArray.size = 0 ↔ xs.isEmpty = true := by
  have := r.length
  rw [List.size_toArray, ← this]
  cases xs with
  | nil => exact ⟨fun _ => rfl, fun _ => rfl⟩
  | cons a b => exact ⟨fun z => (nomatch z), fun z => (nomatch z)⟩
theorem op_neNilT (hu : X.A.units + 1 < cLine) : OpR X (compareOp .NotEq) rNeNilT := by
  intro pins s σ H x y v u Q I rx ry h
  obtain ⟨a, b, xs, rfl, rfl, ha, hb, q⟩ := h
  cases rx
  cases ry
  obtain ⟨its, r, ht, hz⟩ := I.tuple (SqT.of ha)
  obtain ⟨its2, r2, ht2, hz2⟩ := I.tuple (SqT.of hb)
  have e2 := nil_len r2
  have e1 := nil_len r
  have z2 : its2.toArray.size = 0 := e2.mpr rfl
  refine SeqAt.RcNeAt.tuples ht ht2 (by omega) (e := fun _ => true) (fun j h1 h2 => absurd h2 (by omega)) _ _ _ _ ⟨.bl _, H, I, ?_, q⟩
  rw [z2, Nat.min_zero]
  show Value.bool (!(true && its.toArray.size == 0)) = Value.bool (!xs.isEmpty)
  cases xs with
  | nil => rw [e1.mpr rfl]; rfl
  | cons c d =>
    have : its.toArray.size ≠ 0 := fun z => by have := e1.mp z; cases this
    rw [show (its.toArray.size == 0) = false from beq_false_of_ne this]
    rfl
/-! ### xs[::-1], xs.pop() -/
end
/-! ### what every run keeps -/
section
variable {J : Nat → Nat → Cs → Prop}
theorem iterN_inv {f : Cs → Option Str × Cs} {dw dh : Nat} (mono : ∀ w h w' h' s, J w h s → w ≤ w' → h ≤ h' → J w' h' s) (st : ∀ w h s, J w h s → J (w + dw) (h + dh) (f s).2) : ∀ (k w h : Nat) (s : Cs), J w h s → J (w + k * dw) (h + k * dh) (iterN k f s).2
  | 0, w, h, s, j => mono _ _ _ _ _ j (Nat.le_add_right _ _) (Nat.le_add_right _ _)
  | k + 1, w, h, s, j => by
    have j1 := st w h s j
    rw [iterN, Nat.succ_mul, Nat.succ_mul]
    cases e : f s with
    | mk c s' =>
      rw [e] at j1
      cases c with
      | none => exact mono _ _ _ _ _ (iterN_inv mono st k _ _ s' j1) (by omega) (by omega)
      | some c => exact mono _ _ _ _ _ j1 (by omega) (by omega)
variable {dec : Nat → Int → Int → Int} {ways : Int → Option Int}
mutual
theorem Sm.inv (mono : ∀ w h w' h' s, J w h s → w ≤ w' → h ≤ h' → J w' h' s) (pl : ∀ st : Sm, st.plain → st.ok → ∀ p w h s, J w h s → J (w + 1) (h + st.hv) (st.run dec ways p s).2) :
    ∀ (t : Sm), t.ok → ∀ (p : Int) (w h : Nat) (s : Cs), J w h s → J (w + t.wt) (h + t.hv) (t.run dec ways p s).2
  | .ite t y n, o, p, w, h, s, j => by
    simp only [Sm.ok] at o
    simp only [Sm.run, Sm.wt, Sm.hv]
    by_cases hc : t.ev s.env = true
    · have jj := Sm.invs mono pl y o.2.2.1 (p + 1) w h s j
      rw [if_pos hc]
      refine mono _ _ _ _ _ jj ?_ ?_ <;> omega
    · have jj := Sm.invs mono pl n o.2.2.2 (p + 1 + (Sm.pls y : Int)) w h s j
      rw [if_neg hc]
      refine mono _ _ _ _ _ jj ?_ ?_ <;> omega
  | .rep k b, o, p, w, h, s, j => by
    simp only [Sm.ok] at o
    simp only [Sm.run, Sm.wt, Sm.hv]
    have jj := iterN_inv mono (fun w h s j => Sm.invs mono pl b o.2 (p + 1) w h s j) k w h s j
    refine mono _ _ _ _ _ jj ?_ ?_ <;> omega
  | .set x e, o, p, w, h, s, j => by
    have := pl (.set x e) trivial o p w h s j
    simp only [Sm.wt]
    exact this
  | .half x e, o, p, w, h, s, j => by
    have := pl (.half x e) trivial o p w h s j
    simp only [Sm.wt]
    exact this
  | .tell e, o, p, w, h, s, j => by
    have := pl (.tell e) trivial o p w h s j
    simp only [Sm.wt]
    exact this
  | .say c, o, p, w, h, s, j => by
    have := pl (.say c) trivial o p w h s j
    simp only [Sm.wt]
    exact this
  | .stop c, o, p, w, h, s, j => by
    have := pl (.stop c) trivial o p w h s j
    simp only [Sm.wt]
    exact this
theorem Sm.invs (mono : ∀ w h w' h' s, J w h s → w ≤ w' → h ≤ h' → J w' h' s) (pl : ∀ st : Sm, st.plain → st.ok → ∀ p w h s, J w h s → J (w + 1) (h + st.hv) (st.run dec ways p s).2) :
    ∀ (b : List Sm), Sm.oks b → ∀ (p : Int) (w h : Nat) (s : Cs), J w h s → J (w + Sm.wts b) (h + Sm.hvs b) (Sm.runs dec ways b p s).2
  | [], _, p, w, h, s, j => by
    simp only [Sm.runs]
    exact mono _ _ _ _ _ j (Nat.le_add_right _ _) (Nat.le_add_right _ _)
  | t :: r, o, p, w, h, s, j => by
    simp only [Sm.oks] at o
    have j1 := Sm.inv mono pl t o.1 p w h s j
    simp only [Sm.runs, Sm.wts, Sm.hvs]
    cases e : Sm.run dec ways t p s with
    | mk c s' =>
      rw [e] at j1
      cases c with
      | none => exact mono _ _ _ _ _ (Sm.invs mono pl r o.2 _ _ _ s' j1) (by omega) (by omega)
      | some c => exact mono _ _ _ _ _ j1 (by omega) (by omega)
end
end
section
variable {dec : Nat → Int → Int → Int} {ways : Int → Option Int}
theorem halv_turns (s : Cs) (v p : Int) : (halv dec ways s v p).2.turns = s.turns ∨ (halv dec ways s v p).2.turns = s.turns ++ [dec s.turns.length v p] := by
  unfold halv
  split
  · exact .inl rfl
  · split
    · exact .inl rfl
    · exact .inr rfl
theorem plain_turns (st : Sm) (h : st.plain) (p : Int) (s : Cs) : (st.run dec ways p s).2.turns = s.turns ∨ (st.hv = 1 ∧ ∃ v, (st.run dec ways p s).2.turns = s.turns ++ [dec s.turns.length v p]) := by
  cases st with
  | ite _ _ _ => exact h.elim
  | rep _ _ => exact h.elim
  | set x e => exact .inl (by simp only [Sm.run])
  | half x e =>
    simp only [Sm.run, Sm.hv]
    rcases halv_turns (dec := dec) (ways := ways) s (e.ev s.env) p with h | h
    · exact .inl h
    · exact .inr ⟨trivial, _, h⟩
  | tell e => exact .inl (by simp only [Sm.run])
  | say c => exact .inl (by simp only [Sm.run])
  | stop c => exact .inl (by simp only [Sm.run])
theorem turns_le (b : List Sm) (o : Sm.oks b) (p : Int) (s : Cs) : (Sm.runs dec ways b p s).2.turns.length ≤ s.turns.length + Sm.hvs b := by
  have := Sm.invs (J := fun _ h s' => s'.turns.length ≤ s.turns.length + h) (dec := dec) (ways := ways) (fun _ _ _ _ _ j _ hh => Nat.le_trans j (by omega)) (fun st hp ho p w h s' j => by
    rcases plain_turns (dec := dec) (ways := ways) st hp p s' with e | ⟨e1, v, e2⟩
    · rw [e]; omega
    · rw [e2, e1, List.length_append]
      simp only [List.length_singleton]
      omega) b o p 0 0 s (Nat.le_refl _)
  simpa using this
theorem turns_ge (b : List Sm) (o : Sm.oks b) (p : Int) (s : Cs) : s.turns.length ≤ (Sm.runs dec ways b p s).2.turns.length :=
  Sm.invs (J := fun _ _ s' => s.turns.length ≤ s'.turns.length) (dec := dec) (ways := ways) (fun _ _ _ _ _ j _ _ => j) (fun st hp ho p w h s' j => by
    rcases plain_turns (dec := dec) (ways := ways) st hp p s' with e | ⟨e1, v, e2⟩
    · rw [e]; exact j
    · rw [e2, List.length_append]
      omega) b o p 0 0 s (Nat.le_refl _)
end
/-- the first n choices -/
def tk (chs : List Int) (n : Nat) : List Int := (List.range n).map fun i => chs.getD i 0
theorem tk_succ (chs : List Int) (n : Nat) : tk chs (n + 1) = tk chs n ++ [chs.getD n 0] := by
  unfold tk
  rw [List.range_succ, List.map_append]
  rfl
theorem tk_len (chs : List Int) (n : Nat) : (tk chs n).length = n := by
  unfold tk
  rw [List.length_map, List.length_range]
theorem turns_tk {chs : List Int} {ways : Int → Option Int} (b : List Sm) (o : Sm.oks b) (p : Int) (n : Int) : (Sm.runs (decC chs) ways b p (cs0 n)).2.turns = tk chs (Sm.runs (decC chs) ways b p (cs0 n)).2.turns.length :=
  Sm.invs (J := fun _ _ s' => s'.turns = tk chs s'.turns.length) (dec := decC chs) (ways := ways) (fun _ _ _ _ _ j _ _ => j) (fun st hp ho p w h s' j => by
    rcases plain_turns (dec := decC chs) (ways := ways) st hp p s' with e | ⟨e1, v, e2⟩
    · rw [e]; exact j
    · rw [e2, List.length_append, List.length_singleton, tk_succ, ← j]
      rfl) b o p 0 0 (cs0 n) rfl
/-! ### runs that differ from the turn j on -/
def Rl (j : Nat) (a b : Option Str × Cs) : Prop := a = b ∨ (j < a.2.turns.length ∧ j < b.2.turns.length)
theorem iterN_ge {f : Cs → Option Str × Cs} (mf : ∀ s, s.turns.length ≤ (f s).2.turns.length) : ∀ (k : Nat) (s : Cs), s.turns.length ≤ (iterN k f s).2.turns.length
  | 0, s => Nat.le_refl _
  | k + 1, s => by
    have h := mf s
    rw [iterN]
    cases e : f s with
    | mk c s' =>
      rw [e] at h
      cases c with
      | none => exact Nat.le_trans h (iterN_ge mf k s')
      | some c => exact h
theorem iterN_ge1 {f : Cs → Option Str × Cs} (mf : ∀ s, s.turns.length ≤ (f s).2.turns.length) (k : Nat) (s : Cs) : (f s).2.turns.length ≤ (iterN (k + 1) f s).2.turns.length := by
  rw [iterN]
  cases e : f s with
  | mk c s' =>
    cases c with
    | none => exact iterN_ge mf k s'
    | some c => exact Nat.le_refl _
theorem iterN_rel {j : Nat} {f g : Cs → Option Str × Cs} (mf : ∀ s, s.turns.length ≤ (f s).2.turns.length) (mg : ∀ s, s.turns.length ≤ (g s).2.turns.length) (r : ∀ s, Rl j (f s) (g s)) : ∀ (k : Nat) (s : Cs), Rl j (iterN k f s) (iterN k g s)
  | 0, s => .inl rfl
  | k + 1, s => by
    rcases r s with h | ⟨h1, h2⟩
    · rw [iterN, iterN, ← h]
      cases e : f s with
      | mk c s' =>
        cases c with
        | none => exact iterN_rel mf mg r k s'
        | some c => exact .inl rfl
    · exact .inr ⟨Nat.lt_of_lt_of_le h1 (iterN_ge1 mf k s), Nat.lt_of_lt_of_le h2 (iterN_ge1 mg k s)⟩
section
variable {d1 d2 : Nat → Int → Int → Int} {ways : Int → Option Int} {j : Nat}
theorem runs_ge1 {dec : Nat → Int → Int → Int} (t : Sm) (r : List Sm) (o : Sm.oks r) (p : Int) (s : Cs) : (Sm.run dec ways t p s).2.turns.length ≤ (Sm.runs dec ways (t :: r) p s).2.turns.length := by
  simp only [Sm.runs]
  cases e : Sm.run dec ways t p s with
  | mk c s' =>
    cases c with
    | none => exact turns_ge r o _ s'
    | some c => exact Nat.le_refl _
mutual
theorem Sm.rel (ag : ∀ k v p, k < j → d1 k v p = d2 k v p) : ∀ (t : Sm), t.ok → ∀ (p : Int) (s : Cs), Rl j (t.run d1 ways p s) (t.run d2 ways p s)
  | .ite t y n, o, p, s => by
    simp only [Sm.ok] at o
    simp only [Sm.run]
    split
    · exact Sm.rels ag y o.2.2.1 _ s
    · exact Sm.rels ag n o.2.2.2 _ s
  | .rep k b, o, p, s => by
    simp only [Sm.ok] at o
    simp only [Sm.run]
    exact iterN_rel (fun s => turns_ge b o.2 _ s) (fun s => turns_ge b o.2 _ s) (fun s => Sm.rels ag b o.2 _ s) k s
  | .set x e, o, p, s => by simp only [Sm.run]; exact .inl rfl
  | .half x e, o, p, s => by
    by_cases h : s.turns.length < j
    · refine .inl ?_
      simp only [Sm.run, halv, ag _ _ _ h]
    · simp only [Sm.run, halv]
      split
      · exact .inl rfl
      · split
        · exact .inl rfl
        · refine .inr ⟨?_, ?_⟩
          · show j < (s.turns ++ [_]).length
            rw [List.length_append, List.length_singleton]
            omega
          · show j < (s.turns ++ [_]).length
            rw [List.length_append, List.length_singleton]
            omega
  | .tell e, o, p, s => by simp only [Sm.run]; exact .inl rfl
  | .say c, o, p, s => by simp only [Sm.run]; exact .inl rfl
  | .stop c, o, p, s => by simp only [Sm.run]; exact .inl rfl
theorem Sm.rels (ag : ∀ k v p, k < j → d1 k v p = d2 k v p) : ∀ (b : List Sm), Sm.oks b → ∀ (p : Int) (s : Cs), Rl j (Sm.runs d1 ways b p s) (Sm.runs d2 ways b p s)
  | [], _, p, s => by simp only [Sm.runs]; exact .inl rfl
  | t :: r, o, p, s => by
    simp only [Sm.oks] at o
    rcases Sm.rel ag t o.1 p s with h | ⟨h1, h2⟩
    · simp only [Sm.runs, ← h]
      cases e : Sm.run d1 ways t p s with
      | mk c s' =>
        cases c with
        | none => exact Sm.rels ag r o.2 _ s'
        | some c => exact .inl rfl
    · exact .inr ⟨Nat.lt_of_lt_of_le h1 (runs_ge1 t r o.2 p s), Nat.lt_of_lt_of_le h2 (runs_ge1 t r o.2 p s)⟩
end
end
/-- the same turns at the start, the same run -/
theorem runs_same {c1 c2 : List Int} {ways : Int → Option Int} (b : List Sm) (o : Sm.oks b) (p n : Int) (h : ∀ k, k < (Sm.runs (decC c1) ways b p (cs0 n)).2.turns.length → c1.getD k 0 = c2.getD k 0) : Sm.runs (decC c2) ways b p (cs0 n) = Sm.runs (decC c1) ways b p (cs0 n) := by
  rcases Sm.rels (d1 := decC c1) (d2 := decC c2) (ways := ways) (j := (Sm.runs (decC c1) ways b p (cs0 n)).2.turns.length) (fun k _ _ hk => h k hk) b o p (cs0 n) with e | ⟨h1, _⟩
  · exact e.symm
  · exact absurd h1 (Nat.lt_irrefl _)
theorem runs_other {c1 c2 : List Int} {ways : Int → Option Int} (b : List Sm) (o : Sm.oks b) (p n : Int) (j : Nat) (hj : j < (Sm.runs (decC c1) ways b p (cs0 n)).2.turns.length) (h : ∀ k, k < j → c1.getD k 0 = c2.getD k 0) :
    (Sm.runs (decC c2) ways b p (cs0 n)).2.turns.take (j + 1) = tk c2 (j + 1) := by
  have l : j < (Sm.runs (decC c2) ways b p (cs0 n)).2.turns.length := by
    rcases Sm.rels (d1 := decC c1) (d2 := decC c2) (ways := ways) (j := j) (fun k _ _ hk => h k hk) b o p (cs0 n) with e | ⟨_, h2⟩
    · rw [← e]; exact hj
    · exact h2
  rw [turns_tk b o p n]
  unfold tk
  rw [← List.map_take, List.take_range, Nat.min_eq_left l]
/-! ### how large the numbers are -/
theorem Ex.ev_le {env : Str → Int} {M : Nat} (hM : 99 ≤ M) (h : ∀ x, (env x).natAbs ≤ M) : ∀ {e : Ex}, e.ok → (e.ev env).natAbs ≤ M * 9 ^ e.deep
  | .num i, o => by
    obtain ⟨h1, h2⟩ := (show -99 ≤ i ∧ i ≤ 99 from o)
    show i.natAbs ≤ M * 9 ^ 1
    omega
  | .var x, o => by
    have := h x
    show (env x).natAbs ≤ M * 9 ^ 1
    omega
  | .plus a b, o => by
    have h1 := Ex.ev_le hM h (e := a) (show a.ok ∧ b.ok from o).1
    have h2 := Ex.ev_le hM h (e := b) (show a.ok ∧ b.ok from o).2
    show (a.ev env + b.ev env).natAbs ≤ M * 9 ^ (max a.deep b.deep + 1)
    have p1 : M * 9 ^ a.deep ≤ M * 9 ^ max a.deep b.deep := Nat.mul_le_mul_left _ (Nat.pow_le_pow_right (by decide) (Nat.le_max_left _ _))
    have p2 : M * 9 ^ b.deep ≤ M * 9 ^ max a.deep b.deep := Nat.mul_le_mul_left _ (Nat.pow_le_pow_right (by decide) (Nat.le_max_right _ _))
    rw [Nat.pow_succ, ← Nat.mul_assoc]
    omega
  | .minus a b, o => by
    have h1 := Ex.ev_le hM h (e := a) (show a.ok ∧ b.ok from o).1
    have h2 := Ex.ev_le hM h (e := b) (show a.ok ∧ b.ok from o).2
    show (a.ev env - b.ev env).natAbs ≤ M * 9 ^ (max a.deep b.deep + 1)
    have p1 : M * 9 ^ a.deep ≤ M * 9 ^ max a.deep b.deep := Nat.mul_le_mul_left _ (Nat.pow_le_pow_right (by decide) (Nat.le_max_left _ _))
    have p2 : M * 9 ^ b.deep ≤ M * 9 ^ max a.deep b.deep := Nat.mul_le_mul_left _ (Nat.pow_le_pow_right (by decide) (Nat.le_max_right _ _))
    rw [Nat.pow_succ, ← Nat.mul_assoc]
    omega
  | .times k a, o => by
    obtain ⟨k1, k2, oa⟩ := (show -9 ≤ k ∧ k ≤ 9 ∧ a.ok from o)
    have h1 := Ex.ev_le hM h (e := a) oa
    show (k * a.ev env).natAbs ≤ M * 9 ^ (a.deep + 1)
    rw [Int.natAbs_mul, Nat.pow_succ, ← Nat.mul_assoc, Nat.mul_comm]
    exact Nat.mul_le_mul h1 (by omega)
/-- a number, a text that a run may tell -/
def kOk (M : Nat) : Key → Prop
  | .inl i => i.natAbs ≤ M
  | .inr c => PyData.strOk c = true ∧ c.length ≤ 20
theorem kOk.mono {M M' : Nat} (h : M ≤ M') : ∀ {k : Key}, kOk M k → kOk M' k
  | .inl _, o => Nat.le_trans o h
  | .inr _, o => o
def BN : Nat := 10 ^ 60
structure Mag (w : Nat) (s : Cs) : Prop where
  env : ∀ x, (s.env x).natAbs ≤ BN * 729 ^ w
  said : ∀ k ∈ s.said, kOk (BN * 729 ^ w) k
  len : s.said.length ≤ w
theorem bn_mono {w w' : Nat} (h : w ≤ w') : BN * 729 ^ w ≤ BN * 729 ^ w' := Nat.mul_le_mul_left _ (Nat.pow_le_pow_right (by decide) h)
theorem bn_99 (w : Nat) : 99 ≤ BN * 729 ^ w := Nat.le_trans (by decide : 99 ≤ BN * 1) (Nat.mul_le_mul_left _ (Nat.one_le_pow _ _ (by decide)))
theorem Mag.mono {w w' : Nat} {s : Cs} (m : Mag w s) (h : w ≤ w') : Mag w' s := ⟨fun x => Nat.le_trans (m.env x) (bn_mono h), fun k hk => (m.said k hk).mono (bn_mono h), Nat.le_trans m.len h⟩
theorem Mag.ev {w : Nat} {s : Cs} (m : Mag w s) {e : Ex} (o : e.ok) (d : e.deep ≤ 3) : (e.ev s.env).natAbs ≤ BN * 729 ^ (w + 1) := by
  have h := Ex.ev_le (bn_99 w) m.env o
  refine Nat.le_trans h ?_
  rw [Nat.pow_succ, ← Nat.mul_assoc]
  exact Nat.mul_le_mul_left _ (Nat.le_trans (Nat.pow_le_pow_right (by decide) d) (by decide))
section
variable {dec : Nat → Int → Int → Int} {ways : Int → Option Int}
theorem iterN_word {Pz : Str → Prop} {f : Cs → Option Str × Cs} (h : ∀ s c, (f s).1 = some c → Pz c) : ∀ (k : Nat) (s : Cs) (c : Str), (iterN k f s).1 = some c → Pz c
  | 0, s, c, e => nomatch (show (none : Option Str) = some c from e)
  | k + 1, s, c, e => by
    rw [iterN] at e
    have h1 := h s
    cases z : f s with
    | mk d s' =>
      rw [z] at e h1
      cases d with
      | none => exact iterN_word h k s' c e
      | some d => exact h1 c e
mutual
theorem Sm.word : ∀ (t : Sm), t.ok → ∀ (p : Int) (s : Cs) (c : Str), (t.run dec ways p s).1 = some c → PyData.strOk c = true ∧ c.length ≤ 20
  | .ite t y n, o, p, s, c, e => by
    simp only [Sm.ok] at o
    simp only [Sm.run] at e
    by_cases hc : t.ev s.env = true
    · rw [if_pos hc] at e
      exact Sm.words y o.2.2.1 _ s c e
    · rw [if_neg hc] at e
      exact Sm.words n o.2.2.2 _ s c e
  | .rep k b, o, p, s, c, e => by
    simp only [Sm.ok] at o
    simp only [Sm.run] at e
    exact iterN_word (fun s c e => Sm.words b o.2 _ s c e) k s c e
  | .set x e', o, p, s, c, e => by simp only [Sm.run] at e; exact nomatch e
  | .half x e', o, p, s, c, e => by simp only [Sm.run] at e; exact nomatch e
  | .tell e', o, p, s, c, e => by simp only [Sm.run] at e; exact nomatch e
  | .say c', o, p, s, c, e => by simp only [Sm.run] at e; exact nomatch e
  | .stop c', o, p, s, c, e => by
    simp only [Sm.ok] at o
    simp only [Sm.run] at e
    cases e
    exact o
theorem Sm.words : ∀ (b : List Sm), Sm.oks b → ∀ (p : Int) (s : Cs) (c : Str), (Sm.runs dec ways b p s).1 = some c → PyData.strOk c = true ∧ c.length ≤ 20
  | [], _, p, s, c, e => by simp only [Sm.runs] at e; exact nomatch e
  | t :: r, o, p, s, c, e => by
    simp only [Sm.oks] at o
    have h1 := Sm.word t o.1 p s
    simp only [Sm.runs] at e
    cases z : Sm.run dec ways t p s with
    | mk d s' =>
      rw [z] at e h1
      cases d with
      | none => exact Sm.words r o.2 _ s' c e
      | some d => exact h1 c e
end
end
/-! ### what is told can be shown -/
def BM : Nat := 10 ^ 240
structure ROk (r : Option Str × Cs) : Prop where
  said : ∀ k ∈ r.2.said, kOk (BM - 1) k
  len : r.2.said.length ≤ 60
  word : ∀ c, r.1 = some c → PyData.strOk c = true ∧ c.length ≤ 20
  turns : ∀ i ∈ r.2.turns, i = 0 ∨ i = 1
  tlen : r.2.turns.length ≤ 4
theorem decC_01 {chs : List Int} (h : ∀ i ∈ chs, i = 0 ∨ i = 1) (k : Nat) (v p : Int) : decC chs k v p = 0 ∨ decC chs k v p = 1 := by
  show chs.getD k 0 = 0 ∨ chs.getD k 0 = 1
  rw [List.getD_eq_getElem?_getD]
  cases e : chs[k]? with
  | none => exact .inl rfl
  | some i => exact h i (List.mem_of_getElem? e)
theorem tk_01 {chs : List Int} (h : ∀ i ∈ chs, i = 0 ∨ i = 1) (n : Nat) : ∀ i ∈ tk chs n, i = 0 ∨ i = 1 := by
  intro i hi
  unfold tk at hi
  obtain ⟨k, _, rfl⟩ := List.mem_map.mp hi
  exact decC_01 h k 0 0
def ty01 (l : List Int) : Prop := ∀ i ∈ l, i = 0 ∨ i = 1
/-- data that repr may be asked of -/
structure Shw (d : PyData) : Prop where
  sh : d.showable = true
  sz : d.shown.length ≤ sizeLine
  dp : d.depth ≤ 60
section
variable {X : Cx}
end
/-! ### short: the trailing noughts go -/
theorem tk_getD {chs : List Int} {n k : Nat} (h : k < n) : (tk chs n).getD k 0 = chs.getD k 0 := by
  unfold tk
  rw [List.getD_eq_getElem?_getD, List.getElem?_map, List.getElem?_range h]
  rfl
theorem getD_app {a b : List Int} {k : Nat} (h : k < a.length) : (a ++ b).getD k 0 = a.getD k 0 := by
  rw [List.getD_eq_getElem?_getD, List.getD_eq_getElem?_getD, List.getElem?_append_left h]
theorem ty01.take {l : List Int} (h : ty01 l) (k : Nat) : ty01 (l.take k) := fun i hi => h i (List.mem_of_mem_take hi)
/-! ### all runs on a number, one behind another -/
def nxt : List Int → Option (List Int)
  | [] => none
  | x :: r => match nxt r with
    | some c => some (x :: c)
    | none => if x = 1 then none else some [1]
theorem nxt_ones : ∀ {t : List Int}, (∀ x ∈ t, x = 1) → nxt t = none
  | [], _ => rfl
  | x :: r, h => by
    rw [nxt, nxt_ones (fun y hy => h y (List.mem_cons_of_mem _ hy))]
    show (if x = 1 then none else some [1]) = none
    rw [if_pos (h x List.mem_cons_self)]
theorem nxt_at {x : Int} {r : List Int} (hx : x ≠ 1) (hr : ∀ y ∈ r, y = 1) : ∀ p : List Int, nxt (p ++ x :: r) = some (p ++ [1])
  | [] => by
    show nxt (x :: r) = _
    rw [nxt, nxt_ones hr]
    show (if x = 1 then none else some [1]) = _
    rw [if_neg hx]
    rfl
  | y :: p => by
    show nxt (y :: (p ++ x :: r)) = _
    rw [nxt, nxt_at hx hr p]
    rfl
theorem nxt_cases : ∀ t : List Int, (nxt t = none ∧ ∀ x ∈ t, x = 1) ∨ ∃ p x r, t = p ++ x :: r ∧ x ≠ 1 ∧ (∀ y ∈ r, y = 1) ∧ nxt t = some (p ++ [1])
  | [] => .inl ⟨rfl, fun x h => nomatch h⟩
  | x :: r => by
    rcases nxt_cases r with ⟨h1, h2⟩ | ⟨p, y, q, rfl, hy, hq, e⟩
    · by_cases hx : x = 1
      · refine .inl ⟨nxt_ones ?_, ?_⟩ <;>
        · intro z hz
          rcases List.mem_cons.mp hz with rfl | hz
          · exact hx
          · exact h2 z hz
      · exact .inr ⟨[], x, r, rfl, hx, h2, nxt_at hx h2 []⟩
    · exact .inr ⟨x :: p, y, q, rfl, hy, hq, nxt_at hy hq (x :: p)⟩
/-- the number that a row of turns writes, k figures -/
def wl : Nat → List Int → Int
  | _, [] => 0
  | 0, _ :: _ => 0
  | k + 1, x :: r => x * (2 : Int) ^ k + wl k r
/-- the part of the whole that turns stand for -/
def pw (k : Nat) (t : List Int) : Int := (2 : Int) ^ (k - t.length)
theorem pw_pos (k : Nat) (t : List Int) : 1 ≤ pw k t := by
  have : (0 : Int) < (2 : Int) ^ (k - t.length) := Int.pow_pos (by decide)
  unfold pw
  omega
theorem pw_cons (k : Nat) (x : Int) (r : List Int) : pw (k + 1) (x :: r) = pw k r := by
  unfold pw
  rw [List.length_cons, Nat.add_sub_add_right]
theorem pow2_succ (k : Nat) : (2 : Int) ^ (k + 1) = 2 * (2 : Int) ^ k := by rw [Int.pow_succ, Int.mul_comm]
theorem wl_nil (k : Nat) : wl k [] = 0 := by cases k <;> rfl
theorem wl_ones : ∀ {k : Nat} {t : List Int}, (∀ x ∈ t, x = 1) → t.length ≤ k → wl k t + pw k t = (2 : Int) ^ k
  | k, [], _, _ => by rw [wl_nil]; unfold pw; simp
  | 0, x :: r, _, l => absurd l (Nat.not_succ_le_zero _)
  | k + 1, x :: r, h, l => by
    have ih := wl_ones (k := k) (t := r) (fun y hy => h y (List.mem_cons_of_mem _ hy)) (Nat.le_of_succ_le_succ l)
    rw [pw_cons, pow2_succ, wl, h x List.mem_cons_self]
    omega
theorem ty01.tail {x : Int} {r : List Int} (h : ty01 (x :: r)) : ty01 r := fun i hi => h i (List.mem_cons_of_mem _ hi)
theorem ty01.head {x : Int} {r : List Int} (h : ty01 (x :: r)) : x = 0 ∨ x = 1 := h x List.mem_cons_self
theorem wl_nxt : ∀ {k : Nat} {t c : List Int}, ty01 t → t.length ≤ k → nxt t = some c → wl k c = wl k t + pw k t
  | k, [], c, _, _, e => nomatch (show (none : Option (List Int)) = some c from e)
  | 0, x :: r, c, _, l, _ => absurd l (Nat.not_succ_le_zero _)
  | k + 1, x :: r, c, h, l, e => by
    rcases nxt_cases r with ⟨h1, h2⟩ | ⟨p, y, q, rfl, hy, hq, e1⟩
    · rw [nxt, h1] at e
      have e : (if x = 1 then none else some [1]) = some c := e
      by_cases hx : x = 1
      · rw [if_pos hx] at e; cases e
      · rw [if_neg hx] at e
        cases e
        have x0 : x = 0 := by
          rcases h.head with z | z
          · exact z
          · exact absurd z hx
        have o := wl_ones (k := k) h2 (Nat.le_of_succ_le_succ l)
        rw [pw_cons]
        show 1 * (2 : Int) ^ k + wl k [] = (x * (2 : Int) ^ k + wl k r) + pw k r
        rw [wl_nil, x0]
        omega
    · have ih := wl_nxt (k := k) h.tail (Nat.le_of_succ_le_succ l) e1
      rw [nxt, e1] at e
      cases e
      rw [pw_cons, wl, wl, ih]
      omega
theorem nxt_none {t : List Int} (h : nxt t = none) : ∀ x ∈ t, x = 1 := by
  rcases nxt_cases t with ⟨_, h2⟩ | ⟨p, x, r, _, _, _, e⟩
  · exact h2
  · rw [e] at h; cases h
theorem wl_rng : ∀ {k : Nat} {t : List Int}, ty01 t → t.length ≤ k → 0 ≤ wl k t ∧ wl k t + pw k t ≤ (2 : Int) ^ k
  | k, [], _, _ => by rw [wl_nil]; unfold pw; simp
  | 0, x :: r, _, l => absurd l (Nat.not_succ_le_zero _)
  | k + 1, x :: r, h, l => by
    have ih := wl_rng (k := k) h.tail (Nat.le_of_succ_le_succ l)
    have p := pw_pos k r
    rw [pw_cons, pow2_succ, wl]
    rcases h.head with z | z <;> rw [z] <;> constructor <;> omega
theorem wl_zeros : ∀ (k : Nat) (c : List Int) (m : Nat), wl k (c ++ List.replicate m 0) = wl k c
  | k, [], 0 => rfl
  | 0, [], m + 1 => rfl
  | k + 1, [], m + 1 => by
    have := wl_zeros k [] m
    rw [List.nil_append] at this
    show 0 * (2 : Int) ^ k + wl k (List.replicate m 0) = 0
    rw [this, wl_nil]
    omega
  | 0, x :: r, m => rfl
  | k + 1, x :: r, m => by
    show x * (2 : Int) ^ k + wl k (r ++ List.replicate m 0) = _
    rw [wl_zeros k r m]
    rfl
theorem tk_zeros {c : List Int} {n : Nat} (h : c.length ≤ n) : tk c n = c ++ List.replicate (n - c.length) 0 := by
  refine List.ext_getElem? fun i => ?_
  unfold tk
  rw [List.getElem?_map]
  by_cases l : i < n
  · rw [List.getElem?_range l]
    show some (c.getD i 0) = _
    rw [List.getD_eq_getElem?_getD]
    by_cases l2 : i < c.length
    · rw [List.getElem?_append_left l2, List.getElem?_eq_getElem l2]
      rfl
    · rw [List.getElem?_append_right (by omega), List.getElem?_eq_none (by omega), List.getElem?_replicate, if_pos (by omega)]
      rfl
  · rw [List.getElem?_eq_none (by rw [List.length_range]; omega), List.getElem?_eq_none (by rw [List.length_append, List.length_replicate]; omega)]
    rfl
theorem wl_tk {k : Nat} {c : List Int} {n : Nat} (h : c.length ≤ n) : wl k (tk c n) = wl k c := by rw [tk_zeros h, wl_zeros]
/-- a number between those of t begins with t -/
theorem wl_pre : ∀ {k : Nat} {t v : List Int}, ty01 t → ty01 v → v.length = k → t.length ≤ k → wl k t ≤ wl k v → wl k v < wl k t + pw k t → ∃ s, v = t ++ s
  | k, [], v, _, _, _, _, _, _ => ⟨v, rfl⟩
  | 0, x :: r, v, _, _, _, l, _, _ => absurd l (Nat.not_succ_le_zero _)
  | k + 1, x :: r, [], _, _, lv, _, _, _ => nomatch lv
  | k + 1, x :: r, y :: w, h, g, lv, l, a, b => by
    have l1 := Nat.le_of_succ_le_succ l
    have lw : w.length = k := Nat.succ.inj lv
    have r1 := wl_rng (k := k) h.tail l1
    have r2 := wl_rng (k := k) g.tail (Nat.le_of_eq lw)
    have p1 := pw_pos k w
    have p2 := pw_pos k r
    rw [pw_cons] at b
    rw [wl, wl] at a b
    have e : x = y := by
      rcases h.head with z | z <;> rcases g.head with u | u <;> rw [z, u] at a b <;> rw [z, u] <;> omega
    subst e
    obtain ⟨s, rfl⟩ := wl_pre (k := k) h.tail g.tail lw l1 (by omega) (by omega)
    exact ⟨s, rfl⟩
/-- t comes ahead of u, and is no beginning of it -/
inductive Ahd : List Int → List Int → Prop
  | lt {r w : List Int} : Ahd (0 :: r) (1 :: w)
  | eq {x : Int} {r w : List Int} : Ahd r w → Ahd (x :: r) (x :: w)
theorem wl_ahd : ∀ {k : Nat} {t u : List Int}, ty01 t → ty01 u → t.length ≤ k → u.length ≤ k → wl k t + pw k t ≤ wl k u → Ahd t u
  | k, [], u, _, g, _, lu, a => by
    have r := wl_rng g lu
    have p := pw_pos k u
    rw [wl_nil] at a
    have e : pw k [] = (2 : Int) ^ k := by unfold pw; simp
    omega
  | 0, x :: r, u, _, _, l, _, _ => absurd l (Nat.not_succ_le_zero _)
  | k + 1, x :: r, [], h, _, l, _, a => by
    have r1 := wl_rng h l
    have p := pw_pos (k + 1) (x :: r)
    rw [wl_nil] at a
    omega
  | k + 1, x :: r, y :: w, h, g, l, lu, a => by
    have l1 := Nat.le_of_succ_le_succ l
    have lw := Nat.le_of_succ_le_succ lu
    have r1 := wl_rng (k := k) h.tail l1
    have r2 := wl_rng (k := k) g.tail lw
    have p1 := pw_pos k w
    have p2 := pw_pos k r
    rw [pw_cons] at a
    rw [wl, wl] at a
    rcases h.head with z | z <;> rcases g.head with v | v <;> rw [z, v] at a ⊢
    · exact .eq (wl_ahd (k := k) h.tail g.tail l1 lw (by omega))
    · exact .lt
    · omega
    · exact .eq (wl_ahd (k := k) h.tail g.tail l1 lw (by omega))
section
variable (ways : Int → Option Int) (b : List Sm) (n : Int)
abbrev rn (c : List Int) : Option Str × Cs := Sm.runs (decC c) ways b 0 (cs0 n)
/-- the runs so far, and the choices of the next one -/
inductive Chn : List (Option Str × Cs) → Option (List Int) → Prop
  | nil : Chn [] (some [])
  | snoc {Rs : List (Option Str × Cs)} {c : List Int} : Chn Rs (some c) → Chn (Rs ++ [rn ways b n c]) (nxt (rn ways b n c).2.turns)
end
def topO (k : Nat) : Option (List Int) → Int
  | some c => wl k c
  | none => (2 : Int) ^ k
structure ChOk (ways : Int → Option Int) (b : List Sm) (n : Int) (k : Nat) (Rs : List (Option Str × Cs)) (o : Option (List Int)) : Prop where
  self : ∀ R ∈ Rs, rn ways b n R.2.turns = R ∧ ty01 R.2.turns ∧ R.2.turns.length ≤ k ∧ wl k R.2.turns + pw k R.2.turns ≤ topO k o
  sum : (Rs.map fun R => pw k R.2.turns).sum = topO k o
  cs : ∀ c, o = some c → ty01 c ∧ c.length ≤ (rn ways b n c).2.turns.length
  all : ∀ v : List Int, v.length = k → ty01 v → wl k v < topO k o → rn ways b n v ∈ Rs
  ord : Rs.Pairwise fun R S => Ahd R.2.turns S.2.turns
section
variable {ways : Int → Option Int} {b : List Sm} {n : Int} {k : Nat}
theorem rn_turns (o : Sm.oks b) (c : List Int) : (rn ways b n c).2.turns = tk c (rn ways b n c).2.turns.length := turns_tk b o 0 n
theorem rn_len (o : Sm.oks b) (hv : Sm.hvs b ≤ k) (c : List Int) : (rn ways b n c).2.turns.length ≤ k := by
  have := turns_le (dec := decC c) (ways := ways) b o 0 (cs0 n)
  have e : (cs0 n).turns.length = 0 := rfl
  show (Sm.runs (decC c) ways b 0 (cs0 n)).2.turns.length ≤ k
  omega
theorem rn_self (o : Sm.oks b) (c : List Int) : rn ways b n (rn ways b n c).2.turns = rn ways b n c := by
  refine runs_same (c1 := c) (c2 := (rn ways b n c).2.turns) (ways := ways) b o 0 n fun i hi => ?_
  have e := tk_getD (chs := c) hi
  rw [← rn_turns o c] at e
  exact e.symm
theorem ChOk.nil (o : Sm.oks b) : ChOk ways b n k [] (some []) := by
  refine ⟨(fun R h => nomatch h), ?_, ?_, ?_, .nil⟩
  · show (0 : Int) = wl k []
    rw [wl_nil]
  · rintro c ⟨⟩
    exact ⟨(fun i h => nomatch h), Nat.zero_le _⟩
  · intro v l h a
    have := (wl_rng h (Nat.le_of_eq l)).1
    have a : wl k v < wl k [] := a
    rw [wl_nil] at a
    omega
theorem ChOk.snoc (o : Sm.oks b) (hv : Sm.hvs b ≤ k) {Rs : List (Option Str × Cs)} {c : List Int} (h : ChOk ways b n k Rs (some c)) : ChOk ways b n k (Rs ++ [rn ways b n c]) (nxt (rn ways b n c).2.turns) := by
  obtain ⟨c01, cl⟩ := h.cs c rfl
  have tt := rn_turns (ways := ways) (n := n) o c
  have tl := rn_len (ways := ways) (n := n) o hv c
  have t01 : ty01 (rn ways b n c).2.turns := by
    rw [tt]
    exact tk_01 c01 _
  have wc : wl k (rn ways b n c).2.turns = wl k c := by
    rw [tt]
    exact wl_tk cl
  have top : topO k (nxt (rn ways b n c).2.turns) = wl k c + pw k (rn ways b n c).2.turns := by
    cases e : nxt (rn ways b n c).2.turns with
    | none =>
      have := wl_ones (k := k) (nxt_none e) tl
      show (2 : Int) ^ k = _
      omega
    | some c2 =>
      have := wl_nxt t01 tl e
      show wl k c2 = _
      omega
  have p := pw_pos k (rn ways b n c).2.turns
  have tc : topO k (some c) = wl k c := rfl
  refine ⟨?_, ?_, ?_, ?_, ?_⟩
  · intro R hR
    rcases List.mem_append.mp hR with z | z
    · obtain ⟨a1, a2, a3, a4⟩ := h.self R z
      exact ⟨a1, a2, a3, by omega⟩
    · cases List.mem_singleton.mp z
      exact ⟨rn_self o c, t01, tl, by omega⟩
  · rw [List.map_append, List.sum_append, h.sum, top]
    show wl k c + (pw k _ + 0) = _
    omega
  · intro c2 e
    rcases nxt_cases (rn ways b n c).2.turns with ⟨z, _⟩ | ⟨q, x, r, et, hx, hr, e2⟩
    · rw [z] at e; cases e
    · rw [e2] at e
      cases e
      have q01 : ty01 (q ++ [1]) := by
        intro i hi
        rcases List.mem_append.mp hi with z | z
        · exact t01 i (by rw [et]; exact List.mem_append_left _ z)
        · cases List.mem_singleton.mp z
          exact .inr rfl
      refine ⟨q01, ?_⟩
      have hj : q.length < (rn ways b n c).2.turns.length := by
        rw [et, List.length_append, List.length_cons]
        omega
      have ot := runs_other (c1 := c) (c2 := q ++ [1]) (ways := ways) b o 0 n q.length hj (by
        intro i hi
        have e := tk_getD (chs := c) (show i < (rn ways b n c).2.turns.length by omega)
        rw [← tt, et] at e
        rw [← e, List.getD_eq_getElem?_getD, List.getD_eq_getElem?_getD, List.getElem?_append_left hi, List.getElem?_append_left hi])
      have := congrArg List.length ot
      rw [List.length_take, tk_len] at this
      rw [List.length_append, List.length_singleton]
      show q.length + 1 ≤ (Sm.runs (decC (q ++ [1])) ways b 0 (cs0 n)).2.turns.length
      omega
  · intro v l v01 a
    by_cases z : wl k v < wl k c
    · exact List.mem_append_left _ (h.all v l v01 z)
    · refine List.mem_append_right _ (List.mem_singleton.mpr ?_)
      obtain ⟨s, rfl⟩ := wl_pre t01 v01 l tl (by omega) (by omega)
      refine runs_same (c1 := c) (c2 := (rn ways b n c).2.turns ++ s) (ways := ways) b o 0 n fun i hi => ?_
      rw [getD_app hi]
      have e := tk_getD (chs := c) hi
      rw [← rn_turns o c] at e
      exact e.symm
  · rw [List.pairwise_append]
    refine ⟨h.ord, List.pairwise_singleton _ _, ?_⟩
    intro R hR S hS
    cases List.mem_singleton.mp hS
    obtain ⟨a1, a2, a3, a4⟩ := h.self R hR
    exact wl_ahd a2 t01 a3 tl (by omega)
theorem Chn.ok (o : Sm.oks b) (hv : Sm.hvs b ≤ k) {Rs : List (Option Str × Cs)} {c : Option (List Int)} (h : Chn ways b n Rs c) : ChOk ways b n k Rs c := by
  generalize e : c = c' at h
  induction h generalizing c with
  | nil => exact ChOk.nil o
  | snoc h ih => exact (ih rfl).snoc o hv
theorem sum_ge {Rs : List (Option Str × Cs)} : (Rs.length : Int) ≤ (Rs.map fun R => pw k R.2.turns).sum := by
  induction Rs with
  | nil => exact Int.le_refl 0
  | cons R r ih =>
    have := pw_pos k R.2.turns
    rw [List.map_cons, List.sum_cons, List.length_cons]
    omega
theorem topO_le {o : Option (List Int)} (h : ∀ c, o = some c → ty01 c ∧ c.length ≤ k) : topO k o ≤ (2 : Int) ^ k := by
  cases o with
  | none => exact Int.le_refl _
  | some c =>
    obtain ⟨h1, h2⟩ := h c rfl
    have := wl_rng h1 h2
    have := pw_pos k c
    show wl k c ≤ _
    omega
theorem ChOk.len (o : Sm.oks b) (hv : Sm.hvs b ≤ k) {Rs : List (Option Str × Cs)} {c : Option (List Int)} (h : ChOk ways b n k Rs c) : (Rs.length : Int) ≤ (2 : Int) ^ k := by
  refine Int.le_trans (sum_ge (k := k)) ?_
  rw [h.sum]
  refine topO_le fun c e => ?_
  obtain ⟨h1, h2⟩ := h.cs c e
  exact ⟨h1, Nat.le_trans h2 (rn_len o hv c)⟩
end
end EH
namespace EH
open PySem PySem.Spec PyProof.Rows L2
/-! ### sorted of a tuple of data, x in a list of data, repr of a list -/
section
variable {X : Cx}
def rReprLs : List V → Hp → VK → Prop := fun xs H Q => ∃ a vs ds, xs = [.ref a] ∧ H a = some (.lst vs) ∧ TrAll H ds vs ∧ Shw (.list ds) ∧ ∀ z, z = (PyData.list ds).shown → Q (.str z) H
theorem call_reprLs (fr : Free X.A) (hu : X.A.units + 64 < cLine) : CallR X (.builtin "repr") rReprLs := CallR.imp (call_reprD fr hu) fun xs H Q ⟨a, vs, ds, e, h, t, s, q⟩ => ⟨.ref a, .list ds, e, .lst (SqL.of h) (TrAll.dp ds vs t), s.sh, s.sz, s.dp, q _ rfl⟩
end
/-! ### sorted of anything that can be collected: data -/
section
variable {X : Cx}
/-- data that can be sorted; one alone always -/
def Srt (ds : List PyData) : Prop := PySem.W.Sortable ds ∨ (ds.length ≤ 1 ∧ ∀ d ∈ ds, d ≠ .none)
/-- the data of a key -/
def keyD (k : List Key) : PyData := .tuple (k.map kD)
end
end EH
namespace EH
open PySem L2
/-- a run as runs_on tells it -/
def runD (r : Option Str × Cs) : PyData := .tuple [.tuple (r.2.turns.map PyData.int), .tuple (r.2.said.map kD), wD r.1]
section
variable {ways : Int → Option Int} {b : List Sm} {n : Int} {k : Nat}
theorem Chn.len (o : Sm.oks b) (hv : Sm.hvs b ≤ 8) {Rs : List (Option Str × Cs)} {c : Option (List Int)} (h : Chn ways b n Rs c) : Rs.length ≤ 256 := by
  have := (h.ok (k := 8) o hv).len o hv
  have e : (2 : Int) ^ 8 = 256 := by decide
  omega
end
/-! ### programs can be shown -/
structure Sw (d : PyData) (W D : Nat) : Prop where
  sh : d.showable = true
  ls : d.leavesShort 13 = true
  wt : d.weight ≤ W
  dp : d.depth ≤ D
structure Sws (ds : List PyData) (W D : Nat) : Prop where
  sh : PyData.showableAll ds = true
  ls : PyData.leavesShortAll 13 ds = true
  wt : PyData.weightAll ds ≤ W
  dp : PyData.depthAll ds ≤ D
theorem Sw.mono {d : PyData} {W D W' D' : Nat} (h : Sw d W D) (a : W ≤ W') (b : D ≤ D') : Sw d W' D' := ⟨h.sh, h.ls, Nat.le_trans h.wt a, Nat.le_trans h.dp b⟩
theorem Sws.mono {d : List PyData} {W D W' D' : Nat} (h : Sws d W D) (a : W ≤ W') (b : D ≤ D') : Sws d W' D' := ⟨h.sh, h.ls, Nat.le_trans h.wt a, Nat.le_trans h.dp b⟩
theorem Sw.shw {d : PyData} {W D : Nat} (h : Sw d W D) (hw : W ≤ 1000000) (hd : D ≤ 60) : Shw d := by
  refine ⟨h.sh, Nat.le_trans (PyData.shown_le 13 (by decide) d h.ls) ?_, Nat.le_trans h.dp hd⟩
  have := h.wt
  have : (15 : Nat) * d.weight + 13 ≤ 16777216 := by omega
  exact Nat.le_trans this (by decide +kernel)
end EH
namespace EH
open PySem PySem.Spec PyProof.Rows L2 LamX
/-! ### lambdas that are made, kept, and called later -/
def LamO (f : Addr) (o : Obj) : HO := .ext fun h => h.get? f = some o
def CellO (c : Addr) (v : V) : HO := .ext fun h => ∃ u, RelV v u ∧ h.IsCell c (some u)
structure LamC where
  q : Str
  params : Arguments
  body : Expr
  scope : Scope
  clo : List (Str × Addr)
  pm : Value
  c' : Addr
  ctv : Value
def LamC.obj (L : LamC) : Obj := PySem.W.kla_obj "<lambda>" L.q L.params L.body L.scope L.clo L.pm L.c' L.ctv
structure LamH (H : Hp) (f : Addr) (L : LamC) (fv : Str → Option V) : Prop where
  fn : H f = some (LamO f L.obj)
  code : H L.c' = some (CodeO L.c' L.q)
  cell : ∀ y c, L.clo.lookup y = some c → ∃ v, fv y = some v ∧ H c = some (CellO c v)
  dis : ∀ x y c, L.clo.lookup x = some c → L.clo.lookup y = some c → x = y
theorem LamH.kp {S : List Addr} {H H' : Hp} {f : Addr} {L : LamC} {fv : Str → Option V} (l : LamH H f L fv) (k : Kp S H H') : LamH H' f L fv := by
  refine ⟨k.ext _ _ l.fn, k.ext _ _ l.code, fun y c e => ?_, l.dis⟩
  obtain ⟨v, e1, e2⟩ := l.cell y c e
  exact ⟨v, e1, k.ext _ _ e2⟩
/-- a lambda's names: parameters, then captured ones -/
structure LamSc (N ps frees : List Str) (sc : Scope) : Prop where
  kind : sc.kind = .function
  co : sc.isCoroutine = false
  gen : sc.isGenerator = false
  nd : N.Nodup
  all : N = ps ++ frees
  par : ∀ x ∈ ps, sc.names.lookup x = some .local
  fre : ∀ x ∈ frees, sc.names.lookup x = some .free
  nocell : ∀ y ∈ sc.names, y.2 ≠ .cell
section
variable {P : Program} {w : World} {K : PySem.W.Frag} {mg : Str → Option Value} {base : Heap}
end
/-! ### a lambda is made and kept -/
section
variable {X : Cx}
end
/-! ### a def that returns a lambda: its cells are known from then on -/
section
variable {P : Program} {w : World} {K : PySem.W.Frag} {mg : Str → Option Value} {base : Heap}
end
/-! ### a kept lambda is called -/
structure LamOk (P : Program) (w : World) (K : PySem.W.Frag) (mg : Str → Option Value) (base : Heap) (k : Nat) (L : LamC) (fv : Str → Option V) (sp : Sp) : Prop where
  run : ∀ (A : Around) (outer : List Env) (s : Shared) (H : Hp) (f : Addr) (us : List Value) (vs : List V) (Q : VK) (E : XK), Room k A → Env0 P w K mg base A outer s H → LamH H f L fv → Vals vs us → sp vs H Q E → codeAny (model P w) A (.call (.ref f) ⟨us, []⟩) (CR CX0 outer P w H s Q E) s
section
variable {X : Cx}
end
/-! ### a dict's display, its new heaps by letters -/
section
variable {X : Cx}
end
/-! ### the law's own walk: a world of names, items, turns, and a function that chooses -/
structure Wad where
  x : Addr
  nd : Addr
  sd : Addr
  td : Addr
  f : Addr
def wkvs (a : Wad) : List (Key × V) := [(Sum.inr "names", .ref a.nd), (Sum.inr "items", .ref a.sd), (Sum.inr "turns", .ref a.td), (Sum.inr "choose", .ref a.f)]
structure WAt (CP : Hp → Addr → Prop) (ow : List Addr) (H : Hp) (a : Wad) (n : Nat) (s : Cs) : Prop where
  ob : H a.x = some (.dK (wkvs a))
  nm : ∃ kvs, H a.nd = some (.dK kvs) ∧ EnvRel kvs s.env ∧ kvs.length ≤ n + 1
  sa : H a.sd = some (.lst (s.said.map kV))
  tu : H a.td = some (.lst (s.turns.map V.int))
  ch : CP H a.f
  ls : s.said.length ≤ n
  lt : s.turns.length ≤ n
  ne1 : a.nd ≠ a.x
  ne2 : a.sd ≠ a.td
  dis : ∀ x ∈ [a.nd, a.sd, a.td], x ∉ ow
section
variable {CP : Hp → Addr → Prop} {ow : List Addr} {H H1 : Hp} {a : Wad} {n m : Nat} {s : Cs}
theorem WAt.g1 (c : WAt CP ow H a n s) : DGet H a.x (.str "names") (some (.ref a.nd)) := DGet.k (k := Sum.inr "names") c.ob
theorem WAt.g2 (c : WAt CP ow H a n s) : DGet H a.x (.str "items") (some (.ref a.sd)) := DGet.k (k := Sum.inr "items") c.ob
theorem WAt.g3 (c : WAt CP ow H a n s) : DGet H a.x (.str "turns") (some (.ref a.td)) := DGet.k (k := Sum.inr "turns") c.ob
theorem WAt.g4 (c : WAt CP ow H a n s) : DGet H a.x (.str "choose") (some (.ref a.f)) := DGet.k (k := Sum.inr "choose") c.ob
theorem WAt.mono (c : WAt CP ow H a n s) (h : n ≤ m) : WAt CP ow H a m s := by
  obtain ⟨kvs, h1, h2, h3⟩ := c.nm
  have := c.ls
  have := c.lt
  exact ⟨c.ob, ⟨kvs, h1, h2, by omega⟩, c.sa, c.tu, c.ch, by omega, by omega, c.ne1, c.ne2, c.dis⟩
theorem WAt.kp0 (kp : ∀ S H H' f, CP H f → Kp S H H' → (∀ x ∈ S, x ∉ ow) → CP H' f) (c : WAt CP ow H a n s) (k : Kp [] H H1) : WAt CP ow H1 a n s := by
  obtain ⟨kvs, h1, h2, h3⟩ := c.nm
  exact ⟨k.at c.ob, ⟨kvs, k.at h1, h2, h3⟩, k.at c.sa, k.at c.tu, kp _ _ _ _ c.ch k (fun _ z => nomatch z), c.ls, c.lt, c.ne1, c.ne2, c.dis⟩
theorem WAt.put {kvs : List (Key × V)} {x : Str} {v : Int} (kp : ∀ S H H' f, CP H f → Kp S H H' → (∀ x ∈ S, x ∉ ow) → CP H' f) (c : WAt CP ow H a n s) (hk : H a.nd = some (.dK kvs)) (he : EnvRel kvs s.env)
    (hl : kvs.length ≤ n + 1) (e : H1 = upd H a.nd (.dK (putK kvs (Sum.inr x) (.int v)))) : WAt CP ow H1 a (n + 1) { s with env := setE s.env x v } ∧ Kp [a.nd, a.sd, a.td] H H1 := by
  have k : Kp [a.nd] H H1 := by rw [e]; exact Kp.put hk (fun _ z => by cases z)
  have l2 := length_putK kvs (Sum.inr x : Key) (V.int v)
  have := c.ls
  have := c.lt
  refine ⟨⟨k.keep _ _ c.ob (EH.ne1 c.ne1.symm), ⟨_, by rw [e]; exact upd_same, he.put x v, by omega⟩, k.keep _ _ c.sa (EH.ne1 (ne_of c.sa hk (fun z => by cases z))), k.keep _ _ c.tu (EH.ne1 (ne_of c.tu hk (fun z => by cases z))),
    kp _ _ _ _ c.ch k (fun x hx => c.dis x (by cases List.mem_singleton.mp hx; simp)), by show s.said.length ≤ _; omega, by show s.turns.length ≤ _; omega, c.ne1, c.ne2, c.dis⟩, k.sub (by simp)⟩
theorem WAt.say {v : Key} (kp : ∀ S H H' f, CP H f → Kp S H H' → (∀ x ∈ S, x ∉ ow) → CP H' f) (c : WAt CP ow H a n s) (h1 : H1 a.sd = some (.lst (s.said.map kV ++ [kV v]))) (k : Kp [a.sd] H H1) :
    WAt CP ow H1 a (n + 1) { s with said := s.said ++ [v] } ∧ Kp [a.nd, a.sd, a.td] H H1 := by
  obtain ⟨kvs, g1, g2, g3⟩ := c.nm
  have := c.ls
  have := c.lt
  refine ⟨⟨k.keep _ _ c.ob (EH.ne1 (ne_of c.ob c.sa (fun z => by cases z))), ⟨kvs, k.keep _ _ g1 (EH.ne1 (ne_of g1 c.sa (fun z => by cases z))), g2, by omega⟩, by rw [h1, List.map_append]; rfl, k.keep _ _ c.tu (EH.ne1 c.ne2.symm),
    kp _ _ _ _ c.ch k (fun x hx => c.dis x (by cases List.mem_singleton.mp hx; simp)), by show (s.said ++ [v]).length ≤ _; rw [List.length_append, List.length_singleton]; omega, by show s.turns.length ≤ _; omega, c.ne1, c.ne2, c.dis⟩, k.sub (by simp)⟩
theorem WAt.turn {v : Int} (kp : ∀ S H H' f, CP H f → Kp S H H' → (∀ x ∈ S, x ∉ ow) → CP H' f) (c : WAt CP ow H a n s) (h1 : H1 a.td = some (.lst (s.turns.map V.int ++ [.int v]))) (k : Kp [a.td] H H1) :
    WAt CP ow H1 a (n + 1) { s with turns := s.turns ++ [v] } ∧ Kp [a.nd, a.sd, a.td] H H1 := by
  obtain ⟨kvs, g1, g2, g3⟩ := c.nm
  have := c.ls
  have := c.lt
  refine ⟨⟨k.keep _ _ c.ob (EH.ne1 (ne_of c.ob c.tu (fun z => by cases z))), ⟨kvs, k.keep _ _ g1 (EH.ne1 (ne_of g1 c.tu (fun z => by cases z))), g2, by omega⟩, k.keep _ _ c.sa (EH.ne1 c.ne2), by rw [h1, List.map_append]; rfl,
    kp _ _ _ _ c.ch k (fun x hx => c.dis x (by cases List.mem_singleton.mp hx; simp)), by show s.said.length ≤ _; omega, by show (s.turns ++ [v]).length ≤ _; rw [List.length_append, List.length_singleton]; omega, c.ne1, c.ne2, c.dis⟩, k.sub (by simp)⟩
end
theorem WAt.off {CP : Hp → Addr → Prop} {ow : List Addr} {H : Hp} {a : Wad} {n : Nat} {s : Cs} {l : Addr} (c : WAt CP ow H a n s) (h : H l = none) : l ∉ [a.nd, a.sd, a.td] := by
  obtain ⟨kvs, g1, _⟩ := c.nm
  simp [(ne_of_none g1 h).symm, (ne_of_none c.sa h).symm, (ne_of_none c.tu h).symm]
/-- a function that chooses, called by value, place and the number of the turn -/
structure Chooser (P : Program) (w : World) (K : PySem.W.Frag) (mg : Str → Option Value) (base : Heap) (k : Nat) (LS : LamC → Prop) (sp : (Str → Option V) → Sp) (CP : Hp → Addr → Prop) (ow : List Addr) (dec : Nat → Int → Int → Int) : Prop where
  F : ∀ L fv, LS L → LamOk P w K mg base k L fv (sp fv)
  kp : ∀ S H H' f, CP H f → Kp S H H' → (∀ x ∈ S, x ∉ ow) → CP H' f
  fr : ∀ H f, CP H f → ∀ x ∈ ow, H x ≠ none
  atF : ∀ H f, CP H f → ∃ L fv, LS L ∧ LamH H f L fv ∧ ∀ (v p : Int) (n : Nat) (Q : VK), (∀ H', Kp [] H H' → Q (.int (dec n v p)) H') → sp fv [.int v, .int p, .int n] H Q fun _ _ _ => False
end EH
namespace EH
open PySem L2
/-! ### all runs on a number by sixteen choices, sorted by their turns -/
section
variable {ways : Int → Option Int} {b : List Sm} {n : Int}
theorem Chn.same : ∀ (m : Nat) {Rs Rs' : List (Option Str × Cs)} {c c' : Option (List Int)}, Rs.length = m → Rs'.length = m → Chn ways b n Rs c → Chn ways b n Rs' c' → Rs = Rs' ∧ c = c'
  | 0, Rs, Rs', c, c', h1, h2, a, e => by
    cases a with
    | nil =>
      cases e with
      | nil => exact ⟨rfl, rfl⟩
      | snoc e => simp at h2
    | snoc a => simp at h1
  | m + 1, Rs, Rs', c, c', h1, h2, a, e => by
    cases a with
    | nil => simp at h1
    | snoc a =>
      cases e with
      | nil => simp at h2
      | snoc e =>
        rw [List.length_append] at h1 h2
        obtain ⟨z1, z2⟩ := Chn.same m (by simpa using h1) (by simpa using h2) a e
        cases z2
        subst z1
        exact ⟨rfl, rfl⟩
end
/-- a sorted list is the strictly rising one with the same items -/
theorem sorted_eq {α : Type} {lt : α → α → Bool} : ∀ {m l : List α}, l.Perm m → l.Pairwise (fun a b => lt b a = false) → m.Pairwise (fun a b => lt a b = true) → l = m
  | [], l, p, _, _ => p.eq_nil
  | a :: m, [], p, _, _ => absurd p.length_eq (by simp)
  | a :: m, x :: l, p, hs, hm => by
    have hs' := List.pairwise_cons.mp hs
    have hm' := List.pairwise_cons.mp hm
    have e : x = a := by
      have h1 : a ∈ x :: l := p.mem_iff.mpr List.mem_cons_self
      have h2 : x ∈ a :: m := p.mem_iff.mp List.mem_cons_self
      rcases List.mem_cons.mp h1 with z | z
      · exact z.symm
      · rcases List.mem_cons.mp h2 with y | y
        · exact y
        · have a1 := hs'.1 a z
          have a2 := hm'.1 x y
          rw [a1] at a2
          cases a2
    subst e
    rw [sorted_eq (List.perm_cons x |>.mp p) hs'.2 hm'.2]
def bits (j : Nat) : List Int := [(j : Int) / 8, (j : Int) / 4 % 2, (j : Int) / 2 % 2, (j : Int) % 2]
theorem bits_ok {j : Nat} (h : j < 16) : ty01 (bits j) ∧ (bits j).length = 4 := by
  refine ⟨?_, rfl⟩
  intro i hi
  simp only [bits, List.mem_cons, List.not_mem_nil, or_false] at hi
  rcases hi with rfl | rfl | rfl | rfl <;> omega
theorem bits_all {v : List Int} (h : ty01 v) (l : v.length = 4) : ∃ j, j < 16 ∧ bits j = v := by
  match v, l with
  | [x, y, z, w], _ =>
    have hx := h x (by simp)
    have hy := h y (by simp)
    have hz := h z (by simp)
    have hw := h w (by simp)
    refine ⟨(8 * x + 4 * y + 2 * z + w).toNat, by omega, ?_⟩
    simp only [bits]
    rw [show (((8 * x + 4 * y + 2 * z + w).toNat : Nat) : Int) = 8 * x + 4 * y + 2 * z + w by omega]
    congr 1
    · omega
    · congr 1
      · omega
      · congr 1
        · omega
        · congr 1
          omega
def tkey (R : Option Str × Cs) : List Key := R.2.turns.map Sum.inl
theorem tkey_inj {R S : Option Str × Cs} (h : tkey R = tkey S) : R.2.turns = S.2.turns := by
  unfold tkey at h
  exact List.map_inj_right (fun a b e => Sum.inl.inj e) |>.mp h
theorem keyD_tkey (R : Option Str × Cs) : keyD (tkey R) = .tuple (R.2.turns.map PyData.int) := by
  unfold keyD tkey
  rw [List.map_map]
  rfl
theorem ahd_lt : ∀ {t u : List Int}, Ahd t u → PySem.W.rowLt (t.map .int) (u.map .int) = true := by
  intro t u h
  rw [PySem.W.dataLt_ints]
  refine decide_eq_true ?_
  induction h with
  | lt => exact List.cons_lt_cons_iff.mpr (.inl (by decide))
  | eq h ih => exact List.cons_lt_cons_iff.mpr (.inr ⟨rfl, ih⟩)
section
variable {ways : Int → Option Int} {b : List Sm} {n : Int}
theorem chn_mem {Rs : List (Option Str × Cs)} (o : Sm.oks b) (hv : Sm.hvs b ≤ 4) (h : Chn ways b n Rs none) (R : Option Str × Cs) : R ∈ Rs ↔ ∃ j, j < 16 ∧ R = rn ways b n (bits j) := by
  have ok := h.ok (k := 4) o hv
  constructor
  · intro hR
    obtain ⟨e, t01, tl, _⟩ := ok.self R hR
    have l4 : (tk R.2.turns 4).length = 4 := tk_len _ _
    obtain ⟨j, hj, eb⟩ := bits_all (tk_01 t01 4) l4
    refine ⟨j, hj, ?_⟩
    rw [eb]
    have e2 : rn ways b n (tk R.2.turns 4) = rn ways b n R.2.turns := by
      refine runs_same (c1 := R.2.turns) (c2 := tk R.2.turns 4) (ways := ways) b o 0 n fun i hi => ?_
      have : i < 4 := Nat.lt_of_lt_of_le hi (rn_len o hv _)
      exact (tk_getD this).symm
    rw [e2, e]
  · rintro ⟨j, hj, rfl⟩
    obtain ⟨b1, b2⟩ := bits_ok hj
    refine ok.all _ b2 b1 ?_
    have := wl_rng b1 (Nat.le_of_eq b2)
    have := pw_pos 4 (bits j)
    show wl 4 (bits j) < (2 : Int) ^ 4
    omega
/-- what the dict holds: each run once, by its turns -/
structure AllAt (ways : Int → Option Int) (b : List Sm) (n : Int) (H : Hp) (kvs : List (List Key × V)) (Ss : List (Option Str × Cs)) (i : Nat) : Prop where
  keys : kvs.map (·.1) = Ss.map tkey
  nd : (Ss.map tkey).Nodup
  val : ∀ R ∈ Ss, ∃ v, valV kvs (tkey R) = some v ∧ Tr H (runD R) v
  from_ : ∀ R ∈ Ss, ∃ j, j < 16 ∧ R = rn ways b n (bits j)
  all : ∀ j, j < i → rn ways b n (bits j) ∈ Ss
theorem AllAt.kp {H H' : Hp} {S : List Addr} {kvs : List (List Key × V)} {Ss : List (Option Str × Cs)} {i : Nat} (h : AllAt ways b n H kvs Ss i) (k : Kp S H H') : AllAt ways b n H' kvs Ss i :=
  ⟨h.keys, h.nd, fun R hR => let ⟨v, e, t⟩ := h.val R hR; ⟨v, e, k.tr t⟩, h.from_, h.all⟩
theorem AllAt.put {H : Hp} {kvs : List (List Key × V)} {Ss : List (Option Str × Cs)} {i : Nat} {v : V} (o : Sm.oks b) (hi : i < 16) (h : AllAt ways b n H kvs Ss i) (t : Tr H (runD (rn ways b n (bits i))) v) :
    ∃ Ss', AllAt ways b n H (putK kvs (tkey (rn ways b n (bits i))) v) Ss' (i + 1) := by
  have self : ∀ R, (∃ j, j < 16 ∧ R = rn ways b n (bits j)) → rn ways b n R.2.turns = R := by
    rintro R ⟨j, hj, rfl⟩
    exact rn_self o _
  generalize hR : rn ways b n (bits i) = R at t
  have fR : ∃ j, j < 16 ∧ R = rn ways b n (bits j) := ⟨i, hi, hR.symm⟩
  have one : ∀ S ∈ Ss, tkey S = tkey R → S = R := fun S hS e => by
    rw [← self S (h.from_ S hS), ← self R fR, tkey_inj e]
  by_cases hm : R ∈ Ss
  · refine ⟨Ss, ?_, h.nd, fun S hS => ?_, h.from_, fun j hj => ?_⟩
    · have hk : (kvs.any fun kv => decide (kv.1 = tkey R)) = true := by
        have : tkey R ∈ kvs.map (·.1) := by rw [h.keys]; exact List.mem_map.mpr ⟨R, hm, rfl⟩
        obtain ⟨p, hp, e⟩ := List.mem_map.mp this
        exact List.any_eq_true.mpr ⟨p, hp, decide_eq_true e⟩
      unfold putK
      rw [if_pos hk, List.map_map, ← h.keys]
      refine List.map_congr_left fun p _ => ?_
      show (if p.1 = tkey R then (p.1, v) else p).1 = p.1
      split <;> rfl
    · rw [valV_put]
      by_cases e : tkey S = tkey R
      · rw [if_pos e, one S hS e]
        exact ⟨v, rfl, t⟩
      · rw [if_neg e]
        exact h.val S hS
    · by_cases z : j = i
      · subst z; rw [hR]; exact hm
      · exact h.all j (by omega)
  · have nk : tkey R ∉ Ss.map tkey := fun z => by
      obtain ⟨S, hS, e⟩ := List.mem_map.mp z
      exact hm (one S hS e ▸ hS)
    have hk : ¬ (kvs.any fun kv => decide (kv.1 = tkey R)) = true := by
      intro z
      obtain ⟨p, hp, e⟩ := List.any_eq_true.mp z
      exact nk (by rw [← h.keys]; exact List.mem_map.mpr ⟨p, hp, of_decide_eq_true e⟩)
    refine ⟨Ss ++ [R], ?_, ?_, fun S hS => ?_, fun S hS => ?_, fun j hj => ?_⟩
    · unfold putK
      rw [if_neg hk, List.map_append, List.map_append, h.keys]
      rfl
    · rw [List.map_append]
      refine List.nodup_append.mpr ⟨h.nd, by simp, ?_⟩
      intro x hx y hy e
      subst e
      have : x = tkey R := by simpa using hy
      exact nk (this ▸ hx)
    · rw [valV_put]
      rcases List.mem_append.mp hS with z | z
      · by_cases e : tkey S = tkey R
        · exact absurd (one S z e ▸ z) hm
        · rw [if_neg e]
          exact h.val S z
      · cases List.mem_singleton.mp z
        rw [if_pos rfl]
        exact ⟨v, rfl, t⟩
    · rcases List.mem_append.mp hS with z | z
      · exact h.from_ S z
      · cases List.mem_singleton.mp z
        exact fR
    · by_cases z : j = i
      · subst z; rw [hR]; simp
      · exact List.mem_append_left _ (h.all j (by omega))
theorem AllAt.sorted {H : Hp} {kvs : List (List Key × V)} {Ss Rs : List (Option Str × Cs)} (o : Sm.oks b) (hv : Sm.hvs b ≤ 4) (c : Chn ways b n Rs none) (h : AllAt ways b n H kvs Ss 16) :
    PySem.W.AllAlike (kvs.map fun p => keyD p.1) ∧ Srt (kvs.map fun p => keyD p.1) ∧ (kvs.map fun p => keyD p.1).mergeSort (PySem.W.dataLe false id) = Rs.map (fun R => .tuple (R.2.turns.map PyData.int)) ∧ (∀ R ∈ Rs, ∃ v, valV kvs (tkey R) = some v ∧ Tr H (runD R) v) ∧ kvs.length ≤ 16 := by
  have ok := c.ok (k := 4) o hv
  have ek : (kvs.map fun p => keyD p.1) = Ss.map fun R => .tuple (R.2.turns.map PyData.int) := by
    have : (kvs.map fun p => keyD p.1) = (kvs.map (·.1)).map keyD := by rw [List.map_map]; rfl
    rw [this, h.keys, List.map_map]
    exact List.map_congr_left fun R _ => keyD_tkey R
  have mem : ∀ R, R ∈ Ss ↔ R ∈ Rs := fun R => by
    rw [chn_mem o hv c]
    exact ⟨h.from_ R, fun ⟨j, hj, e⟩ => e ▸ h.all j hj⟩
  have strict : (Rs.map fun R => PyData.tuple (R.2.turns.map PyData.int)).Pairwise (fun a b => PySem.W.dataLt a b = true) := by
    rw [List.pairwise_map]
    refine ok.ord.imp fun hA => ?_
    rw [PySem.W.dataLt_tuple]
    exact ahd_lt hA
  have ndS : Ss.Nodup := (List.pairwise_map.mp h.nd).imp fun hne e => hne (by rw [e])
  have ndR : Rs.Nodup := by
    refine ok.ord.imp fun hA e => ?_
    subst e
    have := ahd_lt hA
    rw [PySem.W.dataLt_ints, decide_eq_true_eq] at this
    exact absurd this (List.lt_irrefl _)
  have perm : Ss.Perm Rs := (List.perm_ext_iff_of_nodup ndS ndR).mpr mem
  have lenR := c.len o (Nat.le_trans hv (by decide))
  have lenR16 : Rs.length ≤ 16 := by
    have := ok.len o hv
    have e : (2 : Int) ^ 4 = 16 := by decide
    omega
  refine ⟨?_, ?_, ?_, fun R hR => h.val R ((mem R).mpr hR), ?_⟩
  · rw [ek]
    refine PySem.W.AllAlike.of fun R S => ?_
    show PySem.W.alike (.tuple _) (.tuple _) = true
    simp only [PySem.W.alike]
    exact PySem.W.alike_ints _ _
  · rw [ek]
    by_cases z : ∃ R ∈ Rs, R.2.turns = []
    · obtain ⟨R, hR, e⟩ := z
      refine .inr ⟨?_, fun d hd => ?_⟩
      · have s := ok.sum
        have hp : pw 4 R.2.turns = 16 := by rw [e]; decide
        have tt : topO 4 none = 16 := by decide
        rw [tt] at s
        rw [List.length_map, perm.length_eq]
        obtain ⟨A, B, rfl⟩ := List.append_of_mem hR
        rw [List.map_append, List.map_cons, List.sum_append, List.sum_cons, hp] at s
        have sA := sum_ge (k := 4) (Rs := A)
        have sB := sum_ge (k := 4) (Rs := B)
        rw [List.length_append, List.length_cons]
        omega
      · obtain ⟨S, _, rfl⟩ := List.mem_map.mp hd
        exact fun z => by cases z
    · refine .inl (.inl fun d hd => ?_)
      obtain ⟨S, hS, rfl⟩ := List.mem_map.mp hd
      have := fun e => z ⟨S, (mem S).mp hS, e⟩
      cases e : S.2.turns with
      | nil => exact absurd e this
      | cons x r => exact ⟨_, _, rfl⟩
  · rw [ek]
    refine sorted_eq (lt := PySem.W.dataLt) ((List.mergeSort_perm _ _).trans (perm.map _)) ?_ strict
    have := PySem.W.sort_pairwise (PySem.W.sortLe_total (PyProof.Rows.listOrd PyProof.Rows.itemOrd) false fun d : PyData => PySem.W.keyToks (id d)) (Ss.map fun R => PyData.tuple (R.2.turns.map PyData.int))
    refine List.Pairwise.imp (fun {x y} hxy => ?_) this
    have hxy : (!PySem.W.dataLt y x) = true := hxy
    cases e : PySem.W.dataLt y x with
    | false => rfl
    | true => rw [e] at hxy; cases hxy
  · have := congrArg List.length h.keys
    rw [List.length_map, List.length_map, perm.length_eq] at this
    omega
end
section
variable {X : Cx} {pos : Pos}
end
/-! ### rows of runs can be shown -/
structure Bk (d : PyData) (B D : Nat) : Prop where
  sh : d.showable = true
  ls : d.leavesShort 241 = true
  bk : d.bulk ≤ B
  dp : d.depth ≤ D
structure Bks (ds : List PyData) (B D : Nat) : Prop where
  sh : PyData.showableAll ds = true
  ls : PyData.leavesShortAll 241 ds = true
  bk : PyData.bulkAll ds ≤ B
  dp : PyData.depthAll ds ≤ D
theorem Bk.mono {d : PyData} {W D W' D' : Nat} (h : Bk d W D) (a : W ≤ W') (b : D ≤ D') : Bk d W' D' := ⟨h.sh, h.ls, Nat.le_trans h.bk a, Nat.le_trans h.dp b⟩
theorem Bks.mono {d : List PyData} {W D W' D' : Nat} (h : Bks d W D) (a : W ≤ W') (b : D ≤ D') : Bks d W' D' := ⟨h.sh, h.ls, Nat.le_trans h.bk a, Nat.le_trans h.dp b⟩
theorem bks_nil : Bks [] 0 0 := ⟨by simp only [PyData.showableAll], by simp only [PyData.leavesShortAll], by simp only [PyData.bulkAll]; exact Nat.le_refl _, by simp only [PyData.depthAll]; exact Nat.le_refl _⟩
theorem bks_cons {d : PyData} {ds : List PyData} {W D W' : Nat} (h : Bk d W D) (t : Bks ds W' D) : Bks (d :: ds) (W + 1 + W') D := by
  obtain ⟨h1, h2, h3, h4⟩ := h
  obtain ⟨t1, t2, t3, t4⟩ := t
  refine ⟨by simp only [PyData.showableAll, h1, t1]; rfl, by simp only [PyData.leavesShortAll, h2, t2]; rfl, ?_, ?_⟩
  · simp only [PyData.bulkAll]; omega
  · simp only [PyData.depthAll]; omega
theorem bk_tup {ds : List PyData} {W D : Nat} (t : Bks ds W D) : Bk (.tuple ds) W (D + 1) := by
  obtain ⟨t1, t2, t3, t4⟩ := t
  refine ⟨by simp only [PyData.showable, t1], by simp only [PyData.leavesShort, t2], ?_, ?_⟩
  · simp only [PyData.bulk]; omega
  · simp only [PyData.depth]; omega
theorem Bk.shw {d : PyData} {W D : Nat} (h : Bk d W D) (hw : W ≤ 65000) (hd : D ≤ 60) : Shw d := by
  refine ⟨h.sh, Nat.le_trans (PyData.shown_le_bulk 241 (by decide) d h.ls) ?_, Nat.le_trans h.dp hd⟩
  have := h.bk
  have : (243 : Nat) * d.bulk + 241 ≤ 16777216 := by omega
  exact Nat.le_trans this (by decide +kernel)
/-! ### texts of programs -/
def iTxt (i : Int) : Str := Str.ofString (toString i)
def Ex.txt : Ex → Str
  | .num i => iTxt i
  | .var x => x
  | .plus a b => "(" ++ a.txt ++ " + " ++ b.txt ++ ")"
  | .minus a b => "(" ++ a.txt ++ " - " ++ b.txt ++ ")"
  | .times k a => "(" ++ iTxt k ++ " * " ++ a.txt ++ ")"
def Ts.txt : Ts → Str
  | .not t => "not " ++ t.txt
  | .odd a => "odd " ++ a.txt
  | .less a b => a.txt ++ " < " ++ b.txt
def Sm.line : Sm → Str
  | .set x e => x ++ " = " ++ e.txt
  | .half x e => x ++ " = half " ++ e.txt
  | .tell e => "tell " ++ e.txt
  | .say w => "say" ++ " " ++ w
  | .stop w => "stop" ++ " " ++ w
  | .ite t _ _ => "if " ++ t.txt
  | .rep k _ => "repeat" ++ " " ++ iTxt (k : Int)
mutual
def Sm.lns (a : Str) : Sm → List Str
  | .ite t y n => (a ++ (Sm.ite t y n).line) :: ((if y = [] then [a ++ "  " ++ "pass"] else Sm.lnss (a ++ "  ") y) ++ (if n = [] then [] else (a ++ "else") :: Sm.lnss (a ++ "  ") n))
  | .rep k b => (a ++ (Sm.rep k b).line) :: (if b = [] then [a ++ "  " ++ "pass"] else Sm.lnss (a ++ "  ") b)
  | .set x e => [a ++ (Sm.set x e).line]
  | .half x e => [a ++ (Sm.half x e).line]
  | .tell e => [a ++ (Sm.tell e).line]
  | .say w => [a ++ (Sm.say w).line]
  | .stop w => [a ++ (Sm.stop w).line]
def Sm.lnss (a : Str) : List Sm → List Str
  | [] => []
  | s :: r => Sm.lns a s ++ Sm.lnss a r
end
/-! ### sizes -/
theorem iTxt_len {i : Int} (h : i.natAbs < 1000) : (iTxt i).length ≤ 5 := by
  have e := int_text_length_le10 (a := i) (k := 3) (by decide) (by simpa using h)
  unfold iTxt
  rw [ofString_length]
  omega
theorem Ex.txt_len : ∀ {e : Ex}, e.ok → e.txt.length + 5 ≤ 1005 * 2 ^ e.deep
  | .num i, h => by
    have := iTxt_len (i := i) (by have := h.1; have := h.2; omega)
    simp only [Ex.txt, Ex.deep]
    omega
  | .var x, h => by
    have := h.2
    simp only [Ex.txt, Ex.deep]
    omega
  | .plus a b, h => by
    have h1 := Ex.txt_len h.1
    have h2 := Ex.txt_len h.2
    have l1 : 2 ^ a.deep ≤ 2 ^ max a.deep b.deep := Nat.pow_le_pow_right (by decide) (Nat.le_max_left _ _)
    have l2 : 2 ^ b.deep ≤ 2 ^ max a.deep b.deep := Nat.pow_le_pow_right (by decide) (Nat.le_max_right _ _)
    have e1 : (("(" : Str)).length = 1 ∧ ((" + " : Str)).length = 3 ∧ ((")" : Str)).length = 1 := by decide +kernel
    simp only [Ex.txt, Ex.deep, Str.length_append, Nat.pow_succ, e1.1, e1.2.1, e1.2.2]
    omega
  | .minus a b, h => by
    have h1 := Ex.txt_len h.1
    have h2 := Ex.txt_len h.2
    have l1 : 2 ^ a.deep ≤ 2 ^ max a.deep b.deep := Nat.pow_le_pow_right (by decide) (Nat.le_max_left _ _)
    have l2 : 2 ^ b.deep ≤ 2 ^ max a.deep b.deep := Nat.pow_le_pow_right (by decide) (Nat.le_max_right _ _)
    have e1 : (("(" : Str)).length = 1 ∧ ((" - " : Str)).length = 3 ∧ ((")" : Str)).length = 1 := by decide +kernel
    simp only [Ex.txt, Ex.deep, Str.length_append, Nat.pow_succ, e1.1, e1.2.1, e1.2.2]
    omega
  | .times k a, h => by
    have h2 := Ex.txt_len h.2.2
    have h1 := iTxt_len (i := k) (by have := h.1; have := h.2.1; omega)
    have e1 : (("(" : Str)).length = 1 ∧ ((" * " : Str)).length = 3 ∧ ((")" : Str)).length = 1 := by decide +kernel
    have p : 1 ≤ 2 ^ a.deep := Nat.one_le_two_pow
    simp only [Ex.txt, Ex.deep, Str.length_append, Nat.pow_succ, e1.1, e1.2.1, e1.2.2]
    omega
/-! ### str(x) of a number or a text -/
section
variable {X : Cx}
theorem cr_strAny : CallR X (.type "str") (fun xs H Q => (∃ a, xs = [.str a] ∧ Q (.str a) H) ∨ ∃ i, xs = [.int i] ∧ i.natAbs.log2 < 1920 ∧ Q (.str (iTxt i)) H) := by
  intro pins s σ H xs us Q I r h
  rcases h with h | h
  · exact SkE.call_str_str pins s σ H xs us Q I r h
  · exact call_str_int pins s σ H xs us Q I r h
end
/-- the signs between two parts, in a written dict -/
def SgOk (K : PySem.W.Frag) (w : World) (a : Addr) : Prop := KDct K w a "plus" (.str " + ") ∧ KDct K w a "minus" (.str " - ") ∧ KDct K w a "times" (.str " * ")
def spETxt (n : Nat) : Sp := fun vs H Q _ => ∃ (v : V) (e : Ex), vs = [v] ∧ Tr H e.d v ∧ e.ok ∧ e.deep ≤ n ∧ e.deep ≤ 8 ∧ Q (.str e.txt) H
def spETxtL (n : Nat) : Sp := fun vs H Q _ => ∃ (v : V) (e : Ex), vs = [v] ∧ Tr H e.d v ∧ e.ok ∧ e.deep ≤ n ∧ e.deep ≤ 8 ∧ ∀ H', Kp [] H H' → Q (.str e.txt) H'
def spTTxtL (n : Nat) : Sp := fun vs H Q _ => ∃ (v : V) (t : Ts), vs = [v] ∧ Tr H t.d v ∧ t.ok ∧ t.nots ≤ n ∧ t.nots ≤ 1000 ∧ ∀ H', Kp [] H H' → Q (.str t.txt) H'
def spTTxt (n : Nat) : Sp := fun vs H Q _ => ∃ (v : V) (t : Ts), vs = [v] ∧ Tr H t.d v ∧ t.ok ∧ t.nots ≤ n ∧ t.nots ≤ 1000 ∧ Q (.str t.txt) H
theorem Ex.txt_le {e : Ex} (h : e.ok) (hd : e.deep ≤ 8) : e.txt.length ≤ 300000 := by
  have h1 := Ex.txt_len h
  have h2 : 2 ^ e.deep ≤ 2 ^ 8 := Nat.pow_le_pow_right (by decide) hd
  omega
theorem log_small {i : Int} (h : i.natAbs < 1000) : i.natAbs.log2 < 1920 := by
  by_cases z : i.natAbs = 0
  · rw [z]; decide
  · exact Nat.lt_of_lt_of_le ((Nat.log2_lt z).mpr (show i.natAbs < 2 ^ 10 by omega)) (by decide)
theorem Ex.txt3 {e : Ex} (h : e.ok ∧ e.deep ≤ 3) : e.txt.length ≤ 9000 := by
  have h1 := Ex.txt_len h.1
  have h2 : 2 ^ e.deep ≤ 2 ^ 3 := Nat.pow_le_pow_right (by decide) h.2
  omega
theorem Ts.txt_len : ∀ {t : Ts}, t.ok → t.txt.length ≤ 20000 + 4 * t.nots
  | .less a b, h => by
    have h1 := Ex.txt3 h.1
    have h2 := Ex.txt3 h.2
    have e1 : ((" < " : Str)).length = 3 := by decide +kernel
    simp only [Ts.txt, Str.length_append, e1]
    omega
  | .odd a, h => by
    have h1 := Ex.txt3 h
    have e1 : (("odd " : Str)).length = 4 := by decide +kernel
    simp only [Ts.txt, Str.length_append, e1]
    omega
  | .not t, h => by
    have h1 := Ts.txt_len (t := t) h
    have e1 : (("not " : Str)).length = 4 := by decide +kernel
    simp only [Ts.txt, Str.length_append, e1, Ts.nots]
    omega
theorem join2 (s x y : Str) : Txt.join s [x, y] = x ++ s ++ y := by
  rw [TL.join_eq]
  rfl
theorem Sm.line_len : ∀ {s : Sm}, s.ok → s.line.length ≤ 30000
  | .set x e, h => by
    have h1 := Ex.txt3 h.1
    have h2 := h.2.2
    have e1 : ((" = " : Str)).length = 3 := by decide +kernel
    simp only [Sm.line, Str.length_append, e1]
    omega
  | .half x e, h => by
    have h1 := Ex.txt3 h.1
    have h2 := h.2.2
    have e1 : ((" = half " : Str)).length = 8 := by decide +kernel
    simp only [Sm.line, Str.length_append, e1]
    omega
  | .tell e, h => by
    have h1 := Ex.txt3 h
    have e1 : (("tell " : Str)).length = 5 := by decide +kernel
    simp only [Sm.line, Str.length_append, e1]
    omega
  | .say c, h => by
    have h1 := h.2
    have e1 : (("say" : Str)).length = 3 ∧ ((" " : Str)).length = 1 := by decide +kernel
    simp only [Sm.line, Str.length_append, e1.1, e1.2]
    omega
  | .stop c, h => by
    have h1 := h.2
    have e1 : (("stop" : Str)).length = 4 ∧ ((" " : Str)).length = 1 := by decide +kernel
    simp only [Sm.line, Str.length_append, e1.1, e1.2]
    omega
  | .ite t y n, h => by
    have h1 := Ts.txt_len h.1
    have h2 := h.2.1
    have e1 : (("if " : Str)).length = 3 := by decide +kernel
    simp only [Sm.line, Str.length_append, e1]
    omega
  | .rep k b, h => by
    have h1 := iTxt_len (i := (k : Int)) (by have := h.1; omega)
    have e1 : (("repeat" : Str)).length = 6 ∧ ((" " : Str)).length = 1 := by decide +kernel
    simp only [Sm.line, Str.length_append, e1.1, e1.2]
    omega
def spLine : Sp := fun vs H Q _ => ∃ (v : V) (s : Sm), vs = [v] ∧ Tr H s.d v ∧ s.ok ∧ Q (.str s.line) H
def spLineL : Sp := fun vs H Q _ => ∃ (v : V) (s : Sm), vs = [v] ∧ Tr H s.d v ∧ s.ok ∧ ∀ H', Kp [] H H' → Q (.str s.line) H'
def partL (a : Str) (b : List Sm) : List Str := if b = [] then [a ++ "pass"] else Sm.lnss a b
theorem lns_ite (a : Str) (t : Ts) (y n : List Sm) : Sm.lns a (.ite t y n) = (a ++ (Sm.ite t y n).line) :: (partL (a ++ "  ") y ++ (if n = [] then [] else (a ++ "else") :: Sm.lnss (a ++ "  ") n)) := by simp only [Sm.lns, partL]
theorem lns_rep (a : Str) (k : Nat) (b : List Sm) : Sm.lns a (.rep k b) = (a ++ (Sm.rep k b).line) :: partL (a ++ "  ") b := by simp only [Sm.lns, partL]
theorem lnss_app (a : Str) : ∀ b c : List Sm, Sm.lnss a (b ++ c) = Sm.lnss a b ++ Sm.lnss a c
  | [], c => by simp only [Sm.lnss, List.nil_append]
  | s :: r, c => by simp only [List.cons_append, Sm.lnss, lnss_app a r c, List.append_assoc]
theorem lnss_one (a : Str) (s : Sm) : Sm.lnss a [s] = Sm.lns a s := by simp only [Sm.lnss, List.append_nil]
theorem partL_len {a : Str} {b : List Sm} {m : Nat} (h : (Sm.lnss a b).length ≤ m) : (partL a b).length ≤ m + 1 := by
  unfold partL
  split
  · simp
  · omega
mutual
theorem Sm.lns_len : ∀ (a : Str) (s : Sm), (Sm.lns a s).length ≤ 3 * s.pl
  | a, .ite t y n => by
    have h1 := partL_len (Sm.lnss_len (a ++ "  ") y)
    have h2 := Sm.lnss_len (a ++ "  ") n
    rw [lns_ite]
    simp only [List.length_cons, List.length_append, Sm.pl]
    split
    · simp only [List.length_nil]; omega
    · simp only [List.length_cons]; omega
  | a, .rep k b => by
    have h1 := partL_len (Sm.lnss_len (a ++ "  ") b)
    rw [lns_rep]
    simp only [List.length_cons, Sm.pl]
    omega
  | a, .set x e => by simp [Sm.lns, Sm.pl]
  | a, .half x e => by simp [Sm.lns, Sm.pl]
  | a, .tell e => by simp [Sm.lns, Sm.pl]
  | a, .say c => by simp [Sm.lns, Sm.pl]
  | a, .stop c => by simp [Sm.lns, Sm.pl]
theorem Sm.lnss_len : ∀ (a : Str) (b : List Sm), (Sm.lnss a b).length ≤ 3 * Sm.pls b
  | a, [] => by simp [Sm.lnss]
  | a, s :: r => by
    have h1 := Sm.lns_len a s
    have h2 := Sm.lnss_len a r
    simp only [Sm.lnss, List.length_append, Sm.pls]
    omega
end
theorem Sm.pls_take : ∀ (b : List Sm) (i : Nat), Sm.pls (b.take i) ≤ Sm.pls b
  | [], i => by simp
  | s :: r, 0 => by simp [Sm.pls]
  | s :: r, i + 1 => by
    have := Sm.pls_take r i
    simp only [List.take_succ_cons, Sm.pls]
    omega
def spLns (n : Nat) : Sp := fun vs H Q _ => ∃ (v : V) (a : Str) (b : List Sm), vs = [v, .str a] ∧ Tr H (.tuple (Sm.ds b)) v ∧ Sm.oks b ∧ Sm.nests b ≤ n ∧ Sm.pls b ≤ 1000 ∧ a.length + 2 * n ≤ 1000 ∧
  ∀ (l : Addr) (H' : Hp), H l = none → H' l = some (.lst ((Sm.lnss a b).map V.str)) → Kp [] H H' → Q (.ref l) H'
def spPartL (n : Nat) : Sp := fun vs H Q _ => ∃ (v : V) (a : Str) (b : List Sm), vs = [v, .str a] ∧ Tr H (.tuple (Sm.ds b)) v ∧ Sm.oks b ∧ Sm.nests b ≤ n ∧ Sm.pls b ≤ 1000 ∧ a.length + 2 * n ≤ 1000 ∧
  ∀ (l : Addr) (H' : Hp), H l = none → H' l = some (.lst ((partL a b).map V.str)) → Kp [] H H' → Q (.ref l) H'
def sp0L (sp : Nat → Sp) (n : Nat) : Sp := fun vs H Q E => ∃ n', n = n' + 1 ∧ sp n' vs H Q E
theorem Sm.oks_mem : ∀ {l : List Sm} {s : Sm}, Sm.oks l → s ∈ l → s.ok
  | x :: r, s, h, m => by
    simp only [Sm.oks] at h
    rcases List.mem_cons.mp m with rfl | m
    · exact h.1
    · exact Sm.oks_mem h.2 m
theorem two_len : ("  " : Str).length = 2 := by decide +kernel
theorem else_len : ("else" : Str).length = 4 := by decide +kernel
theorem six_len : ("  pass" : Str).length = 6 := by decide +kernel
/-! ### what is drawn -/
/-- a list of names, not one of the deck's -/
structure Nm01 (H : Hp) (nm a c : Addr) (ns : List Str) : Prop where
  at_ : H nm = some (.lst (ns.map V.str))
  off : nm ∉ [a, c]
  ok : ∀ x ∈ ns, PyData.strOk x = true ∧ x.length ≤ 8
  l0 : 0 < ns.length
  l1 : ns.length ≤ 10
theorem Nm01.kp {H H' : Hp} {nm a c : Addr} {ns : List Str} (h : Nm01 H nm a c ns) (k : Kp [a, c] H H') : Nm01 H' nm a c ns := ⟨k.keep _ _ h.at_ h.off, h.off, h.ok, h.l0, h.l1⟩
def spNames01 : Sp := fun vs H Q _ => ∃ (a c : Addr) (m k : Int), vs = [.ref a, .int k] ∧ (0 ≤ k ∧ k ≤ 5) ∧ Deck H a c m ∧ m ≤ 600000000 ∧
  ∀ (nm : Addr) (ns : List Str) (H' : Hp) (m' : Int), Nm01 H' nm a c ns → m ≤ m' → m' ≤ m + 100 → Deck H' a c m' → Kp [a, c] H H' → Q (.ref nm) H'
theorem int_strOk (i : Int) : PyData.strOk (iTxt i) = true := by
  unfold iTxt PyData.strOk
  rw [Str.ofString_eq_toList]
  rw [Array.all_eq_true]
  intro k hk
  simp only [List.getElem_toArray, List.getElem_map, decide_eq_true_eq]
  have hv := ((toString i).toList[k]'(by simpa using hk)).valid
  rcases hv with h | ⟨_, h⟩
  · exact Nat.lt_trans h (by decide)
  · exact h
/-- an expression whose text is short -/
structure Xt (e : Ex) : Prop where
  ok : e.ok
  so : PyData.strOk e.txt = true
  le : e.txt.length + 5 ≤ 15 * 2 ^ e.deep
def cE01 : Nat → Int
  | 0 => 0
  | n + 1 => 5 + 2 * cE01 n
def spExpr01 (n : Nat) : Sp := fun vs H Q _ => ∃ (a c nm : Addr) (m deep : Int) (ns : List Str), vs = [.ref a, .ref nm, .int deep] ∧ Deck H a c m ∧ m + cE01 n ≤ 700000000 ∧ Nm01 H nm a c ns ∧ 1 ≤ deep ∧ deep ≤ (n : Int) ∧ n ≤ 3 ∧
  ∀ (v : V) (e : Ex) (H' : Hp) (m' : Int), Tr H' e.d v → Xt e → (e.deep : Int) ≤ deep → m ≤ m' → m' ≤ m + cE01 n → Deck H' a c m' → Kp [a, c] H H' → Q v H'
theorem xt_num {i : Int} (h : -99 ≤ i ∧ i ≤ 99) : Xt (.num i) := by
  have l := iTxt_len (i := i) (by omega)
  refine ⟨h, ?_, by simp only [Ex.txt, Ex.deep]; omega⟩
  exact int_strOk i
theorem xt_var {x : Str} (h : PyData.strOk x = true ∧ x.length ≤ 8) : Xt (.var x) := ⟨⟨h.1, by omega⟩, h.1, by simp only [Ex.txt, Ex.deep]; omega⟩
theorem so3 {p s q x y : Str} (hp : PyData.strOk p = true) (hs : PyData.strOk s = true) (hq : PyData.strOk q = true) (h1 : PyData.strOk x = true) (h2 : PyData.strOk y = true) : PyData.strOk (p ++ x ++ s ++ y ++ q) = true := strOk_app (strOk_app (strOk_app (strOk_app hp h1) hs) h2) hq
theorem xt_plus {a b : Ex} (h : Xt a) (g : Xt b) : Xt (.plus a b) := by
  refine ⟨⟨h.ok, g.ok⟩, so3 (by decide +kernel) (by decide +kernel) (by decide +kernel) h.so g.so, ?_⟩
  have h1 := h.le
  have h2 := g.le
  have l1 : 2 ^ a.deep ≤ 2 ^ max a.deep b.deep := Nat.pow_le_pow_right (by decide) (Nat.le_max_left _ _)
  have l2 : 2 ^ b.deep ≤ 2 ^ max a.deep b.deep := Nat.pow_le_pow_right (by decide) (Nat.le_max_right _ _)
  have e1 : (("(" : Str)).length = 1 ∧ ((" + " : Str)).length = 3 ∧ ((")" : Str)).length = 1 := by decide +kernel
  simp only [Ex.txt, Ex.deep, Str.length_append, Nat.pow_succ, e1.1, e1.2.1, e1.2.2]
  omega
theorem xt_minus {a b : Ex} (h : Xt a) (g : Xt b) : Xt (.minus a b) := by
  refine ⟨⟨h.ok, g.ok⟩, so3 (by decide +kernel) (by decide +kernel) (by decide +kernel) h.so g.so, ?_⟩
  have h1 := h.le
  have h2 := g.le
  have l1 : 2 ^ a.deep ≤ 2 ^ max a.deep b.deep := Nat.pow_le_pow_right (by decide) (Nat.le_max_left _ _)
  have l2 : 2 ^ b.deep ≤ 2 ^ max a.deep b.deep := Nat.pow_le_pow_right (by decide) (Nat.le_max_right _ _)
  have e1 : (("(" : Str)).length = 1 ∧ ((" - " : Str)).length = 3 ∧ ((")" : Str)).length = 1 := by decide +kernel
  simp only [Ex.txt, Ex.deep, Str.length_append, Nat.pow_succ, e1.1, e1.2.1, e1.2.2]
  omega
theorem xt_times {k : Int} {a : Ex} (hk : -9 ≤ k ∧ k ≤ 9) (g : Xt a) : Xt (.times k a) := by
  refine ⟨⟨hk.1, hk.2, g.ok⟩, so3 (by decide +kernel) (by decide +kernel) (by decide +kernel) (int_strOk k) g.so, ?_⟩
  have h2 := g.le
  have h1 := iTxt_len (i := k) (by omega)
  have p : 1 ≤ 2 ^ a.deep := Nat.one_le_two_pow
  have e1 : (("(" : Str)).length = 1 ∧ ((" * " : Str)).length = 3 ∧ ((")" : Str)).length = 1 := by decide +kernel
  simp only [Ex.txt, Ex.deep, Str.length_append, Nat.pow_succ, e1.1, e1.2.1, e1.2.2]
  omega
theorem Xt.len3 {e : Ex} (h : Xt e) (hd : e.deep ≤ 3) : e.txt.length ≤ 115 := by
  have h1 := h.le
  have h2 : 2 ^ e.deep ≤ 2 ^ 3 := Nat.pow_le_pow_right (by decide) hd
  omega
/-- a test whose text is short -/
structure Tt (k : Nat) (t : Ts) : Prop where
  ok : t.ok
  nots : t.nots = k
  so : PyData.strOk t.txt = true
  le : t.txt.length ≤ 240 + 4 * k
theorem tt_odd {e : Ex} (h : Xt e) (hd : e.deep ≤ 3) : Tt 0 (.odd e) := by
  have l := h.len3 hd
  have e1 : (("odd " : Str)).length = 4 := by decide +kernel
  exact ⟨⟨h.ok, hd⟩, rfl, strOk_app (by decide +kernel) h.so, by simp only [Ts.txt, Str.length_append, e1]; omega⟩
theorem tt_less {a b : Ex} (h : Xt a) (hd : a.deep ≤ 3) (g : Xt b) (gd : b.deep ≤ 3) : Tt 0 (.less a b) := by
  have l := h.len3 hd
  have l2 := g.len3 gd
  have e1 : ((" < " : Str)).length = 3 := by decide +kernel
  exact ⟨⟨⟨h.ok, hd⟩, g.ok, gd⟩, rfl, strOk_app (strOk_app h.so (by decide +kernel)) g.so, by simp only [Ts.txt, Str.length_append, e1]; omega⟩
theorem tt_not {k : Nat} {t : Ts} (h : Tt k t) : Tt (k + 1) (.not t) := by
  have l := h.le
  have e1 : (("not " : Str)).length = 4 := by decide +kernel
  exact ⟨h.ok, by simp only [Ts.nots, h.nots], strOk_app (by decide +kernel) h.so, by simp only [Ts.txt, Str.length_append, e1]; omega⟩
def spTest01 : Sp := fun vs H Q _ => ∃ (a c nm : Addr) (m : Int) (o : Bool) (ns : List Str), vs = [.ref a, .ref nm, .bl o] ∧ Deck H a c m ∧ m ≤ 600000000 ∧ Nm01 H nm a c ns ∧
  ∀ (v : V) (t : Ts) (k : Nat) (H' : Hp) (m' : Int), Tr H' t.d v → Tt k t → k ≤ 2 → m ≤ m' → m' ≤ m + 200 → Deck H' a c m' → Kp [a, c] H H' → Q v H'
/-- a statement whose line is short, and those within it -/
def Lk (s : Sm) : Prop := PyData.strOk s.line = true ∧ s.line.length ≤ 300
mutual
def Sm.tx : Sm → Prop
  | .ite t y n => Lk (.ite t y n) ∧ Sm.txs y ∧ Sm.txs n
  | .rep k b => Lk (.rep k b) ∧ Sm.txs b
  | .set x e => Lk (.set x e)
  | .half x e => Lk (.half x e)
  | .tell e => Lk (.tell e)
  | .say c => Lk (.say c)
  | .stop c => Lk (.stop c)
def Sm.txs : List Sm → Prop
  | [] => True
  | s :: r => s.tx ∧ Sm.txs r
end
theorem txs_app : ∀ {b c : List Sm}, Sm.txs b → Sm.txs c → Sm.txs (b ++ c)
  | [], c, _, h => h
  | s :: r, c, h, g => by
    simp only [Sm.txs, List.cons_append] at h ⊢
    exact ⟨h.1, txs_app h.2 g⟩
theorem oks_app01 : ∀ {b c : List Sm}, Sm.oks b → Sm.oks c → Sm.oks (b ++ c)
  | [], c, _, h => h
  | s :: r, c, h, g => by
    simp only [Sm.oks, List.cons_append] at h ⊢
    exact ⟨h.1, oks_app01 h.2 g⟩
theorem pls_app01 : ∀ b c : List Sm, Sm.pls (b ++ c) = Sm.pls b + Sm.pls c
  | [], c => by simp [Sm.pls]
  | s :: r, c => by simp only [List.cons_append, Sm.pls, pls_app01 r c]; omega
theorem nests_app01 : ∀ b c : List Sm, Sm.nests (b ++ c) = max (Sm.nests b) (Sm.nests c)
  | [], c => by simp [Sm.nests]
  | s :: r, c => by simp only [List.cons_append, Sm.nests, nests_app01 r c]; omega
/-- the state in which programs are drawn: deck, names, what is left -/
structure Gs01 (H : Hp) (a c nm lf : Addr) (m : Int) (ns : List Str) (l0 : Int) : Prop where
  dk : Deck H a c m
  nms : Nm01 H nm a c ns
  lft : ∃ l1 l2 l3 : Int, H lf = some (.lst [.int l0, .int l1, .int l2, .int l3])
  off : lf ∉ [a, c]
theorem Gs01.kpD {H H' : Hp} {a c nm lf : Addr} {m m' : Int} {ns : List Str} {l0 : Int} (g : Gs01 H a c nm lf m ns l0) (k : Kp [a, c] H H') (D : Deck H' a c m') : Gs01 H' a c nm lf m' ns l0 := by
  obtain ⟨l1, l2, l3, h⟩ := g.lft
  exact ⟨D, g.nms.kp k, ⟨l1, l2, l3, k.keep _ _ h g.off⟩, g.off⟩
theorem Gs01.kp0 {H H' : Hp} {a c nm lf : Addr} {m : Int} {ns : List Str} {l0 : Int} (g : Gs01 H a c nm lf m ns l0) (k : Kp [] H H') : Gs01 H' a c nm lf m ns l0 := g.kpD (k.sub (by simp)) (g.dk.kp0 k)
theorem Gs01.ne {H : Hp} {a c nm lf : Addr} {m : Int} {ns : List Str} {l0 : Int} (g : Gs01 H a c nm lf m ns l0) : nm ≠ lf := by
  obtain ⟨l1, l2, l3, h⟩ := g.lft
  refine ne_of g.nms.at_ h fun z => ?_
  have z1 := HO.lst.inj z
  cases ns with
  | nil => cases z1
  | cons x r => cases z1
theorem Gs01.put {H H' : Hp} {a c nm lf : Addr} {m : Int} {ns : List Str} {l0 l0' l1 l2 l3 : Int} (g : Gs01 H a c nm lf m ns l0) (h : H' lf = some (.lst [.int l0', .int l1, .int l2, .int l3])) (k : Kp [lf] H H') : Gs01 H' a c nm lf m ns l0' := by
  have oa : a ∉ [lf] ∧ c ∉ [lf] := by
    have := g.off
    simp only [List.mem_cons, List.not_mem_nil, or_false, not_or] at this ⊢
    exact ⟨fun z => this.1 z.symm, fun z => this.2 z.symm⟩
  exact ⟨g.dk.kp k oa.1 oa.2, ⟨k.keep _ _ g.nms.at_ (by simpa using g.ne), g.nms.off, g.nms.ok, g.nms.l0, g.nms.l1⟩, ⟨l1, l2, l3, h⟩, g.off⟩
def cB01 : Nat → Int
  | 0 => 0
  | n + 1 => 2 + 5 * (400 + 2 * cB01 n)
theorem cB01_nn : ∀ n, 0 ≤ cB01 n
  | 0 => by decide
  | n + 1 => by have := cB01_nn n; simp only [cB01]; omega
def spBlock01 (n : Nat) : Sp := fun vs H Q _ => ∃ (a c nm lf : Addr) (m depth times l0 : Int) (ns : List Str), vs = [.ref a, .ref nm, .int depth, .int times, .ref lf] ∧ Gs01 H a c nm lf m ns l0 ∧ 0 ≤ l0 ∧ 0 ≤ depth ∧ depth + (n : Int) = 4 ∧ 1 ≤ n ∧ m + cB01 n ≤ 500000000 ∧
  ∀ (v : V) (b : List Sm) (H' : Hp) (m' l0' : Int), Tr H' (.tuple (Sm.ds b)) v → Sm.oks b → Sm.txs b → Sm.nests b + 1 ≤ n → (Sm.pls b : Int) + l0' = l0 → 0 ≤ l0' → m ≤ m' → m' ≤ m + cB01 n → Gs01 H' a c nm lf m' ns l0' → Kp [a, c, lf] H H' → Q v H'
def spStmt01 (n : Nat) : Sp := fun vs H Q _ => ∃ (a c nm lf : Addr) (m depth times l0 : Int) (ns : List Str), vs = [.ref a, .ref nm, .int depth, .int times, .ref lf] ∧ Gs01 H a c nm lf m ns l0 ∧ 1 ≤ l0 ∧ 0 ≤ depth ∧ depth + (n : Int) + 1 = 4 ∧ m + 400 + 2 * cB01 n ≤ 500000000 ∧
  ∀ (v : V) (s : Sm) (H' : Hp) (m' l0' : Int), Tr H' s.d v → s.ok → s.tx → s.nest ≤ n → (s.pl : Int) + l0' = l0 → 0 ≤ l0' → m ≤ m' → m' ≤ m + (400 + 2 * cB01 n) → Gs01 H' a c nm lf m' ns l0' → Kp [a, c, lf] H H' → Q v H'
def spIf01 (n : Nat) : Sp := fun vs H Q _ => ∃ (a c nm lf : Addr) (m depth times l0 at_ : Int) (ns : List Str), vs = [.ref a, .ref nm, .int depth, .int times, .ref lf, .int at_] ∧ (at_ = 2 ∨ at_ = 3) ∧ Gs01 H a c nm lf m ns l0 ∧ 0 ≤ l0 ∧ 0 ≤ depth ∧ depth + (n : Int) + 1 = 4 ∧ 1 ≤ n ∧ m + 300 + 2 * cB01 n ≤ 500000000 ∧
  ∀ (v : V) (s : Sm) (H' : Hp) (m' l0' : Int), Tr H' s.d v → s.ok → s.tx → s.nest ≤ n → (s.pl : Int) + l0' = l0 + 1 → 0 ≤ l0' → m ≤ m' → m' ≤ m + (300 + 2 * cB01 n) → Gs01 H' a c nm lf m' ns l0' → Kp [a, c, lf] H H' → Q v H'
theorem lk_if {k : Nat} {t : Ts} {y n : List Sm} (h : Tt k t) (hk : k ≤ 2) : Lk (.ite t y n) := by
  have l := h.le
  have e1 : (("if " : Str)).length = 3 := by decide +kernel
  exact ⟨strOk_app (by decide +kernel) h.so, by simp only [Sm.line, Str.length_append, e1]; omega⟩
theorem nmok01 {x : Str} (h : PyData.strOk x = true ∧ x.length ≤ 8) : NmOk x := ⟨h.1, by omega⟩
theorem lk_set {x : Str} {e : Ex} (hx : PyData.strOk x = true ∧ x.length ≤ 8) (h : Xt e) (hd : e.deep ≤ 3) : Lk (.set x e) := by
  have l := h.len3 hd
  have hl := hx.2
  have e1 : ((" = " : Str)).length = 3 := by decide +kernel
  exact ⟨strOk_app (strOk_app hx.1 (by decide +kernel)) h.so, by simp only [Sm.line, Str.length_append, e1]; omega⟩
theorem lk_half {x : Str} {e : Ex} (hx : PyData.strOk x = true ∧ x.length ≤ 8) (h : Xt e) (hd : e.deep ≤ 3) : Lk (.half x e) := by
  have l := h.len3 hd
  have hl := hx.2
  have e1 : ((" = half " : Str)).length = 8 := by decide +kernel
  exact ⟨strOk_app (strOk_app hx.1 (by decide +kernel)) h.so, by simp only [Sm.line, Str.length_append, e1]; omega⟩
theorem lk_tell {e : Ex} (h : Xt e) (hd : e.deep ≤ 3) : Lk (.tell e) := by
  have l := h.len3 hd
  have e1 : (("tell " : Str)).length = 5 := by decide +kernel
  exact ⟨strOk_app (by decide +kernel) h.so, by simp only [Sm.line, Str.length_append, e1]; omega⟩
theorem lk_say {c : Str} (h : PyData.strOk c = true ∧ c.length ≤ 20) : Lk (.say c) := by
  have hl := h.2
  have e1 : (("say" : Str)).length = 3 ∧ ((" " : Str)).length = 1 := by decide +kernel
  exact ⟨strOk_app (strOk_app (by decide +kernel) (by decide +kernel)) h.1, by simp only [Sm.line, Str.length_append, e1.1, e1.2]; omega⟩
theorem lk_stop {c : Str} (h : PyData.strOk c = true ∧ c.length ≤ 20) : Lk (.stop c) := by
  have hl := h.2
  have e1 : (("stop" : Str)).length = 4 ∧ ((" " : Str)).length = 1 := by decide +kernel
  exact ⟨strOk_app (strOk_app (by decide +kernel) (by decide +kernel)) h.1, by simp only [Sm.line, Str.length_append, e1.1, e1.2]; omega⟩
theorem lk_rep {k : Nat} {b : List Sm} (hk : k ≤ 8) : Lk (.rep k b) := by
  have l := iTxt_len (i := (k : Int)) (by omega)
  have e1 : (("repeat" : Str)).length = 6 ∧ ((" " : Str)).length = 1 := by decide +kernel
  exact ⟨strOk_app (strOk_app (by decide +kernel) (by decide +kernel)) (int_strOk _), by simp only [Sm.line, Str.length_append, e1.1, e1.2]; omega⟩
theorem mem_strs01 {P : Str → Prop} {x : V} : ∀ {l : List Str}, x ∈ l.map V.str → (∀ i ∈ l, P i) → ∃ i, x = .str i ∧ P i := fun {l} h q => by
  obtain ⟨i, hi, rfl⟩ := List.mem_map.mp h
  exact ⟨i, rfl, q i hi⟩
/-! ### all lines are short -/
def Fit (M : Nat) (x : Str) : Prop := PyData.strOk x = true ∧ x.length ≤ M
theorem fit_line {a : Str} {s : Sm} {M : Nat} (h : Lk s) (ha : PyData.strOk a = true) (hM : a.length + 300 ≤ M) : Fit M (a ++ s.line) := ⟨strOk_app ha h.1, by rw [Str.length_append]; have := h.2; omega⟩
mutual
theorem lns_fit : ∀ (s : Sm) (n : Nat) (a : Str), s.tx → s.nest ≤ n → PyData.strOk a = true → ∀ x ∈ Sm.lns a s, Fit (a.length + 2 * n + 300) x
  | .ite t y nn, n, a, h, hn, ha => by
    obtain ⟨hl, hy, hnn⟩ := h
    simp only [Sm.nest] at hn
    have ha2 : PyData.strOk (a ++ "  ") = true := strOk_app ha (by decide +kernel)
    have la2 : (a ++ "  ").length = a.length + 2 := by rw [Str.length_append, two_len]
    rw [lns_ite]
    intro x hx
    rcases List.mem_cons.mp hx with rfl | hx
    · exact fit_line hl ha (by omega)
    rcases List.mem_append.mp hx with hx | hx
    · unfold partL at hx
      split at hx
      · cases List.mem_singleton.mp hx
        exact ⟨strOk_app ha2 (by decide +kernel), by rw [Str.length_append, la2, show ("pass" : Str).length = 4 by decide +kernel]; omega⟩
      · have := lnss_fit y (n - 1) (a ++ "  ") hy (by omega) ha2 x hx
        exact ⟨this.1, by have h2 := this.2; rw [la2] at h2; omega⟩
    · split at hx
      · cases hx
      · rcases List.mem_cons.mp hx with rfl | hx
        · exact ⟨strOk_app ha (by decide +kernel), by rw [Str.length_append, else_len]; omega⟩
        · have := lnss_fit nn (n - 1) (a ++ "  ") hnn (by omega) ha2 x hx
          exact ⟨this.1, by have h2 := this.2; rw [la2] at h2; omega⟩
  | .rep k b, n, a, h, hn, ha => by
    obtain ⟨hl, hb⟩ := h
    simp only [Sm.nest] at hn
    have ha2 : PyData.strOk (a ++ "  ") = true := strOk_app ha (by decide +kernel)
    have la2 : (a ++ "  ").length = a.length + 2 := by rw [Str.length_append, two_len]
    rw [lns_rep]
    intro x hx
    rcases List.mem_cons.mp hx with rfl | hx
    · exact fit_line hl ha (by omega)
    · unfold partL at hx
      split at hx
      · cases List.mem_singleton.mp hx
        exact ⟨strOk_app ha2 (by decide +kernel), by rw [Str.length_append, la2, show ("pass" : Str).length = 4 by decide +kernel]; omega⟩
      · have := lnss_fit b (n - 1) (a ++ "  ") hb (by omega) ha2 x hx
        exact ⟨this.1, by have h2 := this.2; rw [la2] at h2; omega⟩
  | .set x e, n, a, h, hn, ha => by
    intro y hy
    simp only [Sm.lns, List.mem_singleton] at hy
    rw [hy]
    exact fit_line h ha (by omega)
  | .half x e, n, a, h, hn, ha => by
    intro y hy
    simp only [Sm.lns, List.mem_singleton] at hy
    rw [hy]
    exact fit_line h ha (by omega)
  | .tell e, n, a, h, hn, ha => by
    intro y hy
    simp only [Sm.lns, List.mem_singleton] at hy
    rw [hy]
    exact fit_line h ha (by omega)
  | .say c, n, a, h, hn, ha => by
    intro y hy
    simp only [Sm.lns, List.mem_singleton] at hy
    rw [hy]
    exact fit_line h ha (by omega)
  | .stop c, n, a, h, hn, ha => by
    intro y hy
    simp only [Sm.lns, List.mem_singleton] at hy
    rw [hy]
    exact fit_line h ha (by omega)
theorem lnss_fit : ∀ (b : List Sm) (n : Nat) (a : Str), Sm.txs b → Sm.nests b ≤ n → PyData.strOk a = true → ∀ x ∈ Sm.lnss a b, Fit (a.length + 2 * n + 300) x
  | [], n, a, _, _, _ => by
    intro x hx
    simp only [Sm.lnss] at hx
    cases hx
  | s :: r, n, a, h, hn, ha => by
    simp only [Sm.txs] at h
    simp only [Sm.nests] at hn
    intro x hx
    simp only [Sm.lnss] at hx
    rcases List.mem_append.mp hx with hx | hx
    · exact lns_fit s n a h.1 (by omega) ha x hx
    · exact lnss_fit r n a h.2 (by omega) ha x hx
end
theorem joinS_fit {s : Str} {M : Nat} (hs : PyData.strOk s = true) : ∀ l : List Str, (∀ x ∈ l, Fit M x) → Fit (l.length * (M + s.length)) (Str.join s l)
  | [], _ => ⟨by show PyData.strOk (Str.join s []) = true; rw [show Str.join s [] = Str.ofString "" from rfl]; decide +kernel, by rw [show Str.join s [] = Str.ofString "" from rfl, show (Str.ofString "").length = 0 by decide +kernel]; exact Nat.zero_le _⟩
  | [x], h => by
    have h1 := h x List.mem_cons_self
    exact ⟨h1.1, by have := h1.2; show x.length ≤ _; simp only [List.length_singleton]; omega⟩
  | x :: y :: r, h => by
    have h1 := h x List.mem_cons_self
    have h2 := joinS_fit hs (y :: r) fun z hz => h z (List.mem_cons_of_mem _ hz)
    have e : Str.join s (x :: y :: r) = x ++ s ++ Str.join s (y :: r) := rfl
    rw [e]
    refine ⟨strOk_app (strOk_app h1.1 hs) h2.1, ?_⟩
    have a1 := h1.2
    have a2 := h2.2
    rw [Str.length_append, Str.length_append, List.length_cons, Nat.succ_mul]
    omega
def pText (b : List Sm) : Str := Txt.join "\n" ("program" :: Sm.lnss "" b)
theorem sum_fit {M : Nat} : ∀ l : List Str, (∀ x ∈ l, Fit M x) → (l.map (·.length)).sum ≤ l.length * M
  | [], _ => by simp
  | x :: r, h => by
    have h1 := (h x List.mem_cons_self).2
    have h2 := sum_fit r fun z hz => h z (List.mem_cons_of_mem _ hz)
    simp only [List.map_cons, List.sum_cons, List.length_cons, Nat.succ_mul]
    omega
structure PTx (b : List Sm) : Prop where
  ok : Sm.oks b
  tx : Sm.txs b
  nest : Sm.nests b ≤ 3
  pl : Sm.pls b ≤ 24
theorem PTx.fit {b : List Sm} (h : PTx b) : ∀ x ∈ ("program" : Str) :: Sm.lnss "" b, Fit 306 x := by
  intro x hx
  rcases List.mem_cons.mp hx with rfl | hx
  · exact ⟨by decide +kernel, by decide +kernel⟩
  · have := lnss_fit b 3 "" h.tx h.nest (by decide +kernel) x hx
    exact ⟨this.1, by have h2 := this.2; rw [show ("" : Str).length = 0 by decide +kernel] at h2; omega⟩
theorem PTx.len {b : List Sm} (h : PTx b) : (("program" : Str) :: Sm.lnss "" b).length ≤ 73 := by
  have h1 := Sm.lnss_len "" b
  have h2 := h.pl
  simp only [List.length_cons]
  omega
theorem nl_len : ("\n" : Str).length = 1 := by decide +kernel
theorem PTx.sum {b : List Sm} (h : PTx b) : ((("program" : Str) :: Sm.lnss "" b).map (·.length)).sum + (("program" : Str) :: Sm.lnss "" b).length * ("\n" : Str).length ≤ 16777216 := by
  have h1 := sum_fit _ h.fit
  have h2 := h.len
  have h3 : (("program" : Str) :: Sm.lnss "" b).length * 306 ≤ 73 * 306 := Nat.mul_le_mul_right _ h2
  rw [nl_len]
  omega
theorem PTx.text {b : List Sm} (h : PTx b) : Fit 22411 (pText b) := by
  have h1 := joinS_fit (s := "\n") (M := 306) (by decide +kernel) _ h.fit
  have h3 : (("program" : Str) :: Sm.lnss "" b).length * 307 ≤ 73 * 307 := Nat.mul_le_mul_right _ h.len
  unfold pText
  rw [TL.join_eq]
  refine ⟨h1.1, Nat.le_trans h1.2 ?_⟩
  rw [nl_len]
  exact h3
theorem bk_str {x : Str} {M : Nat} (h : Fit M x) : Bk (.str x) M 0 := by
  refine ⟨by simp only [PyData.showable], ?_, by simp only [PyData.bulk]; exact h.2, by simp only [PyData.depth]; exact Nat.le_refl _⟩
  have h1 := h.1
  unfold PyData.strOk at h1
  simp only [PyData.leavesShort, List.all_eq_true, decide_eq_true_eq]
  intro c hc
  have h2 := Array.all_eq_true'.mp h1 c (by simpa using hc)
  simp only [decide_eq_true_eq] at h2
  exact Nat.lt_trans h2 (by decide)
theorem shw_two {x : Str} (h : Fit 22411 x) : Shw (.list [.str x, .str x]) := by
  have b := bks_cons (bk_str h) (bks_cons (bk_str h) (bks_nil.mono (Nat.le_refl _) (Nat.zero_le _)))
  have bt := bk_tup b
  have hb : Bk (.list [.str x, .str x]) 60000 2 := ⟨by have := bt.sh; simpa only [PyData.showable] using this, by have := bt.ls; simpa only [PyData.leavesShort] using this, by have := bt.bk; simp only [PyData.bulk] at this ⊢; omega, by have := bt.dp; simp only [PyData.depth] at this ⊢; omega⟩
  exact hb.shw (by decide) (by decide)
def spProg01 : Sp := fun vs H Q _ => ∃ (a c nm : Addr) (m most : Int) (ns : List Str), vs = [.ref a, .ref nm, .int most] ∧ (0 ≤ most ∧ most ≤ 24) ∧ Deck H a c m ∧ m ≤ 400000000 ∧ Nm01 H nm a c ns ∧
  ∀ (v : V) (b : List Sm) (H' : Hp) (m' : Int), Tr H' (.tuple (Sm.ds b)) v → PTx b → m ≤ m' → m' ≤ m + cB01 4 → Deck H' a c m' → Q v H'
def spPText : Sp := fun vs H Q _ => ∃ (v : V) (b : List Sm), vs = [v] ∧ Tr H (.tuple (Sm.ds b)) v ∧ PTx b ∧ ∀ H', Kp [] H H' → Q (.str (pText b)) H'
theorem pText_nil : pText [] = "program" := by
  unfold pText
  rw [TL.join_eq]
  rfl
theorem sc_expression_text : FnScope ["expression", "word", "one", "other"] ["expression"] (defScope s_expression_text) := ⟨rfl, rfl, rfl, by decide +kernel, rfl, by decide +kernel, by decide +kernel⟩
theorem sc_test_text : FnScope ["test"] ["test"] (defScope s_test_text) := ⟨rfl, rfl, rfl, by decide +kernel, rfl, by decide +kernel, by decide +kernel⟩
theorem sc_line_text : FnScope ["statement", "word"] ["statement"] (defScope s_line_text) := ⟨rfl, rfl, rfl, by decide +kernel, rfl, by decide +kernel, by decide +kernel⟩
theorem sc_part_lines : FnScope ["block", "ahead"] ["block", "ahead"] (defScope s_part_lines) := ⟨rfl, rfl, rfl, by decide +kernel, rfl, by decide +kernel, by decide +kernel⟩
theorem sc_block_lines : FnScope ["block", "ahead", "lines", "statement"] ["block", "ahead"] (defScope s_block_lines) := ⟨rfl, rfl, rfl, by decide +kernel, rfl, by decide +kernel, by decide +kernel⟩
theorem sc_program_text : FnScope ["program"] ["program"] (defScope s_program_text) := ⟨rfl, rfl, rfl, by decide +kernel, rfl, by decide +kernel, by decide +kernel⟩
theorem sc_l_deck : FnScope ["_law_script", "_law_cell"] ["_law_script"] (defScope s_l_deck) := ⟨rfl, rfl, rfl, by decide +kernel, rfl, by decide +kernel, by decide +kernel⟩
theorem sc_l_draw : FnScope ["_law_deck_here", "_law_many", "_law_cell", "_law_at", "_law_mixed"] ["_law_deck_here", "_law_many"] (defScope s_l_draw) := ⟨rfl, rfl, rfl, by decide +kernel, rfl, by decide +kernel, by decide +kernel⟩
theorem sc_l_one : FnScope ["_law_deck_here", "_law_items"] ["_law_deck_here", "_law_items"] (defScope s_l_one) := ⟨rfl, rfl, rfl, by decide +kernel, rfl, by decide +kernel, by decide +kernel⟩
theorem sc_l_expr : FnScope ["_law_deck_here", "_law_names_here", "_law_deep", "_law_way", "_law_numbers"] ["_law_deck_here", "_law_names_here", "_law_deep"] (defScope s_l_expr) := ⟨rfl, rfl, rfl, by decide +kernel, rfl, by decide +kernel, by decide +kernel⟩
theorem sc_l_test : FnScope ["_law_deck_here", "_law_names_here", "_law_is_odd", "_law_test_here", "_law_k"] ["_law_deck_here", "_law_names_here", "_law_is_odd"] (defScope s_l_test) := ⟨rfl, rfl, rfl, by decide +kernel, rfl, by decide +kernel, by decide +kernel⟩
theorem sc_l_block : FnScope ["_law_deck_here", "_law_names_here", "_law_depth", "_law_times", "_law_left", "_law_found", "_law_k"] ["_law_deck_here", "_law_names_here", "_law_depth", "_law_times", "_law_left"] (defScope s_l_block) := ⟨rfl, rfl, rfl, by decide +kernel, rfl, by decide +kernel, by decide +kernel⟩
theorem sc_l_if : FnScope ["_law_deck_here", "_law_names_here", "_law_depth", "_law_times", "_law_left", "_law_at", "_law_test_here", "_law_yes", "_law_no"] ["_law_deck_here", "_law_names_here", "_law_depth", "_law_times", "_law_left", "_law_at"] (defScope s_l_if) := ⟨rfl, rfl, rfl, by decide +kernel, rfl, by decide +kernel, by decide +kernel⟩
theorem sc_l_statement : FnScope ["_law_deck_here", "_law_names_here", "_law_depth", "_law_times", "_law_left", "_law_way", "_law_at", "_law_many", "_law_is_empty"] ["_law_deck_here", "_law_names_here", "_law_depth", "_law_times", "_law_left"] (defScope s_l_statement) := ⟨rfl, rfl, rfl, by decide +kernel, rfl, by decide +kernel, by decide +kernel⟩
theorem sc_l_program : FnScope ["_law_deck_here", "_law_names_here", "_law_most"] ["_law_deck_here", "_law_names_here", "_law_most"] (defScope s_l_program) := ⟨rfl, rfl, rfl, by decide +kernel, rfl, by decide +kernel, by decide +kernel⟩
theorem sc_l_names : FnScope ["_law_deck_here", "_law_many", "_law_found", "_law_k", "_law_name", "_law_j"] ["_law_deck_here", "_law_many"] (defScope s_l_names) := ⟨rfl, rfl, rfl, by decide +kernel, rfl, by decide +kernel, by decide +kernel⟩
theorem sc_l_expr_text : FnScope ["_law_expr_here", "_law_sign"] ["_law_expr_here"] (defScope s_l_expr_text) := ⟨rfl, rfl, rfl, by decide +kernel, rfl, by decide +kernel, by decide +kernel⟩
theorem sc_l_test_text : FnScope ["_law_test_here", "_law_texts", "_law_expr_here"] ["_law_test_here"] (defScope s_l_test_text) := ⟨rfl, rfl, rfl, by decide +kernel, rfl, by decide +kernel, by decide +kernel⟩
theorem sc_l_line : FnScope ["_law_statement_here", "_law_word"] ["_law_statement_here"] (defScope s_l_line) := ⟨rfl, rfl, rfl, by decide +kernel, rfl, by decide +kernel, by decide +kernel⟩
theorem sc_l_lines : FnScope ["_law_block_here", "_law_ahead", "_law_found", "_law_statement_here"] ["_law_block_here", "_law_ahead"] (defScope s_l_lines) := ⟨rfl, rfl, rfl, by decide +kernel, rfl, by decide +kernel, by decide +kernel⟩
theorem sc_law : FnScope ["_law_script", "_law_deck_here", "_law_turn", "_law_program_here", "_law_due"] ["_law_script"] (defScope s_law) := ⟨rfl, rfl, rfl, by decide +kernel, rfl, by decide +kernel, by decide +kernel⟩
set_option genInjectivity false in
set_option genSizeOfSpec false in
structure Top (K : PySem.W.Frag) (mg : Str → Option Value) where
  expression_text : DA K mg "expression_text" s_expression_text ["expression"]
  test_text : DA K mg "test_text" s_test_text ["test"]
  line_text : DA K mg "line_text" s_line_text ["statement"]
  part_lines : DA K mg "part_lines" s_part_lines ["block", "ahead"]
  block_lines : DA K mg "block_lines" s_block_lines ["block", "ahead"]
  program_text : DA K mg "program_text" s_program_text ["program"]
  l_deck : DA K mg "_law_deck" s_l_deck ["_law_script"]
  l_draw : DA K mg "_law_draw" s_l_draw ["_law_deck_here", "_law_many"]
  l_one : DA K mg "_law_one" s_l_one ["_law_deck_here", "_law_items"]
  l_expr : DA K mg "_law_expr" s_l_expr ["_law_deck_here", "_law_names_here", "_law_deep"]
  l_test : DA K mg "_law_test" s_l_test ["_law_deck_here", "_law_names_here", "_law_is_odd"]
  l_block : DA K mg "_law_block" s_l_block ["_law_deck_here", "_law_names_here", "_law_depth", "_law_times", "_law_left"]
  l_if : DA K mg "_law_if" s_l_if ["_law_deck_here", "_law_names_here", "_law_depth", "_law_times", "_law_left", "_law_at"]
  l_statement : DA K mg "_law_statement" s_l_statement ["_law_deck_here", "_law_names_here", "_law_depth", "_law_times", "_law_left"]
  l_program : DA K mg "_law_program" s_l_program ["_law_deck_here", "_law_names_here", "_law_most"]
  l_names : DA K mg "_law_names" s_l_names ["_law_deck_here", "_law_many"]
  l_expr_text : DA K mg "_law_expr_text" s_l_expr_text ["_law_expr_here"]
  l_test_text : DA K mg "_law_test_text" s_l_test_text ["_law_test_here"]
  l_line : DA K mg "_law_line" s_l_line ["_law_statement_here"]
  l_lines : DA K mg "_law_lines" s_l_lines ["_law_block_here", "_law_ahead"]
  law : DA K mg "law" s_law ["_law_script"]
  t_HEAD : Tok
  g_HEAD : mg "HEAD" = some (.str "program" t_HEAD)
  t_STEP : Tok
  g_STEP : mg "STEP" = some (.str "  " t_STEP)
  SIGNS : Addr
  g_SIGNS : mg "SIGNS" = some (.ref SIGNS)
  abs : mg "abs" = none
  int : mg "int" = none
  isinstance : mg "isinstance" = none
  len : mg "len" = none
  range : mg "range" = none
  repr : mg "repr" = none
  str : mg "str" = none
  tuple : mg "tuple" = none
end EH
namespace EH
open PySem L2
local macro_rules | `(tactic| walk_at "sd") => `(tactic| first | assumption | ((with_reducible show (_ : Int) ≤ _); omega) | ((with_reducible show (_ : Int) < _); omega) | rfl | exact SqL.of (by assumption) | exact SqT.of (by assumption) | exact atI_nat (j := 0) rfl | exact atI_nat (j := 1) rfl | exact atI_nat (j := 2) rfl | exact atI_nat (j := 3) rfl | exact sz_lit rfl | exact lt_lit rfl | exact pos_lit rfl | exact le_lit rfl | exact Or.inl (SqL.of (by assumption)) | exact ⟨_, SqL.of (by assumption)⟩ | exact ⟨_, SqT.of (by assumption)⟩ | exact Or.inr (SqT.of (by assumption)) | exact ClsV.ty _ | exact TyX.base (TyOf.int _) | exact TyX.base (TyOf.str _) | exact TyX.base (TyOf.tup (by assumption)) | exact kit_ty isi_ss | exact kit_ty isi_is | exact kit_ty isi_ts | exact kit_ty isi_si | exact kit_ty isi_ii | exact kit_ty isi_ti | exact kit_ty isi_st | exact kit_ty isi_it | exact kit_ty isi_tt | exact Or.inl ⟨_, Or.inl (by assumption)⟩ | exact DGet.k (k := Sum.inr _) (by assumption) | exact DGet.k (k := Sum.inl _) (by assumption) | (refine cpow_of ?_; decide) | (refine cmul_of ?_; decide) | (show (_ : Int) ≠ 0; first | decide | omega) | (refine cdivn_of ?_; decide) | exact Or.inl ⟨rfl, _, SqL.of (by assumption)⟩ | omega)
local macro_rules | `(tactic| walk_at "st") => `(tactic| first | (apply Exists.intro) | (refine And.intro ?_ ?_; focus (walk_at "sd")) | (apply Or.inl; apply Exists.intro; refine And.intro ?_ ?_; focus rfl) | (apply Or.inr; apply Exists.intro; refine And.intro ?_ ?_; focus rfl))
local macro_rules | `(tactic| walk_at "go") => `(tactic| repeat (walk_at "st"))
section
variable {P : Program} {w : World} {K : PySem.W.Frag} {mg : Str → Option Value} {base : Heap}
theorem ok_l_draw (T : Top K mg) {k : Nat} : FnOk P w K mg base CX0 (k + 1) T.l_draw.f T.l_draw.fd ["_law_deck_here", "_law_many"] spDraw := by
  refine T.l_draw.F.ok sc_l_draw (fun vs H Q E h => ?_) (fun cdv A outer s H vs Q E hr h => ?_)
  · obtain ⟨a, c, n, many, rfl, _⟩ := h
    rfl
  obtain ⟨a, c, n, many, rfl, hD, hn, hm, hm2, q⟩ := h
  refine ⟨_, (pss_cons (ps_asg (pe_op op_add (pe_ix (ix_listK (K := K) rfl) (pv 0) pe_int (fun _ _ => rfl)) pe_int) (pg_sub (pv 0) pe_int set_listA))
      (pss_cons (ps_asg (pe_tupA (pa_cons pe_int (pa_cons (pe_un un_neg pe_int) pa_nil))) (pg_tup (by rfl) (pgs_cons (pg_name (i := 2) sc_l_draw.nd rfl (.inl rfl)) (pgs_cons (pg_name (i := 3) sc_l_draw.nd rfl (.inl rfl)) pgs_nil))))
      (pss_cons (ps_if (pt_cmpR op_gt (pe_callB (id := "len") (call_lenK (K := K) rfl) (by rfl) T.len PySem.boot_len (pa_cons (pe_ix (ix_listK (K := K) rfl) (pv 0) pe_int (fun _ _ => rfl)) pa_nil)) pe_int (nomark _)) (pss_cons (ps_set (i := 3) sc_l_draw.nd rfl (.inl rfl) (pe_op op_modN (pe_callTy (T := "int") call_int1 (by rfl) T.int (by decide +kernel) (pa_cons (pe_ix (ix_listK (K := K) rfl) (pv 0) pe_int (fun _ _ => rfl)) pa_nil)) (pe_callB (id := "len") (call_lenK (K := K) rfl) (by rfl) T.len PySem.boot_len (pa_cons (pe_ix (ix_listK (K := K) rfl) (pv 0) pe_int (fun _ _ => rfl)) pa_nil))))
      (pss_one (ps_set (i := 2) sc_l_draw.nd rfl (.inl rfl) (pe_ix (ix_listK (K := K) rfl) (pe_ix (ix_listK (K := K) rfl) (pv 0) pe_int (fun _ _ => rfl)) (pv 3) (fun _ _ => rfl))))) pss_nil)
      (pss_cons (ps_if (pt_cmpR op_ge (pv 2) (pe_op op_pow pe_int pe_int) (nomark _)) (pss_cons (ps_asg (pe_op op_fdivW (pe_callTy (T := "int") call_int1 (by rfl) T.int (by decide +kernel) (pa_cons (pv 2) pa_nil)) (pv 1)) (pg_sub (pe_ix (ix_listK (K := K) rfl) (pv 0) pe_int (fun _ _ => rfl)) (pv 3) set_listA))
      (pss_one (ps_ret (pe_op op_modN (pe_callTy (T := "int") call_int1 (by rfl) T.int (by decide +kernel) (pa_cons (pv 2) pa_nil)) (pv 1))))) pss_nil)
      (pss_cons (ps_set (i := 4) sc_l_draw.nd rfl (.inl rfl) (pe_op op_add (pe_op op_add (pe_op op_modN (pe_callTy (T := "int") call_int1 (by rfl) T.int (by decide +kernel) (pa_cons (pv 2) pa_nil)) pe_int) (pe_op op_mul pe_int (pe_ix (ix_listK (K := K) rfl) (pv 0) pe_int (fun _ _ => rfl)))) pe_int))
      (pss_one (ps_ret (pe_op op_modN (pe_callTy (T := "int") call_int1 (by rfl) T.int (by decide +kernel) (pa_cons (pe_op op_modN (pe_callTy (T := "int") call_int1 (by rfl) T.int (by decide +kernel) (pa_cons (pe_op op_pow (pv 4) pe_int) pa_nil)) pe_int) pa_nil)) (pv 1))))))))), ?_⟩
  obtain ⟨cs, h1, h2, ok⟩ := hD.ex
  have hn1 : n ≤ 1000000000 := hn
  have nac : a ≠ c := hD.ne
  walk_at "go"
  intro H1 g1 k1
  replace g1 : H1 a = some (.lst [V.ref c, V.int (n + 1)]) := g1
  walk_at "go"
  intro t H2 ht e2
  have g2 := new_at e2
  have k2 := new_kp ht e2
  have a2 := k2.at g1
  have c1 := k1.keep _ _ h2 (ne1 nac.symm)
  have c2 := k2.at c1
  clear e2
  walk_at "go"
  have len1 : ((cs.map V.int).length : Int) = (cs.length : Int) := by rw [List.length_map]
  have l63 := ok.len
  have n0 := ok.n0
  refine ite2 (fun hc => ?_) (fun hc => ?_)
  · have hc1 : (0 : Int) < ((cs.map V.int).length : Int) := of_decide_eq_true hc
    have f0 := Int.fmod_nonneg_of_pos (a := n + 1) hc1
    have f1 := Int.fmod_lt_of_pos (a := n + 1) hc1
    obtain ⟨v, hv, vm⟩ := atI_mem f0 f1
    obtain ⟨x, xm, rfl⟩ := List.mem_map.mp vm
    have x0 := ok.pos x xm
    walk_at "go"
    refine ite2 (fun hd => ?_) (fun hd => ?_)
    · walk_at "go"
      refine ⟨⟨hm, Nat.lt_of_lt_of_le (PySem.Flt.log2_lt_of (by decide) hm2) (by decide)⟩, ?_⟩
      walk_at "go"
      refine ⟨ixN_nat f0 f1, ?_⟩
      intro H3 g3 k3
      walk_at "go"
      refine q _ H3 (Int.fmod_nonneg_of_pos _ hm) (Int.fmod_lt_of_pos _ hm) ⟨cs.set ((n + 1).fmod ((cs.map V.int).length : Int)).toNat (x / many), k3.keep _ _ a2 (ne1 nac), ?_, ?_, ?_, by omega⟩ ((((Kp.refl.step1 k1 (.inl (by simp))).step0 k2)).step1 k3 (.inl (by simp)))
      · rw [g3, List.map_set]
      · rw [List.length_set]
        exact l63
      · intro y hy
        rcases List.mem_or_eq_of_mem_set hy with hy | rfl
        · exact ok.pos y hy
        · exact Int.ediv_nonneg x0 (Int.le_of_lt hm)
    · walk_at "go"
      have m0 := Int.fmod_nonneg_of_pos x (b := 2147483563) (by decide)
      have m1 := Int.fmod_lt_of_pos x (b := 2147483563) (by decide)
      refine ⟨⟨by decide, by decide, ?_⟩, ?_⟩
      · show (x.fmod 2147483563 + 8117 * (n + 1) + 3).natAbs < 2 ^ 64
        have e : (2 : Nat) ^ 64 = 18446744073709551616 := by decide
        rw [e]
        omega
      walk_at "go"
      exact q _ H2 (Int.fmod_nonneg_of_pos _ hm) (Int.fmod_lt_of_pos _ hm) ⟨cs, a2, c2, l63, ok.pos, by omega⟩ ((Kp.refl.step1 k1 (.inl (by simp))).step0 k2)
  · walk_at "go"
    refine ⟨⟨by decide, by decide, ?_⟩, ?_⟩
    · show ((0 : Int).fmod 2147483563 + 8117 * (n + 1) + 3).natAbs < 2 ^ 64
      have e : (2 : Nat) ^ 64 = 18446744073709551616 := by decide
      have e2 : (0 : Int).fmod 2147483563 = 0 := by decide
      rw [e, e2]
      omega
    walk_at "go"
    exact q _ H2 (Int.fmod_nonneg_of_pos _ hm) (Int.fmod_lt_of_pos _ hm) ⟨cs, a2, c2, l63, ok.pos, by omega⟩ ((Kp.refl.step1 k1 (.inl (by simp))).step0 k2)
theorem ok_l_one2 (T : Top K mg) {k : Nat} : FnOk P w K mg base CX0 (k + 2) T.l_one.f T.l_one.fd ["_law_deck_here", "_law_items"] (spOne2 K) := by
  have G_l_draw : FnOk P w K mg base CX0 (k + 1) T.l_draw.f T.l_draw.fd ["_law_deck_here", "_law_many"] spDraw := ok_l_draw T
  refine T.l_one.F.ok sc_l_one (fun vs H Q E h => ?_) (fun cdv A outer s H vs Q E hr h => ?_)
  · rcases h with ⟨a, c, l, n, xs, rfl, _⟩ | ⟨a, c, n, z, rfl, _⟩ <;> rfl
  refine ⟨_, (pss_one (ps_ret (pe_ix (IxR.or (ix_listK (K := K) rfl) ix_str) (pv 1) (pe_call G_l_draw (hr.mono (by omega)) (by rfl) T.l_draw.g T.l_draw.F.kp T.l_draw.b .nil pass0 (pa_cons (pv 0) (pa_cons (pe_callB (id := "len") (CallR.or (call_lenK (K := K) rfl) call_len_str) (by rfl) T.len PySem.boot_len (pa_cons (pv 1) pa_nil)) pa_nil))) (fun _ _ => rfl)))), ?_⟩
  rcases h with ⟨a, c, l, n, xs, rfl, hD, hn, hS, hl, h0, hz, q⟩ | ⟨a, c, n, z, rfl, hD, hn, h0, hz, q⟩
  · refine ⟨_, rfl, _, rfl, _, rfl, .inl ⟨l, xs, rfl, .inl hS, a, c, n, _, rfl, hD, hn, by omega, pow1000 hz, fun r H1 r0 r1 D1 k1 => ?_⟩⟩
    obtain ⟨v, hv, vm⟩ := atI_mem r0 r1
    exact .inl ⟨l, xs, _, _, rfl, rfl, k1.seq hS hl, hv, q _ H1 vm D1 k1⟩
  · refine ⟨_, rfl, _, rfl, _, rfl, .inr ⟨z, rfl, sz_le hz, a, c, n, _, rfl, hD, hn, by omega, pow1000 hz, fun r H1 r0 r1 D1 k1 => ?_⟩⟩
    have r2 : r < (z.cps.toList.length : Int) := by rw [Array.length_toList]; exact r1
    obtain ⟨v, hv, vm⟩ := atI_mem r0 r2
    exact .inr ⟨z, _, v, rfl, rfl, sz_le hz, hv, q _ H1 vm D1 k1⟩
theorem ok_l_one (T : Top K mg) {k : Nat} : FnOk P w K mg base CX0 (k + 2) T.l_one.f T.l_one.fd ["_law_deck_here", "_law_items"] (spOne K) := (ok_l_one2 T).imp fun _ _ _ _ h => .inl h
theorem ok_l_oneS (T : Top K mg) {k : Nat} : FnOk P w K mg base CX0 (k + 2) T.l_one.f T.l_one.fd ["_law_deck_here", "_law_items"] spOneS := (ok_l_one2 T).imp fun _ _ _ _ h => .inr h
end
section
variable {P : Program} {w : World} {K : PySem.W.Frag} {mg : Str → Option Value} {base : Heap}
theorem ok_l_deck (T : Top K mg) {k : Nat} : FnOk P w K mg base CX0 (k + 1) T.l_deck.f T.l_deck.fd ["_law_script"] (spDeck K) := by
  refine T.l_deck.F.ok sc_l_deck (fun vs H Q E h => ?_) (fun cdv A outer s H vs Q E hr h => ?_)
  · obtain ⟨a, ns, rfl, _⟩ := h
    rfl
  obtain ⟨a, ns, rfl, hS, hl, q⟩ := h
  refine ⟨_, (pss_one (ps_ret (pe_lstA (pa_cons (pe_lc (own := [("_law_cell", 1)]) (by rfl) sc_l_deck.nd (pi_listK (K := K) rfl (pe_slice (sl_listK (K := K) rfl) (pv 0) po_none (po_some pe_int))) (blkOk_by (N := ["_law_script", "_law_cell"]) (sc := defScope s_l_deck) (own := [("_law_cell", 1)]) (by decide +kernel)) (fun _ _ _ _ _ => (pg_name (i := 1) sc_l_deck.nd rfl (.inl rfl))) (fun _ _ _ _ _ => pts_nil) (fun _ _ _ _ _ => (pe_callB (id := "abs") call_abs (by rfl) T.abs (by decide +kernel) (pa_cons (pv 1) pa_nil)))) (pa_cons pe_int pa_nil))))), ?_⟩
  have hc : cutV (ns.map V.int) none (some 63) = ns.map V.int := by
    apply cutV_whole
    refine ⟨rfl, ?_⟩
    show HT.sIx _ _ (some ((63 : Nat) : Int)) = _
    rw [HT.sIx_nat, List.length_map]
    omega
  walk_at "go"
  intro p H1 hp g1 k1
  rw [hc] at g1
  refine ⟨p, rfl, ⟨_, SqL.of g1⟩, fun D hD => ?_⟩
  refine lc_list (K := K) (a := p) (xs := ns.map V.int) (fun i H2 => Kp [D] H1 H2 ∧ H2 D = some (.lst ((ns.take i).map fun x => V.int (if x < 0 then -x else x)))) ⟨(Kp.new hD).sub (by simp), upd_same⟩ ?_ ?_ ?_
  · rintro i H2 _ ⟨k2, _⟩
    exact SqL.of (k2.keep _ _ g1 (ne1 (ne_of_none g1 hD)))
  · rintro i x H2 hx ⟨k2, d2⟩
    rw [List.getElem?_map] at hx
    cases e : ns[i]? with
    | none => rw [e] at hx; cases hx
    | some z =>
      rw [e] at hx
      cases hx
      have hz : (List.map (fun x => V.int (if x < 0 then -x else x)) (List.take i ns)).length < sizeLine := by
        rw [List.length_map, List.length_take]
        exact sz_lt (by omega)
      walk_at "go"
      refine ⟨k2.step1 (Kp.put d2 (fun _ y => by cases y)) (.inl (by simp)), ?_⟩
      rw [upd_same, List.take_add_one, e, List.map_append]
      rfl
  · rintro H2 ⟨k2, d2⟩
    rw [List.length_map, List.take_length] at d2
    walk_at "go"
    intro r H3 hr3 e3
    have k3 := new_kp hr3 e3
    have k4 : Kp [] H H3 := ((k1.step1 k2 (.inr (k1.free hD (by simp)))).step0 k3)
    refine q r D H3 (((k1.step1 k2 (.inr (k1.free hD (by simp))))).free hr3 (by simp)) (k1.free hD (by simp)) k4 ⟨⟨ns.map fun x => if x < 0 then -x else x, new_at e3, ?_, ?_, ?_, by decide⟩⟩
    · rw [k3.at d2, List.map_map]
      rfl
    · rw [List.length_map]
      exact hl
    · intro x hx
      obtain ⟨y, _, rfl⟩ := List.mem_map.mp hx
      split <;> omega
end
section
variable {P : Program} {w : World} {K : PySem.W.Frag} {mg : Str → Option Value} {base : Heap}
theorem ok_l_names01 (T : Top K mg) : FnOk P w K mg base CX0 4 T.l_names.f T.l_names.fd ["_law_deck_here", "_law_many"] spNames01 := by
  have G_l_one : FnOk P w K mg base CX0 2 T.l_one.f T.l_one.fd ["_law_deck_here", "_law_items"] (spOne K) := ok_l_one T
  have G_l_oneS : FnOk P w K mg base CX0 2 T.l_one.f T.l_one.fd ["_law_deck_here", "_law_items"] spOneS := ok_l_oneS T
  refine T.l_names.F.ok sc_l_names (fun vs H Q E h => ?_) (fun cdv A outer s H vs Q E hr h => ?_)
  · obtain ⟨a, c, m, k, rfl, _⟩ := h
    rfl
  obtain ⟨a, c, m, k, rfl, ⟨hk0, hk⟩, D0, hm, q⟩ := h
  have hu64 := hr.units
  refine ⟨_, (pss_cons (ps_set (i := 2) sc_l_names.nd rfl (.inl rfl) (pe_lstA (pa_cons pe_str pa_nil)))
      (pss_cons (ps_forA (ps_for PassesOwn.never rfl (pi_range1 (by rfl) T.range (pa_cons (pv 1) pa_nil)) (pg_name (i := 3) sc_l_names.nd rfl (.inl rfl)) (pss_cons (ps_set (i := 4) sc_l_names.nd rfl (.inl rfl) (pe_ix ix_str pe_str (pv 3) (fun _ _ => rfl)))
      (pss_cons (ps_forA (ps_for PassesOwn.never rfl (pi_range1 (by rfl) T.range (pa_cons (pe_call G_l_one (hr.mono (by omega)) (by rfl) T.l_one.g T.l_one.F.kp T.l_one.b .nil pass0 (pa_cons (pv 0) (pa_cons (pe_lstA (pa_cons pe_int (pa_cons pe_int (pa_cons pe_int (pa_cons pe_int (pa_cons pe_int pa_nil)))))) pa_nil))) pa_nil)) (pg_name (i := 5) sc_l_names.nd rfl (.inl rfl)) (pss_one (ps_set (i := 4) sc_l_names.nd rfl (.inl rfl) (pe_op op_add_str (pv 4) (pe_call G_l_oneS (hr.mono (by omega)) (by rfl) T.l_one.g T.l_one.F.kp T.l_one.b .nil pass0 (pa_cons (pv 0) (pa_cons pe_str pa_nil))))))))
      (pss_one (ps_expr (pe_bmK (K := K) rfl PySem.F.plainAttrs_list PySem.F.slot_list_append PySem.F.type_list_append mt_appendA (pv 2) (pa_cons (pv 4) pa_nil))))))))
      (pss_one (ps_ret (pv 2))))), ?_⟩
  obtain ⟨sl, sl2⟩ : 0 < (Str.ofString "abcxyz0123456789").length ∧ (Str.ofString "abcxyz0123456789").length ≤ 1000000 := by decide +kernel
  walk_at "go"
  intro fl H1 hfl e1
  have k1 := new_kp hfl e1
  have f1 := new_at e1
  have D1 := D0.kp0 k1
  have oD := D0.off hfl
  have oa : a ∉ [fl] ∧ c ∉ [fl] := by
    simp only [List.mem_cons, List.not_mem_nil, or_false, not_or] at oD ⊢
    exact ⟨fun z => oD.1 z.symm, fun z => oD.2 z.symm⟩
  walk_at "go"
  refine ⟨for_range (lo := 0) (n := Int.toNat k) (fun i σ X => Lp (∃ (w3 w4 w5 : Option V) (m' : Int) (ns : List Str), σ = [some (.ref a), some (.int k), some (.ref fl), w3, w4, w5] ∧ m ≤ m' ∧ m' ≤ m + (i : Int) * 10 ∧ Deck X a c m' ∧ Kp [a, c, fl] H1 X ∧ X fl = some (.lst (ns.map V.str)) ∧ (∀ x ∈ ns, PyData.strOk x = true ∧ x.length ≤ 8) ∧ ns.length = i + 1)) ⟨none, none, none, m, ["n"], rfl, by omega, by omega, D1, Kp.refl, f1, fun x hx => by cases List.mem_singleton.mp hx; exact ⟨by decide +kernel, by decide +kernel⟩, rfl⟩ ?_ ?_⟩
  · rintro i σ X hi ⟨w3, w4, w5, m', ns, rfl, ml, mu, DX, kx, fX, hns, ln⟩
    have hi5 : i < 5 := by omega
    have hmM : m' ≤ MANY := by show m' ≤ 1000000000; omega
    obtain ⟨ch, hch, hs⟩ : ∃ ch : Nat, atI ((Str.ofString "bcdef").cps.toList) (0 + (i : Int)) = some ch ∧ ch < 0x110000 := by
      rcases (show i = 0 ∨ i = 1 ∨ i = 2 ∨ i = 3 ∨ i = 4 by omega) with rfl | rfl | rfl | rfl | rfl
      · exact ⟨98, by decide +kernel, by decide⟩
      · exact ⟨99, by decide +kernel, by decide⟩
      · exact ⟨100, by decide +kernel, by decide⟩
      · exact ⟨101, by decide +kernel, by decide⟩
      · exact ⟨102, by decide +kernel, by decide⟩
    walk_at "go"
    intro l2 X2 hl2 e2
    have k2 := new_kp hl2 e2
    have a2 := new_at e2
    have D2 := DX.kp0 k2
    have off2 := DX.off hl2
    walk_at "go"
    intro y X3 hy D3 k3
    have hy2 : y ∈ ([0, 0, 1, 3, 7] : List Int).map V.int := hy
    obtain ⟨g, rfl, hg0, hg1⟩ := mem_ints (P := fun i => 0 ≤ i ∧ i ≤ 7) hy2 (by decide)
    have f3 := k3.keep _ _ (k2.at fX) oD
    walk_at "go"
    refine ⟨for_range (lo := 0) (n := Int.toNat g) (fun t σ Y => Lp (∃ (w5 : Option V) (m2 : Int) (z : Str), σ = [some (.ref a), some (.int k), some (.ref fl), some (.int (0 + (i : Int))), some (.str z), w5] ∧ m' + 1 ≤ m2 ∧ m2 ≤ m' + 1 + (t : Int) ∧ Deck Y a c m2 ∧ Kp [a, c] X3 Y ∧ PyData.strOk z = true ∧ z.length = 1 + t)) ⟨w5, m' + 1, ⟨#[ch]⟩, rfl, by omega, by omega, D3, Kp.refl, by unfold PyData.strOk; simpa using hs, rfl⟩ ?_ ?_⟩
    · rintro t σ Y ht ⟨w5, m2, z, rfl, ml2, mu2, DY, ky, sz, lz⟩
      have ht7 : t < 7 := by omega
      have hmM2 : m2 ≤ MANY := by show m2 ≤ 1000000000; omega
      walk_at "go"
      intro ch2 Y2 hch2 DY2 kY2
      have c2 : ch2 < 0x110000 := by
        have all : ∀ c ∈ (Str.ofString "abcxyz0123456789").cps.toList, c < 0x110000 := by decide +kernel
        exact all _ hch2
      have zl : z.length + (⟨#[ch2]⟩ : Str).length ≤ sizeLine := Nat.le_of_lt (sz_lt (by rw [lz]; show 1 + t + 1 ≤ _; omega))
      walk_at "go"
      exact ⟨_, m2 + 1, z ++ ⟨#[ch2]⟩, rfl, by omega, by omega, DY2, ky.trans kY2, strOk_app sz (by unfold PyData.strOk; simpa using c2), by rw [Str.length_append, lz]; rfl⟩
    · rintro σ Y ⟨w5, m2, z, rfl, ml2, mu2, DY, ky, sz, lz⟩
      have lz8 : z.length ≤ 8 := by omega
      have fY := ky.keep _ _ f3 oD
      have zn : (ns.map V.str).length < sizeLine := sz_lt (by rw [List.length_map]; omega)
      walk_at "go"
      intro Z fZ kZ
      have kk : Kp [a, c, fl] X Z := (((Kp.refl (S := [a, c, fl])).step0 k2).trans (k3.sub (by simp))).trans ((ky.sub (by simp)).trans (kZ.sub (by simp)))
      exact ⟨_, _, _, m2, ns ++ [z], rfl, by omega, by omega, DY.kp kZ oa.1 oa.2, kx.trans kk, by rw [fZ, List.map_append]; rfl, fun x hx => (List.mem_append.mp hx).elim (hns x) fun h => by cases List.mem_singleton.mp h; exact ⟨sz, lz8⟩, by rw [List.length_append, ln]; rfl⟩
  · rintro σ X ⟨w3, w4, w5, m', ns, rfl, ml, mu, DX, kx, fX, hns, ln⟩
    have kH : Kp [a, c] H X := ((Kp.refl (S := [a, c])).step0 k1).step kx fun z hz => by
      simp only [List.mem_cons, List.not_mem_nil, or_false] at hz
      rcases hz with rfl | rfl | rfl
      · exact .inl (by simp)
      · exact .inl (by simp)
      · exact .inr hfl
    walk_at "go"
    exact q fl ns X m' ⟨fX, oD, hns, by omega, by omega⟩ (by omega) (by omega) DX kH
end
section
variable {P : Program} {w : World} {K : PySem.W.Frag} {mg : Str → Option Value} {base : Heap}
theorem ok_l_expr (T : Top K mg) : ∀ n : Nat, FnOk P w K mg base CX0 (n + 2) T.l_expr.f T.l_expr.fd ["_law_deck_here", "_law_names_here", "_law_deep"] (spExpr01 n)
  | 0 => fn_no (by rintro vs H Q E ⟨a, c, nm, m, deep, ns, _, _, _, _, h1, h2, _⟩; omega)
  | n + 1 => by
    have G_l_draw : FnOk P w K mg base CX0 1 T.l_draw.f T.l_draw.fd ["_law_deck_here", "_law_many"] spDraw := ok_l_draw T
    have G_l_one : FnOk P w K mg base CX0 2 T.l_one.f T.l_one.fd ["_law_deck_here", "_law_items"] (spOne K) := ok_l_one T
    have G_l_expr : FnOk P w K mg base CX0 (n + 2) T.l_expr.f T.l_expr.fd ["_law_deck_here", "_law_names_here", "_law_deep"] (spExpr01 n) := ok_l_expr T n
    refine T.l_expr.F.ok sc_l_expr (fun vs H Q E h => ?_) (fun cdv A outer s H vs Q E hr h => ?_)
    · obtain ⟨a, c, nm, m, deep, ns, rfl, _⟩ := h
      rfl
    obtain ⟨a, c, nm, m, deep, ns, rfl, hD, hm, hN, h1, h2, h3, q⟩ := h
    refine ⟨_, (pss_cons (ps_set (i := 3) sc_l_expr.nd rfl (.inl rfl) (pe_call G_l_draw (hr.mono (by omega)) (by rfl) T.l_draw.g T.l_draw.F.kp T.l_draw.b .nil pass0 (pa_cons (pv 0) (pa_cons pe_int pa_nil))))
      (pss_cons (ps_if (PW.pt (pw_or (pt_cmpR op_eq (pv 2) pe_int (nomark _)) (pw_or1 (pt_cmpR op_lt (pv 3) pe_int (nomark _))))) (pss_cons (ps_set (i := 4) sc_l_expr.nd rfl (.inl rfl) (pe_lstA (pa_cons pe_int (pa_cons pe_int (pa_cons (pe_un un_neg pe_int) (pa_cons pe_int (pa_cons pe_int (pa_cons (pe_un un_neg pe_int) (pa_cons (pe_op op_sub (pe_call G_l_draw (hr.mono (by omega)) (by rfl) T.l_draw.g T.l_draw.F.kp T.l_draw.b .nil pass0 (pa_cons (pv 0) (pa_cons pe_int pa_nil))) pe_int) pa_nil)))))))))
      (pss_one (ps_ret (pe_ifExp (pt_cmpR op_lt (pv 3) pe_int (nomark _)) (pe_call G_l_one (hr.mono (by omega)) (by rfl) T.l_one.g T.l_one.F.kp T.l_one.b .nil pass0 (pa_cons (pv 0) (pa_cons (pv 1) pa_nil))) (pe_call G_l_one (hr.mono (by omega)) (by rfl) T.l_one.g T.l_one.F.kp T.l_one.b .nil pass0 (pa_cons (pv 0) (pa_cons (pv 4) pa_nil))))))) pss_nil)
      (pss_cons (ps_if (pt_cmpR op_eq (pv 3) pe_int (nomark _)) (pss_one (ps_ret (pe_tupA (pa_cons pe_str (pa_cons (pe_op op_sub (pe_call G_l_draw (hr.mono (by omega)) (by rfl) T.l_draw.g T.l_draw.F.kp T.l_draw.b .nil pass0 (pa_cons (pv 0) (pa_cons pe_int pa_nil))) pe_int) (pa_cons (pe_call G_l_expr (hr.mono (by omega)) (by rfl) T.l_expr.g T.l_expr.F.kp T.l_expr.b .nil pass0 (pa_cons (pv 0) (pa_cons (pv 1) (pa_cons (pe_op op_sub (pv 2) pe_int) pa_nil)))) pa_nil)))))) pss_nil)
      (pss_one (ps_ret (pe_tupA (pa_cons (pe_call G_l_one (hr.mono (by omega)) (by rfl) T.l_one.g T.l_one.F.kp T.l_one.b .nil pass0 (pa_cons (pv 0) (pa_cons (pe_lstA (pa_cons pe_str (pa_cons pe_str pa_nil))) pa_nil))) (pa_cons (pe_call G_l_expr (hr.mono (by omega)) (by rfl) T.l_expr.g T.l_expr.F.kp T.l_expr.b .nil pass0 (pa_cons (pv 0) (pa_cons (pv 1) (pa_cons (pe_op op_sub (pv 2) pe_int) pa_nil)))) (pa_cons (pe_call G_l_expr (hr.mono (by omega)) (by rfl) T.l_expr.g T.l_expr.F.kp T.l_expr.b .nil pass0 (pa_cons (pv 0) (pa_cons (pv 1) (pa_cons (pe_op op_sub (pv 2) pe_int) pa_nil)))) pa_nil))))))))), ?_⟩
    have ce : cE01 (n + 1) = 5 + 2 * cE01 n := rfl
    have cn : 0 ≤ cE01 n ∧ cE01 n ≤ 100 := by
      have : n = 0 ∨ n = 1 ∨ n = 2 := by omega
      rcases this with rfl | rfl | rfl <;> decide
    obtain ⟨cn0, cn1⟩ := cn
    have hmM : m ≤ MANY := by show m ≤ 1000000000; omega
    walk_at "go"
    intro r H1 r0 r1 D1 k1
    have hN1 := hN.kp k1
    have hm1 : m + 1 ≤ MANY := by show m + 1 ≤ 1000000000; omega
    have hm2 : m + 1 + 1 ≤ MANY := by show m + 1 + 1 ≤ 1000000000; omega
    have hm3 : m + 1 + 1 + 1 ≤ MANY := by show m + 1 + 1 + 1 ≤ 1000000000; omega
    walk_at "go"
    refine ite2 (fun hc => ?_) (fun hc => ?_)
    · walk_at "go"
      intro r3 H2 r30 r31 D2 k2
      have hN2 := hN1.kp k2
      walk_at "go"
      intro l H3 hl e3
      have k3 := new_kp hl e3
      have a3 := new_at e3
      have D3 := D2.kp0 k3
      have off3 := D2.off hl
      have hN3 := hN2.kp (k3.sub (by simp))
      have nmat := hN3.at_
      have nmoff := hN3.off
      have hl0 : 0 < (ns.map V.str).length := by rw [List.length_map]; exact hN.l0
      have hl1 : (ns.map V.str).length ≤ 1000000 := by rw [List.length_map]; have := hN.l1; omega
      walk_at "go"
      refine ite2 (fun hd => ?_) (fun hd => ?_)
      · walk_at "go"
        intro x H4 hx D4 k4
        obtain ⟨y, hy, rfl⟩ := List.mem_map.mp hx
        exact q _ (.var y) H4 (m + 1 + 1 + 1) mk_str (xt_var (hN.ok y hy)) h1 (by omega) (by omega) D4 (((k1.trans k2).step0 k3).trans k4)
      · walk_at "go"
        intro x H4 hx D4 k4
        have hx2 : x ∈ ([0, 1, -1, 2, 99, -99, r3 - 99] : List Int).map V.int := hx
        obtain ⟨i, rfl, i0, i1⟩ := mem_ints (P := fun i => -99 ≤ i ∧ i ≤ 99) hx2 (by
          intro i hi
          simp only [List.mem_cons, List.not_mem_nil, or_false] at hi
          omega)
        exact q _ (.num i) H4 (m + 1 + 1 + 1) mk_int (xt_num ⟨i0, i1⟩) h1 (by omega) (by omega) D4 (((k1.trans k2).step0 k3).trans k4)
    · have hc1 : ¬ deep = 1 := fun z => of_decide_eq_false (Bool.eq_false_iff.mpr hc) (congrArg V.int z)
      have d0 : 1 ≤ deep - 1 := by omega
      have d1 : deep - 1 ≤ (n : Int) := by omega
      have d2 : n ≤ 3 := by omega
      walk_at "go"
      refine ite2 (fun hd0 => ?_) (fun hd0 => ?_)
      · walk_at "go"
        intro r3 H2 r30 r31 D2 k2
        have hN2 := hN1.kp k2
        walk_at "go"
        intro l H3 hl e3
        have k3 := new_kp hl e3
        have a3 := new_at e3
        have D3 := D2.kp0 k3
        have off3 := D2.off hl
        have hN3 := hN2.kp (k3.sub (by simp))
        have nmat := hN3.at_
        have nmoff := hN3.off
        have hl0 : 0 < (ns.map V.str).length := by rw [List.length_map]; exact hN.l0
        have hl1 : (ns.map V.str).length ≤ 1000000 := by rw [List.length_map]; have := hN.l1; omega
        walk_at "go"
        refine ite2 (fun hd => ?_) (fun hd => ?_)
        · walk_at "go"
          intro x H4 hx D4 k4
          obtain ⟨y, hy, rfl⟩ := List.mem_map.mp hx
          exact q _ (.var y) H4 (m + 1 + 1 + 1) mk_str (xt_var (hN.ok y hy)) h1 (by omega) (by omega) D4 (((k1.trans k2).step0 k3).trans k4)
        · walk_at "go"
          intro x H4 hx D4 k4
          have hx2 : x ∈ ([0, 1, -1, 2, 99, -99, r3 - 99] : List Int).map V.int := hx
          obtain ⟨i, rfl, i0, i1⟩ := mem_ints (P := fun i => -99 ≤ i ∧ i ≤ 99) hx2 (by
            intro i hi
            simp only [List.mem_cons, List.not_mem_nil, or_false] at hi
            omega)
          exact q _ (.num i) H4 (m + 1 + 1 + 1) mk_int (xt_num ⟨i0, i1⟩) h1 (by omega) (by omega) D4 (((k1.trans k2).step0 k3).trans k4)
      · walk_at "go"
        refine ite2 (fun he => ?_) (fun he => ?_)
        · walk_at "go"
          intro r3 H2 r30 r31 D2 k2
          have hN2 := hN1.kp k2
          have hm4 : m + 1 + 1 + cE01 n ≤ 700000000 := by omega
          walk_at "go"
          intro v e H3 m3 t3 x3 de ml3 mu3 D3 k3
          walk_at "go"
          intro u H4 hu e4
          have k4 := new_kp hu e4
          exact q (.ref u) (.times (r3 - 9) e) H4 m3 (mk_tup (new_at e4) (trs_cons mk_str (trs_cons mk_int (trs_cons (k4.tr t3) trs_nil)))) (xt_times ⟨by omega, by omega⟩ x3) (by show ((e.deep + 1 : Nat) : Int) ≤ deep; omega) (by omega) (by omega) (D3.kp0 k4) (((k1.trans k2).trans k3).step0 k4)
        · walk_at "go"
          intro l H2 hl e2
          have k2 := new_kp hl e2
          have a2 := new_at e2
          have D2 := D1.kp0 k2
          have off2 := D1.off hl
          walk_at "go"
          intro x H3 hx D3 k3
          have hN3 := (hN1.kp (k2.sub (by simp))).kp k3
          have hm4 : m + 1 + 1 + cE01 n ≤ 700000000 := by omega
          obtain ⟨wd, rfl, wm⟩ : ∃ wd : Str, x = .str wd ∧ (wd = "plus" ∨ wd = "minus") := by
            simp only [List.mem_cons, List.not_mem_nil, or_false] at hx
            rcases hx with rfl | rfl
            · exact ⟨_, rfl, .inl rfl⟩
            · exact ⟨_, rfl, .inr rfl⟩
          walk_at "go"
          intro v4 e4 H4 m4 t4 x4 d4 ml4 mu4 D4 k4
          have hN4 := hN3.kp k4
          have hm5 : m4 + cE01 n ≤ 700000000 := by omega
          walk_at "go"
          intro v5 e5 H5 m5 t5 x5 d5 ml5 mu5 D5 k5
          walk_at "go"
          intro u H6 hu e6
          have k6 := new_kp hu e6
          have kk := ((((k1.step0 k2).trans k3).trans k4).trans k5).step0 k6
          rcases wm with rfl | rfl
          · exact q (.ref u) (.plus e4 e5) H6 m5 (mk_tup (new_at e6) (trs_cons mk_str (trs_cons (k6.tr (k5.tr t4)) (trs_cons (k6.tr t5) trs_nil)))) (xt_plus x4 x5) (by show ((max e4.deep e5.deep + 1 : Nat) : Int) ≤ deep; omega) (by omega) (by omega) (D5.kp0 k6) kk
          · exact q (.ref u) (.minus e4 e5) H6 m5 (mk_tup (new_at e6) (trs_cons mk_str (trs_cons (k6.tr (k5.tr t4)) (trs_cons (k6.tr t5) trs_nil)))) (xt_minus x4 x5) (by show ((max e4.deep e5.deep + 1 : Nat) : Int) ≤ deep; omega) (by omega) (by omega) (D5.kp0 k6) kk
end
section
variable {P : Program} {w : World} {K : PySem.W.Frag} {mg : Str → Option Value} {base : Heap}
theorem ok_l_test01 (T : Top K mg) : FnOk P w K mg base CX0 6 T.l_test.f T.l_test.fd ["_law_deck_here", "_law_names_here", "_law_is_odd"] spTest01 := by
  have G_l_draw : FnOk P w K mg base CX0 1 T.l_draw.f T.l_draw.fd ["_law_deck_here", "_law_many"] spDraw := ok_l_draw T
  have G_l_one : FnOk P w K mg base CX0 2 T.l_one.f T.l_one.fd ["_law_deck_here", "_law_items"] (spOne K) := ok_l_one T
  have G_l_expr : FnOk P w K mg base CX0 5 T.l_expr.f T.l_expr.fd ["_law_deck_here", "_law_names_here", "_law_deep"] (spExpr01 3) := ok_l_expr T 3
  have c3 : cE01 3 = 35 := by decide
  refine T.l_test.F.ok sc_l_test (fun vs H Q E h => ?_) (fun cdv A outer s H vs Q E hr h => ?_)
  · obtain ⟨a, c, nm, m, o, ns, rfl, _⟩ := h
    rfl
  obtain ⟨a, c, nm, m, o, ns, rfl, D0, hm, hN, q⟩ := h
  refine ⟨_, (pss_cons (ps_set (i := 3) sc_l_test.nd rfl (.inl rfl) (pe_tupA (pa_cons pe_str (pa_cons (pe_call G_l_expr (hr.mono (by omega)) (by rfl) T.l_expr.g T.l_expr.F.kp T.l_expr.b .nil pass0 (pa_cons (pv 0) (pa_cons (pv 1) (pa_cons (pe_op op_add pe_int (pe_call G_l_draw (hr.mono (by omega)) (by rfl) T.l_draw.g T.l_draw.F.kp T.l_draw.b .nil pass0 (pa_cons (pv 0) (pa_cons pe_int pa_nil)))) pa_nil)))) pa_nil))))
      (pss_cutA (ps_if (pt_not (pt_val (pv 2))) (pss_one (ps_set (i := 3) sc_l_test.nd rfl (.inl rfl) (pe_tupA (pa_cons pe_str (pa_cons (pe_call G_l_expr (hr.mono (by omega)) (by rfl) T.l_expr.g T.l_expr.F.kp T.l_expr.b .nil pass0 (pa_cons (pv 0) (pa_cons (pv 1) (pa_cons (pe_op op_add pe_int (pe_call G_l_draw (hr.mono (by omega)) (by rfl) T.l_draw.g T.l_draw.F.kp T.l_draw.b .nil pass0 (pa_cons (pv 0) (pa_cons pe_int pa_nil)))) pa_nil)))) (pa_cons (pe_call G_l_expr (hr.mono (by omega)) (by rfl) T.l_expr.g T.l_expr.F.kp T.l_expr.b .nil pass0 (pa_cons (pv 0) (pa_cons (pv 1) (pa_cons (pe_op op_add pe_int (pe_call G_l_draw (hr.mono (by omega)) (by rfl) T.l_draw.g T.l_draw.F.kp T.l_draw.b .nil pass0 (pa_cons (pv 0) (pa_cons pe_int pa_nil)))) pa_nil)))) pa_nil)))))) pss_nil)
      (pss_cons (ps_forA (ps_for PassesOwn.never rfl (pi_range1 (by rfl) T.range (pa_cons (pe_call G_l_one (hr.mono (by omega)) (by rfl) T.l_one.g T.l_one.F.kp T.l_one.b .nil pass0 (pa_cons (pv 0) (pa_cons (pe_lstA (pa_cons pe_int (pa_cons pe_int (pa_cons pe_int (pa_cons pe_int pa_nil))))) pa_nil))) pa_nil)) (pg_name (i := 4) sc_l_test.nd rfl (.inl rfl)) (pss_one (ps_set (i := 3) sc_l_test.nd rfl (.inl rfl) (pe_tupA (pa_cons pe_str (pa_cons (pv 3) pa_nil)))))))
      (pss_one (ps_ret (pv 3)))))), ?_⟩
  have hmM : m ≤ MANY := by show m ≤ 1000000000; omega
  walk_at "go"
  intro r1 H1 r10 r11 D1 k1
  have hN1 := hN.kp k1
  have hm1 : m + 1 + cE01 3 ≤ 700000000 := by omega
  have d31 : 1 + r1 ≤ ((3 : Nat) : Int) := by omega
  have d30 : 1 ≤ 1 + r1 := by omega
  walk_at "go"
  intro v2 e2 H2 m2 t2 x2 de2 ml2 mu2 D2 k2
  have hN2 := hN1.kp k2
  walk_at "go"
  intro u3 H3 hu3 e3
  have k3 := new_kp hu3 e3
  have T3 : Tr H3 (Ts.odd e2).d (.ref u3) := mk_tup (new_at e3) (trs_cons mk_str (trs_cons (k3.tr t2) trs_nil))
  have D3 := D2.kp0 k3
  have hN3 := hN2.kp (k3.sub (by simp))
  have K3 : Kp [a, c] H H3 := (k1.trans k2).step0 k3
  have tt3 := tt_odd x2 (by omega)
  walk_at "go"
  refine ⟨⟨fun σ X => Lp (∃ (tv : V) (t : Ts) (m' : Int), σ = [some (.ref a), some (.ref nm), some (.bl o), some tv, none] ∧ Tr X t.d tv ∧ Tt 0 t ∧ m ≤ m' ∧ m' ≤ m + 110 ∧ Deck X a c m' ∧ Kp [a, c] H X), ?_, ?_⟩⟩
  · cases o with
    | true =>
      walk_at "go"
      exact ⟨_, _, m2, rfl, T3, tt3, by omega, by omega, D3, K3⟩
    | false =>
      have hmM2 : m2 ≤ MANY := by show m2 ≤ 1000000000; omega
      walk_at "go"
      intro r4 H4 r40 r41 D4 k4
      have hN4 := hN3.kp k4
      have hm4 : m2 + 1 + cE01 3 ≤ 700000000 := by omega
      have d41 : 1 + r4 ≤ ((3 : Nat) : Int) := by omega
      have d40 : 1 ≤ 1 + r4 := by omega
      walk_at "go"
      intro v5 e5 H5 m5 t5 x5 de5 ml5 mu5 D5 k5
      have hN5 := hN4.kp k5
      have hmM5 : m5 ≤ MANY := by show m5 ≤ 1000000000; omega
      walk_at "go"
      intro r6 H6 r60 r61 D6 k6
      have hN6 := hN5.kp k6
      have hm6 : m5 + 1 + cE01 3 ≤ 700000000 := by omega
      have d61 : 1 + r6 ≤ ((3 : Nat) : Int) := by omega
      have d60 : 1 ≤ 1 + r6 := by omega
      walk_at "go"
      intro v7 e7 H7 m7 t7 x7 de7 ml7 mu7 D7 k7
      walk_at "go"
      intro u8 H8 hu8 e8
      have k8 := new_kp hu8 e8
      have T8 : Tr H8 (Ts.less e5 e7).d (.ref u8) := mk_tup (new_at e8) (trs_cons mk_str (trs_cons (k8.tr (k7.tr (k6.tr t5))) (trs_cons (k8.tr t7) trs_nil)))
      walk_at "go"
      exact ⟨_, _, m7, rfl, T8, tt_less x5 (by omega) x7 (by omega), by omega, by omega, D7.kp0 k8, ((((K3.trans k4).trans k5).trans k6).trans k7).step0 k8⟩
  · rintro σ X ⟨⟨tv, t, m1', rfl, tX, tt, ml, mu, DX, kx⟩⟩
    have hmMX : m1' ≤ MANY := by show m1' ≤ 1000000000; omega
    walk_at "go"
    intro l Y1 hl e1'
    have j1 := new_kp hl e1'
    have b1 := new_at e1'
    have DY1 := DX.kp0 j1
    have offl := DX.off hl
    walk_at "go"
    intro y Y2 hy DY2 j2
    have hy2 : y ∈ ([0, 0, 1, 2] : List Int).map V.int := hy
    obtain ⟨g, rfl, hg0, hg1⟩ := mem_ints (P := fun i => 0 ≤ i ∧ i ≤ 2) hy2 (by decide)
    have tY := j2.tr (j1.tr tX)
    have kY := (kx.step0 j1).trans j2
    walk_at "go"
    refine ⟨for_range (lo := 0) (n := Int.toNat g) (fun i σ Z => Lp (∃ (tv : V) (t : Ts) (w4 : Option V), σ = [some (.ref a), some (.ref nm), some (.bl o), some tv, w4] ∧ Tr Z t.d tv ∧ Tt i t ∧ Kp [] Y2 Z)) ⟨tv, t, none, rfl, tY, tt, Kp.refl⟩ ?_ ?_⟩
    · rintro i σ Z hi ⟨tv, t, w4, rfl, tZ, tt, kz⟩
      walk_at "go"
      intro u Z2 hu e2'
      have k' := new_kp hu e2'
      walk_at "go"
      exact ⟨_, .not t, _, rfl, mk_tup (new_at e2') (trs_cons mk_str (trs_cons (k'.tr tZ) trs_nil)), tt_not tt, kz.trans k'⟩
    · rintro σ Z ⟨tv, t, w4, rfl, tZ, tt, kz⟩
      walk_at "go"
      exact q tv t _ Z _ tZ tt (by omega) (by omega) (by omega) (DY2.kp0 kz) (kY.step0 kz)
end
section
variable {P : Program} {w : World} {K : PySem.W.Frag} {mg : Str → Option Value} {base : Heap}
theorem ok_l_if01 (T : Top K mg) {n k : Nat} (hk : 6 ≤ k) (G_l_block : FnOk P w K mg base CX0 k T.l_block.f T.l_block.fd ["_law_deck_here", "_law_names_here", "_law_depth", "_law_times", "_law_left"] (spBlock01 n)) : FnOk P w K mg base CX0 (k + 1) T.l_if.f T.l_if.fd ["_law_deck_here", "_law_names_here", "_law_depth", "_law_times", "_law_left", "_law_at"] (spIf01 n) := by
  have G_l_draw : FnOk P w K mg base CX0 1 T.l_draw.f T.l_draw.fd ["_law_deck_here", "_law_many"] spDraw := ok_l_draw T
  have G_l_test : FnOk P w K mg base CX0 6 T.l_test.f T.l_test.fd ["_law_deck_here", "_law_names_here", "_law_is_odd"] spTest01 := ok_l_test01 T
  refine T.l_if.F.ok sc_l_if (fun vs H Q E h => ?_) (fun cdv A outer s H vs Q E hr h => ?_)
  · obtain ⟨a, c, nm, lf, m, depth, times, l0, at_, ns, rfl, _⟩ := h
    rfl
  obtain ⟨a, c, nm, lf, m, depth, times, l0, at_, ns, rfl, hat, g, hl0, hd0, hdn, hn1, hm, q⟩ := h
  have cb := cB01_nn n
  refine ⟨_, (pss_cutA (ps_asg (pe_op op_sub (pe_ix (ix_listK (K := K) rfl) (pv 4) (pv 5) (fun _ _ => rfl)) (pv 3)) (pg_sub (pv 4) (pv 5) set_listA))
      (pss_cons (ps_par3 (i := 6) (j := 7) (l := 8) (by rfl) sc_l_if.nd rfl rfl rfl (by decide) (by decide) (by decide) rfl rfl rfl (pa_cons (pe_call G_l_test (hr.mono (by omega)) (by rfl) T.l_test.g T.l_test.F.kp T.l_test.b .nil pass0 (pa_cons (pv 0) (pa_cons (pv 1) (pa_cons (pe_cmpR op_eq (pv 5) pe_int (nomark _)) pa_nil)))) (pa_cons (pe_tupA pa_nil) (pa_cons (pe_tupA pa_nil) pa_nil))) (by rfl))
      (pss_cutA (ps_if (pt_cmpR op_gt (pe_call G_l_draw (hr.mono (by omega)) (by rfl) T.l_draw.g T.l_draw.F.kp T.l_draw.b .nil pass0 (pa_cons (pv 0) (pa_cons pe_int pa_nil))) pe_int (nomark _)) (pss_one (ps_set (i := 7) sc_l_if.nd rfl (.inl rfl) (pe_call G_l_block (hr.mono (by omega)) (by rfl) T.l_block.g T.l_block.F.kp T.l_block.b .nil pass0 (pa_cons (pv 0) (pa_cons (pv 1) (pa_cons (pe_op op_add (pv 2) pe_int) (pa_cons (pv 3) (pa_cons (pv 4) pa_nil)))))))) pss_nil)
      (pss_cutA (ps_if (pt_cmpR op_gt (pe_call G_l_draw (hr.mono (by omega)) (by rfl) T.l_draw.g T.l_draw.F.kp T.l_draw.b .nil pass0 (pa_cons (pv 0) (pa_cons pe_int pa_nil))) pe_int (nomark _)) (pss_one (ps_set (i := 8) sc_l_if.nd rfl (.inl rfl) (pe_call G_l_block (hr.mono (by omega)) (by rfl) T.l_block.g T.l_block.F.kp T.l_block.b .nil pass0 (pa_cons (pv 0) (pa_cons (pv 1) (pa_cons (pe_op op_add (pv 2) pe_int) (pa_cons (pv 3) (pa_cons (pv 4) pa_nil)))))))) pss_nil)
      (pss_one (ps_ret (pe_tupA (pa_cons pe_str (pa_cons (pv 6) (pa_cons (pv 7) (pa_cons (pv 8) pa_nil))))))))))), ?_⟩
  refine ⟨⟨fun σ X => Lp (σ = [some (.ref a), some (.ref nm), some (.int depth), some (.int times), some (.ref lf), some (.int at_), none, none, none] ∧ Gs01 X a c nm lf m ns l0 ∧ Kp [lf] H X), ?_, ?_⟩⟩
  · obtain ⟨l1, l2, l3, hlf⟩ := g.lft
    rcases hat with rfl | rfl
    · walk_at "go"
      intro H3 f3 k3
      exact ⟨rfl, g.put (l0' := l0) (l1 := l1) (l2 := l2 - times) (l3 := l3) f3 k3, k3⟩
    · walk_at "go"
      intro H3 f3 k3
      exact ⟨rfl, g.put (l0' := l0) (l1 := l1) (l2 := l2) (l3 := l3 - times) f3 k3, k3⟩
  · rintro σ X ⟨⟨rfl, gX, kx⟩⟩
    have D1 := gX.dk
    have N1 := gX.nms
    have hm6 : m ≤ 600000000 := by omega
    walk_at "go"
    intro v1 t1 kk H1 m1 T1 tt1 hk1 ml1 mu1 D1' k1
    have g1 := gX.kpD k1 D1'
    walk_at "go"
    intro u2 H2 hu2 e2
    have k2 := new_kp hu2 e2
    walk_at "go"
    intro u3 H3 hu3 e3
    have k3 := new_kp hu3 e3
    have g3 := (g1.kp0 k2).kp0 k3
    have K3 : Kp [a, c, lf] H H3 := (((kx.sub (by simp)).trans (k1.sub (by simp))).step0 k2).step0 k3
    have T13 := k3.tr (k2.tr T1)
    have Ty : Tr H3 (.tuple (Sm.ds [])) (.ref u2) := k3.tr (mk_tup (new_at e2) trs_nil)
    have Tn : Tr H3 (.tuple (Sm.ds [])) (.ref u3) := mk_tup (new_at e3) trs_nil
    walk_at "go"
    refine ⟨⟨fun σ Y => Lp (∃ (y : List Sm) (vy : V) (m2 lA : Int), σ = [some (.ref a), some (.ref nm), some (.int depth), some (.int times), some (.ref lf), some (.int at_), some v1, some vy, some (.ref u3)] ∧ Tr Y t1.d v1 ∧ Tr Y (.tuple (Sm.ds y)) vy ∧ Tr Y (.tuple (Sm.ds [])) (.ref u3) ∧ Sm.oks y ∧ Sm.txs y ∧ Sm.nests y + 1 ≤ n ∧ (Sm.pls y : Int) + lA = l0 ∧ 0 ≤ lA ∧ m ≤ m2 ∧ m2 ≤ m + 210 + cB01 n ∧ Gs01 Y a c nm lf m2 ns lA ∧ Kp [a, c, lf] H Y), ?_, ?_⟩⟩
    · have D3 := g3.dk
      have hmM : m1 ≤ MANY := by show m1 ≤ 1000000000; omega
      walk_at "go"
      intro r H4 r0 r1 D4 k4
      have g4 := g3.kpD k4 D4
      walk_at "go"
      refine ite2 (fun hc => ?_) (fun hc => ?_)
      · have hdp : 0 ≤ depth + 1 := by omega
        have hdp2 : depth + 1 + (n : Int) = 4 := by omega
        have hm4 : m1 + 1 + cB01 n ≤ 500000000 := by omega
        walk_at "go"
        intro vb b H5 m5 l5 Tb ob xb nb pb hl5 ml5 mu5 g5 k5
        walk_at "go"
        have K5 : Kp [a, c, lf] H3 H5 := (k4.sub (by simp)).trans k5
        exact ⟨b, vb, m5, l5, rfl, K5.tr T13, Tb, K5.tr Tn, ob, xb, nb, pb, hl5, by omega, by omega, g5, K3.trans K5⟩
      · have K4 : Kp [a, c, lf] H3 H4 := k4.sub (by simp)
        walk_at "go"
        exact ⟨[], .ref u2, m1 + 1, l0, rfl, K4.tr T13, K4.tr Ty, K4.tr Tn, trivial, trivial, by simp only [Sm.nests]; omega, by simp only [Sm.pls]; omega, hl0, by omega, by omega, g4, K3.trans K4⟩
    · rintro σ Y ⟨⟨y, vy, m2, lA, rfl, T1Y, TyY, TnY, oy, xy, ny, py, hlA, ml2, mu2, gY, kY⟩⟩
      walk_at "go"
      refine ⟨⟨fun σ Z => Lp (∃ (nn : List Sm) (vn : V) (m3 lB : Int), σ = [some (.ref a), some (.ref nm), some (.int depth), some (.int times), some (.ref lf), some (.int at_), some v1, some vy, some vn] ∧ Tr Z t1.d v1 ∧ Tr Z (.tuple (Sm.ds y)) vy ∧ Tr Z (.tuple (Sm.ds nn)) vn ∧ Sm.oks nn ∧ Sm.txs nn ∧ Sm.nests nn + 1 ≤ n ∧ (Sm.pls nn : Int) + lB = lA ∧ 0 ≤ lB ∧ m ≤ m3 ∧ m3 ≤ m + 220 + 2 * cB01 n ∧ Gs01 Z a c nm lf m3 ns lB ∧ Kp [a, c, lf] H Z), ?_, ?_⟩⟩
      · have D3 := gY.dk
        have hmM : m2 ≤ MANY := by show m2 ≤ 1000000000; omega
        walk_at "go"
        intro r H4 r0 r1 D4 k4
        have g4 := gY.kpD k4 D4
        walk_at "go"
        refine ite2 (fun hc => ?_) (fun hc => ?_)
        · have hdp : 0 ≤ depth + 1 := by omega
          have hdp2 : depth + 1 + (n : Int) = 4 := by omega
          have hm4 : m2 + 1 + cB01 n ≤ 500000000 := by omega
          walk_at "go"
          intro vb b H5 m5 l5 Tb ob xb nb pb hl5 ml5 mu5 g5 k5
          walk_at "go"
          have K5 : Kp [a, c, lf] Y H5 := (k4.sub (by simp)).trans k5
          exact ⟨b, vb, m5, l5, rfl, K5.tr T1Y, K5.tr TyY, Tb, ob, xb, nb, pb, hl5, by omega, by omega, g5, kY.trans K5⟩
        · have K4 : Kp [a, c, lf] Y H4 := k4.sub (by simp)
          walk_at "go"
          exact ⟨[], .ref u3, m2 + 1, lA, rfl, K4.tr T1Y, K4.tr TyY, K4.tr TnY, trivial, trivial, by simp only [Sm.nests]; omega, by simp only [Sm.pls]; omega, hlA, by omega, by omega, g4, kY.trans K4⟩
      · rintro σ Z ⟨⟨nn, vn, m3, lB, rfl, T1Z, TyZ, TnZ, on, xn, nnn, pn, hlB, ml3, mu3, gZ, kZ⟩⟩
        walk_at "go"
        intro u H6 hu e6
        have k6 := new_kp hu e6
        exact q (.ref u) (.ite t1 y nn) H6 m3 lB (mk_tup (new_at e6) (trs_cons mk_str (trs_cons (k6.tr T1Z) (trs_cons (k6.tr TyZ) (trs_cons (k6.tr TnZ) trs_nil))))) ⟨tt1.ok, by have := tt1.nots; omega, oy, on⟩ ⟨lk_if tt1 hk1, xy, xn⟩ (by simp only [Sm.nest]; omega) (by simp only [Sm.pl]; omega) hlB (by omega) (by omega) (gZ.kp0 k6) (kZ.step0 k6)
end
section
variable {P : Program} {w : World} {K : PySem.W.Frag} {mg : Str → Option Value} {base : Heap}
theorem ok_l_statement01 (T : Top K mg) {n k : Nat} (hk : 6 ≤ k) (G_l_block : FnOk P w K mg base CX0 k T.l_block.f T.l_block.fd ["_law_deck_here", "_law_names_here", "_law_depth", "_law_times", "_law_left"] (spBlock01 n)) : FnOk P w K mg base CX0 (k + 2) T.l_statement.f T.l_statement.fd ["_law_deck_here", "_law_names_here", "_law_depth", "_law_times", "_law_left"] (spStmt01 n) := by
  have G_l_draw : FnOk P w K mg base CX0 1 T.l_draw.f T.l_draw.fd ["_law_deck_here", "_law_many"] spDraw := ok_l_draw T
  have G_l_one : FnOk P w K mg base CX0 2 T.l_one.f T.l_one.fd ["_law_deck_here", "_law_items"] (spOne K) := ok_l_one T
  have G_l_expr : FnOk P w K mg base CX0 5 T.l_expr.f T.l_expr.fd ["_law_deck_here", "_law_names_here", "_law_deep"] (spExpr01 3) := ok_l_expr T 3
  have G_l_if : FnOk P w K mg base CX0 (k + 1) T.l_if.f T.l_if.fd ["_law_deck_here", "_law_names_here", "_law_depth", "_law_times", "_law_left", "_law_at"] (spIf01 n) := ok_l_if01 T hk G_l_block
  have c3 : cE01 3 = 35 := by decide
  refine T.l_statement.F.ok sc_l_statement (fun vs H Q E h => ?_) (fun cdv A outer s H vs Q E hr h => ?_)
  · obtain ⟨a, c, nm, lf, m, depth, times, l0, ns, rfl, _⟩ := h
    rfl
  obtain ⟨a, c, nm, lf, m, depth, times, l0, ns, rfl, g, hl0, hd0, hdn, hm, q⟩ := h
  have cb := cB01_nn n
  refine ⟨_, (pss_cons (ps_asg (pe_tupA (pa_cons (pe_op op_sub (pe_ix (ix_listK (K := K) rfl) (pv 4) pe_int (fun _ _ => rfl)) pe_int) (pa_cons (pe_op op_sub (pe_ix (ix_listK (K := K) rfl) (pv 4) pe_int (fun _ _ => rfl)) (pv 3)) pa_nil))) (pg_tup (by rfl) (pgs_cons (pg_sub (pv 4) pe_int set_listA) (pgs_cons (pg_sub (pv 4) pe_int set_listA) pgs_nil))))
      (pss_cutA (ps_par (i := 5) (j := 6) (by rfl) sc_l_statement.nd rfl rfl (by decide) rfl rfl (pa_cons (pe_call G_l_draw (hr.mono (by omega)) (by rfl) T.l_draw.g T.l_draw.F.kp T.l_draw.b .nil pass0 (pa_cons (pv 0) (pa_cons pe_int pa_nil))) (pa_cons (pe_call G_l_one (hr.mono (by omega)) (by rfl) T.l_one.g T.l_one.F.kp T.l_one.b .nil pass0 (pa_cons (pv 0) (pa_cons (pe_lstA (pa_cons pe_int (pa_cons pe_int pa_nil))) pa_nil))) pa_nil)) (by rfl))
      (pss_cutA (ps_if (PW.pt (pw_and (pt_cmpR op_lt (pv 5) pe_int (nomark _)) (pw_and1 (pt_cmpR op_ge (pe_ix (ix_listK (K := K) rfl) (pv 4) pe_int (fun _ _ => rfl)) (pv 3) (nomark _))))) (pss_cons (ps_asg (pe_op op_sub (pe_ix (ix_listK (K := K) rfl) (pv 4) pe_int (fun _ _ => rfl)) (pv 3)) (pg_sub (pv 4) pe_int set_listA))
      (pss_one (ps_ret (pe_tupA (pa_cons pe_str (pa_cons (pe_call G_l_one (hr.mono (by omega)) (by rfl) T.l_one.g T.l_one.F.kp T.l_one.b .nil pass0 (pa_cons (pv 0) (pa_cons (pv 1) pa_nil))) (pa_cons (pe_call G_l_expr (hr.mono (by omega)) (by rfl) T.l_expr.g T.l_expr.F.kp T.l_expr.b .nil pass0 (pa_cons (pv 0) (pa_cons (pv 1) (pa_cons (pe_op op_add pe_int (pe_call G_l_draw (hr.mono (by omega)) (by rfl) T.l_draw.g T.l_draw.F.kp T.l_draw.b .nil pass0 (pa_cons (pv 0) (pa_cons pe_int pa_nil)))) pa_nil)))) pa_nil))))))) pss_nil)
      (pss_cutA (ps_if (PW.pt (pw_and (pt_cmpR (op_in_seqK (K := K) rfl) (pv 5) (pe_lstA (pa_cons pe_int (pa_cons pe_int pa_nil))) (by rfl)) (pw_and (pt_cmpR op_lt (pv 2) pe_int (nomark _)) (pw_and1 (pt_cmpR op_ge (pe_ix (ix_listK (K := K) rfl) (pv 4) (pv 6) (fun _ _ => rfl)) (pv 3) (nomark _)))))) (pss_one (ps_ret (pe_call G_l_if (hr.mono (by omega)) (by rfl) T.l_if.g T.l_if.F.kp T.l_if.b .nil pass0 (pa_cons (pv 0) (pa_cons (pv 1) (pa_cons (pv 2) (pa_cons (pv 3) (pa_cons (pv 4) (pa_cons (pv 6) pa_nil))))))))) pss_nil)
      (pss_cutA (ps_if (PW.pt (pw_and (pt_cmpR op_eq (pv 5) pe_int (nomark _)) (pw_and1 (pt_cmpR op_lt (pv 2) pe_int (nomark _))))) (pss_cons (ps_par (i := 7) (j := 8) (by rfl) sc_l_statement.nd rfl rfl (by decide) rfl rfl (pa_cons (pe_call G_l_one (hr.mono (by omega)) (by rfl) T.l_one.g T.l_one.F.kp T.l_one.b .nil pass0 (pa_cons (pv 0) (pa_cons (pe_lstA (pa_cons pe_int (pa_cons pe_int (pa_cons pe_int (pa_cons pe_int (pa_cons pe_int (pa_cons pe_int pa_nil))))))) pa_nil))) (pa_cons (pe_cmpR op_eq (pe_call G_l_draw (hr.mono (by omega)) (by rfl) T.l_draw.g T.l_draw.F.kp T.l_draw.b .nil pass0 (pa_cons (pv 0) (pa_cons pe_int pa_nil))) pe_int (nomark _)) pa_nil)) (by rfl))
      (pss_one (ps_ret (pe_tupA (pa_cons pe_str (pa_cons (pv 7) (pa_cons (pe_ifExp (pt_val (pv 8)) (pe_tupA pa_nil) (pe_call G_l_block (hr.mono (by omega)) (by rfl) T.l_block.g T.l_block.F.kp T.l_block.b .nil pass0 (pa_cons (pv 0) (pa_cons (pv 1) (pa_cons (pe_op op_add (pv 2) pe_int) (pa_cons (pe_op op_mul (pv 3) (pv 7)) (pa_cons (pv 4) pa_nil))))))) pa_nil))))))) pss_nil)
      (pss_cutA (ps_if (pt_cmpR op_eq (pv 5) pe_int (nomark _)) (pss_one (ps_ret (pe_tupA (pa_cons pe_str (pa_cons (pe_call G_l_one (hr.mono (by omega)) (by rfl) T.l_one.g T.l_one.F.kp T.l_one.b .nil pass0 (pa_cons (pv 0) (pa_cons (pe_lstA (pa_cons pe_str (pa_cons pe_str (pa_cons pe_str (pa_cons pe_str (pa_cons pe_str pa_nil)))))) pa_nil))) pa_nil))))) pss_nil)
      (pss_cutA (ps_if (PW.pt (pw_and (pt_cmpR op_eq (pv 5) pe_int (nomark _)) (pw_and1 (pt_cmpR op_eq (pe_call G_l_draw (hr.mono (by omega)) (by rfl) T.l_draw.g T.l_draw.F.kp T.l_draw.b .nil pass0 (pa_cons (pv 0) (pa_cons pe_int pa_nil))) pe_int (nomark _))))) (pss_one (ps_ret (pe_tupA (pa_cons pe_str (pa_cons (pe_call G_l_one (hr.mono (by omega)) (by rfl) T.l_one.g T.l_one.F.kp T.l_one.b .nil pass0 (pa_cons (pv 0) (pa_cons (pe_lstA (pa_cons pe_str (pa_cons pe_str (pa_cons pe_str pa_nil)))) pa_nil))) pa_nil))))) pss_nil)
      (pss_cutA (ps_if (pt_cmpR op_lt (pv 5) pe_int (nomark _)) (pss_one (ps_ret (pe_tupA (pa_cons pe_str (pa_cons (pe_call G_l_one (hr.mono (by omega)) (by rfl) T.l_one.g T.l_one.F.kp T.l_one.b .nil pass0 (pa_cons (pv 0) (pa_cons (pv 1) pa_nil))) (pa_cons (pe_call G_l_expr (hr.mono (by omega)) (by rfl) T.l_expr.g T.l_expr.F.kp T.l_expr.b .nil pass0 (pa_cons (pv 0) (pa_cons (pv 1) (pa_cons pe_int pa_nil)))) pa_nil)))))) pss_nil)
      (pss_one (ps_ret (pe_tupA (pa_cons pe_str (pa_cons (pe_call G_l_expr (hr.mono (by omega)) (by rfl) T.l_expr.g T.l_expr.F.kp T.l_expr.b .nil pass0 (pa_cons (pv 0) (pa_cons (pv 1) (pa_cons (pe_op op_add pe_int (pe_call G_l_draw (hr.mono (by omega)) (by rfl) T.l_draw.g T.l_draw.F.kp T.l_draw.b .nil pass0 (pa_cons (pv 0) (pa_cons pe_int pa_nil)))) pa_nil)))) pa_nil))))))))))))), ?_⟩
  obtain ⟨l1, l2, l3, hlf⟩ := g.lft
  walk_at "go"
  intro u1 H1 hu1 e1
  have k1 := new_kp hu1 e1
  have sq1 : SqT K H1 u1 [.int (l0 - 1), .int (l1 - times)] := SqT.of (new_at e1)
  have lf1 := k1.at hlf
  have g1 := g.kp0 k1
  walk_at "go"
  intro H2 f2 k2
  walk_at "go"
  intro H3 f3 k3
  have g3 : Gs01 H3 a c nm lf m ns (l0 - 1) := (g1.put (l0' := l0 - 1) (l1 := l1) (l2 := l2) (l3 := l3) f2 k2).put (l0' := l0 - 1) (l1 := l1 - times) (l2 := l2) (l3 := l3) f3 k3
  have K3 : Kp [a, c, lf] H H3 := ((Kp.refl (S := [a, c, lf])).step0 k1).trans ((k2.trans k3).sub (by simp))
  have D3 := g3.dk
  have hmM0 : m ≤ MANY := by show m ≤ 1000000000; omega
  have hmM01 : m + 1 ≤ MANY := by show m + 1 ≤ 1000000000; omega
  walk_at "go"
  refine ⟨⟨(fun σ X => Lp (∃ (way at_ m1 : Int), σ = [some (.ref a), some (.ref nm), some (.int depth), some (.int times), some (.ref lf), some (.int way), some (.int at_), none, none] ∧ (0 ≤ way ∧ way < 10) ∧ (at_ = 2 ∨ at_ = 3) ∧ Gs01 X a c nm lf m1 ns (l0 - 1) ∧ m ≤ m1 ∧ m1 ≤ m + 3 ∧ Kp [a, c, lf] H X)), ?_, ?_⟩⟩
  · walk_at "go"
    intro r4 H4 r40 r41 D4 k4
    have g4 := g3.kpD k4 D4
    walk_at "go"
    intro l5 H5 hl5 e5
    have k5 := new_kp hl5 e5
    have a5 := new_at e5
    have D5 := D4.kp0 k5
    have off5 := D4.off hl5
    walk_at "go"
    intro y H6 hy D6 k6
    have hy2 : y ∈ ([2, 3] : List Int).map V.int := hy
    obtain ⟨at_, rfl, hat⟩ := mem_ints (P := fun i => i = 2 ∨ i = 3) hy2 (by decide)
    have g6 := (g4.kp0 k5).kpD k6 D6
    walk_at "go"
    exact ⟨r4, at_, m + 1 + 1, rfl, ⟨r40, r41⟩, hat, g6, by omega, by omega, ((K3.trans (k4.sub (by simp))).step0 k5).trans (k6.sub (by simp))⟩
  · rintro σ X1 ⟨⟨way, at_, m1, rfl, ⟨w0, w1⟩, hat, gX, ml1, mu1, kX⟩⟩
    have DX := gX.dk
    have NX := gX.nms
    have hmM : m1 ≤ MANY := by show m1 ≤ 1000000000; omega
    have hmM1 : m1 + 1 ≤ MANY := by show m1 + 1 ≤ 1000000000; omega
    have nl0 : 0 < (ns.map V.str).length := by rw [List.length_map]; exact NX.l0
    have nl1 : (ns.map V.str).length ≤ 1000000 := by rw [List.length_map]; have := NX.l1; omega
    have nmat := NX.at_
    have nmoff := NX.off
    have hl00 : 0 ≤ l0 - 1 := by omega
    obtain ⟨l1, l2, l3, hlf⟩ := gX.lft
    walk_at "go"
    refine ⟨⟨(fun σ X => Lp (∃ (way at_ m1 : Int), σ = [some (.ref a), some (.ref nm), some (.int depth), some (.int times), some (.ref lf), some (.int way), some (.int at_), none, none] ∧ (0 ≤ way ∧ way < 10) ∧ (at_ = 2 ∨ at_ = 3) ∧ Gs01 X a c nm lf m1 ns (l0 - 1) ∧ m ≤ m1 ∧ m1 ≤ m + 4 ∧ Kp [a, c, lf] H X)), ?_, ?_⟩⟩
    · walk_at "go"
      refine ite2 (fun hc => ?_) (fun hc => ?_)
      · walk_at "go"
        refine ite2 (fun hd => ?_) (fun hd => ?_)
        · walk_at "go"
          intro X2 f2 k2
          have g2 := gX.put (l0' := l0 - 1) (l1 := l1) (l2 := l2 - times) (l3 := l3) f2 k2
          have D2 := g2.dk
          have N2 := g2.nms
          have nmat2 := N2.at_
          walk_at "go"
          intro x X3 hx D3' k3
          obtain ⟨y, hy, rfl⟩ := List.mem_map.mp hx
          have g3' := g2.kpD k3 D3'
          walk_at "go"
          intro r X4 r0 r1 D4 k4
          have g4 := g3'.kpD k4 D4
          have N4 := g4.nms
          have hm4 : m1 + 1 + 1 + cE01 3 ≤ 700000000 := by omega
          have d40 : 1 ≤ 1 + r := by omega
          have d41 : 1 + r ≤ ((3 : Nat) : Int) := by omega
          walk_at "go"
          intro v5 e5 X5 m5 t5 x5 de5 ml5 mu5 D5 k5
          have g5 := g4.kpD k5 D5
          walk_at "go"
          intro u6 X6 hu6 e6
          have k6 := new_kp hu6 e6
          have KK : Kp [a, c, lf] X1 X6 := ((((k2.sub (by simp)).trans (k3.sub (by simp))).trans (k4.sub (by simp))).trans (k5.sub (by simp))).step0 k6
          exact q (.ref u6) (.half y e5) X6 m5 (l0 - 1) (mk_tup (new_at e6) (trs_cons mk_str (trs_cons mk_str (trs_cons (k6.tr t5) trs_nil)))) ⟨⟨x5.ok, by omega⟩, nmok01 (NX.ok y hy)⟩ (lk_half (NX.ok y hy) x5 (by omega)) (Nat.zero_le _) (by simp only [Sm.pl]; omega) (by omega) (by omega) (by omega) (g5.kp0 k6) (kX.trans KK)
        · walk_at "go"
          exact ⟨way, at_, m1, rfl, ⟨w0, w1⟩, hat, gX, ml1, by omega, kX⟩
      · walk_at "go"
        exact ⟨way, at_, m1, rfl, ⟨w0, w1⟩, hat, gX, ml1, by omega, kX⟩
    · rintro σ X2 ⟨⟨way, at_, m1, rfl, ⟨w0, w1⟩, hat, gX, ml1, mu1, kX⟩⟩
      have DX := gX.dk
      have NX := gX.nms
      have hmM : m1 ≤ MANY := by show m1 ≤ 1000000000; omega
      have hmM1 : m1 + 1 ≤ MANY := by show m1 + 1 ≤ 1000000000; omega
      have nl0 : 0 < (ns.map V.str).length := by rw [List.length_map]; exact NX.l0
      have nl1 : (ns.map V.str).length ≤ 1000000 := by rw [List.length_map]; have := NX.l1; omega
      have nmat := NX.at_
      have nmoff := NX.off
      have hl00 : 0 ≤ l0 - 1 := by omega
      obtain ⟨l1, l2, l3, hlf⟩ := gX.lft
      walk_at "go"
      refine ⟨⟨(fun σ X => Lp (∃ (way at_ m1 : Int), σ = [some (.ref a), some (.ref nm), some (.int depth), some (.int times), some (.ref lf), some (.int way), some (.int at_), none, none] ∧ (0 ≤ way ∧ way < 10) ∧ (at_ = 2 ∨ at_ = 3) ∧ Gs01 X a c nm lf m1 ns (l0 - 1) ∧ m ≤ m1 ∧ m1 ≤ m + 5 ∧ Kp [a, c, lf] H X)), ?_, ?_⟩⟩
      · walk_at "go"
        intro l2' X2 hl2 e2
        have k2 := new_kp hl2 e2
        refine ⟨l2', _, rfl, .inl (SqL.of (new_at e2)), rfl, rfl, _, rfl, ?_⟩
        have hlf2 := k2.at hlf
        obtain ⟨la, hla⟩ : ∃ la : Int, atI [V.int (l0 - 1), V.int l1, V.int l2, V.int l3] at_ = some (.int la) := by
          rcases hat with rfl | rfl
          · exact ⟨l2, rfl⟩
          · exact ⟨l3, rfl⟩
        refine ite2 (fun hc => ?_) (fun hc => ?_)
        · walk_at "go"
          refine ite2 (fun hd => ?_) (fun hd => ?_)
          · have hd1 : depth < 3 := of_decide_eq_true hd
            walk_at "go"
            refine ite2 (fun he => ?_) (fun he => ?_)
            · have g2 := gX.kp0 k2
              have hn1 : 1 ≤ n := by omega
              have hm2 : m1 + 300 + 2 * cB01 n ≤ 500000000 := by omega
              walk_at "go"
              intro vv st Y m' l' Tv okv txv nv pv hl' ml' mu' gY kY
              exact q vv st Y m' l' Tv okv txv nv (by omega) hl' (by omega) (by omega) gY ((kX.step0 k2).trans kY)
            · walk_at "go"
              exact ⟨way, at_, m1, rfl, ⟨w0, w1⟩, hat, gX.kp0 k2, ml1, by omega, kX.step0 k2⟩
          · walk_at "go"
            exact ⟨way, at_, m1, rfl, ⟨w0, w1⟩, hat, gX.kp0 k2, ml1, by omega, kX.step0 k2⟩
        · walk_at "go"
          exact ⟨way, at_, m1, rfl, ⟨w0, w1⟩, hat, gX.kp0 k2, ml1, by omega, kX.step0 k2⟩
      · rintro σ X3 ⟨⟨way, at_, m1, rfl, ⟨w0, w1⟩, hat, gX, ml1, mu1, kX⟩⟩
        have DX := gX.dk
        have NX := gX.nms
        have hmM : m1 ≤ MANY := by show m1 ≤ 1000000000; omega
        have hmM1 : m1 + 1 ≤ MANY := by show m1 + 1 ≤ 1000000000; omega
        have nl0 : 0 < (ns.map V.str).length := by rw [List.length_map]; exact NX.l0
        have nl1 : (ns.map V.str).length ≤ 1000000 := by rw [List.length_map]; have := NX.l1; omega
        have nmat := NX.at_
        have nmoff := NX.off
        have hl00 : 0 ≤ l0 - 1 := by omega
        obtain ⟨l1, l2, l3, hlf⟩ := gX.lft
        walk_at "go"
        refine ⟨⟨(fun σ X => Lp (∃ (way at_ m1 : Int), σ = [some (.ref a), some (.ref nm), some (.int depth), some (.int times), some (.ref lf), some (.int way), some (.int at_), none, none] ∧ (0 ≤ way ∧ way < 10) ∧ (at_ = 2 ∨ at_ = 3) ∧ Gs01 X a c nm lf m1 ns (l0 - 1) ∧ m ≤ m1 ∧ m1 ≤ m + 6 ∧ Kp [a, c, lf] H X)), ?_, ?_⟩⟩
        · walk_at "go"
          refine ite2 (fun hc => ?_) (fun hc => ?_)
          · walk_at "go"
            refine ite2 (fun hd => ?_) (fun hd => ?_)
            · have hd1 : depth < 3 := of_decide_eq_true hd
              walk_at "go"
              intro l2' Y2 hl2 e2
              have k2 := new_kp hl2 e2
              have a2 := new_at e2
              have D2 := DX.kp0 k2
              have off2 := DX.off hl2
              walk_at "go"
              intro y Y3 hy D3' k3
              have hy2 : y ∈ ([0, 1, 2, 2, 3, 8] : List Int).map V.int := hy
              obtain ⟨mny, rfl, hm0, hm8⟩ := mem_ints (P := fun i => 0 ≤ i ∧ i ≤ 8) hy2 (by decide)
              obtain ⟨kk, rfl⟩ : ∃ kk : Nat, mny = (kk : Int) := ⟨mny.toNat, by omega⟩
              have g3' := (gX.kp0 k2).kpD k3 D3'
              walk_at "go"
              intro r Y4 r0 r1 D4 k4
              have g4 := g3'.kpD k4 D4
              have K4 : Kp [a, c, lf] X3 Y4 := (((Kp.refl (S := [a, c, lf])).step0 k2).trans (k3.sub (by simp))).trans (k4.sub (by simp))
              walk_at "go"
              refine ite2 (fun he => ?_) (fun he => ?_)
              · walk_at "go"
                intro u5 Y5 hu5 e5
                have k5 := new_kp hu5 e5
                walk_at "go"
                intro u6 Y6 hu6 e6
                have k6 := new_kp hu6 e6
                exact q (.ref u6) (.rep kk []) Y6 (m1 + 1 + 1) (l0 - 1) (mk_tup (new_at e6) (trs_cons mk_str (trs_cons mk_int (trs_cons (k6.tr (mk_tup (new_at e5) trs_nil)) trs_nil)))) ⟨by omega, trivial⟩ ⟨lk_rep (by omega), trivial⟩ (by simp only [Sm.nest, Sm.nests]; omega) (by simp only [Sm.pl, Sm.pls]; omega) (by omega) (by omega) (by omega) ((g4.kp0 k5).kp0 k6) (((kX.trans K4).step0 k5).step0 k6)
              · have hdp : 0 ≤ depth + 1 := by omega
                have hdp2 : depth + 1 + (n : Int) = 4 := by omega
                have hn1 : 1 ≤ n := by omega
                have hm4 : m1 + 1 + 1 + cB01 n ≤ 500000000 := by omega
                have cm : CMul times (kk : Int) := .inr ⟨by omega, by omega⟩
                walk_at "go"
                intro vb bb Y5 m5 l5 Tb ob xb nb pb hl5 ml5 mu5 g5 k5
                walk_at "go"
                intro u6 Y6 hu6 e6
                have k6 := new_kp hu6 e6
                exact q (.ref u6) (.rep kk bb) Y6 m5 l5 (mk_tup (new_at e6) (trs_cons mk_str (trs_cons mk_int (trs_cons (k6.tr Tb) trs_nil)))) ⟨by omega, ob⟩ ⟨lk_rep (by omega), xb⟩ (by simp only [Sm.nest]; omega) (by simp only [Sm.pl]; omega) hl5 (by omega) (by omega) (g5.kp0 k6) (((kX.trans K4).trans k5).step0 k6)
            · walk_at "go"
              exact ⟨way, at_, m1, rfl, ⟨w0, w1⟩, hat, gX, ml1, by omega, kX⟩
          · walk_at "go"
            exact ⟨way, at_, m1, rfl, ⟨w0, w1⟩, hat, gX, ml1, by omega, kX⟩
        · rintro σ X4 ⟨⟨way, at_, m1, rfl, ⟨w0, w1⟩, hat, gX, ml1, mu1, kX⟩⟩
          have DX := gX.dk
          have NX := gX.nms
          have hmM : m1 ≤ MANY := by show m1 ≤ 1000000000; omega
          have hmM1 : m1 + 1 ≤ MANY := by show m1 + 1 ≤ 1000000000; omega
          have nl0 : 0 < (ns.map V.str).length := by rw [List.length_map]; exact NX.l0
          have nl1 : (ns.map V.str).length ≤ 1000000 := by rw [List.length_map]; have := NX.l1; omega
          have nmat := NX.at_
          have nmoff := NX.off
          have hl00 : 0 ≤ l0 - 1 := by omega
          obtain ⟨l1, l2, l3, hlf⟩ := gX.lft
          walk_at "go"
          refine ⟨⟨(fun σ X => Lp (∃ (way at_ m1 : Int), σ = [some (.ref a), some (.ref nm), some (.int depth), some (.int times), some (.ref lf), some (.int way), some (.int at_), none, none] ∧ (0 ≤ way ∧ way < 10) ∧ (at_ = 2 ∨ at_ = 3) ∧ Gs01 X a c nm lf m1 ns (l0 - 1) ∧ m ≤ m1 ∧ m1 ≤ m + 7 ∧ Kp [a, c, lf] H X)), ?_, ?_⟩⟩
          · walk_at "go"
            refine ite2 (fun hc => ?_) (fun hc => ?_)
            · walk_at "go"
              intro l2' X3 hl2 e2
              have k3 := new_kp hl2 e2
              have a3 := new_at e2
              have D3' := DX.kp0 k3
              have off3 := DX.off hl2
              walk_at "go"
              intro x X4 hx D4 k4
              have hx2 : x ∈ (["on", "half", "7", "z9", "program"] : List Str).map V.str := hx
              obtain ⟨cw, rfl, hcw⟩ := mem_strs01 (P := fun c => PyData.strOk c = true ∧ c.length ≤ 20) hx2 (by decide +kernel)
              have g4 := (gX.kp0 k3).kpD k4 D4
              walk_at "go"
              intro u6 X6 hu6 e6
              have k6 := new_kp hu6 e6
              exact q (.ref u6) (.say cw) X6 (m1 + 1) (l0 - 1) (mk_tup (new_at e6) (trs_cons mk_str (trs_cons mk_str trs_nil))) hcw (lk_say hcw) (Nat.zero_le _) (by simp only [Sm.pl]; omega) (by omega) (by omega) (by omega) (g4.kp0 k6) ((((kX).step0 k3).trans (k4.sub (by simp))).step0 k6)
            · walk_at "go"
              exact ⟨way, at_, m1, rfl, ⟨w0, w1⟩, hat, gX, ml1, by omega, kX⟩
          · rintro σ X5 ⟨⟨way, at_, m1, rfl, ⟨w0, w1⟩, hat, gX, ml1, mu1, kX⟩⟩
            have DX := gX.dk
            have NX := gX.nms
            have hmM : m1 ≤ MANY := by show m1 ≤ 1000000000; omega
            have hmM1 : m1 + 1 ≤ MANY := by show m1 + 1 ≤ 1000000000; omega
            have nl0 : 0 < (ns.map V.str).length := by rw [List.length_map]; exact NX.l0
            have nl1 : (ns.map V.str).length ≤ 1000000 := by rw [List.length_map]; have := NX.l1; omega
            have nmat := NX.at_
            have nmoff := NX.off
            have hl00 : 0 ≤ l0 - 1 := by omega
            obtain ⟨l1, l2, l3, hlf⟩ := gX.lft
            walk_at "go"
            refine ⟨⟨(fun σ X => Lp (∃ (way at_ m1 : Int), σ = [some (.ref a), some (.ref nm), some (.int depth), some (.int times), some (.ref lf), some (.int way), some (.int at_), none, none] ∧ (0 ≤ way ∧ way < 10) ∧ (at_ = 2 ∨ at_ = 3) ∧ Gs01 X a c nm lf m1 ns (l0 - 1) ∧ m ≤ m1 ∧ m1 ≤ m + 8 ∧ Kp [a, c, lf] H X)), ?_, ?_⟩⟩
            · walk_at "go"
              refine ite2 (fun hc => ?_) (fun hc => ?_)
              · walk_at "go"
                intro r X2 r0 r1 D2 k2
                have g2 := gX.kpD k2 D2
                walk_at "go"
                refine ite2 (fun hd => ?_) (fun hd => ?_)
                · walk_at "go"
                  intro l2' X3 hl2 e2
                  have k3 := new_kp hl2 e2
                  have a3 := new_at e2
                  have D3' := D2.kp0 k3
                  have off3 := D2.off hl2
                  walk_at "go"
                  intro x X4 hx D4 k4
                  have hx2 : x ∈ (["end", "0", "stop"] : List Str).map V.str := hx
                  obtain ⟨cw, rfl, hcw⟩ := mem_strs01 (P := fun c => PyData.strOk c = true ∧ c.length ≤ 20) hx2 (by decide +kernel)
                  have g4 := (g2.kp0 k3).kpD k4 D4
                  walk_at "go"
                  intro u6 X6 hu6 e6
                  have k6 := new_kp hu6 e6
                  exact q (.ref u6) (.stop cw) X6 (m1 + 1 + 1) (l0 - 1) (mk_tup (new_at e6) (trs_cons mk_str (trs_cons mk_str trs_nil))) hcw (lk_stop hcw) (Nat.zero_le _) (by simp only [Sm.pl]; omega) (by omega) (by omega) (by omega) (g4.kp0 k6) ((((kX.trans (k2.sub (by simp))).step0 k3).trans (k4.sub (by simp))).step0 k6)
                · walk_at "go"
                  exact ⟨way, at_, m1 + 1, rfl, ⟨w0, w1⟩, hat, g2, by omega, by omega, kX.trans (k2.sub (by simp))⟩
              · walk_at "go"
                exact ⟨way, at_, m1, rfl, ⟨w0, w1⟩, hat, gX, ml1, by omega, kX⟩
            · rintro σ X6 ⟨⟨way, at_, m1, rfl, ⟨w0, w1⟩, hat, gX, ml1, mu1, kX⟩⟩
              have DX := gX.dk
              have NX := gX.nms
              have hmM : m1 ≤ MANY := by show m1 ≤ 1000000000; omega
              have hmM1 : m1 + 1 ≤ MANY := by show m1 + 1 ≤ 1000000000; omega
              have nl0 : 0 < (ns.map V.str).length := by rw [List.length_map]; exact NX.l0
              have nl1 : (ns.map V.str).length ≤ 1000000 := by rw [List.length_map]; have := NX.l1; omega
              have nmat := NX.at_
              have nmoff := NX.off
              have hl00 : 0 ≤ l0 - 1 := by omega
              obtain ⟨l1, l2, l3, hlf⟩ := gX.lft
              walk_at "go"
              refine ⟨⟨(fun σ X => Lp (∃ (way at_ m1 : Int), σ = [some (.ref a), some (.ref nm), some (.int depth), some (.int times), some (.ref lf), some (.int way), some (.int at_), none, none] ∧ (0 ≤ way ∧ way < 10) ∧ (at_ = 2 ∨ at_ = 3) ∧ Gs01 X a c nm lf m1 ns (l0 - 1) ∧ m ≤ m1 ∧ m1 ≤ m + 9 ∧ Kp [a, c, lf] H X)), ?_, ?_⟩⟩
              · walk_at "go"
                refine ite2 (fun hc => ?_) (fun hc => ?_)
                · walk_at "go"
                  intro x X3 hx D3' k3
                  obtain ⟨y, hy, rfl⟩ := List.mem_map.mp hx
                  have g3' := gX.kpD k3 D3'
                  have N3 := g3'.nms
                  have hm4 : m1 + 1 + cE01 3 ≤ 700000000 := by omega
                  have d41 : (3 : Int) ≤ ((3 : Nat) : Int) := by decide
                  walk_at "go"
                  intro v5 e5 X5 m5 t5 x5 de5 ml5 mu5 D5 k5
                  have g5 := g3'.kpD k5 D5
                  walk_at "go"
                  intro u6 X6 hu6 e6
                  have k6 := new_kp hu6 e6
                  exact q (.ref u6) (.set y e5) X6 m5 (l0 - 1) (mk_tup (new_at e6) (trs_cons mk_str (trs_cons mk_str (trs_cons (k6.tr t5) trs_nil)))) ⟨⟨x5.ok, by omega⟩, nmok01 (NX.ok y hy)⟩ (lk_set (NX.ok y hy) x5 (by omega)) (Nat.zero_le _) (by simp only [Sm.pl]; omega) (by omega) (by omega) (by omega) (g5.kp0 k6) (((kX.trans (k3.sub (by simp))).trans (k5.sub (by simp))).step0 k6)
                · walk_at "go"
                  exact ⟨way, at_, m1, rfl, ⟨w0, w1⟩, hat, gX, ml1, by omega, kX⟩
              · rintro σ X7 ⟨⟨way, at_, m1, rfl, ⟨w0, w1⟩, hat, gX, ml1, mu1, kX⟩⟩
                have DX := gX.dk
                have NX := gX.nms
                have hmM : m1 ≤ MANY := by show m1 ≤ 1000000000; omega
                have hmM1 : m1 + 1 ≤ MANY := by show m1 + 1 ≤ 1000000000; omega
                have nl0 : 0 < (ns.map V.str).length := by rw [List.length_map]; exact NX.l0
                have nl1 : (ns.map V.str).length ≤ 1000000 := by rw [List.length_map]; have := NX.l1; omega
                have nmat := NX.at_
                have nmoff := NX.off
                have hl00 : 0 ≤ l0 - 1 := by omega
                obtain ⟨l1, l2, l3, hlf⟩ := gX.lft
                walk_at "go"
                intro r X4 r0 r1 D4 k4
                have g4 := gX.kpD k4 D4
                have N4 := g4.nms
                have hm4 : m1 + 1 + cE01 3 ≤ 700000000 := by omega
                have d40 : 1 ≤ 1 + r := by omega
                have d41 : 1 + r ≤ ((3 : Nat) : Int) := by omega
                walk_at "go"
                intro v5 e5 X5 m5 t5 x5 de5 ml5 mu5 D5 k5
                have g5 := g4.kpD k5 D5
                walk_at "go"
                intro u6 X6 hu6 e6
                have k6 := new_kp hu6 e6
                exact q (.ref u6) (.tell e5) X6 m5 (l0 - 1) (mk_tup (new_at e6) (trs_cons mk_str (trs_cons (k6.tr t5) trs_nil))) ⟨x5.ok, by omega⟩ (lk_tell x5 (by omega)) (Nat.zero_le _) (by simp only [Sm.pl]; omega) (by omega) (by omega) (by omega) (g5.kp0 k6) (((kX.trans (k4.sub (by simp))).trans (k5.sub (by simp))).step0 k6)
end
section
variable {P : Program} {w : World} {K : PySem.W.Frag} {mg : Str → Option Value} {base : Heap}
theorem ok_l_block01 (T : Top K mg) : ∀ n : Nat, FnOk P w K mg base CX0 (3 * n + 7) T.l_block.f T.l_block.fd ["_law_deck_here", "_law_names_here", "_law_depth", "_law_times", "_law_left"] (spBlock01 n)
  | 0 => fn_no (by rintro vs H Q E ⟨a, c, nm, lf, m, depth, times, l0, ns, _, _, _, _, _, h1, _⟩; omega)
  | n + 1 => by
    have G_l_one : FnOk P w K mg base CX0 2 T.l_one.f T.l_one.fd ["_law_deck_here", "_law_items"] (spOne K) := ok_l_one T
    have G_l_statement : FnOk P w K mg base CX0 (3 * n + 9) T.l_statement.f T.l_statement.fd ["_law_deck_here", "_law_names_here", "_law_depth", "_law_times", "_law_left"] (spStmt01 n) := ok_l_statement01 T (by omega) (ok_l_block01 T n)
    refine T.l_block.F.ok sc_l_block (fun vs H Q E h => ?_) (fun cdv A outer s H vs Q E hr h => ?_)
    · obtain ⟨a, c, nm, lf, m, depth, times, l0, ns, rfl, _⟩ := h
      rfl
    obtain ⟨a, c, nm, lf, m, depth, times, l0, ns, rfl, g, hl0, hd0, hdn, _, hm, q⟩ := h
    have cb := cB01_nn n
    have ce : cB01 (n + 1) = 2 + 5 * (400 + 2 * cB01 n) := rfl
    refine ⟨_, (pss_cons (ps_set (i := 5) sc_l_block.nd rfl (.inl rfl) (pe_lstA pa_nil))
      (pss_cons (ps_forA (ps_for PassesOwn.never rfl (pi_range1 (by rfl) T.range (pa_cons (pe_op op_add (pe_call G_l_one (hr.mono (by omega)) (by rfl) T.l_one.g T.l_one.F.kp T.l_one.b .nil pass0 (pa_cons (pv 0) (pa_cons (pe_lstA (pa_cons pe_int (pa_cons pe_int (pa_cons pe_int (pa_cons pe_int (pa_cons pe_int pa_nil)))))) pa_nil))) (pe_callTy (T := "int") call_int1 (by rfl) T.int (by decide +kernel) (pa_cons (pe_cmpR op_eq (pv 2) pe_int (nomark _)) pa_nil))) pa_nil)) (pg_name (i := 6) sc_l_block.nd rfl (.inl rfl)) (pss_one (ps_if (PW.pt (pw_and (pt_cmpR op_gt (pe_ix (ix_listK (K := K) rfl) (pv 4) pe_int (fun _ _ => rfl)) pe_int (nomark _)) (pw_and1 (pt_cmpR op_ge (pe_ix (ix_listK (K := K) rfl) (pv 4) pe_int (fun _ _ => rfl)) (pv 3) (nomark _))))) (pss_one (ps_expr (pe_bmK (K := K) rfl PySem.F.plainAttrs_list PySem.F.slot_list_append PySem.F.type_list_append mt_appendA (pv 5) (pa_cons (pe_call G_l_statement (hr.mono (by omega)) (by rfl) T.l_statement.g T.l_statement.F.kp T.l_statement.b .nil pass0 (pa_cons (pv 0) (pa_cons (pv 1) (pa_cons (pv 2) (pa_cons (pv 3) (pa_cons (pv 4) pa_nil)))))) pa_nil)))) pss_nil))))
      (pss_one (ps_ret (pe_callTy (T := "tuple") (call_tupleK (K := K) rfl) (by rfl) T.tuple (by decide +kernel) (pa_cons (pv 5) pa_nil)))))), ?_⟩
    walk_at "go"
    intro fl H1 hfl e1
    have k1 := new_kp hfl e1
    have f1 := new_at e1
    have g1 := g.kp0 k1
    have D1 := g1.dk
    have offl := g.dk.off hfl
    have nfl : fl ≠ lf := by
      obtain ⟨l1, l2, l3, h⟩ := g.lft
      intro z
      rw [z, h] at hfl
      cases hfl
    have nnf : nm ≠ fl := ne_of_none g.nms.at_ hfl
    have ofl : fl ∉ [a, c, lf] := by
      simp only [List.mem_cons, List.not_mem_nil, or_false, not_or] at offl ⊢
      exact ⟨offl.1, offl.2, nfl⟩
    have hmM : m ≤ MANY := by show m ≤ 1000000000; omega
    walk_at "go"
    intro l2 H2 hl2 e2
    have k2 := new_kp hl2 e2
    have a2 := new_at e2
    have D2 := D1.kp0 k2
    have off2 := D1.off hl2
    walk_at "go"
    intro y H3 hy D3 k3
    have hy2 : y ∈ ([1, 2, 2, 3, 4] : List Int).map V.int := hy
    obtain ⟨r, rfl, hr0, hr1⟩ := mem_ints (P := fun i => 0 ≤ i ∧ i ≤ 4) hy2 (by decide)
    have g3 := (g1.kp0 k2).kpD k3 D3
    have f3 := k3.keep _ _ (k2.at f1) offl
    have K3 : Kp [a, c, lf] H H3 := (((Kp.refl (S := [a, c, lf])).step0 k1).step0 k2).trans (k3.sub (by simp))
    have c5 : ∀ i : Nat, i < 5 → (i : Int) * (400 + 2 * cB01 n) + (400 + 2 * cB01 n) = ((i + 1 : Nat) : Int) * (400 + 2 * cB01 n) := fun i _ => by rw [Int.natCast_add, Int.add_mul]; omega
    have m5 : ∀ i : Nat, i ≤ 5 → (i : Int) * (400 + 2 * cB01 n) ≤ 5 * (400 + 2 * cB01 n) := fun i hi => Int.mul_le_mul_of_nonneg_right (by omega) (by omega)
    have m4 : ∀ i : Nat, i < 5 → (i : Int) * (400 + 2 * cB01 n) ≤ 4 * (400 + 2 * cB01 n) := fun i hi => Int.mul_le_mul_of_nonneg_right (by omega) (by omega)
    walk_at "go"
    generalize hz : (if decide (V.int depth = V.int 0) = true then (1 : Int) else 0) = z
    have hz2 : 0 ≤ z ∧ z ≤ 1 := by
      rw [← hz]
      split <;> omega
    clear hz
    obtain ⟨hz0, hz1⟩ := hz2
    refine ⟨for_range (lo := 0) (n := Int.toNat (r + z)) (fun i σ X => Lp (∃ (w6 : Option V) (vs : List V) (b : List Sm) (m1 l' : Int), σ = [some (.ref a), some (.ref nm), some (.int depth), some (.int times), some (.ref lf), some (.ref fl), w6] ∧ X fl = some (.lst vs) ∧ TrAll X (Sm.ds b) vs ∧ vs.length ≤ i ∧ Sm.oks b ∧ Sm.txs b ∧ Sm.nests b ≤ n ∧ (Sm.pls b : Int) + l' = l0 ∧ 0 ≤ l' ∧ m ≤ m1 ∧ m1 ≤ m + 1 + (i : Int) * (400 + 2 * cB01 n) ∧ Gs01 X a c nm lf m1 ns l' ∧ Kp [a, c, lf, fl] H3 X)) ⟨none, [], [], m + 1, l0, rfl, f3, trs_nil, by simp, trivial, trivial, Nat.zero_le _, by simp only [Sm.pls]; omega, hl0, by omega, by omega, g3, Kp.refl⟩ ?_ ?_⟩
    · rintro i σ X hi ⟨w6, vs, b, m1, l', rfl, fX, tX, lv, okb, txb, nb, pb, hl', ml, mu, gX, kx⟩
      have hi5 : i < 5 := by omega
      have ci := c5 i hi5
      have mi := m4 i hi5
      obtain ⟨l1, l2', l3, hlf⟩ := gX.lft
      have hmm : m1 + 400 + 2 * cB01 n ≤ 500000000 := by omega
      walk_at "go"
      refine ite2 (fun hc => ?_) (fun hc => ?_)
      · have hc1 : 0 < l' := of_decide_eq_true hc
        have hl1 : 1 ≤ l' := by omega
        have hdn2 : depth + (n : Int) + 1 = 4 := by omega
        walk_at "go"
        refine ite2 (fun hd => ?_) (fun hd => ?_)
        · walk_at "go"
          intro v st Y m2 l2 Tv ov tv nv pv hl2 ml2 mu2 gY kY
          have fY := kY.keep _ _ fX ofl
          have zv : vs.length < sizeLine := sz_lt (by omega)
          walk_at "go"
          intro Z fZ kZ
          have oa : a ∉ [fl] ∧ c ∉ [fl] ∧ lf ∉ [fl] ∧ nm ∉ [fl] := by
            have h2 : nm ≠ fl := nnf
            simp only [List.mem_cons, List.not_mem_nil, or_false, not_or] at ofl ⊢
            exact ⟨fun z => ofl.1 z.symm, fun z => ofl.2.1 z.symm, fun z => ofl.2.2 z.symm, h2⟩
          have gZ : Gs01 Z a c nm lf m2 ns l2 := by
            obtain ⟨k1', k2', k3', hk⟩ := gY.lft
            exact ⟨gY.dk.kp kZ oa.1 oa.2.1, ⟨kZ.keep _ _ gY.nms.at_ oa.2.2.2, gY.nms.off, gY.nms.ok, gY.nms.l0, gY.nms.l1⟩, ⟨k1', k2', k3', kZ.keep _ _ hk oa.2.2.1⟩, gY.off⟩
          have kk : Kp [a, c, lf, fl] X Z := (kY.sub (by simp)).trans (kZ.sub (by simp))
          refine ⟨_, _, b ++ [st], m2, l2, rfl, fZ, ?_, by rw [List.length_append, List.length_singleton]; omega, oks_app01 okb ⟨ov, trivial⟩, txs_app txb ⟨tv, trivial⟩, by rw [nests_app01]; simp only [Sm.nests]; omega, by rw [pls_app01]; simp only [Sm.pls]; omega, hl2, by omega, by omega, gZ, kx.trans kk⟩
          rw [Sm.ds_map, List.map_append]
          have := (kk.trAll tX).append (trs_cons (kZ.tr Tv) trs_nil)
          rw [Sm.ds_map] at this
          exact this
        · walk_at "go"
          exact ⟨_, vs, b, m1, l', rfl, fX, tX, by omega, okb, txb, nb, pb, hl', ml, by omega, gX, kx⟩
      · walk_at "go"
        exact ⟨_, vs, b, m1, l', rfl, fX, tX, by omega, okb, txb, nb, pb, hl', ml, by omega, gX, kx⟩
    · rintro σ X ⟨w6, vs, b, m1, l', rfl, fX, tX, lv, okb, txb, nb, pb, hl', ml, mu, gX, kx⟩
      have mi := m5 (Int.toNat (r + z)) (by omega)
      have z1 : vs.length ≤ sizeLine := Nat.le_of_lt (sz_lt (by omega))
      walk_at "go"
      intro t X2 ht ft k2'
      have KX : Kp [a, c, lf] H X := K3.step kx fun z hz => by
        simp only [List.mem_cons, List.not_mem_nil, or_false] at hz
        rcases hz with rfl | rfl | rfl | rfl
        · exact .inl (by simp)
        · exact .inl (by simp)
        · exact .inl (by simp)
        · exact .inr hfl
      exact q (.ref t) b X2 m1 l' (mk_tup ft (k2'.trAll tX)) okb txb (by omega) pb hl' (by omega) (by omega) (gX.kp0 k2') (KX.step0 k2')
end
section
variable {P : Program} {w : World} {K : PySem.W.Frag} {mg : Str → Option Value} {base : Heap}
theorem s300 : 300000 ≤ sizeLine := by decide
theorem ok_expression_text (T : Top K mg) (DS : SgOk K w T.SIGNS) : ∀ n : Nat, FnOk P w K mg base CX0 n T.expression_text.f T.expression_text.fd ["expression"] (spETxt n)
  | 0 => fn_no (fun vs H Q E ⟨v, e, _, _, _, h, _⟩ => by cases e <;> simp [Ex.deep] at h)
  | n + 1 => by
    have G_expression_text : FnOk P w K mg base CX0 n T.expression_text.f T.expression_text.fd ["expression"] (spETxt n) := ok_expression_text T DS n
    obtain ⟨d1, d2, d3⟩ := DS
    refine T.expression_text.F.ok sc_expression_text (fun vs H Q E h => ?_) (fun cdv A outer s H vs Q E hr h => ?_)
    · obtain ⟨v, e, rfl, _⟩ := h
      rfl
    obtain ⟨v, e, rfl, hT, ok, hd, h8, q⟩ := h
    have hu := hu_of hr
    refine ⟨_, (pss_cons (ps_if (pt_not (pt_val (pe_callB (id := "isinstance") (call_isiK (K := K) rfl) (by rfl) T.isinstance (by decide +kernel) (pa_cons (pv 0) (pa_cons (pe_bltn (v := .ty "tuple") (u := .type "tuple") (by rfl) T.tuple (by decide +kernel) rfl) pa_nil))))) (pss_one (ps_ret (pe_callTy (T := "str") cr_strAny (by rfl) T.str (by decide +kernel) (pa_cons (pv 0) pa_nil)))) pss_nil)
      (pss_cons (ps_asg (pv 0) (pg_tup (by rfl) (pgs_cons (pg_name (i := 1) sc_expression_text.nd rfl (.inl rfl)) (pgs_cons (pg_name (i := 2) sc_expression_text.nd rfl (.inl rfl)) (pgs_cons (pg_name (i := 3) sc_expression_text.nd rfl (.inl rfl)) pgs_nil)))))
      (pss_one (ps_ret (pe_op op_add_str (pe_op op_add_str (pe_op op_add_str (pe_op op_add_str pe_str (pe_call G_expression_text (hr.mono (by omega)) (by rfl) T.expression_text.g T.expression_text.F.kp T.expression_text.b .nil pass0 (pa_cons (pv 2) pa_nil))) (pe_ix ix_kdict (pe_glob (v := .ref T.SIGNS) (by rfl) T.g_SIGNS rfl) (pv 1) (fun _ _ => rfl))) (pe_call G_expression_text (hr.mono (by omega)) (by rfl) T.expression_text.g T.expression_text.F.kp T.expression_text.b .nil pass0 (pa_cons (pv 3) pa_nil))) pe_str))))), ?_⟩
    have len := Ex.txt_le ok h8
    cases e with
    | num i =>
      cases tr_int hT
      have lg := log_small (i := i) (by have := ok.1; have := ok.2; omega)
      walk_at "go"
      exact q
    | var x =>
      cases tr_str hT
      walk_at "go"
      exact q
    | plus a b =>
      obtain ⟨u, z1, z2, z3, rfl, hu2, tz1, tz2, tz3⟩ := tr_tup3 hT
      cases tr_str tz1
      obtain ⟨oa, ob⟩ := ok
      obtain ⟨da, db, ea, eb⟩ : a.deep ≤ n ∧ b.deep ≤ n ∧ a.deep ≤ 8 ∧ b.deep ≤ 8 := by simp only [Ex.deep] at hd h8; omega
      simp only [Ex.txt, Str.length_append] at len
      have y1 : ("(" : Str).length + a.txt.length ≤ sizeLine := Nat.le_trans (by omega) s300
      have y2 : ("(" ++ a.txt : Str).length + (" + " : Str).length ≤ sizeLine := Nat.le_trans (by simp only [Str.length_append]; omega) s300
      have y3 : ("(" ++ a.txt ++ " + " : Str).length + b.txt.length ≤ sizeLine := Nat.le_trans (by simp only [Str.length_append]; omega) s300
      have y4 : ("(" ++ a.txt ++ " + " ++ b.txt : Str).length + (")" : Str).length ≤ sizeLine := Nat.le_trans (by simp only [Str.length_append]; omega) s300
      have sq : SqT K H u [.str "plus", z2, z3] := SqT.of hu2
      walk_at "go"
      exact q
    | minus a b =>
      obtain ⟨u, z1, z2, z3, rfl, hu2, tz1, tz2, tz3⟩ := tr_tup3 hT
      cases tr_str tz1
      obtain ⟨oa, ob⟩ := ok
      obtain ⟨da, db, ea, eb⟩ : a.deep ≤ n ∧ b.deep ≤ n ∧ a.deep ≤ 8 ∧ b.deep ≤ 8 := by simp only [Ex.deep] at hd h8; omega
      simp only [Ex.txt, Str.length_append] at len
      have y1 : ("(" : Str).length + a.txt.length ≤ sizeLine := Nat.le_trans (by omega) s300
      have y2 : ("(" ++ a.txt : Str).length + (" - " : Str).length ≤ sizeLine := Nat.le_trans (by simp only [Str.length_append]; omega) s300
      have y3 : ("(" ++ a.txt ++ " - " : Str).length + b.txt.length ≤ sizeLine := Nat.le_trans (by simp only [Str.length_append]; omega) s300
      have y4 : ("(" ++ a.txt ++ " - " ++ b.txt : Str).length + (")" : Str).length ≤ sizeLine := Nat.le_trans (by simp only [Str.length_append]; omega) s300
      have sq : SqT K H u [.str "minus", z2, z3] := SqT.of hu2
      walk_at "go"
      exact q
    | times k a =>
      obtain ⟨u, z1, z2, z3, rfl, hu2, tz1, tz2, tz3⟩ := tr_tup3 hT
      cases tr_str tz1
      obtain ⟨ok1, ok2, oa⟩ := ok
      have tk : Tr H (Ex.num k).d z2 := tz2
      have okk : (Ex.num k).ok := ⟨by omega, by omega⟩
      obtain ⟨da, ea⟩ : a.deep ≤ n ∧ a.deep ≤ 8 := by simp only [Ex.deep] at hd h8; omega
      have dk : (Ex.num k).deep ≤ n := by
        have : 1 ≤ a.deep := by cases a <;> simp [Ex.deep]
        simp only [Ex.deep]
        omega
      have dk8 : (Ex.num k).deep ≤ 8 := by simp only [Ex.deep]; decide
      simp only [Ex.txt, Str.length_append] at len
      have y1 : ("(" : Str).length + (Ex.num k).txt.length ≤ sizeLine := Nat.le_trans (by simp only [Ex.txt]; omega) s300
      have y2 : ("(" ++ (Ex.num k).txt : Str).length + (" * " : Str).length ≤ sizeLine := Nat.le_trans (by simp only [Ex.txt, Str.length_append]; omega) s300
      have y3 : ("(" ++ (Ex.num k).txt ++ " * " : Str).length + a.txt.length ≤ sizeLine := Nat.le_trans (by simp only [Ex.txt, Str.length_append]; omega) s300
      have y4 : ("(" ++ (Ex.num k).txt ++ " * " ++ a.txt : Str).length + (")" : Str).length ≤ sizeLine := Nat.le_trans (by simp only [Ex.txt, Str.length_append]; omega) s300
      have sq : SqT K H u [.str "times", z2, z3] := SqT.of hu2
      walk_at "go"
      exact q
end
section
variable {P : Program} {w : World} {K : PySem.W.Frag} {mg : Str → Option Value} {base : Heap}
theorem ok_l_expr_text (T : Top K mg) : ∀ n : Nat, FnOk P w K mg base CX0 n T.l_expr_text.f T.l_expr_text.fd ["_law_expr_here"] (spETxtL n)
  | 0 => fn_no (fun vs H Q E ⟨v, e, _, _, _, h, _⟩ => by cases e <;> simp [Ex.deep] at h)
  | n + 1 => by
    have G_l_expr_text : FnOk P w K mg base CX0 n T.l_expr_text.f T.l_expr_text.fd ["_law_expr_here"] (spETxtL n) := ok_l_expr_text T n
    refine T.l_expr_text.F.ok sc_l_expr_text (fun vs H Q E h => ?_) (fun cdv A outer s H vs Q E hr h => ?_)
    · obtain ⟨v, e, rfl, _⟩ := h
      rfl
    obtain ⟨v, e, rfl, hT, ok, hd, h8, q⟩ := h
    have hu := hu_of hr
    refine ⟨_, (pss_cons (ps_if (pt_not (pt_val (pe_callB (id := "isinstance") (call_isiK (K := K) rfl) (by rfl) T.isinstance (by decide +kernel) (pa_cons (pv 0) (pa_cons (pe_bltn (v := .ty "tuple") (u := .type "tuple") (by rfl) T.tuple (by decide +kernel) rfl) pa_nil))))) (pss_one (ps_ret (pe_callTy (T := "str") cr_strAny (by rfl) T.str (by decide +kernel) (pa_cons (pv 0) pa_nil)))) pss_nil)
      (pss_cons (ps_set (i := 1) sc_l_expr_text.nd rfl (.inl rfl) (pe_dget hu (pe_disp (pps_cons pe_str pe_str (pps_cons pe_str pe_str (pps_cons pe_str pe_str pps_nil))) (by rfl) (by rfl) (fun z => by cases z) (by decide)) (pe_ix (ix_tupK (K := K) rfl) (pv 0) pe_int (fun _ _ => rfl)) (fun _ _ => rfl)))
      (pss_one (ps_ret (pe_op op_add_str (pe_op op_add_str (pe_op op_add_str (pe_op op_add_str pe_str (pe_call G_l_expr_text (hr.mono (by omega)) (by rfl) T.l_expr_text.g T.l_expr_text.F.kp T.l_expr_text.b .nil pass0 (pa_cons (pe_ix (ix_tupK (K := K) rfl) (pv 0) pe_int (fun _ _ => rfl)) pa_nil))) (pv 1)) (pe_call G_l_expr_text (hr.mono (by omega)) (by rfl) T.l_expr_text.g T.l_expr_text.F.kp T.l_expr_text.b .nil pass0 (pa_cons (pe_ix (ix_tupK (K := K) rfl) (pv 0) pe_int (fun _ _ => rfl)) pa_nil))) pe_str))))), ?_⟩
    have len := Ex.txt_le ok h8
    cases e with
    | num i =>
      cases tr_int hT
      have lg := log_small (i := i) (by have := ok.1; have := ok.2; omega)
      have q := q H Kp.refl
      walk_at "go"
      exact q
    | var x =>
      cases tr_str hT
      have q := q H Kp.refl
      walk_at "go"
      exact q
    | plus a b =>
      obtain ⟨u, z1, z2, z3, rfl, hu2, tz1, tz2, tz3⟩ := tr_tup3 hT
      cases tr_str tz1
      obtain ⟨oa, ob⟩ := ok
      obtain ⟨da, db, ea, eb⟩ : a.deep ≤ n ∧ b.deep ≤ n ∧ a.deep ≤ 8 ∧ b.deep ≤ 8 := by simp only [Ex.deep] at hd h8; omega
      simp only [Ex.txt, Str.length_append] at len
      have y1 : ("(" : Str).length + a.txt.length ≤ sizeLine := Nat.le_trans (by (try simp only [Ex.txt]); omega) s300
      have y2 : ("(" ++ a.txt : Str).length + (" + " : Str).length ≤ sizeLine := Nat.le_trans (by simp only [Ex.txt, Str.length_append]; omega) s300
      have y3 : ("(" ++ a.txt ++ " + " : Str).length + b.txt.length ≤ sizeLine := Nat.le_trans (by simp only [Ex.txt, Str.length_append]; omega) s300
      have y4 : ("(" ++ a.txt ++ " + " ++ b.txt : Str).length + (")" : Str).length ≤ sizeLine := Nat.le_trans (by simp only [Ex.txt, Str.length_append]; omega) s300
      have sq : SqT K H u [.str "plus", z2, z3] := SqT.of hu2
      walk_at "go"
      intro p hp
      walk_at "go"
      refine ⟨upd_same, [(Sum.inr "plus", .str " + "), (Sum.inr "minus", .str " - "), (Sum.inr "times", .str " * ")], rfl, by show 3 ≤ 15; decide, ?_⟩
      have k1 : Kp [] H (upd (upd H p (.dK [])) p (.dK (mergeK [] [(Sum.inr "plus", .str " + "), (Sum.inr "minus", .str " - "), (Sum.inr "times", .str " * ")]))) := (Kp.new hp).step1 (Kp.put upd_same (fun _ z => by cases z)) (.inr hp)
      have a1 : (upd (upd H p (.dK [])) p (.dK (mergeK [] [(Sum.inr "plus", .str " + "), (Sum.inr "minus", .str " - "), (Sum.inr "times", .str " * ")]))) p = some (.dK [(Sum.inr "plus", .str " + "), (Sum.inr "minus", .str " - "), (Sum.inr "times", .str " * ")]) := by rw [upd_same]; rfl
      generalize (upd (upd H p (.dK [])) p (.dK (mergeK [] [(Sum.inr "plus", .str " + "), (Sum.inr "minus", .str " - "), (Sum.inr "times", .str " * ")]))) = H1 at k1 a1 ⊢
      have g1 : DGet H1 p (.str "plus") (some (.str " + ")) := DGet.k (k := Sum.inr "plus") a1
      have hu3 := k1.tup _ _ hu2
      have tz2 : Tr H1 a.d z2 := k1.tr tz2
      have tz3 : Tr H1 b.d z3 := k1.tr tz3
      walk_at "go"
      intro H2 k2
      have hu3 := k2.tup _ _ hu3
      have tz3 := k2.tr tz3
      walk_at "go"
      intro H3 k3
      have q := q H3 ((k1.trans k2).trans k3)
      walk_at "go"
      exact q
    | minus a b =>
      obtain ⟨u, z1, z2, z3, rfl, hu2, tz1, tz2, tz3⟩ := tr_tup3 hT
      cases tr_str tz1
      obtain ⟨oa, ob⟩ := ok
      obtain ⟨da, db, ea, eb⟩ : a.deep ≤ n ∧ b.deep ≤ n ∧ a.deep ≤ 8 ∧ b.deep ≤ 8 := by simp only [Ex.deep] at hd h8; omega
      simp only [Ex.txt, Str.length_append] at len
      have y1 : ("(" : Str).length + a.txt.length ≤ sizeLine := Nat.le_trans (by (try simp only [Ex.txt]); omega) s300
      have y2 : ("(" ++ a.txt : Str).length + (" - " : Str).length ≤ sizeLine := Nat.le_trans (by simp only [Ex.txt, Str.length_append]; omega) s300
      have y3 : ("(" ++ a.txt ++ " - " : Str).length + b.txt.length ≤ sizeLine := Nat.le_trans (by simp only [Ex.txt, Str.length_append]; omega) s300
      have y4 : ("(" ++ a.txt ++ " - " ++ b.txt : Str).length + (")" : Str).length ≤ sizeLine := Nat.le_trans (by simp only [Ex.txt, Str.length_append]; omega) s300
      have sq : SqT K H u [.str "minus", z2, z3] := SqT.of hu2
      walk_at "go"
      intro p hp
      walk_at "go"
      refine ⟨upd_same, [(Sum.inr "plus", .str " + "), (Sum.inr "minus", .str " - "), (Sum.inr "times", .str " * ")], rfl, by show 3 ≤ 15; decide, ?_⟩
      have k1 : Kp [] H (upd (upd H p (.dK [])) p (.dK (mergeK [] [(Sum.inr "plus", .str " + "), (Sum.inr "minus", .str " - "), (Sum.inr "times", .str " * ")]))) := (Kp.new hp).step1 (Kp.put upd_same (fun _ z => by cases z)) (.inr hp)
      have a1 : (upd (upd H p (.dK [])) p (.dK (mergeK [] [(Sum.inr "plus", .str " + "), (Sum.inr "minus", .str " - "), (Sum.inr "times", .str " * ")]))) p = some (.dK [(Sum.inr "plus", .str " + "), (Sum.inr "minus", .str " - "), (Sum.inr "times", .str " * ")]) := by rw [upd_same]; rfl
      generalize (upd (upd H p (.dK [])) p (.dK (mergeK [] [(Sum.inr "plus", .str " + "), (Sum.inr "minus", .str " - "), (Sum.inr "times", .str " * ")]))) = H1 at k1 a1 ⊢
      have g1 : DGet H1 p (.str "minus") (some (.str " - ")) := DGet.k (k := Sum.inr "minus") a1
      have hu3 := k1.tup _ _ hu2
      have tz2 : Tr H1 a.d z2 := k1.tr tz2
      have tz3 : Tr H1 b.d z3 := k1.tr tz3
      walk_at "go"
      intro H2 k2
      have hu3 := k2.tup _ _ hu3
      have tz3 := k2.tr tz3
      walk_at "go"
      intro H3 k3
      have q := q H3 ((k1.trans k2).trans k3)
      walk_at "go"
      exact q
    | times k a =>
      obtain ⟨u, z1, z2, z3, rfl, hu2, tz1, tz2, tz3⟩ := tr_tup3 hT
      cases tr_str tz1
      obtain ⟨ok1, ok2, oa⟩ := ok
      have okk : (Ex.num k).ok := ⟨by omega, by omega⟩
      obtain ⟨da, ea⟩ : a.deep ≤ n ∧ a.deep ≤ 8 := by simp only [Ex.deep] at hd h8; omega
      have dk : (Ex.num k).deep ≤ n := by
        have : 1 ≤ a.deep := by cases a <;> simp [Ex.deep]
        simp only [Ex.deep]
        omega
      have dk8 : (Ex.num k).deep ≤ 8 := by simp only [Ex.deep]; decide
      simp only [Ex.txt, Str.length_append] at len
      have y1 : ("(" : Str).length + (Ex.num k).txt.length ≤ sizeLine := Nat.le_trans (by (try simp only [Ex.txt]); omega) s300
      have y2 : ("(" ++ (Ex.num k).txt : Str).length + (" * " : Str).length ≤ sizeLine := Nat.le_trans (by simp only [Ex.txt, Str.length_append]; omega) s300
      have y3 : ("(" ++ (Ex.num k).txt ++ " * " : Str).length + a.txt.length ≤ sizeLine := Nat.le_trans (by simp only [Ex.txt, Str.length_append]; omega) s300
      have y4 : ("(" ++ (Ex.num k).txt ++ " * " ++ a.txt : Str).length + (")" : Str).length ≤ sizeLine := Nat.le_trans (by simp only [Ex.txt, Str.length_append]; omega) s300
      have sq : SqT K H u [.str "times", z2, z3] := SqT.of hu2
      walk_at "go"
      intro p hp
      walk_at "go"
      refine ⟨upd_same, [(Sum.inr "plus", .str " + "), (Sum.inr "minus", .str " - "), (Sum.inr "times", .str " * ")], rfl, by show 3 ≤ 15; decide, ?_⟩
      have k1 : Kp [] H (upd (upd H p (.dK [])) p (.dK (mergeK [] [(Sum.inr "plus", .str " + "), (Sum.inr "minus", .str " - "), (Sum.inr "times", .str " * ")]))) := (Kp.new hp).step1 (Kp.put upd_same (fun _ z => by cases z)) (.inr hp)
      have a1 : (upd (upd H p (.dK [])) p (.dK (mergeK [] [(Sum.inr "plus", .str " + "), (Sum.inr "minus", .str " - "), (Sum.inr "times", .str " * ")]))) p = some (.dK [(Sum.inr "plus", .str " + "), (Sum.inr "minus", .str " - "), (Sum.inr "times", .str " * ")]) := by rw [upd_same]; rfl
      generalize (upd (upd H p (.dK [])) p (.dK (mergeK [] [(Sum.inr "plus", .str " + "), (Sum.inr "minus", .str " - "), (Sum.inr "times", .str " * ")]))) = H1 at k1 a1 ⊢
      have g1 : DGet H1 p (.str "times") (some (.str " * ")) := DGet.k (k := Sum.inr "times") a1
      have hu3 := k1.tup _ _ hu2
      have tz2 : Tr H1 (Ex.num k).d z2 := k1.tr tz2
      have tz3 : Tr H1 a.d z3 := k1.tr tz3
      walk_at "go"
      intro H2 k2
      have hu3 := k2.tup _ _ hu3
      have tz3 := k2.tr tz3
      walk_at "go"
      intro H3 k3
      have q := q H3 ((k1.trans k2).trans k3)
      walk_at "go"
      exact q
end
section
variable {P : Program} {w : World} {K : PySem.W.Frag} {mg : Str → Option Value} {base : Heap}
theorem ok_test_text (T : Top K mg) (DS : SgOk K w T.SIGNS) : ∀ n : Nat, FnOk P w K mg base CX0 (n + 9) T.test_text.f T.test_text.fd ["test"] (spTTxt n)
  | n => by
    have G_expression_text : FnOk P w K mg base CX0 8 T.expression_text.f T.expression_text.fd ["expression"] (spETxt 8) := ok_expression_text T DS 8
    have G_test_text : FnOk P w K mg base CX0 (n + 8) T.test_text.f T.test_text.fd ["test"] (fun vs H Q E => ∃ n', n = n' + 1 ∧ spTTxt n' vs H Q E) := by
      cases n with
      | zero => exact fn_no (fun _ _ _ _ ⟨_, e, _⟩ => nomatch e)
      | succ m => exact (ok_test_text T DS m).imp fun _ _ _ _ ⟨N', e, h⟩ => (Nat.succ.inj e) ▸ h
    refine T.test_text.F.ok sc_test_text (fun vs H Q E h => ?_) (fun cdv A outer s H vs Q E hr h => ?_)
    · obtain ⟨v, t, rfl, _⟩ := h
      rfl
    obtain ⟨v, t, rfl, hT, ok, hn, h8, q⟩ := h
    have hu := hu_of hr
    have len := Ts.txt_len ok
    refine ⟨_, (pss_cons (ps_if (pt_cmpR op_eq (pe_ix (ix_tupK (K := K) rfl) (pv 0) pe_int (fun _ _ => rfl)) pe_str (nomark _)) (pss_one (ps_ret (pe_op op_add_str pe_str (pe_call G_test_text (hr.mono (by omega)) (by rfl) T.test_text.g T.test_text.F.kp T.test_text.b .nil pass0 (pa_cons (pe_ix (ix_tupK (K := K) rfl) (pv 0) pe_int (fun _ _ => rfl)) pa_nil))))) pss_nil)
      (pss_cons (ps_if (pt_cmpR op_eq (pe_ix (ix_tupK (K := K) rfl) (pv 0) pe_int (fun _ _ => rfl)) pe_str (nomark _)) (pss_one (ps_ret (pe_op op_add_str pe_str (pe_call G_expression_text (hr.mono (by omega)) (by rfl) T.expression_text.g T.expression_text.F.kp T.expression_text.b .nil pass0 (pa_cons (pe_ix (ix_tupK (K := K) rfl) (pv 0) pe_int (fun _ _ => rfl)) pa_nil))))) pss_nil)
      (pss_one (ps_ret (pe_op op_add_str (pe_op op_add_str (pe_call G_expression_text (hr.mono (by omega)) (by rfl) T.expression_text.g T.expression_text.F.kp T.expression_text.b .nil pass0 (pa_cons (pe_ix (ix_tupK (K := K) rfl) (pv 0) pe_int (fun _ _ => rfl)) pa_nil)) pe_str) (pe_call G_expression_text (hr.mono (by omega)) (by rfl) T.expression_text.g T.expression_text.F.kp T.expression_text.b .nil pass0 (pa_cons (pe_ix (ix_tupK (K := K) rfl) (pv 0) pe_int (fun _ _ => rfl)) pa_nil))))))), ?_⟩
    cases t with
    | not t =>
      obtain ⟨u, z1, z2, rfl, hu2, tz1, tz2⟩ := tr_tup2 hT
      cases tr_str tz1
      simp only [Ts.nots] at hn h8 len
      obtain ⟨n', rfl⟩ : ∃ n', n = n' + 1 := ⟨n - 1, by omega⟩
      have okt : t.ok := ok
      have hn' : t.nots ≤ n' := by omega
      have h8' : t.nots ≤ 1000 := by omega
      simp only [Ts.txt, Str.length_append] at len
      have y1 : ("not " : Str).length + t.txt.length ≤ sizeLine := Nat.le_trans (by omega) s300
      walk_at "go"
      exact q
    | odd a =>
      obtain ⟨u, z1, z2, rfl, hu2, tz1, tz2⟩ := tr_tup2 hT
      cases tr_str tz1
      obtain ⟨oa, da⟩ := ok
      have da8 : a.deep ≤ 8 := by omega
      simp only [Ts.txt, Str.length_append] at len
      have y1 : ("odd " : Str).length + a.txt.length ≤ sizeLine := Nat.le_trans (by omega) s300
      walk_at "go"
      exact q
    | less a b =>
      obtain ⟨u, z1, z2, z3, rfl, hu2, tz1, tz2, tz3⟩ := tr_tup3 hT
      cases tr_str tz1
      obtain ⟨⟨oa, da⟩, ob, db⟩ := ok
      have da8 : a.deep ≤ 8 := by omega
      have db8 : b.deep ≤ 8 := by omega
      simp only [Ts.txt, Str.length_append] at len
      have y1 : a.txt.length + (" < " : Str).length ≤ sizeLine := Nat.le_trans (by omega) s300
      have y2 : (a.txt ++ " < " : Str).length + b.txt.length ≤ sizeLine := Nat.le_trans (by simp only [Str.length_append]; omega) s300
      walk_at "go"
      exact q
end
section
variable {P : Program} {w : World} {K : PySem.W.Frag} {mg : Str → Option Value} {base : Heap}
theorem ok_l_test_text (T : Top K mg) : ∀ n : Nat, FnOk P w K mg base CX0 (n + 9) T.l_test_text.f T.l_test_text.fd ["_law_test_here"] (spTTxtL n)
  | n => by
    have G_l_expr_text : FnOk P w K mg base CX0 8 T.l_expr_text.f T.l_expr_text.fd ["_law_expr_here"] (spETxtL 8) := ok_l_expr_text T 8
    have G_l_test_text : FnOk P w K mg base CX0 (n + 8) T.l_test_text.f T.l_test_text.fd ["_law_test_here"] (fun vs H Q E => ∃ n', n = n' + 1 ∧ spTTxtL n' vs H Q E) := by
      cases n with
      | zero => exact fn_no (fun _ _ _ _ ⟨_, e, _⟩ => nomatch e)
      | succ m => exact (ok_l_test_text T m).imp fun _ _ _ _ ⟨N', e, h⟩ => (Nat.succ.inj e) ▸ h
    refine T.l_test_text.F.ok sc_l_test_text (fun vs H Q E h => ?_) (fun cdv A outer s H vs Q E hr h => ?_)
    · obtain ⟨v, t, rfl, _⟩ := h
      rfl
    obtain ⟨v, t, rfl, hT, ok, hn, h8, q⟩ := h
    have hu := hu_of hr
    have len := Ts.txt_len ok
    refine ⟨_, (pss_cons (ps_if (pt_cmpR op_eq (pe_ix (ix_tupK (K := K) rfl) (pv 0) pe_int (fun _ _ => rfl)) pe_str (nomark _)) (pss_one (ps_ret (pe_op op_add_str pe_str (pe_call G_l_test_text (hr.mono (by omega)) (by rfl) T.l_test_text.g T.l_test_text.F.kp T.l_test_text.b .nil pass0 (pa_cons (pe_ix (ix_tupK (K := K) rfl) (pv 0) pe_int (fun _ _ => rfl)) pa_nil))))) pss_nil)
      (pss_cons (ps_setLc (i := 1) (own := [("_law_expr_here", 2)]) (by rfl) sc_l_test_text.nd rfl rfl (sw_true rfl rfl rfl (by decide +kernel)) (pi_tupK (K := K) rfl (pe_slice (sl_tupK (K := K) rfl) (pv 0) (po_some pe_int) po_none)) (blkOk_by (N := ["_law_test_here", "_law_texts", "_law_expr_here"]) (sc := defScope s_l_test_text) (own := [("_law_expr_here", 2)]) (by decide +kernel)) (fun _ _ _ _ _ => (pg_name (i := 2) sc_l_test_text.nd rfl (.inl rfl))) (fun _ _ _ _ _ => pts_nil) (fun _ _ _ _ _ => (pe_call G_l_expr_text (hr.mono (by omega)) (by rfl) T.l_expr_text.g T.l_expr_text.F.kp T.l_expr_text.b .nil pass0 (pa_cons (pv 2) pa_nil))))
      (pss_one (ps_ret (pe_ifExp (pt_cmpR op_eq (pe_ix (ix_tupK (K := K) rfl) (pv 0) pe_int (fun _ _ => rfl)) pe_str (nomark _)) (pe_op op_add_str pe_str (pe_ix (ix_listK (K := K) rfl) (pv 1) pe_int (fun _ _ => rfl))) (pe_joinA pe_str (pv 1))))))), ?_⟩
    cases t with
    | not t =>
      obtain ⟨u, z1, z2, rfl, hu2, tz1, tz2⟩ := tr_tup2 hT
      cases tr_str tz1
      simp only [Ts.nots] at hn h8 len
      obtain ⟨n', rfl⟩ : ∃ n', n = n' + 1 := ⟨n - 1, by omega⟩
      have okt : t.ok := ok
      have hn' : t.nots ≤ n' := by omega
      have h8' : t.nots ≤ 1000 := by omega
      simp only [Ts.txt, Str.length_append] at len
      have y1 : ("not " : Str).length + t.txt.length ≤ sizeLine := Nat.le_trans (by omega) s300
      walk_at "go"
      intro H1 k1
      have q := q H1 k1
      walk_at "go"
      exact q
    | odd a =>
      obtain ⟨u, z1, z2, rfl, hu2, tz1, tz2⟩ := tr_tup2 hT
      cases tr_str tz1
      obtain ⟨oa, da⟩ := ok
      have da8 : a.deep ≤ 8 := by omega
      simp only [Ts.txt, Str.length_append] at len
      have y1 : ("odd " : Str).length + a.txt.length ≤ sizeLine := Nat.le_trans (by omega) s300
      walk_at "go"
      intro p H1 hp k1
      have hp : H1 p = some (.tup [z2]) := hp
      have sqp : SqT K H1 p [z2] := SqT.of hp
      have gets : ∀ (j : Nat) (y : V), ([z2] : List V)[j]? = some y → ∃ e : Ex, ([a] : List Ex)[j]? = some e ∧ Tr H e.d y ∧ e.ok ∧ e.deep ≤ 8 := fun j y hy => by
        match j, hy with
        | 0, hy => cases hy; exact ⟨a, rfl, tz2, oa, da8⟩
      walk_at "go"
      intro D hD
      refine lc_tup (K := K) (a := p) (xs := [z2]) (fun t X => Lp (Kp [D] H1 X ∧ X D = some (.lst ((([a] : List Ex).take t).map fun e => V.str e.txt)))) ⟨(Kp.new hD).sub (by simp), upd_same⟩ ?_ ?_ ?_
      · rintro t X _ ⟨kx, _⟩
        exact SqT.of (kx.tup _ _ hp)
      · rintro t y X hy ⟨kx, dX⟩
        obtain ⟨e, ee, te, oe, de⟩ := gets t y hy
        have ht : t < ([z2] : List V).length := (List.getElem?_eq_some_iff.mp hy).1
        have ht3 : t < 3 := by simp only [List.length_cons, List.length_nil] at ht; omega
        have kX : Kp [] H X := k1.step1 kx (.inr (k1.free hD (by simp)))
        have te := kX.tr te
        walk_at "go"
        intro X2 k2
        have dX2 := k2.at dX
        have hz : ((([a] : List Ex).take t).map fun e => V.str e.txt).length < sizeLine := sz_lt (by rw [List.length_map, List.length_take]; omega)
        refine ⟨_, dX2, hz, ⟨(kx.step0 k2).trans (Kp.put (u := HO.lst _) dX2 (fun _ z => by cases z)), ?_⟩⟩
        rw [upd_same, List.take_add_one, ee, List.map_append]
        rfl
      rintro X ⟨kx, dX⟩
      have dX : X D = some (.lst [.str a.txt]) := dX
      have kX : Kp [] H X := k1.step1 kx (.inr (k1.free hD (by simp)))
      have hu3 := kX.tup _ _ hu2
      have q := q X kX
      have i0 : atI [V.str a.txt] 0 = some (.str a.txt) := rfl
      walk_at "go"
      exact q
    | less a b =>
      obtain ⟨u, z1, z2, z3, rfl, hu2, tz1, tz2, tz3⟩ := tr_tup3 hT
      cases tr_str tz1
      obtain ⟨⟨oa, da⟩, ob, db⟩ := ok
      have da8 : a.deep ≤ 8 := by omega
      have db8 : b.deep ≤ 8 := by omega
      simp only [Ts.txt, Str.length_append] at len
      walk_at "go"
      intro p H1 hp k1
      have hp : H1 p = some (.tup [z2, z3]) := hp
      have sqp : SqT K H1 p [z2, z3] := SqT.of hp
      have gets : ∀ (j : Nat) (y : V), ([z2, z3] : List V)[j]? = some y → ∃ e : Ex, ([a, b] : List Ex)[j]? = some e ∧ Tr H e.d y ∧ e.ok ∧ e.deep ≤ 8 := fun j y hy => by
        match j, hy with
        | 0, hy => cases hy; exact ⟨a, rfl, tz2, oa, da8⟩
        | 1, hy => cases hy; exact ⟨b, rfl, tz3, ob, db8⟩
      walk_at "go"
      intro D hD
      refine lc_tup (K := K) (a := p) (xs := [z2, z3]) (fun t X => Lp (Kp [D] H1 X ∧ X D = some (.lst ((([a, b] : List Ex).take t).map fun e => V.str e.txt)))) ⟨(Kp.new hD).sub (by simp), upd_same⟩ ?_ ?_ ?_
      · rintro t X _ ⟨kx, _⟩
        exact SqT.of (kx.tup _ _ hp)
      · rintro t y X hy ⟨kx, dX⟩
        obtain ⟨e, ee, te, oe, de⟩ := gets t y hy
        have ht : t < ([z2, z3] : List V).length := (List.getElem?_eq_some_iff.mp hy).1
        have ht3 : t < 3 := by simp only [List.length_cons, List.length_nil] at ht; omega
        have kX : Kp [] H X := k1.step1 kx (.inr (k1.free hD (by simp)))
        have te := kX.tr te
        walk_at "go"
        intro X2 k2
        have dX2 := k2.at dX
        have hz : ((([a, b] : List Ex).take t).map fun e => V.str e.txt).length < sizeLine := sz_lt (by rw [List.length_map, List.length_take]; omega)
        refine ⟨_, dX2, hz, ⟨(kx.step0 k2).trans (Kp.put (u := HO.lst _) dX2 (fun _ z => by cases z)), ?_⟩⟩
        rw [upd_same, List.take_add_one, ee, List.map_append]
        rfl
      rintro X ⟨kx, dX⟩
      have dX : X D = some (.lst [.str a.txt, .str b.txt]) := dX
      have kX : Kp [] H X := k1.step1 kx (.inr (k1.free hD (by simp)))
      have hu3 := kX.tup _ _ hu2
      have q := q X kX
      have e3 : (" < " : Str).length = 3 := by decide +kernel
      walk_at "go"
      refine ⟨⟨_, rfl⟩, _, rfl, _, _, [a.txt, b.txt], rfl, rfl, dX, ?_, ?_⟩
      · simp only [List.map_cons, List.map_nil, List.sum_cons, List.sum_nil, List.length_cons, List.length_nil, e3]
        omega
      · rw [join2]
        exact q
end
section
variable {P : Program} {w : World} {K : PySem.W.Frag} {mg : Str → Option Value} {base : Heap}
theorem ok_line_text (T : Top K mg) (DS : SgOk K w T.SIGNS) : FnOk P w K mg base CX0 12 T.line_text.f T.line_text.fd ["statement"] spLine := by
  have G_expression_text : FnOk P w K mg base CX0 8 T.expression_text.f T.expression_text.fd ["expression"] (spETxt 8) := ok_expression_text T DS 8
  have G_test_text : FnOk P w K mg base CX0 11 T.test_text.f T.test_text.fd ["test"] (spTTxt 2) := ok_test_text T DS 2
  refine T.line_text.F.ok sc_line_text (fun vs H Q E h => ?_) (fun cdv A outer s H vs Q E hr h => ?_)
  · obtain ⟨v, s, rfl, _⟩ := h
    rfl
  obtain ⟨v, st, rfl, hT, ok, q⟩ := h
  have hu := hu_of hr
  have len := Sm.line_len ok
  refine ⟨_, (pss_cons (ps_set (i := 1) sc_line_text.nd rfl (.inl rfl) (pe_ix (ix_tupK (K := K) rfl) (pv 0) pe_int (fun _ _ => rfl)))
      (pss_cons (ps_if (pt_cmpR op_eq (pv 1) pe_str (nomark _)) (pss_one (ps_ret (pe_op op_add_str (pe_op op_add_str (pe_ix (ix_tupK (K := K) rfl) (pv 0) pe_int (fun _ _ => rfl)) pe_str) (pe_call G_expression_text (hr.mono (by omega)) (by rfl) T.expression_text.g T.expression_text.F.kp T.expression_text.b .nil pass0 (pa_cons (pe_ix (ix_tupK (K := K) rfl) (pv 0) pe_int (fun _ _ => rfl)) pa_nil))))) pss_nil)
      (pss_cons (ps_if (pt_cmpR op_eq (pv 1) pe_str (nomark _)) (pss_one (ps_ret (pe_op op_add_str (pe_op op_add_str (pe_ix (ix_tupK (K := K) rfl) (pv 0) pe_int (fun _ _ => rfl)) pe_str) (pe_call G_expression_text (hr.mono (by omega)) (by rfl) T.expression_text.g T.expression_text.F.kp T.expression_text.b .nil pass0 (pa_cons (pe_ix (ix_tupK (K := K) rfl) (pv 0) pe_int (fun _ _ => rfl)) pa_nil))))) pss_nil)
      (pss_cons (ps_if (pt_cmpR op_eq (pv 1) pe_str (nomark _)) (pss_one (ps_ret (pe_op op_add_str pe_str (pe_call G_expression_text (hr.mono (by omega)) (by rfl) T.expression_text.g T.expression_text.F.kp T.expression_text.b .nil pass0 (pa_cons (pe_ix (ix_tupK (K := K) rfl) (pv 0) pe_int (fun _ _ => rfl)) pa_nil))))) pss_nil)
      (pss_cons (ps_if (pt_cmpR op_eq (pv 1) pe_str (nomark _)) (pss_one (ps_ret (pe_op op_add_str pe_str (pe_call G_test_text (hr.mono (by omega)) (by rfl) T.test_text.g T.test_text.F.kp T.test_text.b .nil pass0 (pa_cons (pe_ix (ix_tupK (K := K) rfl) (pv 0) pe_int (fun _ _ => rfl)) pa_nil))))) pss_nil)
      (pss_one (ps_ret (pe_op op_add_str (pe_op op_add_str (pv 1) pe_str) (pe_callTy (T := "str") cr_strAny (by rfl) T.str (by decide +kernel) (pa_cons (pe_ix (ix_tupK (K := K) rfl) (pv 0) pe_int (fun _ _ => rfl)) pa_nil)))))))))), ?_⟩
  cases st with
  | set x e =>
    obtain ⟨u, z1, z2, z3, rfl, hu2, tz1, tz2, tz3⟩ := tr_tup3 hT
    cases tr_str tz1
    cases tr_str tz2
    obtain ⟨⟨oa, da⟩, nx⟩ := ok
    have da8 : e.deep ≤ 8 := by omega
    simp only [Sm.line, Str.length_append] at len
    have y1 : x.length + (" = " : Str).length ≤ sizeLine := Nat.le_trans (by omega) s300
    have y2 : (x ++ " = " : Str).length + e.txt.length ≤ sizeLine := Nat.le_trans (by simp only [Str.length_append]; omega) s300
    walk_at "go"
    exact q
  | half x e =>
    obtain ⟨u, z1, z2, z3, rfl, hu2, tz1, tz2, tz3⟩ := tr_tup3 hT
    cases tr_str tz1
    cases tr_str tz2
    obtain ⟨⟨oa, da⟩, nx⟩ := ok
    have da8 : e.deep ≤ 8 := by omega
    simp only [Sm.line, Str.length_append] at len
    have y1 : x.length + (" = half " : Str).length ≤ sizeLine := Nat.le_trans (by omega) s300
    have y2 : (x ++ " = half " : Str).length + e.txt.length ≤ sizeLine := Nat.le_trans (by simp only [Str.length_append]; omega) s300
    walk_at "go"
    exact q
  | tell e =>
    obtain ⟨u, z1, z2, rfl, hu2, tz1, tz2⟩ := tr_tup2 hT
    cases tr_str tz1
    obtain ⟨oa, da⟩ := ok
    have da8 : e.deep ≤ 8 := by omega
    simp only [Sm.line, Str.length_append] at len
    have y1 : ("tell " : Str).length + e.txt.length ≤ sizeLine := Nat.le_trans (by omega) s300
    walk_at "go"
    exact q
  | say c =>
    obtain ⟨u, z1, z2, rfl, hu2, tz1, tz2⟩ := tr_tup2 hT
    cases tr_str tz1
    cases tr_str tz2
    simp only [Sm.line, Str.length_append] at len
    have y1 : ("say" : Str).length + (" " : Str).length ≤ sizeLine := Nat.le_trans (by omega) s300
    have y2 : ("say" ++ " " : Str).length + c.length ≤ sizeLine := Nat.le_trans (by simp only [Str.length_append]; omega) s300
    walk_at "go"
    exact q
  | stop c =>
    obtain ⟨u, z1, z2, rfl, hu2, tz1, tz2⟩ := tr_tup2 hT
    cases tr_str tz1
    cases tr_str tz2
    simp only [Sm.line, Str.length_append] at len
    have y1 : ("stop" : Str).length + (" " : Str).length ≤ sizeLine := Nat.le_trans (by omega) s300
    have y2 : ("stop" ++ " " : Str).length + c.length ≤ sizeLine := Nat.le_trans (by simp only [Str.length_append]; omega) s300
    walk_at "go"
    exact q
  | ite t y n =>
    obtain ⟨u, z1, z2, z3, z4, rfl, hu2, tz1, tz2, tz3, tz4⟩ := tr_tup4 hT
    cases tr_str tz1
    obtain ⟨ot, nt, oy, on⟩ := ok
    have nt8 : t.nots ≤ 1000 := by omega
    simp only [Sm.line, Str.length_append] at len
    have y1 : ("if " : Str).length + t.txt.length ≤ sizeLine := Nat.le_trans (by omega) s300
    walk_at "go"
    exact q
  | rep k b =>
    obtain ⟨u, z1, z2, z3, rfl, hu2, tz1, tz2, tz3⟩ := tr_tup3 hT
    cases tr_str tz1
    cases tr_int tz2
    have lg := log_small (i := (k : Int)) (by have := ok.1; omega)
    simp only [Sm.line, Str.length_append] at len
    have y1 : ("repeat" : Str).length + (" " : Str).length ≤ sizeLine := Nat.le_trans (by omega) s300
    have y2 : ("repeat" ++ " " : Str).length + (iTxt (k : Int)).length ≤ sizeLine := Nat.le_trans (by simp only [Str.length_append]; omega) s300
    walk_at "go"
    exact q
end
section
variable {P : Program} {w : World} {K : PySem.W.Frag} {mg : Str → Option Value} {base : Heap}
theorem ok_l_line (T : Top K mg) : FnOk P w K mg base CX0 12 T.l_line.f T.l_line.fd ["_law_statement_here"] spLineL := by
  have G_l_expr_text : FnOk P w K mg base CX0 8 T.l_expr_text.f T.l_expr_text.fd ["_law_expr_here"] (spETxtL 8) := ok_l_expr_text T 8
  have G_l_test_text : FnOk P w K mg base CX0 11 T.l_test_text.f T.l_test_text.fd ["_law_test_here"] (spTTxtL 2) := ok_l_test_text T 2
  refine T.l_line.F.ok sc_l_line (fun vs H Q E h => ?_) (fun cdv A outer s H vs Q E hr h => ?_)
  · obtain ⟨v, s, rfl, _⟩ := h
    rfl
  obtain ⟨v, st, rfl, hT, ok, q⟩ := h
  have hu := hu_of hr
  have len := Sm.line_len ok
  refine ⟨_, (pss_cons (ps_set (i := 1) sc_l_line.nd rfl (.inl rfl) (pe_ix (ix_tupK (K := K) rfl) (pv 0) pe_int (fun _ _ => rfl)))
      (pss_cons (ps_if (pt_cmpR (op_in_seqK (K := K) rfl) (pv 1) (pe_lstA (pa_cons pe_str (pa_cons pe_str pa_nil))) (by rfl)) (pss_one (ps_ret (pe_op op_add_str (pe_op op_add_str (pe_ix (ix_tupK (K := K) rfl) (pv 0) pe_int (fun _ _ => rfl)) (pe_ifExp (pt_cmpR op_eq (pv 1) pe_str (nomark _)) pe_str pe_str)) (pe_call G_l_expr_text (hr.mono (by omega)) (by rfl) T.l_expr_text.g T.l_expr_text.F.kp T.l_expr_text.b .nil pass0 (pa_cons (pe_ix (ix_tupK (K := K) rfl) (pv 0) pe_int (fun _ _ => rfl)) pa_nil))))) pss_nil)
      (pss_cons (ps_if (pt_cmpR op_eq (pv 1) pe_str (nomark _)) (pss_one (ps_ret (pe_op op_add_str pe_str (pe_call G_l_test_text (hr.mono (by omega)) (by rfl) T.l_test_text.g T.l_test_text.F.kp T.l_test_text.b .nil pass0 (pa_cons (pe_ix (ix_tupK (K := K) rfl) (pv 0) pe_int (fun _ _ => rfl)) pa_nil))))) pss_nil)
      (pss_one (ps_ret (pe_op op_add_str (pe_op op_add_str (pv 1) pe_str) (pe_ifExp (pt_cmpR op_eq (pv 1) pe_str (nomark _)) (pe_call G_l_expr_text (hr.mono (by omega)) (by rfl) T.l_expr_text.g T.l_expr_text.F.kp T.l_expr_text.b .nil pass0 (pa_cons (pe_ix (ix_tupK (K := K) rfl) (pv 0) pe_int (fun _ _ => rfl)) pa_nil)) (pe_callTy (T := "str") cr_strAny (by rfl) T.str (by decide +kernel) (pa_cons (pe_ix (ix_tupK (K := K) rfl) (pv 0) pe_int (fun _ _ => rfl)) pa_nil))))))))), ?_⟩
  cases st with
  | set x e =>
    obtain ⟨u, z1, z2, z3, rfl, hu2, tz1, tz2, tz3⟩ := tr_tup3 hT
    cases tr_str tz1
    cases tr_str tz2
    obtain ⟨⟨oa, da⟩, nx⟩ := ok
    have da8 : e.deep ≤ 8 := by omega
    simp only [Sm.line, Str.length_append] at len
    have y1 : x.length + (" = " : Str).length ≤ sizeLine := Nat.le_trans (by omega) s300
    have y2 : (x ++ " = " : Str).length + e.txt.length ≤ sizeLine := Nat.le_trans (by simp only [Str.length_append]; omega) s300
    walk_at "go"
    intro l H1 hl e1
    have k1 := new_kp hl e1
    have a1 := new_at e1
    have hu3 := k1.tup _ _ hu2
    refine ⟨l, _, rfl, .inl (SqL.of a1), rfl, rfl, _, rfl, ?_⟩
    refine iteT ?_
    have tz3 := k1.tr tz3
    walk_at "go"
    intro H2 k2
    have q := q H2 (k1.trans k2)
    walk_at "go"
    exact q
  | half x e =>
    obtain ⟨u, z1, z2, z3, rfl, hu2, tz1, tz2, tz3⟩ := tr_tup3 hT
    cases tr_str tz1
    cases tr_str tz2
    obtain ⟨⟨oa, da⟩, nx⟩ := ok
    have da8 : e.deep ≤ 8 := by omega
    simp only [Sm.line, Str.length_append] at len
    have y1 : x.length + (" = half " : Str).length ≤ sizeLine := Nat.le_trans (by omega) s300
    have y2 : (x ++ " = half " : Str).length + e.txt.length ≤ sizeLine := Nat.le_trans (by simp only [Str.length_append]; omega) s300
    walk_at "go"
    intro l H1 hl e1
    have k1 := new_kp hl e1
    have a1 := new_at e1
    have hu3 := k1.tup _ _ hu2
    refine ⟨l, _, rfl, .inl (SqL.of a1), rfl, rfl, _, rfl, ?_⟩
    refine iteT ?_
    have tz3 := k1.tr tz3
    walk_at "go"
    intro H2 k2
    have q := q H2 (k1.trans k2)
    walk_at "go"
    exact q
  | tell e =>
    obtain ⟨u, z1, z2, rfl, hu2, tz1, tz2⟩ := tr_tup2 hT
    cases tr_str tz1
    obtain ⟨oa, da⟩ := ok
    have da8 : e.deep ≤ 8 := by omega
    simp only [Sm.line, Str.length_append] at len
    have y1 : ("tell " : Str).length + e.txt.length ≤ sizeLine := Nat.le_trans (by omega) s300
    walk_at "go"
    intro l H1 hl e1
    have k1 := new_kp hl e1
    have a1 := new_at e1
    have hu3 := k1.tup _ _ hu2
    refine ⟨l, _, rfl, .inl (SqL.of a1), rfl, rfl, _, rfl, ?_⟩
    refine iteF ?_
    have tz2 := k1.tr tz2
    have y2 : ("tell" : Str).length + (" " : Str).length ≤ sizeLine := by decide +kernel
    have et : ("tell" : Str) ++ (" " : Str) = "tell " := by decide +kernel
    have y3 : ("tell" ++ " " : Str).length + e.txt.length ≤ sizeLine := by rw [et]; exact y1
    walk_at "go"
    intro H2 k2
    have q := q H2 (k1.trans k2)
    have q2 := show Q (.str ((("tell" : Str) ++ (" " : Str)) ++ e.txt)) H2 by rw [et]; exact q
    walk_at "go"
    exact q2
  | say c =>
    obtain ⟨u, z1, z2, rfl, hu2, tz1, tz2⟩ := tr_tup2 hT
    cases tr_str tz1
    cases tr_str tz2
    simp only [Sm.line, Str.length_append] at len
    have y1 : ("say" : Str).length + (" " : Str).length ≤ sizeLine := Nat.le_trans (by omega) s300
    have y2 : ("say" ++ " " : Str).length + c.length ≤ sizeLine := Nat.le_trans (by simp only [Str.length_append]; omega) s300
    walk_at "go"
    intro l H1 hl e1
    have k1 := new_kp hl e1
    have a1 := new_at e1
    have hu3 := k1.tup _ _ hu2
    refine ⟨l, _, rfl, .inl (SqL.of a1), rfl, rfl, _, rfl, ?_⟩
    refine iteF ?_
    have q := q H1 k1
    walk_at "go"
    exact q
  | stop c =>
    obtain ⟨u, z1, z2, rfl, hu2, tz1, tz2⟩ := tr_tup2 hT
    cases tr_str tz1
    cases tr_str tz2
    simp only [Sm.line, Str.length_append] at len
    have y1 : ("stop" : Str).length + (" " : Str).length ≤ sizeLine := Nat.le_trans (by omega) s300
    have y2 : ("stop" ++ " " : Str).length + c.length ≤ sizeLine := Nat.le_trans (by simp only [Str.length_append]; omega) s300
    walk_at "go"
    intro l H1 hl e1
    have k1 := new_kp hl e1
    have a1 := new_at e1
    have hu3 := k1.tup _ _ hu2
    refine ⟨l, _, rfl, .inl (SqL.of a1), rfl, rfl, _, rfl, ?_⟩
    refine iteF ?_
    have q := q H1 k1
    walk_at "go"
    exact q
  | ite t y n =>
    obtain ⟨u, z1, z2, z3, z4, rfl, hu2, tz1, tz2, tz3, tz4⟩ := tr_tup4 hT
    cases tr_str tz1
    obtain ⟨ot, nt, oy, on⟩ := ok
    have nt8 : t.nots ≤ 1000 := by omega
    simp only [Sm.line, Str.length_append] at len
    have y1 : ("if " : Str).length + t.txt.length ≤ sizeLine := Nat.le_trans (by omega) s300
    walk_at "go"
    intro l H1 hl e1
    have k1 := new_kp hl e1
    have a1 := new_at e1
    have hu3 := k1.tup _ _ hu2
    refine ⟨l, _, rfl, .inl (SqL.of a1), rfl, rfl, _, rfl, ?_⟩
    refine iteF ?_
    have tz2 := k1.tr tz2
    walk_at "go"
    intro H2 k2
    have q := q H2 (k1.trans k2)
    walk_at "go"
    exact q
  | rep k b =>
    obtain ⟨u, z1, z2, z3, rfl, hu2, tz1, tz2, tz3⟩ := tr_tup3 hT
    cases tr_str tz1
    cases tr_int tz2
    have lg := log_small (i := (k : Int)) (by have := ok.1; omega)
    simp only [Sm.line, Str.length_append] at len
    have y1 : ("repeat" : Str).length + (" " : Str).length ≤ sizeLine := Nat.le_trans (by omega) s300
    have y2 : ("repeat" ++ " " : Str).length + (iTxt (k : Int)).length ≤ sizeLine := Nat.le_trans (by simp only [Str.length_append]; omega) s300
    walk_at "go"
    intro l H1 hl e1
    have k1 := new_kp hl e1
    have a1 := new_at e1
    have hu3 := k1.tup _ _ hu2
    refine ⟨l, _, rfl, .inl (SqL.of a1), rfl, rfl, _, rfl, ?_⟩
    refine iteF ?_
    have q := q H1 k1
    walk_at "go"
    exact q
end
section
variable {P : Program} {w : World} {K : PySem.W.Frag} {mg : Str → Option Value} {base : Heap}
theorem ok_part_lines (T : Top K mg) {N k : Nat} (G_block_lines : FnOk P w K mg base CX0 k T.block_lines.f T.block_lines.fd ["block", "ahead"] (spLns N)) : FnOk P w K mg base CX0 (k + 1) T.part_lines.f T.part_lines.fd ["block", "ahead"] (spPartL N) := by
  refine T.part_lines.F.ok sc_part_lines (fun vs H Q E h => ?_) (fun cdv A outer s H vs Q E hr h => ?_)
  · obtain ⟨v, a, b, rfl, _⟩ := h
    rfl
  obtain ⟨v, a, b, rfl, hT, ok, nb, pb, la, q⟩ := h
  have hu := hu_of hr
  refine ⟨_, (pss_one (ps_ret (pe_ifExp (pt_cmpR (op_neNilT hu) (pv 0) (pe_tupA pa_nil) (nomark _)) (pe_call G_block_lines (hr.mono (by omega)) (by rfl) T.block_lines.g T.block_lines.F.kp T.block_lines.b .nil pass0 (pa_cons (pv 0) (pa_cons (pv 1) pa_nil))) (pe_lstA (pa_cons (pe_op op_add_str (pv 1) pe_str) pa_nil))))), ?_⟩
  have hT0 := hT
  obtain ⟨ta, vs, rfl, hta, tvs⟩ := tr_tup hT
  rw [Sm.ds_map] at tvs
  have lv : vs.length = b.length := by rw [tvs.length, List.length_map]
  have y1 : a.length + ("pass" : Str).length ≤ sizeLine := Nat.le_trans (by have : ("pass" : Str).length = 4 := by decide +kernel
                                                                            omega) s300
  walk_at "go"
  intro p H1 hp e1
  have k1 := new_kp hp e1
  have hta1 := k1.tup _ _ hta
  have a1 := new_at e1
  have hT1 := k1.tr hT0
  walk_at "go"
  refine ite2 (fun hc => ?_) (fun hc => ?_)
  · have nb0 : b ≠ [] := fun z => by
      rw [z] at lv
      rw [List.length_eq_zero_iff.mp lv] at hc
      cases hc
    have e : partL a b = Sm.lnss a b := if_neg nb0
    rw [e] at q
    walk_at "go"
    intro l H2 hl fl k2
    exact q l H2 (k1.free hl (by simp)) fl (k1.trans k2)
  · have nb0 : b = [] := by
      cases vs with
      | nil => exact List.length_eq_zero_iff.mp lv.symm
      | cons x r => exact absurd rfl hc
    have e : partL a b = [a ++ "pass"] := if_pos nb0
    rw [e] at q
    walk_at "go"
    intro l H2 hl e2
    exact q l H2 (k1.free hl (by simp)) (new_at e2) (k1.trans (new_kp hl e2))
theorem ok_block_lines (T : Top K mg) (DS : SgOk K w T.SIGNS) : ∀ N : Nat, FnOk P w K mg base CX0 (2 * N + 14) T.block_lines.f T.block_lines.fd ["block", "ahead"] (spLns N)
  | N => by
    have G_line_text : FnOk P w K mg base CX0 12 T.line_text.f T.line_text.fd ["statement"] spLine := ok_line_text T DS
    have G_block_lines : FnOk P w K mg base CX0 (2 * N + 12) T.block_lines.f T.block_lines.fd ["block", "ahead"] (sp0L spLns N) := by
      cases N with
      | zero => exact fn_no (fun _ _ _ _ ⟨_, e, _⟩ => nomatch e)
      | succ m => exact (ok_block_lines T DS m).imp fun _ _ _ _ ⟨N', e, h⟩ => (Nat.succ.inj e) ▸ h
    have G_part_lines : FnOk P w K mg base CX0 (2 * N + 13) T.part_lines.f T.part_lines.fd ["block", "ahead"] (sp0L spPartL N) := by
      cases N with
      | zero => exact fn_no (fun _ _ _ _ ⟨_, e, _⟩ => nomatch e)
      | succ m => exact (ok_part_lines T (ok_block_lines T DS m)).imp fun _ _ _ _ ⟨N', e, h⟩ => (Nat.succ.inj e) ▸ h
    refine T.block_lines.F.ok sc_block_lines (fun vs H Q E h => ?_) (fun cdv A outer s H vs Q E hr h => ?_)
    · obtain ⟨v, a, b, rfl, _⟩ := h
      rfl
    obtain ⟨v, a, b, rfl, hT, ok, nb, pb, la, q⟩ := h
    have hu := hu_of hr
    refine ⟨_, (pss_cons (ps_set (i := 2) sc_block_lines.nd rfl (.inl rfl) (pe_lstA pa_nil))
      (pss_cons (ps_forA (ps_for PassesOwn.never rfl (pi_tupK (K := K) rfl (pv 0)) (pg_name (i := 3) sc_block_lines.nd rfl (.inl rfl)) (pss_cons (ps_expr (pe_bmK (K := K) rfl PySem.F.plainAttrs_list PySem.F.slot_list_append PySem.F.type_list_append mt_appendA (pv 2) (pa_cons (pe_op op_add_str (pv 1) (pe_call G_line_text (hr.mono (by omega)) (by rfl) T.line_text.g T.line_text.F.kp T.line_text.b .nil pass0 (pa_cons (pv 3) pa_nil))) pa_nil)))
      (pss_cons (ps_if (pt_cmpR (op_in_seqK (K := K) rfl) (pe_ix (ix_tupK (K := K) rfl) (pv 3) pe_int (fun _ _ => rfl)) (pe_tupA (pa_cons pe_str (pa_cons pe_str pa_nil))) (by rfl)) (pss_one (ps_expr (pe_bmK (K := K) rfl PySem.F.plainAttrs_list PySem.F.slot_list_extend PySem.F.type_list_extend mt_extendA (pv 2) (pa_cons (pe_call G_part_lines (hr.mono (by omega)) (by rfl) T.part_lines.g T.part_lines.F.kp T.part_lines.b .nil pass0 (pa_cons (pe_ix (ix_tupK (K := K) rfl) (pv 3) pe_int (fun _ _ => rfl)) (pa_cons (pe_op op_add_str (pv 1) (pe_glob (v := .str "  ") (by rfl) T.g_STEP ⟨_, rfl⟩)) pa_nil))) pa_nil)))) pss_nil)
      (pss_one (ps_if (PW.pt (pw_and (pt_cmpR op_eq (pe_ix (ix_tupK (K := K) rfl) (pv 3) pe_int (fun _ _ => rfl)) pe_str (nomark _)) (pw_and1 (pt_cmpR (op_neNilT hu) (pe_ix (ix_tupK (K := K) rfl) (pv 3) pe_int (fun _ _ => rfl)) (pe_tupA pa_nil) (nomark _))))) (pss_cons (ps_expr (pe_bmK (K := K) rfl PySem.F.plainAttrs_list PySem.F.slot_list_append PySem.F.type_list_append mt_appendA (pv 2) (pa_cons (pe_op op_add_str (pv 1) pe_str) pa_nil)))
      (pss_one (ps_expr (pe_bmK (K := K) rfl PySem.F.plainAttrs_list PySem.F.slot_list_extend PySem.F.type_list_extend mt_extendA (pv 2) (pa_cons (pe_call G_block_lines (hr.mono (by omega)) (by rfl) T.block_lines.g T.block_lines.F.kp T.block_lines.b .nil pass0 (pa_cons (pe_ix (ix_tupK (K := K) rfl) (pv 3) pe_int (fun _ _ => rfl)) (pa_cons (pe_op op_add_str (pv 1) (pe_glob (v := .str "  ") (by rfl) T.g_STEP ⟨_, rfl⟩)) pa_nil))) pa_nil))))) pss_nil))))))
      (pss_one (ps_ret (pv 2))))), ?_⟩
    obtain ⟨ta, vs, rfl, hta, tvs⟩ := tr_tup hT
    rw [Sm.ds_map] at tvs
    have lv : vs.length = b.length := by rw [tvs.length, List.length_map]
    have lb : b.length ≤ 1000 := Nat.le_trans (Sm.len_pls b) pb
    walk_at "go"
    intro fl H1 hfl e1
    have k1 := new_kp hfl e1
    have hta1 := k1.tup _ _ hta
    have sq1 : SqT K H1 ta vs := SqT.of hta1
    walk_at "go"
    refine ⟨for_tup (K := K) (a := ta) (xs := vs) (fun i σ X => Lp (∃ (w3 : Option V), σ = [some (.ref ta), some (.str a), some (.ref fl), w3] ∧ X fl = some (.lst ((Sm.lnss a (b.take i)).map V.str)) ∧ Kp [fl] H1 X)) ⟨none, rfl, new_at e1, Kp.refl⟩ (fun i σ X _ x => ?_) ?_ ?_⟩
    · obtain ⟨⟨w3, _, _, kx⟩⟩ := x
      exact SqT.of (kx.tup _ _ hta1)
    · rintro i x σ X hx ⟨⟨w3, rfl, f3, kx⟩⟩
      have kx0 : Kp [] H X := k1.step1 kx (.inr hfl)
      have hi : i < b.length := by
        obtain ⟨h, _⟩ := List.getElem?_eq_some_iff.mp hx
        omega
      have hb : b[i]? = some b[i] := List.getElem?_eq_getElem hi
      have hmem : b[i] ∈ b := List.getElem_mem hi
      obtain ⟨x', hx', tx⟩ := tvs.get (i := i) (d := (b[i]).d) (by rw [List.getElem?_map, hb]; rfl)
      rw [hx] at hx'
      cases hx'
      have oks := Sm.oks_mem ok hmem
      generalize b[i] = st at hb hmem tx oks
      have tx3 := kx0.tr tx
      have nst := Sm.nest_mem hmem
      have pst := Sm.pl_mem hmem
      have ll := Sm.line_len oks
      have y1 : a.length + st.line.length ≤ sizeLine := Nat.le_trans (by omega) s300
      have etk : Sm.lnss a (b.take (i + 1)) = Sm.lnss a (b.take i) ++ Sm.lns a st := by
        rw [List.take_add_one, hb, lnss_app]
        show _ ++ Sm.lnss a [st] = _
        rw [lnss_one]
      have lfs : (Sm.lnss a (b.take i)).length ≤ 3000 := by
        have h1 := Sm.lnss_len a (b.take i)
        have h2 := Sm.pls_take b i
        omega
      generalize Sm.lnss a (b.take i) = fs at f3 etk lfs
      have z1 : (fs.map V.str).length < sizeLine := sz_lt (by rw [List.length_map]; omega)
      have fin : ∀ (more : List Str) (w3 : Option V), Sm.lns a st = (a ++ st.line) :: more → ∀ Y : Hp, Y fl = some (.lst (fs.map V.str ++ [V.str (a ++ st.line)] ++ more.map V.str)) → Kp [fl] X Y → Y fl = some (.lst ((Sm.lnss a (b.take (i + 1))).map V.str)) ∧ Kp [fl] H1 Y := fun more w3 e Y h k => by
        refine ⟨?_, kx.trans k⟩
        rw [etk, e, h, List.map_append, List.map_cons, List.append_assoc]
        rfl
      cases st with
      | set x e =>
        obtain ⟨u, z1, z2, z3, rfl, hu2, tz1, tz2, tz3⟩ := tr_tup3 tx3
        cases tr_str tz1
        walk_at "go"
        intro X4 f4 k4
        have hu4 := k4.tup _ _ hu2
        walk_at "go"
        intro u5 X5 hu5 e5
        have k5 := new_kp hu5 e5
        have hu6 := k5.tup _ _ hu4
        refine ⟨u5, _, rfl, .inr (SqT.of (new_at e5)), rfl, rfl, _, rfl, ?_⟩
        refine iteF ?_
        walk_at "go"
        have ff := fin [] none (by simp only [Sm.lns]) X5 (by rw [k5.at f4, List.map_nil, List.append_nil]) (k4.step0 k5)
        exact ⟨_, rfl, ff.1, ff.2⟩
      | half x e =>
        obtain ⟨u, z1, z2, z3, rfl, hu2, tz1, tz2, tz3⟩ := tr_tup3 tx3
        cases tr_str tz1
        walk_at "go"
        intro X4 f4 k4
        have hu4 := k4.tup _ _ hu2
        walk_at "go"
        intro u5 X5 hu5 e5
        have k5 := new_kp hu5 e5
        have hu6 := k5.tup _ _ hu4
        refine ⟨u5, _, rfl, .inr (SqT.of (new_at e5)), rfl, rfl, _, rfl, ?_⟩
        refine iteF ?_
        walk_at "go"
        have ff := fin [] none (by simp only [Sm.lns]) X5 (by rw [k5.at f4, List.map_nil, List.append_nil]) (k4.step0 k5)
        exact ⟨_, rfl, ff.1, ff.2⟩
      | tell e =>
        obtain ⟨u, z1, z2, rfl, hu2, tz1, tz2⟩ := tr_tup2 tx3
        cases tr_str tz1
        walk_at "go"
        intro X4 f4 k4
        have hu4 := k4.tup _ _ hu2
        walk_at "go"
        intro u5 X5 hu5 e5
        have k5 := new_kp hu5 e5
        have hu6 := k5.tup _ _ hu4
        refine ⟨u5, _, rfl, .inr (SqT.of (new_at e5)), rfl, rfl, _, rfl, ?_⟩
        refine iteF ?_
        walk_at "go"
        have ff := fin [] none (by simp only [Sm.lns]) X5 (by rw [k5.at f4, List.map_nil, List.append_nil]) (k4.step0 k5)
        exact ⟨_, rfl, ff.1, ff.2⟩
      | say c =>
        obtain ⟨u, z1, z2, rfl, hu2, tz1, tz2⟩ := tr_tup2 tx3
        cases tr_str tz1
        walk_at "go"
        intro X4 f4 k4
        have hu4 := k4.tup _ _ hu2
        walk_at "go"
        intro u5 X5 hu5 e5
        have k5 := new_kp hu5 e5
        have hu6 := k5.tup _ _ hu4
        refine ⟨u5, _, rfl, .inr (SqT.of (new_at e5)), rfl, rfl, _, rfl, ?_⟩
        refine iteF ?_
        walk_at "go"
        have ff := fin [] none (by simp only [Sm.lns]) X5 (by rw [k5.at f4, List.map_nil, List.append_nil]) (k4.step0 k5)
        exact ⟨_, rfl, ff.1, ff.2⟩
      | stop c =>
        obtain ⟨u, z1, z2, rfl, hu2, tz1, tz2⟩ := tr_tup2 tx3
        cases tr_str tz1
        walk_at "go"
        intro X4 f4 k4
        have hu4 := k4.tup _ _ hu2
        walk_at "go"
        intro u5 X5 hu5 e5
        have k5 := new_kp hu5 e5
        have hu6 := k5.tup _ _ hu4
        refine ⟨u5, _, rfl, .inr (SqT.of (new_at e5)), rfl, rfl, _, rfl, ?_⟩
        refine iteF ?_
        walk_at "go"
        have ff := fin [] none (by simp only [Sm.lns]) X5 (by rw [k5.at f4, List.map_nil, List.append_nil]) (k4.step0 k5)
        exact ⟨_, rfl, ff.1, ff.2⟩
      | ite t yy nn =>
        obtain ⟨u, z1, z2, z3, z4, rfl, hu2, tz1, tz2, tz3, tz4⟩ := tr_tup4 tx3
        cases tr_str tz1
        have oks2 := oks
        obtain ⟨ot, nt, oy, on⟩ := oks2
        simp only [Sm.nest] at nst
        simp only [Sm.pl] at pst
        obtain ⟨N', hNe⟩ : ∃ N', N = N' + 1 := ⟨N - 1, by omega⟩
        have ny : Sm.nests yy ≤ N' := by omega
        have nn' : Sm.nests nn ≤ N' := by omega
        have py : Sm.pls yy ≤ 1000 := by omega
        have pn : Sm.pls nn ≤ 1000 := by omega
        have y2 : a.length + ("  " : Str).length ≤ sizeLine := Nat.le_trans (by rw [two_len]; omega) s300
        have y3 : a.length + ("else" : Str).length ≤ sizeLine := Nat.le_trans (by rw [else_len]; omega) s300
        have la2 : (a ++ "  ").length + 2 * N' ≤ 1000 := by rw [Str.length_append, two_len]; omega
        have py2 := partL_len (Sm.lnss_len (a ++ "  ") yy)
        have pn2 := Sm.lnss_len (a ++ "  ") nn
        obtain ⟨tn, ns, rfl, htn, tns⟩ := tr_tup tz4
        have lns : ns.length = nn.length := by rw [Sm.ds_map] at tns; rw [tns.length, List.length_map]
        walk_at "go"
        intro X4 f4 k4
        have hu4 := k4.tup _ _ hu2
        walk_at "go"
        intro u5 X5 hu5 e5
        have k5 := new_kp hu5 e5
        have hu6 := k5.tup _ _ hu4
        refine ⟨u5, _, rfl, .inr (SqT.of (new_at e5)), rfl, rfl, _, rfl, ?_⟩
        refine iteT ?_
        have tz36 := k5.tr (k4.tr tz3)
        have f5 := k5.at f4
        walk_at "go"
        intro l6 H6 hl6 fl6 k6
        have f6 := k6.at f5
        have z6 : (fs.map V.str ++ [V.str (a ++ (Sm.ite t yy nn).line)]).length + ((partL (a ++ "  ") yy).map V.str).length ≤ sizeLine := Nat.le_of_lt (sz_lt (by simp only [List.length_append, List.length_map, List.length_singleton]; omega))
        walk_at "go"
        intro X7 f7 k7
        have K7 : Kp [fl] X X7 := ((k4.step0 k5).step0 k6).trans k7
        have hu7 := K7.tup _ _ hu2
        have htn7 := K7.tup _ _ htn
        have tz47 := K7.tr tz4
        walk_at "go"
        intro p8 H8 hp8 e8
        have k8 := new_kp hp8 e8
        have a8 := new_at e8
        have hu8 := k8.tup _ _ hu7
        have htn8 := k8.tup _ _ htn7
        have tz48 := k8.tr tz47
        have f8 := k8.at f7
        walk_at "go"
        refine ite2 (fun hc => ?_) (fun hc => ?_)
        · have n0 : nn ≠ [] := fun z => by
            rw [z] at lns
            rw [List.length_eq_zero_iff.mp lns] at hc
            cases hc
          have z8 : (fs.map V.str ++ [V.str (a ++ (Sm.ite t yy nn).line)] ++ (partL (a ++ "  ") yy).map V.str).length < sizeLine := sz_lt (by simp only [List.length_append, List.length_map, List.length_singleton]; omega)
          walk_at "go"
          intro X9 f9 k9
          have tz49 := k9.tr tz48
          have hu9 := k9.tup _ _ hu8
          walk_at "go"
          intro l10 H10 hl10 fl10 k10
          have f10 := k10.at f9
          have z10 : (fs.map V.str ++ [V.str (a ++ (Sm.ite t yy nn).line)] ++ (partL (a ++ "  ") yy).map V.str ++ [V.str (a ++ "else")]).length + ((Sm.lnss (a ++ "  ") nn).map V.str).length ≤ sizeLine := Nat.le_of_lt (sz_lt (by simp only [List.length_append, List.length_map, List.length_singleton]; omega))
          walk_at "go"
          intro X11 f11 k11
          have ff := fin (partL (a ++ "  ") yy ++ (a ++ "else") :: Sm.lnss (a ++ "  ") nn) none (by rw [lns_ite, if_neg n0]) X11 (by rw [f11, List.map_append, List.map_cons]; simp only [List.append_assoc, List.cons_append, List.nil_append]) ((((K7.step0 k8).trans k9).step0 k10).trans k11)
          exact ⟨_, rfl, ff.1, ff.2⟩
        · have n0 : nn = [] := by
            cases ns with
            | nil => exact List.length_eq_zero_iff.mp lns.symm
            | cons x r => exact absurd rfl hc
          have ff := fin (partL (a ++ "  ") yy) none (by rw [lns_ite, if_pos n0, List.append_nil]) H8 f8 (K7.step0 k8)
          walk_at "go"
          exact ⟨_, rfl, ff.1, ff.2⟩
      | rep k bb =>
        obtain ⟨u, z1, z2, z3, rfl, hu2, tz1, tz2, tz3⟩ := tr_tup3 tx3
        cases tr_str tz1
        have oks2 := oks
        obtain ⟨ok8, oy⟩ := oks2
        simp only [Sm.nest] at nst
        simp only [Sm.pl] at pst
        obtain ⟨N', hNe⟩ : ∃ N', N = N' + 1 := ⟨N - 1, by omega⟩
        have ny : Sm.nests bb ≤ N' := by omega
        have py : Sm.pls bb ≤ 1000 := by omega
        have y2 : a.length + ("  " : Str).length ≤ sizeLine := Nat.le_trans (by rw [two_len]; omega) s300
        have la2 : (a ++ "  ").length + 2 * N' ≤ 1000 := by rw [Str.length_append, two_len]; omega
        have py2 := partL_len (Sm.lnss_len (a ++ "  ") bb)
        walk_at "go"
        intro X4 f4 k4
        have hu4 := k4.tup _ _ hu2
        walk_at "go"
        intro u5 X5 hu5 e5
        have k5 := new_kp hu5 e5
        have hu6 := k5.tup _ _ hu4
        refine ⟨u5, _, rfl, .inr (SqT.of (new_at e5)), rfl, rfl, _, rfl, ?_⟩
        refine iteT ?_
        have tz36 := k5.tr (k4.tr tz3)
        have f5 := k5.at f4
        walk_at "go"
        intro l6 H6 hl6 fl6 k6
        have f6 := k6.at f5
        have z6 : (fs.map V.str ++ [V.str (a ++ (Sm.rep k bb).line)]).length + ((partL (a ++ "  ") bb).map V.str).length ≤ sizeLine := Nat.le_of_lt (sz_lt (by simp only [List.length_append, List.length_map, List.length_singleton]; omega))
        walk_at "go"
        intro X7 f7 k7
        have K7 : Kp [fl] X X7 := ((k4.step0 k5).step0 k6).trans k7
        have hu7 := K7.tup _ _ hu2
        have ff := fin (partL (a ++ "  ") bb) none (by rw [lns_rep]) X7 f7 K7
        walk_at "go"
        exact ⟨_, rfl, ff.1, ff.2⟩
    · rintro σ X ⟨⟨w3, rfl, f3, kx⟩⟩
      have kx0 : Kp [] H X := k1.step1 kx (.inr hfl)
      rw [List.take_of_length_le (by omega)] at f3
      walk_at "go"
      exact q fl X hfl f3 kx0
end
section
variable {P : Program} {w : World} {K : PySem.W.Frag} {mg : Str → Option Value} {base : Heap}
theorem ok_l_lines (T : Top K mg) : ∀ N : Nat, FnOk P w K mg base CX0 (N + 14) T.l_lines.f T.l_lines.fd ["_law_block_here", "_law_ahead"] (spLns N)
  | N => by
    have G_l_line : FnOk P w K mg base CX0 12 T.l_line.f T.l_line.fd ["_law_statement_here"] spLineL := ok_l_line T
    have G_l_lines : FnOk P w K mg base CX0 (N + 13) T.l_lines.f T.l_lines.fd ["_law_block_here", "_law_ahead"] (sp0L spLns N) := by
      cases N with
      | zero => exact fn_no (fun _ _ _ _ ⟨_, e, _⟩ => nomatch e)
      | succ m => exact (ok_l_lines T m).imp fun _ _ _ _ ⟨N', e, h⟩ => (Nat.succ.inj e) ▸ h
    refine T.l_lines.F.ok sc_l_lines (fun vs H Q E h => ?_) (fun cdv A outer s H vs Q E hr h => ?_)
    · obtain ⟨v, a, b, rfl, _⟩ := h
      rfl
    obtain ⟨v, a, b, rfl, hT, ok, nb, pb, la, q⟩ := h
    have hu := hu_of hr
    refine ⟨_, (pss_cons (ps_set (i := 2) sc_l_lines.nd rfl (.inl rfl) (pe_lstA pa_nil))
      (pss_cons (ps_forA (ps_for PassesOwn.never rfl (pi_tupK (K := K) rfl (pv 0)) (pg_name (i := 3) sc_l_lines.nd rfl (.inl rfl)) (pss_cons (ps_expr (pe_bmK (K := K) rfl PySem.F.plainAttrs_list PySem.F.slot_list_append PySem.F.type_list_append mt_appendA (pv 2) (pa_cons (pe_op op_add_str (pv 1) (pe_call G_l_line (hr.mono (by omega)) (by rfl) T.l_line.g T.l_line.F.kp T.l_line.b .nil pass0 (pa_cons (pv 3) pa_nil))) pa_nil)))
      (pss_cons (ps_if (pt_cmpR (op_in_seqK (K := K) rfl) (pe_ix (ix_tupK (K := K) rfl) (pv 3) pe_int (fun _ _ => rfl)) (pe_lstA (pa_cons pe_str (pa_cons pe_str pa_nil))) (by rfl)) (pss_one (ps_expr (pe_bmK (K := K) rfl PySem.F.plainAttrs_list PySem.F.slot_list_extend PySem.F.type_list_extend mt_extendA (pv 2) (pa_cons (pe_ifExp (pt_cmpR (op_neNilT hu) (pe_ix (ix_tupK (K := K) rfl) (pv 3) pe_int (fun _ _ => rfl)) (pe_tupA pa_nil) (nomark _)) (pe_call G_l_lines (hr.mono (by omega)) (by rfl) T.l_lines.g T.l_lines.F.kp T.l_lines.b .nil pass0 (pa_cons (pe_ix (ix_tupK (K := K) rfl) (pv 3) pe_int (fun _ _ => rfl)) (pa_cons (pe_op op_add_str (pv 1) pe_str) pa_nil))) (pe_lstA (pa_cons (pe_op op_add_str (pv 1) pe_str) pa_nil))) pa_nil)))) pss_nil)
      (pss_one (ps_if (PW.pt (pw_and (pt_cmpR op_eq (pe_ix (ix_tupK (K := K) rfl) (pv 3) pe_int (fun _ _ => rfl)) pe_str (nomark _)) (pw_and1 (pt_cmpR (op_neNilT hu) (pe_ix (ix_tupK (K := K) rfl) (pv 3) pe_int (fun _ _ => rfl)) (pe_tupA pa_nil) (nomark _))))) (pss_cons (ps_expr (pe_bmK (K := K) rfl PySem.F.plainAttrs_list PySem.F.slot_list_append PySem.F.type_list_append mt_appendA (pv 2) (pa_cons (pe_op op_add_str (pv 1) pe_str) pa_nil)))
      (pss_one (ps_expr (pe_bmK (K := K) rfl PySem.F.plainAttrs_list PySem.F.slot_list_extend PySem.F.type_list_extend mt_extendA (pv 2) (pa_cons (pe_call G_l_lines (hr.mono (by omega)) (by rfl) T.l_lines.g T.l_lines.F.kp T.l_lines.b .nil pass0 (pa_cons (pe_ix (ix_tupK (K := K) rfl) (pv 3) pe_int (fun _ _ => rfl)) (pa_cons (pe_op op_add_str (pv 1) pe_str) pa_nil))) pa_nil))))) pss_nil))))))
      (pss_one (ps_ret (pv 2))))), ?_⟩
    obtain ⟨ta, vs, rfl, hta, tvs⟩ := tr_tup hT
    rw [Sm.ds_map] at tvs
    have lv : vs.length = b.length := by rw [tvs.length, List.length_map]
    have lb : b.length ≤ 1000 := Nat.le_trans (Sm.len_pls b) pb
    walk_at "go"
    intro fl H1 hfl e1
    have k1 := new_kp hfl e1
    have hta1 := k1.tup _ _ hta
    have sq1 : SqT K H1 ta vs := SqT.of hta1
    walk_at "go"
    refine ⟨for_tup (K := K) (a := ta) (xs := vs) (fun i σ X => Lp (∃ (w3 : Option V), σ = [some (.ref ta), some (.str a), some (.ref fl), w3] ∧ X fl = some (.lst ((Sm.lnss a (b.take i)).map V.str)) ∧ Kp [fl] H1 X)) ⟨none, rfl, new_at e1, Kp.refl⟩ (fun i σ X _ x => ?_) ?_ ?_⟩
    · obtain ⟨⟨w3, _, _, kx⟩⟩ := x
      exact SqT.of (kx.tup _ _ hta1)
    · rintro i x σ X hx ⟨⟨w3, rfl, f3, kx⟩⟩
      have kx0 : Kp [] H X := k1.step1 kx (.inr hfl)
      have hi : i < b.length := by
        obtain ⟨h, _⟩ := List.getElem?_eq_some_iff.mp hx
        omega
      have hb : b[i]? = some b[i] := List.getElem?_eq_getElem hi
      have hmem : b[i] ∈ b := List.getElem_mem hi
      obtain ⟨x', hx', tx⟩ := tvs.get (i := i) (d := (b[i]).d) (by rw [List.getElem?_map, hb]; rfl)
      rw [hx] at hx'
      cases hx'
      have oks := Sm.oks_mem ok hmem
      generalize b[i] = st at hb hmem tx oks
      have tx3 := kx0.tr tx
      have nst := Sm.nest_mem hmem
      have pst := Sm.pl_mem hmem
      have ll := Sm.line_len oks
      have y1 : a.length + st.line.length ≤ sizeLine := Nat.le_trans (by omega) s300
      have etk : Sm.lnss a (b.take (i + 1)) = Sm.lnss a (b.take i) ++ Sm.lns a st := by
        rw [List.take_add_one, hb, lnss_app]
        show _ ++ Sm.lnss a [st] = _
        rw [lnss_one]
      have lfs : (Sm.lnss a (b.take i)).length ≤ 3000 := by
        have h1 := Sm.lnss_len a (b.take i)
        have h2 := Sm.pls_take b i
        omega
      generalize Sm.lnss a (b.take i) = fs at f3 etk lfs
      have z1 : (fs.map V.str).length < sizeLine := sz_lt (by rw [List.length_map]; omega)
      have fin : ∀ (more : List Str) (w3 : Option V), Sm.lns a st = (a ++ st.line) :: more → ∀ Y : Hp, Y fl = some (.lst (fs.map V.str ++ [V.str (a ++ st.line)] ++ more.map V.str)) → Kp [fl] X Y → Y fl = some (.lst ((Sm.lnss a (b.take (i + 1))).map V.str)) ∧ Kp [fl] H1 Y := fun more w3 e Y h k => by
        refine ⟨?_, kx.trans k⟩
        rw [etk, e, h, List.map_append, List.map_cons, List.append_assoc]
        rfl
      cases st with
      | set x e =>
        obtain ⟨u, z1, z2, z3, rfl, hu2, tz1, tz2, tz3⟩ := tr_tup3 tx3
        cases tr_str tz1
        walk_at "go"
        intro X3 k3
        have f33 := k3.at f3
        walk_at "go"
        intro X4 f4 k34
        have k4 : Kp [fl] X X4 := (k3.sub (by simp)).trans k34
        have hu4 := k4.tup _ _ hu2
        walk_at "go"
        intro u5 X5 hu5 e5
        have k5 := new_kp hu5 e5
        have hu6 := k5.tup _ _ hu4
        refine ⟨u5, _, rfl, .inl (SqL.of (new_at e5)), rfl, rfl, _, rfl, ?_⟩
        refine iteF ?_
        walk_at "go"
        have ff := fin [] none (by simp only [Sm.lns]) X5 (by rw [k5.at f4, List.map_nil, List.append_nil]) (k4.step0 k5)
        exact ⟨_, rfl, ff.1, ff.2⟩
      | half x e =>
        obtain ⟨u, z1, z2, z3, rfl, hu2, tz1, tz2, tz3⟩ := tr_tup3 tx3
        cases tr_str tz1
        walk_at "go"
        intro X3 k3
        have f33 := k3.at f3
        walk_at "go"
        intro X4 f4 k34
        have k4 : Kp [fl] X X4 := (k3.sub (by simp)).trans k34
        have hu4 := k4.tup _ _ hu2
        walk_at "go"
        intro u5 X5 hu5 e5
        have k5 := new_kp hu5 e5
        have hu6 := k5.tup _ _ hu4
        refine ⟨u5, _, rfl, .inl (SqL.of (new_at e5)), rfl, rfl, _, rfl, ?_⟩
        refine iteF ?_
        walk_at "go"
        have ff := fin [] none (by simp only [Sm.lns]) X5 (by rw [k5.at f4, List.map_nil, List.append_nil]) (k4.step0 k5)
        exact ⟨_, rfl, ff.1, ff.2⟩
      | tell e =>
        obtain ⟨u, z1, z2, rfl, hu2, tz1, tz2⟩ := tr_tup2 tx3
        cases tr_str tz1
        walk_at "go"
        intro X3 k3
        have f33 := k3.at f3
        walk_at "go"
        intro X4 f4 k34
        have k4 : Kp [fl] X X4 := (k3.sub (by simp)).trans k34
        have hu4 := k4.tup _ _ hu2
        walk_at "go"
        intro u5 X5 hu5 e5
        have k5 := new_kp hu5 e5
        have hu6 := k5.tup _ _ hu4
        refine ⟨u5, _, rfl, .inl (SqL.of (new_at e5)), rfl, rfl, _, rfl, ?_⟩
        refine iteF ?_
        walk_at "go"
        have ff := fin [] none (by simp only [Sm.lns]) X5 (by rw [k5.at f4, List.map_nil, List.append_nil]) (k4.step0 k5)
        exact ⟨_, rfl, ff.1, ff.2⟩
      | say c =>
        obtain ⟨u, z1, z2, rfl, hu2, tz1, tz2⟩ := tr_tup2 tx3
        cases tr_str tz1
        walk_at "go"
        intro X3 k3
        have f33 := k3.at f3
        walk_at "go"
        intro X4 f4 k34
        have k4 : Kp [fl] X X4 := (k3.sub (by simp)).trans k34
        have hu4 := k4.tup _ _ hu2
        walk_at "go"
        intro u5 X5 hu5 e5
        have k5 := new_kp hu5 e5
        have hu6 := k5.tup _ _ hu4
        refine ⟨u5, _, rfl, .inl (SqL.of (new_at e5)), rfl, rfl, _, rfl, ?_⟩
        refine iteF ?_
        walk_at "go"
        have ff := fin [] none (by simp only [Sm.lns]) X5 (by rw [k5.at f4, List.map_nil, List.append_nil]) (k4.step0 k5)
        exact ⟨_, rfl, ff.1, ff.2⟩
      | stop c =>
        obtain ⟨u, z1, z2, rfl, hu2, tz1, tz2⟩ := tr_tup2 tx3
        cases tr_str tz1
        walk_at "go"
        intro X3 k3
        have f33 := k3.at f3
        walk_at "go"
        intro X4 f4 k34
        have k4 : Kp [fl] X X4 := (k3.sub (by simp)).trans k34
        have hu4 := k4.tup _ _ hu2
        walk_at "go"
        intro u5 X5 hu5 e5
        have k5 := new_kp hu5 e5
        have hu6 := k5.tup _ _ hu4
        refine ⟨u5, _, rfl, .inl (SqL.of (new_at e5)), rfl, rfl, _, rfl, ?_⟩
        refine iteF ?_
        walk_at "go"
        have ff := fin [] none (by simp only [Sm.lns]) X5 (by rw [k5.at f4, List.map_nil, List.append_nil]) (k4.step0 k5)
        exact ⟨_, rfl, ff.1, ff.2⟩
      | ite t yy nn =>
        obtain ⟨u, z1, z2, z3, z4, rfl, hu2, tz1, tz2, tz3, tz4⟩ := tr_tup4 tx3
        cases tr_str tz1
        have oks2 := oks
        obtain ⟨ot, nt, oy, on⟩ := oks2
        simp only [Sm.nest] at nst
        simp only [Sm.pl] at pst
        obtain ⟨N', hNe⟩ : ∃ N', N = N' + 1 := ⟨N - 1, by omega⟩
        have ny : Sm.nests yy ≤ N' := by omega
        have nn' : Sm.nests nn ≤ N' := by omega
        have py : Sm.pls yy ≤ 1000 := by omega
        have pn : Sm.pls nn ≤ 1000 := by omega
        have y2 : a.length + ("  " : Str).length ≤ sizeLine := Nat.le_trans (by rw [two_len]; omega) s300
        have y3 : a.length + ("else" : Str).length ≤ sizeLine := Nat.le_trans (by rw [else_len]; omega) s300
        have la2 : (a ++ "  ").length + 2 * N' ≤ 1000 := by rw [Str.length_append, two_len]; omega
        have py2 := partL_len (Sm.lnss_len (a ++ "  ") yy)
        have pn2 := Sm.lnss_len (a ++ "  ") nn
        obtain ⟨tn, ns, rfl, htn, tns⟩ := tr_tup tz4
        have lns : ns.length = nn.length := by rw [Sm.ds_map] at tns; rw [tns.length, List.length_map]
        obtain ⟨ty, ys, rfl, hty, tys⟩ := tr_tup tz3
        have lys : ys.length = yy.length := by rw [Sm.ds_map] at tys; rw [tys.length, List.length_map]
        have y4 : a.length + ("  pass" : Str).length ≤ sizeLine := Nat.le_trans (by rw [six_len]; omega) s300
        have epass : (a ++ "  pass" : Str) = a ++ "  " ++ "pass" := by
          rw [Str.append_assoc]
          rfl
        walk_at "go"
        intro X3 k3
        have f33 := k3.at f3
        walk_at "go"
        intro X4 f4 k34
        have k4 : Kp [fl] X X4 := (k3.sub (by simp)).trans k34
        have hu4 := k4.tup _ _ hu2
        walk_at "go"
        intro u5 X5 hu5 e5
        have k5 := new_kp hu5 e5
        have hu6 := k5.tup _ _ hu4
        refine ⟨u5, _, rfl, .inl (SqL.of (new_at e5)), rfl, rfl, _, rfl, ?_⟩
        refine iteT ?_
        have tz36 := k5.tr (k4.tr tz3)
        have f5 := k5.at f4
        have hty6 := k5.tup _ _ (k4.tup _ _ hty)
        walk_at "go"
        intro pq Hq hpq eq
        have kq := new_kp hpq eq
        have aq := new_at eq
        have htyq := kq.tup _ _ hty6
        have huq := kq.tup _ _ hu6
        have tzq := kq.tr tz36
        have fq := kq.at f5
        walk_at "go"
        refine ite2 (fun hc0 => ?_) (fun hc0 => ?_)
        · walk_at "go"
          intro l6 H6 hl6 fl06 k06
          have n00 : yy ≠ [] := fun z => by
            rw [z] at lys
            rw [List.length_eq_zero_iff.mp lys] at hc0
            cases hc0
          have ep : partL (a ++ "  ") yy = Sm.lnss (a ++ "  ") yy := if_neg n00
          have fl6 : H6 l6 = some (.lst ((partL (a ++ "  ") yy).map V.str)) := by rw [ep]; exact fl06
          have k6 : Kp [] X5 H6 := kq.trans k06
          have f6 := k6.at f5
          have z6 : (fs.map V.str ++ [V.str (a ++ (Sm.ite t yy nn).line)]).length + ((partL (a ++ "  ") yy).map V.str).length ≤ sizeLine := Nat.le_of_lt (sz_lt (by simp only [List.length_append, List.length_map, List.length_singleton]; omega))
          walk_at "go"
          intro X7 f7 k7
          have K7 : Kp [fl] X X7 := ((k4.step0 k5).step0 k6).trans k7
          have hu7 := K7.tup _ _ hu2
          have htn7 := K7.tup _ _ htn
          have tz47 := K7.tr tz4
          walk_at "go"
          intro p8 H8 hp8 e8
          have k8 := new_kp hp8 e8
          have a8 := new_at e8
          have hu8 := k8.tup _ _ hu7
          have htn8 := k8.tup _ _ htn7
          have tz48 := k8.tr tz47
          have f8 := k8.at f7
          walk_at "go"
          refine ite2 (fun hc => ?_) (fun hc => ?_)
          · have n0 : nn ≠ [] := fun z => by
              rw [z] at lns
              rw [List.length_eq_zero_iff.mp lns] at hc
              cases hc
            have z8 : (fs.map V.str ++ [V.str (a ++ (Sm.ite t yy nn).line)] ++ (partL (a ++ "  ") yy).map V.str).length < sizeLine := sz_lt (by simp only [List.length_append, List.length_map, List.length_singleton]; omega)
            walk_at "go"
            intro X9 f9 k9
            have tz49 := k9.tr tz48
            have hu9 := k9.tup _ _ hu8
            walk_at "go"
            intro l10 H10 hl10 fl10 k10
            have f10 := k10.at f9
            have z10 : (fs.map V.str ++ [V.str (a ++ (Sm.ite t yy nn).line)] ++ (partL (a ++ "  ") yy).map V.str ++ [V.str (a ++ "else")]).length + ((Sm.lnss (a ++ "  ") nn).map V.str).length ≤ sizeLine := Nat.le_of_lt (sz_lt (by simp only [List.length_append, List.length_map, List.length_singleton]; omega))
            walk_at "go"
            intro X11 f11 k11
            have ff := fin (partL (a ++ "  ") yy ++ (a ++ "else") :: Sm.lnss (a ++ "  ") nn) none (by rw [lns_ite, if_neg n0]) X11 (by rw [f11, List.map_append, List.map_cons]; simp only [List.append_assoc, List.cons_append, List.nil_append]) ((((K7.step0 k8).trans k9).step0 k10).trans k11)
            exact ⟨_, rfl, ff.1, ff.2⟩
          · have n0 : nn = [] := by
              cases ns with
              | nil => exact List.length_eq_zero_iff.mp lns.symm
              | cons x r => exact absurd rfl hc
            have ff := fin (partL (a ++ "  ") yy) none (by rw [lns_ite, if_pos n0, List.append_nil]) H8 f8 (K7.step0 k8)
            walk_at "go"
            exact ⟨_, rfl, ff.1, ff.2⟩
        · have n00 : yy = [] := by
            cases ys with
            | nil => exact List.length_eq_zero_iff.mp lys.symm
            | cons x r => exact absurd rfl hc0
          walk_at "go"
          intro l6 H6 hl6 e06
          have ep : partL (a ++ "  ") yy = [a ++ "  " ++ "pass"] := if_pos n00
          have fl6 : H6 l6 = some (.lst ((partL (a ++ "  ") yy).map V.str)) := by rw [ep, ← epass]; exact new_at e06
          have k6 : Kp [] X5 H6 := kq.trans (new_kp hl6 e06)
          have f6 := k6.at f5
          have z6 : (fs.map V.str ++ [V.str (a ++ (Sm.ite t yy nn).line)]).length + ((partL (a ++ "  ") yy).map V.str).length ≤ sizeLine := Nat.le_of_lt (sz_lt (by simp only [List.length_append, List.length_map, List.length_singleton]; omega))
          walk_at "go"
          intro X7 f7 k7
          have K7 : Kp [fl] X X7 := ((k4.step0 k5).step0 k6).trans k7
          have hu7 := K7.tup _ _ hu2
          have htn7 := K7.tup _ _ htn
          have tz47 := K7.tr tz4
          walk_at "go"
          intro p8 H8 hp8 e8
          have k8 := new_kp hp8 e8
          have a8 := new_at e8
          have hu8 := k8.tup _ _ hu7
          have htn8 := k8.tup _ _ htn7
          have tz48 := k8.tr tz47
          have f8 := k8.at f7
          walk_at "go"
          refine ite2 (fun hc => ?_) (fun hc => ?_)
          · have n0 : nn ≠ [] := fun z => by
              rw [z] at lns
              rw [List.length_eq_zero_iff.mp lns] at hc
              cases hc
            have z8 : (fs.map V.str ++ [V.str (a ++ (Sm.ite t yy nn).line)] ++ (partL (a ++ "  ") yy).map V.str).length < sizeLine := sz_lt (by simp only [List.length_append, List.length_map, List.length_singleton]; omega)
            walk_at "go"
            intro X9 f9 k9
            have tz49 := k9.tr tz48
            have hu9 := k9.tup _ _ hu8
            walk_at "go"
            intro l10 H10 hl10 fl10 k10
            have f10 := k10.at f9
            have z10 : (fs.map V.str ++ [V.str (a ++ (Sm.ite t yy nn).line)] ++ (partL (a ++ "  ") yy).map V.str ++ [V.str (a ++ "else")]).length + ((Sm.lnss (a ++ "  ") nn).map V.str).length ≤ sizeLine := Nat.le_of_lt (sz_lt (by simp only [List.length_append, List.length_map, List.length_singleton]; omega))
            walk_at "go"
            intro X11 f11 k11
            have ff := fin (partL (a ++ "  ") yy ++ (a ++ "else") :: Sm.lnss (a ++ "  ") nn) none (by rw [lns_ite, if_neg n0]) X11 (by rw [f11, List.map_append, List.map_cons]; simp only [List.append_assoc, List.cons_append, List.nil_append]) ((((K7.step0 k8).trans k9).step0 k10).trans k11)
            exact ⟨_, rfl, ff.1, ff.2⟩
          · have n0 : nn = [] := by
              cases ns with
              | nil => exact List.length_eq_zero_iff.mp lns.symm
              | cons x r => exact absurd rfl hc
            have ff := fin (partL (a ++ "  ") yy) none (by rw [lns_ite, if_pos n0, List.append_nil]) H8 f8 (K7.step0 k8)
            walk_at "go"
            exact ⟨_, rfl, ff.1, ff.2⟩
      | rep k bb =>
        obtain ⟨u, z1, z2, z3, rfl, hu2, tz1, tz2, tz3⟩ := tr_tup3 tx3
        cases tr_str tz1
        have oks2 := oks
        obtain ⟨ok8, oy⟩ := oks2
        simp only [Sm.nest] at nst
        simp only [Sm.pl] at pst
        obtain ⟨N', hNe⟩ : ∃ N', N = N' + 1 := ⟨N - 1, by omega⟩
        have ny : Sm.nests bb ≤ N' := by omega
        have py : Sm.pls bb ≤ 1000 := by omega
        have y2 : a.length + ("  " : Str).length ≤ sizeLine := Nat.le_trans (by rw [two_len]; omega) s300
        have la2 : (a ++ "  ").length + 2 * N' ≤ 1000 := by rw [Str.length_append, two_len]; omega
        have py2 := partL_len (Sm.lnss_len (a ++ "  ") bb)
        obtain ⟨ty, ys, rfl, hty, tys⟩ := tr_tup tz3
        have lys : ys.length = bb.length := by rw [Sm.ds_map] at tys; rw [tys.length, List.length_map]
        have y4 : a.length + ("  pass" : Str).length ≤ sizeLine := Nat.le_trans (by rw [six_len]; omega) s300
        have epass : (a ++ "  pass" : Str) = a ++ "  " ++ "pass" := by
          rw [Str.append_assoc]
          rfl
        walk_at "go"
        intro X3 k3
        have f33 := k3.at f3
        walk_at "go"
        intro X4 f4 k34
        have k4 : Kp [fl] X X4 := (k3.sub (by simp)).trans k34
        have hu4 := k4.tup _ _ hu2
        walk_at "go"
        intro u5 X5 hu5 e5
        have k5 := new_kp hu5 e5
        have hu6 := k5.tup _ _ hu4
        refine ⟨u5, _, rfl, .inl (SqL.of (new_at e5)), rfl, rfl, _, rfl, ?_⟩
        refine iteT ?_
        have tz36 := k5.tr (k4.tr tz3)
        have f5 := k5.at f4
        have hty6 := k5.tup _ _ (k4.tup _ _ hty)
        walk_at "go"
        intro pq Hq hpq eq
        have kq := new_kp hpq eq
        have aq := new_at eq
        have htyq := kq.tup _ _ hty6
        have huq := kq.tup _ _ hu6
        have tzq := kq.tr tz36
        have fq := kq.at f5
        walk_at "go"
        refine ite2 (fun hc0 => ?_) (fun hc0 => ?_)
        · walk_at "go"
          intro l6 H6 hl6 fl06 k06
          have n00 : bb ≠ [] := fun z => by
            rw [z] at lys
            rw [List.length_eq_zero_iff.mp lys] at hc0
            cases hc0
          have ep : partL (a ++ "  ") bb = Sm.lnss (a ++ "  ") bb := if_neg n00
          have fl6 : H6 l6 = some (.lst ((partL (a ++ "  ") bb).map V.str)) := by rw [ep]; exact fl06
          have k6 : Kp [] X5 H6 := kq.trans k06
          have f6 := k6.at f5
          have z6 : (fs.map V.str ++ [V.str (a ++ (Sm.rep k bb).line)]).length + ((partL (a ++ "  ") bb).map V.str).length ≤ sizeLine := Nat.le_of_lt (sz_lt (by simp only [List.length_append, List.length_map, List.length_singleton]; omega))
          walk_at "go"
          intro X7 f7 k7
          have K7 : Kp [fl] X X7 := ((k4.step0 k5).step0 k6).trans k7
          have hu7 := K7.tup _ _ hu2
          have ff := fin (partL (a ++ "  ") bb) none (by rw [lns_rep]) X7 f7 K7
          walk_at "go"
          exact ⟨_, rfl, ff.1, ff.2⟩
        · have n00 : bb = [] := by
            cases ys with
            | nil => exact List.length_eq_zero_iff.mp lys.symm
            | cons x r => exact absurd rfl hc0
          walk_at "go"
          intro l6 H6 hl6 e06
          have ep : partL (a ++ "  ") bb = [a ++ "  " ++ "pass"] := if_pos n00
          have fl6 : H6 l6 = some (.lst ((partL (a ++ "  ") bb).map V.str)) := by rw [ep, ← epass]; exact new_at e06
          have k6 : Kp [] X5 H6 := kq.trans (new_kp hl6 e06)
          have f6 := k6.at f5
          have z6 : (fs.map V.str ++ [V.str (a ++ (Sm.rep k bb).line)]).length + ((partL (a ++ "  ") bb).map V.str).length ≤ sizeLine := Nat.le_of_lt (sz_lt (by simp only [List.length_append, List.length_map, List.length_singleton]; omega))
          walk_at "go"
          intro X7 f7 k7
          have K7 : Kp [fl] X X7 := ((k4.step0 k5).step0 k6).trans k7
          have hu7 := K7.tup _ _ hu2
          have ff := fin (partL (a ++ "  ") bb) none (by rw [lns_rep]) X7 f7 K7
          walk_at "go"
          exact ⟨_, rfl, ff.1, ff.2⟩
    · rintro σ X ⟨⟨w3, rfl, f3, kx⟩⟩
      have kx0 : Kp [] H X := k1.step1 kx (.inr hfl)
      rw [List.take_of_length_le (by omega)] at f3
      walk_at "go"
      exact q fl X hfl f3 kx0
end
section
variable {P : Program} {w : World} {K : PySem.W.Frag} {mg : Str → Option Value} {base : Heap}
theorem ok_l_program01 (T : Top K mg) : FnOk P w K mg base CX0 20 T.l_program.f T.l_program.fd ["_law_deck_here", "_law_names_here", "_law_most"] spProg01 := by
  have G_l_block : FnOk P w K mg base CX0 19 T.l_block.f T.l_block.fd ["_law_deck_here", "_law_names_here", "_law_depth", "_law_times", "_law_left"] (spBlock01 4) := ok_l_block01 T 4
  have c4 : cB01 4 ≤ 3000000 := by decide
  have c40 : 0 ≤ cB01 4 := by decide
  refine T.l_program.F.ok sc_l_program (fun vs H Q E h => ?_) (fun cdv A outer s H vs Q E hr h => ?_)
  · obtain ⟨a, c, nm, m, most, ns, rfl, _⟩ := h
    rfl
  obtain ⟨a, c, nm, m, most, ns, rfl, ⟨h0, h24⟩, D, hm, hN, q⟩ := h
  refine ⟨_, (pss_one (ps_ret (pe_call G_l_block (hr.mono (by omega)) (by rfl) T.l_block.g T.l_block.F.kp T.l_block.b .nil pass0 (pa_cons (pv 0) (pa_cons (pv 1) (pa_cons pe_int (pa_cons pe_int (pa_cons (pe_lstA (pa_cons (pv 2) (pa_cons pe_int (pa_cons pe_int (pa_cons pe_int pa_nil))))) pa_nil)))))))), ?_⟩
  walk_at "go"
  intro lf H1 hlf e1
  have k1 := new_kp hlf e1
  have g1 : Gs01 H1 a c nm lf m ns most := ⟨D.kp0 k1, hN.kp (k1.sub (by simp)), ⟨60, 4, 3, new_at e1⟩, D.off hlf⟩
  have hd : (0 : Int) + ((4 : Nat) : Int) = 4 := by decide
  have h04 : 1 ≤ 4 := by decide
  have hmm : m + cB01 4 ≤ 500000000 := by omega
  walk_at "go"
  intro v b H2 m2 l2 Tv ob xb nb pb hl2 ml2 mu2 g2 k2
  exact q v b H2 m2 Tv ⟨ob, xb, by omega, by omega⟩ ml2 mu2 g2.dk
theorem ok_program_text (T : Top K mg) (DS : SgOk K w T.SIGNS) : FnOk P w K mg base CX0 23 T.program_text.f T.program_text.fd ["program"] spPText := by
  have G_block_lines : FnOk P w K mg base CX0 22 T.block_lines.f T.block_lines.fd ["block", "ahead"] (spLns 4) := ok_block_lines T DS 4
  refine T.program_text.F.ok sc_program_text (fun vs H Q E h => ?_) (fun cdv A outer s H vs Q E hr h => ?_)
  · obtain ⟨v, b, rfl, _⟩ := h
    rfl
  obtain ⟨v, b, rfl, hT, pt, q⟩ := h
  refine ⟨_, (pss_one (ps_ret (pe_joinA pe_str (pe_op op_catL (pe_lstA (pa_cons (pe_glob (v := .str "program") (by rfl) T.g_HEAD ⟨_, rfl⟩) pa_nil)) (pe_call G_block_lines (hr.mono (by omega)) (by rfl) T.block_lines.g T.block_lines.F.kp T.block_lines.b .nil pass0 (pa_cons (pv 0) (pa_cons pe_str pa_nil))))))), ?_⟩
  have ok := pt.ok
  have nb : Sm.nests b ≤ 4 := by have := pt.nest; omega
  have pb : Sm.pls b ≤ 1000 := by have := pt.pl; omega
  have la : ("" : Str).length + 2 * 4 ≤ 1000 := by decide +kernel
  have ln := pt.len
  walk_at "go"
  refine ⟨⟨_, rfl⟩, ?_⟩
  walk_at "go"
  intro l1 H1 hl1 e1
  have k1 := new_kp hl1 e1
  have a1 := new_at e1
  have hT1 := k1.tr hT
  walk_at "go"
  intro l2 H2 hl2 fl2 k2
  have a2 := k2.at a1
  have zz : [V.str "program"].length + ((Sm.lnss "" b).map V.str).length ≤ sizeLine := Nat.le_of_lt (sz_lt (by simp only [List.length_cons, List.length_map, List.length_nil] at ln ⊢; omega))
  walk_at "go"
  intro l3 H3 hl3 f3 k3
  have q := q H3 ((k1.trans k2).trans k3)
  exact ⟨_, l3, "program" :: Sm.lnss "" b, rfl, rfl, f3, pt.sum, q⟩
end
section
variable {P : Program} {w : World} {K : PySem.W.Frag} {mg : Str → Option Value} {base : Heap}
theorem ok_law (T : Top K mg) (DS : SgOk K w T.SIGNS) : FnG P w K mg base CX0 33 T.law.f T.law.fd ["_law_script"] (spLaw K) := by
  have G_l_deck := ok_l_deck (P := P) (w := w) (base := base) (k := 0) T
  have G_l_draw : FnOk P w K mg base CX0 1 T.l_draw.f T.l_draw.fd ["_law_deck_here", "_law_many"] spDraw := ok_l_draw T
  have G_l_names : FnOk P w K mg base CX0 4 T.l_names.f T.l_names.fd ["_law_deck_here", "_law_many"] spNames01 := ok_l_names01 T
  have G_l_program : FnOk P w K mg base CX0 20 T.l_program.f T.l_program.fd ["_law_deck_here", "_law_names_here", "_law_most"] spProg01 := ok_l_program01 T
  have G_program_text : FnOk P w K mg base CX0 23 T.program_text.f T.program_text.fd ["program"] spPText := ok_program_text T DS
  have G_l_lines : FnOk P w K mg base CX0 18 T.l_lines.f T.l_lines.fd ["_law_block_here", "_law_ahead"] (spLns 4) := ok_l_lines T 4
  have c4 : cB01 4 ≤ 3000000 := by decide
  refine Fun.okG T.law.F sc_law (fun vs H Q E h => ?_) (fun cdv A outer s H vs Q E fr hr h => ?_)
  · obtain ⟨a, ns, rfl, _⟩ := h
    rfl
  obtain ⟨sa, ns, rfl, hS, hl, q⟩ := h
  have hu := hu_of hr
  have hu64 := hr.units
  refine ⟨_, (pss_cons (ps_set (i := 1) sc_law.nd rfl (.inl rfl) (pe_call G_l_deck (hr.mono (by omega)) (by rfl) T.l_deck.g T.l_deck.F.kp T.l_deck.b .nil pass0 (pa_cons (pv 0) pa_nil)))
      (pss_cons (ps_forA (ps_for PassesOwn.never rfl (pi_range1 (by rfl) T.range (pa_cons pe_int pa_nil)) (pg_name (i := 2) sc_law.nd rfl (.inl rfl)) (pss_cons (ps_set (i := 3) sc_law.nd rfl (.inl rfl) (pe_call G_l_program (hr.mono (by omega)) (by rfl) T.l_program.g T.l_program.F.kp T.l_program.b .nil pass0 (pa_cons (pv 1) (pa_cons (pe_call G_l_names (hr.mono (by omega)) (by rfl) T.l_names.g T.l_names.F.kp T.l_names.b .nil pass0 (pa_cons (pv 1) (pa_cons (pe_op op_add pe_int (pe_call G_l_draw (hr.mono (by omega)) (by rfl) T.l_draw.g T.l_draw.F.kp T.l_draw.b .nil pass0 (pa_cons (pv 1) (pa_cons pe_int pa_nil)))) pa_nil))) (pa_cons pe_int pa_nil)))))
      (pss_cons (ps_set (i := 4) sc_law.nd rfl (.inl rfl) (pe_joinA pe_str (pe_op op_catL (pe_lstA (pa_cons pe_str pa_nil)) (pe_call G_l_lines (hr.mono (by omega)) (by rfl) T.l_lines.g T.l_lines.F.kp T.l_lines.b .nil pass0 (pa_cons (pv 3) (pa_cons pe_str pa_nil))))))
      (pss_one (ps_if (pt_cmpR op_ne (pe_callB (id := "repr") (call_reprLs fr hu64) (by rfl) T.repr (by decide +kernel) (pa_cons (pe_lstA (pa_cons (pe_call G_program_text (hr.mono (by omega)) (by rfl) T.program_text.g T.program_text.F.kp T.program_text.b .nil pass0 (pa_cons (pv 3) pa_nil)) (pa_cons (pe_call G_program_text (hr.mono (by omega)) (by rfl) T.program_text.g T.program_text.F.kp T.program_text.b .nil pass0 (pa_cons (pv 3) pa_nil)) pa_nil))) pa_nil)) (pe_callB (id := "repr") (call_reprLs fr hu64) (by rfl) T.repr (by decide +kernel) (pa_cons (pe_lstA (pa_cons (pv 4) (pa_cons (pv 4) pa_nil))) pa_nil)) (nomark _)) (pss_one (ps_ret pe_bl)) pss_nil))))))
      (pss_one (ps_ret (pe_cmpR op_eq (pe_call G_program_text (hr.mono (by omega)) (by rfl) T.program_text.g T.program_text.F.kp T.program_text.b .nil pass0 (pa_cons (pe_tupA pa_nil) pa_nil)) pe_str (nomark _)))))), ?_⟩
  walk_at "go"
  intro a c H1 ha hc k1 D1
  walk_at "go"
  refine ⟨for_range (lo := 0) (n := Int.toNat 6) (fun i σ H2 => Lp (∃ (w2 w3 w4 : Option V) (m : Int), σ = [some (.ref sa), some (.ref a), w2, w3, w4] ∧ 0 ≤ m ∧ m ≤ (i : Int) * 4000000 ∧ Deck H2 a c m)) ⟨_, _, _, 0, rfl, by omega, by omega, D1⟩ ?_ ?_⟩
  · rintro i σ H2 hi ⟨⟨w2, w3, w4, m, rfl, m0, mu, D2⟩⟩
    have hi6 : i < 6 := hi
    have hmM : m ≤ MANY := by show m ≤ 1000000000; omega
    walk_at "go"
    intro r H3 r0 r1 D3 k3
    have hk : 0 ≤ 1 + r ∧ 1 + r ≤ 5 := by omega
    have hm3 : m + 1 ≤ 600000000 := by omega
    walk_at "go"
    intro nm nms H4 m4 hN ml4 mu4 D4 k4
    have hm4 : m4 ≤ 400000000 := by omega
    have h24 : (0 : Int) ≤ 24 ∧ (24 : Int) ≤ 24 := by decide
    walk_at "go"
    intro v b H5 m5 t5 pt ml5 mu5 D5
    have ok := pt.ok
    have nb : Sm.nests b ≤ 4 := by have := pt.nest; omega
    have pb : Sm.pls b ≤ 1000 := by have := pt.pl; omega
    have la : ("" : Str).length + 2 * 4 ≤ 1000 := by decide +kernel
    have ln := pt.len
    walk_at "go"
    refine ⟨⟨_, rfl⟩, ?_⟩
    walk_at "go"
    intro l1 H6 hl1 e6
    have k6 := new_kp hl1 e6
    have a6 := new_at e6
    have t6 := k6.tr t5
    walk_at "go"
    intro l2 H7 hl2 fl2 k7
    have a7 := k7.at a6
    have zz : [V.str "program"].length + ((Sm.lnss "" b).map V.str).length ≤ sizeLine := Nat.le_of_lt (sz_lt (by simp only [List.length_cons, List.length_map, List.length_nil] at ln ⊢; omega))
    walk_at "go"
    intro l3 H8 hl3 f8 k8
    have t8 := k8.tr (k7.tr t6)
    have D8 := ((D5.kp0 k6).kp0 k7).kp0 k8
    refine ⟨_, l3, "program" :: Sm.lnss "" b, rfl, rfl, f8, pt.sum, ?_⟩
    have eT : Txt.join "\n" ("program" :: Sm.lnss "" b) = pText b := rfl
    rw [eT]
    walk_at "go"
    intro H9 k9
    have t9 := k9.tr t8
    walk_at "go"
    intro H10 k10
    walk_at "go"
    intro p11 H11 hp11 e11
    have k11 := new_kp hp11 e11
    have a11 := new_at e11
    have sh := shw_two pt.text
    have td : TrAll H11 [PyData.str (pText b), PyData.str (pText b)] [V.str (pText b), V.str (pText b)] := trs_cons mk_str (trs_cons mk_str trs_nil)
    walk_at "go"
    intro z1 hz1
    walk_at "go"
    intro p12 H12 hp12 e12
    have k12 := new_kp hp12 e12
    have a12 := new_at e12
    have td2 : TrAll H12 [PyData.str (pText b), PyData.str (pText b)] [V.str (pText b), V.str (pText b)] := trs_cons mk_str (trs_cons mk_str trs_nil)
    walk_at "go"
    intro z2 hz2
    cases hz1.trans hz2.symm
    refine ⟨rfl, _, rfl, ?_⟩
    rw [show (!decide (V.str z1 = V.str z1)) = false by simp]
    refine iteF ?_
    exact ⟨_, _, _, m5, rfl, by omega, by omega, (((D8.kp0 k9).kp0 k10).kp0 k11).kp0 k12⟩
  · rintro σ H2 ⟨⟨w2, w3, w4, m, rfl, m0, mu, D2⟩⟩
    walk_at "go"
    intro p H3 hp e3
    have tn : Tr H3 (.tuple (Sm.ds [])) (.ref p) := mk_tup (new_at e3) trs_nil
    have pn : PTx [] := ⟨trivial, trivial, by simp [Sm.nests], by simp [Sm.pls]⟩
    walk_at "go"
    intro H4 k4
    have q := q H4
    rw [pText_nil]
    walk_at "go"
    exact q
end
end EH
namespace EH
open PySem L2 PyProof.Rows
theorem all_mk {P : Program} {w : World} {K : PySem.W.Frag} {h : Heap} {mg : Str → Option Value} {fa : Addr} (X : K.In h) (G : h.Ns mainGlobals mg) (hfa : mg "law" = some (.ref fa))
    {f1 : Addr} {od1 an1 : Option Addr} {sl1 : Array (Option Value)} {oc1 kV1 dc1 pm1 cd1 ct1 : Value}
    {f2 : Addr} {od2 an2 : Option Addr} {sl2 : Array (Option Value)} {oc2 kV2 dc2 pm2 cd2 ct2 : Value}
    {f3 : Addr} {od3 an3 : Option Addr} {sl3 : Array (Option Value)} {oc3 kV3 dc3 pm3 cd3 ct3 : Value}
    {f4 : Addr} {od4 an4 : Option Addr} {sl4 : Array (Option Value)} {oc4 kV4 dc4 pm4 cd4 ct4 : Value}
    {f5 : Addr} {od5 an5 : Option Addr} {sl5 : Array (Option Value)} {oc5 kV5 dc5 pm5 cd5 ct5 : Value}
    {f6 : Addr} {od6 an6 : Option Addr} {sl6 : Array (Option Value)} {oc6 kV6 dc6 pm6 cd6 ct6 : Value}
    {f7 : Addr} {od7 an7 : Option Addr} {sl7 : Array (Option Value)} {oc7 kV7 dc7 pm7 cd7 ct7 : Value}
    {f8 : Addr} {od8 an8 : Option Addr} {sl8 : Array (Option Value)} {oc8 kV8 dc8 pm8 cd8 ct8 : Value}
    {f9 : Addr} {od9 an9 : Option Addr} {sl9 : Array (Option Value)} {oc9 kV9 dc9 pm9 cd9 ct9 : Value}
    {f10 : Addr} {od10 an10 : Option Addr} {sl10 : Array (Option Value)} {oc10 kV10 dc10 pm10 cd10 ct10 : Value}
    {f11 : Addr} {od11 an11 : Option Addr} {sl11 : Array (Option Value)} {oc11 kV11 dc11 pm11 cd11 ct11 : Value}
    {f12 : Addr} {od12 an12 : Option Addr} {sl12 : Array (Option Value)} {oc12 kV12 dc12 pm12 cd12 ct12 : Value}
    {f13 : Addr} {od13 an13 : Option Addr} {sl13 : Array (Option Value)} {oc13 kV13 dc13 pm13 cd13 ct13 : Value}
    {f14 : Addr} {od14 an14 : Option Addr} {sl14 : Array (Option Value)} {oc14 kV14 dc14 pm14 cd14 ct14 : Value}
    {f15 : Addr} {od15 an15 : Option Addr} {sl15 : Array (Option Value)} {oc15 kV15 dc15 pm15 cd15 ct15 : Value}
    {f16 : Addr} {od16 an16 : Option Addr} {sl16 : Array (Option Value)} {oc16 kV16 dc16 pm16 cd16 ct16 : Value}
    {f17 : Addr} {od17 an17 : Option Addr} {sl17 : Array (Option Value)} {oc17 kV17 dc17 pm17 cd17 ct17 : Value}
    {f18 : Addr} {od18 an18 : Option Addr} {sl18 : Array (Option Value)} {oc18 kV18 dc18 pm18 cd18 ct18 : Value}
    {f19 : Addr} {od19 an19 : Option Addr} {sl19 : Array (Option Value)} {oc19 kV19 dc19 pm19 cd19 ct19 : Value}
    {f20 : Addr} {od20 an20 : Option Addr} {sl20 : Array (Option Value)} {oc20 kV20 dc20 pm20 cd20 ct20 : Value}
    {f21 : Addr} {od21 an21 : Option Addr} {sl21 : Array (Option Value)} {oc21 kV21 dc21 pm21 cd21 ct21 : Value}
    {t_HEAD : Tok}
    {t_STEP : Tok}
    {a_SIGNS : Addr} {es_SIGNS : Array DictEntry} {en_SIGNS : Nat}
    {tk_SIGNS_0 : Tok}
    {tk_SIGNS_1 : Tok}
    {tk_SIGNS_2 : Tok}
    (a1 : PySem.W.nsIn K mainGlobals "expression_text" = some (some (.ref f1)))
    (l1 : K.lookup f1 = some ⟨oc1, od1, .func (PySem.W.fnOf "expression_text" "expression_text" (defArgs s_expression_text) (defBody s_expression_text) (defScope s_expression_text) .none kV1 dc1 pm1 an1 cd1 ct1), sl1⟩)
    (c1 : PySem.W.codeIn K cd1 "expression_text" = true)
    (k1 : PySem.W.keepIn K (.ref f1) = true)
    (a2 : PySem.W.nsIn K mainGlobals "test_text" = some (some (.ref f2)))
    (l2 : K.lookup f2 = some ⟨oc2, od2, .func (PySem.W.fnOf "test_text" "test_text" (defArgs s_test_text) (defBody s_test_text) (defScope s_test_text) .none kV2 dc2 pm2 an2 cd2 ct2), sl2⟩)
    (c2 : PySem.W.codeIn K cd2 "test_text" = true)
    (k2 : PySem.W.keepIn K (.ref f2) = true)
    (a3 : PySem.W.nsIn K mainGlobals "line_text" = some (some (.ref f3)))
    (l3 : K.lookup f3 = some ⟨oc3, od3, .func (PySem.W.fnOf "line_text" "line_text" (defArgs s_line_text) (defBody s_line_text) (defScope s_line_text) .none kV3 dc3 pm3 an3 cd3 ct3), sl3⟩)
    (c3 : PySem.W.codeIn K cd3 "line_text" = true)
    (k3 : PySem.W.keepIn K (.ref f3) = true)
    (a4 : PySem.W.nsIn K mainGlobals "part_lines" = some (some (.ref f4)))
    (l4 : K.lookup f4 = some ⟨oc4, od4, .func (PySem.W.fnOf "part_lines" "part_lines" (defArgs s_part_lines) (defBody s_part_lines) (defScope s_part_lines) .none kV4 dc4 pm4 an4 cd4 ct4), sl4⟩)
    (c4 : PySem.W.codeIn K cd4 "part_lines" = true)
    (k4 : PySem.W.keepIn K (.ref f4) = true)
    (a5 : PySem.W.nsIn K mainGlobals "block_lines" = some (some (.ref f5)))
    (l5 : K.lookup f5 = some ⟨oc5, od5, .func (PySem.W.fnOf "block_lines" "block_lines" (defArgs s_block_lines) (defBody s_block_lines) (defScope s_block_lines) .none kV5 dc5 pm5 an5 cd5 ct5), sl5⟩)
    (c5 : PySem.W.codeIn K cd5 "block_lines" = true)
    (k5 : PySem.W.keepIn K (.ref f5) = true)
    (a6 : PySem.W.nsIn K mainGlobals "program_text" = some (some (.ref f6)))
    (l6 : K.lookup f6 = some ⟨oc6, od6, .func (PySem.W.fnOf "program_text" "program_text" (defArgs s_program_text) (defBody s_program_text) (defScope s_program_text) .none kV6 dc6 pm6 an6 cd6 ct6), sl6⟩)
    (c6 : PySem.W.codeIn K cd6 "program_text" = true)
    (k6 : PySem.W.keepIn K (.ref f6) = true)
    (a7 : PySem.W.nsIn K mainGlobals "_law_deck" = some (some (.ref f7)))
    (l7 : K.lookup f7 = some ⟨oc7, od7, .func (PySem.W.fnOf "_law_deck" "_law_deck" (defArgs s_l_deck) (defBody s_l_deck) (defScope s_l_deck) .none kV7 dc7 pm7 an7 cd7 ct7), sl7⟩)
    (c7 : PySem.W.codeIn K cd7 "_law_deck" = true)
    (k7 : PySem.W.keepIn K (.ref f7) = true)
    (a8 : PySem.W.nsIn K mainGlobals "_law_draw" = some (some (.ref f8)))
    (l8 : K.lookup f8 = some ⟨oc8, od8, .func (PySem.W.fnOf "_law_draw" "_law_draw" (defArgs s_l_draw) (defBody s_l_draw) (defScope s_l_draw) .none kV8 dc8 pm8 an8 cd8 ct8), sl8⟩)
    (c8 : PySem.W.codeIn K cd8 "_law_draw" = true)
    (k8 : PySem.W.keepIn K (.ref f8) = true)
    (a9 : PySem.W.nsIn K mainGlobals "_law_one" = some (some (.ref f9)))
    (l9 : K.lookup f9 = some ⟨oc9, od9, .func (PySem.W.fnOf "_law_one" "_law_one" (defArgs s_l_one) (defBody s_l_one) (defScope s_l_one) .none kV9 dc9 pm9 an9 cd9 ct9), sl9⟩)
    (c9 : PySem.W.codeIn K cd9 "_law_one" = true)
    (k9 : PySem.W.keepIn K (.ref f9) = true)
    (a10 : PySem.W.nsIn K mainGlobals "_law_expr" = some (some (.ref f10)))
    (l10 : K.lookup f10 = some ⟨oc10, od10, .func (PySem.W.fnOf "_law_expr" "_law_expr" (defArgs s_l_expr) (defBody s_l_expr) (defScope s_l_expr) .none kV10 dc10 pm10 an10 cd10 ct10), sl10⟩)
    (c10 : PySem.W.codeIn K cd10 "_law_expr" = true)
    (k10 : PySem.W.keepIn K (.ref f10) = true)
    (a11 : PySem.W.nsIn K mainGlobals "_law_test" = some (some (.ref f11)))
    (l11 : K.lookup f11 = some ⟨oc11, od11, .func (PySem.W.fnOf "_law_test" "_law_test" (defArgs s_l_test) (defBody s_l_test) (defScope s_l_test) .none kV11 dc11 pm11 an11 cd11 ct11), sl11⟩)
    (c11 : PySem.W.codeIn K cd11 "_law_test" = true)
    (k11 : PySem.W.keepIn K (.ref f11) = true)
    (a12 : PySem.W.nsIn K mainGlobals "_law_block" = some (some (.ref f12)))
    (l12 : K.lookup f12 = some ⟨oc12, od12, .func (PySem.W.fnOf "_law_block" "_law_block" (defArgs s_l_block) (defBody s_l_block) (defScope s_l_block) .none kV12 dc12 pm12 an12 cd12 ct12), sl12⟩)
    (c12 : PySem.W.codeIn K cd12 "_law_block" = true)
    (k12 : PySem.W.keepIn K (.ref f12) = true)
    (a13 : PySem.W.nsIn K mainGlobals "_law_if" = some (some (.ref f13)))
    (l13 : K.lookup f13 = some ⟨oc13, od13, .func (PySem.W.fnOf "_law_if" "_law_if" (defArgs s_l_if) (defBody s_l_if) (defScope s_l_if) .none kV13 dc13 pm13 an13 cd13 ct13), sl13⟩)
    (c13 : PySem.W.codeIn K cd13 "_law_if" = true)
    (k13 : PySem.W.keepIn K (.ref f13) = true)
    (a14 : PySem.W.nsIn K mainGlobals "_law_statement" = some (some (.ref f14)))
    (l14 : K.lookup f14 = some ⟨oc14, od14, .func (PySem.W.fnOf "_law_statement" "_law_statement" (defArgs s_l_statement) (defBody s_l_statement) (defScope s_l_statement) .none kV14 dc14 pm14 an14 cd14 ct14), sl14⟩)
    (c14 : PySem.W.codeIn K cd14 "_law_statement" = true)
    (k14 : PySem.W.keepIn K (.ref f14) = true)
    (a15 : PySem.W.nsIn K mainGlobals "_law_program" = some (some (.ref f15)))
    (l15 : K.lookup f15 = some ⟨oc15, od15, .func (PySem.W.fnOf "_law_program" "_law_program" (defArgs s_l_program) (defBody s_l_program) (defScope s_l_program) .none kV15 dc15 pm15 an15 cd15 ct15), sl15⟩)
    (c15 : PySem.W.codeIn K cd15 "_law_program" = true)
    (k15 : PySem.W.keepIn K (.ref f15) = true)
    (a16 : PySem.W.nsIn K mainGlobals "_law_names" = some (some (.ref f16)))
    (l16 : K.lookup f16 = some ⟨oc16, od16, .func (PySem.W.fnOf "_law_names" "_law_names" (defArgs s_l_names) (defBody s_l_names) (defScope s_l_names) .none kV16 dc16 pm16 an16 cd16 ct16), sl16⟩)
    (c16 : PySem.W.codeIn K cd16 "_law_names" = true)
    (k16 : PySem.W.keepIn K (.ref f16) = true)
    (a17 : PySem.W.nsIn K mainGlobals "_law_expr_text" = some (some (.ref f17)))
    (l17 : K.lookup f17 = some ⟨oc17, od17, .func (PySem.W.fnOf "_law_expr_text" "_law_expr_text" (defArgs s_l_expr_text) (defBody s_l_expr_text) (defScope s_l_expr_text) .none kV17 dc17 pm17 an17 cd17 ct17), sl17⟩)
    (c17 : PySem.W.codeIn K cd17 "_law_expr_text" = true)
    (k17 : PySem.W.keepIn K (.ref f17) = true)
    (a18 : PySem.W.nsIn K mainGlobals "_law_test_text" = some (some (.ref f18)))
    (l18 : K.lookup f18 = some ⟨oc18, od18, .func (PySem.W.fnOf "_law_test_text" "_law_test_text" (defArgs s_l_test_text) (defBody s_l_test_text) (defScope s_l_test_text) .none kV18 dc18 pm18 an18 cd18 ct18), sl18⟩)
    (c18 : PySem.W.codeIn K cd18 "_law_test_text" = true)
    (k18 : PySem.W.keepIn K (.ref f18) = true)
    (a19 : PySem.W.nsIn K mainGlobals "_law_line" = some (some (.ref f19)))
    (l19 : K.lookup f19 = some ⟨oc19, od19, .func (PySem.W.fnOf "_law_line" "_law_line" (defArgs s_l_line) (defBody s_l_line) (defScope s_l_line) .none kV19 dc19 pm19 an19 cd19 ct19), sl19⟩)
    (c19 : PySem.W.codeIn K cd19 "_law_line" = true)
    (k19 : PySem.W.keepIn K (.ref f19) = true)
    (a20 : PySem.W.nsIn K mainGlobals "_law_lines" = some (some (.ref f20)))
    (l20 : K.lookup f20 = some ⟨oc20, od20, .func (PySem.W.fnOf "_law_lines" "_law_lines" (defArgs s_l_lines) (defBody s_l_lines) (defScope s_l_lines) .none kV20 dc20 pm20 an20 cd20 ct20), sl20⟩)
    (c20 : PySem.W.codeIn K cd20 "_law_lines" = true)
    (k20 : PySem.W.keepIn K (.ref f20) = true)
    (a21 : PySem.W.nsIn K mainGlobals "law" = some (some (.ref f21)))
    (l21 : K.lookup f21 = some ⟨oc21, od21, .func (PySem.W.fnOf "law" "law" (defArgs s_law) (defBody s_law) (defScope s_law) .none kV21 dc21 pm21 an21 cd21 ct21), sl21⟩)
    (c21 : PySem.W.codeIn K cd21 "law" = true)
    (k21 : PySem.W.keepIn K (.ref f21) = true)
    (g_HEAD : PySem.W.nsIn K mainGlobals "HEAD" = some (some (.str "program" t_HEAD)))
    (g_STEP : PySem.W.nsIn K mainGlobals "STEP" = some (some (.str "  " t_STEP)))
    (g_SIGNS : PySem.W.nsIn K mainGlobals "SIGNS" = some (some (.ref a_SIGNS)))
    (lk_SIGNS : K.lookup a_SIGNS = some ⟨.type "dict", none, .dict es_SIGNS en_SIGNS, #[]⟩)
    (kl_SIGNS : PySem.W.KeysLit w.params es_SIGNS.toList)
    (n_SIGNS_0 : PySem.W.nsIn K a_SIGNS "plus" = some (some (.str " + " tk_SIGNS_0)))
    (n_SIGNS_1 : PySem.W.nsIn K a_SIGNS "minus" = some (some (.str " - " tk_SIGNS_1)))
    (n_SIGNS_2 : PySem.W.nsIn K a_SIGNS "times" = some (some (.str " * " tk_SIGNS_2)))
    (z_abs : PySem.W.nsIn K mainGlobals "abs" = some none)
    (z_int : PySem.W.nsIn K mainGlobals "int" = some none)
    (z_isinstance : PySem.W.nsIn K mainGlobals "isinstance" = some none)
    (z_len : PySem.W.nsIn K mainGlobals "len" = some none)
    (z_range : PySem.W.nsIn K mainGlobals "range" = some none)
    (z_repr : PySem.W.nsIn K mainGlobals "repr" = some none)
    (z_str : PySem.W.nsIn K mainGlobals "str" = some none)
    (z_tuple : PySem.W.nsIn K mainGlobals "tuple" = some none) :
    ∃ fd : FuncData, (∀ (s : Shared) (v : Value), BindsTo s fd ⟨[v], []⟩ [("_law_script", v)]) ∧ ∀ base : Heap, K.In base → base.Ns mainGlobals mg → FnG P w K mg base CX0 33 fa fd ["_law_script"] (spLaw K) := by
  have e := hfa.symm.trans (PySem.W.mg_of X G a21)
  cases e
  have F1 := fun_mk (st := s_expression_text) l1 c1 k1
  have b1 := F1.binds (ps := ["expression"]) fun _ _ _ _ _ _ us hl => match us, hl with | [_], _ => rfl
  have F2 := fun_mk (st := s_test_text) l2 c2 k2
  have b2 := F2.binds (ps := ["test"]) fun _ _ _ _ _ _ us hl => match us, hl with | [_], _ => rfl
  have F3 := fun_mk (st := s_line_text) l3 c3 k3
  have b3 := F3.binds (ps := ["statement"]) fun _ _ _ _ _ _ us hl => match us, hl with | [_], _ => rfl
  have F4 := fun_mk (st := s_part_lines) l4 c4 k4
  have b4 := F4.binds (ps := ["block", "ahead"]) fun _ _ _ _ _ _ us hl => match us, hl with | [_, _], _ => rfl
  have F5 := fun_mk (st := s_block_lines) l5 c5 k5
  have b5 := F5.binds (ps := ["block", "ahead"]) fun _ _ _ _ _ _ us hl => match us, hl with | [_, _], _ => rfl
  have F6 := fun_mk (st := s_program_text) l6 c6 k6
  have b6 := F6.binds (ps := ["program"]) fun _ _ _ _ _ _ us hl => match us, hl with | [_], _ => rfl
  have F7 := fun_mk (st := s_l_deck) l7 c7 k7
  have b7 := F7.binds (ps := ["_law_script"]) fun _ _ _ _ _ _ us hl => match us, hl with | [_], _ => rfl
  have F8 := fun_mk (st := s_l_draw) l8 c8 k8
  have b8 := F8.binds (ps := ["_law_deck_here", "_law_many"]) fun _ _ _ _ _ _ us hl => match us, hl with | [_, _], _ => rfl
  have F9 := fun_mk (st := s_l_one) l9 c9 k9
  have b9 := F9.binds (ps := ["_law_deck_here", "_law_items"]) fun _ _ _ _ _ _ us hl => match us, hl with | [_, _], _ => rfl
  have F10 := fun_mk (st := s_l_expr) l10 c10 k10
  have b10 := F10.binds (ps := ["_law_deck_here", "_law_names_here", "_law_deep"]) fun _ _ _ _ _ _ us hl => match us, hl with | [_, _, _], _ => rfl
  have F11 := fun_mk (st := s_l_test) l11 c11 k11
  have b11 := F11.binds (ps := ["_law_deck_here", "_law_names_here", "_law_is_odd"]) fun _ _ _ _ _ _ us hl => match us, hl with | [_, _, _], _ => rfl
  have F12 := fun_mk (st := s_l_block) l12 c12 k12
  have b12 := F12.binds (ps := ["_law_deck_here", "_law_names_here", "_law_depth", "_law_times", "_law_left"]) fun _ _ _ _ _ _ us hl => match us, hl with | [_, _, _, _, _], _ => rfl
  have F13 := fun_mk (st := s_l_if) l13 c13 k13
  have b13 := F13.binds (ps := ["_law_deck_here", "_law_names_here", "_law_depth", "_law_times", "_law_left", "_law_at"]) fun _ _ _ _ _ _ us hl => match us, hl with | [_, _, _, _, _, _], _ => rfl
  have F14 := fun_mk (st := s_l_statement) l14 c14 k14
  have b14 := F14.binds (ps := ["_law_deck_here", "_law_names_here", "_law_depth", "_law_times", "_law_left"]) fun _ _ _ _ _ _ us hl => match us, hl with | [_, _, _, _, _], _ => rfl
  have F15 := fun_mk (st := s_l_program) l15 c15 k15
  have b15 := F15.binds (ps := ["_law_deck_here", "_law_names_here", "_law_most"]) fun _ _ _ _ _ _ us hl => match us, hl with | [_, _, _], _ => rfl
  have F16 := fun_mk (st := s_l_names) l16 c16 k16
  have b16 := F16.binds (ps := ["_law_deck_here", "_law_many"]) fun _ _ _ _ _ _ us hl => match us, hl with | [_, _], _ => rfl
  have F17 := fun_mk (st := s_l_expr_text) l17 c17 k17
  have b17 := F17.binds (ps := ["_law_expr_here"]) fun _ _ _ _ _ _ us hl => match us, hl with | [_], _ => rfl
  have F18 := fun_mk (st := s_l_test_text) l18 c18 k18
  have b18 := F18.binds (ps := ["_law_test_here"]) fun _ _ _ _ _ _ us hl => match us, hl with | [_], _ => rfl
  have F19 := fun_mk (st := s_l_line) l19 c19 k19
  have b19 := F19.binds (ps := ["_law_statement_here"]) fun _ _ _ _ _ _ us hl => match us, hl with | [_], _ => rfl
  have F20 := fun_mk (st := s_l_lines) l20 c20 k20
  have b20 := F20.binds (ps := ["_law_block_here", "_law_ahead"]) fun _ _ _ _ _ _ us hl => match us, hl with | [_, _], _ => rfl
  have F21 := fun_mk (st := s_law) l21 c21 k21
  have b21 := F21.binds (ps := ["_law_script"]) fun _ _ _ _ _ _ us hl => match us, hl with | [_], _ => rfl
  refine ⟨PySem.W.fnOf "law" "law" (defArgs s_law) (defBody s_law) (defScope s_law) .none kV21 dc21 pm21 an21 cd21 ct21, fun s v => .of_eq rfl, fun base _ _ => ok_law (P := P) (w := w) (base := base) (T := { expression_text := ⟨_, _, F1, b1, PySem.W.mg_of X G a1⟩, test_text := ⟨_, _, F2, b2, PySem.W.mg_of X G a2⟩, line_text := ⟨_, _, F3, b3, PySem.W.mg_of X G a3⟩, part_lines := ⟨_, _, F4, b4, PySem.W.mg_of X G a4⟩, block_lines := ⟨_, _, F5, b5, PySem.W.mg_of X G a5⟩, program_text := ⟨_, _, F6, b6, PySem.W.mg_of X G a6⟩, l_deck := ⟨_, _, F7, b7, PySem.W.mg_of X G a7⟩, l_draw := ⟨_, _, F8, b8, PySem.W.mg_of X G a8⟩, l_one := ⟨_, _, F9, b9, PySem.W.mg_of X G a9⟩, l_expr := ⟨_, _, F10, b10, PySem.W.mg_of X G a10⟩, l_test := ⟨_, _, F11, b11, PySem.W.mg_of X G a11⟩, l_block := ⟨_, _, F12, b12, PySem.W.mg_of X G a12⟩, l_if := ⟨_, _, F13, b13, PySem.W.mg_of X G a13⟩, l_statement := ⟨_, _, F14, b14, PySem.W.mg_of X G a14⟩, l_program := ⟨_, _, F15, b15, PySem.W.mg_of X G a15⟩, l_names := ⟨_, _, F16, b16, PySem.W.mg_of X G a16⟩, l_expr_text := ⟨_, _, F17, b17, PySem.W.mg_of X G a17⟩, l_test_text := ⟨_, _, F18, b18, PySem.W.mg_of X G a18⟩, l_line := ⟨_, _, F19, b19, PySem.W.mg_of X G a19⟩, l_lines := ⟨_, _, F20, b20, PySem.W.mg_of X G a20⟩, law := ⟨_, _, F21, b21, PySem.W.mg_of X G a21⟩, t_HEAD := t_HEAD, g_HEAD := PySem.W.mg_of X G g_HEAD, t_STEP := t_STEP, g_STEP := PySem.W.mg_of X G g_STEP, SIGNS := a_SIGNS, g_SIGNS := PySem.W.mg_of X G g_SIGNS, abs := PySem.W.mg_none_of X G z_abs, int := PySem.W.mg_none_of X G z_int, isinstance := PySem.W.mg_none_of X G z_isinstance, len := PySem.W.mg_none_of X G z_len, range := PySem.W.mg_none_of X G z_range, repr := PySem.W.mg_none_of X G z_repr, str := PySem.W.mg_none_of X G z_str, tuple := PySem.W.mg_none_of X G z_tuple }) ⟨⟨_, _, _, lk_SIGNS, kl_SIGNS, n_SIGNS_0, ⟨_, rfl⟩⟩, ⟨_, _, _, lk_SIGNS, kl_SIGNS, n_SIGNS_1, ⟨_, rfl⟩⟩, ⟨_, _, _, lk_SIGNS, kl_SIGNS, n_SIGNS_2, ⟨_, rfl⟩⟩⟩⟩
end EH
open PySem PySem.W PyProof.Rows
set_option maxRecDepth 100000 in
set_option maxHeartbeats 0 in
theorem PySem.Challenge.cw_eitherhalf_k01_texts_of_programs_holds : PySem.Challenge.rw_eitherhalf_k01_texts_of_programs.Holds := by
  w_on; o_law; k_head; (case hw => w_witness2)
  k_fill
  refine EH.walk_ofG (l := PySem.Challenge.rw_eitherhalf_k01_texts_of_programs) (n := 63) (k := 33) (x := "_law_script") (sp := EH.spLaw) rfl (by decide) rfl ⟨rfl, by decide, by decide⟩ (fun w h Y => PySem.W.kIn_of Y) ?F (fun K H a ns hl hS => ⟨a, ns, rfl, hS, hl, fun _ => rfl⟩)
  case F =>
    intro w mg fa h KX G hmg
    refine' EH.all_mk KX G hmg ?a1 ?l1 ?c1 ?k1 ?a2 ?l2 ?c2 ?k2 ?a3 ?l3 ?c3 ?k3 ?a4 ?l4 ?c4 ?k4 ?a5 ?l5 ?c5 ?k5 ?a6 ?l6 ?c6 ?k6 ?a7 ?l7 ?c7 ?k7 ?a8 ?l8 ?c8 ?k8 ?a9 ?l9 ?c9 ?k9 ?a10 ?l10 ?c10 ?k10 ?a11 ?l11 ?c11 ?k11 ?a12 ?l12 ?c12 ?k12 ?a13 ?l13 ?c13 ?k13 ?a14 ?l14 ?c14 ?k14 ?a15 ?l15 ?c15 ?k15 ?a16 ?l16 ?c16 ?k16 ?a17 ?l17 ?c17 ?k17 ?a18 ?l18 ?c18 ?k18 ?a19 ?l19 ?c19 ?k19 ?a20 ?l20 ?c20 ?k20 ?a21 ?l21 ?c21 ?k21 ?g_HEAD ?g_STEP ?g_SIGNS ?lk_SIGNS ?kl_SIGNS ?n_SIGNS_0 ?n_SIGNS_1 ?n_SIGNS_2 ?z_abs ?z_int ?z_isinstance ?z_len ?z_range ?z_repr ?z_str ?z_tuple
    (case a1 => k_is); (case l1 => k_is); (case c1 => k_is); (case k1 => k_is); (case a2 => k_is); (case l2 => k_is)
    (case c2 => k_is); (case k2 => k_is); (case a3 => k_is); (case l3 => k_is); (case c3 => k_is); (case k3 => k_is)
    (case a4 => k_is); (case l4 => k_is); (case c4 => k_is); (case k4 => k_is); (case a5 => k_is); (case l5 => k_is)
    (case c5 => k_is); (case k5 => k_is); (case a6 => k_is); (case l6 => k_is); (case c6 => k_is); (case k6 => k_is)
    (case a7 => k_is); (case l7 => k_is); (case c7 => k_is); (case k7 => k_is); (case a8 => k_is); (case l8 => k_is)
    (case c8 => k_is); (case k8 => k_is); (case a9 => k_is); (case l9 => k_is); (case c9 => k_is); (case k9 => k_is)
    (case a10 => k_is); (case l10 => k_is); (case c10 => k_is); (case k10 => k_is); (case a11 => k_is); (case l11 => k_is)
    (case c11 => k_is); (case k11 => k_is); (case a12 => k_is); (case l12 => k_is); (case c12 => k_is); (case k12 => k_is)
    (case a13 => k_is); (case l13 => k_is); (case c13 => k_is); (case k13 => k_is); (case a14 => k_is); (case l14 => k_is)
    (case c14 => k_is); (case k14 => k_is); (case a15 => k_is); (case l15 => k_is); (case c15 => k_is); (case k15 => k_is)
    (case a16 => k_is); (case l16 => k_is); (case c16 => k_is); (case k16 => k_is); (case a17 => k_is); (case l17 => k_is)
    (case c17 => k_is); (case k17 => k_is); (case a18 => k_is); (case l18 => k_is); (case c18 => k_is); (case k18 => k_is)
    (case a19 => k_is); (case l19 => k_is); (case c19 => k_is); (case k19 => k_is); (case a20 => k_is); (case l20 => k_is)
    (case c20 => k_is); (case k20 => k_is); (case a21 => k_is); (case l21 => k_is); (case c21 => k_is); (case k21 => k_is)
    (case g_HEAD => k_is); (case g_STEP => k_is); (case g_SIGNS => k_is); (case lk_SIGNS => k_is); (case kl_SIGNS => k_keys); (case n_SIGNS_0 => k_is)
    (case n_SIGNS_1 => k_is); (case n_SIGNS_2 => k_is); (case z_abs => k_is); (case z_int => k_is); (case z_isinstance => k_is); (case z_len => k_is)
    (case z_range => k_is); (case z_repr => k_is); (case z_str => k_is); (case z_tuple => k_is)
#print axioms PySem.Challenge.cw_eitherhalf_k01_texts_of_programs_holds
