import PyProof.Rows.All
import Wide.All
import OpenK.AllK
import Wide.FinOn
import HandS.ForMost
import HandS.Wide
import HandS.TupAny
import HandS.TupMul
import HandS.IsInst
import HandS.Codes
import KE.KStateDown
import HandS.Head0
import HandS.Head1
import HandS.Head2
import HandS.HeadHook1
import HandS.Style
import HandS.Deep
import HandS.Iter
import HandS.Walk
import HandS.Text
import HandS.ExcValue
import HandS.ExcOwn
import KE.SortData
import HandS.Conv
import KE.KDictSum
import HandS.Lambda
import HandS.EndTab
import PyProof.RowDictHeap
import HandS.TryOnly
import PySem.Challenge.RW_eitherhalf_k28_single_statements
set_option Elab.async false
set_option linter.all false
set_option maxRecDepth 100000
set_option maxHeartbeats 4000000
namespace EH
open PySem L2 PyProof.Rows
/-! ### the end over a head by facts: nothing of the top is written out -/
/-- the objects that the facts ask: names, functions and their code, classes, their names, their methods -/
def refsX (o : Obj) : List Addr := match o.data with
  | .dict es _ => es.toList.flatMap fun e => He.refV e.val
  | .func fd => He.refV fd.code
  | .cls cd => [cd.ns]
  | _ => []
def frontX (g : Addr → Option Obj) : Nat → List Addr → List Addr
  | 0, _ => []
  | n + 1, as => as ++ frontX g n (as.flatMap fun a => match g a with
    | some o => refsX o
    | none => [])
def asX (g : Addr → Option Obj) (n : Nat) : List Addr := frontX g n [mainGlobals] ++ [cStatics]
/-- the part of the heap, each object looked at once -/
def collX {β : Type} (g : Addr → Option Obj) : List Addr → (PySem.W.Frag → β) → β
  | [], k => k []
  | a :: r, k => match g a with
    | some ⟨c, d, dt, sl⟩ => collX g r fun l => k ((a, ⟨c, d, dt, sl⟩) :: l)
    | none => collX g r k
theorem collX_eq {β : Type} {g : Addr → Option Obj} : ∀ (as : List Addr) (k : PySem.W.Frag → β), collX g as k = k (He.frG g as)
  | [], k => rfl
  | a :: r, k => by
    unfold collX He.frG
    rw [List.filterMap_cons]
    cases g a with
    | none => exact collX_eq r k
    | some o =>
      obtain ⟨c, d, dt, sl⟩ := o
      exact collX_eq r fun l => k ((a, ⟨c, d, dt, sl⟩) :: l)
def fnsB (fn : List He.FnD) (K : PySem.W.Frag) : Bool := fn.all fun d => (He.Fa.code d.at_ d.qual).ok K
abbrev FbX : Type := List (List (PySem.W.Frag → Bool))
def fbB (fb : FbX) (K : PySem.W.Frag) : Bool := fb.all fun l => l.all fun f => f K
def obsX (fb : FbX) (fn : List He.FnD) (K : PySem.W.Frag) : He.Al := (fbB fb K && fnsB fn K, fn.map fun d => He.fnObs K d.at_)
def valX (fn : List He.FnD) : He.Al := (true, fn.map He.FnD.val)
def SaysX (fb : FbX) (fn : List He.FnD) (K : PySem.W.Frag) : Prop := obsX fb fn K = valX fn
def obsXG (n : Nat) (fb : FbX) (fn : List He.FnD) (g : Addr → Option Obj) : He.Al := collX g (asX g n) (obsX fb fn)
def hookX (n : Nat) (fb : FbX) (fn : List He.FnD) : PySem.W.Hook where
  α := He.Al
  obs := fun s => obsXG n fb fn s.heap.get?
  val := fun _ => valX fn
  says := fun _ h => ∃ K : PySem.W.Frag, K.In h ∧ SaysX fb fn K
  of := fun _ _ e => ⟨_, He.frG_in, (collX_eq _ _).symm.trans e⟩
  keeps := fun _ _ _ ⟨K, hK, c⟩ k => ⟨K, PySem.W.Frag.In.keeps hK k, c⟩
theorem obsXG_eq {n : Nat} {fb : FbX} {fn : List He.FnD} {g : Addr → Option Obj} {s : Shared} (h : ∀ a, g a = s.heap.get? a) : obsXG n fb fn g = (hookX n fb fn).obs s := by
  have e : g = s.heap.get? := funext h
  rw [e] <;> rfl
section
variable {fb : FbX} {fn : List He.FnD} {K : PySem.W.Frag}
theorem SaysX.fact (c : SaysX fb fn K) (j i : Nat) {l : List (PySem.W.Frag → Bool)} {f : PySem.W.Frag → Bool} (hl : fb[j]? = some l) (hf : l[i]? = some f) : f K = true := by
  have c1 := (He.ba (show (fbB fb K && fnsB fn K) = true from congrArg (fun z : He.Al => z.1) c)).1
  exact List.all_eq_true.mp (List.all_eq_true.mp c1 l (List.mem_of_getElem? hl)) f (List.mem_of_getElem? hf)
theorem SaysX.def_ (c : SaysX fb fn K) (i : Nat) {d : He.FnD} (h : fn[i]? = some d) :
    ∃ oc od osl kV doc pm an cdv ct, K.lookup (He.fAd K d.at_) = some ⟨oc, od, .func (PySem.W.fnOf d.name d.qual d.params d.body d.scope .none kV doc pm an cdv ct), osl⟩ ∧ PySem.W.codeIn K cdv d.qual = true := by
  have c2 := (He.ba (show (fbB fb K && fnsB fn K) = true from congrArg (fun z : He.Al => z.1) c)).2
  have e : fn.map (fun d => He.fnObs K d.at_) = fn.map He.FnD.val := congrArg (fun z : He.Al => z.2) c
  have e2 : (fn.map fun d => He.fnObs K d.at_)[i]? = (fn.map He.FnD.val)[i]? := by rw [e]
  rw [List.getElem?_map, List.getElem?_map, h] at e2
  exact He.fn_ok (Option.some.inj e2) (List.all_eq_true.mp c2 d (List.mem_of_getElem? h))
end
/-! constants of the module -/
def intB (K : PySem.W.Frag) (x : Str) (i : Int) : Bool := match PySem.W.nsIn K mainGlobals x with
  | some (some (.int j _)) => decide (j = i)
  | _ => false
theorem intB_ok {K : PySem.W.Frag} {x : Str} {i : Int} (h : intB K x i = true) : ∃ t, PySem.W.nsIn K mainGlobals x = some (some (.int i t)) := by
  unfold intB at h
  split at h
  · rename_i j t e
    rw [of_decide_eq_true h] at e
    exact ⟨t, e⟩
  · cases h
def strB (K : PySem.W.Frag) (x : Str) (i : Str) : Bool := match PySem.W.nsIn K mainGlobals x with
  | some (some (.str j _)) => decide (j = i)
  | _ => false
theorem strB_ok {K : PySem.W.Frag} {x : Str} {i : Str} (h : strB K x i = true) : ∃ t, PySem.W.nsIn K mainGlobals x = some (some (.str i t)) := by
  unfold strB at h
  split at h
  · rename_i j t e
    rw [of_decide_eq_true h] at e
    exact ⟨t, e⟩
  · cases h
def litB : V → Value → Bool
  | .int i, .int j _ => decide (i = j)
  | .str s, .str z _ => decide (s = z)
  | .bl b, .bool c => decide (b = c)
  | .non, .none => true
  | _, _ => false
theorem litB_ok {v : V} {u : Value} (h : litB v u = true) : RelV v u := by
  cases v <;> cases u <;> first | (cases h; done) | skip
  all_goals first | rfl | (rw [of_decide_eq_true (show decide _ = true from h)]; exact ⟨_, rfl⟩) | (rw [of_decide_eq_true (show decide _ = true from h)]; rfl)
def litsB : List V → List Value → Bool
  | [], [] => true
  | v :: vs, u :: us => litB v u && litsB vs us
  | _, _ => false
theorem litsB_ok : ∀ {vs : List V} {us : List Value}, litsB vs us = true → Vals vs us
  | [], [], _ => .nil
  | v :: vs, u :: us, h => by
    obtain ⟨h1, h2⟩ := He.ba (show (litB v u && litsB vs us) = true from h)
    exact .cons (litB_ok h1) (litsB_ok h2)
  | [], _ :: _, h => nomatch h
  | _ :: _, [], h => nomatch h
def tupB (K : PySem.W.Frag) (a : Addr) (xs : List V) (bare : Bool) : Bool := match K.lookup a with
  | some ⟨.type c, od, .seq its _, _⟩ => decide (c = "tuple") && (decide (its.size ≤ sizeLine) && (litsB xs its.toList && (!bare || od.isNone)))
  | _ => false
theorem tupB_ok {K : PySem.W.Frag} {a : Addr} {xs : List V} {bare : Bool} (h : tupB K a xs bare = true) : ∀ H, SqT K H a xs := by
  unfold tupB at h
  split at h
  · rename_i c od its n sl e
    obtain ⟨h1, h2⟩ := He.ba h
    obtain ⟨h2, h3⟩ := He.ba h2
    obtain ⟨h3, h4⟩ := He.ba h3
    obtain rfl := of_decide_eq_true h1
    exact fun H => .inr ⟨_, its, _, e, rfl, rfl, of_decide_eq_true h2, litsB_ok h3⟩
  · cases h
/-! classes with operators -/
end EH
namespace EH
open PySem L2
def topS (i : Nat) : Stmt := PySem.Challenge.pw_eitherhalf_k28_single_statements.main.body.getD i (.Pass ⟨0, 0, 0, 0⟩)
abbrev s_is_whole : Stmt := topS 16
abbrev s_is_word : Stmt := topS 17
abbrev s_is_name : Stmt := topS 18
abbrev s_is_expression : Stmt := topS 19
abbrev s_is_test : Stmt := topS 20
abbrev s_is_plain : Stmt := topS 21
abbrev s_is_statement : Stmt := topS 22
abbrev s_blocks_of : Stmt := topS 23
abbrev s_items_within : Stmt := topS 24
abbrev s_rows_of : Stmt := topS 25
abbrev s_order_error : Stmt := topS 26
abbrev s_bare : Stmt := topS 27
abbrev s_own_count : Stmt := topS 28
abbrev s_counted : Stmt := topS 29
abbrev s_weight : Stmt := topS 30
abbrev s_program_error : Stmt := topS 31
abbrev s_l_deck : Stmt := topS 33
abbrev s_l_draw : Stmt := topS 34
abbrev s_l_one : Stmt := topS 35
abbrev s_l_names : Stmt := topS 36
abbrev s_l_whole : Stmt := topS 37
abbrev s_l_letters : Stmt := topS 38
abbrev s_l_is_name : Stmt := topS 39
abbrev s_l_is_expression : Stmt := topS 40
abbrev s_l_is_test : Stmt := topS 41
abbrev s_l_is_statement : Stmt := topS 42
abbrev s_l_counts : Stmt := topS 43
abbrev s_l_error : Stmt := topS 44
abbrev s_l_odd : Stmt := topS 45
abbrev s_l_bent : Stmt := topS 46
abbrev s_l_deep : Stmt := topS 47
abbrev s_l_kept : Stmt := topS 48
abbrev s_l_statement : Stmt := topS 49
abbrev s_law : Stmt := topS 50
end EH
namespace EH
open PySem L2 PyProof.Rows
def fbX0 : List (PySem.W.Frag → Bool) := [fun K => He.eqO (PySem.W.nsIn K mainGlobals "is_whole") (some (some (.ref (He.ga K "is_whole")))),
  fun K => PySem.W.keepIn K (.ref (He.ga K "is_whole")),
  fun K => He.eqO (PySem.W.nsIn K mainGlobals "is_word") (some (some (.ref (He.ga K "is_word")))),
  fun K => PySem.W.keepIn K (.ref (He.ga K "is_word")),
  fun K => He.eqO (PySem.W.nsIn K mainGlobals "is_name") (some (some (.ref (He.ga K "is_name")))),
  fun K => PySem.W.keepIn K (.ref (He.ga K "is_name")),
  fun K => He.eqO (PySem.W.nsIn K mainGlobals "is_expression") (some (some (.ref (He.ga K "is_expression")))),
  fun K => PySem.W.keepIn K (.ref (He.ga K "is_expression")),
  fun K => He.eqO (PySem.W.nsIn K mainGlobals "is_test") (some (some (.ref (He.ga K "is_test")))),
  fun K => PySem.W.keepIn K (.ref (He.ga K "is_test")),
  fun K => He.eqO (PySem.W.nsIn K mainGlobals "is_plain") (some (some (.ref (He.ga K "is_plain")))),
  fun K => PySem.W.keepIn K (.ref (He.ga K "is_plain")),
  fun K => He.eqO (PySem.W.nsIn K mainGlobals "is_statement") (some (some (.ref (He.ga K "is_statement")))),
  fun K => PySem.W.keepIn K (.ref (He.ga K "is_statement")),
  fun K => He.eqO (PySem.W.nsIn K mainGlobals "blocks_of") (some (some (.ref (He.ga K "blocks_of")))),
  fun K => PySem.W.keepIn K (.ref (He.ga K "blocks_of")),
  fun K => He.eqO (PySem.W.nsIn K mainGlobals "items_within") (some (some (.ref (He.ga K "items_within")))),
  fun K => PySem.W.keepIn K (.ref (He.ga K "items_within")),
  fun K => He.eqO (PySem.W.nsIn K mainGlobals "rows_of") (some (some (.ref (He.ga K "rows_of")))),
  fun K => PySem.W.keepIn K (.ref (He.ga K "rows_of"))]
def fbX1 : List (PySem.W.Frag → Bool) := [fun K => He.eqO (PySem.W.nsIn K mainGlobals "order_error") (some (some (.ref (He.ga K "order_error")))),
  fun K => PySem.W.keepIn K (.ref (He.ga K "order_error")),
  fun K => He.eqO (PySem.W.nsIn K mainGlobals "bare") (some (some (.ref (He.ga K "bare")))),
  fun K => PySem.W.keepIn K (.ref (He.ga K "bare")),
  fun K => He.eqO (PySem.W.nsIn K mainGlobals "own_count") (some (some (.ref (He.ga K "own_count")))),
  fun K => PySem.W.keepIn K (.ref (He.ga K "own_count")),
  fun K => He.eqO (PySem.W.nsIn K mainGlobals "counted") (some (some (.ref (He.ga K "counted")))),
  fun K => PySem.W.keepIn K (.ref (He.ga K "counted")),
  fun K => He.eqO (PySem.W.nsIn K mainGlobals "weight") (some (some (.ref (He.ga K "weight")))),
  fun K => PySem.W.keepIn K (.ref (He.ga K "weight")),
  fun K => He.eqO (PySem.W.nsIn K mainGlobals "program_error") (some (some (.ref (He.ga K "program_error")))),
  fun K => PySem.W.keepIn K (.ref (He.ga K "program_error")),
  fun K => He.eqO (PySem.W.nsIn K mainGlobals "_law_deck") (some (some (.ref (He.ga K "_law_deck")))),
  fun K => PySem.W.keepIn K (.ref (He.ga K "_law_deck")),
  fun K => He.eqO (PySem.W.nsIn K mainGlobals "_law_draw") (some (some (.ref (He.ga K "_law_draw")))),
  fun K => PySem.W.keepIn K (.ref (He.ga K "_law_draw")),
  fun K => He.eqO (PySem.W.nsIn K mainGlobals "_law_one") (some (some (.ref (He.ga K "_law_one")))),
  fun K => PySem.W.keepIn K (.ref (He.ga K "_law_one")),
  fun K => He.eqO (PySem.W.nsIn K mainGlobals "_law_names") (some (some (.ref (He.ga K "_law_names")))),
  fun K => PySem.W.keepIn K (.ref (He.ga K "_law_names"))]
def fbX2 : List (PySem.W.Frag → Bool) := [fun K => He.eqO (PySem.W.nsIn K mainGlobals "_law_whole") (some (some (.ref (He.ga K "_law_whole")))),
  fun K => PySem.W.keepIn K (.ref (He.ga K "_law_whole")),
  fun K => He.eqO (PySem.W.nsIn K mainGlobals "_law_letters") (some (some (.ref (He.ga K "_law_letters")))),
  fun K => PySem.W.keepIn K (.ref (He.ga K "_law_letters")),
  fun K => He.eqO (PySem.W.nsIn K mainGlobals "_law_is_name") (some (some (.ref (He.ga K "_law_is_name")))),
  fun K => PySem.W.keepIn K (.ref (He.ga K "_law_is_name")),
  fun K => He.eqO (PySem.W.nsIn K mainGlobals "_law_is_expression") (some (some (.ref (He.ga K "_law_is_expression")))),
  fun K => PySem.W.keepIn K (.ref (He.ga K "_law_is_expression")),
  fun K => He.eqO (PySem.W.nsIn K mainGlobals "_law_is_test") (some (some (.ref (He.ga K "_law_is_test")))),
  fun K => PySem.W.keepIn K (.ref (He.ga K "_law_is_test")),
  fun K => He.eqO (PySem.W.nsIn K mainGlobals "_law_is_statement") (some (some (.ref (He.ga K "_law_is_statement")))),
  fun K => PySem.W.keepIn K (.ref (He.ga K "_law_is_statement")),
  fun K => He.eqO (PySem.W.nsIn K mainGlobals "_law_counts") (some (some (.ref (He.ga K "_law_counts")))),
  fun K => PySem.W.keepIn K (.ref (He.ga K "_law_counts")),
  fun K => He.eqO (PySem.W.nsIn K mainGlobals "_law_error") (some (some (.ref (He.ga K "_law_error")))),
  fun K => PySem.W.keepIn K (.ref (He.ga K "_law_error")),
  fun K => He.eqO (PySem.W.nsIn K mainGlobals "_law_odd") (some (some (.ref (He.ga K "_law_odd")))),
  fun K => PySem.W.keepIn K (.ref (He.ga K "_law_odd")),
  fun K => He.eqO (PySem.W.nsIn K mainGlobals "_law_bent") (some (some (.ref (He.ga K "_law_bent")))),
  fun K => PySem.W.keepIn K (.ref (He.ga K "_law_bent"))]
def fbX3 : List (PySem.W.Frag → Bool) := [fun K => He.eqO (PySem.W.nsIn K mainGlobals "_law_deep") (some (some (.ref (He.ga K "_law_deep")))),
  fun K => PySem.W.keepIn K (.ref (He.ga K "_law_deep")),
  fun K => He.eqO (PySem.W.nsIn K mainGlobals "_law_kept") (some (some (.ref (He.ga K "_law_kept")))),
  fun K => PySem.W.keepIn K (.ref (He.ga K "_law_kept")),
  fun K => He.eqO (PySem.W.nsIn K mainGlobals "_law_statement") (some (some (.ref (He.ga K "_law_statement")))),
  fun K => PySem.W.keepIn K (.ref (He.ga K "_law_statement")),
  fun K => He.eqO (PySem.W.nsIn K mainGlobals "law") (some (some (.ref (He.ga K "law")))),
  fun K => PySem.W.keepIn K (.ref (He.ga K "law")),
  fun K => intB K "MAX_NAME" (8),
  fun K => intB K "MAX_WORD" (8),
  fun K => intB K "MAX_TIMES" (8),
  fun K => intB K "MAX_DEEP" (3),
  fun K => intB K "MAX_NOTS" (2),
  fun K => intB K "MAX_PLACES" (24),
  fun K => intB K "MAX_WEIGHT" (60),
  fun K => intB K "MAX_HALVINGS" (4),
  fun K => intB K "MAX_COMPARINGS" (3),
  fun K => intB K "MAX_NEST" (3),
  fun K => strB K "LETTERS" "abcdefghijklmnopqrstuvwxyz",
  fun K => strB K "SIGNS" "abcdefghijklmnopqrstuvwxyz0123456789"]
def fbX4 : List (PySem.W.Frag → Bool) := [fun K => intB K "MOST_NUMBER" (99),
  fun K => intB K "MOST_FACTOR" (9),
  fun K => He.eqO (PySem.W.nsIn K mainGlobals "KEPT") (some (some (.ref (He.ga K "KEPT")))),
  fun K => tupB K (He.ga K "KEPT") [.str "half", .str "tell", .str "say", .str "stop", .str "if", .str "else", .str "repeat", .str "pass", .str "odd", .str "not", .str "program"] false,
  fun K => He.eqO (PySem.W.nsIn K mainGlobals "abs") (some none),
  fun K => He.eqO (PySem.W.nsIn K mainGlobals "all") (some none),
  fun K => He.eqO (PySem.W.nsIn K mainGlobals "bool") (some none),
  fun K => He.eqO (PySem.W.nsIn K mainGlobals "enumerate") (some none),
  fun K => He.eqO (PySem.W.nsIn K mainGlobals "int") (some none),
  fun K => He.eqO (PySem.W.nsIn K mainGlobals "isinstance") (some none),
  fun K => He.eqO (PySem.W.nsIn K mainGlobals "len") (some none),
  fun K => He.eqO (PySem.W.nsIn K mainGlobals "list") (some none),
  fun K => He.eqO (PySem.W.nsIn K mainGlobals "max") (some none),
  fun K => He.eqO (PySem.W.nsIn K mainGlobals "range") (some none),
  fun K => He.eqO (PySem.W.nsIn K mainGlobals "repr") (some none),
  fun K => He.eqO (PySem.W.nsIn K mainGlobals "str") (some none),
  fun K => He.eqO (PySem.W.nsIn K mainGlobals "sum") (some none),
  fun K => He.eqO (PySem.W.nsIn K mainGlobals "tuple") (some none)]
def fbX : FbX := [fbX0, fbX1, fbX2, fbX3, fbX4]
def fnX : List He.FnD := [⟨("is_whole", none), "is_whole", "is_whole", defArgs s_is_whole, defBody s_is_whole, defScope s_is_whole⟩,
  ⟨("is_word", none), "is_word", "is_word", defArgs s_is_word, defBody s_is_word, defScope s_is_word⟩,
  ⟨("is_name", none), "is_name", "is_name", defArgs s_is_name, defBody s_is_name, defScope s_is_name⟩,
  ⟨("is_expression", none), "is_expression", "is_expression", defArgs s_is_expression, defBody s_is_expression, defScope s_is_expression⟩,
  ⟨("is_test", none), "is_test", "is_test", defArgs s_is_test, defBody s_is_test, defScope s_is_test⟩,
  ⟨("is_plain", none), "is_plain", "is_plain", defArgs s_is_plain, defBody s_is_plain, defScope s_is_plain⟩,
  ⟨("is_statement", none), "is_statement", "is_statement", defArgs s_is_statement, defBody s_is_statement, defScope s_is_statement⟩,
  ⟨("blocks_of", none), "blocks_of", "blocks_of", defArgs s_blocks_of, defBody s_blocks_of, defScope s_blocks_of⟩,
  ⟨("items_within", none), "items_within", "items_within", defArgs s_items_within, defBody s_items_within, defScope s_items_within⟩,
  ⟨("rows_of", none), "rows_of", "rows_of", defArgs s_rows_of, defBody s_rows_of, defScope s_rows_of⟩,
  ⟨("order_error", none), "order_error", "order_error", defArgs s_order_error, defBody s_order_error, defScope s_order_error⟩,
  ⟨("bare", none), "bare", "bare", defArgs s_bare, defBody s_bare, defScope s_bare⟩,
  ⟨("own_count", none), "own_count", "own_count", defArgs s_own_count, defBody s_own_count, defScope s_own_count⟩,
  ⟨("counted", none), "counted", "counted", defArgs s_counted, defBody s_counted, defScope s_counted⟩,
  ⟨("weight", none), "weight", "weight", defArgs s_weight, defBody s_weight, defScope s_weight⟩,
  ⟨("program_error", none), "program_error", "program_error", defArgs s_program_error, defBody s_program_error, defScope s_program_error⟩,
  ⟨("_law_deck", none), "_law_deck", "_law_deck", defArgs s_l_deck, defBody s_l_deck, defScope s_l_deck⟩,
  ⟨("_law_draw", none), "_law_draw", "_law_draw", defArgs s_l_draw, defBody s_l_draw, defScope s_l_draw⟩,
  ⟨("_law_one", none), "_law_one", "_law_one", defArgs s_l_one, defBody s_l_one, defScope s_l_one⟩,
  ⟨("_law_names", none), "_law_names", "_law_names", defArgs s_l_names, defBody s_l_names, defScope s_l_names⟩,
  ⟨("_law_whole", none), "_law_whole", "_law_whole", defArgs s_l_whole, defBody s_l_whole, defScope s_l_whole⟩,
  ⟨("_law_letters", none), "_law_letters", "_law_letters", defArgs s_l_letters, defBody s_l_letters, defScope s_l_letters⟩,
  ⟨("_law_is_name", none), "_law_is_name", "_law_is_name", defArgs s_l_is_name, defBody s_l_is_name, defScope s_l_is_name⟩,
  ⟨("_law_is_expression", none), "_law_is_expression", "_law_is_expression", defArgs s_l_is_expression, defBody s_l_is_expression, defScope s_l_is_expression⟩,
  ⟨("_law_is_test", none), "_law_is_test", "_law_is_test", defArgs s_l_is_test, defBody s_l_is_test, defScope s_l_is_test⟩,
  ⟨("_law_is_statement", none), "_law_is_statement", "_law_is_statement", defArgs s_l_is_statement, defBody s_l_is_statement, defScope s_l_is_statement⟩,
  ⟨("_law_counts", none), "_law_counts", "_law_counts", defArgs s_l_counts, defBody s_l_counts, defScope s_l_counts⟩,
  ⟨("_law_error", none), "_law_error", "_law_error", defArgs s_l_error, defBody s_l_error, defScope s_l_error⟩,
  ⟨("_law_odd", none), "_law_odd", "_law_odd", defArgs s_l_odd, defBody s_l_odd, defScope s_l_odd⟩,
  ⟨("_law_bent", none), "_law_bent", "_law_bent", defArgs s_l_bent, defBody s_l_bent, defScope s_l_bent⟩,
  ⟨("_law_deep", none), "_law_deep", "_law_deep", defArgs s_l_deep, defBody s_l_deep, defScope s_l_deep⟩,
  ⟨("_law_kept", none), "_law_kept", "_law_kept", defArgs s_l_kept, defBody s_l_kept, defScope s_l_kept⟩,
  ⟨("_law_statement", none), "_law_statement", "_law_statement", defArgs s_l_statement, defBody s_l_statement, defScope s_l_statement⟩,
  ⟨("law", none), "law", "law", defArgs s_law, defBody s_law, defScope s_law⟩]
def nmX0 : List Str := [("MAX_NAME" : Str), ("MAX_WORD" : Str), ("MAX_TIMES" : Str), ("MAX_DEEP" : Str), ("MAX_NOTS" : Str), ("MAX_PLACES" : Str), ("MAX_WEIGHT" : Str), ("MAX_HALVINGS" : Str), ("MAX_COMPARINGS" : Str), ("MAX_NEST" : Str)]
def nmX1 : List Str := [("LETTERS" : Str), ("SIGNS" : Str), ("KEPT" : Str), ("MOST_NUMBER" : Str), ("MOST_FACTOR" : Str), ("is_whole" : Str), ("is_word" : Str), ("is_name" : Str), ("is_expression" : Str), ("is_test" : Str)]
def nmX2 : List Str := [("is_plain" : Str), ("is_statement" : Str), ("blocks_of" : Str), ("items_within" : Str), ("rows_of" : Str), ("order_error" : Str), ("bare" : Str), ("own_count" : Str), ("counted" : Str), ("weight" : Str)]
def nmX3 : List Str := [("program_error" : Str), ("_law_deck" : Str), ("_law_draw" : Str), ("_law_one" : Str), ("_law_names" : Str), ("_law_whole" : Str), ("_law_letters" : Str), ("_law_is_name" : Str), ("_law_is_expression" : Str), ("_law_is_test" : Str)]
def nmX4 : List Str := [("_law_is_statement" : Str), ("_law_counts" : Str), ("_law_error" : Str), ("_law_odd" : Str), ("_law_bent" : Str), ("_law_deep" : Str), ("_law_kept" : Str), ("_law_statement" : Str)]
def nmX : List Str := nmX0 ++ (nmX1 ++ (nmX2 ++ (nmX3 ++ (nmX4))))
abbrev rwX : PySem.W.OpenRow := PySem.W.OpenLaw.row PySem.Challenge.rw_eitherhalf_k28_single_statements
abbrev qvX : Program := PySem.W.view rwX.prog [50]
set_option maxHeartbeats 0 in
theorem runX (w : World) : HandSHeadRun.RunEq rwX qvX (hookX 5 fbX fnX) (fun s => obsXG 5 fbX fnX (HandSHeadRun.getT s)) 20000 nmX w := by
  intro os
  kernel_rfl
end EH
namespace EH
open PySem L2

/-! ### what is kept but for some addresses -/
structure Kp (S : List Addr) (H H' : Hp) : Prop where
  keep : ∀ b o, H b = some o → b ∉ S → H' b = some o
  tup : ∀ b xs, H b = some (.tup xs) → H' b = some (.tup xs)
  ext : ∀ b φ, H b = some (.ext φ) → H' b = some (.ext φ)
  frz : ∀ b o u, H b = some (.frz o u) → H' b = some (.frz o u)
theorem Kp.refl {S : List Addr} {H : Hp} : Kp S H H := ⟨fun _ _ h _ => h, fun _ _ h => h, fun _ _ h => h, fun _ _ _ h => h⟩
theorem Kp.trans {S : List Addr} {H H1 H2 : Hp} (a : Kp S H H1) (b : Kp S H1 H2) : Kp S H H2 := ⟨fun c o h n => b.keep c o (a.keep c o h n) n, fun c xs h => b.tup c xs (a.tup c xs h), fun c φ h => b.ext c φ (a.ext c φ h), fun c o u h => b.frz c o u (a.frz c o u h)⟩
theorem Kp.sub {S S' : List Addr} {H H1 : Hp} (a : Kp S H H1) (h : ∀ b, b ∈ S → b ∈ S') : Kp S' H H1 := ⟨fun c o e n => a.keep c o e fun z => n (h c z), a.tup, a.ext, a.frz⟩
theorem Kp.at {H H1 : Hp} {b : Addr} {o : HO} (a : Kp [] H H1) (h : H b = some o) : H1 b = some o := a.keep b o h (by simp)
theorem Kp.free {S : List Addr} {H H1 : Hp} {p : Addr} (a : Kp S H H1) (h : H1 p = none) (n : p ∉ S) : H p = none := by
  cases e : H p with
  | none => rfl
  | some o =>
    rw [a.keep p o e n] at h
    cases h
theorem Kp.step {S S1 : List Addr} {H H1 H2 : Hp} (a : Kp S H H1) (b : Kp S1 H1 H2) (h : ∀ p ∈ S1, p ∈ S ∨ H p = none) : Kp S H H2 :=
  ⟨fun c o e n => b.keep c o (a.keep c o e n) fun z => (h c z).elim n fun y => (by rw [y] at e; cases e), fun c xs e => b.tup c xs (a.tup c xs e), fun c φ e => b.ext c φ (a.ext c φ e), fun c o u e => b.frz c o u (a.frz c o u e)⟩
theorem Kp.step0 {S : List Addr} {H H1 H2 : Hp} (a : Kp S H H1) (b : Kp [] H1 H2) : Kp S H H2 := a.step b fun _ z => nomatch z
theorem Kp.step1 {S : List Addr} {H H1 H2 : Hp} {p : Addr} (a : Kp S H H1) (b : Kp [p] H1 H2) (h : p ∈ S ∨ H p = none) : Kp S H H2 := a.step b fun _ z => by
  rcases List.mem_cons.mp z with rfl | z
  · exact h
  · cases z
theorem Kp.new {H : Hp} {p : Addr} {u : HO} (h : H p = none) : Kp [] H (upd H p u) := ⟨fun c o e _ => by rw [upd_ne (ne_of_none e h)]; exact e, fun c o e => by rw [upd_ne (ne_of_none e h)]; exact e, fun c o e => by rw [upd_ne (ne_of_none e h)]; exact e, fun c o u e => by rw [upd_ne (ne_of_none e h)]; exact e⟩
theorem Kp.put {H : Hp} {p : Addr} {u v : HO} (h : H p = some v) (hv : ∀ xs, v ≠ .tup xs) (he : ∀ φ, v ≠ .ext φ := by intro φ z; cases z) (hf : ∀ o u, v ≠ .frz o u := by intro o u z; cases z) : Kp [p] H (upd H p u) := ⟨fun c o e n => by rw [upd_ne (by intro z; subst z; exact n (by simp))]; exact e,
  fun c xs e => by rw [upd_ne (by intro z; subst z; rw [h] at e; exact hv xs (Option.some.inj e))]; exact e,
  fun c φ e => by rw [upd_ne (by intro z; subst z; rw [h] at e; exact he φ (Option.some.inj e))]; exact e,
  fun c o w e => by rw [upd_ne (by intro z; subst z; rw [h] at e; exact hf o w (Option.some.inj e))]; exact e⟩
theorem Kp.seq {K : PySem.W.Frag} {S : List Addr} {H H' : Hp} {a : Addr} {xs : List V} (k : Kp S H H') (h : SqL K H a xs) (n : a ∉ S) : SqL K H' a xs := by
  rcases h with (h | ⟨o, h⟩) | h
  · exact .inl (.inl (k.keep _ _ h n))
  · exact .inl (.inr ⟨o, k.keep _ _ h n⟩)
  · exact .inr h
theorem ne1 {a p : Addr} (h : a ≠ p) : a ∉ [p] := by simp [h]
theorem ne2 {a p q : Addr} (h : a ≠ p) (h2 : a ≠ q) : a ∉ [p, q] := by simp [h, h2]

/-! ### rules whose new heaps are letters -/
section
variable {X : Cx} {e : Expr} {es : List Expr} {pos : Pos}
theorem PE.imp {t t' : TE} (h : PE X e t) (i : ∀ σ H Q, t' σ H Q → t σ H Q) : PE X e t' := ⟨fun pins s σ H Q I q => h.run pins s σ H Q I (i σ H Q q)⟩
theorem OpR.imp {f : Value → Value → Sem Value} {r r' : R2} (h : OpR X f r) (i : ∀ x y H Q, r' x y H Q → r x y H Q) : OpR X f r' := fun pins s σ H x y v u Q I a b q => h pins s σ H x y v u Q I a b (i x y H Q q)
theorem CallR.imp {f : Value} {r r' : List V → Hp → VK → Prop} (h : CallR X f r) (i : ∀ xs H Q, r' xs H Q → r xs H Q) : CallR X f r' := fun pins s σ H xs us Q I a q => h pins s σ H xs us Q I a (i xs H Q q)
theorem SlR.imp {r r' : V → Option Int → Option Int → Hp → VK → Prop} (h : SlR X r) (i : ∀ x lo hi H Q, r' x lo hi H Q → r x lo hi H Q) : SlR X r' := fun pins s σ H x v vl vu lo hi sl Q I rx hs pl pu q => h pins s σ H x v vl vu lo hi sl Q I rx hs pl pu (i x lo hi H Q q)
theorem MtR.imp {id : String} {r r' : V → List V → Hp → VK → Prop} (h : MtR X id r) (i : ∀ x xs H Q, r' x xs H Q → r x xs H Q) : MtR X id r' := fun pins s σ H x xs v us Q I a b q => h pins s σ H x xs v us Q I a b (i x xs H Q q)
theorem PSet.imp {t t' : TSet} (h : PSet X t) (i : ∀ o k v H Q, t' o k v H Q → t o k v H Q) : PSet X t' := fun pins s σ H o k v ov iv u Q I a b c q => h pins s σ H o k v ov iv u Q I a b c (i o k v H Q q)
/-- a new object at p -/
def NewQ (H : Hp) (o : HO) (Q : VK) : Prop := ∀ p H2, H p = none → H2 p = some o → Kp [] H H2 → Q (.ref p) H2
theorem NewQ.to {H : Hp} {o : HO} {Q : VK} (h : NewQ H o Q) : ∀ p, H p = none → Q (.ref p) (upd H p o) := fun p hp => h p _ hp upd_same (Kp.new hp)
theorem newQ_iff {H : Hp} {o : HO} {Q : VK} (S : Prop) : (S ∧ ∀ p H2, H p = none → H2 = upd H p o → Q (.ref p) H2) = (S ∧ ∀ p, H p = none → Q (.ref p) (upd H p o)) :=
  propext ⟨fun h => ⟨h.1, fun p hp => h.2 p _ hp rfl⟩, fun h => ⟨h.1, fun p H2 hp e => e ▸ h.2 p hp⟩⟩
def tTupA (t : TA) : TE := fun σ H Q => t σ H fun xs H1 => xs.length ≤ sizeLine ∧ ∀ p H2, H1 p = none → H2 = upd H1 p (.tup xs) → Q (.ref p) H2
def tLstA (t : TA) : TE := fun σ H Q => t σ H fun xs H1 => xs.length ≤ sizeLine ∧ ∀ p H2, H1 p = none → H2 = upd H1 p (.lst xs) → Q (.ref p) H2
theorem pe_tupA {x1} {t : TA} (h : PA X es t) : PE X (.Tuple es x1 pos) (tTupA t) := PE.imp (pe_tup h) fun σ H Q q => by
  unfold tTup
  unfold tTupA at q
  simp only [newQ_iff] at q
  exact q
theorem pe_lstA {t : TA} (h : PA X es t) : PE X (.List es pos) (tLstA t) := PE.imp (pe_lst h) fun σ H Q q => by
  unfold tLst
  unfold tLstA at q
  simp only [newQ_iff] at q
  exact q
theorem new_at {H H2 : Hp} {p : Addr} {o : HO} (e : H2 = upd H p o) : H2 p = some o := by rw [e]; exact upd_same
theorem new_kp {H H2 : Hp} {p : Addr} {o : HO} (h : H p = none) (e : H2 = upd H p o) : Kp [] H H2 := by rw [e]; exact Kp.new h
/-- what follows a store at p -/
def PutQ (H : Hp) (p : Addr) (o : HO) (Q : Hp → Prop) : Prop := ∀ H2, H2 p = some o → Kp [p] H H2 → Q H2
theorem PutQ.to {H : Hp} {p : Addr} {o v : HO} {Q : Hp → Prop} (h : PutQ H p o Q) (e : H p = some v) (hv : ∀ xs, v ≠ .tup xs) (he : ∀ φ, v ≠ .ext φ := by intro φ z; cases z) (hf : ∀ o u, v ≠ .frz o u := by intro o u z; cases z) : Q (upd H p o) := h _ upd_same (Kp.put e hv he hf)
def rSetA : TSet := fun o i v H Q => ∃ p xs k j, o = .ref p ∧ i = .int k ∧ H p = some (.lst xs) ∧ ixN xs.length k = some j ∧ PutQ H p (.lst (xs.set j v)) Q
theorem set_listA : PSet X rSetA := PSet.imp set_list fun o i v H Q ⟨p, xs, k, j, a, b, c, d, q⟩ => ⟨p, xs, k, j, a, b, c, d, q.to c (fun _ z => by cases z)⟩
def rAppendA : V → List V → Hp → VK → Prop := fun x vs H Q => ∃ l xs y, x = .ref l ∧ vs = [y] ∧ H l = some (.lst xs) ∧ xs.length < sizeLine ∧ PutQ H l (.lst (xs ++ [y])) (Q .non)
def rExtendA : V → List V → Hp → VK → Prop := fun x vs H Q => ∃ l b xs zs, x = .ref l ∧ vs = [.ref b] ∧ H l = some (.lst xs) ∧ H b = some (.lst zs) ∧ xs.length + zs.length ≤ sizeLine ∧ PutQ H l (.lst (xs ++ zs)) (Q .non)
def rCatLA : R2 := fun x y H Q => ∃ l b xs zs, x = .ref l ∧ y = .ref b ∧ H l = some (.lst xs) ∧ H b = some (.lst zs) ∧ xs.length + zs.length ≤ sizeLine ∧ NewQ H (.lst (xs ++ zs)) Q
theorem op_catL : OpR X (binaryOp .Add) rCatLA := OpR.imp op_cat fun x y H Q ⟨l, b, xs, zs, e1, e2, h1, h2, z, q⟩ => ⟨l, b, xs, zs, e1, e2, h1, h2, z, q.to⟩
/-- tuple + tuple: some tuple of both -/
def rCatTA (K : PySem.W.Frag) : R2 := fun x y H Q => ∃ a b xs ys, x = .ref a ∧ y = .ref b ∧ H a = some (.tup xs) ∧ H b = some (.tup ys) ∧ xs.length + ys.length ≤ sizeLine ∧ ∀ p H2, H2 p = some (.tup (xs ++ ys)) → Kp [] H H2 → Q (.ref p) H2
theorem op_catT2 : OpR X (binaryOp .Add) (rCatTA X.K) := OpR.imp op_catA fun x y H Q ⟨a, b, xs, ys, e1, e2, h1, h2, z, q⟩ => by
  refine ⟨a, b, xs, ys, e1, e2, SqT.of h1, SqT.of h2, z, fun e => ?_, fun _ e => ?_, fun _ _ p hp => q p _ upd_same (Kp.new hp)⟩
  · subst e; exact q b H h2 Kp.refl
  · subst e; exact q a H (by rw [List.append_nil]; exact h1) Kp.refl
def rSlLA (K : PySem.W.Frag) : V → Option Int → Option Int → Hp → VK → Prop := fun x lo hi H Q => ∃ a xs, x = .ref a ∧ SqL K H a xs ∧ NewQ H (.lst (cutV xs lo hi)) Q
theorem sl_listA : SlR X (rSlLA X.K) := SlR.imp sl_list fun x lo hi H Q ⟨a, xs, e, h, q⟩ => ⟨a, xs, e, h, q.to⟩
theorem cutV_whole {xs : List V} {lo hi : Option Int} (h : HT.sIx xs.length 0 lo = 0 ∧ HT.sIx xs.length xs.length hi = xs.length) : cutV xs lo hi = xs := by
  unfold cutV
  rw [h.1, h.2]
  simp
def rSlTA (K : PySem.W.Frag) : V → Option Int → Option Int → Hp → VK → Prop := fun x lo hi H Q => ∃ a xs, x = .ref a ∧ H a = some (.tup xs) ∧ ∀ p H2, H2 p = some (.tup (cutV xs lo hi)) → Kp [] H H2 → Q (.ref p) H2
theorem sl_tupB : SlR X (rSlTA X.K) := SlR.imp sl_tupA fun x lo hi H Q ⟨a, xs, e, h, q⟩ => by
  refine ⟨a, xs, e, SqT.of h, fun z => ?_, fun _ p hp => q p _ upd_same (Kp.new hp)⟩
  exact q a H (by rw [cutV_whole z]; exact h) Kp.refl
theorem mt_appendA : MtR X "list.append" rAppendA := MtR.imp mt_append fun x vs H Q ⟨l, xs, y, e1, e2, h1, z, q⟩ => ⟨l, xs, y, e1, e2, h1, z, q.to h1 (fun _ z => by cases z)⟩
theorem mt_extendA : MtR X "list.extend" rExtendA := MtR.imp mt_extend fun x vs H Q ⟨l, b, xs, zs, e1, e2, h1, h2, z, q⟩ => ⟨l, b, xs, zs, e1, e2, h1, h2, z, q.to h1 (fun _ z => by cases z)⟩
/-- tuple(xs) of a list: a new tuple -/
def rTupOfA (K : PySem.W.Frag) : List V → Hp → VK → Prop := fun xs H Q => ∃ p ys, xs = [.ref p] ∧ SqL K H p ys ∧ NewQ H (.tup ys) Q
theorem call_tupleA : CallR X (.type "tuple") (rTupOfA X.K) := CallR.imp call_tuple_of fun xs H Q ⟨p, ys, e, h, q⟩ => ⟨p, ys, e, .inl ⟨h, q.to⟩⟩
/-- a loop, a cut: what is said there is said by hand -/
structure Lp (p : Prop) : Prop where
  h : p
theorem Lp.eq (p : Prop) : Lp p = p := propext ⟨fun x => x.h, fun x => ⟨x⟩⟩
def tForA (wi : TI) (g : TG) (tb : TS) : TS := fun D σ H => wi σ H fun J H1 => Lp (∃ W : Nat → Nat → L2.St → Hp → Prop, (∃ m, W 0 m σ H1) ∧ ∀ i m σ H, W i m σ H →
  (J.stop i H ∧ D.nx σ H) ∨ (J.go i H ∧ ∃ N : L2.St → Hp → Prop, (∀ σ' H', N σ' H' → ∃ m', m' < m ∧ W (i + 1) m' σ' H') ∧ ∀ x H', J.yld i H x H' → g x σ H' fun σ2 H2 => tb { D with nx := N, ct := N, bk := D.nx } σ2 H2))
theorem tForA_eq (wi : TI) (g : TG) (tb : TS) : tForA wi g tb = tFor wi g tb := by
  funext D σ H
  unfold tForA tFor
  simp only [Lp.eq]
theorem ps_forA {tg iter : Expr} {body : List Stmt} {wi : TI} {g : TG} {tb : TS} (h : PS X (.For tg iter body [] pos) (tFor wi g tb)) : PS X (.For tg iter body [] pos) (tForA wi g tb) := by rw [tForA_eq]; exact h
def tWhileA (c : TT) (tb : TS) : TS := fun D σ H => Lp (tWhile c tb D σ H)
theorem ps_whileA {c : Expr} {body : List Stmt} {tc : TT} {tb : TS} (h : PS X (.While c body [] pos) (tWhile tc tb)) : PS X (.While c body [] pos) (tWhileA tc tb) := by
  have e : tWhileA tc tb = tWhile tc tb := by
    funext D σ H
    unfold tWhileA
    rw [Lp.eq]
  rw [e]
  exact h
def tCutA (t u : TS) : TS := fun D σ H => Lp (C8.tCut t u D σ H)
theorem pss_cutA {st : Stmt} {rest : List Stmt} {t u : TS} (h1 : PS X st t) (h2 : PSs X rest u) : PSs X (st :: rest) (tCutA t u) := by
  have e : tCutA t u = C8.tCut t u := by
    funext D σ H
    unfold tCutA
    rw [Lp.eq]
  rw [e]
  exact C8.pss_cut h1 h2
/-! the same rules over a written part that is told by a letter -/
variable {K : PySem.W.Frag}
theorem cr_sumK (hK : X.K = K) (hc : X.calm = true) : CallR X (.builtin "sum") (rSum K) := hK ▸ cr_sum hc
theorem ix_listK (hK : X.K = K) : IxR X (rIxL K) := hK ▸ ix_list
theorem ix_tupK (hK : X.K = K) : IxR X (rIxT K) := hK ▸ ix_tup
theorem op_in_seqK (hK : X.K = K) : OpR X (compareOp .In) (rIn K false) := hK ▸ op_in_seq
theorem op_notIn_seqK (hK : X.K = K) : OpR X (compareOp .NotIn) (rIn K true) := hK ▸ op_notIn_seq
def rLenK (K : PySem.W.Frag) : List V → Hp → VK → Prop := fun xs H Q => ∃ p ys, xs = [.ref p] ∧ (SqL K H p ys ∨ SqT K H p ys) ∧ Q (.int ys.length) H
theorem call_lenK (hK : X.K = K) : CallR X (.builtin "len") (rLenK K) := hK ▸ call_len_seq
theorem call_isiK (hK : X.K = K) : CallR X (.builtin "isinstance") (rIsi K) := hK ▸ call_isi
theorem call_tupleK (hK : X.K = K) : CallR X (.type "tuple") (rTupOfA K) := hK ▸ call_tupleA
theorem sl_listK (hK : X.K = K) : SlR X (rSlLA K) := hK ▸ sl_listA
theorem sl_tupK (hK : X.K = K) : SlR X (rSlTA K) := hK ▸ sl_tupB
theorem op_catTK (hK : X.K = K) : OpR X (binaryOp .Add) (rCatTA K) := hK ▸ op_catT2
theorem pi_listK {tg l : Expr} {tl : TE} (hK : X.K = K) (hl : PE X l tl) : PI X tg l (iList K tl) := hK ▸ pi_list hl
theorem pi_tupK {tg l : Expr} {tl : TE} (hK : X.K = K) (hl : PE X l tl) : PI X tg l (iTup K tl) := hK ▸ pi_tup hl
theorem pe_bmK {T name id : String} {o e : Expr} {es : List Expr} {r : V → List V → Hp → VK → Prop} {to : TE} {t : TA} {apos cpos : Pos} (hK : X.K = K) (pa : PlainAttrs T) (slot : Slot T name id) (hty : typeOf (.builtin id) = pure (.type "method_descriptor")) (hm : MtR X id r) (ho : PE X o to) (ha : PA X (e :: es) t)
    (hbase : attributeBase o name X.env (eval o X.env) = eval o X.env := by rfl)
    (hfew : ((backTo cpos (starEach (e :: es) X.env)).all (fun x => !x.1) && (backToKw cpos (keywordEach [] X.env)).all (fun x => x.1.isSome) && decide ((e :: es).length + ([] : List Keyword).length + (if ([] : List Keyword).isEmpty then 0 else 1) < 30)) = true := by rfl)
    (hline : (apos.endLine == cpos.line) = true := by rfl) (hs : starEach (e :: es) X.env = (false, eval e X.env) :: starEach es X.env := by rfl) (hplain : (backTo cpos (starEach es X.env)).any (·.1) = false := by rfl) :
    PE X (.Call (.Attribute o name apos) (e :: es) [] cpos) (tBM K T r to t) := hK ▸ pe_bm pa slot hty hm ho ha hbase hfew hline hs hplain
end

/-! ### the deck: its cells at c, how many numbers were drawn -/
structure DkOk (cs : List Int) (n : Int) : Prop where
  len : cs.length ≤ 63
  pos : ∀ x ∈ cs, (0 : Int) ≤ x
  n0 : 0 ≤ n
structure Deck (H : Hp) (a c : Addr) (n : Int) : Prop where
  ex : ∃ cs : List Int, H a = some (.lst [.ref c, .int n]) ∧ H c = some (.lst (cs.map V.int)) ∧ DkOk cs n
theorem Deck.ne {H : Hp} {a c : Addr} {n : Int} (d : Deck H a c n) : a ≠ c := by
  obtain ⟨cs, h1, h2, ok⟩ := d.ex
  refine ne_of h1 h2 fun z => ?_
  have z1 := HO.lst.inj z
  cases cs with
  | nil => cases z1
  | cons x r => cases z1
theorem Deck.kp {S : List Addr} {H H' : Hp} {a c : Addr} {n : Int} (d : Deck H a c n) (k : Kp S H H') (ha : a ∉ S) (hc : c ∉ S) : Deck H' a c n := by
  obtain ⟨cs, h1, h2, ok⟩ := d.ex
  exact ⟨cs, k.keep _ _ h1 ha, k.keep _ _ h2 hc, ok⟩
theorem Deck.kp0 {H H' : Hp} {a c : Addr} {n : Int} (d : Deck H a c n) (k : Kp [] H H') : Deck H' a c n := d.kp k (by simp) (by simp)
theorem Deck.a_some {H : Hp} {a c : Addr} {n : Int} (d : Deck H a c n) : ∃ xs, H a = some (.lst xs) := by
  obtain ⟨cs, h1, h2, ok⟩ := d.ex
  exact ⟨_, h1⟩
theorem Deck.c_some {H : Hp} {a c : Addr} {n : Int} (d : Deck H a c n) : ∃ xs, H c = some (.lst xs) := by
  obtain ⟨cs, h1, h2, ok⟩ := d.ex
  exact ⟨_, h2⟩
/-- a new address is not the deck's -/
theorem Deck.off {H : Hp} {a c p : Addr} {n : Int} (d : Deck H a c n) (h : H p = none) : p ∉ [a, c] := by
  obtain ⟨xs, h1⟩ := d.a_some
  obtain ⟨ys, h2⟩ := d.c_some
  exact ne2 (ne_of_none h1 h).symm (ne_of_none h2 h).symm
abbrev MANY : Int := 1000000000
def spDraw : Sp := fun vs H Q _ => ∃ (a c : Addr) (n many : Int), vs = [.ref a, .int many] ∧ Deck H a c n ∧ n ≤ MANY ∧ 0 < many ∧ many.natAbs < 2 ^ 1000 ∧
  ∀ (r : Int) (H' : Hp), 0 ≤ r → r < many → Deck H' a c (n + 1) → Kp [a, c] H H' → Q (.int r) H'
def spDeck (K : PySem.W.Frag) : Sp := fun vs H Q _ => ∃ (s : Addr) (ns : List Int), vs = [.ref s] ∧ SqL K H s (ns.map V.int) ∧ ns.length ≤ 63 ∧
  ∀ (a c : Addr) (H' : Hp), H a = none → H c = none → Kp [] H H' → Deck H' a c 0 → Q (.ref a) H'
/-- an item of a list that is drawn -/
def spOne (K : PySem.W.Frag) : Sp := fun vs H Q _ => ∃ (a c l : Addr) (n : Int) (xs : List V), vs = [.ref a, .ref l] ∧ Deck H a c n ∧ n ≤ MANY ∧ SqL K H l xs ∧ l ∉ [a, c] ∧ 0 < xs.length ∧ xs.length ≤ 1000000 ∧
  ∀ (x : V) (H' : Hp), x ∈ xs → Deck H' a c (n + 1) → Kp [a, c] H H' → Q x H'
/-- a sign of a text that is drawn -/
def spOneS : Sp := fun vs H Q _ => ∃ (a c : Addr) (n : Int) (z : Str), vs = [.ref a, .str z] ∧ Deck H a c n ∧ n ≤ MANY ∧ 0 < z.length ∧ z.length ≤ 1000000 ∧ ∀ (ch : Nat) (H' : Hp), ch ∈ z.cps.toList → Deck H' a c (n + 1) → Kp [a, c] H H' → Q (.str ⟨#[ch]⟩) H'
def spOne2 (K : PySem.W.Frag) : Sp := fun vs H Q E => spOne K vs H Q E ∨ spOneS vs H Q E
theorem pow1000 {m : Nat} (h : m ≤ 1000000) : ((m : Int)).natAbs < 2 ^ 1000 := by
  have e : ((m : Int)).natAbs < 2 ^ 30 := by
    have e2 : (2 : Nat) ^ 30 = 1073741824 := by decide
    rw [e2]
    omega
  exact Nat.lt_of_lt_of_le e (Nat.pow_le_pow_right (by decide) (by decide))
/-- a def of the text, as the top has left it -/
structure DA (K : PySem.W.Frag) (mg : Str → Option Value) (x : Str) (st : Stmt) (ps : List Str) where
  f : Addr
  fd : FuncData
  F : Fun K x x st f fd
  b : Binds K fd ps []
  g : mg x = some (.ref f)
/-- a class of the text, a method of it -/
structure CA (K : PySem.W.Frag) (mg : Str → Option Value) (x : Str) where
  C : Addr
  cl : Cls K C
  g : mg x = some (.ref C)
  mks : PySem.W.makesIn K C = true
  kp : PySem.W.keepIn K (.ref C) = true
structure DM (K : PySem.W.Frag) (C : Addr) (m q : Str) (st : Stmt) (ps : List Str) where
  f : Addr
  fd : FuncData
  F : Fun K m q st f fd
  b : Binds K fd ps []
  m : Meth K C m f
theorem atI_mem {α : Type} {xs : List α} {i : Int} (h0 : 0 ≤ i) (h : i < (xs.length : Int)) : ∃ v, atI xs i = some v ∧ v ∈ xs := by
  have hi : i.toNat < xs.length := by omega
  have e : i = ((i.toNat : Nat) : Int) := by omega
  have q : atI xs ((i.toNat : Nat) : Int) = some xs[i.toNat] := atI_nat (List.getElem?_eq_getElem hi)
  rw [← e] at q
  exact ⟨xs[i.toNat], q, List.getElem_mem hi⟩
theorem ixN_nat {n : Nat} {i : Int} (h0 : 0 ≤ i) (h : i < (n : Int)) : ixN n i = some i.toNat := by
  unfold ixN
  rw [if_pos h0, if_pos h]
theorem isi_ss : kitB "str" "str" = some true := by decide +kernel
theorem isi_is : kitB "int" "str" = some false := by decide +kernel
theorem isi_ts : kitB "tuple" "str" = some false := by decide +kernel
theorem isi_si : kitB "str" "int" = some false := by decide +kernel
theorem isi_ii : kitB "int" "int" = some true := by decide +kernel
theorem isi_ti : kitB "tuple" "int" = some false := by decide +kernel
theorem isi_st : kitB "str" "tuple" = some false := by decide +kernel
theorem isi_it : kitB "int" "tuple" = some false := by decide +kernel
theorem isi_tt : kitB "tuple" "tuple" = some true := by decide +kernel
theorem cpow_of {i j : Int} (h : 0 ≤ j ∧ j ≤ 1000000 ∧ i.natAbs < 2 ^ 64) : CPow i j := h
theorem cmul_of {i j : Int} (h : -(2 ^ 64) < i ∧ i < 2 ^ 64) : CMul i j := .inl h
theorem cdivn_of {i j : Int} (h : j ≠ 0 ∧ j.natAbs < 1073741824) : CDivN i j := h
theorem lt_lit {n : Nat} (h : Nat.ble (n + 1) 1000 = true) : n < 1000 := Nat.le_of_ble_eq_true h
theorem le_lit {n : Nat} (h : Nat.ble n 1000 = true) : n ≤ 1000000 := Nat.le_trans (Nat.le_of_ble_eq_true h) (by decide)
theorem pos_lit {n : Nat} (h : Nat.ble 1 n = true) : 0 < n := Nat.le_of_ble_eq_true h
theorem sz_lit {n : Nat} (h : Nat.ble n 1000 = true) : n ≤ sizeLine := Nat.le_trans (Nat.le_of_ble_eq_true h) (by decide)
theorem sz_lt {n : Nat} (h : n ≤ 1000000) : n < sizeLine := Nat.lt_of_le_of_lt h (by decide)
theorem sz_le {n : Nat} (h : n ≤ 1000000) : n ≤ sizeLine := Nat.le_of_lt (sz_lt h)
/-! ### several statements, a word, then the rest -/
section
variable {X : Cx}
structure CutP (X : Cx) (l : List Stmt) (T u : TS) : Prop where
  run : ∀ (pins : List (Addr × Obj)) (s : Shared) (σ : St) (H : Hp) (D : Ends) (Mid : St → Hp → Prop), Inv X pins σ H s → T { D with nx := Mid } σ H → (∀ σ' H', Mid σ' H' → u D σ' H') → wpAny (model X.prog X.w) X.A (execs l X.env) (SP X pins D) X.xe s
theorem cp_one {st : Stmt} {rest : List Stmt} {t u : TS} (h1 : L2.PS X st t) (h2 : PSs X rest u) : CutP X (st :: rest) t u :=
  ⟨fun pins s σ H D Mid I hm hu => (C8.pss_cut h1 h2).run pins s σ H D I ⟨Mid, hm, hu⟩⟩
theorem cp_cons {st : Stmt} {rest : List Stmt} {t T u : TS} (h1 : L2.PS X st t) (h2 : CutP X rest T u) : CutP X (st :: rest) (tSeq t T) u := by
  refine ⟨fun pins s σ H D Mid I hm hu => ?_⟩
  refine wpAny_execs_cons (thn (h1.run pins s σ H { D with nx := T { D with nx := Mid } } I hm) fun f s1 q => ?_)
  cases f with
  | next =>
    obtain ⟨σ', H', I', q⟩ := q
    exact h2.run pins s1 σ' H' D Mid I' q hu
  | ret v => exact q
  | brk => exact q
  | cont => exact q
theorem pss_ofP {l : List Stmt} {T u : TS} (h : CutP X l T u) : PSs X l (tCutA T u) := by
  refine ⟨fun pins s σ H D I hm => ?_⟩
  obtain ⟨⟨Mid, h1, h2⟩⟩ := hm
  exact h.run pins s σ H D Mid I h1 h2
end
end EH
namespace EH
open PySem L2 PyProof.Rows
/-! ### defs that write texts of displays: nothing of that sort is under way around them -/
def Free (A : Around) : Prop := A.guards = some []
structure FnG (P : Program) (w : World) (K : PySem.W.Frag) (mg : Str → Option Value) (base : Heap) (CX : CXT) (k : Nat) (f : Addr) (fd : FuncData) (ps : List Str) (sp : Sp) : Prop where
  len : ∀ vs H Q E, sp vs H Q E → vs.length = ps.length
  run : ∀ (A : Around) (outer : List Env) (s : Shared) (H : Hp) (args : Args) (us : List Value) (vs : List V) (Q : VK) (E : XK),
    Free A → Room k A → Env0 P w K mg base A outer s H → BindsTo s fd args (ps.zip us) → Vals vs us → sp vs H Q E → codeAny (model P w) A (.call (.ref f) args) (CR CX outer P w H s Q E) s
section
variable {P : Program} {w : World} {K : PySem.W.Frag} {mg : Str → Option Value} {base : Heap} {CX : CXT}
theorem Fun.okG {x qual : Str} {st : Stmt} {f : Addr} {fd : FuncData} {N ps : List Str} {k : Nat} {sp : Sp} (F : Fun K x qual st f fd) (S : FnScope N ps (defScope st)) (len : ∀ vs H Q E, sp vs H Q E → vs.length = ps.length)
    (body : ∀ (cdv : Value) (A : Around) (outer : List Env) (s : Shared) (H : Hp) (vs : List V) (Q : VK) (E : XK), Free (A.deeper (envOfC qual (defScope st) s.heap.objs.size f cdv)) →
      Room k (A.deeper (envOfC qual (defScope st) s.heap.objs.size f cdv)) → sp vs H Q E →
      ∃ t, PSs (cxOf CX0 P w K mg base N qual (defScope st) f cdv A outer s H E).nox (defBody st) t ∧ t { nx := fun _ H' => Q .non H', rt := Q } (start N vs) H) : FnG P w K mg base CX0 (k + 1) f fd ps sp := by
  refine ⟨len, fun A outer s H args us vs Q E fr hr e0 hb r hsp => ?_⟩
  obtain ⟨oc, od, kV, doc, pm, an, cdv, ct, osl, rfl, lk, hcd⟩ := F.ex
  have hl := len _ _ _ _ hsp
  have KX : K.In s.heap := e0.mod.kin.keeps fun b o e => (e0.bs b o e).1
  have lim : s.heap.NoLimit := e0.mod.nolimit.keeps fun b o e => (e0.bs b o e).1
  have kinds : ∀ y ∈ ps.zip us, (defScope st).names.lookup y.1 = some .local ∨ ((defScope st).names.lookup y.1 = some .cell ∧ ((cellsFrom (s.heap.objs.size + 1) (defScope st).names []).lookup y.1).isSome = true) := by
    rintro ⟨n, v⟩ hy
    rcases S.par n (List.of_mem_zip hy).1 with q | q
    · exact .inl q
    · exact .inr ⟨q, PySem.W.cellsFrom_some _ _ _ (.inl q)⟩
  refine codeAny_call_function hr.depth (KX _ _ lk) rfl S.co S.gen rfl (PySem.W.codeRec_of KX hcd) (hb _ _ _ _ ?_)
  refine wpAny_newFunctionEnv_cells S.kind kinds fun env he s1 y => ?_
  subst he
  refine ⟨lim.keeps y.toInCall.keep, codeAny_func ?_⟩
  obtain ⟨t, ht, hq⟩ := body cdv A outer s H vs Q E fr (hr.deeper _) hsp
  have I0 : Inv (cxOf CX0 P w K mg base N qual (defScope st) f cdv A outer s H E) [] (start N vs) H s1 := inv_start S hr.hd e0 hl r y
  refine wpAny_mono (ht.nox.run [] s1 (start N vs) H _ I0 hq) (fun fl s' hs => ?_) fun _ _ z => z
  have close : ∀ {σ' : L2.St} {H' : Hp} {v : V} {u : Value}, Inv (cxOf CX0 P w K mg base N qual (defScope st) f cdv A outer s H E) [] σ' H' s' → RelV v u → Q v H' → CE outer P w H s Q u s' :=
    fun J rv q => ⟨_, _, J.os, J.bare, J.base, J.hok, rv, q⟩
  cases fl with
  | ret u => obtain ⟨v, σ', H', J, rv, q⟩ := hs; exact close J rv q
  | next => obtain ⟨σ', H', J, q⟩ := hs; exact close (v := V.non) (u := Value.none) J rfl q
  | brk => obtain ⟨_, _, _, q⟩ := hs; exact q.elim
  | cont => obtain ⟨_, _, _, q⟩ := hs; exact q.elim
end
section
variable {X : Cx} {CX : CXT} {k : Nat} {f C : Addr} {fd : FuncData} {ps : List Str} {sp : Sp} {dvs : List V} {ds : List Value} {E : XK} {x m : Str} {p pos apos : Pos} {e o : Expr} {es : List Expr} {ta : TE} {t : TA}
end
/-! ### repr -/
section
variable {X : Cx}
/-- repr of data: the text of the data -/
def rReprD (K : PySem.W.Frag) : List V → Hp → VK → Prop := fun xs H Q => ∃ x d, xs = [x] ∧ Dp K H x d ∧ d.showable = true ∧ d.shown.length ≤ sizeLine ∧ d.depth ≤ 60 ∧ Q (.str d.shown) H
theorem call_reprD (fr : Free X.A) (hu : X.A.units + 64 < cLine) : CallR X (.builtin "repr") (rReprD X.K) := by
  intro pins s σ H xs us Q I r h
  obtain ⟨x, d, rfl, hd, sh, sz, dp, q⟩ := h
  obtain ⟨u, rfl, rx⟩ := vals1 r
  obtain ⟨as, rd⟩ := Dp.reads I d x u hd rx
  have nd : d.hasDict = false := by
    have all : ∀ (d : PyData) (v : V), Dp X.K H v d → d.hasDict = false := by
      intro d v h
      exact Dp.rec (motive_1 := fun v d _ => d.hasDict = false) (motive_2 := fun vs ds _ => PyData.hasDictAll ds = false) (by simp only [PyData.hasDict]) (fun _ => by simp only [PyData.hasDict]) (fun _ => by simp only [PyData.hasDict])
        (fun _ => by simp only [PyData.hasDict]) (fun _ _ ih => by simp only [PyData.hasDict]; exact ih) (fun _ _ ih => by simp only [PyData.hasDict]; exact ih) (by simp only [PyData.hasDictAll]) (fun _ _ i1 i2 => by simp only [PyData.hasDictAll, i1, i2, Bool.or_self]) h
    exact all d x hd
  cases hd with
  | non => cases (show u = Value.none from rx); exact PySem.P.repr_of_none ⟨.str _, H, I.tok _, ⟨_, rfl⟩, q⟩
  | bl b =>
    cases (show u = Value.bool b from rx)
    refine PySem.P.repr_of_bool ⟨.str _, H, I.tok _, ⟨_, rfl⟩, ?_⟩
    rw [PyData.shown_bool] at q
    exact q
  | int i =>
    obtain ⟨t, rfl⟩ := (show ∃ t, u = Value.int i t from rx)
    refine PySem.P.repr_of_int (by simpa [PyData.showable] using sh) ⟨.str _, H, I.tok _, ⟨_, rfl⟩, ?_⟩
    rw [PyData.shown_int] at q
    exact q
  | str y =>
    obtain ⟨t, rfl⟩ := (show ∃ t, u = Value.str y t from rx)
    refine PySem.P.repr_of_str ⟨.str _, H, I.tok _, ⟨_, rfl⟩, ?_⟩ ?_
    · simp only [PyData.shown] at q; exact q
    · simp only [PyData.shown] at sz; exact sz
  | lst h1 h2 =>
    cases rx
    exact repr_of_reads' rd sh (PyData.noDict_hsm nd) fr (by omega) (fun _ _ z => z) (fun h' t tk hk => ⟨.str _, H, I.kept hk, ⟨_, rfl⟩, q⟩) sz
  | tup h1 h2 =>
    cases rx
    exact repr_of_reads' rd sh (PyData.noDict_hsm nd) fr (by omega) (fun _ _ z => z) (fun h' t tk hk => ⟨.str _, H, I.kept hk, ⟨_, rfl⟩, q⟩) sz
end
/-! ### a law's own head, its def of the kind FnG -/
section
variable {P : Program} {w : World} {K : PySem.W.Frag} {mg mb : Str → Option Value} {CX : CXT} {k : Nat} {fa a : Addr} {fd : FuncData} {x : Str} {sp : Sp} {s₁ : Shared} {vs : List Value} {ns : List Int}
theorem law_coreG (KX : K.In s₁.heap) (hns : s₁.heap.Ns mainGlobals mg) (hb : s₁.heap.Ns builtinsNs mb) (hbb : ∀ x : Str, x ≠ "__name__" → mb x = bootBuiltins x) (hlim : s₁.heap.NoLimit) (hg : s₁.gens = #[])
    (ha : s₁.heap.get? a = some { cls := .type "list", data := .seq vs.toArray }) (hr : Room k callerA)
    (F : ∀ base : Heap, K.In base → base.Ns mainGlobals mg → FnG P w K mg base CX k fa fd [x] sp) (hbind : ∀ (s : Shared) (u : Value), BindsTo s fd ⟨[u], []⟩ [(x, u)])
    (hCX : ∀ H e s', CX [] H s₁ (fun _ _ _ => False) e s' → False) (H : Hp) (hO : Only H) (hsp : sp [.ref a] H (fun v _ => v = .bl true) fun _ _ _ => False) (hok : HOk P w H s₁.heap) (hA : ∀ b, H b ≠ none → b = a) (hK : H a ≠ none → K.lookup a = none) :
    codeAny (model P w) callerA (.call (.ref fa) ⟨[.ref a], []⟩) (fun r s' => r = .ok (.ret (.bool true)) ∧ OldK s₁.heap s'.heap ∧ s'.os = s₁.os ∧ AllBare s'.gens) s₁ := by
  have un_a : ∀ {b : Addr}, b ≠ a → H b = none := fun {b} h => by
    cases q : H b with
    | none => rfl
    | some u => exact absurd (hA b (by rw [q]; exact fun z => nomatch z)) h
  have dictFree : ∀ {b : Addr} {o : Obj} {es : Array DictEntry} {ep : Nat}, s₁.heap.get? b = some o → o.data = .dict es ep → H b = none := fun {b o es ep} e d => by
    refine un_a fun z => ?_
    subst z
    rw [ha] at e
    cases e
    cases (show Data.seq vs.toArray _ = Data.dict es ep from d)
  have nsK : ∀ {b : Addr} {m : Str → Option Value}, s₁.heap.Ns b m → (hidT s₁.heap H).Ns b m := fun ⟨o, es, ep, e, d, r⟩ => ⟨o, es, ep, hidT_get e (dictFree e d), d, r⟩
  have kin : K.In (hidT s₁.heap H) := fun b o e => by
    refine hidT_get (KX b o e) ?_
    by_cases z : b = a
    · subst z
      cases q : H b with
      | none => rfl
      | some u => rw [hK (by rw [q]; exact fun z => nomatch z)] at e; cases e
    · exact un_a z
  have md : Mod K mg (hidT s₁.heap H) := ⟨kin, nsK hns, ⟨mb, nsK hb, hbb⟩, by obtain ⟨mc, h1, h2⟩ := hlim; exact ⟨mc, nsK h1, h2⟩⟩
  have e0 : Env0 P w K mg (hidT s₁.heap H) callerA [] s₁ H := ⟨rfl, md, fun _ _ e => of_hidT e, Nat.le_of_eq (hidT_size _ _), trivial, (fun b z => absurd (show b ∈ ([] : List Addr) from z) (by simp)), hok, .of_eq hg⟩
  refine codeAny_mono ((F _ kin (nsK hns)).run callerA [] s₁ H ⟨[.ref a], []⟩ [.ref a] [.ref a] _ _ rfl hr e0 (hbind s₁ (.ref a)) (.cons rfl .nil) hsp) fun r s' h => ?_
  cases r with
  | error e => exact (hCX H e s' h).elim
  | ok fl => cases fl with
    | next => exact h.elim
    | brk => exact h.elim
    | cont => exact h.elim
    | ret u =>
      obtain ⟨v, H', os, bare, un, hok', rv, q⟩ := h
      cases (show v = .bl true from q)
      cases (show u = Value.bool true from rv)
      refine ⟨rfl, OldK.of_keep fun b o e => ?_, os, bare⟩
      rcases hO b with z | ⟨ob, xs, z⟩
      · exact un.keep b o e z (fun y => nomatch (show b ∈ ([] : List Addr) from y)) (fun y => nomatch y)
      · obtain ⟨e1, _⟩ := hok b _ z
        obtain ⟨e2, _⟩ := hok' b _ (un.frzs b ob _ z)
        rw [e] at e1
        cases e1
        exact e2
theorem law_callG (KX : K.In s₁.heap) (hns : s₁.heap.Ns mainGlobals mg) (hb : s₁.heap.Ns builtinsNs mb) (hbb : ∀ x : Str, x ≠ "__name__" → mb x = bootBuiltins x) (hlim : s₁.heap.NoLimit) (hg : s₁.gens = #[])
    (ha : s₁.heap.get? a = some { cls := .type "list", data := .seq vs.toArray }) (hi : IntsAre vs ns) (hl : ns.length ≤ sizeLine) (hr : Room k callerA)
    (F : ∀ base : Heap, K.In base → base.Ns mainGlobals mg → FnG P w K mg base CX k fa fd [x] sp) (hbind : ∀ (s : Shared) (u : Value), BindsTo s fd ⟨[u], []⟩ [(x, u)])
    (hsp : ∀ H : Hp, Only H → SqL K H a (ns.map V.int) → sp [.ref a] H (fun v _ => v = .bl true) fun _ _ _ => False) (hCX : ∀ H e s', CX [] H s₁ (fun _ _ _ => False) e s' → False) :
    codeAny (model P w) callerA (.call (.ref fa) ⟨[.ref a], []⟩) (fun r s' => r = .ok (.ret (.bool true)) ∧ OldK s₁.heap s'.heap ∧ s'.os = s₁.os ∧ AllBare s'.gens) s₁ := by
  have rv := vals_ints hi
  have core := law_coreG (k := k) (fa := fa) (sp := sp) KX hns hb hbb hlim hg ha hr F hbind hCX
  cases hk : K.lookup a with
  | some o =>
    have e := KX a o hk
    rw [ha] at e
    cases e
    have hS : SqL K (fun _ => none) a (ns.map V.int) := .inr ⟨_, vs.toArray, _, hk, rfl, rfl, rfl, by rw [List.size_toArray, hi.length]; exact hl, by simpa using rv⟩
    exact core (fun _ => none) (fun _ => .inl rfl) (hsp _ (fun _ => .inl rfl) hS) (fun b u z => nomatch (show (none : Option HO) = some u from z)) (fun b z => absurd rfl z) fun z => absurd rfl z
  | none =>
    have at_a : ∀ b : Addr, b = a → (fun b => if b = a then some (HO.frz { cls := .type "list", data := .seq vs.toArray } (.lst (ns.map V.int))) else none) b = some (.frz { cls := .type "list", data := .seq vs.toArray } (.lst (ns.map V.int))) := fun b z => if_pos z
    have off_a : ∀ b : Addr, b ≠ a → (fun b => if b = a then some (HO.frz { cls := .type "list", data := .seq vs.toArray } (.lst (ns.map V.int))) else none) b = none := fun b z => if_neg z
    generalize (fun b => if b = a then some (HO.frz { cls := .type "list", data := .seq vs.toArray } (.lst (ns.map V.int))) else none) = H0 at at_a off_a
    have only : Only H0 := fun b => by
      by_cases z : b = a
      · exact .inr ⟨_, _, at_a b z⟩
      · exact .inl (off_a b z)
    refine core H0 only (hsp H0 only (.inl (.inr ⟨_, at_a a rfl⟩))) (fun b u z => ?_) (fun b z => ?_) fun _ => hk
    · by_cases y : b = a
      · have e := (at_a b y).symm.trans z
        cases e
        subst y
        exact ⟨ha, by rw [List.length_map]; exact hl, vs, _, rv, ha⟩
      · exact nomatch (off_a b y).symm.trans z
    · by_cases y : b = a
      · exact y
      · exact absurd (off_a b y) z
end
def spLaw (K : PySem.W.Frag) : Sp := fun vs H Q _ => ∃ (a : Addr) (ns : List Int), vs = [.ref a] ∧ SqL K H a (ns.map V.int) ∧ ns.length ≤ 63 ∧ ∀ H', Q (.bl true) H'
/-! ### t[::-1] of a tuple -/
section
variable {prog : Program} {w : World} {A : Around} {E : Value → Shared → Prop} {s : Shared}
end
section
variable {X : Cx}
end
section
variable {X : Cx} {K : PySem.W.Frag}
end
theorem walk_ofGX {l : PySem.W.OpenLaw} {n k : Nat} {q : Program} {loose : List Str} {XP : (Str → Option Value) → Heap → Prop} {YP : World → Heap → Prop} {d : DefRec} {x : Str}
    (hn : l.most = some n) (hn2 : n ≤ sizeLine) (hn63 : n ≤ 63) (hdf : d.params.defaults = []) (hr : Room k callerA)
    (F : ∀ (w : World) (mg : Str → Option Value) (fa : Addr) (h : Heap), YP w h → h.Ns mainGlobals mg → mg d.name = some (.ref fa) →
      ∃ (K : PySem.W.Frag) (fd : FuncData), K.In h ∧ (∀ (s : Shared) (u : Value), BindsTo s fd ⟨[u], []⟩ [(x, u)]) ∧ ∀ base : Heap, K.In base → base.Ns mainGlobals mg → FnG l.prog w K mg base CX0 k fa fd [x] (spLaw K)) :
    PySem.W.WalkO q loose XP YP l.row.toRowW d [] (fun f vs => PySem.call f vs) := by
  refine Att.attach_call hn hdf fun w s₀ s₁ mg mb fa o pm cd doc a vs ns G Y ho hd hcd hmg hobj hints hlen hg => ?_
  obtain ⟨K, fd, KX, hb, hF⟩ := F w mg fa _ Y G.T.g hmg
  exact law_callG KX G.T.g G.T.b G.T.builtins G.T.nolimit hg hobj hints (Nat.le_trans hlen hn2) hr hF hb (fun H _ hS => ⟨a, ns, rfl, hS, Nat.le_trans hlen hn63, fun _ => rfl⟩) fun _ _ _ z => z
end EH
namespace EH
open PySem L2
/-! ### programs as plain data -/
inductive Ex where
  | num (i : Int) | var (x : Str) | plus (a b : Ex) | minus (a b : Ex) | times (k : Int) (a : Ex)
inductive Ts where
  | less (a b : Ex) | odd (a : Ex) | not (t : Ts)
inductive Sm where
  | set (x : Str) (e : Ex) | half (x : Str) (e : Ex) | tell (e : Ex) | say (w : Str) | stop (w : Str)
  | ite (t : Ts) (yes no : List Sm) | rep (k : Nat) (b : List Sm)
/-! what a value is in the heap: tuples of tuples, ints, texts -/
mutual
def Tr (H : Hp) : PyData → V → Prop
  | .none, v => v = .non
  | .bool b, v => v = .bl b
  | .int i, v => v = .int i
  | .str x, v => v = .str x
  | .tuple ds, v => ∃ a xs, v = .ref a ∧ H a = some (.tup xs) ∧ TrAll H ds xs
  | .list _, _ => False
  | .dict _, _ => False
def TrAll (H : Hp) : List PyData → List V → Prop
  | [], xs => xs = []
  | d :: ds, xs => ∃ v vs, xs = v :: vs ∧ Tr H d v ∧ TrAll H ds vs
end
mutual
theorem Tr.mono {H H' : Hp} (k : ∀ b xs, H b = some (.tup xs) → H' b = some (.tup xs)) : ∀ (d : PyData) (v : V), Tr H d v → Tr H' d v
  | .none, v, h => by simp only [Tr] at h ⊢; exact h
  | .bool b, v, h => by simp only [Tr] at h ⊢; exact h
  | .int i, v, h => by simp only [Tr] at h ⊢; exact h
  | .str x, v, h => by simp only [Tr] at h ⊢; exact h
  | .tuple ds, v, h => by
    simp only [Tr] at h ⊢
    obtain ⟨a, xs, e, h1, h2⟩ := h
    exact ⟨a, xs, e, k a xs h1, TrAll.mono k ds xs h2⟩
  | .list _, v, h => by simp only [Tr] at h
  | .dict _, v, h => by simp only [Tr] at h
theorem TrAll.mono {H H' : Hp} (k : ∀ b xs, H b = some (.tup xs) → H' b = some (.tup xs)) : ∀ (ds : List PyData) (vs : List V), TrAll H ds vs → TrAll H' ds vs
  | [], vs, h => by simp only [TrAll] at h ⊢; exact h
  | d :: ds, vs, h => by
    simp only [TrAll] at h ⊢
    obtain ⟨v, r, e, h1, h2⟩ := h
    exact ⟨v, r, e, Tr.mono k d v h1, TrAll.mono k ds r h2⟩
end
theorem Kp.tr {S : List Addr} {H H' : Hp} {d : PyData} {v : V} (k : Kp S H H') (h : Tr H d v) : Tr H' d v := Tr.mono k.tup d v h
theorem Kp.trAll {S : List Addr} {H H' : Hp} {d : List PyData} {v : List V} (k : Kp S H H') (h : TrAll H d v) : TrAll H' d v := TrAll.mono k.tup d v h
mutual
theorem Tr.dp {K : PySem.W.Frag} {H : Hp} : ∀ (d : PyData) (v : V), Tr H d v → Dp K H v d
  | .none, v, h => by simp only [Tr] at h; subst h; exact .non
  | .bool b, v, h => by simp only [Tr] at h; subst h; exact .bl b
  | .int i, v, h => by simp only [Tr] at h; subst h; exact .int i
  | .str x, v, h => by simp only [Tr] at h; subst h; exact .str x
  | .tuple ds, v, h => by
    simp only [Tr] at h
    obtain ⟨a, xs, e, h1, h2⟩ := h
    subst e
    exact .tup (SqT.of h1) (TrAll.dp ds xs h2)
  | .list _, v, h => by simp only [Tr] at h
  | .dict _, v, h => by simp only [Tr] at h
theorem TrAll.dp {K : PySem.W.Frag} {H : Hp} : ∀ (ds : List PyData) (vs : List V), TrAll H ds vs → DpAll K H vs ds
  | [], vs, h => by simp only [TrAll] at h; subst h; exact .nil
  | d :: ds, vs, h => by
    simp only [TrAll] at h
    obtain ⟨v, r, e, h1, h2⟩ := h
    subst e
    exact .cons (Tr.dp d v h1) (TrAll.dp ds r h2)
end
theorem TrAll.length {H : Hp} : ∀ {ds : List PyData} {vs : List V}, TrAll H ds vs → vs.length = ds.length
  | [], vs, h => by simp only [TrAll] at h; subst h; rfl
  | d :: ds, vs, h => by
    simp only [TrAll] at h
    obtain ⟨v, r, e, h1, h2⟩ := h
    subst e
    rw [List.length_cons, List.length_cons, TrAll.length h2]
theorem TrAll.get {H : Hp} : ∀ {ds : List PyData} {vs : List V} {i : Nat} {d : PyData}, TrAll H ds vs → ds[i]? = some d → ∃ v, vs[i]? = some v ∧ Tr H d v
  | [], vs, i, d, h, e => by simp at e
  | d :: ds, vs, 0, d', h, e => by
    simp only [TrAll] at h
    obtain ⟨v, r, rfl, h1, h2⟩ := h
    cases e
    exact ⟨v, rfl, h1⟩
  | d :: ds, vs, i + 1, d', h, e => by
    simp only [TrAll] at h
    obtain ⟨v, r, rfl, h1, h2⟩ := h
    exact TrAll.get (i := i) h2 e
theorem TrAll.append {H : Hp} : ∀ {ds es : List PyData} {vs ws : List V}, TrAll H ds vs → TrAll H es ws → TrAll H (ds ++ es) (vs ++ ws)
  | [], es, vs, ws, h, g => by simp only [TrAll] at h; subst h; exact g
  | d :: ds, es, vs, ws, h, g => by
    simp only [TrAll] at h
    obtain ⟨v, r, rfl, h1, h2⟩ := h
    simp only [List.cons_append, TrAll]
    exact ⟨v, r ++ ws, rfl, h1, TrAll.append h2 g⟩
/-! what a tuple is -/
theorem tr_int {H : Hp} {i : Int} {v : V} (h : Tr H (.int i) v) : v = .int i := by simp only [Tr] at h; exact h
theorem tr_str {H : Hp} {x : Str} {v : V} (h : Tr H (.str x) v) : v = .str x := by simp only [Tr] at h; exact h
theorem tr_tup {H : Hp} {ds : List PyData} {v : V} (h : Tr H (.tuple ds) v) : ∃ a xs, v = .ref a ∧ H a = some (.tup xs) ∧ TrAll H ds xs := by simp only [Tr] at h; exact h
theorem tr_tup2 {H : Hp} {d1 d2 : PyData} {v : V} (h : Tr H (.tuple [d1, d2]) v) : ∃ a x1 x2, v = .ref a ∧ H a = some (.tup [x1, x2]) ∧ Tr H d1 x1 ∧ Tr H d2 x2 := by
  simp only [Tr, TrAll] at h
  obtain ⟨a, xs, rfl, h1, x1, _, rfl, t1, x2, _, rfl, t2, rfl⟩ := h
  exact ⟨a, x1, x2, rfl, h1, t1, t2⟩
theorem tr_tup3 {H : Hp} {d1 d2 d3 : PyData} {v : V} (h : Tr H (.tuple [d1, d2, d3]) v) : ∃ a x1 x2 x3, v = .ref a ∧ H a = some (.tup [x1, x2, x3]) ∧ Tr H d1 x1 ∧ Tr H d2 x2 ∧ Tr H d3 x3 := by
  simp only [Tr, TrAll] at h
  obtain ⟨a, xs, rfl, h1, x1, _, rfl, t1, x2, _, rfl, t2, x3, _, rfl, t3, rfl⟩ := h
  exact ⟨a, x1, x2, x3, rfl, h1, t1, t2, t3⟩
theorem tr_tup4 {H : Hp} {d1 d2 d3 d4 : PyData} {v : V} (h : Tr H (.tuple [d1, d2, d3, d4]) v) : ∃ a x1 x2 x3 x4, v = .ref a ∧ H a = some (.tup [x1, x2, x3, x4]) ∧ Tr H d1 x1 ∧ Tr H d2 x2 ∧ Tr H d3 x3 ∧ Tr H d4 x4 := by
  simp only [Tr, TrAll] at h
  obtain ⟨a, xs, rfl, h1, x1, _, rfl, t1, x2, _, rfl, t2, x3, _, rfl, t3, x4, _, rfl, t4, rfl⟩ := h
  exact ⟨a, x1, x2, x3, x4, rfl, h1, t1, t2, t3, t4⟩
theorem mk_tup {H : Hp} {ds : List PyData} {a : Addr} {xs : List V} (h : H a = some (.tup xs)) (t : TrAll H ds xs) : Tr H (.tuple ds) (.ref a) := by simp only [Tr]; exact ⟨a, xs, rfl, h, t⟩
theorem trs_nil {H : Hp} : TrAll H [] [] := by simp only [TrAll]
theorem trs_cons {H : Hp} {d : PyData} {ds : List PyData} {v : V} {vs : List V} (h : Tr H d v) (t : TrAll H ds vs) : TrAll H (d :: ds) (v :: vs) := by simp only [TrAll]; exact ⟨v, vs, rfl, h, t⟩
theorem mk_int {H : Hp} {i : Int} : Tr H (.int i) (.int i) := by simp only [Tr]
theorem mk_str {H : Hp} {x : Str} : Tr H (.str x) (.str x) := by simp only [Tr]
theorem mk_non {H : Hp} : Tr H .none .non := by simp only [Tr]
/-! their data -/
def Ex.d : Ex → PyData
  | .num i => .int i
  | .var x => .str x
  | .plus a b => .tuple [.str "plus", a.d, b.d]
  | .minus a b => .tuple [.str "minus", a.d, b.d]
  | .times k a => .tuple [.str "times", .int k, a.d]
def Ts.d : Ts → PyData
  | .less a b => .tuple [.str "less", a.d, b.d]
  | .odd a => .tuple [.str "odd", a.d]
  | .not t => .tuple [.str "not", t.d]
mutual
def Sm.d : Sm → PyData
  | .set x e => .tuple [.str "set", .str x, e.d]
  | .half x e => .tuple [.str "half", .str x, e.d]
  | .tell e => .tuple [.str "tell", e.d]
  | .say w => .tuple [.str "say", .str w]
  | .stop w => .tuple [.str "stop", .str w]
  | .ite t y n => .tuple [.str "if", t.d, .tuple (Sm.ds y), .tuple (Sm.ds n)]
  | .rep k b => .tuple [.str "repeat", .int k, .tuple (Sm.ds b)]
def Sm.ds : List Sm → List PyData
  | [] => []
  | s :: r => s.d :: Sm.ds r
end
/-! ### what they are worth -/
def Ex.ev (env : Str → Int) : Ex → Int
  | .num i => i
  | .var x => env x
  | .plus a b => a.ev env + b.ev env
  | .minus a b => a.ev env - b.ev env
  | .times k a => k * a.ev env
def Ts.ev (env : Str → Int) : Ts → Bool
  | .less a b => decide (a.ev env < b.ev env)
  | .odd a => decide ((a.ev env) % 2 = 1)
  | .not t => !t.ev env
/-- a name that can be shown -/
def NmOk (x : Str) : Prop := PyData.strOk x = true ∧ x.length ≤ 1000
/-- factors are small -/
def Ex.ok : Ex → Prop
  | .num i => -99 ≤ i ∧ i ≤ 99
  | .var x => NmOk x
  | .plus a b => a.ok ∧ b.ok
  | .minus a b => a.ok ∧ b.ok
  | .times k a => -9 ≤ k ∧ k ≤ 9 ∧ a.ok
def Ex.deep : Ex → Nat
  | .num _ => 1
  | .var _ => 1
  | .plus a b => max a.deep b.deep + 1
  | .minus a b => max a.deep b.deep + 1
  | .times _ a => a.deep + 1
/-! ### places -/
mutual
def Sm.pl : Sm → Nat
  | .ite _ y n => 1 + (Sm.pls y + Sm.pls n)
  | .rep _ b => 1 + Sm.pls b
  | .set _ _ => 1
  | .half _ _ => 1
  | .tell _ => 1
  | .say _ => 1
  | .stop _ => 1
def Sm.pls : List Sm → Nat
  | [] => 0
  | s :: r => s.pl + Sm.pls r
end
mutual
def Sm.nest : Sm → Nat
  | .ite _ y n => max (Sm.nests y) (Sm.nests n) + 1
  | .rep _ b => Sm.nests b + 1
  | .set _ _ => 0
  | .half _ _ => 0
  | .tell _ => 0
  | .say _ => 0
  | .stop _ => 0
def Sm.nests : List Sm → Nat
  | [] => 0
  | s :: r => max s.nest (Sm.nests r)
end
def Sm.blks : Sm → List (List Sm)
  | .ite _ y n => [y, n]
  | .rep _ b => [b]
  | .set _ _ => []
  | .half _ _ => []
  | .tell _ => []
  | .say _ => []
  | .stop _ => []
theorem Sm.pl_blks : ∀ s : Sm, s.pl = 1 + ((Sm.blks s).map Sm.pls).sum
  | .ite _ y n => by simp [Sm.pl, Sm.blks]
  | .rep _ b => by simp [Sm.pl, Sm.blks]
  | .set _ _ => by simp [Sm.pl, Sm.blks]
  | .half _ _ => by simp [Sm.pl, Sm.blks]
  | .tell _ => by simp [Sm.pl, Sm.blks]
  | .say _ => by simp [Sm.pl, Sm.blks]
  | .stop _ => by simp [Sm.pl, Sm.blks]
theorem Sm.pl_pos (s : Sm) : 0 < s.pl := by rw [Sm.pl_blks]; omega
theorem Sm.len_pls : ∀ l : List Sm, l.length ≤ Sm.pls l
  | [] => by simp
  | s :: r => by
    have := Sm.len_pls r
    have := s.pl_pos
    simp only [Sm.pls, List.length_cons]
    omega
theorem Sm.nest_mem : ∀ {l : List Sm} {s : Sm}, s ∈ l → s.nest ≤ Sm.nests l
  | [], s, h => by cases h
  | t :: r, s, h => by
    simp only [Sm.nests]
    rcases List.mem_cons.mp h with rfl | h
    · omega
    · have := Sm.nest_mem h
      omega
theorem Sm.pl_mem : ∀ {l : List Sm} {s : Sm}, s ∈ l → s.pl ≤ Sm.pls l
  | [], s, h => by cases h
  | t :: r, s, h => by
    simp only [Sm.pls]
    rcases List.mem_cons.mp h with rfl | h
    · omega
    · have := Sm.pl_mem h
      omega
theorem Sm.blk_nest : ∀ {s : Sm} {b : List Sm}, b ∈ s.blks → Sm.nests b + 1 ≤ s.nest
  | .ite _ y n, b, h => by
    simp only [Sm.blks, List.mem_cons, List.not_mem_nil, or_false] at h
    simp only [Sm.nest]
    rcases h with rfl | rfl <;> omega
  | .rep _ _, b, h => by
    simp only [Sm.blks, List.mem_cons, List.not_mem_nil, or_false] at h
    subst h
    simp only [Sm.nest]
    omega
  | .set _ _, b, h => by simp [Sm.blks] at h
  | .half _ _, b, h => by simp [Sm.blks] at h
  | .tell _, b, h => by simp [Sm.blks] at h
  | .say _, b, h => by simp [Sm.blks] at h
  | .stop _, b, h => by simp [Sm.blks] at h
theorem Sm.blk_pls : ∀ {s : Sm} {b : List Sm}, b ∈ s.blks → Sm.pls b + 1 ≤ s.pl
  | .ite _ y n, b, h => by
    simp only [Sm.blks, List.mem_cons, List.not_mem_nil, or_false] at h
    simp only [Sm.pl]
    rcases h with rfl | rfl <;> omega
  | .rep _ _, b, h => by
    simp only [Sm.blks, List.mem_cons, List.not_mem_nil, or_false] at h
    subst h
    simp only [Sm.pl]
    omega
  | .set _ _, b, h => by simp [Sm.blks] at h
  | .half _ _, b, h => by simp [Sm.blks] at h
  | .tell _, b, h => by simp [Sm.blks] at h
  | .say _, b, h => by simp [Sm.blks] at h
  | .stop _, b, h => by simp [Sm.blks] at h
theorem Sm.blks_le : ∀ s : Sm, s.blks.length ≤ 2
  | .ite _ y n => by simp [Sm.blks]
  | .rep _ b => by simp [Sm.blks]
  | .set _ _ => by simp [Sm.blks]
  | .half _ _ => by simp [Sm.blks]
  | .tell _ => by simp [Sm.blks]
  | .say _ => by simp [Sm.blks]
  | .stop _ => by simp [Sm.blks]
theorem Sm.ds_map : ∀ l : List Sm, Sm.ds l = l.map Sm.d
  | [] => by simp [Sm.ds]
  | s :: r => by simp [Sm.ds, Sm.ds_map r]
def sp0 (f : Nat → Sp) : Nat → Sp
  | 0 => fun _ _ _ _ => False
  | n + 1 => f n
theorem fn_no {P : Program} {w : World} {K : PySem.W.Frag} {mg : Str → Option Value} {base : Heap} {k : Nat} {f : Addr} {fd : FuncData} {ps : List Str} {sp : Sp} (no : ∀ vs H Q E, ¬ sp vs H Q E) : FnOk P w K mg base CX0 k f fd ps sp :=
  ⟨fun vs H Q E h => absurd h (no vs H Q E), fun A outer s H args us vs Q E _ _ _ _ h => absurd h (no vs H Q E)⟩
/-! ### the names of a run -/
def EnvRel (kvs : List (Key × V)) (env : Str → Int) : Prop := ∀ y : Str, (valV kvs (Sum.inr y)).getD (.int 0) = .int (env y)
/-- expressions at most three deep -/
def Ts.ok : Ts → Prop
  | .less a b => (a.ok ∧ a.deep ≤ 3) ∧ b.ok ∧ b.deep ≤ 3
  | .odd a => a.ok ∧ a.deep ≤ 3
  | .not t => t.ok
def Ts.nots : Ts → Nat
  | .less _ _ => 0
  | .odd _ => 0
  | .not t => t.nots + 1
theorem Ex.deep_pos : ∀ e : Ex, 0 < e.deep
  | .num _ => Nat.one_pos
  | .var _ => Nat.one_pos
  | .plus _ _ => Nat.succ_pos _
  | .minus _ _ => Nat.succ_pos _
  | .times _ _ => Nat.succ_pos _
theorem dec_int (a b : Int) : decide (V.int a = V.int b) = decide (a = b) := decide_eq_decide.mpr ⟨fun h => V.int.inj h, fun h => by rw [h]⟩
/-! ### runs as plain functions -/
structure Cs where
  env : Str → Int
  said : List Key
  turns : List Int
def setE (env : Str → Int) (x : Str) (v : Int) : Str → Int := fun y => if y = x then v else env y
section
variable (dec : Nat → Int → Int → Int) (ways : Int → Option Int)
def halv (s : Cs) (v p : Int) : Int × Cs :=
  if v % 2 = 0 then (v / 2, s) else
    match ways p with
    | some c => (v / 2 + c, s)
    | none => (v / 2 + dec s.turns.length v p, { s with turns := s.turns ++ [dec s.turns.length v p] })
def iterN : Nat → (Cs → Option Str × Cs) → Cs → Option Str × Cs
  | 0, _, s => (none, s)
  | n + 1, f, s => match f s with
    | (some c, s') => (some c, s')
    | (none, s') => iterN n f s'
mutual
def Sm.run : Sm → Int → Cs → Option Str × Cs
  | .set x e, _, s => (none, { s with env := setE s.env x (e.ev s.env) })
  | .half x e, p, s => (none, { (halv dec ways s (e.ev s.env) p).2 with env := setE s.env x (halv dec ways s (e.ev s.env) p).1 })
  | .tell e, _, s => (none, { s with said := s.said ++ [Sum.inl (e.ev s.env)] })
  | .say c, _, s => (none, { s with said := s.said ++ [Sum.inr c] })
  | .stop c, _, s => (some c, s)
  | .ite t y n, p, s => if t.ev s.env then Sm.runs y (p + 1) s else Sm.runs n (p + 1 + (Sm.pls y : Int)) s
  | .rep k b, p, s => iterN k (fun s => Sm.runs b (p + 1) s) s
def Sm.runs : List Sm → Int → Cs → Option Str × Cs
  | [], _, s => (none, s)
  | t :: r, p, s => match t.run p s with
    | (some c, s') => (some c, s')
    | (none, s') => Sm.runs r (p + (t.pl : Int)) s'
end
end
mutual
def Sm.wt : Sm → Nat
  | .ite _ y n => 1 + (Sm.wts y + Sm.wts n)
  | .rep k b => 1 + k * Sm.wts b
  | .set _ _ => 1
  | .half _ _ => 1
  | .tell _ => 1
  | .say _ => 1
  | .stop _ => 1
def Sm.wts : List Sm → Nat
  | [] => 0
  | s :: r => s.wt + Sm.wts r
end
mutual
def Sm.ok : Sm → Prop
  | .ite t y n => t.ok ∧ t.nots ≤ 2 ∧ Sm.oks y ∧ Sm.oks n
  | .rep k b => k ≤ 8 ∧ Sm.oks b
  | .set x e => (e.ok ∧ e.deep ≤ 3) ∧ NmOk x
  | .half x e => (e.ok ∧ e.deep ≤ 3) ∧ NmOk x
  | .tell e => e.ok ∧ e.deep ≤ 3
  | .say c => PyData.strOk c = true ∧ c.length ≤ 20
  | .stop c => PyData.strOk c = true ∧ c.length ≤ 20
def Sm.oks : List Sm → Prop
  | [] => True
  | s :: r => s.ok ∧ Sm.oks r
end
/-! ### the object of a run -/
structure Cad where
  x : Addr
  dx : Addr
  nd : Addr
  sd : Addr
  td : Addr
  cd : Addr
  wd : Addr
def cfs (a : Cad) (r : V) : List (Str × V) := [("names", .ref a.nd), ("said", .ref a.sd), ("turns", .ref a.td), ("choices", .ref a.cd), ("ways", .ref a.wd), ("rule", r)]
structure CAt (C : Addr) (H : Hp) (a : Cad) (r : V) (chs : List Int) (wk : List (Key × V)) (n : Nat) (s : Cs) : Prop where
  ob : H a.x = some (.ins C a.dx (cfs a r))
  nm : ∃ kvs, H a.nd = some (.dK kvs) ∧ EnvRel kvs s.env ∧ kvs.length ≤ n + 1
  sa : H a.sd = some (.lst (s.said.map kV))
  tu : H a.td = some (.lst (s.turns.map V.int))
  ch : H a.cd = some (.tup (chs.map V.int))
  wy : H a.wd = some (.dK wk)
  ls : s.said.length ≤ n
  lt : s.turns.length ≤ n
  ne1 : a.nd ≠ a.wd
  ne2 : a.sd ≠ a.td
  lc : chs.length ≤ 1000000
def decC (chs : List Int) : Nat → Int → Int → Int := fun k _ _ => chs.getD k 0
theorem CAt.mono {C : Addr} {H : Hp} {a : Cad} {r : V} {chs : List Int} {wk : List (Key × V)} {n m : Nat} {s : Cs} (c : CAt C H a r chs wk n s) (h : n ≤ m) : CAt C H a r chs wk m s := by
  obtain ⟨kvs, h1, h2, h3⟩ := c.nm
  have := c.ls
  have := c.lt
  exact ⟨c.ob, ⟨kvs, h1, h2, by omega⟩, c.sa, c.tu, c.ch, c.wy, by omega, by omega, c.ne1, c.ne2, c.lc⟩
theorem CAt.kp0 {C : Addr} {H H' : Hp} {a : Cad} {r : V} {chs : List Int} {wk : List (Key × V)} {n : Nat} {s : Cs} (c : CAt C H a r chs wk n s) (k : Kp [] H H') : CAt C H' a r chs wk n s := by
  obtain ⟨kvs, h1, h2, h3⟩ := c.nm
  exact ⟨k.at c.ob, ⟨kvs, k.at h1, h2, h3⟩, k.at c.sa, k.at c.tu, k.tup _ _ c.ch, k.at c.wy, c.ls, c.lt, c.ne1, c.ne2, c.lc⟩
theorem EnvRel.put {kvs : List (Key × V)} {env : Str → Int} (h : EnvRel kvs env) (x : Str) (v : Int) : EnvRel (putK kvs (Sum.inr x) (.int v)) (setE env x v) := by
  intro y
  rw [valV_put]
  unfold setE
  by_cases e : y = x
  · subst e
    rw [if_pos rfl, if_pos rfl]
    rfl
  · rw [if_neg e, if_neg (fun z => e (Sum.inr.inj z))]
    exact h y
/-- the name x stands for v behind a store -/
theorem CAt.put {C : Addr} {H H1 : Hp} {a : Cad} {r : V} {chs : List Int} {wk : List (Key × V)} {n : Nat} {s : Cs} {kvs : List (Key × V)} {x : Str} {v : Int} (c : CAt C H a r chs wk n s) (hk : H a.nd = some (.dK kvs)) (he : EnvRel kvs s.env)
    (hl : kvs.length ≤ n + 1) (e : H1 = upd H a.nd (.dK (putK kvs (Sum.inr x) (.int v)))) : CAt C H1 a r chs wk (n + 1) { s with env := setE s.env x v } ∧ Kp [a.nd, a.sd, a.td] H H1 := by
  have k : Kp [a.nd] H H1 := by rw [e]; exact Kp.put hk (fun _ z => by cases z)
  have l2 := length_putK kvs (Sum.inr x : Key) (V.int v)
  have := c.ls
  have := c.lt
  refine ⟨⟨k.keep _ _ c.ob (EH.ne1 (ne_of c.ob hk (fun z => by cases z))), ⟨_, by rw [e]; exact upd_same, he.put x v, by omega⟩, k.keep _ _ c.sa (EH.ne1 (ne_of c.sa hk (fun z => by cases z))), k.keep _ _ c.tu (EH.ne1 (ne_of c.tu hk (fun z => by cases z))),
    k.tup _ _ c.ch, k.keep _ _ c.wy (EH.ne1 c.ne1.symm), by show s.said.length ≤ _; omega, by show s.turns.length ≤ _; omega, c.ne1, c.ne2, c.lc⟩, k.sub (by simp)⟩
theorem CAt.say {C : Addr} {H H1 : Hp} {a : Cad} {r : V} {chs : List Int} {wk : List (Key × V)} {n : Nat} {s : Cs} {v : Key} (c : CAt C H a r chs wk n s) (h1 : H1 a.sd = some (.lst (s.said.map kV ++ [kV v]))) (k : Kp [a.sd] H H1) :
    CAt C H1 a r chs wk (n + 1) { s with said := s.said ++ [v] } ∧ Kp [a.nd, a.sd, a.td] H H1 := by
  obtain ⟨kvs, g1, g2, g3⟩ := c.nm
  have := c.ls
  have := c.lt
  refine ⟨⟨k.keep _ _ c.ob (EH.ne1 (ne_of c.ob c.sa (fun z => by cases z))), ⟨kvs, k.keep _ _ g1 (EH.ne1 (ne_of g1 c.sa (fun z => by cases z))), g2, by omega⟩, by rw [h1, List.map_append]; rfl, k.keep _ _ c.tu (EH.ne1 c.ne2.symm),
    k.tup _ _ c.ch, k.keep _ _ c.wy (EH.ne1 (ne_of c.wy c.sa (fun z => by cases z))), by show (s.said ++ [v]).length ≤ _; rw [List.length_append, List.length_singleton]; omega, by show s.turns.length ≤ _; omega, c.ne1, c.ne2, c.lc⟩, k.sub (by simp)⟩
theorem CAt.turn {C : Addr} {H H1 : Hp} {a : Cad} {r : V} {chs : List Int} {wk : List (Key × V)} {n : Nat} {s : Cs} {v : Int} (c : CAt C H a r chs wk n s) (h1 : H1 a.td = some (.lst (s.turns.map V.int ++ [.int v]))) (k : Kp [a.td] H H1) :
    CAt C H1 a r chs wk (n + 1) { s with turns := s.turns ++ [v] } ∧ Kp [a.nd, a.sd, a.td] H H1 := by
  obtain ⟨kvs, g1, g2, g3⟩ := c.nm
  have := c.ls
  have := c.lt
  refine ⟨⟨k.keep _ _ c.ob (EH.ne1 (ne_of c.ob c.tu (fun z => by cases z))), ⟨kvs, k.keep _ _ g1 (EH.ne1 (ne_of g1 c.tu (fun z => by cases z))), g2, by omega⟩, k.keep _ _ c.sa (EH.ne1 c.ne2), by rw [h1, List.map_append]; rfl,
    k.tup _ _ c.ch, k.keep _ _ c.wy (EH.ne1 (ne_of c.wy c.tu (fun z => by cases z))), by show s.said.length ≤ _; omega, by show (s.turns ++ [v]).length ≤ _; rw [List.length_append, List.length_singleton]; omega, c.ne1, c.ne2, c.lc⟩, k.sub (by simp)⟩
/-! ### the promises -/
def Sm.plain : Sm → Prop
  | .ite _ _ _ => False
  | .rep _ _ => False
  | .set _ _ => True
  | .half _ _ => True
  | .tell _ => True
  | .say _ => True
  | .stop _ => True
/-! ### the parts of a statement with blocks -/
section
variable (dec : Nat → Int → Int → Int) (ways : Int → Option Int)
end
theorem oks_mem : ∀ {l : List Sm} {s : Sm}, Sm.oks l → s ∈ l → s.ok
  | [], s, _, h => by cases h
  | t :: r, s, o, h => by
    simp only [Sm.oks] at o
    rcases List.mem_cons.mp h with rfl | h
    · exact o.1
    · exact oks_mem o.2 h
theorem ok_blk : ∀ {st : Sm} {b : List Sm}, st.ok → b ∈ st.blks → Sm.oks b
  | .ite t y n, b, o, h => by
    simp only [Sm.ok] at o
    simp only [Sm.blks, List.mem_cons, List.not_mem_nil, or_false] at h
    rcases h with rfl | rfl
    · exact o.2.2.1
    · exact o.2.2.2
  | .rep k b', b, o, h => by
    simp only [Sm.ok] at o
    simp only [Sm.blks, List.mem_cons, List.not_mem_nil, or_false] at h
    subst h
    exact o.2
  | .set _ _, b, o, h => by simp [Sm.blks] at h
  | .half _ _, b, o, h => by simp [Sm.blks] at h
  | .tell _, b, o, h => by simp [Sm.blks] at h
  | .say _, b, o, h => by simp [Sm.blks] at h
  | .stop _, b, o, h => by simp [Sm.blks] at h
def Sm.kw : Sm → Str
  | .ite _ _ _ => "if"
  | .rep _ _ => "repeat"
  | .set _ _ => "set"
  | .half _ _ => "half"
  | .tell _ => "tell"
  | .say _ => "say"
  | .stop _ => "stop"
theorem Sm.head {H : Hp} {v : V} : ∀ {t : Sm}, Tr H t.d v → ∃ u rest, v = .ref u ∧ H u = some (.tup (.str t.kw :: rest))
  | .ite _ _ _, h => by obtain ⟨u, x1, x2, x3, x4, rfl, h1, t1, _⟩ := tr_tup4 h; cases tr_str t1; exact ⟨u, _, rfl, h1⟩
  | .rep _ _, h => by obtain ⟨u, x1, x2, x3, rfl, h1, t1, _⟩ := tr_tup3 h; cases tr_str t1; exact ⟨u, _, rfl, h1⟩
  | .set _ _, h => by obtain ⟨u, x1, x2, x3, rfl, h1, t1, _⟩ := tr_tup3 h; cases tr_str t1; exact ⟨u, _, rfl, h1⟩
  | .half _ _, h => by obtain ⟨u, x1, x2, x3, rfl, h1, t1, _⟩ := tr_tup3 h; cases tr_str t1; exact ⟨u, _, rfl, h1⟩
  | .tell _, h => by obtain ⟨u, x1, x2, rfl, h1, t1, _⟩ := tr_tup2 h; cases tr_str t1; exact ⟨u, _, rfl, h1⟩
  | .say _, h => by obtain ⟨u, x1, x2, rfl, h1, t1, _⟩ := tr_tup2 h; cases tr_str t1; exact ⟨u, _, rfl, h1⟩
  | .stop _, h => by obtain ⟨u, x1, x2, rfl, h1, t1, _⟩ := tr_tup2 h; cases tr_str t1; exact ⟨u, _, rfl, h1⟩
theorem Sm.kw_in (t : Sm) : (inV (.str t.kw) [.str "if", .str "repeat"] = true ∧ ¬ t.plain) ∨ (inV (.str t.kw) [.str "if", .str "repeat"] = false ∧ t.plain) := by
  cases t with
  | ite _ _ _ => exact .inl ⟨(by decide +kernel : inV (.str "if") [.str "if", .str "repeat"] = true), id⟩
  | rep _ _ => exact .inl ⟨(by decide +kernel : inV (.str "repeat") [.str "if", .str "repeat"] = true), id⟩
  | set _ _ => exact .inr ⟨(by decide +kernel : inV (.str "set") [.str "if", .str "repeat"] = false), trivial⟩
  | half _ _ => exact .inr ⟨(by decide +kernel : inV (.str "half") [.str "if", .str "repeat"] = false), trivial⟩
  | tell _ => exact .inr ⟨(by decide +kernel : inV (.str "tell") [.str "if", .str "repeat"] = false), trivial⟩
  | say _ => exact .inr ⟨(by decide +kernel : inV (.str "say") [.str "if", .str "repeat"] = false), trivial⟩
  | stop _ => exact .inr ⟨(by decide +kernel : inV (.str "stop") [.str "if", .str "repeat"] = false), trivial⟩
/-! ### what a run tells -/
def kD : Key → PyData
  | .inl i => .int i
  | .inr x => .str x
def wD : Option Str → PyData
  | none => .none
  | some c => .str c
def env0 (n : Int) : Str → Int := fun y => if y = "n" then n else 0
def cs0 (n : Int) : Cs := ⟨env0 n, [], []⟩
def noWay : Int → Option Int := fun _ => none
/-! ### programs that are drawn -/
theorem Deck.cast {H : Hp} {a c : Addr} {n n' : Int} (d : Deck H a c n) (e : n = n') : Deck H a c n' := e ▸ d
/-- the names stand at nm -/
structure Nms (H : Hp) (nm a c : Addr) (names : List Str) : Prop where
  at_ : H nm = some (.lst (names.map V.str))
  off : nm ∉ [a, c]
  len : 0 < names.length ∧ names.length ≤ 1000
  oks : ∀ x ∈ names, NmOk x
theorem Nms.kp {S : List Addr} {H H' : Hp} {nm a c : Addr} {names : List Str} (x : Nms H nm a c names) (k : Kp S H H') (h : nm ∉ S) : Nms H' nm a c names := ⟨k.keep _ _ x.at_ h, x.off, x.len, x.oks⟩
theorem Nms.kp0 {H H' : Hp} {nm a c : Addr} {names : List Str} (x : Nms H nm a c names) (k : Kp [] H H') : Nms H' nm a c names := x.kp k (by simp)
theorem Nms.kpD {H H' : Hp} {nm a c : Addr} {names : List Str} (x : Nms H nm a c names) (k : Kp [a, c] H H') : Nms H' nm a c names := x.kp k x.off
/-! names that come from a list, words that come from the law's own lists -/
def Ex.inN (N : List Str) : Ex → Prop
  | .num _ => True
  | .var x => x ∈ N
  | .plus a b => a.inN N ∧ b.inN N
  | .minus a b => a.inN N ∧ b.inN N
  | .times _ a => a.inN N
def Ts.inN (N : List Str) : Ts → Prop
  | .less a b => a.inN N ∧ b.inN N
  | .odd a => a.inN N
  | .not t => t.inN N
def WdIn (c : Str) : Prop := c ∈ (["go", "7", "half", "odd", "end", "0", "not"] : List Str)
mutual
def Sm.inN (N : List Str) : Sm → Prop
  | .ite t y n => t.inN N ∧ Sm.insN N y ∧ Sm.insN N n
  | .rep _ b => Sm.insN N b
  | .set x e => e.inN N ∧ x ∈ N
  | .half x e => e.inN N ∧ x ∈ N
  | .tell e => e.inN N
  | .say c => WdIn c
  | .stop c => WdIn c
def Sm.insN (N : List Str) : List Sm → Prop
  | [] => True
  | s :: r => s.inN N ∧ Sm.insN N r
end
/-- what the counters are -/
structure Lf where
  p : Int
  w : Int
  h : Int
  c : Int
def Lf.vs (l : Lf) : List V := [.int l.p, .int l.w, .int l.h, .int l.c]
structure Gs (H : Hp) (a c nm lf : Addr) (m : Int) (names : List Str) (l : Lf) : Prop where
  dk : Deck H a c m
  nms : Nms H nm a c names
  lft : H lf = some (.lst l.vs)
  off : lf ∉ [a, c, nm]
theorem Gs.kp0 {H H' : Hp} {a c nm lf : Addr} {m : Int} {names : List Str} {l : Lf} (g : Gs H a c nm lf m names l) (k : Kp [] H H') : Gs H' a c nm lf m names l := ⟨g.dk.kp0 k, g.nms.kp0 k, k.at g.lft, g.off⟩
theorem Gs.nac {H : Hp} {a c nm lf : Addr} {m : Int} {names : List Str} {l : Lf} (g : Gs H a c nm lf m names l) : lf ∉ [a, c] := by
  have := g.off
  simp only [List.mem_cons, List.not_mem_nil, or_false, not_or] at this ⊢
  exact ⟨this.1, this.2.1⟩
theorem Gs.drawn {H H' : Hp} {a c nm lf : Addr} {m m' : Int} {names : List Str} {l : Lf} (g : Gs H a c nm lf m names l) (d : Deck H' a c m') (k : Kp [a, c] H H') : Gs H' a c nm lf m' names l :=
  ⟨d, g.nms.kpD k, k.keep _ _ g.lft g.nac, g.off⟩
theorem Gs.left {H H' : Hp} {a c nm lf : Addr} {m : Int} {names : List Str} {l l' : Lf} (g : Gs H a c nm lf m names l) (h : H' lf = some (.lst l'.vs)) (k : Kp [lf] H H') : Gs H' a c nm lf m names l' := by
  have o := g.off
  simp only [List.mem_cons, List.not_mem_nil, or_false, not_or] at o
  exact ⟨g.dk.kp k (ne1 (fun z => o.1 z.symm)) (ne1 (fun z => o.2.1 z.symm)), g.nms.kp k (ne1 (fun z => o.2.2 z.symm)), h, g.off⟩
/-! data that are tuples of tuples: what == asks -/
section
variable {X : Cx}
end
theorem Ex.dep : ∀ e : Ex, e.d.depth + 1 ≤ e.deep
  | .num _ => by simp [Ex.d, Ex.deep, PyData.depth]
  | .var _ => by simp [Ex.d, Ex.deep, PyData.depth]
  | .plus a b => by
    have := Ex.dep a
    have := Ex.dep b
    simp only [Ex.d, Ex.deep, PyData.depth, PyData.depthAll]
    omega
  | .minus a b => by
    have := Ex.dep a
    have := Ex.dep b
    simp only [Ex.d, Ex.deep, PyData.depth, PyData.depthAll]
    omega
  | .times _ a => by
    have := Ex.dep a
    simp only [Ex.d, Ex.deep, PyData.depth, PyData.depthAll]
    omega
theorem Ts.dep : ∀ {t : Ts}, t.ok → t.d.depth ≤ t.nots + 4
  | .less a b, h => by
    have := Ex.dep a
    have := Ex.dep b
    obtain ⟨⟨_, h1⟩, _, h2⟩ := (show (a.ok ∧ a.deep ≤ 3) ∧ b.ok ∧ b.deep ≤ 3 from h)
    simp only [Ts.d, Ts.nots, PyData.depth, PyData.depthAll]
    omega
  | .odd a, h => by
    have := Ex.dep a
    obtain ⟨_, h1⟩ := (show a.ok ∧ a.deep ≤ 3 from h)
    simp only [Ts.d, Ts.nots, PyData.depth, PyData.depthAll]
    omega
  | .not t, h => by
    have := Ts.dep (t := t) h
    simp only [Ts.d, Ts.nots, PyData.depth, PyData.depthAll]
    omega
def Ts.isOdd : Ts → Bool
  | .less _ _ => false
  | .odd _ => true
  | .not t => t.isOdd
/-! what a statement counts -/
mutual
def Sm.hv : Sm → Nat
  | .ite t y n => (if t.isOdd then 1 else 0) + (Sm.hvs y + Sm.hvs n)
  | .rep k b => k * Sm.hvs b
  | .half _ _ => 1
  | .set _ _ => 0
  | .tell _ => 0
  | .say _ => 0
  | .stop _ => 0
def Sm.hvs : List Sm → Nat
  | [] => 0
  | s :: r => s.hv + Sm.hvs r
end
mutual
def Sm.cp : Sm → Nat
  | .ite t y n => (if t.isOdd then 0 else 1) + (Sm.cps y + Sm.cps n)
  | .rep k b => k * Sm.cps b
  | .half _ _ => 0
  | .set _ _ => 0
  | .tell _ => 0
  | .say _ => 0
  | .stop _ => 0
def Sm.cps : List Sm → Nat
  | [] => 0
  | s :: r => s.cp + Sm.cps r
end
/-- words and names are those of the text; times at most eight -/
def Lf.nn (l : Lf) : Prop := 0 ≤ l.p ∧ 0 ≤ l.w ∧ 0 ≤ l.h ∧ 0 ≤ l.c
/-! ### statements and blocks that are drawn -/
/-- what is left behind a statement, a block -/
structure Took (t : Int) (pl wt hv cp : Nat) (l l' : Lf) : Prop where
  p : (pl : Int) ≤ l.p - l'.p
  w : t * (wt : Int) ≤ l.w - l'.w
  h : t * (hv : Int) ≤ l.h - l'.h
  c : t * (cp : Int) ≤ l.c - l'.c
theorem Took.none {t : Int} {l : Lf} : Took t 0 0 0 0 l l := by
  refine ⟨?_, ?_, ?_, ?_⟩ <;> simp
theorem Took.of {t : Int} {p w h c p' w' h' c' : Nat} {l l' : Lf} (a : Took t p w h c l l') (e1 : p = p') (e2 : w = w') (e3 : h = h') (e4 : c = c') : Took t p' w' h' c' l l' := by subst e1 e2 e3 e4; exact a
theorem Took.rep {t : Int} {k p w h c : Nat} {l l' : Lf} (a : Took (t * (k : Int)) p w h c l l') : Took t p (k * w) (k * h) (k * c) l l' := by
  refine ⟨a.p, ?_, ?_, ?_⟩
  · have := a.w
    rw [Int.natCast_mul, ← Int.mul_assoc]
    exact this
  · have := a.h
    rw [Int.natCast_mul, ← Int.mul_assoc]
    exact this
  · have := a.c
    rw [Int.natCast_mul, ← Int.mul_assoc]
    exact this
/-! how deep statements lie in one another -/
mutual
def Sm.dl : Sm → Nat
  | .ite _ y n => max (Sm.dls y) (Sm.dls n)
  | .rep _ b => Sm.dls b
  | .set _ _ => 0
  | .half _ _ => 0
  | .tell _ => 0
  | .say _ => 0
  | .stop _ => 0
def Sm.dls : List Sm → Nat
  | [] => 0
  | s :: r => max (s.dl + 1) (Sm.dls r)
end
/-- what a drawn statement keeps -/
structure SOk (N : List Str) (t depth : Int) (l l' : Lf) (s : Sm) : Prop where
  ok : s.ok
  inn : s.inN N
  nest : (s.nest : Int) + depth ≤ 4
  dl : (s.dl : Int) + depth ≤ 3
  took : Took t s.pl s.wt s.hv s.cp l l'
structure BOk (N : List Str) (t depth : Int) (l l' : Lf) (b : List Sm) : Prop where
  ok : Sm.oks b
  inn : Sm.insN N b
  nest : b = [] ∨ (Sm.nests b : Int) + depth ≤ 4
  dl : b = [] ∨ (Sm.dls b : Int) + depth ≤ 4
  took : Took t (Sm.pls b) (Sm.wts b) (Sm.hvs b) (Sm.cps b) l l'
mutual
theorem Sm.dep : ∀ {s : Sm}, s.ok → s.d.depth ≤ 2 * s.nest + 8
  | .set x e, h => by
    simp only [Sm.ok] at h
    have := e.dep
    simp only [Sm.d, PyData.depth, PyData.depthAll]
    omega
  | .half x e, h => by
    simp only [Sm.ok] at h
    have := e.dep
    simp only [Sm.d, PyData.depth, PyData.depthAll]
    omega
  | .tell e, h => by
    simp only [Sm.ok] at h
    have := e.dep
    simp only [Sm.d, PyData.depth, PyData.depthAll]
    omega
  | .say c, h => by simp [Sm.d, PyData.depth, PyData.depthAll]
  | .stop c, h => by simp [Sm.d, PyData.depth, PyData.depthAll]
  | .ite t y n, h => by
    simp only [Sm.ok] at h
    have := Ts.dep h.1
    have := Sm.deps h.2.2.1
    have := Sm.deps h.2.2.2
    simp only [Sm.d, PyData.depth, PyData.depthAll, Sm.nest]
    omega
  | .rep k b, h => by
    simp only [Sm.ok] at h
    have := Sm.deps h.2
    simp only [Sm.d, PyData.depth, PyData.depthAll, Sm.nest]
    omega
theorem Sm.deps : ∀ {b : List Sm}, Sm.oks b → PyData.depthAll (Sm.ds b) ≤ 2 * Sm.nests b + 8
  | [], _ => by simp [Sm.ds, PyData.depthAll]
  | s :: r, h => by
    simp only [Sm.oks] at h
    have := Sm.dep h.1
    have := Sm.deps h.2
    simp only [Sm.ds, PyData.depthAll, Sm.nests]
    omega
end
theorem Sm.ds_app : ∀ (b c : List Sm), Sm.ds (b ++ c) = Sm.ds b ++ Sm.ds c
  | [], c => by simp only [List.nil_append, Sm.ds]
  | s :: r, c => by simp only [List.cons_append, Sm.ds, Sm.ds_app r c]
theorem Sm.oks_app : ∀ {b c : List Sm}, Sm.oks b → Sm.oks c → Sm.oks (b ++ c)
  | [], c, _, h => h
  | s :: r, c, h, g => by
    simp only [Sm.oks] at h
    simp only [List.cons_append, Sm.oks]
    exact ⟨h.1, Sm.oks_app h.2 g⟩
theorem Sm.pls_app : ∀ (b c : List Sm), Sm.pls (b ++ c) = Sm.pls b + Sm.pls c
  | [], c => by simp only [List.nil_append, Sm.pls]; omega
  | s :: r, c => by simp only [List.cons_append, Sm.pls, Sm.pls_app r c]; omega
theorem Sm.wts_app : ∀ (b c : List Sm), Sm.wts (b ++ c) = Sm.wts b + Sm.wts c
  | [], c => by simp only [List.nil_append, Sm.wts]; omega
  | s :: r, c => by simp only [List.cons_append, Sm.wts, Sm.wts_app r c]; omega
theorem Sm.hvs_app : ∀ (b c : List Sm), Sm.hvs (b ++ c) = Sm.hvs b + Sm.hvs c
  | [], c => by simp only [List.nil_append, Sm.hvs]; omega
  | s :: r, c => by simp only [List.cons_append, Sm.hvs, Sm.hvs_app r c]; omega
theorem Sm.cps_app : ∀ (b c : List Sm), Sm.cps (b ++ c) = Sm.cps b + Sm.cps c
  | [], c => by simp only [List.nil_append, Sm.cps]; omega
  | s :: r, c => by simp only [List.cons_append, Sm.cps, Sm.cps_app r c]; omega
theorem Sm.nests_app : ∀ (b c : List Sm), Sm.nests (b ++ c) ≤ Sm.nests b ∨ Sm.nests (b ++ c) ≤ Sm.nests c
  | [], c => .inr (by simp only [List.nil_append]; omega)
  | s :: r, c => by
    have := Sm.nests_app r c
    simp only [List.cons_append, Sm.nests]
    omega
theorem BOk.nil {N : List Str} {t d : Int} {l : Lf} : BOk N t d l l [] := ⟨by simp only [Sm.oks], by simp only [Sm.insN], .inl rfl, .inl rfl, by simp only [Sm.pls, Sm.wts, Sm.hvs, Sm.cps]; exact Took.none⟩
theorem BOk.one {N : List Str} {t d : Int} {l l1 : Lf} {s : Sm} (x : SOk N t d l l1 s) : BOk N t d l l1 [s] := by
  refine ⟨by simp only [Sm.oks]; exact ⟨x.ok, trivial⟩, by simp only [Sm.insN]; exact ⟨x.inn, trivial⟩, .inr ?_, .inr ?_, x.took.of ?_ ?_ ?_ ?_⟩
  · have := x.nest
    simp only [Sm.nests]
    omega
  · have := x.dl
    simp only [Sm.dls]
    omega
  · simp only [Sm.pls]; omega
  · simp only [Sm.wts]; omega
  · simp only [Sm.hvs]; omega
  · simp only [Sm.cps]; omega
/-! ### programs, numbers, choices -/
structure PrOk (b : List Sm) : Prop where
  ok : Sm.oks b
  nest : Sm.nests b ≤ 4
  pl : Sm.pls b ≤ 24
  wt : Sm.wts b ≤ 60
  hv : Sm.hvs b ≤ 4
  cp : Sm.cps b ≤ 3
theorem BOk.pr {N : List Str} {l : Lf} {b : List Sm} (x : BOk N 1 0 ⟨24, 60, 4, 3⟩ l b) (h : l.nn) : PrOk b := by
  obtain ⟨h1, h2, h3, h4⟩ := h
  have a1 : _ ≤ 24 - l.p := x.took.p
  have a2 : _ ≤ 60 - l.w := x.took.w
  have a3 : _ ≤ 4 - l.h := x.took.h
  have a4 : _ ≤ 3 - l.c := x.took.c
  refine ⟨x.ok, ?_, by omega, by omega, by omega, by omega⟩
  rcases x.nest with rfl | h
  · simp only [Sm.nests]; omega
  · omega
theorem BOk.deep {N : List Str} {l l' : Lf} {t : Int} {b : List Sm} (x : BOk N t 0 l l' b) : Sm.dls b ≤ 4 := by
  rcases x.dl with rfl | h
  · simp only [Sm.dls]; omega
  · omega
theorem iteB {b : Bool} {p q : Prop} (h1 : b = true → p) (h2 : b = false → q) : if b = true then p else q := by
  cases b with
  | true => exact h1 rfl
  | false => exact h2 rfl
/-! ### against an empty list, an empty tuple -/
def rNeNil : R2 := fun x y H Q => ∃ a b xs, x = .ref a ∧ y = .ref b ∧ H a = some (.lst xs) ∧ H b = some (.lst []) ∧ Q (.bl (!xs.isEmpty)) H
def rEqNil : R2 := fun x y H Q => ∃ a b xs, x = .ref a ∧ y = .ref b ∧ H a = some (.lst xs) ∧ H b = some (.lst []) ∧ Q (.bl xs.isEmpty) H
def rNeNilT : R2 := fun x y H Q => ∃ a b xs, x = .ref a ∧ y = .ref b ∧ H a = some (.tup xs) ∧ H b = some (.tup []) ∧ Q (.bl (!xs.isEmpty)) H
def rEqNilT : R2 := fun x y H Q => ∃ a b xs, x = .ref a ∧ y = .ref b ∧ H a = some (.tup xs) ∧ H b = some (.tup []) ∧ Q (.bl xs.isEmpty) H
section
variable {X : Cx}
theorem nil_len {xs : List V} {its : List Value} (r : Vals xs its) : its.toArray.size = 0 ↔ xs.isEmpty = true := by
  have := r.length
  rw [List.size_toArray, ← this]
  cases xs with
  | nil => exact ⟨fun _ => rfl, fun _ => rfl⟩
  | cons a b => exact ⟨fun z => (nomatch z), fun z => (nomatch z)⟩
theorem op_neNil (hu : X.A.units + 1 < cLine) : OpR X (compareOp .NotEq) rNeNil := by
  intro pins s σ H x y v u Q I rx ry h
  obtain ⟨a, b, xs, rfl, rfl, ha, hb, q⟩ := h
  cases rx
  cases ry
  obtain ⟨its, r, ht, hz⟩ := I.list (SqL.of ha)
  obtain ⟨its2, r2, ht2, hz2⟩ := I.list (SqL.of hb)
  have e2 := nil_len r2
  have e1 := nil_len r
  have z2 : its2.toArray.size = 0 := e2.mpr rfl
  cases xs with
  | nil =>
    have z1 : its.toArray.size = 0 := e1.mpr rfl
    refine SeqAt.RcNeAt.lists ht.isList ht2.isList (z1.trans z2.symm) (by omega) (e := fun _ => true) (fun j h1 _ => absurd h1 (by omega)) _ _ _ _ ?_
    exact ⟨.bl _, H, I, by rw [z1]; rfl, q⟩
  | cons c d =>
    refine SeqAt.RcNeAt.lists_lengths ht.isList ht2.isList ?_ (by omega) _ _ _ _ ⟨.bl _, H, I, rfl, q⟩
    have : its.toArray.size ≠ 0 := fun z => by have := e1.mp z; cases this
    rw [z2]
    simpa using this
theorem op_eqNil (hu : X.A.units + 1 < cLine) : OpR X (compareOp .Eq) rEqNil := by
  intro pins s σ H x y v u Q I rx ry h
  obtain ⟨a, b, xs, rfl, rfl, ha, hb, q⟩ := h
  cases rx
  cases ry
  obtain ⟨its, r, ht, hz⟩ := I.list (SqL.of ha)
  obtain ⟨its2, r2, ht2, hz2⟩ := I.list (SqL.of hb)
  have e2 := nil_len r2
  have e1 := nil_len r
  have z2 : its2.toArray.size = 0 := e2.mpr rfl
  cases xs with
  | nil =>
    have z1 : its.toArray.size = 0 := e1.mpr rfl
    refine SeqAt.RcAt.lists ht.isList ht2.isList (z1.trans z2.symm) (by omega) (e := fun _ => true) (fun j h1 _ => absurd h1 (by omega)) _ _ _ _ ?_
    exact ⟨.bl _, H, I, by rw [z1]; rfl, q⟩
  | cons c d =>
    refine SeqAt.RcAt.lists_lengths ht.isList ht2.isList ?_ (by omega) _ _ _ _ ⟨.bl _, H, I, rfl, q⟩
    have : its.toArray.size ≠ 0 := fun z => by have := e1.mp z; cases this
    rw [z2]
    simpa using this
theorem op_neNilT (hu : X.A.units + 1 < cLine) : OpR X (compareOp .NotEq) rNeNilT := by
  intro pins s σ H x y v u Q I rx ry h
  obtain ⟨a, b, xs, rfl, rfl, ha, hb, q⟩ := h
  cases rx
  cases ry
  obtain ⟨its, r, ht, hz⟩ := I.tuple (SqT.of ha)
  obtain ⟨its2, r2, ht2, hz2⟩ := I.tuple (SqT.of hb)
  have e2 := nil_len r2
  have e1 := nil_len r
  have z2 : its2.toArray.size = 0 := e2.mpr rfl
  refine SeqAt.RcNeAt.tuples ht ht2 (by omega) (e := fun _ => true) (fun j h1 h2 => absurd h2 (by omega)) _ _ _ _ ⟨.bl _, H, I, ?_, q⟩
  rw [z2, Nat.min_zero]
  show Value.bool (!(true && its.toArray.size == 0)) = Value.bool (!xs.isEmpty)
  cases xs with
  | nil => rw [e1.mpr rfl]; rfl
  | cons c d =>
    have : its.toArray.size ≠ 0 := fun z => by have := e1.mp z; cases this
    rw [show (its.toArray.size == 0) = false from beq_false_of_ne this]
    rfl
theorem op_eqNilT (hu : X.A.units + 1 < cLine) : OpR X (compareOp .Eq) rEqNilT := by
  intro pins s σ H x y v u Q I rx ry h
  obtain ⟨a, b, xs, rfl, rfl, ha, hb, q⟩ := h
  cases rx
  cases ry
  obtain ⟨its, r, ht, hz⟩ := I.tuple (SqT.of ha)
  obtain ⟨its2, r2, ht2, hz2⟩ := I.tuple (SqT.of hb)
  have e2 := nil_len r2
  have e1 := nil_len r
  have z2 : its2.toArray.size = 0 := e2.mpr rfl
  refine SeqAt.RcAt.tuples ht ht2 (by omega) (e := fun _ => true) (fun j h1 h2 => absurd h2 (by omega)) _ _ _ _ ⟨.bl _, H, I, ?_, q⟩
  rw [z2, Nat.min_zero]
  show Value.bool (true && its.toArray.size == 0) = Value.bool xs.isEmpty
  cases xs with
  | nil => rw [e1.mpr rfl]; rfl
  | cons c d =>
    have : its.toArray.size ≠ 0 := fun z => by have := e1.mp z; cases this
    rw [show (its.toArray.size == 0) = false from beq_false_of_ne this]
    rfl
/-! ### xs[::-1], xs.pop() -/
def tRevA (K : PySem.W.Frag) (te : TE) : TE := fun σ H Q => te σ H fun x H1 => ∃ a xs, x = .ref a ∧ SqL K H1 a xs ∧ ∀ p H2, H1 p = none → H2 = upd H1 p (.lst xs.reverse) → Q (.ref p) H2
theorem pe_revLA {K : PySem.W.Frag} {e : Expr} {te : TE} {k : Nat} {p1 p2 p3 pos : Pos} (hK : X.K = K) (he : PE X e te) : PE X (.Subscript e (.Slice none none (some (.UnaryOp .USub (.Constant (.int 1) k p1) p2)) p3) pos) (tRevA K te) := by
  subst hK
  refine PE.imp (pe_revL he) fun σ H Q q => ?_
  unfold tRevL
  unfold tRevA at q
  have z : (fun (x : V) (H1 : Hp) => ∃ a xs, x = .ref a ∧ SqL X.K H1 a xs ∧ ∀ p, H1 p = none → Q (.ref p) (upd H1 p (.lst xs.reverse))) = (fun (x : V) (H1 : Hp) => ∃ a xs, x = .ref a ∧ SqL X.K H1 a xs ∧ ∀ p H2, H1 p = none → H2 = upd H1 p (.lst xs.reverse) → Q (.ref p) H2) := by
    funext x H1
    exact propext ⟨fun ⟨a, xs, e, h, q⟩ => ⟨a, xs, e, h, fun p H2 hp e2 => e2 ▸ q p hp⟩, fun ⟨a, xs, e, h, q⟩ => ⟨a, xs, e, h, fun p hp => q p _ hp rfl⟩⟩
  rw [z]
  exact q
def rPopA : V → List V → Hp → VK → Prop := fun x vs H Q => ∃ l xs y, x = .ref l ∧ vs = [] ∧ H l = some (.lst (xs ++ [y])) ∧ PutQ H l (.lst xs) (Q y)
theorem mt_popA : MtR X "list.pop" rPopA := MtR.imp mt_pop fun x vs H Q ⟨l, xs, y, e1, e2, h1, q⟩ => ⟨l, xs ++ [y], y, e1, e2, h1, by simp, by rw [List.dropLast_concat]; exact q.to h1 (fun _ z => by cases z)⟩
end
/-! ### what program_error asks, on data -/
def LETS : Str := "abcdefghijklmnopqrstuvwxyz"
def SGNS : Str := "abcdefghijklmnopqrstuvwxyz0123456789"
def KEPTS : List V := [.str "half", .str "tell", .str "say", .str "stop", .str "if", .str "else", .str "repeat", .str "pass", .str "odd", .str "not", .str "program"]
def wholeB (lo hi : Int) : PyData → Bool
  | .int i => decide (lo ≤ i) && decide (i ≤ hi)
  | _ => false
def sgnsB (z : Str) : Bool := z.cps.toList.all fun c => decide (c ∈ SGNS.cps.toList)
def lenB (z : Str) : Bool := decide (1 ≤ (z.length : Int)) && decide ((z.length : Int) ≤ 8)
def wordB : PyData → Bool
  | .str z => lenB z && sgnsB z
  | _ => false
def headB (z : Str) : Bool := match z.cps.toList with
  | [] => false
  | c :: _ => decide (c ∈ LETS.cps.toList)
def nameB : PyData → Bool
  | .str z => lenB z && headB z && sgnsB z && !inV (.str z) KEPTS
  | _ => false
def exprB : Nat → PyData → Bool
  | 0, _ => false
  | n + 1, .tuple [.str k, b, c] => exprB n c && (if k = "times" then wholeB (-9) 9 b else inV (.str k) [.str "plus", .str "minus"] && exprB n b)
  | n + 1, .tuple _ => false
  | n + 1, d => nameB d || wholeB (-99) 99 d
def testB : Nat → PyData → Bool
  | n, .tuple [.str k, b, c] => decide (k = "less") && exprB 3 b && exprB 3 c
  | 0, .tuple [.str k, b] => decide (k = "odd") && exprB 3 b
  | n + 1, .tuple [.str k, b] => if k = "odd" then exprB 3 b else decide (k = "not") && testB n b
  | _, _ => false
def plainB : PyData → Bool
  | .tuple [.str k, b, c] => inV (.str k) [.str "set", .str "half"] && nameB b && exprB 3 c
  | .tuple [.str k, b] => if k = "tell" then exprB 3 b else inV (.str k) [.str "say", .str "stop"] && wordB b
  | _ => false
def isTupB : PyData → Bool
  | .tuple _ => true
  | _ => false
def stmtB : PyData → Bool
  | .tuple [.str k, t, y, n] => decide (k = "if") && testB 2 t && isTupB y && isTupB n
  | .tuple [.str k, t, b] => if k = "repeat" then wholeB 0 8 t && isTupB b else plainB (.tuple [.str k, t, b])
  | .tuple [.str k, b] => plainB (.tuple [.str k, b])
  | _ => false
mutual
/-- no text is longer than the line -/
def Szd : PyData → Prop
  | .str z => z.length ≤ 1000000
  | .tuple ds => Szds ds
  | .none => True
  | .bool _ => True
  | .int _ => True
  | .list _ => True
  | .dict _ => True
def Szds : List PyData → Prop
  | [] => True
  | d :: r => Szd d ∧ Szds r
end
theorem Szds.get : ∀ {ds : List PyData} {i : Nat} {d : PyData}, Szds ds → ds[i]? = some d → Szd d
  | [], i, d, h, e => by simp at e
  | x :: r, 0, d, h, e => by
    simp only [Szds] at h
    cases e
    exact h.1
  | x :: r, i + 1, d, h, e => by
    simp only [Szds] at h
    exact Szds.get (i := i) h.2 e
theorem dec_str (a b : Str) : decide (V.str a = V.str b) = decide (a = b) := decide_eq_decide.mpr ⟨fun h => V.str.inj h, fun h => by rw [h]⟩
theorem dec_len {α : Type} {l : List α} {n : Nat} (h : l.length ≠ n) : decide (V.int (l.length : Int) = V.int (n : Int)) = false := by
  rw [dec_int]
  exact decide_eq_false (by omega)
theorem in2 {k a b : Str} (h : inV (.str k) [.str a, .str b] = true) : k = a ∨ k = b := by
  unfold inV at h
  simp only [List.any_cons, List.any_nil, Bool.or_false, Bool.or_eq_true] at h
  rcases h with h | h
  · exact .inl (by simpa [eqV] using h : a = k).symm
  · exact .inr (by simpa [eqV] using h : b = k).symm
theorem isi_bs : kitB "bool" "str" = some false := by decide +kernel
theorem isi_bi : kitB "bool" "int" = some true := by decide +kernel
theorem isi_bt : kitB "bool" "tuple" = some false := by decide +kernel
theorem isi_bb : kitB "bool" "bool" = some true := by decide +kernel
theorem isi_ns : kitB "NoneType" "str" = some false := by decide +kernel
theorem isi_ni : kitB "NoneType" "int" = some false := by decide +kernel
theorem isi_nt : kitB "NoneType" "tuple" = some false := by decide +kernel
theorem isi_nb : kitB "NoneType" "bool" = some false := by decide +kernel
theorem isi_sb : kitB "str" "bool" = some false := by decide +kernel
theorem isi_ib : kitB "int" "bool" = some false := by decide +kernel
theorem isi_tb : kitB "tuple" "bool" = some false := by decide +kernel
/-! ### the blocks of a statement, on data -/
def blksD : PyData → List PyData
  | .tuple [.str k, _, y, n] => if k = "if" then [y, n] else []
  | .tuple [.str k, _, b] => if k = "repeat" then [b] else []
  | _ => []
def itemsD : PyData → List PyData
  | .tuple ds => ds
  | _ => []
def bitems (d : PyData) : List PyData := (blksD d).flatMap itemsD
theorem plain_kw {w : Str} {ds : List PyData} (h : plainB (.tuple (.str w :: ds)) = true) : w ≠ "if" ∧ w ≠ "repeat" := by
  have a1 : inV (.str "if") [.str "set", .str "half"] = false := by decide +kernel
  have a2 : inV (.str "if") [.str "say", .str "stop"] = false := by decide +kernel
  have a3 : ¬ (("if" : Str) = "tell") := by decide +kernel
  have b1 : inV (.str "repeat") [.str "set", .str "half"] = false := by decide +kernel
  have b2 : inV (.str "repeat") [.str "say", .str "stop"] = false := by decide +kernel
  have b3 : ¬ (("repeat" : Str) = "tell") := by decide +kernel
  rcases ds with _ | ⟨d2, _ | ⟨d3, _ | ⟨d4, r⟩⟩⟩
  · exact absurd h (by show ¬ (false = true); decide)
  · replace h : (if w = "tell" then exprB 3 d2 else inV (.str w) [.str "say", .str "stop"] && wordB d2) = true := h
    constructor
    · rintro rfl
      rw [if_neg a3, a2] at h
      exact absurd h (by simp)
    · rintro rfl
      rw [if_neg b3, b2] at h
      exact absurd h (by simp)
  · replace h : (inV (.str w) [.str "set", .str "half"] && nameB d2 && exprB 3 d3) = true := h
    constructor
    · rintro rfl
      rw [a1] at h
      exact absurd h (by simp)
    · rintro rfl
      rw [b1] at h
      exact absurd h (by simp)
  · exact absurd h (by show ¬ (false = true); decide)
theorem stmt_cases {d : PyData} (h : stmtB d = true) : (∃ t y n, d = .tuple [.str "if", t, .tuple y, .tuple n] ∧ testB 2 t = true) ∨ (∃ k b, d = .tuple [.str "repeat", .int k, .tuple b] ∧ 0 ≤ k ∧ k ≤ 8) ∨
    (∃ w ds, d = .tuple (.str w :: ds) ∧ w ≠ "if" ∧ w ≠ "repeat" ∧ plainB d = true ∧ blksD d = []) := by
  have tup : ∀ e, isTupB e = true → ∃ es, e = .tuple es := by
    intro e he
    cases e with
    | tuple es => exact ⟨es, rfl⟩
    | none => exact absurd he (by decide)
    | bool b => exact absurd he (by show ¬ (false = true); decide)
    | int b => exact absurd he (by show ¬ (false = true); decide)
    | str b => exact absurd he (by show ¬ (false = true); decide)
    | list b => exact absurd he (by show ¬ (false = true); decide)
    | dict b => exact absurd he (by show ¬ (false = true); decide)
  have pl : ∀ w ds, plainB (.tuple (.str w :: ds)) = true → (∃ w' ds', PyData.tuple (.str w :: ds) = .tuple (.str w' :: ds') ∧ w' ≠ "if" ∧ w' ≠ "repeat" ∧ plainB (.tuple (.str w :: ds)) = true ∧ blksD (.tuple (.str w :: ds)) = []) := by
    intro w ds hp
    obtain ⟨n1, n2⟩ := plain_kw hp
    refine ⟨w, ds, rfl, n1, n2, hp, ?_⟩
    rcases ds with _ | ⟨d2, _ | ⟨d3, _ | ⟨d4, _ | ⟨d5, r⟩⟩⟩⟩
    · rfl
    · rfl
    · show (if w = "repeat" then [d3] else []) = []
      rw [if_neg n2]
    · show (if w = "if" then [d3, d4] else []) = []
      rw [if_neg n1]
    · rfl
  unfold stmtB at h
  split at h
  · rename_i k t y n
    simp only [Bool.and_eq_true, decide_eq_true_eq] at h
    obtain ⟨⟨⟨rfl, h2⟩, h3⟩, h4⟩ := h
    obtain ⟨ys, rfl⟩ := tup y h3
    obtain ⟨ns, rfl⟩ := tup n h4
    exact .inl ⟨t, ys, ns, rfl, h2⟩
  · rename_i k t b
    by_cases e : k = "repeat"
    · rw [if_pos e] at h
      subst e
      simp only [Bool.and_eq_true] at h
      obtain ⟨h1, h2⟩ := h
      obtain ⟨bs, rfl⟩ := tup b h2
      cases t with
      | int i =>
        replace h1 : (decide (0 ≤ i) && decide (i ≤ 8)) = true := h1
        simp only [Bool.and_eq_true, decide_eq_true_eq] at h1
        exact .inr (.inl ⟨i, bs, rfl, h1.1, h1.2⟩)
      | none => exact absurd h1 (by decide)
      | bool b => exact absurd h1 (by show ¬ (false = true); decide)
      | tuple b => exact absurd h1 (by show ¬ (false = true); decide)
      | str b => exact absurd h1 (by show ¬ (false = true); decide)
      | list b => exact absurd h1 (by show ¬ (false = true); decide)
      | dict b => exact absurd h1 (by show ¬ (false = true); decide)
    · rw [if_neg e] at h
      exact .inr (.inr (pl _ _ h))
  · exact .inr (.inr (pl _ _ h))
  · cases h
/-- something that has the form of a statement, as far as its blocks go -/
def StD (d : PyData) : Prop := (∃ t y n, d = .tuple [.str "if", t, .tuple y, .tuple n]) ∨ (∃ k b, d = .tuple [.str "repeat", k, .tuple b]) ∨ (∃ w ds, d = .tuple (.str w :: ds) ∧ w ≠ "if" ∧ w ≠ "repeat" ∧ blksD d = [])
theorem stmt_std {d : PyData} (h : stmtB d = true) : StD d := by
  rcases stmt_cases h with ⟨t, y, n, e, _⟩ | ⟨k, b, e, _⟩ | ⟨w, ds, e, n1, n2, _, eb⟩
  · exact .inl ⟨t, y, n, e⟩
  · exact .inr (.inl ⟨.int k, b, e⟩)
  · exact .inr (.inr ⟨w, ds, e, n1, n2, eb⟩)
theorem Sm.std (s : Sm) : StD s.d := by
  cases s with
  | ite t y n => exact .inl ⟨t.d, Sm.ds y, Sm.ds n, by simp only [Sm.d]⟩
  | rep k b => exact .inr (.inl ⟨.int k, Sm.ds b, by simp only [Sm.d]⟩)
  | set x e => exact .inr (.inr ⟨"set", _, by simp only [Sm.d]; rfl, by decide +kernel, by decide +kernel, by simp only [Sm.d, blksD]; rw [if_neg (by decide +kernel)]⟩)
  | half x e => exact .inr (.inr ⟨"half", _, by simp only [Sm.d]; rfl, by decide +kernel, by decide +kernel, by simp only [Sm.d, blksD]; rw [if_neg (by decide +kernel)]⟩)
  | tell e => exact .inr (.inr ⟨"tell", _, by simp only [Sm.d]; rfl, by decide +kernel, by decide +kernel, by simp only [Sm.d, blksD]⟩)
  | say e => exact .inr (.inr ⟨"say", _, by simp only [Sm.d]; rfl, by decide +kernel, by decide +kernel, by simp only [Sm.d, blksD]⟩)
  | stop e => exact .inr (.inr ⟨"stop", _, by simp only [Sm.d]; rfl, by decide +kernel, by decide +kernel, by simp only [Sm.d, blksD]⟩)
def spBlocksD : Sp := fun vs H Q _ => ∃ (v : V) (d : PyData), vs = [v] ∧ Tr H d v ∧ StD d ∧ ∀ (p : Addr) (bs : List V) (H' : Hp), H p = none → H' p = some (.lst bs) → TrAll H' (blksD d) bs → Kp [] H H' → Q (.ref p) H'
def pairD (q : Int × PyData) : PyData := .tuple [.int q.1, q.2]
mutual
/-- how many parts there are -/
def dsz : PyData → Nat
  | .tuple ds => 1 + dszs ds
  | .none => 1
  | .bool _ => 1
  | .int _ => 1
  | .str _ => 1
  | .list _ => 1
  | .dict _ => 1
def dszs : List PyData → Nat
  | [] => 0
  | d :: r => dsz d + dszs r
end
theorem dsz_pos (d : PyData) : 1 ≤ dsz d := by cases d <;> simp only [dsz] <;> omega
theorem dszs_app : ∀ (a b : List PyData), dszs (a ++ b) = dszs a + dszs b
  | [], b => by simp only [List.nil_append, dszs]; omega
  | d :: r, b => by simp only [List.cons_append, dszs, dszs_app r b]; omega
theorem dszs_len : ∀ a : List PyData, a.length ≤ dszs a
  | [] => Nat.le_refl _
  | d :: r => by
    have := dsz_pos d
    have := dszs_len r
    simp only [dszs, List.length_cons]
    omega
theorem items_sz (d : PyData) : dszs (itemsD d) + 1 ≤ dsz d := by
  cases d with
  | tuple ds => simp only [itemsD, dsz]; omega
  | none => simp only [itemsD, dsz, dszs]; omega
  | bool _ => simp only [itemsD, dsz, dszs]; omega
  | int _ => simp only [itemsD, dsz, dszs]; omega
  | str _ => simp only [itemsD, dsz, dszs]; omega
  | list _ => simp only [itemsD, dsz, dszs]; omega
  | dict _ => simp only [itemsD, dsz, dszs]; omega
theorem bitems_sz (d : PyData) : dszs (bitems d) + 1 ≤ dsz d := by
  unfold bitems
  unfold blksD
  split
  · rename_i k t y n
    have h1 := items_sz y
    have h2 := items_sz n
    split
    · simp only [List.flatMap_cons, List.flatMap_nil, List.append_nil, dszs_app, dsz, dszs]
      omega
    · simp only [List.flatMap_nil, dsz, dszs]
      omega
  · rename_i k t b
    have h1 := items_sz b
    split
    · simp only [List.flatMap_cons, List.flatMap_nil, List.append_nil, dsz, dszs]
      omega
    · simp only [List.flatMap_nil, dsz, dszs]
      omega
  · have := dsz_pos d
    simp only [List.flatMap_nil, dszs]
    omega
theorem Szds.app : ∀ {a b : List PyData}, Szds a → Szds b → Szds (a ++ b)
  | [], b, _, h => h
  | d :: r, b, h, g => by
    simp only [Szds] at h
    simp only [List.cons_append, Szds]
    exact ⟨h.1, Szds.app h.2 g⟩
theorem Szd.items {d : PyData} (h : Szd d) : Szds (itemsD d) := by
  cases d with
  | tuple ds => simpa only [Szd, itemsD] using h
  | none => simp only [itemsD, Szds]
  | bool _ => simp only [itemsD, Szds]
  | int _ => simp only [itemsD, Szds]
  | str _ => simp only [itemsD, Szds]
  | list _ => simp only [itemsD, Szds]
  | dict _ => simp only [itemsD, Szds]
theorem Szd.bitems {d : PyData} (h : Szd d) : Szds (bitems d) := by
  unfold EH.bitems blksD
  split
  · rename_i k t y n
    simp only [Szd, Szds] at h
    split
    · simp only [List.flatMap_cons, List.flatMap_nil, List.append_nil]
      exact h.2.2.1.items.app h.2.2.2.1.items
    · simp only [List.flatMap_nil, Szds]
  · rename_i k t b
    simp only [Szd, Szds] at h
    split
    · simp only [List.flatMap_cons, List.flatMap_nil, List.append_nil]
      exact h.2.2.1.items
    · simp only [List.flatMap_nil, Szds]
  · simp only [List.flatMap_nil, Szds]
def spWithin : Sp := fun vs H Q _ => ∃ (v : V) (d : PyData) (dep : Int), vs = [v, .int dep] ∧ Tr H d v ∧ StD d ∧ dsz d ≤ 1000000 ∧
  ∀ (p : Addr) (us : List V) (H' : Hp), H p = none → H' p = some (.lst us) → TrAll H' ((((bitems d).map fun e => pairD (dep + 1, e))).reverse) us → Kp [] H H' → Q (.ref p) H'
theorem TrAll.rev {H : Hp} : ∀ {ds : List PyData} {vs : List V}, TrAll H ds vs → TrAll H ds.reverse vs.reverse
  | [], vs, h => by
    simp only [TrAll] at h
    subst h
    exact trs_nil
  | d :: ds, vs, h => by
    simp only [TrAll] at h
    obtain ⟨v, r, rfl, h1, h2⟩ := h
    rw [List.reverse_cons, List.reverse_cons]
    exact (TrAll.rev h2).append (trs_cons h1 trs_nil)
theorem TrAll.app_inv {H : Hp} : ∀ {ds es : List PyData} {vs : List V}, TrAll H (ds ++ es) vs → ∃ us ws, vs = us ++ ws ∧ TrAll H ds us ∧ TrAll H es ws
  | [], es, vs, h => ⟨[], vs, rfl, trs_nil, h⟩
  | d :: ds, es, vs, h => by
    simp only [List.cons_append, TrAll] at h
    obtain ⟨v, r, rfl, h1, h2⟩ := h
    obtain ⟨us, ws, rfl, h3, h4⟩ := TrAll.app_inv h2
    exact ⟨v :: us, ws, rfl, trs_cons h1 h3, h4⟩
theorem TrAll.snoc_inv {H : Hp} {ds : List PyData} {e : PyData} {vs : List V} (h : TrAll H (ds ++ [e]) vs) : ∃ us u, vs = us ++ [u] ∧ TrAll H ds us ∧ Tr H e u := by
  obtain ⟨us, ws, rfl, h1, h2⟩ := TrAll.app_inv h
  simp only [TrAll] at h2
  obtain ⟨u, _, rfl, h3, rfl⟩ := h2
  exact ⟨us, u, rfl, h1, h3⟩
/-! ### the first wrong statement -/
def stk (l : List (Int × PyData)) : List PyData := l.map (·.2)
def ordE : Nat → List (Int × PyData) → Int → Option (Int × Str)
  | 0, _, _ => none
  | _ + 1, [], _ => none
  | f + 1, (dep, d) :: r, p => if 3 < dep then some (p, "nest") else if stmtB d = true then ordE f (((bitems d).map fun e => (dep + 1, e)) ++ r) (p + 1) else some (p, "statement")
theorem stk_app (a b : List (Int × PyData)) : stk (a ++ b) = stk a ++ stk b := List.map_append
theorem stk_bi (dep : Int) (l : List PyData) : stk (l.map fun e => (dep, e)) = l := by
  unfold stk
  rw [List.map_map]
  exact List.map_id l
theorem ordE_fuel : ∀ (f g : Nat) (l : List (Int × PyData)) (p : Int), dszs (stk l) < f → dszs (stk l) < g → ordE f l p = ordE g l p
  | 0, g, l, p, h, _ => absurd h (Nat.not_lt_zero _)
  | f + 1, 0, l, p, _, h => absurd h (Nat.not_lt_zero _)
  | f + 1, g + 1, [], p, _, _ => rfl
  | f + 1, g + 1, (dep, d) :: r, p, h1, h2 => by
    simp only [ordE]
    split
    · rfl
    · split
      · have hb := bitems_sz d
        have e : dszs (stk ((dep, d) :: r)) = dsz d + dszs (stk r) := by
          show dszs (d :: stk r) = _
          simp only [dszs]
        have e2 : dszs (stk (((bitems d).map fun e => (dep + 1, e)) ++ r)) = dszs (bitems d) + dszs (stk r) := by rw [stk_app, stk_bi, dszs_app]
        exact ordE_fuel f g _ _ (by omega) (by omega)
      · rfl
def errD : Option (Int × Str) → PyData
  | none => .none
  | some (p, w) => .tuple [.int p, .str w]
def ordErr (ds : List PyData) : Option (Int × Str) := ordE (dszs ds + 1) (ds.map fun e => (0, e)) 0
/-! ### what passes is a program -/
theorem sgns_ok {z : Str} (h : sgnsB z = true) : PyData.strOk z = true := by
  have hs : ∀ c ∈ SGNS.cps.toList, c < 0x110000 := by decide +kernel
  show z.cps.all _ = true
  rw [← Array.all_toList, List.all_eq_true]
  intro c hc
  unfold sgnsB at h
  rw [List.all_eq_true] at h
  exact decide_eq_true (hs c (of_decide_eq_true (h c hc)))
theorem lenB_le {z : Str} (h : lenB z = true) : z.length ≤ 8 := by
  unfold lenB at h
  rw [Bool.and_eq_true] at h
  have := of_decide_eq_true h.2
  omega
theorem name_str {d : PyData} (h : nameB d = true) : ∃ z, d = .str z ∧ NmOk z := by
  cases d with
  | str z =>
    replace h : (lenB z && headB z && sgnsB z && !inV (.str z) KEPTS) = true := h
    simp only [Bool.and_eq_true] at h
    obtain ⟨⟨⟨h1, h2⟩, h3⟩, h4⟩ := h
    have := lenB_le h1
    exact ⟨z, rfl, sgns_ok h3, by omega⟩
  | none => exact absurd h (by decide)
  | bool b => exact absurd h (by show ¬ (false = true); decide)
  | int b => exact absurd h (by show ¬ (false = true); decide)
  | tuple b => exact absurd h (by show ¬ (false = true); decide)
  | list b => exact absurd h (by show ¬ (false = true); decide)
  | dict b => exact absurd h (by show ¬ (false = true); decide)
theorem word_str {d : PyData} (h : wordB d = true) : ∃ z, d = .str z ∧ PyData.strOk z = true ∧ z.length ≤ 20 := by
  cases d with
  | str z =>
    replace h : (lenB z && sgnsB z) = true := h
    simp only [Bool.and_eq_true] at h
    have := lenB_le h.1
    exact ⟨z, rfl, sgns_ok h.2, by omega⟩
  | none => exact absurd h (by decide)
  | bool b => exact absurd h (by show ¬ (false = true); decide)
  | int b => exact absurd h (by show ¬ (false = true); decide)
  | tuple b => exact absurd h (by show ¬ (false = true); decide)
  | list b => exact absurd h (by show ¬ (false = true); decide)
  | dict b => exact absurd h (by show ¬ (false = true); decide)
theorem whole_int {lo hi : Int} {d : PyData} (h : wholeB lo hi d = true) : ∃ i, d = .int i ∧ lo ≤ i ∧ i ≤ hi := by
  cases d with
  | int i =>
    replace h : (decide (lo ≤ i) && decide (i ≤ hi)) = true := h
    simp only [Bool.and_eq_true, decide_eq_true_eq] at h
    exact ⟨i, rfl, h.1, h.2⟩
  | none => exact absurd h (by show ¬ (false = true); decide)
  | bool b => exact absurd h (by show ¬ (false = true); decide)
  | str b => exact absurd h (by show ¬ (false = true); decide)
  | tuple b => exact absurd h (by show ¬ (false = true); decide)
  | list b => exact absurd h (by show ¬ (false = true); decide)
  | dict b => exact absurd h (by show ¬ (false = true); decide)
theorem expr_tup {n : Nat} {ds : List PyData} (h : exprB (n + 1) (.tuple ds) = true) : ∃ k b c, ds = [.str k, b, c] ∧ exprB n c = true ∧ (if k = "times" then wholeB (-9) 9 b else inV (.str k) [.str "plus", .str "minus"] && exprB n b) = true := by
  have no : ∀ {P : Prop}, (false = true) → P := fun z => by cases z
  rcases ds with _ | ⟨d1, _ | ⟨d2, _ | ⟨d3, _ | ⟨d4, r⟩⟩⟩⟩
  · exact no h
  · cases d1 <;> exact no h
  · cases d1 <;> exact no h
  · cases d1 with
    | str k =>
      replace h : (exprB n d3 && (if k = "times" then wholeB (-9) 9 d2 else inV (.str k) [.str "plus", .str "minus"] && exprB n d2)) = true := h
      rw [Bool.and_eq_true] at h
      exact ⟨k, d2, d3, rfl, h.1, h.2⟩
    | none => exact no h
    | bool _ => exact no h
    | int _ => exact no h
    | tuple _ => exact no h
    | list _ => exact no h
    | dict _ => exact no h
  · cases d1 <;> exact no h
theorem expr_flat {n : Nat} {d : PyData} (h : (nameB d || wholeB (-99) 99 d) = true) : ∃ e : Ex, d = e.d ∧ e.ok ∧ e.deep ≤ n + 1 := by
  rw [Bool.or_eq_true] at h
  rcases h with h | h
  · obtain ⟨z, rfl, ok⟩ := name_str h
    exact ⟨.var z, by simp only [Ex.d], ok, by simp only [Ex.deep]; omega⟩
  · obtain ⟨i, rfl, i1, i2⟩ := whole_int h
    exact ⟨.num i, by simp only [Ex.d], ⟨i1, i2⟩, by simp only [Ex.deep]; omega⟩
theorem expr_ex : ∀ (n : Nat) {d : PyData}, exprB n d = true → ∃ e : Ex, d = e.d ∧ e.ok ∧ e.deep ≤ n
  | 0, d, h => absurd h (by unfold exprB; simp)
  | n + 1, d, h => by
    cases d with
    | tuple ds =>
      obtain ⟨k, b, c, rfl, h1, h2⟩ := expr_tup h
      obtain ⟨ec, rfl, oc, dc⟩ := expr_ex n h1
      by_cases hk : k = "times"
      · rw [if_pos hk] at h2
        obtain ⟨i, rfl, i1, i2⟩ := whole_int h2
        subst hk
        exact ⟨.times i ec, by simp only [Ex.d], ⟨i1, i2, oc⟩, by simp only [Ex.deep]; omega⟩
      · rw [if_neg hk] at h2
        simp only [Bool.and_eq_true] at h2
        obtain ⟨hi, hb⟩ := h2
        obtain ⟨eb, rfl, ob, db⟩ := expr_ex n hb
        rcases in2 hi with rfl | rfl
        · exact ⟨.plus eb ec, by simp only [Ex.d], ⟨ob, oc⟩, by simp only [Ex.deep]; omega⟩
        · exact ⟨.minus eb ec, by simp only [Ex.d], ⟨ob, oc⟩, by simp only [Ex.deep]; omega⟩
    | none => exact expr_flat h
    | bool b => exact expr_flat h
    | int b => exact expr_flat h
    | str b => exact expr_flat h
    | list b => exact expr_flat h
    | dict b => exact expr_flat h
theorem test_ts : ∀ (n : Nat) {d : PyData}, testB n d = true → ∃ t : Ts, d = t.d ∧ t.ok ∧ t.nots ≤ n
  | n, d, h => by
    unfold testB at h
    split at h
    · rename_i k b c
      simp only [Bool.and_eq_true, decide_eq_true_eq] at h
      obtain ⟨⟨rfl, h1⟩, h2⟩ := h
      obtain ⟨eb, rfl, ob, db⟩ := expr_ex 3 h1
      obtain ⟨ec, rfl, oc, dc⟩ := expr_ex 3 h2
      exact ⟨.less eb ec, by simp only [Ts.d], ⟨⟨ob, db⟩, oc, dc⟩, Nat.zero_le _⟩
    · rename_i k b
      simp only [Bool.and_eq_true, decide_eq_true_eq] at h
      obtain ⟨rfl, h1⟩ := h
      obtain ⟨eb, rfl, ob, db⟩ := expr_ex 3 h1
      exact ⟨.odd eb, by simp only [Ts.d], ⟨ob, db⟩, Nat.zero_le _⟩
    · rename_i n k b
      by_cases hk : k = "odd"
      · rw [if_pos hk] at h
        subst hk
        obtain ⟨eb, rfl, ob, db⟩ := expr_ex 3 h
        exact ⟨.odd eb, by simp only [Ts.d], ⟨ob, db⟩, Nat.zero_le _⟩
      · rw [if_neg hk] at h
        simp only [Bool.and_eq_true, decide_eq_true_eq] at h
        obtain ⟨rfl, h1⟩ := h
        obtain ⟨t, rfl, ot, nt⟩ := test_ts n h1
        exact ⟨.not t, by simp only [Ts.d], ot, by simp only [Ts.nots]; omega⟩
    · cases h
theorem plain_sm {d : PyData} (h : plainB d = true) : ∃ s : Sm, d = s.d ∧ s.ok ∧ s.nest = 0 := by
  unfold plainB at h
  split at h
  · rename_i k b c
    simp only [Bool.and_eq_true] at h
    obtain ⟨⟨hi, h1⟩, h2⟩ := h
    obtain ⟨z, rfl, oz⟩ := name_str h1
    obtain ⟨e, rfl, oe, de⟩ := expr_ex 3 h2
    rcases in2 hi with rfl | rfl
    · exact ⟨.set z e, by simp only [Sm.d], by simp only [Sm.ok]; exact ⟨⟨oe, de⟩, oz⟩, by simp only [Sm.nest]⟩
    · exact ⟨.half z e, by simp only [Sm.d], by simp only [Sm.ok]; exact ⟨⟨oe, de⟩, oz⟩, by simp only [Sm.nest]⟩
  · rename_i k b
    by_cases hk : k = "tell"
    · rw [if_pos hk] at h
      subst hk
      obtain ⟨e, rfl, oe, de⟩ := expr_ex 3 h
      exact ⟨.tell e, by simp only [Sm.d], by simp only [Sm.ok]; exact ⟨oe, de⟩, by simp only [Sm.nest]⟩
    · rw [if_neg hk] at h
      simp only [Bool.and_eq_true] at h
      obtain ⟨hi, h1⟩ := h
      obtain ⟨z, rfl, oz⟩ := word_str h1
      rcases in2 hi with rfl | rfl
      · exact ⟨.say z, by simp only [Sm.d], by simp only [Sm.ok]; exact oz, by simp only [Sm.nest]⟩
      · exact ⟨.stop z, by simp only [Sm.d], by simp only [Sm.ok]; exact oz, by simp only [Sm.nest]⟩
  · cases h
theorem sms_of {dep : Int} : ∀ {l : List PyData}, (∀ d ∈ l, ∃ s : Sm, d = s.d ∧ s.ok ∧ (s.nest : Int) + dep ≤ 4) → ∃ b : List Sm, l = Sm.ds b ∧ Sm.oks b ∧ (b = [] ∨ (Sm.nests b : Int) + dep ≤ 4)
  | [], _ => ⟨[], by simp only [Sm.ds], by simp only [Sm.oks], .inl rfl⟩
  | d :: r, h => by
    obtain ⟨s, rfl, o, n⟩ := h d List.mem_cons_self
    obtain ⟨b, rfl, ob, nb⟩ := sms_of fun e he => h e (List.mem_cons_of_mem _ he)
    refine ⟨s :: b, by simp only [Sm.ds], by simp only [Sm.oks]; exact ⟨o, ob⟩, .inr ?_⟩
    simp only [Sm.nests]
    rcases nb with rfl | nb
    · simp only [Sm.nests]
      omega
    · omega
theorem ord_none : ∀ (f : Nat) (l : List (Int × PyData)) (p : Int), dszs (stk l) < f → ordE f l p = none → ∀ q ∈ l, ∃ s : Sm, q.2 = s.d ∧ s.ok ∧ (s.nest : Int) + q.1 ≤ 4
  | 0, l, p, hf, _ => absurd hf (Nat.not_lt_zero _)
  | f + 1, [], p, _, _ => fun q h => nomatch h
  | f + 1, (dep, d) :: r, p, hf, h => by
    simp only [ordE] at h
    by_cases hd : 3 < dep
    · rw [if_pos hd] at h; cases h
    · rw [if_neg hd] at h
      by_cases hs : stmtB d = true
      · rw [if_pos hs] at h
        have hb := bitems_sz d
        have e : dszs (stk ((dep, d) :: r)) = dsz d + dszs (stk r) := by
          show dszs (d :: stk r) = _
          simp only [dszs]
        have e2 : dszs (stk (((bitems d).map fun e => (dep + 1, e)) ++ r)) = dszs (bitems d) + dszs (stk r) := by rw [stk_app, stk_bi, dszs_app]
        have ih := ord_none f _ _ (by omega) h
        intro q hq
        rcases List.mem_cons.mp hq with rfl | hq
        · have each : ∀ e ∈ bitems d, ∃ s : Sm, e = s.d ∧ s.ok ∧ (s.nest : Int) + (dep + 1) ≤ 4 := fun e he => ih (dep + 1, e) (List.mem_append_left _ (List.mem_map.mpr ⟨e, he, rfl⟩))
          rcases stmt_cases hs with ⟨t, y, n, rfl, ht⟩ | ⟨k, b, rfl, k1, k2⟩ | ⟨w, ds, rfl, n1, n2, hp, eb⟩
          · have eb : bitems (.tuple [.str "if", t, .tuple y, .tuple n]) = y ++ n := by
              unfold bitems
              rw [show blksD (.tuple [.str "if", t, .tuple y, .tuple n]) = [.tuple y, .tuple n] by unfold blksD; exact if_pos rfl]
              simp [itemsD]
            rw [eb] at each
            obtain ⟨ys, ey, oy, ny⟩ := sms_of (dep := dep + 1) (l := y) fun e he => each e (List.mem_append_left _ he)
            obtain ⟨ns, en, on, nn⟩ := sms_of (dep := dep + 1) (l := n) fun e he => each e (List.mem_append_right _ he)
            obtain ⟨ts, et, ot, nt⟩ := test_ts 2 ht
            subst ey en et
            refine ⟨.ite ts ys ns, by simp only [Sm.d], by simp only [Sm.ok]; exact ⟨ot, nt, oy, on⟩, ?_⟩
            simp only [Sm.nest]
            have z1 : (Sm.nests ys : Int) + (dep + 1) ≤ 4 := by
              rcases ny with rfl | ny
              · simp only [Sm.nests]; omega
              · exact ny
            have z2 : (Sm.nests ns : Int) + (dep + 1) ≤ 4 := by
              rcases nn with rfl | nn
              · simp only [Sm.nests]; omega
              · exact nn
            omega
          · have eb : bitems (.tuple [.str "repeat", .int k, .tuple b]) = b := by
              unfold bitems
              rw [show blksD (.tuple [.str "repeat", .int k, .tuple b]) = [.tuple b] by unfold blksD; exact if_pos rfl]
              simp [itemsD]
            rw [eb] at each
            obtain ⟨bs, ey, oy, ny⟩ := sms_of (dep := dep + 1) (l := b) each
            subst ey
            refine ⟨.rep k.toNat bs, ?_, ?_, ?_⟩
            · simp only [Sm.d]
              rw [Int.toNat_of_nonneg k1]
            · simp only [Sm.ok]
              exact ⟨by omega, oy⟩
            · simp only [Sm.nest]
              rcases ny with rfl | ny
              · simp only [Sm.nests]; omega
              · omega
          · obtain ⟨s, es, os, ns⟩ := plain_sm hp
            exact ⟨s, es, os, by rw [ns]; show ((0 : Nat) : Int) + dep ≤ 4; omega⟩
        · exact ih q (List.mem_append_right _ hq)
      · rw [if_neg hs] at h; cases h
theorem ordErr_none {ds : List PyData} (h : ordErr ds = none) : ∃ b : List Sm, ds = Sm.ds b ∧ Sm.oks b ∧ Sm.nests b ≤ 4 := by
  have hs : stk (ds.map fun e => ((0 : Int), e)) = ds := stk_bi 0 ds
  have := ord_none _ _ _ (by rw [hs]; omega) h
  obtain ⟨b, e, o, n⟩ := sms_of (dep := 0) (l := ds) fun d hd => this (0, d) (List.mem_map.mpr ⟨d, hd, rfl⟩)
  refine ⟨b, e, o, ?_⟩
  rcases n with rfl | n
  · simp only [Sm.nests]; omega
  · omega
/-! ### the statements in order -/
mutual
def Sm.prs (dep : Int) : Sm → List (Int × Sm)
  | .ite t y n => (dep, .ite t y n) :: (Sm.prss (dep + 1) y ++ Sm.prss (dep + 1) n)
  | .rep k b => (dep, .rep k b) :: Sm.prss (dep + 1) b
  | .set x e => [(dep, .set x e)]
  | .half x e => [(dep, .half x e)]
  | .tell e => [(dep, .tell e)]
  | .say w => [(dep, .say w)]
  | .stop w => [(dep, .stop w)]
def Sm.prss (dep : Int) : List Sm → List (Int × Sm)
  | [] => []
  | s :: r => Sm.prs dep s ++ Sm.prss dep r
end
mutual
theorem Sm.prs_len (dep : Int) : ∀ s : Sm, (s.prs dep).length = s.pl
  | .ite t y n => by simp only [Sm.prs, Sm.pl, List.length_cons, List.length_append, Sm.prss_len (dep + 1) y, Sm.prss_len (dep + 1) n]; omega
  | .rep k b => by simp only [Sm.prs, Sm.pl, List.length_cons, Sm.prss_len (dep + 1) b]; omega
  | .set x e => by simp only [Sm.prs, Sm.pl, List.length_singleton]
  | .half x e => by simp only [Sm.prs, Sm.pl, List.length_singleton]
  | .tell e => by simp only [Sm.prs, Sm.pl, List.length_singleton]
  | .say w => by simp only [Sm.prs, Sm.pl, List.length_singleton]
  | .stop w => by simp only [Sm.prs, Sm.pl, List.length_singleton]
theorem Sm.prss_len (dep : Int) : ∀ b : List Sm, (Sm.prss dep b).length = Sm.pls b
  | [] => by simp only [Sm.prss, Sm.pls, List.length_nil]
  | s :: r => by simp only [Sm.prss, Sm.pls, List.length_append, Sm.prs_len dep s, Sm.prss_len dep r]
end
def pairS (q : Int × Sm) : PyData := .tuple [.int q.1, q.2.d]
/-- the items of the blocks of a statement -/
def Sm.inn : Sm → List Sm
  | .ite _ y n => y ++ n
  | .rep _ b => b
  | _ => []
theorem Sm.prs_inn (dep : Int) (s : Sm) : s.prs dep = (dep, s) :: Sm.prss (dep + 1) s.inn := by
  have app : ∀ (a b : List Sm), Sm.prss (dep + 1) (a ++ b) = Sm.prss (dep + 1) a ++ Sm.prss (dep + 1) b := by
    intro a b
    induction a with
    | nil => simp only [List.nil_append, Sm.prss]
    | cons s r ih => simp only [List.cons_append, Sm.prss, ih, List.append_assoc]
  cases s with
  | ite t y n => simp only [Sm.prs, Sm.inn, app]
  | rep k b => simp only [Sm.prs, Sm.inn]
  | set x e => simp only [Sm.prs, Sm.inn, Sm.prss]
  | half x e => simp only [Sm.prs, Sm.inn, Sm.prss]
  | tell e => simp only [Sm.prs, Sm.inn, Sm.prss]
  | say w => simp only [Sm.prs, Sm.inn, Sm.prss]
  | stop w => simp only [Sm.prs, Sm.inn, Sm.prss]
theorem Sm.bitems_inn (s : Sm) : bitems s.d = Sm.ds s.inn := by
  unfold bitems
  cases s with
  | ite t y n =>
    rw [show blksD (Sm.ite t y n).d = [.tuple (Sm.ds y), .tuple (Sm.ds n)] by simp only [Sm.d, blksD]; exact if_pos trivial]
    simp [itemsD, Sm.inn, Sm.ds_app]
  | rep k b =>
    rw [show blksD (Sm.rep k b).d = [.tuple (Sm.ds b)] by simp only [Sm.d, blksD]; exact if_pos trivial]
    simp [itemsD, Sm.inn]
  | set x e => rw [show blksD (Sm.set x e).d = [] by simp only [Sm.d, blksD]; rw [if_neg (by decide +kernel)]]; simp [Sm.inn, Sm.ds]
  | half x e => rw [show blksD (Sm.half x e).d = [] by simp only [Sm.d, blksD]; rw [if_neg (by decide +kernel)]]; simp [Sm.inn, Sm.ds]
  | tell e => simp [Sm.d, blksD, Sm.inn, Sm.ds]
  | say e => simp [Sm.d, blksD, Sm.inn, Sm.ds]
  | stop e => simp [Sm.d, blksD, Sm.inn, Sm.ds]
theorem Sm.blksD_eq (s : Sm) : blksD s.d = s.blks.map fun b => .tuple (Sm.ds b) := by
  cases s with
  | ite t y n => simp only [Sm.d, blksD, Sm.blks, List.map_cons, List.map_nil]; exact if_pos trivial
  | rep k b => simp only [Sm.d, blksD, Sm.blks, List.map_cons, List.map_nil]; exact if_pos trivial
  | set x e => simp only [Sm.d, blksD, Sm.blks, List.map_nil]; exact if_neg (by decide +kernel)
  | half x e => simp only [Sm.d, blksD, Sm.blks, List.map_nil]; exact if_neg (by decide +kernel)
  | tell e => simp only [Sm.d, blksD, Sm.blks, List.map_nil]
  | say e => simp only [Sm.d, blksD, Sm.blks, List.map_nil]
  | stop e => simp only [Sm.d, blksD, Sm.blks, List.map_nil]
/-- what is left to walk -/
def prL (l : List (Int × Sm)) : List (Int × Sm) := l.flatMap fun q => q.2.prs q.1
theorem prL_cons (dep : Int) (s : Sm) (l : List (Int × Sm)) : prL ((dep, s) :: l) = (dep, s) :: prL ((s.inn.map fun e => (dep + 1, e)) ++ l) := by
  have e : ∀ (d : Int) (b : List Sm), Sm.prss d b = prL (b.map fun e => (d, e)) := by
    intro d b
    induction b with
    | nil => simp only [Sm.prss, List.map_nil, prL, List.flatMap_nil]
    | cons s r ih => simp only [Sm.prss, ih, List.map_cons, prL, List.flatMap_cons]
  unfold prL
  rw [List.flatMap_cons, List.flatMap_append]
  show s.prs dep ++ _ = _
  rw [Sm.prs_inn, e]
  rfl
theorem prL_start (b : List Sm) : prL (b.map fun e => ((0 : Int), e)) = Sm.prss 0 b := by
  induction b with
  | nil => simp only [Sm.prss, List.map_nil, prL, List.flatMap_nil]
  | cons s r ih =>
    simp only [Sm.prss, List.map_cons, prL, List.flatMap_cons]
    unfold prL at ih
    rw [ih]
theorem dsz_mem : ∀ {l : List PyData} {d : PyData}, d ∈ l → dsz d ≤ dszs l
  | [], d, h => nomatch h
  | x :: r, d, h => by
    simp only [dszs]
    rcases List.mem_cons.mp h with rfl | h
    · omega
    · have := dsz_mem h
      omega
mutual
theorem Sm.pl_dsz : ∀ s : Sm, s.pl ≤ dsz s.d
  | .ite t y n => by
    have := Sm.pls_dsz y
    have := Sm.pls_dsz n
    simp only [Sm.pl, Sm.d, dsz, dszs]
    omega
  | .rep k b => by
    have := Sm.pls_dsz b
    simp only [Sm.pl, Sm.d, dsz, dszs]
    omega
  | .set x e => by simp only [Sm.pl, Sm.d, dsz, dszs]; omega
  | .half x e => by simp only [Sm.pl, Sm.d, dsz, dszs]; omega
  | .tell e => by simp only [Sm.pl, Sm.d, dsz, dszs]; omega
  | .say w => by simp only [Sm.pl, Sm.d, dsz, dszs]; omega
  | .stop w => by simp only [Sm.pl, Sm.d, dsz, dszs]; omega
theorem Sm.pls_dsz : ∀ b : List Sm, Sm.pls b ≤ dszs (Sm.ds b)
  | [] => by simp only [Sm.pls, Sm.ds, dszs]; omega
  | s :: r => by
    have := Sm.pl_dsz s
    have := Sm.pls_dsz r
    simp only [Sm.pls, Sm.ds, dszs]
    omega
end
theorem prL_len : ∀ l : List (Int × Sm), l.length ≤ (prL l).length
  | [] => Nat.le_refl _
  | q :: r => by
    have h1 := prL_len r
    have h2 := Sm.prs_len q.1 q.2
    have h3 := q.2.pl_pos
    unfold prL at h1 ⊢
    rw [List.flatMap_cons, List.length_append, List.length_cons]
    omega
def spRows : Sp := fun vs H Q _ => ∃ (v : V) (b : List Sm), vs = [v] ∧ Tr H (.tuple (Sm.ds b)) v ∧ dszs (Sm.ds b) ≤ 1000000 ∧ ∀ (p : Addr) (us : List V) (H' : Hp), H p = none → H' p = some (.lst us) → TrAll H' ((Sm.prss 0 b).map pairS) us → Kp [] H H' → Q (.ref p) H'
/-! ### counts -/
def cnt (sort : Str) (s : Sm) : Nat := if sort = "weight" then s.wt else if sort = "half" then s.hv else s.cp
def cnts (sort : Str) (b : List Sm) : Nat := if sort = "weight" then Sm.wts b else if sort = "half" then Sm.hvs b else Sm.cps b
def SrtW (sort : Str) : Prop := sort = "weight" ∨ sort = "half" ∨ sort = "less"
def own (sort : Str) (s : Sm) : Nat := if sort = "weight" then 1 else match s with
  | .ite t _ _ => if sort = "half" then (if t.isOdd then 1 else 0) else (if t.isOdd then 0 else 1)
  | .half _ _ => if sort = "half" then 1 else 0
  | _ => 0
def Sm.tms : Sm → Nat
  | .rep k _ => k
  | _ => 1
theorem cnt_own {sort : Str} (s : Sm) : cnt sort s = own sort s + ((s.blks.map (cnts sort)).sum) * s.tms := by
  unfold cnt own cnts
  by_cases h1 : sort = "weight"
  · simp only [if_pos h1]
    cases s <;> simp [Sm.wt, Sm.blks, Sm.tms, Nat.mul_comm]
  · simp only [if_neg h1]
    by_cases h2 : sort = "half"
    · simp only [if_pos h2]
      cases s <;> simp [Sm.hv, Sm.blks, Sm.tms, Nat.mul_comm]
    · simp only [if_neg h2]
      cases s <;> simp [Sm.cp, Sm.blks, Sm.tms, Nat.mul_comm]
theorem cnts_cons {sort : Str} (s : Sm) (r : List Sm) : cnts sort (s :: r) = cnt sort s + cnts sort r := by
  unfold cnts cnt
  by_cases h1 : sort = "weight"
  · simp only [if_pos h1, Sm.wts]
  · simp only [if_neg h1]
    by_cases h2 : sort = "half"
    · simp only [if_pos h2, Sm.hvs]
    · simp only [if_neg h2, Sm.cps]
theorem cnts_nil {sort : Str} : cnts sort [] = 0 := by
  unfold cnts
  split
  · simp only [Sm.wts]
  · split
    · simp only [Sm.hvs]
    · simp only [Sm.cps]
def Ts.base : Ts → Ts
  | .not t => t.base
  | t => t
theorem Ts.base_not : ∀ (t t0 : Ts), t.base ≠ .not t0
  | .less _ _, t0 => fun h => by cases h
  | .odd _, t0 => fun h => by cases h
  | .not t, t0 => Ts.base_not t t0
theorem Ts.base_odd : ∀ t : Ts, t.base.isOdd = t.isOdd
  | .less _ _ => rfl
  | .odd _ => rfl
  | .not t => Ts.base_odd t
def spBare : Sp := fun vs H Q _ => ∃ (v : V) (t : Ts), vs = [v] ∧ Tr H t.d v ∧ ∀ v', Tr H t.base.d v' → Q v' H
def spOwn : Sp := fun vs H Q _ => ∃ (v : V) (s : Sm) (sort : Str), vs = [v, .str sort] ∧ Tr H s.d v ∧ SrtW sort ∧ Q (.int (own sort s)) H
def spCounted (n : Nat) : Sp := fun vs H Q _ => ∃ (v : V) (b : List Sm) (sort : Str), vs = [v, .str sort] ∧ Tr H (.tuple (Sm.ds b)) v ∧ SrtW sort ∧ Sm.oks b ∧ b.length ≤ 1000000 ∧ Sm.pls b ≤ 1000000 ∧ Sm.nests b ≤ n ∧ ∀ H', Kp [] H H' → Q (.int (cnts sort b)) H'
def spWeight (n : Nat) : Sp := fun vs H Q _ => ∃ (v : V) (b : List Sm), vs = [v] ∧ Tr H (.tuple (Sm.ds b)) v ∧ Sm.oks b ∧ Sm.pls b ≤ 1000000 ∧ Sm.nests b ≤ n ∧ ∀ H', Kp [] H H' → Q (.int (Sm.wts b)) H'
def bndErr (b : List Sm) : Option Str :=
  if 24 < Sm.pls b then some "places" else if 60 < Sm.wts b then some "weight" else if 4 < Sm.hvs b then some "halvings" else if 3 < Sm.cps b then some "comparings" else none
def bndD : Option Str → PyData
  | none => .none
  | some w => .tuple [.none, .str w]
/-- what program_error tells of a value -/
inductive PErr : PyData → PyData → Prop
  | prog {d : PyData} (h : isTupB d = false) : PErr d (.tuple [.none, .str "program"])
  | ord {ds : List PyData} {p : Int} {w : Str} (h : ordErr ds = some (p, w)) : PErr (.tuple ds) (.tuple [.int p, .str w])
  | bnd {b : List Sm} (h : ordErr (Sm.ds b) = none) : PErr (.tuple (Sm.ds b)) (bndD (bndErr b))
/-! ### texts -/
def rJoinA : V → List V → Hp → VK → Prop := fun x xs H Q => ∃ a p, ∃ ys : List Str, x = .str a ∧ xs = [.ref p] ∧ H p = some (.lst (ys.map V.str)) ∧ (ys.map (·.length)).sum + ys.length * a.length ≤ 16777216 ∧ Q (.str (Txt.join a ys)) H
section
variable {X : Cx}
theorem mt_joinA : MtR X "str.join" rJoinA := fun pins s σ H x xs v us Q I rx rxs ⟨a, p, ys, e1, e2, h, z, q⟩ => mt_join pins s σ H x xs v us Q I rx rxs ⟨a, p, ys, e1, e2, .inl (SqL.of h), z, q⟩
theorem pe_joinA {o e : Expr} {to te : TE} {apos pos : Pos} (ho : PE X o to) (he : PE X e te) (hs : starEach [e] X.env = [(false, eval e X.env)] := by rfl) (hbase : attributeBase o "join" X.env (eval o X.env) = eval o X.env := by rfl) (hline : (apos.endLine == pos.line) = true := by rfl) :
    PE X (.Call (.Attribute o "join" apos) [e] [] pos) (tM1 rJoinA to te) := pe_m1 F.slot_str_join F.type_str_join mt_joinA ho he hs hbase hline
end
theorem strOk_app {a b : Str} (h1 : PyData.strOk a = true) (h2 : PyData.strOk b = true) : PyData.strOk (a ++ b) = true := by
  show (a.cps ++ b.cps).all _ = true
  rw [Array.all_append]
  rw [show a.cps.all (· < 0x110000) = true from h1, show b.cps.all (· < 0x110000) = true from h2]
  rfl
theorem strOk_of {a : Str} (h : ∀ c ∈ a.cps.toList, c < 0x110000) : PyData.strOk a = true := by
  show a.cps.all _ = true
  rw [← Array.all_toList, List.all_eq_true]
  intro c hc
  exact decide_eq_true (h c hc)
/-- single signs, joined -/
def sgl (cs : List Nat) : List Str := cs.map fun c => ⟨#[c]⟩
theorem join_sgl0 : ∀ cs : List Nat, Str.join (Str.ofString "") (sgl cs) = ⟨cs.toArray⟩
  | [] => rfl
  | [c] => rfl
  | c :: d :: r => by
    have e : Str.join (Str.ofString "") (sgl (c :: d :: r)) = (⟨#[c]⟩ ++ Str.ofString "" ++ Str.join (Str.ofString "") (sgl (d :: r)) : Str) := rfl
    rw [e, join_sgl0 (d :: r)]
    show (⟨(#[c] ++ (Str.ofString "").cps) ++ (d :: r).toArray⟩ : Str) = _
    rw [show (Str.ofString "").cps = #[] by decide +kernel]
    simp
theorem join_sgl (cs : List Nat) : Txt.join (Str.ofString "") (sgl cs) = ⟨cs.toArray⟩ := by
  rw [TL.join_eq]
  exact join_sgl0 cs
theorem sgl_len : ∀ cs : List Nat, ((sgl cs).map (·.length)).sum = cs.length
  | [] => rfl
  | c :: r => by
    show 1 + ((sgl r).map (·.length)).sum = r.length + 1
    rw [sgl_len r]
    omega
theorem sgl_ok (cs : List Nat) (h : cs.length ≤ 1000) : ((sgl cs).map (·.length)).sum + (sgl cs).length * (Str.ofString "").length ≤ 16777216 := by
  rw [sgl_len, show (Str.ofString "").length = 0 by decide +kernel]
  omega
def letters : Str := "abcdefgijkmoqruvwxyz"
def signs : Str := letters ++ "0123456789"
def nmsOf (L R : Str) : List Str := ["n", L ++ "q" ++ R, L ++ "x" ++ R, L ++ "z" ++ R]
structure LR (L R : Str) : Prop where
  l : ∀ c ∈ L.cps.toList, c ∈ letters.cps.toList
  r : ∀ c ∈ R.cps.toList, c ∈ signs.cps.toList
  ll : L.length ≤ 8
  rl : R.length ≤ 8
def spNamesS : Sp := fun vs H Q _ => ∃ (a c : Addr) (m : Int), vs = [.ref a] ∧ Deck H a c m ∧ m ≤ 600000000 ∧
  ∀ (nm : Addr) (L R : Str) (H' : Hp) (m' : Int), H nm = none → LR L R → L.length ≤ 3 ∧ R.length ≤ 4 → Nms H' nm a c (nmsOf L R) → m ≤ m' → m' ≤ m + 100 → Deck H' a c m' → Kp [a, c] H H' → Q (.ref nm) H'
theorem sign_ok {c : Nat} (h : c ∈ signs.cps.toList) : c < 0x110000 := by
  have : ∀ c ∈ signs.cps.toList, c < 0x110000 := by decide +kernel
  exact this c h
theorem letter_sign {c : Nat} (h : c ∈ letters.cps.toList) : c ∈ signs.cps.toList := by
  have : ∀ c ∈ letters.cps.toList, c ∈ signs.cps.toList := by decide +kernel
  exact this c h
theorem LR.oks {L R : Str} (x : LR L R) : ∀ y ∈ nmsOf L R, NmOk y := by
  have h1 : PyData.strOk L = true := strOk_of fun c hc => sign_ok (letter_sign (x.l c hc))
  have h2 : PyData.strOk R = true := strOk_of fun c hc => sign_ok (x.r c hc)
  intro y hy
  simp only [nmsOf, List.mem_cons, List.not_mem_nil, or_false] at hy
  have ln : ∀ q : Str, q.length ≤ 8 → (L ++ q ++ R).length ≤ 1000 := by
    intro q hq
    have a1 := x.ll
    have a2 := x.rl
    have e : (L ++ q ++ R).length = L.length + q.length + R.length := by
      show ((L.cps ++ q.cps) ++ R.cps).size = _
      rw [Array.size_append, Array.size_append]
      rfl
    omega
  rcases hy with rfl | rfl | rfl | rfl
  · exact ⟨by decide +kernel, by decide +kernel⟩
  · exact ⟨strOk_app (strOk_app h1 (by decide +kernel)) h2, ln _ (by decide +kernel)⟩
  · exact ⟨strOk_app (strOk_app h1 (by decide +kernel)) h2, ln _ (by decide +kernel)⟩
  · exact ⟨strOk_app (strOk_app h1 (by decide +kernel)) h2, ln _ (by decide +kernel)⟩
/-! ### what every run keeps -/
section
variable {J : Nat → Nat → Cs → Prop}
theorem iterN_inv {f : Cs → Option Str × Cs} {dw dh : Nat} (mono : ∀ w h w' h' s, J w h s → w ≤ w' → h ≤ h' → J w' h' s) (st : ∀ w h s, J w h s → J (w + dw) (h + dh) (f s).2) : ∀ (k w h : Nat) (s : Cs), J w h s → J (w + k * dw) (h + k * dh) (iterN k f s).2
  | 0, w, h, s, j => mono _ _ _ _ _ j (Nat.le_add_right _ _) (Nat.le_add_right _ _)
  | k + 1, w, h, s, j => by
    have j1 := st w h s j
    rw [iterN, Nat.succ_mul, Nat.succ_mul]
    cases e : f s with
    | mk c s' =>
      rw [e] at j1
      cases c with
      | none => exact mono _ _ _ _ _ (iterN_inv mono st k _ _ s' j1) (by omega) (by omega)
      | some c => exact mono _ _ _ _ _ j1 (by omega) (by omega)
variable {dec : Nat → Int → Int → Int} {ways : Int → Option Int}
mutual
theorem Sm.inv (mono : ∀ w h w' h' s, J w h s → w ≤ w' → h ≤ h' → J w' h' s) (pl : ∀ st : Sm, st.plain → st.ok → ∀ p w h s, J w h s → J (w + 1) (h + st.hv) (st.run dec ways p s).2) :
    ∀ (t : Sm), t.ok → ∀ (p : Int) (w h : Nat) (s : Cs), J w h s → J (w + t.wt) (h + t.hv) (t.run dec ways p s).2
  | .ite t y n, o, p, w, h, s, j => by
    simp only [Sm.ok] at o
    simp only [Sm.run, Sm.wt, Sm.hv]
    by_cases hc : t.ev s.env = true
    · have jj := Sm.invs mono pl y o.2.2.1 (p + 1) w h s j
      rw [if_pos hc]
      refine mono _ _ _ _ _ jj ?_ ?_ <;> omega
    · have jj := Sm.invs mono pl n o.2.2.2 (p + 1 + (Sm.pls y : Int)) w h s j
      rw [if_neg hc]
      refine mono _ _ _ _ _ jj ?_ ?_ <;> omega
  | .rep k b, o, p, w, h, s, j => by
    simp only [Sm.ok] at o
    simp only [Sm.run, Sm.wt, Sm.hv]
    have jj := iterN_inv mono (fun w h s j => Sm.invs mono pl b o.2 (p + 1) w h s j) k w h s j
    refine mono _ _ _ _ _ jj ?_ ?_ <;> omega
  | .set x e, o, p, w, h, s, j => by
    have := pl (.set x e) trivial o p w h s j
    simp only [Sm.wt]
    exact this
  | .half x e, o, p, w, h, s, j => by
    have := pl (.half x e) trivial o p w h s j
    simp only [Sm.wt]
    exact this
  | .tell e, o, p, w, h, s, j => by
    have := pl (.tell e) trivial o p w h s j
    simp only [Sm.wt]
    exact this
  | .say c, o, p, w, h, s, j => by
    have := pl (.say c) trivial o p w h s j
    simp only [Sm.wt]
    exact this
  | .stop c, o, p, w, h, s, j => by
    have := pl (.stop c) trivial o p w h s j
    simp only [Sm.wt]
    exact this
theorem Sm.invs (mono : ∀ w h w' h' s, J w h s → w ≤ w' → h ≤ h' → J w' h' s) (pl : ∀ st : Sm, st.plain → st.ok → ∀ p w h s, J w h s → J (w + 1) (h + st.hv) (st.run dec ways p s).2) :
    ∀ (b : List Sm), Sm.oks b → ∀ (p : Int) (w h : Nat) (s : Cs), J w h s → J (w + Sm.wts b) (h + Sm.hvs b) (Sm.runs dec ways b p s).2
  | [], _, p, w, h, s, j => by
    simp only [Sm.runs]
    exact mono _ _ _ _ _ j (Nat.le_add_right _ _) (Nat.le_add_right _ _)
  | t :: r, o, p, w, h, s, j => by
    simp only [Sm.oks] at o
    have j1 := Sm.inv mono pl t o.1 p w h s j
    simp only [Sm.runs, Sm.wts, Sm.hvs]
    cases e : Sm.run dec ways t p s with
    | mk c s' =>
      rw [e] at j1
      cases c with
      | none => exact mono _ _ _ _ _ (Sm.invs mono pl r o.2 _ _ _ s' j1) (by omega) (by omega)
      | some c => exact mono _ _ _ _ _ j1 (by omega) (by omega)
end
end
section
variable {dec : Nat → Int → Int → Int} {ways : Int → Option Int}
theorem halv_turns (s : Cs) (v p : Int) : (halv dec ways s v p).2.turns = s.turns ∨ (halv dec ways s v p).2.turns = s.turns ++ [dec s.turns.length v p] := by
  unfold halv
  split
  · exact .inl rfl
  · split
    · exact .inl rfl
    · exact .inr rfl
theorem plain_turns (st : Sm) (h : st.plain) (p : Int) (s : Cs) : (st.run dec ways p s).2.turns = s.turns ∨ (st.hv = 1 ∧ ∃ v, (st.run dec ways p s).2.turns = s.turns ++ [dec s.turns.length v p]) := by
  cases st with
  | ite _ _ _ => exact h.elim
  | rep _ _ => exact h.elim
  | set x e => exact .inl (by simp only [Sm.run])
  | half x e =>
    simp only [Sm.run, Sm.hv]
    rcases halv_turns (dec := dec) (ways := ways) s (e.ev s.env) p with h | h
    · exact .inl h
    · exact .inr ⟨trivial, _, h⟩
  | tell e => exact .inl (by simp only [Sm.run])
  | say c => exact .inl (by simp only [Sm.run])
  | stop c => exact .inl (by simp only [Sm.run])
theorem turns_le (b : List Sm) (o : Sm.oks b) (p : Int) (s : Cs) : (Sm.runs dec ways b p s).2.turns.length ≤ s.turns.length + Sm.hvs b := by
  have := Sm.invs (J := fun _ h s' => s'.turns.length ≤ s.turns.length + h) (dec := dec) (ways := ways) (fun _ _ _ _ _ j _ hh => Nat.le_trans j (by omega)) (fun st hp ho p w h s' j => by
    rcases plain_turns (dec := dec) (ways := ways) st hp p s' with e | ⟨e1, v, e2⟩
    · rw [e]; omega
    · rw [e2, e1, List.length_append]
      simp only [List.length_singleton]
      omega) b o p 0 0 s (Nat.le_refl _)
  simpa using this
theorem turns_ge (b : List Sm) (o : Sm.oks b) (p : Int) (s : Cs) : s.turns.length ≤ (Sm.runs dec ways b p s).2.turns.length :=
  Sm.invs (J := fun _ _ s' => s.turns.length ≤ s'.turns.length) (dec := dec) (ways := ways) (fun _ _ _ _ _ j _ _ => j) (fun st hp ho p w h s' j => by
    rcases plain_turns (dec := dec) (ways := ways) st hp p s' with e | ⟨e1, v, e2⟩
    · rw [e]; exact j
    · rw [e2, List.length_append]
      omega) b o p 0 0 s (Nat.le_refl _)
end
/-- the first n choices -/
def tk (chs : List Int) (n : Nat) : List Int := (List.range n).map fun i => chs.getD i 0
theorem tk_succ (chs : List Int) (n : Nat) : tk chs (n + 1) = tk chs n ++ [chs.getD n 0] := by
  unfold tk
  rw [List.range_succ, List.map_append]
  rfl
theorem tk_len (chs : List Int) (n : Nat) : (tk chs n).length = n := by
  unfold tk
  rw [List.length_map, List.length_range]
theorem turns_tk {chs : List Int} {ways : Int → Option Int} (b : List Sm) (o : Sm.oks b) (p : Int) (n : Int) : (Sm.runs (decC chs) ways b p (cs0 n)).2.turns = tk chs (Sm.runs (decC chs) ways b p (cs0 n)).2.turns.length :=
  Sm.invs (J := fun _ _ s' => s'.turns = tk chs s'.turns.length) (dec := decC chs) (ways := ways) (fun _ _ _ _ _ j _ _ => j) (fun st hp ho p w h s' j => by
    rcases plain_turns (dec := decC chs) (ways := ways) st hp p s' with e | ⟨e1, v, e2⟩
    · rw [e]; exact j
    · rw [e2, List.length_append, List.length_singleton, tk_succ, ← j]
      rfl) b o p 0 0 (cs0 n) rfl
/-! ### runs that differ from the turn j on -/
def Rl (j : Nat) (a b : Option Str × Cs) : Prop := a = b ∨ (j < a.2.turns.length ∧ j < b.2.turns.length)
theorem iterN_ge {f : Cs → Option Str × Cs} (mf : ∀ s, s.turns.length ≤ (f s).2.turns.length) : ∀ (k : Nat) (s : Cs), s.turns.length ≤ (iterN k f s).2.turns.length
  | 0, s => Nat.le_refl _
  | k + 1, s => by
    have h := mf s
    rw [iterN]
    cases e : f s with
    | mk c s' =>
      rw [e] at h
      cases c with
      | none => exact Nat.le_trans h (iterN_ge mf k s')
      | some c => exact h
theorem iterN_ge1 {f : Cs → Option Str × Cs} (mf : ∀ s, s.turns.length ≤ (f s).2.turns.length) (k : Nat) (s : Cs) : (f s).2.turns.length ≤ (iterN (k + 1) f s).2.turns.length := by
  rw [iterN]
  cases e : f s with
  | mk c s' =>
    cases c with
    | none => exact iterN_ge mf k s'
    | some c => exact Nat.le_refl _
theorem iterN_rel {j : Nat} {f g : Cs → Option Str × Cs} (mf : ∀ s, s.turns.length ≤ (f s).2.turns.length) (mg : ∀ s, s.turns.length ≤ (g s).2.turns.length) (r : ∀ s, Rl j (f s) (g s)) : ∀ (k : Nat) (s : Cs), Rl j (iterN k f s) (iterN k g s)
  | 0, s => .inl rfl
  | k + 1, s => by
    rcases r s with h | ⟨h1, h2⟩
    · rw [iterN, iterN, ← h]
      cases e : f s with
      | mk c s' =>
        cases c with
        | none => exact iterN_rel mf mg r k s'
        | some c => exact .inl rfl
    · exact .inr ⟨Nat.lt_of_lt_of_le h1 (iterN_ge1 mf k s), Nat.lt_of_lt_of_le h2 (iterN_ge1 mg k s)⟩
section
variable {d1 d2 : Nat → Int → Int → Int} {ways : Int → Option Int} {j : Nat}
theorem runs_ge1 {dec : Nat → Int → Int → Int} (t : Sm) (r : List Sm) (o : Sm.oks r) (p : Int) (s : Cs) : (Sm.run dec ways t p s).2.turns.length ≤ (Sm.runs dec ways (t :: r) p s).2.turns.length := by
  simp only [Sm.runs]
  cases e : Sm.run dec ways t p s with
  | mk c s' =>
    cases c with
    | none => exact turns_ge r o _ s'
    | some c => exact Nat.le_refl _
mutual
theorem Sm.rel (ag : ∀ k v p, k < j → d1 k v p = d2 k v p) : ∀ (t : Sm), t.ok → ∀ (p : Int) (s : Cs), Rl j (t.run d1 ways p s) (t.run d2 ways p s)
  | .ite t y n, o, p, s => by
    simp only [Sm.ok] at o
    simp only [Sm.run]
    split
    · exact Sm.rels ag y o.2.2.1 _ s
    · exact Sm.rels ag n o.2.2.2 _ s
  | .rep k b, o, p, s => by
    simp only [Sm.ok] at o
    simp only [Sm.run]
    exact iterN_rel (fun s => turns_ge b o.2 _ s) (fun s => turns_ge b o.2 _ s) (fun s => Sm.rels ag b o.2 _ s) k s
  | .set x e, o, p, s => by simp only [Sm.run]; exact .inl rfl
  | .half x e, o, p, s => by
    by_cases h : s.turns.length < j
    · refine .inl ?_
      simp only [Sm.run, halv, ag _ _ _ h]
    · simp only [Sm.run, halv]
      split
      · exact .inl rfl
      · split
        · exact .inl rfl
        · refine .inr ⟨?_, ?_⟩
          · show j < (s.turns ++ [_]).length
            rw [List.length_append, List.length_singleton]
            omega
          · show j < (s.turns ++ [_]).length
            rw [List.length_append, List.length_singleton]
            omega
  | .tell e, o, p, s => by simp only [Sm.run]; exact .inl rfl
  | .say c, o, p, s => by simp only [Sm.run]; exact .inl rfl
  | .stop c, o, p, s => by simp only [Sm.run]; exact .inl rfl
theorem Sm.rels (ag : ∀ k v p, k < j → d1 k v p = d2 k v p) : ∀ (b : List Sm), Sm.oks b → ∀ (p : Int) (s : Cs), Rl j (Sm.runs d1 ways b p s) (Sm.runs d2 ways b p s)
  | [], _, p, s => by simp only [Sm.runs]; exact .inl rfl
  | t :: r, o, p, s => by
    simp only [Sm.oks] at o
    rcases Sm.rel ag t o.1 p s with h | ⟨h1, h2⟩
    · simp only [Sm.runs, ← h]
      cases e : Sm.run d1 ways t p s with
      | mk c s' =>
        cases c with
        | none => exact Sm.rels ag r o.2 _ s'
        | some c => exact .inl rfl
    · exact .inr ⟨Nat.lt_of_lt_of_le h1 (runs_ge1 t r o.2 p s), Nat.lt_of_lt_of_le h2 (runs_ge1 t r o.2 p s)⟩
end
end
/-- the same turns at the start, the same run -/
theorem runs_same {c1 c2 : List Int} {ways : Int → Option Int} (b : List Sm) (o : Sm.oks b) (p n : Int) (h : ∀ k, k < (Sm.runs (decC c1) ways b p (cs0 n)).2.turns.length → c1.getD k 0 = c2.getD k 0) : Sm.runs (decC c2) ways b p (cs0 n) = Sm.runs (decC c1) ways b p (cs0 n) := by
  rcases Sm.rels (d1 := decC c1) (d2 := decC c2) (ways := ways) (j := (Sm.runs (decC c1) ways b p (cs0 n)).2.turns.length) (fun k _ _ hk => h k hk) b o p (cs0 n) with e | ⟨h1, _⟩
  · exact e.symm
  · exact absurd h1 (Nat.lt_irrefl _)
theorem runs_other {c1 c2 : List Int} {ways : Int → Option Int} (b : List Sm) (o : Sm.oks b) (p n : Int) (j : Nat) (hj : j < (Sm.runs (decC c1) ways b p (cs0 n)).2.turns.length) (h : ∀ k, k < j → c1.getD k 0 = c2.getD k 0) :
    (Sm.runs (decC c2) ways b p (cs0 n)).2.turns.take (j + 1) = tk c2 (j + 1) := by
  have l : j < (Sm.runs (decC c2) ways b p (cs0 n)).2.turns.length := by
    rcases Sm.rels (d1 := decC c1) (d2 := decC c2) (ways := ways) (j := j) (fun k _ _ hk => h k hk) b o p (cs0 n) with e | ⟨_, h2⟩
    · rw [← e]; exact hj
    · exact h2
  rw [turns_tk b o p n]
  unfold tk
  rw [← List.map_take, List.take_range, Nat.min_eq_left l]
/-! ### how large the numbers are -/
theorem Ex.ev_le {env : Str → Int} {M : Nat} (hM : 99 ≤ M) (h : ∀ x, (env x).natAbs ≤ M) : ∀ {e : Ex}, e.ok → (e.ev env).natAbs ≤ M * 9 ^ e.deep
  | .num i, o => by
    obtain ⟨h1, h2⟩ := (show -99 ≤ i ∧ i ≤ 99 from o)
    show i.natAbs ≤ M * 9 ^ 1
    omega
  | .var x, o => by
    have := h x
    show (env x).natAbs ≤ M * 9 ^ 1
    omega
  | .plus a b, o => by
    have h1 := Ex.ev_le hM h (e := a) (show a.ok ∧ b.ok from o).1
    have h2 := Ex.ev_le hM h (e := b) (show a.ok ∧ b.ok from o).2
    show (a.ev env + b.ev env).natAbs ≤ M * 9 ^ (max a.deep b.deep + 1)
    have p1 : M * 9 ^ a.deep ≤ M * 9 ^ max a.deep b.deep := Nat.mul_le_mul_left _ (Nat.pow_le_pow_right (by decide) (Nat.le_max_left _ _))
    have p2 : M * 9 ^ b.deep ≤ M * 9 ^ max a.deep b.deep := Nat.mul_le_mul_left _ (Nat.pow_le_pow_right (by decide) (Nat.le_max_right _ _))
    rw [Nat.pow_succ, ← Nat.mul_assoc]
    omega
  | .minus a b, o => by
    have h1 := Ex.ev_le hM h (e := a) (show a.ok ∧ b.ok from o).1
    have h2 := Ex.ev_le hM h (e := b) (show a.ok ∧ b.ok from o).2
    show (a.ev env - b.ev env).natAbs ≤ M * 9 ^ (max a.deep b.deep + 1)
    have p1 : M * 9 ^ a.deep ≤ M * 9 ^ max a.deep b.deep := Nat.mul_le_mul_left _ (Nat.pow_le_pow_right (by decide) (Nat.le_max_left _ _))
    have p2 : M * 9 ^ b.deep ≤ M * 9 ^ max a.deep b.deep := Nat.mul_le_mul_left _ (Nat.pow_le_pow_right (by decide) (Nat.le_max_right _ _))
    rw [Nat.pow_succ, ← Nat.mul_assoc]
    omega
  | .times k a, o => by
    obtain ⟨k1, k2, oa⟩ := (show -9 ≤ k ∧ k ≤ 9 ∧ a.ok from o)
    have h1 := Ex.ev_le hM h (e := a) oa
    show (k * a.ev env).natAbs ≤ M * 9 ^ (a.deep + 1)
    rw [Int.natAbs_mul, Nat.pow_succ, ← Nat.mul_assoc, Nat.mul_comm]
    exact Nat.mul_le_mul h1 (by omega)
/-- a number, a text that a run may tell -/
def kOk (M : Nat) : Key → Prop
  | .inl i => i.natAbs ≤ M
  | .inr c => PyData.strOk c = true ∧ c.length ≤ 20
theorem kOk.mono {M M' : Nat} (h : M ≤ M') : ∀ {k : Key}, kOk M k → kOk M' k
  | .inl _, o => Nat.le_trans o h
  | .inr _, o => o
def BN : Nat := 10 ^ 60
structure Mag (w : Nat) (s : Cs) : Prop where
  env : ∀ x, (s.env x).natAbs ≤ BN * 729 ^ w
  said : ∀ k ∈ s.said, kOk (BN * 729 ^ w) k
  len : s.said.length ≤ w
theorem bn_mono {w w' : Nat} (h : w ≤ w') : BN * 729 ^ w ≤ BN * 729 ^ w' := Nat.mul_le_mul_left _ (Nat.pow_le_pow_right (by decide) h)
theorem bn_99 (w : Nat) : 99 ≤ BN * 729 ^ w := Nat.le_trans (by decide : 99 ≤ BN * 1) (Nat.mul_le_mul_left _ (Nat.one_le_pow _ _ (by decide)))
theorem Mag.mono {w w' : Nat} {s : Cs} (m : Mag w s) (h : w ≤ w') : Mag w' s := ⟨fun x => Nat.le_trans (m.env x) (bn_mono h), fun k hk => (m.said k hk).mono (bn_mono h), Nat.le_trans m.len h⟩
theorem Mag.ev {w : Nat} {s : Cs} (m : Mag w s) {e : Ex} (o : e.ok) (d : e.deep ≤ 3) : (e.ev s.env).natAbs ≤ BN * 729 ^ (w + 1) := by
  have h := Ex.ev_le (bn_99 w) m.env o
  refine Nat.le_trans h ?_
  rw [Nat.pow_succ, ← Nat.mul_assoc]
  exact Nat.mul_le_mul_left _ (Nat.le_trans (Nat.pow_le_pow_right (by decide) d) (by decide))
section
variable {dec : Nat → Int → Int → Int} {ways : Int → Option Int}
theorem iterN_word {Pz : Str → Prop} {f : Cs → Option Str × Cs} (h : ∀ s c, (f s).1 = some c → Pz c) : ∀ (k : Nat) (s : Cs) (c : Str), (iterN k f s).1 = some c → Pz c
  | 0, s, c, e => nomatch (show (none : Option Str) = some c from e)
  | k + 1, s, c, e => by
    rw [iterN] at e
    have h1 := h s
    cases z : f s with
    | mk d s' =>
      rw [z] at e h1
      cases d with
      | none => exact iterN_word h k s' c e
      | some d => exact h1 c e
mutual
theorem Sm.word : ∀ (t : Sm), t.ok → ∀ (p : Int) (s : Cs) (c : Str), (t.run dec ways p s).1 = some c → PyData.strOk c = true ∧ c.length ≤ 20
  | .ite t y n, o, p, s, c, e => by
    simp only [Sm.ok] at o
    simp only [Sm.run] at e
    by_cases hc : t.ev s.env = true
    · rw [if_pos hc] at e
      exact Sm.words y o.2.2.1 _ s c e
    · rw [if_neg hc] at e
      exact Sm.words n o.2.2.2 _ s c e
  | .rep k b, o, p, s, c, e => by
    simp only [Sm.ok] at o
    simp only [Sm.run] at e
    exact iterN_word (fun s c e => Sm.words b o.2 _ s c e) k s c e
  | .set x e', o, p, s, c, e => by simp only [Sm.run] at e; exact nomatch e
  | .half x e', o, p, s, c, e => by simp only [Sm.run] at e; exact nomatch e
  | .tell e', o, p, s, c, e => by simp only [Sm.run] at e; exact nomatch e
  | .say c', o, p, s, c, e => by simp only [Sm.run] at e; exact nomatch e
  | .stop c', o, p, s, c, e => by
    simp only [Sm.ok] at o
    simp only [Sm.run] at e
    cases e
    exact o
theorem Sm.words : ∀ (b : List Sm), Sm.oks b → ∀ (p : Int) (s : Cs) (c : Str), (Sm.runs dec ways b p s).1 = some c → PyData.strOk c = true ∧ c.length ≤ 20
  | [], _, p, s, c, e => by simp only [Sm.runs] at e; exact nomatch e
  | t :: r, o, p, s, c, e => by
    simp only [Sm.oks] at o
    have h1 := Sm.word t o.1 p s
    simp only [Sm.runs] at e
    cases z : Sm.run dec ways t p s with
    | mk d s' =>
      rw [z] at e h1
      cases d with
      | none => exact Sm.words r o.2 _ s' c e
      | some d => exact h1 c e
end
end
/-! ### what is told can be shown -/
def BM : Nat := 10 ^ 240
structure ROk (r : Option Str × Cs) : Prop where
  said : ∀ k ∈ r.2.said, kOk (BM - 1) k
  len : r.2.said.length ≤ 60
  word : ∀ c, r.1 = some c → PyData.strOk c = true ∧ c.length ≤ 20
  turns : ∀ i ∈ r.2.turns, i = 0 ∨ i = 1
  tlen : r.2.turns.length ≤ 4
theorem decC_01 {chs : List Int} (h : ∀ i ∈ chs, i = 0 ∨ i = 1) (k : Nat) (v p : Int) : decC chs k v p = 0 ∨ decC chs k v p = 1 := by
  show chs.getD k 0 = 0 ∨ chs.getD k 0 = 1
  rw [List.getD_eq_getElem?_getD]
  cases e : chs[k]? with
  | none => exact .inl rfl
  | some i => exact h i (List.mem_of_getElem? e)
theorem tk_01 {chs : List Int} (h : ∀ i ∈ chs, i = 0 ∨ i = 1) (n : Nat) : ∀ i ∈ tk chs n, i = 0 ∨ i = 1 := by
  intro i hi
  unfold tk at hi
  obtain ⟨k, _, rfl⟩ := List.mem_map.mp hi
  exact decC_01 h k 0 0
theorem log_le {i : Int} (h : i.natAbs ≤ BM - 1) : i.natAbs.log2 < 900 := by
  by_cases z : i.natAbs = 0
  · rw [z]; decide
  · rw [Nat.log2_lt z]
    exact Nat.lt_of_le_of_lt h (by decide +kernel)
theorem kD_showable {k : Key} (h : kOk (BM - 1) k) : (kD k).showable = true := by
  cases k with
  | inl i =>
    show PyData.showable (.int i) = true
    simp only [PyData.showable, decide_eq_true_eq]
    have := log_le (show i.natAbs ≤ BM - 1 from h)
    omega
  | inr c => simp only [kD, PyData.showable]
def ty01 (l : List Int) : Prop := ∀ i ∈ l, i = 0 ∨ i = 1
theorem kD_short {k : Key} (h : kOk (BM - 1) k) : (kD k).leavesShort 241 = true := by
  cases k with
  | inl i =>
    show PyData.leavesShort 241 (.int i) = true
    simp only [PyData.leavesShort, decide_eq_true_eq]
    have hi : i.natAbs < 10 ^ 240 := by
      have : 0 < BM := by decide +kernel
      exact Nat.lt_of_le_of_lt (show i.natAbs ≤ BM - 1 from h) (by show BM - 1 < BM; omega)
    have e := int_text_length_le10 (k := 240) (by decide) hi
    show (Str.ofString (toString i)).length ≤ 241
    rw [ofString_length]
    exact e
  | inr c =>
    show PyData.leavesShort 241 (.str c) = true
    exact PyData.leavesShort_of_canLay0 241 (.str c) (by simp only [PyData.canLay0]; exact h.1) (by simp only [PyData.intsShort])
theorem kD_weight {k : Key} (h : kOk (BM - 1) k) : (kD k).weight ≤ 1000 := by
  cases k with
  | inl i =>
    show PyData.weight (.int i) ≤ 1000
    simp only [PyData.weight]
    have := log_le (show i.natAbs ≤ BM - 1 from h)
    split <;> omega
  | inr c =>
    show PyData.weight (.str c) ≤ 1000
    simp only [PyData.weight]
    exact Nat.le_trans h.2 (by decide)
/-- data that repr may be asked of -/
structure Shw (d : PyData) : Prop where
  sh : d.showable = true
  sz : d.shown.length ≤ sizeLine
  dp : d.depth ≤ 60
theorem shw_of {d : PyData} {W : Nat} (h1 : d.showable = true) (h2 : d.leavesShort 241 = true) (h3 : d.weight ≤ W) (h4 : (243 : Nat) * W + 241 ≤ 16777216) (h5 : d.depth ≤ 60) : Shw d := by
  refine ⟨h1, Nat.le_trans (PyData.shown_le 241 (by decide) d h2) ?_, h5⟩
  refine Nat.le_trans (Nat.add_le_add_right (Nat.mul_le_mul_left 243 h3) 241) ?_
  exact Nat.le_trans h4 (by decide +kernel)
section
variable {X : Cx}
def rReprT : List V → Hp → VK → Prop := fun xs H Q => ∃ x d, xs = [x] ∧ Tr H d x ∧ Shw d ∧ ∀ z, z = d.shown → Q (.str z) H
theorem call_reprT (fr : Free X.A) (hu : X.A.units + 64 < cLine) : CallR X (.builtin "repr") rReprT := CallR.imp (call_reprD fr hu) fun xs H Q ⟨x, d, e, t, s, q⟩ => ⟨x, d, e, Tr.dp d x t, s.sh, s.sz, s.dp, q _ rfl⟩
theorem cr_allK {K : PySem.W.Frag} (hK : X.K = K) (hc : X.calm = true) : CallR X (.builtin "all") (rAll K) := hK ▸ cr_all hc
end
/-! ### short: the trailing noughts go -/
theorem cut_to (xs : List V) (k : Nat) : cutV xs none (some (k : Int)) = xs.take k := by
  unfold cutV
  rw [HT.sIx_none, List.drop_zero, HT.sIx_nat]
  rw [Nat.sub_zero, ← List.take_take, List.take_length]
theorem tk_getD {chs : List Int} {n k : Nat} (h : k < n) : (tk chs n).getD k 0 = chs.getD k 0 := by
  unfold tk
  rw [List.getD_eq_getElem?_getD, List.getElem?_map, List.getElem?_range h]
  rfl
theorem getD_app {a b : List Int} {k : Nat} (h : k < a.length) : (a ++ b).getD k 0 = a.getD k 0 := by
  rw [List.getD_eq_getElem?_getD, List.getD_eq_getElem?_getD, List.getElem?_append_left h]
theorem ty01.take {l : List Int} (h : ty01 l) (k : Nat) : ty01 (l.take k) := fun i hi => h i (List.mem_of_mem_take hi)
/-! ### all runs on a number, one behind another -/
def nxt : List Int → Option (List Int)
  | [] => none
  | x :: r => match nxt r with
    | some c => some (x :: c)
    | none => if x = 1 then none else some [1]
theorem nxt_ones : ∀ {t : List Int}, (∀ x ∈ t, x = 1) → nxt t = none
  | [], _ => rfl
  | x :: r, h => by
    rw [nxt, nxt_ones (fun y hy => h y (List.mem_cons_of_mem _ hy))]
    show (if x = 1 then none else some [1]) = none
    rw [if_pos (h x List.mem_cons_self)]
theorem nxt_at {x : Int} {r : List Int} (hx : x ≠ 1) (hr : ∀ y ∈ r, y = 1) : ∀ p : List Int, nxt (p ++ x :: r) = some (p ++ [1])
  | [] => by
    show nxt (x :: r) = _
    rw [nxt, nxt_ones hr]
    show (if x = 1 then none else some [1]) = _
    rw [if_neg hx]
    rfl
  | y :: p => by
    show nxt (y :: (p ++ x :: r)) = _
    rw [nxt, nxt_at hx hr p]
    rfl
theorem nxt_cases : ∀ t : List Int, (nxt t = none ∧ ∀ x ∈ t, x = 1) ∨ ∃ p x r, t = p ++ x :: r ∧ x ≠ 1 ∧ (∀ y ∈ r, y = 1) ∧ nxt t = some (p ++ [1])
  | [] => .inl ⟨rfl, fun x h => nomatch h⟩
  | x :: r => by
    rcases nxt_cases r with ⟨h1, h2⟩ | ⟨p, y, q, rfl, hy, hq, e⟩
    · by_cases hx : x = 1
      · refine .inl ⟨nxt_ones ?_, ?_⟩ <;>
        · intro z hz
          rcases List.mem_cons.mp hz with rfl | hz
          · exact hx
          · exact h2 z hz
      · exact .inr ⟨[], x, r, rfl, hx, h2, nxt_at hx h2 []⟩
    · exact .inr ⟨x :: p, y, q, rfl, hy, hq, nxt_at hy hq (x :: p)⟩
/-- the number that a row of turns writes, k figures -/
def wl : Nat → List Int → Int
  | _, [] => 0
  | 0, _ :: _ => 0
  | k + 1, x :: r => x * (2 : Int) ^ k + wl k r
/-- the part of the whole that turns stand for -/
def pw (k : Nat) (t : List Int) : Int := (2 : Int) ^ (k - t.length)
theorem pw_pos (k : Nat) (t : List Int) : 1 ≤ pw k t := by
  have : (0 : Int) < (2 : Int) ^ (k - t.length) := Int.pow_pos (by decide)
  unfold pw
  omega
theorem pw_cons (k : Nat) (x : Int) (r : List Int) : pw (k + 1) (x :: r) = pw k r := by
  unfold pw
  rw [List.length_cons, Nat.add_sub_add_right]
theorem pow2_succ (k : Nat) : (2 : Int) ^ (k + 1) = 2 * (2 : Int) ^ k := by rw [Int.pow_succ, Int.mul_comm]
theorem wl_nil (k : Nat) : wl k [] = 0 := by cases k <;> rfl
theorem wl_ones : ∀ {k : Nat} {t : List Int}, (∀ x ∈ t, x = 1) → t.length ≤ k → wl k t + pw k t = (2 : Int) ^ k
  | k, [], _, _ => by rw [wl_nil]; unfold pw; simp
  | 0, x :: r, _, l => absurd l (Nat.not_succ_le_zero _)
  | k + 1, x :: r, h, l => by
    have ih := wl_ones (k := k) (t := r) (fun y hy => h y (List.mem_cons_of_mem _ hy)) (Nat.le_of_succ_le_succ l)
    rw [pw_cons, pow2_succ, wl, h x List.mem_cons_self]
    omega
theorem ty01.tail {x : Int} {r : List Int} (h : ty01 (x :: r)) : ty01 r := fun i hi => h i (List.mem_cons_of_mem _ hi)
theorem ty01.head {x : Int} {r : List Int} (h : ty01 (x :: r)) : x = 0 ∨ x = 1 := h x List.mem_cons_self
theorem wl_nxt : ∀ {k : Nat} {t c : List Int}, ty01 t → t.length ≤ k → nxt t = some c → wl k c = wl k t + pw k t
  | k, [], c, _, _, e => nomatch (show (none : Option (List Int)) = some c from e)
  | 0, x :: r, c, _, l, _ => absurd l (Nat.not_succ_le_zero _)
  | k + 1, x :: r, c, h, l, e => by
    rcases nxt_cases r with ⟨h1, h2⟩ | ⟨p, y, q, rfl, hy, hq, e1⟩
    · rw [nxt, h1] at e
      have e : (if x = 1 then none else some [1]) = some c := e
      by_cases hx : x = 1
      · rw [if_pos hx] at e; cases e
      · rw [if_neg hx] at e
        cases e
        have x0 : x = 0 := by
          rcases h.head with z | z
          · exact z
          · exact absurd z hx
        have o := wl_ones (k := k) h2 (Nat.le_of_succ_le_succ l)
        rw [pw_cons]
        show 1 * (2 : Int) ^ k + wl k [] = (x * (2 : Int) ^ k + wl k r) + pw k r
        rw [wl_nil, x0]
        omega
    · have ih := wl_nxt (k := k) h.tail (Nat.le_of_succ_le_succ l) e1
      rw [nxt, e1] at e
      cases e
      rw [pw_cons, wl, wl, ih]
      omega
theorem nxt_none {t : List Int} (h : nxt t = none) : ∀ x ∈ t, x = 1 := by
  rcases nxt_cases t with ⟨_, h2⟩ | ⟨p, x, r, _, _, _, e⟩
  · exact h2
  · rw [e] at h; cases h
theorem wl_rng : ∀ {k : Nat} {t : List Int}, ty01 t → t.length ≤ k → 0 ≤ wl k t ∧ wl k t + pw k t ≤ (2 : Int) ^ k
  | k, [], _, _ => by rw [wl_nil]; unfold pw; simp
  | 0, x :: r, _, l => absurd l (Nat.not_succ_le_zero _)
  | k + 1, x :: r, h, l => by
    have ih := wl_rng (k := k) h.tail (Nat.le_of_succ_le_succ l)
    have p := pw_pos k r
    rw [pw_cons, pow2_succ, wl]
    rcases h.head with z | z <;> rw [z] <;> constructor <;> omega
theorem wl_zeros : ∀ (k : Nat) (c : List Int) (m : Nat), wl k (c ++ List.replicate m 0) = wl k c
  | k, [], 0 => rfl
  | 0, [], m + 1 => rfl
  | k + 1, [], m + 1 => by
    have := wl_zeros k [] m
    rw [List.nil_append] at this
    show 0 * (2 : Int) ^ k + wl k (List.replicate m 0) = 0
    rw [this, wl_nil]
    omega
  | 0, x :: r, m => rfl
  | k + 1, x :: r, m => by
    show x * (2 : Int) ^ k + wl k (r ++ List.replicate m 0) = _
    rw [wl_zeros k r m]
    rfl
theorem tk_zeros {c : List Int} {n : Nat} (h : c.length ≤ n) : tk c n = c ++ List.replicate (n - c.length) 0 := by
  refine List.ext_getElem? fun i => ?_
  unfold tk
  rw [List.getElem?_map]
  by_cases l : i < n
  · rw [List.getElem?_range l]
    show some (c.getD i 0) = _
    rw [List.getD_eq_getElem?_getD]
    by_cases l2 : i < c.length
    · rw [List.getElem?_append_left l2, List.getElem?_eq_getElem l2]
      rfl
    · rw [List.getElem?_append_right (by omega), List.getElem?_eq_none (by omega), List.getElem?_replicate, if_pos (by omega)]
      rfl
  · rw [List.getElem?_eq_none (by rw [List.length_range]; omega), List.getElem?_eq_none (by rw [List.length_append, List.length_replicate]; omega)]
    rfl
theorem wl_tk {k : Nat} {c : List Int} {n : Nat} (h : c.length ≤ n) : wl k (tk c n) = wl k c := by rw [tk_zeros h, wl_zeros]
/-- a number between those of t begins with t -/
theorem wl_pre : ∀ {k : Nat} {t v : List Int}, ty01 t → ty01 v → v.length = k → t.length ≤ k → wl k t ≤ wl k v → wl k v < wl k t + pw k t → ∃ s, v = t ++ s
  | k, [], v, _, _, _, _, _, _ => ⟨v, rfl⟩
  | 0, x :: r, v, _, _, _, l, _, _ => absurd l (Nat.not_succ_le_zero _)
  | k + 1, x :: r, [], _, _, lv, _, _, _ => nomatch lv
  | k + 1, x :: r, y :: w, h, g, lv, l, a, b => by
    have l1 := Nat.le_of_succ_le_succ l
    have lw : w.length = k := Nat.succ.inj lv
    have r1 := wl_rng (k := k) h.tail l1
    have r2 := wl_rng (k := k) g.tail (Nat.le_of_eq lw)
    have p1 := pw_pos k w
    have p2 := pw_pos k r
    rw [pw_cons] at b
    rw [wl, wl] at a b
    have e : x = y := by
      rcases h.head with z | z <;> rcases g.head with u | u <;> rw [z, u] at a b <;> rw [z, u] <;> omega
    subst e
    obtain ⟨s, rfl⟩ := wl_pre (k := k) h.tail g.tail lw l1 (by omega) (by omega)
    exact ⟨s, rfl⟩
/-- t comes ahead of u, and is no beginning of it -/
inductive Ahd : List Int → List Int → Prop
  | lt {r w : List Int} : Ahd (0 :: r) (1 :: w)
  | eq {x : Int} {r w : List Int} : Ahd r w → Ahd (x :: r) (x :: w)
theorem wl_ahd : ∀ {k : Nat} {t u : List Int}, ty01 t → ty01 u → t.length ≤ k → u.length ≤ k → wl k t + pw k t ≤ wl k u → Ahd t u
  | k, [], u, _, g, _, lu, a => by
    have r := wl_rng g lu
    have p := pw_pos k u
    rw [wl_nil] at a
    have e : pw k [] = (2 : Int) ^ k := by unfold pw; simp
    omega
  | 0, x :: r, u, _, _, l, _, _ => absurd l (Nat.not_succ_le_zero _)
  | k + 1, x :: r, [], h, _, l, _, a => by
    have r1 := wl_rng h l
    have p := pw_pos (k + 1) (x :: r)
    rw [wl_nil] at a
    omega
  | k + 1, x :: r, y :: w, h, g, l, lu, a => by
    have l1 := Nat.le_of_succ_le_succ l
    have lw := Nat.le_of_succ_le_succ lu
    have r1 := wl_rng (k := k) h.tail l1
    have r2 := wl_rng (k := k) g.tail lw
    have p1 := pw_pos k w
    have p2 := pw_pos k r
    rw [pw_cons] at a
    rw [wl, wl] at a
    rcases h.head with z | z <;> rcases g.head with v | v <;> rw [z, v] at a ⊢
    · exact .eq (wl_ahd (k := k) h.tail g.tail l1 lw (by omega))
    · exact .lt
    · omega
    · exact .eq (wl_ahd (k := k) h.tail g.tail l1 lw (by omega))
section
variable (ways : Int → Option Int) (b : List Sm) (n : Int)
abbrev rn (c : List Int) : Option Str × Cs := Sm.runs (decC c) ways b 0 (cs0 n)
/-- the runs so far, and the choices of the next one -/
inductive Chn : List (Option Str × Cs) → Option (List Int) → Prop
  | nil : Chn [] (some [])
  | snoc {Rs : List (Option Str × Cs)} {c : List Int} : Chn Rs (some c) → Chn (Rs ++ [rn ways b n c]) (nxt (rn ways b n c).2.turns)
end
def topO (k : Nat) : Option (List Int) → Int
  | some c => wl k c
  | none => (2 : Int) ^ k
structure ChOk (ways : Int → Option Int) (b : List Sm) (n : Int) (k : Nat) (Rs : List (Option Str × Cs)) (o : Option (List Int)) : Prop where
  self : ∀ R ∈ Rs, rn ways b n R.2.turns = R ∧ ty01 R.2.turns ∧ R.2.turns.length ≤ k ∧ wl k R.2.turns + pw k R.2.turns ≤ topO k o
  sum : (Rs.map fun R => pw k R.2.turns).sum = topO k o
  cs : ∀ c, o = some c → ty01 c ∧ c.length ≤ (rn ways b n c).2.turns.length
  all : ∀ v : List Int, v.length = k → ty01 v → wl k v < topO k o → rn ways b n v ∈ Rs
  ord : Rs.Pairwise fun R S => Ahd R.2.turns S.2.turns
section
variable {ways : Int → Option Int} {b : List Sm} {n : Int} {k : Nat}
theorem rn_turns (o : Sm.oks b) (c : List Int) : (rn ways b n c).2.turns = tk c (rn ways b n c).2.turns.length := turns_tk b o 0 n
theorem rn_len (o : Sm.oks b) (hv : Sm.hvs b ≤ k) (c : List Int) : (rn ways b n c).2.turns.length ≤ k := by
  have := turns_le (dec := decC c) (ways := ways) b o 0 (cs0 n)
  have e : (cs0 n).turns.length = 0 := rfl
  show (Sm.runs (decC c) ways b 0 (cs0 n)).2.turns.length ≤ k
  omega
theorem rn_self (o : Sm.oks b) (c : List Int) : rn ways b n (rn ways b n c).2.turns = rn ways b n c := by
  refine runs_same (c1 := c) (c2 := (rn ways b n c).2.turns) (ways := ways) b o 0 n fun i hi => ?_
  have e := tk_getD (chs := c) hi
  rw [← rn_turns o c] at e
  exact e.symm
theorem ChOk.nil (o : Sm.oks b) : ChOk ways b n k [] (some []) := by
  refine ⟨(fun R h => nomatch h), ?_, ?_, ?_, .nil⟩
  · show (0 : Int) = wl k []
    rw [wl_nil]
  · rintro c ⟨⟩
    exact ⟨(fun i h => nomatch h), Nat.zero_le _⟩
  · intro v l h a
    have := (wl_rng h (Nat.le_of_eq l)).1
    have a : wl k v < wl k [] := a
    rw [wl_nil] at a
    omega
theorem ChOk.snoc (o : Sm.oks b) (hv : Sm.hvs b ≤ k) {Rs : List (Option Str × Cs)} {c : List Int} (h : ChOk ways b n k Rs (some c)) : ChOk ways b n k (Rs ++ [rn ways b n c]) (nxt (rn ways b n c).2.turns) := by
  obtain ⟨c01, cl⟩ := h.cs c rfl
  have tt := rn_turns (ways := ways) (n := n) o c
  have tl := rn_len (ways := ways) (n := n) o hv c
  have t01 : ty01 (rn ways b n c).2.turns := by
    rw [tt]
    exact tk_01 c01 _
  have wc : wl k (rn ways b n c).2.turns = wl k c := by
    rw [tt]
    exact wl_tk cl
  have top : topO k (nxt (rn ways b n c).2.turns) = wl k c + pw k (rn ways b n c).2.turns := by
    cases e : nxt (rn ways b n c).2.turns with
    | none =>
      have := wl_ones (k := k) (nxt_none e) tl
      show (2 : Int) ^ k = _
      omega
    | some c2 =>
      have := wl_nxt t01 tl e
      show wl k c2 = _
      omega
  have p := pw_pos k (rn ways b n c).2.turns
  have tc : topO k (some c) = wl k c := rfl
  refine ⟨?_, ?_, ?_, ?_, ?_⟩
  · intro R hR
    rcases List.mem_append.mp hR with z | z
    · obtain ⟨a1, a2, a3, a4⟩ := h.self R z
      exact ⟨a1, a2, a3, by omega⟩
    · cases List.mem_singleton.mp z
      exact ⟨rn_self o c, t01, tl, by omega⟩
  · rw [List.map_append, List.sum_append, h.sum, top]
    show wl k c + (pw k _ + 0) = _
    omega
  · intro c2 e
    rcases nxt_cases (rn ways b n c).2.turns with ⟨z, _⟩ | ⟨q, x, r, et, hx, hr, e2⟩
    · rw [z] at e; cases e
    · rw [e2] at e
      cases e
      have q01 : ty01 (q ++ [1]) := by
        intro i hi
        rcases List.mem_append.mp hi with z | z
        · exact t01 i (by rw [et]; exact List.mem_append_left _ z)
        · cases List.mem_singleton.mp z
          exact .inr rfl
      refine ⟨q01, ?_⟩
      have hj : q.length < (rn ways b n c).2.turns.length := by
        rw [et, List.length_append, List.length_cons]
        omega
      have ot := runs_other (c1 := c) (c2 := q ++ [1]) (ways := ways) b o 0 n q.length hj (by
        intro i hi
        have e := tk_getD (chs := c) (show i < (rn ways b n c).2.turns.length by omega)
        rw [← tt, et] at e
        rw [← e, List.getD_eq_getElem?_getD, List.getD_eq_getElem?_getD, List.getElem?_append_left hi, List.getElem?_append_left hi])
      have := congrArg List.length ot
      rw [List.length_take, tk_len] at this
      rw [List.length_append, List.length_singleton]
      show q.length + 1 ≤ (Sm.runs (decC (q ++ [1])) ways b 0 (cs0 n)).2.turns.length
      omega
  · intro v l v01 a
    by_cases z : wl k v < wl k c
    · exact List.mem_append_left _ (h.all v l v01 z)
    · refine List.mem_append_right _ (List.mem_singleton.mpr ?_)
      obtain ⟨s, rfl⟩ := wl_pre t01 v01 l tl (by omega) (by omega)
      refine runs_same (c1 := c) (c2 := (rn ways b n c).2.turns ++ s) (ways := ways) b o 0 n fun i hi => ?_
      rw [getD_app hi]
      have e := tk_getD (chs := c) hi
      rw [← rn_turns o c] at e
      exact e.symm
  · rw [List.pairwise_append]
    refine ⟨h.ord, List.pairwise_singleton _ _, ?_⟩
    intro R hR S hS
    cases List.mem_singleton.mp hS
    obtain ⟨a1, a2, a3, a4⟩ := h.self R hR
    exact wl_ahd a2 t01 a3 tl (by omega)
theorem Chn.ok (o : Sm.oks b) (hv : Sm.hvs b ≤ k) {Rs : List (Option Str × Cs)} {c : Option (List Int)} (h : Chn ways b n Rs c) : ChOk ways b n k Rs c := by
  generalize e : c = c' at h
  induction h generalizing c with
  | nil => exact ChOk.nil o
  | snoc h ih => exact (ih rfl).snoc o hv
theorem sum_ge {Rs : List (Option Str × Cs)} : (Rs.length : Int) ≤ (Rs.map fun R => pw k R.2.turns).sum := by
  induction Rs with
  | nil => exact Int.le_refl 0
  | cons R r ih =>
    have := pw_pos k R.2.turns
    rw [List.map_cons, List.sum_cons, List.length_cons]
    omega
theorem topO_le {o : Option (List Int)} (h : ∀ c, o = some c → ty01 c ∧ c.length ≤ k) : topO k o ≤ (2 : Int) ^ k := by
  cases o with
  | none => exact Int.le_refl _
  | some c =>
    obtain ⟨h1, h2⟩ := h c rfl
    have := wl_rng h1 h2
    have := pw_pos k c
    show wl k c ≤ _
    omega
theorem ChOk.len (o : Sm.oks b) (hv : Sm.hvs b ≤ k) {Rs : List (Option Str × Cs)} {c : Option (List Int)} (h : ChOk ways b n k Rs c) : (Rs.length : Int) ≤ (2 : Int) ^ k := by
  refine Int.le_trans (sum_ge (k := k)) ?_
  rw [h.sum]
  refine topO_le fun c e => ?_
  obtain ⟨h1, h2⟩ := h.cs c e
  exact ⟨h1, Nat.le_trans h2 (rn_len o hv c)⟩
end
/-! ### places play no part where choices go by their number -/
def NoP (dec : Nat → Int → Int → Int) : Prop := ∀ k v p q, dec k v p = dec k v q
theorem decC_noP (chs : List Int) : NoP (decC chs) := fun _ _ _ _ => rfl
theorem iterN_congr {f g : Cs → Option Str × Cs} (h : ∀ s, f s = g s) : ∀ (k : Nat) (s : Cs), iterN k f s = iterN k g s
  | 0, s => rfl
  | k + 1, s => by
    rw [iterN, iterN, h s]
    cases g s with
    | mk c s' =>
      cases c with
      | none => exact iterN_congr h k s'
      | some c => rfl
section
variable {dec : Nat → Int → Int → Int}
theorem halv_p (h : NoP dec) (s : Cs) (v p q : Int) : halv dec noWay s v p = halv dec noWay s v q := by
  unfold halv
  simp only [noWay]
  rw [h _ v p q]
mutual
theorem Sm.run_p (h : NoP dec) : ∀ (t : Sm) (p q : Int) (s : Cs), t.run dec noWay p s = t.run dec noWay q s
  | .ite t y n, p, q, s => by
    simp only [Sm.run]
    split
    · exact Sm.runs_p h y _ _ s
    · exact Sm.runs_p h n _ _ s
  | .rep k b, p, q, s => by
    simp only [Sm.run]
    exact iterN_congr (fun s => Sm.runs_p h b _ _ s) k s
  | .set x e, p, q, s => by simp only [Sm.run]
  | .half x e, p, q, s => by simp only [Sm.run, halv_p h s _ p q]
  | .tell e, p, q, s => by simp only [Sm.run]
  | .say c, p, q, s => by simp only [Sm.run]
  | .stop c, p, q, s => by simp only [Sm.run]
theorem Sm.runs_p (h : NoP dec) : ∀ (b : List Sm) (p q : Int) (s : Cs), Sm.runs dec noWay b p s = Sm.runs dec noWay b q s
  | [], p, q, s => by simp only [Sm.runs]
  | t :: r, p, q, s => by
    simp only [Sm.runs, Sm.run_p h t p q s]
    cases Sm.run dec noWay t q s with
    | mk c s' =>
      cases c with
      | none => exact Sm.runs_p h r _ _ s'
      | some c => rfl
end
theorem runs_app {ways : Int → Option Int} : ∀ (a b : List Sm) (p : Int) (s : Cs), Sm.runs dec ways (a ++ b) p s = match Sm.runs dec ways a p s with
    | (some c, s') => (some c, s')
    | (none, s') => Sm.runs dec ways b (p + (Sm.pls a : Int)) s'
  | [], b, p, s => by
    simp only [List.nil_append, Sm.runs, Sm.pls]
    rw [show p + ((0 : Nat) : Int) = p by omega]
  | t :: r, b, p, s => by
    simp only [List.cons_append, Sm.runs, Sm.pls]
    cases Sm.run dec ways t p s with
    | mk c s' =>
      cases c with
      | none =>
        show Sm.runs dec ways (r ++ b) (p + (t.pl : Int)) s' = match Sm.runs dec ways r (p + (t.pl : Int)) s' with
          | (some c, s') => (some c, s')
          | (none, s') => Sm.runs dec ways b (p + ((t.pl + Sm.pls r : Nat) : Int)) s'
        rw [runs_app r b]
        cases Sm.runs dec ways r (p + (t.pl : Int)) s' with
        | mk c2 s2 =>
          cases c2 with
          | none =>
            show Sm.runs dec ways b (p + (t.pl : Int) + (Sm.pls r : Int)) s2 = Sm.runs dec ways b (p + ((t.pl + Sm.pls r : Nat) : Int)) s2
            rw [show p + (t.pl : Int) + (Sm.pls r : Int) = p + ((t.pl + Sm.pls r : Nat) : Int) by omega]
          | some c2 => rfl
      | some c => rfl
end
/-- the same runs -/
def EqB (b b' : List Sm) : Prop := ∀ (chs : List Int) (p q : Int) (s : Cs), Sm.runs (decC chs) noWay b p s = Sm.runs (decC chs) noWay b' q s
theorem EqB.refl (b : List Sm) : EqB b b := fun chs p q s => Sm.runs_p (decC_noP chs) b p q s
theorem EqB.app {a a' b b' : List Sm} (h1 : EqB a a') (h2 : EqB b b') : EqB (a ++ b) (a' ++ b') := fun chs p q s => by
  rw [runs_app, runs_app, h1 chs p q s]
  cases Sm.runs (decC chs) noWay a' q s with
  | mk c s' =>
    cases c with
    | none => exact h2 chs _ _ s'
    | some c => rfl
theorem runs_one {dec : Nat → Int → Int → Int} {ways : Int → Option Int} (t : Sm) (p : Int) (s : Cs) : Sm.runs dec ways [t] p s = t.run dec ways p s := by
  simp only [Sm.runs]
  cases t.run dec ways p s with
  | mk c s' => cases c <;> rfl
theorem EqB.rep {b b' : List Sm} (h : EqB b b') (k : Nat) : EqB [.rep k b] [.rep k b'] := fun chs p q s => by
  rw [runs_one, runs_one]
  simp only [Sm.run]
  exact iterN_congr (fun s => h chs _ _ s) k s
theorem EqB.ite {t t' : Ts} {y y' n n' : List Sm} (ht : ∀ env, t'.ev env = t.ev env) (h1 : EqB y y') (h2 : EqB n n') : EqB [.ite t y n] [.ite t' y' n'] := fun chs p q s => by
  rw [runs_one, runs_one]
  simp only [Sm.run, ht]
  split
  · exact h1 chs _ _ s
  · exact h2 chs _ _ s
theorem EqB.turn {t t' : Ts} {y y' n n' : List Sm} (ht : ∀ env, t.ev env = !t'.ev env) (h1 : EqB y y') (h2 : EqB n n') : EqB [.ite t y n] [.ite t' n' y'] := fun chs p q s => by
  rw [runs_one, runs_one]
  simp only [Sm.run, ht]
  cases t'.ev s.env with
  | true => exact h2 chs _ _ s
  | false => exact h1 chs _ _ s
theorem EqB.stop (c : Str) (r : List Sm) : EqB [.stop c] (.stop c :: r) := fun chs p q s => by
  rw [runs_one]
  simp only [Sm.run, Sm.runs]
theorem EqB.set {x : Str} {e e' : Ex} (h : ∀ env, e'.ev env = e.ev env) : EqB [.set x e] [.set x e'] := fun chs p q s => by
  rw [runs_one, runs_one]
  simp only [Sm.run, h]
theorem EqB.half {x : Str} {e e' : Ex} (h : ∀ env, e'.ev env = e.ev env) : EqB [.half x e] [.half x e'] := fun chs p q s => by
  rw [runs_one, runs_one]
  simp only [Sm.run, h, halv_p (decC_noP chs) s _ p q]
theorem EqB.tell {e e' : Ex} (h : ∀ env, e'.ev env = e.ev env) : EqB [.tell e] [.tell e'] := fun chs p q s => by
  rw [runs_one, runs_one]
  simp only [Sm.run, h]
structure Oth (N : Nat) (b b' : List Sm) : Prop where
  eq : EqB b b'
  ok : Sm.oks b'
  nest : Sm.nests b' ≤ N
  wt : Sm.wts b' ≤ 2 * Sm.wts b
  pl : Sm.pls b' ≤ 2 ^ (N + 1) * Sm.pls b
theorem Oth.nil (N : Nat) : Oth N [] [] := ⟨EqB.refl _, by simp only [Sm.oks], by simp only [Sm.nests]; omega, by simp only [Sm.wts]; omega, by simp only [Sm.pls]; omega⟩
theorem Oth.app {N : Nat} {a a' b b' : List Sm} (h1 : Oth N a a') (h2 : Oth N b b') : Oth N (a ++ b) (a' ++ b') := by
  refine ⟨h1.eq.app h2.eq, Sm.oks_app h1.ok h2.ok, ?_, ?_, ?_⟩
  · have := Sm.nests_app a' b'
    have := h1.nest
    have := h2.nest
    omega
  · rw [Sm.wts_app, Sm.wts_app]
    have := h1.wt
    have := h2.wt
    omega
  · rw [Sm.pls_app, Sm.pls_app, Nat.mul_add]
    exact Nat.add_le_add h1.pl h2.pl
theorem two_le (N : Nat) : 2 ≤ 2 ^ (N + 1) := by
  have : 1 ≤ 2 ^ N := Nat.one_le_pow _ _ (by decide)
  rw [Nat.pow_succ]
  omega
theorem Oth.one {N : Nat} {s s' : Sm} (he : EqB [s] [s']) (ho : s'.ok) (hn : s'.nest ≤ N) (hw : s'.wt ≤ 2 * s.wt) (hp : s'.pl ≤ 2 ^ (N + 1) * s.pl) : Oth N [s] [s'] := by
  refine ⟨he, by simp only [Sm.oks]; exact ⟨ho, trivial⟩, ?_, ?_, ?_⟩
  · simp only [Sm.nests]; omega
  · simp only [Sm.wts]; omega
  · simp only [Sm.pls, Nat.add_zero]; exact hp
theorem Oth.stop {N : Nat} {c : Str} (h : (Sm.stop c).ok) {j : Nat} (hj : j ≤ 1) : Oth N [.stop c] (.stop c :: List.replicate j (.say "never")) := by
  have nev : (Sm.say "never").ok := by simp only [Sm.ok]; exact ⟨by decide +kernel, by decide +kernel⟩
  have t2 := two_le N
  rcases (show j = 0 ∨ j = 1 by omega) with rfl | rfl
  · refine ⟨EqB.stop c _, by simp only [List.replicate_zero, Sm.oks]; exact ⟨h, trivial⟩, ?_, ?_, ?_⟩
    · simp only [List.replicate_zero, Sm.nests, Sm.nest]; omega
    · simp only [List.replicate_zero, Sm.wts, Sm.wt]; omega
    · simp only [List.replicate_zero, Sm.pls, Sm.pl]; omega
  · refine ⟨EqB.stop c _, by simp only [List.replicate_one, Sm.oks]; exact ⟨h, nev, trivial⟩, ?_, ?_, ?_⟩
    · simp only [List.replicate_one, Sm.nests, Sm.nest]; omega
    · simp only [List.replicate_one, Sm.wts, Sm.wt]; omega
    · simp only [List.replicate_one, Sm.pls, Sm.pl]; omega
theorem Oth.rep {N : Nat} {b b' : List Sm} (h : Oth N b b') {k : Nat} (hk : k ≤ 8) : Oth (N + 1) [.rep k b] [.rep k b'] := by
  have := h.nest
  have hw := h.wt
  have hp := h.pl
  refine Oth.one (h.eq.rep k) (by simp only [Sm.ok]; exact ⟨hk, h.ok⟩) (by simp only [Sm.nest]; omega) ?_ ?_
  · simp only [Sm.wt]
    have : k * Sm.wts b' ≤ k * (2 * Sm.wts b) := Nat.mul_le_mul_left _ hw
    rw [Nat.mul_left_comm] at this
    omega
  · have t2 := two_le (N + 1)
    simp only [Sm.pl]
    rw [Nat.mul_add, Nat.mul_one]
    have : 2 ^ (N + 1) * Sm.pls b ≤ 2 ^ (N + 1 + 1) * Sm.pls b := Nat.mul_le_mul_right _ (Nat.pow_le_pow_right (by decide) (by omega))
    omega
theorem Oth.ite {N : Nat} {t t' : Ts} {y y' n n' : List Sm} (ht : ∀ env, t'.ev env = t.ev env) (to : t'.ok) (tn : t'.nots ≤ 2) (h1 : Oth N y y') (h2 : Oth N n n') : Oth (N + 1) [.ite t y n] [.ite t' y' n'] := by
  have a1 := h1.nest; have a2 := h2.nest; have b1 := h1.wt; have b2 := h2.wt; have c1 := h1.pl; have c2 := h2.pl
  refine Oth.one (EqB.ite ht h1.eq h2.eq) (by simp only [Sm.ok]; exact ⟨to, tn, h1.ok, h2.ok⟩) (by simp only [Sm.nest]; omega) (by simp only [Sm.wt]; omega) ?_
  have t2 := two_le (N + 1)
  simp only [Sm.pl]
  rw [Nat.mul_add, Nat.mul_one, Nat.mul_add]
  have e1 : 2 ^ (N + 1) * Sm.pls y ≤ 2 ^ (N + 1 + 1) * Sm.pls y := Nat.mul_le_mul_right _ (Nat.pow_le_pow_right (by decide) (by omega))
  have e2 : 2 ^ (N + 1) * Sm.pls n ≤ 2 ^ (N + 1 + 1) * Sm.pls n := Nat.mul_le_mul_right _ (Nat.pow_le_pow_right (by decide) (by omega))
  omega
theorem Oth.turn {N : Nat} {t t' : Ts} {y y' n n' : List Sm} (ht : ∀ env, t.ev env = !t'.ev env) (to : t'.ok) (tn : t'.nots ≤ 2) (h1 : Oth N y y') (h2 : Oth N n n') : Oth (N + 1) [.ite t y n] [.ite t' n' y'] := by
  have a1 := h1.nest; have a2 := h2.nest; have b1 := h1.wt; have b2 := h2.wt; have c1 := h1.pl; have c2 := h2.pl
  refine Oth.one (EqB.turn ht h1.eq h2.eq) (by simp only [Sm.ok]; exact ⟨to, tn, h2.ok, h1.ok⟩) (by simp only [Sm.nest]; omega) (by simp only [Sm.wt]; omega) ?_
  have t2 := two_le (N + 1)
  simp only [Sm.pl]
  rw [Nat.mul_add, Nat.mul_one, Nat.mul_add]
  have e1 : 2 ^ (N + 1) * Sm.pls y ≤ 2 ^ (N + 1 + 1) * Sm.pls y := Nat.mul_le_mul_right _ (Nat.pow_le_pow_right (by decide) (by omega))
  have e2 : 2 ^ (N + 1) * Sm.pls n ≤ 2 ^ (N + 1 + 1) * Sm.pls n := Nat.mul_le_mul_right _ (Nat.pow_le_pow_right (by decide) (by omega))
  omega
theorem Oth.plain {N : Nat} {s s' : Sm} (he : EqB [s] [s']) (ho : s'.ok) (h1 : s.plain) (h2 : s'.plain) : Oth N [s] [s'] := by
  have t2 := two_le N
  refine Oth.one he ho ?_ ?_ ?_
  · cases s' <;> simp only [Sm.nest] <;> first | omega | exact h2.elim
  · cases s <;> cases s' <;> simp only [Sm.wt] <;> first | omega | exact h1.elim | exact h2.elim
  · cases s <;> cases s' <;> simp only [Sm.pl] <;> first | omega | exact h1.elim | exact h2.elim
/-! ### sums turned about -/
inductive Nd where
  | e (x : Ex) | t (x : Ts)
def Nd.d : Nd → PyData
  | .e x => x.d
  | .t x => x.d
def Nd.ok (n : Nat) : Nd → Prop
  | .e x => x.ok ∧ x.deep ≤ n
  | .t x => x.ok ∧ x.nots + 4 ≤ n
inductive Nd.to : Nd → Nd → Prop
  | e {x y : Ex} (o : y.ok) (d : y.deep ≤ x.deep) (h : ∀ env, y.ev env = x.ev env) : Nd.to (.e x) (.e y)
  | t {x y : Ts} (o : y.ok) (d : y.nots = x.nots) (h : ∀ env, y.ev env = x.ev env) : Nd.to (.t x) (.t y)
inductive Nds : List Nd → List Nd → Prop
  | nil : Nds [] []
  | cons {x y : Nd} {l r : List Nd} (h : x.to y) (t : Nds l r) : Nds (x :: l) (y :: r)
theorem Nds.snoc {l r : List Nd} {x y : Nd} (h : Nds l r) (t : x.to y) : Nds (l ++ [x]) (r ++ [y]) := by
  induction h with
  | nil => exact .cons t .nil
  | cons h _ ih => exact .cons h ih
end EH
namespace EH
open PySem PySem.Spec PyProof.Rows L2
/-! ### sorted of a tuple of data, x in a list of data, repr of a list -/
section
variable {X : Cx}
end
/-! ### sorted of anything that can be collected: data -/
section
variable {X : Cx}
/-- data that can be sorted; one alone always -/
def Srt (ds : List PyData) : Prop := PySem.W.Sortable ds ∨ (ds.length ≤ 1 ∧ ∀ d ∈ ds, d ≠ .none)
/-- the data of a key -/
def keyD (k : List Key) : PyData := .tuple (k.map kD)
end
/-! ### tuple * int, any number from 0 on -/
section
variable {X : Cx}
end
end EH
namespace EH
open PySem L2
/-- a run as runs_on tells it -/
def runD (r : Option Str × Cs) : PyData := .tuple [.tuple (r.2.turns.map PyData.int), .tuple (r.2.said.map kD), wD r.1]
section
variable {ways : Int → Option Int} {b : List Sm} {n : Int} {k : Nat}
theorem Chn.len (o : Sm.oks b) (hv : Sm.hvs b ≤ 8) {Rs : List (Option Str × Cs)} {c : Option (List Int)} (h : Chn ways b n Rs c) : Rs.length ≤ 256 := by
  have := (h.ok (k := 8) o hv).len o hv
  have e : (2 : Int) ^ 8 = 256 := by decide
  omega
end
/-! ### programs can be shown -/
structure Sw (d : PyData) (W D : Nat) : Prop where
  sh : d.showable = true
  ls : d.leavesShort 13 = true
  wt : d.weight ≤ W
  dp : d.depth ≤ D
structure Sws (ds : List PyData) (W D : Nat) : Prop where
  sh : PyData.showableAll ds = true
  ls : PyData.leavesShortAll 13 ds = true
  wt : PyData.weightAll ds ≤ W
  dp : PyData.depthAll ds ≤ D
theorem Sw.mono {d : PyData} {W D W' D' : Nat} (h : Sw d W D) (a : W ≤ W') (b : D ≤ D') : Sw d W' D' := ⟨h.sh, h.ls, Nat.le_trans h.wt a, Nat.le_trans h.dp b⟩
theorem Sws.mono {d : List PyData} {W D W' D' : Nat} (h : Sws d W D) (a : W ≤ W') (b : D ≤ D') : Sws d W' D' := ⟨h.sh, h.ls, Nat.le_trans h.wt a, Nat.le_trans h.dp b⟩
theorem sws_nil : Sws [] 0 0 := ⟨by simp only [PyData.showableAll], by simp only [PyData.leavesShortAll], by simp only [PyData.weightAll]; exact Nat.le_refl _, by simp only [PyData.depthAll]; exact Nat.le_refl _⟩
theorem sws_cons {d : PyData} {ds : List PyData} {W D W' : Nat} (h : Sw d W D) (t : Sws ds W' D) : Sws (d :: ds) (W + 1 + W') D := by
  obtain ⟨h1, h2, h3, h4⟩ := h
  obtain ⟨t1, t2, t3, t4⟩ := t
  refine ⟨by simp only [PyData.showableAll, h1, t1]; rfl, by simp only [PyData.leavesShortAll, h2, t2]; rfl, ?_, ?_⟩
  · simp only [PyData.weightAll]; omega
  · simp only [PyData.depthAll]; omega
theorem sw_tup {ds : List PyData} {W D : Nat} (t : Sws ds W D) : Sw (.tuple ds) (W + 1) (D + 1) := by
  obtain ⟨t1, t2, t3, t4⟩ := t
  refine ⟨by simp only [PyData.showable, t1], by simp only [PyData.leavesShort, t2], ?_, ?_⟩
  · simp only [PyData.weight]; omega
  · simp only [PyData.depth]; omega
theorem sw_int {i : Int} (h : i.natAbs < 1000) : Sw (.int i) 20 0 := by
  have hl : i.natAbs.log2 ≤ 10 := by
    by_cases z : i.natAbs = 0
    · rw [z]; decide
    · exact Nat.le_of_lt_succ ((Nat.log2_lt z).mpr (by have : (2:Nat) ^ 11 = 2048 := by decide
                                                       omega))
  refine ⟨?_, ?_, ?_, ?_⟩
  · simp only [PyData.showable, decide_eq_true_eq]; omega
  · simp only [PyData.leavesShort, decide_eq_true_eq]
    have e := int_text_length_le10 (a := i) (k := 12) (by decide) (Nat.lt_of_lt_of_le h (by decide))
    show (Str.ofString (toString i)).length ≤ 13
    rw [ofString_length]
    exact e
  · simp only [PyData.weight]
    split <;> omega
  · simp only [PyData.depth]; exact Nat.le_refl _
theorem sw_str {c : Str} {n : Nat} (h : PyData.strOk c = true ∧ c.length ≤ n) : Sw (.str c) n 0 := by
  refine ⟨by simp only [PyData.showable], ?_, ?_, ?_⟩
  · exact PyData.leavesShort_of_canLay0 13 (.str c) (by simp only [PyData.canLay0]; exact h.1) (by simp only [PyData.intsShort])
  · simp only [PyData.weight]; exact h.2
  · simp only [PyData.depth]; exact Nat.le_refl _
theorem Sw.shw {d : PyData} {W D : Nat} (h : Sw d W D) (hw : W ≤ 1000000) (hd : D ≤ 60) : Shw d := by
  refine ⟨h.sh, Nat.le_trans (PyData.shown_le 13 (by decide) d h.ls) ?_, Nat.le_trans h.dp hd⟩
  have := h.wt
  have : (15 : Nat) * d.weight + 13 ≤ 16777216 := by omega
  exact Nat.le_trans this (by decide +kernel)
theorem sw_kw (x : Str) (h : PyData.strOk x = true ∧ x.length ≤ 6) : Sw (.str x) 6 0 := sw_str h
def exW : Nat → Nat
  | 0 => 1000
  | n + 1 => 2 * exW n + 40
theorem exW_ge : ∀ n, 1000 ≤ exW n
  | 0 => Nat.le_refl _
  | n + 1 => by have := exW_ge n; simp only [exW]; omega
theorem Ex.sw : ∀ {e : Ex} (n : Nat), e.ok → e.deep ≤ n + 1 → Sw e.d (exW n) n
  | .num i, n, h, _ => by
    have h : -99 ≤ i ∧ i ≤ 99 := h
    have := exW_ge n
    exact (sw_int (by omega)).mono (by omega) (Nat.zero_le _)
  | .var x, n, h, _ => (sw_str h).mono (exW_ge n) (Nat.zero_le _)
  | .plus a b, 0, h, d => absurd (show max a.deep b.deep + 1 ≤ 1 from d) (by have := a.deep_pos; omega)
  | .plus a b, n + 1, h, d => by
    have d : max a.deep b.deep + 1 ≤ n + 1 + 1 := d
    have ha := Ex.sw n (show a.ok ∧ b.ok from h).1 (by omega)
    have hb := Ex.sw n (show a.ok ∧ b.ok from h).2 (by omega)
    exact (sw_tup (sws_cons ((sw_kw "plus" (by decide +kernel)).mono (Nat.le_refl _) (Nat.zero_le _)) (sws_cons ha (sws_cons hb (sws_nil.mono (Nat.le_refl _) (Nat.zero_le _)))))).mono (by simp only [exW]; omega) (Nat.le_refl _)
  | .minus a b, 0, h, d => absurd (show max a.deep b.deep + 1 ≤ 1 from d) (by have := a.deep_pos; omega)
  | .minus a b, n + 1, h, d => by
    have d : max a.deep b.deep + 1 ≤ n + 1 + 1 := d
    have ha := Ex.sw n (show a.ok ∧ b.ok from h).1 (by omega)
    have hb := Ex.sw n (show a.ok ∧ b.ok from h).2 (by omega)
    exact (sw_tup (sws_cons ((sw_kw "minus" (by decide +kernel)).mono (Nat.le_refl _) (Nat.zero_le _)) (sws_cons ha (sws_cons hb (sws_nil.mono (Nat.le_refl _) (Nat.zero_le _)))))).mono (by simp only [exW]; omega) (Nat.le_refl _)
  | .times k a, 0, h, d => absurd (show a.deep + 1 ≤ 1 from d) (by have := a.deep_pos; omega)
  | .times k a, n + 1, h, d => by
    have d : a.deep + 1 ≤ n + 1 + 1 := d
    obtain ⟨h1, h2, h3⟩ := (show -9 ≤ k ∧ k ≤ 9 ∧ a.ok from h)
    have ha := Ex.sw n h3 (by omega)
    have := exW_ge n
    exact (sw_tup (sws_cons ((sw_kw "times" (by decide +kernel)).mono (Nat.le_refl _) (Nat.zero_le _)) (sws_cons ((sw_int (i := k) (by omega)).mono (Nat.le_refl _) (Nat.zero_le _)) (sws_cons ha (sws_nil.mono (Nat.le_refl _) (Nat.zero_le _)))))).mono (by simp only [exW]; omega) (Nat.le_refl _)
theorem Ex.sw3 {e : Ex} (h : e.ok) (d : e.deep ≤ 3) : Sw e.d 4200 2 := (Ex.sw 2 h d).mono (by decide) (Nat.le_refl _)
theorem Ts.sw : ∀ {t : Ts}, t.ok → Sw t.d (8420 + 20 * t.nots) (3 + t.nots)
  | .less a b, h => by
    obtain ⟨⟨o1, d1⟩, o2, d2⟩ := (show (a.ok ∧ a.deep ≤ 3) ∧ b.ok ∧ b.deep ≤ 3 from h)
    exact (sw_tup (sws_cons ((sw_kw "less" (by decide +kernel)).mono (Nat.le_refl _) (Nat.zero_le _)) (sws_cons (Ex.sw3 o1 d1) (sws_cons (Ex.sw3 o2 d2) (sws_nil.mono (Nat.le_refl _) (Nat.zero_le _)))))).mono (by simp only [Ts.nots]; omega) (by simp only [Ts.nots]; omega)
  | .odd a, h => by
    obtain ⟨o1, d1⟩ := (show a.ok ∧ a.deep ≤ 3 from h)
    exact (sw_tup (sws_cons ((sw_kw "odd" (by decide +kernel)).mono (Nat.le_refl _) (Nat.zero_le _)) (sws_cons (Ex.sw3 o1 d1) (sws_nil.mono (Nat.le_refl _) (Nat.zero_le _))))).mono (by simp only [Ts.nots]; omega) (by simp only [Ts.nots]; omega)
  | .not t, h => by
    have ih := Ts.sw (t := t) h
    exact (sw_tup (sws_cons ((sw_kw "not" (by decide +kernel)).mono (Nat.le_refl _) (Nat.zero_le _)) (sws_cons ih (sws_nil.mono (Nat.le_refl _) (Nat.zero_le _))))).mono (by simp only [Ts.nots]; omega) (by simp only [Ts.nots]; omega)
mutual
theorem Sm.sw : ∀ {s : Sm}, s.ok → Sw s.d (9000 * s.pl - 1) (6 + 2 * s.nest)
  | .ite t y n, h => by
    simp only [Sm.ok] at h
    have ht := Ts.sw h.1
    have hy := sw_tup (Sm.sws h.2.2.1)
    have hn := sw_tup (Sm.sws h.2.2.2)
    simp only [Sm.d, Sm.pl, Sm.nest]
    exact (sw_tup (D := 5 + 2 * (max (Sm.nests y) (Sm.nests n) + 1)) (sws_cons ((sw_kw "if" (by decide +kernel)).mono (Nat.le_refl _) (Nat.zero_le _)) (sws_cons (ht.mono (Nat.le_refl _) (by omega)) (sws_cons (hy.mono (Nat.le_refl _) (by omega)) (sws_cons (hn.mono (Nat.le_refl _) (by omega)) (sws_nil.mono (Nat.le_refl _) (Nat.zero_le _))))))).mono (by omega) (by omega)
  | .rep k b, h => by
    simp only [Sm.ok] at h
    have hb := sw_tup (Sm.sws h.2)
    simp only [Sm.d, Sm.pl, Sm.nest]
    exact (sw_tup (D := 5 + 2 * (Sm.nests b + 1)) (sws_cons ((sw_kw "repeat" (by decide +kernel)).mono (Nat.le_refl _) (Nat.zero_le _)) (sws_cons ((sw_int (i := (k : Int)) (by omega)).mono (Nat.le_refl _) (Nat.zero_le _)) (sws_cons (hb.mono (Nat.le_refl _) (by omega)) (sws_nil.mono (Nat.le_refl _) (Nat.zero_le _)))))).mono (by omega) (by omega)
  | .set x e, h => by
    simp only [Sm.ok] at h
    simp only [Sm.d, Sm.pl, Sm.nest]
    exact (sw_tup (sws_cons ((sw_kw "set" (by decide +kernel)).mono (Nat.le_refl _) (Nat.zero_le _)) (sws_cons ((sw_str h.2).mono (Nat.le_refl _) (Nat.zero_le _)) (sws_cons (Ex.sw3 h.1.1 h.1.2) (sws_nil.mono (Nat.le_refl _) (Nat.zero_le _)))))).mono (by omega) (by omega)
  | .half x e, h => by
    simp only [Sm.ok] at h
    simp only [Sm.d, Sm.pl, Sm.nest]
    exact (sw_tup (sws_cons ((sw_kw "half" (by decide +kernel)).mono (Nat.le_refl _) (Nat.zero_le _)) (sws_cons ((sw_str h.2).mono (Nat.le_refl _) (Nat.zero_le _)) (sws_cons (Ex.sw3 h.1.1 h.1.2) (sws_nil.mono (Nat.le_refl _) (Nat.zero_le _)))))).mono (by omega) (by omega)
  | .tell e, h => by
    simp only [Sm.ok] at h
    simp only [Sm.d, Sm.pl, Sm.nest]
    exact (sw_tup (sws_cons ((sw_kw "tell" (by decide +kernel)).mono (Nat.le_refl _) (Nat.zero_le _)) (sws_cons (Ex.sw3 h.1 h.2) (sws_nil.mono (Nat.le_refl _) (Nat.zero_le _))))).mono (by omega) (by omega)
  | .say c, h => by
    simp only [Sm.ok] at h
    simp only [Sm.d, Sm.pl, Sm.nest]
    exact (sw_tup (D := 0) (sws_cons (sw_kw "say" (by decide +kernel)) (sws_cons (sw_str h) sws_nil))).mono (by omega) (by omega)
  | .stop c, h => by
    simp only [Sm.ok] at h
    simp only [Sm.d, Sm.pl, Sm.nest]
    exact (sw_tup (D := 0) (sws_cons (sw_kw "stop" (by decide +kernel)) (sws_cons (sw_str h) sws_nil))).mono (by omega) (by omega)
theorem Sm.sws : ∀ {b : List Sm}, Sm.oks b → Sws (Sm.ds b) (9000 * Sm.pls b) (6 + 2 * Sm.nests b)
  | [], _ => by simp only [Sm.ds]; exact sws_nil.mono (Nat.zero_le _) (Nat.zero_le _)
  | s :: r, h => by
    simp only [Sm.oks] at h
    have h1 := Sm.sw h.1
    have h2 := Sm.sws h.2
    have := s.pl_pos
    simp only [Sm.ds, Sm.pls, Sm.nests]
    exact (sws_cons (h1.mono (Nat.le_refl _) (show 6 + 2 * s.nest ≤ 6 + 2 * max s.nest (Sm.nests r) by omega)) (h2.mono (Nat.le_refl _) (by omega))).mono (by omega) (Nat.le_refl _)
end
/-! ### what the law itself asks of right statements -/
def DIGS : Str := "0123456789"
theorem word_of {z : Str} (h : nameB (.str z) = true) : wordB (.str z) = true := by
  simp only [nameB, wordB, Bool.and_eq_true] at h ⊢
  exact ⟨h.1.1.1, h.1.2⟩
/-! what the counts are -/
def cntL (b : List Sm) : List V := [.int (Sm.pls b), .int (Sm.wts b), .int (Sm.hvs b), .int (Sm.cps b)]
def spLCounts (n : Nat) : Sp := fun vs H Q _ => ∃ (v : V) (b : List Sm), vs = [v] ∧ Tr H (.tuple (Sm.ds b)) v ∧ Sm.oks b ∧ Sm.nests b ≤ n ∧ Sm.pls b ≤ 1000000 ∧ ∀ (l : Addr) (H' : Hp), H' l = some (.lst (cntL b)) → Kp [] H H' → Q (.ref l) H'
theorem four_eq {a b c d a' b' c' d' : Int} (h1 : a = a') (h2 : b = b') (h3 : c = c') (h4 : d = d') : [V.int a, V.int b, V.int c, V.int d] = [V.int a', V.int b', V.int c', V.int d'] := by rw [h1, h2, h3, h4]
/-- a statement's own share -/
def oh : Sm → Nat
  | .half _ _ => 1
  | .ite t _ _ => if t.isOdd then 1 else 0
  | _ => 0
def oc : Sm → Nat
  | .ite t _ _ => if t.isOdd then 0 else 1
  | _ => 0
def smI (f : List Sm → Nat) (bs : List (List Sm)) : Int := (((bs.map f).sum : Nat) : Int)
theorem smI_nil (f : List Sm → Nat) : smI f [] = 0 := rfl
theorem smI_app (f : List Sm → Nat) (bs : List (List Sm)) (b : List Sm) : smI f (bs ++ [b]) = smI f bs + (f b : Int) := by
  unfold smI
  rw [List.map_append, List.sum_append]
  show (((bs.map f).sum + (f b + 0) : Nat) : Int) = _
  omega
def ownL (s : Sm) (bs : List (List Sm)) : List V := [.int (1 + smI Sm.pls bs), .int (1 + s.tms * smI Sm.wts bs), .int (oh s + s.tms * smI Sm.hvs bs), .int (oc s + s.tms * smI Sm.cps bs)]
theorem ownL_all : ∀ s : Sm, ownL s s.blks = [.int (s.pl : Int), .int (s.wt : Int), .int (s.hv : Int), .int (s.cp : Int)]
  | .set _ _ => by simp [ownL, Sm.blks, smI, Sm.tms, Sm.pl, Sm.wt, Sm.hv, Sm.cp, oh, oc]
  | .half _ _ => by simp [ownL, Sm.blks, smI, Sm.tms, Sm.pl, Sm.wt, Sm.hv, Sm.cp, oh, oc]
  | .tell _ => by simp [ownL, Sm.blks, smI, Sm.tms, Sm.pl, Sm.wt, Sm.hv, Sm.cp, oh, oc]
  | .say _ => by simp [ownL, Sm.blks, smI, Sm.tms, Sm.pl, Sm.wt, Sm.hv, Sm.cp, oh, oc]
  | .stop _ => by simp [ownL, Sm.blks, smI, Sm.tms, Sm.pl, Sm.wt, Sm.hv, Sm.cp, oh, oc]
  | .ite t y n => by
    simp only [ownL, Sm.blks, smI, Sm.tms, Sm.pl, Sm.wt, Sm.hv, Sm.cp, oh, oc, List.map_cons, List.map_nil, List.sum_cons, List.sum_nil]
    exact four_eq (by omega) (by omega) (by omega) (by omega)
  | .rep k b => by
    simp only [ownL, Sm.blks, smI, Sm.tms, Sm.pl, Sm.wt, Sm.hv, Sm.cp, oh, oc, List.map_cons, List.map_nil, List.sum_cons, List.sum_nil]
    exact four_eq (by simp) (by simp) (by simp) (by simp)
def addL (a : List Sm) (s : Sm) : List V := [.int (Sm.pls a + s.pl), .int (Sm.wts a + s.wt), .int (Sm.hvs a + s.hv), .int (Sm.cps a + s.cp)]
theorem addL_eq (a : List Sm) (s : Sm) : addL a s = cntL (a ++ [s]) := by
  unfold addL cntL
  rw [Sm.pls_app, Sm.wts_app, Sm.hvs_app, Sm.cps_app]
  simp only [Sm.pls, Sm.wts, Sm.hvs, Sm.cps]
  exact four_eq (by omega) (by omega) (by omega) (by omega)
theorem ownL_nil (s : Sm) : ownL s [] = [.int 1, .int 1, .int (oh s), .int (oc s)] := by
  unfold ownL
  simp only [smI_nil]
  exact four_eq (by omega) (by simp) (by simp) (by simp)
theorem base_not (t : Ts) : (Ts.not t).base = t.base := rfl
theorem base_cases (t : Ts) : (∃ a b, t = .less a b ∧ t.isOdd = false) ∨ (∃ a, t = .odd a ∧ t.isOdd = true) ∨ ∃ u, t = .not u := by
  cases t with
  | less a b => exact .inl ⟨a, b, rfl, rfl⟩
  | odd a => exact .inr (.inl ⟨a, rfl, rfl⟩)
  | not u => exact .inr (.inr ⟨u, rfl⟩)
theorem fn_imp {P : Program} {w : World} {K : PySem.W.Frag} {mg : Str → Option Value} {base : Heap} {k : Nat} {f : Addr} {fd : FuncData} {ps : List Str} {sp sp' : Sp} (i : ∀ vs H Q E, sp' vs H Q E → sp vs H Q E) (F : FnOk P w K mg base CX0 k f fd ps sp) : FnOk P w K mg base CX0 k f fd ps sp' :=
  ⟨fun vs H Q E h => F.1 vs H Q E (i _ _ _ _ h), fun A outer s H args us vs Q E hr e0 hb r h => F.2 A outer s H args us vs Q E hr e0 hb r (i _ _ _ _ h)⟩
section
variable {X : Cx}
end
theorem nests_take : ∀ (b : List Sm) (n : Nat), Sm.nests (b.take n) ≤ Sm.nests b
  | [], n => by rw [List.take_nil]; exact Nat.le_refl _
  | s :: r, 0 => by simp only [List.take_zero, Sm.nests]; omega
  | s :: r, n + 1 => by
    have := nests_take r n
    simp only [List.take_succ_cons, Sm.nests]
    omega
theorem oks_take : ∀ {b : List Sm} (n : Nat), Sm.oks b → Sm.oks (b.take n)
  | [], n, _ => by rw [List.take_nil]; simp only [Sm.oks]
  | s :: r, 0, _ => by simp only [List.take_zero, Sm.oks]
  | s :: r, n + 1, h => by
    simp only [Sm.oks] at h
    simp only [List.take_succ_cons, Sm.oks]
    exact ⟨h.1, oks_take n h.2⟩
theorem PrOk.take {b : List Sm} (h : PrOk b) (n : Nat) : PrOk (b.take n) := by
  have e : b.take n ++ b.drop n = b := List.take_append_drop n b
  have e1 := Sm.pls_app (b.take n) (b.drop n)
  have e2 := Sm.wts_app (b.take n) (b.drop n)
  have e3 := Sm.hvs_app (b.take n) (b.drop n)
  have e4 := Sm.cps_app (b.take n) (b.drop n)
  rw [e] at e1 e2 e3 e4
  have h1 := h.pl; have h2 := h.wt; have h3 := h.hv; have h4 := h.cp; have h5 := h.nest; have h6 := nests_take b n
  exact ⟨oks_take n h.ok, by omega, by omega, by omega, by omega, by omega⟩
/-! how many parts a program has -/
theorem Ex.szd : ∀ {e : Ex}, e.ok → Szd e.d
  | .num i, _ => by simp only [Ex.d, Szd]
  | .var x, h => by
    have := (show NmOk x from h).2
    simp only [Ex.d, Szd]
    omega
  | .plus a b, h => by simp only [Ex.d, Szd, Szds]; exact ⟨by decide +kernel, Ex.szd (show a.ok ∧ b.ok from h).1, Ex.szd (show a.ok ∧ b.ok from h).2, trivial⟩
  | .minus a b, h => by simp only [Ex.d, Szd, Szds]; exact ⟨by decide +kernel, Ex.szd (show a.ok ∧ b.ok from h).1, Ex.szd (show a.ok ∧ b.ok from h).2, trivial⟩
  | .times k a, h => by simp only [Ex.d, Szd, Szds]; exact ⟨by decide +kernel, trivial, Ex.szd (show -9 ≤ k ∧ k ≤ 9 ∧ a.ok from h).2.2, trivial⟩
theorem Ts.szd : ∀ {t : Ts}, t.ok → Szd t.d
  | .less a b, h => by
    obtain ⟨⟨h1, _⟩, h2, _⟩ := (show (a.ok ∧ a.deep ≤ 3) ∧ b.ok ∧ b.deep ≤ 3 from h)
    simp only [Ts.d, Szd, Szds]
    exact ⟨by decide +kernel, Ex.szd h1, Ex.szd h2, trivial⟩
  | .odd a, h => by
    obtain ⟨h1, _⟩ := (show a.ok ∧ a.deep ≤ 3 from h)
    simp only [Ts.d, Szd, Szds]
    exact ⟨by decide +kernel, Ex.szd h1, trivial⟩
  | .not t, h => by
    simp only [Ts.d, Szd, Szds]
    exact ⟨by decide +kernel, Ts.szd (t := t) h, trivial⟩
mutual
theorem Sm.szd : ∀ {s : Sm}, s.ok → Szd s.d
  | .ite t y n, h => by
    simp only [Sm.ok] at h
    simp only [Sm.d, Szd, Szds]
    exact ⟨by decide +kernel, Ts.szd h.1, Sm.szds h.2.2.1, Sm.szds h.2.2.2, trivial⟩
  | .rep k b, h => by
    simp only [Sm.ok] at h
    simp only [Sm.d, Szd, Szds]
    exact ⟨by decide +kernel, trivial, Sm.szds h.2, trivial⟩
  | .set x e, h => by
    simp only [Sm.ok] at h
    simp only [Sm.d, Szd, Szds]
    exact ⟨by decide +kernel, Nat.le_trans h.2.2 (by decide), Ex.szd h.1.1, trivial⟩
  | .half x e, h => by
    simp only [Sm.ok] at h
    simp only [Sm.d, Szd, Szds]
    exact ⟨by decide +kernel, Nat.le_trans h.2.2 (by decide), Ex.szd h.1.1, trivial⟩
  | .tell e, h => by
    simp only [Sm.ok] at h
    simp only [Sm.d, Szd, Szds]
    exact ⟨by decide +kernel, Ex.szd h.1, trivial⟩
  | .say c, h => by
    simp only [Sm.ok] at h
    simp only [Sm.d, Szd, Szds]
    exact ⟨by decide +kernel, Nat.le_trans h.2 (by decide), trivial⟩
  | .stop c, h => by
    simp only [Sm.ok] at h
    simp only [Sm.d, Szd, Szds]
    exact ⟨by decide +kernel, Nat.le_trans h.2 (by decide), trivial⟩
theorem Sm.szds : ∀ {b : List Sm}, Sm.oks b → Szds (Sm.ds b)
  | [], _ => by simp only [Sm.ds, Szds]
  | s :: r, h => by
    simp only [Sm.oks] at h
    simp only [Sm.ds, Szds]
    exact ⟨Sm.szd h.1, Sm.szds h.2⟩
end
theorem tup_inj2 {a b c d : PyData} (h : PyData.tuple [a, b] = .tuple [c, d]) : a = c ∧ b = d := by
  have h := PyData.tuple.inj h
  exact ⟨(List.cons.inj h).1, (List.cons.inj (List.cons.inj h).2).1⟩
theorem tup_inj3 {a b c d e f : PyData} (h : PyData.tuple [a, b, c] = .tuple [d, e, f]) : a = d ∧ b = e ∧ c = f := by
  have h := PyData.tuple.inj h
  have h2 := List.cons.inj h
  have h3 := List.cons.inj h2.2
  exact ⟨h2.1, h3.1, (List.cons.inj h3.2).1⟩
theorem tup_inj4 {a b c d e f g i : PyData} (h : PyData.tuple [a, b, c, d] = .tuple [e, f, g, i]) : a = e ∧ b = f ∧ c = g ∧ d = i := by
  have h := PyData.tuple.inj h
  have h2 := List.cons.inj h
  have h3 := List.cons.inj h2.2
  have h4 := List.cons.inj h3.2
  exact ⟨h2.1, h3.1, h4.1, (List.cons.inj h4.2).1⟩
theorem kw_ne {a b : Str} {r s : List PyData} (n : a ≠ b) (h : PyData.tuple (.str a :: r) = .tuple (.str b :: s)) : False := n (PyData.str.inj (List.cons.inj (PyData.tuple.inj h)).1)
theorem Ex.d_inj : ∀ a b : Ex, a.d = b.d → a = b := by
  intro a
  induction a with
  | num i => intro b h; cases b <;> simp only [Ex.d] at h <;> first | (cases h; done) | (cases h; rfl)
  | var i => intro b h; cases b <;> simp only [Ex.d] at h <;> first | (cases h; done) | (cases h; rfl)
  | plus x y ix iy =>
    intro b h
    cases b with
    | num i => simp only [Ex.d] at h; cases h
    | var i => simp only [Ex.d] at h; cases h
    | plus x' y' =>
      simp only [Ex.d] at h
      obtain ⟨_, h1, h2⟩ := tup_inj3 h
      rw [ix _ h1, iy _ h2]
    | minus x' y' => simp only [Ex.d] at h; exact (kw_ne (by decide +kernel) h).elim
    | times x' y' => simp only [Ex.d] at h; exact (kw_ne (by decide +kernel) h).elim
  | minus x y ix iy =>
    intro b h
    cases b with
    | num i => simp only [Ex.d] at h; cases h
    | var i => simp only [Ex.d] at h; cases h
    | minus x' y' =>
      simp only [Ex.d] at h
      obtain ⟨_, h1, h2⟩ := tup_inj3 h
      rw [ix _ h1, iy _ h2]
    | plus x' y' => simp only [Ex.d] at h; exact (kw_ne (by decide +kernel) h).elim
    | times x' y' => simp only [Ex.d] at h; exact (kw_ne (by decide +kernel) h).elim
  | times x y iy =>
    intro b h
    cases b with
    | num i => simp only [Ex.d] at h; cases h
    | var i => simp only [Ex.d] at h; cases h
    | times x' y' =>
      simp only [Ex.d] at h
      obtain ⟨_, h1, h2⟩ := tup_inj3 h
      rw [PyData.int.inj h1, iy _ h2]
    | plus x' y' => simp only [Ex.d] at h; exact (kw_ne (by decide +kernel) h).elim
    | minus x' y' => simp only [Ex.d] at h; exact (kw_ne (by decide +kernel) h).elim
theorem Ts.d_inj : ∀ a b : Ts, a.d = b.d → a = b := by
  intro a
  induction a with
  | less x y =>
    intro b h
    cases b with
    | less x' y' =>
      simp only [Ts.d] at h
      obtain ⟨_, h1, h2⟩ := tup_inj3 h
      rw [Ex.d_inj _ _ h1, Ex.d_inj _ _ h2]
    | odd x' => simp only [Ts.d] at h; exact (kw_ne (by decide +kernel) h).elim
    | not x' => simp only [Ts.d] at h; exact (kw_ne (by decide +kernel) h).elim
  | odd x =>
    intro b h
    cases b with
    | odd x' =>
      simp only [Ts.d] at h
      obtain ⟨_, h1⟩ := tup_inj2 h
      rw [Ex.d_inj _ _ h1]
    | less x' y' => simp only [Ts.d] at h; exact (kw_ne (by decide +kernel) h).elim
    | not x' => simp only [Ts.d] at h; exact (kw_ne (by decide +kernel) h).elim
  | not x ih =>
    intro b h
    cases b with
    | not x' =>
      simp only [Ts.d] at h
      obtain ⟨_, h1⟩ := tup_inj2 h
      rw [ih _ h1]
    | less x' y' => simp only [Ts.d] at h; exact (kw_ne (by decide +kernel) h).elim
    | odd x' => simp only [Ts.d] at h; exact (kw_ne (by decide +kernel) h).elim
mutual
theorem Sm.d_inj : ∀ a b : Sm, a.d = b.d → a = b
  | .set x e, b, h => by
    cases b <;> simp only [Sm.d] at h <;> first | exact (kw_ne (by decide +kernel) h).elim | (obtain ⟨_, h1, h2⟩ := tup_inj3 h; rw [PyData.str.inj h1, Ex.d_inj _ _ h2])
  | .half x e, b, h => by
    cases b <;> simp only [Sm.d] at h <;> first | exact (kw_ne (by decide +kernel) h).elim | (obtain ⟨_, h1, h2⟩ := tup_inj3 h; rw [PyData.str.inj h1, Ex.d_inj _ _ h2])
  | .tell e, b, h => by
    cases b <;> simp only [Sm.d] at h <;> first | exact (kw_ne (by decide +kernel) h).elim | (obtain ⟨_, h1⟩ := tup_inj2 h; rw [Ex.d_inj _ _ h1])
  | .say e, b, h => by
    cases b <;> simp only [Sm.d] at h <;> first | exact (kw_ne (by decide +kernel) h).elim | (obtain ⟨_, h1⟩ := tup_inj2 h; rw [PyData.str.inj h1])
  | .stop e, b, h => by
    cases b <;> simp only [Sm.d] at h <;> first | exact (kw_ne (by decide +kernel) h).elim | (obtain ⟨_, h1⟩ := tup_inj2 h; rw [PyData.str.inj h1])
  | .ite t y n, b, h => by
    cases b with
    | ite t' y' n' =>
      simp only [Sm.d] at h
      obtain ⟨_, h1, h2, h3⟩ := tup_inj4 h
      rw [Ts.d_inj _ _ h1, Sm.ds_inj y y' (PyData.tuple.inj h2), Sm.ds_inj n n' (PyData.tuple.inj h3)]
    | set _ _ => simp only [Sm.d] at h; exact (kw_ne (by decide +kernel) h).elim
    | half _ _ => simp only [Sm.d] at h; exact (kw_ne (by decide +kernel) h).elim
    | tell _ => simp only [Sm.d] at h; exact (kw_ne (by decide +kernel) h).elim
    | say _ => simp only [Sm.d] at h; exact (kw_ne (by decide +kernel) h).elim
    | stop _ => simp only [Sm.d] at h; exact (kw_ne (by decide +kernel) h).elim
    | rep _ _ => simp only [Sm.d] at h; exact (kw_ne (by decide +kernel) h).elim
  | .rep k y, b, h => by
    cases b with
    | rep k' y' =>
      simp only [Sm.d] at h
      obtain ⟨_, h1, h2⟩ := tup_inj3 h
      rw [Int.ofNat.inj (PyData.int.inj h1), Sm.ds_inj y y' (PyData.tuple.inj h2)]
    | set _ _ => simp only [Sm.d] at h; exact (kw_ne (by decide +kernel) h).elim
    | half _ _ => simp only [Sm.d] at h; exact (kw_ne (by decide +kernel) h).elim
    | tell _ => simp only [Sm.d] at h; exact (kw_ne (by decide +kernel) h).elim
    | say _ => simp only [Sm.d] at h; exact (kw_ne (by decide +kernel) h).elim
    | stop _ => simp only [Sm.d] at h; exact (kw_ne (by decide +kernel) h).elim
    | ite _ _ _ => simp only [Sm.d] at h; exact (kw_ne (by decide +kernel) h).elim
theorem Sm.ds_inj : ∀ a b : List Sm, Sm.ds a = Sm.ds b → a = b
  | [], [], _ => rfl
  | [], s :: r, h => by simp only [Sm.ds] at h; cases h
  | s :: r, [], h => by simp only [Sm.ds] at h; cases h
  | s :: r, s' :: r', h => by
    simp only [Sm.ds] at h
    have h := List.cons.inj h
    rw [Sm.d_inj s s' h.1, Sm.ds_inj r r' h.2]
end
theorem PErr.one {d e e' : PyData} (h : PErr d e) (g : PErr d e') : e = e' := by
  cases h with
  | prog h => 
    cases g with
    | prog _ => rfl
    | ord h2 => cases h
    | bnd h2 => cases h
  | ord h1 =>
    generalize eD : PyData.tuple _ = D at g
    cases g with
    | prog h => subst eD; cases h
    | ord h2 => cases eD; rw [h1] at h2; cases h2; rfl
    | bnd h2 => cases eD; rw [h1] at h2; cases h2
  | bnd h1 =>
    generalize eD : PyData.tuple _ = D at g
    cases g with
    | prog h => subst eD; cases h
    | ord h2 => cases eD; rw [h1] at h2; cases h2
    | bnd h2 => rw [Sm.ds_inj _ _ (PyData.tuple.inj eD)]
/-- right statements, all through -/
inductive VS : Sm → Prop
  | mk {s : Sm} : stmtB s.d = true → (∀ s' ∈ s.inn, VS s') → VS s
def VD (d : PyData) : Prop := ∃ s : Sm, d = s.d ∧ VS s
theorem VD.items {d e : PyData} (h : VD d) (m : e ∈ bitems d) : VD e := by
  obtain ⟨s, rfl, h⟩ := h
  cases h with
  | mk _ h2 =>
    rw [Sm.bitems_inn, Sm.ds_map] at m
    obtain ⟨s', hs, rfl⟩ := List.mem_map.mp m
    exact ⟨s', rfl, h2 s' hs⟩
/-! ### programs near the bounds -/
structure Gb (b : List Sm) (n : Nat) : Prop where
  ok : Sm.oks b
  vs : ∀ s ∈ b, VS s
  pl : Sm.pls b ≤ n
theorem Gb.nil : Gb [] 0 := ⟨by simp only [Sm.oks], (fun s h => nomatch h), by simp only [Sm.pls]; exact Nat.le_refl _⟩
theorem Gb.mono {b : List Sm} {n m : Nat} (g : Gb b n) (h : n ≤ m) : Gb b m := ⟨g.ok, g.vs, Nat.le_trans g.pl h⟩
theorem Gb.app {a b : List Sm} {n m : Nat} (g : Gb a n) (h : Gb b m) : Gb (a ++ b) (n + m) := by
  refine ⟨Sm.oks_app g.ok h.ok, fun s hs => ?_, by rw [Sm.pls_app]; exact Nat.add_le_add g.pl h.pl⟩
  rcases List.mem_append.mp hs with z | z
  · exact g.vs s z
  · exact h.vs s z
theorem Gb.one {s : Sm} {n : Nat} (h : s.ok) (v : VS s) (p : s.pl ≤ n) : Gb [s] n := by
  refine ⟨by simp only [Sm.oks]; exact ⟨h, trivial⟩, fun s' hs => ?_, by simp only [Sm.pls]; omega⟩
  cases List.mem_singleton.mp hs
  exact v
theorem Gb.rep {s : Sm} {n : Nat} (g : Gb [s] n) : ∀ k : Nat, Gb (List.replicate k s) (k * n)
  | 0 => by rw [Nat.zero_mul]; exact Gb.nil
  | k + 1 => by
    have := g.app (g.rep k)
    rw [show (k + 1) * n = n + k * n by rw [Nat.succ_mul, Nat.add_comm]]
    exact this
/-! ### what the errors look like -/
theorem ordE_rng : ∀ (f : Nat) (l : List (Int × PyData)) (p q : Int) (w : Str), ordE f l p = some (q, w) → p ≤ q ∧ q ≤ p + (dszs (stk l) : Int) ∧ (w = "nest" ∨ w = "statement")
  | 0, l, p, q, w, h => by cases h
  | f + 1, [], p, q, w, h => by cases h
  | f + 1, (dep, d) :: r, p, q, w, h => by
    simp only [ordE] at h
    have e : dszs (stk ((dep, d) :: r)) = dsz d + dszs (stk r) := by
      show dszs (d :: stk r) = _
      simp only [dszs]
    split at h
    · cases h
      exact ⟨Int.le_refl _, by omega, .inl rfl⟩
    · split at h
      · have hb := bitems_sz d
        have e2 : dszs (stk (((bitems d).map fun e => (dep + 1, e)) ++ r)) = dszs (bitems d) + dszs (stk r) := by rw [stk_app, stk_bi, dszs_app]
        obtain ⟨h1, h2, h3⟩ := ordE_rng f _ _ q w h
        exact ⟨by omega, by omega, h3⟩
      · cases h
        exact ⟨Int.le_refl _, by omega, .inr rfl⟩
theorem err_shw {x : PyData} {w : Str} (hx : x = .none ∨ ∃ i : Int, x = .int i ∧ kOk (BM - 1) (.inl i)) (hw : PyData.strOk w = true ∧ w.length ≤ 20) : Shw (.tuple [x, .str w]) := by
  have w1 : (PyData.str w).showable = true := kD_showable (k := .inr w) hw
  have w2 : (PyData.str w).leavesShort 241 = true := kD_short (k := .inr w) hw
  have w3 : (PyData.str w).weight ≤ 1000 := kD_weight (k := .inr w) hw
  have x1 : x.showable = true ∧ x.leavesShort 241 = true ∧ x.weight ≤ 1000 ∧ x.depth = 0 := by
    rcases hx with rfl | ⟨i, rfl, hi⟩
    · exact ⟨by simp only [PyData.showable], by simp only [PyData.leavesShort], by simp only [PyData.weight]; decide, by simp only [PyData.depth]⟩
    · exact ⟨kD_showable (k := .inl i) hi, kD_short (k := .inl i) hi, kD_weight (k := .inl i) hi, by simp only [PyData.depth]⟩
  refine shw_of (W := 4000) ?_ ?_ ?_ (by decide) ?_
  · rw [PyData.showable, PyData.showableAll, PyData.showableAll, PyData.showableAll, x1.1, w1]
    rfl
  · rw [PyData.leavesShort, PyData.leavesShortAll, PyData.leavesShortAll, PyData.leavesShortAll, x1.2.1, w2]
    rfl
  · rw [PyData.weight, PyData.weightAll, PyData.weightAll, PyData.weightAll]
    omega
  · rw [PyData.depth, PyData.depthAll, PyData.depthAll, PyData.depthAll, x1.2.2.2]
    simp [PyData.depth]
theorem none_shw : Shw .none := ⟨by decide +kernel, by decide +kernel, by decide +kernel⟩
theorem big_int {i : Int} (h1 : 0 ≤ i) (h2 : i ≤ 1000001) : kOk (BM - 1) (.inl i) := by
  show i.natAbs ≤ BM - 1
  have c : (1000001 : Int) ≤ ((BM - 1 : Nat) : Int) := by decide +kernel
  generalize BM - 1 = M at c ⊢
  omega
theorem PErr.shw {d e : PyData} (h : PErr d e) (hz : dsz d ≤ 1000000) : Shw e := by
  cases h with
  | prog h => exact err_shw (.inl rfl) ⟨by decide +kernel, by decide +kernel⟩
  | @ord ds p w h =>
    have hz : 1 + dszs ds ≤ 1000000 := by simpa only [dsz] using hz
    obtain ⟨h1, h2, h3⟩ := ordE_rng _ _ _ _ _ h
    rw [stk_bi] at h2
    refine err_shw (.inr ⟨p, rfl, big_int h1 (by omega)⟩) ?_
    rcases h3 with rfl | rfl <;> exact ⟨by decide +kernel, by decide +kernel⟩
  | @bnd b h =>
    have hw : ∀ w, bndErr b = some w → PyData.strOk w = true ∧ w.length ≤ 20 := by
      intro w hw
      unfold bndErr at hw
      split at hw
      · cases hw; exact ⟨by decide +kernel, by decide +kernel⟩
      · split at hw
        · cases hw; exact ⟨by decide +kernel, by decide +kernel⟩
        · split at hw
          · cases hw; exact ⟨by decide +kernel, by decide +kernel⟩
          · split at hw
            · cases hw; exact ⟨by decide +kernel, by decide +kernel⟩
            · cases hw
    cases hb : bndErr b with
    | none => exact none_shw
    | some w => exact err_shw (.inl rfl) (hw w hb)
theorem PErr.right {d : PyData} (h : PErr d .none) : ∃ b, d = .tuple (Sm.ds b) ∧ Sm.oks b ∧ Sm.nests b ≤ 4 ∧ Sm.pls b ≤ 24 ∧ Sm.wts b ≤ 60 := by
  generalize eN : PyData.none = e at h
  cases h with
  | prog h => cases eN
  | ord h => cases eN
  | @bnd b h =>
    obtain ⟨b', eb, ok', ns'⟩ := ordErr_none h
    cases Sm.ds_inj _ _ eb
    refine ⟨b, rfl, ok', ns', ?_⟩
    unfold bndErr at eN
    by_cases h1 : 24 < Sm.pls b
    · rw [if_pos h1] at eN; cases eN
    · rw [if_neg h1] at eN
      by_cases h2 : 60 < Sm.wts b
      · rw [if_pos h2] at eN; cases eN
      · omega
end EH
namespace EH
open PySem PySem.Spec PyProof.Rows L2 LamX
/-! ### lambdas that are made, kept, and called later -/
def LamO (f : Addr) (o : Obj) : HO := .ext fun h => h.get? f = some o
def CellO (c : Addr) (v : V) : HO := .ext fun h => ∃ u, RelV v u ∧ h.IsCell c (some u)
structure LamC where
  q : Str
  params : Arguments
  body : Expr
  scope : Scope
  clo : List (Str × Addr)
  pm : Value
  c' : Addr
  ctv : Value
def LamC.obj (L : LamC) : Obj := PySem.W.kla_obj "<lambda>" L.q L.params L.body L.scope L.clo L.pm L.c' L.ctv
structure LamH (H : Hp) (f : Addr) (L : LamC) (fv : Str → Option V) : Prop where
  fn : H f = some (LamO f L.obj)
  code : H L.c' = some (CodeO L.c' L.q)
  cell : ∀ y c, L.clo.lookup y = some c → ∃ v, fv y = some v ∧ H c = some (CellO c v)
  dis : ∀ x y c, L.clo.lookup x = some c → L.clo.lookup y = some c → x = y
theorem LamH.kp {S : List Addr} {H H' : Hp} {f : Addr} {L : LamC} {fv : Str → Option V} (l : LamH H f L fv) (k : Kp S H H') : LamH H' f L fv := by
  refine ⟨k.ext _ _ l.fn, k.ext _ _ l.code, fun y c e => ?_, l.dis⟩
  obtain ⟨v, e1, e2⟩ := l.cell y c e
  exact ⟨v, e1, k.ext _ _ e2⟩
/-- a lambda's names: parameters, then captured ones -/
structure LamSc (N ps frees : List Str) (sc : Scope) : Prop where
  kind : sc.kind = .function
  co : sc.isCoroutine = false
  gen : sc.isGenerator = false
  nd : N.Nodup
  all : N = ps ++ frees
  par : ∀ x ∈ ps, sc.names.lookup x = some .local
  fre : ∀ x ∈ frees, sc.names.lookup x = some .free
  nocell : ∀ y ∈ sc.names, y.2 ≠ .cell
section
variable {P : Program} {w : World} {K : PySem.W.Frag} {mg : Str → Option Value} {base : Heap}
end
/-! ### a lambda is made and kept -/
section
variable {X : Cx}
end
/-! ### a def that returns a lambda: its cells are known from then on -/
section
variable {P : Program} {w : World} {K : PySem.W.Frag} {mg : Str → Option Value} {base : Heap}
end
/-! ### a kept lambda is called -/
structure LamOk (P : Program) (w : World) (K : PySem.W.Frag) (mg : Str → Option Value) (base : Heap) (k : Nat) (L : LamC) (fv : Str → Option V) (sp : Sp) : Prop where
  run : ∀ (A : Around) (outer : List Env) (s : Shared) (H : Hp) (f : Addr) (us : List Value) (vs : List V) (Q : VK) (E : XK), Room k A → Env0 P w K mg base A outer s H → LamH H f L fv → Vals vs us → sp vs H Q E → codeAny (model P w) A (.call (.ref f) ⟨us, []⟩) (CR CX0 outer P w H s Q E) s
section
variable {X : Cx}
end
/-! ### a dict's display, its new heaps by letters -/
section
variable {X : Cx}
end
/-! ### the law's own walk: a world of names, items, turns, and a function that chooses -/
structure Wad where
  x : Addr
  nd : Addr
  sd : Addr
  td : Addr
  f : Addr
def wkvs (a : Wad) : List (Key × V) := [(Sum.inr "names", .ref a.nd), (Sum.inr "items", .ref a.sd), (Sum.inr "turns", .ref a.td), (Sum.inr "choose", .ref a.f)]
structure WAt (CP : Hp → Addr → Prop) (ow : List Addr) (H : Hp) (a : Wad) (n : Nat) (s : Cs) : Prop where
  ob : H a.x = some (.dK (wkvs a))
  nm : ∃ kvs, H a.nd = some (.dK kvs) ∧ EnvRel kvs s.env ∧ kvs.length ≤ n + 1
  sa : H a.sd = some (.lst (s.said.map kV))
  tu : H a.td = some (.lst (s.turns.map V.int))
  ch : CP H a.f
  ls : s.said.length ≤ n
  lt : s.turns.length ≤ n
  ne1 : a.nd ≠ a.x
  ne2 : a.sd ≠ a.td
  dis : ∀ x ∈ [a.nd, a.sd, a.td], x ∉ ow
section
variable {CP : Hp → Addr → Prop} {ow : List Addr} {H H1 : Hp} {a : Wad} {n m : Nat} {s : Cs}
theorem WAt.g1 (c : WAt CP ow H a n s) : DGet H a.x (.str "names") (some (.ref a.nd)) := DGet.k (k := Sum.inr "names") c.ob
theorem WAt.g2 (c : WAt CP ow H a n s) : DGet H a.x (.str "items") (some (.ref a.sd)) := DGet.k (k := Sum.inr "items") c.ob
theorem WAt.g3 (c : WAt CP ow H a n s) : DGet H a.x (.str "turns") (some (.ref a.td)) := DGet.k (k := Sum.inr "turns") c.ob
theorem WAt.mono (c : WAt CP ow H a n s) (h : n ≤ m) : WAt CP ow H a m s := by
  obtain ⟨kvs, h1, h2, h3⟩ := c.nm
  have := c.ls
  have := c.lt
  exact ⟨c.ob, ⟨kvs, h1, h2, by omega⟩, c.sa, c.tu, c.ch, by omega, by omega, c.ne1, c.ne2, c.dis⟩
theorem WAt.kp0 (kp : ∀ S H H' f, CP H f → Kp S H H' → (∀ x ∈ S, x ∉ ow) → CP H' f) (c : WAt CP ow H a n s) (k : Kp [] H H1) : WAt CP ow H1 a n s := by
  obtain ⟨kvs, h1, h2, h3⟩ := c.nm
  exact ⟨k.at c.ob, ⟨kvs, k.at h1, h2, h3⟩, k.at c.sa, k.at c.tu, kp _ _ _ _ c.ch k (fun _ z => nomatch z), c.ls, c.lt, c.ne1, c.ne2, c.dis⟩
theorem WAt.put {kvs : List (Key × V)} {x : Str} {v : Int} (kp : ∀ S H H' f, CP H f → Kp S H H' → (∀ x ∈ S, x ∉ ow) → CP H' f) (c : WAt CP ow H a n s) (hk : H a.nd = some (.dK kvs)) (he : EnvRel kvs s.env)
    (hl : kvs.length ≤ n + 1) (e : H1 = upd H a.nd (.dK (putK kvs (Sum.inr x) (.int v)))) : WAt CP ow H1 a (n + 1) { s with env := setE s.env x v } ∧ Kp [a.nd, a.sd, a.td] H H1 := by
  have k : Kp [a.nd] H H1 := by rw [e]; exact Kp.put hk (fun _ z => by cases z)
  have l2 := length_putK kvs (Sum.inr x : Key) (V.int v)
  have := c.ls
  have := c.lt
  refine ⟨⟨k.keep _ _ c.ob (EH.ne1 c.ne1.symm), ⟨_, by rw [e]; exact upd_same, he.put x v, by omega⟩, k.keep _ _ c.sa (EH.ne1 (ne_of c.sa hk (fun z => by cases z))), k.keep _ _ c.tu (EH.ne1 (ne_of c.tu hk (fun z => by cases z))),
    kp _ _ _ _ c.ch k (fun x hx => c.dis x (by cases List.mem_singleton.mp hx; simp)), by show s.said.length ≤ _; omega, by show s.turns.length ≤ _; omega, c.ne1, c.ne2, c.dis⟩, k.sub (by simp)⟩
theorem WAt.say {v : Key} (kp : ∀ S H H' f, CP H f → Kp S H H' → (∀ x ∈ S, x ∉ ow) → CP H' f) (c : WAt CP ow H a n s) (h1 : H1 a.sd = some (.lst (s.said.map kV ++ [kV v]))) (k : Kp [a.sd] H H1) :
    WAt CP ow H1 a (n + 1) { s with said := s.said ++ [v] } ∧ Kp [a.nd, a.sd, a.td] H H1 := by
  obtain ⟨kvs, g1, g2, g3⟩ := c.nm
  have := c.ls
  have := c.lt
  refine ⟨⟨k.keep _ _ c.ob (EH.ne1 (ne_of c.ob c.sa (fun z => by cases z))), ⟨kvs, k.keep _ _ g1 (EH.ne1 (ne_of g1 c.sa (fun z => by cases z))), g2, by omega⟩, by rw [h1, List.map_append]; rfl, k.keep _ _ c.tu (EH.ne1 c.ne2.symm),
    kp _ _ _ _ c.ch k (fun x hx => c.dis x (by cases List.mem_singleton.mp hx; simp)), by show (s.said ++ [v]).length ≤ _; rw [List.length_append, List.length_singleton]; omega, by show s.turns.length ≤ _; omega, c.ne1, c.ne2, c.dis⟩, k.sub (by simp)⟩
theorem WAt.turn {v : Int} (kp : ∀ S H H' f, CP H f → Kp S H H' → (∀ x ∈ S, x ∉ ow) → CP H' f) (c : WAt CP ow H a n s) (h1 : H1 a.td = some (.lst (s.turns.map V.int ++ [.int v]))) (k : Kp [a.td] H H1) :
    WAt CP ow H1 a (n + 1) { s with turns := s.turns ++ [v] } ∧ Kp [a.nd, a.sd, a.td] H H1 := by
  obtain ⟨kvs, g1, g2, g3⟩ := c.nm
  have := c.ls
  have := c.lt
  refine ⟨⟨k.keep _ _ c.ob (EH.ne1 (ne_of c.ob c.tu (fun z => by cases z))), ⟨kvs, k.keep _ _ g1 (EH.ne1 (ne_of g1 c.tu (fun z => by cases z))), g2, by omega⟩, k.keep _ _ c.sa (EH.ne1 c.ne2), by rw [h1, List.map_append]; rfl,
    kp _ _ _ _ c.ch k (fun x hx => c.dis x (by cases List.mem_singleton.mp hx; simp)), by show s.said.length ≤ _; omega, by show (s.turns ++ [v]).length ≤ _; rw [List.length_append, List.length_singleton]; omega, c.ne1, c.ne2, c.dis⟩, k.sub (by simp)⟩
end
theorem WAt.off {CP : Hp → Addr → Prop} {ow : List Addr} {H : Hp} {a : Wad} {n : Nat} {s : Cs} {l : Addr} (c : WAt CP ow H a n s) (h : H l = none) : l ∉ [a.nd, a.sd, a.td] := by
  obtain ⟨kvs, g1, _⟩ := c.nm
  simp [(ne_of_none g1 h).symm, (ne_of_none c.sa h).symm, (ne_of_none c.tu h).symm]
/-- a function that chooses, called by value, place and the number of the turn -/
structure Chooser (P : Program) (w : World) (K : PySem.W.Frag) (mg : Str → Option Value) (base : Heap) (k : Nat) (LS : LamC → Prop) (sp : (Str → Option V) → Sp) (CP : Hp → Addr → Prop) (ow : List Addr) (dec : Nat → Int → Int → Int) : Prop where
  F : ∀ L fv, LS L → LamOk P w K mg base k L fv (sp fv)
  kp : ∀ S H H' f, CP H f → Kp S H H' → (∀ x ∈ S, x ∉ ow) → CP H' f
  fr : ∀ H f, CP H f → ∀ x ∈ ow, H x ≠ none
  atF : ∀ H f, CP H f → ∃ L fv, LS L ∧ LamH H f L fv ∧ ∀ (v p : Int) (n : Nat) (Q : VK), (∀ H', Kp [] H H' → Q (.int (dec n v p)) H') → sp fv [.int v, .int p, .int n] H Q fun _ _ _ => False
end EH
namespace EH
open PySem L2
/-! ### all runs on a number by sixteen choices, sorted by their turns -/
section
variable {ways : Int → Option Int} {b : List Sm} {n : Int}
theorem Chn.same : ∀ (m : Nat) {Rs Rs' : List (Option Str × Cs)} {c c' : Option (List Int)}, Rs.length = m → Rs'.length = m → Chn ways b n Rs c → Chn ways b n Rs' c' → Rs = Rs' ∧ c = c'
  | 0, Rs, Rs', c, c', h1, h2, a, e => by
    cases a with
    | nil =>
      cases e with
      | nil => exact ⟨rfl, rfl⟩
      | snoc e => simp at h2
    | snoc a => simp at h1
  | m + 1, Rs, Rs', c, c', h1, h2, a, e => by
    cases a with
    | nil => simp at h1
    | snoc a =>
      cases e with
      | nil => simp at h2
      | snoc e =>
        rw [List.length_append] at h1 h2
        obtain ⟨z1, z2⟩ := Chn.same m (by simpa using h1) (by simpa using h2) a e
        cases z2
        subst z1
        exact ⟨rfl, rfl⟩
end
/-- a sorted list is the strictly rising one with the same items -/
theorem sorted_eq {α : Type} {lt : α → α → Bool} : ∀ {m l : List α}, l.Perm m → l.Pairwise (fun a b => lt b a = false) → m.Pairwise (fun a b => lt a b = true) → l = m
  | [], l, p, _, _ => p.eq_nil
  | a :: m, [], p, _, _ => absurd p.length_eq (by simp)
  | a :: m, x :: l, p, hs, hm => by
    have hs' := List.pairwise_cons.mp hs
    have hm' := List.pairwise_cons.mp hm
    have e : x = a := by
      have h1 : a ∈ x :: l := p.mem_iff.mpr List.mem_cons_self
      have h2 : x ∈ a :: m := p.mem_iff.mp List.mem_cons_self
      rcases List.mem_cons.mp h1 with z | z
      · exact z.symm
      · rcases List.mem_cons.mp h2 with y | y
        · exact y
        · have a1 := hs'.1 a z
          have a2 := hm'.1 x y
          rw [a1] at a2
          cases a2
    subst e
    rw [sorted_eq (List.perm_cons x |>.mp p) hs'.2 hm'.2]
def bits (j : Nat) : List Int := [(j : Int) / 8, (j : Int) / 4 % 2, (j : Int) / 2 % 2, (j : Int) % 2]
theorem bits_ok {j : Nat} (h : j < 16) : ty01 (bits j) ∧ (bits j).length = 4 := by
  refine ⟨?_, rfl⟩
  intro i hi
  simp only [bits, List.mem_cons, List.not_mem_nil, or_false] at hi
  rcases hi with rfl | rfl | rfl | rfl <;> omega
theorem bits_all {v : List Int} (h : ty01 v) (l : v.length = 4) : ∃ j, j < 16 ∧ bits j = v := by
  match v, l with
  | [x, y, z, w], _ =>
    have hx := h x (by simp)
    have hy := h y (by simp)
    have hz := h z (by simp)
    have hw := h w (by simp)
    refine ⟨(8 * x + 4 * y + 2 * z + w).toNat, by omega, ?_⟩
    simp only [bits]
    rw [show (((8 * x + 4 * y + 2 * z + w).toNat : Nat) : Int) = 8 * x + 4 * y + 2 * z + w by omega]
    congr 1
    · omega
    · congr 1
      · omega
      · congr 1
        · omega
        · congr 1
          omega
def tkey (R : Option Str × Cs) : List Key := R.2.turns.map Sum.inl
theorem tkey_inj {R S : Option Str × Cs} (h : tkey R = tkey S) : R.2.turns = S.2.turns := by
  unfold tkey at h
  exact List.map_inj_right (fun a b e => Sum.inl.inj e) |>.mp h
theorem keyD_tkey (R : Option Str × Cs) : keyD (tkey R) = .tuple (R.2.turns.map PyData.int) := by
  unfold keyD tkey
  rw [List.map_map]
  rfl
theorem ahd_lt : ∀ {t u : List Int}, Ahd t u → PySem.W.rowLt (t.map .int) (u.map .int) = true := by
  intro t u h
  rw [PySem.W.dataLt_ints]
  refine decide_eq_true ?_
  induction h with
  | lt => exact List.cons_lt_cons_iff.mpr (.inl (by decide))
  | eq h ih => exact List.cons_lt_cons_iff.mpr (.inr ⟨rfl, ih⟩)
section
variable {ways : Int → Option Int} {b : List Sm} {n : Int}
theorem chn_mem {Rs : List (Option Str × Cs)} (o : Sm.oks b) (hv : Sm.hvs b ≤ 4) (h : Chn ways b n Rs none) (R : Option Str × Cs) : R ∈ Rs ↔ ∃ j, j < 16 ∧ R = rn ways b n (bits j) := by
  have ok := h.ok (k := 4) o hv
  constructor
  · intro hR
    obtain ⟨e, t01, tl, _⟩ := ok.self R hR
    have l4 : (tk R.2.turns 4).length = 4 := tk_len _ _
    obtain ⟨j, hj, eb⟩ := bits_all (tk_01 t01 4) l4
    refine ⟨j, hj, ?_⟩
    rw [eb]
    have e2 : rn ways b n (tk R.2.turns 4) = rn ways b n R.2.turns := by
      refine runs_same (c1 := R.2.turns) (c2 := tk R.2.turns 4) (ways := ways) b o 0 n fun i hi => ?_
      have : i < 4 := Nat.lt_of_lt_of_le hi (rn_len o hv _)
      exact (tk_getD this).symm
    rw [e2, e]
  · rintro ⟨j, hj, rfl⟩
    obtain ⟨b1, b2⟩ := bits_ok hj
    refine ok.all _ b2 b1 ?_
    have := wl_rng b1 (Nat.le_of_eq b2)
    have := pw_pos 4 (bits j)
    show wl 4 (bits j) < (2 : Int) ^ 4
    omega
/-- what the dict holds: each run once, by its turns -/
structure AllAt (ways : Int → Option Int) (b : List Sm) (n : Int) (H : Hp) (kvs : List (List Key × V)) (Ss : List (Option Str × Cs)) (i : Nat) : Prop where
  keys : kvs.map (·.1) = Ss.map tkey
  nd : (Ss.map tkey).Nodup
  val : ∀ R ∈ Ss, ∃ v, valV kvs (tkey R) = some v ∧ Tr H (runD R) v
  from_ : ∀ R ∈ Ss, ∃ j, j < 16 ∧ R = rn ways b n (bits j)
  all : ∀ j, j < i → rn ways b n (bits j) ∈ Ss
theorem AllAt.kp {H H' : Hp} {S : List Addr} {kvs : List (List Key × V)} {Ss : List (Option Str × Cs)} {i : Nat} (h : AllAt ways b n H kvs Ss i) (k : Kp S H H') : AllAt ways b n H' kvs Ss i :=
  ⟨h.keys, h.nd, fun R hR => let ⟨v, e, t⟩ := h.val R hR; ⟨v, e, k.tr t⟩, h.from_, h.all⟩
theorem AllAt.put {H : Hp} {kvs : List (List Key × V)} {Ss : List (Option Str × Cs)} {i : Nat} {v : V} (o : Sm.oks b) (hi : i < 16) (h : AllAt ways b n H kvs Ss i) (t : Tr H (runD (rn ways b n (bits i))) v) :
    ∃ Ss', AllAt ways b n H (putK kvs (tkey (rn ways b n (bits i))) v) Ss' (i + 1) := by
  have self : ∀ R, (∃ j, j < 16 ∧ R = rn ways b n (bits j)) → rn ways b n R.2.turns = R := by
    rintro R ⟨j, hj, rfl⟩
    exact rn_self o _
  generalize hR : rn ways b n (bits i) = R at t
  have fR : ∃ j, j < 16 ∧ R = rn ways b n (bits j) := ⟨i, hi, hR.symm⟩
  have one : ∀ S ∈ Ss, tkey S = tkey R → S = R := fun S hS e => by
    rw [← self S (h.from_ S hS), ← self R fR, tkey_inj e]
  by_cases hm : R ∈ Ss
  · refine ⟨Ss, ?_, h.nd, fun S hS => ?_, h.from_, fun j hj => ?_⟩
    · have hk : (kvs.any fun kv => decide (kv.1 = tkey R)) = true := by
        have : tkey R ∈ kvs.map (·.1) := by rw [h.keys]; exact List.mem_map.mpr ⟨R, hm, rfl⟩
        obtain ⟨p, hp, e⟩ := List.mem_map.mp this
        exact List.any_eq_true.mpr ⟨p, hp, decide_eq_true e⟩
      unfold putK
      rw [if_pos hk, List.map_map, ← h.keys]
      refine List.map_congr_left fun p _ => ?_
      show (if p.1 = tkey R then (p.1, v) else p).1 = p.1
      split <;> rfl
    · rw [valV_put]
      by_cases e : tkey S = tkey R
      · rw [if_pos e, one S hS e]
        exact ⟨v, rfl, t⟩
      · rw [if_neg e]
        exact h.val S hS
    · by_cases z : j = i
      · subst z; rw [hR]; exact hm
      · exact h.all j (by omega)
  · have nk : tkey R ∉ Ss.map tkey := fun z => by
      obtain ⟨S, hS, e⟩ := List.mem_map.mp z
      exact hm (one S hS e ▸ hS)
    have hk : ¬ (kvs.any fun kv => decide (kv.1 = tkey R)) = true := by
      intro z
      obtain ⟨p, hp, e⟩ := List.any_eq_true.mp z
      exact nk (by rw [← h.keys]; exact List.mem_map.mpr ⟨p, hp, of_decide_eq_true e⟩)
    refine ⟨Ss ++ [R], ?_, ?_, fun S hS => ?_, fun S hS => ?_, fun j hj => ?_⟩
    · unfold putK
      rw [if_neg hk, List.map_append, List.map_append, h.keys]
      rfl
    · rw [List.map_append]
      refine List.nodup_append.mpr ⟨h.nd, by simp, ?_⟩
      intro x hx y hy e
      subst e
      have : x = tkey R := by simpa using hy
      exact nk (this ▸ hx)
    · rw [valV_put]
      rcases List.mem_append.mp hS with z | z
      · by_cases e : tkey S = tkey R
        · exact absurd (one S z e ▸ z) hm
        · rw [if_neg e]
          exact h.val S z
      · cases List.mem_singleton.mp z
        rw [if_pos rfl]
        exact ⟨v, rfl, t⟩
    · rcases List.mem_append.mp hS with z | z
      · exact h.from_ S z
      · cases List.mem_singleton.mp z
        exact fR
    · by_cases z : j = i
      · subst z; rw [hR]; simp
      · exact List.mem_append_left _ (h.all j (by omega))
theorem AllAt.sorted {H : Hp} {kvs : List (List Key × V)} {Ss Rs : List (Option Str × Cs)} (o : Sm.oks b) (hv : Sm.hvs b ≤ 4) (c : Chn ways b n Rs none) (h : AllAt ways b n H kvs Ss 16) :
    PySem.W.AllAlike (kvs.map fun p => keyD p.1) ∧ Srt (kvs.map fun p => keyD p.1) ∧ (kvs.map fun p => keyD p.1).mergeSort (PySem.W.dataLe false id) = Rs.map (fun R => .tuple (R.2.turns.map PyData.int)) ∧ (∀ R ∈ Rs, ∃ v, valV kvs (tkey R) = some v ∧ Tr H (runD R) v) ∧ kvs.length ≤ 16 := by
  have ok := c.ok (k := 4) o hv
  have ek : (kvs.map fun p => keyD p.1) = Ss.map fun R => .tuple (R.2.turns.map PyData.int) := by
    have : (kvs.map fun p => keyD p.1) = (kvs.map (·.1)).map keyD := by rw [List.map_map]; rfl
    rw [this, h.keys, List.map_map]
    exact List.map_congr_left fun R _ => keyD_tkey R
  have mem : ∀ R, R ∈ Ss ↔ R ∈ Rs := fun R => by
    rw [chn_mem o hv c]
    exact ⟨h.from_ R, fun ⟨j, hj, e⟩ => e ▸ h.all j hj⟩
  have strict : (Rs.map fun R => PyData.tuple (R.2.turns.map PyData.int)).Pairwise (fun a b => PySem.W.dataLt a b = true) := by
    rw [List.pairwise_map]
    refine ok.ord.imp fun hA => ?_
    rw [PySem.W.dataLt_tuple]
    exact ahd_lt hA
  have ndS : Ss.Nodup := (List.pairwise_map.mp h.nd).imp fun hne e => hne (by rw [e])
  have ndR : Rs.Nodup := by
    refine ok.ord.imp fun hA e => ?_
    subst e
    have := ahd_lt hA
    rw [PySem.W.dataLt_ints, decide_eq_true_eq] at this
    exact absurd this (List.lt_irrefl _)
  have perm : Ss.Perm Rs := (List.perm_ext_iff_of_nodup ndS ndR).mpr mem
  have lenR := c.len o (Nat.le_trans hv (by decide))
  have lenR16 : Rs.length ≤ 16 := by
    have := ok.len o hv
    have e : (2 : Int) ^ 4 = 16 := by decide
    omega
  refine ⟨?_, ?_, ?_, fun R hR => h.val R ((mem R).mpr hR), ?_⟩
  · rw [ek]
    refine PySem.W.AllAlike.of fun R S => ?_
    show PySem.W.alike (.tuple _) (.tuple _) = true
    simp only [PySem.W.alike]
    exact PySem.W.alike_ints _ _
  · rw [ek]
    by_cases z : ∃ R ∈ Rs, R.2.turns = []
    · obtain ⟨R, hR, e⟩ := z
      refine .inr ⟨?_, fun d hd => ?_⟩
      · have s := ok.sum
        have hp : pw 4 R.2.turns = 16 := by rw [e]; decide
        have tt : topO 4 none = 16 := by decide
        rw [tt] at s
        rw [List.length_map, perm.length_eq]
        obtain ⟨A, B, rfl⟩ := List.append_of_mem hR
        rw [List.map_append, List.map_cons, List.sum_append, List.sum_cons, hp] at s
        have sA := sum_ge (k := 4) (Rs := A)
        have sB := sum_ge (k := 4) (Rs := B)
        rw [List.length_append, List.length_cons]
        omega
      · obtain ⟨S, _, rfl⟩ := List.mem_map.mp hd
        exact fun z => by cases z
    · refine .inl (.inl fun d hd => ?_)
      obtain ⟨S, hS, rfl⟩ := List.mem_map.mp hd
      have := fun e => z ⟨S, (mem S).mp hS, e⟩
      cases e : S.2.turns with
      | nil => exact absurd e this
      | cons x r => exact ⟨_, _, rfl⟩
  · rw [ek]
    refine sorted_eq (lt := PySem.W.dataLt) ((List.mergeSort_perm _ _).trans (perm.map _)) ?_ strict
    have := PySem.W.sort_pairwise (PySem.W.sortLe_total (PyProof.Rows.listOrd PyProof.Rows.itemOrd) false fun d : PyData => PySem.W.keyToks (id d)) (Ss.map fun R => PyData.tuple (R.2.turns.map PyData.int))
    refine List.Pairwise.imp (fun {x y} hxy => ?_) this
    have hxy : (!PySem.W.dataLt y x) = true := hxy
    cases e : PySem.W.dataLt y x with
    | false => rfl
    | true => rw [e] at hxy; cases hxy
  · have := congrArg List.length h.keys
    rw [List.length_map, List.length_map, perm.length_eq] at this
    omega
end
section
variable {X : Cx} {pos : Pos}
end
/-! ### rows of runs can be shown -/
structure Bk (d : PyData) (B D : Nat) : Prop where
  sh : d.showable = true
  ls : d.leavesShort 241 = true
  bk : d.bulk ≤ B
  dp : d.depth ≤ D
structure Bks (ds : List PyData) (B D : Nat) : Prop where
  sh : PyData.showableAll ds = true
  ls : PyData.leavesShortAll 241 ds = true
  bk : PyData.bulkAll ds ≤ B
  dp : PyData.depthAll ds ≤ D
theorem Bk.mono {d : PyData} {W D W' D' : Nat} (h : Bk d W D) (a : W ≤ W') (b : D ≤ D') : Bk d W' D' := ⟨h.sh, h.ls, Nat.le_trans h.bk a, Nat.le_trans h.dp b⟩
theorem Bks.mono {d : List PyData} {W D W' D' : Nat} (h : Bks d W D) (a : W ≤ W') (b : D ≤ D') : Bks d W' D' := ⟨h.sh, h.ls, Nat.le_trans h.bk a, Nat.le_trans h.dp b⟩
theorem bks_nil : Bks [] 0 0 := ⟨by simp only [PyData.showableAll], by simp only [PyData.leavesShortAll], by simp only [PyData.bulkAll]; exact Nat.le_refl _, by simp only [PyData.depthAll]; exact Nat.le_refl _⟩
theorem bks_cons {d : PyData} {ds : List PyData} {W D W' : Nat} (h : Bk d W D) (t : Bks ds W' D) : Bks (d :: ds) (W + 1 + W') D := by
  obtain ⟨h1, h2, h3, h4⟩ := h
  obtain ⟨t1, t2, t3, t4⟩ := t
  refine ⟨by simp only [PyData.showableAll, h1, t1]; rfl, by simp only [PyData.leavesShortAll, h2, t2]; rfl, ?_, ?_⟩
  · simp only [PyData.bulkAll]; omega
  · simp only [PyData.depthAll]; omega
theorem bk_tup {ds : List PyData} {W D : Nat} (t : Bks ds W D) : Bk (.tuple ds) W (D + 1) := by
  obtain ⟨t1, t2, t3, t4⟩ := t
  refine ⟨by simp only [PyData.showable, t1], by simp only [PyData.leavesShort, t2], ?_, ?_⟩
  · simp only [PyData.bulk]; omega
  · simp only [PyData.depth]; omega
theorem Bk.shw {d : PyData} {W D : Nat} (h : Bk d W D) (hw : W ≤ 65000) (hd : D ≤ 60) : Shw d := by
  refine ⟨h.sh, Nat.le_trans (PyData.shown_le_bulk 241 (by decide) d h.ls) ?_, Nat.le_trans h.dp hd⟩
  have := h.bk
  have : (243 : Nat) * d.bulk + 241 ≤ 16777216 := by omega
  exact Nat.le_trans this (by decide +kernel)
end EH
namespace EH
open PySem PySem.Spec L2
/-! ### values of all kinds: as Tr, with lists and dicts that nothing changes any more -/
def kvD (ks : List (Str × Int)) : List (PyData × PyData) := ks.map fun p => (.str p.1, .int p.2)
def kvK (ks : List (Str × Int)) : List (Key × V) := ks.map fun p => (.inr p.1, .int p.2)
mutual
def Tq (H : Hp) : PyData → V → Prop
  | .none, v => v = .non
  | .bool b, v => v = .bl b
  | .int i, v => v = .int i
  | .str x, v => v = .str x
  | .tuple ds, v => ∃ a xs, v = .ref a ∧ H a = some (.tup xs) ∧ TqAll H ds xs
  | .list ds, v => ∃ a o xs, v = .ref a ∧ (a == sysModules) = false ∧ H a = some (.frz o (.lst xs)) ∧ TqAll H ds xs
  | .dict kvs, v => ∃ a o ks, v = .ref a ∧ kvs = kvD ks ∧ H a = some (.frz o (.dK (kvK ks)))
def TqAll (H : Hp) : List PyData → List V → Prop
  | [], xs => xs = []
  | d :: ds, xs => ∃ v vs, xs = v :: vs ∧ Tq H d v ∧ TqAll H ds vs
end
/-- what such values lean on is kept -/
structure Kf (H H' : Hp) : Prop where
  tup : ∀ b xs, H b = some (.tup xs) → H' b = some (.tup xs)
  frz : ∀ b o u, H b = some (.frz o u) → H' b = some (.frz o u)
mutual
theorem Tq.mono {H H' : Hp} (k : Kf H H') : ∀ (d : PyData) (v : V), Tq H d v → Tq H' d v
  | .none, v, h => by simp only [Tq] at h ⊢; exact h
  | .bool b, v, h => by simp only [Tq] at h ⊢; exact h
  | .int i, v, h => by simp only [Tq] at h ⊢; exact h
  | .str x, v, h => by simp only [Tq] at h ⊢; exact h
  | .tuple ds, v, h => by
    simp only [Tq] at h ⊢
    obtain ⟨a, xs, e, h1, h2⟩ := h
    exact ⟨a, xs, e, k.tup a xs h1, TqAll.mono k ds xs h2⟩
  | .list ds, v, h => by
    simp only [Tq] at h ⊢
    obtain ⟨a, o, xs, e, n, h1, h2⟩ := h
    exact ⟨a, o, xs, e, n, k.frz a o _ h1, TqAll.mono k ds xs h2⟩
  | .dict kvs, v, h => by
    simp only [Tq] at h ⊢
    obtain ⟨a, o, ks, e, e2, h1⟩ := h
    exact ⟨a, o, ks, e, e2, k.frz a o _ h1⟩
theorem TqAll.mono {H H' : Hp} (k : Kf H H') : ∀ (ds : List PyData) (vs : List V), TqAll H ds vs → TqAll H' ds vs
  | [], vs, h => by simp only [TqAll] at h ⊢; exact h
  | d :: ds, vs, h => by
    simp only [TqAll] at h ⊢
    obtain ⟨v, r, e, h1, h2⟩ := h
    exact ⟨v, r, e, Tq.mono k d v h1, TqAll.mono k ds r h2⟩
end
theorem Kp.kf {S : List Addr} {H H' : Hp} (k : Kp S H H') : Kf H H' := ⟨k.tup, k.frz⟩
theorem Kp.tq {S : List Addr} {H H' : Hp} {d : PyData} {v : V} (k : Kp S H H') (h : Tq H d v) : Tq H' d v := Tq.mono k.kf d v h
theorem Kp.tqAll {S : List Addr} {H H' : Hp} {d : List PyData} {v : List V} (k : Kp S H H') (h : TqAll H d v) : TqAll H' d v := TqAll.mono k.kf d v h
/-! what is made of tuples alone -/
mutual
theorem Tr.tq {H : Hp} : ∀ {d : PyData} {v : V}, Tr H d v → Tq H d v
  | .none, v, h => by simp only [Tr] at h; simp only [Tq]; exact h
  | .bool b, v, h => by simp only [Tr] at h; simp only [Tq]; exact h
  | .int i, v, h => by simp only [Tr] at h; simp only [Tq]; exact h
  | .str x, v, h => by simp only [Tr] at h; simp only [Tq]; exact h
  | .tuple ds, v, h => by
    simp only [Tr] at h
    simp only [Tq]
    obtain ⟨a, xs, e, h1, h2⟩ := h
    exact ⟨a, xs, e, h1, TrAll.tq h2⟩
  | .list ds, v, h => by simp only [Tr] at h
  | .dict ds, v, h => by simp only [Tr] at h
theorem TrAll.tq {H : Hp} : ∀ {ds : List PyData} {vs : List V}, TrAll H ds vs → TqAll H ds vs
  | [], vs, h => by simp only [TrAll] at h; simp only [TqAll]; exact h
  | d :: ds, vs, h => by
    simp only [TrAll] at h
    simp only [TqAll]
    obtain ⟨v, r, e, h1, h2⟩ := h
    exact ⟨v, r, e, Tr.tq h1, TrAll.tq h2⟩
end
/-! data without lists and dicts -/
mutual
def plainD : PyData → Bool
  | .tuple ds => plainDs ds
  | .list _ => false
  | .dict _ => false
  | .none => true
  | .bool _ => true
  | .int _ => true
  | .str _ => true
def plainDs : List PyData → Bool
  | [] => true
  | d :: ds => plainD d && plainDs ds
end
mutual
theorem Tq.tr {H : Hp} : ∀ {d : PyData} {v : V}, plainD d = true → Tq H d v → Tr H d v
  | .none, v, _, h => by simp only [Tq] at h; simp only [Tr]; exact h
  | .bool b, v, _, h => by simp only [Tq] at h; simp only [Tr]; exact h
  | .int i, v, _, h => by simp only [Tq] at h; simp only [Tr]; exact h
  | .str x, v, _, h => by simp only [Tq] at h; simp only [Tr]; exact h
  | .tuple ds, v, p, h => by
    simp only [Tq] at h
    simp only [Tr]
    obtain ⟨a, xs, e, h1, h2⟩ := h
    exact ⟨a, xs, e, h1, TqAll.tr (by simpa only [plainD] using p) h2⟩
  | .list ds, v, p, h => by simp only [plainD] at p; cases p
  | .dict ds, v, p, h => by simp only [plainD] at p; cases p
theorem TqAll.tr {H : Hp} : ∀ {ds : List PyData} {vs : List V}, plainDs ds = true → TqAll H ds vs → TrAll H ds vs
  | [], vs, _, h => by simp only [TqAll] at h; simp only [TrAll]; exact h
  | d :: ds, vs, p, h => by
    simp only [TqAll] at h
    simp only [TrAll]
    simp only [plainDs, Bool.and_eq_true] at p
    obtain ⟨v, r, e, h1, h2⟩ := h
    exact ⟨v, r, e, Tq.tr p.1 h1, TqAll.tr p.2 h2⟩
end
theorem Ex.plainD : ∀ e : Ex, plainD e.d = true
  | .num _ => rfl
  | .var _ => rfl
  | .plus a b => by simp only [Ex.d, EH.plainD, plainDs, Ex.plainD a, Ex.plainD b, Bool.and_true]
  | .minus a b => by simp only [Ex.d, EH.plainD, plainDs, Ex.plainD a, Ex.plainD b, Bool.and_true]
  | .times _ b => by simp only [Ex.d, EH.plainD, plainDs, Ex.plainD b, Bool.and_true]
theorem Ts.plainD : ∀ t : Ts, plainD t.d = true
  | .less a b => by simp only [Ts.d, EH.plainD, plainDs, Ex.plainD a, Ex.plainD b, Bool.and_true]
  | .odd a => by simp only [Ts.d, EH.plainD, plainDs, Ex.plainD a, Bool.and_true]
  | .not t => by simp only [Ts.d, EH.plainD, plainDs, Ts.plainD t, Bool.and_true]
mutual
theorem Sm.plainD : ∀ s : Sm, plainD s.d = true
  | .set _ e => by simp only [Sm.d, EH.plainD, EH.plainDs, Ex.plainD e, Bool.and_true]
  | .half _ e => by simp only [Sm.d, EH.plainD, EH.plainDs, Ex.plainD e, Bool.and_true]
  | .tell e => by simp only [Sm.d, EH.plainD, EH.plainDs, Ex.plainD e, Bool.and_true]
  | .say _ => by simp only [Sm.d, EH.plainD, EH.plainDs, Bool.and_true]
  | .stop _ => by simp only [Sm.d, EH.plainD, EH.plainDs, Bool.and_true]
  | .ite t y n => by simp only [Sm.d, EH.plainD, EH.plainDs, Ts.plainD t, Sm.plainDs y, Sm.plainDs n, Bool.and_true]
  | .rep _ b => by simp only [Sm.d, EH.plainD, EH.plainDs, Sm.plainDs b, Bool.and_true]
theorem Sm.plainDs : ∀ b : List Sm, EH.plainDs (Sm.ds b) = true
  | [] => by simp only [Sm.ds, EH.plainDs]
  | s :: r => by simp only [Sm.ds, EH.plainDs, Sm.plainD s, Sm.plainDs r, Bool.and_true]
end
/-! what a tuple is -/
theorem TqAll.length {H : Hp} : ∀ {ds : List PyData} {vs : List V}, TqAll H ds vs → vs.length = ds.length
  | [], vs, h => by simp only [TqAll] at h; subst h; rfl
  | d :: ds, vs, h => by
    simp only [TqAll] at h
    obtain ⟨v, r, e, h1, h2⟩ := h
    subst e
    rw [List.length_cons, List.length_cons, TqAll.length h2]
theorem TqAll.get {H : Hp} : ∀ {ds : List PyData} {vs : List V} {i : Nat} {d : PyData}, TqAll H ds vs → ds[i]? = some d → ∃ v, vs[i]? = some v ∧ Tq H d v
  | [], vs, i, d, h, e => by simp at e
  | d :: ds, vs, 0, d', h, e => by
    simp only [TqAll] at h
    obtain ⟨v, r, rfl, h1, h2⟩ := h
    cases e
    exact ⟨v, rfl, h1⟩
  | d :: ds, vs, i + 1, d', h, e => by
    simp only [TqAll] at h
    obtain ⟨v, r, rfl, h1, h2⟩ := h
    exact TqAll.get (i := i) h2 e
theorem TqAll.append {H : Hp} : ∀ {ds es : List PyData} {vs ws : List V}, TqAll H ds vs → TqAll H es ws → TqAll H (ds ++ es) (vs ++ ws)
  | [], es, vs, ws, h, g => by simp only [TqAll] at h; subst h; exact g
  | d :: ds, es, vs, ws, h, g => by
    simp only [TqAll] at h
    obtain ⟨v, r, rfl, h1, h2⟩ := h
    simp only [List.cons_append, TqAll]
    exact ⟨v, r ++ ws, rfl, h1, TqAll.append h2 g⟩
theorem tq_int {H : Hp} {i : Int} {v : V} (h : Tq H (.int i) v) : v = .int i := by simp only [Tq] at h; exact h
theorem tq_str {H : Hp} {x : Str} {v : V} (h : Tq H (.str x) v) : v = .str x := by simp only [Tq] at h; exact h
theorem tq_tup {H : Hp} {ds : List PyData} {v : V} (h : Tq H (.tuple ds) v) : ∃ a xs, v = .ref a ∧ H a = some (.tup xs) ∧ TqAll H ds xs := by simp only [Tq] at h; exact h
theorem tq_lst {H : Hp} {ds : List PyData} {v : V} (h : Tq H (.list ds) v) : ∃ a o xs, v = .ref a ∧ (a == sysModules) = false ∧ H a = some (.frz o (.lst xs)) ∧ TqAll H ds xs := by simp only [Tq] at h; exact h
theorem tq_dct {H : Hp} {kvs : List (PyData × PyData)} {v : V} (h : Tq H (.dict kvs) v) : ∃ a o ks, v = .ref a ∧ kvs = kvD ks ∧ H a = some (.frz o (.dK (kvK ks))) := by simp only [Tq] at h; exact h
theorem tq_tup2 {H : Hp} {d1 d2 : PyData} {v : V} (h : Tq H (.tuple [d1, d2]) v) : ∃ a x1 x2, v = .ref a ∧ H a = some (.tup [x1, x2]) ∧ Tq H d1 x1 ∧ Tq H d2 x2 := by
  simp only [Tq, TqAll] at h
  obtain ⟨a, xs, rfl, h1, x1, _, rfl, t1, x2, _, rfl, t2, rfl⟩ := h
  exact ⟨a, x1, x2, rfl, h1, t1, t2⟩
theorem tq_tup3 {H : Hp} {d1 d2 d3 : PyData} {v : V} (h : Tq H (.tuple [d1, d2, d3]) v) : ∃ a x1 x2 x3, v = .ref a ∧ H a = some (.tup [x1, x2, x3]) ∧ Tq H d1 x1 ∧ Tq H d2 x2 ∧ Tq H d3 x3 := by
  simp only [Tq, TqAll] at h
  obtain ⟨a, xs, rfl, h1, x1, _, rfl, t1, x2, _, rfl, t2, x3, _, rfl, t3, rfl⟩ := h
  exact ⟨a, x1, x2, x3, rfl, h1, t1, t2, t3⟩
theorem tq_tup4 {H : Hp} {d1 d2 d3 d4 : PyData} {v : V} (h : Tq H (.tuple [d1, d2, d3, d4]) v) : ∃ a x1 x2 x3 x4, v = .ref a ∧ H a = some (.tup [x1, x2, x3, x4]) ∧ Tq H d1 x1 ∧ Tq H d2 x2 ∧ Tq H d3 x3 ∧ Tq H d4 x4 := by
  simp only [Tq, TqAll] at h
  obtain ⟨a, xs, rfl, h1, x1, _, rfl, t1, x2, _, rfl, t2, x3, _, rfl, t3, x4, _, rfl, t4, rfl⟩ := h
  exact ⟨a, x1, x2, x3, x4, rfl, h1, t1, t2, t3, t4⟩
theorem mq_tup {H : Hp} {ds : List PyData} {a : Addr} {xs : List V} (h : H a = some (.tup xs)) (t : TqAll H ds xs) : Tq H (.tuple ds) (.ref a) := by simp only [Tq]; exact ⟨a, xs, rfl, h, t⟩
theorem mq_lst {H : Hp} {ds : List PyData} {a : Addr} {o : Obj} {xs : List V} (n : (a == sysModules) = false) (h : H a = some (.frz o (.lst xs))) (t : TqAll H ds xs) : Tq H (.list ds) (.ref a) := by simp only [Tq]; exact ⟨a, o, xs, rfl, n, h, t⟩
theorem mq_dct {H : Hp} {ks : List (Str × Int)} {a : Addr} {o : Obj} (h : H a = some (.frz o (.dK (kvK ks)))) : Tq H (.dict (kvD ks)) (.ref a) := by simp only [Tq]; exact ⟨a, o, ks, rfl, rfl, h⟩
theorem tqs_nil {H : Hp} : TqAll H [] [] := by simp only [TqAll]
theorem tqs_cons {H : Hp} {d : PyData} {ds : List PyData} {v : V} {vs : List V} (h : Tq H d v) (t : TqAll H ds vs) : TqAll H (d :: ds) (v :: vs) := by simp only [TqAll]; exact ⟨v, vs, rfl, h, t⟩
theorem mq_int {H : Hp} {i : Int} : Tq H (.int i) (.int i) := by simp only [Tq]
theorem mq_str {H : Hp} {x : Str} : Tq H (.str x) (.str x) := by simp only [Tq]
theorem mq_non {H : Hp} : Tq H .none .non := by simp only [Tq]
theorem mq_bl {H : Hp} {b : Bool} : Tq H (.bool b) (.bl b) := by simp only [Tq]
theorem TqAll.rev {H : Hp} : ∀ {ds : List PyData} {vs : List V}, TqAll H ds vs → TqAll H ds.reverse vs.reverse
  | [], vs, h => by
    simp only [TqAll] at h
    subst h
    exact tqs_nil
  | d :: ds, vs, h => by
    simp only [TqAll] at h
    obtain ⟨v, r, rfl, h1, h2⟩ := h
    rw [List.reverse_cons, List.reverse_cons]
    exact (TqAll.rev h2).append (tqs_cons h1 tqs_nil)
theorem TqAll.app_inv {H : Hp} : ∀ {ds es : List PyData} {vs : List V}, TqAll H (ds ++ es) vs → ∃ us ws, vs = us ++ ws ∧ TqAll H ds us ∧ TqAll H es ws
  | [], es, vs, h => ⟨[], vs, rfl, tqs_nil, h⟩
  | d :: ds, es, vs, h => by
    simp only [List.cons_append, TqAll] at h
    obtain ⟨v, r, rfl, h1, h2⟩ := h
    obtain ⟨us, ws, rfl, h3, h4⟩ := TqAll.app_inv h2
    exact ⟨v :: us, ws, rfl, tqs_cons h1 h3, h4⟩
theorem TqAll.snoc_inv {H : Hp} {ds : List PyData} {e : PyData} {vs : List V} (h : TqAll H (ds ++ [e]) vs) : ∃ us u, vs = us ++ [u] ∧ TqAll H ds us ∧ Tq H e u := by
  obtain ⟨us, ws, rfl, h1, h2⟩ := TqAll.app_inv h
  simp only [TqAll] at h2
  obtain ⟨u, _, rfl, h3, rfl⟩ := h2
  exact ⟨us, u, rfl, h1, h3⟩
theorem TqAll.take {H : Hp} : ∀ {ds : List PyData} {vs : List V} (k : Nat), TqAll H ds vs → TqAll H (ds.take k) (vs.take k)
  | ds, vs, 0, _ => by rw [List.take_zero, List.take_zero]; exact tqs_nil
  | [], vs, k + 1, h => by simp only [TqAll] at h; subst h; exact tqs_nil
  | d :: ds, vs, k + 1, h => by
    simp only [TqAll] at h
    obtain ⟨v, r, rfl, h1, h2⟩ := h
    exact tqs_cons h1 (TqAll.take k h2)
theorem TqAll.drop {H : Hp} : ∀ {ds : List PyData} {vs : List V} (k : Nat), TqAll H ds vs → TqAll H (ds.drop k) (vs.drop k)
  | ds, vs, 0, h => h
  | [], vs, k + 1, h => by simp only [TqAll] at h; subst h; exact tqs_nil
  | d :: ds, vs, k + 1, h => by
    simp only [TqAll] at h
    obtain ⟨v, r, rfl, h1, h2⟩ := h
    exact TqAll.drop k h2
/-! isinstance -/
theorem isi_lt : kitB "list" "tuple" = some false := by decide +kernel
theorem isi_ls : kitB "list" "str" = some false := by decide +kernel
theorem isi_li : kitB "list" "int" = some false := by decide +kernel
theorem isi_lb : kitB "list" "bool" = some false := by decide +kernel
theorem isi_dt : kitB "dict" "tuple" = some false := by decide +kernel
theorem isi_ds : kitB "dict" "str" = some false := by decide +kernel
theorem isi_di : kitB "dict" "int" = some false := by decide +kernel
theorem isi_db : kitB "dict" "bool" = some false := by decide +kernel
theorem isi_tupQ {K : PySem.W.Frag} {H : Hp} {d : PyData} {v : V} (h : Tq H d v) : ∃ t, TyX K H v t ∧ PySem.W.kitOne K t (.type "tuple") = some (isTupB d) := by
  cases d with
  | none => simp only [Tq] at h; subst h; exact ⟨_, .base .non, kit_ty (by decide +kernel)⟩
  | bool b => simp only [Tq] at h; subst h; exact ⟨_, .base (.bl _), kit_ty (show kitB "bool" "tuple" = some false by decide +kernel)⟩
  | int b => simp only [Tq] at h; subst h; exact ⟨_, .base (.int _), kit_ty (show kitB "int" "tuple" = some false by decide +kernel)⟩
  | str b => simp only [Tq] at h; subst h; exact ⟨_, .base (.str _), kit_ty (show kitB "str" "tuple" = some false by decide +kernel)⟩
  | list ds =>
    obtain ⟨a, o, xs, rfl, _, h1, _⟩ := tq_lst h
    exact ⟨_, .base (.frz h1), kit_ty isi_lt⟩
  | dict ds =>
    obtain ⟨a, o, ks, rfl, _, h1⟩ := tq_dct h
    exact ⟨_, .fDict h1, kit_ty isi_dt⟩
  | tuple ds =>
    obtain ⟨a, xs, rfl, h1, _⟩ := tq_tup h
    exact ⟨_, .base (.tup h1), kit_ty (show kitB "tuple" "tuple" = some true by decide +kernel)⟩
/-! promises -/
def spWholeQ : Sp := fun vs H Q _ => ∃ (v : V) (d : PyData) (lo hi : Int), vs = [v, .int lo, .int hi] ∧ Tq H d v ∧ Q (.bl (wholeB lo hi d)) H
def spBoolQ (f : PyData → Bool) : Sp := fun vs H Q _ => ∃ (v : V) (d : PyData), vs = [v] ∧ Tq H d v ∧ Szd d ∧ ∀ H', Kp [] H H' → Q (.bl (f d)) H'
def spBoolNQ (f : Nat → PyData → Bool) (n : Nat) : Sp := fun vs H Q _ => ∃ (v : V) (d : PyData) (m : Int), vs = [v, .int m] ∧ m = (n : Int) ∧ Tq H d v ∧ Szd d ∧ ∀ H', Kp [] H H' → Q (.bl (f n d)) H'
def spStmtQ (f : PyData → Bool) : Sp := fun vs H Q _ => ∃ (v : V) (k : Str) (ds : List PyData), vs = [v] ∧ Tq H (.tuple (.str k :: ds)) v ∧ Szds ds ∧ ∀ H', Kp [] H H' → Q (.bl (f (.tuple (.str k :: ds)))) H'
def spBlocksQ : Sp := fun vs H Q _ => ∃ (v : V) (d : PyData), vs = [v] ∧ Tq H d v ∧ StD d ∧ ∀ (p : Addr) (bs : List V) (H' : Hp), H p = none → H' p = some (.lst bs) → TqAll H' (blksD d) bs → Kp [] H H' → Q (.ref p) H'
def spWithinQ : Sp := fun vs H Q _ => ∃ (v : V) (d : PyData) (dep : Int), vs = [v, .int dep] ∧ Tq H d v ∧ StD d ∧ dsz d ≤ 1000000 ∧
  ∀ (p : Addr) (us : List V) (H' : Hp), H p = none → H' p = some (.lst us) → TqAll H' ((((bitems d).map fun e => pairD (dep + 1, e))).reverse) us → Kp [] H H' → Q (.ref p) H'
def spOrderQ : Sp := fun vs H Q _ => ∃ (v : V) (ds : List PyData), vs = [v] ∧ Tq H (.tuple ds) v ∧ Szds ds ∧ dszs ds ≤ 1000000 ∧ ∀ (t : V) (H' : Hp), Tr H' (errD (ordErr ds)) t → Kp [] H H' → Q t H'
def spPErrQ : Sp := fun vs H Q _ => ∃ (v : V) (d : PyData), vs = [v] ∧ Tq H d v ∧ Szd d ∧ dsz d ≤ 1000000 ∧ ∀ (t : V) (e : PyData) (H' : Hp), Tr H' e t → PErr d e → Kp [] H H' → Q t H'
section
variable {X : Cx} {pins : List (Addr × Obj)} {σ : L2.St} {H : Hp} {s : Shared}
/-! ### what values of all kinds are read as -/
def kEnc : Key → PyData
  | .inl i => .int i
  | .inr x => .str x
theorem mix_reads {P : Program} {w : World} {h : Heap} (k : Key) (v : Value) (e : (mixKind P w).is k v = true) : Reads h v (kEnc k) [] := by
  rcases keyIs_shape (k := k) (v := v) e with ⟨i, t, rfl, rfl⟩ | ⟨x, t, rfl, rfl⟩
  · exact .int i t
  · exact .str x t
theorem pairs_kv {h : Heap} : ∀ {ks : List (Str × Int)} {vs : List (Key × Value)}, KV (kvK ks) vs → PyProof.V.PairsRead h kEnc vs (kvD ks) []
  | [], [], _ => .nil
  | p :: ks, (k, v) :: vs, .cons ⟨e, t, ev⟩ r => by
    obtain rfl : Sum.inr p.1 = k := e
    obtain rfl : v = Value.int p.2 t := ev
    exact .cons (as := []) (bs := []) (Reads.int p.2 t) (pairs_kv r)
mutual
theorem Tq.reads (I : Inv X pins σ H s) : ∀ {d : PyData} {v : V} {u : Value}, Tq H d v → RelV v u → ∃ as, Reads s.heap u d as ∧ sysModules ∉ as
  | .none, v, u, h, r => by
    simp only [Tq] at h
    subst h
    cases (show u = Value.none from r)
    exact ⟨_, .none, by simp⟩
  | .bool b, v, u, h, r => by
    simp only [Tq] at h
    subst h
    cases (show u = Value.bool b from r)
    exact ⟨_, .bool b, by simp⟩
  | .int i, v, u, h, r => by
    cases tq_int h
    obtain ⟨t, rfl⟩ := r
    exact ⟨_, .int i t, by simp⟩
  | .str x, v, u, h, r => by
    cases tq_str h
    obtain ⟨t, rfl⟩ := r
    exact ⟨_, .str x t, by simp⟩
  | .tuple ds, v, u, h, r => by
    obtain ⟨a, xs, rfl, h1, h2⟩ := tq_tup h
    cases (show u = Value.ref a from r)
    obtain ⟨its, rv, ⟨o, g1, g2, n, g3⟩, _⟩ := I.tuple (SqT.of h1)
    obtain ⟨as, ra, na⟩ := TqAll.reads I h2 rv
    exact ⟨as, .tuple g1 g2 g3 ra, na⟩
  | .list ds, v, u, h, r => by
    obtain ⟨a, ob, xs, rfl, ne, h1, h2⟩ := tq_lst h
    cases (show u = Value.ref a from r)
    obtain ⟨its, rv, ⟨o, n, g1, g2, _, g3⟩, _⟩ := I.list (show SqL X.K H a xs from .inl (.inr ⟨ob, h1⟩))
    obtain ⟨as, ra, na⟩ := TqAll.reads I h2 rv
    refine ⟨a :: as, .list g1 g2 g3 ra, fun m => ?_⟩
    rcases List.mem_cons.mp m with z | z
    · exact beq_eq_false_iff_ne.mp ne z.symm
    · exact na z
  | .dict kvs, v, u, h, r => by
    obtain ⟨a, ob, ks, rfl, rfl, h1⟩ := tq_dct h
    cases (show u = Value.ref a from r)
    obtain ⟨_, _, ne, vs, kv, dd⟩ := I.hok a _ h1
    refine ⟨a :: [], PyProof.V.reads_dictOf (enc := kEnc) mix_reads dd (pairs_kv kv), fun m => ?_⟩
    rcases List.mem_cons.mp m with z | z
    · exact beq_eq_false_iff_ne.mp ne z.symm
    · cases z
theorem TqAll.reads (I : Inv X pins σ H s) : ∀ {ds : List PyData} {vs : List V} {us : List Value}, TqAll H ds vs → Vals vs us → ∃ as, ReadsAll s.heap us ds as ∧ sysModules ∉ as
  | [], vs, us, h, r => by
    simp only [TqAll] at h
    subst h
    cases r
    exact ⟨[], .nil, by simp⟩
  | d :: ds, vs, us, h, r => by
    simp only [TqAll] at h
    obtain ⟨v, rest, rfl, h1, h2⟩ := h
    cases r with
    | cons r1 r2 =>
      obtain ⟨as, q1, n1⟩ := Tq.reads I h1 r1
      obtain ⟨bs, q2, n2⟩ := TqAll.reads I h2 r2
      exact ⟨as ++ bs, .cons q1 q2, fun m => (List.mem_append.mp m).elim n1 n2⟩
end
end
section
variable {X : Cx}
def rReprQ : List V → Hp → VK → Prop := fun xs H Q => ∃ x d, xs = [x] ∧ Tq H d x ∧ Shw d ∧ ∀ z, z = d.shown → Q (.str z) H
theorem call_reprQ (fr : Free X.A) (hu : X.A.units + 64 < cLine) : CallR X (.builtin "repr") rReprQ := by
  intro pins s σ H xs us Q I r h
  obtain ⟨x, d, rfl, t, sw, q⟩ := h
  have plain : plainD d = true → wpAny (model X.prog X.w) X.A (call (.builtin "repr") us) (EP X pins σ Q) X.xe s := fun p => call_reprT fr hu pins s σ H [x] us Q I r ⟨x, d, rfl, Tq.tr p t, sw, q⟩
  have other : ∀ {a : Addr}, us = [.ref a] → (∃ as, Reads s.heap (.ref a) d as ∧ sysModules ∉ as) → wpAny (model X.prog X.w) X.A (call (.builtin "repr") us) (EP X pins σ Q) X.xe s := by
    rintro a rfl ⟨as, rd, na⟩
    have := sw.dp
    exact repr_of_reads' rd sw.sh (fun _ => na) fr (by omega) (fun _ _ z => z) (fun h' t' tk hk => ⟨.str _, H, I.kept hk, ⟨_, rfl⟩, q _ rfl⟩) sw.sz
  obtain ⟨u, rfl, rx⟩ := vals1 r
  have rd := Tq.reads I t rx
  cases d with
  | none => exact plain rfl
  | bool b => exact plain rfl
  | int i => exact plain rfl
  | str z => exact plain rfl
  | tuple ds =>
    obtain ⟨a, _, rfl, _⟩ := tq_tup t
    cases (show u = Value.ref a from rx)
    exact other rfl rd
  | list ds =>
    obtain ⟨a, _, _, rfl, _⟩ := tq_lst t
    cases (show u = Value.ref a from rx)
    exact other rfl rd
  | dict kvs =>
    obtain ⟨a, _, _, rfl, _⟩ := tq_dct t
    cases (show u = Value.ref a from rx)
    exact other rfl rd
/-! ### lists and dicts that nothing will change -/
def FrzQ (H : Hp) (u : HO) (Q : VK) : Prop := ∀ (p : Addr) (H2 : Hp) (o : Obj), H p = none → (p == sysModules) = false → H2 p = some (.frz o u) → Kp [] H H2 → Q (.ref p) H2
def tLstF (t : TA) : TE := fun σ H Q => t σ H fun xs H1 => xs.length ≤ sizeLine ∧ FrzQ H1 (.lst xs) Q
theorem new_ne {pins : List (Addr × Obj)} {σ : L2.St} {H : Hp} {s : Shared} (I : Inv X pins σ H s) : (s.heap.objs.size == sysModules) = false := beq_eq_false_iff_ne.mpr (Nat.ne_of_gt I.big)
theorem pe_lstF {es : List Expr} {t : TA} {pos : Pos} (h : PA X es t) : PE X (.List es pos) (tLstF t) :=
  .mk fun pins s σ H Q I hq => wpAny_List_spliced (thn (h.run pos pins s σ H _ I hq) fun us t ⟨xs, G, J, rv, few, out⟩ => by
    have fresh := J.hok.fresh (Nat.le_refl t.heap.objs.size)
    have at_ : (t.heap.push { cls := .type "list", data := .seq us.toArray }).get? t.heap.objs.size = some { cls := .type "list", data := .seq us.toArray } := Heap.get?_push_size _ rfl
    exact ⟨by rw [← Paired.length rv]; exact few, .ref t.heap.objs.size, _, J.laid (t' := t.toks) (o := .frz _ (.lst xs)) (fun b v e => Heap.get?_push_of_some _ e) (Nat.le_refl _) ⟨at_, few, us, 0, rv, at_⟩, rfl, out _ _ _ fresh (new_ne J) upd_same (Kp.new fresh)⟩)
def rListF (K : PySem.W.Frag) : List V → Hp → VK → Prop := fun xs H Q => ∃ p ys, xs = [.ref p] ∧ SqT K H p ys ∧ FrzQ H (.lst ys) Q
theorem call_listF {K : PySem.W.Frag} (hK : X.K = K) : CallR X (.type "list") (rListF K) := by
  subst hK
  rintro pins s σ H _ us Q I r ⟨p, ys, rfl, sq, out⟩
  obtain ⟨u, rfl, rx⟩ := vals1 r
  obtain rfl : u = .ref p := rx
  obtain ⟨its, rv, ⟨o, g1, g2, n, g3⟩, few⟩ := I.tuple sq
  have fresh := I.hok.fresh (Nat.le_refl s.heap.objs.size)
  have := Paired.length rv
  exact call_list_seq p (.inr rfl) g1 g2 g3 (fun g c kp at_ => ⟨.ref s.heap.objs.size, _, I.laid (t' := s.toks) (o := .frz _ (.lst ys)) kp (Nat.le_refl _) ⟨at_, few, its, c, rv, at_⟩, rfl, out _ _ _ fresh (new_ne I) upd_same (Kp.new fresh)⟩) (by simp only [List.size_toArray]; omega)
def tFrzK (t : TE) : TE := fun σ H Q => t σ H fun v H1 => ∃ (a : Addr) (kvs : List (Key × V)), v = .ref a ∧ H1 a = some (.dK kvs) ∧ ∀ (o : Obj) (H2 : Hp), H2 = upd H1 a (.frz o (.dK kvs)) → Q v H2
theorem pe_frzK {e : Expr} {t : TE} (h : PE X e t) : PE X e (tFrzK t) :=
  .mk fun pins s σ H Q I hq => thn (h.run pins s σ H _ I hq) fun u s1 ⟨v, H1, I1, rv, a, kvs, ev, ea, q⟩ => by
    obtain ⟨od, J⟩ := I1.lock ea trivial
    exact ⟨v, _, J, rv, q od _ rfl⟩
theorem kp_frz {H H2 : Hp} {p : Addr} {u w : HO} (h : H p = none) (e : H2 = upd (upd H p u) p w) : Kp [] H H2 ∧ H2 p = some w := by
  subst e
  refine ⟨⟨fun c o g _ => ?_, fun c o g => ?_, fun c o g => ?_, fun c o u g => ?_⟩, upd_same⟩ <;> rw [upd_ne (ne_of_none g h), upd_ne (ne_of_none g h)] <;> exact g
theorem kp_frz2 {H H2 : Hp} {p : Addr} {u v w : HO} (h : H p = none) (e : H2 = upd (upd (upd H p u) p v) p w) : Kp [] H H2 ∧ H2 p = some w := by
  subst e
  refine ⟨⟨fun c o g _ => ?_, fun c o g => ?_, fun c o g => ?_, fun c o u g => ?_⟩, upd_same⟩ <;> rw [upd_ne (ne_of_none g h), upd_ne (ne_of_none g h), upd_ne (ne_of_none g h)] <;> exact g
end
end EH
namespace EH
open PySem L2
/-! ### the law's own recognizers, on values of all kinds -/
def spLettersQ : Sp := fun vs H Q _ => ∃ (v : V) (d : PyData), vs = [v, .int 8] ∧ Tq H d v ∧ Szd d ∧ ∀ H', Kp [] H H' → Q (.bl (wordB d)) H'
theorem name_noword {d : PyData} (h : wordB d = false) : nameB d = false := by
  cases d with
  | str z =>
    cases hn : nameB (.str z) with
    | false => rfl
    | true => rw [word_of hn] at h; cases h
  | _ => rfl
theorem word_head {z : Str} (h : wordB (.str z) = true) : ∃ c0 r0, z.cps.toList = c0 :: r0 ∧ c0 ∈ SGNS.cps.toList := by
  obtain ⟨hl, hs⟩ : lenB z = true ∧ sgnsB z = true := by simpa only [wordB, Bool.and_eq_true] using h
  have hl1 : 1 ≤ (z.length : Int) := by
    have : decide (1 ≤ (z.length : Int)) = true ∧ decide ((z.length : Int) ≤ 8) = true := by simpa only [lenB, Bool.and_eq_true] using hl
    exact of_decide_eq_true this.1
  cases e : z.cps.toList with
  | nil =>
    have : z.cps.toList.length = z.length := Array.length_toList
    rw [e] at this
    simp at this
    omega
  | cons c r =>
    unfold sgnsB at hs
    rw [e, List.all_cons, Bool.and_eq_true] at hs
    exact ⟨c, r, rfl, of_decide_eq_true hs.1⟩
theorem sgn_dig : ∀ c ∈ SGNS.cps.toList, decide (c ∈ LETS.cps.toList) = !decide (c ∈ DIGS.cps.toList) := by decide +kernel
theorem name_word {z : Str} {c0 : Nat} {r0 : List Nat} (h : wordB (.str z) = true) (e : z.cps.toList = c0 :: r0) : nameB (.str z) = (!decide (c0 ∈ DIGS.cps.toList) && !inV (.str z) KEPTS) := by
  obtain ⟨hl, hs⟩ : lenB z = true ∧ sgnsB z = true := by simpa only [wordB, Bool.and_eq_true] using h
  have hc : c0 ∈ SGNS.cps.toList := by
    have hs2 := hs
    unfold sgnsB at hs2
    rw [e, List.all_cons, Bool.and_eq_true] at hs2
    exact of_decide_eq_true hs2.1
  have hh : headB z = !decide (c0 ∈ DIGS.cps.toList) := by
    unfold headB
    rw [e]
    exact sgn_dig c0 hc
  show (lenB z && headB z && sgnsB z && !inV (.str z) KEPTS) = _
  rw [hl, hs, hh, Bool.true_and, Bool.and_true]
theorem expr_flat28 {n : Nat} {m : Int} {d : PyData} (h : isTupB d = false) (hm : m = (n : Int)) : exprB n d = (decide (0 < m) && (nameB d || wholeB (-99) 99 d)) := by
  cases n with
  | zero =>
    rw [decide_eq_false (by omega)]
    cases d <;> rfl
  | succ n =>
    rw [decide_eq_true (by omega), Bool.true_and]
    cases d with
    | tuple ds => cases h
    | _ => rfl
def isStrB : PyData → Bool
  | .str _ => true
  | _ => false
theorem expr_nostr {n : Nat} {d1 d2 d3 : PyData} (h : isStrB d1 = false) : exprB (n + 1) (.tuple [d1, d2, d3]) = false := by
  cases d1 with
  | str k => cases h
  | _ => rfl
theorem isi_strQ {K : PySem.W.Frag} {H : Hp} {d : PyData} {v : V} (h : Tq H d v) : ∃ t, TyX K H v t ∧ PySem.W.kitOne K t (.type "str") = some (isStrB d) := by
  cases d with
  | none => simp only [Tq] at h; subst h; exact ⟨_, .base .non, kit_ty isi_ns⟩
  | bool b => simp only [Tq] at h; subst h; exact ⟨_, .base (.bl _), kit_ty isi_bs⟩
  | int b => simp only [Tq] at h; subst h; exact ⟨_, .base (.int _), kit_ty isi_is⟩
  | str b => simp only [Tq] at h; subst h; exact ⟨_, .base (.str _), kit_ty isi_ss⟩
  | list ds =>
    obtain ⟨a, o, xs, rfl, _, h1, _⟩ := tq_lst h
    exact ⟨_, .base (.frz h1), kit_ty isi_ls⟩
  | dict ds =>
    obtain ⟨a, o, ks, rfl, _, h1⟩ := tq_dct h
    exact ⟨_, .fDict h1, kit_ty isi_ds⟩
  | tuple ds =>
    obtain ⟨a, xs, rfl, h1, _⟩ := tq_tup h
    exact ⟨_, .base (.tup h1), kit_ty isi_ts⟩
theorem test_flat28 {n : Nat} {d : PyData} (h : isTupB d = false) : testB n d = false := by
  cases d with
  | tuple ds => cases h
  | _ => cases n <;> rfl
theorem test_nostr28 {n : Nat} {d1 : PyData} {r : List PyData} (h : isStrB d1 = false) : testB n (.tuple (d1 :: r)) = false := by
  unfold testB
  split <;> first | rfl | (rename_i e; cases e; cases h) | skip
  all_goals (try (rename_i e; simp only [PyData.tuple.injEq, List.cons.injEq] at e; obtain ⟨rfl, _⟩ := e; cases h))
def TSZ : List (Key × V) := [(Sum.inr "less", .int 3), (Sum.inr "odd", .int 2)]
def sizeT (k : Str) : Int := if k = "less" then 3 else if k = "odd" then 2 else 0
theorem valV_cons28 {x k : Str} {v : V} {r : List (Key × V)} : valV ((Sum.inr x, v) :: r) (Sum.inr k) = if k = x then some v else valV r (Sum.inr k) := by
  by_cases h : k = x
  · subst h
    rw [if_pos rfl]
    simp [valV]
  · rw [if_neg h]
    have : ¬ (x = k) := fun e => h e.symm
    simp [valV, List.find?_cons, this]
theorem getT28 {k : Str} : (valV TSZ (Sum.inr k)).getD (.int 0) = .int (sizeT k) := by
  unfold TSZ sizeT
  rw [valV_cons28, valV_cons28]
  split
  · rfl
  · split <;> rfl
theorem size_cases28 (k : Str) : (k = "less" ∧ sizeT k = 3) ∨ (k = "odd" ∧ sizeT k = 2) ∨ (k ≠ "less" ∧ k ≠ "odd" ∧ sizeT k = 0) := by
  have lo : ¬ (("odd" : Str) = "less") := by decide +kernel
  by_cases h : k = "less"
  · exact .inl ⟨h, by unfold sizeT; rw [if_pos h]⟩
  · by_cases g : k = "odd"
    · exact .inr (.inl ⟨g, by unfold sizeT; rw [if_neg h, if_pos g]⟩)
    · exact .inr (.inr ⟨h, g, by unfold sizeT; rw [if_neg h, if_neg g]⟩)
theorem test3_28 (n : Nat) (k : Str) (b c : PyData) : testB n (.tuple [.str k, b, c]) = (decide (k = "less") && exprB 3 b && exprB 3 c) := by cases n <;> rfl
theorem test_not28 {n : Nat} {r : List PyData} (h : r.length ≠ 1) : testB n (.tuple (.str "not" :: r)) = false := by
  match r, h with
  | [], _ => cases n <;> rfl
  | [b, c], _ =>
    rw [test3_28, decide_eq_false (by decide +kernel)]
    rfl
  | [b], h => exact absurd rfl h
  | _ :: _ :: _ :: _, _ => cases n <;> rfl
theorem test_size28 {n : Nat} {k : Str} {r : List PyData} (h : ¬ k = "not") : testB n (.tuple (.str k :: r)) = (decide ((r.length : Int) + 1 = sizeT k) && r.all (exprB 3)) := by
  have lo : ¬ (("odd" : Str) = "less") := by decide +kernel
  have ne : ∀ i : Int, i ≠ sizeT k → decide (i = sizeT k) = false := fun i e => decide_eq_false e
  match r with
  | [] =>
    rw [ne _ (by simp only [List.length_nil]; rcases size_cases28 k with ⟨_, e⟩ | ⟨_, e⟩ | ⟨_, _, e⟩ <;> rw [e] <;> decide)]
    cases n <;> rfl
  | [b] =>
    have e : testB n (.tuple [.str k, b]) = if k = "odd" then exprB 3 b else false := by
      cases n with
      | zero =>
        show (decide (k = "odd") && exprB 3 b) = _
        by_cases e : k = "odd"
        · rw [decide_eq_true e, if_pos e]
          rfl
        · rw [decide_eq_false e, if_neg e]
          rfl
      | succ n =>
        show (if k = "odd" then exprB 3 b else decide (k = "not") && testB n b) = _
        rw [decide_eq_false h]
        rfl
    rw [e]
    rcases size_cases28 k with ⟨e, g⟩ | ⟨e, g⟩ | ⟨_, e, g⟩
    · rw [if_neg (by rw [e]; exact fun z => lo z.symm), ne _ (by rw [g]; simp only [List.length_cons, List.length_nil]; decide)]
      rfl
    · rw [if_pos e, decide_eq_true (by rw [g]; simp only [List.length_cons, List.length_nil]; decide)]
      simp
    · rw [if_neg e, ne _ (by rw [g]; simp only [List.length_cons, List.length_nil]; decide)]
      rfl
  | [b, c] =>
    rw [test3_28]
    rcases size_cases28 k with ⟨e, g⟩ | ⟨e, g⟩ | ⟨e, _, g⟩
    · rw [decide_eq_true e, decide_eq_true (by rw [g]; simp only [List.length_cons, List.length_nil]; decide)]
      simp
    · rw [decide_eq_false (by rw [e]; exact lo), ne _ (by rw [g]; simp only [List.length_cons, List.length_nil]; decide)]
      rfl
    · rw [decide_eq_false e, ne _ (by rw [g]; simp only [List.length_cons, List.length_nil]; decide)]
      rfl
  | a :: b :: c :: t =>
    rw [ne _ (by simp only [List.length_cons]; rcases size_cases28 k with ⟨_, e⟩ | ⟨_, e⟩ | ⟨_, _, e⟩ <;> rw [e] <;> omega)]
    cases n <;> rfl
theorem cut_fromQ (xs : List V) (k : Nat) : cutV xs (some (k : Int)) none = xs.drop k := by
  unfold cutV
  rw [HT.sIx_none, HT.sIx_nat]
  rcases Nat.le_total k xs.length with h | h
  · rw [Nat.min_eq_left h, List.take_of_length_le (by rw [List.length_drop]; exact Nat.le_refl _)]
  · rw [Nat.min_eq_right h, Nat.sub_self, List.take_zero, List.drop_eq_nil_of_le h]
theorem cut_1q (x : V) (r : List V) : cutV (x :: r) (some 1) none = r := cut_fromQ (x :: r) 1
def sizesQ : List (Key × V) := [(Sum.inr "set", .int 3), (Sum.inr "half", .int 3), (Sum.inr "tell", .int 2), (Sum.inr "say", .int 2), (Sum.inr "stop", .int 2), (Sum.inr "if", .int 4), (Sum.inr "repeat", .int 3)]
def sizeS (k : Str) : Int := if k = "set" then 3 else if k = "half" then 3 else if k = "tell" then 2 else if k = "say" then 2 else if k = "stop" then 2 else if k = "if" then 4 else if k = "repeat" then 3 else 0
theorem getS28 {k : Str} : (valV sizesQ (Sum.inr k)).getD (.int 0) = .int (sizeS k) := by
  unfold sizesQ sizeS
  simp only [valV_cons28]
  repeat (split; · rfl)
  rfl
theorem sizeS_cases (k : Str) : ((k = "set" ∨ k = "half") ∧ sizeS k = 3) ∨ ((k = "say" ∨ k = "stop") ∧ sizeS k = 2) ∨ (k = "tell" ∧ sizeS k = 2) ∨ (k = "if" ∧ sizeS k = 4) ∨ (k = "repeat" ∧ sizeS k = 3) ∨
    ((k ≠ "set" ∧ k ≠ "half" ∧ k ≠ "tell" ∧ k ≠ "say" ∧ k ≠ "stop" ∧ k ≠ "if" ∧ k ≠ "repeat") ∧ sizeS k = 0) := by
  by_cases h1 : k = "set"
  · subst h1; exact .inl ⟨.inl rfl, by decide +kernel⟩
  by_cases h2 : k = "half"
  · subst h2; exact .inl ⟨.inr rfl, by decide +kernel⟩
  by_cases h3 : k = "tell"
  · subst h3; exact .inr (.inr (.inl ⟨rfl, by decide +kernel⟩))
  by_cases h4 : k = "say"
  · subst h4; exact .inr (.inl ⟨.inl rfl, by decide +kernel⟩)
  by_cases h5 : k = "stop"
  · subst h5; exact .inr (.inl ⟨.inr rfl, by decide +kernel⟩)
  by_cases h6 : k = "if"
  · subst h6; exact .inr (.inr (.inr (.inl ⟨rfl, by decide +kernel⟩)))
  by_cases h7 : k = "repeat"
  · subst h7; exact .inr (.inr (.inr (.inr (.inl ⟨rfl, by decide +kernel⟩))))
  exact .inr (.inr (.inr (.inr (.inr ⟨⟨h1, h2, h3, h4, h5, h6, h7⟩, by unfold sizeS; rw [if_neg h1, if_neg h2, if_neg h3, if_neg h4, if_neg h5, if_neg h6, if_neg h7]⟩))))
theorem stmt_form28 {k : Str} {r : List PyData} (h : (r.length : Int) + 1 = sizeS k) : ((k = "set" ∨ k = "half") ∧ ∃ d2 d3, r = [d2, d3]) ∨ ((k = "say" ∨ k = "stop") ∧ ∃ d2, r = [d2]) ∨ (k = "tell" ∧ ∃ d2, r = [d2]) ∨ (k = "if" ∧ ∃ d2 d3 d4, r = [d2, d3, d4]) ∨ (k = "repeat" ∧ ∃ d2 d3, r = [d2, d3]) := by
  have l1 : r.length = 1 → ∃ d2, r = [d2] := fun e => by
    match r, e with
    | [d2], _ => exact ⟨d2, rfl⟩
  have l2 : r.length = 2 → ∃ d2 d3, r = [d2, d3] := fun e => by
    match r, e with
    | [d2, d3], _ => exact ⟨d2, d3, rfl⟩
  have l3 : r.length = 3 → ∃ d2 d3 d4, r = [d2, d3, d4] := fun e => by
    match r, e with
    | [d2, d3, d4], _ => exact ⟨d2, d3, d4, rfl⟩
  rcases sizeS_cases k with ⟨hk, e⟩ | ⟨hk, e⟩ | ⟨hk, e⟩ | ⟨hk, e⟩ | ⟨hk, e⟩ | ⟨hk, e⟩
  · exact .inl ⟨hk, l2 (by omega)⟩
  · exact .inr (.inl ⟨hk, l1 (by omega)⟩)
  · exact .inr (.inr (.inl ⟨hk, l1 (by omega)⟩))
  · exact .inr (.inr (.inr (.inl ⟨hk, l3 (by omega)⟩)))
  · exact .inr (.inr (.inr (.inr ⟨hk, l2 (by omega)⟩)))
  · omega
theorem inV2_28 (z a b : Str) : inV (.str z) [.str a, .str b] = (decide (z = a) || decide (z = b)) := by
  have e : ∀ y : Str, eqV (.str y) (.str z) = decide (z = y) := fun y => by
    show (y == z) = _
    by_cases h : z = y
    · rw [decide_eq_true h, beq_iff_eq]
      exact h.symm
    · rw [decide_eq_false h, beq_eq_false_iff_ne]
      exact fun g => h g.symm
  show (eqV (.str a) (.str z) || (eqV (.str b) (.str z) || false)) = _
  rw [e, e, Bool.or_false]
theorem stmt_nostr28 {d1 : PyData} {r : List PyData} (h : isStrB d1 = false) : stmtB (.tuple (d1 :: r)) = false := by
  unfold stmtB
  split <;> first | rfl | (rename_i e; simp only [PyData.tuple.injEq, List.cons.injEq] at e; obtain ⟨rfl, _⟩ := e; cases h)
theorem stmt_size28 {k : Str} {r : List PyData} (h : ¬ (r.length : Int) + 1 = sizeS k) : stmtB (.tuple (.str k :: r)) = false := by
  match r, h with
  | [], _ => rfl
  | [b], h =>
    have h : ¬ (2 : Int) = sizeS k := by simpa using h
    show (if k = "tell" then exprB 3 b else inV (.str k) [.str "say", .str "stop"] && wordB b) = false
    have n1 : k ≠ "tell" := fun e => h (by subst e; decide +kernel)
    have n2 : k ≠ "say" := fun e => h (by subst e; decide +kernel)
    have n3 : k ≠ "stop" := fun e => h (by subst e; decide +kernel)
    rw [if_neg n1, inV2_28, decide_eq_false n2, decide_eq_false n3]
    rfl
  | [b, c], h =>
    have h : ¬ (3 : Int) = sizeS k := by simpa using h
    show (if k = "repeat" then wholeB 0 8 b && isTupB c else inV (.str k) [.str "set", .str "half"] && nameB b && exprB 3 c) = false
    have n1 : k ≠ "repeat" := fun e => h (by subst e; decide +kernel)
    have n2 : k ≠ "set" := fun e => h (by subst e; decide +kernel)
    have n3 : k ≠ "half" := fun e => h (by subst e; decide +kernel)
    rw [if_neg n1, inV2_28, decide_eq_false n2, decide_eq_false n3]
    rfl
  | [b, c, d], h =>
    have h : ¬ (4 : Int) = sizeS k := by simpa using h
    show (decide (k = "if") && testB 2 b && isTupB c && isTupB d) = false
    have n1 : k ≠ "if" := fun e => h (by subst e; decide +kernel)
    rw [decide_eq_false n1]
    rfl
  | _ :: _ :: _ :: _ :: _, _ => rfl
/-- a value that is odd -/
structure OddD (d : PyData) : Prop where
  sz : Szd d
  ds : dsz d ≤ 100
  bk : Bk d 300 12
def spOdd : Sp := fun vs H Q _ => ∃ (a c : Addr) (m : Int), vs = [.ref a] ∧ Deck H a c m ∧ m ≤ 900000000 ∧
  ∀ (v : V) (d : PyData) (H' : Hp), Tq H' d v → OddD d → Deck H' a c (m + 1) → Kp [a, c] H H' → Q v H'
mutual
def szdB : PyData → Bool
  | .str z => decide (z.length ≤ 1000000)
  | .tuple ds => szdsB ds
  | .none => true
  | .bool _ => true
  | .int _ => true
  | .list _ => true
  | .dict _ => true
def szdsB : List PyData → Bool
  | [] => true
  | d :: r => szdB d && szdsB r
end
mutual
theorem szd_of : ∀ {d : PyData}, szdB d = true → Szd d
  | .str z, h => by simp only [szdB, decide_eq_true_eq] at h; simp only [Szd]; exact h
  | .tuple ds, h => by simp only [szdB] at h; simp only [Szd]; exact szds_of h
  | .none, _ => by simp only [Szd]
  | .bool _, _ => by simp only [Szd]
  | .int _, _ => by simp only [Szd]
  | .list _, _ => by simp only [Szd]
  | .dict _, _ => by simp only [Szd]
theorem szds_of : ∀ {ds : List PyData}, szdsB ds = true → Szds ds
  | [], _ => by simp only [Szds]
  | d :: r, h => by
    simp only [szdsB, Bool.and_eq_true] at h
    simp only [Szds]
    exact ⟨szd_of h.1, szds_of h.2⟩
end
def oddOk (d : PyData) : Bool := szdB d && decide (dsz d ≤ 100) && d.showable && d.leavesShort 241 && decide (d.bulk ≤ 300) && decide (d.depth ≤ 12)
theorem odd_of {d : PyData} (h : oddOk d = true) : OddD d := by
  simp only [oddOk, Bool.and_eq_true, decide_eq_true_eq] at h
  obtain ⟨⟨⟨⟨⟨h1, h2⟩, h3⟩, h4⟩, h5⟩, h6⟩ := h
  exact ⟨szd_of h1, h2, ⟨h3, h4, h5, h6⟩⟩
theorem TqAll.mem {H : Hp} {x : V} : ∀ {ds : List PyData} {vs : List V}, TqAll H ds vs → x ∈ vs → ∃ d, d ∈ ds ∧ Tq H d x
  | [], vs, h, m => by
    simp only [TqAll] at h
    subst h
    cases m
  | d :: ds, vs, h, m => by
    simp only [TqAll] at h
    obtain ⟨v, r, rfl, h1, h2⟩ := h
    rcases List.mem_cons.mp m with rfl | m
    · exact ⟨d, List.mem_cons_self, h1⟩
    · obtain ⟨e, he, t⟩ := TqAll.mem h2 m
      exact ⟨e, List.mem_cons_of_mem _ he, t⟩
/-! ### how a value that is changed at one place measures -/
structure Bent (d d' : PyData) : Prop where
  sz : Szd d → Szd d'
  ds : dsz d' ≤ 2 * dsz d + 100
  sh : d.showable = true → d'.showable = true
  ls : d.leavesShort 241 = true → d'.leavesShort 241 = true
  bk : d'.bulk ≤ 2 * d.bulk + 300
  dp : d'.depth ≤ d.depth + 12
theorem bulkAll_app : ∀ a b : List PyData, PyData.bulkAll (a ++ b) = PyData.bulkAll a + PyData.bulkAll b
  | [], b => by simp only [List.nil_append, PyData.bulkAll]; omega
  | d :: r, b => by simp only [List.cons_append, PyData.bulkAll, bulkAll_app r b]; omega
theorem depthAll_app : ∀ a b : List PyData, PyData.depthAll (a ++ b) = max (PyData.depthAll a) (PyData.depthAll b)
  | [], b => by simp only [List.nil_append, PyData.depthAll]; omega
  | d :: r, b => by simp only [List.cons_append, PyData.depthAll, depthAll_app r b]; omega
theorem showAll_app : ∀ a b : List PyData, PyData.showableAll (a ++ b) = (PyData.showableAll a && PyData.showableAll b)
  | [], b => by simp only [List.nil_append, PyData.showableAll, Bool.true_and]
  | d :: r, b => by simp only [List.cons_append, PyData.showableAll, showAll_app r b, Bool.and_assoc]
theorem shortAll_app : ∀ a b : List PyData, PyData.leavesShortAll 241 (a ++ b) = (PyData.leavesShortAll 241 a && PyData.leavesShortAll 241 b)
  | [], b => by simp only [List.nil_append, PyData.leavesShortAll, Bool.true_and]
  | d :: r, b => by simp only [List.cons_append, PyData.leavesShortAll, shortAll_app r b, Bool.and_assoc]
theorem szds_app_iff : ∀ a b : List PyData, Szds (a ++ b) ↔ Szds a ∧ Szds b
  | [], b => by simp only [List.nil_append, Szds, true_and]
  | d :: r, b => by simp only [List.cons_append, Szds, szds_app_iff r b, and_assoc]
theorem bent_odd {d d' : PyData} (h : OddD d') : Bent d d' :=
  ⟨fun _ => h.sz, by have := h.ds; omega, fun _ => h.bk.sh, fun _ => h.bk.ls, by have := h.bk.bk; omega, by have := h.bk.dp; omega⟩
theorem bent_drop {A B : List PyData} {e : PyData} : Bent (.tuple (A ++ e :: B)) (.tuple (A ++ B)) := by
  refine ⟨?_, ?_, ?_, ?_, ?_, ?_⟩
  · simp only [Szd, szds_app_iff, Szds]
    exact fun h => ⟨h.1, h.2.2⟩
  · simp only [dsz, dszs_app, dszs]
    omega
  · simp only [PyData.showable, showAll_app, PyData.showableAll, Bool.and_eq_true]
    exact fun h => ⟨h.1, h.2.2⟩
  · simp only [PyData.leavesShort, shortAll_app, PyData.leavesShortAll, Bool.and_eq_true]
    exact fun h => ⟨h.1, h.2.2⟩
  · simp only [PyData.bulk, bulkAll_app, PyData.bulkAll]
    omega
  · simp only [PyData.depth, depthAll_app, PyData.depthAll]
    omega
theorem bent_dup {A B : List PyData} {e : PyData} : Bent (.tuple (A ++ e :: B)) (.tuple (A ++ [e] ++ e :: B)) := by
  refine ⟨?_, ?_, ?_, ?_, ?_, ?_⟩
  · simp only [Szd, szds_app_iff, Szds]
    exact fun h => ⟨⟨h.1, h.2.1, trivial⟩, h.2⟩
  · simp only [dsz, dszs_app, dszs]
    omega
  · simp only [PyData.showable, showAll_app, PyData.showableAll, Bool.and_eq_true]
    exact fun h => ⟨⟨h.1, h.2.1, trivial⟩, h.2⟩
  · simp only [PyData.leavesShort, shortAll_app, PyData.leavesShortAll, Bool.and_eq_true]
    exact fun h => ⟨⟨h.1, h.2.1, trivial⟩, h.2⟩
  · simp only [PyData.bulk, bulkAll_app, PyData.bulkAll]
    omega
  · simp only [PyData.depth, depthAll_app, PyData.depthAll]
    omega
theorem bent_list {ds : List PyData} : Bent (.tuple ds) (.list ds) := by
  refine ⟨fun _ => by simp only [Szd], ?_, ?_, ?_, ?_, ?_⟩
  · simp only [dsz]
    omega
  · simp only [PyData.showable]
    exact id
  · simp only [PyData.leavesShort]
    exact id
  · simp only [PyData.bulk]
    omega
  · simp only [PyData.depth]
    omega
theorem bent_rot {A B : List PyData} : Bent (.tuple (A ++ B)) (.tuple (B ++ A)) := by
  refine ⟨?_, ?_, ?_, ?_, ?_, ?_⟩
  · simp only [Szd, szds_app_iff]
    exact fun h => ⟨h.2, h.1⟩
  · simp only [dsz, dszs_app]
    omega
  · simp only [PyData.showable, showAll_app, Bool.and_eq_true]
    exact fun h => ⟨h.2, h.1⟩
  · simp only [PyData.leavesShort, shortAll_app, Bool.and_eq_true]
    exact fun h => ⟨h.2, h.1⟩
  · simp only [PyData.bulk, bulkAll_app]
    omega
  · simp only [PyData.depth, depthAll_app]
    omega
theorem bent_in {A B : List PyData} {e e' : PyData} (h : Bent e e') : Bent (.tuple (A ++ e :: B)) (.tuple (A ++ [e'] ++ B)) := by
  obtain ⟨h1, h2, h3, h4, h5, h6⟩ := h
  refine ⟨?_, ?_, ?_, ?_, ?_, ?_⟩
  · simp only [Szd, szds_app_iff, Szds]
    exact fun h => ⟨⟨h.1, h1 h.2.1, trivial⟩, h.2.2⟩
  · simp only [dsz, dszs_app, dszs]
    omega
  · simp only [PyData.showable, showAll_app, PyData.showableAll, Bool.and_eq_true]
    exact fun h => ⟨⟨h.1, h3 h.2.1, trivial⟩, h.2.2⟩
  · simp only [PyData.leavesShort, shortAll_app, PyData.leavesShortAll, Bool.and_eq_true]
    exact fun h => ⟨⟨h.1, h4 h.2.1, trivial⟩, h.2.2⟩
  · simp only [PyData.bulk, bulkAll_app, PyData.bulkAll]
    omega
  · simp only [PyData.depth, depthAll_app, PyData.depthAll]
    omega
theorem cut_at {ds : List PyData} {j : Nat} {e : PyData} (h : ds[j]? = some e) : ds = ds.take j ++ e :: ds.drop (j + 1) := by
  have hl := (List.getElem?_eq_some_iff.mp h).1
  have he := (List.getElem?_eq_some_iff.mp h).2
  conv => lhs; rw [← List.take_append_drop j ds, List.drop_eq_getElem_cons hl, he]
/-- a changed value -/
def spBent (n : Nat) : Sp := fun vs H Q _ => ∃ (a c : Addr) (v : V) (d : PyData) (i m : Int), vs = [.ref a, v, .int i] ∧ i = (n : Int) ∧ Deck H a c m ∧ m + 3 * (n : Int) ≤ 800000000 ∧ Tq H d v ∧ dsz d ≤ 1000000 ∧
  ∀ (v' : V) (d' : PyData) (H' : Hp) (m' : Int), Tq H' d' v' → Bent d d' → m ≤ m' → m' ≤ m + 3 * (n : Int) + 2 → Deck H' a c m' → Kp [a, c] H H' → Q v' H'
theorem cut_oneQ {xs : List V} {j : Nat} {x : V} (h : xs[j]? = some x) : cutV xs (some (j : Int)) (some ((j : Int) + 1)) = [x] := by
  have hl := (List.getElem?_eq_some_iff.mp h).1
  have he := (List.getElem?_eq_some_iff.mp h).2
  unfold cutV
  rw [show ((j : Int) + 1) = ((j + 1 : Nat) : Int) by omega, HT.sIx_nat, HT.sIx_nat, Nat.min_eq_left (by omega), Nat.min_eq_left (by omega), Nat.add_sub_cancel_left, List.drop_eq_getElem_cons hl, he]
  rfl
theorem cut_next {xs : List V} {j : Nat} : cutV xs (some ((j : Int) + 1)) none = xs.drop (j + 1) := by
  rw [show ((j : Int) + 1) = ((j + 1 : Nat) : Int) by omega, cut_fromQ]
theorem drop_at {α : Type} {l : List α} {j : Nat} {x : α} (h : l[j]? = some x) : l.drop j = x :: l.drop (j + 1) := by
  rw [List.drop_eq_getElem_cons (List.getElem?_eq_some_iff.mp h).1, (List.getElem?_eq_some_iff.mp h).2]
theorem sz_le3 {n : Nat} (h : n ≤ 3000000) : n ≤ sizeLine := by rw [sizeLine_eq]; omega
/-! ### how much a program with short names shows -/
theorem bk_i {i : Int} (h : i.natAbs < 1000) : Bk (.int i) 0 0 := by
  have s := sw_int h
  refine ⟨s.sh, ?_, by simp only [PyData.bulk]; exact Nat.le_refl _, by simp only [PyData.depth]; exact Nat.le_refl _⟩
  have := s.ls
  simp only [PyData.leavesShort, decide_eq_true_eq] at this ⊢
  omega
theorem bk_s {c : Str} {n : Nat} (h : PyData.strOk c = true ∧ c.length ≤ n) : Bk (.str c) n 0 := by
  refine ⟨by simp only [PyData.showable], ?_, ?_, ?_⟩
  · exact PyData.leavesShort_of_canLay0 241 (.str c) (by simp only [PyData.canLay0]; exact h.1) (by simp only [PyData.intsShort])
  · simp only [PyData.bulk]; exact h.2
  · simp only [PyData.depth]; exact Nat.le_refl _
theorem bk_kw (x : Str) (h : PyData.strOk x = true ∧ x.length ≤ 6) : Bk (.str x) 6 0 := bk_s h
def exB : Nat → Nat
  | 0 => 20
  | n + 1 => 2 * exB n + 10
theorem exB_ge : ∀ n, 20 ≤ exB n
  | 0 => Nat.le_refl _
  | n + 1 => by have := exB_ge n; simp only [exB]; omega
section
variable {N : List Str} (hN : ∀ x ∈ N, x.length ≤ 20)
include hN
theorem Ex.bk : ∀ {e : Ex} (n : Nat), e.ok → e.inN N → e.deep ≤ n + 1 → Bk e.d (exB n) n
  | .num i, n, h, _, _ => by
    have h : -99 ≤ i ∧ i ≤ 99 := h
    exact (bk_i (by omega)).mono (Nat.zero_le _) (Nat.zero_le _)
  | .var x, n, h, g, _ => (bk_s ⟨h.1, hN x g⟩).mono (exB_ge n) (Nat.zero_le _)
  | .plus a b, 0, h, _, d => absurd (show max a.deep b.deep + 1 ≤ 1 from d) (by have := a.deep_pos; omega)
  | .plus a b, n + 1, h, g, d => by
    have d : max a.deep b.deep + 1 ≤ n + 1 + 1 := d
    have ha := Ex.bk n (show a.ok ∧ b.ok from h).1 (show a.inN N ∧ b.inN N from g).1 (by omega)
    have hb := Ex.bk n (show a.ok ∧ b.ok from h).2 (show a.inN N ∧ b.inN N from g).2 (by omega)
    exact (bk_tup (bks_cons ((bk_kw "plus" (by decide +kernel)).mono (Nat.le_refl _) (Nat.zero_le _)) (bks_cons ha (bks_cons hb (bks_nil.mono (Nat.le_refl _) (Nat.zero_le _)))))).mono (by simp only [exB]; omega) (Nat.le_refl _)
  | .minus a b, 0, h, _, d => absurd (show max a.deep b.deep + 1 ≤ 1 from d) (by have := a.deep_pos; omega)
  | .minus a b, n + 1, h, g, d => by
    have d : max a.deep b.deep + 1 ≤ n + 1 + 1 := d
    have ha := Ex.bk n (show a.ok ∧ b.ok from h).1 (show a.inN N ∧ b.inN N from g).1 (by omega)
    have hb := Ex.bk n (show a.ok ∧ b.ok from h).2 (show a.inN N ∧ b.inN N from g).2 (by omega)
    exact (bk_tup (bks_cons ((bk_kw "minus" (by decide +kernel)).mono (Nat.le_refl _) (Nat.zero_le _)) (bks_cons ha (bks_cons hb (bks_nil.mono (Nat.le_refl _) (Nat.zero_le _)))))).mono (by simp only [exB]; omega) (Nat.le_refl _)
  | .times k a, 0, h, _, d => absurd (show a.deep + 1 ≤ 1 from d) (by have := a.deep_pos; omega)
  | .times k a, n + 1, h, g, d => by
    have d : a.deep + 1 ≤ n + 1 + 1 := d
    obtain ⟨h1, h2, h3⟩ := (show -9 ≤ k ∧ k ≤ 9 ∧ a.ok from h)
    have ha := Ex.bk n h3 (show a.inN N from g) (by omega)
    have := exB_ge n
    exact (bk_tup (bks_cons ((bk_kw "times" (by decide +kernel)).mono (Nat.le_refl _) (Nat.zero_le _)) (bks_cons ((bk_i (i := k) (by omega)).mono (Nat.le_refl _) (Nat.zero_le _)) (bks_cons ha (bks_nil.mono (Nat.le_refl _) (Nat.zero_le _)))))).mono (by simp only [exB]; omega) (Nat.le_refl _)
theorem Ex.bk3 {e : Ex} (h : e.ok) (g : e.inN N) (d : e.deep ≤ 3) : Bk e.d 110 2 := (Ex.bk hN 2 h g d).mono (by decide) (Nat.le_refl _)
theorem Ts.bk : ∀ {t : Ts}, t.ok → t.inN N → Bk t.d (230 + 8 * t.nots) (3 + t.nots)
  | .less a b, h, g => by
    obtain ⟨⟨o1, d1⟩, o2, d2⟩ := (show (a.ok ∧ a.deep ≤ 3) ∧ b.ok ∧ b.deep ≤ 3 from h)
    obtain ⟨g1, g2⟩ := (show a.inN N ∧ b.inN N from g)
    exact (bk_tup (bks_cons ((bk_kw "less" (by decide +kernel)).mono (Nat.le_refl _) (Nat.zero_le _)) (bks_cons (Ex.bk3 hN o1 g1 d1) (bks_cons (Ex.bk3 hN o2 g2 d2) (bks_nil.mono (Nat.le_refl _) (Nat.zero_le _)))))).mono (by simp only [Ts.nots]; omega) (by simp only [Ts.nots]; omega)
  | .odd a, h, g => by
    obtain ⟨o1, d1⟩ := (show a.ok ∧ a.deep ≤ 3 from h)
    exact (bk_tup (bks_cons ((bk_kw "odd" (by decide +kernel)).mono (Nat.le_refl _) (Nat.zero_le _)) (bks_cons (Ex.bk3 hN o1 (show a.inN N from g) d1) (bks_nil.mono (Nat.le_refl _) (Nat.zero_le _))))).mono (by simp only [Ts.nots]; omega) (by simp only [Ts.nots]; omega)
  | .not t, h, g => by
    have ih := Ts.bk (t := t) h (show t.inN N from g)
    exact (bk_tup (bks_cons ((bk_kw "not" (by decide +kernel)).mono (Nat.le_refl _) (Nat.zero_le _)) (bks_cons ih (bks_nil.mono (Nat.le_refl _) (Nat.zero_le _))))).mono (by simp only [Ts.nots]; omega) (by simp only [Ts.nots]; omega)
mutual
theorem Sm.bk : ∀ {s : Sm}, s.ok → s.inN N → Bk s.d (300 * s.pl - 1) (6 + 2 * s.nest)
  | .ite t y n, h, g => by
    simp only [Sm.ok] at h
    simp only [Sm.inN] at g
    have ht := Ts.bk hN h.1 g.1
    have hy := bk_tup (Sm.bks h.2.2.1 g.2.1)
    have hn := bk_tup (Sm.bks h.2.2.2 g.2.2)
    simp only [Sm.d, Sm.pl, Sm.nest]
    exact (bk_tup (D := 5 + 2 * (max (Sm.nests y) (Sm.nests n) + 1)) (bks_cons ((bk_kw "if" (by decide +kernel)).mono (Nat.le_refl _) (Nat.zero_le _)) (bks_cons (ht.mono (Nat.le_refl _) (by omega)) (bks_cons (hy.mono (Nat.le_refl _) (by omega)) (bks_cons (hn.mono (Nat.le_refl _) (by omega)) (bks_nil.mono (Nat.le_refl _) (Nat.zero_le _))))))).mono (by omega) (by omega)
  | .rep k b, h, g => by
    simp only [Sm.ok] at h
    simp only [Sm.inN] at g
    have hb := bk_tup (Sm.bks h.2 g)
    simp only [Sm.d, Sm.pl, Sm.nest]
    exact (bk_tup (D := 5 + 2 * (Sm.nests b + 1)) (bks_cons ((bk_kw "repeat" (by decide +kernel)).mono (Nat.le_refl _) (Nat.zero_le _)) (bks_cons ((bk_i (i := (k : Int)) (by omega)).mono (Nat.le_refl _) (Nat.zero_le _)) (bks_cons (hb.mono (Nat.le_refl _) (by omega)) (bks_nil.mono (Nat.le_refl _) (Nat.zero_le _)))))).mono (by omega) (by omega)
  | .set x e, h, g => by
    simp only [Sm.ok] at h
    simp only [Sm.inN] at g
    simp only [Sm.d, Sm.pl, Sm.nest]
    exact (bk_tup (bks_cons ((bk_kw "set" (by decide +kernel)).mono (Nat.le_refl _) (Nat.zero_le _)) (bks_cons ((bk_s (n := 20) ⟨h.2.1, hN x g.2⟩).mono (Nat.le_refl _) (Nat.zero_le _)) (bks_cons (Ex.bk3 hN h.1.1 g.1 h.1.2) (bks_nil.mono (Nat.le_refl _) (Nat.zero_le _)))))).mono (by omega) (by omega)
  | .half x e, h, g => by
    simp only [Sm.ok] at h
    simp only [Sm.inN] at g
    simp only [Sm.d, Sm.pl, Sm.nest]
    exact (bk_tup (bks_cons ((bk_kw "half" (by decide +kernel)).mono (Nat.le_refl _) (Nat.zero_le _)) (bks_cons ((bk_s (n := 20) ⟨h.2.1, hN x g.2⟩).mono (Nat.le_refl _) (Nat.zero_le _)) (bks_cons (Ex.bk3 hN h.1.1 g.1 h.1.2) (bks_nil.mono (Nat.le_refl _) (Nat.zero_le _)))))).mono (by omega) (by omega)
  | .tell e, h, g => by
    simp only [Sm.ok] at h
    simp only [Sm.inN] at g
    simp only [Sm.d, Sm.pl, Sm.nest]
    exact (bk_tup (bks_cons ((bk_kw "tell" (by decide +kernel)).mono (Nat.le_refl _) (Nat.zero_le _)) (bks_cons (Ex.bk3 hN h.1 g h.2) (bks_nil.mono (Nat.le_refl _) (Nat.zero_le _))))).mono (by omega) (by omega)
  | .say c, h, _ => by
    simp only [Sm.ok] at h
    simp only [Sm.d, Sm.pl, Sm.nest]
    exact (bk_tup (D := 0) (bks_cons (bk_kw "say" (by decide +kernel)) (bks_cons (bk_s h) bks_nil))).mono (by omega) (by omega)
  | .stop c, h, _ => by
    simp only [Sm.ok] at h
    simp only [Sm.d, Sm.pl, Sm.nest]
    exact (bk_tup (D := 0) (bks_cons (bk_kw "stop" (by decide +kernel)) (bks_cons (bk_s h) bks_nil))).mono (by omega) (by omega)
theorem Sm.bks : ∀ {b : List Sm}, Sm.oks b → Sm.insN N b → Bks (Sm.ds b) (300 * Sm.pls b) (6 + 2 * Sm.nests b)
  | [], _, _ => by simp only [Sm.ds]; exact bks_nil.mono (Nat.zero_le _) (Nat.zero_le _)
  | s :: r, h, g => by
    simp only [Sm.oks] at h
    simp only [Sm.insN] at g
    have h1 := Sm.bk h.1 g.1
    have h2 := Sm.bks h.2 g.2
    have := s.pl_pos
    simp only [Sm.ds, Sm.pls, Sm.nests]
    exact (bks_cons (h1.mono (Nat.le_refl _) (show 6 + 2 * s.nest ≤ 6 + 2 * max s.nest (Sm.nests r) by omega)) (h2.mono (Nat.le_refl _) (by omega))).mono (by omega) (Nat.le_refl _)
end
end
theorem nms_short {L R : Str} (h : LR L R) : ∀ x ∈ nmsOf L R, x.length ≤ 20 := by
  have a := h.ll
  have b := h.rl
  have one : ("n" : Str).length = 1 ∧ ("q" : Str).length = 1 ∧ ("x" : Str).length = 1 ∧ ("z" : Str).length = 1 := by decide +kernel
  obtain ⟨o1, o2, o3, o4⟩ := one
  intro x hx
  simp only [nmsOf, List.mem_cons, List.not_mem_nil, or_false] at hx
  rcases hx with rfl | rfl | rfl | rfl
  · omega
  all_goals
    rw [Str.length_append, Str.length_append]
    omega
/-- values that can be asked and shown -/
structure Vo (d : PyData) : Prop where
  sz : Szd d
  ds : dsz d ≤ 1000000
  sw : Shw d
structure Vw (d : PyData) (Z W D : Nat) : Prop where
  sz : Szd d
  ds : dsz d ≤ Z
  bk : Bk d W D
theorem Vw.bent {d d' : PyData} {Z W D : Nat} (h : Vw d Z W D) (b : Bent d d') : Vw d' (2 * Z + 100) (2 * W + 300) (D + 12) := by
  have := h.ds
  have := h.bk.bk
  have := h.bk.dp
  have b2 := b.ds
  have b5 := b.bk
  have b6 := b.dp
  exact ⟨b.sz h.sz, by omega, b.sh h.bk.sh, b.ls h.bk.ls, by omega, by omega⟩
theorem OddD.vw {d : PyData} (h : OddD d) : Vw d 100 300 12 := ⟨h.sz, h.ds, h.bk⟩
/-! ### statements of any sort (k28) -/
section
variable {X : Cx} {K : PySem.W.Frag}
theorem pg_lst28 {es : List Expr} {k : Nat} {t : TGs} {n : Nat} {pos : Pos} (hK : X.K = K) (hc : X.calm = true) (h : PGs X es t) (hn : (assignEach es X.env).length = n := by rfl) (hst : (assignEach es X.env).findIdx? (·.1) = none := by rfl) : PG X (.Tuple es k pos) (gLst K n t) := hK ▸ pg_lst hc h hn hst
end
/-- names that are short -/
def Shorts (N : List Str) : Prop := ∀ x ∈ N, PyData.strOk x = true ∧ x.length ≤ 20
def spDeep : Sp := fun vs H Q _ => ∃ (a c nm : Addr) (m k : Int) (names : List Str), vs = [.ref a, .ref nm, .int k] ∧ 1 ≤ k ∧ k ≤ 4 ∧ Deck H a c m ∧ m ≤ 800000000 ∧ Nms H nm a c names ∧ Shorts names ∧
  ∀ (v : V) (d : PyData) (H' : Hp) (m' : Int), Tq H' d v → Vw d 20 200 3 → m ≤ m' → m' ≤ m + 10 → Deck H' a c m' → Kp [a, c] H H' → Q v H'
def spKept : Sp := fun vs H Q _ => vs = [] ∧ ∀ (p : Addr) (H' : Hp), H p = none → H' p = some (.lst KEPTS) → Kp [] H H' → Q (.ref p) H'
def spStmt28 : Sp := fun vs H Q _ => ∃ (a c nm : Addr) (m : Int) (names : List Str), vs = [.ref a, .ref nm] ∧ Deck H a c m ∧ m ≤ 700000000 ∧ Nms H nm a c names ∧ Shorts names ∧ 2 ≤ names.length ∧
  ∀ (v : V) (d : PyData) (H' : Hp) (m' : Int), Tq H' d v → Vw d 300 2000 12 → m ≤ m' → m' ≤ m + 100 → Deck H' a c m' → Kp [a, c] H H' → Q v H'
theorem vw_str {z : Str} {n : Nat} (h : PyData.strOk z = true ∧ z.length ≤ n) (hn : n ≤ 1000000) : Vw (.str z) 1 n 0 := ⟨by simp only [Szd]; omega, by simp only [dsz]; omega, bk_s h⟩
theorem vw_int {i : Int} (h : i.natAbs < 1000) : Vw (.int i) 1 0 0 := ⟨by simp only [Szd], by simp only [dsz]; omega, bk_i h⟩
theorem Vw.mono {d : PyData} {Z W D Z' W' D' : Nat} (h : Vw d Z W D) (a : Z ≤ Z') (b : W ≤ W') (c : D ≤ D') : Vw d Z' W' D' := ⟨h.sz, Nat.le_trans h.ds a, h.bk.mono b c⟩
structure Vws (l : List PyData) (Z W D : Nat) : Prop where
  sz : Szds l
  ds : dszs l ≤ Z
  bk : Bks l W D
theorem vws_nil : Vws [] 0 0 0 := ⟨by simp only [Szds], by simp only [dszs]; omega, bks_nil⟩
theorem vws_cons {d : PyData} {ds : List PyData} {Z W D Z' W' D' : Nat} (h : Vw d Z W D) (t : Vws ds Z' W' D') : Vws (d :: ds) (Z + Z') (W + 1 + W') (max D D') := by
  refine ⟨by simp only [Szds]; exact ⟨h.sz, t.sz⟩, ?_, bks_cons (h.bk.mono (Nat.le_refl _) (by omega)) (t.bk.mono (Nat.le_refl _) (by omega))⟩
  have := h.ds
  have := t.ds
  simp only [dszs]
  omega
theorem vw_tup {ds : List PyData} {Z W D : Nat} (t : Vws ds Z W D) : Vw (.tuple ds) (Z + 1) W (D + 1) := by
  refine ⟨by simp only [Szd]; exact t.sz, ?_, bk_tup t.bk⟩
  have := t.ds
  simp only [dsz]
  omega
theorem Vws.mono {d : List PyData} {Z W D Z' W' D' : Nat} (h : Vws d Z W D) (a : Z ≤ Z') (b : W ≤ W') (c : D ≤ D') : Vws d Z' W' D' := ⟨h.sz, Nat.le_trans h.ds a, h.bk.mono b c⟩
theorem vws_take {Z W D : Nat} : ∀ {ds : List PyData} (n : Nat), Vws ds Z W D → Vws (ds.take n) Z W D
  | [], n, h => by rw [List.take_nil]; exact h
  | d :: r, 0, h => by rw [List.take_zero]; exact vws_nil.mono (Nat.zero_le _) (Nat.zero_le _) (Nat.zero_le _)
  | d :: r, n + 1, h => by
    obtain ⟨h1, h2, h3, h4, h5, h6⟩ := h
    simp only [Szds] at h1
    simp only [dszs] at h2
    simp only [PyData.showableAll, Bool.and_eq_true] at h3
    simp only [PyData.leavesShortAll, Bool.and_eq_true] at h4
    simp only [PyData.bulkAll] at h5
    simp only [PyData.depthAll] at h6
    have t := vws_take (Z := dszs r) (W := PyData.bulkAll r) (D := PyData.depthAll r) n ⟨h1.2, Nat.le_refl _, h3.2, h4.2, Nat.le_refl _, Nat.le_refl _⟩
    rw [List.take_succ_cons]
    have := vws_cons (d := d) (Z := dsz d) (W := d.bulk) (D := d.depth) ⟨h1.1, Nat.le_refl _, h3.1, h4.1, Nat.le_refl _, Nat.le_refl _⟩ t
    exact this.mono (by omega) (by omega) (by omega)
theorem nms_shorts {L R : Str} (h : LR L R) : Shorts (nmsOf L R) := fun x hx => ⟨(h.oks x hx).1, nms_short h x hx⟩
theorem kept_vw {x : V} (h : x ∈ KEPTS) : ∃ z : Str, x = .str z ∧ Vw (.str z) 1 8 0 := by
  have : ∀ y ∈ (["half", "tell", "say", "stop", "if", "else", "repeat", "pass", "odd", "not", "program"] : List Str), PyData.strOk y = true ∧ y.length ≤ 8 := by decide +kernel
  have e : KEPTS = (["half", "tell", "say", "stop", "if", "else", "repeat", "pass", "odd", "not", "program"] : List Str).map V.str := rfl
  rw [e] at h
  obtain ⟨z, hz, rfl⟩ := List.mem_map.mp h
  exact ⟨z, rfl, vw_str (this z hz) (by omega)⟩
theorem pick_vw {names : List Str} {i j : Int} {x : V} (sh : Shorts names) (hi : i.natAbs < 1000) (hj : j.natAbs < 1000) (h : x ∈ names.map V.str ++ [V.int i, V.int j]) : ∃ d, (∀ H, Tq H d x) ∧ Vw d 1 20 0 := by
  rcases List.mem_append.mp h with h | h
  · obtain ⟨z, hz, rfl⟩ := List.mem_map.mp h
    exact ⟨.str z, fun _ => mq_str, vw_str (sh z hz) (by omega)⟩
  · simp only [List.mem_cons, List.not_mem_nil, or_false] at h
    rcases h with rfl | rfl
    · exact ⟨.int i, fun _ => mq_int, (vw_int hi).mono (by omega) (by omega) (by omega)⟩
    · exact ⟨.int j, fun _ => mq_int, (vw_int hj).mono (by omega) (by omega) (by omega)⟩
theorem vw_op (k : Str) (hk : PyData.strOk k = true ∧ k.length ≤ 6) {d e : PyData} {Z W D Z' W' D' : Nat} (h : Vw d Z W D) (g : Vw e Z' W' D') : Vw (.tuple [.str k, d, e]) (Z + Z' + 2) (W + W' + 9) (max D D' + 1) :=
  (vw_tup (vws_cons (vw_str (n := 6) hk (by omega)) (vws_cons h (vws_cons g vws_nil)))).mono (by omega) (by omega) (by omega)
theorem vw_if {t y n : PyData} {Z W D Z' W' D' Z2 W2 D2 : Nat} (h : Vw t Z W D) (g : Vw y Z' W' D') (f : Vw n Z2 W2 D2) : Vw (.tuple [.str "if", t, y, n]) (Z + (Z' + Z2) + 2) (W + (W' + W2) + 10) (max D (max D' D2) + 1) :=
  (vw_tup (vws_cons (vw_str (n := 6) (z := "if") (by decide +kernel) (by omega)) (vws_cons h (vws_cons g (vws_cons f vws_nil))))).mono (by omega) (by omega) (by omega)
theorem vw_un (k : Str) (hk : PyData.strOk k = true ∧ k.length ≤ 6) {d : PyData} {Z W D : Nat} (h : Vw d Z W D) : Vw (.tuple [.str k, d]) (Z + 2) (W + 8) (D + 1) :=
  (vw_tup (vws_cons (vw_str (n := 6) hk (by omega)) (vws_cons h vws_nil))).mono (by omega) (by omega) (by omega)
/-! ### programs whose names are right, and whose blocks lie in order -/
section
variable {N : List Str} (hN : ∀ x ∈ N, nameB (.str x) = true)
include hN
end
/-! ### drawn names are right -/
theorem sc_is_whole : FnScope ["value", "least", "most"] ["value", "least", "most"] (defScope s_is_whole) := ⟨rfl, rfl, rfl, by decide +kernel, rfl, by decide +kernel, by decide +kernel⟩
theorem sc_is_word : FnScope ["value", "sign"] ["value"] (defScope s_is_word) := ⟨rfl, rfl, rfl, by decide +kernel, rfl, by decide +kernel, by decide +kernel⟩
theorem sc_is_name : FnScope ["value", "sign"] ["value"] (defScope s_is_name) := ⟨rfl, rfl, rfl, by decide +kernel, rfl, by decide +kernel, by decide +kernel⟩
theorem sc_is_expression : FnScope ["value", "left"] ["value", "left"] (defScope s_is_expression) := ⟨rfl, rfl, rfl, by decide +kernel, rfl, by decide +kernel, by decide +kernel⟩
theorem sc_is_test : FnScope ["value", "nots"] ["value", "nots"] (defScope s_is_test) := ⟨rfl, rfl, rfl, by decide +kernel, rfl, by decide +kernel, by decide +kernel⟩
theorem sc_is_plain : FnScope ["value"] ["value"] (defScope s_is_plain) := ⟨rfl, rfl, rfl, by decide +kernel, rfl, by decide +kernel, by decide +kernel⟩
theorem sc_is_statement : FnScope ["value"] ["value"] (defScope s_is_statement) := ⟨rfl, rfl, rfl, by decide +kernel, rfl, by decide +kernel, by decide +kernel⟩
theorem sc_blocks_of : FnScope ["statement"] ["statement"] (defScope s_blocks_of) := ⟨rfl, rfl, rfl, by decide +kernel, rfl, by decide +kernel, by decide +kernel⟩
theorem sc_items_within : FnScope ["statement", "depth", "found", "block", "item"] ["statement", "depth"] (defScope s_items_within) := ⟨rfl, rfl, rfl, by decide +kernel, rfl, by decide +kernel, by decide +kernel⟩
theorem sc_rows_of : FnScope ["program", "left", "found", "depth", "statement", "item"] ["program"] (defScope s_rows_of) := ⟨rfl, rfl, rfl, by decide +kernel, rfl, by decide +kernel, by decide +kernel⟩
theorem sc_order_error : FnScope ["value", "left", "place", "depth", "item"] ["value"] (defScope s_order_error) := ⟨rfl, rfl, rfl, by decide +kernel, rfl, by decide +kernel, by decide +kernel⟩
theorem sc_bare : FnScope ["test"] ["test"] (defScope s_bare) := ⟨rfl, rfl, rfl, by decide +kernel, rfl, by decide +kernel, by decide +kernel⟩
theorem sc_own_count : FnScope ["statement", "sort"] ["statement", "sort"] (defScope s_own_count) := ⟨rfl, rfl, rfl, by decide +kernel, rfl, by decide +kernel, by decide +kernel⟩
theorem sc_counted : FnScope ["block", "sort", "found", "statement", "inner", "part"] ["block", "sort"] (defScope s_counted) := ⟨rfl, rfl, rfl, by decide +kernel, rfl, by decide +kernel, by decide +kernel⟩
theorem sc_weight : FnScope ["program"] ["program"] (defScope s_weight) := ⟨rfl, rfl, rfl, by decide +kernel, rfl, by decide +kernel, by decide +kernel⟩
theorem sc_program_error : FnScope ["value", "found"] ["value"] (defScope s_program_error) := ⟨rfl, rfl, rfl, by decide +kernel, rfl, by decide +kernel, by decide +kernel⟩
theorem sc_l_deck : FnScope ["_law_script", "_law_cell"] ["_law_script"] (defScope s_l_deck) := ⟨rfl, rfl, rfl, by decide +kernel, rfl, by decide +kernel, by decide +kernel⟩
theorem sc_l_draw : FnScope ["_law_deck_here", "_law_many", "_law_cell", "_law_at", "_law_mixed"] ["_law_deck_here", "_law_many"] (defScope s_l_draw) := ⟨rfl, rfl, rfl, by decide +kernel, rfl, by decide +kernel, by decide +kernel⟩
theorem sc_l_one : FnScope ["_law_deck_here", "_law_items"] ["_law_deck_here", "_law_items"] (defScope s_l_one) := ⟨rfl, rfl, rfl, by decide +kernel, rfl, by decide +kernel, by decide +kernel⟩
theorem sc_l_names : FnScope ["_law_deck_here", "_law_letters_here", "_law_left", "_law_signs", "_law_right", "_law_k"] ["_law_deck_here"] (defScope s_l_names) := ⟨rfl, rfl, rfl, by decide +kernel, rfl, by decide +kernel, by decide +kernel⟩
theorem sc_l_whole : FnScope ["_law_value", "_law_least", "_law_most"] ["_law_value", "_law_least", "_law_most"] (defScope s_l_whole) := ⟨rfl, rfl, rfl, by decide +kernel, rfl, by decide +kernel, by decide +kernel⟩
theorem sc_l_letters : FnScope ["_law_value", "_law_most", "_law_sign"] ["_law_value", "_law_most"] (defScope s_l_letters) := ⟨rfl, rfl, rfl, by decide +kernel, rfl, by decide +kernel, by decide +kernel⟩
theorem sc_l_is_name : FnScope ["_law_value", "_law_kept_here"] ["_law_value"] (defScope s_l_is_name) := ⟨rfl, rfl, rfl, by decide +kernel, rfl, by decide +kernel, by decide +kernel⟩
theorem sc_l_is_expression : FnScope ["_law_value", "_law_deep_here"] ["_law_value", "_law_deep_here"] (defScope s_l_is_expression) := ⟨rfl, rfl, rfl, by decide +kernel, rfl, by decide +kernel, by decide +kernel⟩
theorem sc_l_is_test : FnScope ["_law_value", "_law_nots", "_law_part"] ["_law_value", "_law_nots"] (defScope s_l_is_test) := ⟨rfl, rfl, rfl, by decide +kernel, rfl, by decide +kernel, by decide +kernel⟩
theorem sc_l_is_statement : FnScope ["_law_value", "_law_sizes"] ["_law_value"] (defScope s_l_is_statement) := ⟨rfl, rfl, rfl, by decide +kernel, rfl, by decide +kernel, by decide +kernel⟩
theorem sc_l_counts : FnScope ["_law_block", "_law_found", "_law_row", "_law_test", "_law_is_half", "_law_own", "_law_part", "_law_inner", "_law_times", "_law_k"] ["_law_block"] (defScope s_l_counts) := ⟨rfl, rfl, rfl, by decide +kernel, rfl, by decide +kernel, by decide +kernel⟩
theorem sc_l_error : FnScope ["_law_value", "_law_left", "_law_place", "_law_depth", "_law_row", "_law_inner", "_law_part", "_law_found", "_law_k", "_law_word", "_law_item"] ["_law_value"] (defScope s_l_error) := ⟨rfl, rfl, rfl, by decide +kernel, rfl, by decide +kernel, by decide +kernel⟩
theorem sc_l_odd : FnScope ["_law_deck_here", "_law_some"] ["_law_deck_here"] (defScope s_l_odd) := ⟨rfl, rfl, rfl, by decide +kernel, rfl, by decide +kernel, by decide +kernel⟩
theorem sc_l_bent : FnScope ["_law_deck_here", "_law_value", "_law_deep_here", "_law_at", "_law_way"] ["_law_deck_here", "_law_value", "_law_deep_here"] (defScope s_l_bent) := ⟨rfl, rfl, rfl, by decide +kernel, rfl, by decide +kernel, by decide +kernel⟩
theorem sc_l_deep : FnScope ["_law_deck_here", "_law_names_here", "_law_many", "_law_found", "_law_k", "_law_other"] ["_law_deck_here", "_law_names_here", "_law_many"] (defScope s_l_deep) := ⟨rfl, rfl, rfl, by decide +kernel, rfl, by decide +kernel, by decide +kernel⟩
theorem sc_l_kept : FnScope [] [] (defScope s_l_kept) := ⟨rfl, rfl, rfl, by decide +kernel, rfl, by decide +kernel, by decide +kernel⟩
theorem sc_l_statement : FnScope ["_law_deck_here", "_law_names_here", "_law_first", "_law_second", "_law_test", "_law_k", "_law_name", "_law_word", "_law_rows", "_law_some"] ["_law_deck_here", "_law_names_here"] (defScope s_l_statement) := ⟨rfl, rfl, rfl, by decide +kernel, rfl, by decide +kernel, by decide +kernel⟩
theorem sc_law : FnScope ["_law_script", "_law_deck_here", "_law_names_here", "_law_turn", "_law_row", "_law_bent_here", "_law_word", "_law_some", "_law_value", "_law_kept_here"] ["_law_script"] (defScope s_law) := ⟨rfl, rfl, rfl, by decide +kernel, rfl, by decide +kernel, by decide +kernel⟩
set_option genInjectivity false in
set_option genSizeOfSpec false in
structure Top (K : PySem.W.Frag) (mg : Str → Option Value) where
  is_whole : DA K mg "is_whole" s_is_whole ["value", "least", "most"]
  is_word : DA K mg "is_word" s_is_word ["value"]
  is_name : DA K mg "is_name" s_is_name ["value"]
  is_expression : DA K mg "is_expression" s_is_expression ["value", "left"]
  is_test : DA K mg "is_test" s_is_test ["value", "nots"]
  is_plain : DA K mg "is_plain" s_is_plain ["value"]
  is_statement : DA K mg "is_statement" s_is_statement ["value"]
  blocks_of : DA K mg "blocks_of" s_blocks_of ["statement"]
  items_within : DA K mg "items_within" s_items_within ["statement", "depth"]
  rows_of : DA K mg "rows_of" s_rows_of ["program"]
  order_error : DA K mg "order_error" s_order_error ["value"]
  bare : DA K mg "bare" s_bare ["test"]
  own_count : DA K mg "own_count" s_own_count ["statement", "sort"]
  counted : DA K mg "counted" s_counted ["block", "sort"]
  weight : DA K mg "weight" s_weight ["program"]
  program_error : DA K mg "program_error" s_program_error ["value"]
  l_deck : DA K mg "_law_deck" s_l_deck ["_law_script"]
  l_draw : DA K mg "_law_draw" s_l_draw ["_law_deck_here", "_law_many"]
  l_one : DA K mg "_law_one" s_l_one ["_law_deck_here", "_law_items"]
  l_names : DA K mg "_law_names" s_l_names ["_law_deck_here"]
  l_whole : DA K mg "_law_whole" s_l_whole ["_law_value", "_law_least", "_law_most"]
  l_letters : DA K mg "_law_letters" s_l_letters ["_law_value", "_law_most"]
  l_is_name : DA K mg "_law_is_name" s_l_is_name ["_law_value"]
  l_is_expression : DA K mg "_law_is_expression" s_l_is_expression ["_law_value", "_law_deep_here"]
  l_is_test : DA K mg "_law_is_test" s_l_is_test ["_law_value", "_law_nots"]
  l_is_statement : DA K mg "_law_is_statement" s_l_is_statement ["_law_value"]
  l_counts : DA K mg "_law_counts" s_l_counts ["_law_block"]
  l_error : DA K mg "_law_error" s_l_error ["_law_value"]
  l_odd : DA K mg "_law_odd" s_l_odd ["_law_deck_here"]
  l_bent : DA K mg "_law_bent" s_l_bent ["_law_deck_here", "_law_value", "_law_deep_here"]
  l_deep : DA K mg "_law_deep" s_l_deep ["_law_deck_here", "_law_names_here", "_law_many"]
  l_kept : DA K mg "_law_kept" s_l_kept []
  l_statement : DA K mg "_law_statement" s_l_statement ["_law_deck_here", "_law_names_here"]
  law : DA K mg "law" s_law ["_law_script"]
  t_MAX_NAME : Tok
  g_MAX_NAME : mg "MAX_NAME" = some (.int 8 t_MAX_NAME)
  t_MAX_WORD : Tok
  g_MAX_WORD : mg "MAX_WORD" = some (.int 8 t_MAX_WORD)
  t_MAX_TIMES : Tok
  g_MAX_TIMES : mg "MAX_TIMES" = some (.int 8 t_MAX_TIMES)
  t_MAX_DEEP : Tok
  g_MAX_DEEP : mg "MAX_DEEP" = some (.int 3 t_MAX_DEEP)
  t_MAX_NOTS : Tok
  g_MAX_NOTS : mg "MAX_NOTS" = some (.int 2 t_MAX_NOTS)
  t_MAX_PLACES : Tok
  g_MAX_PLACES : mg "MAX_PLACES" = some (.int 24 t_MAX_PLACES)
  t_MAX_WEIGHT : Tok
  g_MAX_WEIGHT : mg "MAX_WEIGHT" = some (.int 60 t_MAX_WEIGHT)
  t_MAX_HALVINGS : Tok
  g_MAX_HALVINGS : mg "MAX_HALVINGS" = some (.int 4 t_MAX_HALVINGS)
  t_MAX_COMPARINGS : Tok
  g_MAX_COMPARINGS : mg "MAX_COMPARINGS" = some (.int 3 t_MAX_COMPARINGS)
  t_MAX_NEST : Tok
  g_MAX_NEST : mg "MAX_NEST" = some (.int 3 t_MAX_NEST)
  t_LETTERS : Tok
  g_LETTERS : mg "LETTERS" = some (.str "abcdefghijklmnopqrstuvwxyz" t_LETTERS)
  t_SIGNS : Tok
  g_SIGNS : mg "SIGNS" = some (.str "abcdefghijklmnopqrstuvwxyz0123456789" t_SIGNS)
  t_MOST_NUMBER : Tok
  g_MOST_NUMBER : mg "MOST_NUMBER" = some (.int 99 t_MOST_NUMBER)
  t_MOST_FACTOR : Tok
  g_MOST_FACTOR : mg "MOST_FACTOR" = some (.int 9 t_MOST_FACTOR)
  KEPT : Addr
  g_KEPT : mg "KEPT" = some (.ref KEPT)
  q_KEPT : ∀ H, SqT K H KEPT [.str "half", .str "tell", .str "say", .str "stop", .str "if", .str "else", .str "repeat", .str "pass", .str "odd", .str "not", .str "program"]
  abs : mg "abs" = none
  all : mg "all" = none
  bool : mg "bool" = none
  enumerate : mg "enumerate" = none
  int : mg "int" = none
  isinstance : mg "isinstance" = none
  len : mg "len" = none
  list : mg "list" = none
  max : mg "max" = none
  range : mg "range" = none
  repr : mg "repr" = none
  str : mg "str" = none
  sum : mg "sum" = none
  tuple : mg "tuple" = none
end EH
namespace EH
open PySem L2
local macro_rules | `(tactic| walk_at "sd") => `(tactic| first | assumption | ((with_reducible show (_ : Int) ≤ _); omega) | ((with_reducible show (_ : Int) < _); omega) | rfl | exact SqL.of (by assumption) | exact SqT.of (by assumption) | exact atI_nat (j := 0) rfl | exact atI_nat (j := 1) rfl | exact atI_nat (j := 2) rfl | exact atI_nat (j := 3) rfl | exact sz_lit rfl | exact lt_lit rfl | exact pos_lit rfl | exact le_lit rfl | exact Or.inl (SqL.of (by assumption)) | exact ⟨_, SqL.of (by assumption)⟩ | exact ⟨_, SqT.of (by assumption)⟩ | exact Or.inr (SqT.of (by assumption)) | exact ClsV.ty _ | exact TyX.base (TyOf.int _) | exact TyX.base (TyOf.str _) | exact TyX.base (TyOf.tup (by assumption)) | exact kit_ty isi_ss | exact kit_ty isi_is | exact kit_ty isi_ts | exact kit_ty isi_si | exact kit_ty isi_ii | exact kit_ty isi_ti | exact kit_ty isi_st | exact kit_ty isi_it | exact kit_ty isi_tt | exact Or.inl ⟨_, Or.inl (by assumption)⟩ | exact DGet.k (k := Sum.inr _) (by assumption) | exact DGet.k (k := Sum.inl _) (by assumption) | (refine cpow_of ?_; decide) | (refine cmul_of ?_; decide) | (show (_ : Int) ≠ 0; first | decide | omega) | (refine cdivn_of ?_; decide) | exact Or.inl ⟨rfl, _, SqL.of (by assumption)⟩ | omega)
local macro_rules | `(tactic| walk_at "st") => `(tactic| first | (apply Exists.intro) | (refine And.intro ?_ ?_; focus (walk_at "sd")) | (apply Or.inl; apply Exists.intro; refine And.intro ?_ ?_; focus rfl) | (apply Or.inr; apply Exists.intro; refine And.intro ?_ ?_; focus rfl))
local macro_rules | `(tactic| walk_at "go") => `(tactic| repeat (walk_at "st"))
section
variable {P : Program} {w : World} {K : PySem.W.Frag} {mg : Str → Option Value} {base : Heap}
theorem ok_l_draw (T : Top K mg) {k : Nat} : FnOk P w K mg base CX0 (k + 1) T.l_draw.f T.l_draw.fd ["_law_deck_here", "_law_many"] spDraw := by
  refine T.l_draw.F.ok sc_l_draw (fun vs H Q E h => ?_) (fun cdv A outer s H vs Q E hr h => ?_)
  · obtain ⟨a, c, n, many, rfl, _⟩ := h
    rfl
  obtain ⟨a, c, n, many, rfl, hD, hn, hm, hm2, q⟩ := h
  refine ⟨_, (pss_cons (ps_asg (pe_op op_add (pe_ix (ix_listK (K := K) rfl) (pv 0) pe_int (fun _ _ => rfl)) pe_int) (pg_sub (pv 0) pe_int set_listA))
      (pss_cons (ps_asg (pe_tupA (pa_cons pe_int (pa_cons (pe_un un_neg pe_int) pa_nil))) (pg_tup (by rfl) (pgs_cons (pg_name (i := 2) sc_l_draw.nd rfl (.inl rfl)) (pgs_cons (pg_name (i := 3) sc_l_draw.nd rfl (.inl rfl)) pgs_nil))))
      (pss_cons (ps_if (pt_cmpR op_gt (pe_callB (id := "len") (call_lenK (K := K) rfl) (by rfl) T.len PySem.boot_len (pa_cons (pe_ix (ix_listK (K := K) rfl) (pv 0) pe_int (fun _ _ => rfl)) pa_nil)) pe_int (nomark _)) (pss_cons (ps_set (i := 3) sc_l_draw.nd rfl (.inl rfl) (pe_op op_modN (pe_callTy (T := "int") call_int1 (by rfl) T.int (by decide +kernel) (pa_cons (pe_ix (ix_listK (K := K) rfl) (pv 0) pe_int (fun _ _ => rfl)) pa_nil)) (pe_callB (id := "len") (call_lenK (K := K) rfl) (by rfl) T.len PySem.boot_len (pa_cons (pe_ix (ix_listK (K := K) rfl) (pv 0) pe_int (fun _ _ => rfl)) pa_nil))))
      (pss_one (ps_set (i := 2) sc_l_draw.nd rfl (.inl rfl) (pe_ix (ix_listK (K := K) rfl) (pe_ix (ix_listK (K := K) rfl) (pv 0) pe_int (fun _ _ => rfl)) (pv 3) (fun _ _ => rfl))))) pss_nil)
      (pss_cons (ps_if (pt_cmpR op_ge (pv 2) (pe_op op_pow pe_int pe_int) (nomark _)) (pss_cons (ps_asg (pe_op op_fdivW (pe_callTy (T := "int") call_int1 (by rfl) T.int (by decide +kernel) (pa_cons (pv 2) pa_nil)) (pv 1)) (pg_sub (pe_ix (ix_listK (K := K) rfl) (pv 0) pe_int (fun _ _ => rfl)) (pv 3) set_listA))
      (pss_one (ps_ret (pe_op op_modN (pe_callTy (T := "int") call_int1 (by rfl) T.int (by decide +kernel) (pa_cons (pv 2) pa_nil)) (pv 1))))) pss_nil)
      (pss_cons (ps_set (i := 4) sc_l_draw.nd rfl (.inl rfl) (pe_op op_add (pe_op op_add (pe_op op_modN (pe_callTy (T := "int") call_int1 (by rfl) T.int (by decide +kernel) (pa_cons (pv 2) pa_nil)) pe_int) (pe_op op_mul pe_int (pe_ix (ix_listK (K := K) rfl) (pv 0) pe_int (fun _ _ => rfl)))) pe_int))
      (pss_one (ps_ret (pe_op op_modN (pe_callTy (T := "int") call_int1 (by rfl) T.int (by decide +kernel) (pa_cons (pe_op op_modN (pe_callTy (T := "int") call_int1 (by rfl) T.int (by decide +kernel) (pa_cons (pe_op op_pow (pv 4) pe_int) pa_nil)) pe_int) pa_nil)) (pv 1))))))))), ?_⟩
  obtain ⟨cs, h1, h2, ok⟩ := hD.ex
  have hn1 : n ≤ 1000000000 := hn
  have nac : a ≠ c := hD.ne
  walk_at "go"
  intro H1 g1 k1
  replace g1 : H1 a = some (.lst [V.ref c, V.int (n + 1)]) := g1
  walk_at "go"
  intro t H2 ht e2
  have g2 := new_at e2
  have k2 := new_kp ht e2
  have a2 := k2.at g1
  have c1 := k1.keep _ _ h2 (ne1 nac.symm)
  have c2 := k2.at c1
  clear e2
  walk_at "go"
  have len1 : ((cs.map V.int).length : Int) = (cs.length : Int) := by rw [List.length_map]
  have l63 := ok.len
  have n0 := ok.n0
  refine ite2 (fun hc => ?_) (fun hc => ?_)
  · have hc1 : (0 : Int) < ((cs.map V.int).length : Int) := of_decide_eq_true hc
    have f0 := Int.fmod_nonneg_of_pos (a := n + 1) hc1
    have f1 := Int.fmod_lt_of_pos (a := n + 1) hc1
    obtain ⟨v, hv, vm⟩ := atI_mem f0 f1
    obtain ⟨x, xm, rfl⟩ := List.mem_map.mp vm
    have x0 := ok.pos x xm
    walk_at "go"
    refine ite2 (fun hd => ?_) (fun hd => ?_)
    · walk_at "go"
      refine ⟨⟨hm, Nat.lt_of_lt_of_le (PySem.Flt.log2_lt_of (by decide) hm2) (by decide)⟩, ?_⟩
      walk_at "go"
      refine ⟨ixN_nat f0 f1, ?_⟩
      intro H3 g3 k3
      walk_at "go"
      refine q _ H3 (Int.fmod_nonneg_of_pos _ hm) (Int.fmod_lt_of_pos _ hm) ⟨cs.set ((n + 1).fmod ((cs.map V.int).length : Int)).toNat (x / many), k3.keep _ _ a2 (ne1 nac), ?_, ?_, ?_, by omega⟩ ((((Kp.refl.step1 k1 (.inl (by simp))).step0 k2)).step1 k3 (.inl (by simp)))
      · rw [g3, List.map_set]
      · rw [List.length_set]
        exact l63
      · intro y hy
        rcases List.mem_or_eq_of_mem_set hy with hy | rfl
        · exact ok.pos y hy
        · exact Int.ediv_nonneg x0 (Int.le_of_lt hm)
    · walk_at "go"
      have m0 := Int.fmod_nonneg_of_pos x (b := 2147483563) (by decide)
      have m1 := Int.fmod_lt_of_pos x (b := 2147483563) (by decide)
      refine ⟨⟨by decide, by decide, ?_⟩, ?_⟩
      · show (x.fmod 2147483563 + 8117 * (n + 1) + 3).natAbs < 2 ^ 64
        have e : (2 : Nat) ^ 64 = 18446744073709551616 := by decide
        rw [e]
        omega
      walk_at "go"
      exact q _ H2 (Int.fmod_nonneg_of_pos _ hm) (Int.fmod_lt_of_pos _ hm) ⟨cs, a2, c2, l63, ok.pos, by omega⟩ ((Kp.refl.step1 k1 (.inl (by simp))).step0 k2)
  · walk_at "go"
    refine ⟨⟨by decide, by decide, ?_⟩, ?_⟩
    · show ((0 : Int).fmod 2147483563 + 8117 * (n + 1) + 3).natAbs < 2 ^ 64
      have e : (2 : Nat) ^ 64 = 18446744073709551616 := by decide
      have e2 : (0 : Int).fmod 2147483563 = 0 := by decide
      rw [e, e2]
      omega
    walk_at "go"
    exact q _ H2 (Int.fmod_nonneg_of_pos _ hm) (Int.fmod_lt_of_pos _ hm) ⟨cs, a2, c2, l63, ok.pos, by omega⟩ ((Kp.refl.step1 k1 (.inl (by simp))).step0 k2)
theorem ok_l_one2 (T : Top K mg) {k : Nat} : FnOk P w K mg base CX0 (k + 2) T.l_one.f T.l_one.fd ["_law_deck_here", "_law_items"] (spOne2 K) := by
  have G_l_draw : FnOk P w K mg base CX0 (k + 1) T.l_draw.f T.l_draw.fd ["_law_deck_here", "_law_many"] spDraw := ok_l_draw T
  refine T.l_one.F.ok sc_l_one (fun vs H Q E h => ?_) (fun cdv A outer s H vs Q E hr h => ?_)
  · rcases h with ⟨a, c, l, n, xs, rfl, _⟩ | ⟨a, c, n, z, rfl, _⟩ <;> rfl
  refine ⟨_, (pss_one (ps_ret (pe_ix (IxR.or (ix_listK (K := K) rfl) ix_str) (pv 1) (pe_call G_l_draw (hr.mono (by omega)) (by rfl) T.l_draw.g T.l_draw.F.kp T.l_draw.b .nil pass0 (pa_cons (pv 0) (pa_cons (pe_callB (id := "len") (CallR.or (call_lenK (K := K) rfl) call_len_str) (by rfl) T.len PySem.boot_len (pa_cons (pv 1) pa_nil)) pa_nil))) (fun _ _ => rfl)))), ?_⟩
  rcases h with ⟨a, c, l, n, xs, rfl, hD, hn, hS, hl, h0, hz, q⟩ | ⟨a, c, n, z, rfl, hD, hn, h0, hz, q⟩
  · refine ⟨_, rfl, _, rfl, _, rfl, .inl ⟨l, xs, rfl, .inl hS, a, c, n, _, rfl, hD, hn, by omega, pow1000 hz, fun r H1 r0 r1 D1 k1 => ?_⟩⟩
    obtain ⟨v, hv, vm⟩ := atI_mem r0 r1
    exact .inl ⟨l, xs, _, _, rfl, rfl, k1.seq hS hl, hv, q _ H1 vm D1 k1⟩
  · refine ⟨_, rfl, _, rfl, _, rfl, .inr ⟨z, rfl, sz_le hz, a, c, n, _, rfl, hD, hn, by omega, pow1000 hz, fun r H1 r0 r1 D1 k1 => ?_⟩⟩
    have r2 : r < (z.cps.toList.length : Int) := by rw [Array.length_toList]; exact r1
    obtain ⟨v, hv, vm⟩ := atI_mem r0 r2
    exact .inr ⟨z, _, v, rfl, rfl, sz_le hz, hv, q _ H1 vm D1 k1⟩
theorem ok_l_one (T : Top K mg) {k : Nat} : FnOk P w K mg base CX0 (k + 2) T.l_one.f T.l_one.fd ["_law_deck_here", "_law_items"] (spOne K) := (ok_l_one2 T).imp fun _ _ _ _ h => .inl h
theorem ok_l_oneS (T : Top K mg) {k : Nat} : FnOk P w K mg base CX0 (k + 2) T.l_one.f T.l_one.fd ["_law_deck_here", "_law_items"] spOneS := (ok_l_one2 T).imp fun _ _ _ _ h => .inr h
end
section
variable {P : Program} {w : World} {K : PySem.W.Frag} {mg : Str → Option Value} {base : Heap}
theorem ok_l_deck (T : Top K mg) {k : Nat} : FnOk P w K mg base CX0 (k + 1) T.l_deck.f T.l_deck.fd ["_law_script"] (spDeck K) := by
  refine T.l_deck.F.ok sc_l_deck (fun vs H Q E h => ?_) (fun cdv A outer s H vs Q E hr h => ?_)
  · obtain ⟨a, ns, rfl, _⟩ := h
    rfl
  obtain ⟨a, ns, rfl, hS, hl, q⟩ := h
  refine ⟨_, (pss_one (ps_ret (pe_lstA (pa_cons (pe_lc (own := [("_law_cell", 1)]) (by rfl) sc_l_deck.nd (pi_listK (K := K) rfl (pe_slice (sl_listK (K := K) rfl) (pv 0) po_none (po_some pe_int))) (blkOk_by (N := ["_law_script", "_law_cell"]) (sc := defScope s_l_deck) (own := [("_law_cell", 1)]) (by decide +kernel)) (fun _ _ _ _ _ => (pg_name (i := 1) sc_l_deck.nd rfl (.inl rfl))) (fun _ _ _ _ _ => pts_nil) (fun _ _ _ _ _ => (pe_callB (id := "abs") call_abs (by rfl) T.abs (by decide +kernel) (pa_cons (pv 1) pa_nil)))) (pa_cons pe_int pa_nil))))), ?_⟩
  have hc : cutV (ns.map V.int) none (some 63) = ns.map V.int := by
    apply cutV_whole
    refine ⟨rfl, ?_⟩
    show HT.sIx _ _ (some ((63 : Nat) : Int)) = _
    rw [HT.sIx_nat, List.length_map]
    omega
  walk_at "go"
  intro p H1 hp g1 k1
  rw [hc] at g1
  refine ⟨p, rfl, ⟨_, SqL.of g1⟩, fun D hD => ?_⟩
  refine lc_list (K := K) (a := p) (xs := ns.map V.int) (fun i H2 => Kp [D] H1 H2 ∧ H2 D = some (.lst ((ns.take i).map fun x => V.int (if x < 0 then -x else x)))) ⟨(Kp.new hD).sub (by simp), upd_same⟩ ?_ ?_ ?_
  · rintro i H2 _ ⟨k2, _⟩
    exact SqL.of (k2.keep _ _ g1 (ne1 (ne_of_none g1 hD)))
  · rintro i x H2 hx ⟨k2, d2⟩
    rw [List.getElem?_map] at hx
    cases e : ns[i]? with
    | none => rw [e] at hx; cases hx
    | some z =>
      rw [e] at hx
      cases hx
      have hz : (List.map (fun x => V.int (if x < 0 then -x else x)) (List.take i ns)).length < sizeLine := by
        rw [List.length_map, List.length_take]
        exact sz_lt (by omega)
      walk_at "go"
      refine ⟨k2.step1 (Kp.put d2 (fun _ y => by cases y)) (.inl (by simp)), ?_⟩
      rw [upd_same, List.take_add_one, e, List.map_append]
      rfl
  · rintro H2 ⟨k2, d2⟩
    rw [List.length_map, List.take_length] at d2
    walk_at "go"
    intro r H3 hr3 e3
    have k3 := new_kp hr3 e3
    have k4 : Kp [] H H3 := ((k1.step1 k2 (.inr (k1.free hD (by simp)))).step0 k3)
    refine q r D H3 (((k1.step1 k2 (.inr (k1.free hD (by simp))))).free hr3 (by simp)) (k1.free hD (by simp)) k4 ⟨⟨ns.map fun x => if x < 0 then -x else x, new_at e3, ?_, ?_, ?_, by decide⟩⟩
    · rw [k3.at d2, List.map_map]
      rfl
    · rw [List.length_map]
      exact hl
    · intro x hx
      obtain ⟨y, _, rfl⟩ := List.mem_map.mp hx
      split <;> omega
end
section
variable {P : Program} {w : World} {K : PySem.W.Frag} {mg : Str → Option Value} {base : Heap}
theorem ok_l_namesS (T : Top K mg) : FnOk P w K mg base CX0 4 T.l_names.f T.l_names.fd ["_law_deck_here"] spNamesS := by
  have G_l_draw : FnOk P w K mg base CX0 1 T.l_draw.f T.l_draw.fd ["_law_deck_here", "_law_many"] spDraw := ok_l_draw T
  have G_l_one : FnOk P w K mg base CX0 2 T.l_one.f T.l_one.fd ["_law_deck_here", "_law_items"] (spOne K) := ok_l_one T
  have G_l_oneS : FnOk P w K mg base CX0 2 T.l_one.f T.l_one.fd ["_law_deck_here", "_law_items"] spOneS := ok_l_oneS T
  refine T.l_names.F.ok sc_l_names (fun vs H Q E h => ?_) (fun cdv A outer s H vs Q E hr h => ?_)
  · obtain ⟨a, c, m, rfl, _⟩ := h
    rfl
  obtain ⟨a, c, m, rfl, D0, hm, q⟩ := h
  have hu64 := hr.units
  refine ⟨_, (pss_cons (ps_set (i := 1) sc_l_names.nd rfl (.inr rfl) pe_str)
      (pss_cons (ps_set (i := 2) sc_l_names.nd rfl (.inr rfl) (pe_joinA pe_str (pe_lc (own := [("_law_k", 5)]) (by rfl) sc_l_names.nd (pi_range1 (by rfl) T.range (pa_cons (pe_call G_l_draw (hr.mono (by omega)) (by rfl) T.l_draw.g T.l_draw.F.kp T.l_draw.b .nil pass0 (pa_cons (pv 0) (pa_cons pe_int pa_nil))) pa_nil)) (blkOk_by (N := ["_law_deck_here", "_law_letters_here", "_law_left", "_law_signs", "_law_right", "_law_k"]) (sc := defScope s_l_names) (own := [("_law_k", 5)]) (by decide +kernel)) (fun _ _ _ _ _ => (pg_name (i := 5) sc_l_names.nd rfl (.inl rfl))) (fun _ _ _ _ _ => pts_nil) (fun _ _ _ _ _ => (pe_call G_l_oneS (hr.mono (by omega)) (by rfl) T.l_one.g T.l_one.F.kp T.l_one.b .nil pass0 (pa_cons (pv 0) (pa_cons (pv 1) pa_nil)))))))
      (pss_cons (ps_set (i := 3) sc_l_names.nd rfl (.inr rfl) (pe_op op_add_str (pv 1) pe_str))
      (pss_cons (ps_set (i := 4) sc_l_names.nd rfl (.inr rfl) (pe_joinA pe_str (pe_lc (own := [("_law_k", 5)]) (by rfl) sc_l_names.nd (pi_range1 (by rfl) T.range (pa_cons (pe_call G_l_draw (hr.mono (by omega)) (by rfl) T.l_draw.g T.l_draw.F.kp T.l_draw.b .nil pass0 (pa_cons (pv 0) (pa_cons pe_int pa_nil))) pa_nil)) (blkOk_by (N := ["_law_deck_here", "_law_letters_here", "_law_left", "_law_signs", "_law_right", "_law_k"]) (sc := defScope s_l_names) (own := [("_law_k", 5)]) (by decide +kernel)) (fun _ _ _ _ _ => (pg_name (i := 5) sc_l_names.nd rfl (.inl rfl))) (fun _ _ _ _ _ => pts_nil) (fun _ _ _ _ _ => (pe_call G_l_oneS (hr.mono (by omega)) (by rfl) T.l_one.g T.l_one.F.kp T.l_one.b .nil pass0 (pa_cons (pv 0) (pa_cons (pv 3) pa_nil)))))))
      (pss_one (ps_ret (pe_op op_catL (pe_lstA (pa_cons pe_str pa_nil)) (pe_lc (own := [("_law_k", 5)]) (by rfl) sc_l_names.nd (pi_range1 (by rfl) T.range (pa_cons pe_int pa_nil)) (blkOk_by (N := ["_law_deck_here", "_law_letters_here", "_law_left", "_law_signs", "_law_right", "_law_k"]) (sc := defScope s_l_names) (own := [("_law_k", 5)]) (by decide +kernel)) (fun _ _ _ _ _ => (pg_name (i := 5) sc_l_names.nd rfl (.inl rfl))) (fun _ _ _ _ _ => pts_nil) (fun _ _ _ _ _ => (pe_op op_add_str (pe_op op_add_str (pv 2) (pe_ix ix_str pe_str (pv 5) (fun _ _ => rfl))) (pv 4))))))))))), ?_⟩
  have hmM : m ≤ MANY := by show m ≤ 1000000000; omega
  have sg : (Str.ofString "abcdefgijkmoqruvwxyz").length + (Str.ofString "0123456789").length ≤ sizeLine := by decide +kernel
  obtain ⟨ll, ll2⟩ : 0 < (Str.ofString "abcdefgijkmoqruvwxyz").length ∧ (Str.ofString "abcdefgijkmoqruvwxyz").length ≤ 1000000 := by decide +kernel
  obtain ⟨sl, sl2⟩ : 0 < (Str.ofString "abcdefgijkmoqruvwxyz" ++ Str.ofString "0123456789").length ∧ (Str.ofString "abcdefgijkmoqruvwxyz" ++ Str.ofString "0123456789").length ≤ 1000000 := by decide +kernel
  walk_at "go"
  refine ⟨⟨_, rfl⟩, ?_⟩
  walk_at "go"
  intro r H1 r0 r1 DK1 k1
  walk_at "go"
  intro D1 hD1
  have oD1 := DK1.off hD1
  have ac1 : a ∉ [D1] ∧ c ∉ [D1] := by
    simp only [List.mem_cons, List.not_mem_nil, or_false, not_or] at oD1 ⊢
    exact ⟨fun z => oD1.1 z.symm, fun z => oD1.2 z.symm⟩
  refine lc_range (lo := 0) (n := Int.toNat r) (fun i X2 => Kp [a, c] H1 X2 ∧ ∃ cs : List Nat, X2 D1 = some (.lst ((sgl cs).map V.str)) ∧ (∀ i ∈ cs, i ∈ (Str.ofString "abcdefgijkmoqruvwxyz").cps.toList) ∧ cs.length = i ∧ Deck X2 a c ((m + 1) + (i : Int))) ⟨(Kp.new hD1).sub (by simp), [], upd_same, (fun _ z => nomatch z), rfl, (DK1.kp0 (Kp.new hD1)).cast (by simp)⟩ ?_ ?_
  · rintro i X2 hi ⟨kk2, cs, d2, c2, l2, DD2⟩
    have hmM : (m + 1) + (i : Int) ≤ MANY := by show (m + 1) + (i : Int) ≤ 1000000000; omega
    walk_at "go"
    intro ch X3 hch DD3 kk3
    have d3 := kk3.keep _ _ d2 oD1
    have l3 : ((sgl cs).map V.str).length < sizeLine := by
      rw [List.length_map]
      unfold sgl
      rw [List.length_map]
      exact sz_lt (by omega)
    walk_at "go"
    have kk4 := Kp.put (u := .lst ((sgl cs).map V.str ++ [.str ⟨#[ch]⟩])) d3 (fun _ y => by cases y)
    refine ⟨(kk2.trans kk3).step1 kk4 (.inr hD1), cs ++ [ch], ?_, ?_, by rw [List.length_append, l2]; rfl, ((DD3.kp kk4 ac1.1 ac1.2)).cast (by omega)⟩
    · rw [upd_same]
      unfold sgl
      rw [List.map_append, List.map_append]
      rfl
    · intro j hj
      rcases List.mem_append.mp hj with h | h
      · exact c2 j h
      · cases List.mem_singleton.mp h
        exact hch
  rintro E1 ⟨kE1, cs1, d1, c1, l1, DE1⟩
  have j1 := sgl_ok cs1 (by omega)
  refine ⟨Str.ofString "", D1, sgl cs1, rfl, rfl, d1, j1, ?_⟩
  rw [join_sgl]
  walk_at "go"
  refine ⟨⟨_, rfl⟩, ?_⟩
  have hmM : m + 1 + (r.toNat : Int) ≤ MANY := by show m + 1 + (r.toNat : Int) ≤ 1000000000; omega
  walk_at "go"
  intro q0 H3 q00 q01 D3 k3
  walk_at "go"
  intro D2 hD2
  have oD2 := D3.off hD2
  have ac2 : a ∉ [D2] ∧ c ∉ [D2] := by
    simp only [List.mem_cons, List.not_mem_nil, or_false, not_or] at oD2 ⊢
    exact ⟨fun z => oD2.1 z.symm, fun z => oD2.2 z.symm⟩
  refine lc_range (lo := 0) (n := Int.toNat q0) (fun i X2 => Kp [a, c] H3 X2 ∧ ∃ cs : List Nat, X2 D2 = some (.lst ((sgl cs).map V.str)) ∧ (∀ i ∈ cs, i ∈ (Str.ofString "abcdefgijkmoqruvwxyz" ++ Str.ofString "0123456789").cps.toList) ∧ cs.length = i ∧ Deck X2 a c ((m + 1 + (r.toNat : Int) + 1) + (i : Int))) ⟨(Kp.new hD2).sub (by simp), [], upd_same, (fun _ z => nomatch z), rfl, (D3.kp0 (Kp.new hD2)).cast (by simp)⟩ ?_ ?_
  · rintro i X2 hi ⟨kk2, cs, d2, c2, l2, DD2⟩
    have hmM : (m + 1 + (r.toNat : Int) + 1) + (i : Int) ≤ MANY := by show (m + 1 + (r.toNat : Int) + 1) + (i : Int) ≤ 1000000000; omega
    walk_at "go"
    intro ch X3 hch DD3 kk3
    have d3 := kk3.keep _ _ d2 oD2
    have l3 : ((sgl cs).map V.str).length < sizeLine := by
      rw [List.length_map]
      unfold sgl
      rw [List.length_map]
      exact sz_lt (by omega)
    walk_at "go"
    have kk4 := Kp.put (u := .lst ((sgl cs).map V.str ++ [.str ⟨#[ch]⟩])) d3 (fun _ y => by cases y)
    refine ⟨(kk2.trans kk3).step1 kk4 (.inr hD2), cs ++ [ch], ?_, ?_, by rw [List.length_append, l2]; rfl, ((DD3.kp kk4 ac2.1 ac2.2)).cast (by omega)⟩
    · rw [upd_same]
      unfold sgl
      rw [List.map_append, List.map_append]
      rfl
    · intro j hj
      rcases List.mem_append.mp hj with h | h
      · exact c2 j h
      · cases List.mem_singleton.mp h
        exact hch
  rintro E2 ⟨kE2, cs2, d2, c2, l2, DE2⟩
  have j2 := sgl_ok cs2 (by omega)
  refine ⟨Str.ofString "", D2, sgl cs2, rfl, rfl, d2, j2, ?_⟩
  rw [join_sgl]
  have x : LR ⟨cs1.toArray⟩ ⟨cs2.toArray⟩ := ⟨c1, c2, by show cs1.toArray.size ≤ 8; rw [List.size_toArray]; omega, by show cs2.toArray.size ≤ 8; rw [List.size_toArray]; omega⟩
  have xs : (⟨cs1.toArray⟩ : Str).length ≤ 3 ∧ (⟨cs2.toArray⟩ : Str).length ≤ 4 := ⟨by show cs1.toArray.size ≤ 3; rw [List.size_toArray]; omega, by show cs2.toArray.size ≤ 4; rw [List.size_toArray]; omega⟩
  generalize hL : (⟨cs1.toArray⟩ : Str) = L at x xs
  generalize hR : (⟨cs2.toArray⟩ : Str) = R at x xs
  have xl := x.ll
  have xr := x.rl
  walk_at "go"
  intro u5 H5 hu5 e5
  have k5 := new_kp hu5 e5
  have a5 := new_at e5
  walk_at "go"
  intro D6 hD6
  have key : ∀ i : Nat, i < 3 → ∃ ch : Nat, atI ((Str.ofString "qxz").cps.toList) (0 + (i : Int)) = some ch ∧ (nmsOf L R).tail[i]? = some (L ++ ⟨#[ch]⟩ ++ R) := by
    intro i hi
    rcases (show i = 0 ∨ i = 1 ∨ i = 2 by omega) with rfl | rfl | rfl
    · exact ⟨113, by decide +kernel, by rw [show (⟨#[113]⟩ : Str) = "q" by decide +kernel]; rfl⟩
    · exact ⟨120, by decide +kernel, by rw [show (⟨#[120]⟩ : Str) = "x" by decide +kernel]; rfl⟩
    · exact ⟨122, by decide +kernel, by rw [show (⟨#[122]⟩ : Str) = "z" by decide +kernel]; rfl⟩
  refine lc_range (lo := 0) (n := Int.toNat 3) (fun i X2 => Kp [D6] H5 X2 ∧ X2 D6 = some (.lst (((nmsOf L R).tail.take i).map V.str))) ⟨(Kp.new hD6).sub (by simp), upd_same⟩ ?_ ?_
  · rintro i X2 hi ⟨kk2, d2⟩
    have hi3 : i < 3 := hi
    obtain ⟨ch, hat, hn⟩ := key i hi3
    have s1 : L.length + (⟨#[ch]⟩ : Str).length ≤ sizeLine := sz_le (show L.length + 1 ≤ 1000000 by omega)
    have e1 : (L ++ ⟨#[ch]⟩ : Str).length = L.length + 1 := by
      show (L.cps ++ #[ch]).size = L.cps.size + 1
      rw [Array.size_append]
      rfl
    have s2 : (L ++ ⟨#[ch]⟩ : Str).length + R.length ≤ sizeLine := sz_le (by omega)
    have l3 : (((nmsOf L R).tail.take i).map V.str).length < sizeLine := by
      rw [List.length_map, List.length_take]
      exact sz_lt (by omega)
    walk_at "go"
    have kk4 := Kp.put (u := .lst (((nmsOf L R).tail.take i).map V.str ++ [.str (L ++ ⟨#[ch]⟩ ++ R)])) d2 (fun _ y => by cases y)
    refine ⟨kk2.step1 kk4 (.inl (by simp)), ?_⟩
    rw [upd_same, List.take_add_one, hn, List.map_append]
    rfl
  · rintro X2 ⟨kk2, d2⟩
    have a5' := kk2.keep _ _ a5 (ne1 (ne_of_none a5 hD6))
    walk_at "go"
    intro nm H7 hnm a7 k7
    have kE : Kp [a, c] H E2 := ((k1.trans kE1).trans k3).trans kE2
    have k5E : Kp [a, c] H H5 := kE.step0 k5
    have oD6 := (DE2.kp0 k5).off hD6
    have ac6 : a ∉ [D6] ∧ c ∉ [D6] := by
      simp only [List.mem_cons, List.not_mem_nil, or_false, not_or] at oD6 ⊢
      exact ⟨fun z => oD6.1 z.symm, fun z => oD6.2 z.symm⟩
    have kX := k5E.step1 kk2 (.inr (k5E.free hD6 oD6))
    have DX := (DE2.kp0 k5).kp kk2 ac6.1 ac6.2
    refine q nm L R H7 _ (kX.free hnm (DX.off hnm)) x xs ⟨a7, DX.off hnm, ⟨by show 0 < 4; decide, by show 4 ≤ 1000; decide⟩, x.oks⟩ ?_ ?_ (DX.kp0 k7) (kX.step0 k7)
    · omega
    · omega
end
end EH
namespace EH
open PySem L2
local macro_rules | `(tactic| walk_at "sd") => `(tactic| first | assumption | ((with_reducible show (_ : Int) ≤ _); omega) | ((with_reducible show (_ : Int) < _); omega) | rfl | exact SqL.of (by assumption) | exact SqT.of (by assumption) | exact atI_nat (j := 0) rfl | exact atI_nat (j := 1) rfl | exact atI_nat (j := 2) rfl | exact atI_nat (j := 3) rfl | exact sz_lit rfl | exact lt_lit rfl | exact pos_lit rfl | exact le_lit rfl | exact Or.inl (SqL.of (by assumption)) | exact ⟨_, SqL.of (by assumption)⟩ | exact ⟨_, SqT.of (by assumption)⟩ | exact Or.inr (SqT.of (by assumption)) | exact ClsV.ty _ | exact TyX.base (TyOf.int _) | exact TyX.base (TyOf.str _) | exact TyX.base (TyOf.tup (by assumption)) | exact TyX.base (TyOf.frz (by assumption)) | exact TyX.fDict (by assumption) | exact TyX.base (TyOf.bl _) | exact TyX.base TyOf.non | exact kit_ty isi_lt | exact kit_ty isi_ls | exact kit_ty isi_li | exact kit_ty isi_lb | exact kit_ty isi_dt | exact kit_ty isi_ds | exact kit_ty isi_di | exact kit_ty isi_db | exact kit_ty isi_ss | exact kit_ty isi_is | exact kit_ty isi_ts | exact kit_ty isi_si | exact kit_ty isi_ii | exact kit_ty isi_ti | exact kit_ty isi_st | exact kit_ty isi_it | exact kit_ty isi_tt | exact TyX.base TyOf.non | exact TyX.base (TyOf.bl _) | exact kit_ty isi_bs | exact kit_ty isi_bi | exact kit_ty isi_bt | exact kit_ty isi_bb | exact kit_ty isi_ns | exact kit_ty isi_ni | exact kit_ty isi_nt | exact kit_ty isi_nb | exact kit_ty isi_sb | exact kit_ty isi_ib | exact kit_ty isi_tb | exact Or.inl ⟨_, Or.inl (by assumption)⟩ | exact DGet.k (k := Sum.inr _) (by assumption) | exact DGet.k (k := Sum.inl _) (by assumption) | (refine cpow_of ?_; decide) | (refine cmul_of ?_; decide) | (show (_ : Int) ≠ 0; first | decide | omega) | (refine cdivn_of ?_; decide) | exact Or.inl ⟨rfl, _, SqL.of (by assumption)⟩ | omega)
local macro_rules | `(tactic| walk_at "st") => `(tactic| first | (apply Exists.intro) | (refine And.intro ?_ ?_; focus (walk_at "sd")) | (apply Or.inl; apply Exists.intro; refine And.intro ?_ ?_; focus rfl) | (apply Or.inr; apply Exists.intro; refine And.intro ?_ ?_; focus rfl))
local macro_rules | `(tactic| walk_at "go") => `(tactic| repeat (walk_at "st"))
section
variable {P : Program} {w : World} {K : PySem.W.Frag} {mg : Str → Option Value} {base : Heap}
theorem ok_l_deep (T : Top K mg) : FnOk P w K mg base CX0 4 T.l_deep.f T.l_deep.fd ["_law_deck_here", "_law_names_here", "_law_many"] spDeep := by
  have G_l_draw : FnOk P w K mg base CX0 1 T.l_draw.f T.l_draw.fd ["_law_deck_here", "_law_many"] spDraw := ok_l_draw T
  have G_l_one : FnOk P w K mg base CX0 2 T.l_one.f T.l_one.fd ["_law_deck_here", "_law_items"] (spOne K) := ok_l_one T
  refine T.l_deep.F.ok sc_l_deep (fun vs H Q E h => ?_) (fun cdv A outer s H vs Q E hr h => ?_)
  · obtain ⟨a, c, nm, m, k, names, rfl, _⟩ := h
    rfl
  obtain ⟨a, c, nm, m, k, names, rfl, k1, k4, D0, hm, N0, sh, q⟩ := h
  refine ⟨_, (pss_cons (ps_set (i := 3) sc_l_deep.nd rfl (.inl rfl) (pe_call G_l_one (hr.mono (by omega)) (by rfl) T.l_one.g T.l_one.F.kp T.l_one.b .nil pass0 (pa_cons (pv 0) (pa_cons (pe_op op_catL (pv 1) (pe_lstA (pa_cons pe_int (pa_cons (pe_un un_neg pe_int) pa_nil)))) pa_nil))))
      (pss_cons (ps_forA (ps_for PassesOwn.never rfl (pi_range1 (by rfl) T.range (pa_cons (pe_op op_sub (pv 2) pe_int) pa_nil)) (pg_name (i := 4) sc_l_deep.nd rfl (.inl rfl)) (pss_cons (ps_set (i := 5) sc_l_deep.nd rfl (.inl rfl) (pe_call G_l_one (hr.mono (by omega)) (by rfl) T.l_one.g T.l_one.F.kp T.l_one.b .nil pass0 (pa_cons (pv 0) (pa_cons (pe_op op_catL (pv 1) (pe_lstA (pa_cons pe_int (pa_cons pe_int pa_nil)))) pa_nil))))
      (pss_one (ps_set (i := 3) sc_l_deep.nd rfl (.inl rfl) (pe_call G_l_one (hr.mono (by omega)) (by rfl) T.l_one.g T.l_one.F.kp T.l_one.b .nil pass0 (pa_cons (pv 0) (pa_cons (pe_lstA (pa_cons (pe_tupA (pa_cons pe_str (pa_cons (pv 3) (pa_cons (pv 5) pa_nil)))) (pa_cons (pe_tupA (pa_cons pe_str (pa_cons (pv 5) (pa_cons (pv 3) pa_nil)))) (pa_cons (pe_tupA (pa_cons pe_str (pa_cons (pe_un un_neg pe_int) (pa_cons (pv 3) pa_nil)))) pa_nil)))) pa_nil))))))))
      (pss_one (ps_ret (pv 3))))), ?_⟩
  have nat := N0.at_
  have nl := N0.len
  have z1 : (names.map V.str).length + [V.int 7, V.int (-99)].length ≤ sizeLine := sz_le (by simp only [List.length_map, List.length_cons, List.length_nil]; omega)
  have z2 : ∀ i j : Int, 0 < (names.map V.str ++ [V.int i, V.int j]).length ∧ (names.map V.str ++ [V.int i, V.int j]).length ≤ 1000000 := fun i j => by
    simp only [List.length_append, List.length_map, List.length_cons, List.length_nil]; omega
  obtain ⟨z3, z4⟩ := z2 7 (-99)
  obtain ⟨z5, z6⟩ := z2 0 99
  have hmM : m ≤ MANY := by show m ≤ 1000000000; omega
  walk_at "go"
  intro l1 H1 hl1 e1
  have k01 := new_kp hl1 e1
  have a1 := new_at e1
  have nat1 := k01.at nat
  walk_at "go"
  intro l2 H2 hl2 a2 k2
  have D2 := (D0.kp0 k01).kp0 k2
  have o2 := (D0.kp0 k01).off hl2
  walk_at "go"
  intro x H3 hx D3 k3
  obtain ⟨d, td, vd⟩ := pick_vw sh (by decide) (by decide) hx
  have k03 : Kp [a, c] H H3 := (((Kp.refl (S := [a, c])).step0 k01).step0 k2).trans k3
  walk_at "go"
  refine ⟨for_range (lo := 0) (n := Int.toNat (k - 1)) (fun i σ X => Lp (∃ (v : V) (d : PyData) (w4 w5 : Option V) (m4 : Int), σ = [some (.ref a), some (.ref nm), some (.int k), some v, w4, w5] ∧ Tq X d v ∧ Vw d (1 + 5 * i) (20 + 50 * i) i ∧ Deck X a c m4 ∧ m + 1 ≤ m4 ∧ m4 ≤ m + 1 + 2 * (i : Int) ∧ Kp [a, c] H X)) ⟨x, d, _, _, m + 1, rfl, td _, vd, D3, by omega, by simp, k03⟩ ?_ ?_⟩
  · rintro i σ X hi ⟨⟨v, d, w4, w5, m4, rfl, tv, vv, DX, ml, mu, kX⟩⟩
    have hi3 : i < 3 := by omega
    have natX := kX.keep _ _ nat N0.off
    have hmM4 : m4 ≤ MANY := by show m4 ≤ 1000000000; omega
    have z7 : (names.map V.str).length + [V.int 0, V.int 99].length ≤ sizeLine := z1
    walk_at "go"
    intro l4 H4 hl4 e4
    have k4 := new_kp hl4 e4
    have a4 := new_at e4
    have nat4 := k4.at natX
    walk_at "go"
    intro l5 H5 hl5 a5 k5
    have D5 := (DX.kp0 k4).kp0 k5
    have o5 := (DX.kp0 k4).off hl5
    walk_at "go"
    intro y H6 hy D6 k6
    obtain ⟨e, te, ve⟩ := pick_vw sh (by decide) (by decide) hy
    have tv6 := k6.tq (k5.tq (k4.tq tv))
    have k06 : Kp [a, c] H H6 := ((kX.step0 k4).step0 k5).trans k6
    walk_at "go"
    intro p7 H7 hp7 e7
    have k7 := new_kp hp7 e7
    have a7 := new_at e7
    walk_at "go"
    intro p8 H8 hp8 e8
    have k8 := new_kp hp8 e8
    have a8 := new_at e8
    walk_at "go"
    intro p9 H9 hp9 e9
    have k9 := new_kp hp9 e9
    have a9 := new_at e9
    walk_at "go"
    intro l10 H10 hl10 e10
    have k10 := new_kp hl10 e10
    have a10 := new_at e10
    have D9 := ((D6.kp0 k7).kp0 k8).kp0 k9
    have o10 := D9.off hl10
    have D10 := D9.kp0 k10
    have hmM5 : m4 + 1 ≤ MANY := by show m4 + 1 ≤ 1000000000; omega
    have K10 := ((k7.trans k8).trans k9).trans k10
    have q7 := (k8.trans (k9.trans k10)).tup _ _ a7
    have q8 := (k9.trans k10).tup _ _ a8
    have q9 := k10.tup _ _ a9
    have tv10 := K10.tq tv6
    walk_at "go"
    intro r H11 hr D11 k11
    have k011 : Kp [a, c] H H11 := (k06.step0 K10).trans k11
    have tv11 := k11.tq tv10
    have fin : ∃ d2, Tq H11 d2 r ∧ Vw d2 (1 + 5 * (i + 1)) (20 + 50 * (i + 1)) (i + 1) := by
      simp only [List.mem_cons, List.not_mem_nil, or_false] at hr
      rcases hr with rfl | rfl | rfl
      · exact ⟨_, mq_tup (k11.tup _ _ q7) (tqs_cons mq_str (tqs_cons tv11 (tqs_cons (te _) tqs_nil))), (vw_op "plus" (by decide +kernel) vv ve).mono (by omega) (by omega) (by omega)⟩
      · exact ⟨_, mq_tup (k11.tup _ _ q8) (tqs_cons mq_str (tqs_cons (te _) (tqs_cons tv11 tqs_nil))), (vw_op "minus" (by decide +kernel) ve vv).mono (by omega) (by omega) (by omega)⟩
      · exact ⟨_, mq_tup (k11.tup _ _ q9) (tqs_cons mq_str (tqs_cons mq_int (tqs_cons tv11 tqs_nil))), (vw_op "times" (by decide +kernel) (vw_int (i := -9) (by decide)) vv).mono (by omega) (by omega) (by omega)⟩
    obtain ⟨d2, t2, v2⟩ := fin
    walk_at "go"
    exact ⟨_, d2, _, _, m4 + 1 + 1, rfl, t2, v2, D11, by omega, by omega, k011⟩
  · rintro σ X ⟨⟨v, d, w4, w5, m4, rfl, tv, vv, DX, ml, mu, kX⟩⟩
    walk_at "go"
    exact q v d X m4 tv (vv.mono (by omega) (by omega) (by omega)) (by omega) (by omega) DX kX
theorem ok_l_statement (T : Top K mg) : FnOk P w K mg base CX0 6 T.l_statement.f T.l_statement.fd ["_law_deck_here", "_law_names_here"] spStmt28 := by
  have G_l_draw : FnOk P w K mg base CX0 1 T.l_draw.f T.l_draw.fd ["_law_deck_here", "_law_many"] spDraw := ok_l_draw T
  have G_l_one : FnOk P w K mg base CX0 2 T.l_one.f T.l_one.fd ["_law_deck_here", "_law_items"] (spOne K) := ok_l_one T
  have G_l_deep : FnOk P w K mg base CX0 4 T.l_deep.f T.l_deep.fd ["_law_deck_here", "_law_names_here", "_law_many"] spDeep := ok_l_deep T
  refine T.l_statement.F.ok sc_l_statement (fun vs H Q E h => ?_) (fun cdv A outer s H vs Q E hr h => ?_)
  · obtain ⟨a, c, nm, m, names, rfl, _⟩ := h
    rfl
  obtain ⟨a, c, nm, m, names, rfl, D0, hm, N0, sh, n2, q⟩ := h
  have hu := hu_of hr
  refine ⟨_, (pss_cons (ps_asg (pe_lc (own := [("_law_k", 5)]) (by rfl) sc_l_statement.nd (pi_range1 (by rfl) T.range (pa_cons pe_int pa_nil)) (blkOk_by (N := ["_law_deck_here", "_law_names_here", "_law_first", "_law_second", "_law_test", "_law_k", "_law_name", "_law_word", "_law_rows", "_law_some"]) (sc := defScope s_l_statement) (own := [("_law_k", 5)]) (by decide +kernel)) (fun _ _ _ _ _ => (pg_name (i := 5) sc_l_statement.nd rfl (.inl rfl))) (fun _ _ _ _ _ => pts_nil) (fun _ _ _ _ _ => (pe_call G_l_deep (hr.mono (by omega)) (by rfl) T.l_deep.g T.l_deep.F.kp T.l_deep.b .nil pass0 (pa_cons (pv 0) (pa_cons (pv 1) (pa_cons (pe_op op_add pe_int (pe_call G_l_draw (hr.mono (by omega)) (by rfl) T.l_draw.g T.l_draw.F.kp T.l_draw.b .nil pass0 (pa_cons (pv 0) (pa_cons pe_int pa_nil)))) pa_nil)))))) (pg_lst28 (K := K) (n := 2) rfl (by rfl) (pgs_cons (pg_name (i := 2) sc_l_statement.nd rfl (.inl rfl)) (pgs_cons (pg_name (i := 3) sc_l_statement.nd rfl (.inl rfl)) pgs_nil))))
      (pss_cons (ps_set (i := 4) sc_l_statement.nd rfl (.inl rfl) (pe_call G_l_one (hr.mono (by omega)) (by rfl) T.l_one.g T.l_one.F.kp T.l_one.b .nil pass0 (pa_cons (pv 0) (pa_cons (pe_lstA (pa_cons (pe_tupA (pa_cons pe_str (pa_cons (pv 2) pa_nil))) (pa_cons (pe_tupA (pa_cons pe_str (pa_cons (pv 2) (pa_cons (pv 3) pa_nil)))) pa_nil))) pa_nil))))
      (pss_cons (ps_forA (ps_for PassesOwn.never rfl (pi_range1 (by rfl) T.range (pa_cons (pe_callB (id := "max") (call_max2 rfl) (by rfl) T.max (by decide +kernel) (pa_cons pe_int (pa_cons (pe_op op_sub (pe_call G_l_draw (hr.mono (by omega)) (by rfl) T.l_draw.g T.l_draw.F.kp T.l_draw.b .nil pass0 (pa_cons (pv 0) (pa_cons pe_int pa_nil))) pe_int) pa_nil))) pa_nil)) (pg_name (i := 5) sc_l_statement.nd rfl (.inl rfl)) (pss_one (ps_set (i := 4) sc_l_statement.nd rfl (.inl rfl) (pe_tupA (pa_cons pe_str (pa_cons (pv 4) pa_nil)))))))
      (pss_cons (ps_par (i := 6) (j := 7) (by rfl) sc_l_statement.nd rfl rfl (by decide) rfl rfl (pa_cons (pe_call G_l_one (hr.mono (by omega)) (by rfl) T.l_one.g T.l_one.F.kp T.l_one.b .nil pass0 (pa_cons (pv 0) (pa_cons (pv 1) pa_nil))) (pa_cons (pe_call G_l_one (hr.mono (by omega)) (by rfl) T.l_one.g T.l_one.F.kp T.l_one.b .nil pass0 (pa_cons (pv 0) (pa_cons (pe_lstA (pa_cons pe_str (pa_cons pe_str (pa_cons pe_str (pa_cons (pe_ix (ix_listK (K := K) rfl) (pv 1) pe_int (fun _ _ => rfl)) (pa_cons (pe_op op_add_str (pe_ix (ix_listK (K := K) rfl) (pv 1) pe_int (fun _ _ => rfl)) pe_str) (pa_cons pe_str pa_nil))))))) pa_nil))) pa_nil)) (by rfl))
      (pss_cons (ps_set (i := 8) sc_l_statement.nd rfl (.inl rfl) (pe_slice (sl_listK (K := K) rfl) (pe_lstA (pa_cons (pe_tupA (pa_cons pe_str (pa_cons (pv 7) pa_nil))) (pa_cons (pe_tupA (pa_cons pe_str (pa_cons (pv 2) pa_nil))) (pa_cons (pe_tupA (pa_cons pe_str (pa_cons (pv 6) (pa_cons (pv 3) pa_nil)))) pa_nil)))) po_none (po_some (pe_call G_l_draw (hr.mono (by omega)) (by rfl) T.l_draw.g T.l_draw.F.kp T.l_draw.b .nil pass0 (pa_cons (pv 0) (pa_cons pe_int pa_nil))))))
      (pss_cons (ps_set (i := 9) sc_l_statement.nd rfl (.inl rfl) (pe_lstA (pa_cons (pe_tupA (pa_cons pe_str (pa_cons (pv 6) (pa_cons (pv 2) pa_nil)))) (pa_cons (pe_tupA (pa_cons pe_str (pa_cons (pv 6) (pa_cons (pv 2) pa_nil)))) (pa_cons (pe_tupA (pa_cons pe_str (pa_cons (pv 2) pa_nil))) (pa_cons (pe_tupA (pa_cons pe_str (pa_cons (pv 7) pa_nil))) (pa_cons (pe_tupA (pa_cons pe_str (pa_cons (pv 7) pa_nil))) pa_nil)))))))
      (pss_cons (ps_set (i := 9) sc_l_statement.nd rfl (.inl rfl) (pe_op op_catL (pv 9) (pe_lstA (pa_cons (pe_tupA (pa_cons pe_str (pa_cons (pv 4) (pa_cons (pe_callTy (T := "tuple") (call_tupleK (K := K) rfl) (by rfl) T.tuple (by decide +kernel) (pa_cons (pv 8) pa_nil)) (pa_cons (pe_tupA pa_nil) pa_nil))))) (pa_cons (pe_tupA (pa_cons pe_str (pa_cons (pv 4) (pa_cons (pe_tupA pa_nil) (pa_cons (pe_callTy (T := "tuple") (call_tupleK (K := K) rfl) (by rfl) T.tuple (by decide +kernel) (pa_cons (pv 8) pa_nil)) pa_nil))))) pa_nil)))))
      (pss_one (ps_ret (pe_call G_l_one (hr.mono (by omega)) (by rfl) T.l_one.g T.l_one.F.kp T.l_one.b .nil pass0 (pa_cons (pv 0) (pa_cons (pe_op op_catL (pv 9) (pe_lstA (pa_cons (pe_tupA (pa_cons pe_str (pa_cons (pe_call G_l_draw (hr.mono (by omega)) (by rfl) T.l_draw.g T.l_draw.F.kp T.l_draw.b .nil pass0 (pa_cons (pv 0) (pa_cons pe_int pa_nil))) (pa_cons (pe_callTy (T := "tuple") (call_tupleK (K := K) rfl) (by rfl) T.tuple (by decide +kernel) (pa_cons (pv 8) pa_nil)) pa_nil)))) pa_nil))) pa_nil)))))))))))), ?_⟩
  walk_at "go"
  intro D1 hD1
  have oD1 := D0.off hD1
  have ac1 : a ∉ [D1] ∧ c ∉ [D1] := by
    simp only [List.mem_cons, List.not_mem_nil, or_false, not_or] at oD1 ⊢
    exact ⟨fun z => oD1.1 z.symm, fun z => oD1.2 z.symm⟩
  refine lc_range (lo := 0) (n := Int.toNat 2) (fun j X => Kp [a, c] H X ∧ ∃ (ws : List V) (m4 : Int), X D1 = some (.lst ws) ∧ ws.length = j ∧ (∀ y ∈ ws, ∃ d, Tq X d y ∧ Vw d 20 200 3) ∧ m ≤ m4 ∧ m4 ≤ m + 11 * (j : Int) ∧ Deck X a c m4) ⟨(Kp.new hD1).sub (by simp), [], m, upd_same, rfl, (fun _ z => nomatch z), by omega, by simp, D0.kp0 (Kp.new hD1)⟩ ?_ ?_
  · rintro j X hj ⟨kX, ws, m4, d4, l4, v4, ml4, mu4, DX⟩
    have hj2 : j < 2 := hj
    have hmM4 : m4 ≤ MANY := by show m4 ≤ 1000000000; omega
    walk_at "go"
    intro r X1 r0 r1 DX1 k1
    have d41 := k1.keep _ _ d4 oD1
    have N1 := N0.kpD (kX.trans k1)
    have hm4 : m4 + 1 ≤ 800000000 := by omega
    have r2 : 1 ≤ 1 + r ∧ 1 + r ≤ 4 := ⟨by omega, by omega⟩
    obtain ⟨r2, r3⟩ := r2
    walk_at "go"
    intro y dy X2 my ty vy ly uy DX2 k2
    have d42 := k2.keep _ _ d41 oD1
    have l3 : ws.length < sizeLine := sz_lt (by omega)
    walk_at "go"
    have k3 := Kp.put (u := .lst (ws ++ [y])) d42 (fun _ z => by cases z)
    refine ⟨((kX.trans k1).trans k2).step1 k3 (.inr hD1), ws ++ [y], my, upd_same, by rw [List.length_append, l4]; rfl, ?_, by omega, by omega, DX2.kp k3 ac1.1 ac1.2⟩
    intro z hz
    rcases List.mem_append.mp hz with h | h
    · obtain ⟨dz, tz, vz⟩ := v4 z h
      exact ⟨dz, k3.tq (k2.tq (k1.tq tz)), vz⟩
    · cases List.mem_singleton.mp h
      exact ⟨dy, k3.tq ty, vy⟩
  rintro X ⟨kX, ws, m4, d4, l4, v4, ml4, mu4, DX⟩
  obtain ⟨x1, x2, rfl⟩ : ∃ x1 x2, ws = [x1, x2] := by
    match ws, l4 with
    | [x1, x2], _ => exact ⟨x1, x2, rfl⟩
  obtain ⟨de1, t1, v1⟩ := v4 x1 (by simp)
  obtain ⟨de2, t2, v2⟩ := v4 x2 (by simp)
  have hmM4 : m4 ≤ MANY := by show m4 ≤ 1000000000; omega
  -- made from here
  have N_0 := N0.kpD kX
  have D_0 := DX
  have K_0 := kX
  have nat_0 := N_0.at_
  walk_at "go"
  intro p1 H_1 hp1 e1
  have k1 := new_kp hp1 e1
  have D_1 := D_0.kp0 k1
  have t1_1 := k1.tq t1
  have t2_1 := k1.tq t2
  have N_1 := N_0.kp0 k1
  have nat_1 := N_1.at_
  have K_1 := K_0.step0 k1
  have ap1_1 := new_at e1
  walk_at "go"
  intro p2 H_2 hp2 e2
  have k2 := new_kp hp2 e2
  have D_2 := D_1.kp0 k2
  have t1_2 := k2.tq t1_1
  have t2_2 := k2.tq t2_1
  have ap1_2 := k2.tup _ _ ap1_1
  have N_2 := N_1.kp0 k2
  have nat_2 := N_2.at_
  have K_2 := K_1.step0 k2
  have ap2_2 := new_at e2
  walk_at "go"
  intro l3 H_3 hl3 e3
  have k3 := new_kp hl3 e3
  have offal3 := D_2.off hl3
  have D_3 := D_2.kp0 k3
  have t1_3 := k3.tq t1_2
  have t2_3 := k3.tq t2_2
  have ap1_3 := k3.tup _ _ ap1_2
  have ap2_3 := k3.tup _ _ ap2_2
  have N_3 := N_2.kp0 k3
  have nat_3 := N_3.at_
  have K_3 := K_2.step0 k3
  have al3_3 := new_at e3
  have hM1 : m4 ≤ MANY := hmM4
  walk_at "go"
  intro tv H_4 htv D_4 k4
  have t1_4 := k4.tq t1_3
  have t2_4 := k4.tq t2_3
  have ap1_4 := k4.tup _ _ ap1_3
  have ap2_4 := k4.tup _ _ ap2_3
  have al3_4 := k4.keep _ _ al3_3 offal3
  have N_4 := N_3.kpD k4
  have nat_4 := N_4.at_
  have K_4 := K_3.trans k4
  have tt : ∃ d, Tq H_4 d tv ∧ Vw d 42 409 4 := by
    simp only [List.mem_cons, List.not_mem_nil, or_false] at htv
    rcases htv with rfl | rfl
    · exact ⟨_, mq_tup ap1_4 (tqs_cons mq_str (tqs_cons t1_4 tqs_nil)), (vw_un "odd" (by decide +kernel) v1).mono (by omega) (by omega) (by omega)⟩
    · exact ⟨_, mq_tup ap2_4 (tqs_cons mq_str (tqs_cons t1_4 (tqs_cons t2_4 tqs_nil))), (vw_op "less" (by decide +kernel) v1 v2).mono (by omega) (by omega) (by omega)⟩
  obtain ⟨dt, tt_4, vt⟩ := tt
  have hM2 : m4 + 1 ≤ MANY := by show m4 + 1 ≤ 1000000000; omega
  walk_at "go"
  intro r5 H_5 r50 r51 D_5 k5
  have t1_5 := k5.tq t1_4
  have t2_5 := k5.tq t2_4
  have tt_5 := k5.tq tt_4
  have N_5 := N_4.kpD k5
  have nat_5 := N_5.at_
  have K_5 := K_4.trans k5
  walk_at "go"
  refine ⟨for_range (lo := 0) (n := Int.toNat (if r5 - 2 > 0 then r5 - 2 else 0)) (fun i σ X => Lp (∃ (v : V) (d : PyData) (w5 : Option V), σ = [some (.ref a), some (.ref nm), some x1, some x2, some v, w5, none, none, none, none] ∧ Tq X d v ∧ Vw d (42 + 2 * i) (409 + 8 * i) (4 + i) ∧ Kp [] H_5 X)) ⟨tv, dt, _, rfl, tt_5, vt, Kp.refl⟩ ?_ ?_⟩
  · rintro i σ X hi ⟨⟨v, d, w5, rfl, tv, vv, kY⟩⟩
    walk_at "go"
    intro p H1 hp e1
    have k1 := new_kp hp e1
    have a1 := new_at e1
    walk_at "go"
    exact ⟨_, _, _, rfl, mq_tup a1 (tqs_cons mq_str (tqs_cons (k1.tq tv) tqs_nil)), (vw_un "not" (by decide +kernel) vv).mono (by omega) (by omega) (by omega), kY.trans k1⟩
  have r53 : Int.toNat (if r5 - 2 > 0 then r5 - 2 else 0) ≤ 3 := by split <;> omega
  generalize Int.toNat (if r5 - 2 > 0 then r5 - 2 else 0) = rn at r53
  rintro σ H_6 ⟨⟨tw, dw, w5, rfl, tt_6, vt2, k6⟩⟩
  have D_6 := D_5.kp0 k6
  have t1_6 := k6.tq t1_5
  have t2_6 := k6.tq t2_5
  have N_6 := N_5.kp0 k6
  have nat_6 := N_6.at_
  have K_6 := K_5.step0 k6
  have vt3 : Vw dw 48 433 7 := vt2.mono (by omega) (by omega) (by omega)
  obtain ⟨n0, n1, nr, en⟩ : ∃ n0 n1 nr, names = n0 :: n1 :: nr := by
    match names, n2 with
    | n0 :: n1 :: nr, _ => exact ⟨n0, n1, nr, rfl⟩
  have xn1 : atI (names.map V.str) 1 = some (.str n1) := by rw [en]; exact atI_nat (j := 1) rfl
  have sn1 := sh n1 (by rw [en]; simp)
  have nl := N0.len
  have z1 : 0 < (names.map V.str).length ∧ (names.map V.str).length ≤ 1000000 := by rw [List.length_map]; omega
  obtain ⟨z1, z2⟩ := z1
  have noff := N0.off
  have lab : ("ab" : Str).length = 2 := by decide +kernel
  have z3 : n1.length + (Str.ofString "ab").length ≤ sizeLine := sz_le (by have : (Str.ofString "ab").length = 2 := lab; omega)
  have hM3 : m4 + 1 + 1 ≤ MANY := by show m4 + 1 + 1 ≤ 1000000000; omega
  have hM4 : m4 + 1 + 1 + 1 ≤ MANY := by show m4 + 1 + 1 + 1 ≤ 1000000000; omega
  walk_at "go"
  intro nv H_7 hnv D_7 k7
  have t1_7 := k7.tq t1_6
  have t2_7 := k7.tq t2_6
  have tt_7 := k7.tq tt_6
  have N_7 := N_6.kpD k7
  have nat_7 := N_7.at_
  have K_7 := K_6.trans k7
  obtain ⟨zn, hzn, rfl⟩ := List.mem_map.mp hnv
  have vn := vw_str (sh zn hzn) (by omega)
  walk_at "go"
  intro l6 H_8 hl6 e8
  have k8 := new_kp hl6 e8
  have offal6 := D_7.off hl6
  have D_8 := D_7.kp0 k8
  have t1_8 := k8.tq t1_7
  have t2_8 := k8.tq t2_7
  have tt_8 := k8.tq tt_7
  have N_8 := N_7.kp0 k8
  have nat_8 := N_8.at_
  have K_8 := K_7.step0 k8
  have al6_8 := new_at e8
  walk_at "go"
  intro wv H_9 hwv D_9 k9
  have t1_9 := k9.tq t1_8
  have t2_9 := k9.tq t2_8
  have tt_9 := k9.tq tt_8
  have al6_9 := k9.keep _ _ al6_8 offal6
  have N_9 := N_8.kpD k9
  have nat_9 := N_9.at_
  have K_9 := K_8.trans k9
  have ww : ∃ zw : Str, wv = .str zw ∧ PyData.strOk zw = true ∧ zw.length ≤ 22 := by
    simp only [List.mem_cons, List.not_mem_nil, or_false] at hwv
    rcases hwv with rfl | rfl | rfl | rfl | rfl | rfl
    · exact ⟨_, rfl, by decide +kernel, by decide +kernel⟩
    · exact ⟨_, rfl, by decide +kernel, by decide +kernel⟩
    · exact ⟨_, rfl, by decide +kernel, by decide +kernel⟩
    · exact ⟨_, rfl, sn1.1, by omega⟩
    · exact ⟨_, rfl, strOk_app sn1.1 (by decide +kernel), by rw [Str.length_append]; have : (Str.ofString "ab").length = 2 := lab; omega⟩
    · exact ⟨_, rfl, by decide +kernel, by decide +kernel⟩
  obtain ⟨zw, rfl, zw1, zw2⟩ := ww
  have vwd := vw_str (n := 22) ⟨zw1, zw2⟩ (by omega)
  walk_at "go"
  intro p7 H_10 hp7 e10
  have k10 := new_kp hp7 e10
  have D_10 := D_9.kp0 k10
  have t1_10 := k10.tq t1_9
  have t2_10 := k10.tq t2_9
  have tt_10 := k10.tq tt_9
  have N_10 := N_9.kp0 k10
  have nat_10 := N_10.at_
  have K_10 := K_9.step0 k10
  have ap7_10 := new_at e10
  walk_at "go"
  intro p8 H_11 hp8 e11
  have k11 := new_kp hp8 e11
  have D_11 := D_10.kp0 k11
  have t1_11 := k11.tq t1_10
  have t2_11 := k11.tq t2_10
  have tt_11 := k11.tq tt_10
  have ap7_11 := k11.tup _ _ ap7_10
  have N_11 := N_10.kp0 k11
  have nat_11 := N_11.at_
  have K_11 := K_10.step0 k11
  have ap8_11 := new_at e11
  walk_at "go"
  intro p9 H_12 hp9 e12
  have k12 := new_kp hp9 e12
  have D_12 := D_11.kp0 k12
  have t1_12 := k12.tq t1_11
  have t2_12 := k12.tq t2_11
  have tt_12 := k12.tq tt_11
  have ap7_12 := k12.tup _ _ ap7_11
  have ap8_12 := k12.tup _ _ ap8_11
  have N_12 := N_11.kp0 k12
  have nat_12 := N_12.at_
  have K_12 := K_11.step0 k12
  have ap9_12 := new_at e12
  walk_at "go"
  intro l10 H_13 hl10 e13
  have k13 := new_kp hl10 e13
  have offal10 := D_12.off hl10
  have D_13 := D_12.kp0 k13
  have t1_13 := k13.tq t1_12
  have t2_13 := k13.tq t2_12
  have tt_13 := k13.tq tt_12
  have ap7_13 := k13.tup _ _ ap7_12
  have ap8_13 := k13.tup _ _ ap8_12
  have ap9_13 := k13.tup _ _ ap9_12
  have N_13 := N_12.kp0 k13
  have nat_13 := N_13.at_
  have K_13 := K_12.step0 k13
  have al10_13 := new_at e13
  have hM5 : m4 + 1 + 1 + 1 + 1 ≤ MANY := by show m4 + 1 + 1 + 1 + 1 ≤ 1000000000; omega
  walk_at "go"
  intro r11 H_14 r12 r13 D_14 k14
  have t1_14 := k14.tq t1_13
  have t2_14 := k14.tq t2_13
  have tt_14 := k14.tq tt_13
  have ap7_14 := k14.tup _ _ ap7_13
  have ap8_14 := k14.tup _ _ ap8_13
  have ap9_14 := k14.tup _ _ ap9_13
  have al10_14 := k14.keep _ _ al10_13 offal10
  have N_14 := N_13.kpD k14
  have nat_14 := N_14.at_
  have K_14 := K_13.trans k14
  obtain ⟨j, rfl⟩ : ∃ j : Nat, r11 = (j : Int) := ⟨r11.toNat, by omega⟩
  walk_at "go"
  intro l12 H_15 hl12 al12_15 k15
  have offal12 := D_14.off hl12
  have D_15 := D_14.kp0 k15
  have t1_15 := k15.tq t1_14
  have t2_15 := k15.tq t2_14
  have tt_15 := k15.tq tt_14
  have ap7_15 := k15.tup _ _ ap7_14
  have ap8_15 := k15.tup _ _ ap8_14
  have ap9_15 := k15.tup _ _ ap9_14
  have al10_15 := k15.keep _ _ al10_14 (by simp)
  have N_15 := N_14.kp0 k15
  have nat_15 := N_15.at_
  have K_15 := K_14.step0 k15
  rw [cut_to] at al12_15
  have rw_15 : TqAll H_15 (([.tuple [.str "say", .str zw], .tuple [.str "tell", de1], .tuple [.str "half", .str zn, de2]] : List PyData).take j) (([.ref p7, .ref p8, .ref p9] : List V).take j) := by
    refine TqAll.take j ?_
    exact tqs_cons (mq_tup ap7_15 (tqs_cons mq_str (tqs_cons mq_str tqs_nil))) (tqs_cons (mq_tup ap8_15 (tqs_cons mq_str (tqs_cons t1_15 tqs_nil))) (tqs_cons (mq_tup ap9_15 (tqs_cons mq_str (tqs_cons mq_str (tqs_cons t2_15 tqs_nil)))) tqs_nil))
  have vr : Vw (.tuple (([.tuple [.str "say", .str zw], .tuple [.str "tell", de1], .tuple [.str "half", .str zn, de2]] : List PyData).take j)) 60 600 7 :=
    (vw_tup (vws_take j (vws_cons (vw_un "say" (by decide +kernel) vwd) (vws_cons (vw_un "tell" (by decide +kernel) v1) (vws_cons (vw_op "half" (by decide +kernel) vn v2) vws_nil))))).mono (by omega) (by omega) (by omega)
  generalize (([.tuple [.str "say", .str zw], .tuple [.str "tell", de1], .tuple [.str "half", .str zn, de2]] : List PyData).take j) = rd at rw_15 vr
  generalize (([.ref p7, .ref p8, .ref p9] : List V).take j) = rv at rw_15 al12_15
  walk_at "go"
  intro p13 H_16 hp13 e16
  have k16 := new_kp hp13 e16
  have D_16 := D_15.kp0 k16
  have t1_16 := k16.tq t1_15
  have t2_16 := k16.tq t2_15
  have tt_16 := k16.tq tt_15
  have al12_16 := k16.keep _ _ al12_15 (by simp)
  have rw_16 := k16.tqAll rw_15
  have N_16 := N_15.kp0 k16
  have nat_16 := N_16.at_
  have K_16 := K_15.step0 k16
  have ap13_16 := new_at e16
  walk_at "go"
  intro p14 H_17 hp14 e17
  have k17 := new_kp hp14 e17
  have D_17 := D_16.kp0 k17
  have t1_17 := k17.tq t1_16
  have t2_17 := k17.tq t2_16
  have tt_17 := k17.tq tt_16
  have al12_17 := k17.keep _ _ al12_16 (by simp)
  have rw_17 := k17.tqAll rw_16
  have ap13_17 := k17.tup _ _ ap13_16
  have N_17 := N_16.kp0 k17
  have nat_17 := N_17.at_
  have K_17 := K_16.step0 k17
  have ap14_17 := new_at e17
  walk_at "go"
  intro p15 H_18 hp15 e18
  have k18 := new_kp hp15 e18
  have D_18 := D_17.kp0 k18
  have t1_18 := k18.tq t1_17
  have t2_18 := k18.tq t2_17
  have tt_18 := k18.tq tt_17
  have al12_18 := k18.keep _ _ al12_17 (by simp)
  have rw_18 := k18.tqAll rw_17
  have ap13_18 := k18.tup _ _ ap13_17
  have ap14_18 := k18.tup _ _ ap14_17
  have N_18 := N_17.kp0 k18
  have nat_18 := N_18.at_
  have K_18 := K_17.step0 k18
  have ap15_18 := new_at e18
  walk_at "go"
  intro p16 H_19 hp16 e19
  have k19 := new_kp hp16 e19
  have D_19 := D_18.kp0 k19
  have t1_19 := k19.tq t1_18
  have t2_19 := k19.tq t2_18
  have tt_19 := k19.tq tt_18
  have al12_19 := k19.keep _ _ al12_18 (by simp)
  have rw_19 := k19.tqAll rw_18
  have ap13_19 := k19.tup _ _ ap13_18
  have ap14_19 := k19.tup _ _ ap14_18
  have ap15_19 := k19.tup _ _ ap15_18
  have N_19 := N_18.kp0 k19
  have nat_19 := N_19.at_
  have K_19 := K_18.step0 k19
  have ap16_19 := new_at e19
  walk_at "go"
  intro p17 H_20 hp17 e20
  have k20 := new_kp hp17 e20
  have D_20 := D_19.kp0 k20
  have t1_20 := k20.tq t1_19
  have t2_20 := k20.tq t2_19
  have tt_20 := k20.tq tt_19
  have al12_20 := k20.keep _ _ al12_19 (by simp)
  have rw_20 := k20.tqAll rw_19
  have ap13_20 := k20.tup _ _ ap13_19
  have ap14_20 := k20.tup _ _ ap14_19
  have ap15_20 := k20.tup _ _ ap15_19
  have ap16_20 := k20.tup _ _ ap16_19
  have N_20 := N_19.kp0 k20
  have nat_20 := N_20.at_
  have K_20 := K_19.step0 k20
  have ap17_20 := new_at e20
  walk_at "go"
  intro l18 H_21 hl18 e21
  have k21 := new_kp hl18 e21
  have offal18 := D_20.off hl18
  have D_21 := D_20.kp0 k21
  have t1_21 := k21.tq t1_20
  have t2_21 := k21.tq t2_20
  have tt_21 := k21.tq tt_20
  have al12_21 := k21.keep _ _ al12_20 (by simp)
  have rw_21 := k21.tqAll rw_20
  have ap13_21 := k21.tup _ _ ap13_20
  have ap14_21 := k21.tup _ _ ap14_20
  have ap15_21 := k21.tup _ _ ap15_20
  have ap16_21 := k21.tup _ _ ap16_20
  have ap17_21 := k21.tup _ _ ap17_20
  have N_21 := N_20.kp0 k21
  have nat_21 := N_21.at_
  have K_21 := K_20.step0 k21
  have al18_21 := new_at e21
  walk_at "go"
  intro p19 H_22 hp19 ap19_22 k22
  have D_22 := D_21.kp0 k22
  have t1_22 := k22.tq t1_21
  have t2_22 := k22.tq t2_21
  have tt_22 := k22.tq tt_21
  have al12_22 := k22.keep _ _ al12_21 (by simp)
  have rw_22 := k22.tqAll rw_21
  have ap13_22 := k22.tup _ _ ap13_21
  have ap14_22 := k22.tup _ _ ap14_21
  have ap15_22 := k22.tup _ _ ap15_21
  have ap16_22 := k22.tup _ _ ap16_21
  have ap17_22 := k22.tup _ _ ap17_21
  have al18_22 := k22.keep _ _ al18_21 (by simp)
  have N_22 := N_21.kp0 k22
  have nat_22 := N_22.at_
  have K_22 := K_21.step0 k22
  walk_at "go"
  intro p20 H_23 hp20 e23
  have k23 := new_kp hp20 e23
  have D_23 := D_22.kp0 k23
  have t1_23 := k23.tq t1_22
  have t2_23 := k23.tq t2_22
  have tt_23 := k23.tq tt_22
  have al12_23 := k23.keep _ _ al12_22 (by simp)
  have rw_23 := k23.tqAll rw_22
  have ap13_23 := k23.tup _ _ ap13_22
  have ap14_23 := k23.tup _ _ ap14_22
  have ap15_23 := k23.tup _ _ ap15_22
  have ap16_23 := k23.tup _ _ ap16_22
  have ap17_23 := k23.tup _ _ ap17_22
  have al18_23 := k23.keep _ _ al18_22 (by simp)
  have ap19_23 := k23.tup _ _ ap19_22
  have N_23 := N_22.kp0 k23
  have nat_23 := N_23.at_
  have K_23 := K_22.step0 k23
  have ap20_23 := new_at e23
  walk_at "go"
  intro p21 H_24 hp21 e24
  have k24 := new_kp hp21 e24
  have D_24 := D_23.kp0 k24
  have t1_24 := k24.tq t1_23
  have t2_24 := k24.tq t2_23
  have tt_24 := k24.tq tt_23
  have al12_24 := k24.keep _ _ al12_23 (by simp)
  have rw_24 := k24.tqAll rw_23
  have ap13_24 := k24.tup _ _ ap13_23
  have ap14_24 := k24.tup _ _ ap14_23
  have ap15_24 := k24.tup _ _ ap15_23
  have ap16_24 := k24.tup _ _ ap16_23
  have ap17_24 := k24.tup _ _ ap17_23
  have al18_24 := k24.keep _ _ al18_23 (by simp)
  have ap19_24 := k24.tup _ _ ap19_23
  have ap20_24 := k24.tup _ _ ap20_23
  have N_24 := N_23.kp0 k24
  have nat_24 := N_24.at_
  have K_24 := K_23.step0 k24
  have ap21_24 := new_at e24
  walk_at "go"
  intro p22 H_25 hp22 e25
  have k25 := new_kp hp22 e25
  have D_25 := D_24.kp0 k25
  have t1_25 := k25.tq t1_24
  have t2_25 := k25.tq t2_24
  have tt_25 := k25.tq tt_24
  have al12_25 := k25.keep _ _ al12_24 (by simp)
  have rw_25 := k25.tqAll rw_24
  have ap13_25 := k25.tup _ _ ap13_24
  have ap14_25 := k25.tup _ _ ap14_24
  have ap15_25 := k25.tup _ _ ap15_24
  have ap16_25 := k25.tup _ _ ap16_24
  have ap17_25 := k25.tup _ _ ap17_24
  have al18_25 := k25.keep _ _ al18_24 (by simp)
  have ap19_25 := k25.tup _ _ ap19_24
  have ap20_25 := k25.tup _ _ ap20_24
  have ap21_25 := k25.tup _ _ ap21_24
  have N_25 := N_24.kp0 k25
  have nat_25 := N_25.at_
  have K_25 := K_24.step0 k25
  have ap22_25 := new_at e25
  walk_at "go"
  intro p23 H_26 hp23 ap23_26 k26
  have D_26 := D_25.kp0 k26
  have t1_26 := k26.tq t1_25
  have t2_26 := k26.tq t2_25
  have tt_26 := k26.tq tt_25
  have al12_26 := k26.keep _ _ al12_25 (by simp)
  have rw_26 := k26.tqAll rw_25
  have ap13_26 := k26.tup _ _ ap13_25
  have ap14_26 := k26.tup _ _ ap14_25
  have ap15_26 := k26.tup _ _ ap15_25
  have ap16_26 := k26.tup _ _ ap16_25
  have ap17_26 := k26.tup _ _ ap17_25
  have al18_26 := k26.keep _ _ al18_25 (by simp)
  have ap19_26 := k26.tup _ _ ap19_25
  have ap20_26 := k26.tup _ _ ap20_25
  have ap21_26 := k26.tup _ _ ap21_25
  have ap22_26 := k26.tup _ _ ap22_25
  have N_26 := N_25.kp0 k26
  have nat_26 := N_26.at_
  have K_26 := K_25.step0 k26
  walk_at "go"
  intro p24 H_27 hp24 e27
  have k27 := new_kp hp24 e27
  have D_27 := D_26.kp0 k27
  have t1_27 := k27.tq t1_26
  have t2_27 := k27.tq t2_26
  have tt_27 := k27.tq tt_26
  have al12_27 := k27.keep _ _ al12_26 (by simp)
  have rw_27 := k27.tqAll rw_26
  have ap13_27 := k27.tup _ _ ap13_26
  have ap14_27 := k27.tup _ _ ap14_26
  have ap15_27 := k27.tup _ _ ap15_26
  have ap16_27 := k27.tup _ _ ap16_26
  have ap17_27 := k27.tup _ _ ap17_26
  have al18_27 := k27.keep _ _ al18_26 (by simp)
  have ap19_27 := k27.tup _ _ ap19_26
  have ap20_27 := k27.tup _ _ ap20_26
  have ap21_27 := k27.tup _ _ ap21_26
  have ap22_27 := k27.tup _ _ ap22_26
  have ap23_27 := k27.tup _ _ ap23_26
  have N_27 := N_26.kp0 k27
  have nat_27 := N_27.at_
  have K_27 := K_26.step0 k27
  have ap24_27 := new_at e27
  walk_at "go"
  intro l25 H_28 hl25 e28
  have k28 := new_kp hl25 e28
  have offal25 := D_27.off hl25
  have D_28 := D_27.kp0 k28
  have t1_28 := k28.tq t1_27
  have t2_28 := k28.tq t2_27
  have tt_28 := k28.tq tt_27
  have al12_28 := k28.keep _ _ al12_27 (by simp)
  have rw_28 := k28.tqAll rw_27
  have ap13_28 := k28.tup _ _ ap13_27
  have ap14_28 := k28.tup _ _ ap14_27
  have ap15_28 := k28.tup _ _ ap15_27
  have ap16_28 := k28.tup _ _ ap16_27
  have ap17_28 := k28.tup _ _ ap17_27
  have al18_28 := k28.keep _ _ al18_27 (by simp)
  have ap19_28 := k28.tup _ _ ap19_27
  have ap20_28 := k28.tup _ _ ap20_27
  have ap21_28 := k28.tup _ _ ap21_27
  have ap22_28 := k28.tup _ _ ap22_27
  have ap23_28 := k28.tup _ _ ap23_27
  have ap24_28 := k28.tup _ _ ap24_27
  have N_28 := N_27.kp0 k28
  have nat_28 := N_28.at_
  have K_28 := K_27.step0 k28
  have al25_28 := new_at e28
  walk_at "go"
  intro l26 H_29 hl26 al26_29 k29
  have offal26 := D_28.off hl26
  have D_29 := D_28.kp0 k29
  have t1_29 := k29.tq t1_28
  have t2_29 := k29.tq t2_28
  have tt_29 := k29.tq tt_28
  have al12_29 := k29.keep _ _ al12_28 (by simp)
  have rw_29 := k29.tqAll rw_28
  have ap13_29 := k29.tup _ _ ap13_28
  have ap14_29 := k29.tup _ _ ap14_28
  have ap15_29 := k29.tup _ _ ap15_28
  have ap16_29 := k29.tup _ _ ap16_28
  have ap17_29 := k29.tup _ _ ap17_28
  have al18_29 := k29.keep _ _ al18_28 (by simp)
  have ap19_29 := k29.tup _ _ ap19_28
  have ap20_29 := k29.tup _ _ ap20_28
  have ap21_29 := k29.tup _ _ ap21_28
  have ap22_29 := k29.tup _ _ ap22_28
  have ap23_29 := k29.tup _ _ ap23_28
  have ap24_29 := k29.tup _ _ ap24_28
  have al25_29 := k29.keep _ _ al25_28 (by simp)
  have N_29 := N_28.kp0 k29
  have nat_29 := N_29.at_
  have K_29 := K_28.step0 k29
  have hM6 : m4 + 1 + 1 + 1 + 1 + 1 ≤ MANY := by show m4 + 1 + 1 + 1 + 1 + 1 ≤ 1000000000; omega
  walk_at "go"
  intro r27 H_30 r28 r29 D_30 k30
  have t1_30 := k30.tq t1_29
  have t2_30 := k30.tq t2_29
  have tt_30 := k30.tq tt_29
  have al12_30 := k30.keep _ _ al12_29 offal12
  have rw_30 := k30.tqAll rw_29
  have ap13_30 := k30.tup _ _ ap13_29
  have ap14_30 := k30.tup _ _ ap14_29
  have ap15_30 := k30.tup _ _ ap15_29
  have ap16_30 := k30.tup _ _ ap16_29
  have ap17_30 := k30.tup _ _ ap17_29
  have al18_30 := k30.keep _ _ al18_29 offal18
  have ap19_30 := k30.tup _ _ ap19_29
  have ap20_30 := k30.tup _ _ ap20_29
  have ap21_30 := k30.tup _ _ ap21_29
  have ap22_30 := k30.tup _ _ ap22_29
  have ap23_30 := k30.tup _ _ ap23_29
  have ap24_30 := k30.tup _ _ ap24_29
  have al25_30 := k30.keep _ _ al25_29 offal25
  have al26_30 := k30.keep _ _ al26_29 offal26
  have N_30 := N_29.kpD k30
  have nat_30 := N_30.at_
  have K_30 := K_29.trans k30
  walk_at "go"
  intro p28 H_31 hp28 ap28_31 k31
  have D_31 := D_30.kp0 k31
  have t1_31 := k31.tq t1_30
  have t2_31 := k31.tq t2_30
  have tt_31 := k31.tq tt_30
  have al12_31 := k31.keep _ _ al12_30 (by simp)
  have rw_31 := k31.tqAll rw_30
  have ap13_31 := k31.tup _ _ ap13_30
  have ap14_31 := k31.tup _ _ ap14_30
  have ap15_31 := k31.tup _ _ ap15_30
  have ap16_31 := k31.tup _ _ ap16_30
  have ap17_31 := k31.tup _ _ ap17_30
  have al18_31 := k31.keep _ _ al18_30 (by simp)
  have ap19_31 := k31.tup _ _ ap19_30
  have ap20_31 := k31.tup _ _ ap20_30
  have ap21_31 := k31.tup _ _ ap21_30
  have ap22_31 := k31.tup _ _ ap22_30
  have ap23_31 := k31.tup _ _ ap23_30
  have ap24_31 := k31.tup _ _ ap24_30
  have al25_31 := k31.keep _ _ al25_30 (by simp)
  have al26_31 := k31.keep _ _ al26_30 (by simp)
  have N_31 := N_30.kp0 k31
  have nat_31 := N_31.at_
  have K_31 := K_30.step0 k31
  walk_at "go"
  intro p29 H_32 hp29 e32
  have k32 := new_kp hp29 e32
  have D_32 := D_31.kp0 k32
  have t1_32 := k32.tq t1_31
  have t2_32 := k32.tq t2_31
  have tt_32 := k32.tq tt_31
  have al12_32 := k32.keep _ _ al12_31 (by simp)
  have rw_32 := k32.tqAll rw_31
  have ap13_32 := k32.tup _ _ ap13_31
  have ap14_32 := k32.tup _ _ ap14_31
  have ap15_32 := k32.tup _ _ ap15_31
  have ap16_32 := k32.tup _ _ ap16_31
  have ap17_32 := k32.tup _ _ ap17_31
  have al18_32 := k32.keep _ _ al18_31 (by simp)
  have ap19_32 := k32.tup _ _ ap19_31
  have ap20_32 := k32.tup _ _ ap20_31
  have ap21_32 := k32.tup _ _ ap21_31
  have ap22_32 := k32.tup _ _ ap22_31
  have ap23_32 := k32.tup _ _ ap23_31
  have ap24_32 := k32.tup _ _ ap24_31
  have al25_32 := k32.keep _ _ al25_31 (by simp)
  have al26_32 := k32.keep _ _ al26_31 (by simp)
  have ap28_32 := k32.tup _ _ ap28_31
  have N_32 := N_31.kp0 k32
  have nat_32 := N_32.at_
  have K_32 := K_31.step0 k32
  have ap29_32 := new_at e32
  walk_at "go"
  intro l30 H_33 hl30 e33
  have k33 := new_kp hl30 e33
  have offal30 := D_32.off hl30
  have D_33 := D_32.kp0 k33
  have t1_33 := k33.tq t1_32
  have t2_33 := k33.tq t2_32
  have tt_33 := k33.tq tt_32
  have al12_33 := k33.keep _ _ al12_32 (by simp)
  have rw_33 := k33.tqAll rw_32
  have ap13_33 := k33.tup _ _ ap13_32
  have ap14_33 := k33.tup _ _ ap14_32
  have ap15_33 := k33.tup _ _ ap15_32
  have ap16_33 := k33.tup _ _ ap16_32
  have ap17_33 := k33.tup _ _ ap17_32
  have al18_33 := k33.keep _ _ al18_32 (by simp)
  have ap19_33 := k33.tup _ _ ap19_32
  have ap20_33 := k33.tup _ _ ap20_32
  have ap21_33 := k33.tup _ _ ap21_32
  have ap22_33 := k33.tup _ _ ap22_32
  have ap23_33 := k33.tup _ _ ap23_32
  have ap24_33 := k33.tup _ _ ap24_32
  have al25_33 := k33.keep _ _ al25_32 (by simp)
  have al26_33 := k33.keep _ _ al26_32 (by simp)
  have ap28_33 := k33.tup _ _ ap28_32
  have ap29_33 := k33.tup _ _ ap29_32
  have N_33 := N_32.kp0 k33
  have nat_33 := N_33.at_
  have K_33 := K_32.step0 k33
  have al30_33 := new_at e33
  walk_at "go"
  intro l31 H_34 hl31 al31_34 k34
  have offal31 := D_33.off hl31
  have D_34 := D_33.kp0 k34
  have t1_34 := k34.tq t1_33
  have t2_34 := k34.tq t2_33
  have tt_34 := k34.tq tt_33
  have al12_34 := k34.keep _ _ al12_33 (by simp)
  have rw_34 := k34.tqAll rw_33
  have ap13_34 := k34.tup _ _ ap13_33
  have ap14_34 := k34.tup _ _ ap14_33
  have ap15_34 := k34.tup _ _ ap15_33
  have ap16_34 := k34.tup _ _ ap16_33
  have ap17_34 := k34.tup _ _ ap17_33
  have al18_34 := k34.keep _ _ al18_33 (by simp)
  have ap19_34 := k34.tup _ _ ap19_33
  have ap20_34 := k34.tup _ _ ap20_33
  have ap21_34 := k34.tup _ _ ap21_33
  have ap22_34 := k34.tup _ _ ap22_33
  have ap23_34 := k34.tup _ _ ap23_33
  have ap24_34 := k34.tup _ _ ap24_33
  have al25_34 := k34.keep _ _ al25_33 (by simp)
  have al26_34 := k34.keep _ _ al26_33 (by simp)
  have ap28_34 := k34.tup _ _ ap28_33
  have ap29_34 := k34.tup _ _ ap29_33
  have al30_34 := k34.keep _ _ al30_33 (by simp)
  have N_34 := N_33.kp0 k34
  have nat_34 := N_34.at_
  have K_34 := K_33.step0 k34
  have hM7 : m4 + 1 + 1 + 1 + 1 + 1 + 1 ≤ MANY := by show m4 + 1 + 1 + 1 + 1 + 1 + 1 ≤ 1000000000; omega
  walk_at "go"
  intro x H_35 hx D_35 k35
  have t1_35 := k35.tq t1_34
  have t2_35 := k35.tq t2_34
  have tt_35 := k35.tq tt_34
  have al12_35 := k35.keep _ _ al12_34 offal12
  have rw_35 := k35.tqAll rw_34
  have ap13_35 := k35.tup _ _ ap13_34
  have ap14_35 := k35.tup _ _ ap14_34
  have ap15_35 := k35.tup _ _ ap15_34
  have ap16_35 := k35.tup _ _ ap16_34
  have ap17_35 := k35.tup _ _ ap17_34
  have al18_35 := k35.keep _ _ al18_34 offal18
  have ap19_35 := k35.tup _ _ ap19_34
  have ap20_35 := k35.tup _ _ ap20_34
  have ap21_35 := k35.tup _ _ ap21_34
  have ap22_35 := k35.tup _ _ ap22_34
  have ap23_35 := k35.tup _ _ ap23_34
  have ap24_35 := k35.tup _ _ ap24_34
  have al25_35 := k35.keep _ _ al25_34 offal25
  have al26_35 := k35.keep _ _ al26_34 offal26
  have ap28_35 := k35.tup _ _ ap28_34
  have ap29_35 := k35.tup _ _ ap29_34
  have al30_35 := k35.keep _ _ al30_34 offal30
  have al31_35 := k35.keep _ _ al31_34 offal31
  have N_35 := N_34.kpD k35
  have nat_35 := N_35.at_
  have K_35 := K_34.trans k35
  have fin : ∃ d, Tq H_35 d x ∧ Vw d 300 2000 12 := by
    have hx : x ∈ [V.ref p13, V.ref p14, V.ref p15, V.ref p16, V.ref p17, V.ref p21, V.ref p24, V.ref p29] := hx
    simp only [List.mem_cons, List.not_mem_nil, or_false] at hx
    have tr : Tq H_35 (.tuple rd) (.ref p19) := mq_tup ap19_35 rw_35
    have tr2 : Tq H_35 (.tuple rd) (.ref p23) := mq_tup ap23_35 rw_35
    have tr3 : Tq H_35 (.tuple rd) (.ref p28) := mq_tup ap28_35 rw_35
    have te : Tq H_35 (.tuple []) (.ref p20) := mq_tup ap20_35 tqs_nil
    have te2 : Tq H_35 (.tuple []) (.ref p22) := mq_tup ap22_35 tqs_nil
    have ve : Vw (.tuple []) 1 0 1 := vw_tup vws_nil
    rcases hx with rfl | rfl | rfl | rfl | rfl | rfl | rfl | rfl
    · exact ⟨_, mq_tup ap13_35 (tqs_cons mq_str (tqs_cons mq_str (tqs_cons t1_35 tqs_nil))), (vw_op "set" (by decide +kernel) vn v1).mono (by omega) (by omega) (by omega)⟩
    · exact ⟨_, mq_tup ap14_35 (tqs_cons mq_str (tqs_cons mq_str (tqs_cons t1_35 tqs_nil))), (vw_op "half" (by decide +kernel) vn v1).mono (by omega) (by omega) (by omega)⟩
    · exact ⟨_, mq_tup ap15_35 (tqs_cons mq_str (tqs_cons t1_35 tqs_nil)), (vw_un "tell" (by decide +kernel) v1).mono (by omega) (by omega) (by omega)⟩
    · exact ⟨_, mq_tup ap16_35 (tqs_cons mq_str (tqs_cons mq_str tqs_nil)), (vw_un "say" (by decide +kernel) vwd).mono (by omega) (by omega) (by omega)⟩
    · exact ⟨_, mq_tup ap17_35 (tqs_cons mq_str (tqs_cons mq_str tqs_nil)), (vw_un "stop" (by decide +kernel) vwd).mono (by omega) (by omega) (by omega)⟩
    · exact ⟨_, mq_tup ap21_35 (tqs_cons mq_str (tqs_cons tt_35 (tqs_cons tr (tqs_cons te tqs_nil)))), (vw_if vt3 vr ve).mono (by omega) (by omega) (by omega)⟩
    · exact ⟨_, mq_tup ap24_35 (tqs_cons mq_str (tqs_cons tt_35 (tqs_cons te2 (tqs_cons tr2 tqs_nil)))), (vw_if vt3 ve vr).mono (by omega) (by omega) (by omega)⟩
    · exact ⟨_, mq_tup ap29_35 (tqs_cons mq_str (tqs_cons mq_int (tqs_cons tr3 tqs_nil))), (vw_op "repeat" (by decide +kernel) (vw_int (i := r27) (by omega)) vr).mono (by omega) (by omega) (by omega)⟩
  obtain ⟨d, tq, vd⟩ := fin
  walk_at "go"
  exact q x d H_35 _ tq vd (by omega) (by omega) D_35 K_35
theorem ok_l_kept (T : Top K mg) : FnOk P w K mg base CX0 1 T.l_kept.f T.l_kept.fd [] spKept := by
  refine T.l_kept.F.ok sc_l_kept (fun vs H Q E h => ?_) (fun cdv A outer s H vs Q E hr h => ?_)
  · obtain ⟨rfl, _⟩ := h
    rfl
  obtain ⟨rfl, q⟩ := h
  refine ⟨_, (pss_one (ps_ret (pe_lstA (pa_cons pe_str (pa_cons pe_str (pa_cons pe_str (pa_cons pe_str (pa_cons pe_str (pa_cons pe_str (pa_cons pe_str (pa_cons pe_str (pa_cons pe_str (pa_cons pe_str (pa_cons pe_str pa_nil)))))))))))))), ?_⟩
  walk_at "go"
  intro p H1 hp e1
  exact q p H1 hp (new_at e1) (new_kp hp e1)
end
section
variable {P : Program} {w : World} {K : PySem.W.Frag} {mg : Str → Option Value} {base : Heap}
theorem ok_is_wholeQ (T : Top K mg) {k : Nat} : FnOk P w K mg base CX0 (k + 1) T.is_whole.f T.is_whole.fd ["value", "least", "most"] spWholeQ := by
  refine T.is_whole.F.ok sc_is_whole (fun vs H Q E h => ?_) (fun cdv A outer s H vs Q E hr h => ?_)
  · obtain ⟨v, d, lo, hi, rfl, _⟩ := h
    rfl
  obtain ⟨v, d, lo, hi, rfl, hT, q⟩ := h
  refine ⟨_, (pss_one (ps_ret (pe_and (pe_callB (id := "isinstance") (call_isiK (K := K) rfl) (by rfl) T.isinstance (by decide +kernel) (pa_cons (pv 0) (pa_cons (pe_bltn (v := .ty "int") (u := .type "int") (by rfl) T.int (by decide +kernel) rfl) pa_nil))) (pe_and (pe_not (pe_callB (id := "isinstance") (call_isiK (K := K) rfl) (by rfl) T.isinstance (by decide +kernel) (pa_cons (pv 0) (pa_cons (pe_bltn (v := .ty "bool") (u := .type "bool") (by rfl) T.bool (by decide +kernel) rfl) pa_nil)))) (pe_one (pe_chain op_le op_le (pv 1) (pv 0) (pv 2))))))), ?_⟩
  cases d with
  | none => simp only [Tq] at hT; subst hT; walk_at "go"; exact q
  | bool b => simp only [Tq] at hT; subst hT; walk_at "go"; exact q
  | str z => simp only [Tq] at hT; subst hT; walk_at "go"; exact q
  | tuple ds =>
    obtain ⟨a, xs, rfl, h1, h2⟩ := tq_tup hT
    walk_at "go"
    exact q
  | list ds =>
    obtain ⟨_, _, _, rfl, _, g1, g2⟩ := tq_lst hT
    walk_at "go"
    exact q
  | dict ds =>
    obtain ⟨_, _, _, rfl, _, g1⟩ := tq_dct hT
    walk_at "go"
    exact q
  | int i =>
    simp only [Tq] at hT
    subst hT
    replace q : Q (.bl (decide (lo ≤ i) && decide (i ≤ hi))) H := q
    walk_at "go"
    refine iteB (fun hc => ?_) (fun hc => ?_)
    · walk_at "go"
      rw [hc] at q
      exact q
    · rw [hc] at q
      exact q
theorem signs_okQ {H : Hp} {D : Addr} {z : Str} (d : H D = some (.lst ((z.cps.toList.filter fun c => !decide (c ∈ SGNS.cps.toList)).map fun c => V.str ⟨#[c]⟩))) : (List.map (fun c => V.str ⟨#[c]⟩) (z.cps.toList.filter fun c => !decide (c ∈ SGNS.cps.toList))).isEmpty = sgnsB z := by
  unfold sgnsB
  generalize z.cps.toList = l
  induction l with
  | nil => rfl
  | cons c r ih =>
    cases hc : decide (c ∈ SGNS.cps.toList) with
    | true =>
      rw [List.filter_cons_of_neg (by rw [hc]; simp), List.all_cons, hc, ih]
      rfl
    | false =>
      rw [List.filter_cons_of_pos (by rw [hc]; rfl), List.all_cons, hc]
      rfl
theorem ok_is_wordQ (T : Top K mg) {k : Nat} : FnOk P w K mg base CX0 (k + 1) T.is_word.f T.is_word.fd ["value"] (spBoolQ wordB) := by
  refine T.is_word.F.ok sc_is_word (fun vs H Q E h => ?_) (fun cdv A outer s H vs Q E hr h => ?_)
  · obtain ⟨v, d, rfl, _⟩ := h
    rfl
  obtain ⟨v, d, rfl, hT, sz, q⟩ := h
  have hu := hu_of hr
  refine ⟨_, (pss_cons (ps_if (PW.pt (pw_or (pt_not (pt_val (pe_callB (id := "isinstance") (call_isiK (K := K) rfl) (by rfl) T.isinstance (by decide +kernel) (pa_cons (pv 0) (pa_cons (pe_bltn (v := .ty "str") (u := .type "str") (by rfl) T.str (by decide +kernel) rfl) pa_nil))))) (pw_or1 (pt_not (pt_chain op_le op_le pe_int (pe_callB (id := "len") call_len_str (by rfl) T.len PySem.boot_len (pa_cons (pv 0) pa_nil)) (pe_glob (v := .int 8) (by rfl) T.g_MAX_WORD ⟨_, rfl⟩)))))) (pss_one (ps_ret pe_bl)) pss_nil)
      (pss_one (ps_ret (pe_cmpR (op_eqNil hu) (pe_lc (own := [("sign", 1)]) (by rfl) sc_is_word.nd (pi_str (pv 0)) (blkOk_by (N := ["value", "sign"]) (sc := defScope s_is_word) (own := [("sign", 1)]) (by decide +kernel)) (fun _ _ _ _ _ => (pg_name (i := 1) sc_is_word.nd rfl (.inl rfl))) (fun _ _ _ _ _ => (pts_one (pt_cmpR op_notIn_sign (pv 1) (pe_glob (v := .str "abcdefghijklmnopqrstuvwxyz0123456789") (by rfl) T.g_SIGNS ⟨_, rfl⟩) (by rfl)))) (fun _ _ _ _ _ => (pv 1))) (pe_lstA pa_nil) (nomark _))))), ?_⟩
  cases d with
  | none => simp only [Tq] at hT; subst hT; walk_at "go"; exact q H Kp.refl
  | bool b => simp only [Tq] at hT; subst hT; walk_at "go"; exact q H Kp.refl
  | int b => simp only [Tq] at hT; subst hT; walk_at "go"; exact q H Kp.refl
  | tuple ds =>
    obtain ⟨a, xs, rfl, h1, h2⟩ := tq_tup hT
    walk_at "go"
    exact q H Kp.refl
  | list ds =>
    obtain ⟨_, _, _, rfl, _, g1, g2⟩ := tq_lst hT
    walk_at "go"
    exact q H Kp.refl
  | dict ds =>
    obtain ⟨_, _, _, rfl, _, g1⟩ := tq_dct hT
    walk_at "go"
    exact q H Kp.refl
  | str z =>
    simp only [Tq] at hT
    subst hT
    have lz : z.length ≤ sizeLine := sz_le (by simpa only [Szd] using sz)
    replace q : ∀ H', Kp [] H H' → Q (.bl ((decide (1 ≤ (z.length : Int)) && decide ((z.length : Int) ≤ 8)) && sgnsB z)) H' := q
    walk_at "go"
    refine iteB (fun h1 => ?_) (fun h1 => ?_)
    · walk_at "go"
      refine iteB (fun h2 => ?_) (fun h2 => ?_)
      · replace h2 := PyProof.Rows.false_of_not_true h2
        have q2 := q H Kp.refl
        rw [h1, h2] at q2
        exact q2
      · replace h2 := PyProof.Rows.true_of_not_false h2
        rw [h1, h2] at q
        walk_at "go"
        intro D hD
        refine lc_it walk_str (fun i X2 => Lp (Kp [D] H X2 ∧ X2 D = some (.lst (((z.cps.toList.take i).filter fun c => !decide (c ∈ SGNS.cps.toList)).map fun c => V.str ⟨#[c]⟩)))) ⟨(Kp.new hD).sub (by simp), upd_same⟩ (fun _ _ _ _ => trivial) ?_ ?_
        · rintro i x X2 X3 hi ⟨⟨kX, dX⟩⟩ ⟨rfl, c, hc, rfl⟩
          have ht : z.cps.toList.take (i + 1) = z.cps.toList.take i ++ [c] := by
            rw [List.take_add_one, Array.getElem?_toList, hc]
            rfl
          have sa : (((z.cps.toList.take i).filter fun c => !decide (c ∈ SGNS.cps.toList)).map fun c => V.str ⟨#[c]⟩).length < sizeLine := by
            have := List.length_filter_le (fun c => !decide (c ∈ SGNS.cps.toList)) (z.cps.toList.take i)
            rw [List.length_take] at this
            rw [List.length_map]
            exact sz_lt (by have := (show z.length ≤ 1000000 by simpa only [Szd] using sz); have : z.cps.toList.length = z.length := Array.length_toList; omega)
          walk_at "go"
          refine iteB (fun hc2 => ?_) (fun hc2 => ?_)
          · walk_at "go"
            refine ⟨⟨kX.step1 (Kp.put dX (fun _ z => by cases z)) (.inl (by simp)), ?_⟩⟩
            rw [upd_same, ht, List.filter_append, List.map_append]
            rw [List.filter_cons_of_pos (p := fun c => !decide (c ∈ SGNS.cps.toList)) (show (!decide (c ∈ SGNS.cps.toList)) = true from hc2)]
            rfl
          · refine ⟨⟨kX, ?_⟩⟩
            rw [dX, ht, List.filter_append, List.filter_cons_of_neg (p := fun c => !decide (c ∈ SGNS.cps.toList)) (by show ¬ ((!decide (c ∈ SGNS.cps.toList)) = true); rw [show (!decide (c ∈ SGNS.cps.toList)) = false from hc2]; simp), List.filter_nil, List.append_nil]
        · rintro X2 ⟨⟨kX, dX⟩⟩
          rw [List.take_of_length_le (by rw [Array.length_toList]; exact Nat.le_refl _)] at dX
          have es := signs_okQ dX
          have kX' : Kp [] H X2 := Kp.refl.step1 kX (.inr hD)
          walk_at "go"
          intro l3 X3 hl3 e3
          have k3 := new_kp hl3 e3
          have a3 := new_at e3
          refine ⟨D, l3, _, rfl, rfl, k3.at dX, a3, ?_⟩
          rw [es]
          exact q X3 (kX'.step0 k3)
    · have q2 := q H Kp.refl
      rw [h1] at q2
      walk_at "go"
      exact q2
theorem ok_is_nameQ (T : Top K mg) {k : Nat} : FnOk P w K mg base CX0 (k + 1) T.is_name.f T.is_name.fd ["value"] (spBoolQ nameB) := by
  refine T.is_name.F.ok sc_is_name (fun vs H Q E h => ?_) (fun cdv A outer s H vs Q E hr h => ?_)
  · obtain ⟨v, d, rfl, _⟩ := h
    rfl
  obtain ⟨v, d, rfl, hT, sz, q⟩ := h
  have hu := hu_of hr
  refine ⟨_, (pss_cons (ps_if (PW.pt (pw_or (pt_not (pt_val (pe_callB (id := "isinstance") (call_isiK (K := K) rfl) (by rfl) T.isinstance (by decide +kernel) (pa_cons (pv 0) (pa_cons (pe_bltn (v := .ty "str") (u := .type "str") (by rfl) T.str (by decide +kernel) rfl) pa_nil))))) (pw_or (pt_not (pt_chain op_le op_le pe_int (pe_callB (id := "len") call_len_str (by rfl) T.len PySem.boot_len (pa_cons (pv 0) pa_nil)) (pe_glob (v := .int 8) (by rfl) T.g_MAX_NAME ⟨_, rfl⟩))) (pw_or1 (pt_cmpR op_notIn_sign (pe_ix ix_str (pv 0) pe_int (fun _ _ => rfl)) (pe_glob (v := .str "abcdefghijklmnopqrstuvwxyz") (by rfl) T.g_LETTERS ⟨_, rfl⟩) (by rfl)))))) (pss_one (ps_ret pe_bl)) pss_nil)
      (pss_one (ps_ret (pe_and (pe_cmpR (op_eqNil hu) (pe_lc (own := [("sign", 1)]) (by rfl) sc_is_name.nd (pi_str (pv 0)) (blkOk_by (N := ["value", "sign"]) (sc := defScope s_is_name) (own := [("sign", 1)]) (by decide +kernel)) (fun _ _ _ _ _ => (pg_name (i := 1) sc_is_name.nd rfl (.inl rfl))) (fun _ _ _ _ _ => (pts_one (pt_cmpR op_notIn_sign (pv 1) (pe_glob (v := .str "abcdefghijklmnopqrstuvwxyz0123456789") (by rfl) T.g_SIGNS ⟨_, rfl⟩) (by rfl)))) (fun _ _ _ _ _ => (pv 1))) (pe_lstA pa_nil) (nomark _)) (pe_one (pe_cmpR (op_notIn_seqK (K := K) rfl) (pv 0) (pe_glob (v := .ref T.KEPT) (by rfl) T.g_KEPT rfl) (by rfl))))))), ?_⟩
  cases d with
  | none => simp only [Tq] at hT; subst hT; walk_at "go"; exact q H Kp.refl
  | bool b => simp only [Tq] at hT; subst hT; walk_at "go"; exact q H Kp.refl
  | int b => simp only [Tq] at hT; subst hT; walk_at "go"; exact q H Kp.refl
  | tuple ds =>
    obtain ⟨a, xs, rfl, h1, h2⟩ := tq_tup hT
    walk_at "go"
    exact q H Kp.refl
  | list ds =>
    obtain ⟨_, _, _, rfl, _, g1, g2⟩ := tq_lst hT
    walk_at "go"
    exact q H Kp.refl
  | dict ds =>
    obtain ⟨_, _, _, rfl, _, g1⟩ := tq_dct hT
    walk_at "go"
    exact q H Kp.refl
  | str z =>
    simp only [Tq] at hT
    subst hT
    have lz : z.length ≤ sizeLine := sz_le (by simpa only [Szd] using sz)
    replace q : ∀ H', Kp [] H H' → Q (.bl ((decide (1 ≤ (z.length : Int)) && decide ((z.length : Int) ≤ 8)) && headB z && sgnsB z && !inV (.str z) KEPTS)) H' := q
    walk_at "go"
    refine iteB (fun h1 => ?_) (fun h1 => ?_)
    · walk_at "go"
      refine iteB (fun h2 => ?_) (fun h2 => ?_)
      · replace h2 := PyProof.Rows.false_of_not_true h2
        have q2 := q H Kp.refl
        rw [h1, h2] at q2
        walk_at "go"
        exact q2
      · replace h2 := PyProof.Rows.true_of_not_false h2
        rw [h1, h2] at q
        obtain ⟨c0, r0, e0⟩ : ∃ c0 r0, z.cps.toList = c0 :: r0 := by
          cases e : z.cps.toList with
          | nil =>
            have : z.cps.toList.length = z.length := Array.length_toList
            rw [e] at this
            have := of_decide_eq_true h1
            rw [List.length_nil] at *
            omega
          | cons c r => exact ⟨c, r, rfl⟩
        have a0 : atI z.cps.toList 0 = some c0 := by
          rw [e0]
          exact atI_nat (j := 0) rfl
        have hd0 : headB z = decide (c0 ∈ LETS.cps.toList) := by
          unfold headB
          rw [e0]
        rw [hd0] at q
        walk_at "go"
        refine iteB (fun h3 => ?_) (fun h3 => ?_)
        · replace h3 : decide (c0 ∈ LETS.cps.toList) = false := PyProof.Rows.false_of_not_true h3
          have q2 := q H Kp.refl
          rw [h3] at q2
          walk_at "go"
          exact q2
        · replace h3 : decide (c0 ∈ LETS.cps.toList) = true := PyProof.Rows.true_of_not_false h3
          rw [h3] at q
          walk_at "go"
          intro D hD
          refine lc_it walk_str (fun i X2 => Lp (Kp [D] H X2 ∧ X2 D = some (.lst (((z.cps.toList.take i).filter fun c => !decide (c ∈ SGNS.cps.toList)).map fun c => V.str ⟨#[c]⟩)))) ⟨(Kp.new hD).sub (by simp), upd_same⟩ (fun _ _ _ _ => trivial) ?_ ?_
          · rintro i x X2 X3 hi ⟨⟨kX, dX⟩⟩ ⟨rfl, c, hc, rfl⟩
            have ht : z.cps.toList.take (i + 1) = z.cps.toList.take i ++ [c] := by
              rw [List.take_add_one, Array.getElem?_toList, hc]
              rfl
            have sa : (((z.cps.toList.take i).filter fun c => !decide (c ∈ SGNS.cps.toList)).map fun c => V.str ⟨#[c]⟩).length < sizeLine := by
              have := List.length_filter_le (fun c => !decide (c ∈ SGNS.cps.toList)) (z.cps.toList.take i)
              rw [List.length_take] at this
              rw [List.length_map]
              exact sz_lt (by have := (show z.length ≤ 1000000 by simpa only [Szd] using sz); have : z.cps.toList.length = z.length := Array.length_toList; omega)
            walk_at "go"
            refine iteB (fun hc2 => ?_) (fun hc2 => ?_)
            · walk_at "go"
              refine ⟨⟨kX.step1 (Kp.put dX (fun _ z => by cases z)) (.inl (by simp)), ?_⟩⟩
              rw [upd_same, ht, List.filter_append, List.map_append]
              rw [List.filter_cons_of_pos (p := fun c => !decide (c ∈ SGNS.cps.toList)) (show (!decide (c ∈ SGNS.cps.toList)) = true from hc2)]
              rfl
            · refine ⟨⟨kX, ?_⟩⟩
              rw [dX, ht, List.filter_append, List.filter_cons_of_neg (p := fun c => !decide (c ∈ SGNS.cps.toList)) (by show ¬ ((!decide (c ∈ SGNS.cps.toList)) = true); rw [show (!decide (c ∈ SGNS.cps.toList)) = false from hc2]; simp), List.filter_nil, List.append_nil]
          · rintro X2 ⟨⟨kX, dX⟩⟩
            rw [List.take_of_length_le (by rw [Array.length_toList]; exact Nat.le_refl _)] at dX
            have es := signs_okQ dX
            have kX' : Kp [] H X2 := Kp.refl.step1 kX (.inr hD)
            walk_at "go"
            intro l3 X3 hl3 e3
            have k3 := new_kp hl3 e3
            have a3 := new_at e3
            refine ⟨D, l3, _, rfl, rfl, k3.at dX, a3, ?_⟩
            rw [es]
            have qk := T.q_KEPT X3
            refine ⟨_, rfl, ?_⟩
            refine iteB (fun h4 => ?_) (fun h4 => ?_)
            · rw [h4] at q
              walk_at "go"
              refine ⟨.inr qk, rfl, rfl, ?_⟩
              exact q X3 (kX'.step0 k3)
            · have q2 := q X3 (kX'.step0 k3)
              rw [h4] at q2
              exact q2
    · have q2 := q H Kp.refl
      rw [h1] at q2
      walk_at "go"
      exact q2
end
section
variable {P : Program} {w : World} {K : PySem.W.Frag} {mg : Str → Option Value} {base : Heap}
theorem ok_l_wholeQ (T : Top K mg) {k : Nat} : FnOk P w K mg base CX0 (k + 1) T.l_whole.f T.l_whole.fd ["_law_value", "_law_least", "_law_most"] spWholeQ := by
  refine T.l_whole.F.ok sc_l_whole (fun vs H Q E h => ?_) (fun cdv A outer s H vs Q E hr h => ?_)
  · obtain ⟨v, d, lo, hi, rfl, _⟩ := h
    rfl
  obtain ⟨v, d, lo, hi, rfl, hT, q⟩ := h
  refine ⟨_, (pss_one (ps_ret (pe_and (pe_callB (id := "isinstance") (call_isiK (K := K) rfl) (by rfl) T.isinstance (by decide +kernel) (pa_cons (pv 0) (pa_cons (pe_bltn (v := .ty "int") (u := .type "int") (by rfl) T.int (by decide +kernel) rfl) pa_nil))) (pe_and (pe_not (pe_callB (id := "isinstance") (call_isiK (K := K) rfl) (by rfl) T.isinstance (by decide +kernel) (pa_cons (pv 0) (pa_cons (pe_bltn (v := .ty "bool") (u := .type "bool") (by rfl) T.bool (by decide +kernel) rfl) pa_nil)))) (pe_one (pe_chain op_le op_le (pv 1) (pv 0) (pv 2))))))), ?_⟩
  cases d with
  | none => simp only [Tq] at hT; subst hT; walk_at "go"; exact q
  | bool b => simp only [Tq] at hT; subst hT; walk_at "go"; exact q
  | str z => simp only [Tq] at hT; subst hT; walk_at "go"; exact q
  | tuple ds =>
    obtain ⟨a, xs, rfl, h1, h2⟩ := tq_tup hT
    walk_at "go"
    exact q
  | list ds =>
    obtain ⟨_, _, _, rfl, _, g1, g2⟩ := tq_lst hT
    walk_at "go"
    exact q
  | dict ds =>
    obtain ⟨_, _, _, rfl, _, g1⟩ := tq_dct hT
    walk_at "go"
    exact q
  | int i =>
    simp only [Tq] at hT
    subst hT
    replace q : Q (.bl (decide (lo ≤ i) && decide (i ≤ hi))) H := q
    walk_at "go"
    refine iteB (fun hc => ?_) (fun hc => ?_)
    · walk_at "go"
      rw [hc] at q
      exact q
    · rw [hc] at q
      exact q
theorem ok_l_lettersQ (T : Top K mg) {k : Nat} : FnOk P w K mg base CX0 (k + 1) T.l_letters.f T.l_letters.fd ["_law_value", "_law_most"] spLettersQ := by
  refine T.l_letters.F.ok sc_l_letters (fun vs H Q E h => ?_) (fun cdv A outer s H vs Q E hr h => ?_)
  · obtain ⟨v, d, rfl, _⟩ := h
    rfl
  obtain ⟨v, d, rfl, hT, sz, q⟩ := h
  have hu := hu_of hr
  refine ⟨_, (pss_cons (ps_if (PW.pt (pw_or (pt_not (pt_val (pe_callB (id := "isinstance") (call_isiK (K := K) rfl) (by rfl) T.isinstance (by decide +kernel) (pa_cons (pv 0) (pa_cons (pe_bltn (v := .ty "str") (u := .type "str") (by rfl) T.str (by decide +kernel) rfl) pa_nil))))) (pw_or1 (pt_not (pt_chain op_le op_le pe_int (pe_callB (id := "len") call_len_str (by rfl) T.len PySem.boot_len (pa_cons (pv 0) pa_nil)) (pv 1)))))) (pss_one (ps_ret pe_bl)) pss_nil)
      (pss_one (ps_ret (pe_cmpR (op_eqNil hu) (pe_lc (own := [("_law_sign", 2)]) (by rfl) sc_l_letters.nd (pi_str (pv 0)) (blkOk_by (N := ["_law_value", "_law_most", "_law_sign"]) (sc := defScope s_l_letters) (own := [("_law_sign", 2)]) (by decide +kernel)) (fun _ _ _ _ _ => (pg_name (i := 2) sc_l_letters.nd rfl (.inl rfl))) (fun _ _ _ _ _ => (pts_one (pt_cmpR op_notIn_sign (pv 2) pe_str (by rfl)))) (fun _ _ _ _ _ => (pv 2))) (pe_lstA pa_nil) (nomark _))))), ?_⟩
  cases d with
  | none => simp only [Tq] at hT; subst hT; walk_at "go"; exact q H Kp.refl
  | bool b => simp only [Tq] at hT; subst hT; walk_at "go"; exact q H Kp.refl
  | int b => simp only [Tq] at hT; subst hT; walk_at "go"; exact q H Kp.refl
  | tuple ds =>
    obtain ⟨a, xs, rfl, h1, h2⟩ := tq_tup hT
    walk_at "go"
    exact q H Kp.refl
  | list ds =>
    obtain ⟨_, _, _, rfl, _, g1, g2⟩ := tq_lst hT
    walk_at "go"
    exact q H Kp.refl
  | dict ds =>
    obtain ⟨_, _, _, rfl, _, g1⟩ := tq_dct hT
    walk_at "go"
    exact q H Kp.refl
  | str z =>
    simp only [Tq] at hT
    subst hT
    have lz : z.length ≤ sizeLine := sz_le (by simpa only [Szd] using sz)
    replace q : ∀ H', Kp [] H H' → Q (.bl ((decide (1 ≤ (z.length : Int)) && decide ((z.length : Int) ≤ 8)) && sgnsB z)) H' := q
    walk_at "go"
    refine iteB (fun h1 => ?_) (fun h1 => ?_)
    · walk_at "go"
      refine iteB (fun h2 => ?_) (fun h2 => ?_)
      · replace h2 := PyProof.Rows.false_of_not_true h2
        have q2 := q H Kp.refl
        rw [h1, h2] at q2
        exact q2
      · replace h2 := PyProof.Rows.true_of_not_false h2
        rw [h1, h2] at q
        walk_at "go"
        intro D hD
        refine lc_it walk_str (fun i X2 => Lp (Kp [D] H X2 ∧ X2 D = some (.lst (((z.cps.toList.take i).filter fun c => !decide (c ∈ SGNS.cps.toList)).map fun c => V.str ⟨#[c]⟩)))) ⟨(Kp.new hD).sub (by simp), upd_same⟩ (fun _ _ _ _ => trivial) ?_ ?_
        · rintro i x X2 X3 hi ⟨⟨kX, dX⟩⟩ ⟨rfl, c, hc, rfl⟩
          have ht : z.cps.toList.take (i + 1) = z.cps.toList.take i ++ [c] := by
            rw [List.take_add_one, Array.getElem?_toList, hc]
            rfl
          have sa : (((z.cps.toList.take i).filter fun c => !decide (c ∈ SGNS.cps.toList)).map fun c => V.str ⟨#[c]⟩).length < sizeLine := by
            have := List.length_filter_le (fun c => !decide (c ∈ SGNS.cps.toList)) (z.cps.toList.take i)
            rw [List.length_take] at this
            rw [List.length_map]
            exact sz_lt (by have := (show z.length ≤ 1000000 by simpa only [Szd] using sz); have : z.cps.toList.length = z.length := Array.length_toList; omega)
          walk_at "go"
          refine iteB (fun hc2 => ?_) (fun hc2 => ?_)
          · walk_at "go"
            refine ⟨⟨kX.step1 (Kp.put dX (fun _ z => by cases z)) (.inl (by simp)), ?_⟩⟩
            rw [upd_same, ht, List.filter_append, List.map_append]
            rw [List.filter_cons_of_pos (p := fun c => !decide (c ∈ SGNS.cps.toList)) (show (!decide (c ∈ SGNS.cps.toList)) = true from hc2)]
            rfl
          · refine ⟨⟨kX, ?_⟩⟩
            rw [dX, ht, List.filter_append, List.filter_cons_of_neg (p := fun c => !decide (c ∈ SGNS.cps.toList)) (by show ¬ ((!decide (c ∈ SGNS.cps.toList)) = true); rw [show (!decide (c ∈ SGNS.cps.toList)) = false from hc2]; simp), List.filter_nil, List.append_nil]
        · rintro X2 ⟨⟨kX, dX⟩⟩
          rw [List.take_of_length_le (by rw [Array.length_toList]; exact Nat.le_refl _)] at dX
          have es := signs_okQ dX
          have kX' : Kp [] H X2 := Kp.refl.step1 kX (.inr hD)
          walk_at "go"
          intro l3 X3 hl3 e3
          have k3 := new_kp hl3 e3
          have a3 := new_at e3
          refine ⟨D, l3, _, rfl, rfl, k3.at dX, a3, ?_⟩
          rw [es]
          exact q X3 (kX'.step0 k3)
    · have q2 := q H Kp.refl
      rw [h1] at q2
      walk_at "go"
      exact q2
theorem ok_l_is_nameQ (T : Top K mg) {k : Nat} : FnOk P w K mg base CX0 (k + 2) T.l_is_name.f T.l_is_name.fd ["_law_value"] (spBoolQ nameB) := by
  have G_l_letters : FnOk P w K mg base CX0 1 T.l_letters.f T.l_letters.fd ["_law_value", "_law_most"] spLettersQ := ok_l_lettersQ T
  refine T.l_is_name.F.ok sc_l_is_name (fun vs H Q E h => ?_) (fun cdv A outer s H vs Q E hr h => ?_)
  · obtain ⟨v, d, rfl, _⟩ := h
    rfl
  obtain ⟨v, d, rfl, hT, sz, q⟩ := h
  have hu := hu_of hr
  refine ⟨_, (pss_cons (ps_if (PW.pt (pw_or (pt_not (pt_val (pe_call G_l_letters (hr.mono (by omega)) (by rfl) T.l_letters.g T.l_letters.F.kp T.l_letters.b .nil pass0 (pa_cons (pv 0) (pa_cons pe_int pa_nil))))) (pw_or1 (pt_cmpR op_in_sign (pe_ix ix_str (pv 0) pe_int (fun _ _ => rfl)) pe_str (by rfl))))) (pss_one (ps_ret pe_bl)) pss_nil)
      (pss_cons (ps_set (i := 1) sc_l_is_name.nd rfl (.inl rfl) (pe_lstA (pa_cons pe_str (pa_cons pe_str (pa_cons pe_str (pa_cons pe_str (pa_cons pe_str (pa_cons pe_str (pa_cons pe_str (pa_cons pe_str (pa_cons pe_str (pa_cons pe_str (pa_cons pe_str pa_nil)))))))))))))
      (pss_one (ps_ret (pe_cmpR (op_notIn_seqK (K := K) rfl) (pv 0) (pv 1) (by rfl)))))), ?_⟩
  have nw : wordB d = false → nameB d = false := name_noword
  walk_at "go"
  intro H1 k1
  have t1 := k1.tq hT
  cases hw : wordB d with
  | false =>
    rw [nw hw] at q
    refine ⟨false, rfl, ?_⟩
    refine iteT ?_
    exact q H1 k1
  | true =>
    obtain ⟨z, rfl, hz⟩ := word_str hw
    obtain ⟨c0, r0, e0, ed⟩ := word_head hw
    cases tq_str t1
    have a0 : atI z.cps.toList 0 = some c0 := by
      rw [e0]
      exact atI_nat (j := 0) rfl
    have lz : z.length ≤ sizeLine := sz_le (by simpa only [Szd] using sz)
    refine ⟨true, rfl, ?_⟩
    refine iteF ?_
    walk_at "go"
    have en : nameB (.str z) = (!decide (c0 ∈ DIGS.cps.toList) && !inV (.str z) KEPTS) := name_word hw e0
    rw [en] at q
    refine iteB (fun hd => ?_) (fun hd => ?_)
    · replace hd : decide (c0 ∈ DIGS.cps.toList) = true := hd
      rw [hd] at q
      exact q H1 k1
    · replace hd : decide (c0 ∈ DIGS.cps.toList) = false := hd
      rw [hd] at q
      walk_at "go"
      intro l2 H2 hl2 e2
      have k2 := new_kp hl2 e2
      have a2 := new_at e2
      walk_at "go"
      exact q H2 (k1.step0 k2)
end
section
variable {P : Program} {w : World} {K : PySem.W.Frag} {mg : Str → Option Value} {base : Heap}
theorem ok_l_is_expressionQ (T : Top K mg) : ∀ n : Nat, FnOk P w K mg base CX0 (n + 3) T.l_is_expression.f T.l_is_expression.fd ["_law_value", "_law_deep_here"] (spBoolNQ exprB n)
  | 0 => by
    have G_l_is_name : FnOk P w K mg base CX0 2 T.l_is_name.f T.l_is_name.fd ["_law_value"] (spBoolQ nameB) := ok_l_is_nameQ T
    have G_l_whole : FnOk P w K mg base CX0 1 T.l_whole.f T.l_whole.fd ["_law_value", "_law_least", "_law_most"] spWholeQ := ok_l_wholeQ T
    have G_l_is_expression : FnOk P w K mg base CX0 0 T.l_is_expression.f T.l_is_expression.fd ["_law_value", "_law_deep_here"] (fun _ _ _ _ => False) := fn_no (fun _ _ _ _ h => h)
    refine T.l_is_expression.F.ok sc_l_is_expression (fun vs H Q E h => ?_) (fun cdv A outer s H vs Q E hr h => ?_)
    · obtain ⟨v, d, m, rfl, _⟩ := h
      rfl
    obtain ⟨v, d, m, rfl, hm, hT, sz, q⟩ := h
    refine ⟨_, (pss_cons (ps_if (pt_not (pt_val (pe_callB (id := "isinstance") (call_isiK (K := K) rfl) (by rfl) T.isinstance (by decide +kernel) (pa_cons (pv 0) (pa_cons (pe_bltn (v := .ty "tuple") (u := .type "tuple") (by rfl) T.tuple (by decide +kernel) rfl) pa_nil))))) (pss_one (ps_ret (pe_and (pe_cmpR op_gt (pv 1) pe_int (nomark _)) (pe_one (pe_or (pe_call G_l_is_name (hr.mono (by omega)) (by rfl) T.l_is_name.g T.l_is_name.F.kp T.l_is_name.b .nil pass0 (pa_cons (pv 0) pa_nil)) (pe_one (pe_call G_l_whole (hr.mono (by omega)) (by rfl) T.l_whole.g T.l_whole.F.kp T.l_whole.b .nil pass0 (pa_cons (pv 0) (pa_cons (pe_un un_neg pe_int) (pa_cons pe_int pa_nil)))))))))) pss_nil)
      (pss_cons (ps_if (PW.pt (pw_or (pt_cmpR op_eq (pv 1) pe_int (nomark _)) (pw_or (pt_cmpR op_ne (pe_callB (id := "len") (call_lenK (K := K) rfl) (by rfl) T.len PySem.boot_len (pa_cons (pv 0) pa_nil)) pe_int (nomark _)) (pw_or1 (pt_not (pt_val (pe_callB (id := "isinstance") (call_isiK (K := K) rfl) (by rfl) T.isinstance (by decide +kernel) (pa_cons (pe_ix (ix_tupK (K := K) rfl) (pv 0) pe_int (fun _ _ => rfl)) (pa_cons (pe_bltn (v := .ty "str") (u := .type "str") (by rfl) T.str (by decide +kernel) rfl) pa_nil))))))))) (pss_one (ps_ret pe_bl)) pss_nil)
      (pss_cons (ps_if (pt_cmpR op_eq (pe_ix (ix_tupK (K := K) rfl) (pv 0) pe_int (fun _ _ => rfl)) pe_str (nomark _)) (pss_one (ps_ret (pe_and (pe_call G_l_whole (hr.mono (by omega)) (by rfl) T.l_whole.g T.l_whole.F.kp T.l_whole.b .nil pass0 (pa_cons (pe_ix (ix_tupK (K := K) rfl) (pv 0) pe_int (fun _ _ => rfl)) (pa_cons (pe_un un_neg pe_int) (pa_cons pe_int pa_nil)))) (pe_one (pe_call G_l_is_expression (hr.mono (by omega)) (by rfl) T.l_is_expression.g T.l_is_expression.F.kp T.l_is_expression.b .nil pass0 (pa_cons (pe_ix (ix_tupK (K := K) rfl) (pv 0) pe_int (fun _ _ => rfl)) (pa_cons (pe_op op_sub (pv 1) pe_int) pa_nil))))))) pss_nil)
      (pss_cons (ps_if (pt_cmpR (op_notIn_seqK (K := K) rfl) (pe_ix (ix_tupK (K := K) rfl) (pv 0) pe_int (fun _ _ => rfl)) (pe_lstA (pa_cons pe_str (pa_cons pe_str pa_nil))) (by rfl)) (pss_one (ps_ret pe_bl)) pss_nil)
      (pss_one (ps_ret (pe_and (pe_call G_l_is_expression (hr.mono (by omega)) (by rfl) T.l_is_expression.g T.l_is_expression.F.kp T.l_is_expression.b .nil pass0 (pa_cons (pe_ix (ix_tupK (K := K) rfl) (pv 0) pe_int (fun _ _ => rfl)) (pa_cons (pe_op op_sub (pv 1) pe_int) pa_nil))) (pe_one (pe_call G_l_is_expression (hr.mono (by omega)) (by rfl) T.l_is_expression.g T.l_is_expression.F.kp T.l_is_expression.b .nil pass0 (pa_cons (pe_ix (ix_tupK (K := K) rfl) (pv 0) pe_int (fun _ _ => rfl)) (pa_cons (pe_op op_sub (pv 1) pe_int) pa_nil))))))))))), ?_⟩
    obtain ⟨tt, ty, ki⟩ := isi_tupQ hT
    cases it : isTupB d with
    | false =>
      rw [it] at ki
      have ef : exprB (0) d = (decide (0 < m) && (nameB d || wholeB (-99) 99 d)) := expr_flat28 it hm
      walk_at "go"
      refine iteB (fun hg => ?_) (fun hg => ?_)
      · replace hg : decide (0 < m) = true := hg
        rw [ef, hg] at q
        walk_at "go"
        intro H1 k1
        have q1 : Q (.bl (nameB d || wholeB (-99) 99 d)) H1 := q H1 k1
        have t1 := k1.tq hT
        refine ⟨_, rfl, iteB (fun hb => ?_) (fun hb => ?_)⟩
        · rw [hb] at q1
          exact q1
        · rw [hb] at q1
          walk_at "go"
          exact q1
      · replace hg : decide (0 < m) = false := hg
        rw [ef, hg] at q
        exact q H Kp.refl
    | true =>
      rw [it] at ki
      obtain ⟨ds, rfl⟩ : ∃ ds, d = .tuple ds := by
        cases d with
        | tuple ds => exact ⟨ds, rfl⟩
        | _ => cases it
      obtain ⟨a, xs, rfl, h1, h2⟩ := tq_tup hT
      have ln := h2.length
      simp only [Szd] at sz
      walk_at "go"
      have z0 : decide (V.int m = V.int 0) = true := by
        rw [dec_int]
        exact decide_eq_true (by omega)
      rw [z0]
      refine iteT ?_
      walk_at "go"
      exact q H Kp.refl
  | n + 1 => by
    have G_l_is_name : FnOk P w K mg base CX0 2 T.l_is_name.f T.l_is_name.fd ["_law_value"] (spBoolQ nameB) := ok_l_is_nameQ T
    have G_l_whole : FnOk P w K mg base CX0 1 T.l_whole.f T.l_whole.fd ["_law_value", "_law_least", "_law_most"] spWholeQ := ok_l_wholeQ T
    have G_l_is_expression : FnOk P w K mg base CX0 (n + 3) T.l_is_expression.f T.l_is_expression.fd ["_law_value", "_law_deep_here"] (spBoolNQ exprB n) := ok_l_is_expressionQ T n
    refine T.l_is_expression.F.ok sc_l_is_expression (fun vs H Q E h => ?_) (fun cdv A outer s H vs Q E hr h => ?_)
    · obtain ⟨v, d, m, rfl, _⟩ := h
      rfl
    obtain ⟨v, d, m, rfl, hm, hT, sz, q⟩ := h
    refine ⟨_, (pss_cons (ps_if (pt_not (pt_val (pe_callB (id := "isinstance") (call_isiK (K := K) rfl) (by rfl) T.isinstance (by decide +kernel) (pa_cons (pv 0) (pa_cons (pe_bltn (v := .ty "tuple") (u := .type "tuple") (by rfl) T.tuple (by decide +kernel) rfl) pa_nil))))) (pss_one (ps_ret (pe_and (pe_cmpR op_gt (pv 1) pe_int (nomark _)) (pe_one (pe_or (pe_call G_l_is_name (hr.mono (by omega)) (by rfl) T.l_is_name.g T.l_is_name.F.kp T.l_is_name.b .nil pass0 (pa_cons (pv 0) pa_nil)) (pe_one (pe_call G_l_whole (hr.mono (by omega)) (by rfl) T.l_whole.g T.l_whole.F.kp T.l_whole.b .nil pass0 (pa_cons (pv 0) (pa_cons (pe_un un_neg pe_int) (pa_cons pe_int pa_nil)))))))))) pss_nil)
      (pss_cons (ps_if (PW.pt (pw_or (pt_cmpR op_eq (pv 1) pe_int (nomark _)) (pw_or (pt_cmpR op_ne (pe_callB (id := "len") (call_lenK (K := K) rfl) (by rfl) T.len PySem.boot_len (pa_cons (pv 0) pa_nil)) pe_int (nomark _)) (pw_or1 (pt_not (pt_val (pe_callB (id := "isinstance") (call_isiK (K := K) rfl) (by rfl) T.isinstance (by decide +kernel) (pa_cons (pe_ix (ix_tupK (K := K) rfl) (pv 0) pe_int (fun _ _ => rfl)) (pa_cons (pe_bltn (v := .ty "str") (u := .type "str") (by rfl) T.str (by decide +kernel) rfl) pa_nil))))))))) (pss_one (ps_ret pe_bl)) pss_nil)
      (pss_cons (ps_if (pt_cmpR op_eq (pe_ix (ix_tupK (K := K) rfl) (pv 0) pe_int (fun _ _ => rfl)) pe_str (nomark _)) (pss_one (ps_ret (pe_and (pe_call G_l_whole (hr.mono (by omega)) (by rfl) T.l_whole.g T.l_whole.F.kp T.l_whole.b .nil pass0 (pa_cons (pe_ix (ix_tupK (K := K) rfl) (pv 0) pe_int (fun _ _ => rfl)) (pa_cons (pe_un un_neg pe_int) (pa_cons pe_int pa_nil)))) (pe_one (pe_call G_l_is_expression (hr.mono (by omega)) (by rfl) T.l_is_expression.g T.l_is_expression.F.kp T.l_is_expression.b .nil pass0 (pa_cons (pe_ix (ix_tupK (K := K) rfl) (pv 0) pe_int (fun _ _ => rfl)) (pa_cons (pe_op op_sub (pv 1) pe_int) pa_nil))))))) pss_nil)
      (pss_cons (ps_if (pt_cmpR (op_notIn_seqK (K := K) rfl) (pe_ix (ix_tupK (K := K) rfl) (pv 0) pe_int (fun _ _ => rfl)) (pe_lstA (pa_cons pe_str (pa_cons pe_str pa_nil))) (by rfl)) (pss_one (ps_ret pe_bl)) pss_nil)
      (pss_one (ps_ret (pe_and (pe_call G_l_is_expression (hr.mono (by omega)) (by rfl) T.l_is_expression.g T.l_is_expression.F.kp T.l_is_expression.b .nil pass0 (pa_cons (pe_ix (ix_tupK (K := K) rfl) (pv 0) pe_int (fun _ _ => rfl)) (pa_cons (pe_op op_sub (pv 1) pe_int) pa_nil))) (pe_one (pe_call G_l_is_expression (hr.mono (by omega)) (by rfl) T.l_is_expression.g T.l_is_expression.F.kp T.l_is_expression.b .nil pass0 (pa_cons (pe_ix (ix_tupK (K := K) rfl) (pv 0) pe_int (fun _ _ => rfl)) (pa_cons (pe_op op_sub (pv 1) pe_int) pa_nil))))))))))), ?_⟩
    obtain ⟨tt, ty, ki⟩ := isi_tupQ hT
    cases it : isTupB d with
    | false =>
      rw [it] at ki
      have ef : exprB (n + 1) d = (decide (0 < m) && (nameB d || wholeB (-99) 99 d)) := expr_flat28 it hm
      walk_at "go"
      refine iteB (fun hg => ?_) (fun hg => ?_)
      · replace hg : decide (0 < m) = true := hg
        rw [ef, hg] at q
        walk_at "go"
        intro H1 k1
        have q1 : Q (.bl (nameB d || wholeB (-99) 99 d)) H1 := q H1 k1
        have t1 := k1.tq hT
        refine ⟨_, rfl, iteB (fun hb => ?_) (fun hb => ?_)⟩
        · rw [hb] at q1
          exact q1
        · rw [hb] at q1
          walk_at "go"
          exact q1
      · replace hg : decide (0 < m) = false := hg
        rw [ef, hg] at q
        exact q H Kp.refl
    | true =>
      rw [it] at ki
      obtain ⟨ds, rfl⟩ : ∃ ds, d = .tuple ds := by
        cases d with
        | tuple ds => exact ⟨ds, rfl⟩
        | _ => cases it
      obtain ⟨a, xs, rfl, h1, h2⟩ := tq_tup hT
      have ln := h2.length
      simp only [Szd] at sz
      walk_at "go"
      have z0 : decide (V.int m = V.int 0) = false := by
        rw [dec_int]
        exact decide_eq_false (by omega)
      have m1 : m - 1 = (n : Int) := by omega
      rw [z0]
      refine iteF ?_
      walk_at "go"
      by_cases l3 : ds.length = 3
      · obtain ⟨d1, d2, d3, rfl⟩ : ∃ d1 d2 d3, ds = [d1, d2, d3] := by
          match ds, l3 with
          | [d1, d2, d3], _ => exact ⟨d1, d2, d3, rfl⟩
        simp only [TqAll] at h2
        obtain ⟨x1, _, rfl, t1, x2, _, rfl, t2, x3, _, rfl, t3, rfl⟩ := h2
        simp only [Szds] at sz
        obtain ⟨s1, s2, s3, _⟩ := sz
        have e3 : decide (V.int (([x1, x2, x3] : List V).length : Int) = V.int 3) = true := by rw [dec_int]; exact decide_eq_true rfl
        rw [e3]
        refine iteF ?_
        obtain ⟨t1t, ty1, ki1⟩ := isi_strQ t1
        cases is1 : isStrB d1 with
        | false =>
          rw [is1] at ki1
          walk_at "go"
          have q1 := q H Kp.refl
          rw [expr_nostr is1] at q1
          exact q1
        | true =>
          rw [is1] at ki1
          obtain ⟨k, rfl⟩ : ∃ k, d1 = .str k := by
            cases d1 with
            | str k => exact ⟨k, rfl⟩
            | _ => cases is1
          cases tq_str t1
          replace q : ∀ H', Kp [] H H' → Q (.bl (exprB n d3 && (if k = "times" then wholeB (-9) 9 d2 else inV (.str k) [.str "plus", .str "minus"] && exprB n d2))) H' := q
          walk_at "go"
          rw [dec_str]
          refine iteB (fun hk => ?_) (fun hk => ?_)
          · have hk := of_decide_eq_true hk
            rw [if_pos hk] at q
            walk_at "go"
            refine iteB (fun hw => ?_) (fun hw => ?_)
            · replace hw : wholeB (-9) 9 d2 = true := hw
              rw [hw] at q
              walk_at "go"
              intro H1 k1
              have q1 := q H1 k1
              rw [Bool.and_true] at q1
              exact q1
            · replace hw : wholeB (-9) 9 d2 = false := hw
              have q1 := q H Kp.refl
              rw [hw, Bool.and_false] at q1
              exact q1
          · have hk := of_decide_eq_false hk
            rw [if_neg hk] at q
            walk_at "go"
            intro u2 H2 hu2 e2
            have k2 := new_kp hu2 e2
            have a2 := new_at e2
            have t22 := k2.tq t2
            have t32 := k2.tq t3
            have h12 := k2.tup _ _ h1
            refine ⟨u2, _, rfl, .inl (SqL.of a2), rfl, rfl, _, rfl, ?_⟩
            cases hi : inV (.str k) [.str "plus", .str "minus"] with
            | false =>
              refine iteT ?_
              have q1 := q H2 k2
              rw [hi, Bool.false_and, Bool.and_false] at q1
              exact q1
            | true =>
              refine iteF ?_
              rw [hi, Bool.true_and] at q
              walk_at "go"
              intro H3 k3
              have t33 := k3.tq t32
              have h13 := k3.tup _ _ h12
              refine ⟨_, rfl, iteB (fun hb => ?_) (fun hb => ?_)⟩
              · rw [hb, Bool.and_true] at q
                walk_at "go"
                intro H4 k4
                exact q H4 ((k2.trans k3).trans k4)
              · have q1 := q H3 (k2.trans k3)
                rw [hb, Bool.and_false] at q1
                exact q1
      · have e3 : decide (V.int (xs.length : Int) = V.int 3) = false := dec_len (n := 3) (by omega)
        rw [e3]
        refine iteT ?_
        have ef : exprB (n + 1) (.tuple ds) = false := by
          unfold exprB
          split <;> simp_all
        have q1 := q H Kp.refl
        rw [ef] at q1
        walk_at "go"
        exact q1
end
section
variable {P : Program} {w : World} {K : PySem.W.Frag} {mg : Str → Option Value} {base : Heap}
theorem ok_l_is_testQ (T : Top K mg) : ∀ n : Nat, FnOk P w K mg base CX0 (n + 7) T.l_is_test.f T.l_is_test.fd ["_law_value", "_law_nots"] (spBoolNQ testB n)
  | 0 => by
    have G_l_is_expression : FnOk P w K mg base CX0 6 T.l_is_expression.f T.l_is_expression.fd ["_law_value", "_law_deep_here"] (spBoolNQ exprB 3) := ok_l_is_expressionQ T 3
    have G_l_is_test : FnOk P w K mg base CX0 0 T.l_is_test.f T.l_is_test.fd ["_law_value", "_law_nots"] (fun _ _ _ _ => False) := fn_no (fun _ _ _ _ h => h)
    refine T.l_is_test.F.ok sc_l_is_test (fun vs H Q E h => ?_) (fun cdv A outer s H vs Q E hr h => ?_)
    · obtain ⟨v, d, m, rfl, _⟩ := h
      rfl
    obtain ⟨v, d, m, rfl, hm, hT, sz, q⟩ := h
    have hu := hu_of hr
    refine ⟨_, (pss_cons (ps_if (PW.pt (pw_or (pt_not (pt_val (pe_callB (id := "isinstance") (call_isiK (K := K) rfl) (by rfl) T.isinstance (by decide +kernel) (pa_cons (pv 0) (pa_cons (pe_bltn (v := .ty "tuple") (u := .type "tuple") (by rfl) T.tuple (by decide +kernel) rfl) pa_nil))))) (pw_or (pt_cmpR (op_eqNilT hu) (pv 0) (pe_tupA pa_nil) (nomark _)) (pw_or1 (pt_not (pt_val (pe_callB (id := "isinstance") (call_isiK (K := K) rfl) (by rfl) T.isinstance (by decide +kernel) (pa_cons (pe_ix (ix_tupK (K := K) rfl) (pv 0) pe_int (fun _ _ => rfl)) (pa_cons (pe_bltn (v := .ty "str") (u := .type "str") (by rfl) T.str (by decide +kernel) rfl) pa_nil))))))))) (pss_one (ps_ret pe_bl)) pss_nil)
      (pss_cons (ps_if (pt_cmpR op_eq (pe_ix (ix_tupK (K := K) rfl) (pv 0) pe_int (fun _ _ => rfl)) pe_str (nomark _)) (pss_one (ps_ret (pe_and (pe_cmpR op_eq (pe_callB (id := "len") (call_lenK (K := K) rfl) (by rfl) T.len PySem.boot_len (pa_cons (pv 0) pa_nil)) pe_int (nomark _)) (pe_and (pe_cmpR op_gt (pv 1) pe_int (nomark _)) (pe_one (pe_call G_l_is_test (hr.mono (by omega)) (by rfl) T.l_is_test.g T.l_is_test.F.kp T.l_is_test.b .nil pass0 (pa_cons (pe_ix (ix_tupK (K := K) rfl) (pv 0) pe_int (fun _ _ => rfl)) (pa_cons (pe_op op_sub (pv 1) pe_int) pa_nil)))))))) pss_nil)
      (pss_cons (ps_if (pt_cmpR op_ne (pe_callB (id := "len") (call_lenK (K := K) rfl) (by rfl) T.len PySem.boot_len (pa_cons (pv 0) pa_nil)) (pe_dget2 hu (pe_disp (pps_cons pe_str pe_int (pps_cons pe_str pe_int pps_nil)) (by rfl) (by rfl) (fun z => by cases z) (by decide)) (pe_ix (ix_tupK (K := K) rfl) (pv 0) pe_int (fun _ _ => rfl)) pe_int ⟨by rfl, by rfl, by rfl, by rfl⟩) (nomark _)) (pss_one (ps_ret pe_bl)) pss_nil)
      (pss_one (ps_ret (pe_callB (id := "all") (cr_allK (K := K) rfl (by rfl)) (by rfl) T.all (by decide +kernel) (pa_cons (pe_lc (own := [("_law_part", 2)]) (by rfl) sc_l_is_test.nd (pi_tupK (K := K) rfl (pe_slice (sl_tupK (K := K) rfl) (pv 0) (po_some pe_int) po_none)) (blkOk_by (N := ["_law_value", "_law_nots", "_law_part"]) (sc := defScope s_l_is_test) (own := [("_law_part", 2)]) (by decide +kernel)) (fun _ _ _ _ _ => (pg_name (i := 2) sc_l_is_test.nd rfl (.inl rfl))) (fun _ _ _ _ _ => pts_nil) (fun _ _ _ _ _ => (pe_call G_l_is_expression (hr.mono (by omega)) (by rfl) T.l_is_expression.g T.l_is_expression.F.kp T.l_is_expression.b .nil pass0 (pa_cons (pv 2) (pa_cons pe_int pa_nil))))) pa_nil))))))), ?_⟩
    obtain ⟨tt, ty, ki⟩ := isi_tupQ hT
    cases it : isTupB d with
    | false =>
      rw [it] at ki
      have ef : testB (0) d = false := test_flat28 it
      rw [ef] at q
      walk_at "go"
      exact q H Kp.refl
    | true =>
      rw [it] at ki
      obtain ⟨ds, rfl⟩ : ∃ ds, d = .tuple ds := by
        cases d with
        | tuple ds => exact ⟨ds, rfl⟩
        | _ => cases it
      obtain ⟨a, xs, rfl, h1, h2⟩ := tq_tup hT
      have ln := h2.length
      simp only [Szd] at sz
      walk_at "go"
      intro u2 H2 hu2 e2
      have k2 := new_kp hu2 e2
      have a2 := new_at e2
      have h12 := k2.tup _ _ h1
      refine ⟨a, u2, _, rfl, rfl, h12, a2, _, rfl, ?_⟩
      rcases ds with _ | ⟨d1, r⟩
      · simp only [TqAll] at h2
        subst h2
        refine iteT ?_
        have ef : testB (0) (.tuple []) = false := rfl
        rw [ef] at q
        exact q H2 k2
      simp only [TqAll] at h2
      obtain ⟨x1, vr, rfl, t1, h2⟩ := h2
      simp only [Szds] at sz
      obtain ⟨s1, s2⟩ := sz
      refine iteF ?_
      have t12 := k2.tq t1
      have h22 := k2.tqAll h2
      obtain ⟨t1t, ty1, ki1⟩ := isi_strQ t12
      cases is1 : isStrB d1 with
      | false =>
        rw [is1] at ki1
        have ef : testB (0) (.tuple (d1 :: r)) = false := test_nostr28 is1
        rw [ef] at q
        walk_at "go"
        exact q H2 k2
      | true =>
        rw [is1] at ki1
        obtain ⟨k, rfl⟩ : ∃ k, d1 = .str k := by
          cases d1 with
          | str k => exact ⟨k, rfl⟩
          | _ => cases is1
        cases tq_str t12
        walk_at "go"
        rw [dec_str]
        refine iteB (fun hk => ?_) (fun hk => ?_)
        · have hk := of_decide_eq_true hk
          subst hk
          have el : decide (V.int (((.str "not" : V) :: vr).length : Int) = V.int 2) = decide (r.length = 1) := by
            rw [dec_int]
            exact decide_eq_decide.mpr (by rw [List.length_cons]; have := h2.length; omega)
          walk_at "go"
          rw [el]
          refine iteB (fun hl => ?_) (fun hl => ?_)
          · have hl := of_decide_eq_true hl
            obtain ⟨d2, rfl⟩ : ∃ d2, r = [d2] := by
              match r, hl with
              | [d2], _ => exact ⟨d2, rfl⟩
            simp only [TqAll] at h22
            obtain ⟨x2, _, rfl, t2, rfl⟩ := h22
            simp only [Szds] at s2
            obtain ⟨s2, _⟩ := s2
            walk_at "go"
            have g0 : decide (0 < m) = false := decide_eq_false (by omega)
            rw [g0]
            refine iteF ?_
            exact q H2 k2
          · have hl := of_decide_eq_false hl
            have q1 := q H2 k2
            rw [test_not28 hl] at q1
            exact q1
        · have hk := of_decide_eq_false hk
          have ef : testB (0) (.tuple (.str k :: r)) = (decide ((r.length : Int) + 1 = sizeT k) && r.all (exprB 3)) := test_size28 hk
          rw [ef] at q
          walk_at "go"
          intro p3 hp3
          walk_at "go"
          refine ⟨upd_same, [(Sum.inr "less", .int 3), (Sum.inr "odd", .int 2)], rfl, by show 2 ≤ 15; decide, ?_⟩
          have a3 : (upd (upd H2 p3 (.dK [])) p3 (.dK (mergeK [] [(Sum.inr "less", .int 3), (Sum.inr "odd", .int 2)]))) p3 = some (.dK TSZ) := by
            rw [upd_same]
            rfl
          have k3 : Kp [] H2 (upd (upd H2 p3 (.dK [])) p3 (.dK (mergeK [] [(Sum.inr "less", .int 3), (Sum.inr "odd", .int 2)]))) := (Kp.new hp3).step1 (Kp.put upd_same (fun _ z => by cases z)) (.inr hp3)
          generalize upd (upd H2 p3 (.dK [])) p3 (.dK (mergeK [] [(Sum.inr "less", V.int 3), (Sum.inr "odd", V.int 2)])) = H3 at a3 k3 ⊢
          have h13 := k3.tup _ _ h12
          have h23 := k3.tqAll h22
          have k23 := k2.trans k3
          have el : decide (V.int (((.str k : V) :: vr).length : Int) = V.int (sizeT k)) = decide ((r.length : Int) + 1 = sizeT k) := by
            rw [dec_int]
            exact decide_eq_decide.mpr (by rw [List.length_cons]; have := h2.length; omega)
          walk_at "go"
          rw [getT28]
          walk_at "go"
          rw [el]
          cases hz : decide ((r.length : Int) + 1 = sizeT k) with
          | false =>
            refine iteT ?_
            have q1 := q H3 k23
            rw [hz] at q1
            exact q1
          | true =>
            refine iteF ?_
            have q2 : ∀ H', Kp [] H H' → Q (.bl (r.all (exprB 3))) H' := fun H' k' => by
              have := q H' k'
              rw [hz] at this
              exact this
            have hz := of_decide_eq_true hz
            have rl : r.length ≤ 2 := by
              unfold sizeT at hz
              split at hz
              · omega
              · split at hz <;> omega
            walk_at "go"
            intro p4 H4 a4 k4
            rw [cut_1q] at a4
            have ta := k4.tqAll h23
            refine ⟨p4, rfl, ⟨_, SqT.of a4⟩, ?_⟩
            intro D hD
            refine lc_tup (K := K) (a := p4) (xs := vr) (fun i X => Lp (Kp [D] H4 X ∧ X D = some (.lst (((r.take i).map (exprB 3)).map V.bl)))) ⟨(Kp.new hD).sub (by simp), by rw [List.take_zero]; exact upd_same⟩ ?_ ?_ ?_
            · rintro i X _ ⟨⟨kX, _⟩⟩
              exact SqT.of (kX.tup _ _ a4)
            · rintro i x X hx ⟨⟨kX, dX⟩⟩
              have hi : i < r.length := by
                have := (List.getElem?_eq_some_iff.mp hx).1
                have := h2.length
                omega
              have ed : r[i]? = some r[i] := List.getElem?_eq_getElem hi
              obtain ⟨x', hx', txx⟩ := ta.get (i := i) ed
              rw [hx] at hx'
              cases hx'
              have tX := kX.tq txx
              have sX := Szds.get (i := i) s2 ed
              generalize r[i] = dd at tX ed sX
              have lu : (((r.take i).map (exprB 3)).map V.bl).length < sizeLine := by
                rw [List.length_map, List.length_map, List.length_take]
                exact sz_lt (by omega)
              walk_at "go"
              intro X5 k5
              have d5 := k5.at dX
              walk_at "go"
              have k6 := Kp.put (u := .lst (((r.take i).map (exprB 3)).map V.bl ++ [.bl (exprB 3 dd)])) d5 (fun _ y => by cases y)
              refine ⟨⟨(kX.step0 k5).step1 k6 (.inl (by simp)), ?_⟩⟩
              rw [upd_same, List.take_add_one, ed, List.map_append, List.map_append]
              rfl
            · rintro X ⟨⟨kX, dX⟩⟩
              have lv := h2.length
              rw [lv, List.take_length] at dX
              have kX' : Kp [] H4 X := Kp.refl.step1 kX (.inr hD)
              refine ⟨D, _, rfl, SqL.of dX, ?_⟩
              have q3 := q2 X ((k23.trans k4).trans kX')
              rw [show (r.map (exprB 3)).all id = r.all (exprB 3) by rw [List.all_map]; rfl]
              exact q3
  | n + 1 => by
    have G_l_is_expression : FnOk P w K mg base CX0 6 T.l_is_expression.f T.l_is_expression.fd ["_law_value", "_law_deep_here"] (spBoolNQ exprB 3) := ok_l_is_expressionQ T 3
    have G_l_is_test : FnOk P w K mg base CX0 (n + 7) T.l_is_test.f T.l_is_test.fd ["_law_value", "_law_nots"] (spBoolNQ testB n) := ok_l_is_testQ T n
    refine T.l_is_test.F.ok sc_l_is_test (fun vs H Q E h => ?_) (fun cdv A outer s H vs Q E hr h => ?_)
    · obtain ⟨v, d, m, rfl, _⟩ := h
      rfl
    obtain ⟨v, d, m, rfl, hm, hT, sz, q⟩ := h
    have hu := hu_of hr
    refine ⟨_, (pss_cons (ps_if (PW.pt (pw_or (pt_not (pt_val (pe_callB (id := "isinstance") (call_isiK (K := K) rfl) (by rfl) T.isinstance (by decide +kernel) (pa_cons (pv 0) (pa_cons (pe_bltn (v := .ty "tuple") (u := .type "tuple") (by rfl) T.tuple (by decide +kernel) rfl) pa_nil))))) (pw_or (pt_cmpR (op_eqNilT hu) (pv 0) (pe_tupA pa_nil) (nomark _)) (pw_or1 (pt_not (pt_val (pe_callB (id := "isinstance") (call_isiK (K := K) rfl) (by rfl) T.isinstance (by decide +kernel) (pa_cons (pe_ix (ix_tupK (K := K) rfl) (pv 0) pe_int (fun _ _ => rfl)) (pa_cons (pe_bltn (v := .ty "str") (u := .type "str") (by rfl) T.str (by decide +kernel) rfl) pa_nil))))))))) (pss_one (ps_ret pe_bl)) pss_nil)
      (pss_cons (ps_if (pt_cmpR op_eq (pe_ix (ix_tupK (K := K) rfl) (pv 0) pe_int (fun _ _ => rfl)) pe_str (nomark _)) (pss_one (ps_ret (pe_and (pe_cmpR op_eq (pe_callB (id := "len") (call_lenK (K := K) rfl) (by rfl) T.len PySem.boot_len (pa_cons (pv 0) pa_nil)) pe_int (nomark _)) (pe_and (pe_cmpR op_gt (pv 1) pe_int (nomark _)) (pe_one (pe_call G_l_is_test (hr.mono (by omega)) (by rfl) T.l_is_test.g T.l_is_test.F.kp T.l_is_test.b .nil pass0 (pa_cons (pe_ix (ix_tupK (K := K) rfl) (pv 0) pe_int (fun _ _ => rfl)) (pa_cons (pe_op op_sub (pv 1) pe_int) pa_nil)))))))) pss_nil)
      (pss_cons (ps_if (pt_cmpR op_ne (pe_callB (id := "len") (call_lenK (K := K) rfl) (by rfl) T.len PySem.boot_len (pa_cons (pv 0) pa_nil)) (pe_dget2 hu (pe_disp (pps_cons pe_str pe_int (pps_cons pe_str pe_int pps_nil)) (by rfl) (by rfl) (fun z => by cases z) (by decide)) (pe_ix (ix_tupK (K := K) rfl) (pv 0) pe_int (fun _ _ => rfl)) pe_int ⟨by rfl, by rfl, by rfl, by rfl⟩) (nomark _)) (pss_one (ps_ret pe_bl)) pss_nil)
      (pss_one (ps_ret (pe_callB (id := "all") (cr_allK (K := K) rfl (by rfl)) (by rfl) T.all (by decide +kernel) (pa_cons (pe_lc (own := [("_law_part", 2)]) (by rfl) sc_l_is_test.nd (pi_tupK (K := K) rfl (pe_slice (sl_tupK (K := K) rfl) (pv 0) (po_some pe_int) po_none)) (blkOk_by (N := ["_law_value", "_law_nots", "_law_part"]) (sc := defScope s_l_is_test) (own := [("_law_part", 2)]) (by decide +kernel)) (fun _ _ _ _ _ => (pg_name (i := 2) sc_l_is_test.nd rfl (.inl rfl))) (fun _ _ _ _ _ => pts_nil) (fun _ _ _ _ _ => (pe_call G_l_is_expression (hr.mono (by omega)) (by rfl) T.l_is_expression.g T.l_is_expression.F.kp T.l_is_expression.b .nil pass0 (pa_cons (pv 2) (pa_cons pe_int pa_nil))))) pa_nil))))))), ?_⟩
    obtain ⟨tt, ty, ki⟩ := isi_tupQ hT
    cases it : isTupB d with
    | false =>
      rw [it] at ki
      have ef : testB (n + 1) d = false := test_flat28 it
      rw [ef] at q
      walk_at "go"
      exact q H Kp.refl
    | true =>
      rw [it] at ki
      obtain ⟨ds, rfl⟩ : ∃ ds, d = .tuple ds := by
        cases d with
        | tuple ds => exact ⟨ds, rfl⟩
        | _ => cases it
      obtain ⟨a, xs, rfl, h1, h2⟩ := tq_tup hT
      have ln := h2.length
      simp only [Szd] at sz
      walk_at "go"
      intro u2 H2 hu2 e2
      have k2 := new_kp hu2 e2
      have a2 := new_at e2
      have h12 := k2.tup _ _ h1
      refine ⟨a, u2, _, rfl, rfl, h12, a2, _, rfl, ?_⟩
      rcases ds with _ | ⟨d1, r⟩
      · simp only [TqAll] at h2
        subst h2
        refine iteT ?_
        have ef : testB (n + 1) (.tuple []) = false := rfl
        rw [ef] at q
        exact q H2 k2
      simp only [TqAll] at h2
      obtain ⟨x1, vr, rfl, t1, h2⟩ := h2
      simp only [Szds] at sz
      obtain ⟨s1, s2⟩ := sz
      refine iteF ?_
      have t12 := k2.tq t1
      have h22 := k2.tqAll h2
      obtain ⟨t1t, ty1, ki1⟩ := isi_strQ t12
      cases is1 : isStrB d1 with
      | false =>
        rw [is1] at ki1
        have ef : testB (n + 1) (.tuple (d1 :: r)) = false := test_nostr28 is1
        rw [ef] at q
        walk_at "go"
        exact q H2 k2
      | true =>
        rw [is1] at ki1
        obtain ⟨k, rfl⟩ : ∃ k, d1 = .str k := by
          cases d1 with
          | str k => exact ⟨k, rfl⟩
          | _ => cases is1
        cases tq_str t12
        walk_at "go"
        rw [dec_str]
        refine iteB (fun hk => ?_) (fun hk => ?_)
        · have hk := of_decide_eq_true hk
          subst hk
          have el : decide (V.int (((.str "not" : V) :: vr).length : Int) = V.int 2) = decide (r.length = 1) := by
            rw [dec_int]
            exact decide_eq_decide.mpr (by rw [List.length_cons]; have := h2.length; omega)
          walk_at "go"
          rw [el]
          refine iteB (fun hl => ?_) (fun hl => ?_)
          · have hl := of_decide_eq_true hl
            obtain ⟨d2, rfl⟩ : ∃ d2, r = [d2] := by
              match r, hl with
              | [d2], _ => exact ⟨d2, rfl⟩
            simp only [TqAll] at h22
            obtain ⟨x2, _, rfl, t2, rfl⟩ := h22
            simp only [Szds] at s2
            obtain ⟨s2, _⟩ := s2
            walk_at "go"
            have g0 : decide (0 < m) = true := decide_eq_true (by omega)
            have m1 : m - 1 = (n : Int) := by omega
            rw [g0]
            refine iteT ?_
            walk_at "go"
            intro H3 k3
            exact q H3 (k2.trans k3)
          · have hl := of_decide_eq_false hl
            have q1 := q H2 k2
            rw [test_not28 hl] at q1
            exact q1
        · have hk := of_decide_eq_false hk
          have ef : testB (n + 1) (.tuple (.str k :: r)) = (decide ((r.length : Int) + 1 = sizeT k) && r.all (exprB 3)) := test_size28 hk
          rw [ef] at q
          walk_at "go"
          intro p3 hp3
          walk_at "go"
          refine ⟨upd_same, [(Sum.inr "less", .int 3), (Sum.inr "odd", .int 2)], rfl, by show 2 ≤ 15; decide, ?_⟩
          have a3 : (upd (upd H2 p3 (.dK [])) p3 (.dK (mergeK [] [(Sum.inr "less", .int 3), (Sum.inr "odd", .int 2)]))) p3 = some (.dK TSZ) := by
            rw [upd_same]
            rfl
          have k3 : Kp [] H2 (upd (upd H2 p3 (.dK [])) p3 (.dK (mergeK [] [(Sum.inr "less", .int 3), (Sum.inr "odd", .int 2)]))) := (Kp.new hp3).step1 (Kp.put upd_same (fun _ z => by cases z)) (.inr hp3)
          generalize upd (upd H2 p3 (.dK [])) p3 (.dK (mergeK [] [(Sum.inr "less", V.int 3), (Sum.inr "odd", V.int 2)])) = H3 at a3 k3 ⊢
          have h13 := k3.tup _ _ h12
          have h23 := k3.tqAll h22
          have k23 := k2.trans k3
          have el : decide (V.int (((.str k : V) :: vr).length : Int) = V.int (sizeT k)) = decide ((r.length : Int) + 1 = sizeT k) := by
            rw [dec_int]
            exact decide_eq_decide.mpr (by rw [List.length_cons]; have := h2.length; omega)
          walk_at "go"
          rw [getT28]
          walk_at "go"
          rw [el]
          cases hz : decide ((r.length : Int) + 1 = sizeT k) with
          | false =>
            refine iteT ?_
            have q1 := q H3 k23
            rw [hz] at q1
            exact q1
          | true =>
            refine iteF ?_
            have q2 : ∀ H', Kp [] H H' → Q (.bl (r.all (exprB 3))) H' := fun H' k' => by
              have := q H' k'
              rw [hz] at this
              exact this
            have hz := of_decide_eq_true hz
            have rl : r.length ≤ 2 := by
              unfold sizeT at hz
              split at hz
              · omega
              · split at hz <;> omega
            walk_at "go"
            intro p4 H4 a4 k4
            rw [cut_1q] at a4
            have ta := k4.tqAll h23
            refine ⟨p4, rfl, ⟨_, SqT.of a4⟩, ?_⟩
            intro D hD
            refine lc_tup (K := K) (a := p4) (xs := vr) (fun i X => Lp (Kp [D] H4 X ∧ X D = some (.lst (((r.take i).map (exprB 3)).map V.bl)))) ⟨(Kp.new hD).sub (by simp), by rw [List.take_zero]; exact upd_same⟩ ?_ ?_ ?_
            · rintro i X _ ⟨⟨kX, _⟩⟩
              exact SqT.of (kX.tup _ _ a4)
            · rintro i x X hx ⟨⟨kX, dX⟩⟩
              have hi : i < r.length := by
                have := (List.getElem?_eq_some_iff.mp hx).1
                have := h2.length
                omega
              have ed : r[i]? = some r[i] := List.getElem?_eq_getElem hi
              obtain ⟨x', hx', txx⟩ := ta.get (i := i) ed
              rw [hx] at hx'
              cases hx'
              have tX := kX.tq txx
              have sX := Szds.get (i := i) s2 ed
              generalize r[i] = dd at tX ed sX
              have lu : (((r.take i).map (exprB 3)).map V.bl).length < sizeLine := by
                rw [List.length_map, List.length_map, List.length_take]
                exact sz_lt (by omega)
              walk_at "go"
              intro X5 k5
              have d5 := k5.at dX
              walk_at "go"
              have k6 := Kp.put (u := .lst (((r.take i).map (exprB 3)).map V.bl ++ [.bl (exprB 3 dd)])) d5 (fun _ y => by cases y)
              refine ⟨⟨(kX.step0 k5).step1 k6 (.inl (by simp)), ?_⟩⟩
              rw [upd_same, List.take_add_one, ed, List.map_append, List.map_append]
              rfl
            · rintro X ⟨⟨kX, dX⟩⟩
              have lv := h2.length
              rw [lv, List.take_length] at dX
              have kX' : Kp [] H4 X := Kp.refl.step1 kX (.inr hD)
              refine ⟨D, _, rfl, SqL.of dX, ?_⟩
              have q3 := q2 X ((k23.trans k4).trans kX')
              rw [show (r.map (exprB 3)).all id = r.all (exprB 3) by rw [List.all_map]; rfl]
              exact q3
end
section
variable {P : Program} {w : World} {K : PySem.W.Frag} {mg : Str → Option Value} {base : Heap}
theorem ok_l_is_statementQ (T : Top K mg) : FnOk P w K mg base CX0 10 T.l_is_statement.f T.l_is_statement.fd ["_law_value"] (spBoolQ stmtB) := by
  have G_l_is_expression : FnOk P w K mg base CX0 6 T.l_is_expression.f T.l_is_expression.fd ["_law_value", "_law_deep_here"] (spBoolNQ exprB 3) := ok_l_is_expressionQ T 3
  have G_l_is_test : FnOk P w K mg base CX0 9 T.l_is_test.f T.l_is_test.fd ["_law_value", "_law_nots"] (spBoolNQ testB 2) := ok_l_is_testQ T 2
  have G_l_is_name : FnOk P w K mg base CX0 2 T.l_is_name.f T.l_is_name.fd ["_law_value"] (spBoolQ nameB) := ok_l_is_nameQ T
  have G_l_letters : FnOk P w K mg base CX0 1 T.l_letters.f T.l_letters.fd ["_law_value", "_law_most"] spLettersQ := ok_l_lettersQ T
  have G_l_whole : FnOk P w K mg base CX0 1 T.l_whole.f T.l_whole.fd ["_law_value", "_law_least", "_law_most"] spWholeQ := ok_l_wholeQ T
  refine T.l_is_statement.F.ok sc_l_is_statement (fun vs H Q E h => ?_) (fun cdv A outer s H vs Q E hr h => ?_)
  · obtain ⟨v, d, rfl, _⟩ := h
    rfl
  obtain ⟨v, d, rfl, hT, sz, q⟩ := h
  have hu := hu_of hr
  refine ⟨_, (pss_cons (ps_if (PW.pt (pw_or (pt_not (pt_val (pe_callB (id := "isinstance") (call_isiK (K := K) rfl) (by rfl) T.isinstance (by decide +kernel) (pa_cons (pv 0) (pa_cons (pe_bltn (v := .ty "tuple") (u := .type "tuple") (by rfl) T.tuple (by decide +kernel) rfl) pa_nil))))) (pw_or (pt_cmpR (op_eqNilT hu) (pv 0) (pe_tupA pa_nil) (nomark _)) (pw_or1 (pt_not (pt_val (pe_callB (id := "isinstance") (call_isiK (K := K) rfl) (by rfl) T.isinstance (by decide +kernel) (pa_cons (pe_ix (ix_tupK (K := K) rfl) (pv 0) pe_int (fun _ _ => rfl)) (pa_cons (pe_bltn (v := .ty "str") (u := .type "str") (by rfl) T.str (by decide +kernel) rfl) pa_nil))))))))) (pss_one (ps_ret pe_bl)) pss_nil)
      (pss_cons (ps_set (i := 1) sc_l_is_statement.nd rfl (.inl rfl) (pe_disp (pps_cons pe_str pe_int (pps_cons pe_str pe_int (pps_cons pe_str pe_int (pps_cons pe_str pe_int (pps_cons pe_str pe_int (pps_cons pe_str pe_int (pps_cons pe_str pe_int pps_nil))))))) (by rfl) (by rfl) (fun z => by cases z) (by decide)))
      (pss_cons (ps_if (pt_cmpR op_ne (pe_callB (id := "len") (call_lenK (K := K) rfl) (by rfl) T.len PySem.boot_len (pa_cons (pv 0) pa_nil)) (pe_dget2 hu (pv 1) (pe_ix (ix_tupK (K := K) rfl) (pv 0) pe_int (fun _ _ => rfl)) pe_int ⟨by rfl, by rfl, by rfl, by rfl⟩) (nomark _)) (pss_one (ps_ret pe_bl)) pss_nil)
      (pss_cons (ps_if (pt_cmpR (op_in_seqK (K := K) rfl) (pe_ix (ix_tupK (K := K) rfl) (pv 0) pe_int (fun _ _ => rfl)) (pe_lstA (pa_cons pe_str (pa_cons pe_str pa_nil))) (by rfl)) (pss_one (ps_ret (pe_and (pe_call G_l_is_name (hr.mono (by omega)) (by rfl) T.l_is_name.g T.l_is_name.F.kp T.l_is_name.b .nil pass0 (pa_cons (pe_ix (ix_tupK (K := K) rfl) (pv 0) pe_int (fun _ _ => rfl)) pa_nil)) (pe_one (pe_call G_l_is_expression (hr.mono (by omega)) (by rfl) T.l_is_expression.g T.l_is_expression.F.kp T.l_is_expression.b .nil pass0 (pa_cons (pe_ix (ix_tupK (K := K) rfl) (pv 0) pe_int (fun _ _ => rfl)) (pa_cons pe_int pa_nil))))))) pss_nil)
      (pss_cons (ps_if (pt_cmpR (op_in_seqK (K := K) rfl) (pe_ix (ix_tupK (K := K) rfl) (pv 0) pe_int (fun _ _ => rfl)) (pe_lstA (pa_cons pe_str (pa_cons pe_str pa_nil))) (by rfl)) (pss_one (ps_ret (pe_call G_l_letters (hr.mono (by omega)) (by rfl) T.l_letters.g T.l_letters.F.kp T.l_letters.b .nil pass0 (pa_cons (pe_ix (ix_tupK (K := K) rfl) (pv 0) pe_int (fun _ _ => rfl)) (pa_cons pe_int pa_nil))))) pss_nil)
      (pss_cons (ps_if (pt_cmpR op_eq (pe_ix (ix_tupK (K := K) rfl) (pv 0) pe_int (fun _ _ => rfl)) pe_str (nomark _)) (pss_one (ps_ret (pe_call G_l_is_expression (hr.mono (by omega)) (by rfl) T.l_is_expression.g T.l_is_expression.F.kp T.l_is_expression.b .nil pass0 (pa_cons (pe_ix (ix_tupK (K := K) rfl) (pv 0) pe_int (fun _ _ => rfl)) (pa_cons pe_int pa_nil))))) pss_nil)
      (pss_cons (ps_if (pt_cmpR op_eq (pe_ix (ix_tupK (K := K) rfl) (pv 0) pe_int (fun _ _ => rfl)) pe_str (nomark _)) (pss_one (ps_ret (pe_and (pe_call G_l_is_test (hr.mono (by omega)) (by rfl) T.l_is_test.g T.l_is_test.F.kp T.l_is_test.b .nil pass0 (pa_cons (pe_ix (ix_tupK (K := K) rfl) (pv 0) pe_int (fun _ _ => rfl)) (pa_cons pe_int pa_nil))) (pe_and (pe_callB (id := "isinstance") (call_isiK (K := K) rfl) (by rfl) T.isinstance (by decide +kernel) (pa_cons (pe_ix (ix_tupK (K := K) rfl) (pv 0) pe_int (fun _ _ => rfl)) (pa_cons (pe_bltn (v := .ty "tuple") (u := .type "tuple") (by rfl) T.tuple (by decide +kernel) rfl) pa_nil))) (pe_one (pe_callB (id := "isinstance") (call_isiK (K := K) rfl) (by rfl) T.isinstance (by decide +kernel) (pa_cons (pe_ix (ix_tupK (K := K) rfl) (pv 0) pe_int (fun _ _ => rfl)) (pa_cons (pe_bltn (v := .ty "tuple") (u := .type "tuple") (by rfl) T.tuple (by decide +kernel) rfl) pa_nil)))))))) pss_nil)
      (pss_one (ps_ret (pe_and (pe_call G_l_whole (hr.mono (by omega)) (by rfl) T.l_whole.g T.l_whole.F.kp T.l_whole.b .nil pass0 (pa_cons (pe_ix (ix_tupK (K := K) rfl) (pv 0) pe_int (fun _ _ => rfl)) (pa_cons pe_int (pa_cons pe_int pa_nil)))) (pe_one (pe_callB (id := "isinstance") (call_isiK (K := K) rfl) (by rfl) T.isinstance (by decide +kernel) (pa_cons (pe_ix (ix_tupK (K := K) rfl) (pv 0) pe_int (fun _ _ => rfl)) (pa_cons (pe_bltn (v := .ty "tuple") (u := .type "tuple") (by rfl) T.tuple (by decide +kernel) rfl) pa_nil)))))))))))))), ?_⟩
  obtain ⟨tt, ty, ki⟩ := isi_tupQ hT
  cases it : isTupB d with
  | false =>
    rw [it] at ki
    have ef : stmtB d = false := by
      cases d with
      | tuple ds => cases it
      | _ => rfl
    rw [ef] at q
    walk_at "go"
    exact q H Kp.refl
  | true =>
    rw [it] at ki
    obtain ⟨ds, rfl⟩ : ∃ ds, d = .tuple ds := by
      cases d with
      | tuple ds => exact ⟨ds, rfl⟩
      | _ => cases it
    obtain ⟨a, xs, rfl, h1, h2⟩ := tq_tup hT
    have ln := h2.length
    simp only [Szd] at sz
    walk_at "go"
    intro u2 H2 hu2 e2
    have k2 := new_kp hu2 e2
    have a2 := new_at e2
    have h12 := k2.tup _ _ h1
    refine ⟨a, u2, _, rfl, rfl, h12, a2, _, rfl, ?_⟩
    rcases ds with _ | ⟨d1, r⟩
    · simp only [TqAll] at h2
      subst h2
      refine iteT ?_
      exact q H2 k2
    simp only [TqAll] at h2
    obtain ⟨x1, vr, rfl, t1, h2⟩ := h2
    simp only [Szds] at sz
    obtain ⟨s1, s2⟩ := sz
    refine iteF ?_
    have t12 := k2.tq t1
    have h22 := k2.tqAll h2
    obtain ⟨t1t, ty1, ki1⟩ := isi_strQ t12
    cases is1 : isStrB d1 with
    | false =>
      rw [is1] at ki1
      have ef : stmtB (.tuple (d1 :: r)) = false := stmt_nostr28 is1
      rw [ef] at q
      walk_at "go"
      exact q H2 k2
    | true =>
      rw [is1] at ki1
      obtain ⟨k, rfl⟩ : ∃ k, d1 = .str k := by
        cases d1 with
        | str k => exact ⟨k, rfl⟩
        | _ => cases is1
      cases tq_str t12
      walk_at "go"
      intro p3 hp3
      walk_at "go"
      refine ⟨upd_same, sizesQ, rfl, by show 7 ≤ 15; decide, ?_⟩
      have a3 : (upd (upd H2 p3 (.dK [])) p3 (.dK (mergeK [] sizesQ))) p3 = some (.dK sizesQ) := by
        rw [upd_same]
        rfl
      have k3 : Kp [] H2 (upd (upd H2 p3 (.dK [])) p3 (.dK (mergeK [] sizesQ))) := (Kp.new hp3).step1 (Kp.put upd_same (fun _ z => by cases z)) (.inr hp3)
      generalize upd (upd H2 p3 (.dK [])) p3 (.dK (mergeK [] sizesQ)) = H3 at a3 k3 ⊢
      have h13 := k3.tup _ _ h12
      have h23 := k3.tqAll h22
      have k23 := k2.trans k3
      have el : decide (V.int (((.str k : V) :: vr).length : Int) = V.int (sizeS k)) = decide ((r.length : Int) + 1 = sizeS k) := by
        rw [dec_int]
        exact decide_eq_decide.mpr (by rw [List.length_cons]; have := h2.length; omega)
      walk_at "go"
      rw [getS28]
      walk_at "go"
      rw [el]
      by_cases hz : (r.length : Int) + 1 = sizeS k
      · rw [decide_eq_true hz]
        refine iteF ?_
        rcases stmt_form28 hz with ⟨hk, d2, d3, rfl⟩ | ⟨hk, d2, rfl⟩ | ⟨hk, d2, rfl⟩ | ⟨hk, d2, d3, d4, rfl⟩ | ⟨hk, d2, d3, rfl⟩
        · rcases hk with rfl | rfl
          all_goals
            simp only [TqAll] at h23
            obtain ⟨x2, _, rfl, t2, x3, _, rfl, t3, rfl⟩ := h23
            simp only [Szds] at s2
            obtain ⟨s2, s3, _⟩ := s2
            walk_at "go"
            intro u4 H4 hu4 e4
            have k4 := new_kp hu4 e4
            have a4 := new_at e4
            have h14 := k4.tup _ _ h13
            have t2 := k4.tq t2
            have t3 := k4.tq t3
            have k24 := k23.trans k4
            walk_at "go"
            intro H6 k6
            have t26 := k6.tq t3
            have h16 := k6.tup _ _ h14
            refine ⟨_, rfl, iteB (fun hb => ?_) (fun hb => ?_)⟩
            · have q1 : ∀ H', Kp [] H H' → Q (.bl (nameB d2 && exprB 3 d3)) H' := q
              rw [hb, Bool.true_and] at q1
              walk_at "go"
              intro H7 k7
              exact q1 H7 ((k24.trans k6).trans k7)
            · have q1 : Q (.bl (nameB d2 && exprB 3 d3)) H6 := q H6 (k24.trans k6)
              rw [hb, Bool.false_and] at q1
              exact q1
        · rcases hk with rfl | rfl
          all_goals
            simp only [TqAll] at h23
            obtain ⟨x2, _, rfl, t2, rfl⟩ := h23
            simp only [Szds] at s2
            obtain ⟨s2, _⟩ := s2
            walk_at "go"
            intro u4 H4 hu4 e4
            have k4 := new_kp hu4 e4
            have a4 := new_at e4
            have h14 := k4.tup _ _ h13
            have t2 := k4.tq t2
            have k24 := k23.trans k4
            walk_at "go"
            intro u5 H5 hu5 e5
            have k5 := new_kp hu5 e5
            have a5 := new_at e5
            have h15 := k5.tup _ _ h14
            have t2 := k5.tq t2
            have k25 := k24.trans k5
            walk_at "go"
            intro H6 k6
            exact q H6 (k25.trans k6)
        · subst hk
          simp only [TqAll] at h23
          obtain ⟨x2, _, rfl, t2, rfl⟩ := h23
          simp only [Szds] at s2
          obtain ⟨s2, _⟩ := s2
          walk_at "go"
          intro u4 H4 hu4 e4
          have k4 := new_kp hu4 e4
          have a4 := new_at e4
          have h14 := k4.tup _ _ h13
          have t2 := k4.tq t2
          have k24 := k23.trans k4
          walk_at "go"
          intro u5 H5 hu5 e5
          have k5 := new_kp hu5 e5
          have a5 := new_at e5
          have h15 := k5.tup _ _ h14
          have t2 := k5.tq t2
          have k25 := k24.trans k5
          walk_at "go"
          intro H6 k6
          exact q H6 (k25.trans k6)
        · subst hk
          simp only [TqAll] at h23
          obtain ⟨x2, _, rfl, t2, x3, _, rfl, t3, x4, _, rfl, t4, rfl⟩ := h23
          simp only [Szds] at s2
          obtain ⟨s2, s3, s4, _⟩ := s2
          walk_at "go"
          intro u4 H4 hu4 e4
          have k4 := new_kp hu4 e4
          have a4 := new_at e4
          have h14 := k4.tup _ _ h13
          have t2 := k4.tq t2
          have t3 := k4.tq t3
          have t4 := k4.tq t4
          have k24 := k23.trans k4
          walk_at "go"
          intro u5 H5 hu5 e5
          have k5 := new_kp hu5 e5
          have a5 := new_at e5
          have h15 := k5.tup _ _ h14
          have t2 := k5.tq t2
          have t3 := k5.tq t3
          have t4 := k5.tq t4
          have k25 := k24.trans k5
          walk_at "go"
          intro H6 k6
          have t36 := k6.tq t3
          have t46 := k6.tq t4
          have h16 := k6.tup _ _ h15
          obtain ⟨t3t, ty3, ki3⟩ := isi_tupQ (K := K) t36
          obtain ⟨t4t, ty4, ki4⟩ := isi_tupQ (K := K) t46
          have k26 := k25.trans k6
          have q1 : Q (.bl (testB 2 d2 && isTupB d3 && isTupB d4)) H6 := q H6 k26
          refine ⟨_, rfl, iteB (fun hb => ?_) (fun hb => ?_)⟩
          · rw [hb, Bool.true_and] at q1
            walk_at "go"
            refine iteB (fun h3 => ?_) (fun h3 => ?_)
            · replace h3 : isTupB d3 = true := h3
              rw [h3, Bool.true_and] at q1
              walk_at "go"
              exact q1
            · replace h3 : isTupB d3 = false := h3
              rw [h3, Bool.false_and] at q1
              exact q1
          · rw [hb, Bool.false_and, Bool.false_and] at q1
            exact q1
        · subst hk
          simp only [TqAll] at h23
          obtain ⟨x2, _, rfl, t2, x3, _, rfl, t3, rfl⟩ := h23
          simp only [Szds] at s2
          obtain ⟨s2, s3, _⟩ := s2
          walk_at "go"
          intro u4 H4 hu4 e4
          have k4 := new_kp hu4 e4
          have a4 := new_at e4
          have h14 := k4.tup _ _ h13
          have t2 := k4.tq t2
          have t3 := k4.tq t3
          have k24 := k23.trans k4
          walk_at "go"
          intro u5 H5 hu5 e5
          have k5 := new_kp hu5 e5
          have a5 := new_at e5
          have h15 := k5.tup _ _ h14
          have t2 := k5.tq t2
          have t3 := k5.tq t3
          have k25 := k24.trans k5
          obtain ⟨t3t, ty3, ki3⟩ := isi_tupQ (K := K) t3
          have q1 : Q (.bl (wholeB 0 8 d2 && isTupB d3)) H5 := q H5 k25
          walk_at "go"
          refine iteB (fun hb => ?_) (fun hb => ?_)
          · replace hb : wholeB 0 8 d2 = true := hb
            rw [hb, Bool.true_and] at q1
            walk_at "go"
            exact q1
          · replace hb : wholeB 0 8 d2 = false := hb
            rw [hb, Bool.false_and] at q1
            exact q1
      · rw [decide_eq_false hz]
        refine iteT ?_
        have q1 := q H3 k23
        rw [stmt_size28 hz] at q1
        exact q1
end
section
variable {P : Program} {w : World} {K : PySem.W.Frag} {mg : Str → Option Value} {base : Heap}
def ODDK28_0 : List PyData := [.none, .bool true, .bool false, .int 0, .int 1, .int 8, .int 9, .int (-9), .int (-10), .int 99, .int (-99), .int 100, .int (-100), .int (10 ^ 50), .str "", .str "n", .str "half", .str "not", .str "program"]
def ODDK28_1 : List PyData := (ODDK28_0 ++ [.str "a1", .str "1a", .str "Ab", .str "a_", .str "a\n", .str "a{", .str "abcdefgh", .str "abcdefghi", .str "plus", .str "times", .tuple [], .list [], .dict (kvD []), .tuple [.int 1]])
def ODDK28_2 : List PyData := (ODDK28_1 ++ [.tuple [.str "odd", .str "n"], .tuple [.str "plus", .int 1, .int 2], .list [.str "plus", .int 1, .int 2], .tuple [.str "times", .int 2, .str "n"], .tuple [.str "times", .str "n", .int 2], .tuple [.str "minus", .str "n"]])
def ODDK28_3 : List PyData := (ODDK28_2 ++ [.tuple [.str "not", .tuple [.str "odd", .int 1]], .tuple [.str "less", .int 1], .tuple [.str "say", .str "x"], .tuple [.tuple [.str "say", .str "x"]], .dict (kvD [("n", 1)])])
theorem odd_all : ∀ d ∈ ODDK28_3, OddD d := fun d hd => odd_of (List.all_eq_true.mp (show ODDK28_3.all oddOk = true by decide +kernel) d hd)
theorem ok_l_odd (T : Top K mg) : FnOk P w K mg base CX0 3 T.l_odd.f T.l_odd.fd ["_law_deck_here"] spOdd := by
  have G_l_one : FnOk P w K mg base CX0 2 T.l_one.f T.l_one.fd ["_law_deck_here", "_law_items"] (spOne K) := ok_l_one T
  refine T.l_odd.F.ok sc_l_odd (fun vs H Q E h => ?_) (fun cdv A outer s H vs Q E hr h => ?_)
  · obtain ⟨a, c, m, rfl, _⟩ := h
    rfl
  obtain ⟨a, c, m, rfl, D, hm, q⟩ := h
  have hu := hu_of hr
  refine ⟨_, (pss_cutA (ps_set (i := 1) sc_l_odd.nd rfl (.inl rfl) (pe_lstA (pa_cons pe_non (pa_cons pe_bl (pa_cons pe_bl (pa_cons pe_int (pa_cons pe_int (pa_cons pe_int (pa_cons pe_int (pa_cons (pe_un un_neg pe_int) (pa_cons (pe_un un_neg pe_int) (pa_cons pe_int (pa_cons (pe_un un_neg pe_int) (pa_cons pe_int (pa_cons (pe_un un_neg pe_int) (pa_cons (pe_op op_pow pe_int pe_int) (pa_cons pe_str (pa_cons pe_str (pa_cons pe_str (pa_cons pe_str (pa_cons pe_str pa_nil)))))))))))))))))))))
      (pss_cutA (ps_set (i := 1) sc_l_odd.nd rfl (.inl rfl) (pe_op op_catL (pv 1) (pe_lstA (pa_cons pe_str (pa_cons pe_str (pa_cons pe_str (pa_cons pe_str (pa_cons pe_str (pa_cons pe_str (pa_cons pe_str (pa_cons pe_str (pa_cons pe_str (pa_cons pe_str (pa_cons (pe_tupA pa_nil) (pa_cons (pe_lstF pa_nil) (pa_cons (pe_frzK pe_dnewK) (pa_cons (pe_tupA (pa_cons pe_int pa_nil)) pa_nil)))))))))))))))))
      (pss_cutA (ps_set (i := 1) sc_l_odd.nd rfl (.inl rfl) (pe_op op_catL (pv 1) (pe_lstA (pa_cons (pe_tupA (pa_cons pe_str (pa_cons pe_str pa_nil))) (pa_cons (pe_tupA (pa_cons pe_str (pa_cons pe_int (pa_cons pe_int pa_nil)))) (pa_cons (pe_lstF (pa_cons pe_str (pa_cons pe_int (pa_cons pe_int pa_nil)))) (pa_cons (pe_tupA (pa_cons pe_str (pa_cons pe_int (pa_cons pe_str pa_nil)))) (pa_cons (pe_tupA (pa_cons pe_str (pa_cons pe_str (pa_cons pe_int pa_nil)))) (pa_cons (pe_tupA (pa_cons pe_str (pa_cons pe_str pa_nil))) pa_nil)))))))))
      (pss_one (ps_ret (pe_call G_l_one (hr.mono (by omega)) (by rfl) T.l_one.g T.l_one.F.kp T.l_one.b .nil pass0 (pa_cons (pv 0) (pa_cons (pe_op op_catL (pv 1) (pe_lstA (pa_cons (pe_tupA (pa_cons pe_str (pa_cons (pe_tupA (pa_cons pe_str (pa_cons pe_int pa_nil))) pa_nil))) (pa_cons (pe_tupA (pa_cons pe_str (pa_cons pe_int pa_nil))) (pa_cons (pe_tupA (pa_cons pe_str (pa_cons pe_str pa_nil))) (pa_cons (pe_tupA (pa_cons (pe_tupA (pa_cons pe_str (pa_cons pe_str pa_nil))) pa_nil)) (pa_cons (pe_frzK (pe_disp (pps_cons pe_str pe_int pps_nil) (by rfl) (by rfl) (fun z => by cases z) (by decide))) pa_nil))))))) pa_nil)))))))), ?_⟩
  refine ⟨⟨(fun σ X => Lp (∃ (lA : Addr) (vsA : List V), σ = [some (.ref a), some (.ref lA)] ∧ X lA = some (.lst vsA) ∧ TqAll X ODDK28_0 vsA ∧ vsA.length = 19 ∧ Kp [] H X)), ?_, ?_⟩⟩
  · walk_at "go"
    intro p11 H11 hp11 e11
    have k11 := new_kp hp11 e11
    have a11 := new_at e11
    have t11 : TqAll H11 [.none, .bool true, .bool false, .int 0, .int 1, .int 8, .int 9, .int (-9), .int (-10), .int 99, .int (-99), .int 100, .int (-100), .int (10 ^ 50), .str "", .str "n", .str "half", .str "not", .str "program"] _ := (tqs_cons mq_non (tqs_cons mq_bl (tqs_cons mq_bl (tqs_cons mq_int (tqs_cons mq_int (tqs_cons mq_int (tqs_cons mq_int (tqs_cons mq_int (tqs_cons mq_int (tqs_cons mq_int (tqs_cons mq_int (tqs_cons mq_int (tqs_cons mq_int (tqs_cons mq_int (tqs_cons mq_str (tqs_cons mq_str (tqs_cons mq_str (tqs_cons mq_str (tqs_cons mq_str tqs_nil)))))))))))))))))))
    exact ⟨_, _, rfl, a11, t11, by rfl, k11⟩
  · rintro σ X12 ⟨⟨lA, vsA, rfl, sA, tA, nA, kA⟩⟩
    refine ⟨⟨(fun σ X => Lp (∃ (lA : Addr) (vsA : List V), σ = [some (.ref a), some (.ref lA)] ∧ X lA = some (.lst vsA) ∧ TqAll X ODDK28_1 vsA ∧ vsA.length = 33 ∧ Kp [] H X)), ?_, ?_⟩⟩
    · walk_at "go"
      intro p13 H13 hp13 e13
      have k13 := new_kp hp13 e13
      have a13 := new_at e13
      have t13 : Tq H13 (.tuple []) (.ref p13) := mq_tup a13 tqs_nil
      walk_at "go"
      intro p14 H14 o14 hp14 n14 a14 k14
      have t14 : Tq H14 (.list []) (.ref p14) := mq_lst n14 a14 tqs_nil
      walk_at "go"
      intro p15 hp15
      refine ⟨_, [], rfl, upd_same, fun o15 H15 e15 => ?_⟩
      obtain ⟨k15, a15⟩ := kp_frz hp15 e15
      have t15 : Tq H15 (.dict (kvD [])) (.ref p15) := mq_dct a15
      walk_at "go"
      intro p16 H16 hp16 e16
      have k16 := new_kp hp16 e16
      have a16 := new_at e16
      have t16 : Tq H16 (.tuple [.int 1]) (.ref p16) := mq_tup a16 (tqs_cons mq_int tqs_nil)
      walk_at "go"
      intro p17 H17 hp17 e17
      have k17 := new_kp hp17 e17
      have a17 := new_at e17
      have t17 : TqAll H17 [.str "a1", .str "1a", .str "Ab", .str "a_", .str "a\n", .str "a{", .str "abcdefgh", .str "abcdefghi", .str "plus", .str "times", .tuple [], .list [], .dict (kvD []), .tuple [.int 1]] _ := (tqs_cons mq_str (tqs_cons mq_str (tqs_cons mq_str (tqs_cons mq_str (tqs_cons mq_str (tqs_cons mq_str (tqs_cons mq_str (tqs_cons mq_str (tqs_cons mq_str (tqs_cons mq_str (tqs_cons ((k14.trans (k15.trans (k16.trans k17))).tq t13) (tqs_cons ((k15.trans (k16.trans k17)).tq t14) (tqs_cons ((k16.trans k17).tq t15) (tqs_cons (k17.tq t16) tqs_nil))))))))))))))
      have s17 := (k13.trans (k14.trans (k15.trans (k16.trans k17)))).at sA
      have z17 : vsA.length + _ ≤ sizeLine := sz_le (show vsA.length + 14 ≤ 1000000 by omega)
      walk_at "go"
      intro p18 H18 hp18 a18 k18
      have t18 : TqAll H18 (ODDK28_0 ++ [.str "a1", .str "1a", .str "Ab", .str "a_", .str "a\n", .str "a{", .str "abcdefgh", .str "abcdefghi", .str "plus", .str "times", .tuple [], .list [], .dict (kvD []), .tuple [.int 1]]) _ := TqAll.append ((k13.trans (k14.trans (k15.trans (k16.trans (k17.trans k18))))).tqAll tA) (k18.tqAll t17)
      exact ⟨_, _, rfl, a18, t18, by rw [List.length_append, nA]; rfl, (kA.trans (k13.trans (k14.trans (k15.trans (k16.trans (k17.trans k18))))))⟩
    · rintro σ X19 ⟨⟨lA, vsA, rfl, sA, tA, nA, kA⟩⟩
      refine ⟨⟨(fun σ X => Lp (∃ (lA : Addr) (vsA : List V), σ = [some (.ref a), some (.ref lA)] ∧ X lA = some (.lst vsA) ∧ TqAll X ODDK28_2 vsA ∧ vsA.length = 39 ∧ Kp [] H X)), ?_, ?_⟩⟩
      · walk_at "go"
        intro p20 H20 hp20 e20
        have k20 := new_kp hp20 e20
        have a20 := new_at e20
        have t20 : Tq H20 (.tuple [.str "odd", .str "n"]) (.ref p20) := mq_tup a20 (tqs_cons mq_str (tqs_cons mq_str tqs_nil))
        walk_at "go"
        intro p21 H21 hp21 e21
        have k21 := new_kp hp21 e21
        have a21 := new_at e21
        have t21 : Tq H21 (.tuple [.str "plus", .int 1, .int 2]) (.ref p21) := mq_tup a21 (tqs_cons mq_str (tqs_cons mq_int (tqs_cons mq_int tqs_nil)))
        walk_at "go"
        intro p22 H22 o22 hp22 n22 a22 k22
        have t22 : Tq H22 (.list [.str "plus", .int 1, .int 2]) (.ref p22) := mq_lst n22 a22 (tqs_cons mq_str (tqs_cons mq_int (tqs_cons mq_int tqs_nil)))
        walk_at "go"
        intro p23 H23 hp23 e23
        have k23 := new_kp hp23 e23
        have a23 := new_at e23
        have t23 : Tq H23 (.tuple [.str "times", .int 2, .str "n"]) (.ref p23) := mq_tup a23 (tqs_cons mq_str (tqs_cons mq_int (tqs_cons mq_str tqs_nil)))
        walk_at "go"
        intro p24 H24 hp24 e24
        have k24 := new_kp hp24 e24
        have a24 := new_at e24
        have t24 : Tq H24 (.tuple [.str "times", .str "n", .int 2]) (.ref p24) := mq_tup a24 (tqs_cons mq_str (tqs_cons mq_str (tqs_cons mq_int tqs_nil)))
        walk_at "go"
        intro p25 H25 hp25 e25
        have k25 := new_kp hp25 e25
        have a25 := new_at e25
        have t25 : Tq H25 (.tuple [.str "minus", .str "n"]) (.ref p25) := mq_tup a25 (tqs_cons mq_str (tqs_cons mq_str tqs_nil))
        walk_at "go"
        intro p26 H26 hp26 e26
        have k26 := new_kp hp26 e26
        have a26 := new_at e26
        have t26 : TqAll H26 [.tuple [.str "odd", .str "n"], .tuple [.str "plus", .int 1, .int 2], .list [.str "plus", .int 1, .int 2], .tuple [.str "times", .int 2, .str "n"], .tuple [.str "times", .str "n", .int 2], .tuple [.str "minus", .str "n"]] _ := (tqs_cons ((k21.trans (k22.trans (k23.trans (k24.trans (k25.trans k26))))).tq t20) (tqs_cons ((k22.trans (k23.trans (k24.trans (k25.trans k26)))).tq t21) (tqs_cons ((k23.trans (k24.trans (k25.trans k26))).tq t22) (tqs_cons ((k24.trans (k25.trans k26)).tq t23) (tqs_cons ((k25.trans k26).tq t24) (tqs_cons (k26.tq t25) tqs_nil))))))
        have s26 := (k20.trans (k21.trans (k22.trans (k23.trans (k24.trans (k25.trans k26)))))).at sA
        have z26 : vsA.length + _ ≤ sizeLine := sz_le (show vsA.length + 6 ≤ 1000000 by omega)
        walk_at "go"
        intro p27 H27 hp27 a27 k27
        have t27 : TqAll H27 (ODDK28_1 ++ [.tuple [.str "odd", .str "n"], .tuple [.str "plus", .int 1, .int 2], .list [.str "plus", .int 1, .int 2], .tuple [.str "times", .int 2, .str "n"], .tuple [.str "times", .str "n", .int 2], .tuple [.str "minus", .str "n"]]) _ := TqAll.append ((k20.trans (k21.trans (k22.trans (k23.trans (k24.trans (k25.trans (k26.trans k27))))))).tqAll tA) (k27.tqAll t26)
        exact ⟨_, _, rfl, a27, t27, by rw [List.length_append, nA]; rfl, (kA.trans (k20.trans (k21.trans (k22.trans (k23.trans (k24.trans (k25.trans (k26.trans k27))))))))⟩
      · rintro σ X28 ⟨⟨lA, vsA, rfl, sA, tA, nA, kA⟩⟩
        walk_at "go"
        intro p29 H29 hp29 e29
        have k29 := new_kp hp29 e29
        have a29 := new_at e29
        have t29 : Tq H29 (.tuple [.str "odd", .int 1]) (.ref p29) := mq_tup a29 (tqs_cons mq_str (tqs_cons mq_int tqs_nil))
        walk_at "go"
        intro p30 H30 hp30 e30
        have k30 := new_kp hp30 e30
        have a30 := new_at e30
        have t30 : Tq H30 (.tuple [.str "not", .tuple [.str "odd", .int 1]]) (.ref p30) := mq_tup a30 (tqs_cons mq_str (tqs_cons (k30.tq t29) tqs_nil))
        walk_at "go"
        intro p31 H31 hp31 e31
        have k31 := new_kp hp31 e31
        have a31 := new_at e31
        have t31 : Tq H31 (.tuple [.str "less", .int 1]) (.ref p31) := mq_tup a31 (tqs_cons mq_str (tqs_cons mq_int tqs_nil))
        walk_at "go"
        intro p32 H32 hp32 e32
        have k32 := new_kp hp32 e32
        have a32 := new_at e32
        have t32 : Tq H32 (.tuple [.str "say", .str "x"]) (.ref p32) := mq_tup a32 (tqs_cons mq_str (tqs_cons mq_str tqs_nil))
        walk_at "go"
        intro p33 H33 hp33 e33
        have k33 := new_kp hp33 e33
        have a33 := new_at e33
        have t33 : Tq H33 (.tuple [.str "say", .str "x"]) (.ref p33) := mq_tup a33 (tqs_cons mq_str (tqs_cons mq_str tqs_nil))
        walk_at "go"
        intro p34 H34 hp34 e34
        have k34 := new_kp hp34 e34
        have a34 := new_at e34
        have t34 : Tq H34 (.tuple [.tuple [.str "say", .str "x"]]) (.ref p34) := mq_tup a34 (tqs_cons (k34.tq t33) tqs_nil)
        walk_at "go"
        intro p35 hp35
        walk_at "go"
        refine ⟨upd_same, [(Sum.inr "n", V.int 1)], rfl, by show 1 ≤ 15; decide, ?_⟩
        refine ⟨_, [(Sum.inr "n", V.int 1)], rfl, by rw [upd_same]; rfl, fun o35 H35 e35 => ?_⟩
        obtain ⟨k35, a35⟩ := kp_frz2 hp35 e35
        have t35 : Tq H35 (.dict (kvD [("n", 1)])) (.ref p35) := mq_dct a35
        walk_at "go"
        intro p36 H36 hp36 e36
        have k36 := new_kp hp36 e36
        have a36 := new_at e36
        have t36 : TqAll H36 [.tuple [.str "not", .tuple [.str "odd", .int 1]], .tuple [.str "less", .int 1], .tuple [.str "say", .str "x"], .tuple [.tuple [.str "say", .str "x"]], .dict (kvD [("n", 1)])] _ := (tqs_cons ((k31.trans (k32.trans (k33.trans (k34.trans (k35.trans k36))))).tq t30) (tqs_cons ((k32.trans (k33.trans (k34.trans (k35.trans k36)))).tq t31) (tqs_cons ((k33.trans (k34.trans (k35.trans k36))).tq t32) (tqs_cons ((k35.trans k36).tq t34) (tqs_cons (k36.tq t35) tqs_nil)))))
        have s36 := (k29.trans (k30.trans (k31.trans (k32.trans (k33.trans (k34.trans (k35.trans k36))))))).at sA
        have z36 : vsA.length + _ ≤ sizeLine := sz_le (show vsA.length + 5 ≤ 1000000 by omega)
        walk_at "go"
        intro p37 H37 hp37 a37 k37
        have t37 : TqAll H37 (ODDK28_2 ++ [.tuple [.str "not", .tuple [.str "odd", .int 1]], .tuple [.str "less", .int 1], .tuple [.str "say", .str "x"], .tuple [.tuple [.str "say", .str "x"]], .dict (kvD [("n", 1)])]) _ := TqAll.append ((k29.trans (k30.trans (k31.trans (k32.trans (k33.trans (k34.trans (k35.trans (k36.trans k37)))))))).tqAll tA) (k37.tqAll t36)
        have DP := D.kp0 (kA.trans (k29.trans (k30.trans (k31.trans (k32.trans (k33.trans (k34.trans (k35.trans k36))))))))
        have off := DP.off hp37
        have DD := DP.kp0 k37
        have hm2 : m ≤ MANY := by show m ≤ 1000000000; omega
        have nB := TqAll.length t37
        have nC : (ODDK28_3 : List PyData).length = 44 := by rfl
        replace nB := nB.trans nC
        have nB0 := Nat.lt_of_lt_of_eq (show 0 < 44 by decide) nB.symm
        have nB1 := Nat.le_trans (Nat.le_of_eq nB) (show 44 ≤ 1000000 by decide)
        walk_at "go"
        intro y HZ hy DZ kZ
        obtain ⟨dd, hd, td⟩ := TqAll.mem t37 hy
        exact q y dd HZ (kZ.tq td) (odd_all dd hd) DZ ((((kA.trans (k29.trans (k30.trans (k31.trans (k32.trans (k33.trans (k34.trans (k35.trans (k36.trans k37)))))))))).sub (by simp)).trans kZ)
end
section
variable {P : Program} {w : World} {K : PySem.W.Frag} {mg : Str → Option Value} {base : Heap}
theorem ok_l_bent (T : Top K mg) : ∀ n : Nat, FnOk P w K mg base CX0 (n + 4) T.l_bent.f T.l_bent.fd ["_law_deck_here", "_law_value", "_law_deep_here"] (spBent n)
  | 0 => by
    have G_l_odd : FnOk P w K mg base CX0 3 T.l_odd.f T.l_odd.fd ["_law_deck_here"] spOdd := ok_l_odd T
    have G_l_draw : FnOk P w K mg base CX0 1 T.l_draw.f T.l_draw.fd ["_law_deck_here", "_law_many"] spDraw := ok_l_draw T
    have G_l_bent : FnOk P w K mg base CX0 0 T.l_bent.f T.l_bent.fd ["_law_deck_here", "_law_value", "_law_deep_here"] (fun _ _ _ _ => False) := fn_no (fun _ _ _ _ h => h)
    refine T.l_bent.F.ok sc_l_bent (fun vs H Q E h => ?_) (fun cdv A outer s H vs Q E hr h => ?_)
    · obtain ⟨a, c, v, d, i, m, rfl, _⟩ := h
      rfl
    obtain ⟨a, c, v, d, i, m, rfl, rfl, D, hm, hT, hz, q⟩ := h
    have hu := hu_of hr
    refine ⟨_, (pss_cons (ps_if (PW.pt (pw_or (pt_cmpR op_eq (pv 2) pe_int (nomark _)) (pw_or (pt_not (pt_val (pe_callB (id := "isinstance") (call_isiK (K := K) rfl) (by rfl) T.isinstance (by decide +kernel) (pa_cons (pv 1) (pa_cons (pe_bltn (v := .ty "tuple") (u := .type "tuple") (by rfl) T.tuple (by decide +kernel) rfl) pa_nil))))) (pw_or (pt_cmpR (op_eqNilT hu) (pv 1) (pe_tupA pa_nil) (nomark _)) (pw_or1 (pt_cmpR op_eq (pe_call G_l_draw (hr.mono (by omega)) (by rfl) T.l_draw.g T.l_draw.F.kp T.l_draw.b .nil pass0 (pa_cons (pv 0) (pa_cons pe_int pa_nil))) pe_int (nomark _))))))) (pss_one (ps_ret (pe_call G_l_odd (hr.mono (by omega)) (by rfl) T.l_odd.g T.l_odd.F.kp T.l_odd.b .nil pass0 (pa_cons (pv 0) pa_nil)))) pss_nil)
      (pss_cons (ps_par (i := 3) (j := 4) (by rfl) sc_l_bent.nd rfl rfl (by decide) rfl rfl (pa_cons (pe_call G_l_draw (hr.mono (by omega)) (by rfl) T.l_draw.g T.l_draw.F.kp T.l_draw.b .nil pass0 (pa_cons (pv 0) (pa_cons (pe_callB (id := "len") (call_lenK (K := K) rfl) (by rfl) T.len PySem.boot_len (pa_cons (pv 1) pa_nil)) pa_nil))) (pa_cons (pe_call G_l_draw (hr.mono (by omega)) (by rfl) T.l_draw.g T.l_draw.F.kp T.l_draw.b .nil pass0 (pa_cons (pv 0) (pa_cons pe_int pa_nil))) pa_nil)) (by rfl))
      (pss_cons (ps_if (pt_cmpR op_eq (pv 4) pe_int (nomark _)) (pss_one (ps_ret (pe_op (op_catTK (K := K) rfl) (pe_slice (sl_tupK (K := K) rfl) (pv 1) po_none (po_some (pv 3))) (pe_slice (sl_tupK (K := K) rfl) (pv 1) (po_some (pe_op op_add (pv 3) pe_int)) po_none)))) pss_nil)
      (pss_cons (ps_if (pt_cmpR op_eq (pv 4) pe_int (nomark _)) (pss_one (ps_ret (pe_op (op_catTK (K := K) rfl) (pe_op (op_catTK (K := K) rfl) (pe_slice (sl_tupK (K := K) rfl) (pv 1) po_none (po_some (pv 3))) (pe_slice (sl_tupK (K := K) rfl) (pv 1) (po_some (pv 3)) (po_some (pe_op op_add (pv 3) pe_int)))) (pe_slice (sl_tupK (K := K) rfl) (pv 1) (po_some (pv 3)) po_none)))) pss_nil)
      (pss_cons (ps_if (pt_cmpR op_eq (pv 4) pe_int (nomark _)) (pss_one (ps_ret (pe_callTy (T := "list") (call_listF (K := K) rfl) (by rfl) T.list (by decide +kernel) (pa_cons (pv 1) pa_nil)))) pss_nil)
      (pss_one (ps_ret (pe_op (op_catTK (K := K) rfl) (pe_op (op_catTK (K := K) rfl) (pe_slice (sl_tupK (K := K) rfl) (pv 1) po_none (po_some (pv 3))) (pe_tupA (pa_cons (pe_call G_l_bent (hr.mono (by omega)) (by rfl) T.l_bent.g T.l_bent.F.kp T.l_bent.b .nil pass0 (pa_cons (pv 0) (pa_cons (pe_ix (ix_tupK (K := K) rfl) (pv 1) (pv 3) (fun _ _ => rfl)) (pa_cons (pe_op op_sub (pv 2) pe_int) pa_nil)))) pa_nil))) (pe_slice (sl_tupK (K := K) rfl) (pv 1) (po_some (pe_op op_add (pv 3) pe_int)) po_none))))))))), ?_⟩
    have hm2 : m ≤ 900000000 := by omega
    walk_at "go"
    intro v' d' H1 t1 od D1 k1
    exact q v' d' H1 (m + 1) t1 (bent_odd od) (by omega) (by omega) D1 k1
  | n + 1 => by
    have G_l_odd : FnOk P w K mg base CX0 3 T.l_odd.f T.l_odd.fd ["_law_deck_here"] spOdd := ok_l_odd T
    have G_l_draw : FnOk P w K mg base CX0 1 T.l_draw.f T.l_draw.fd ["_law_deck_here", "_law_many"] spDraw := ok_l_draw T
    have G_l_bent : FnOk P w K mg base CX0 (n + 4) T.l_bent.f T.l_bent.fd ["_law_deck_here", "_law_value", "_law_deep_here"] (spBent n) := ok_l_bent T n
    refine T.l_bent.F.ok sc_l_bent (fun vs H Q E h => ?_) (fun cdv A outer s H vs Q E hr h => ?_)
    · obtain ⟨a, c, v, d, i, m, rfl, _⟩ := h
      rfl
    obtain ⟨a, c, v, d, i, m, rfl, hi, D, hm, hT, hz, q⟩ := h
    have hu := hu_of hr
    refine ⟨_, (pss_cons (ps_if (PW.pt (pw_or (pt_cmpR op_eq (pv 2) pe_int (nomark _)) (pw_or (pt_not (pt_val (pe_callB (id := "isinstance") (call_isiK (K := K) rfl) (by rfl) T.isinstance (by decide +kernel) (pa_cons (pv 1) (pa_cons (pe_bltn (v := .ty "tuple") (u := .type "tuple") (by rfl) T.tuple (by decide +kernel) rfl) pa_nil))))) (pw_or (pt_cmpR (op_eqNilT hu) (pv 1) (pe_tupA pa_nil) (nomark _)) (pw_or1 (pt_cmpR op_eq (pe_call G_l_draw (hr.mono (by omega)) (by rfl) T.l_draw.g T.l_draw.F.kp T.l_draw.b .nil pass0 (pa_cons (pv 0) (pa_cons pe_int pa_nil))) pe_int (nomark _))))))) (pss_one (ps_ret (pe_call G_l_odd (hr.mono (by omega)) (by rfl) T.l_odd.g T.l_odd.F.kp T.l_odd.b .nil pass0 (pa_cons (pv 0) pa_nil)))) pss_nil)
      (pss_cons (ps_par (i := 3) (j := 4) (by rfl) sc_l_bent.nd rfl rfl (by decide) rfl rfl (pa_cons (pe_call G_l_draw (hr.mono (by omega)) (by rfl) T.l_draw.g T.l_draw.F.kp T.l_draw.b .nil pass0 (pa_cons (pv 0) (pa_cons (pe_callB (id := "len") (call_lenK (K := K) rfl) (by rfl) T.len PySem.boot_len (pa_cons (pv 1) pa_nil)) pa_nil))) (pa_cons (pe_call G_l_draw (hr.mono (by omega)) (by rfl) T.l_draw.g T.l_draw.F.kp T.l_draw.b .nil pass0 (pa_cons (pv 0) (pa_cons pe_int pa_nil))) pa_nil)) (by rfl))
      (pss_cons (ps_if (pt_cmpR op_eq (pv 4) pe_int (nomark _)) (pss_one (ps_ret (pe_op (op_catTK (K := K) rfl) (pe_slice (sl_tupK (K := K) rfl) (pv 1) po_none (po_some (pv 3))) (pe_slice (sl_tupK (K := K) rfl) (pv 1) (po_some (pe_op op_add (pv 3) pe_int)) po_none)))) pss_nil)
      (pss_cons (ps_if (pt_cmpR op_eq (pv 4) pe_int (nomark _)) (pss_one (ps_ret (pe_op (op_catTK (K := K) rfl) (pe_op (op_catTK (K := K) rfl) (pe_slice (sl_tupK (K := K) rfl) (pv 1) po_none (po_some (pv 3))) (pe_slice (sl_tupK (K := K) rfl) (pv 1) (po_some (pv 3)) (po_some (pe_op op_add (pv 3) pe_int)))) (pe_slice (sl_tupK (K := K) rfl) (pv 1) (po_some (pv 3)) po_none)))) pss_nil)
      (pss_cons (ps_if (pt_cmpR op_eq (pv 4) pe_int (nomark _)) (pss_one (ps_ret (pe_callTy (T := "list") (call_listF (K := K) rfl) (by rfl) T.list (by decide +kernel) (pa_cons (pv 1) pa_nil)))) pss_nil)
      (pss_one (ps_ret (pe_op (op_catTK (K := K) rfl) (pe_op (op_catTK (K := K) rfl) (pe_slice (sl_tupK (K := K) rfl) (pv 1) po_none (po_some (pv 3))) (pe_tupA (pa_cons (pe_call G_l_bent (hr.mono (by omega)) (by rfl) T.l_bent.g T.l_bent.F.kp T.l_bent.b .nil pass0 (pa_cons (pv 0) (pa_cons (pe_ix (ix_tupK (K := K) rfl) (pv 1) (pv 3) (fun _ _ => rfl)) (pa_cons (pe_op op_sub (pv 2) pe_int) pa_nil)))) pa_nil))) (pe_slice (sl_tupK (K := K) rfl) (pv 1) (po_some (pe_op op_add (pv 3) pe_int)) po_none))))))))), ?_⟩
    have hm2 : m ≤ 900000000 := by omega
    have z0 : decide (V.int i = V.int 0) = false := by
      rw [dec_int]
      exact decide_eq_false (by omega)
    have i1 : i - 1 = (n : Int) := by omega
    obtain ⟨tt, ty, ki⟩ := isi_tupQ (K := K) hT
    walk_at "go"
    rw [z0]
    refine iteF ?_
    cases it : isTupB d with
    | false =>
      rw [it] at ki
      walk_at "go"
      intro v' d' H1 t1 od D1 k1
      exact q v' d' H1 (m + 1) t1 (bent_odd od) (by omega) (by omega) D1 k1
    | true =>
      rw [it] at ki
      obtain ⟨ds, rfl⟩ : ∃ ds, d = .tuple ds := by
        cases d with
        | tuple ds => exact ⟨ds, rfl⟩
        | _ => cases it
      obtain ⟨ta, xs, rfl, h1, h2⟩ := tq_tup hT
      have ln := h2.length
      walk_at "go"
      intro u2 H2 hu2 e2
      have k2 := new_kp hu2 e2
      have a2 := new_at e2
      have h12 := k2.tup _ _ h1
      have D2 := D.kp0 k2
      refine ⟨ta, u2, _, rfl, rfl, h12, a2, _, rfl, ?_⟩
      rcases ds with _ | ⟨d0, dr⟩
      · simp only [TqAll] at h2
        subst h2
        refine iteT ?_
        walk_at "go"
        intro v' d' H3 t3 od D3 k3
        exact q v' d' H3 (m + 1) t3 (bent_odd od) (by omega) (by omega) D3 (((Kp.refl (S := [a, c])).step0 k2).trans k3)
      obtain ⟨dt, edt⟩ : ∃ dt, dt = d0 :: dr := ⟨_, rfl⟩
      rw [← edt] at h2 ln q hz
      have nd : 0 < dt.length := by rw [edt]; simp
      clear edt
      obtain ⟨x0, xr, rfl⟩ : ∃ x0 xr, xs = x0 :: xr := by
        cases xs with
        | nil => rw [List.length_nil] at ln; omega
        | cons x0 xr => exact ⟨x0, xr, rfl⟩
      refine iteF ?_
      obtain ⟨xs, exs⟩ : ∃ xs, xs = x0 :: xr := ⟨_, rfl⟩
      rw [← exs] at h2 ln h12
      clear exs h1
      have lz := dszs_len dt
      simp only [dsz] at hz
      have l0 : (0 : Int) < (xs.length : Int) := by omega
      have l1 : (xs.length : Int) ≤ 1000000 := by omega
      have hmM : m ≤ MANY := by show m ≤ 1000000000; omega
      have hmM1 : m + 1 ≤ MANY := by show m + 1 ≤ 1000000000; omega
      have hmM2 : m + 1 + 1 ≤ MANY := by show m + 1 + 1 ≤ 1000000000; omega
      have ta2 := k2.tqAll h2
      walk_at "go"
      intro r H3 r0 r1 D3 k3
      have k23 : Kp [a, c] H H3 := ((Kp.refl (S := [a, c])).step0 k2).trans k3
      have h13 := k3.tup _ _ h12
      walk_at "go"
      rw [dec_int]
      refine iteB (fun hr0 => ?_) (fun hr0 => ?_)
      · have hm3 : m + 1 ≤ 900000000 := by omega
        walk_at "go"
        intro v' d' H4 t4 od D4 k4
        exact q v' d' H4 (m + 1 + 1) t4 (bent_odd od) (by omega) (by omega) D4 (k23.trans k4)
      · walk_at "go"
        intro j H4 j0 j1 D4 k4
        obtain ⟨j, rfl⟩ : ∃ jn : Nat, j = (jn : Int) := ⟨j.toNat, by omega⟩
        have h14 := k4.tup _ _ h13
        walk_at "go"
        intro way H5 w0 w1 D5 k5
        have h15 := k5.tup _ _ h14
        have k25 : Kp [a, c] H H5 := (k23.trans k4).trans k5
        have t5 := k25.tqAll h2
        have hjl : j < dt.length := by omega
        obtain ⟨e, he⟩ : ∃ e, dt[j]? = some e := ⟨_, List.getElem?_eq_getElem hjl⟩
        obtain ⟨xe, hxe, te⟩ := t5.get he
        have ecut := cut_at he
        have c1 := cut_to xs j
        have c2 := @cut_next xs j
        have c3 := cut_oneQ hxe
        have c4 := cut_fromQ xs j
        have hat := atI_nat hxe
        have lt5 : (xs.take j).length ≤ 1000000 := by rw [List.length_take]; omega
        have ld5 : (xs.drop (j + 1)).length ≤ 1000000 := by rw [List.length_drop]; omega
        have le5 : (xs.drop j).length ≤ 1000000 := by rw [List.length_drop]; omega
        have s1 : (xs.take j).length + (xs.drop (j + 1)).length ≤ sizeLine := sz_le3 (by omega)
        have s2 : (xs.take j).length + [xe].length ≤ sizeLine := sz_le3 (by simp only [List.length_singleton]; omega)
        have s3 : (xs.take j ++ [xe]).length + (xs.drop j).length ≤ sizeLine := sz_le3 (by rw [List.length_append, List.length_singleton]; omega)
        have s4 : (xs.drop j).length + (xs.take j).length ≤ sizeLine := sz_le3 (by omega)
        have te5 := te
        have b0 : Bent (.tuple dt) (.tuple (dt.take j ++ dt.drop (j + 1))) := by have := @bent_drop (dt.take j) (dt.drop (j + 1)) e; rwa [← ecut] at this
        have b1 : Bent (.tuple dt) (.tuple (dt.take j ++ [e] ++ dt.drop j)) := by have := @bent_dup (dt.take j) (dt.drop (j + 1)) e; rw [← ecut] at this; rwa [show e :: dt.drop (j + 1) = dt.drop j from (drop_at he).symm] at this
        have b3 : Bent (.tuple dt) (.tuple (dt.drop j ++ dt.take j)) := by have := @bent_rot (dt.take j) (dt.drop j); rwa [List.take_append_drop] at this
        have b4 : ∀ e', Bent e e' → Bent (.tuple dt) (.tuple (dt.take j ++ [e'] ++ dt.drop (j + 1))) := fun e' h => by have := @bent_in (dt.take j) (dt.drop (j + 1)) e e' h; rwa [← ecut] at this
        walk_at "go"
        rw [dec_int]
        refine iteB (fun hw0 => ?_) (fun hw0 => ?_)
        · walk_at "go"
          intro p6 H6 a6 k6
          rw [c1] at a6
          have h16 := k6.tup _ _ h15
          walk_at "go"
          intro p7 H7 a7 k7
          rw [c2] at a7
          have a67 := k7.tup _ _ a6
          walk_at "go"
          intro p8 H8 a8 k8
          have K8 := k6.trans (k7.trans k8)
          have t8 := K8.tqAll t5
          exact q (.ref p8) _ H8 (m + 1 + 1 + 1) (mq_tup a8 ((t8.take j).append (t8.drop (j + 1)))) b0 (by omega) (by omega) (D5.kp0 K8) (k25.step0 K8)
        walk_at "go"
        rw [dec_int]
        refine iteB (fun hw1 => ?_) (fun hw1 => ?_)
        · walk_at "go"
          intro p6 H6 a6 k6
          rw [c1] at a6
          have h16 := k6.tup _ _ h15
          walk_at "go"
          intro p7 H7 a7 k7
          rw [c3] at a7
          have a67 := k7.tup _ _ a6
          have h17 := k7.tup _ _ h16
          walk_at "go"
          intro p8 H8 a8 k8
          have h18 := k8.tup _ _ h17
          walk_at "go"
          intro p9 H9 a9 k9
          rw [c4] at a9
          have a89 := k9.tup _ _ a8
          walk_at "go"
          intro p10 H10 a10 k10
          have K10 := k6.trans (k7.trans (k8.trans (k9.trans k10)))
          have t10 := K10.tqAll t5
          exact q (.ref p10) _ H10 (m + 1 + 1 + 1) (mq_tup a10 (((t10.take j).append (tqs_cons (K10.tq te5) tqs_nil)).append (t10.drop j))) b1 (by omega) (by omega) (D5.kp0 K10) (k25.step0 K10)
        walk_at "go"
        rw [dec_int]
        refine iteB (fun hw2 => ?_) (fun hw2 => ?_)
        · walk_at "go"
          intro p6 H6 o6 hp6 n6 a6 k6
          exact q (.ref p6) _ H6 (m + 1 + 1 + 1) (mq_lst n6 a6 (k6.tqAll t5)) bent_list (by omega) (by omega) (D5.kp0 k6) (k25.step0 k6)
        have hm4 : m + 1 + 1 + 1 + 3 * (n : Int) ≤ 800000000 := by omega
        have hze : dsz e ≤ 1000000 := by
          have := congrArg dszs ecut
          rw [dszs_app] at this
          simp only [dszs] at this
          omega
        walk_at "go"
        intro p6 H6 a6 k6
        rw [c1] at a6
        have h16 := k6.tup _ _ h15
        have te6 := k6.tq te
        have D6 := D5.kp0 k6
        walk_at "go"
        intro v' d' H7 m7 t7 bt ml7 mu7 D7 k7
        have a67 := k7.tup _ _ a6
        have h17 := k7.tup _ _ h16
        walk_at "go"
        intro p8 H8 hp8 e8
        have k8 := new_kp hp8 e8
        have a8 := new_at e8
        have a68 := k8.tup _ _ a67
        have h18 := k8.tup _ _ h17
        have s5 : (xs.take j).length + [v'].length ≤ sizeLine := sz_le3 (by simp only [List.length_singleton]; omega)
        have s6 : (xs.take j ++ [v']).length + (xs.drop (j + 1)).length ≤ sizeLine := sz_le3 (by rw [List.length_append, List.length_singleton]; omega)
        walk_at "go"
        intro p9 H9 a9 k9
        have h19 := k9.tup _ _ h18
        walk_at "go"
        intro p10 H10 a10 k10
        rw [c2] at a10
        have a910 := k10.tup _ _ a9
        walk_at "go"
        intro p11 H11 a11 k11
        have K8 := k8.trans (k9.trans (k10.trans k11))
        have K11 : Kp [a, c] H H11 := ((k25.step0 k6).trans k7).step0 K8
        have t11 := K11.tqAll h2
        exact q (.ref p11) _ H11 m7 (mq_tup a11 (((t11.take j).append (tqs_cons (K8.tq t7) tqs_nil)).append (t11.drop (j + 1)))) (b4 _ bt) (by omega) (by omega) (D7.kp0 K8) K11
end
section
variable {P : Program} {w : World} {K : PySem.W.Frag} {mg : Str → Option Value} {base : Heap}
theorem ok_is_expressionQ (T : Top K mg) : ∀ n : Nat, FnOk P w K mg base CX0 (n + 2) T.is_expression.f T.is_expression.fd ["value", "left"] (spBoolNQ exprB n)
  | 0 => by
    have G_is_name : FnOk P w K mg base CX0 1 T.is_name.f T.is_name.fd ["value"] (spBoolQ nameB) := ok_is_nameQ T
    have G_is_whole : FnOk P w K mg base CX0 1 T.is_whole.f T.is_whole.fd ["value", "least", "most"] spWholeQ := ok_is_wholeQ T
    have G_is_expression : FnOk P w K mg base CX0 0 T.is_expression.f T.is_expression.fd ["value", "left"] (fun _ _ _ _ => False) := fn_no (fun _ _ _ _ h => h)
    refine T.is_expression.F.ok sc_is_expression (fun vs H Q E h => ?_) (fun cdv A outer s H vs Q E hr h => ?_)
    · obtain ⟨v, d, m, rfl, _⟩ := h
      rfl
    obtain ⟨v, d, m, rfl, rfl, hT, sz, q⟩ := h
    refine ⟨_, (pss_cons (ps_if (pt_cmpR op_eq (pv 1) pe_int (nomark _)) (pss_one (ps_ret pe_bl)) pss_nil)
      (pss_cons (ps_if (pt_not (pt_val (pe_callB (id := "isinstance") (call_isiK (K := K) rfl) (by rfl) T.isinstance (by decide +kernel) (pa_cons (pv 0) (pa_cons (pe_bltn (v := .ty "tuple") (u := .type "tuple") (by rfl) T.tuple (by decide +kernel) rfl) pa_nil))))) (pss_one (ps_ret (pe_or (pe_call G_is_name (hr.mono (by omega)) (by rfl) T.is_name.g T.is_name.F.kp T.is_name.b .nil pass0 (pa_cons (pv 0) pa_nil)) (pe_one (pe_call G_is_whole (hr.mono (by omega)) (by rfl) T.is_whole.g T.is_whole.F.kp T.is_whole.b .nil pass0 (pa_cons (pv 0) (pa_cons (pe_op op_sub pe_int (pe_glob (v := .int 99) (by rfl) T.g_MOST_NUMBER ⟨_, rfl⟩)) (pa_cons (pe_glob (v := .int 99) (by rfl) T.g_MOST_NUMBER ⟨_, rfl⟩) pa_nil)))))))) pss_nil)
      (pss_cons (ps_if (PW.pt (pw_or (pt_cmpR op_ne (pe_callB (id := "len") (call_lenK (K := K) rfl) (by rfl) T.len PySem.boot_len (pa_cons (pv 0) pa_nil)) pe_int (nomark _)) (pw_or (pt_not (pt_val (pe_callB (id := "isinstance") (call_isiK (K := K) rfl) (by rfl) T.isinstance (by decide +kernel) (pa_cons (pe_ix (ix_tupK (K := K) rfl) (pv 0) pe_int (fun _ _ => rfl)) (pa_cons (pe_bltn (v := .ty "str") (u := .type "str") (by rfl) T.str (by decide +kernel) rfl) pa_nil))))) (pw_or1 (pt_not (pt_val (pe_call G_is_expression (hr.mono (by omega)) (by rfl) T.is_expression.g T.is_expression.F.kp T.is_expression.b .nil pass0 (pa_cons (pe_ix (ix_tupK (K := K) rfl) (pv 0) pe_int (fun _ _ => rfl)) (pa_cons (pe_op op_sub (pv 1) pe_int) pa_nil))))))))) (pss_one (ps_ret pe_bl)) pss_nil)
      (pss_cons (ps_if (pt_cmpR op_eq (pe_ix (ix_tupK (K := K) rfl) (pv 0) pe_int (fun _ _ => rfl)) pe_str (nomark _)) (pss_one (ps_ret (pe_call G_is_whole (hr.mono (by omega)) (by rfl) T.is_whole.g T.is_whole.F.kp T.is_whole.b .nil pass0 (pa_cons (pe_ix (ix_tupK (K := K) rfl) (pv 0) pe_int (fun _ _ => rfl)) (pa_cons (pe_op op_sub pe_int (pe_glob (v := .int 9) (by rfl) T.g_MOST_FACTOR ⟨_, rfl⟩)) (pa_cons (pe_glob (v := .int 9) (by rfl) T.g_MOST_FACTOR ⟨_, rfl⟩) pa_nil)))))) pss_nil)
      (pss_one (ps_ret (pe_and (pe_cmpR (op_in_seqK (K := K) rfl) (pe_ix (ix_tupK (K := K) rfl) (pv 0) pe_int (fun _ _ => rfl)) (pe_tupA (pa_cons pe_str (pa_cons pe_str pa_nil))) (by rfl)) (pe_one (pe_call G_is_expression (hr.mono (by omega)) (by rfl) T.is_expression.g T.is_expression.F.kp T.is_expression.b .nil pass0 (pa_cons (pe_ix (ix_tupK (K := K) rfl) (pv 0) pe_int (fun _ _ => rfl)) (pa_cons (pe_op op_sub (pv 1) pe_int) pa_nil))))))))))), ?_⟩
    walk_at "go"
    exact q H Kp.refl
  | n + 1 => by
    have G_is_name : FnOk P w K mg base CX0 1 T.is_name.f T.is_name.fd ["value"] (spBoolQ nameB) := ok_is_nameQ T
    have G_is_whole : FnOk P w K mg base CX0 1 T.is_whole.f T.is_whole.fd ["value", "least", "most"] spWholeQ := ok_is_wholeQ T
    have G_is_expression := ok_is_expressionQ T n
    refine T.is_expression.F.ok sc_is_expression (fun vs H Q E h => ?_) (fun cdv A outer s H vs Q E hr h => ?_)
    · obtain ⟨v, d, m, rfl, _⟩ := h
      rfl
    obtain ⟨v, d, m, rfl, hm, hT, sz, q⟩ := h
    refine ⟨_, (pss_cons (ps_if (pt_cmpR op_eq (pv 1) pe_int (nomark _)) (pss_one (ps_ret pe_bl)) pss_nil)
      (pss_cons (ps_if (pt_not (pt_val (pe_callB (id := "isinstance") (call_isiK (K := K) rfl) (by rfl) T.isinstance (by decide +kernel) (pa_cons (pv 0) (pa_cons (pe_bltn (v := .ty "tuple") (u := .type "tuple") (by rfl) T.tuple (by decide +kernel) rfl) pa_nil))))) (pss_one (ps_ret (pe_or (pe_call G_is_name (hr.mono (by omega)) (by rfl) T.is_name.g T.is_name.F.kp T.is_name.b .nil pass0 (pa_cons (pv 0) pa_nil)) (pe_one (pe_call G_is_whole (hr.mono (by omega)) (by rfl) T.is_whole.g T.is_whole.F.kp T.is_whole.b .nil pass0 (pa_cons (pv 0) (pa_cons (pe_op op_sub pe_int (pe_glob (v := .int 99) (by rfl) T.g_MOST_NUMBER ⟨_, rfl⟩)) (pa_cons (pe_glob (v := .int 99) (by rfl) T.g_MOST_NUMBER ⟨_, rfl⟩) pa_nil)))))))) pss_nil)
      (pss_cons (ps_if (PW.pt (pw_or (pt_cmpR op_ne (pe_callB (id := "len") (call_lenK (K := K) rfl) (by rfl) T.len PySem.boot_len (pa_cons (pv 0) pa_nil)) pe_int (nomark _)) (pw_or (pt_not (pt_val (pe_callB (id := "isinstance") (call_isiK (K := K) rfl) (by rfl) T.isinstance (by decide +kernel) (pa_cons (pe_ix (ix_tupK (K := K) rfl) (pv 0) pe_int (fun _ _ => rfl)) (pa_cons (pe_bltn (v := .ty "str") (u := .type "str") (by rfl) T.str (by decide +kernel) rfl) pa_nil))))) (pw_or1 (pt_not (pt_val (pe_call G_is_expression (hr.mono (by omega)) (by rfl) T.is_expression.g T.is_expression.F.kp T.is_expression.b .nil pass0 (pa_cons (pe_ix (ix_tupK (K := K) rfl) (pv 0) pe_int (fun _ _ => rfl)) (pa_cons (pe_op op_sub (pv 1) pe_int) pa_nil))))))))) (pss_one (ps_ret pe_bl)) pss_nil)
      (pss_cons (ps_if (pt_cmpR op_eq (pe_ix (ix_tupK (K := K) rfl) (pv 0) pe_int (fun _ _ => rfl)) pe_str (nomark _)) (pss_one (ps_ret (pe_call G_is_whole (hr.mono (by omega)) (by rfl) T.is_whole.g T.is_whole.F.kp T.is_whole.b .nil pass0 (pa_cons (pe_ix (ix_tupK (K := K) rfl) (pv 0) pe_int (fun _ _ => rfl)) (pa_cons (pe_op op_sub pe_int (pe_glob (v := .int 9) (by rfl) T.g_MOST_FACTOR ⟨_, rfl⟩)) (pa_cons (pe_glob (v := .int 9) (by rfl) T.g_MOST_FACTOR ⟨_, rfl⟩) pa_nil)))))) pss_nil)
      (pss_one (ps_ret (pe_and (pe_cmpR (op_in_seqK (K := K) rfl) (pe_ix (ix_tupK (K := K) rfl) (pv 0) pe_int (fun _ _ => rfl)) (pe_tupA (pa_cons pe_str (pa_cons pe_str pa_nil))) (by rfl)) (pe_one (pe_call G_is_expression (hr.mono (by omega)) (by rfl) T.is_expression.g T.is_expression.F.kp T.is_expression.b .nil pass0 (pa_cons (pe_ix (ix_tupK (K := K) rfl) (pv 0) pe_int (fun _ _ => rfl)) (pa_cons (pe_op op_sub (pv 1) pe_int) pa_nil))))))))))), ?_⟩
    have z0 : decide (V.int m = V.int 0) = false := by
      rw [dec_int]
      exact decide_eq_false (by omega)
    walk_at "go"
    rw [z0]
    refine iteF ?_
    cases d with
    | none =>
      have hv := hT
      simp only [Tq] at hv
      subst hv
      walk_at "go"
      intro H1 k1
      have q1 : Q (.bl (nameB _ || wholeB (-99) 99 _)) H1 := q H1 k1
      have t1 := k1.tq hT
      refine ⟨_, rfl, iteB (fun hb => ?_) (fun hb => ?_)⟩
      · rw [hb] at q1
        exact q1
      · rw [hb] at q1
        walk_at "go"
        exact q1
    | bool b =>
      have hv := hT
      simp only [Tq] at hv
      subst hv
      walk_at "go"
      intro H1 k1
      have q1 : Q (.bl (nameB _ || wholeB (-99) 99 _)) H1 := q H1 k1
      have t1 := k1.tq hT
      refine ⟨_, rfl, iteB (fun hb => ?_) (fun hb => ?_)⟩
      · rw [hb] at q1
        exact q1
      · rw [hb] at q1
        walk_at "go"
        exact q1
    | int b =>
      have hv := hT
      simp only [Tq] at hv
      subst hv
      walk_at "go"
      intro H1 k1
      have q1 : Q (.bl (nameB _ || wholeB (-99) 99 _)) H1 := q H1 k1
      have t1 := k1.tq hT
      refine ⟨_, rfl, iteB (fun hb => ?_) (fun hb => ?_)⟩
      · rw [hb] at q1
        exact q1
      · rw [hb] at q1
        walk_at "go"
        exact q1
    | str z =>
      have hv := hT
      simp only [Tq] at hv
      subst hv
      walk_at "go"
      intro H1 k1
      have q1 : Q (.bl (nameB _ || wholeB (-99) 99 _)) H1 := q H1 k1
      have t1 := k1.tq hT
      refine ⟨_, rfl, iteB (fun hb => ?_) (fun hb => ?_)⟩
      · rw [hb] at q1
        exact q1
      · rw [hb] at q1
        walk_at "go"
        exact q1
    | list ds =>
      have hv := hT
      obtain ⟨_, _, _, rfl, _, g1, g2⟩ := tq_lst hv
      walk_at "go"
      intro H1 k1
      have q1 : Q (.bl (nameB _ || wholeB (-99) 99 _)) H1 := q H1 k1
      have t1 := k1.tq hT
      refine ⟨_, rfl, iteB (fun hb => ?_) (fun hb => ?_)⟩
      · rw [hb] at q1
        exact q1
      · rw [hb] at q1
        walk_at "go"
        exact q1
    | dict ds =>
      have hv := hT
      obtain ⟨_, _, _, rfl, _, g1⟩ := tq_dct hv
      walk_at "go"
      intro H1 k1
      have q1 : Q (.bl (nameB _ || wholeB (-99) 99 _)) H1 := q H1 k1
      have t1 := k1.tq hT
      refine ⟨_, rfl, iteB (fun hb => ?_) (fun hb => ?_)⟩
      · rw [hb] at q1
        exact q1
      · rw [hb] at q1
        walk_at "go"
        exact q1
    | tuple ds =>
      obtain ⟨a, xs, rfl, h1, h2⟩ := tq_tup hT
      have ln := h2.length
      simp only [Szd] at sz
      walk_at "go"
      by_cases l3 : ds.length = 3
      · obtain ⟨d1, d2, d3, rfl⟩ : ∃ d1 d2 d3, ds = [d1, d2, d3] := by
          match ds, l3 with
          | [d1, d2, d3], _ => exact ⟨d1, d2, d3, rfl⟩
        simp only [TqAll] at h2
        obtain ⟨x1, _, rfl, t1, x2, _, rfl, t2, x3, _, rfl, t3, rfl⟩ := h2
        simp only [Szds] at sz
        obtain ⟨s1, s2, s3, _⟩ := sz
        cases d1 with
        | none => simp only [Tq] at t1; subst t1; walk_at "go"; exact q H Kp.refl
        | bool b => simp only [Tq] at t1; subst t1; walk_at "go"; exact q H Kp.refl
        | int b => simp only [Tq] at t1; subst t1; walk_at "go"; exact q H Kp.refl
        | tuple ds =>
          obtain ⟨a2, xs2, rfl, g1, g2⟩ := tq_tup t1
          walk_at "go"
          exact q H Kp.refl
        | list ds =>
          obtain ⟨_, _, _, rfl, _, g1, g2⟩ := tq_lst t1
          walk_at "go"
          exact q H Kp.refl
        | dict ds =>
          obtain ⟨_, _, _, rfl, _, g1⟩ := tq_dct t1
          walk_at "go"
          exact q H Kp.refl
        | str k =>
          cases tq_str t1
          replace q : ∀ H', Kp [] H H' → Q (.bl (exprB n d3 && (if k = "times" then wholeB (-9) 9 d2 else inV (.str k) [.str "plus", .str "minus"] && exprB n d2))) H' := q
          walk_at "go"
          intro H1 k1
          have h11 := k1.tup _ _ h1
          have t21 := k1.tq t2
          refine ⟨_, rfl, iteB (fun hb => ?_) (fun hb => ?_)⟩
          · replace hb := PyProof.Rows.false_of_not_true hb
            have q1 := q H1 k1
            rw [hb] at q1
            walk_at "go"
            exact q1
          · replace hb := PyProof.Rows.true_of_not_false hb
            rw [hb] at q
            walk_at "go"
            rw [dec_str]
            refine iteB (fun hk => ?_) (fun hk => ?_)
            · have hk := of_decide_eq_true hk
              rw [if_pos hk] at q
              walk_at "go"
              exact q H1 k1
            · have hk := of_decide_eq_false hk
              rw [if_neg hk] at q
              walk_at "go"
              intro u2 H2 hu2 e2
              have k2 := new_kp hu2 e2
              have a2 := new_at e2
              have t22 := k2.tq t21
              have h12 := k2.tup _ _ h11
              refine ⟨u2, _, rfl, .inr (SqT.of a2), rfl, rfl, _, rfl, ?_⟩
              refine iteB (fun hi => ?_) (fun hi => ?_)
              · replace hi : inV (.str k) [.str "plus", .str "minus"] = true := hi
                rw [hi] at q
                walk_at "go"
                intro H3 k3
                exact q H3 ((k1.step0 k2).step0 k3)
              · replace hi : inV (.str k) [.str "plus", .str "minus"] = false := hi
                rw [hi] at q
                exact q H2 (k1.step0 k2)
      · have e3 : decide (V.int (xs.length : Int) = V.int 3) = false := dec_len (n := 3) (by omega)
        rw [e3]
        refine iteT ?_
        have ef : exprB (n + 1) (.tuple ds) = false := by
          unfold exprB
          split <;> simp_all
        walk_at "go"
        have q1 := q H Kp.refl
        rw [ef] at q1
        exact q1
end
section
variable {P : Program} {w : World} {K : PySem.W.Frag} {mg : Str → Option Value} {base : Heap}
theorem ok_is_testQ (T : Top K mg) : ∀ n : Nat, FnOk P w K mg base CX0 (n + 6) T.is_test.f T.is_test.fd ["value", "nots"] (spBoolNQ testB n)
  | n => by
    have G_is_expression : FnOk P w K mg base CX0 5 T.is_expression.f T.is_expression.fd ["value", "left"] (spBoolNQ exprB 3) := ok_is_expressionQ T 3
    have G_is_test : FnOk P w K mg base CX0 (n + 5) T.is_test.f T.is_test.fd ["value", "nots"] (sp0 (spBoolNQ testB) n) := by
      cases n with
      | zero => exact fn_no (fun _ _ _ _ h => h)
      | succ m => exact ok_is_testQ T m
    refine T.is_test.F.ok sc_is_test (fun vs H Q E h => ?_) (fun cdv A outer s H vs Q E hr h => ?_)
    · obtain ⟨v, d, m, rfl, _⟩ := h
      rfl
    obtain ⟨v, d, m, rfl, hm, hT, sz, q⟩ := h
    refine ⟨_, (pss_cons (ps_if (PW.pt (pw_or (pt_not (pt_val (pe_callB (id := "isinstance") (call_isiK (K := K) rfl) (by rfl) T.isinstance (by decide +kernel) (pa_cons (pv 0) (pa_cons (pe_bltn (v := .ty "tuple") (u := .type "tuple") (by rfl) T.tuple (by decide +kernel) rfl) pa_nil))))) (pw_or (pt_not (pt_chain op_le op_le pe_int (pe_callB (id := "len") (call_lenK (K := K) rfl) (by rfl) T.len PySem.boot_len (pa_cons (pv 0) pa_nil)) pe_int)) (pw_or1 (pt_not (pt_val (pe_callB (id := "isinstance") (call_isiK (K := K) rfl) (by rfl) T.isinstance (by decide +kernel) (pa_cons (pe_ix (ix_tupK (K := K) rfl) (pv 0) pe_int (fun _ _ => rfl)) (pa_cons (pe_bltn (v := .ty "str") (u := .type "str") (by rfl) T.str (by decide +kernel) rfl) pa_nil))))))))) (pss_one (ps_ret pe_bl)) pss_nil)
      (pss_cons (ps_if (pt_cmpR op_eq (pe_ix (ix_tupK (K := K) rfl) (pv 0) pe_int (fun _ _ => rfl)) pe_str (nomark _)) (pss_one (ps_ret (pe_and (pe_cmpR op_eq (pe_callB (id := "len") (call_lenK (K := K) rfl) (by rfl) T.len PySem.boot_len (pa_cons (pv 0) pa_nil)) pe_int (nomark _)) (pe_and (pe_call G_is_expression (hr.mono (by omega)) (by rfl) T.is_expression.g T.is_expression.F.kp T.is_expression.b .nil pass0 (pa_cons (pe_ix (ix_tupK (K := K) rfl) (pv 0) pe_int (fun _ _ => rfl)) (pa_cons (pe_glob (v := .int 3) (by rfl) T.g_MAX_DEEP ⟨_, rfl⟩) pa_nil))) (pe_one (pe_call G_is_expression (hr.mono (by omega)) (by rfl) T.is_expression.g T.is_expression.F.kp T.is_expression.b .nil pass0 (pa_cons (pe_ix (ix_tupK (K := K) rfl) (pv 0) pe_int (fun _ _ => rfl)) (pa_cons (pe_glob (v := .int 3) (by rfl) T.g_MAX_DEEP ⟨_, rfl⟩) pa_nil)))))))) pss_nil)
      (pss_cons (ps_if (pt_cmpR op_eq (pe_ix (ix_tupK (K := K) rfl) (pv 0) pe_int (fun _ _ => rfl)) pe_str (nomark _)) (pss_one (ps_ret (pe_and (pe_cmpR op_eq (pe_callB (id := "len") (call_lenK (K := K) rfl) (by rfl) T.len PySem.boot_len (pa_cons (pv 0) pa_nil)) pe_int (nomark _)) (pe_one (pe_call G_is_expression (hr.mono (by omega)) (by rfl) T.is_expression.g T.is_expression.F.kp T.is_expression.b .nil pass0 (pa_cons (pe_ix (ix_tupK (K := K) rfl) (pv 0) pe_int (fun _ _ => rfl)) (pa_cons (pe_glob (v := .int 3) (by rfl) T.g_MAX_DEEP ⟨_, rfl⟩) pa_nil))))))) pss_nil)
      (pss_one (ps_ret (pe_and (pe_cmpR op_eq (pe_ix (ix_tupK (K := K) rfl) (pv 0) pe_int (fun _ _ => rfl)) pe_str (nomark _)) (pe_and (pe_cmpR op_eq (pe_callB (id := "len") (call_lenK (K := K) rfl) (by rfl) T.len PySem.boot_len (pa_cons (pv 0) pa_nil)) pe_int (nomark _)) (pe_and (pe_cmpR op_gt (pv 1) pe_int (nomark _)) (pe_one (pe_call G_is_test (hr.mono (by omega)) (by rfl) T.is_test.g T.is_test.F.kp T.is_test.b .nil pass0 (pa_cons (pe_ix (ix_tupK (K := K) rfl) (pv 0) pe_int (fun _ _ => rfl)) (pa_cons (pe_op op_sub (pv 1) pe_int) pa_nil)))))))))))), ?_⟩
    cases d with
    | none =>
      simp only [Tq] at hT
      subst hT
      have ef : testB n (.none) = false := by (unfold testB; cases n <;> rfl)
      rw [ef] at q
      walk_at "go"
      exact q H Kp.refl
    | bool b =>
      simp only [Tq] at hT
      subst hT
      have ef : testB n (.bool b) = false := by (unfold testB; cases n <;> rfl)
      rw [ef] at q
      walk_at "go"
      exact q H Kp.refl
    | int b =>
      simp only [Tq] at hT
      subst hT
      have ef : testB n (.int b) = false := by (unfold testB; cases n <;> rfl)
      rw [ef] at q
      walk_at "go"
      exact q H Kp.refl
    | str b =>
      simp only [Tq] at hT
      subst hT
      have ef : testB n (.str b) = false := by (unfold testB; cases n <;> rfl)
      rw [ef] at q
      walk_at "go"
      exact q H Kp.refl
    | list ds =>
      obtain ⟨_, _, _, rfl, _, g1, g2⟩ := tq_lst hT
      have ef : testB n (.list ds) = false := by (unfold testB; cases n <;> rfl)
      rw [ef] at q
      walk_at "go"
      exact q H Kp.refl
    | dict ds =>
      obtain ⟨_, _, _, rfl, _, g1⟩ := tq_dct hT
      have ef : testB n (.dict ds) = false := by (unfold testB; cases n <;> rfl)
      rw [ef] at q
      walk_at "go"
      exact q H Kp.refl
    | tuple ds =>
      obtain ⟨a, xs, rfl, h1, h2⟩ := tq_tup hT
      have ln := h2.length
      simp only [Szd] at sz
      rcases ds with _ | ⟨d1, _ | ⟨d2, _ | ⟨d3, _ | ⟨d4, r⟩⟩⟩⟩
      · simp only [TqAll] at h2
        subst h2
        have ef : testB n (.tuple []) = false := by (unfold testB; cases n <;> rfl)
        rw [ef] at q
        walk_at "go"
        exact q H Kp.refl
      · simp only [TqAll] at h2
        obtain ⟨x1, _, rfl, t1, rfl⟩ := h2
        have ef : testB n (.tuple [d1]) = false := by
          unfold testB
          split <;> simp_all
        rw [ef] at q
        walk_at "go"
        exact q H Kp.refl
      · simp only [TqAll] at h2
        obtain ⟨x1, _, rfl, t1, x2, _, rfl, t2, rfl⟩ := h2
        simp only [Szds] at sz
        obtain ⟨s1, s2, _⟩ := sz
        cases d1 with
        | none =>
          simp only [Tq] at t1
          subst t1
          have ef : testB n (.tuple [.none, d2]) = false := by (unfold testB; cases n <;> rfl)
          rw [ef] at q
          walk_at "go"
          exact q H Kp.refl
        | bool b =>
          simp only [Tq] at t1
          subst t1
          have ef : testB n (.tuple [.bool b, d2]) = false := by (unfold testB; cases n <;> rfl)
          rw [ef] at q
          walk_at "go"
          exact q H Kp.refl
        | int b =>
          simp only [Tq] at t1
          subst t1
          have ef : testB n (.tuple [.int b, d2]) = false := by (unfold testB; cases n <;> rfl)
          rw [ef] at q
          walk_at "go"
          exact q H Kp.refl
        | tuple ds =>
          obtain ⟨a2, xs2, rfl, g1, g2⟩ := tq_tup t1
          have ef : testB n (.tuple [.tuple ds, d2]) = false := by (unfold testB; cases n <;> rfl)
          rw [ef] at q
          walk_at "go"
          exact q H Kp.refl
        | list ds =>
          obtain ⟨_, _, _, rfl, _, g1, g2⟩ := tq_lst t1
          have ef : testB n (.tuple [.list ds, d2]) = false := by (unfold testB; cases n <;> rfl)
          rw [ef] at q
          walk_at "go"
          exact q H Kp.refl
        | dict ds =>
          obtain ⟨_, _, _, rfl, _, g1⟩ := tq_dct t1
          have ef : testB n (.tuple [.dict ds, d2]) = false := by (unfold testB; cases n <;> rfl)
          rw [ef] at q
          walk_at "go"
          exact q H Kp.refl
        | str k =>
          cases tq_str t1
          have eq2 : testB n (.tuple [.str k, d2]) = (if k = "less" then false else if k = "odd" then exprB 3 d2 else decide (k = "not") && decide (0 < n) && testB (n - 1) d2) := by
            have nl : ¬ (("less" : Str) = "odd") := by decide +kernel
            have nl2 : ¬ (("less" : Str) = "not") := by decide +kernel
            cases n with
            | zero =>
              show (decide (k = "odd") && exprB 3 d2) = _
              by_cases k1 : k = "less"
              · subst k1; rw [if_pos rfl, decide_eq_false nl]; rfl
              · rw [if_neg k1]
                by_cases k2 : k = "odd"
                · rw [if_pos k2, decide_eq_true k2]; rfl
                · rw [if_neg k2, decide_eq_false k2]; simp
            | succ m =>
              show (if k = "odd" then exprB 3 d2 else decide (k = "not") && testB m d2) = _
              by_cases k1 : k = "less"
              · subst k1; rw [if_pos rfl, if_neg nl, decide_eq_false nl2]; rfl
              · rw [if_neg k1]
                by_cases k2 : k = "odd"
                · rw [if_pos k2, if_pos k2]
                · rw [if_neg k2, if_neg k2]
                  simp
          rw [eq2] at q
          walk_at "go"
          rw [dec_str]
          refine iteB (fun hk => ?_) (fun hk => ?_)
          · have hk := of_decide_eq_true hk
            rw [if_pos hk] at q
            walk_at "go"
            exact q H Kp.refl
          · have hk := of_decide_eq_false hk
            rw [if_neg hk] at q
            walk_at "go"
            rw [dec_str]
            refine iteB (fun hk2 => ?_) (fun hk2 => ?_)
            · have hk2 := of_decide_eq_true hk2
              rw [if_pos hk2] at q
              walk_at "go"
              exact q
            · have hk2 := of_decide_eq_false hk2
              rw [if_neg hk2] at q
              walk_at "go"
              rw [dec_str]
              refine iteB (fun hk3 => ?_) (fun hk3 => ?_)
              · rw [hk3] at q
                walk_at "go"
                refine iteB (fun hn => ?_) (fun hn => ?_)
                · have hn := of_decide_eq_true hn
                  obtain ⟨j, rfl⟩ : ∃ j, n = j + 1 := ⟨n - 1, by omega⟩
                  rw [decide_eq_true (show 0 < j + 1 by omega)] at q
                  walk_at "go"
                  exact q
                · have hn := of_decide_eq_false hn
                  rw [decide_eq_false (show ¬ 0 < n by omega)] at q
                  exact q H Kp.refl
              · rw [hk3] at q
                exact q H Kp.refl
      · simp only [TqAll] at h2
        obtain ⟨x1, _, rfl, t1, x2, _, rfl, t2, x3, _, rfl, t3, rfl⟩ := h2
        simp only [Szds] at sz
        obtain ⟨s1, s2, s3, _⟩ := sz
        have ef : ∀ k, testB n (.tuple [.str k, d2, d3]) = (decide (k = "less") && exprB 3 d2 && exprB 3 d3) := fun k => by unfold testB; rfl
        cases d1 with
        | none =>
          simp only [Tq] at t1
          subst t1
          have ef : testB n (.tuple [.none, d2, d3]) = false := by (unfold testB; rfl)
          rw [ef] at q
          walk_at "go"
          exact q H Kp.refl
        | bool b =>
          simp only [Tq] at t1
          subst t1
          have ef : testB n (.tuple [.bool b, d2, d3]) = false := by (unfold testB; rfl)
          rw [ef] at q
          walk_at "go"
          exact q H Kp.refl
        | int b =>
          simp only [Tq] at t1
          subst t1
          have ef : testB n (.tuple [.int b, d2, d3]) = false := by (unfold testB; rfl)
          rw [ef] at q
          walk_at "go"
          exact q H Kp.refl
        | tuple ds =>
          obtain ⟨a2, xs2, rfl, g1, g2⟩ := tq_tup t1
          have ef : testB n (.tuple [.tuple ds, d2, d3]) = false := by (unfold testB; rfl)
          rw [ef] at q
          walk_at "go"
          exact q H Kp.refl
        | list ds =>
          obtain ⟨_, _, _, rfl, _, g1, g2⟩ := tq_lst t1
          have ef : testB n (.tuple [.list ds, d2, d3]) = false := by (unfold testB; rfl)
          rw [ef] at q
          walk_at "go"
          exact q H Kp.refl
        | dict ds =>
          obtain ⟨_, _, _, rfl, _, g1⟩ := tq_dct t1
          have ef : testB n (.tuple [.dict ds, d2, d3]) = false := by (unfold testB; rfl)
          rw [ef] at q
          walk_at "go"
          exact q H Kp.refl
        | str k =>
          cases tq_str t1
          rw [ef] at q
          walk_at "go"
          rw [dec_str]
          refine iteB (fun hk => ?_) (fun hk => ?_)
          · rw [hk] at q
            walk_at "go"
            intro H1 k1
            have h11 := k1.tup _ _ h1
            have t31 := k1.tq t3
            refine ⟨_, rfl, iteB (fun hb => ?_) (fun hb => ?_)⟩
            · rw [hb] at q
              walk_at "go"
              intro H2 k2
              exact q H2 (k1.step0 k2)
            · rw [hb] at q
              exact q H1 k1
          · rw [hk] at q
            walk_at "go"
            rw [dec_str]
            refine iteB (fun hk2 => ?_) (fun hk2 => ?_)
            · walk_at "go"
              exact q H Kp.refl
            · walk_at "go"
              rw [dec_str]
              refine iteB (fun hk3 => ?_) (fun hk3 => ?_)
              · walk_at "go"
                exact q H Kp.refl
              · exact q H Kp.refl
      · simp only [TqAll] at h2
        obtain ⟨x1, _, rfl, t1, x2, _, rfl, t2, x3, _, rfl, t3, x4, xr, rfl, t4, tr⟩ := h2
        have ef : testB n (.tuple (d1 :: d2 :: d3 :: d4 :: r)) = false := by
          unfold testB
          split <;> simp_all
        rw [ef] at q
        have c1 : decide ((2 : Int) ≤ ((x1 :: x2 :: x3 :: x4 :: xr).length : Int)) = true := decide_eq_true (by simp only [List.length_cons]; omega)
        have c2 : decide (((x1 :: x2 :: x3 :: x4 :: xr).length : Int) ≤ 3) = false := decide_eq_false (by simp only [List.length_cons]; omega)
        walk_at "go"
        rw [c1]
        refine iteT ?_
        walk_at "go"
        rw [c2]
        refine iteT ?_
        walk_at "go"
        exact q H Kp.refl
end
section
variable {P : Program} {w : World} {K : PySem.W.Frag} {mg : Str → Option Value} {base : Heap}
theorem ok_is_plainQ (T : Top K mg) {k : Nat} : FnOk P w K mg base CX0 (k + 6) T.is_plain.f T.is_plain.fd ["value"] (spStmtQ plainB) := by
  have G_is_expression : FnOk P w K mg base CX0 5 T.is_expression.f T.is_expression.fd ["value", "left"] (spBoolNQ exprB 3) := ok_is_expressionQ T 3
  have G_is_name : FnOk P w K mg base CX0 1 T.is_name.f T.is_name.fd ["value"] (spBoolQ nameB) := ok_is_nameQ T
  have G_is_word : FnOk P w K mg base CX0 1 T.is_word.f T.is_word.fd ["value"] (spBoolQ wordB) := ok_is_wordQ T
  refine T.is_plain.F.ok sc_is_plain (fun vs H Q E h => ?_) (fun cdv A outer s H vs Q E hr h => ?_)
  · obtain ⟨v, k, ds, rfl, _⟩ := h
    rfl
  obtain ⟨v, k, ds, rfl, hT, sz, q⟩ := h
  refine ⟨_, (pss_cons (ps_if (pt_cmpR (op_in_seqK (K := K) rfl) (pe_ix (ix_tupK (K := K) rfl) (pv 0) pe_int (fun _ _ => rfl)) (pe_tupA (pa_cons pe_str (pa_cons pe_str pa_nil))) (by rfl)) (pss_one (ps_ret (pe_and (pe_cmpR op_eq (pe_callB (id := "len") (call_lenK (K := K) rfl) (by rfl) T.len PySem.boot_len (pa_cons (pv 0) pa_nil)) pe_int (nomark _)) (pe_and (pe_call G_is_name (hr.mono (by omega)) (by rfl) T.is_name.g T.is_name.F.kp T.is_name.b .nil pass0 (pa_cons (pe_ix (ix_tupK (K := K) rfl) (pv 0) pe_int (fun _ _ => rfl)) pa_nil)) (pe_one (pe_call G_is_expression (hr.mono (by omega)) (by rfl) T.is_expression.g T.is_expression.F.kp T.is_expression.b .nil pass0 (pa_cons (pe_ix (ix_tupK (K := K) rfl) (pv 0) pe_int (fun _ _ => rfl)) (pa_cons (pe_glob (v := .int 3) (by rfl) T.g_MAX_DEEP ⟨_, rfl⟩) pa_nil)))))))) pss_nil)
      (pss_cons (ps_if (pt_cmpR op_eq (pe_ix (ix_tupK (K := K) rfl) (pv 0) pe_int (fun _ _ => rfl)) pe_str (nomark _)) (pss_one (ps_ret (pe_and (pe_cmpR op_eq (pe_callB (id := "len") (call_lenK (K := K) rfl) (by rfl) T.len PySem.boot_len (pa_cons (pv 0) pa_nil)) pe_int (nomark _)) (pe_one (pe_call G_is_expression (hr.mono (by omega)) (by rfl) T.is_expression.g T.is_expression.F.kp T.is_expression.b .nil pass0 (pa_cons (pe_ix (ix_tupK (K := K) rfl) (pv 0) pe_int (fun _ _ => rfl)) (pa_cons (pe_glob (v := .int 3) (by rfl) T.g_MAX_DEEP ⟨_, rfl⟩) pa_nil))))))) pss_nil)
      (pss_one (ps_ret (pe_and (pe_cmpR (op_in_seqK (K := K) rfl) (pe_ix (ix_tupK (K := K) rfl) (pv 0) pe_int (fun _ _ => rfl)) (pe_tupA (pa_cons pe_str (pa_cons pe_str pa_nil))) (by rfl)) (pe_and (pe_cmpR op_eq (pe_callB (id := "len") (call_lenK (K := K) rfl) (by rfl) T.len PySem.boot_len (pa_cons (pv 0) pa_nil)) pe_int (nomark _)) (pe_one (pe_call G_is_word (hr.mono (by omega)) (by rfl) T.is_word.g T.is_word.F.kp T.is_word.b .nil pass0 (pa_cons (pe_ix (ix_tupK (K := K) rfl) (pv 0) pe_int (fun _ _ => rfl)) pa_nil))))))))), ?_⟩
  obtain ⟨a, xs, rfl, h1, h2⟩ := tq_tup hT
  simp only [TqAll] at h2
  obtain ⟨x1, xs, rfl, t1, h2⟩ := h2
  cases tq_str t1
  have ln := h2.length
  walk_at "go"
  intro u2 H2 hu2 e2
  have k2 := new_kp hu2 e2
  have a2 := new_at e2
  have h12 := k2.tup _ _ h1
  have hs2 := k2.tqAll h2
  refine ⟨u2, _, rfl, .inr (SqT.of a2), rfl, rfl, _, rfl, ?_⟩
  refine iteB (fun hi => ?_) (fun hi => ?_)
  · replace hi : inV (.str k) [.str "set", .str "half"] = true := hi
    by_cases l3 : ds.length = 2
    · obtain ⟨d2, d3, rfl⟩ : ∃ d2 d3, ds = [d2, d3] := by
        match ds, l3 with
        | [d2, d3], _ => exact ⟨d2, d3, rfl⟩
      simp only [TqAll] at hs2
      obtain ⟨x2, _, rfl, t2, x3, _, rfl, t3, rfl⟩ := hs2
      simp only [Szds] at sz
      obtain ⟨s2, s3, _⟩ := sz
      replace q : ∀ H', Kp [] H H' → Q (.bl (inV (.str k) [.str "set", .str "half"] && nameB d2 && exprB 3 d3)) H' := q
      rw [hi] at q
      walk_at "go"
      intro H3 k3
      have h13 := k3.tup _ _ h12
      have t33 := k3.tq t3
      refine ⟨_, rfl, iteB (fun hb => ?_) (fun hb => ?_)⟩
      · rw [hb] at q
        walk_at "go"
        intro H4 k4
        exact q H4 ((k2.step0 k3).step0 k4)
      · rw [hb] at q
        exact q H3 (k2.step0 k3)
    · have e3 : decide (V.int (((V.str k) :: xs).length : Int) = V.int 3) = false := dec_len (n := 3) (by rw [List.length_cons]; omega)
      have ef : plainB (.tuple (.str k :: ds)) = false := by
        rcases ds with _ | ⟨d2, _ | ⟨d3, r⟩⟩
        · rfl
        · show (if k = "tell" then exprB 3 d2 else inV (.str k) [.str "say", .str "stop"] && wordB d2) = false
          have n1 : inV (.str "tell") [.str "set", .str "half"] = false := by decide +kernel
          have n2 : k ≠ "tell" := by
            rintro rfl
            rw [n1] at hi
            cases hi
          rw [if_neg n2]
          have hi2 : inV (.str k) [.str "say", .str "stop"] = false := by
            cases e : inV (.str k) [.str "say", .str "stop"] with
            | false => rfl
            | true =>
              exfalso
              have f1 := in2 hi
              have f2 := in2 e
              rcases f1 with rfl | rfl <;> rcases f2 with f2 | f2 <;> revert f2 <;> decide +kernel
          rw [hi2]
          rfl
        · rcases r with _ | ⟨d4, r⟩
          · exact absurd rfl l3
          · rfl
      rw [ef] at q
      walk_at "go"
      rw [e3]
      exact q H2 k2
  · replace hi : inV (.str k) [.str "set", .str "half"] = false := hi
    walk_at "go"
    rw [dec_str]
    refine iteB (fun hk => ?_) (fun hk => ?_)
    · have hk := of_decide_eq_true hk
      by_cases l2 : ds.length = 1
      · obtain ⟨d2, rfl⟩ : ∃ d2, ds = [d2] := by
          match ds, l2 with
          | [d2], _ => exact ⟨d2, rfl⟩
        simp only [TqAll] at hs2
        obtain ⟨x2, _, rfl, t2, rfl⟩ := hs2
        simp only [Szds] at sz
        obtain ⟨s2, _⟩ := sz
        replace q : ∀ H', Kp [] H H' → Q (.bl (if k = "tell" then exprB 3 d2 else inV (.str k) [.str "say", .str "stop"] && wordB d2)) H' := q
        rw [if_pos hk] at q
        walk_at "go"
        intro H3 k3
        exact q H3 (k2.step0 k3)
      · have e3 : decide (V.int (((V.str k) :: xs).length : Int) = V.int 2) = false := dec_len (n := 2) (by rw [List.length_cons]; omega)
        have ef : plainB (.tuple (.str k :: ds)) = false := by
          rcases ds with _ | ⟨d2, _ | ⟨d3, _ | ⟨d4, r⟩⟩⟩
          · rfl
          · exact absurd rfl l2
          · show (inV (.str k) [.str "set", .str "half"] && nameB d2 && exprB 3 d3) = false
            rw [hi]
            rfl
          · rfl
        rw [ef] at q
        walk_at "go"
        rw [e3]
        exact q H2 k2
    · have hk := of_decide_eq_false hk
      walk_at "go"
      intro u3 H3 hu3 e3
      have k3 := new_kp hu3 e3
      have a3 := new_at e3
      have h13 := k3.tup _ _ h12
      have hs3 := k3.tqAll hs2
      refine ⟨u3, _, rfl, .inr (SqT.of a3), rfl, rfl, _, rfl, ?_⟩
      refine iteB (fun hj => ?_) (fun hj => ?_)
      · replace hj : inV (.str k) [.str "say", .str "stop"] = true := hj
        by_cases l2 : ds.length = 1
        · obtain ⟨d2, rfl⟩ : ∃ d2, ds = [d2] := by
            match ds, l2 with
            | [d2], _ => exact ⟨d2, rfl⟩
          simp only [TqAll] at hs3
          obtain ⟨x2, _, rfl, t2, rfl⟩ := hs3
          simp only [Szds] at sz
          obtain ⟨s2, _⟩ := sz
          replace q : ∀ H', Kp [] H H' → Q (.bl (if k = "tell" then exprB 3 d2 else inV (.str k) [.str "say", .str "stop"] && wordB d2)) H' := q
          rw [if_neg hk, hj] at q
          walk_at "go"
          intro H4 k4
          exact q H4 ((k2.step0 k3).step0 k4)
        · have e3 : decide (V.int (((V.str k) :: xs).length : Int) = V.int 2) = false := dec_len (n := 2) (by rw [List.length_cons]; omega)
          have ef : plainB (.tuple (.str k :: ds)) = false := by
            rcases ds with _ | ⟨d2, _ | ⟨d3, _ | ⟨d4, r⟩⟩⟩
            · rfl
            · exact absurd rfl l2
            · show (inV (.str k) [.str "set", .str "half"] && nameB d2 && exprB 3 d3) = false
              rw [hi]
              rfl
            · rfl
          rw [ef] at q
          walk_at "go"
          rw [e3]
          exact q H3 (k2.step0 k3)
      · replace hj : inV (.str k) [.str "say", .str "stop"] = false := hj
        have ef : plainB (.tuple (.str k :: ds)) = false := by
          rcases ds with _ | ⟨d2, _ | ⟨d3, _ | ⟨d4, r⟩⟩⟩
          · rfl
          · show (if k = "tell" then exprB 3 d2 else inV (.str k) [.str "say", .str "stop"] && wordB d2) = false
            rw [if_neg hk, hj]
            rfl
          · show (inV (.str k) [.str "set", .str "half"] && nameB d2 && exprB 3 d3) = false
            rw [hi]
            rfl
          · rfl
        rw [ef] at q
        exact q H3 (k2.step0 k3)
theorem ok_is_statementQ (T : Top K mg) {k : Nat} : FnOk P w K mg base CX0 (k + 9) T.is_statement.f T.is_statement.fd ["value"] (spBoolQ stmtB) := by
  have G_is_plain : FnOk P w K mg base CX0 6 T.is_plain.f T.is_plain.fd ["value"] (spStmtQ plainB) := ok_is_plainQ T
  have G_is_test : FnOk P w K mg base CX0 8 T.is_test.f T.is_test.fd ["value", "nots"] (spBoolNQ testB 2) := ok_is_testQ T 2
  have G_is_whole : FnOk P w K mg base CX0 1 T.is_whole.f T.is_whole.fd ["value", "least", "most"] spWholeQ := ok_is_wholeQ T
  refine T.is_statement.F.ok sc_is_statement (fun vs H Q E h => ?_) (fun cdv A outer s H vs Q E hr h => ?_)
  · obtain ⟨v, d, rfl, _⟩ := h
    rfl
  obtain ⟨v, d, rfl, hT, sz, q⟩ := h
  refine ⟨_, (pss_cons (ps_if (PW.pt (pw_or (pt_not (pt_val (pe_callB (id := "isinstance") (call_isiK (K := K) rfl) (by rfl) T.isinstance (by decide +kernel) (pa_cons (pv 0) (pa_cons (pe_bltn (v := .ty "tuple") (u := .type "tuple") (by rfl) T.tuple (by decide +kernel) rfl) pa_nil))))) (pw_or (pt_cmpR op_eq (pe_callB (id := "len") (call_lenK (K := K) rfl) (by rfl) T.len PySem.boot_len (pa_cons (pv 0) pa_nil)) pe_int (nomark _)) (pw_or1 (pt_not (pt_val (pe_callB (id := "isinstance") (call_isiK (K := K) rfl) (by rfl) T.isinstance (by decide +kernel) (pa_cons (pe_ix (ix_tupK (K := K) rfl) (pv 0) pe_int (fun _ _ => rfl)) (pa_cons (pe_bltn (v := .ty "str") (u := .type "str") (by rfl) T.str (by decide +kernel) rfl) pa_nil))))))))) (pss_one (ps_ret pe_bl)) pss_nil)
      (pss_cons (ps_if (pt_cmpR op_eq (pe_ix (ix_tupK (K := K) rfl) (pv 0) pe_int (fun _ _ => rfl)) pe_str (nomark _)) (pss_cons (ps_if (PW.pt (pw_or (pt_cmpR op_ne (pe_callB (id := "len") (call_lenK (K := K) rfl) (by rfl) T.len PySem.boot_len (pa_cons (pv 0) pa_nil)) pe_int (nomark _)) (pw_or1 (pt_not (pt_val (pe_call G_is_test (hr.mono (by omega)) (by rfl) T.is_test.g T.is_test.F.kp T.is_test.b .nil pass0 (pa_cons (pe_ix (ix_tupK (K := K) rfl) (pv 0) pe_int (fun _ _ => rfl)) (pa_cons (pe_glob (v := .int 2) (by rfl) T.g_MAX_NOTS ⟨_, rfl⟩) pa_nil)))))))) (pss_one (ps_ret pe_bl)) pss_nil)
      (pss_one (ps_ret (pe_and (pe_callB (id := "isinstance") (call_isiK (K := K) rfl) (by rfl) T.isinstance (by decide +kernel) (pa_cons (pe_ix (ix_tupK (K := K) rfl) (pv 0) pe_int (fun _ _ => rfl)) (pa_cons (pe_bltn (v := .ty "tuple") (u := .type "tuple") (by rfl) T.tuple (by decide +kernel) rfl) pa_nil))) (pe_one (pe_callB (id := "isinstance") (call_isiK (K := K) rfl) (by rfl) T.isinstance (by decide +kernel) (pa_cons (pe_ix (ix_tupK (K := K) rfl) (pv 0) pe_int (fun _ _ => rfl)) (pa_cons (pe_bltn (v := .ty "tuple") (u := .type "tuple") (by rfl) T.tuple (by decide +kernel) rfl) pa_nil)))))))) pss_nil)
      (pss_cons (ps_if (pt_cmpR op_eq (pe_ix (ix_tupK (K := K) rfl) (pv 0) pe_int (fun _ _ => rfl)) pe_str (nomark _)) (pss_one (ps_ret (pe_and (pe_cmpR op_eq (pe_callB (id := "len") (call_lenK (K := K) rfl) (by rfl) T.len PySem.boot_len (pa_cons (pv 0) pa_nil)) pe_int (nomark _)) (pe_and (pe_call G_is_whole (hr.mono (by omega)) (by rfl) T.is_whole.g T.is_whole.F.kp T.is_whole.b .nil pass0 (pa_cons (pe_ix (ix_tupK (K := K) rfl) (pv 0) pe_int (fun _ _ => rfl)) (pa_cons pe_int (pa_cons (pe_glob (v := .int 8) (by rfl) T.g_MAX_TIMES ⟨_, rfl⟩) pa_nil)))) (pe_one (pe_callB (id := "isinstance") (call_isiK (K := K) rfl) (by rfl) T.isinstance (by decide +kernel) (pa_cons (pe_ix (ix_tupK (K := K) rfl) (pv 0) pe_int (fun _ _ => rfl)) (pa_cons (pe_bltn (v := .ty "tuple") (u := .type "tuple") (by rfl) T.tuple (by decide +kernel) rfl) pa_nil)))))))) pss_nil)
      (pss_one (ps_ret (pe_call G_is_plain (hr.mono (by omega)) (by rfl) T.is_plain.g T.is_plain.F.kp T.is_plain.b .nil pass0 (pa_cons (pv 0) pa_nil))))))), ?_⟩
  cases d with
  | none => simp only [Tq] at hT; subst hT; walk_at "go"; exact q H Kp.refl
  | bool b => simp only [Tq] at hT; subst hT; walk_at "go"; exact q H Kp.refl
  | int b => simp only [Tq] at hT; subst hT; walk_at "go"; exact q H Kp.refl
  | str b => simp only [Tq] at hT; subst hT; walk_at "go"; exact q H Kp.refl
  | list ds => obtain ⟨_, _, _, rfl, _, g1, g2⟩ := tq_lst hT; walk_at "go"; exact q H Kp.refl
  | dict ds => obtain ⟨_, _, _, rfl, _, g1⟩ := tq_dct hT; walk_at "go"; exact q H Kp.refl
  | tuple ds =>
    obtain ⟨a, xs, rfl, h1, h2⟩ := tq_tup hT
    have ln := h2.length
    simp only [Szd] at sz
    rcases ds with _ | ⟨d1, ds⟩
    · simp only [TqAll] at h2
      subst h2
      walk_at "go"
      exact q H Kp.refl
    simp only [TqAll] at h2
    obtain ⟨x1, xs, rfl, t1, h2⟩ := h2
    rw [List.length_cons, List.length_cons] at ln
    simp only [Szds] at sz
    obtain ⟨_, sz⟩ := sz
    have c0 : decide (V.int ((x1 :: xs).length : Int) = V.int 0) = false := dec_len (n := 0) (by simp)
    have ef1 : (∀ k, d1 ≠ .str k) → stmtB (.tuple (d1 :: ds)) = false := by
      intro nk
      unfold stmtB
      split <;> simp_all
    cases d1 with
    | none => rw [ef1 (fun k z => by cases z)] at q; simp only [Tq] at t1; subst t1; walk_at "go"; exact q H Kp.refl
    | bool b => rw [ef1 (fun k z => by cases z)] at q; simp only [Tq] at t1; subst t1; walk_at "go"; exact q H Kp.refl
    | int b => rw [ef1 (fun k z => by cases z)] at q; simp only [Tq] at t1; subst t1; walk_at "go"; exact q H Kp.refl
    | tuple es =>
      rw [ef1 (fun k z => by cases z)] at q
      obtain ⟨a2, xs2, rfl, g1, g2⟩ := tq_tup t1
      walk_at "go"
      exact q H Kp.refl
    | list ds =>
      rw [ef1 (fun k z => by cases z)] at q
      obtain ⟨_, _, _, rfl, _, g1, g2⟩ := tq_lst t1
      walk_at "go"
      exact q H Kp.refl
    | dict ds =>
      rw [ef1 (fun k z => by cases z)] at q
      obtain ⟨_, _, _, rfl, _, g1⟩ := tq_dct t1
      walk_at "go"
      exact q H Kp.refl
    | str k =>
      cases tq_str t1
      have pf : inV (.str "if") [.str "set", .str "half"] = false := by decide +kernel
      have pf2 : inV (.str "if") [.str "say", .str "stop"] = false := by decide +kernel
      have pf3 : ¬ (("if" : Str) = "tell") := by decide +kernel
      have pf4 : ¬ (("if" : Str) = "repeat") := by decide +kernel
      have pr : inV (.str "repeat") [.str "set", .str "half"] = false := by decide +kernel
      have pr2 : inV (.str "repeat") [.str "say", .str "stop"] = false := by decide +kernel
      have pr3 : ¬ (("repeat" : Str) = "tell") := by decide +kernel
      have pr4 : ¬ (("repeat" : Str) = "if") := by decide +kernel
      walk_at "go"
      rw [dec_str]
      refine iteB (fun hk => ?_) (fun hk => ?_)
      · have hk := of_decide_eq_true hk
        subst hk
        by_cases l4 : ds.length = 3
        · obtain ⟨t, y, n, rfl⟩ : ∃ t y n, ds = [t, y, n] := by
            match ds, l4 with
            | [t, y, n], _ => exact ⟨t, y, n, rfl⟩
          simp only [TqAll] at h2
          obtain ⟨x2, _, rfl, t2, x3, _, rfl, t3, x4, _, rfl, t4, rfl⟩ := h2
          simp only [Szds] at sz
          obtain ⟨s2, _⟩ := sz
          replace q : ∀ H', Kp [] H H' → Q (.bl (decide (("if" : Str) = "if") && testB 2 t && isTupB y && isTupB n)) H' := q
          rw [decide_eq_true rfl] at q
          walk_at "go"
          intro H3 k3
          have h13 := k3.tup _ _ h1
          have t33 := k3.tq t3
          have t43 := k3.tq t4
          refine ⟨_, rfl, iteB (fun hb => ?_) (fun hb => ?_)⟩
          · replace hb := PyProof.Rows.false_of_not_true hb
            rw [hb] at q
            walk_at "go"
            exact q H3 k3
          · replace hb := PyProof.Rows.true_of_not_false hb
            rw [hb] at q
            obtain ⟨ty1, ty2, ty3⟩ := isi_tupQ (K := K) t33
            obtain ⟨tn1, tn2, tn3⟩ := isi_tupQ (K := K) t43
            walk_at "go"
            refine iteB (fun hy => ?_) (fun hy => ?_)
            · rw [hy] at q
              walk_at "go"
              exact q H3 k3
            · rw [hy] at q
              exact q H3 k3
        · have e3 : decide (V.int (((V.str "if") :: xs).length : Int) = V.int 4) = false := dec_len (n := 4) (by rw [List.length_cons]; omega)
          have ef : stmtB (.tuple (.str "if" :: ds)) = false := by
            rcases ds with _ | ⟨d2, _ | ⟨d3, _ | ⟨d4, _ | ⟨d5, r⟩⟩⟩⟩
            · rfl
            · show (if ("if" : Str) = "tell" then exprB 3 d2 else inV (.str "if") [.str "say", .str "stop"] && wordB d2) = false
              rw [if_neg pf3, pf2]
              rfl
            · show (if ("if" : Str) = "repeat" then wholeB 0 8 d2 && isTupB d3 else inV (.str "if") [.str "set", .str "half"] && nameB d2 && exprB 3 d3) = false
              rw [if_neg pf4, pf]
              rfl
            · exact absurd rfl l4
            · rfl
          rw [ef] at q
          walk_at "go"
          rw [e3]
          refine iteT ?_
          walk_at "go"
          exact q H Kp.refl
      · have hk := of_decide_eq_false hk
        walk_at "go"
        rw [dec_str]
        refine iteB (fun hk2 => ?_) (fun hk2 => ?_)
        · have hk2 := of_decide_eq_true hk2
          subst hk2
          by_cases l3 : ds.length = 2
          · obtain ⟨t, b, rfl⟩ : ∃ t b, ds = [t, b] := by
              match ds, l3 with
              | [t, b], _ => exact ⟨t, b, rfl⟩
            simp only [TqAll] at h2
            obtain ⟨x2, _, rfl, t2, x3, _, rfl, t3, rfl⟩ := h2
            replace q : ∀ H', Kp [] H H' → Q (.bl (if ("repeat" : Str) = "repeat" then wholeB 0 8 t && isTupB b else plainB (.tuple [.str "repeat", t, b]))) H' := q
            rw [if_pos rfl] at q
            walk_at "go"
            refine iteB (fun hb => ?_) (fun hb => ?_)
            · rw [hb] at q
              obtain ⟨ty1, ty2, ty3⟩ := isi_tupQ (K := K) t3
              walk_at "go"
              exact q H Kp.refl
            · rw [hb] at q
              exact q H Kp.refl
          · have e3 : decide (V.int (((V.str "repeat") :: xs).length : Int) = V.int 3) = false := dec_len (n := 3) (by rw [List.length_cons]; omega)
            have ef : stmtB (.tuple (.str "repeat" :: ds)) = false := by
              rcases ds with _ | ⟨d2, _ | ⟨d3, _ | ⟨d4, _ | ⟨d5, r⟩⟩⟩⟩
              · rfl
              · show (if ("repeat" : Str) = "tell" then exprB 3 d2 else inV (.str "repeat") [.str "say", .str "stop"] && wordB d2) = false
                rw [if_neg pr3, pr2]
                rfl
              · exact absurd rfl l3
              · show (decide (("repeat" : Str) = "if") && testB 2 d2 && isTupB d3 && isTupB d4) = false
                rw [decide_eq_false pr4]
                rfl
              · rfl
            rw [ef] at q
            walk_at "go"
            rw [e3]
            exact q H Kp.refl
        · have hk2 := of_decide_eq_false hk2
          have ef : stmtB (.tuple (.str k :: ds)) = plainB (.tuple (.str k :: ds)) := by
            rcases ds with _ | ⟨d2, _ | ⟨d3, _ | ⟨d4, _ | ⟨d5, r⟩⟩⟩⟩
            · rfl
            · rfl
            · show (if k = "repeat" then wholeB 0 8 d2 && isTupB d3 else plainB (.tuple [.str k, d2, d3])) = _
              rw [if_neg hk2]
            · show (decide (k = "if") && testB 2 d2 && isTupB d3 && isTupB d4) = false
              rw [decide_eq_false hk]
              rfl
            · rfl
          rw [ef] at q
          refine ⟨_, rfl, _, k, ds, rfl, hT, sz, q⟩
end
section
variable {P : Program} {w : World} {K : PySem.W.Frag} {mg : Str → Option Value} {base : Heap}
theorem ok_blocks_ofDQ (T : Top K mg) {k : Nat} : FnOk P w K mg base CX0 (k + 1) T.blocks_of.f T.blocks_of.fd ["statement"] spBlocksQ := by
  refine T.blocks_of.F.ok sc_blocks_of (fun vs H Q E h => ?_) (fun cdv A outer s H vs Q E hr h => ?_)
  · obtain ⟨v, s, rfl, _⟩ := h
    rfl
  obtain ⟨v, d, rfl, hT, hd, q⟩ := h
  refine ⟨_, (pss_cons (ps_if (pt_cmpR op_eq (pe_ix (ix_tupK (K := K) rfl) (pv 0) pe_int (fun _ _ => rfl)) pe_str (nomark _)) (pss_one (ps_ret (pe_lstA (pa_cons (pe_ix (ix_tupK (K := K) rfl) (pv 0) pe_int (fun _ _ => rfl)) (pa_cons (pe_ix (ix_tupK (K := K) rfl) (pv 0) pe_int (fun _ _ => rfl)) pa_nil))))) pss_nil)
      (pss_one (ps_ret (pe_ifExp (pt_cmpR op_eq (pe_ix (ix_tupK (K := K) rfl) (pv 0) pe_int (fun _ _ => rfl)) pe_str (nomark _)) (pe_lstA (pa_cons (pe_ix (ix_tupK (K := K) rfl) (pv 0) pe_int (fun _ _ => rfl)) pa_nil)) (pe_lstA pa_nil))))), ?_⟩
  rcases hd with ⟨t, y, n, rfl⟩ | ⟨k, b, rfl⟩ | ⟨w, ds, rfl, n1, n2, eb⟩
  · obtain ⟨p, x1, x2, x3, x4, rfl, h1, t1, t2, t3, t4⟩ := tq_tup4 hT
    cases tq_str t1
    walk_at "go"
    intro r H1 hr1 e1
    have k1 := new_kp hr1 e1
    refine q r _ H1 hr1 (new_at e1) ?_ k1
    show TqAll H1 (if ("if" : Str) = "if" then [.tuple y, .tuple n] else []) _
    rw [if_pos rfl]
    exact tqs_cons (k1.tq t3) (tqs_cons (k1.tq t4) tqs_nil)
  · obtain ⟨p, x1, x2, x3, rfl, h1, t1, t2, t3⟩ := tq_tup3 hT
    cases tq_str t1
    walk_at "go"
    intro r H1 hr1 e1
    have k1 := new_kp hr1 e1
    refine q r _ H1 hr1 (new_at e1) ?_ k1
    show TqAll H1 (if ("repeat" : Str) = "repeat" then [.tuple b] else []) _
    rw [if_pos rfl]
    exact tqs_cons (k1.tq t3) tqs_nil
  · obtain ⟨a, xs, rfl, h1, h2⟩ := tq_tup hT
    simp only [TqAll] at h2
    obtain ⟨x1, xs, rfl, t1, h2⟩ := h2
    cases tq_str t1
    rw [eb] at q
    walk_at "go"
    rw [dec_str, decide_eq_false n1]
    refine iteF ?_
    walk_at "go"
    rw [dec_str, decide_eq_false n2]
    refine iteF ?_
    walk_at "go"
    intro r H1 hr1 e1
    exact q r _ H1 hr1 (new_at e1) tqs_nil (new_kp hr1 e1)
theorem ok_items_withinQ (T : Top K mg) {k : Nat} : FnOk P w K mg base CX0 (k + 2) T.items_within.f T.items_within.fd ["statement", "depth"] spWithinQ := by
  have G_blocks_of : FnOk P w K mg base CX0 1 T.blocks_of.f T.blocks_of.fd ["statement"] spBlocksQ := ok_blocks_ofDQ T
  refine T.items_within.F.ok sc_items_within (fun vs H Q E h => ?_) (fun cdv A outer s H vs Q E hr h => ?_)
  · obtain ⟨v, s, dep, rfl, _⟩ := h
    rfl
  obtain ⟨v, d, dep, rfl, hT, hd, hz, q⟩ := h
  refine ⟨_, (pss_cons (ps_set (i := 2) sc_items_within.nd rfl (.inl rfl) (pe_lstA pa_nil))
      (pss_cons (ps_forA (ps_for PassesOwn.never rfl (pi_listK (K := K) rfl (pe_call G_blocks_of (hr.mono (by omega)) (by rfl) T.blocks_of.g T.blocks_of.F.kp T.blocks_of.b .nil pass0 (pa_cons (pv 0) pa_nil))) (pg_name (i := 3) sc_items_within.nd rfl (.inl rfl)) (pss_one (ps_expr (pe_bmK (K := K) rfl PySem.F.plainAttrs_list PySem.F.slot_list_extend PySem.F.type_list_extend mt_extendA (pv 2) (pa_cons (pe_lc (own := [("item", 4)]) (by rfl) sc_items_within.nd (pi_tupK (K := K) rfl (pv 3)) (blkOk_by (N := ["statement", "depth", "found", "block", "item"]) (sc := defScope s_items_within) (own := [("item", 4)]) (by decide +kernel)) (fun _ _ _ _ _ => (pg_name (i := 4) sc_items_within.nd rfl (.inl rfl))) (fun _ _ _ _ _ => pts_nil) (fun _ _ _ _ _ => (pe_tupA (pa_cons (pe_op op_add (pv 1) pe_int) (pa_cons (pv 4) pa_nil))))) pa_nil))))))
      (pss_one (ps_ret (pe_revLA (K := K) rfl (pv 2)))))), ?_⟩
  have bz := bitems_sz d
  walk_at "go"
  intro fl H1 hf e1
  have k1 := new_kp hf e1
  have a1 := new_at e1
  have t1 := k1.tq hT
  walk_at "go"
  intro l2 bs H2 hl2 a2 tb2 k2
  have f2 := k2.at a1
  have nfl : fl ≠ l2 := ne_of_none a1 hl2
  have ktot : Kp [] H H2 := k1.step0 k2
  walk_at "go"
  refine ⟨for_list (K := K) (a := l2) (xs := bs) (fun i σ H3 => Lp (∃ (w3 w4 : Option V) (ws : List V), σ = [some v, some (.int dep), some (.ref fl), w3, w4] ∧ H3 fl = some (.lst ws) ∧ H3 l2 = some (.lst bs) ∧ TqAll H3 ((((blksD d).take i).flatMap itemsD).map fun e => pairD (dep + 1, e)) ws ∧ Kp [fl] H2 H3)) ⟨_, _, _, rfl, f2, a2, by simp only [List.take_zero, List.flatMap_nil, List.map_nil]; exact tqs_nil, Kp.refl⟩ (fun i σ H3 _ x => ?_) ?_ ?_⟩
  · obtain ⟨⟨w3, w4, ws, _, _, a3, _⟩⟩ := x
    exact SqL.of a3
  · rintro i x σ H3 hx ⟨⟨w3, w4, ws, rfl, f3, a3, tw3, k3⟩⟩
    have hi : i < (blksD d).length := by
      obtain ⟨h, _⟩ := List.getElem?_eq_some_iff.mp hx
      rw [tb2.length] at h
      exact h
    obtain ⟨bd, hbd⟩ : ∃ bd, (blksD d)[i]? = some bd := ⟨_, List.getElem?_eq_getElem hi⟩
    obtain ⟨x', hx', tx⟩ := tb2.get hbd
    rw [hx] at hx'
    cases hx'
    obtain ⟨ys, rfl⟩ : ∃ ys, bd = .tuple ys := by
      have m := List.mem_of_getElem? hbd
      rcases hd with ⟨t, y, n, rfl⟩ | ⟨k, b, rfl⟩ | ⟨w, ds, rfl, n1, n2, eb⟩
      · replace m : bd ∈ (if ("if" : Str) = "if" then [.tuple y, .tuple n] else []) := m
        rw [if_pos rfl] at m
        simp only [List.mem_cons, List.not_mem_nil, or_false] at m
        rcases m with rfl | rfl
        · exact ⟨_, rfl⟩
        · exact ⟨_, rfl⟩
      · replace m : bd ∈ (if ("repeat" : Str) = "repeat" then [.tuple b] else []) := m
        rw [if_pos rfl] at m
        simp only [List.mem_cons, List.not_mem_nil, or_false] at m
        exact ⟨_, m⟩
      · rw [eb] at m
        cases m
    obtain ⟨ta, vs, rfl, hta, tvs⟩ := tq_tup (k3.tq tx)
    have etk : ((blksD d).take (i + 1)).flatMap itemsD = ((blksD d).take i).flatMap itemsD ++ ys := by
      rw [List.take_add_one, hbd, List.flatMap_append]
      simp [itemsD]
    have ebt : ((blksD d).take (i + 1)).flatMap itemsD ++ ((blksD d).drop (i + 1)).flatMap itemsD = bitems d := by
      rw [← List.flatMap_append, List.take_append_drop]
      rfl
    have lall : (((blksD d).take i).flatMap itemsD).length + ys.length ≤ 1000000 := by
      have e := congrArg List.length ebt
      rw [List.length_append, etk, List.length_append] at e
      have := dszs_len (bitems d)
      omega
    walk_at "go"
    intro D hD
    have nDf : fl ≠ D := ne_of_none f3 hD
    refine lc_tup (K := K) (a := ta) (xs := vs) (fun j H4 => Lp (Kp [D] H3 H4 ∧ ∃ us, H4 D = some (.lst us) ∧ TqAll H4 ((ys.take j).map fun e => pairD (dep + 1, e)) us)) ⟨(Kp.new hD).sub (by simp), [], upd_same, by simp only [List.take_zero, List.map_nil]; exact tqs_nil⟩ ?_ ?_ ?_
    · rintro j H4 _ ⟨⟨k4, _⟩⟩
      exact SqT.of (k4.tup _ _ hta)
    · rintro j x H4 hx4 ⟨⟨k4, us, d4, tu4⟩⟩
      have hj : j < ys.length := by
        obtain ⟨h, _⟩ := List.getElem?_eq_some_iff.mp hx4
        rw [tvs.length] at h
        exact h
      have hy : ys[j]? = some ys[j] := List.getElem?_eq_getElem hj
      obtain ⟨x', hx', txx⟩ := tvs.get hy
      rw [hx4] at hx'
      cases hx'
      have tx4 := k4.tq txx
      have lu := tu4.length
      rw [List.length_map, List.length_take] at lu
      have lu2 : us.length < sizeLine := sz_lt (by omega)
      walk_at "go"
      intro r5 H5 hr5 e5
      have k5 := new_kp hr5 e5
      have a5 := new_at e5
      have d5 := k5.at d4
      walk_at "go"
      have k6 := Kp.put (u := .lst (us ++ [.ref r5])) d5 (fun _ y => by cases y)
      refine ⟨⟨(k4.step0 k5).step1 k6 (.inl (by simp)), _, upd_same, ?_⟩⟩
      rw [List.take_add_one, hy, List.map_append]
      exact (k6.tqAll (k5.tqAll tu4)).append (tqs_cons (k6.tq (mq_tup a5 (tqs_cons mq_int (tqs_cons (k5.tq tx4) tqs_nil)))) tqs_nil)
    · rintro H4 ⟨⟨k4, us, d4, tu4⟩⟩
      rw [tvs.length, List.take_length] at tu4
      have lu := tu4.length
      rw [List.length_map] at lu
      have lw := tw3.length
      rw [List.length_map] at lw
      have f4 := k4.keep _ _ f3 (ne1 nDf)
      have nl2 : l2 ≠ D := ne_of_none a3 hD
      have l24 := k4.keep _ _ a3 (ne1 nl2)
      have sz4 : ws.length + us.length ≤ sizeLine := sz_le (by omega)
      walk_at "go"
      intro H5 f5 k5
      refine ⟨_, _, _, rfl, f5, k5.keep _ _ l24 (ne1 nfl.symm), ?_, ?_⟩
      · rw [etk, List.map_append]
        exact (k5.tqAll (k4.tqAll tw3)).append (k5.tqAll tu4)
      · have k34 : Kp [] H3 H4 := Kp.refl.step1 k4 (.inr hD)
        exact (k3.step0 k34).trans k5
  · rintro σ H3 ⟨⟨w3, w4, ws, rfl, f3, a3, tw3, k3⟩⟩
    rw [tb2.length, List.take_length] at tw3
    have kH3 : Kp [] H H3 := ktot.step1 k3 (.inr hf)
    walk_at "go"
    intro r4 H4 hr4 e4
    have k4 := new_kp hr4 e4
    exact q r4 _ H4 (kH3.free hr4 (by simp)) (new_at e4) (k4.tqAll tw3).rev (kH3.step0 k4)
end
section
variable {P : Program} {w : World} {K : PySem.W.Frag} {mg : Str → Option Value} {base : Heap}
theorem ok_order_errorQ (T : Top K mg) {k : Nat} : FnOk P w K mg base CX0 (k + 10) T.order_error.f T.order_error.fd ["value"] spOrderQ := by
  have G_items_within : FnOk P w K mg base CX0 2 T.items_within.f T.items_within.fd ["statement", "depth"] spWithinQ := ok_items_withinQ T
  have G_is_statement : FnOk P w K mg base CX0 9 T.is_statement.f T.is_statement.fd ["value"] (spBoolQ stmtB) := ok_is_statementQ T
  refine T.order_error.F.ok sc_order_error (fun vs H Q E h => ?_) (fun cdv A outer s H vs Q E hr h => ?_)
  · obtain ⟨v, ds, rfl, _⟩ := h
    rfl
  obtain ⟨v, ds, rfl, hT, sz, hz, q⟩ := h
  have hu := hu_of hr
  refine ⟨_, (pss_cons (ps_par (i := 1) (j := 2) (by rfl) sc_order_error.nd rfl rfl (by decide) rfl rfl (pa_cons (pe_revLA (K := K) rfl (pe_lc (own := [("item", 4)]) (by rfl) sc_order_error.nd (pi_tupK (K := K) rfl (pv 0)) (blkOk_by (N := ["value", "left", "place", "depth", "item"]) (sc := defScope s_order_error) (own := [("item", 4)]) (by decide +kernel)) (fun _ _ _ _ _ => (pg_name (i := 4) sc_order_error.nd rfl (.inl rfl))) (fun _ _ _ _ _ => pts_nil) (fun _ _ _ _ _ => (pe_tupA (pa_cons pe_int (pa_cons (pv 4) pa_nil)))))) (pa_cons pe_int pa_nil)) (by rfl))
      (pss_cons (ps_whileA (ps_while PassesOwn.never (pt_cmpR (op_neNil hu) (pv 1) (pe_lstA pa_nil) (nomark _)) (pss_cons (ps_asg (pe_bm0 PySem.F.plainAttrs_list PySem.F.slot_list_pop PySem.F.type_list_pop mt_popA (pv 1)) (pg_tup (by rfl) (pgs_cons (pg_name (i := 3) sc_order_error.nd rfl (.inl rfl)) (pgs_cons (pg_name (i := 4) sc_order_error.nd rfl (.inl rfl)) pgs_nil))))
      (pss_cons (ps_if (pt_cmpR op_gt (pv 3) (pe_glob (v := .int 3) (by rfl) T.g_MAX_NEST ⟨_, rfl⟩) (nomark _)) (pss_one (ps_ret (pe_tupA (pa_cons (pv 2) (pa_cons pe_str pa_nil))))) pss_nil)
      (pss_cons (ps_if (pt_not (pt_val (pe_call G_is_statement (hr.mono (by omega)) (by rfl) T.is_statement.g T.is_statement.F.kp T.is_statement.b .nil pass0 (pa_cons (pv 4) pa_nil)))) (pss_one (ps_ret (pe_tupA (pa_cons (pv 2) (pa_cons pe_str pa_nil))))) pss_nil)
      (pss_cons (ps_expr (pe_bmK (K := K) rfl PySem.F.plainAttrs_list PySem.F.slot_list_extend PySem.F.type_list_extend mt_extendA (pv 1) (pa_cons (pe_call G_items_within (hr.mono (by omega)) (by rfl) T.items_within.g T.items_within.F.kp T.items_within.b .nil pass0 (pa_cons (pv 4) (pa_cons (pv 3) pa_nil))) pa_nil)))
      (pss_one (ps_aug (i := 2) sc_order_error.nd rfl (.inl rfl) pe_int ip_add))))))))
      (pss_one (ps_ret pe_non)))), ?_⟩
  obtain ⟨ta, vs, rfl, hta, tvs⟩ := tq_tup hT
  have dl := dszs_len ds
  walk_at "go"
  intro D hD
  refine lc_tup (K := K) (a := ta) (xs := vs) (fun j H4 => Lp (Kp [D] H H4 ∧ ∃ us, H4 D = some (.lst us) ∧ TqAll H4 ((ds.take j).map fun e => pairD (0, e)) us)) ⟨(Kp.new hD).sub (by simp), [], upd_same, by simp only [List.take_zero, List.map_nil]; exact tqs_nil⟩ ?_ ?_ ?_
  · rintro j H4 _ ⟨⟨k4, _⟩⟩
    exact SqT.of (k4.tup _ _ hta)
  · rintro j x H4 hx4 ⟨⟨k4, us, d4, tu4⟩⟩
    have hj : j < ds.length := by
      obtain ⟨h, _⟩ := List.getElem?_eq_some_iff.mp hx4
      rw [tvs.length] at h
      exact h
    have hy : ds[j]? = some ds[j] := List.getElem?_eq_getElem hj
    obtain ⟨x', hx', txx⟩ := tvs.get hy
    rw [hx4] at hx'
    cases hx'
    have tx4 := k4.tq txx
    have lu := tu4.length
    rw [List.length_map, List.length_take] at lu
    have lu2 : us.length < sizeLine := sz_lt (by omega)
    walk_at "go"
    intro r5 H5 hr5 e5
    have k5 := new_kp hr5 e5
    have a5 := new_at e5
    have d5 := k5.at d4
    walk_at "go"
    have k6 := Kp.put (u := .lst (us ++ [.ref r5])) d5 (fun _ y => by cases y)
    refine ⟨⟨(k4.step0 k5).step1 k6 (.inl (by simp)), _, upd_same, ?_⟩⟩
    rw [List.take_add_one, hy, List.map_append]
    exact (k6.tqAll (k5.tqAll tu4)).append (tqs_cons (k6.tq (mq_tup a5 (tqs_cons mq_int (tqs_cons (k5.tq tx4) tqs_nil)))) tqs_nil)
  · rintro H4 ⟨⟨k4, us, d4, tu4⟩⟩
    rw [tvs.length, List.take_length] at tu4
    have k4' : Kp [] H H4 := Kp.refl.step1 k4 (.inr hD)
    walk_at "go"
    intro lf H5 hlf e5
    have k5 := new_kp hlf e5
    have a5 := new_at e5
    have kH5 := k4'.step0 k5
    have flf : H lf = none := k4'.free hlf (by simp)
    walk_at "go"
    have st0 : stk (ds.map fun e => ((0 : Int), e)) = ds := stk_bi 0 ds
    refine ⟨fun m σ H6 => Lp (∃ (l : List (Int × PyData)) (p : Int) (us : List V) (w3 w4 : Option V), σ = [some (.ref ta), some (.ref lf), some (.int p), w3, w4] ∧ H6 lf = some (.lst us) ∧ TqAll H6 ((l.map pairD).reverse) us ∧ m = dszs (stk l) ∧ m ≤ 1000000 ∧ Szds (stk l) ∧ (∀ f, dszs (stk l) < f → ordE f l p = ordErr ds) ∧ Kp [] H H6), ⟨dszs ds, ⟨ds.map fun e => (0, e), 0, _, _, _, rfl, a5, ?_, by rw [st0], hz, by rw [st0]; exact sz, fun f hf => ordE_fuel _ _ _ _ hf (by rw [st0]; omega), kH5⟩⟩, ?_⟩
    · rw [List.map_map]
      exact (k5.tqAll tu4).rev
    · rintro m σ H6 ⟨⟨l, p, us, w3, w4, rfl, a6, t6, rfl, hm, sz6, fl6, k6⟩⟩
      walk_at "go"
      intro n7 H7 hn7 e7
      have k7 := new_kp hn7 e7
      have a7 := new_at e7
      have a67 := k7.at a6
      have t67 := k7.tqAll t6
      refine ⟨lf, n7, us, rfl, rfl, a67, a7, _, rfl, ?_⟩
      rcases l with _ | ⟨⟨dep, d⟩, l⟩
      · simp only [List.map_nil, List.reverse_nil, TqAll] at t67
        subst t67
        refine iteF ?_
        walk_at "go"
        refine q .non H7 ?_ (k6.step0 k7)
        have e := fl6 1 (by simp only [stk, List.map_nil, dszs]; omega)
        rw [← e]
        exact mk_non
      · rw [List.map_cons, List.reverse_cons] at t67
        obtain ⟨us, u, rfl, tl, tu⟩ := t67.snoc_inv
        have ne : ((us ++ [u]).isEmpty) = false := by simp
        rw [ne]
        refine iteT ?_
        obtain ⟨pa, x1, x2, rfl, hpa, tx1, tx2⟩ := tq_tup2 tu
        cases tq_int tx1
        have esz : dszs (stk ((dep, d) :: l)) = dsz d + dszs (stk l) := by
          show dszs (d :: stk l) = _
          simp only [dszs]
        have hb := bitems_sz d
        have ell : dszs (stk (((bitems d).map fun e => (dep + 1, e)) ++ l)) = dszs (bitems d) + dszs (stk l) := by rw [stk_app, stk_bi, dszs_app]
        have szd : Szd d ∧ Szds (stk l) := by
          have : Szds (d :: stk l) := sz6
          simpa only [Szds] using this
        have fl7 := fl6 (dszs (stk ((dep, d) :: l)) + 1) (by omega)
        simp only [ordE] at fl7
        refine ⟨fun σ H9 => Lp (∃ (l' : List (Int × PyData)) (p : Int) (us : List V) (w3 w4 : Option V), σ = [some (.ref ta), some (.ref lf), some (.int p), w3, w4] ∧ H9 lf = some (.lst us) ∧ TqAll H9 ((l'.map pairD).reverse) us ∧ dszs (stk l') < dszs (stk ((dep, d) :: l)) ∧ dszs (stk l') ≤ 1000000 ∧ Szds (stk l') ∧ (∀ f, dszs (stk l') < f → ordE f l' p = ordErr ds) ∧ Kp [] H H9), fun σ' H' x => ?_, ?_⟩
        · obtain ⟨⟨l', p', us', w3', w4', h1, h2, h3, h4, h5, h6, h7, h8⟩⟩ := x
          exact ⟨dszs (stk l'), h4, ⟨l', p', us', w3', w4', h1, h2, h3, rfl, h5, h6, h7, h8⟩⟩
        walk_at "go"
        intro H8 a8 k8
        have hpa8 := k8.tup _ _ hpa
        have tx28 := k8.tq tx2
        have tl8 := k8.tqAll tl
        have kH8 : Kp [] H H8 := (k6.step0 k7).step1 k8 (.inr flf)
        walk_at "go"
        refine iteB (fun hdep => ?_) (fun hdep => ?_)
        · have hdep := of_decide_eq_true hdep
          rw [if_pos hdep] at fl7
          walk_at "go"
          intro r9 H9 hr9 e9
          have k9 := new_kp hr9 e9
          refine q (.ref r9) H9 ?_ (kH8.step0 k9)
          rw [← fl7]
          exact mk_tup (new_at e9) (trs_cons mk_int (trs_cons mk_str trs_nil))
        · have hdep := of_decide_eq_false hdep
          rw [if_neg hdep] at fl7
          obtain ⟨szd1, szd2⟩ := szd
          walk_at "go"
          intro H9 k9
          have a89 := k9.at a8
          have tx29 := k9.tq tx28
          have tl9 := k9.tqAll tl8
          refine ⟨_, rfl, iteB (fun hb => ?_) (fun hb => ?_)⟩
          · replace hb := PyProof.Rows.false_of_not_true hb
            rw [if_neg (by rw [hb]; simp)] at fl7
            walk_at "go"
            intro r10 H10 hr10 e10
            have k10 := new_kp hr10 e10
            refine q (.ref r10) H10 ?_ ((kH8.step0 k9).step0 k10)
            rw [← fl7]
            exact mk_tup (new_at e10) (trs_cons mk_int (trs_cons mk_str trs_nil))
          · replace hb := PyProof.Rows.true_of_not_false hb
            rw [if_pos hb] at fl7
            have dszd : dsz d ≤ 1000000 := by omega
            have std := stmt_std hb
            walk_at "go"
            intro p10 us10 H10 hp10 a10 t10 k10
            have a810 := k10.at a89
            have tl10 := k10.tqAll tl9
            have ll := tl10.length
            have l10 : us10.length = (bitems d).length := by
              have := t10.length
              rw [List.length_reverse, List.length_map] at this
              exact this
            rw [List.length_reverse, List.length_map] at ll
            have lz1 := dszs_len (bitems d)
            have lz2 := dszs_len (stk l)
            have lz3 : (stk l).length = l.length := List.length_map _
            have sz10 : us.length + us10.length ≤ sizeLine := sz_le (by omega)
            walk_at "go"
            intro H11 a11 k11
            walk_at "go"
            refine ⟨((bitems d).map fun e => (dep + 1, e)) ++ l, p + 1, _, _, _, rfl, a11, ?_, by omega, by omega, ?_, ?_, ?_⟩
            · rw [List.map_append, List.reverse_append, List.map_map]
              exact (k11.tqAll tl10).append (k11.tqAll t10)
            · rw [stk_app, stk_bi]
              exact szd1.bitems.app szd2
            · intro f hf
              rw [← fl7]
              exact ordE_fuel _ _ _ _ hf (by omega)
            · exact ((kH8.step0 k9).step0 k10).step1 k11 (.inr flf)
end
end EH
namespace EH
open PySem L2
local macro_rules | `(tactic| walk_at "sd") => `(tactic| first | assumption | ((with_reducible show (_ : Int) ≤ _); omega) | ((with_reducible show (_ : Int) < _); omega) | rfl | exact SqL.of (by assumption) | exact SqT.of (by assumption) | exact atI_nat (j := 0) rfl | exact atI_nat (j := 1) rfl | exact atI_nat (j := 2) rfl | exact atI_nat (j := 3) rfl | exact sz_lit rfl | exact lt_lit rfl | exact pos_lit rfl | exact le_lit rfl | exact Or.inl (SqL.of (by assumption)) | exact ⟨_, SqL.of (by assumption)⟩ | exact ⟨_, SqT.of (by assumption)⟩ | exact Or.inr (SqT.of (by assumption)) | exact ClsV.ty _ | exact TyX.base (TyOf.int _) | exact TyX.base (TyOf.str _) | exact TyX.base (TyOf.tup (by assumption)) | exact kit_ty isi_ss | exact kit_ty isi_is | exact kit_ty isi_ts | exact kit_ty isi_si | exact kit_ty isi_ii | exact kit_ty isi_ti | exact kit_ty isi_st | exact kit_ty isi_it | exact kit_ty isi_tt | exact TyX.base TyOf.non | exact TyX.base (TyOf.bl _) | exact kit_ty isi_bs | exact kit_ty isi_bi | exact kit_ty isi_bt | exact kit_ty isi_bb | exact kit_ty isi_ns | exact kit_ty isi_ni | exact kit_ty isi_nt | exact kit_ty isi_nb | exact kit_ty isi_sb | exact kit_ty isi_ib | exact kit_ty isi_tb | exact Or.inl ⟨_, Or.inl (by assumption)⟩ | exact DGet.k (k := Sum.inr _) (by assumption) | exact DGet.k (k := Sum.inl _) (by assumption) | (refine cpow_of ?_; decide) | (refine cmul_of ?_; decide) | (show (_ : Int) ≠ 0; first | decide | omega) | (refine cdivn_of ?_; decide) | exact Or.inl ⟨rfl, _, SqL.of (by assumption)⟩ | omega)
local macro_rules | `(tactic| walk_at "st") => `(tactic| first | (apply Exists.intro) | (refine And.intro ?_ ?_; focus (walk_at "sd")) | (apply Or.inl; apply Exists.intro; refine And.intro ?_ ?_; focus rfl) | (apply Or.inr; apply Exists.intro; refine And.intro ?_ ?_; focus rfl))
local macro_rules | `(tactic| walk_at "go") => `(tactic| repeat (walk_at "st"))
section
variable {P : Program} {w : World} {K : PySem.W.Frag} {mg : Str → Option Value} {base : Heap}
theorem ok_l_counts (T : Top K mg) : ∀ n : Nat, FnOk P w K mg base CX0 (n + 1) T.l_counts.f T.l_counts.fd ["_law_block"] (spLCounts n)
  | n => by
    have G_l_counts : FnOk P w K mg base CX0 n T.l_counts.f T.l_counts.fd ["_law_block"] (fun vs H Q E => ∃ n', n = n' + 1 ∧ spLCounts n' vs H Q E) := by
      cases n with
      | zero => exact fn_no (fun _ _ _ _ ⟨n', h, _⟩ => nomatch h)
      | succ m => exact fn_imp (fun _ _ _ _ ⟨n', h, z⟩ => by cases h; exact z) (ok_l_counts T m)
    refine T.l_counts.F.ok sc_l_counts (fun vs H Q E h => ?_) (fun cdv A outer s H vs Q E hr h => ?_)
    · obtain ⟨v, b, rfl, _⟩ := h
      rfl
    obtain ⟨v, b, rfl, hT, hok, hn, hp, q⟩ := h
    have hu := hu_of hr
    refine ⟨_, (pss_cons (ps_set (i := 1) sc_l_counts.nd rfl (.inr rfl) (pe_lstA (pa_cons pe_int (pa_cons pe_int (pa_cons pe_int (pa_cons pe_int pa_nil))))))
      (pss_cons (ps_forA (ps_for PassesOwn.never rfl (pi_tupK (K := K) rfl (pv 0)) (pg_name (i := 2) sc_l_counts.nd rfl (.inl rfl)) (pss_ofP (cp_cons (ps_set (i := 3) sc_l_counts.nd rfl (.inl rfl) (pe_ifExp (pt_cmpR op_eq (pe_ix (ix_tupK (K := K) rfl) (pv 2) pe_int (fun _ _ => rfl)) pe_str (nomark _)) (pe_ix (ix_tupK (K := K) rfl) (pv 2) pe_int (fun _ _ => rfl)) (pe_tupA pa_nil)))
      (cp_cons (ps_whileA (ps_while PassesOwn.never (PW.pt (pw_and (pt_cmpR (op_neNilT hu) (pv 3) (pe_tupA pa_nil) (nomark _)) (pw_and1 (pt_cmpR op_eq (pe_ix (ix_tupK (K := K) rfl) (pv 3) pe_int (fun _ _ => rfl)) pe_str (nomark _))))) (pss_one (ps_set (i := 3) sc_l_counts.nd rfl (.inl rfl) (pe_ix (ix_tupK (K := K) rfl) (pv 3) pe_int (fun _ _ => rfl))))))
      (cp_cons (ps_set (i := 4) sc_l_counts.nd rfl (.inl rfl) (pe_or (pe_cmpR op_eq (pe_ix (ix_tupK (K := K) rfl) (pv 2) pe_int (fun _ _ => rfl)) pe_str (nomark _)) (pe_one (pe_and (pe_cmpR (op_neNilT hu) (pv 3) (pe_tupA pa_nil) (nomark _)) (pe_one (pe_cmpR op_eq (pe_ix (ix_tupK (K := K) rfl) (pv 3) pe_int (fun _ _ => rfl)) pe_str (nomark _)))))))
      (cp_one (ps_set (i := 5) sc_l_counts.nd rfl (.inr rfl) (pe_lstA (pa_cons pe_int (pa_cons pe_int (pa_cons (pe_callTy (T := "int") call_int1 (by rfl) T.int (by decide +kernel) (pa_cons (pv 4) pa_nil)) (pa_cons (pe_callTy (T := "int") call_int1 (by rfl) T.int (by decide +kernel) (pa_cons (pe_and (pe_cmpR (op_neNilT hu) (pv 3) (pe_tupA pa_nil) (nomark _)) (pe_one (pe_cmpR op_eq (pe_ix (ix_tupK (K := K) rfl) (pv 3) pe_int (fun _ _ => rfl)) pe_str (nomark _)))) pa_nil)) pa_nil))))))
      (pss_cutA (ps_forA (ps_for PassesOwn.never rfl (pi_tupK (K := K) rfl (pe_ifExp (pt_cmpR (op_in_seqK (K := K) rfl) (pe_ix (ix_tupK (K := K) rfl) (pv 2) pe_int (fun _ _ => rfl)) (pe_tupA (pa_cons pe_str (pa_cons pe_str pa_nil))) (by rfl)) (pe_slice (sl_tupK (K := K) rfl) (pv 2) (po_some pe_int) po_none) (pe_tupA pa_nil))) (pg_name (i := 6) sc_l_counts.nd rfl (.inl rfl)) (pss_cons (ps_asg (pe_tupA (pa_cons (pe_call G_l_counts (hr.mono (by omega)) (by rfl) T.l_counts.g T.l_counts.F.kp T.l_counts.b .nil pass0 (pa_cons (pv 6) pa_nil)) (pa_cons (pe_ifExp (pt_cmpR op_eq (pe_ix (ix_tupK (K := K) rfl) (pv 2) pe_int (fun _ _ => rfl)) pe_str (nomark _)) (pe_ix (ix_tupK (K := K) rfl) (pv 2) pe_int (fun _ _ => rfl)) pe_int) pa_nil))) (pg_tup (by rfl) (pgs_cons (pg_name (i := 7) sc_l_counts.nd rfl (.inr rfl)) (pgs_cons (pg_name (i := 8) sc_l_counts.nd rfl (.inr rfl)) pgs_nil))))
      (pss_one (ps_set (i := 5) sc_l_counts.nd rfl (.inr rfl) (pe_op op_catL (pe_lstA (pa_cons (pe_op op_add (pe_ix (ix_listK (K := K) rfl) (pv 5) pe_int (fun _ _ => rfl)) (pe_ix (ix_listK (K := K) rfl) (pv 7) pe_int (fun _ _ => rfl))) pa_nil)) (pe_lc (own := [("_law_k", 9)]) (by rfl) sc_l_counts.nd (pi_range2 (by rfl) T.range (pa_cons pe_int (pa_cons pe_int pa_nil))) (blkOk_by (N := ["_law_block", "_law_found", "_law_row", "_law_test", "_law_is_half", "_law_own", "_law_part", "_law_inner", "_law_times", "_law_k"]) (sc := defScope s_l_counts) (own := [("_law_k", 9)]) (by decide +kernel)) (fun _ _ _ _ _ => (pg_name (i := 9) sc_l_counts.nd rfl (.inl rfl))) (fun _ _ _ _ _ => pts_nil) (fun _ _ _ _ _ => (pe_op op_add (pe_ix (ix_listK (K := K) rfl) (pv 5) (pv 9) (fun _ _ => rfl)) (pe_op op_mul (pv 8) (pe_ix (ix_listK (K := K) rfl) (pv 7) (pv 9) (fun _ _ => rfl))))))))))))
      (pss_one (ps_set (i := 1) sc_l_counts.nd rfl (.inr rfl) (pe_lc (own := [("_law_k", 9)]) (by rfl) sc_l_counts.nd (pi_range1 (by rfl) T.range (pa_cons pe_int pa_nil)) (blkOk_by (N := ["_law_block", "_law_found", "_law_row", "_law_test", "_law_is_half", "_law_own", "_law_part", "_law_inner", "_law_times", "_law_k"]) (sc := defScope s_l_counts) (own := [("_law_k", 9)]) (by decide +kernel)) (fun _ _ _ _ _ => (pg_name (i := 9) sc_l_counts.nd rfl (.inl rfl))) (fun _ _ _ _ _ => pts_nil) (fun _ _ _ _ _ => (pe_op op_add (pe_ix (ix_listK (K := K) rfl) (pv 1) (pv 9) (fun _ _ => rfl)) (pe_ix (ix_listK (K := K) rfl) (pv 5) (pv 9) (fun _ _ => rfl)))))))))))))))
      (pss_one (ps_ret (pv 1))))), ?_⟩
    obtain ⟨ta, vs, rfl, hta, tvs⟩ := tr_tup hT
    rw [Sm.ds_map] at tvs
    have lvs := tvs.length
    rw [List.length_map] at lvs
    walk_at "go"
    intro l0 H0 hl0 e0
    have k0 := new_kp hl0 e0
    have a0 := new_at e0
    have hta0 := k0.tup _ _ hta
    walk_at "go"
    refine ⟨for_tup (K := K) (a := ta) (xs := vs) (fun i σ H1 => Lp (∃ (l1 : Addr) (w2 w3 w4 w5 w6 w7 w8 : Option V), σ = [some (.ref ta), some (.ref l1), w2, w3, w4, w5, w6, w7, w8, none] ∧ H1 l1 = some (.lst (cntL (b.take i))) ∧ Kp [] H H1)) ⟨l0, _, _, _, _, _, _, _, rfl, a0, k0⟩ ?_ ?_ ?_⟩
    · rintro i σ H1 _ ⟨⟨l1, w2, w3, w4, w5, w6, w7, w8, rfl, a1, k1⟩⟩
      exact SqT.of (k1.tup _ _ hta)
    · rintro i x σ H1 hx ⟨⟨l1, w2, w3, w4, w5, w6, w7, w8, rfl, a1, k1⟩⟩
      have hi : i < b.length := by
        have := (List.getElem?_eq_some_iff.mp hx).1
        omega
      have eb : b[i]? = some b[i] := List.getElem?_eq_getElem hi
      have mb : b[i] ∈ b := List.getElem_mem hi
      obtain ⟨x', hx', txx⟩ := tvs.get (i := i) (d := (b[i]).d) (by rw [List.getElem?_map, eb]; rfl)
      rw [hx] at hx'
      cases hx'
      have ok1 := oks_mem hok mb
      have nest1 := Sm.nest_mem mb
      have tk : b.take (i + 1) = b.take i ++ [b[i]] := by rw [List.take_add_one, eb]; rfl
      have pl1 := Sm.pl_mem mb
      generalize b[i] = st at txx ok1 nest1 tk pl1
      have tx1 := k1.tr txx
      walk_at "go"
      refine ⟨⟨fun σ2 H2 => Lp (∃ (o2 : Addr) (w3 w4 : Option V), σ2 = [some (.ref ta), some (.ref l1), some x, w3, w4, some (.ref o2), w6, w7, w8, none] ∧ H2 o2 = some (.lst (ownL st [])) ∧ Kp [] H1 H2), ?_, ?_⟩⟩
      · cases st with
        | set x e =>
          obtain ⟨xa, x1, x2, x3, rfl, hxa, t1, t2, t3⟩ := tr_tup3 tx1
          cases tr_str t1
          walk_at "go"
          intro u2 H2 hu2 e2
          have k2 := new_kp hu2 e2
          have a2 := new_at e2
          have hx2 := k2.tup _ _ hxa
          walk_at "go"
          refine ⟨fun m σ H3 => Lp (σ = [some (.ref ta), some (.ref l1), some (.ref xa), some (.ref u2), w4, w5, w6, w7, w8, none] ∧ H3 = H2), ⟨0, ⟨rfl, rfl⟩⟩, ?_⟩
          rintro m σ H3 ⟨⟨rfl, rfl⟩⟩
          walk_at "go"
          intro u4 H4 hu4 e4
          have k4 := new_kp hu4 e4
          have a4 := new_at e4
          have a24 := k4.tup _ _ a2
          have hx4 := k4.tup _ _ hx2
          refine ⟨u2, u4, _, rfl, rfl, a24, a4, _, rfl, ?_⟩
          refine iteF ?_
          walk_at "go"
          intro u5 H5 hu5 e5
          have k5 := new_kp hu5 e5
          have a5 := new_at e5
          have a25 := k5.tup _ _ a24
          have hx5 := k5.tup _ _ hx4
          refine ⟨u2, u5, _, rfl, rfl, a25, a5, _, rfl, ?_⟩
          refine iteF ?_
          walk_at "go"
          intro u6 H6 hu6 e6
          have k6 := new_kp hu6 e6
          have a6 := new_at e6
          have a26 := k6.tup _ _ a25
          refine ⟨u2, u6, _, rfl, rfl, a26, a6, _, rfl, ?_⟩
          refine iteF ?_
          walk_at "go"
          intro o7 H7 ho7 e7
          have k7 := new_kp ho7 e7
          refine ⟨o7, _, _, rfl, ?_, ((((k2.trans k4).trans k5).trans k6).trans k7)⟩
          rw [ownL_nil]
          exact new_at e7
        | half x e =>
          obtain ⟨xa, x1, x2, x3, rfl, hxa, t1, t2, t3⟩ := tr_tup3 tx1
          cases tr_str t1
          walk_at "go"
          intro u2 H2 hu2 e2
          have k2 := new_kp hu2 e2
          have a2 := new_at e2
          have hx2 := k2.tup _ _ hxa
          walk_at "go"
          refine ⟨fun m σ H3 => Lp (σ = [some (.ref ta), some (.ref l1), some (.ref xa), some (.ref u2), w4, w5, w6, w7, w8, none] ∧ H3 = H2), ⟨0, ⟨rfl, rfl⟩⟩, ?_⟩
          rintro m σ H3 ⟨⟨rfl, rfl⟩⟩
          walk_at "go"
          intro u4 H4 hu4 e4
          have k4 := new_kp hu4 e4
          have a4 := new_at e4
          have a24 := k4.tup _ _ a2
          have hx4 := k4.tup _ _ hx2
          refine ⟨u2, u4, _, rfl, rfl, a24, a4, _, rfl, ?_⟩
          refine iteF ?_
          walk_at "go"
          intro u6 H6 hu6 e6
          have k6 := new_kp hu6 e6
          have a6 := new_at e6
          have a26 := k6.tup _ _ a24
          refine ⟨u2, u6, _, rfl, rfl, a26, a6, _, rfl, ?_⟩
          refine iteF ?_
          walk_at "go"
          intro o7 H7 ho7 e7
          have k7 := new_kp ho7 e7
          refine ⟨o7, _, _, rfl, ?_, (((k2.trans k4).trans k6).trans k7)⟩
          rw [ownL_nil]
          exact new_at e7
        | tell e =>
          obtain ⟨xa, x1, x2, rfl, hxa, t1, t2⟩ := tr_tup2 tx1
          cases tr_str t1
          walk_at "go"
          intro u2 H2 hu2 e2
          have k2 := new_kp hu2 e2
          have a2 := new_at e2
          have hx2 := k2.tup _ _ hxa
          walk_at "go"
          refine ⟨fun m σ H3 => Lp (σ = [some (.ref ta), some (.ref l1), some (.ref xa), some (.ref u2), w4, w5, w6, w7, w8, none] ∧ H3 = H2), ⟨0, ⟨rfl, rfl⟩⟩, ?_⟩
          rintro m σ H3 ⟨⟨rfl, rfl⟩⟩
          walk_at "go"
          intro u4 H4 hu4 e4
          have k4 := new_kp hu4 e4
          have a4 := new_at e4
          have a24 := k4.tup _ _ a2
          have hx4 := k4.tup _ _ hx2
          refine ⟨u2, u4, _, rfl, rfl, a24, a4, _, rfl, ?_⟩
          refine iteF ?_
          walk_at "go"
          intro u5 H5 hu5 e5
          have k5 := new_kp hu5 e5
          have a5 := new_at e5
          have a25 := k5.tup _ _ a24
          have hx5 := k5.tup _ _ hx4
          refine ⟨u2, u5, _, rfl, rfl, a25, a5, _, rfl, ?_⟩
          refine iteF ?_
          walk_at "go"
          intro u6 H6 hu6 e6
          have k6 := new_kp hu6 e6
          have a6 := new_at e6
          have a26 := k6.tup _ _ a25
          refine ⟨u2, u6, _, rfl, rfl, a26, a6, _, rfl, ?_⟩
          refine iteF ?_
          walk_at "go"
          intro o7 H7 ho7 e7
          have k7 := new_kp ho7 e7
          refine ⟨o7, _, _, rfl, ?_, ((((k2.trans k4).trans k5).trans k6).trans k7)⟩
          rw [ownL_nil]
          exact new_at e7
        | say c =>
          obtain ⟨xa, x1, x2, rfl, hxa, t1, t2⟩ := tr_tup2 tx1
          cases tr_str t1
          walk_at "go"
          intro u2 H2 hu2 e2
          have k2 := new_kp hu2 e2
          have a2 := new_at e2
          have hx2 := k2.tup _ _ hxa
          walk_at "go"
          refine ⟨fun m σ H3 => Lp (σ = [some (.ref ta), some (.ref l1), some (.ref xa), some (.ref u2), w4, w5, w6, w7, w8, none] ∧ H3 = H2), ⟨0, ⟨rfl, rfl⟩⟩, ?_⟩
          rintro m σ H3 ⟨⟨rfl, rfl⟩⟩
          walk_at "go"
          intro u4 H4 hu4 e4
          have k4 := new_kp hu4 e4
          have a4 := new_at e4
          have a24 := k4.tup _ _ a2
          have hx4 := k4.tup _ _ hx2
          refine ⟨u2, u4, _, rfl, rfl, a24, a4, _, rfl, ?_⟩
          refine iteF ?_
          walk_at "go"
          intro u5 H5 hu5 e5
          have k5 := new_kp hu5 e5
          have a5 := new_at e5
          have a25 := k5.tup _ _ a24
          have hx5 := k5.tup _ _ hx4
          refine ⟨u2, u5, _, rfl, rfl, a25, a5, _, rfl, ?_⟩
          refine iteF ?_
          walk_at "go"
          intro u6 H6 hu6 e6
          have k6 := new_kp hu6 e6
          have a6 := new_at e6
          have a26 := k6.tup _ _ a25
          refine ⟨u2, u6, _, rfl, rfl, a26, a6, _, rfl, ?_⟩
          refine iteF ?_
          walk_at "go"
          intro o7 H7 ho7 e7
          have k7 := new_kp ho7 e7
          refine ⟨o7, _, _, rfl, ?_, ((((k2.trans k4).trans k5).trans k6).trans k7)⟩
          rw [ownL_nil]
          exact new_at e7
        | stop c =>
          obtain ⟨xa, x1, x2, rfl, hxa, t1, t2⟩ := tr_tup2 tx1
          cases tr_str t1
          walk_at "go"
          intro u2 H2 hu2 e2
          have k2 := new_kp hu2 e2
          have a2 := new_at e2
          have hx2 := k2.tup _ _ hxa
          walk_at "go"
          refine ⟨fun m σ H3 => Lp (σ = [some (.ref ta), some (.ref l1), some (.ref xa), some (.ref u2), w4, w5, w6, w7, w8, none] ∧ H3 = H2), ⟨0, ⟨rfl, rfl⟩⟩, ?_⟩
          rintro m σ H3 ⟨⟨rfl, rfl⟩⟩
          walk_at "go"
          intro u4 H4 hu4 e4
          have k4 := new_kp hu4 e4
          have a4 := new_at e4
          have a24 := k4.tup _ _ a2
          have hx4 := k4.tup _ _ hx2
          refine ⟨u2, u4, _, rfl, rfl, a24, a4, _, rfl, ?_⟩
          refine iteF ?_
          walk_at "go"
          intro u5 H5 hu5 e5
          have k5 := new_kp hu5 e5
          have a5 := new_at e5
          have a25 := k5.tup _ _ a24
          have hx5 := k5.tup _ _ hx4
          refine ⟨u2, u5, _, rfl, rfl, a25, a5, _, rfl, ?_⟩
          refine iteF ?_
          walk_at "go"
          intro u6 H6 hu6 e6
          have k6 := new_kp hu6 e6
          have a6 := new_at e6
          have a26 := k6.tup _ _ a25
          refine ⟨u2, u6, _, rfl, rfl, a26, a6, _, rfl, ?_⟩
          refine iteF ?_
          walk_at "go"
          intro o7 H7 ho7 e7
          have k7 := new_kp ho7 e7
          refine ⟨o7, _, _, rfl, ?_, ((((k2.trans k4).trans k5).trans k6).trans k7)⟩
          rw [ownL_nil]
          exact new_at e7
        | rep k bb =>
          obtain ⟨xa, x1, x2, x3, rfl, hxa, t1, t2, t3⟩ := tr_tup3 tx1
          cases tr_str t1
          walk_at "go"
          intro u2 H2 hu2 e2
          have k2 := new_kp hu2 e2
          have a2 := new_at e2
          have hx2 := k2.tup _ _ hxa
          walk_at "go"
          refine ⟨fun m σ H3 => Lp (σ = [some (.ref ta), some (.ref l1), some (.ref xa), some (.ref u2), w4, w5, w6, w7, w8, none] ∧ H3 = H2), ⟨0, ⟨rfl, rfl⟩⟩, ?_⟩
          rintro m σ H3 ⟨⟨rfl, rfl⟩⟩
          walk_at "go"
          intro u4 H4 hu4 e4
          have k4 := new_kp hu4 e4
          have a4 := new_at e4
          have a24 := k4.tup _ _ a2
          have hx4 := k4.tup _ _ hx2
          refine ⟨u2, u4, _, rfl, rfl, a24, a4, _, rfl, ?_⟩
          refine iteF ?_
          walk_at "go"
          intro u5 H5 hu5 e5
          have k5 := new_kp hu5 e5
          have a5 := new_at e5
          have a25 := k5.tup _ _ a24
          have hx5 := k5.tup _ _ hx4
          refine ⟨u2, u5, _, rfl, rfl, a25, a5, _, rfl, ?_⟩
          refine iteF ?_
          walk_at "go"
          intro u6 H6 hu6 e6
          have k6 := new_kp hu6 e6
          have a6 := new_at e6
          have a26 := k6.tup _ _ a25
          refine ⟨u2, u6, _, rfl, rfl, a26, a6, _, rfl, ?_⟩
          refine iteF ?_
          walk_at "go"
          intro o7 H7 ho7 e7
          have k7 := new_kp ho7 e7
          refine ⟨o7, _, _, rfl, ?_, ((((k2.trans k4).trans k5).trans k6).trans k7)⟩
          rw [ownL_nil]
          exact new_at e7
        | ite t y n =>
          obtain ⟨xa, x1, x2, x3, x4, rfl, hxa, t1, t2, t3, t4⟩ := tr_tup4 tx1
          cases tr_str t1
          walk_at "go"
          refine ⟨fun m σ H3 => Lp (∃ (v3 : V) (t' : Ts), σ = [some (.ref ta), some (.ref l1), some (.ref xa), some v3, w4, w5, w6, w7, w8, none] ∧ t'.nots = m ∧ t'.isOdd = t.isOdd ∧ Tr H3 t'.d v3 ∧ H3 xa = some (.tup [.str "if", x2, x3, x4]) ∧ Kp [] H1 H3), ⟨t.nots, ⟨x2, t, rfl, rfl, rfl, t2, hxa, Kp.refl⟩⟩, ?_⟩
          rintro m σ H3 ⟨⟨v3, t', rfl, rfl, od3, tv3, hxa3, k3⟩⟩
          walk_at "go"
          rcases base_cases t' with ⟨ea, eb, rfl, io⟩ | ⟨ea, rfl, io⟩ | ⟨t'', rfl⟩
          · obtain ⟨va, y1, y2, y3, rfl, hva, s1, s2, s3⟩ := tr_tup3 tv3
            cases tr_str s1
            have hva3 : H3 va = some (.tup (.str "less" :: [y2, y3])) := hva
            intro u4 H4 hu4 e4
            have k4 := new_kp hu4 e4
            have a4 := new_at e4
            have b4 := k4.tup _ _ hva
            have hx4 := k4.tup _ _ hxa3
            refine ⟨va, u4, _, rfl, rfl, b4, a4, _, rfl, ?_⟩
            refine iteT ?_
            walk_at "go"
            intro u5 H5 hu5 e5
            have k5 := new_kp hu5 e5
            have a5 := new_at e5
            have b5 := k5.tup _ _ b4
            have hx5 := k5.tup _ _ hx4
            refine ⟨va, u5, _, rfl, rfl, b5, a5, _, rfl, ?_⟩
            refine iteT ?_
            walk_at "go"
            intro u6 H6 hu6 e6
            have k6 := new_kp hu6 e6
            have a6 := new_at e6
            have b6 := k6.tup _ _ b5
            refine ⟨va, u6, _, rfl, rfl, b6, a6, _, rfl, ?_⟩
            refine iteT ?_
            walk_at "go"
            intro o7 H7 ho7 e7
            have k7 := new_kp ho7 e7
            refine ⟨o7, _, _, rfl, ?_, ((((k3.trans k4).trans k5).trans k6).trans k7)⟩
            rw [ownL_nil]
            have eo : oh (.ite t y n) = 0 ∧ oc (.ite t y n) = 1 := by
              simp only [oh, oc, ← od3, io]
              decide
            rw [eo.1, eo.2]
            exact new_at e7
          · obtain ⟨va, y1, y2, rfl, hva, s1, s2⟩ := tr_tup2 tv3
            cases tr_str s1
            have hva3 : H3 va = some (.tup (.str "odd" :: [y2])) := hva
            intro u4 H4 hu4 e4
            have k4 := new_kp hu4 e4
            have a4 := new_at e4
            have b4 := k4.tup _ _ hva
            have hx4 := k4.tup _ _ hxa3
            refine ⟨va, u4, _, rfl, rfl, b4, a4, _, rfl, ?_⟩
            refine iteT ?_
            walk_at "go"
            intro u5 H5 hu5 e5
            have k5 := new_kp hu5 e5
            have a5 := new_at e5
            have b5 := k5.tup _ _ b4
            have hx5 := k5.tup _ _ hx4
            refine ⟨va, u5, _, rfl, rfl, b5, a5, _, rfl, ?_⟩
            refine iteT ?_
            walk_at "go"
            intro u6 H6 hu6 e6
            have k6 := new_kp hu6 e6
            have a6 := new_at e6
            have b6 := k6.tup _ _ b5
            refine ⟨va, u6, _, rfl, rfl, b6, a6, _, rfl, ?_⟩
            refine iteT ?_
            walk_at "go"
            intro o7 H7 ho7 e7
            have k7 := new_kp ho7 e7
            refine ⟨o7, _, _, rfl, ?_, ((((k3.trans k4).trans k5).trans k6).trans k7)⟩
            rw [ownL_nil]
            have eo : oh (.ite t y n) = 1 ∧ oc (.ite t y n) = 0 := by
              simp only [oh, oc, ← od3, io]
              decide
            rw [eo.1, eo.2]
            exact new_at e7
          · obtain ⟨va, y1, y2, rfl, hva, s1, s2⟩ := tr_tup2 tv3
            cases tr_str s1
            intro u4 H4 hu4 e4
            have k4 := new_kp hu4 e4
            have a4 := new_at e4
            have b4 := k4.tup _ _ hva
            have hx4 := k4.tup _ _ hxa3
            refine ⟨va, u4, _, rfl, rfl, b4, a4, _, rfl, ?_⟩
            refine iteT ?_
            refine ⟨_, rfl, va, _, 0, _, rfl, rfl, SqT.of b4, atI_nat (j := 0) rfl, ?_⟩
            refine ⟨rfl, _, rfl, ?_⟩
            refine iteT ?_
            refine ⟨fun σ H3 => Lp (∃ (v3 : V) (t' : Ts), σ = [some (.ref ta), some (.ref l1), some (.ref xa), some v3, w4, w5, w6, w7, w8, none] ∧ t'.nots = t''.nots ∧ t'.isOdd = t.isOdd ∧ Tr H3 t'.d v3 ∧ H3 xa = some (.tup [.str "if", x2, x3, x4]) ∧ Kp [] H1 H3), fun σ' H' x => ⟨t''.nots, by show t''.nots < t''.nots + 1; omega, x⟩, ?_⟩
            walk_at "go"
            exact ⟨y2, t'', rfl, rfl, od3, k4.tr s2, hx4, k3.trans k4⟩
      · rintro σ2 H2 ⟨⟨o2, w3, w4, rfl, a2, k2⟩⟩
        have tx2 := k2.tr tx1
        have k12 := k1.trans k2
        have bn : ∀ bb ∈ st.blks, Sm.nests bb + 1 ≤ st.nest := fun bb h => Sm.blk_nest h
        have bp : ∀ bb ∈ st.blks, Sm.pls bb + 1 ≤ st.pl := fun bb h => Sm.blk_pls h
        have bo : ∀ bb ∈ st.blks, Sm.oks bb := fun bb h => ok_blk ok1 h
        have lb := Sm.blks_le st
        refine ⟨⟨fun σ3 H3 => Lp (∃ (o3 : Addr) (w6 w7 w8 : Option V), σ3 = [some (.ref ta), some (.ref l1), some x, w3, w4, some (.ref o3), w6, w7, w8, none] ∧ H3 o3 = some (.lst (ownL st st.blks)) ∧ Kp [] H2 H3), ?_, ?_⟩⟩
        · rcases Sm.kw_in st with ⟨kin, npl⟩ | ⟨kin, pln⟩
          · cases st with
            | set _ _ => exact absurd trivial npl
            | half _ _ => exact absurd trivial npl
            | tell _ => exact absurd trivial npl
            | say _ => exact absurd trivial npl
            | stop _ => exact absurd trivial npl
            | ite t0 y0 n0 =>
              obtain ⟨xa, x1, x2, x3, x4, rfl, hxa2, t1, t2, t3, t4⟩ := tr_tup4 tx2
              cases tr_str t1
              walk_at "go"
              intro u4 H4 hu4 e4
              have k4 := new_kp hu4 e4
              have a4 := new_at e4
              have hx4 := k4.tup _ _ hxa2
              walk_at "go"
              intro p5 H5 a5 k45
              have k5 := k4.trans k45
              replace a5 : H5 p5 = some (.tup [x3, x4]) := a5
              have ta5 : TrAll H5 ((Sm.ite t0 y0 n0).blks.map fun bb => .tuple (Sm.ds bb)) [x3, x4] := trs_cons (k5.tr t3) (trs_cons (k5.tr t4) trs_nil)
              have hx5 := k5.tup _ _ hxa2
              have a25 := k5.at a2
              refine ⟨p5, rfl, ⟨_, SqT.of a5⟩, ⟨for_tup (K := K) (a := p5) (xs := [x3, x4]) (fun j σ H6 => Lp (∃ (o6 : Addr) (w6 w7 w8 : Option V), σ = [some (.ref ta), some (.ref l1), some (.ref xa), w3, w4, some (.ref o6), w6, w7, w8, none] ∧ H6 o6 = some (.lst (ownL (Sm.ite t0 y0 n0) ((Sm.ite t0 y0 n0).blks.take j))) ∧ Kp [] H5 H6)) ⟨o2, _, _, _, rfl, a25, Kp.refl⟩ ?_ ?_ ?_⟩⟩
              · rintro j σ H6 _ ⟨⟨o6, w6, w7, w8, rfl, a6, k6⟩⟩
                exact SqT.of (k6.tup _ _ a5)
              · rintro j y σ H6 hy ⟨⟨o6, w6, w7, w8, rfl, a6, k6⟩⟩
                have hj : j < (Sm.ite t0 y0 n0).blks.length := by
                  have := (List.getElem?_eq_some_iff.mp hy).1
                  exact this
                have ej : (Sm.ite t0 y0 n0).blks[j]? = some (Sm.ite t0 y0 n0).blks[j] := List.getElem?_eq_getElem hj
                have mj : (Sm.ite t0 y0 n0).blks[j] ∈ (Sm.ite t0 y0 n0).blks := List.getElem_mem hj
                obtain ⟨y', hy', tyy⟩ := ta5.get (i := j) (d := .tuple (Sm.ds (Sm.ite t0 y0 n0).blks[j])) (by rw [List.getElem?_map, ej]; rfl)
                rw [hy] at hy'
                cases hy'
                have tkj : (Sm.ite t0 y0 n0).blks.take (j + 1) = (Sm.ite t0 y0 n0).blks.take j ++ [(Sm.ite t0 y0 n0).blks[j]] := by rw [List.take_add_one, ej]; rfl
                have n1 := bn _ mj
                have p1 := bp _ mj
                have o1 := bo _ mj
                generalize (Sm.ite t0 y0 n0).blks[j] = bj at tyy tkj n1 p1 o1
                obtain ⟨n', en⟩ : ∃ n', n = n' + 1 := ⟨n - 1, by omega⟩
                have n2 : Sm.nests bj ≤ n' := by omega
                have p2 : Sm.pls bj ≤ 1000000 := by omega
                have ty6 := k6.tr tyy
                have hx6 := k6.tup _ _ hx5
                walk_at "go"
                intro li H7 ai k7
                have hx7 := k7.tup _ _ hx6
                have a67 := k7.at a6
                walk_at "go"
                intro tu H8 htu e8
                have k8 := new_kp htu e8
                have a8 := new_at e8
                have ai8 := k8.at ai
                have a68 := k8.at a67
                walk_at "go"
                intro l9 H9 hl9 e9
                have k9 := new_kp hl9 e9
                have a9 := new_at e9
                have ai9 := k9.at ai8
                have a69 := k9.at a68
                walk_at "go"
                intro D hD
                have key : ∀ i : Nat, i < 3 → ∃ p q : Int, atI (ownL (Sm.ite t0 y0 n0) ((Sm.ite t0 y0 n0).blks.take j)) (1 + (i : Int)) = some (.int p) ∧ atI (cntL bj) (1 + (i : Int)) = some (.int q) ∧ (ownL (Sm.ite t0 y0 n0) ((Sm.ite t0 y0 n0).blks.take (j + 1)))[i + 1]? = some (.int (p + 1 * q)) := by
                  intro i hi
                  rw [tkj]
                  rcases (show i = 0 ∨ i = 1 ∨ i = 2 by omega) with rfl | rfl | rfl
                  · refine ⟨_, _, atI_nat (j := 1) rfl, atI_nat (j := 1) rfl, congrArg (fun z => some (V.int z)) ?_⟩
                    show (1 : Int) + ((Sm.ite t0 y0 n0).tms : Int) * smI Sm.wts (_ ++ [bj]) = 1 + ((Sm.ite t0 y0 n0).tms : Int) * smI Sm.wts _ + 1 * (Sm.wts bj : Int)
                    rw [smI_app, Int.mul_add, Int.add_assoc]
                    rfl
                  · refine ⟨_, _, atI_nat (j := 2) rfl, atI_nat (j := 2) rfl, congrArg (fun z => some (V.int z)) ?_⟩
                    show (oh (Sm.ite t0 y0 n0) : Int) + ((Sm.ite t0 y0 n0).tms : Int) * smI Sm.hvs (_ ++ [bj]) = oh (Sm.ite t0 y0 n0) + ((Sm.ite t0 y0 n0).tms : Int) * smI Sm.hvs _ + 1 * (Sm.hvs bj : Int)
                    rw [smI_app, Int.mul_add, Int.add_assoc]
                    rfl
                  · refine ⟨_, _, atI_nat (j := 3) rfl, atI_nat (j := 3) rfl, congrArg (fun z => some (V.int z)) ?_⟩
                    show (oc (Sm.ite t0 y0 n0) : Int) + ((Sm.ite t0 y0 n0).tms : Int) * smI Sm.cps (_ ++ [bj]) = oc (Sm.ite t0 y0 n0) + ((Sm.ite t0 y0 n0).tms : Int) * smI Sm.cps _ + 1 * (Sm.cps bj : Int)
                    rw [smI_app, Int.mul_add, Int.add_assoc]
                    rfl
                have key0 : ownL (Sm.ite t0 y0 n0) ((Sm.ite t0 y0 n0).blks.take (j + 1)) = .int (1 + smI Sm.pls ((Sm.ite t0 y0 n0).blks.take j) + (Sm.pls bj : Int)) :: (ownL (Sm.ite t0 y0 n0) ((Sm.ite t0 y0 n0).blks.take (j + 1))).drop 1 := by
                  rw [tkj]
                  show V.int (1 + smI Sm.pls (_ ++ [bj])) :: _ = _
                  rw [smI_app, Int.add_assoc]
                  rfl
                have key1 : (ownL (Sm.ite t0 y0 n0) ((Sm.ite t0 y0 n0).blks.take (j + 1))).length = 4 := rfl
                clear tkj
                generalize ownL (Sm.ite t0 y0 n0) ((Sm.ite t0 y0 n0).blks.take (j + 1)) = L at key key0 key1 ⊢
                refine lc_range (lo := 1) (n := 3) (fun i X => Lp (Kp [D] H9 X ∧ X D = some (.lst ((L.drop 1).take i)))) ⟨(Kp.new hD).sub (by simp), upd_same⟩ ?_ ?_
                · rintro i X hi ⟨⟨kX, dX⟩⟩
                  have hi3 : i < 3 := hi
                  obtain ⟨pp, qq, e1, e2, e3⟩ := key i hi3
                  have aX := kX.keep _ _ a69 (ne1 (ne_of_none a69 hD))
                  have bX := kX.keep _ _ ai9 (ne1 (ne_of_none ai9 hD))
                  have lu : ((L.drop 1).take i).length < sizeLine := by
                    rw [List.length_take]
                    exact sz_lt (by omega)
                  have cm : CMul 1 qq := .inl ⟨by omega, by omega⟩
                  walk_at "go"
                  have k6 := Kp.put (u := .lst ((L.drop 1).take i ++ [.int (pp + 1 * qq)])) dX (fun _ y => by cases y)
                  refine ⟨⟨kX.step1 k6 (.inl (by simp)), ?_⟩⟩
                  rw [upd_same, List.take_add_one, List.getElem?_drop, Nat.add_comm 1 i, e3]
                  rfl
                · rintro X ⟨⟨kX, dX⟩⟩
                  have kX' : Kp [] H9 X := Kp.refl.step1 kX (.inr hD)
                  have a9X := kX.keep _ _ a9 (ne1 (ne_of_none a9 hD))
                  have ls : [V.int 0].length + ((L.drop 1).take 3).length ≤ sizeLine := by
                    rw [List.length_take]
                    exact sz_le (by simp only [List.length_singleton]; omega)
                  refine ⟨l9, D, _, _, rfl, rfl, a9X, dX, ls, ?_⟩
                  intro p10 H10 hp10 a10 k10
                  refine ⟨p10, _, _, _, rfl, ?_, ((((k6.trans k7).trans k8).trans k9).trans kX').trans k10⟩
                  have t3' : (L.drop 1).take 3 = L.drop 1 := List.take_of_length_le (by rw [List.length_drop, key1]; exact Nat.le_refl _)
                  rw [a10]
                  refine congrArg (fun z => some (HO.lst z)) ?_
                  show _ :: List.take 3 (List.drop 1 L) = L
                  rw [t3']
                  exact key0.symm
              · rintro σ H6 ⟨⟨o6, w6, w7, w8, rfl, a6, k6⟩⟩
                have a6' : H6 o6 = some (.lst (ownL (Sm.ite t0 y0 n0) (Sm.ite t0 y0 n0).blks)) := a6
                exact ⟨o6, _, _, _, rfl, a6', k5.trans k6⟩
            | rep k0 bb =>
              obtain ⟨xa, x1, x2, x3, rfl, hxa2, t1, t2, t3⟩ := tr_tup3 tx2
              cases tr_str t1
              cases tr_int t2
              have k08 : k0 ≤ 8 := by
                simp only [Sm.ok] at ok1
                exact ok1.1
              walk_at "go"
              intro u4 H4 hu4 e4
              have k4 := new_kp hu4 e4
              have a4 := new_at e4
              have hx4 := k4.tup _ _ hxa2
              walk_at "go"
              intro p5 H5 a5 k45
              have k5 := k4.trans k45
              replace a5 : H5 p5 = some (.tup [x3]) := a5
              have ta5 : TrAll H5 ((Sm.rep k0 bb).blks.map fun bb => .tuple (Sm.ds bb)) [x3] := trs_cons (k5.tr t3) trs_nil
              have hx5 := k5.tup _ _ hxa2
              have a25 := k5.at a2
              refine ⟨p5, rfl, ⟨_, SqT.of a5⟩, ⟨for_tup (K := K) (a := p5) (xs := [x3]) (fun j σ H6 => Lp (∃ (o6 : Addr) (w6 w7 w8 : Option V), σ = [some (.ref ta), some (.ref l1), some (.ref xa), w3, w4, some (.ref o6), w6, w7, w8, none] ∧ H6 o6 = some (.lst (ownL (Sm.rep k0 bb) ((Sm.rep k0 bb).blks.take j))) ∧ Kp [] H5 H6)) ⟨o2, _, _, _, rfl, a25, Kp.refl⟩ ?_ ?_ ?_⟩⟩
              · rintro j σ H6 _ ⟨⟨o6, w6, w7, w8, rfl, a6, k6⟩⟩
                exact SqT.of (k6.tup _ _ a5)
              · rintro j y σ H6 hy ⟨⟨o6, w6, w7, w8, rfl, a6, k6⟩⟩
                have hj : j < (Sm.rep k0 bb).blks.length := by
                  have := (List.getElem?_eq_some_iff.mp hy).1
                  exact this
                have ej : (Sm.rep k0 bb).blks[j]? = some (Sm.rep k0 bb).blks[j] := List.getElem?_eq_getElem hj
                have mj : (Sm.rep k0 bb).blks[j] ∈ (Sm.rep k0 bb).blks := List.getElem_mem hj
                obtain ⟨y', hy', tyy⟩ := ta5.get (i := j) (d := .tuple (Sm.ds (Sm.rep k0 bb).blks[j])) (by rw [List.getElem?_map, ej]; rfl)
                rw [hy] at hy'
                cases hy'
                have tkj : (Sm.rep k0 bb).blks.take (j + 1) = (Sm.rep k0 bb).blks.take j ++ [(Sm.rep k0 bb).blks[j]] := by rw [List.take_add_one, ej]; rfl
                have n1 := bn _ mj
                have p1 := bp _ mj
                have o1 := bo _ mj
                generalize (Sm.rep k0 bb).blks[j] = bj at tyy tkj n1 p1 o1
                obtain ⟨n', en⟩ : ∃ n', n = n' + 1 := ⟨n - 1, by omega⟩
                have n2 : Sm.nests bj ≤ n' := by omega
                have p2 : Sm.pls bj ≤ 1000000 := by omega
                have ty6 := k6.tr tyy
                have hx6 := k6.tup _ _ hx5
                walk_at "go"
                intro li H7 ai k7
                have hx7 := k7.tup _ _ hx6
                have a67 := k7.at a6
                walk_at "go"
                intro tu H8 htu e8
                have k8 := new_kp htu e8
                have a8 := new_at e8
                have ai8 := k8.at ai
                have a68 := k8.at a67
                walk_at "go"
                intro l9 H9 hl9 e9
                have k9 := new_kp hl9 e9
                have a9 := new_at e9
                have ai9 := k9.at ai8
                have a69 := k9.at a68
                walk_at "go"
                intro D hD
                have key : ∀ i : Nat, i < 3 → ∃ p q : Int, atI (ownL (Sm.rep k0 bb) ((Sm.rep k0 bb).blks.take j)) (1 + (i : Int)) = some (.int p) ∧ atI (cntL bj) (1 + (i : Int)) = some (.int q) ∧ (ownL (Sm.rep k0 bb) ((Sm.rep k0 bb).blks.take (j + 1)))[i + 1]? = some (.int (p + (k0 : Int) * q)) := by
                  intro i hi
                  rw [tkj]
                  rcases (show i = 0 ∨ i = 1 ∨ i = 2 by omega) with rfl | rfl | rfl
                  · refine ⟨_, _, atI_nat (j := 1) rfl, atI_nat (j := 1) rfl, congrArg (fun z => some (V.int z)) ?_⟩
                    show (1 : Int) + ((Sm.rep k0 bb).tms : Int) * smI Sm.wts (_ ++ [bj]) = 1 + ((Sm.rep k0 bb).tms : Int) * smI Sm.wts _ + (k0 : Int) * (Sm.wts bj : Int)
                    rw [smI_app, Int.mul_add, Int.add_assoc]
                    rfl
                  · refine ⟨_, _, atI_nat (j := 2) rfl, atI_nat (j := 2) rfl, congrArg (fun z => some (V.int z)) ?_⟩
                    show (oh (Sm.rep k0 bb) : Int) + ((Sm.rep k0 bb).tms : Int) * smI Sm.hvs (_ ++ [bj]) = oh (Sm.rep k0 bb) + ((Sm.rep k0 bb).tms : Int) * smI Sm.hvs _ + (k0 : Int) * (Sm.hvs bj : Int)
                    rw [smI_app, Int.mul_add, Int.add_assoc]
                    rfl
                  · refine ⟨_, _, atI_nat (j := 3) rfl, atI_nat (j := 3) rfl, congrArg (fun z => some (V.int z)) ?_⟩
                    show (oc (Sm.rep k0 bb) : Int) + ((Sm.rep k0 bb).tms : Int) * smI Sm.cps (_ ++ [bj]) = oc (Sm.rep k0 bb) + ((Sm.rep k0 bb).tms : Int) * smI Sm.cps _ + (k0 : Int) * (Sm.cps bj : Int)
                    rw [smI_app, Int.mul_add, Int.add_assoc]
                    rfl
                have key0 : ownL (Sm.rep k0 bb) ((Sm.rep k0 bb).blks.take (j + 1)) = .int (1 + smI Sm.pls ((Sm.rep k0 bb).blks.take j) + (Sm.pls bj : Int)) :: (ownL (Sm.rep k0 bb) ((Sm.rep k0 bb).blks.take (j + 1))).drop 1 := by
                  rw [tkj]
                  show V.int (1 + smI Sm.pls (_ ++ [bj])) :: _ = _
                  rw [smI_app, Int.add_assoc]
                  rfl
                have key1 : (ownL (Sm.rep k0 bb) ((Sm.rep k0 bb).blks.take (j + 1))).length = 4 := rfl
                clear tkj
                generalize ownL (Sm.rep k0 bb) ((Sm.rep k0 bb).blks.take (j + 1)) = L at key key0 key1 ⊢
                refine lc_range (lo := 1) (n := 3) (fun i X => Lp (Kp [D] H9 X ∧ X D = some (.lst ((L.drop 1).take i)))) ⟨(Kp.new hD).sub (by simp), upd_same⟩ ?_ ?_
                · rintro i X hi ⟨⟨kX, dX⟩⟩
                  have hi3 : i < 3 := hi
                  obtain ⟨pp, qq, e1, e2, e3⟩ := key i hi3
                  have aX := kX.keep _ _ a69 (ne1 (ne_of_none a69 hD))
                  have bX := kX.keep _ _ ai9 (ne1 (ne_of_none ai9 hD))
                  have lu : ((L.drop 1).take i).length < sizeLine := by
                    rw [List.length_take]
                    exact sz_lt (by omega)
                  have cm : CMul (k0 : Int) qq := .inl ⟨by omega, by omega⟩
                  walk_at "go"
                  have k6 := Kp.put (u := .lst ((L.drop 1).take i ++ [.int (pp + (k0 : Int) * qq)])) dX (fun _ y => by cases y)
                  refine ⟨⟨kX.step1 k6 (.inl (by simp)), ?_⟩⟩
                  rw [upd_same, List.take_add_one, List.getElem?_drop, Nat.add_comm 1 i, e3]
                  rfl
                · rintro X ⟨⟨kX, dX⟩⟩
                  have kX' : Kp [] H9 X := Kp.refl.step1 kX (.inr hD)
                  have a9X := kX.keep _ _ a9 (ne1 (ne_of_none a9 hD))
                  have ls : [V.int 0].length + ((L.drop 1).take 3).length ≤ sizeLine := by
                    rw [List.length_take]
                    exact sz_le (by simp only [List.length_singleton]; omega)
                  refine ⟨l9, D, _, _, rfl, rfl, a9X, dX, ls, ?_⟩
                  intro p10 H10 hp10 a10 k10
                  refine ⟨p10, _, _, _, rfl, ?_, ((((k6.trans k7).trans k8).trans k9).trans kX').trans k10⟩
                  have t3' : (L.drop 1).take 3 = L.drop 1 := List.take_of_length_le (by rw [List.length_drop, key1]; exact Nat.le_refl _)
                  rw [a10]
                  refine congrArg (fun z => some (HO.lst z)) ?_
                  show _ :: List.take 3 (List.drop 1 L) = L
                  rw [t3']
                  exact key0.symm
              · rintro σ H6 ⟨⟨o6, w6, w7, w8, rfl, a6, k6⟩⟩
                have a6' : H6 o6 = some (.lst (ownL (Sm.rep k0 bb) (Sm.rep k0 bb).blks)) := a6
                exact ⟨o6, _, _, _, rfl, a6', k5.trans k6⟩
          · obtain ⟨xa, rest, rfl, hxa2⟩ := Sm.head tx2
            have eb : st.blks = [] := by cases st <;> first | rfl | exact absurd pln id
            walk_at "go"
            intro u4 H4 hu4 e4
            have k4 := new_kp hu4 e4
            have a4 := new_at e4
            refine ⟨_, _, rfl, .inr (SqT.of a4), rfl, rfl, _, rfl, ?_⟩
            have ei : (if false = true then !inV (.str st.kw) [.str "if", .str "repeat"] else inV (.str st.kw) [.str "if", .str "repeat"]) = false := by
              rw [if_neg Bool.false_ne_true]
              exact kin
            show (fun (c : Bool) (H3 : Hp) => _) (if false = true then !inV (.str st.kw) [.str "if", .str "repeat"] else inV (.str st.kw) [.str "if", .str "repeat"]) H4
            rw [ei]
            refine iteF ?_
            walk_at "go"
            intro p5 H5 hp5 e5
            have k5 := new_kp hp5 e5
            have a5 := new_at e5
            have a25 := k5.at (k4.at a2)
            refine ⟨p5, rfl, ⟨_, SqT.of a5⟩, ⟨for_tup (K := K) (a := p5) (xs := []) (fun j σ H6 => Lp (σ = [some (.ref ta), some (.ref l1), some (.ref xa), w3, w4, some (.ref o2), w6, w7, w8, none] ∧ H6 = H5)) ⟨rfl, rfl⟩ ?_ ?_ ?_⟩⟩
            · rintro j σ H6 _ ⟨⟨rfl, rfl⟩⟩
              exact SqT.of a5
            · rintro j y σ H6 hy _
              cases hy
            · rintro σ H6 ⟨⟨rfl, rfl⟩⟩
              refine ⟨o2, _, _, _, rfl, ?_, k4.trans k5⟩
              rw [eb]
              exact a25
        · rintro σ3 H3 ⟨⟨o3, w6, w7, w8, rfl, a3, k3⟩⟩
          rw [ownL_all] at a3
          have k13 := k12.trans k3
          have a13 := (k2.trans k3).at a1
          walk_at "go"
          intro D hD
          have key : ∀ j : Nat, j < 4 → ∃ p q : Int, atI (cntL (b.take i)) (0 + (j : Int)) = some (.int p) ∧ atI [V.int (st.pl : Int), .int (st.wt : Int), .int (st.hv : Int), .int (st.cp : Int)] (0 + (j : Int)) = some (.int q) ∧ (addL (b.take i) st)[j]? = some (.int (p + q)) := by
            intro j hj
            rcases (show j = 0 ∨ j = 1 ∨ j = 2 ∨ j = 3 by omega) with rfl | rfl | rfl | rfl
            · exact ⟨_, _, atI_nat (j := 0) rfl, atI_nat (j := 0) rfl, rfl⟩
            · exact ⟨_, _, atI_nat (j := 1) rfl, atI_nat (j := 1) rfl, rfl⟩
            · exact ⟨_, _, atI_nat (j := 2) rfl, atI_nat (j := 2) rfl, rfl⟩
            · exact ⟨_, _, atI_nat (j := 3) rfl, atI_nat (j := 3) rfl, rfl⟩
          refine lc_range (lo := 0) (n := Int.toNat 4) (fun j X => Lp (Kp [D] H3 X ∧ X D = some (.lst ((addL (b.take i) st).take j)))) ⟨(Kp.new hD).sub (by simp), upd_same⟩ ?_ ?_
          · rintro j X hj ⟨⟨kX, dX⟩⟩
            have hj4 : j < 4 := hj
            obtain ⟨p, q0, e1, e2, e3⟩ := key j hj4
            have aX := kX.keep _ _ a13 (ne1 (ne_of_none a13 hD))
            have bX := kX.keep _ _ a3 (ne1 (ne_of_none a3 hD))
            have lu : ((addL (b.take i) st).take j).length < sizeLine := by
              rw [List.length_take]
              exact sz_lt (by omega)
            walk_at "go"
            have k6 := Kp.put (u := .lst ((addL (b.take i) st).take j ++ [.int (p + q0)])) dX (fun _ y => by cases y)
            refine ⟨⟨kX.step1 k6 (.inl (by simp)), ?_⟩⟩
            rw [upd_same, List.take_add_one, e3]
            rfl
          · rintro X ⟨⟨kX, dX⟩⟩
            have kX' : Kp [] H3 X := Kp.refl.step1 kX (.inr hD)
            refine ⟨D, _, _, _, _, _, _, _, rfl, ?_, k13.trans kX'⟩
            rw [tk, ← addL_eq]
            exact dX
    · rintro σ H1 ⟨⟨l1, w2, w3, w4, w5, w6, w7, w8, rfl, a1, k1⟩⟩
      rw [lvs, List.take_length] at a1
      walk_at "go"
      exact q l1 H1 a1 k1
end
section
variable {P : Program} {w : World} {K : PySem.W.Frag} {mg : Str → Option Value} {base : Heap}
end
section
variable {P : Program} {w : World} {K : PySem.W.Frag} {mg : Str → Option Value} {base : Heap}
end
section
variable {P : Program} {w : World} {K : PySem.W.Frag} {mg : Str → Option Value} {base : Heap}
end
section
variable {P : Program} {w : World} {K : PySem.W.Frag} {mg : Str → Option Value} {base : Heap}
end
section
variable {P : Program} {w : World} {K : PySem.W.Frag} {mg : Str → Option Value} {base : Heap}
theorem ok_blocks_ofD (T : Top K mg) {k : Nat} : FnOk P w K mg base CX0 (k + 1) T.blocks_of.f T.blocks_of.fd ["statement"] spBlocksD := by
  refine T.blocks_of.F.ok sc_blocks_of (fun vs H Q E h => ?_) (fun cdv A outer s H vs Q E hr h => ?_)
  · obtain ⟨v, s, rfl, _⟩ := h
    rfl
  obtain ⟨v, d, rfl, hT, hd, q⟩ := h
  refine ⟨_, (pss_cons (ps_if (pt_cmpR op_eq (pe_ix (ix_tupK (K := K) rfl) (pv 0) pe_int (fun _ _ => rfl)) pe_str (nomark _)) (pss_one (ps_ret (pe_lstA (pa_cons (pe_ix (ix_tupK (K := K) rfl) (pv 0) pe_int (fun _ _ => rfl)) (pa_cons (pe_ix (ix_tupK (K := K) rfl) (pv 0) pe_int (fun _ _ => rfl)) pa_nil))))) pss_nil)
      (pss_one (ps_ret (pe_ifExp (pt_cmpR op_eq (pe_ix (ix_tupK (K := K) rfl) (pv 0) pe_int (fun _ _ => rfl)) pe_str (nomark _)) (pe_lstA (pa_cons (pe_ix (ix_tupK (K := K) rfl) (pv 0) pe_int (fun _ _ => rfl)) pa_nil)) (pe_lstA pa_nil))))), ?_⟩
  rcases hd with ⟨t, y, n, rfl⟩ | ⟨k, b, rfl⟩ | ⟨w, ds, rfl, n1, n2, eb⟩
  · obtain ⟨p, x1, x2, x3, x4, rfl, h1, t1, t2, t3, t4⟩ := tr_tup4 hT
    cases tr_str t1
    walk_at "go"
    intro r H1 hr1 e1
    have k1 := new_kp hr1 e1
    refine q r _ H1 hr1 (new_at e1) ?_ k1
    show TrAll H1 (if ("if" : Str) = "if" then [.tuple y, .tuple n] else []) _
    rw [if_pos rfl]
    exact trs_cons (k1.tr t3) (trs_cons (k1.tr t4) trs_nil)
  · obtain ⟨p, x1, x2, x3, rfl, h1, t1, t2, t3⟩ := tr_tup3 hT
    cases tr_str t1
    walk_at "go"
    intro r H1 hr1 e1
    have k1 := new_kp hr1 e1
    refine q r _ H1 hr1 (new_at e1) ?_ k1
    show TrAll H1 (if ("repeat" : Str) = "repeat" then [.tuple b] else []) _
    rw [if_pos rfl]
    exact trs_cons (k1.tr t3) trs_nil
  · obtain ⟨a, xs, rfl, h1, h2⟩ := tr_tup hT
    simp only [TrAll] at h2
    obtain ⟨x1, xs, rfl, t1, h2⟩ := h2
    cases tr_str t1
    rw [eb] at q
    walk_at "go"
    rw [dec_str, decide_eq_false n1]
    refine iteF ?_
    walk_at "go"
    rw [dec_str, decide_eq_false n2]
    refine iteF ?_
    walk_at "go"
    intro r H1 hr1 e1
    exact q r _ H1 hr1 (new_at e1) trs_nil (new_kp hr1 e1)
theorem ok_items_within (T : Top K mg) {k : Nat} : FnOk P w K mg base CX0 (k + 2) T.items_within.f T.items_within.fd ["statement", "depth"] spWithin := by
  have G_blocks_of : FnOk P w K mg base CX0 1 T.blocks_of.f T.blocks_of.fd ["statement"] spBlocksD := ok_blocks_ofD T
  refine T.items_within.F.ok sc_items_within (fun vs H Q E h => ?_) (fun cdv A outer s H vs Q E hr h => ?_)
  · obtain ⟨v, s, dep, rfl, _⟩ := h
    rfl
  obtain ⟨v, d, dep, rfl, hT, hd, hz, q⟩ := h
  refine ⟨_, (pss_cons (ps_set (i := 2) sc_items_within.nd rfl (.inl rfl) (pe_lstA pa_nil))
      (pss_cons (ps_forA (ps_for PassesOwn.never rfl (pi_listK (K := K) rfl (pe_call G_blocks_of (hr.mono (by omega)) (by rfl) T.blocks_of.g T.blocks_of.F.kp T.blocks_of.b .nil pass0 (pa_cons (pv 0) pa_nil))) (pg_name (i := 3) sc_items_within.nd rfl (.inl rfl)) (pss_one (ps_expr (pe_bmK (K := K) rfl PySem.F.plainAttrs_list PySem.F.slot_list_extend PySem.F.type_list_extend mt_extendA (pv 2) (pa_cons (pe_lc (own := [("item", 4)]) (by rfl) sc_items_within.nd (pi_tupK (K := K) rfl (pv 3)) (blkOk_by (N := ["statement", "depth", "found", "block", "item"]) (sc := defScope s_items_within) (own := [("item", 4)]) (by decide +kernel)) (fun _ _ _ _ _ => (pg_name (i := 4) sc_items_within.nd rfl (.inl rfl))) (fun _ _ _ _ _ => pts_nil) (fun _ _ _ _ _ => (pe_tupA (pa_cons (pe_op op_add (pv 1) pe_int) (pa_cons (pv 4) pa_nil))))) pa_nil))))))
      (pss_one (ps_ret (pe_revLA (K := K) rfl (pv 2)))))), ?_⟩
  have bz := bitems_sz d
  walk_at "go"
  intro fl H1 hf e1
  have k1 := new_kp hf e1
  have a1 := new_at e1
  have t1 := k1.tr hT
  walk_at "go"
  intro l2 bs H2 hl2 a2 tb2 k2
  have f2 := k2.at a1
  have nfl : fl ≠ l2 := ne_of_none a1 hl2
  have ktot : Kp [] H H2 := k1.step0 k2
  walk_at "go"
  refine ⟨for_list (K := K) (a := l2) (xs := bs) (fun i σ H3 => Lp (∃ (w3 w4 : Option V) (ws : List V), σ = [some v, some (.int dep), some (.ref fl), w3, w4] ∧ H3 fl = some (.lst ws) ∧ H3 l2 = some (.lst bs) ∧ TrAll H3 ((((blksD d).take i).flatMap itemsD).map fun e => pairD (dep + 1, e)) ws ∧ Kp [fl] H2 H3)) ⟨_, _, _, rfl, f2, a2, by simp only [List.take_zero, List.flatMap_nil, List.map_nil]; exact trs_nil, Kp.refl⟩ (fun i σ H3 _ x => ?_) ?_ ?_⟩
  · obtain ⟨⟨w3, w4, ws, _, _, a3, _⟩⟩ := x
    exact SqL.of a3
  · rintro i x σ H3 hx ⟨⟨w3, w4, ws, rfl, f3, a3, tw3, k3⟩⟩
    have hi : i < (blksD d).length := by
      obtain ⟨h, _⟩ := List.getElem?_eq_some_iff.mp hx
      rw [tb2.length] at h
      exact h
    obtain ⟨bd, hbd⟩ : ∃ bd, (blksD d)[i]? = some bd := ⟨_, List.getElem?_eq_getElem hi⟩
    obtain ⟨x', hx', tx⟩ := tb2.get hbd
    rw [hx] at hx'
    cases hx'
    obtain ⟨ys, rfl⟩ : ∃ ys, bd = .tuple ys := by
      have m := List.mem_of_getElem? hbd
      rcases hd with ⟨t, y, n, rfl⟩ | ⟨k, b, rfl⟩ | ⟨w, ds, rfl, n1, n2, eb⟩
      · replace m : bd ∈ (if ("if" : Str) = "if" then [.tuple y, .tuple n] else []) := m
        rw [if_pos rfl] at m
        simp only [List.mem_cons, List.not_mem_nil, or_false] at m
        rcases m with rfl | rfl
        · exact ⟨_, rfl⟩
        · exact ⟨_, rfl⟩
      · replace m : bd ∈ (if ("repeat" : Str) = "repeat" then [.tuple b] else []) := m
        rw [if_pos rfl] at m
        simp only [List.mem_cons, List.not_mem_nil, or_false] at m
        exact ⟨_, m⟩
      · rw [eb] at m
        cases m
    obtain ⟨ta, vs, rfl, hta, tvs⟩ := tr_tup (k3.tr tx)
    have etk : ((blksD d).take (i + 1)).flatMap itemsD = ((blksD d).take i).flatMap itemsD ++ ys := by
      rw [List.take_add_one, hbd, List.flatMap_append]
      simp [itemsD]
    have ebt : ((blksD d).take (i + 1)).flatMap itemsD ++ ((blksD d).drop (i + 1)).flatMap itemsD = bitems d := by
      rw [← List.flatMap_append, List.take_append_drop]
      rfl
    have lall : (((blksD d).take i).flatMap itemsD).length + ys.length ≤ 1000000 := by
      have e := congrArg List.length ebt
      rw [List.length_append, etk, List.length_append] at e
      have := dszs_len (bitems d)
      omega
    walk_at "go"
    intro D hD
    have nDf : fl ≠ D := ne_of_none f3 hD
    refine lc_tup (K := K) (a := ta) (xs := vs) (fun j H4 => Lp (Kp [D] H3 H4 ∧ ∃ us, H4 D = some (.lst us) ∧ TrAll H4 ((ys.take j).map fun e => pairD (dep + 1, e)) us)) ⟨(Kp.new hD).sub (by simp), [], upd_same, by simp only [List.take_zero, List.map_nil]; exact trs_nil⟩ ?_ ?_ ?_
    · rintro j H4 _ ⟨⟨k4, _⟩⟩
      exact SqT.of (k4.tup _ _ hta)
    · rintro j x H4 hx4 ⟨⟨k4, us, d4, tu4⟩⟩
      have hj : j < ys.length := by
        obtain ⟨h, _⟩ := List.getElem?_eq_some_iff.mp hx4
        rw [tvs.length] at h
        exact h
      have hy : ys[j]? = some ys[j] := List.getElem?_eq_getElem hj
      obtain ⟨x', hx', txx⟩ := tvs.get hy
      rw [hx4] at hx'
      cases hx'
      have tx4 := k4.tr txx
      have lu := tu4.length
      rw [List.length_map, List.length_take] at lu
      have lu2 : us.length < sizeLine := sz_lt (by omega)
      walk_at "go"
      intro r5 H5 hr5 e5
      have k5 := new_kp hr5 e5
      have a5 := new_at e5
      have d5 := k5.at d4
      walk_at "go"
      have k6 := Kp.put (u := .lst (us ++ [.ref r5])) d5 (fun _ y => by cases y)
      refine ⟨⟨(k4.step0 k5).step1 k6 (.inl (by simp)), _, upd_same, ?_⟩⟩
      rw [List.take_add_one, hy, List.map_append]
      exact (k6.trAll (k5.trAll tu4)).append (trs_cons (k6.tr (mk_tup a5 (trs_cons mk_int (trs_cons (k5.tr tx4) trs_nil)))) trs_nil)
    · rintro H4 ⟨⟨k4, us, d4, tu4⟩⟩
      rw [tvs.length, List.take_length] at tu4
      have lu := tu4.length
      rw [List.length_map] at lu
      have lw := tw3.length
      rw [List.length_map] at lw
      have f4 := k4.keep _ _ f3 (ne1 nDf)
      have nl2 : l2 ≠ D := ne_of_none a3 hD
      have l24 := k4.keep _ _ a3 (ne1 nl2)
      have sz4 : ws.length + us.length ≤ sizeLine := sz_le (by omega)
      walk_at "go"
      intro H5 f5 k5
      refine ⟨_, _, _, rfl, f5, k5.keep _ _ l24 (ne1 nfl.symm), ?_, ?_⟩
      · rw [etk, List.map_append]
        exact (k5.trAll (k4.trAll tw3)).append (k5.trAll tu4)
      · have k34 : Kp [] H3 H4 := Kp.refl.step1 k4 (.inr hD)
        exact (k3.step0 k34).trans k5
  · rintro σ H3 ⟨⟨w3, w4, ws, rfl, f3, a3, tw3, k3⟩⟩
    rw [tb2.length, List.take_length] at tw3
    have kH3 : Kp [] H H3 := ktot.step1 k3 (.inr hf)
    walk_at "go"
    intro r4 H4 hr4 e4
    have k4 := new_kp hr4 e4
    exact q r4 _ H4 (kH3.free hr4 (by simp)) (new_at e4) (k4.trAll tw3).rev (kH3.step0 k4)
end
section
variable {P : Program} {w : World} {K : PySem.W.Frag} {mg : Str → Option Value} {base : Heap}
end
section
variable {P : Program} {w : World} {K : PySem.W.Frag} {mg : Str → Option Value} {base : Heap}
theorem ok_rows_of (T : Top K mg) {k : Nat} : FnOk P w K mg base CX0 (k + 3) T.rows_of.f T.rows_of.fd ["program"] spRows := by
  have G_items_within : FnOk P w K mg base CX0 2 T.items_within.f T.items_within.fd ["statement", "depth"] spWithin := ok_items_within T
  refine T.rows_of.F.ok sc_rows_of (fun vs H Q E h => ?_) (fun cdv A outer s H vs Q E hr h => ?_)
  · obtain ⟨v, ds, rfl, _⟩ := h
    rfl
  obtain ⟨v, b, rfl, hT, hz, q⟩ := h
  have hu := hu_of hr
  refine ⟨_, (pss_cons (ps_par (i := 1) (j := 2) (by rfl) sc_rows_of.nd rfl rfl (by decide) rfl rfl (pa_cons (pe_revLA (K := K) rfl (pe_lc (own := [("item", 5)]) (by rfl) sc_rows_of.nd (pi_tupK (K := K) rfl (pv 0)) (blkOk_by (N := ["program", "left", "found", "depth", "statement", "item"]) (sc := defScope s_rows_of) (own := [("item", 5)]) (by decide +kernel)) (fun _ _ _ _ _ => (pg_name (i := 5) sc_rows_of.nd rfl (.inl rfl))) (fun _ _ _ _ _ => pts_nil) (fun _ _ _ _ _ => (pe_tupA (pa_cons pe_int (pa_cons (pv 5) pa_nil)))))) (pa_cons (pe_lstA pa_nil) pa_nil)) (by rfl))
      (pss_cons (ps_whileA (ps_while PassesOwn.never (pt_cmpR (op_neNil hu) (pv 1) (pe_lstA pa_nil) (nomark _)) (pss_cons (ps_asg (pe_bm0 PySem.F.plainAttrs_list PySem.F.slot_list_pop PySem.F.type_list_pop mt_popA (pv 1)) (pg_tup (by rfl) (pgs_cons (pg_name (i := 3) sc_rows_of.nd rfl (.inl rfl)) (pgs_cons (pg_name (i := 4) sc_rows_of.nd rfl (.inl rfl)) pgs_nil))))
      (pss_cons (ps_expr (pe_bmK (K := K) rfl PySem.F.plainAttrs_list PySem.F.slot_list_append PySem.F.type_list_append mt_appendA (pv 2) (pa_cons (pe_tupA (pa_cons (pv 3) (pa_cons (pv 4) pa_nil))) pa_nil)))
      (pss_one (ps_expr (pe_bmK (K := K) rfl PySem.F.plainAttrs_list PySem.F.slot_list_extend PySem.F.type_list_extend mt_extendA (pv 1) (pa_cons (pe_call G_items_within (hr.mono (by omega)) (by rfl) T.items_within.g T.items_within.F.kp T.items_within.b .nil pass0 (pa_cons (pv 4) (pa_cons (pv 3) pa_nil))) pa_nil))))))))
      (pss_one (ps_ret (pv 2))))), ?_⟩
  obtain ⟨ta, vs, rfl, hta, tvs⟩ := tr_tup hT
  have dl : b.length ≤ dszs (Sm.ds b) := Nat.le_trans (Nat.le_of_eq (by rw [Sm.ds_map, List.length_map])) (dszs_len (Sm.ds b))
  rw [Sm.ds_map] at tvs
  walk_at "go"
  intro D hD
  refine lc_tup (K := K) (a := ta) (xs := vs) (fun j H4 => Lp (Kp [D] H H4 ∧ ∃ us, H4 D = some (.lst us) ∧ TrAll H4 ((b.take j).map fun e => pairS (0, e)) us)) ⟨(Kp.new hD).sub (by simp), [], upd_same, by simp only [List.take_zero, List.map_nil]; exact trs_nil⟩ ?_ ?_ ?_
  · rintro j H4 _ ⟨⟨k4, _⟩⟩
    exact SqT.of (k4.tup _ _ hta)
  · rintro j x H4 hx4 ⟨⟨k4, us, d4, tu4⟩⟩
    have hj : j < b.length := by
      obtain ⟨h, _⟩ := List.getElem?_eq_some_iff.mp hx4
      rw [tvs.length, List.length_map] at h
      exact h
    have hy : b[j]? = some b[j] := List.getElem?_eq_getElem hj
    obtain ⟨x', hx', txx⟩ := tvs.get (i := j) (d := (b[j]).d) (by rw [List.getElem?_map, hy]; rfl)
    rw [hx4] at hx'
    cases hx'
    have tx4 := k4.tr txx
    have lu := tu4.length
    rw [List.length_map, List.length_take] at lu
    have lu2 : us.length < sizeLine := sz_lt (by omega)
    walk_at "go"
    intro r5 H5 hr5 e5
    have k5 := new_kp hr5 e5
    have a5 := new_at e5
    have d5 := k5.at d4
    walk_at "go"
    have k6 := Kp.put (u := .lst (us ++ [.ref r5])) d5 (fun _ y => by cases y)
    refine ⟨⟨(k4.step0 k5).step1 k6 (.inl (by simp)), _, upd_same, ?_⟩⟩
    rw [List.take_add_one, hy, List.map_append]
    exact (k6.trAll (k5.trAll tu4)).append (trs_cons (k6.tr (mk_tup a5 (trs_cons mk_int (trs_cons (k5.tr tx4) trs_nil)))) trs_nil)
  · rintro H4 ⟨⟨k4, us, d4, tu4⟩⟩
    rw [tvs.length, List.length_map, List.take_length] at tu4
    have k4' : Kp [] H H4 := Kp.refl.step1 k4 (.inr hD)
    walk_at "go"
    intro lf H5 hlf e5
    have k5 := new_kp hlf e5
    have a5 := new_at e5
    have kH5 := k4'.step0 k5
    have flf : H lf = none := k4'.free hlf (by simp)
    walk_at "go"
    intro fd H5b hfd e5b
    have k5b := new_kp hfd e5b
    have a5b := new_at e5b
    have a5c := k5b.at a5
    have kH5b := kH5.step0 k5b
    have ffd : H fd = none := kH5.free hfd (by simp)
    have nlf : lf ≠ fd := ne_of_none a5 hfd
    have ln := Sm.prss_len 0 b
    have pz : ∀ b : List Sm, Sm.pls b ≤ dszs (Sm.ds b) := fun b => (Sm.pls_dsz b)
    have pzb := pz b
    walk_at "go"
    refine ⟨fun m σ H6 => Lp (∃ (l : List (Int × Sm)) (dn : List (Int × Sm)) (us ws : List V) (w3 w4 : Option V), σ = [some (.ref ta), some (.ref lf), some (.ref fd), w3, w4, none] ∧ H6 lf = some (.lst us) ∧ TrAll H6 ((l.map pairS).reverse) us ∧ H6 fd = some (.lst ws) ∧ TrAll H6 (dn.map pairS) ws ∧ dn ++ prL l = Sm.prss 0 b ∧ m = (prL l).length ∧ (∀ q ∈ l, dsz q.2.d ≤ 1000000) ∧ l.length ≤ (prL l).length ∧ Kp [] H H6), ⟨(prL (b.map fun e => ((0 : Int), e))).length, ⟨b.map fun e => (0, e), [], _, _, _, _, rfl, a5c, ?_, a5b, trs_nil, ?_, rfl, ?_, ?_, kH5b⟩⟩, ?_⟩
    · rw [List.map_map]
      exact (k5b.trAll (k5.trAll tu4)).rev
    · rw [List.nil_append, prL_start]
    · rintro q hq
      obtain ⟨e, he, rfl⟩ := List.mem_map.mp hq
      exact Nat.le_trans (dsz_mem (by rw [Sm.ds_map]; exact List.mem_map.mpr ⟨e, he, rfl⟩)) hz
    · rw [prL_start, ln, List.length_map]
      exact Sm.len_pls b
    · rintro m σ H6 ⟨⟨l, dn, us, ws, w3, w4, rfl, a6, t6, f6, tf6, ep, rfl, hq6, ll6, k6⟩⟩
      have lep := congrArg List.length ep
      rw [List.length_append, ln] at lep
      walk_at "go"
      intro n7 H7 hn7 e7
      have k7 := new_kp hn7 e7
      have a7 := new_at e7
      have a67 := k7.at a6
      have f67 := k7.at f6
      have t67 := k7.trAll t6
      have tf67 := k7.trAll tf6
      refine ⟨lf, n7, us, rfl, rfl, a67, a7, _, rfl, ?_⟩
      rcases l with _ | ⟨⟨dep, d⟩, l⟩
      · simp only [List.map_nil, List.reverse_nil, TrAll] at t67
        subst t67
        refine iteF ?_
        walk_at "go"
        rw [prL, List.flatMap_nil, List.append_nil] at ep
        rw [ep] at tf67
        exact q fd ws H7 ffd f67 tf67 (k6.step0 k7)
      · rw [List.map_cons, List.reverse_cons] at t67
        obtain ⟨us, u, rfl, tl, tu⟩ := t67.snoc_inv
        have ne : ((us ++ [u]).isEmpty) = false := by simp
        rw [ne]
        refine iteT ?_
        obtain ⟨pa, x1, x2, rfl, hpa, tx1, tx2⟩ := tr_tup2 tu
        cases tr_int tx1
        rw [prL_cons] at ep lep ll6
        have hd1 := hq6 (dep, d) List.mem_cons_self
        refine ⟨fun σ H9 => Lp (∃ (l' : List (Int × Sm)) (dn : List (Int × Sm)) (us ws : List V) (w3 w4 : Option V), σ = [some (.ref ta), some (.ref lf), some (.ref fd), w3, w4, none] ∧ H9 lf = some (.lst us) ∧ TrAll H9 ((l'.map pairS).reverse) us ∧ H9 fd = some (.lst ws) ∧ TrAll H9 (dn.map pairS) ws ∧ dn ++ prL l' = Sm.prss 0 b ∧ (prL l').length < (prL ((dep, d) :: l)).length ∧ (∀ q ∈ l', dsz q.2.d ≤ 1000000) ∧ l'.length ≤ (prL l').length ∧ Kp [] H H9), fun σ' H' x => ?_, ?_⟩
        · obtain ⟨⟨l', dn', us', ws', w3', w4', h1, h2, h3, h4, h5, h6, h7, h8, h9, h10⟩⟩ := x
          exact ⟨_, h7, ⟨l', dn', us', ws', w3', w4', h1, h2, h3, h4, h5, h6, rfl, h8, h9, h10⟩⟩
        walk_at "go"
        intro H8 a8 k8
        have hpa8 := k8.tup _ _ hpa
        have tx28 := k8.tr tx2
        have tl8 := k8.trAll tl
        have f8 := k8.keep _ _ f67 (ne1 nlf.symm)
        have tf8 := k8.trAll tf67
        have kH8 : Kp [] H H8 := (k6.step0 k7).step1 k8 (.inr flf)
        walk_at "go"
        intro r9 H9 hr9 e9
        have k9 := new_kp hr9 e9
        have a9 := new_at e9
        have f9 := k9.at f8
        have a89 := k9.at a8
        have lw := tf8.length
        rw [List.length_map] at lw
        simp only [List.length_cons] at lep ll6
        have lws : ws.length < sizeLine := sz_lt (by omega)
        walk_at "go"
        intro H10 f10 k10
        have a810 := k10.keep _ _ a89 (ne1 nlf)
        have tx10 := k10.tr (k9.tr tx28)
        have tl10 := k10.trAll (k9.trAll tl8)
        have std := d.std
        have a910 := k10.tup _ _ a9
        have kH10 : Kp [] H H10 := (kH8.step0 k9).step1 k10 (.inr ffd)
        have tf10 : TrAll H10 ((dn ++ [(dep, d)]).map pairS) (ws ++ [.ref r9]) := by
          rw [List.map_append]
          exact (k10.trAll (k9.trAll tf8)).append (trs_cons (mk_tup a910 (trs_cons mk_int (trs_cons tx10 trs_nil))) trs_nil)
        walk_at "go"
        intro p11 us11 H11 hp11 a11 t11 k11
        have a811 := k11.at a810
        have f11 := k11.at f10
        have tl11 := k11.trAll tl10
        rw [Sm.bitems_inn, Sm.ds_map, List.map_map] at t11
        have ll := tl11.length
        have l11 : us11.length = d.inn.length := by
          have := t11.length
          rw [List.length_reverse, List.length_map] at this
          exact this
        rw [List.length_reverse, List.length_map] at ll
        have li : d.inn.length ≤ (prL ((d.inn.map fun e => (dep + 1, e)) ++ l)).length ∧ ((d.inn.map fun e => (dep + 1, e)) ++ l).length ≤ (prL ((d.inn.map fun e => (dep + 1, e)) ++ l)).length := by
          have := prL_len ((d.inn.map fun e => (dep + 1, e)) ++ l)
          rw [List.length_append, List.length_map] at this
          rw [List.length_append, List.length_map]
          omega
        have sz11 : us.length + us11.length ≤ sizeLine := by
          have := li.2
          rw [List.length_append, List.length_map] at this
          exact sz_le (by omega)
        walk_at "go"
        intro H12 a12 k12
        refine ⟨(d.inn.map fun e => (dep + 1, e)) ++ l, dn ++ [(dep, d)], _, _, _, _, rfl, a12, ?_, k12.keep _ _ f11 (ne1 nlf.symm), k12.trAll (k11.trAll tf10), ?_, ?_, ?_, li.2, ?_⟩
        · rw [List.map_append, List.reverse_append, List.map_map]
          exact (k12.trAll tl11).append (k12.trAll t11)
        · rw [List.append_assoc]
          exact ep
        · rw [prL_cons, List.length_cons]
          omega
        · intro q hq
          rcases List.mem_append.mp hq with hq | hq
          · obtain ⟨e, he, rfl⟩ := List.mem_map.mp hq
            have h1 := bitems_sz d.d
            rw [Sm.bitems_inn] at h1
            have h2 : dsz e.d ≤ dszs (Sm.ds d.inn) := dsz_mem (by rw [Sm.ds_map]; exact List.mem_map.mpr ⟨e, he, rfl⟩)
            have h3 : dsz d.d ≤ 1000000 := hd1
            show dsz e.d ≤ 1000000
            omega
          · exact hq6 q (List.mem_cons_of_mem _ hq)
        · exact (kH10.step0 k11).step1 k12 (.inr flf)
end
section
variable {P : Program} {w : World} {K : PySem.W.Frag} {mg : Str → Option Value} {base : Heap}
theorem ok_bare (T : Top K mg) {k : Nat} : FnOk P w K mg base CX0 (k + 1) T.bare.f T.bare.fd ["test"] spBare := by
  refine T.bare.F.ok sc_bare (fun vs H Q E h => ?_) (fun cdv A outer s H vs Q E hr h => ?_)
  · obtain ⟨v, t, rfl, _⟩ := h
    rfl
  obtain ⟨v, t, rfl, hT, q⟩ := h
  refine ⟨_, (pss_cons (ps_whileA (ps_while PassesOwn.never (pt_cmpR op_eq (pe_ix (ix_tupK (K := K) rfl) (pv 0) pe_int (fun _ _ => rfl)) pe_str (nomark _)) (pss_one (ps_set (i := 0) sc_bare.nd rfl (.inl rfl) (pe_ix (ix_tupK (K := K) rfl) (pv 0) pe_int (fun _ _ => rfl))))))
      (pss_one (ps_ret (pv 0)))), ?_⟩
  walk_at "go"
  refine ⟨⟨fun m σ H1 => Lp (∃ (v' : V) (t' : Ts), σ = [some v'] ∧ Tr H1 t'.d v' ∧ t'.base = t.base ∧ t'.nots = m ∧ H1 = H), ⟨t.nots, ⟨v, t, rfl, hT, rfl, rfl, rfl⟩⟩, ?_⟩⟩
  rintro m σ H1 ⟨⟨v', t', rfl, ht, eb, em, rfl⟩⟩
  cases t' with
  | less a b =>
    obtain ⟨p, x1, x2, x3, rfl, h1, t1, t2, t3⟩ := tr_tup3 ht
    cases tr_str t1
    walk_at "go"
    rw [← eb] at q
    exact q _ ht
  | odd a =>
    obtain ⟨p, x1, x2, rfl, h1, t1, t2⟩ := tr_tup2 ht
    cases tr_str t1
    walk_at "go"
    rw [← eb] at q
    exact q _ ht
  | not t2 =>
    obtain ⟨p, x1, x2, rfl, h1, t1, t3⟩ := tr_tup2 ht
    cases tr_str t1
    have em2 : t2.nots + 1 = m := em
    refine ⟨_, rfl, _, _, _, _, rfl, rfl, SqT.of h1, atI_nat (j := 0) rfl, rfl, _, rfl, ?_⟩
    refine iteT ?_
    refine ⟨fun σ H2 => Lp (∃ (v' : V), σ = [some v'] ∧ Tr H2 t2.d v' ∧ H2 = H1), fun σ' H' x => ?_, ?_⟩
    · obtain ⟨⟨v', e1, e2, e3⟩⟩ := x
      exact ⟨t2.nots, by omega, ⟨v', t2, e1, e2, eb, rfl, e3⟩⟩
    walk_at "go"
    exact ⟨_, rfl, t3, rfl⟩
theorem ok_own_count (T : Top K mg) {k : Nat} : FnOk P w K mg base CX0 (k + 2) T.own_count.f T.own_count.fd ["statement", "sort"] spOwn := by
  have G_bare : FnOk P w K mg base CX0 1 T.bare.f T.bare.fd ["test"] spBare := ok_bare T
  refine T.own_count.F.ok sc_own_count (fun vs H Q E h => ?_) (fun cdv A outer s H vs Q E hr h => ?_)
  · obtain ⟨v, t, so, rfl, _⟩ := h
    rfl
  obtain ⟨v, st, so, rfl, hT, hs, q⟩ := h
  refine ⟨_, (pss_cons (ps_if (pt_cmpR op_eq (pv 1) pe_str (nomark _)) (pss_one (ps_ret pe_int)) pss_nil)
      (pss_cons (ps_if (pt_cmpR op_eq (pe_ix (ix_tupK (K := K) rfl) (pv 0) pe_int (fun _ _ => rfl)) pe_str (nomark _)) (pss_one (ps_ret (pe_callTy (T := "int") call_int1 (by rfl) T.int (by decide +kernel) (pa_cons (pe_cmpR op_eq (pe_ix (ix_tupK (K := K) rfl) (pe_call G_bare (hr.mono (by omega)) (by rfl) T.bare.g T.bare.F.kp T.bare.b .nil pass0 (pa_cons (pe_ix (ix_tupK (K := K) rfl) (pv 0) pe_int (fun _ _ => rfl)) pa_nil)) pe_int (fun _ _ => rfl)) (pe_ifExp (pt_cmpR op_eq (pv 1) pe_str (nomark _)) pe_str (pv 1)) (nomark _)) pa_nil)))) pss_nil)
      (pss_one (ps_ret (pe_callTy (T := "int") call_int1 (by rfl) T.int (by decide +kernel) (pa_cons (pe_cmpR op_eq (pe_ix (ix_tupK (K := K) rfl) (pv 0) pe_int (fun _ _ => rfl)) (pv 1) (nomark _)) pa_nil)))))), ?_⟩
  have fin : ∀ {i : Int} {b : Bool}, Q (.int (if b = true then 1 else 0)) H → (if b = true then (1 : Int) else 0) = i → Q (.int i) H := fun h e => e ▸ h
  have w1 : ¬ (("half" : Str) = "weight") := by decide +kernel
  have w2 : ¬ (("less" : Str) = "weight") := by decide +kernel
  have w3 : ¬ (("less" : Str) = "half") := by decide +kernel
  rcases hs with rfl | rfl | rfl
  · replace q : Q (.int (own "weight" st : Nat)) H := q
    unfold own at q
    rw [if_pos rfl] at q
    walk_at "go"
    exact q
  · unfold own at q
    rw [if_neg w1] at q
    cases st with
    | ite t y n =>
      obtain ⟨u, x1, x2, x3, x4, rfl, h1, t1, t2, t3, t4⟩ := tr_tup4 hT
      cases tr_str t1
      walk_at "go"
      intro v' tv'
      cases eb : t.base with
      | not t0 => exact absurd eb (Ts.base_not t t0)
      | less a b =>
        rw [eb] at tv'
        obtain ⟨p, y1, y2, y3, rfl, g1, s1, s2, s3⟩ := tr_tup3 tv'
        cases tr_str s1
        have io : t.isOdd = false := by rw [← Ts.base_odd, eb]; rfl
        simp only [io] at q
        walk_at "go"
        exact q
      | odd a =>
        rw [eb] at tv'
        obtain ⟨p, y1, y2, rfl, g1, s1, s2⟩ := tr_tup2 tv'
        cases tr_str s1
        have io : t.isOdd = true := by rw [← Ts.base_odd, eb]; rfl
        simp only [io] at q
        walk_at "go"
        exact q
    | rep k b =>
      obtain ⟨u, x1, x2, x3, rfl, h1, t1, t2, t3⟩ := tr_tup3 hT
      cases tr_str t1
      walk_at "go"
      exact q
    | set x e =>
      obtain ⟨u, x1, x2, x3, rfl, h1, t1, t2, t3⟩ := tr_tup3 hT
      cases tr_str t1
      walk_at "go"
      exact q
    | half x e =>
      obtain ⟨u, x1, x2, x3, rfl, h1, t1, t2, t3⟩ := tr_tup3 hT
      cases tr_str t1
      walk_at "go"
      exact q
    | tell e =>
      obtain ⟨u, x1, x2, rfl, h1, t1, t2⟩ := tr_tup2 hT
      cases tr_str t1
      walk_at "go"
      exact q
    | say e =>
      obtain ⟨u, x1, x2, rfl, h1, t1, t2⟩ := tr_tup2 hT
      cases tr_str t1
      walk_at "go"
      exact q
    | stop e =>
      obtain ⟨u, x1, x2, rfl, h1, t1, t2⟩ := tr_tup2 hT
      cases tr_str t1
      walk_at "go"
      exact q
  · unfold own at q
    rw [if_neg w2] at q
    cases st with
    | ite t y n =>
      obtain ⟨u, x1, x2, x3, x4, rfl, h1, t1, t2, t3, t4⟩ := tr_tup4 hT
      cases tr_str t1
      walk_at "go"
      intro v' tv'
      cases eb : t.base with
      | not t0 => exact absurd eb (Ts.base_not t t0)
      | less a b =>
        rw [eb] at tv'
        obtain ⟨p, y1, y2, y3, rfl, g1, s1, s2, s3⟩ := tr_tup3 tv'
        cases tr_str s1
        have io : t.isOdd = false := by rw [← Ts.base_odd, eb]; rfl
        simp only [io, if_neg w3] at q
        walk_at "go"
        exact q
      | odd a =>
        rw [eb] at tv'
        obtain ⟨p, y1, y2, rfl, g1, s1, s2⟩ := tr_tup2 tv'
        cases tr_str s1
        have io : t.isOdd = true := by rw [← Ts.base_odd, eb]; rfl
        simp only [io, if_neg w3] at q
        walk_at "go"
        exact q
    | rep k b =>
      obtain ⟨u, x1, x2, x3, rfl, h1, t1, t2, t3⟩ := tr_tup3 hT
      cases tr_str t1
      walk_at "go"
      exact q
    | set x e =>
      obtain ⟨u, x1, x2, x3, rfl, h1, t1, t2, t3⟩ := tr_tup3 hT
      cases tr_str t1
      walk_at "go"
      exact q
    | half x e =>
      obtain ⟨u, x1, x2, x3, rfl, h1, t1, t2, t3⟩ := tr_tup3 hT
      cases tr_str t1
      walk_at "go"
      exact q
    | tell e =>
      obtain ⟨u, x1, x2, rfl, h1, t1, t2⟩ := tr_tup2 hT
      cases tr_str t1
      walk_at "go"
      exact q
    | say e =>
      obtain ⟨u, x1, x2, rfl, h1, t1, t2⟩ := tr_tup2 hT
      cases tr_str t1
      walk_at "go"
      exact q
    | stop e =>
      obtain ⟨u, x1, x2, rfl, h1, t1, t2⟩ := tr_tup2 hT
      cases tr_str t1
      walk_at "go"
      exact q
end
section
variable {P : Program} {w : World} {K : PySem.W.Frag} {mg : Str → Option Value} {base : Heap}
theorem ok_counted (T : Top K mg) : ∀ n : Nat, FnOk P w K mg base CX0 (n + 3) T.counted.f T.counted.fd ["block", "sort"] (spCounted n)
  | n => by
    have G_blocks_of : FnOk P w K mg base CX0 1 T.blocks_of.f T.blocks_of.fd ["statement"] spBlocksD := ok_blocks_ofD T
    have G_own_count : FnOk P w K mg base CX0 2 T.own_count.f T.own_count.fd ["statement", "sort"] spOwn := ok_own_count T
    have G_counted : FnOk P w K mg base CX0 (n + 2) T.counted.f T.counted.fd ["block", "sort"] (sp0 spCounted n) := by
      cases n with
      | zero => exact fn_no (fun _ _ _ _ h => h)
      | succ m => exact ok_counted T m
    refine T.counted.F.ok sc_counted (fun vs H Q E h => ?_) (fun cdv A outer s H vs Q E hr h => ?_)
    · obtain ⟨v, b, so, rfl, _⟩ := h
      rfl
    obtain ⟨v, b, so, rfl, hT, hs, ok, lb, pb, nb, q⟩ := h
    refine ⟨_, (pss_cons (ps_set (i := 2) sc_counted.nd rfl (.inl rfl) pe_int)
      (pss_cons (ps_forA (ps_for PassesOwn.never rfl (pi_tupK (K := K) rfl (pv 0)) (pg_name (i := 3) sc_counted.nd rfl (.inl rfl)) (pss_cons (ps_set (i := 4) sc_counted.nd rfl (.inl rfl) (pe_callB (id := "sum") (cr_sumK (K := K) rfl (by rfl)) (by rfl) T.sum (by decide +kernel) (pa_cons (pe_lc (own := [("part", 5)]) (by rfl) sc_counted.nd (pi_listK (K := K) rfl (pe_call G_blocks_of (hr.mono (by omega)) (by rfl) T.blocks_of.g T.blocks_of.F.kp T.blocks_of.b .nil pass0 (pa_cons (pv 3) pa_nil))) (blkOk_by (N := ["block", "sort", "found", "statement", "inner", "part"]) (sc := defScope s_counted) (own := [("part", 5)]) (by decide +kernel)) (fun _ _ _ _ _ => (pg_name (i := 5) sc_counted.nd rfl (.inl rfl))) (fun _ _ _ _ _ => pts_nil) (fun _ _ _ _ _ => (pe_call G_counted (hr.mono (by omega)) (by rfl) T.counted.g T.counted.F.kp T.counted.b .nil pass0 (pa_cons (pv 5) (pa_cons (pv 1) pa_nil))))) pa_nil)))
      (pss_one (ps_aug (i := 2) sc_counted.nd rfl (.inl rfl) (pe_op op_add (pe_call G_own_count (hr.mono (by omega)) (by rfl) T.own_count.g T.own_count.F.kp T.own_count.b .nil pass0 (pa_cons (pv 3) (pa_cons (pv 1) pa_nil))) (pe_op op_mul (pv 4) (pe_ifExp (pt_cmpR op_eq (pe_ix (ix_tupK (K := K) rfl) (pv 3) pe_int (fun _ _ => rfl)) pe_str (nomark _)) (pe_ix (ix_tupK (K := K) rfl) (pv 3) pe_int (fun _ _ => rfl)) pe_int))) ip_add)))))
      (pss_one (ps_ret (pv 2))))), ?_⟩
    obtain ⟨ta, vs, rfl, hta, tvs⟩ := tr_tup hT
    rw [Sm.ds_map] at tvs
    have lv : vs.length = b.length := by rw [tvs.length, List.length_map]
    walk_at "go"
    refine ⟨for_tup (K := K) (a := ta) (xs := vs) (fun i σ H3 => Lp (∃ (w3 w4 : Option V), σ = [some (.ref ta), some (.str so), some (.int (cnts so (b.take i) : Nat)), w3, w4, none] ∧ Kp [] H H3)) ⟨_, _, by rw [List.take_zero, cnts_nil]; rfl, Kp.refl⟩ (fun i σ H3 _ x => ?_) ?_ ?_⟩
    · obtain ⟨⟨w3, w4, _, k3⟩⟩ := x
      exact SqT.of (k3.tup _ _ hta)
    · rintro i x σ H3 hx ⟨⟨w3, w4, rfl, k3⟩⟩
      have hi : i < b.length := by
        obtain ⟨h, _⟩ := List.getElem?_eq_some_iff.mp hx
        omega
      have hy : b[i]? = some b[i] := List.getElem?_eq_getElem hi
      have hmem : b[i] ∈ b := List.getElem_mem hi
      obtain ⟨x', hx', tx⟩ := tvs.get (i := i) (d := (b[i]).d) (by rw [List.getElem?_map, hy]; rfl)
      rw [hx] at hx'
      cases hx'
      generalize b[i] = st at hy hmem tx
      have tx3 := k3.tr tx
      have std := st.std
      have ost := oks_mem ok hmem
      have nst := Sm.nest_mem hmem
      have pst := Sm.pl_mem hmem
      walk_at "go"
      intro l4 bs H4 hl4 a4 tb4 k4
      rw [Sm.blksD_eq] at tb4
      have lbs : bs.length = st.blks.length := by rw [tb4.length, List.length_map]
      have bl2 := st.blks_le
      walk_at "go"
      intro D hD
      have nD : l4 ≠ D := ne_of_none a4 hD
      refine lc_list (K := K) (a := l4) (xs := bs) (fun j H5 => Lp (Kp [D] H4 H5 ∧ H5 D = some (.lst (((st.blks.take j).map fun c => (cnts so c : Int)).map V.int)))) ⟨(Kp.new hD).sub (by simp), upd_same⟩ ?_ ?_ ?_
      · rintro j H5 _ ⟨⟨k5, _⟩⟩
        exact SqL.of (k5.keep _ _ a4 (ne1 nD))
      · rintro j y H5 hy5 ⟨⟨k5, d5⟩⟩
        have hj : j < st.blks.length := by
          obtain ⟨h, _⟩ := List.getElem?_eq_some_iff.mp hy5
          omega
        have hb : st.blks[j]? = some st.blks[j] := List.getElem?_eq_getElem hj
        have mb : st.blks[j] ∈ st.blks := List.getElem_mem hj
        obtain ⟨y', hy', ty⟩ := tb4.get (i := j) (d := .tuple (Sm.ds st.blks[j])) (by rw [List.getElem?_map, hb]; rfl)
        rw [hy5] at hy'
        cases hy'
        generalize st.blks[j] = bk at hb mb ty
        have ty5 := k5.tr ty
        have n1 := Sm.blk_nest mb
        have p1 := Sm.blk_pls mb
        have o1 := ok_blk ost mb
        have ll1 := Sm.len_pls bk
        obtain ⟨n', rfl⟩ : ∃ n', n = n' + 1 := ⟨n - 1, by omega⟩
        have l5 : (((st.blks.take j).map fun c => (cnts so c : Int)).map V.int).length < sizeLine := by
          rw [List.length_map, List.length_map, List.length_take]
          exact sz_lt (by omega)
        walk_at "go"
        intro H6 k6
        have d6 := k6.at d5
        walk_at "go"
        refine ⟨⟨(k5.step0 k6).step1 (Kp.put d6 (fun _ y => by cases y)) (.inl (by simp)), ?_⟩⟩
        rw [upd_same, List.take_add_one, hb, List.map_append, List.map_append]
        rfl
      · rintro H5 ⟨⟨k5, d5⟩⟩
        rw [lbs, List.take_length] at d5
        have es : (st.blks.map fun c => (cnts so c : Int)).sum = (((st.blks.map (cnts so)).sum : Nat) : Int) := by
          generalize st.blks = l
          induction l with
          | nil => rfl
          | cons c r ih =>
            rw [List.map_cons, List.map_cons, List.sum_cons, List.sum_cons, ih]
            omega
        have k5' : Kp [] H4 H5 := Kp.refl.step1 k5 (.inr hD)
        have kH5 := (k3.step0 k4).step0 k5'
        have tx5 := k5'.tr (k4.tr tx3)
        have ec := cnt_own (sort := so) st
        have fin : cnts so (b.take (i + 1)) = cnts so (b.take i) + (own so st + (st.blks.map (cnts so)).sum * st.tms) := by
          rw [List.take_add_one, hy]
          have ap : ∀ l : List Sm, cnts so (l ++ [st]) = cnts so l + cnt so st := by
            intro l
            induction l with
            | nil => rw [List.nil_append, cnts_cons, cnts_nil]; omega
            | cons a r ih => rw [List.cons_append, cnts_cons, cnts_cons, ih]; omega
          show cnts so (b.take i ++ [st]) = _
          rw [ap, ec]
        have ef : ((cnts so (b.take (i + 1)) : Nat) : Int) = (cnts so (b.take i) : Nat) + ((own so st : Nat) + (st.blks.map fun c => (cnts so c : Int)).sum * (st.tms : Nat)) := by
          rw [fin, es]
          simp only [Int.natCast_add, Int.natCast_mul]
        obtain ⟨u5, r5, rfl, h15⟩ := Sm.head tx5
        cases st with
        | rep kk bb =>
          obtain ⟨u, x1, x2, x3, e1, h1, t1, t2, t3⟩ := tr_tup3 tx5
          cases e1
          cases tr_str t1
          cases tr_int t2
          have k8 : kk ≤ 8 := (show kk ≤ 8 ∧ Sm.oks bb by simpa only [Sm.ok] using ost).1
          have cm : CMul ((List.map (fun c => (cnts so c : Int)) (Sm.rep kk bb).blks).sum) (kk : Int) := .inr ⟨by omega, by omega⟩
          walk_at "go"
          rw [ef]
          exact ⟨_, _, rfl, kH5⟩
        | ite t y n =>
          obtain ⟨u, x1, x2, x3, x4, e1, h1, t1, t2, t3, t4⟩ := tr_tup4 tx5
          cases e1
          cases tr_str t1
          have cm : CMul ((List.map (fun c => (cnts so c : Int)) (Sm.ite t y n).blks).sum) 1 := .inr ⟨by decide, by decide⟩
          walk_at "go"
          rw [ef]
          exact ⟨_, _, rfl, kH5⟩
        | set x e =>
          obtain ⟨u, x1, x2, x3, e1, h1, t1, t2, t3⟩ := tr_tup3 tx5
          cases e1
          cases tr_str t1
          have cm : CMul ((List.map (fun c => (cnts so c : Int)) (Sm.set x e).blks).sum) 1 := .inr ⟨by decide, by decide⟩
          walk_at "go"
          rw [ef]
          exact ⟨_, _, rfl, kH5⟩
        | half x e =>
          obtain ⟨u, x1, x2, x3, e1, h1, t1, t2, t3⟩ := tr_tup3 tx5
          cases e1
          cases tr_str t1
          have cm : CMul ((List.map (fun c => (cnts so c : Int)) (Sm.half x e).blks).sum) 1 := .inr ⟨by decide, by decide⟩
          walk_at "go"
          rw [ef]
          exact ⟨_, _, rfl, kH5⟩
        | tell e =>
          obtain ⟨u, x1, x2, e1, h1, t1, t2⟩ := tr_tup2 tx5
          cases e1
          cases tr_str t1
          have cm : CMul ((List.map (fun c => (cnts so c : Int)) (Sm.tell e).blks).sum) 1 := .inr ⟨by decide, by decide⟩
          walk_at "go"
          rw [ef]
          exact ⟨_, _, rfl, kH5⟩
        | say e =>
          obtain ⟨u, x1, x2, e1, h1, t1, t2⟩ := tr_tup2 tx5
          cases e1
          cases tr_str t1
          have cm : CMul ((List.map (fun c => (cnts so c : Int)) (Sm.say e).blks).sum) 1 := .inr ⟨by decide, by decide⟩
          walk_at "go"
          rw [ef]
          exact ⟨_, _, rfl, kH5⟩
        | stop e =>
          obtain ⟨u, x1, x2, e1, h1, t1, t2⟩ := tr_tup2 tx5
          cases e1
          cases tr_str t1
          have cm : CMul ((List.map (fun c => (cnts so c : Int)) (Sm.stop e).blks).sum) 1 := .inr ⟨by decide, by decide⟩
          walk_at "go"
          rw [ef]
          exact ⟨_, _, rfl, kH5⟩
    · rintro σ H3 ⟨⟨w3, w4, rfl, k3⟩⟩
      rw [lv, List.take_length]
      walk_at "go"
      exact q H3 k3
theorem ok_weight (T : Top K mg) (n : Nat) : FnOk P w K mg base CX0 (n + 4) T.weight.f T.weight.fd ["program"] (spWeight n) := by
  have G_counted := ok_counted (P := P) (w := w) (base := base) T n
  refine T.weight.F.ok sc_weight (fun vs H Q E h => ?_) (fun cdv A outer s H vs Q E hr h => ?_)
  · obtain ⟨v, b, rfl, _⟩ := h
    rfl
  obtain ⟨v, b, rfl, hT, ok, pb, nb, q⟩ := h
  refine ⟨_, (pss_one (ps_ret (pe_call G_counted (hr.mono (by omega)) (by rfl) T.counted.g T.counted.F.kp T.counted.b .nil pass0 (pa_cons (pv 0) (pa_cons pe_str pa_nil))))), ?_⟩
  have sw : SrtW "weight" := .inl rfl
  have lb : b.length ≤ 1000000 := Nat.le_trans (Sm.len_pls b) pb
  walk_at "go"
  intro H1 k1
  have := q H1 k1
  unfold cnts
  rw [if_pos rfl]
  exact this
end
end EH
namespace EH
open PySem L2
local macro_rules | `(tactic| walk_at "sd") => `(tactic| first | assumption | ((with_reducible show (_ : Int) ≤ _); omega) | ((with_reducible show (_ : Int) < _); omega) | rfl | exact SqL.of (by assumption) | exact SqT.of (by assumption) | exact atI_nat (j := 0) rfl | exact atI_nat (j := 1) rfl | exact atI_nat (j := 2) rfl | exact atI_nat (j := 3) rfl | exact sz_lit rfl | exact lt_lit rfl | exact pos_lit rfl | exact le_lit rfl | exact Or.inl (SqL.of (by assumption)) | exact ⟨_, SqL.of (by assumption)⟩ | exact ⟨_, SqT.of (by assumption)⟩ | exact Or.inr (SqT.of (by assumption)) | exact ClsV.ty _ | exact TyX.base (TyOf.int _) | exact TyX.base (TyOf.str _) | exact TyX.base (TyOf.tup (by assumption)) | exact TyX.base (TyOf.frz (by assumption)) | exact TyX.fDict (by assumption) | exact TyX.base (TyOf.bl _) | exact TyX.base TyOf.non | exact kit_ty isi_lt | exact kit_ty isi_ls | exact kit_ty isi_li | exact kit_ty isi_lb | exact kit_ty isi_dt | exact kit_ty isi_ds | exact kit_ty isi_di | exact kit_ty isi_db | exact kit_ty isi_ss | exact kit_ty isi_is | exact kit_ty isi_ts | exact kit_ty isi_si | exact kit_ty isi_ii | exact kit_ty isi_ti | exact kit_ty isi_st | exact kit_ty isi_it | exact kit_ty isi_tt | exact TyX.base TyOf.non | exact TyX.base (TyOf.bl _) | exact kit_ty isi_bs | exact kit_ty isi_bi | exact kit_ty isi_bt | exact kit_ty isi_bb | exact kit_ty isi_ns | exact kit_ty isi_ni | exact kit_ty isi_nt | exact kit_ty isi_nb | exact kit_ty isi_sb | exact kit_ty isi_ib | exact kit_ty isi_tb | exact Or.inl ⟨_, Or.inl (by assumption)⟩ | exact DGet.k (k := Sum.inr _) (by assumption) | exact DGet.k (k := Sum.inl _) (by assumption) | (refine cpow_of ?_; decide) | (refine cmul_of ?_; decide) | (show (_ : Int) ≠ 0; first | decide | omega) | (refine cdivn_of ?_; decide) | exact Or.inl ⟨rfl, _, SqL.of (by assumption)⟩ | omega)
local macro_rules | `(tactic| walk_at "st") => `(tactic| first | (apply Exists.intro) | (refine And.intro ?_ ?_; focus (walk_at "sd")) | (apply Or.inl; apply Exists.intro; refine And.intro ?_ ?_; focus rfl) | (apply Or.inr; apply Exists.intro; refine And.intro ?_ ?_; focus rfl))
local macro_rules | `(tactic| walk_at "go") => `(tactic| repeat (walk_at "st"))
section
variable {P : Program} {w : World} {K : PySem.W.Frag} {mg : Str → Option Value} {base : Heap}
theorem ok_l_errorQ (T : Top K mg) : FnOk P w K mg base CX0 11 T.l_error.f T.l_error.fd ["_law_value"] spPErrQ := by
  have G_l_is_statement : FnOk P w K mg base CX0 10 T.l_is_statement.f T.l_is_statement.fd ["_law_value"] (spBoolQ stmtB) := ok_l_is_statementQ T
  have G_l_counts : FnOk P w K mg base CX0 5 T.l_counts.f T.l_counts.fd ["_law_block"] (spLCounts 4) := ok_l_counts T 4
  refine T.l_error.F.ok sc_l_error (fun vs H Q E h => ?_) (fun cdv A outer s H vs Q E hr h => ?_)
  · obtain ⟨v, d, rfl, _⟩ := h
    rfl
  obtain ⟨v, d, rfl, hT, sz, dz, q⟩ := h
  have hu := hu_of hr
  refine ⟨_, (pss_cons (ps_if (pt_not (pt_val (pe_callB (id := "isinstance") (call_isiK (K := K) rfl) (by rfl) T.isinstance (by decide +kernel) (pa_cons (pv 0) (pa_cons (pe_bltn (v := .ty "tuple") (u := .type "tuple") (by rfl) T.tuple (by decide +kernel) rfl) pa_nil))))) (pss_one (ps_ret (pe_tupA (pa_cons pe_non (pa_cons pe_str pa_nil))))) pss_nil)
      (pss_cons (ps_par (i := 1) (j := 2) (by rfl) sc_l_error.nd rfl rfl (by decide) rfl rfl (pa_cons (pe_revLA (K := K) rfl (pe_lc (own := [("_law_item", 10)]) (by rfl) sc_l_error.nd (pi_tupK (K := K) rfl (pv 0)) (blkOk_by (N := ["_law_value", "_law_left", "_law_place", "_law_depth", "_law_row", "_law_inner", "_law_part", "_law_found", "_law_k", "_law_word", "_law_item"]) (sc := defScope s_l_error) (own := [("_law_item", 10)]) (by decide +kernel)) (fun _ _ _ _ _ => (pg_name (i := 10) sc_l_error.nd rfl (.inl rfl))) (fun _ _ _ _ _ => pts_nil) (fun _ _ _ _ _ => (pe_tupA (pa_cons pe_int (pa_cons (pv 10) pa_nil)))))) (pa_cons pe_int pa_nil)) (by rfl))
      (pss_cons (ps_whileA (ps_while PassesOwn.never (pt_cmpR (op_neNil hu) (pv 1) (pe_lstA pa_nil) (nomark _)) (pss_cons (ps_asg (pe_bm0 PySem.F.plainAttrs_list PySem.F.slot_list_pop PySem.F.type_list_pop mt_popA (pv 1)) (pg_tup (by rfl) (pgs_cons (pg_name (i := 3) sc_l_error.nd rfl (.inr rfl)) (pgs_cons (pg_name (i := 4) sc_l_error.nd rfl (.inl rfl)) pgs_nil))))
      (pss_cons (ps_if (pt_cmpR op_gt (pv 3) pe_int (nomark _)) (pss_one (ps_ret (pe_tupA (pa_cons (pv 2) (pa_cons pe_str pa_nil))))) pss_nil)
      (pss_cons (ps_if (pt_not (pt_val (pe_call G_l_is_statement (hr.mono (by omega)) (by rfl) T.l_is_statement.g T.l_is_statement.F.kp T.l_is_statement.b .nil pass0 (pa_cons (pv 4) pa_nil)))) (pss_one (ps_ret (pe_tupA (pa_cons (pv 2) (pa_cons pe_str pa_nil))))) pss_nil)
      (pss_cons (ps_set (i := 5) sc_l_error.nd rfl (.inl rfl) (pe_lstA pa_nil))
      (pss_cutA (ps_forA (ps_for PassesOwn.never rfl (pi_tupK (K := K) rfl (pe_ifExp (pt_cmpR (op_in_seqK (K := K) rfl) (pe_ix (ix_tupK (K := K) rfl) (pv 4) pe_int (fun _ _ => rfl)) (pe_tupA (pa_cons pe_str (pa_cons pe_str pa_nil))) (by rfl)) (pe_slice (sl_tupK (K := K) rfl) (pv 4) (po_some pe_int) po_none) (pe_tupA pa_nil))) (pg_name (i := 6) sc_l_error.nd rfl (.inl rfl)) (pss_one (ps_expr (pe_bmK (K := K) rfl PySem.F.plainAttrs_list PySem.F.slot_list_extend PySem.F.type_list_extend mt_extendA (pv 5) (pa_cons (pe_lc (own := [("_law_item", 10)]) (by rfl) sc_l_error.nd (pi_tupK (K := K) rfl (pv 6)) (blkOk_by (N := ["_law_value", "_law_left", "_law_place", "_law_depth", "_law_row", "_law_inner", "_law_part", "_law_found", "_law_k", "_law_word", "_law_item"]) (sc := defScope s_l_error) (own := [("_law_item", 10)]) (by decide +kernel)) (fun _ _ _ _ _ => (pg_name (i := 10) sc_l_error.nd rfl (.inl rfl))) (fun _ _ _ _ _ => pts_nil) (fun _ _ _ _ _ => (pe_tupA (pa_cons (pe_op op_add (pv 3) pe_int) (pa_cons (pv 10) pa_nil))))) pa_nil))))))
      (pss_cons (ps_expr (pe_bmK (K := K) rfl PySem.F.plainAttrs_list PySem.F.slot_list_extend PySem.F.type_list_extend mt_extendA (pv 1) (pa_cons (pe_revLA (K := K) rfl (pv 5)) pa_nil)))
      (pss_one (ps_set (i := 2) sc_l_error.nd rfl (.inl rfl) (pe_op op_add (pv 2) pe_int)))))))))))
      (pss_cons (ps_set (i := 7) sc_l_error.nd rfl (.inl rfl) (pe_call G_l_counts (hr.mono (by omega)) (by rfl) T.l_counts.g T.l_counts.F.kp T.l_counts.b .nil pass0 (pa_cons (pv 0) pa_nil)))
      (pss_cons (ps_forA (ps_for PassesOwn.never rfl (pi_enum (by rfl) T.enumerate (pa_cons (pe_lstA (pa_cons pe_str (pa_cons pe_str (pa_cons pe_str (pa_cons pe_str pa_nil))))) pa_nil)) (pg_tup (by rfl) (pgs_cons (pg_name (i := 8) sc_l_error.nd rfl (.inl rfl)) (pgs_cons (pg_name (i := 9) sc_l_error.nd rfl (.inl rfl)) pgs_nil))) (pss_one (ps_if (pt_cmpR op_gt (pe_ix (ix_listK (K := K) rfl) (pv 7) (pv 8) (fun _ _ => rfl)) (pe_ix (ix_listK (K := K) rfl) (pe_lstA (pa_cons pe_int (pa_cons pe_int (pa_cons pe_int (pa_cons pe_int pa_nil))))) (pv 8) (fun _ _ => rfl)) (nomark _)) (pss_one (ps_ret (pe_tupA (pa_cons pe_non (pa_cons (pv 9) pa_nil))))) pss_nil))))
      (pss_one (ps_ret pe_non))))))), ?_⟩
  obtain ⟨tt, ty, ki⟩ := isi_tupQ hT
  cases it : isTupB d with
  | false =>
    rw [it] at ki
    walk_at "go"
    intro r H1 hr1 e1
    exact q _ _ H1 (mk_tup (new_at e1) (trs_cons mk_non (trs_cons mk_str trs_nil))) (.prog it) (new_kp hr1 e1)
  | true =>
    rw [it] at ki
    obtain ⟨ds, rfl⟩ : ∃ ds, d = .tuple ds := by
      cases d with
      | tuple ds => exact ⟨ds, rfl⟩
      | _ => cases it
    have sz : Szds ds := by simpa only [Szd] using sz
    have hz : dszs ds ≤ 1000000 := by
      simp only [dsz] at dz
      omega
    obtain ⟨ta, vs, rfl, hta, tvs⟩ := tq_tup hT
    have dl := dszs_len ds
    walk_at "go"
    intro D hD
    refine lc_tup (K := K) (a := ta) (xs := vs) (fun j H4 => Lp (Kp [D] H H4 ∧ ∃ us, H4 D = some (.lst us) ∧ TqAll H4 ((ds.take j).map fun e => pairD (0, e)) us)) ⟨(Kp.new hD).sub (by simp), [], upd_same, by simp only [List.take_zero, List.map_nil]; exact tqs_nil⟩ ?_ ?_ ?_
    · rintro j H4 _ ⟨⟨k4, _⟩⟩
      exact SqT.of (k4.tup _ _ hta)
    · rintro j x H4 hx4 ⟨⟨k4, us, d4, tu4⟩⟩
      have hj : j < ds.length := by
        obtain ⟨h, _⟩ := List.getElem?_eq_some_iff.mp hx4
        rw [tvs.length] at h
        exact h
      have hy : ds[j]? = some ds[j] := List.getElem?_eq_getElem hj
      obtain ⟨x', hx', txx⟩ := tvs.get hy
      rw [hx4] at hx'
      cases hx'
      have tx4 := k4.tq txx
      have lu := tu4.length
      rw [List.length_map, List.length_take] at lu
      have lu2 : us.length < sizeLine := sz_lt (by omega)
      walk_at "go"
      intro r5 H5 hr5 e5
      have k5 := new_kp hr5 e5
      have a5 := new_at e5
      have d5 := k5.at d4
      walk_at "go"
      have k6 := Kp.put (u := .lst (us ++ [.ref r5])) d5 (fun _ y => by cases y)
      refine ⟨⟨(k4.step0 k5).step1 k6 (.inl (by simp)), _, upd_same, ?_⟩⟩
      rw [List.take_add_one, hy, List.map_append]
      exact (k6.tqAll (k5.tqAll tu4)).append (tqs_cons (k6.tq (mq_tup a5 (tqs_cons mq_int (tqs_cons (k5.tq tx4) tqs_nil)))) tqs_nil)
    · rintro H4 ⟨⟨k4, us, d4, tu4⟩⟩
      rw [tvs.length, List.take_length] at tu4
      have k4' : Kp [] H H4 := Kp.refl.step1 k4 (.inr hD)
      walk_at "go"
      intro lf H5 hlf e5
      have k5 := new_kp hlf e5
      have a5 := new_at e5
      have kH5 := k4'.step0 k5
      have flf : H lf = none := k4'.free hlf (by simp)
      walk_at "go"
      have st0 : stk (ds.map fun e => ((0 : Int), e)) = ds := stk_bi 0 ds
      refine ⟨fun m σ H6 => Lp (∃ (l : List (Int × PyData)) (p : Int) (us : List V) (w3 w4 w5 w6 : Option V), σ = [some (.ref ta), some (.ref lf), some (.int p), w3, w4, w5, w6, none, none, none, none] ∧ H6 lf = some (.lst us) ∧ TqAll H6 ((l.map pairD).reverse) us ∧ m = dszs (stk l) ∧ m ≤ 1000000 ∧ Szds (stk l) ∧ (∀ f, dszs (stk l) < f → ordE f l p = ordErr ds) ∧ Kp [] H H6), ⟨dszs ds, ⟨ds.map fun e => (0, e), 0, _, _, _, _, _, rfl, a5, ?_, by rw [st0], hz, by rw [st0]; exact sz, fun f hf => ordE_fuel _ _ _ _ hf (by rw [st0]; omega), kH5⟩⟩, ?_⟩
      · rw [List.map_map]
        exact (k5.tqAll tu4).rev
      · rintro m σ H6 ⟨⟨l, p, us, w3, w4, w5, w6, rfl, a6, t6, rfl, hm, vd6, fl6, k6⟩⟩
        walk_at "go"
        intro n7 H7 hn7 e7
        have k7 := new_kp hn7 e7
        have a7 := new_at e7
        have a67 := k7.at a6
        have t67 := k7.tqAll t6
        refine ⟨lf, n7, us, rfl, rfl, a67, a7, _, rfl, ?_⟩
        rcases l with _ | ⟨⟨dep, d⟩, l0⟩
        · simp only [List.map_nil, List.reverse_nil, TqAll] at t67
          subst t67
          refine iteF ?_
          have en : ordErr ds = none := (fl6 1 (by simp only [stk, List.map_nil, dszs]; omega)).symm
          obtain ⟨b, rfl, ok', ns'⟩ := ordErr_none en
          have kH7 := k6.step0 k7
          have hT7 := kH7.tr (Tq.tr (d := .tuple (Sm.ds b)) (by simp only [plainD]; exact Sm.plainDs b) hT)
          have pl7 : Sm.pls b ≤ 1000000 := Nat.le_trans (Sm.pls_dsz b) hz
          walk_at "go"
          intro lc H8 alc k8
          walk_at "go"
          intro ln H9 hln e9
          have k9 := new_kp hln e9
          have a9 := new_at e9
          have alc9 := k9.at alc
          have kH9 := (kH7.step0 k8).step0 k9
          refine ⟨ln, _, rfl, SqL.of a9, ?_⟩
          refine ⟨for_it (walk_enum (K := K) (a := ln) (xs := [.str "places", .str "weight", .str "halvings", .str "comparings"])) (fun i σ H10 => Lp (∃ (w8 w9 : Option V), σ = [some (.ref ta), some (.ref lf), some (.int p), w3, w4, w5, w6, some (.ref lc), w8, w9, none] ∧ (0 < i → Sm.pls b ≤ 24) ∧ (1 < i → Sm.wts b ≤ 60) ∧ (2 < i → Sm.hvs b ≤ 4) ∧ (3 < i → Sm.cps b ≤ 3) ∧ Kp [] H9 H10)) ⟨_, _, rfl, by omega, by omega, by omega, by omega, Kp.refl⟩ ?_ ?_ ?_⟩
          · rintro i σ H10 _ ⟨⟨w8, w9, rfl, _, _, _, _, k10⟩⟩
            exact SqL.of (k10.at a9)
          · rintro i x σ H10 H11 hi ⟨⟨w8, w9, rfl, c1, c2, c3, c4, k10⟩⟩ ⟨T', x1, x2, rfl, hT', rfl, e1, e2⟩
            have hi4 : i < 4 := hi
            have k11 : Kp [] H10 (upd H10 T' (.tup [x1, x2])) := Kp.new hT'
            have a11 : upd H10 T' (.tup [x1, x2]) T' = some (.tup [x1, x2]) := upd_same
            generalize upd H10 T' (.tup [x1, x2]) = H11 at k11 a11 ⊢
            cases e1
            have kk11 := k10.trans k11
            have alc11 := kk11.at alc9
            have alc11 : H11 lc = some (.lst [.int (Sm.pls b : Int), .int (Sm.wts b : Int), .int (Sm.hvs b : Int), .int (Sm.cps b : Int)]) := alc11
            rcases (show i = 0 ∨ i = 1 ∨ i = 2 ∨ i = 3 by omega) with rfl | rfl | rfl | rfl
            · cases e2
              walk_at "go"
              intro l12 H12 hl12 e12
              have k12 := new_kp hl12 e12
              have a12 := new_at e12
              have alc12 := k12.at alc11
              have ax : atI [V.int 24, V.int 60, V.int 4, V.int 3] ((0 : Nat) : Int) = some (.int 24) := atI_nat (j := 0) rfl
              walk_at "go"
              refine iteB (fun hc => ?_) (fun hc => ?_)
              · have hc : (24 : Int) < (Sm.pls b : Int) := of_decide_eq_true hc
                walk_at "go"
                intro r13 H13 hr13 e13
                have k13 := new_kp hr13 e13
                refine q (.ref r13) (bndD (bndErr b)) H13 ?_ (.bnd en) (((kH9.step0 kk11).step0 k12).step0 k13)
                unfold bndErr
                rw [if_pos (by omega)]
                exact mk_tup (new_at e13) (trs_cons mk_non (trs_cons mk_str trs_nil))
              · have hc : ¬ (24 : Int) < (Sm.pls b : Int) := of_decide_eq_false hc
                exact ⟨_, _, rfl, fun _ => by omega, fun z => absurd z (by decide), fun z => absurd z (by decide), fun z => absurd z (by decide), kk11.step0 k12⟩
            · cases e2
              have c1 := c1 (by decide)
              walk_at "go"
              intro l12 H12 hl12 e12
              have k12 := new_kp hl12 e12
              have a12 := new_at e12
              have alc12 := k12.at alc11
              have ax : atI [V.int 24, V.int 60, V.int 4, V.int 3] ((1 : Nat) : Int) = some (.int 60) := atI_nat (j := 1) rfl
              walk_at "go"
              refine iteB (fun hc => ?_) (fun hc => ?_)
              · have hc : (60 : Int) < (Sm.wts b : Int) := of_decide_eq_true hc
                walk_at "go"
                intro r13 H13 hr13 e13
                have k13 := new_kp hr13 e13
                refine q (.ref r13) (bndD (bndErr b)) H13 ?_ (.bnd en) (((kH9.step0 kk11).step0 k12).step0 k13)
                unfold bndErr
                rw [if_neg (by omega), if_pos (by omega)]
                exact mk_tup (new_at e13) (trs_cons mk_non (trs_cons mk_str trs_nil))
              · have hc : ¬ (60 : Int) < (Sm.wts b : Int) := of_decide_eq_false hc
                exact ⟨_, _, rfl, fun _ => by omega, fun _ => by omega, fun z => absurd z (by decide), fun z => absurd z (by decide), kk11.step0 k12⟩
            · cases e2
              have c1 := c1 (by decide)
              have c2 := c2 (by decide)
              walk_at "go"
              intro l12 H12 hl12 e12
              have k12 := new_kp hl12 e12
              have a12 := new_at e12
              have alc12 := k12.at alc11
              have ax : atI [V.int 24, V.int 60, V.int 4, V.int 3] ((2 : Nat) : Int) = some (.int 4) := atI_nat (j := 2) rfl
              walk_at "go"
              refine iteB (fun hc => ?_) (fun hc => ?_)
              · have hc : (4 : Int) < (Sm.hvs b : Int) := of_decide_eq_true hc
                walk_at "go"
                intro r13 H13 hr13 e13
                have k13 := new_kp hr13 e13
                refine q (.ref r13) (bndD (bndErr b)) H13 ?_ (.bnd en) (((kH9.step0 kk11).step0 k12).step0 k13)
                unfold bndErr
                rw [if_neg (by omega), if_neg (by omega), if_pos (by omega)]
                exact mk_tup (new_at e13) (trs_cons mk_non (trs_cons mk_str trs_nil))
              · have hc : ¬ (4 : Int) < (Sm.hvs b : Int) := of_decide_eq_false hc
                exact ⟨_, _, rfl, fun _ => by omega, fun _ => by omega, fun _ => by omega, fun z => absurd z (by decide), kk11.step0 k12⟩
            · cases e2
              have c1 := c1 (by decide)
              have c2 := c2 (by decide)
              have c3 := c3 (by decide)
              walk_at "go"
              intro l12 H12 hl12 e12
              have k12 := new_kp hl12 e12
              have a12 := new_at e12
              have alc12 := k12.at alc11
              have ax : atI [V.int 24, V.int 60, V.int 4, V.int 3] ((3 : Nat) : Int) = some (.int 3) := atI_nat (j := 3) rfl
              walk_at "go"
              refine iteB (fun hc => ?_) (fun hc => ?_)
              · have hc : (3 : Int) < (Sm.cps b : Int) := of_decide_eq_true hc
                walk_at "go"
                intro r13 H13 hr13 e13
                have k13 := new_kp hr13 e13
                refine q (.ref r13) (bndD (bndErr b)) H13 ?_ (.bnd en) (((kH9.step0 kk11).step0 k12).step0 k13)
                unfold bndErr
                rw [if_neg (by omega), if_neg (by omega), if_neg (by omega), if_pos (by omega)]
                exact mk_tup (new_at e13) (trs_cons mk_non (trs_cons mk_str trs_nil))
              · have hc : ¬ (3 : Int) < (Sm.cps b : Int) := of_decide_eq_false hc
                exact ⟨_, _, rfl, fun _ => by omega, fun _ => by omega, fun _ => by omega, fun _ => by omega, kk11.step0 k12⟩
          · rintro σ H10 ⟨⟨w8, w9, rfl, c1, c2, c3, c4, k10⟩⟩
            have c1 := c1 (by decide)
            have c2 := c2 (by decide)
            have c3 := c3 (by decide)
            have c4 := c4 (by decide)
            walk_at "go"
            refine q .non (bndD (bndErr b)) H10 ?_ (.bnd en) (kH9.step0 k10)
            unfold bndErr
            rw [if_neg (by omega), if_neg (by omega), if_neg (by omega), if_neg (by omega)]
            exact mk_non
        · rw [List.map_cons, List.reverse_cons] at t67
          obtain ⟨us, u, rfl, tl, tu⟩ := t67.snoc_inv
          have ne : ((us ++ [u]).isEmpty) = false := by simp
          rw [ne]
          refine iteT ?_
          obtain ⟨pa, x1, x2, rfl, hpa, tx1, tx2⟩ := tq_tup2 tu
          cases tq_int tx1
          have esz : dszs (stk ((dep, d) :: l0)) = dsz d + dszs (stk l0) := by
            show dszs (d :: stk l0) = _
            simp only [dszs]
          have hb := bitems_sz d
          have ell : dszs (stk (((bitems d).map fun e => (dep + 1, e)) ++ l0)) = dszs (bitems d) + dszs (stk l0) := by rw [stk_app, stk_bi, dszs_app]
          have dzd : dsz d ≤ 1000000 := by omega
          have szd : Szd d ∧ Szds (stk l0) := by
            have : Szds (d :: stk l0) := vd6
            simpa only [Szds] using this
          obtain ⟨szd1, szd2⟩ := szd
          have fl7 := fl6 (dszs (stk ((dep, d) :: l0)) + 1) (by omega)
          simp only [ordE] at fl7
          refine ⟨fun σ H9 => Lp (∃ (l : List (Int × PyData)) (p : Int) (us : List V) (w3 w4 w5 w6 : Option V), σ = [some (.ref ta), some (.ref lf), some (.int p), w3, w4, w5, w6, none, none, none, none] ∧ H9 lf = some (.lst us) ∧ TqAll H9 ((l.map pairD).reverse) us ∧ dszs (stk l) < dszs (stk ((dep, d) :: l0)) ∧ dszs (stk l) ≤ 1000000 ∧ Szds (stk l) ∧ (∀ f, dszs (stk l) < f → ordE f l p = ordErr ds) ∧ Kp [] H H9), fun σ' H' x => ?_, ?_⟩
          · obtain ⟨⟨l', p', us', w3', w4', w5', w6', h1, h2, h3, h4, h5, h6, h7, h8⟩⟩ := x
            exact ⟨dszs (stk l'), h4, ⟨l', p', us', w3', w4', w5', w6', h1, h2, h3, rfl, h5, h6, h7, h8⟩⟩
          walk_at "go"
          intro H8 a8 k8
          have hpa8 := k8.tup _ _ hpa
          have tx28 := k8.tq tx2
          have tl8 := k8.tqAll tl
          have kH8 : Kp [] H H8 := (k6.step0 k7).step1 k8 (.inr flf)
          walk_at "go"
          refine iteB (fun hdep => ?_) (fun hdep => ?_)
          · have hdep := of_decide_eq_true hdep
            rw [if_pos hdep] at fl7
            walk_at "go"
            intro r9 H9 hr9 e9
            have k9 := new_kp hr9 e9
            exact q (.ref r9) _ H9 (mk_tup (new_at e9) (trs_cons mk_int (trs_cons mk_str trs_nil))) (.ord fl7.symm) (kH8.step0 k9)
          · have hdep := of_decide_eq_false hdep
            rw [if_neg hdep] at fl7
            walk_at "go"
            intro H9 k9
            have a89 := k9.at a8
            have tx29 := k9.tq tx28
            have tl9 := k9.tqAll tl8
            refine ⟨_, rfl, iteB (fun hs => ?_) (fun hst => ?_)⟩
            · replace hs := PyProof.Rows.false_of_not_true hs
              rw [if_neg (by rw [hs]; simp)] at fl7
              walk_at "go"
              intro r10 H10 hr10 e10
              have k10 := new_kp hr10 e10
              exact q (.ref r10) _ H10 (mk_tup (new_at e10) (trs_cons mk_int (trs_cons mk_str trs_nil))) (.ord fl7.symm) ((kH8.step0 k9).step0 k10)
            replace hst := PyProof.Rows.true_of_not_false hst
            rw [if_pos hst] at fl7
            walk_at "go"
            intro il H10 hil e10
            have k10 := new_kp hil e10
            have a10 := new_at e10
            have tx210 := k10.tq tx29
            walk_at "go"
            refine ⟨⟨fun σ H11 => Lp (∃ (w6 : Option V) (ws : List V), σ = [some (.ref ta), some (.ref lf), some (.int p), some (.int dep), some x2, some (.ref il), w6, none, none, none, none] ∧ H11 il = some (.lst ws) ∧ TqAll H11 ((bitems d).map fun e => pairD (dep + 1, e)) ws ∧ Kp [il] H10 H11), ?_, ?_⟩⟩
            · rcases stmt_std hst with ⟨t0, y0, n0, rfl⟩ | ⟨k0, bb, rfl⟩ | ⟨w0, ds0, rfl, n1, n2, eb⟩
              · obtain ⟨xa, z1, z2, z3, z4, rfl, hxa, t1, t2, t3, t4⟩ := tq_tup4 tx210
                cases tq_str t1
                walk_at "go"
                intro u4 H4 hu4 e4
                have k4 := new_kp hu4 e4
                have a4 := new_at e4
                have hx4 := k4.tup _ _ hxa
                walk_at "go"
                intro p5 H5' a5 k45
                have k5' := k4.trans k45
                replace a5 : H5' p5 = some (.tup [z3, z4]) := a5
                have fl5 := k5'.at a10
                obtain ⟨bs, ebs⟩ : ∃ bs, bs = [z3, z4] := ⟨_, rfl⟩
                rw [← ebs] at a5
                have tb5 : TqAll H5' (blksD (PyData.tuple [.str "if", t0, .tuple y0, .tuple n0])) bs := by
                  show TqAll H5' (if ("if" : Str) = "if" then [.tuple y0, .tuple n0] else []) bs
                  rw [if_pos rfl, ebs]
                  exact tqs_cons (k5'.tq t3) (tqs_cons (k5'.tq t4) tqs_nil)
                obtain ⟨d, ed⟩ : ∃ d : PyData, d = (.tuple [.str "if", t0, .tuple y0, .tuple n0]) := ⟨_, rfl⟩
                rw [← ed] at tb5 hst hb dzd ⊢
                have hd := stmt_std hst
                have bz := bitems_sz d
                have nil0 : il ≠ p5 := fun z => by
                  subst z
                  rw [a5] at fl5
                  cases fl5
                refine ⟨p5, rfl, ⟨_, SqT.of a5⟩, ⟨for_tup (K := K) (a := p5) (xs := bs) (fun i σ H13 => Lp (∃ (w6 : Option V) (ws : List V), σ = [some (.ref ta), some (.ref lf), some (.int p), some (.int dep), some (.ref xa), some (.ref il), w6, none, none, none, none] ∧ H13 il = some (.lst ws) ∧ TqAll H13 ((((blksD d).take i).flatMap itemsD).map fun e => pairD (dep + 1, e)) ws ∧ Kp [il] H5' H13)) ⟨_, _, rfl, fl5, by simp only [List.take_zero, List.flatMap_nil, List.map_nil]; exact tqs_nil, Kp.refl⟩ ?_ ?_ ?_⟩⟩
                · rintro i σ H13 _ ⟨⟨w6', ws, rfl, f3, tw3, k3⟩⟩
                  exact SqT.of (k3.tup _ _ a5)
                · rintro i x σ H3 hx ⟨⟨w6', ws, rfl, f3, tw3, k3⟩⟩
                  have hi : i < (blksD d).length := by
                    obtain ⟨h, _⟩ := List.getElem?_eq_some_iff.mp hx
                    rw [tb5.length] at h
                    exact h
                  obtain ⟨bd, hbd⟩ : ∃ bd, (blksD d)[i]? = some bd := ⟨_, List.getElem?_eq_getElem hi⟩
                  obtain ⟨x', hx', tx⟩ := tb5.get hbd
                  rw [hx] at hx'
                  cases hx'
                  obtain ⟨ys, rfl⟩ : ∃ ys, bd = .tuple ys := by
                    have m := List.mem_of_getElem? hbd
                    rcases hd with ⟨t, y, n, rfl⟩ | ⟨k, b, rfl⟩ | ⟨w, ds, rfl, n1, n2, eb⟩
                    · replace m : bd ∈ (if ("if" : Str) = "if" then [.tuple y, .tuple n] else []) := m
                      rw [if_pos rfl] at m
                      simp only [List.mem_cons, List.not_mem_nil, or_false] at m
                      rcases m with rfl | rfl
                      · exact ⟨_, rfl⟩
                      · exact ⟨_, rfl⟩
                    · replace m : bd ∈ (if ("repeat" : Str) = "repeat" then [.tuple b] else []) := m
                      rw [if_pos rfl] at m
                      simp only [List.mem_cons, List.not_mem_nil, or_false] at m
                      exact ⟨_, m⟩
                    · rw [eb] at m
                      cases m
                  obtain ⟨tb, vs3, rfl, htb, tvs3⟩ := tq_tup (k3.tq tx)
                  have etk : ((blksD d).take (i + 1)).flatMap itemsD = ((blksD d).take i).flatMap itemsD ++ ys := by
                    rw [List.take_add_one, hbd, List.flatMap_append]
                    simp [itemsD]
                  have ebt : ((blksD d).take (i + 1)).flatMap itemsD ++ ((blksD d).drop (i + 1)).flatMap itemsD = bitems d := by
                    rw [← List.flatMap_append, List.take_append_drop]
                    rfl
                  have lall : (((blksD d).take i).flatMap itemsD).length + ys.length ≤ 1000000 := by
                    have e := congrArg List.length ebt
                    rw [List.length_append, etk, List.length_append] at e
                    have := dszs_len (bitems d)
                    omega
                  walk_at "go"
                  intro D hD
                  have nDf : il ≠ D := ne_of_none f3 hD
                  refine lc_tup (K := K) (a := tb) (xs := vs3) (fun j H4 => Lp (Kp [D] H3 H4 ∧ ∃ us, H4 D = some (.lst us) ∧ TqAll H4 ((ys.take j).map fun e => pairD (dep + 1, e)) us)) ⟨(Kp.new hD).sub (by simp), [], upd_same, by simp only [List.take_zero, List.map_nil]; exact tqs_nil⟩ ?_ ?_ ?_
                  · rintro j H4 _ ⟨⟨k4, _⟩⟩
                    exact SqT.of (k4.tup _ _ htb)
                  · rintro j x H4 hx4 ⟨⟨k4, us, d4, tu4⟩⟩
                    have hj : j < ys.length := by
                      obtain ⟨h, _⟩ := List.getElem?_eq_some_iff.mp hx4
                      rw [tvs3.length] at h
                      exact h
                    have hy : ys[j]? = some ys[j] := List.getElem?_eq_getElem hj
                    obtain ⟨x', hx', txx⟩ := tvs3.get hy
                    rw [hx4] at hx'
                    cases hx'
                    have tx4 := k4.tq txx
                    have lu := tu4.length
                    rw [List.length_map, List.length_take] at lu
                    have lu2 : us.length < sizeLine := sz_lt (by omega)
                    walk_at "go"
                    intro r5 H5 hr5 e5
                    have k5 := new_kp hr5 e5
                    have a5 := new_at e5
                    have d5 := k5.at d4
                    walk_at "go"
                    have k6 := Kp.put (u := .lst (us ++ [.ref r5])) d5 (fun _ y => by cases y)
                    refine ⟨⟨(k4.step0 k5).step1 k6 (.inl (by simp)), _, upd_same, ?_⟩⟩
                    rw [List.take_add_one, hy, List.map_append]
                    exact (k6.tqAll (k5.tqAll tu4)).append (tqs_cons (k6.tq (mq_tup a5 (tqs_cons mq_int (tqs_cons (k5.tq tx4) tqs_nil)))) tqs_nil)
                  · rintro H4 ⟨⟨k4, us, d4, tu4⟩⟩
                    rw [tvs3.length, List.take_length] at tu4
                    have lu := tu4.length
                    rw [List.length_map] at lu
                    have lw := tw3.length
                    rw [List.length_map] at lw
                    have f4 := k4.keep _ _ f3 (ne1 nDf)
                    have sz4 : ws.length + us.length ≤ sizeLine := sz_le (by omega)
                    walk_at "go"
                    intro H5 f5 k5
                    refine ⟨_, _, rfl, f5, ?_, ?_⟩
                    · rw [etk, List.map_append]
                      exact (k5.tqAll (k4.tqAll tw3)).append (k5.tqAll tu4)
                    · have k34 : Kp [] H3 H4 := Kp.refl.step1 k4 (.inr hD)
                      exact (k3.step0 k34).trans k5
                · rintro σ H13 ⟨⟨w6', ws, rfl, f3, tw3, k3⟩⟩
                  rw [tb5.length, List.take_length] at tw3
                  exact ⟨_, ws, rfl, f3, tw3, (k5'.sub (by simp)).trans k3⟩
              · obtain ⟨xa, z1, z2, z3, rfl, hxa, t1, t2, t3⟩ := tq_tup3 tx210
                cases tq_str t1
                walk_at "go"
                intro u4 H4 hu4 e4
                have k4 := new_kp hu4 e4
                have a4 := new_at e4
                have hx4 := k4.tup _ _ hxa
                walk_at "go"
                intro p5 H5' a5 k45
                have k5' := k4.trans k45
                replace a5 : H5' p5 = some (.tup [z3]) := a5
                have fl5 := k5'.at a10
                obtain ⟨bs, ebs⟩ : ∃ bs, bs = [z3] := ⟨_, rfl⟩
                rw [← ebs] at a5
                have tb5 : TqAll H5' (blksD (PyData.tuple [.str "repeat", k0, .tuple bb])) bs := by
                  show TqAll H5' (if ("repeat" : Str) = "repeat" then [.tuple bb] else []) bs
                  rw [if_pos rfl, ebs]
                  exact tqs_cons (k5'.tq t3) tqs_nil
                obtain ⟨d, ed⟩ : ∃ d : PyData, d = (.tuple [.str "repeat", k0, .tuple bb]) := ⟨_, rfl⟩
                rw [← ed] at tb5 hst hb dzd ⊢
                have hd := stmt_std hst
                have bz := bitems_sz d
                have nil0 : il ≠ p5 := fun z => by
                  subst z
                  rw [a5] at fl5
                  cases fl5
                refine ⟨p5, rfl, ⟨_, SqT.of a5⟩, ⟨for_tup (K := K) (a := p5) (xs := bs) (fun i σ H13 => Lp (∃ (w6 : Option V) (ws : List V), σ = [some (.ref ta), some (.ref lf), some (.int p), some (.int dep), some (.ref xa), some (.ref il), w6, none, none, none, none] ∧ H13 il = some (.lst ws) ∧ TqAll H13 ((((blksD d).take i).flatMap itemsD).map fun e => pairD (dep + 1, e)) ws ∧ Kp [il] H5' H13)) ⟨_, _, rfl, fl5, by simp only [List.take_zero, List.flatMap_nil, List.map_nil]; exact tqs_nil, Kp.refl⟩ ?_ ?_ ?_⟩⟩
                · rintro i σ H13 _ ⟨⟨w6', ws, rfl, f3, tw3, k3⟩⟩
                  exact SqT.of (k3.tup _ _ a5)
                · rintro i x σ H3 hx ⟨⟨w6', ws, rfl, f3, tw3, k3⟩⟩
                  have hi : i < (blksD d).length := by
                    obtain ⟨h, _⟩ := List.getElem?_eq_some_iff.mp hx
                    rw [tb5.length] at h
                    exact h
                  obtain ⟨bd, hbd⟩ : ∃ bd, (blksD d)[i]? = some bd := ⟨_, List.getElem?_eq_getElem hi⟩
                  obtain ⟨x', hx', tx⟩ := tb5.get hbd
                  rw [hx] at hx'
                  cases hx'
                  obtain ⟨ys, rfl⟩ : ∃ ys, bd = .tuple ys := by
                    have m := List.mem_of_getElem? hbd
                    rcases hd with ⟨t, y, n, rfl⟩ | ⟨k, b, rfl⟩ | ⟨w, ds, rfl, n1, n2, eb⟩
                    · replace m : bd ∈ (if ("if" : Str) = "if" then [.tuple y, .tuple n] else []) := m
                      rw [if_pos rfl] at m
                      simp only [List.mem_cons, List.not_mem_nil, or_false] at m
                      rcases m with rfl | rfl
                      · exact ⟨_, rfl⟩
                      · exact ⟨_, rfl⟩
                    · replace m : bd ∈ (if ("repeat" : Str) = "repeat" then [.tuple b] else []) := m
                      rw [if_pos rfl] at m
                      simp only [List.mem_cons, List.not_mem_nil, or_false] at m
                      exact ⟨_, m⟩
                    · rw [eb] at m
                      cases m
                  obtain ⟨tb, vs3, rfl, htb, tvs3⟩ := tq_tup (k3.tq tx)
                  have etk : ((blksD d).take (i + 1)).flatMap itemsD = ((blksD d).take i).flatMap itemsD ++ ys := by
                    rw [List.take_add_one, hbd, List.flatMap_append]
                    simp [itemsD]
                  have ebt : ((blksD d).take (i + 1)).flatMap itemsD ++ ((blksD d).drop (i + 1)).flatMap itemsD = bitems d := by
                    rw [← List.flatMap_append, List.take_append_drop]
                    rfl
                  have lall : (((blksD d).take i).flatMap itemsD).length + ys.length ≤ 1000000 := by
                    have e := congrArg List.length ebt
                    rw [List.length_append, etk, List.length_append] at e
                    have := dszs_len (bitems d)
                    omega
                  walk_at "go"
                  intro D hD
                  have nDf : il ≠ D := ne_of_none f3 hD
                  refine lc_tup (K := K) (a := tb) (xs := vs3) (fun j H4 => Lp (Kp [D] H3 H4 ∧ ∃ us, H4 D = some (.lst us) ∧ TqAll H4 ((ys.take j).map fun e => pairD (dep + 1, e)) us)) ⟨(Kp.new hD).sub (by simp), [], upd_same, by simp only [List.take_zero, List.map_nil]; exact tqs_nil⟩ ?_ ?_ ?_
                  · rintro j H4 _ ⟨⟨k4, _⟩⟩
                    exact SqT.of (k4.tup _ _ htb)
                  · rintro j x H4 hx4 ⟨⟨k4, us, d4, tu4⟩⟩
                    have hj : j < ys.length := by
                      obtain ⟨h, _⟩ := List.getElem?_eq_some_iff.mp hx4
                      rw [tvs3.length] at h
                      exact h
                    have hy : ys[j]? = some ys[j] := List.getElem?_eq_getElem hj
                    obtain ⟨x', hx', txx⟩ := tvs3.get hy
                    rw [hx4] at hx'
                    cases hx'
                    have tx4 := k4.tq txx
                    have lu := tu4.length
                    rw [List.length_map, List.length_take] at lu
                    have lu2 : us.length < sizeLine := sz_lt (by omega)
                    walk_at "go"
                    intro r5 H5 hr5 e5
                    have k5 := new_kp hr5 e5
                    have a5 := new_at e5
                    have d5 := k5.at d4
                    walk_at "go"
                    have k6 := Kp.put (u := .lst (us ++ [.ref r5])) d5 (fun _ y => by cases y)
                    refine ⟨⟨(k4.step0 k5).step1 k6 (.inl (by simp)), _, upd_same, ?_⟩⟩
                    rw [List.take_add_one, hy, List.map_append]
                    exact (k6.tqAll (k5.tqAll tu4)).append (tqs_cons (k6.tq (mq_tup a5 (tqs_cons mq_int (tqs_cons (k5.tq tx4) tqs_nil)))) tqs_nil)
                  · rintro H4 ⟨⟨k4, us, d4, tu4⟩⟩
                    rw [tvs3.length, List.take_length] at tu4
                    have lu := tu4.length
                    rw [List.length_map] at lu
                    have lw := tw3.length
                    rw [List.length_map] at lw
                    have f4 := k4.keep _ _ f3 (ne1 nDf)
                    have sz4 : ws.length + us.length ≤ sizeLine := sz_le (by omega)
                    walk_at "go"
                    intro H5 f5 k5
                    refine ⟨_, _, rfl, f5, ?_, ?_⟩
                    · rw [etk, List.map_append]
                      exact (k5.tqAll (k4.tqAll tw3)).append (k5.tqAll tu4)
                    · have k34 : Kp [] H3 H4 := Kp.refl.step1 k4 (.inr hD)
                      exact (k3.step0 k34).trans k5
                · rintro σ H13 ⟨⟨w6', ws, rfl, f3, tw3, k3⟩⟩
                  rw [tb5.length, List.take_length] at tw3
                  exact ⟨_, ws, rfl, f3, tw3, (k5'.sub (by simp)).trans k3⟩
              · obtain ⟨xa, xs0, rfl, hxa, tx0⟩ := tq_tup tx210
                simp only [TqAll] at tx0
                obtain ⟨z1, rest, rfl, tz1, _⟩ := tx0
                cases tq_str tz1
                have kin : inV (.str w0) [.str "if", .str "repeat"] = false := by
                  rw [inV2_28, decide_eq_false n1, decide_eq_false n2]
                  rfl
                walk_at "go"
                intro u4 H4 hu4 e4
                have k4 := new_kp hu4 e4
                have a4 := new_at e4
                refine ⟨_, _, rfl, .inr (SqT.of a4), rfl, rfl, _, rfl, ?_⟩
                have ei : (if false = true then !inV (.str w0) [.str "if", .str "repeat"] else inV (.str w0) [.str "if", .str "repeat"]) = false := by
                  rw [if_neg Bool.false_ne_true]
                  exact kin
                show (fun (c : Bool) (H3 : Hp) => _) (if false = true then !inV (.str w0) [.str "if", .str "repeat"] else inV (.str w0) [.str "if", .str "repeat"]) H4
                rw [ei]
                refine iteF ?_
                walk_at "go"
                intro p5 H5 hp5 e5
                have k5 := new_kp hp5 e5
                have a5 := new_at e5
                have a105 := k5.at (k4.at a10)
                refine ⟨p5, rfl, ⟨_, SqT.of a5⟩, ⟨for_tup (K := K) (a := p5) (xs := []) (fun j σ H6 => Lp (σ = [some (.ref ta), some (.ref lf), some (.int p), some (.int dep), some (.ref xa), some (.ref il), w6, none, none, none, none] ∧ H6 = H5)) ⟨rfl, rfl⟩ ?_ ?_ ?_⟩⟩
                · rintro j σ H6 _ ⟨⟨rfl, rfl⟩⟩
                  exact SqT.of a5
                · rintro j y σ H6 hy _
                  cases hy
                · rintro σ H6 ⟨⟨rfl, rfl⟩⟩
                  refine ⟨_, [], rfl, a105, ?_, ((k4.trans k5)).sub (by simp)⟩
                  unfold bitems
                  rw [eb]
                  exact tqs_nil
            · rintro σ H11 ⟨⟨w6', ws, rfl, a11, tw11, k11⟩⟩
              have nil' : il ≠ lf := (ne_of_none a89 hil).symm
              have a811 := k11.keep _ _ (k10.at a89) (ne1 nil'.symm)
              have tl11 := k11.tqAll (k10.tqAll tl9)
              have ll := tl11.length
              have l11 : ws.length = (bitems d).length := by
                have := tw11.length
                rw [List.length_map] at this
                exact this
              rw [List.length_reverse, List.length_map] at ll
              have lz1 := dszs_len (bitems d)
              have lz2 := dszs_len (stk l0)
              have lz3 : (stk l0).length = l0.length := List.length_map _
              have sz11 : us.length + ws.reverse.length ≤ sizeLine := sz_le (by rw [List.length_reverse]; omega)
              have kH11 : Kp [] H H11 := ((kH8.step0 k9).step0 k10).step1 k11 (.inr ((kH8.step0 k9).free hil (by simp)))
              walk_at "go"
              intro r12 H12 hr12 e12
              have k12 := new_kp hr12 e12
              have a12 := new_at e12
              have a812 := k12.at a811
              have tl12 := k12.tqAll tl11
              have tw12 := (k12.tqAll tw11).rev
              walk_at "go"
              intro H13 a13 k13
              walk_at "go"
              refine ⟨((bitems d).map fun e => (dep + 1, e)) ++ l0, p + 1, _, _, _, _, _, rfl, a13, ?_, by omega, by omega, ?_, ?_, ?_⟩
              · rw [List.map_append, List.reverse_append, List.map_map]
                exact (k13.tqAll tl12).append (k13.tqAll tw12)
              · rw [stk_app, stk_bi]
                exact szd1.bitems.app szd2
              · intro f hf
                rw [← fl7]
                exact ordE_fuel _ _ _ _ hf (by omega)
              · exact (kH11.step0 k12).step1 k13 (.inr flf)
end
section
variable {P : Program} {w : World} {K : PySem.W.Frag} {mg : Str → Option Value} {base : Heap}
theorem ok_program_errorQ (T : Top K mg) {k : Nat} : FnOk P w K mg base CX0 (k + 11) T.program_error.f T.program_error.fd ["value"] spPErrQ := by
  have G_order_error : FnOk P w K mg base CX0 10 T.order_error.f T.order_error.fd ["value"] spOrderQ := ok_order_errorQ T
  have G_rows_of : FnOk P w K mg base CX0 3 T.rows_of.f T.rows_of.fd ["program"] spRows := ok_rows_of T
  have G_weight := ok_weight (P := P) (w := w) (base := base) T 4
  have G_counted := ok_counted (P := P) (w := w) (base := base) T 4
  refine T.program_error.F.ok sc_program_error (fun vs H Q E h => ?_) (fun cdv A outer s H vs Q E hr h => ?_)
  · obtain ⟨v, b, rfl, _⟩ := h
    rfl
  obtain ⟨v, d, rfl, hT, sz, dz, q⟩ := h
  refine ⟨_, (pss_cons (ps_if (pt_not (pt_val (pe_callB (id := "isinstance") (call_isiK (K := K) rfl) (by rfl) T.isinstance (by decide +kernel) (pa_cons (pv 0) (pa_cons (pe_bltn (v := .ty "tuple") (u := .type "tuple") (by rfl) T.tuple (by decide +kernel) rfl) pa_nil))))) (pss_one (ps_ret (pe_tupA (pa_cons pe_non (pa_cons pe_str pa_nil))))) pss_nil)
      (pss_cons (ps_set (i := 1) sc_program_error.nd rfl (.inl rfl) (pe_call G_order_error (hr.mono (by omega)) (by rfl) T.order_error.g T.order_error.F.kp T.order_error.b .nil pass0 (pa_cons (pv 0) pa_nil)))
      (pss_cons (ps_if (pt_cmpR op_notN (pv 1) pe_non (nomark _)) (pss_one (ps_ret (pv 1))) pss_nil)
      (pss_cons (ps_if (pt_cmpR op_gt (pe_callB (id := "len") (call_lenK (K := K) rfl) (by rfl) T.len PySem.boot_len (pa_cons (pe_call G_rows_of (hr.mono (by omega)) (by rfl) T.rows_of.g T.rows_of.F.kp T.rows_of.b .nil pass0 (pa_cons (pv 0) pa_nil)) pa_nil)) (pe_glob (v := .int 24) (by rfl) T.g_MAX_PLACES ⟨_, rfl⟩) (nomark _)) (pss_one (ps_ret (pe_tupA (pa_cons pe_non (pa_cons pe_str pa_nil))))) pss_nil)
      (pss_cons (ps_if (pt_cmpR op_gt (pe_call G_weight (hr.mono (by omega)) (by rfl) T.weight.g T.weight.F.kp T.weight.b .nil pass0 (pa_cons (pv 0) pa_nil)) (pe_glob (v := .int 60) (by rfl) T.g_MAX_WEIGHT ⟨_, rfl⟩) (nomark _)) (pss_one (ps_ret (pe_tupA (pa_cons pe_non (pa_cons pe_str pa_nil))))) pss_nil)
      (pss_cons (ps_if (pt_cmpR op_gt (pe_call G_counted (hr.mono (by omega)) (by rfl) T.counted.g T.counted.F.kp T.counted.b .nil pass0 (pa_cons (pv 0) (pa_cons pe_str pa_nil))) (pe_glob (v := .int 4) (by rfl) T.g_MAX_HALVINGS ⟨_, rfl⟩) (nomark _)) (pss_one (ps_ret (pe_tupA (pa_cons pe_non (pa_cons pe_str pa_nil))))) pss_nil)
      (pss_one (ps_ret (pe_ifExp (pt_cmpR op_gt (pe_call G_counted (hr.mono (by omega)) (by rfl) T.counted.g T.counted.F.kp T.counted.b .nil pass0 (pa_cons (pv 0) (pa_cons pe_str pa_nil))) (pe_glob (v := .int 3) (by rfl) T.g_MAX_COMPARINGS ⟨_, rfl⟩) (nomark _)) (pe_tupA (pa_cons pe_non (pa_cons pe_str pa_nil))) pe_non))))))))), ?_⟩
  have notT : isTupB d = false → ∀ r H1, H r = none → H1 = upd H r (.tup [.non, .str "program"]) → Q (.ref r) H1 := by
    intro nt r H1 hr1 e1
    exact q _ _ H1 (mk_tup (new_at e1) (trs_cons mk_non (trs_cons mk_str trs_nil))) (.prog nt) (new_kp hr1 e1)
  cases d with
  | none =>
    simp only [Tq] at hT; subst hT
    walk_at "go"
    exact notT rfl
  | bool b =>
    simp only [Tq] at hT; subst hT
    walk_at "go"
    exact notT rfl
  | int b =>
    simp only [Tq] at hT; subst hT
    walk_at "go"
    exact notT rfl
  | str b =>
    simp only [Tq] at hT; subst hT
    walk_at "go"
    exact notT rfl
  | list ds =>
    obtain ⟨_, _, _, rfl, _, g1, g2⟩ := tq_lst hT
    walk_at "go"
    exact notT rfl
  | dict ds =>
    obtain ⟨_, _, _, rfl, _, g1⟩ := tq_dct hT
    walk_at "go"
    exact notT rfl
  | tuple ds =>
    simp only [Szd] at sz
    simp only [dsz] at dz
    have dz2 : dszs ds ≤ 1000000 := by omega
    obtain ⟨ta, vs, rfl, hta, tvs⟩ := tq_tup hT
    walk_at "go"
    intro t1 H1 et k1
    cases eo : ordErr ds with
    | some pw =>
      obtain ⟨p, w⟩ := pw
      rw [eo] at et
      obtain ⟨u, x1, x2, rfl, h1, t1', t2'⟩ := tr_tup2 et
      walk_at "go"
      exact q _ _ H1 et (.ord eo) k1
    | none =>
      rw [eo] at et
      have et : Tr H1 .none t1 := et
      simp only [Tr] at et
      subst et
      obtain ⟨b, rfl, ok, nb⟩ := ordErr_none eo
      have pb := Sm.pls_dsz b
      have pb2 : Sm.pls b ≤ 1000000 := by omega
      have lb2 : b.length ≤ 1000000 := Nat.le_trans (Sm.len_pls b) pb2
      have hTr : Tr H (.tuple (Sm.ds b)) (.ref ta) := Tq.tr (by simp only [plainD]; exact Sm.plainDs b) hT
      have tT1 := k1.tr hTr
      have ln := Sm.prss_len 0 b
      have fin : ∀ e, bndErr b = e → ∀ t H', Tr H' (bndD e) t → Kp [] H H' → Q t H' := fun e he t H' ht kk => q t _ H' (he ▸ ht) (.bnd eo) kk
      unfold bndErr at fin
      have sh : SrtW "half" := .inr (.inl rfl)
      have sl : SrtW "less" := .inr (.inr rfl)
      walk_at "go"
      intro l2 us H2 hl2 a2 tu2 k2
      have lus : us.length = Sm.pls b := by rw [tu2.length, List.length_map, ln]
      have tT2 := k2.tr tT1
      have k02 := k1.step0 k2
      walk_at "go"
      rw [lus]
      refine iteB (fun h1 => ?_) (fun h1 => ?_)
      · have h1 : 24 < Sm.pls b := by have := of_decide_eq_true h1; omega
        rw [if_pos h1] at fin
        walk_at "go"
        intro r H3 hr3 e3
        exact fin _ rfl _ H3 (mk_tup (new_at e3) (trs_cons mk_non (trs_cons mk_str trs_nil))) (k02.step0 (new_kp hr3 e3))
      · have h1 : ¬ 24 < Sm.pls b := by have := of_decide_eq_false h1; omega
        rw [if_neg h1] at fin
        walk_at "go"
        intro H3 k3
        have tT3 := k3.tr tT2
        have k03 := k02.step0 k3
        walk_at "go"
        refine iteB (fun h2 => ?_) (fun h2 => ?_)
        · have h2 : 60 < Sm.wts b := by have := of_decide_eq_true h2; omega
          rw [if_pos h2] at fin
          walk_at "go"
          intro r H4 hr4 e4
          exact fin _ rfl _ H4 (mk_tup (new_at e4) (trs_cons mk_non (trs_cons mk_str trs_nil))) (k03.step0 (new_kp hr4 e4))
        · have h2 : ¬ 60 < Sm.wts b := by have := of_decide_eq_false h2; omega
          rw [if_neg h2] at fin
          walk_at "go"
          intro H4 k4
          have tT4 := k4.tr tT3
          have k04 := k03.step0 k4
          have c1 : cnts "half" b = Sm.hvs b := by
            unfold cnts
            rw [if_neg (by decide +kernel), if_pos rfl]
          have c2 : cnts "less" b = Sm.cps b := by
            unfold cnts
            rw [if_neg (by decide +kernel), if_neg (by decide +kernel)]
          walk_at "go"
          rw [c1]
          refine iteB (fun h3 => ?_) (fun h3 => ?_)
          · have h3 : 4 < Sm.hvs b := by have := of_decide_eq_true h3; omega
            rw [if_pos h3] at fin
            walk_at "go"
            intro r H5 hr5 e5
            exact fin _ rfl _ H5 (mk_tup (new_at e5) (trs_cons mk_non (trs_cons mk_str trs_nil))) (k04.step0 (new_kp hr5 e5))
          · have h3 : ¬ 4 < Sm.hvs b := by have := of_decide_eq_false h3; omega
            rw [if_neg h3] at fin
            walk_at "go"
            intro H5 k5
            have k05 := k04.step0 k5
            walk_at "go"
            rw [c2]
            refine iteB (fun h4 => ?_) (fun h4 => ?_)
            · have h4 : 3 < Sm.cps b := by have := of_decide_eq_true h4; omega
              rw [if_pos h4] at fin
              walk_at "go"
              intro r H6 hr6 e6
              exact fin _ rfl _ H6 (mk_tup (new_at e6) (trs_cons mk_non (trs_cons mk_str trs_nil))) (k05.step0 (new_kp hr6 e6))
            · have h4 : ¬ 3 < Sm.cps b := by have := of_decide_eq_false h4; omega
              rw [if_neg h4] at fin
              exact fin _ rfl _ H5 mk_non k05
end
section
variable {P : Program} {w : World} {K : PySem.W.Frag} {mg : Str → Option Value} {base : Heap}
theorem ok_law (T : Top K mg) : FnG P w K mg base CX0 33 T.law.f T.law.fd ["_law_script"] (spLaw K) := by
  have G_l_deck := ok_l_deck (P := P) (w := w) (base := base) (k := 0) T
  have G_l_names := ok_l_namesS (P := P) (w := w) (base := base) T
  have G_l_one : FnOk P w K mg base CX0 2 T.l_one.f T.l_one.fd ["_law_deck_here", "_law_items"] (spOne K) := ok_l_one T
  have G_l_statement : FnOk P w K mg base CX0 6 T.l_statement.f T.l_statement.fd ["_law_deck_here", "_law_names_here"] spStmt28 := ok_l_statement T
  have G_l_kept : FnOk P w K mg base CX0 1 T.l_kept.f T.l_kept.fd [] spKept := ok_l_kept T
  have G_l_odd : FnOk P w K mg base CX0 3 T.l_odd.f T.l_odd.fd ["_law_deck_here"] spOdd := ok_l_odd T
  have G_l_bent : FnOk P w K mg base CX0 10 T.l_bent.f T.l_bent.fd ["_law_deck_here", "_law_value", "_law_deep_here"] (spBent 6) := ok_l_bent T 6
  have G_program_error : FnOk P w K mg base CX0 11 T.program_error.f T.program_error.fd ["value"] spPErrQ := ok_program_errorQ T
  have G_l_error : FnOk P w K mg base CX0 11 T.l_error.f T.l_error.fd ["_law_value"] spPErrQ := ok_l_errorQ T
  refine Fun.okG T.law.F sc_law (fun vs H Q E h => ?_) (fun cdv A outer s H vs Q E fr hr h => ?_)
  · obtain ⟨a, ns, rfl, _⟩ := h
    rfl
  obtain ⟨sa, ns, rfl, hS, hl, q⟩ := h
  have hu64 := hr.units
  refine ⟨_, (pss_cons (ps_set (i := 1) sc_law.nd rfl (.inl rfl) (pe_call G_l_deck (hr.mono (by omega)) (by rfl) T.l_deck.g T.l_deck.F.kp T.l_deck.b .nil pass0 (pa_cons (pv 0) pa_nil)))
      (pss_cons (ps_set (i := 2) sc_law.nd rfl (.inl rfl) (pe_call G_l_names (hr.mono (by omega)) (by rfl) T.l_names.g T.l_names.F.kp T.l_names.b .nil pass0 (pa_cons (pv 1) pa_nil)))
      (pss_cons (ps_forA (ps_for PassesOwn.never rfl (pi_range1 (by rfl) T.range (pa_cons pe_int pa_nil)) (pg_name (i := 3) sc_law.nd rfl (.inl rfl)) (pss_cons (ps_set (i := 4) sc_law.nd rfl (.inl rfl) (pe_call G_l_statement (hr.mono (by omega)) (by rfl) T.l_statement.g T.l_statement.F.kp T.l_statement.b .nil pass0 (pa_cons (pv 1) (pa_cons (pv 2) pa_nil))))
      (pss_cons (ps_set (i := 5) sc_law.nd rfl (.inl rfl) (pe_call G_l_bent (hr.mono (by omega)) (by rfl) T.l_bent.g T.l_bent.F.kp T.l_bent.b .nil pass0 (pa_cons (pv 1) (pa_cons (pv 4) (pa_cons pe_int pa_nil)))))
      (pss_cons (ps_set (i := 6) sc_law.nd rfl (.inl rfl) (pe_call G_l_one (hr.mono (by omega)) (by rfl) T.l_one.g T.l_one.F.kp T.l_one.b .nil pass0 (pa_cons (pv 1) (pa_cons (pe_call0 G_l_kept (hr.mono (by omega)) (by rfl) T.l_kept.g T.l_kept.F.kp T.l_kept.b .nil pass0) pa_nil))))
      (pss_cons (ps_set (i := 7) sc_law.nd rfl (.inl rfl) (pe_lstA (pa_cons (pe_tupA (pa_cons pe_str (pa_cons (pv 6) (pa_cons pe_int pa_nil)))) (pa_cons (pe_tupA (pa_cons pe_str (pa_cons (pv 6) (pa_cons pe_str pa_nil)))) (pa_cons (pe_tupA (pa_cons pe_str (pa_cons (pv 6) pa_nil))) (pa_cons (pe_tupA (pa_cons pe_str (pa_cons pe_str (pa_cons (pe_tupA (pa_cons pe_str (pa_cons (pv 6) (pa_cons pe_int pa_nil)))) pa_nil)))) pa_nil))))))
      (pss_one (ps_forA (ps_for PassesOwn.never rfl (pi_listK (K := K) rfl (pe_op op_catL (pe_lstA (pa_cons (pv 4) (pa_cons (pv 5) (pa_cons (pe_call G_l_bent (hr.mono (by omega)) (by rfl) T.l_bent.g T.l_bent.F.kp T.l_bent.b .nil pass0 (pa_cons (pv 1) (pa_cons (pv 5) (pa_cons pe_int pa_nil)))) (pa_cons (pe_call G_l_odd (hr.mono (by omega)) (by rfl) T.l_odd.g T.l_odd.F.kp T.l_odd.b .nil pass0 (pa_cons (pv 1) pa_nil)) pa_nil))))) (pv 7))) (pg_name (i := 8) sc_law.nd rfl (.inl rfl)) (pss_cons (ps_set (i := 9) sc_law.nd rfl (.inl rfl) (pe_callB (id := "repr") (call_reprQ fr hu64) (by rfl) T.repr (by decide +kernel) (pa_cons (pv 8) pa_nil)))
      (pss_one (ps_if (PW.pt (pw_or (pt_cmpR op_ne (pe_callB (id := "repr") (call_reprQ fr hu64) (by rfl) T.repr (by decide +kernel) (pa_cons (pe_call G_program_error (hr.mono (by omega)) (by rfl) T.program_error.g T.program_error.F.kp T.program_error.b .nil pass0 (pa_cons (pe_tupA (pa_cons (pv 8) pa_nil)) pa_nil)) pa_nil)) (pe_callB (id := "repr") (call_reprQ fr hu64) (by rfl) T.repr (by decide +kernel) (pa_cons (pe_call G_l_error (hr.mono (by omega)) (by rfl) T.l_error.g T.l_error.F.kp T.l_error.b .nil pass0 (pa_cons (pe_tupA (pa_cons (pv 8) pa_nil)) pa_nil)) pa_nil)) (nomark _)) (pw_or1 (pt_cmpR op_ne (pe_callB (id := "repr") (call_reprQ fr hu64) (by rfl) T.repr (by decide +kernel) (pa_cons (pv 8) pa_nil)) (pv 9) (nomark _))))) (pss_one (ps_ret pe_bl)) pss_nil))))))))))))
      (pss_one (ps_ret pe_bl))))), ?_⟩
  walk_at "go"
  intro a c H1 ha hc k1 D1
  walk_at "go"
  intro nm L R H4 m4 hnm lr lrs N4 ml4 mu4 D4 k4
  have sh := nms_shorts lr
  have n2 : 2 ≤ (nmsOf L R).length := by show 2 ≤ 4; omega
  walk_at "go"
  refine ⟨for_range (lo := 0) (n := Int.toNat 16) (fun i σ H3 => Lp (∃ (w3 w4 w5 w6 w7 w8 w9 : Option V) (m : Int), σ = [some (.ref sa), some (.ref a), some (.ref nm), w3, w4, w5, w6, w7, w8, w9] ∧ 0 ≤ m ∧ m ≤ 100 + (i : Int) * 2000 ∧ Deck H3 a c m ∧ Nms H3 nm a c (nmsOf L R))) ⟨_, _, _, _, _, _, _, m4, rfl, by omega, by omega, D4, N4⟩ ?_ ?_⟩
  · rintro i σ H3 hi ⟨⟨w3, w4, w5, w6, w7, w8, w9, m, rfl, m0, mu, D3, N3⟩⟩
    have hi5 : i < 16 := hi
    have hm : m ≤ 700000000 := by omega
    walk_at "go"
    intro v d H5 m5 t5 v5 ml5 mu5 D5 k5
    have N5 := N3.kpD k5
    have dz5 : dsz d ≤ 1000000 := by have := v5.ds; omega
    have hb5 : m5 + 3 * ((6 : Nat) : Int) ≤ 800000000 := by omega
    have n6 : (6 : Int) = ((6 : Nat) : Int) := rfl
    walk_at "go"
    intro v1 d1 H6 m6 t6 B1 la ua D6 k6
    have N6 := N5.kpD k6
    have t56 := k6.tq t5
    have vw1 := v5.bent B1
    walk_at "go"
    intro kl H7 hkl akl k7
    have D7 := D6.kp0 k7
    have N7 := N6.kp0 k7
    have okl := D6.off hkl
    have hmM : m6 ≤ MANY := by show m6 ≤ 1000000000; omega
    have zk : 0 < KEPTS.length ∧ KEPTS.length ≤ 1000000 := by decide +kernel
    obtain ⟨zk1, zk2⟩ := zk
    have t57 := k7.tq t56
    have t67 := k7.tq t6
    walk_at "go"
    intro wv H8 hwv D8 k8
    obtain ⟨zw, rfl, vz⟩ := kept_vw hwv
    have N8 := N7.kpD k8
    have t58 := k8.tq t57
    have t68 := k8.tq t67
    -- made from here
    have t5_8 := t58
    have t6_8 := t68
    have D_8 := D8
    have N_8 := N8
    have K_8 : Kp [a, c] H8 H8 := Kp.refl
    walk_at "go"
    intro p1 H_9 hp1 e9
    have k9 := new_kp hp1 e9
    have D_9 := D_8.kp0 k9
    have t5_9 := k9.tq t5_8
    have t6_9 := k9.tq t6_8
    have N_9 := N_8.kp0 k9
    have nat_9 := N_9.at_
    have K_9 := K_8.step0 k9
    have ap1_9 := new_at e9
    walk_at "go"
    intro p2 H_10 hp2 e10
    have k10 := new_kp hp2 e10
    have D_10 := D_9.kp0 k10
    have t5_10 := k10.tq t5_9
    have t6_10 := k10.tq t6_9
    have ap1_10 := k10.tup _ _ ap1_9
    have N_10 := N_9.kp0 k10
    have nat_10 := N_10.at_
    have K_10 := K_9.step0 k10
    have ap2_10 := new_at e10
    walk_at "go"
    intro p3 H_11 hp3 e11
    have k11 := new_kp hp3 e11
    have D_11 := D_10.kp0 k11
    have t5_11 := k11.tq t5_10
    have t6_11 := k11.tq t6_10
    have ap1_11 := k11.tup _ _ ap1_10
    have ap2_11 := k11.tup _ _ ap2_10
    have N_11 := N_10.kp0 k11
    have nat_11 := N_11.at_
    have K_11 := K_10.step0 k11
    have ap3_11 := new_at e11
    walk_at "go"
    intro p4 H_12 hp4 e12
    have k12 := new_kp hp4 e12
    have D_12 := D_11.kp0 k12
    have t5_12 := k12.tq t5_11
    have t6_12 := k12.tq t6_11
    have ap1_12 := k12.tup _ _ ap1_11
    have ap2_12 := k12.tup _ _ ap2_11
    have ap3_12 := k12.tup _ _ ap3_11
    have N_12 := N_11.kp0 k12
    have nat_12 := N_12.at_
    have K_12 := K_11.step0 k12
    have ap4_12 := new_at e12
    walk_at "go"
    intro p5 H_13 hp5 e13
    have k13 := new_kp hp5 e13
    have D_13 := D_12.kp0 k13
    have t5_13 := k13.tq t5_12
    have t6_13 := k13.tq t6_12
    have ap1_13 := k13.tup _ _ ap1_12
    have ap2_13 := k13.tup _ _ ap2_12
    have ap3_13 := k13.tup _ _ ap3_12
    have ap4_13 := k13.tup _ _ ap4_12
    have N_13 := N_12.kp0 k13
    have nat_13 := N_13.at_
    have K_13 := K_12.step0 k13
    have ap5_13 := new_at e13
    walk_at "go"
    intro l6 H_14 hl6 e14
    have k14 := new_kp hl6 e14
    have offal6 := D_13.off hl6
    have D_14 := D_13.kp0 k14
    have t5_14 := k14.tq t5_13
    have t6_14 := k14.tq t6_13
    have ap1_14 := k14.tup _ _ ap1_13
    have ap2_14 := k14.tup _ _ ap2_13
    have ap3_14 := k14.tup _ _ ap3_13
    have ap4_14 := k14.tup _ _ ap4_13
    have ap5_14 := k14.tup _ _ ap5_13
    have N_14 := N_13.kp0 k14
    have nat_14 := N_14.at_
    have K_14 := K_13.step0 k14
    have al6_14 := new_at e14
    have hb14 : m6 + 1 + 3 * ((6 : Nat) : Int) ≤ 800000000 := by omega
    have dz6 : dsz d1 ≤ 1000000 := by have := vw1.ds; omega
    walk_at "go"
    intro v2 d2 H_15 m15 t7_15 B2 lb ub D_15 k15
    have t5_15 := k15.tq t5_14
    have t6_15 := k15.tq t6_14
    have ap1_15 := k15.tup _ _ ap1_14
    have ap2_15 := k15.tup _ _ ap2_14
    have ap3_15 := k15.tup _ _ ap3_14
    have ap4_15 := k15.tup _ _ ap4_14
    have ap5_15 := k15.tup _ _ ap5_14
    have al6_15 := k15.keep _ _ al6_14 offal6
    have N_15 := N_14.kpD k15
    have nat_15 := N_15.at_
    have K_15 := K_14.trans k15
    have vw2 := vw1.bent B2
    have hm15 : m15 ≤ 900000000 := by omega
    walk_at "go"
    intro v3 d3 H_16 t8_16 O3 D_16 k16
    have t5_16 := k16.tq t5_15
    have t6_16 := k16.tq t6_15
    have ap1_16 := k16.tup _ _ ap1_15
    have ap2_16 := k16.tup _ _ ap2_15
    have ap3_16 := k16.tup _ _ ap3_15
    have ap4_16 := k16.tup _ _ ap4_15
    have ap5_16 := k16.tup _ _ ap5_15
    have al6_16 := k16.keep _ _ al6_15 offal6
    have t7_16 := k16.tq t7_15
    have N_16 := N_15.kpD k16
    have nat_16 := N_16.at_
    have K_16 := K_15.trans k16
    walk_at "go"
    intro l7 H_17 hl7 e17
    have k17 := new_kp hl7 e17
    have offal7 := D_16.off hl7
    have D_17 := D_16.kp0 k17
    have t5_17 := k17.tq t5_16
    have t6_17 := k17.tq t6_16
    have ap1_17 := k17.tup _ _ ap1_16
    have ap2_17 := k17.tup _ _ ap2_16
    have ap3_17 := k17.tup _ _ ap3_16
    have ap4_17 := k17.tup _ _ ap4_16
    have ap5_17 := k17.tup _ _ ap5_16
    have al6_17 := k17.keep _ _ al6_16 (by simp)
    have t7_17 := k17.tq t7_16
    have t8_17 := k17.tq t8_16
    have N_17 := N_16.kp0 k17
    have nat_17 := N_17.at_
    have K_17 := K_16.step0 k17
    have al7_17 := new_at e17
    walk_at "go"
    intro l8 H_18 hl8 al8_18 k18
    have offal8 := D_17.off hl8
    have D_18 := D_17.kp0 k18
    have t5_18 := k18.tq t5_17
    have t6_18 := k18.tq t6_17
    have ap1_18 := k18.tup _ _ ap1_17
    have ap2_18 := k18.tup _ _ ap2_17
    have ap3_18 := k18.tup _ _ ap3_17
    have ap4_18 := k18.tup _ _ ap4_17
    have ap5_18 := k18.tup _ _ ap5_17
    have al6_18 := k18.keep _ _ al6_17 (by simp)
    have t7_18 := k18.tq t7_17
    have t8_18 := k18.tq t8_17
    have al7_18 := k18.keep _ _ al7_17 (by simp)
    have N_18 := N_17.kp0 k18
    have nat_18 := N_18.at_
    have K_18 := K_17.step0 k18
    have v1i : Vw (.int 1) 1 0 0 := vw_int (by decide)
    have vns : Vw (.str "n") 1 8 0 := vw_str (by decide +kernel) (by omega)
    have vas : Vw (.str "a") 1 8 0 := vw_str (by decide +kernel) (by omega)
    have all8 : ∀ y ∈ [v, v1, v2, v3, .ref p1, .ref p2, .ref p3, .ref p5], ∃ d, Tq H_18 d y ∧ Vw d 2000 10000 40 := by
      intro y hy
      simp only [List.mem_cons, List.not_mem_nil, or_false] at hy
      rcases hy with rfl | rfl | rfl | rfl | rfl | rfl | rfl | rfl
      · exact ⟨_, t5_18, v5.mono (by omega) (by omega) (by omega)⟩
      · exact ⟨_, t6_18, vw1.mono (by omega) (by omega) (by omega)⟩
      · exact ⟨_, t7_18, vw2.mono (by omega) (by omega) (by omega)⟩
      · exact ⟨_, t8_18, O3.vw.mono (by omega) (by omega) (by omega)⟩
      · exact ⟨_, mq_tup ap1_18 (tqs_cons mq_str (tqs_cons mq_str (tqs_cons mq_int tqs_nil))), (vw_op "set" (by decide +kernel) vz v1i).mono (by omega) (by omega) (by omega)⟩
      · exact ⟨_, mq_tup ap2_18 (tqs_cons mq_str (tqs_cons mq_str (tqs_cons mq_str tqs_nil))), (vw_op "half" (by decide +kernel) vz vns).mono (by omega) (by omega) (by omega)⟩
      · exact ⟨_, mq_tup ap3_18 (tqs_cons mq_str (tqs_cons mq_str tqs_nil)), (vw_un "tell" (by decide +kernel) vz).mono (by omega) (by omega) (by omega)⟩
      · exact ⟨_, mq_tup ap5_18 (tqs_cons mq_str (tqs_cons mq_str (tqs_cons (mq_tup ap4_18 (tqs_cons mq_str (tqs_cons mq_str (tqs_cons mq_int tqs_nil)))) tqs_nil))), (vw_op "half" (by decide +kernel) vas (vw_op "plus" (by decide +kernel) vz v1i)).mono (by omega) (by omega) (by omega)⟩
    refine ⟨l8, rfl, ⟨_, SqL.of al8_18⟩, ⟨for_list (K := K) (a := l8) (xs := [v, v1, v2, v3, .ref p1, .ref p2, .ref p3, .ref p5]) (fun j σ X => Lp (∃ w8 w9, σ = [some (.ref sa), some (.ref a), some (.ref nm), some (.int (0 + (i : Int))), some v, some v1, some (.str zw), some (.ref l6), w8, w9] ∧ Kp [] H_18 X)) ⟨_, _, rfl, Kp.refl⟩ ?_ ?_ ?_⟩⟩
    · rintro j σ X _ ⟨⟨w8, w9, rfl, kX⟩⟩
      exact SqL.of (kX.at al8_18)
    · rintro j y σ X hy ⟨⟨w8, w9, rfl, kX⟩⟩
      obtain ⟨d, ty, vv⟩ := all8 y (List.mem_of_getElem? hy)
      have tX := kX.tq ty
      have sw1 : Shw d := vv.bk.shw (by omega) (by omega)
      have vt := vw_tup (vws_cons vv vws_nil)
      have szt := vt.sz
      have dst : dsz (.tuple [d]) ≤ 1000000 := by have := vt.ds; omega
      walk_at "go"
      rintro _ rfl
      walk_at "go"
      intro q1 X1 hq1 e1
      have j1 := new_kp hq1 e1
      have tt1 : Tq X1 (.tuple [d]) (.ref q1) := mq_tup (new_at e1) (tqs_cons (j1.tq tX) tqs_nil)
      have tX1 := j1.tq tX
      walk_at "go"
      intro et1 ed1 X2 te1 pe1 j2
      have te1q := Tr.tq te1
      have sh1 := pe1.shw dst
      have tX2 := j2.tq tX1
      walk_at "go"
      rintro _ rfl
      walk_at "go"
      intro q3 X3 hq3 e3
      have j3 := new_kp hq3 e3
      have tt3 : Tq X3 (.tuple [d]) (.ref q3) := mq_tup (new_at e3) (tqs_cons (j3.tq tX2) tqs_nil)
      have tX3 := j3.tq tX2
      walk_at "go"
      intro et2 ed2 X4 te2 pe2 j4
      have te2q := Tr.tq te2
      have sh2 := pe2.shw dst
      have ee : ed1 = ed2 := pe1.one pe2
      subst ee
      have tX4 := j4.tq tX3
      walk_at "go"
      rintro _ rfl
      walk_at "go"
      rw [show (!decide (V.str ed1.shown = V.str ed1.shown)) = false by rw [decide_eq_true rfl]; rfl]
      refine iteF ?_
      walk_at "go"
      rintro _ rfl
      walk_at "go"
      rw [show (!decide (V.str d.shown = V.str d.shown)) = false by rw [decide_eq_true rfl]; rfl]
      refine iteF ?_
      walk_at "go"
      exact ⟨_, _, rfl, (((kX.trans j1).trans j2).trans j3).trans j4⟩
    · rintro σ X ⟨⟨w8, w9, rfl, kX⟩⟩
      walk_at "go"
      exact ⟨_, _, _, _, _, _, _, m15 + 1, rfl, by omega, by rw [Int.natCast_add, Int.add_mul]; omega, D_18.kp0 kX, N_18.kp0 kX⟩
  · rintro σ H3 ⟨⟨w3, w4, w5, w6, w7, w8, w9, m, rfl, m0, mu, D3, N3⟩⟩
    walk_at "go"
    exact q H3
end
end EH
namespace EH
open PySem L2 PyProof.Rows
theorem all_mk {P : Program} {w : World} {K : PySem.W.Frag} {h : Heap} {mg : Str → Option Value} {fa : Addr} (X : K.In h) (G : h.Ns mainGlobals mg) (hfa : mg "law" = some (.ref fa))
    {f1 : Addr} {od1 an1 : Option Addr} {sl1 : Array (Option Value)} {oc1 kV1 dc1 pm1 cd1 ct1 : Value}
    {f2 : Addr} {od2 an2 : Option Addr} {sl2 : Array (Option Value)} {oc2 kV2 dc2 pm2 cd2 ct2 : Value}
    {f3 : Addr} {od3 an3 : Option Addr} {sl3 : Array (Option Value)} {oc3 kV3 dc3 pm3 cd3 ct3 : Value}
    {f4 : Addr} {od4 an4 : Option Addr} {sl4 : Array (Option Value)} {oc4 kV4 dc4 pm4 cd4 ct4 : Value}
    {f5 : Addr} {od5 an5 : Option Addr} {sl5 : Array (Option Value)} {oc5 kV5 dc5 pm5 cd5 ct5 : Value}
    {f6 : Addr} {od6 an6 : Option Addr} {sl6 : Array (Option Value)} {oc6 kV6 dc6 pm6 cd6 ct6 : Value}
    {f7 : Addr} {od7 an7 : Option Addr} {sl7 : Array (Option Value)} {oc7 kV7 dc7 pm7 cd7 ct7 : Value}
    {f8 : Addr} {od8 an8 : Option Addr} {sl8 : Array (Option Value)} {oc8 kV8 dc8 pm8 cd8 ct8 : Value}
    {f9 : Addr} {od9 an9 : Option Addr} {sl9 : Array (Option Value)} {oc9 kV9 dc9 pm9 cd9 ct9 : Value}
    {f10 : Addr} {od10 an10 : Option Addr} {sl10 : Array (Option Value)} {oc10 kV10 dc10 pm10 cd10 ct10 : Value}
    {f11 : Addr} {od11 an11 : Option Addr} {sl11 : Array (Option Value)} {oc11 kV11 dc11 pm11 cd11 ct11 : Value}
    {f12 : Addr} {od12 an12 : Option Addr} {sl12 : Array (Option Value)} {oc12 kV12 dc12 pm12 cd12 ct12 : Value}
    {f13 : Addr} {od13 an13 : Option Addr} {sl13 : Array (Option Value)} {oc13 kV13 dc13 pm13 cd13 ct13 : Value}
    {f14 : Addr} {od14 an14 : Option Addr} {sl14 : Array (Option Value)} {oc14 kV14 dc14 pm14 cd14 ct14 : Value}
    {f15 : Addr} {od15 an15 : Option Addr} {sl15 : Array (Option Value)} {oc15 kV15 dc15 pm15 cd15 ct15 : Value}
    {f16 : Addr} {od16 an16 : Option Addr} {sl16 : Array (Option Value)} {oc16 kV16 dc16 pm16 cd16 ct16 : Value}
    {f17 : Addr} {od17 an17 : Option Addr} {sl17 : Array (Option Value)} {oc17 kV17 dc17 pm17 cd17 ct17 : Value}
    {f18 : Addr} {od18 an18 : Option Addr} {sl18 : Array (Option Value)} {oc18 kV18 dc18 pm18 cd18 ct18 : Value}
    {f19 : Addr} {od19 an19 : Option Addr} {sl19 : Array (Option Value)} {oc19 kV19 dc19 pm19 cd19 ct19 : Value}
    {f20 : Addr} {od20 an20 : Option Addr} {sl20 : Array (Option Value)} {oc20 kV20 dc20 pm20 cd20 ct20 : Value}
    {f21 : Addr} {od21 an21 : Option Addr} {sl21 : Array (Option Value)} {oc21 kV21 dc21 pm21 cd21 ct21 : Value}
    {f22 : Addr} {od22 an22 : Option Addr} {sl22 : Array (Option Value)} {oc22 kV22 dc22 pm22 cd22 ct22 : Value}
    {f23 : Addr} {od23 an23 : Option Addr} {sl23 : Array (Option Value)} {oc23 kV23 dc23 pm23 cd23 ct23 : Value}
    {f24 : Addr} {od24 an24 : Option Addr} {sl24 : Array (Option Value)} {oc24 kV24 dc24 pm24 cd24 ct24 : Value}
    {f25 : Addr} {od25 an25 : Option Addr} {sl25 : Array (Option Value)} {oc25 kV25 dc25 pm25 cd25 ct25 : Value}
    {f26 : Addr} {od26 an26 : Option Addr} {sl26 : Array (Option Value)} {oc26 kV26 dc26 pm26 cd26 ct26 : Value}
    {f27 : Addr} {od27 an27 : Option Addr} {sl27 : Array (Option Value)} {oc27 kV27 dc27 pm27 cd27 ct27 : Value}
    {f28 : Addr} {od28 an28 : Option Addr} {sl28 : Array (Option Value)} {oc28 kV28 dc28 pm28 cd28 ct28 : Value}
    {f29 : Addr} {od29 an29 : Option Addr} {sl29 : Array (Option Value)} {oc29 kV29 dc29 pm29 cd29 ct29 : Value}
    {f30 : Addr} {od30 an30 : Option Addr} {sl30 : Array (Option Value)} {oc30 kV30 dc30 pm30 cd30 ct30 : Value}
    {f31 : Addr} {od31 an31 : Option Addr} {sl31 : Array (Option Value)} {oc31 kV31 dc31 pm31 cd31 ct31 : Value}
    {f32 : Addr} {od32 an32 : Option Addr} {sl32 : Array (Option Value)} {oc32 kV32 dc32 pm32 cd32 ct32 : Value}
    {f33 : Addr} {od33 an33 : Option Addr} {sl33 : Array (Option Value)} {oc33 kV33 dc33 pm33 cd33 ct33 : Value}
    {f34 : Addr} {od34 an34 : Option Addr} {sl34 : Array (Option Value)} {oc34 kV34 dc34 pm34 cd34 ct34 : Value}
    {t_MAX_NAME : Tok}
    {t_MAX_WORD : Tok}
    {t_MAX_TIMES : Tok}
    {t_MAX_DEEP : Tok}
    {t_MAX_NOTS : Tok}
    {t_MAX_PLACES : Tok}
    {t_MAX_WEIGHT : Tok}
    {t_MAX_HALVINGS : Tok}
    {t_MAX_COMPARINGS : Tok}
    {t_MAX_NEST : Tok}
    {t_LETTERS : Tok}
    {t_SIGNS : Tok}
    {t_MOST_NUMBER : Tok}
    {t_MOST_FACTOR : Tok}
    {a_KEPT : Addr}
    (a1 : PySem.W.nsIn K mainGlobals "is_whole" = some (some (.ref f1)))
    (l1 : K.lookup f1 = some ⟨oc1, od1, .func (PySem.W.fnOf "is_whole" "is_whole" (defArgs s_is_whole) (defBody s_is_whole) (defScope s_is_whole) .none kV1 dc1 pm1 an1 cd1 ct1), sl1⟩)
    (c1 : PySem.W.codeIn K cd1 "is_whole" = true)
    (k1 : PySem.W.keepIn K (.ref f1) = true)
    (a2 : PySem.W.nsIn K mainGlobals "is_word" = some (some (.ref f2)))
    (l2 : K.lookup f2 = some ⟨oc2, od2, .func (PySem.W.fnOf "is_word" "is_word" (defArgs s_is_word) (defBody s_is_word) (defScope s_is_word) .none kV2 dc2 pm2 an2 cd2 ct2), sl2⟩)
    (c2 : PySem.W.codeIn K cd2 "is_word" = true)
    (k2 : PySem.W.keepIn K (.ref f2) = true)
    (a3 : PySem.W.nsIn K mainGlobals "is_name" = some (some (.ref f3)))
    (l3 : K.lookup f3 = some ⟨oc3, od3, .func (PySem.W.fnOf "is_name" "is_name" (defArgs s_is_name) (defBody s_is_name) (defScope s_is_name) .none kV3 dc3 pm3 an3 cd3 ct3), sl3⟩)
    (c3 : PySem.W.codeIn K cd3 "is_name" = true)
    (k3 : PySem.W.keepIn K (.ref f3) = true)
    (a4 : PySem.W.nsIn K mainGlobals "is_expression" = some (some (.ref f4)))
    (l4 : K.lookup f4 = some ⟨oc4, od4, .func (PySem.W.fnOf "is_expression" "is_expression" (defArgs s_is_expression) (defBody s_is_expression) (defScope s_is_expression) .none kV4 dc4 pm4 an4 cd4 ct4), sl4⟩)
    (c4 : PySem.W.codeIn K cd4 "is_expression" = true)
    (k4 : PySem.W.keepIn K (.ref f4) = true)
    (a5 : PySem.W.nsIn K mainGlobals "is_test" = some (some (.ref f5)))
    (l5 : K.lookup f5 = some ⟨oc5, od5, .func (PySem.W.fnOf "is_test" "is_test" (defArgs s_is_test) (defBody s_is_test) (defScope s_is_test) .none kV5 dc5 pm5 an5 cd5 ct5), sl5⟩)
    (c5 : PySem.W.codeIn K cd5 "is_test" = true)
    (k5 : PySem.W.keepIn K (.ref f5) = true)
    (a6 : PySem.W.nsIn K mainGlobals "is_plain" = some (some (.ref f6)))
    (l6 : K.lookup f6 = some ⟨oc6, od6, .func (PySem.W.fnOf "is_plain" "is_plain" (defArgs s_is_plain) (defBody s_is_plain) (defScope s_is_plain) .none kV6 dc6 pm6 an6 cd6 ct6), sl6⟩)
    (c6 : PySem.W.codeIn K cd6 "is_plain" = true)
    (k6 : PySem.W.keepIn K (.ref f6) = true)
    (a7 : PySem.W.nsIn K mainGlobals "is_statement" = some (some (.ref f7)))
    (l7 : K.lookup f7 = some ⟨oc7, od7, .func (PySem.W.fnOf "is_statement" "is_statement" (defArgs s_is_statement) (defBody s_is_statement) (defScope s_is_statement) .none kV7 dc7 pm7 an7 cd7 ct7), sl7⟩)
    (c7 : PySem.W.codeIn K cd7 "is_statement" = true)
    (k7 : PySem.W.keepIn K (.ref f7) = true)
    (a8 : PySem.W.nsIn K mainGlobals "blocks_of" = some (some (.ref f8)))
    (l8 : K.lookup f8 = some ⟨oc8, od8, .func (PySem.W.fnOf "blocks_of" "blocks_of" (defArgs s_blocks_of) (defBody s_blocks_of) (defScope s_blocks_of) .none kV8 dc8 pm8 an8 cd8 ct8), sl8⟩)
    (c8 : PySem.W.codeIn K cd8 "blocks_of" = true)
    (k8 : PySem.W.keepIn K (.ref f8) = true)
    (a9 : PySem.W.nsIn K mainGlobals "items_within" = some (some (.ref f9)))
    (l9 : K.lookup f9 = some ⟨oc9, od9, .func (PySem.W.fnOf "items_within" "items_within" (defArgs s_items_within) (defBody s_items_within) (defScope s_items_within) .none kV9 dc9 pm9 an9 cd9 ct9), sl9⟩)
    (c9 : PySem.W.codeIn K cd9 "items_within" = true)
    (k9 : PySem.W.keepIn K (.ref f9) = true)
    (a10 : PySem.W.nsIn K mainGlobals "rows_of" = some (some (.ref f10)))
    (l10 : K.lookup f10 = some ⟨oc10, od10, .func (PySem.W.fnOf "rows_of" "rows_of" (defArgs s_rows_of) (defBody s_rows_of) (defScope s_rows_of) .none kV10 dc10 pm10 an10 cd10 ct10), sl10⟩)
    (c10 : PySem.W.codeIn K cd10 "rows_of" = true)
    (k10 : PySem.W.keepIn K (.ref f10) = true)
    (a11 : PySem.W.nsIn K mainGlobals "order_error" = some (some (.ref f11)))
    (l11 : K.lookup f11 = some ⟨oc11, od11, .func (PySem.W.fnOf "order_error" "order_error" (defArgs s_order_error) (defBody s_order_error) (defScope s_order_error) .none kV11 dc11 pm11 an11 cd11 ct11), sl11⟩)
    (c11 : PySem.W.codeIn K cd11 "order_error" = true)
    (k11 : PySem.W.keepIn K (.ref f11) = true)
    (a12 : PySem.W.nsIn K mainGlobals "bare" = some (some (.ref f12)))
    (l12 : K.lookup f12 = some ⟨oc12, od12, .func (PySem.W.fnOf "bare" "bare" (defArgs s_bare) (defBody s_bare) (defScope s_bare) .none kV12 dc12 pm12 an12 cd12 ct12), sl12⟩)
    (c12 : PySem.W.codeIn K cd12 "bare" = true)
    (k12 : PySem.W.keepIn K (.ref f12) = true)
    (a13 : PySem.W.nsIn K mainGlobals "own_count" = some (some (.ref f13)))
    (l13 : K.lookup f13 = some ⟨oc13, od13, .func (PySem.W.fnOf "own_count" "own_count" (defArgs s_own_count) (defBody s_own_count) (defScope s_own_count) .none kV13 dc13 pm13 an13 cd13 ct13), sl13⟩)
    (c13 : PySem.W.codeIn K cd13 "own_count" = true)
    (k13 : PySem.W.keepIn K (.ref f13) = true)
    (a14 : PySem.W.nsIn K mainGlobals "counted" = some (some (.ref f14)))
    (l14 : K.lookup f14 = some ⟨oc14, od14, .func (PySem.W.fnOf "counted" "counted" (defArgs s_counted) (defBody s_counted) (defScope s_counted) .none kV14 dc14 pm14 an14 cd14 ct14), sl14⟩)
    (c14 : PySem.W.codeIn K cd14 "counted" = true)
    (k14 : PySem.W.keepIn K (.ref f14) = true)
    (a15 : PySem.W.nsIn K mainGlobals "weight" = some (some (.ref f15)))
    (l15 : K.lookup f15 = some ⟨oc15, od15, .func (PySem.W.fnOf "weight" "weight" (defArgs s_weight) (defBody s_weight) (defScope s_weight) .none kV15 dc15 pm15 an15 cd15 ct15), sl15⟩)
    (c15 : PySem.W.codeIn K cd15 "weight" = true)
    (k15 : PySem.W.keepIn K (.ref f15) = true)
    (a16 : PySem.W.nsIn K mainGlobals "program_error" = some (some (.ref f16)))
    (l16 : K.lookup f16 = some ⟨oc16, od16, .func (PySem.W.fnOf "program_error" "program_error" (defArgs s_program_error) (defBody s_program_error) (defScope s_program_error) .none kV16 dc16 pm16 an16 cd16 ct16), sl16⟩)
    (c16 : PySem.W.codeIn K cd16 "program_error" = true)
    (k16 : PySem.W.keepIn K (.ref f16) = true)
    (a17 : PySem.W.nsIn K mainGlobals "_law_deck" = some (some (.ref f17)))
    (l17 : K.lookup f17 = some ⟨oc17, od17, .func (PySem.W.fnOf "_law_deck" "_law_deck" (defArgs s_l_deck) (defBody s_l_deck) (defScope s_l_deck) .none kV17 dc17 pm17 an17 cd17 ct17), sl17⟩)
    (c17 : PySem.W.codeIn K cd17 "_law_deck" = true)
    (k17 : PySem.W.keepIn K (.ref f17) = true)
    (a18 : PySem.W.nsIn K mainGlobals "_law_draw" = some (some (.ref f18)))
    (l18 : K.lookup f18 = some ⟨oc18, od18, .func (PySem.W.fnOf "_law_draw" "_law_draw" (defArgs s_l_draw) (defBody s_l_draw) (defScope s_l_draw) .none kV18 dc18 pm18 an18 cd18 ct18), sl18⟩)
    (c18 : PySem.W.codeIn K cd18 "_law_draw" = true)
    (k18 : PySem.W.keepIn K (.ref f18) = true)
    (a19 : PySem.W.nsIn K mainGlobals "_law_one" = some (some (.ref f19)))
    (l19 : K.lookup f19 = some ⟨oc19, od19, .func (PySem.W.fnOf "_law_one" "_law_one" (defArgs s_l_one) (defBody s_l_one) (defScope s_l_one) .none kV19 dc19 pm19 an19 cd19 ct19), sl19⟩)
    (c19 : PySem.W.codeIn K cd19 "_law_one" = true)
    (k19 : PySem.W.keepIn K (.ref f19) = true)
    (a20 : PySem.W.nsIn K mainGlobals "_law_names" = some (some (.ref f20)))
    (l20 : K.lookup f20 = some ⟨oc20, od20, .func (PySem.W.fnOf "_law_names" "_law_names" (defArgs s_l_names) (defBody s_l_names) (defScope s_l_names) .none kV20 dc20 pm20 an20 cd20 ct20), sl20⟩)
    (c20 : PySem.W.codeIn K cd20 "_law_names" = true)
    (k20 : PySem.W.keepIn K (.ref f20) = true)
    (a21 : PySem.W.nsIn K mainGlobals "_law_whole" = some (some (.ref f21)))
    (l21 : K.lookup f21 = some ⟨oc21, od21, .func (PySem.W.fnOf "_law_whole" "_law_whole" (defArgs s_l_whole) (defBody s_l_whole) (defScope s_l_whole) .none kV21 dc21 pm21 an21 cd21 ct21), sl21⟩)
    (c21 : PySem.W.codeIn K cd21 "_law_whole" = true)
    (k21 : PySem.W.keepIn K (.ref f21) = true)
    (a22 : PySem.W.nsIn K mainGlobals "_law_letters" = some (some (.ref f22)))
    (l22 : K.lookup f22 = some ⟨oc22, od22, .func (PySem.W.fnOf "_law_letters" "_law_letters" (defArgs s_l_letters) (defBody s_l_letters) (defScope s_l_letters) .none kV22 dc22 pm22 an22 cd22 ct22), sl22⟩)
    (c22 : PySem.W.codeIn K cd22 "_law_letters" = true)
    (k22 : PySem.W.keepIn K (.ref f22) = true)
    (a23 : PySem.W.nsIn K mainGlobals "_law_is_name" = some (some (.ref f23)))
    (l23 : K.lookup f23 = some ⟨oc23, od23, .func (PySem.W.fnOf "_law_is_name" "_law_is_name" (defArgs s_l_is_name) (defBody s_l_is_name) (defScope s_l_is_name) .none kV23 dc23 pm23 an23 cd23 ct23), sl23⟩)
    (c23 : PySem.W.codeIn K cd23 "_law_is_name" = true)
    (k23 : PySem.W.keepIn K (.ref f23) = true)
    (a24 : PySem.W.nsIn K mainGlobals "_law_is_expression" = some (some (.ref f24)))
    (l24 : K.lookup f24 = some ⟨oc24, od24, .func (PySem.W.fnOf "_law_is_expression" "_law_is_expression" (defArgs s_l_is_expression) (defBody s_l_is_expression) (defScope s_l_is_expression) .none kV24 dc24 pm24 an24 cd24 ct24), sl24⟩)
    (c24 : PySem.W.codeIn K cd24 "_law_is_expression" = true)
    (k24 : PySem.W.keepIn K (.ref f24) = true)
    (a25 : PySem.W.nsIn K mainGlobals "_law_is_test" = some (some (.ref f25)))
    (l25 : K.lookup f25 = some ⟨oc25, od25, .func (PySem.W.fnOf "_law_is_test" "_law_is_test" (defArgs s_l_is_test) (defBody s_l_is_test) (defScope s_l_is_test) .none kV25 dc25 pm25 an25 cd25 ct25), sl25⟩)
    (c25 : PySem.W.codeIn K cd25 "_law_is_test" = true)
    (k25 : PySem.W.keepIn K (.ref f25) = true)
    (a26 : PySem.W.nsIn K mainGlobals "_law_is_statement" = some (some (.ref f26)))
    (l26 : K.lookup f26 = some ⟨oc26, od26, .func (PySem.W.fnOf "_law_is_statement" "_law_is_statement" (defArgs s_l_is_statement) (defBody s_l_is_statement) (defScope s_l_is_statement) .none kV26 dc26 pm26 an26 cd26 ct26), sl26⟩)
    (c26 : PySem.W.codeIn K cd26 "_law_is_statement" = true)
    (k26 : PySem.W.keepIn K (.ref f26) = true)
    (a27 : PySem.W.nsIn K mainGlobals "_law_counts" = some (some (.ref f27)))
    (l27 : K.lookup f27 = some ⟨oc27, od27, .func (PySem.W.fnOf "_law_counts" "_law_counts" (defArgs s_l_counts) (defBody s_l_counts) (defScope s_l_counts) .none kV27 dc27 pm27 an27 cd27 ct27), sl27⟩)
    (c27 : PySem.W.codeIn K cd27 "_law_counts" = true)
    (k27 : PySem.W.keepIn K (.ref f27) = true)
    (a28 : PySem.W.nsIn K mainGlobals "_law_error" = some (some (.ref f28)))
    (l28 : K.lookup f28 = some ⟨oc28, od28, .func (PySem.W.fnOf "_law_error" "_law_error" (defArgs s_l_error) (defBody s_l_error) (defScope s_l_error) .none kV28 dc28 pm28 an28 cd28 ct28), sl28⟩)
    (c28 : PySem.W.codeIn K cd28 "_law_error" = true)
    (k28 : PySem.W.keepIn K (.ref f28) = true)
    (a29 : PySem.W.nsIn K mainGlobals "_law_odd" = some (some (.ref f29)))
    (l29 : K.lookup f29 = some ⟨oc29, od29, .func (PySem.W.fnOf "_law_odd" "_law_odd" (defArgs s_l_odd) (defBody s_l_odd) (defScope s_l_odd) .none kV29 dc29 pm29 an29 cd29 ct29), sl29⟩)
    (c29 : PySem.W.codeIn K cd29 "_law_odd" = true)
    (k29 : PySem.W.keepIn K (.ref f29) = true)
    (a30 : PySem.W.nsIn K mainGlobals "_law_bent" = some (some (.ref f30)))
    (l30 : K.lookup f30 = some ⟨oc30, od30, .func (PySem.W.fnOf "_law_bent" "_law_bent" (defArgs s_l_bent) (defBody s_l_bent) (defScope s_l_bent) .none kV30 dc30 pm30 an30 cd30 ct30), sl30⟩)
    (c30 : PySem.W.codeIn K cd30 "_law_bent" = true)
    (k30 : PySem.W.keepIn K (.ref f30) = true)
    (a31 : PySem.W.nsIn K mainGlobals "_law_deep" = some (some (.ref f31)))
    (l31 : K.lookup f31 = some ⟨oc31, od31, .func (PySem.W.fnOf "_law_deep" "_law_deep" (defArgs s_l_deep) (defBody s_l_deep) (defScope s_l_deep) .none kV31 dc31 pm31 an31 cd31 ct31), sl31⟩)
    (c31 : PySem.W.codeIn K cd31 "_law_deep" = true)
    (k31 : PySem.W.keepIn K (.ref f31) = true)
    (a32 : PySem.W.nsIn K mainGlobals "_law_kept" = some (some (.ref f32)))
    (l32 : K.lookup f32 = some ⟨oc32, od32, .func (PySem.W.fnOf "_law_kept" "_law_kept" (defArgs s_l_kept) (defBody s_l_kept) (defScope s_l_kept) .none kV32 dc32 pm32 an32 cd32 ct32), sl32⟩)
    (c32 : PySem.W.codeIn K cd32 "_law_kept" = true)
    (k32 : PySem.W.keepIn K (.ref f32) = true)
    (a33 : PySem.W.nsIn K mainGlobals "_law_statement" = some (some (.ref f33)))
    (l33 : K.lookup f33 = some ⟨oc33, od33, .func (PySem.W.fnOf "_law_statement" "_law_statement" (defArgs s_l_statement) (defBody s_l_statement) (defScope s_l_statement) .none kV33 dc33 pm33 an33 cd33 ct33), sl33⟩)
    (c33 : PySem.W.codeIn K cd33 "_law_statement" = true)
    (k33 : PySem.W.keepIn K (.ref f33) = true)
    (a34 : PySem.W.nsIn K mainGlobals "law" = some (some (.ref f34)))
    (l34 : K.lookup f34 = some ⟨oc34, od34, .func (PySem.W.fnOf "law" "law" (defArgs s_law) (defBody s_law) (defScope s_law) .none kV34 dc34 pm34 an34 cd34 ct34), sl34⟩)
    (c34 : PySem.W.codeIn K cd34 "law" = true)
    (k34 : PySem.W.keepIn K (.ref f34) = true)
    (g_MAX_NAME : PySem.W.nsIn K mainGlobals "MAX_NAME" = some (some (.int 8 t_MAX_NAME)))
    (g_MAX_WORD : PySem.W.nsIn K mainGlobals "MAX_WORD" = some (some (.int 8 t_MAX_WORD)))
    (g_MAX_TIMES : PySem.W.nsIn K mainGlobals "MAX_TIMES" = some (some (.int 8 t_MAX_TIMES)))
    (g_MAX_DEEP : PySem.W.nsIn K mainGlobals "MAX_DEEP" = some (some (.int 3 t_MAX_DEEP)))
    (g_MAX_NOTS : PySem.W.nsIn K mainGlobals "MAX_NOTS" = some (some (.int 2 t_MAX_NOTS)))
    (g_MAX_PLACES : PySem.W.nsIn K mainGlobals "MAX_PLACES" = some (some (.int 24 t_MAX_PLACES)))
    (g_MAX_WEIGHT : PySem.W.nsIn K mainGlobals "MAX_WEIGHT" = some (some (.int 60 t_MAX_WEIGHT)))
    (g_MAX_HALVINGS : PySem.W.nsIn K mainGlobals "MAX_HALVINGS" = some (some (.int 4 t_MAX_HALVINGS)))
    (g_MAX_COMPARINGS : PySem.W.nsIn K mainGlobals "MAX_COMPARINGS" = some (some (.int 3 t_MAX_COMPARINGS)))
    (g_MAX_NEST : PySem.W.nsIn K mainGlobals "MAX_NEST" = some (some (.int 3 t_MAX_NEST)))
    (g_LETTERS : PySem.W.nsIn K mainGlobals "LETTERS" = some (some (.str "abcdefghijklmnopqrstuvwxyz" t_LETTERS)))
    (g_SIGNS : PySem.W.nsIn K mainGlobals "SIGNS" = some (some (.str "abcdefghijklmnopqrstuvwxyz0123456789" t_SIGNS)))
    (g_MOST_NUMBER : PySem.W.nsIn K mainGlobals "MOST_NUMBER" = some (some (.int 99 t_MOST_NUMBER)))
    (g_MOST_FACTOR : PySem.W.nsIn K mainGlobals "MOST_FACTOR" = some (some (.int 9 t_MOST_FACTOR)))
    (g_KEPT : PySem.W.nsIn K mainGlobals "KEPT" = some (some (.ref a_KEPT)))
    (q_KEPT : ∀ H, SqT K H a_KEPT [.str "half", .str "tell", .str "say", .str "stop", .str "if", .str "else", .str "repeat", .str "pass", .str "odd", .str "not", .str "program"])
    (z_abs : PySem.W.nsIn K mainGlobals "abs" = some none)
    (z_all : PySem.W.nsIn K mainGlobals "all" = some none)
    (z_bool : PySem.W.nsIn K mainGlobals "bool" = some none)
    (z_enumerate : PySem.W.nsIn K mainGlobals "enumerate" = some none)
    (z_int : PySem.W.nsIn K mainGlobals "int" = some none)
    (z_isinstance : PySem.W.nsIn K mainGlobals "isinstance" = some none)
    (z_len : PySem.W.nsIn K mainGlobals "len" = some none)
    (z_list : PySem.W.nsIn K mainGlobals "list" = some none)
    (z_max : PySem.W.nsIn K mainGlobals "max" = some none)
    (z_range : PySem.W.nsIn K mainGlobals "range" = some none)
    (z_repr : PySem.W.nsIn K mainGlobals "repr" = some none)
    (z_str : PySem.W.nsIn K mainGlobals "str" = some none)
    (z_sum : PySem.W.nsIn K mainGlobals "sum" = some none)
    (z_tuple : PySem.W.nsIn K mainGlobals "tuple" = some none) :
    ∃ fd : FuncData, (∀ (s : Shared) (v : Value), BindsTo s fd ⟨[v], []⟩ [("_law_script", v)]) ∧ ∀ base : Heap, K.In base → base.Ns mainGlobals mg → FnG P w K mg base CX0 33 fa fd ["_law_script"] (spLaw K) := by
  have e := hfa.symm.trans (PySem.W.mg_of X G a34)
  cases e
  have F1 := fun_mk (st := s_is_whole) l1 c1 k1
  have b1 := F1.binds (ps := ["value", "least", "most"]) fun _ _ _ _ _ _ us hl => match us, hl with | [_, _, _], _ => rfl
  have F2 := fun_mk (st := s_is_word) l2 c2 k2
  have b2 := F2.binds (ps := ["value"]) fun _ _ _ _ _ _ us hl => match us, hl with | [_], _ => rfl
  have F3 := fun_mk (st := s_is_name) l3 c3 k3
  have b3 := F3.binds (ps := ["value"]) fun _ _ _ _ _ _ us hl => match us, hl with | [_], _ => rfl
  have F4 := fun_mk (st := s_is_expression) l4 c4 k4
  have b4 := F4.binds (ps := ["value", "left"]) fun _ _ _ _ _ _ us hl => match us, hl with | [_, _], _ => rfl
  have F5 := fun_mk (st := s_is_test) l5 c5 k5
  have b5 := F5.binds (ps := ["value", "nots"]) fun _ _ _ _ _ _ us hl => match us, hl with | [_, _], _ => rfl
  have F6 := fun_mk (st := s_is_plain) l6 c6 k6
  have b6 := F6.binds (ps := ["value"]) fun _ _ _ _ _ _ us hl => match us, hl with | [_], _ => rfl
  have F7 := fun_mk (st := s_is_statement) l7 c7 k7
  have b7 := F7.binds (ps := ["value"]) fun _ _ _ _ _ _ us hl => match us, hl with | [_], _ => rfl
  have F8 := fun_mk (st := s_blocks_of) l8 c8 k8
  have b8 := F8.binds (ps := ["statement"]) fun _ _ _ _ _ _ us hl => match us, hl with | [_], _ => rfl
  have F9 := fun_mk (st := s_items_within) l9 c9 k9
  have b9 := F9.binds (ps := ["statement", "depth"]) fun _ _ _ _ _ _ us hl => match us, hl with | [_, _], _ => rfl
  have F10 := fun_mk (st := s_rows_of) l10 c10 k10
  have b10 := F10.binds (ps := ["program"]) fun _ _ _ _ _ _ us hl => match us, hl with | [_], _ => rfl
  have F11 := fun_mk (st := s_order_error) l11 c11 k11
  have b11 := F11.binds (ps := ["value"]) fun _ _ _ _ _ _ us hl => match us, hl with | [_], _ => rfl
  have F12 := fun_mk (st := s_bare) l12 c12 k12
  have b12 := F12.binds (ps := ["test"]) fun _ _ _ _ _ _ us hl => match us, hl with | [_], _ => rfl
  have F13 := fun_mk (st := s_own_count) l13 c13 k13
  have b13 := F13.binds (ps := ["statement", "sort"]) fun _ _ _ _ _ _ us hl => match us, hl with | [_, _], _ => rfl
  have F14 := fun_mk (st := s_counted) l14 c14 k14
  have b14 := F14.binds (ps := ["block", "sort"]) fun _ _ _ _ _ _ us hl => match us, hl with | [_, _], _ => rfl
  have F15 := fun_mk (st := s_weight) l15 c15 k15
  have b15 := F15.binds (ps := ["program"]) fun _ _ _ _ _ _ us hl => match us, hl with | [_], _ => rfl
  have F16 := fun_mk (st := s_program_error) l16 c16 k16
  have b16 := F16.binds (ps := ["value"]) fun _ _ _ _ _ _ us hl => match us, hl with | [_], _ => rfl
  have F17 := fun_mk (st := s_l_deck) l17 c17 k17
  have b17 := F17.binds (ps := ["_law_script"]) fun _ _ _ _ _ _ us hl => match us, hl with | [_], _ => rfl
  have F18 := fun_mk (st := s_l_draw) l18 c18 k18
  have b18 := F18.binds (ps := ["_law_deck_here", "_law_many"]) fun _ _ _ _ _ _ us hl => match us, hl with | [_, _], _ => rfl
  have F19 := fun_mk (st := s_l_one) l19 c19 k19
  have b19 := F19.binds (ps := ["_law_deck_here", "_law_items"]) fun _ _ _ _ _ _ us hl => match us, hl with | [_, _], _ => rfl
  have F20 := fun_mk (st := s_l_names) l20 c20 k20
  have b20 := F20.binds (ps := ["_law_deck_here"]) fun _ _ _ _ _ _ us hl => match us, hl with | [_], _ => rfl
  have F21 := fun_mk (st := s_l_whole) l21 c21 k21
  have b21 := F21.binds (ps := ["_law_value", "_law_least", "_law_most"]) fun _ _ _ _ _ _ us hl => match us, hl with | [_, _, _], _ => rfl
  have F22 := fun_mk (st := s_l_letters) l22 c22 k22
  have b22 := F22.binds (ps := ["_law_value", "_law_most"]) fun _ _ _ _ _ _ us hl => match us, hl with | [_, _], _ => rfl
  have F23 := fun_mk (st := s_l_is_name) l23 c23 k23
  have b23 := F23.binds (ps := ["_law_value"]) fun _ _ _ _ _ _ us hl => match us, hl with | [_], _ => rfl
  have F24 := fun_mk (st := s_l_is_expression) l24 c24 k24
  have b24 := F24.binds (ps := ["_law_value", "_law_deep_here"]) fun _ _ _ _ _ _ us hl => match us, hl with | [_, _], _ => rfl
  have F25 := fun_mk (st := s_l_is_test) l25 c25 k25
  have b25 := F25.binds (ps := ["_law_value", "_law_nots"]) fun _ _ _ _ _ _ us hl => match us, hl with | [_, _], _ => rfl
  have F26 := fun_mk (st := s_l_is_statement) l26 c26 k26
  have b26 := F26.binds (ps := ["_law_value"]) fun _ _ _ _ _ _ us hl => match us, hl with | [_], _ => rfl
  have F27 := fun_mk (st := s_l_counts) l27 c27 k27
  have b27 := F27.binds (ps := ["_law_block"]) fun _ _ _ _ _ _ us hl => match us, hl with | [_], _ => rfl
  have F28 := fun_mk (st := s_l_error) l28 c28 k28
  have b28 := F28.binds (ps := ["_law_value"]) fun _ _ _ _ _ _ us hl => match us, hl with | [_], _ => rfl
  have F29 := fun_mk (st := s_l_odd) l29 c29 k29
  have b29 := F29.binds (ps := ["_law_deck_here"]) fun _ _ _ _ _ _ us hl => match us, hl with | [_], _ => rfl
  have F30 := fun_mk (st := s_l_bent) l30 c30 k30
  have b30 := F30.binds (ps := ["_law_deck_here", "_law_value", "_law_deep_here"]) fun _ _ _ _ _ _ us hl => match us, hl with | [_, _, _], _ => rfl
  have F31 := fun_mk (st := s_l_deep) l31 c31 k31
  have b31 := F31.binds (ps := ["_law_deck_here", "_law_names_here", "_law_many"]) fun _ _ _ _ _ _ us hl => match us, hl with | [_, _, _], _ => rfl
  have F32 := fun_mk (st := s_l_kept) l32 c32 k32
  have b32 := F32.binds (ps := []) fun _ _ _ _ _ _ us hl => match us, hl with | [], _ => rfl
  have F33 := fun_mk (st := s_l_statement) l33 c33 k33
  have b33 := F33.binds (ps := ["_law_deck_here", "_law_names_here"]) fun _ _ _ _ _ _ us hl => match us, hl with | [_, _], _ => rfl
  have F34 := fun_mk (st := s_law) l34 c34 k34
  have b34 := F34.binds (ps := ["_law_script"]) fun _ _ _ _ _ _ us hl => match us, hl with | [_], _ => rfl
  refine ⟨PySem.W.fnOf "law" "law" (defArgs s_law) (defBody s_law) (defScope s_law) .none kV34 dc34 pm34 an34 cd34 ct34, fun s v => .of_eq rfl, fun base _ _ => ok_law (P := P) (w := w) (base := base) (T := { is_whole := ⟨_, _, F1, b1, PySem.W.mg_of X G a1⟩, is_word := ⟨_, _, F2, b2, PySem.W.mg_of X G a2⟩, is_name := ⟨_, _, F3, b3, PySem.W.mg_of X G a3⟩, is_expression := ⟨_, _, F4, b4, PySem.W.mg_of X G a4⟩, is_test := ⟨_, _, F5, b5, PySem.W.mg_of X G a5⟩, is_plain := ⟨_, _, F6, b6, PySem.W.mg_of X G a6⟩, is_statement := ⟨_, _, F7, b7, PySem.W.mg_of X G a7⟩, blocks_of := ⟨_, _, F8, b8, PySem.W.mg_of X G a8⟩, items_within := ⟨_, _, F9, b9, PySem.W.mg_of X G a9⟩, rows_of := ⟨_, _, F10, b10, PySem.W.mg_of X G a10⟩, order_error := ⟨_, _, F11, b11, PySem.W.mg_of X G a11⟩, bare := ⟨_, _, F12, b12, PySem.W.mg_of X G a12⟩, own_count := ⟨_, _, F13, b13, PySem.W.mg_of X G a13⟩, counted := ⟨_, _, F14, b14, PySem.W.mg_of X G a14⟩, weight := ⟨_, _, F15, b15, PySem.W.mg_of X G a15⟩, program_error := ⟨_, _, F16, b16, PySem.W.mg_of X G a16⟩, l_deck := ⟨_, _, F17, b17, PySem.W.mg_of X G a17⟩, l_draw := ⟨_, _, F18, b18, PySem.W.mg_of X G a18⟩, l_one := ⟨_, _, F19, b19, PySem.W.mg_of X G a19⟩, l_names := ⟨_, _, F20, b20, PySem.W.mg_of X G a20⟩, l_whole := ⟨_, _, F21, b21, PySem.W.mg_of X G a21⟩, l_letters := ⟨_, _, F22, b22, PySem.W.mg_of X G a22⟩, l_is_name := ⟨_, _, F23, b23, PySem.W.mg_of X G a23⟩, l_is_expression := ⟨_, _, F24, b24, PySem.W.mg_of X G a24⟩, l_is_test := ⟨_, _, F25, b25, PySem.W.mg_of X G a25⟩, l_is_statement := ⟨_, _, F26, b26, PySem.W.mg_of X G a26⟩, l_counts := ⟨_, _, F27, b27, PySem.W.mg_of X G a27⟩, l_error := ⟨_, _, F28, b28, PySem.W.mg_of X G a28⟩, l_odd := ⟨_, _, F29, b29, PySem.W.mg_of X G a29⟩, l_bent := ⟨_, _, F30, b30, PySem.W.mg_of X G a30⟩, l_deep := ⟨_, _, F31, b31, PySem.W.mg_of X G a31⟩, l_kept := ⟨_, _, F32, b32, PySem.W.mg_of X G a32⟩, l_statement := ⟨_, _, F33, b33, PySem.W.mg_of X G a33⟩, law := ⟨_, _, F34, b34, PySem.W.mg_of X G a34⟩, t_MAX_NAME := t_MAX_NAME, g_MAX_NAME := PySem.W.mg_of X G g_MAX_NAME, t_MAX_WORD := t_MAX_WORD, g_MAX_WORD := PySem.W.mg_of X G g_MAX_WORD, t_MAX_TIMES := t_MAX_TIMES, g_MAX_TIMES := PySem.W.mg_of X G g_MAX_TIMES, t_MAX_DEEP := t_MAX_DEEP, g_MAX_DEEP := PySem.W.mg_of X G g_MAX_DEEP, t_MAX_NOTS := t_MAX_NOTS, g_MAX_NOTS := PySem.W.mg_of X G g_MAX_NOTS, t_MAX_PLACES := t_MAX_PLACES, g_MAX_PLACES := PySem.W.mg_of X G g_MAX_PLACES, t_MAX_WEIGHT := t_MAX_WEIGHT, g_MAX_WEIGHT := PySem.W.mg_of X G g_MAX_WEIGHT, t_MAX_HALVINGS := t_MAX_HALVINGS, g_MAX_HALVINGS := PySem.W.mg_of X G g_MAX_HALVINGS, t_MAX_COMPARINGS := t_MAX_COMPARINGS, g_MAX_COMPARINGS := PySem.W.mg_of X G g_MAX_COMPARINGS, t_MAX_NEST := t_MAX_NEST, g_MAX_NEST := PySem.W.mg_of X G g_MAX_NEST, t_LETTERS := t_LETTERS, g_LETTERS := PySem.W.mg_of X G g_LETTERS, t_SIGNS := t_SIGNS, g_SIGNS := PySem.W.mg_of X G g_SIGNS, t_MOST_NUMBER := t_MOST_NUMBER, g_MOST_NUMBER := PySem.W.mg_of X G g_MOST_NUMBER, t_MOST_FACTOR := t_MOST_FACTOR, g_MOST_FACTOR := PySem.W.mg_of X G g_MOST_FACTOR, KEPT := a_KEPT, g_KEPT := PySem.W.mg_of X G g_KEPT, q_KEPT := q_KEPT, abs := PySem.W.mg_none_of X G z_abs, all := PySem.W.mg_none_of X G z_all, bool := PySem.W.mg_none_of X G z_bool, enumerate := PySem.W.mg_none_of X G z_enumerate, int := PySem.W.mg_none_of X G z_int, isinstance := PySem.W.mg_none_of X G z_isinstance, len := PySem.W.mg_none_of X G z_len, list := PySem.W.mg_none_of X G z_list, max := PySem.W.mg_none_of X G z_max, range := PySem.W.mg_none_of X G z_range, repr := PySem.W.mg_none_of X G z_repr, str := PySem.W.mg_none_of X G z_str, sum := PySem.W.mg_none_of X G z_sum, tuple := PySem.W.mg_none_of X G z_tuple })⟩

theorem factsX {P : Program} {w : World} {K : PySem.W.Frag} {h : Heap} {mg : Str → Option Value} {fa : Addr} (X : K.In h) (G : h.Ns mainGlobals mg) (hfa : mg "law" = some (.ref fa)) (c : SaysX fbX fnX K) :
    ∃ fd : FuncData, (∀ (s : Shared) (v : Value), BindsTo s fd ⟨[v], []⟩ [("_law_script", v)]) ∧ ∀ base : Heap, K.In base → base.Ns mainGlobals mg → FnG P w K mg base CX0 33 fa fd ["_law_script"] (spLaw K) := by
  obtain ⟨_, _, _, _, _, _, _, _, _, l1, c1⟩ := c.def_ 0 (d := ⟨("is_whole", none), "is_whole", "is_whole", defArgs s_is_whole, defBody s_is_whole, defScope s_is_whole⟩) rfl
  obtain ⟨_, _, _, _, _, _, _, _, _, l2, c2⟩ := c.def_ 1 (d := ⟨("is_word", none), "is_word", "is_word", defArgs s_is_word, defBody s_is_word, defScope s_is_word⟩) rfl
  obtain ⟨_, _, _, _, _, _, _, _, _, l3, c3⟩ := c.def_ 2 (d := ⟨("is_name", none), "is_name", "is_name", defArgs s_is_name, defBody s_is_name, defScope s_is_name⟩) rfl
  obtain ⟨_, _, _, _, _, _, _, _, _, l4, c4⟩ := c.def_ 3 (d := ⟨("is_expression", none), "is_expression", "is_expression", defArgs s_is_expression, defBody s_is_expression, defScope s_is_expression⟩) rfl
  obtain ⟨_, _, _, _, _, _, _, _, _, l5, c5⟩ := c.def_ 4 (d := ⟨("is_test", none), "is_test", "is_test", defArgs s_is_test, defBody s_is_test, defScope s_is_test⟩) rfl
  obtain ⟨_, _, _, _, _, _, _, _, _, l6, c6⟩ := c.def_ 5 (d := ⟨("is_plain", none), "is_plain", "is_plain", defArgs s_is_plain, defBody s_is_plain, defScope s_is_plain⟩) rfl
  obtain ⟨_, _, _, _, _, _, _, _, _, l7, c7⟩ := c.def_ 6 (d := ⟨("is_statement", none), "is_statement", "is_statement", defArgs s_is_statement, defBody s_is_statement, defScope s_is_statement⟩) rfl
  obtain ⟨_, _, _, _, _, _, _, _, _, l8, c8⟩ := c.def_ 7 (d := ⟨("blocks_of", none), "blocks_of", "blocks_of", defArgs s_blocks_of, defBody s_blocks_of, defScope s_blocks_of⟩) rfl
  obtain ⟨_, _, _, _, _, _, _, _, _, l9, c9⟩ := c.def_ 8 (d := ⟨("items_within", none), "items_within", "items_within", defArgs s_items_within, defBody s_items_within, defScope s_items_within⟩) rfl
  obtain ⟨_, _, _, _, _, _, _, _, _, l10, c10⟩ := c.def_ 9 (d := ⟨("rows_of", none), "rows_of", "rows_of", defArgs s_rows_of, defBody s_rows_of, defScope s_rows_of⟩) rfl
  obtain ⟨_, _, _, _, _, _, _, _, _, l11, c11⟩ := c.def_ 10 (d := ⟨("order_error", none), "order_error", "order_error", defArgs s_order_error, defBody s_order_error, defScope s_order_error⟩) rfl
  obtain ⟨_, _, _, _, _, _, _, _, _, l12, c12⟩ := c.def_ 11 (d := ⟨("bare", none), "bare", "bare", defArgs s_bare, defBody s_bare, defScope s_bare⟩) rfl
  obtain ⟨_, _, _, _, _, _, _, _, _, l13, c13⟩ := c.def_ 12 (d := ⟨("own_count", none), "own_count", "own_count", defArgs s_own_count, defBody s_own_count, defScope s_own_count⟩) rfl
  obtain ⟨_, _, _, _, _, _, _, _, _, l14, c14⟩ := c.def_ 13 (d := ⟨("counted", none), "counted", "counted", defArgs s_counted, defBody s_counted, defScope s_counted⟩) rfl
  obtain ⟨_, _, _, _, _, _, _, _, _, l15, c15⟩ := c.def_ 14 (d := ⟨("weight", none), "weight", "weight", defArgs s_weight, defBody s_weight, defScope s_weight⟩) rfl
  obtain ⟨_, _, _, _, _, _, _, _, _, l16, c16⟩ := c.def_ 15 (d := ⟨("program_error", none), "program_error", "program_error", defArgs s_program_error, defBody s_program_error, defScope s_program_error⟩) rfl
  obtain ⟨_, _, _, _, _, _, _, _, _, l17, c17⟩ := c.def_ 16 (d := ⟨("_law_deck", none), "_law_deck", "_law_deck", defArgs s_l_deck, defBody s_l_deck, defScope s_l_deck⟩) rfl
  obtain ⟨_, _, _, _, _, _, _, _, _, l18, c18⟩ := c.def_ 17 (d := ⟨("_law_draw", none), "_law_draw", "_law_draw", defArgs s_l_draw, defBody s_l_draw, defScope s_l_draw⟩) rfl
  obtain ⟨_, _, _, _, _, _, _, _, _, l19, c19⟩ := c.def_ 18 (d := ⟨("_law_one", none), "_law_one", "_law_one", defArgs s_l_one, defBody s_l_one, defScope s_l_one⟩) rfl
  obtain ⟨_, _, _, _, _, _, _, _, _, l20, c20⟩ := c.def_ 19 (d := ⟨("_law_names", none), "_law_names", "_law_names", defArgs s_l_names, defBody s_l_names, defScope s_l_names⟩) rfl
  obtain ⟨_, _, _, _, _, _, _, _, _, l21, c21⟩ := c.def_ 20 (d := ⟨("_law_whole", none), "_law_whole", "_law_whole", defArgs s_l_whole, defBody s_l_whole, defScope s_l_whole⟩) rfl
  obtain ⟨_, _, _, _, _, _, _, _, _, l22, c22⟩ := c.def_ 21 (d := ⟨("_law_letters", none), "_law_letters", "_law_letters", defArgs s_l_letters, defBody s_l_letters, defScope s_l_letters⟩) rfl
  obtain ⟨_, _, _, _, _, _, _, _, _, l23, c23⟩ := c.def_ 22 (d := ⟨("_law_is_name", none), "_law_is_name", "_law_is_name", defArgs s_l_is_name, defBody s_l_is_name, defScope s_l_is_name⟩) rfl
  obtain ⟨_, _, _, _, _, _, _, _, _, l24, c24⟩ := c.def_ 23 (d := ⟨("_law_is_expression", none), "_law_is_expression", "_law_is_expression", defArgs s_l_is_expression, defBody s_l_is_expression, defScope s_l_is_expression⟩) rfl
  obtain ⟨_, _, _, _, _, _, _, _, _, l25, c25⟩ := c.def_ 24 (d := ⟨("_law_is_test", none), "_law_is_test", "_law_is_test", defArgs s_l_is_test, defBody s_l_is_test, defScope s_l_is_test⟩) rfl
  obtain ⟨_, _, _, _, _, _, _, _, _, l26, c26⟩ := c.def_ 25 (d := ⟨("_law_is_statement", none), "_law_is_statement", "_law_is_statement", defArgs s_l_is_statement, defBody s_l_is_statement, defScope s_l_is_statement⟩) rfl
  obtain ⟨_, _, _, _, _, _, _, _, _, l27, c27⟩ := c.def_ 26 (d := ⟨("_law_counts", none), "_law_counts", "_law_counts", defArgs s_l_counts, defBody s_l_counts, defScope s_l_counts⟩) rfl
  obtain ⟨_, _, _, _, _, _, _, _, _, l28, c28⟩ := c.def_ 27 (d := ⟨("_law_error", none), "_law_error", "_law_error", defArgs s_l_error, defBody s_l_error, defScope s_l_error⟩) rfl
  obtain ⟨_, _, _, _, _, _, _, _, _, l29, c29⟩ := c.def_ 28 (d := ⟨("_law_odd", none), "_law_odd", "_law_odd", defArgs s_l_odd, defBody s_l_odd, defScope s_l_odd⟩) rfl
  obtain ⟨_, _, _, _, _, _, _, _, _, l30, c30⟩ := c.def_ 29 (d := ⟨("_law_bent", none), "_law_bent", "_law_bent", defArgs s_l_bent, defBody s_l_bent, defScope s_l_bent⟩) rfl
  obtain ⟨_, _, _, _, _, _, _, _, _, l31, c31⟩ := c.def_ 30 (d := ⟨("_law_deep", none), "_law_deep", "_law_deep", defArgs s_l_deep, defBody s_l_deep, defScope s_l_deep⟩) rfl
  obtain ⟨_, _, _, _, _, _, _, _, _, l32, c32⟩ := c.def_ 31 (d := ⟨("_law_kept", none), "_law_kept", "_law_kept", defArgs s_l_kept, defBody s_l_kept, defScope s_l_kept⟩) rfl
  obtain ⟨_, _, _, _, _, _, _, _, _, l33, c33⟩ := c.def_ 32 (d := ⟨("_law_statement", none), "_law_statement", "_law_statement", defArgs s_l_statement, defBody s_l_statement, defScope s_l_statement⟩) rfl
  obtain ⟨_, _, _, _, _, _, _, _, _, l34, c34⟩ := c.def_ 33 (d := ⟨("law", none), "law", "law", defArgs s_law, defBody s_law, defScope s_law⟩) rfl
  obtain ⟨_, g_MAX_NAME⟩ := intB_ok (c.fact 3 8 (f := fun K => intB K "MAX_NAME" (8)) rfl rfl)
  obtain ⟨_, g_MAX_WORD⟩ := intB_ok (c.fact 3 9 (f := fun K => intB K "MAX_WORD" (8)) rfl rfl)
  obtain ⟨_, g_MAX_TIMES⟩ := intB_ok (c.fact 3 10 (f := fun K => intB K "MAX_TIMES" (8)) rfl rfl)
  obtain ⟨_, g_MAX_DEEP⟩ := intB_ok (c.fact 3 11 (f := fun K => intB K "MAX_DEEP" (3)) rfl rfl)
  obtain ⟨_, g_MAX_NOTS⟩ := intB_ok (c.fact 3 12 (f := fun K => intB K "MAX_NOTS" (2)) rfl rfl)
  obtain ⟨_, g_MAX_PLACES⟩ := intB_ok (c.fact 3 13 (f := fun K => intB K "MAX_PLACES" (24)) rfl rfl)
  obtain ⟨_, g_MAX_WEIGHT⟩ := intB_ok (c.fact 3 14 (f := fun K => intB K "MAX_WEIGHT" (60)) rfl rfl)
  obtain ⟨_, g_MAX_HALVINGS⟩ := intB_ok (c.fact 3 15 (f := fun K => intB K "MAX_HALVINGS" (4)) rfl rfl)
  obtain ⟨_, g_MAX_COMPARINGS⟩ := intB_ok (c.fact 3 16 (f := fun K => intB K "MAX_COMPARINGS" (3)) rfl rfl)
  obtain ⟨_, g_MAX_NEST⟩ := intB_ok (c.fact 3 17 (f := fun K => intB K "MAX_NEST" (3)) rfl rfl)
  obtain ⟨_, g_LETTERS⟩ := strB_ok (c.fact 3 18 (f := fun K => strB K "LETTERS" "abcdefghijklmnopqrstuvwxyz") rfl rfl)
  obtain ⟨_, g_SIGNS⟩ := strB_ok (c.fact 3 19 (f := fun K => strB K "SIGNS" "abcdefghijklmnopqrstuvwxyz0123456789") rfl rfl)
  obtain ⟨_, g_MOST_NUMBER⟩ := intB_ok (c.fact 4 0 (f := fun K => intB K "MOST_NUMBER" (99)) rfl rfl)
  obtain ⟨_, g_MOST_FACTOR⟩ := intB_ok (c.fact 4 1 (f := fun K => intB K "MOST_FACTOR" (9)) rfl rfl)
  exact all_mk (P := P) (w := w) X G hfa (f1 := (He.ga K "is_whole")) (f2 := (He.ga K "is_word")) (f3 := (He.ga K "is_name")) (f4 := (He.ga K "is_expression")) (f5 := (He.ga K "is_test")) (f6 := (He.ga K "is_plain")) (f7 := (He.ga K "is_statement")) (f8 := (He.ga K "blocks_of")) (f9 := (He.ga K "items_within")) (f10 := (He.ga K "rows_of")) (f11 := (He.ga K "order_error")) (f12 := (He.ga K "bare")) (f13 := (He.ga K "own_count")) (f14 := (He.ga K "counted")) (f15 := (He.ga K "weight")) (f16 := (He.ga K "program_error")) (f17 := (He.ga K "_law_deck")) (f18 := (He.ga K "_law_draw")) (f19 := (He.ga K "_law_one")) (f20 := (He.ga K "_law_names")) (f21 := (He.ga K "_law_whole")) (f22 := (He.ga K "_law_letters")) (f23 := (He.ga K "_law_is_name")) (f24 := (He.ga K "_law_is_expression")) (f25 := (He.ga K "_law_is_test")) (f26 := (He.ga K "_law_is_statement")) (f27 := (He.ga K "_law_counts")) (f28 := (He.ga K "_law_error")) (f29 := (He.ga K "_law_odd")) (f30 := (He.ga K "_law_bent")) (f31 := (He.ga K "_law_deep")) (f32 := (He.ga K "_law_kept")) (f33 := (He.ga K "_law_statement")) (f34 := (He.ga K "law")) (a_KEPT := (He.ga K "KEPT"))
    (He.eqO_ok (c.fact 0 0 (f := fun K => He.eqO (PySem.W.nsIn K mainGlobals "is_whole") (some (some (.ref (He.ga K "is_whole"))))) rfl rfl))
    l1
    c1
    (c.fact 0 1 (f := fun K => PySem.W.keepIn K (.ref (He.ga K "is_whole"))) rfl rfl)
    (He.eqO_ok (c.fact 0 2 (f := fun K => He.eqO (PySem.W.nsIn K mainGlobals "is_word") (some (some (.ref (He.ga K "is_word"))))) rfl rfl))
    l2
    c2
    (c.fact 0 3 (f := fun K => PySem.W.keepIn K (.ref (He.ga K "is_word"))) rfl rfl)
    (He.eqO_ok (c.fact 0 4 (f := fun K => He.eqO (PySem.W.nsIn K mainGlobals "is_name") (some (some (.ref (He.ga K "is_name"))))) rfl rfl))
    l3
    c3
    (c.fact 0 5 (f := fun K => PySem.W.keepIn K (.ref (He.ga K "is_name"))) rfl rfl)
    (He.eqO_ok (c.fact 0 6 (f := fun K => He.eqO (PySem.W.nsIn K mainGlobals "is_expression") (some (some (.ref (He.ga K "is_expression"))))) rfl rfl))
    l4
    c4
    (c.fact 0 7 (f := fun K => PySem.W.keepIn K (.ref (He.ga K "is_expression"))) rfl rfl)
    (He.eqO_ok (c.fact 0 8 (f := fun K => He.eqO (PySem.W.nsIn K mainGlobals "is_test") (some (some (.ref (He.ga K "is_test"))))) rfl rfl))
    l5
    c5
    (c.fact 0 9 (f := fun K => PySem.W.keepIn K (.ref (He.ga K "is_test"))) rfl rfl)
    (He.eqO_ok (c.fact 0 10 (f := fun K => He.eqO (PySem.W.nsIn K mainGlobals "is_plain") (some (some (.ref (He.ga K "is_plain"))))) rfl rfl))
    l6
    c6
    (c.fact 0 11 (f := fun K => PySem.W.keepIn K (.ref (He.ga K "is_plain"))) rfl rfl)
    (He.eqO_ok (c.fact 0 12 (f := fun K => He.eqO (PySem.W.nsIn K mainGlobals "is_statement") (some (some (.ref (He.ga K "is_statement"))))) rfl rfl))
    l7
    c7
    (c.fact 0 13 (f := fun K => PySem.W.keepIn K (.ref (He.ga K "is_statement"))) rfl rfl)
    (He.eqO_ok (c.fact 0 14 (f := fun K => He.eqO (PySem.W.nsIn K mainGlobals "blocks_of") (some (some (.ref (He.ga K "blocks_of"))))) rfl rfl))
    l8
    c8
    (c.fact 0 15 (f := fun K => PySem.W.keepIn K (.ref (He.ga K "blocks_of"))) rfl rfl)
    (He.eqO_ok (c.fact 0 16 (f := fun K => He.eqO (PySem.W.nsIn K mainGlobals "items_within") (some (some (.ref (He.ga K "items_within"))))) rfl rfl))
    l9
    c9
    (c.fact 0 17 (f := fun K => PySem.W.keepIn K (.ref (He.ga K "items_within"))) rfl rfl)
    (He.eqO_ok (c.fact 0 18 (f := fun K => He.eqO (PySem.W.nsIn K mainGlobals "rows_of") (some (some (.ref (He.ga K "rows_of"))))) rfl rfl))
    l10
    c10
    (c.fact 0 19 (f := fun K => PySem.W.keepIn K (.ref (He.ga K "rows_of"))) rfl rfl)
    (He.eqO_ok (c.fact 1 0 (f := fun K => He.eqO (PySem.W.nsIn K mainGlobals "order_error") (some (some (.ref (He.ga K "order_error"))))) rfl rfl))
    l11
    c11
    (c.fact 1 1 (f := fun K => PySem.W.keepIn K (.ref (He.ga K "order_error"))) rfl rfl)
    (He.eqO_ok (c.fact 1 2 (f := fun K => He.eqO (PySem.W.nsIn K mainGlobals "bare") (some (some (.ref (He.ga K "bare"))))) rfl rfl))
    l12
    c12
    (c.fact 1 3 (f := fun K => PySem.W.keepIn K (.ref (He.ga K "bare"))) rfl rfl)
    (He.eqO_ok (c.fact 1 4 (f := fun K => He.eqO (PySem.W.nsIn K mainGlobals "own_count") (some (some (.ref (He.ga K "own_count"))))) rfl rfl))
    l13
    c13
    (c.fact 1 5 (f := fun K => PySem.W.keepIn K (.ref (He.ga K "own_count"))) rfl rfl)
    (He.eqO_ok (c.fact 1 6 (f := fun K => He.eqO (PySem.W.nsIn K mainGlobals "counted") (some (some (.ref (He.ga K "counted"))))) rfl rfl))
    l14
    c14
    (c.fact 1 7 (f := fun K => PySem.W.keepIn K (.ref (He.ga K "counted"))) rfl rfl)
    (He.eqO_ok (c.fact 1 8 (f := fun K => He.eqO (PySem.W.nsIn K mainGlobals "weight") (some (some (.ref (He.ga K "weight"))))) rfl rfl))
    l15
    c15
    (c.fact 1 9 (f := fun K => PySem.W.keepIn K (.ref (He.ga K "weight"))) rfl rfl)
    (He.eqO_ok (c.fact 1 10 (f := fun K => He.eqO (PySem.W.nsIn K mainGlobals "program_error") (some (some (.ref (He.ga K "program_error"))))) rfl rfl))
    l16
    c16
    (c.fact 1 11 (f := fun K => PySem.W.keepIn K (.ref (He.ga K "program_error"))) rfl rfl)
    (He.eqO_ok (c.fact 1 12 (f := fun K => He.eqO (PySem.W.nsIn K mainGlobals "_law_deck") (some (some (.ref (He.ga K "_law_deck"))))) rfl rfl))
    l17
    c17
    (c.fact 1 13 (f := fun K => PySem.W.keepIn K (.ref (He.ga K "_law_deck"))) rfl rfl)
    (He.eqO_ok (c.fact 1 14 (f := fun K => He.eqO (PySem.W.nsIn K mainGlobals "_law_draw") (some (some (.ref (He.ga K "_law_draw"))))) rfl rfl))
    l18
    c18
    (c.fact 1 15 (f := fun K => PySem.W.keepIn K (.ref (He.ga K "_law_draw"))) rfl rfl)
    (He.eqO_ok (c.fact 1 16 (f := fun K => He.eqO (PySem.W.nsIn K mainGlobals "_law_one") (some (some (.ref (He.ga K "_law_one"))))) rfl rfl))
    l19
    c19
    (c.fact 1 17 (f := fun K => PySem.W.keepIn K (.ref (He.ga K "_law_one"))) rfl rfl)
    (He.eqO_ok (c.fact 1 18 (f := fun K => He.eqO (PySem.W.nsIn K mainGlobals "_law_names") (some (some (.ref (He.ga K "_law_names"))))) rfl rfl))
    l20
    c20
    (c.fact 1 19 (f := fun K => PySem.W.keepIn K (.ref (He.ga K "_law_names"))) rfl rfl)
    (He.eqO_ok (c.fact 2 0 (f := fun K => He.eqO (PySem.W.nsIn K mainGlobals "_law_whole") (some (some (.ref (He.ga K "_law_whole"))))) rfl rfl))
    l21
    c21
    (c.fact 2 1 (f := fun K => PySem.W.keepIn K (.ref (He.ga K "_law_whole"))) rfl rfl)
    (He.eqO_ok (c.fact 2 2 (f := fun K => He.eqO (PySem.W.nsIn K mainGlobals "_law_letters") (some (some (.ref (He.ga K "_law_letters"))))) rfl rfl))
    l22
    c22
    (c.fact 2 3 (f := fun K => PySem.W.keepIn K (.ref (He.ga K "_law_letters"))) rfl rfl)
    (He.eqO_ok (c.fact 2 4 (f := fun K => He.eqO (PySem.W.nsIn K mainGlobals "_law_is_name") (some (some (.ref (He.ga K "_law_is_name"))))) rfl rfl))
    l23
    c23
    (c.fact 2 5 (f := fun K => PySem.W.keepIn K (.ref (He.ga K "_law_is_name"))) rfl rfl)
    (He.eqO_ok (c.fact 2 6 (f := fun K => He.eqO (PySem.W.nsIn K mainGlobals "_law_is_expression") (some (some (.ref (He.ga K "_law_is_expression"))))) rfl rfl))
    l24
    c24
    (c.fact 2 7 (f := fun K => PySem.W.keepIn K (.ref (He.ga K "_law_is_expression"))) rfl rfl)
    (He.eqO_ok (c.fact 2 8 (f := fun K => He.eqO (PySem.W.nsIn K mainGlobals "_law_is_test") (some (some (.ref (He.ga K "_law_is_test"))))) rfl rfl))
    l25
    c25
    (c.fact 2 9 (f := fun K => PySem.W.keepIn K (.ref (He.ga K "_law_is_test"))) rfl rfl)
    (He.eqO_ok (c.fact 2 10 (f := fun K => He.eqO (PySem.W.nsIn K mainGlobals "_law_is_statement") (some (some (.ref (He.ga K "_law_is_statement"))))) rfl rfl))
    l26
    c26
    (c.fact 2 11 (f := fun K => PySem.W.keepIn K (.ref (He.ga K "_law_is_statement"))) rfl rfl)
    (He.eqO_ok (c.fact 2 12 (f := fun K => He.eqO (PySem.W.nsIn K mainGlobals "_law_counts") (some (some (.ref (He.ga K "_law_counts"))))) rfl rfl))
    l27
    c27
    (c.fact 2 13 (f := fun K => PySem.W.keepIn K (.ref (He.ga K "_law_counts"))) rfl rfl)
    (He.eqO_ok (c.fact 2 14 (f := fun K => He.eqO (PySem.W.nsIn K mainGlobals "_law_error") (some (some (.ref (He.ga K "_law_error"))))) rfl rfl))
    l28
    c28
    (c.fact 2 15 (f := fun K => PySem.W.keepIn K (.ref (He.ga K "_law_error"))) rfl rfl)
    (He.eqO_ok (c.fact 2 16 (f := fun K => He.eqO (PySem.W.nsIn K mainGlobals "_law_odd") (some (some (.ref (He.ga K "_law_odd"))))) rfl rfl))
    l29
    c29
    (c.fact 2 17 (f := fun K => PySem.W.keepIn K (.ref (He.ga K "_law_odd"))) rfl rfl)
    (He.eqO_ok (c.fact 2 18 (f := fun K => He.eqO (PySem.W.nsIn K mainGlobals "_law_bent") (some (some (.ref (He.ga K "_law_bent"))))) rfl rfl))
    l30
    c30
    (c.fact 2 19 (f := fun K => PySem.W.keepIn K (.ref (He.ga K "_law_bent"))) rfl rfl)
    (He.eqO_ok (c.fact 3 0 (f := fun K => He.eqO (PySem.W.nsIn K mainGlobals "_law_deep") (some (some (.ref (He.ga K "_law_deep"))))) rfl rfl))
    l31
    c31
    (c.fact 3 1 (f := fun K => PySem.W.keepIn K (.ref (He.ga K "_law_deep"))) rfl rfl)
    (He.eqO_ok (c.fact 3 2 (f := fun K => He.eqO (PySem.W.nsIn K mainGlobals "_law_kept") (some (some (.ref (He.ga K "_law_kept"))))) rfl rfl))
    l32
    c32
    (c.fact 3 3 (f := fun K => PySem.W.keepIn K (.ref (He.ga K "_law_kept"))) rfl rfl)
    (He.eqO_ok (c.fact 3 4 (f := fun K => He.eqO (PySem.W.nsIn K mainGlobals "_law_statement") (some (some (.ref (He.ga K "_law_statement"))))) rfl rfl))
    l33
    c33
    (c.fact 3 5 (f := fun K => PySem.W.keepIn K (.ref (He.ga K "_law_statement"))) rfl rfl)
    (He.eqO_ok (c.fact 3 6 (f := fun K => He.eqO (PySem.W.nsIn K mainGlobals "law") (some (some (.ref (He.ga K "law"))))) rfl rfl))
    l34
    c34
    (c.fact 3 7 (f := fun K => PySem.W.keepIn K (.ref (He.ga K "law"))) rfl rfl)
    g_MAX_NAME
    g_MAX_WORD
    g_MAX_TIMES
    g_MAX_DEEP
    g_MAX_NOTS
    g_MAX_PLACES
    g_MAX_WEIGHT
    g_MAX_HALVINGS
    g_MAX_COMPARINGS
    g_MAX_NEST
    g_LETTERS
    g_SIGNS
    g_MOST_NUMBER
    g_MOST_FACTOR
    (He.eqO_ok (c.fact 4 2 (f := fun K => He.eqO (PySem.W.nsIn K mainGlobals "KEPT") (some (some (.ref (He.ga K "KEPT"))))) rfl rfl))
    (tupB_ok (c.fact 4 3 (f := fun K => tupB K (He.ga K "KEPT") [.str "half", .str "tell", .str "say", .str "stop", .str "if", .str "else", .str "repeat", .str "pass", .str "odd", .str "not", .str "program"] false) rfl rfl))
    (He.eqO_ok (c.fact 4 4 (f := fun K => He.eqO (PySem.W.nsIn K mainGlobals "abs") (some none)) rfl rfl))
    (He.eqO_ok (c.fact 4 5 (f := fun K => He.eqO (PySem.W.nsIn K mainGlobals "all") (some none)) rfl rfl))
    (He.eqO_ok (c.fact 4 6 (f := fun K => He.eqO (PySem.W.nsIn K mainGlobals "bool") (some none)) rfl rfl))
    (He.eqO_ok (c.fact 4 7 (f := fun K => He.eqO (PySem.W.nsIn K mainGlobals "enumerate") (some none)) rfl rfl))
    (He.eqO_ok (c.fact 4 8 (f := fun K => He.eqO (PySem.W.nsIn K mainGlobals "int") (some none)) rfl rfl))
    (He.eqO_ok (c.fact 4 9 (f := fun K => He.eqO (PySem.W.nsIn K mainGlobals "isinstance") (some none)) rfl rfl))
    (He.eqO_ok (c.fact 4 10 (f := fun K => He.eqO (PySem.W.nsIn K mainGlobals "len") (some none)) rfl rfl))
    (He.eqO_ok (c.fact 4 11 (f := fun K => He.eqO (PySem.W.nsIn K mainGlobals "list") (some none)) rfl rfl))
    (He.eqO_ok (c.fact 4 12 (f := fun K => He.eqO (PySem.W.nsIn K mainGlobals "max") (some none)) rfl rfl))
    (He.eqO_ok (c.fact 4 13 (f := fun K => He.eqO (PySem.W.nsIn K mainGlobals "range") (some none)) rfl rfl))
    (He.eqO_ok (c.fact 4 14 (f := fun K => He.eqO (PySem.W.nsIn K mainGlobals "repr") (some none)) rfl rfl))
    (He.eqO_ok (c.fact 4 15 (f := fun K => He.eqO (PySem.W.nsIn K mainGlobals "str") (some none)) rfl rfl))
    (He.eqO_ok (c.fact 4 16 (f := fun K => He.eqO (PySem.W.nsIn K mainGlobals "sum") (some none)) rfl rfl))
    (He.eqO_ok (c.fact 4 17 (f := fun K => He.eqO (PySem.W.nsIn K mainGlobals "tuple") (some none)) rfl rfl))
end EH
open PySem PySem.W PySem.Calls PyProof.Rows
set_option maxRecDepth 100000 in
set_option maxHeartbeats 0 in
theorem PySem.Challenge.cw_eitherhalf_k28_single_statements_holds : PySem.Challenge.rw_eitherhalf_k28_single_statements.Holds := by
  w_on; o_law
  refine HandSHeadRun.head_any (r := EH.rwX) (q := EH.qvX) (H := EH.hookX 5 EH.fbX EH.fnX) (ob := fun s => EH.obsXG 5 EH.fbX EH.fnX (HandSHeadRun.getT s)) (M := 20000) (loose := EH.nmX) (d := HandSHeadRun.topDef EH.rwX.prog 50) (kwd := []) (fun s => EH.obsXG_eq (HandSHeadRun.getT_eq s)) (by kernel_rfl) (fun s => by kernel_rfl) EH.runX (by kernel_rfl) (by kernel_rfl) (by kernel_rfl) (by rfl) (by first | assumption | decide +kernel) (by decide +kernel) ⟨rfl, rfl, rfl, rfl, rfl, by decide +kernel⟩ ?hw ?hc
  case hw => w_witness2
  case hc =>
    refine EH.walk_ofGX (l := PySem.Challenge.rw_eitherhalf_k28_single_statements) (n := 63) (k := 33) (x := "_law_script") rfl (by decide) (by decide) (by kernel_rfl) ⟨rfl, by decide, by decide⟩ ?F
    intro w mg fa h Y G hmg0
    obtain ⟨K, KX, c⟩ := Y
    have hmg : mg ("law" : PySem.Str) = some (.ref fa) := by
      have e : (HandSHeadRun.topDef EH.rwX.prog 50).name = ("law" : PySem.Str) := by kernel_rfl
      rw [← e]
      exact hmg0
    obtain ⟨fd, hb, hF⟩ := EH.factsX (P := (PySem.Challenge.rw_eitherhalf_k28_single_statements).prog) (w := w) KX G hmg c
    exact ⟨K, fd, KX, hb, hF⟩
#print axioms PySem.Challenge.cw_eitherhalf_k28_single_statements_holds
