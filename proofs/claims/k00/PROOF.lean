import PyProof.Rows.All
import Wide.All
import OpenK.AllK
import Wide.FinOn
import HandS.ForMost
import HandS.Wide
import HandS.TupAny
import HandS.TupMul
import HandS.IsInst
import HandS.Codes
import KE.KStateDown
import HandS.Head0
import HandS.Head1
import HandS.Head2
import HandS.HeadHook1
import HandS.Defaults
import HandS.HeadHook2
import HandS.ExcInit
import KE.KExcInit
import HandS.WordsExc
import HandS.TryMany
import HandS.ExcOwn
import HandS.Style
import HandS.Deep
import HandS.Text
import HandS.Iter
import HandS.Walk
import HandS.Star
import KE.KExcSuper
import KE.KOpsOwn
import HandS.RaiseMore
import HandS.MakeKwOnly
import HandS.ExcIs
import HandS.ExcValue
import KE.KExcIs
import KE.SortData
import HandS.Conv
import KE.KDictSum
import HandS.Lambda
import HandS.EndTab
import PyProof.RowDictHeap
import HandS.DeepEq
import PySem.Challenge.RW_eitherhalf_k00_errors_made_by_hand
set_option Elab.async false
set_option linter.all false
set_option maxRecDepth 100000
set_option maxHeartbeats 4000000
namespace EH
open PySem L2 PyProof.Rows
/-! ### the end over a head by facts: nothing of the top is written out -/
/-- the part of the heap, each object looked at once -/
def collX {β : Type} (g : Addr → Option Obj) : List Addr → (PySem.W.Frag → β) → β
  | [], k => k []
  | a :: r, k => match g a with
    | some ⟨c, d, dt, sl⟩ => collX g r fun l => k ((a, ⟨c, d, dt, sl⟩) :: l)
    | none => collX g r k
theorem collX_eq {β : Type} {g : Addr → Option Obj} : ∀ (as : List Addr) (k : PySem.W.Frag → β), collX g as k = k (He.frG g as)
  | [], k => rfl
  | a :: r, k => by
    unfold collX He.frG
    rw [List.filterMap_cons]
    cases g a with
    | none => exact collX_eq r k
    | some o =>
      obtain ⟨c, d, dt, sl⟩ := o
      exact collX_eq r fun l => k ((a, ⟨c, d, dt, sl⟩) :: l)
def fnsB (fn : List He.FnD) (K : PySem.W.Frag) : Bool := fn.all fun d => (He.Fa.code d.at_ d.qual).ok K
abbrev FbX : Type := List (List (PySem.W.Frag → Bool))
def fbB (fb : FbX) (K : PySem.W.Frag) : Bool := fb.all fun l => l.all fun f => f K
def obsX (fb : FbX) (fn : List He.FnD) (K : PySem.W.Frag) : He.Al := (fbB fb K && fnsB fn K, fn.map fun d => He.fnObs K d.at_)
def valX (fn : List He.FnD) : He.Al := (true, fn.map He.FnD.val)
def SaysX (fb : FbX) (fn : List He.FnD) (K : PySem.W.Frag) : Prop := obsX fb fn K = valX fn
section
variable {fb : FbX} {fn : List He.FnD} {K : PySem.W.Frag}
theorem SaysX.fact (c : SaysX fb fn K) (j i : Nat) {l : List (PySem.W.Frag → Bool)} {f : PySem.W.Frag → Bool} (hl : fb[j]? = some l) (hf : l[i]? = some f) : f K = true := by
  have c1 := (He.ba (show (fbB fb K && fnsB fn K) = true from congrArg (fun z : He.Al => z.1) c)).1
  exact List.all_eq_true.mp (List.all_eq_true.mp c1 l (List.mem_of_getElem? hl)) f (List.mem_of_getElem? hf)
theorem SaysX.def_ (c : SaysX fb fn K) (i : Nat) {d : He.FnD} (h : fn[i]? = some d) :
    ∃ oc od osl kV doc pm an cdv ct, K.lookup (He.fAd K d.at_) = some ⟨oc, od, .func (PySem.W.fnOf d.name d.qual d.params d.body d.scope .none kV doc pm an cdv ct), osl⟩ ∧ PySem.W.codeIn K cdv d.qual = true := by
  have c2 := (He.ba (show (fbB fb K && fnsB fn K) = true from congrArg (fun z : He.Al => z.1) c)).2
  have e : fn.map (fun d => He.fnObs K d.at_) = fn.map He.FnD.val := congrArg (fun z : He.Al => z.2) c
  have e2 : (fn.map fun d => He.fnObs K d.at_)[i]? = (fn.map He.FnD.val)[i]? := by rw [e]
  rw [List.getElem?_map, List.getElem?_map, h] at e2
  exact He.fn_ok (Option.some.inj e2) (List.all_eq_true.mp c2 d (List.mem_of_getElem? h))
end
/-! constants of the module -/
def intB (K : PySem.W.Frag) (x : Str) (i : Int) : Bool := match PySem.W.nsIn K mainGlobals x with
  | some (some (.int j _)) => decide (j = i)
  | _ => false
theorem intB_ok {K : PySem.W.Frag} {x : Str} {i : Int} (h : intB K x i = true) : ∃ t, PySem.W.nsIn K mainGlobals x = some (some (.int i t)) := by
  unfold intB at h
  split at h
  · rename_i j t e
    rw [of_decide_eq_true h] at e
    exact ⟨t, e⟩
  · cases h
def strB (K : PySem.W.Frag) (x : Str) (i : Str) : Bool := match PySem.W.nsIn K mainGlobals x with
  | some (some (.str j _)) => decide (j = i)
  | _ => false
theorem strB_ok {K : PySem.W.Frag} {x : Str} {i : Str} (h : strB K x i = true) : ∃ t, PySem.W.nsIn K mainGlobals x = some (some (.str i t)) := by
  unfold strB at h
  split at h
  · rename_i j t e
    rw [of_decide_eq_true h] at e
    exact ⟨t, e⟩
  · cases h
def litB : V → Value → Bool
  | .int i, .int j _ => decide (i = j)
  | .str s, .str z _ => decide (s = z)
  | .bl b, .bool c => decide (b = c)
  | .non, .none => true
  | _, _ => false
theorem litB_ok {v : V} {u : Value} (h : litB v u = true) : RelV v u := by
  cases v <;> cases u <;> first | (cases h; done) | skip
  all_goals first | rfl | (rw [of_decide_eq_true (show decide _ = true from h)]; exact ⟨_, rfl⟩) | (rw [of_decide_eq_true (show decide _ = true from h)]; rfl)
def litsB : List V → List Value → Bool
  | [], [] => true
  | v :: vs, u :: us => litB v u && litsB vs us
  | _, _ => false
theorem litsB_ok : ∀ {vs : List V} {us : List Value}, litsB vs us = true → Vals vs us
  | [], [], _ => .nil
  | v :: vs, u :: us, h => by
    obtain ⟨h1, h2⟩ := He.ba (show (litB v u && litsB vs us) = true from h)
    exact .cons (litB_ok h1) (litsB_ok h2)
  | [], _ :: _, h => nomatch h
  | _ :: _, [], h => nomatch h
def tupB (K : PySem.W.Frag) (a : Addr) (xs : List V) (bare : Bool) : Bool := match K.lookup a with
  | some ⟨.type c, od, .seq its _, _⟩ => decide (c = "tuple") && (decide (its.size ≤ sizeLine) && (litsB xs its.toList && (!bare || od.isNone)))
  | _ => false
theorem tupB_ok {K : PySem.W.Frag} {a : Addr} {xs : List V} {bare : Bool} (h : tupB K a xs bare = true) : ∀ H, SqT K H a xs := by
  unfold tupB at h
  split at h
  · rename_i c od its n sl e
    obtain ⟨h1, h2⟩ := He.ba h
    obtain ⟨h2, h3⟩ := He.ba h2
    obtain ⟨h3, h4⟩ := He.ba h3
    obtain rfl := of_decide_eq_true h1
    exact fun H => .inr ⟨_, its, _, e, rfl, rfl, of_decide_eq_true h2, litsB_ok h3⟩
  · cases h
theorem tupB_bare {K : PySem.W.Frag} {a : Addr} {xs : List V} (h : tupB K a xs true = true) : ∃ o, K.lookup a = some o ∧ o.cls = .type "tuple" ∧ o.dict = none := by
  unfold tupB at h
  split at h
  · rename_i c od its n sl e
    obtain ⟨h1, h2⟩ := He.ba h
    obtain ⟨h2, h3⟩ := He.ba h2
    obtain ⟨h3, h4⟩ := He.ba h3
    obtain rfl := of_decide_eq_true h1
    cases od with
    | none => exact ⟨_, e, rfl, rfl⟩
    | some d => cases h4
  · cases h
/-! classes with operators -/
/-! ### the end over a head by facts, with defs that have defaults -/
def refsXD (o : Obj) : List Addr := match o.data with
  | .dict es _ => es.toList.flatMap fun e => He.refV e.val
  | .func fd => He.refV fd.code ++ (He.refV fd.defaults ++ He.refV fd.kwdefaults)
  | .cls cd => [cd.ns]
  | .seq its _ => its.toList.flatMap He.refV
  | _ => []
def frontXD (g : Addr → Option Obj) : Nat → List Addr → List Addr
  | 0, _ => []
  | n + 1, as => as ++ frontXD g n (as.flatMap fun a => match g a with
    | some o => refsXD o
    | none => [])
def asXD (g : Addr → Option Obj) (n : Nat) : List Addr := frontXD g n [mainGlobals] ++ [cStatics]
abbrev AlD : Type := Bool × List He.FnV × List He.FnW
def obsXD (fb : FbX) (fn : List He.FnD) (df : List He.DefD) (K : PySem.W.Frag) : AlD := ((fbB fb K && fnsB fn K) && df.all (He.DefD.ok K), fn.map (fun d => He.fnObs K d.at_), df.map fun d => He.fnW K d.at_)
def valXD (fn : List He.FnD) (df : List He.DefD) : AlD := (true, fn.map He.FnD.val, df.map He.DefD.val)
def SaysXD (fb : FbX) (fn : List He.FnD) (df : List He.DefD) (K : PySem.W.Frag) : Prop := obsXD fb fn df K = valXD fn df
def obsXDG (n : Nat) (fb : FbX) (fn : List He.FnD) (df : List He.DefD) (g : Addr → Option Obj) : AlD := collX g (asXD g n) (obsXD fb fn df)
def hookXD (n : Nat) (fb : FbX) (fn : List He.FnD) (df : List He.DefD) : PySem.W.Hook where
  α := AlD
  obs := fun s => obsXDG n fb fn df s.heap.get?
  val := fun _ => valXD fn df
  says := fun _ h => ∃ K : PySem.W.Frag, K.In h ∧ SaysXD fb fn df K
  of := fun _ _ e => ⟨_, He.frG_in, (collX_eq _ _).symm.trans e⟩
  keeps := fun _ _ _ ⟨K, hK, c⟩ k => ⟨K, PySem.W.Frag.In.keeps hK k, c⟩
theorem obsXDG_eq {n : Nat} {fb : FbX} {fn : List He.FnD} {df : List He.DefD} {g : Addr → Option Obj} {s : Shared} (h : ∀ a, g a = s.heap.get? a) : obsXDG n fb fn df g = (hookXD n fb fn df).obs s := by
  have e : g = s.heap.get? := funext h
  rw [e] <;> rfl
theorem obs_two {n : Nat} {fb : FbX} {fn : List He.FnD} {df : List He.DefD} {g : Addr → Option Obj} (h1 : obsXDG n fb [] [] g = valXD [] []) (h2 : obsXDG n [] fn df g = valXD fn df) : obsXDG n fb fn df g = valXD fn df := by
  unfold obsXDG at h1 h2 ⊢
  rw [collX_eq] at h1 h2 ⊢
  generalize He.frG g (asXD g n) = K at h1 h2 ⊢
  have a1 : ((fbB fb K && fnsB [] K) && ([] : List He.DefD).all (He.DefD.ok K)) = true := congrArg (fun z : AlD => z.1) h1
  have b1 : ((fbB [] K && fnsB fn K) && df.all (He.DefD.ok K)) = true := congrArg (fun z : AlD => z.1) h2
  have b2 : (fn.map (fun d => He.fnObs K d.at_), df.map fun d => He.fnW K d.at_) = (fn.map He.FnD.val, df.map He.DefD.val) := congrArg (fun z : AlD => z.2) h2
  obtain ⟨c1, c2⟩ := He.ba b1
  obtain ⟨_, c3⟩ := He.ba c1
  have d1 := (He.ba (He.ba a1).1).1
  refine Prod.ext ?_ b2
  show ((fbB fb K && fnsB fn K) && df.all (He.DefD.ok K)) = true
  rw [d1, c3, c2] <;> rfl
/-- the run told in two: its looks and the plain facts, and the defs -/
theorem run_two {r : PySem.W.OpenRow} {q : Program} {n M : Nat} {fb : FbX} {fn : List He.FnD} {df : List He.DefD} {loose : List Str} {w : World}
    (h1 : HandSHeadRun.RunEq r q (hookXD n fb [] []) (fun s => obsXDG n fb [] [] (HandSHeadRun.getT s)) M loose w)
    (h2 : ∀ os : OsState, (HandSHeadRun.endF (HandSHeadRun.stepQ (HandSHeadRun.denQ HandSHeadRun.tabQ) r.prog w) M r.prog w os).map (fun s => obsXDG n [] fn df (HandSHeadRun.getT s)) = some (valXD fn df)) :
    HandSHeadRun.RunEq r q (hookXD n fb fn df) (fun s => obsXDG n fb fn df (HandSHeadRun.getT s)) M loose w := by
  intro os
  have a := h1 os
  have b := h2 os
  cases e : HandSHeadRun.endF (HandSHeadRun.stepQ (HandSHeadRun.denQ HandSHeadRun.tabQ) r.prog w) M r.prog w os with
  | none => rw [e] at b; cases b
  | some s =>
    rw [e] at a b
    have a' := Option.some.inj a
    have b' : obsXDG n [] fn df (HandSHeadRun.getT s) = valXD fn df := Option.some.inj b
    have l1 := congrArg (fun z => z.1) a'
    have l2 := congrArg (fun z => z.2.1) a'
    have l3 : obsXDG n fb [] [] (HandSHeadRun.getT s) = valXD [] [] := congrArg (fun z => z.2.2) a'
    exact congrArg some (Prod.ext l1 (Prod.ext l2 (obs_two l3 b')))
theorem obs_more {n : Nat} {f1 f2 : FbX} {g : Addr → Option Obj} (h1 : obsXDG n f1 [] [] g = valXD [] []) (h2 : obsXDG n f2 [] [] g = valXD [] []) : obsXDG n (f1 ++ f2) [] [] g = valXD [] [] := by
  unfold obsXDG at h1 h2 ⊢
  rw [collX_eq] at h1 h2 ⊢
  generalize He.frG g (asXD g n) = K at h1 h2 ⊢
  have a1 := (He.ba (He.ba (show ((fbB f1 K && fnsB [] K) && ([] : List He.DefD).all (He.DefD.ok K)) = true from congrArg (fun z : AlD => z.1) h1)).1).1
  have a2 := (He.ba (He.ba (show ((fbB f2 K && fnsB [] K) && ([] : List He.DefD).all (He.DefD.ok K)) = true from congrArg (fun z : AlD => z.1) h2)).1).1
  refine Prod.ext ?_ rfl
  show ((fbB (f1 ++ f2) K && fnsB [] K) && ([] : List He.DefD).all (He.DefD.ok K)) = true
  have e : fbB (f1 ++ f2) K = true := by
    unfold fbB at a1 a2 ⊢
    rw [List.all_append, a1, a2] <;> rfl
  rw [e] <;> rfl
/-- the run told once more, with more of the plain facts -/
theorem run_more {r : PySem.W.OpenRow} {q : Program} {n M : Nat} {f1 f2 : FbX} {loose : List Str} {w : World}
    (h1 : HandSHeadRun.RunEq r q (hookXD n f1 [] []) (fun s => obsXDG n f1 [] [] (HandSHeadRun.getT s)) M loose w)
    (h2 : ∀ os : OsState, (HandSHeadRun.endF (HandSHeadRun.stepQ (HandSHeadRun.denQ HandSHeadRun.tabQ) r.prog w) M r.prog w os).map (fun s => obsXDG n f2 [] [] (HandSHeadRun.getT s)) = some (valXD [] [])) :
    HandSHeadRun.RunEq r q (hookXD n (f1 ++ f2) [] []) (fun s => obsXDG n (f1 ++ f2) [] [] (HandSHeadRun.getT s)) M loose w := by
  intro os
  have a := h1 os
  have b := h2 os
  cases e : HandSHeadRun.endF (HandSHeadRun.stepQ (HandSHeadRun.denQ HandSHeadRun.tabQ) r.prog w) M r.prog w os with
  | none => rw [e] at b; cases b
  | some s =>
    rw [e] at a b
    have a' := Option.some.inj a
    have b' : obsXDG n f2 [] [] (HandSHeadRun.getT s) = valXD [] [] := Option.some.inj b
    have l1 := congrArg (fun z => z.1) a'
    have l2 := congrArg (fun z => z.2.1) a'
    have l3 : obsXDG n f1 [] [] (HandSHeadRun.getT s) = valXD [] [] := congrArg (fun z => z.2.2) a'
    exact congrArg some (Prod.ext l1 (Prod.ext l2 (obs_more l3 b')))
section
variable {fb : FbX} {fn : List He.FnD} {df : List He.DefD} {K : PySem.W.Frag}
theorem SaysXD.bools (c : SaysXD fb fn df K) : (fbB fb K = true ∧ fnsB fn K = true) ∧ df.all (He.DefD.ok K) = true := by
  have c0 := He.ba (show ((fbB fb K && fnsB fn K) && df.all (He.DefD.ok K)) = true from congrArg (fun z : AlD => z.1) c)
  exact ⟨He.ba c0.1, c0.2⟩
theorem SaysXD.fact (c : SaysXD fb fn df K) (j i : Nat) {l : List (PySem.W.Frag → Bool)} {f : PySem.W.Frag → Bool} (hl : fb[j]? = some l) (hf : l[i]? = some f) : f K = true :=
  List.all_eq_true.mp (List.all_eq_true.mp c.bools.1.1 l (List.mem_of_getElem? hl)) f (List.mem_of_getElem? hf)
theorem SaysXD.def_ (c : SaysXD fb fn df K) (i : Nat) {d : He.FnD} (h : fn[i]? = some d) :
    ∃ oc od osl kV doc pm an cdv ct, K.lookup (He.fAd K d.at_) = some ⟨oc, od, .func (PySem.W.fnOf d.name d.qual d.params d.body d.scope .none kV doc pm an cdv ct), osl⟩ ∧ PySem.W.codeIn K cdv d.qual = true := by
  have e : fn.map (fun d => He.fnObs K d.at_) = fn.map He.FnD.val := congrArg (fun z : AlD => z.2.1) c
  have e2 : (fn.map fun d => He.fnObs K d.at_)[i]? = (fn.map He.FnD.val)[i]? := by rw [e]
  rw [List.getElem?_map, List.getElem?_map, h] at e2
  exact He.fn_ok (Option.some.inj e2) (List.all_eq_true.mp c.bools.1.2 d (List.mem_of_getElem? h))
end
end EH
namespace EH
open PySem PySem.Spec PyProof.Rows L2
abbrev lkMro : List Value := [.type "LookupError", .type "Exception", .type "BaseException", .type "object"]
/-! ### facts of classes of errors, as Bools -/
def oexB (K : PySem.W.Frag) (C : Addr) (fit : List Value → Bool) (new : String) : Bool := match K.lookup C with
  | some ⟨.type ty, _, .cls data, sl⟩ => decide (ty = "type") && (match data.mro, sl.toList with
    | .ref c :: rest, [_, _, _, _, some (.builtin b), _] => (decide (c = C) && decide (b = new)) && ((data.hasDict && !data.hasDel) && fit rest)
    | _, _ => false)
  | _ => false
theorem oexB_ok {K : PySem.W.Frag} {C : Addr} {fit : List Value → Bool} {new : String} (h : oexB K C fit new = true) :
    ∃ nm q N bs bm sn sub ab col dd k0 k1 k2 k3 k5, K.lookup C = some (excClassObj nm q C N bs bm true sn sub ab col dd k0 k1 k2 k3 k5 new) ∧ fit bm = true := by
  unfold oexB at h
  split at h
  · rename_i ty dd data sl lk
    obtain ⟨z1, z2⟩ := Bool.and_eq_true_iff.mp h
    split at z2
    · rename_i c rest k0 k1 k2 k3 b k5 em es
      obtain ⟨y1, y2⟩ := Bool.and_eq_true_iff.mp z2
      obtain ⟨y3, y4⟩ := Bool.and_eq_true_iff.mp y1
      obtain ⟨y5, y6⟩ := Bool.and_eq_true_iff.mp y2
      obtain ⟨y7, y8⟩ := Bool.and_eq_true_iff.mp y5
      obtain ⟨m1, m2, m3, m4, m5, m6, m7, m8, m9, m10, m11⟩ := data
      dsimp only at em y7 y8
      have d1 : m11 = false := by simpa using y8
      subst em y7 d1
      rw [of_decide_eq_true y3, of_decide_eq_true z1] at lk
      have e : sl = #[k0, k1, k2, k3, some (.builtin b), k5] := by
        cases sl with
        | mk l => exact congrArg Array.mk es
      rw [e, of_decide_eq_true y4] at lk
      exact ⟨_, _, _, _, _, _, _, _, _, _, _, _, _, _, _, lk, y6⟩
    · cases z2
  · cases h
def lkFit (l : List Value) : Bool := l == lkMro
theorem oexL_cls {K : PySem.W.Frag} {C : Addr} (h : oexB K C lkFit "LookupError.__new__" = true) : ∃ nm q N bs sn sub ab col dd k0 k1 k2 k3 k5, K.lookup C = some (excClassObj nm q C N bs lkMro true sn sub ab col dd k0 k1 k2 k3 k5 "LookupError.__new__") := by
  obtain ⟨nm, q, N, bs, bm, sn, sub, ab, col, dd, k0, k1, k2, k3, k5, lk, ft⟩ := oexB_ok h
  obtain rfl : bm = lkMro := beq_iff_eq.mp ft
  exact ⟨_, _, _, _, _, _, _, _, _, _, _, _, _, _, lk⟩
theorem oexC_cls {K : PySem.W.Frag} {C : Addr} (h : oexB K C PySem.HandSPX.refsVE "ValueError.__new__" = true) : ∃ nm q N bs bm sn sub ab col dd k0 k1 k2 k3 k5, K.lookup C = some (excClassObj nm q C N bs bm true sn sub ab col dd k0 k1 k2 k3 k5 "ValueError.__new__") ∧ PySem.HandSPX.refsVE bm = true := oexB_ok h
def valB (r : Option PySem.W.CFound) (b : String) : Bool := match r with
  | some (.val (.builtin c)) => decide (c = b)
  | _ => false
theorem valB_ok {r : Option PySem.W.CFound} {b : String} (h : valB r b = true) : r = some (.val (.builtin b)) := by
  unfold valB at h
  split at h
  · rw [of_decide_eq_true h]
  · cases h
end EH
namespace EH
open PySem L2
/-! ### facts of a head about errors' classes, as Bools -/
def excKB (K : PySem.W.Frag) (C : Addr) : Bool := (PySem.W.clsIn K C).isSome && (decide (PySem.W.findIn K (.ref C) "__getattribute__" = some (some (.builtin "BaseException.__getattribute__"))) && (decide (PySem.W.findIn K (.ref C) "__getattr__" = some none) &&
  (decide (PySem.W.subIn K (.ref C) (.type "BaseException") = some true) && (decide (PySem.W.findIn K (.ref C) "__class__" = some (some (.builtin "object.__class__"))) && (decide (PySem.W.specialIn K (.builtin "object.__class__") "__get__" = some (some (.builtin "getset_descriptor.__get__"))) &&
  (decide (PySem.W.takesIn K (.builtin "object.__class__") = some true) && decide (PySem.W.mroIn K C (.type "object") = some true)))))))
def kindsB (K : PySem.W.Frag) (C : Addr) (L : List Value) (bs : List Bool) : Bool := decide (L.map (PySem.W.kitOne K (.ref C)) = bs.map some)
def clsNumB (K : PySem.W.Frag) (C : Addr) (f : Str) (i : Int) : Bool := PySem.W.readsIn K C (.type "type") && match PySem.W.findCls K (.ref C) (.type "type") f with
  | some (.val (.int j _)) => decide (j = i)
  | _ => false
def topS (i : Nat) : Stmt := PySem.Challenge.pw_eitherhalf_k00_errors_made_by_hand.main.body.getD i (.Pass ⟨0, 0, 0, 0⟩)
abbrev s_BadText_init : Stmt := inClass (topS 3) 0
abbrev s_BadProgram_init : Stmt := inClass (topS 4) 0
abbrev s_BadFix_init : Stmt := inClass (topS 5) 0
abbrev s_BadWay_init : Stmt := inClass (topS 6) 0
abbrev s_BadNumber_init : Stmt := inClass (topS 7) 0
abbrev s_BadChoices_init : Stmt := inClass (topS 8) 0
abbrev s_NoHalf_init : Stmt := inClass (topS 9) 0
abbrev s_PinThere_init : Stmt := inClass (topS 10) 0
abbrev s_NoPin_init : Stmt := inClass (topS 11) 0
abbrev s_Unsure_init : Stmt := inClass (topS 12) 0
abbrev s_BadEdit_init : Stmt := inClass (topS 18) 0
abbrev s_Rejected_init : Stmt := inClass (topS 19) 0
abbrev s_NoPlace_init : Stmt := inClass (topS 20) 0
abbrev s_NoVersion_init : Stmt := inClass (topS 21) 0
abbrev s_l_deck : Stmt := topS 139
abbrev s_l_draw : Stmt := topS 140
abbrev s_l_one : Stmt := topS 141
abbrev s_l_value : Stmt := topS 142
abbrev s_l_kinds : Stmt := topS 143
abbrev s_l_kinds_right : Stmt := topS 144
abbrev s_l_fields_right : Stmt := topS 145
abbrev s_l_bounds : Stmt := topS 146
abbrev s_law : Stmt := topS 147
end EH
namespace EH
open PySem L2 PyProof.Rows
def fbX0 : List (PySem.W.Frag → Bool) := [fun K => He.eqO (PySem.W.nsIn K mainGlobals "HalfError") (some (some (.ref (He.ga K "HalfError")))),
  fun K => He.eqO (PySem.W.specialIn K (.ref (He.ga K "HalfError")) "__getattribute__") (some (some (.builtin "type.__getattribute__"))),
  fun K => PySem.W.readsIn K (He.ga K "HalfError") (.type "type"),
  fun K => valB (PySem.W.findCls K (.ref (He.ga K "HalfError")) (.type "type") "__init__") "ValueError.__init__",
  fun K => He.eqO (PySem.W.nsIn K mainGlobals "BadText") (some (some (.ref (He.ga K "BadText")))),
  fun K => oexB K (He.ga K "BadText") PySem.HandSPX.refsVE "ValueError.__new__",
  fun K => He.eqO (PySem.W.findIn K (.ref (He.ga K "BadText")) "__setattr__") (some (some (.builtin "object.__setattr__"))),
  fun K => He.eqO (PySem.W.findIn K (.ref (He.ga K "BadText")) "__getattribute__") (some (some (.builtin "BaseException.__getattribute__"))),
  fun K => He.eqO (PySem.W.findIn K (.ref (He.ga K "BadText")) "__getattr__") (some none),
  fun K => He.eqO (PySem.W.findIn K (.ref (He.ga K "BadText")) "line") (some none),
  fun K => PySem.W.keepIn K (.ref (He.ga K "BadText")),
  fun K => decide (PySem.W.subIn K (.ref (He.ga K "BadText")) (.type "BaseException") = some true),
  fun K => decide (PySem.W.typeIn K (.ref (He.ga K "BadText")) = some (.type "type")),
  fun K => PySem.W.hasDictIn K (He.ga K "BadText"),
  fun K => PySem.W.isClsIn K (He.ga K "BadText"),
  fun K => decide (PySem.W.subIn K (.ref (He.ga K "BadText")) (.ref (He.ga K "BadText")) = some true),
  fun K => He.eqO (PySem.W.nsIn K mainGlobals "BadProgram") (some (some (.ref (He.ga K "BadProgram")))),
  fun K => oexB K (He.ga K "BadProgram") PySem.HandSPX.refsVE "ValueError.__new__",
  fun K => He.eqO (PySem.W.findIn K (.ref (He.ga K "BadProgram")) "__setattr__") (some (some (.builtin "object.__setattr__"))),
  fun K => He.eqO (PySem.W.findIn K (.ref (He.ga K "BadProgram")) "__getattribute__") (some (some (.builtin "BaseException.__getattribute__")))]
def fbX1 : List (PySem.W.Frag → Bool) := [fun K => He.eqO (PySem.W.findIn K (.ref (He.ga K "BadProgram")) "__getattr__") (some none),
  fun K => He.eqO (PySem.W.findIn K (.ref (He.ga K "BadProgram")) "error") (some none),
  fun K => PySem.W.keepIn K (.ref (He.ga K "BadProgram")),
  fun K => decide (PySem.W.subIn K (.ref (He.ga K "BadProgram")) (.type "BaseException") = some true),
  fun K => decide (PySem.W.typeIn K (.ref (He.ga K "BadProgram")) = some (.type "type")),
  fun K => PySem.W.hasDictIn K (He.ga K "BadProgram"),
  fun K => PySem.W.isClsIn K (He.ga K "BadProgram"),
  fun K => decide (PySem.W.subIn K (.ref (He.ga K "BadProgram")) (.ref (He.ga K "BadProgram")) = some true),
  fun K => He.eqO (PySem.W.nsIn K mainGlobals "BadFix") (some (some (.ref (He.ga K "BadFix")))),
  fun K => oexB K (He.ga K "BadFix") PySem.HandSPX.refsVE "ValueError.__new__",
  fun K => He.eqO (PySem.W.findIn K (.ref (He.ga K "BadFix")) "__setattr__") (some (some (.builtin "object.__setattr__"))),
  fun K => He.eqO (PySem.W.findIn K (.ref (He.ga K "BadFix")) "__getattribute__") (some (some (.builtin "BaseException.__getattribute__"))),
  fun K => He.eqO (PySem.W.findIn K (.ref (He.ga K "BadFix")) "__getattr__") (some none),
  fun K => He.eqO (PySem.W.findIn K (.ref (He.ga K "BadFix")) "value") (some none),
  fun K => PySem.W.keepIn K (.ref (He.ga K "BadFix")),
  fun K => decide (PySem.W.subIn K (.ref (He.ga K "BadFix")) (.type "BaseException") = some true),
  fun K => decide (PySem.W.typeIn K (.ref (He.ga K "BadFix")) = some (.type "type")),
  fun K => PySem.W.hasDictIn K (He.ga K "BadFix"),
  fun K => PySem.W.isClsIn K (He.ga K "BadFix"),
  fun K => decide (PySem.W.subIn K (.ref (He.ga K "BadFix")) (.ref (He.ga K "BadFix")) = some true)]
def fbX2 : List (PySem.W.Frag → Bool) := [fun K => He.eqO (PySem.W.nsIn K mainGlobals "BadWay") (some (some (.ref (He.ga K "BadWay")))),
  fun K => oexB K (He.ga K "BadWay") PySem.HandSPX.refsVE "ValueError.__new__",
  fun K => He.eqO (PySem.W.findIn K (.ref (He.ga K "BadWay")) "__setattr__") (some (some (.builtin "object.__setattr__"))),
  fun K => He.eqO (PySem.W.findIn K (.ref (He.ga K "BadWay")) "__getattribute__") (some (some (.builtin "BaseException.__getattribute__"))),
  fun K => He.eqO (PySem.W.findIn K (.ref (He.ga K "BadWay")) "__getattr__") (some none),
  fun K => He.eqO (PySem.W.findIn K (.ref (He.ga K "BadWay")) "way") (some none),
  fun K => PySem.W.keepIn K (.ref (He.ga K "BadWay")),
  fun K => decide (PySem.W.subIn K (.ref (He.ga K "BadWay")) (.type "BaseException") = some true),
  fun K => decide (PySem.W.typeIn K (.ref (He.ga K "BadWay")) = some (.type "type")),
  fun K => PySem.W.hasDictIn K (He.ga K "BadWay"),
  fun K => PySem.W.isClsIn K (He.ga K "BadWay"),
  fun K => decide (PySem.W.subIn K (.ref (He.ga K "BadWay")) (.ref (He.ga K "BadWay")) = some true),
  fun K => He.eqO (PySem.W.nsIn K mainGlobals "BadNumber") (some (some (.ref (He.ga K "BadNumber")))),
  fun K => oexB K (He.ga K "BadNumber") PySem.HandSPX.refsVE "ValueError.__new__",
  fun K => He.eqO (PySem.W.findIn K (.ref (He.ga K "BadNumber")) "__setattr__") (some (some (.builtin "object.__setattr__"))),
  fun K => He.eqO (PySem.W.findIn K (.ref (He.ga K "BadNumber")) "__getattribute__") (some (some (.builtin "BaseException.__getattribute__"))),
  fun K => He.eqO (PySem.W.findIn K (.ref (He.ga K "BadNumber")) "__getattr__") (some none),
  fun K => He.eqO (PySem.W.findIn K (.ref (He.ga K "BadNumber")) "number") (some none),
  fun K => PySem.W.keepIn K (.ref (He.ga K "BadNumber")),
  fun K => decide (PySem.W.subIn K (.ref (He.ga K "BadNumber")) (.type "BaseException") = some true)]
def fbX3 : List (PySem.W.Frag → Bool) := [fun K => decide (PySem.W.typeIn K (.ref (He.ga K "BadNumber")) = some (.type "type")),
  fun K => PySem.W.hasDictIn K (He.ga K "BadNumber"),
  fun K => PySem.W.isClsIn K (He.ga K "BadNumber"),
  fun K => decide (PySem.W.subIn K (.ref (He.ga K "BadNumber")) (.ref (He.ga K "BadNumber")) = some true),
  fun K => He.eqO (PySem.W.nsIn K mainGlobals "BadChoices") (some (some (.ref (He.ga K "BadChoices")))),
  fun K => oexB K (He.ga K "BadChoices") PySem.HandSPX.refsVE "ValueError.__new__",
  fun K => He.eqO (PySem.W.findIn K (.ref (He.ga K "BadChoices")) "__setattr__") (some (some (.builtin "object.__setattr__"))),
  fun K => He.eqO (PySem.W.findIn K (.ref (He.ga K "BadChoices")) "__getattribute__") (some (some (.builtin "BaseException.__getattribute__"))),
  fun K => He.eqO (PySem.W.findIn K (.ref (He.ga K "BadChoices")) "__getattr__") (some none),
  fun K => He.eqO (PySem.W.findIn K (.ref (He.ga K "BadChoices")) "choices") (some none),
  fun K => PySem.W.keepIn K (.ref (He.ga K "BadChoices")),
  fun K => decide (PySem.W.subIn K (.ref (He.ga K "BadChoices")) (.type "BaseException") = some true),
  fun K => decide (PySem.W.typeIn K (.ref (He.ga K "BadChoices")) = some (.type "type")),
  fun K => PySem.W.hasDictIn K (He.ga K "BadChoices"),
  fun K => PySem.W.isClsIn K (He.ga K "BadChoices"),
  fun K => decide (PySem.W.subIn K (.ref (He.ga K "BadChoices")) (.ref (He.ga K "BadChoices")) = some true),
  fun K => He.eqO (PySem.W.nsIn K mainGlobals "NoHalf") (some (some (.ref (He.ga K "NoHalf")))),
  fun K => oexB K (He.ga K "NoHalf") PySem.HandSPX.refsVE "ValueError.__new__",
  fun K => He.eqO (PySem.W.findIn K (.ref (He.ga K "NoHalf")) "__setattr__") (some (some (.builtin "object.__setattr__"))),
  fun K => He.eqO (PySem.W.findIn K (.ref (He.ga K "NoHalf")) "__getattribute__") (some (some (.builtin "BaseException.__getattribute__")))]
def fbX4 : List (PySem.W.Frag → Bool) := [fun K => He.eqO (PySem.W.findIn K (.ref (He.ga K "NoHalf")) "__getattr__") (some none),
  fun K => He.eqO (PySem.W.findIn K (.ref (He.ga K "NoHalf")) "place") (some none),
  fun K => PySem.W.keepIn K (.ref (He.ga K "NoHalf")),
  fun K => decide (PySem.W.subIn K (.ref (He.ga K "NoHalf")) (.type "BaseException") = some true),
  fun K => decide (PySem.W.typeIn K (.ref (He.ga K "NoHalf")) = some (.type "type")),
  fun K => PySem.W.hasDictIn K (He.ga K "NoHalf"),
  fun K => PySem.W.isClsIn K (He.ga K "NoHalf"),
  fun K => decide (PySem.W.subIn K (.ref (He.ga K "NoHalf")) (.ref (He.ga K "NoHalf")) = some true),
  fun K => He.eqO (PySem.W.nsIn K mainGlobals "PinThere") (some (some (.ref (He.ga K "PinThere")))),
  fun K => oexB K (He.ga K "PinThere") PySem.HandSPX.refsVE "ValueError.__new__",
  fun K => He.eqO (PySem.W.findIn K (.ref (He.ga K "PinThere")) "__setattr__") (some (some (.builtin "object.__setattr__"))),
  fun K => He.eqO (PySem.W.findIn K (.ref (He.ga K "PinThere")) "__getattribute__") (some (some (.builtin "BaseException.__getattribute__"))),
  fun K => He.eqO (PySem.W.findIn K (.ref (He.ga K "PinThere")) "__getattr__") (some none),
  fun K => He.eqO (PySem.W.findIn K (.ref (He.ga K "PinThere")) "place") (some none),
  fun K => PySem.W.keepIn K (.ref (He.ga K "PinThere")),
  fun K => decide (PySem.W.subIn K (.ref (He.ga K "PinThere")) (.type "BaseException") = some true),
  fun K => decide (PySem.W.typeIn K (.ref (He.ga K "PinThere")) = some (.type "type")),
  fun K => PySem.W.hasDictIn K (He.ga K "PinThere"),
  fun K => PySem.W.isClsIn K (He.ga K "PinThere"),
  fun K => decide (PySem.W.subIn K (.ref (He.ga K "PinThere")) (.ref (He.ga K "PinThere")) = some true)]
def fbX5 : List (PySem.W.Frag → Bool) := [fun K => He.eqO (PySem.W.nsIn K mainGlobals "NoPin") (some (some (.ref (He.ga K "NoPin")))),
  fun K => oexB K (He.ga K "NoPin") PySem.HandSPX.refsVE "ValueError.__new__",
  fun K => He.eqO (PySem.W.findIn K (.ref (He.ga K "NoPin")) "__setattr__") (some (some (.builtin "object.__setattr__"))),
  fun K => He.eqO (PySem.W.findIn K (.ref (He.ga K "NoPin")) "__getattribute__") (some (some (.builtin "BaseException.__getattribute__"))),
  fun K => He.eqO (PySem.W.findIn K (.ref (He.ga K "NoPin")) "__getattr__") (some none),
  fun K => He.eqO (PySem.W.findIn K (.ref (He.ga K "NoPin")) "place") (some none),
  fun K => PySem.W.keepIn K (.ref (He.ga K "NoPin")),
  fun K => decide (PySem.W.subIn K (.ref (He.ga K "NoPin")) (.type "BaseException") = some true),
  fun K => decide (PySem.W.typeIn K (.ref (He.ga K "NoPin")) = some (.type "type")),
  fun K => PySem.W.hasDictIn K (He.ga K "NoPin"),
  fun K => PySem.W.isClsIn K (He.ga K "NoPin"),
  fun K => decide (PySem.W.subIn K (.ref (He.ga K "NoPin")) (.ref (He.ga K "NoPin")) = some true),
  fun K => He.eqO (PySem.W.nsIn K mainGlobals "BadEdit") (some (some (.ref (He.ga K "BadEdit")))),
  fun K => oexB K (He.ga K "BadEdit") PySem.HandSPX.refsVE "ValueError.__new__",
  fun K => He.eqO (PySem.W.findIn K (.ref (He.ga K "BadEdit")) "__setattr__") (some (some (.builtin "object.__setattr__"))),
  fun K => He.eqO (PySem.W.findIn K (.ref (He.ga K "BadEdit")) "__getattribute__") (some (some (.builtin "BaseException.__getattribute__"))),
  fun K => He.eqO (PySem.W.findIn K (.ref (He.ga K "BadEdit")) "__getattr__") (some none),
  fun K => He.eqO (PySem.W.findIn K (.ref (He.ga K "BadEdit")) "index") (some none),
  fun K => PySem.W.keepIn K (.ref (He.ga K "BadEdit")),
  fun K => decide (PySem.W.subIn K (.ref (He.ga K "BadEdit")) (.type "BaseException") = some true)]
def fbX6 : List (PySem.W.Frag → Bool) := [fun K => decide (PySem.W.typeIn K (.ref (He.ga K "BadEdit")) = some (.type "type")),
  fun K => PySem.W.hasDictIn K (He.ga K "BadEdit"),
  fun K => PySem.W.isClsIn K (He.ga K "BadEdit"),
  fun K => decide (PySem.W.subIn K (.ref (He.ga K "BadEdit")) (.ref (He.ga K "BadEdit")) = some true),
  fun K => He.eqO (PySem.W.nsIn K mainGlobals "Rejected") (some (some (.ref (He.ga K "Rejected")))),
  fun K => oexB K (He.ga K "Rejected") PySem.HandSPX.refsVE "ValueError.__new__",
  fun K => He.eqO (PySem.W.findIn K (.ref (He.ga K "Rejected")) "__setattr__") (some (some (.builtin "object.__setattr__"))),
  fun K => He.eqO (PySem.W.findIn K (.ref (He.ga K "Rejected")) "__getattribute__") (some (some (.builtin "BaseException.__getattribute__"))),
  fun K => He.eqO (PySem.W.findIn K (.ref (He.ga K "Rejected")) "__getattr__") (some none),
  fun K => He.eqO (PySem.W.findIn K (.ref (He.ga K "Rejected")) "index") (some none),
  fun K => PySem.W.keepIn K (.ref (He.ga K "Rejected")),
  fun K => decide (PySem.W.subIn K (.ref (He.ga K "Rejected")) (.type "BaseException") = some true),
  fun K => decide (PySem.W.typeIn K (.ref (He.ga K "Rejected")) = some (.type "type")),
  fun K => PySem.W.hasDictIn K (He.ga K "Rejected"),
  fun K => PySem.W.isClsIn K (He.ga K "Rejected"),
  fun K => decide (PySem.W.subIn K (.ref (He.ga K "Rejected")) (.ref (He.ga K "Rejected")) = some true),
  fun K => He.eqO (PySem.W.nsIn K mainGlobals "NoPlace") (some (some (.ref (He.ga K "NoPlace")))),
  fun K => oexB K (He.ga K "NoPlace") lkFit "LookupError.__new__",
  fun K => He.eqO (PySem.W.findIn K (.ref (He.ga K "NoPlace")) "__setattr__") (some (some (.builtin "object.__setattr__"))),
  fun K => He.eqO (PySem.W.findIn K (.ref (He.ga K "NoPlace")) "__getattribute__") (some (some (.builtin "BaseException.__getattribute__")))]
def fbX7 : List (PySem.W.Frag → Bool) := [fun K => He.eqO (PySem.W.findIn K (.ref (He.ga K "NoPlace")) "__getattr__") (some none),
  fun K => He.eqO (PySem.W.findIn K (.ref (He.ga K "NoPlace")) "place") (some none),
  fun K => PySem.W.keepIn K (.ref (He.ga K "NoPlace")),
  fun K => decide (PySem.W.subIn K (.ref (He.ga K "NoPlace")) (.type "BaseException") = some true),
  fun K => decide (PySem.W.typeIn K (.ref (He.ga K "NoPlace")) = some (.type "type")),
  fun K => PySem.W.hasDictIn K (He.ga K "NoPlace"),
  fun K => PySem.W.isClsIn K (He.ga K "NoPlace"),
  fun K => decide (PySem.W.subIn K (.ref (He.ga K "NoPlace")) (.ref (He.ga K "NoPlace")) = some true),
  fun K => He.eqO (PySem.W.nsIn K mainGlobals "NoVersion") (some (some (.ref (He.ga K "NoVersion")))),
  fun K => oexB K (He.ga K "NoVersion") lkFit "LookupError.__new__",
  fun K => He.eqO (PySem.W.findIn K (.ref (He.ga K "NoVersion")) "__setattr__") (some (some (.builtin "object.__setattr__"))),
  fun K => He.eqO (PySem.W.findIn K (.ref (He.ga K "NoVersion")) "__getattribute__") (some (some (.builtin "BaseException.__getattribute__"))),
  fun K => He.eqO (PySem.W.findIn K (.ref (He.ga K "NoVersion")) "__getattr__") (some none),
  fun K => He.eqO (PySem.W.findIn K (.ref (He.ga K "NoVersion")) "version") (some none),
  fun K => PySem.W.keepIn K (.ref (He.ga K "NoVersion")),
  fun K => decide (PySem.W.subIn K (.ref (He.ga K "NoVersion")) (.type "BaseException") = some true),
  fun K => decide (PySem.W.typeIn K (.ref (He.ga K "NoVersion")) = some (.type "type")),
  fun K => PySem.W.hasDictIn K (He.ga K "NoVersion"),
  fun K => PySem.W.isClsIn K (He.ga K "NoVersion"),
  fun K => decide (PySem.W.subIn K (.ref (He.ga K "NoVersion")) (.ref (He.ga K "NoVersion")) = some true)]
def fbX8 : List (PySem.W.Frag → Bool) := [fun K => He.eqO (PySem.W.nsIn K mainGlobals "Unsure") (some (some (.ref (He.ga K "Unsure")))),
  fun K => oexB K (He.ga K "Unsure") PySem.HandSPX.refsVE "ValueError.__new__",
  fun K => He.eqO (PySem.W.findIn K (.ref (He.ga K "Unsure")) "__setattr__") (some (some (.builtin "object.__setattr__"))),
  fun K => He.eqO (PySem.W.findIn K (.ref (He.ga K "Unsure")) "__getattribute__") (some (some (.builtin "BaseException.__getattribute__"))),
  fun K => He.eqO (PySem.W.findIn K (.ref (He.ga K "Unsure")) "__getattr__") (some none),
  fun K => He.eqO (PySem.W.findIn K (.ref (He.ga K "Unsure")) "number") (some none),
  fun K => He.eqO (PySem.W.findIn K (.ref (He.ga K "Unsure")) "turns") (some none),
  fun K => PySem.W.keepIn K (.ref (He.ga K "Unsure")),
  fun K => decide (PySem.W.subIn K (.ref (He.ga K "Unsure")) (.type "BaseException") = some true),
  fun K => decide (PySem.W.typeIn K (.ref (He.ga K "Unsure")) = some (.type "type")),
  fun K => PySem.W.hasDictIn K (He.ga K "Unsure"),
  fun K => PySem.W.isClsIn K (He.ga K "Unsure"),
  fun K => decide (PySem.W.subIn K (.ref (He.ga K "Unsure")) (.ref (He.ga K "Unsure")) = some true),
  fun K => He.eqO (PySem.W.nsIn K mainGlobals "Busy") (some (some (.ref (He.ga K "Busy")))),
  fun K => PySem.W.excIn K (He.ga K "Busy") [.type "ValueError", .type "Exception", .type "BaseException", .type "object"] "ValueError.__new__",
  fun K => PySem.W.keepIn K (.ref (He.ga K "Busy")),
  fun K => decide (PySem.W.subIn K (.ref (He.ga K "Busy")) (.type "BaseException") = some true),
  fun K => decide (PySem.W.typeIn K (.ref (He.ga K "Busy")) = some (.type "type")),
  fun K => PySem.W.isClsIn K (He.ga K "Busy"),
  fun K => decide (PySem.W.subIn K (.ref (He.ga K "Busy")) (.ref (He.ga K "Busy")) = some true)]
def fbX9 : List (PySem.W.Frag → Bool) := [fun K => He.eqO (PySem.W.nsIn K mainGlobals "TooManyEdits") (some (some (.ref (He.ga K "TooManyEdits")))),
  fun K => PySem.W.excIn K (He.ga K "TooManyEdits") [.type "ValueError", .type "Exception", .type "BaseException", .type "object"] "ValueError.__new__",
  fun K => PySem.W.keepIn K (.ref (He.ga K "TooManyEdits")),
  fun K => decide (PySem.W.subIn K (.ref (He.ga K "TooManyEdits")) (.type "BaseException") = some true),
  fun K => decide (PySem.W.typeIn K (.ref (He.ga K "TooManyEdits")) = some (.type "type")),
  fun K => PySem.W.isClsIn K (He.ga K "TooManyEdits"),
  fun K => decide (PySem.W.subIn K (.ref (He.ga K "TooManyEdits")) (.ref (He.ga K "TooManyEdits")) = some true),
  fun K => He.eqO (PySem.W.nsIn K mainGlobals "NothingToUndo") (some (some (.ref (He.ga K "NothingToUndo")))),
  fun K => PySem.W.excIn K (He.ga K "NothingToUndo") [.type "ValueError", .type "Exception", .type "BaseException", .type "object"] "ValueError.__new__",
  fun K => PySem.W.keepIn K (.ref (He.ga K "NothingToUndo")),
  fun K => decide (PySem.W.subIn K (.ref (He.ga K "NothingToUndo")) (.type "BaseException") = some true),
  fun K => decide (PySem.W.typeIn K (.ref (He.ga K "NothingToUndo")) = some (.type "type")),
  fun K => PySem.W.isClsIn K (He.ga K "NothingToUndo"),
  fun K => decide (PySem.W.subIn K (.ref (He.ga K "NothingToUndo")) (.ref (He.ga K "NothingToUndo")) = some true),
  fun K => He.eqO (PySem.W.nsIn K mainGlobals "NothingToRedo") (some (some (.ref (He.ga K "NothingToRedo")))),
  fun K => PySem.W.excIn K (He.ga K "NothingToRedo") [.type "ValueError", .type "Exception", .type "BaseException", .type "object"] "ValueError.__new__",
  fun K => PySem.W.keepIn K (.ref (He.ga K "NothingToRedo")),
  fun K => decide (PySem.W.subIn K (.ref (He.ga K "NothingToRedo")) (.type "BaseException") = some true),
  fun K => decide (PySem.W.typeIn K (.ref (He.ga K "NothingToRedo")) = some (.type "type")),
  fun K => PySem.W.isClsIn K (He.ga K "NothingToRedo")]
def fbX10 : List (PySem.W.Frag → Bool) := [fun K => decide (PySem.W.subIn K (.ref (He.ga K "NothingToRedo")) (.ref (He.ga K "NothingToRedo")) = some true),
  fun K => He.eqO (PySem.W.nsIn K mainGlobals "BadEdits") (some (some (.ref (He.ga K "BadEdits")))),
  fun K => PySem.W.excIn K (He.ga K "BadEdits") [.type "ValueError", .type "Exception", .type "BaseException", .type "object"] "ValueError.__new__",
  fun K => PySem.W.keepIn K (.ref (He.ga K "BadEdits")),
  fun K => decide (PySem.W.subIn K (.ref (He.ga K "BadEdits")) (.type "BaseException") = some true),
  fun K => decide (PySem.W.typeIn K (.ref (He.ga K "BadEdits")) = some (.type "type")),
  fun K => PySem.W.isClsIn K (He.ga K "BadEdits"),
  fun K => decide (PySem.W.subIn K (.ref (He.ga K "BadEdits")) (.ref (He.ga K "BadEdits")) = some true),
  fun K => PySem.W.excIn K (He.ga K "HalfError") [.type "ValueError", .type "Exception", .type "BaseException", .type "object"] "ValueError.__new__",
  fun K => PySem.W.keepIn K (.ref (He.ga K "HalfError")),
  fun K => decide (PySem.W.subIn K (.ref (He.ga K "HalfError")) (.type "BaseException") = some true),
  fun K => decide (PySem.W.typeIn K (.ref (He.ga K "HalfError")) = some (.type "type")),
  fun K => PySem.W.isClsIn K (He.ga K "HalfError"),
  fun K => decide (PySem.W.subIn K (.ref (He.ga K "HalfError")) (.ref (He.ga K "HalfError")) = some true),
  fun K => excKB K (He.ga K "BadText"),
  fun K => kindsB K (He.ga K "BadText") [.ref (He.ga K "BadText"), .ref (He.ga K "BadProgram"), .ref (He.ga K "BadFix"), .ref (He.ga K "BadWay"), .ref (He.ga K "BadNumber"), .ref (He.ga K "BadChoices"), .ref (He.ga K "NoHalf"), .ref (He.ga K "PinThere"), .ref (He.ga K "NoPin"), .ref (He.ga K "Unsure"), .ref (He.ga K "Busy"), .ref (He.ga K "TooManyEdits"), .ref (He.ga K "NothingToUndo"), .ref (He.ga K "NothingToRedo"), .ref (He.ga K "BadEdits"), .ref (He.ga K "BadEdit"), .ref (He.ga K "Rejected"), .ref (He.ga K "NoPlace"), .ref (He.ga K "NoVersion"), .ref (He.ga K "HalfError"), .type "LookupError", .type "ValueError"] [true, false, false, false, false, false, false, false, false, false, false, false, false, false, false, false, false, false, false, true, false, true],
  fun K => excKB K (He.ga K "BadProgram"),
  fun K => kindsB K (He.ga K "BadProgram") [.ref (He.ga K "BadText"), .ref (He.ga K "BadProgram"), .ref (He.ga K "BadFix"), .ref (He.ga K "BadWay"), .ref (He.ga K "BadNumber"), .ref (He.ga K "BadChoices"), .ref (He.ga K "NoHalf"), .ref (He.ga K "PinThere"), .ref (He.ga K "NoPin"), .ref (He.ga K "Unsure"), .ref (He.ga K "Busy"), .ref (He.ga K "TooManyEdits"), .ref (He.ga K "NothingToUndo"), .ref (He.ga K "NothingToRedo"), .ref (He.ga K "BadEdits"), .ref (He.ga K "BadEdit"), .ref (He.ga K "Rejected"), .ref (He.ga K "NoPlace"), .ref (He.ga K "NoVersion"), .ref (He.ga K "HalfError"), .type "LookupError", .type "ValueError"] [false, true, false, false, false, false, false, false, false, false, false, false, false, false, false, false, false, false, false, true, false, true],
  fun K => excKB K (He.ga K "BadFix"),
  fun K => kindsB K (He.ga K "BadFix") [.ref (He.ga K "BadText"), .ref (He.ga K "BadProgram"), .ref (He.ga K "BadFix"), .ref (He.ga K "BadWay"), .ref (He.ga K "BadNumber"), .ref (He.ga K "BadChoices"), .ref (He.ga K "NoHalf"), .ref (He.ga K "PinThere"), .ref (He.ga K "NoPin"), .ref (He.ga K "Unsure"), .ref (He.ga K "Busy"), .ref (He.ga K "TooManyEdits"), .ref (He.ga K "NothingToUndo"), .ref (He.ga K "NothingToRedo"), .ref (He.ga K "BadEdits"), .ref (He.ga K "BadEdit"), .ref (He.ga K "Rejected"), .ref (He.ga K "NoPlace"), .ref (He.ga K "NoVersion"), .ref (He.ga K "HalfError"), .type "LookupError", .type "ValueError"] [false, false, true, false, false, false, false, false, false, false, false, false, false, false, false, false, false, false, false, true, false, true]]
def fbX11 : List (PySem.W.Frag → Bool) := [fun K => excKB K (He.ga K "BadWay"),
  fun K => kindsB K (He.ga K "BadWay") [.ref (He.ga K "BadText"), .ref (He.ga K "BadProgram"), .ref (He.ga K "BadFix"), .ref (He.ga K "BadWay"), .ref (He.ga K "BadNumber"), .ref (He.ga K "BadChoices"), .ref (He.ga K "NoHalf"), .ref (He.ga K "PinThere"), .ref (He.ga K "NoPin"), .ref (He.ga K "Unsure"), .ref (He.ga K "Busy"), .ref (He.ga K "TooManyEdits"), .ref (He.ga K "NothingToUndo"), .ref (He.ga K "NothingToRedo"), .ref (He.ga K "BadEdits"), .ref (He.ga K "BadEdit"), .ref (He.ga K "Rejected"), .ref (He.ga K "NoPlace"), .ref (He.ga K "NoVersion"), .ref (He.ga K "HalfError"), .type "LookupError", .type "ValueError"] [false, false, false, true, false, false, false, false, false, false, false, false, false, false, false, false, false, false, false, true, false, true],
  fun K => excKB K (He.ga K "BadNumber"),
  fun K => kindsB K (He.ga K "BadNumber") [.ref (He.ga K "BadText"), .ref (He.ga K "BadProgram"), .ref (He.ga K "BadFix"), .ref (He.ga K "BadWay"), .ref (He.ga K "BadNumber"), .ref (He.ga K "BadChoices"), .ref (He.ga K "NoHalf"), .ref (He.ga K "PinThere"), .ref (He.ga K "NoPin"), .ref (He.ga K "Unsure"), .ref (He.ga K "Busy"), .ref (He.ga K "TooManyEdits"), .ref (He.ga K "NothingToUndo"), .ref (He.ga K "NothingToRedo"), .ref (He.ga K "BadEdits"), .ref (He.ga K "BadEdit"), .ref (He.ga K "Rejected"), .ref (He.ga K "NoPlace"), .ref (He.ga K "NoVersion"), .ref (He.ga K "HalfError"), .type "LookupError", .type "ValueError"] [false, false, false, false, true, false, false, false, false, false, false, false, false, false, false, false, false, false, false, true, false, true],
  fun K => excKB K (He.ga K "BadChoices"),
  fun K => kindsB K (He.ga K "BadChoices") [.ref (He.ga K "BadText"), .ref (He.ga K "BadProgram"), .ref (He.ga K "BadFix"), .ref (He.ga K "BadWay"), .ref (He.ga K "BadNumber"), .ref (He.ga K "BadChoices"), .ref (He.ga K "NoHalf"), .ref (He.ga K "PinThere"), .ref (He.ga K "NoPin"), .ref (He.ga K "Unsure"), .ref (He.ga K "Busy"), .ref (He.ga K "TooManyEdits"), .ref (He.ga K "NothingToUndo"), .ref (He.ga K "NothingToRedo"), .ref (He.ga K "BadEdits"), .ref (He.ga K "BadEdit"), .ref (He.ga K "Rejected"), .ref (He.ga K "NoPlace"), .ref (He.ga K "NoVersion"), .ref (He.ga K "HalfError"), .type "LookupError", .type "ValueError"] [false, false, false, false, false, true, false, false, false, false, false, false, false, false, false, false, false, false, false, true, false, true],
  fun K => excKB K (He.ga K "NoHalf"),
  fun K => kindsB K (He.ga K "NoHalf") [.ref (He.ga K "BadText"), .ref (He.ga K "BadProgram"), .ref (He.ga K "BadFix"), .ref (He.ga K "BadWay"), .ref (He.ga K "BadNumber"), .ref (He.ga K "BadChoices"), .ref (He.ga K "NoHalf"), .ref (He.ga K "PinThere"), .ref (He.ga K "NoPin"), .ref (He.ga K "Unsure"), .ref (He.ga K "Busy"), .ref (He.ga K "TooManyEdits"), .ref (He.ga K "NothingToUndo"), .ref (He.ga K "NothingToRedo"), .ref (He.ga K "BadEdits"), .ref (He.ga K "BadEdit"), .ref (He.ga K "Rejected"), .ref (He.ga K "NoPlace"), .ref (He.ga K "NoVersion"), .ref (He.ga K "HalfError"), .type "LookupError", .type "ValueError"] [false, false, false, false, false, false, true, false, false, false, false, false, false, false, false, false, false, false, false, true, false, true],
  fun K => excKB K (He.ga K "PinThere"),
  fun K => kindsB K (He.ga K "PinThere") [.ref (He.ga K "BadText"), .ref (He.ga K "BadProgram"), .ref (He.ga K "BadFix"), .ref (He.ga K "BadWay"), .ref (He.ga K "BadNumber"), .ref (He.ga K "BadChoices"), .ref (He.ga K "NoHalf"), .ref (He.ga K "PinThere"), .ref (He.ga K "NoPin"), .ref (He.ga K "Unsure"), .ref (He.ga K "Busy"), .ref (He.ga K "TooManyEdits"), .ref (He.ga K "NothingToUndo"), .ref (He.ga K "NothingToRedo"), .ref (He.ga K "BadEdits"), .ref (He.ga K "BadEdit"), .ref (He.ga K "Rejected"), .ref (He.ga K "NoPlace"), .ref (He.ga K "NoVersion"), .ref (He.ga K "HalfError"), .type "LookupError", .type "ValueError"] [false, false, false, false, false, false, false, true, false, false, false, false, false, false, false, false, false, false, false, true, false, true],
  fun K => excKB K (He.ga K "NoPin"),
  fun K => kindsB K (He.ga K "NoPin") [.ref (He.ga K "BadText"), .ref (He.ga K "BadProgram"), .ref (He.ga K "BadFix"), .ref (He.ga K "BadWay"), .ref (He.ga K "BadNumber"), .ref (He.ga K "BadChoices"), .ref (He.ga K "NoHalf"), .ref (He.ga K "PinThere"), .ref (He.ga K "NoPin"), .ref (He.ga K "Unsure"), .ref (He.ga K "Busy"), .ref (He.ga K "TooManyEdits"), .ref (He.ga K "NothingToUndo"), .ref (He.ga K "NothingToRedo"), .ref (He.ga K "BadEdits"), .ref (He.ga K "BadEdit"), .ref (He.ga K "Rejected"), .ref (He.ga K "NoPlace"), .ref (He.ga K "NoVersion"), .ref (He.ga K "HalfError"), .type "LookupError", .type "ValueError"] [false, false, false, false, false, false, false, false, true, false, false, false, false, false, false, false, false, false, false, true, false, true],
  fun K => excKB K (He.ga K "Unsure"),
  fun K => kindsB K (He.ga K "Unsure") [.ref (He.ga K "BadText"), .ref (He.ga K "BadProgram"), .ref (He.ga K "BadFix"), .ref (He.ga K "BadWay"), .ref (He.ga K "BadNumber"), .ref (He.ga K "BadChoices"), .ref (He.ga K "NoHalf"), .ref (He.ga K "PinThere"), .ref (He.ga K "NoPin"), .ref (He.ga K "Unsure"), .ref (He.ga K "Busy"), .ref (He.ga K "TooManyEdits"), .ref (He.ga K "NothingToUndo"), .ref (He.ga K "NothingToRedo"), .ref (He.ga K "BadEdits"), .ref (He.ga K "BadEdit"), .ref (He.ga K "Rejected"), .ref (He.ga K "NoPlace"), .ref (He.ga K "NoVersion"), .ref (He.ga K "HalfError"), .type "LookupError", .type "ValueError"] [false, false, false, false, false, false, false, false, false, true, false, false, false, false, false, false, false, false, false, true, false, true],
  fun K => excKB K (He.ga K "Busy"),
  fun K => kindsB K (He.ga K "Busy") [.ref (He.ga K "BadText"), .ref (He.ga K "BadProgram"), .ref (He.ga K "BadFix"), .ref (He.ga K "BadWay"), .ref (He.ga K "BadNumber"), .ref (He.ga K "BadChoices"), .ref (He.ga K "NoHalf"), .ref (He.ga K "PinThere"), .ref (He.ga K "NoPin"), .ref (He.ga K "Unsure"), .ref (He.ga K "Busy"), .ref (He.ga K "TooManyEdits"), .ref (He.ga K "NothingToUndo"), .ref (He.ga K "NothingToRedo"), .ref (He.ga K "BadEdits"), .ref (He.ga K "BadEdit"), .ref (He.ga K "Rejected"), .ref (He.ga K "NoPlace"), .ref (He.ga K "NoVersion"), .ref (He.ga K "HalfError"), .type "LookupError", .type "ValueError"] [false, false, false, false, false, false, false, false, false, false, true, false, false, false, false, false, false, false, false, true, false, true],
  fun K => excKB K (He.ga K "TooManyEdits"),
  fun K => kindsB K (He.ga K "TooManyEdits") [.ref (He.ga K "BadText"), .ref (He.ga K "BadProgram"), .ref (He.ga K "BadFix"), .ref (He.ga K "BadWay"), .ref (He.ga K "BadNumber"), .ref (He.ga K "BadChoices"), .ref (He.ga K "NoHalf"), .ref (He.ga K "PinThere"), .ref (He.ga K "NoPin"), .ref (He.ga K "Unsure"), .ref (He.ga K "Busy"), .ref (He.ga K "TooManyEdits"), .ref (He.ga K "NothingToUndo"), .ref (He.ga K "NothingToRedo"), .ref (He.ga K "BadEdits"), .ref (He.ga K "BadEdit"), .ref (He.ga K "Rejected"), .ref (He.ga K "NoPlace"), .ref (He.ga K "NoVersion"), .ref (He.ga K "HalfError"), .type "LookupError", .type "ValueError"] [false, false, false, false, false, false, false, false, false, false, false, true, false, false, false, false, false, false, false, true, false, true],
  fun K => excKB K (He.ga K "NothingToUndo"),
  fun K => kindsB K (He.ga K "NothingToUndo") [.ref (He.ga K "BadText"), .ref (He.ga K "BadProgram"), .ref (He.ga K "BadFix"), .ref (He.ga K "BadWay"), .ref (He.ga K "BadNumber"), .ref (He.ga K "BadChoices"), .ref (He.ga K "NoHalf"), .ref (He.ga K "PinThere"), .ref (He.ga K "NoPin"), .ref (He.ga K "Unsure"), .ref (He.ga K "Busy"), .ref (He.ga K "TooManyEdits"), .ref (He.ga K "NothingToUndo"), .ref (He.ga K "NothingToRedo"), .ref (He.ga K "BadEdits"), .ref (He.ga K "BadEdit"), .ref (He.ga K "Rejected"), .ref (He.ga K "NoPlace"), .ref (He.ga K "NoVersion"), .ref (He.ga K "HalfError"), .type "LookupError", .type "ValueError"] [false, false, false, false, false, false, false, false, false, false, false, false, true, false, false, false, false, false, false, true, false, true]]
def fbX12 : List (PySem.W.Frag → Bool) := [fun K => excKB K (He.ga K "NothingToRedo"),
  fun K => kindsB K (He.ga K "NothingToRedo") [.ref (He.ga K "BadText"), .ref (He.ga K "BadProgram"), .ref (He.ga K "BadFix"), .ref (He.ga K "BadWay"), .ref (He.ga K "BadNumber"), .ref (He.ga K "BadChoices"), .ref (He.ga K "NoHalf"), .ref (He.ga K "PinThere"), .ref (He.ga K "NoPin"), .ref (He.ga K "Unsure"), .ref (He.ga K "Busy"), .ref (He.ga K "TooManyEdits"), .ref (He.ga K "NothingToUndo"), .ref (He.ga K "NothingToRedo"), .ref (He.ga K "BadEdits"), .ref (He.ga K "BadEdit"), .ref (He.ga K "Rejected"), .ref (He.ga K "NoPlace"), .ref (He.ga K "NoVersion"), .ref (He.ga K "HalfError"), .type "LookupError", .type "ValueError"] [false, false, false, false, false, false, false, false, false, false, false, false, false, true, false, false, false, false, false, true, false, true],
  fun K => excKB K (He.ga K "BadEdits"),
  fun K => kindsB K (He.ga K "BadEdits") [.ref (He.ga K "BadText"), .ref (He.ga K "BadProgram"), .ref (He.ga K "BadFix"), .ref (He.ga K "BadWay"), .ref (He.ga K "BadNumber"), .ref (He.ga K "BadChoices"), .ref (He.ga K "NoHalf"), .ref (He.ga K "PinThere"), .ref (He.ga K "NoPin"), .ref (He.ga K "Unsure"), .ref (He.ga K "Busy"), .ref (He.ga K "TooManyEdits"), .ref (He.ga K "NothingToUndo"), .ref (He.ga K "NothingToRedo"), .ref (He.ga K "BadEdits"), .ref (He.ga K "BadEdit"), .ref (He.ga K "Rejected"), .ref (He.ga K "NoPlace"), .ref (He.ga K "NoVersion"), .ref (He.ga K "HalfError"), .type "LookupError", .type "ValueError"] [false, false, false, false, false, false, false, false, false, false, false, false, false, false, true, false, false, false, false, true, false, true],
  fun K => excKB K (He.ga K "BadEdit"),
  fun K => kindsB K (He.ga K "BadEdit") [.ref (He.ga K "BadText"), .ref (He.ga K "BadProgram"), .ref (He.ga K "BadFix"), .ref (He.ga K "BadWay"), .ref (He.ga K "BadNumber"), .ref (He.ga K "BadChoices"), .ref (He.ga K "NoHalf"), .ref (He.ga K "PinThere"), .ref (He.ga K "NoPin"), .ref (He.ga K "Unsure"), .ref (He.ga K "Busy"), .ref (He.ga K "TooManyEdits"), .ref (He.ga K "NothingToUndo"), .ref (He.ga K "NothingToRedo"), .ref (He.ga K "BadEdits"), .ref (He.ga K "BadEdit"), .ref (He.ga K "Rejected"), .ref (He.ga K "NoPlace"), .ref (He.ga K "NoVersion"), .ref (He.ga K "HalfError"), .type "LookupError", .type "ValueError"] [false, false, false, false, false, false, false, false, false, false, false, false, false, false, false, true, false, false, false, true, false, true],
  fun K => excKB K (He.ga K "Rejected"),
  fun K => kindsB K (He.ga K "Rejected") [.ref (He.ga K "BadText"), .ref (He.ga K "BadProgram"), .ref (He.ga K "BadFix"), .ref (He.ga K "BadWay"), .ref (He.ga K "BadNumber"), .ref (He.ga K "BadChoices"), .ref (He.ga K "NoHalf"), .ref (He.ga K "PinThere"), .ref (He.ga K "NoPin"), .ref (He.ga K "Unsure"), .ref (He.ga K "Busy"), .ref (He.ga K "TooManyEdits"), .ref (He.ga K "NothingToUndo"), .ref (He.ga K "NothingToRedo"), .ref (He.ga K "BadEdits"), .ref (He.ga K "BadEdit"), .ref (He.ga K "Rejected"), .ref (He.ga K "NoPlace"), .ref (He.ga K "NoVersion"), .ref (He.ga K "HalfError"), .type "LookupError", .type "ValueError"] [false, false, false, false, false, false, false, false, false, false, false, false, false, false, false, false, true, false, false, true, false, true],
  fun K => excKB K (He.ga K "NoPlace"),
  fun K => kindsB K (He.ga K "NoPlace") [.ref (He.ga K "BadText"), .ref (He.ga K "BadProgram"), .ref (He.ga K "BadFix"), .ref (He.ga K "BadWay"), .ref (He.ga K "BadNumber"), .ref (He.ga K "BadChoices"), .ref (He.ga K "NoHalf"), .ref (He.ga K "PinThere"), .ref (He.ga K "NoPin"), .ref (He.ga K "Unsure"), .ref (He.ga K "Busy"), .ref (He.ga K "TooManyEdits"), .ref (He.ga K "NothingToUndo"), .ref (He.ga K "NothingToRedo"), .ref (He.ga K "BadEdits"), .ref (He.ga K "BadEdit"), .ref (He.ga K "Rejected"), .ref (He.ga K "NoPlace"), .ref (He.ga K "NoVersion"), .ref (He.ga K "HalfError"), .type "LookupError", .type "ValueError"] [false, false, false, false, false, false, false, false, false, false, false, false, false, false, false, false, false, true, false, false, true, false],
  fun K => excKB K (He.ga K "NoVersion"),
  fun K => kindsB K (He.ga K "NoVersion") [.ref (He.ga K "BadText"), .ref (He.ga K "BadProgram"), .ref (He.ga K "BadFix"), .ref (He.ga K "BadWay"), .ref (He.ga K "BadNumber"), .ref (He.ga K "BadChoices"), .ref (He.ga K "NoHalf"), .ref (He.ga K "PinThere"), .ref (He.ga K "NoPin"), .ref (He.ga K "Unsure"), .ref (He.ga K "Busy"), .ref (He.ga K "TooManyEdits"), .ref (He.ga K "NothingToUndo"), .ref (He.ga K "NothingToRedo"), .ref (He.ga K "BadEdits"), .ref (He.ga K "BadEdit"), .ref (He.ga K "Rejected"), .ref (He.ga K "NoPlace"), .ref (He.ga K "NoVersion"), .ref (He.ga K "HalfError"), .type "LookupError", .type "ValueError"] [false, false, false, false, false, false, false, false, false, false, false, false, false, false, false, false, false, false, true, false, true, false],
  fun K => excKB K (He.ga K "HalfError"),
  fun K => kindsB K (He.ga K "HalfError") [.ref (He.ga K "BadText"), .ref (He.ga K "BadProgram"), .ref (He.ga K "BadFix"), .ref (He.ga K "BadWay"), .ref (He.ga K "BadNumber"), .ref (He.ga K "BadChoices"), .ref (He.ga K "NoHalf"), .ref (He.ga K "PinThere"), .ref (He.ga K "NoPin"), .ref (He.ga K "Unsure"), .ref (He.ga K "Busy"), .ref (He.ga K "TooManyEdits"), .ref (He.ga K "NothingToUndo"), .ref (He.ga K "NothingToRedo"), .ref (He.ga K "BadEdits"), .ref (He.ga K "BadEdit"), .ref (He.ga K "Rejected"), .ref (He.ga K "NoPlace"), .ref (He.ga K "NoVersion"), .ref (He.ga K "HalfError"), .type "LookupError", .type "ValueError"] [false, false, false, false, false, false, false, false, false, false, false, false, false, false, false, false, false, false, false, true, false, true],
  fun K => He.eqO (PySem.W.nsIn K mainGlobals "Bench") (some (some (.ref (He.ga K "Bench")))),
  fun K => clsNumB K (He.ga K "Bench") "MOST_EDITS" (60),
  fun K => He.eqO (PySem.W.nsIn K mainGlobals "SureBench") (some (some (.ref (He.ga K "SureBench")))),
  fun K => clsNumB K (He.ga K "SureBench") "MOST_EDITS" (60),
  fun K => valB (PySem.W.findCls K (.type "LookupError") (.type "type") "__init__") "LookupError.__init__",
  fun K => He.eqO (PySem.W.findIn K (.ref (He.ga K "BadText")) "__init__") (some (some (.ref (He.ma K (He.ga K "BadText") "__init__"))))]
def fbX13 : List (PySem.W.Frag → Bool) := [fun K => decide (PySem.W.typeIn K (.ref (He.ma K (He.ga K "BadText") "__init__")) = some (.type "function")),
  fun K => PySem.W.keepIn K (.ref (He.ma K (He.ga K "BadText") "__init__")),
  fun K => He.eqO (PySem.W.findIn K (.ref (He.ga K "BadProgram")) "__init__") (some (some (.ref (He.ma K (He.ga K "BadProgram") "__init__")))),
  fun K => decide (PySem.W.typeIn K (.ref (He.ma K (He.ga K "BadProgram") "__init__")) = some (.type "function")),
  fun K => PySem.W.keepIn K (.ref (He.ma K (He.ga K "BadProgram") "__init__")),
  fun K => He.eqO (PySem.W.findIn K (.ref (He.ga K "BadFix")) "__init__") (some (some (.ref (He.ma K (He.ga K "BadFix") "__init__")))),
  fun K => decide (PySem.W.typeIn K (.ref (He.ma K (He.ga K "BadFix") "__init__")) = some (.type "function")),
  fun K => PySem.W.keepIn K (.ref (He.ma K (He.ga K "BadFix") "__init__")),
  fun K => He.eqO (PySem.W.findIn K (.ref (He.ga K "BadWay")) "__init__") (some (some (.ref (He.ma K (He.ga K "BadWay") "__init__")))),
  fun K => decide (PySem.W.typeIn K (.ref (He.ma K (He.ga K "BadWay") "__init__")) = some (.type "function")),
  fun K => PySem.W.keepIn K (.ref (He.ma K (He.ga K "BadWay") "__init__")),
  fun K => He.eqO (PySem.W.findIn K (.ref (He.ga K "BadNumber")) "__init__") (some (some (.ref (He.ma K (He.ga K "BadNumber") "__init__")))),
  fun K => decide (PySem.W.typeIn K (.ref (He.ma K (He.ga K "BadNumber") "__init__")) = some (.type "function")),
  fun K => PySem.W.keepIn K (.ref (He.ma K (He.ga K "BadNumber") "__init__")),
  fun K => He.eqO (PySem.W.findIn K (.ref (He.ga K "BadChoices")) "__init__") (some (some (.ref (He.ma K (He.ga K "BadChoices") "__init__")))),
  fun K => decide (PySem.W.typeIn K (.ref (He.ma K (He.ga K "BadChoices") "__init__")) = some (.type "function")),
  fun K => PySem.W.keepIn K (.ref (He.ma K (He.ga K "BadChoices") "__init__")),
  fun K => He.eqO (PySem.W.findIn K (.ref (He.ga K "NoHalf")) "__init__") (some (some (.ref (He.ma K (He.ga K "NoHalf") "__init__")))),
  fun K => decide (PySem.W.typeIn K (.ref (He.ma K (He.ga K "NoHalf") "__init__")) = some (.type "function")),
  fun K => PySem.W.keepIn K (.ref (He.ma K (He.ga K "NoHalf") "__init__"))]
def fbX14 : List (PySem.W.Frag → Bool) := [fun K => He.eqO (PySem.W.findIn K (.ref (He.ga K "PinThere")) "__init__") (some (some (.ref (He.ma K (He.ga K "PinThere") "__init__")))),
  fun K => decide (PySem.W.typeIn K (.ref (He.ma K (He.ga K "PinThere") "__init__")) = some (.type "function")),
  fun K => PySem.W.keepIn K (.ref (He.ma K (He.ga K "PinThere") "__init__")),
  fun K => He.eqO (PySem.W.findIn K (.ref (He.ga K "NoPin")) "__init__") (some (some (.ref (He.ma K (He.ga K "NoPin") "__init__")))),
  fun K => decide (PySem.W.typeIn K (.ref (He.ma K (He.ga K "NoPin") "__init__")) = some (.type "function")),
  fun K => PySem.W.keepIn K (.ref (He.ma K (He.ga K "NoPin") "__init__")),
  fun K => He.eqO (PySem.W.findIn K (.ref (He.ga K "Unsure")) "__init__") (some (some (.ref (He.ma K (He.ga K "Unsure") "__init__")))),
  fun K => decide (PySem.W.typeIn K (.ref (He.ma K (He.ga K "Unsure") "__init__")) = some (.type "function")),
  fun K => PySem.W.keepIn K (.ref (He.ma K (He.ga K "Unsure") "__init__")),
  fun K => He.eqO (PySem.W.findIn K (.ref (He.ga K "BadEdit")) "__init__") (some (some (.ref (He.ma K (He.ga K "BadEdit") "__init__")))),
  fun K => decide (PySem.W.typeIn K (.ref (He.ma K (He.ga K "BadEdit") "__init__")) = some (.type "function")),
  fun K => PySem.W.keepIn K (.ref (He.ma K (He.ga K "BadEdit") "__init__")),
  fun K => He.eqO (PySem.W.findIn K (.ref (He.ga K "Rejected")) "__init__") (some (some (.ref (He.ma K (He.ga K "Rejected") "__init__")))),
  fun K => decide (PySem.W.typeIn K (.ref (He.ma K (He.ga K "Rejected") "__init__")) = some (.type "function")),
  fun K => PySem.W.keepIn K (.ref (He.ma K (He.ga K "Rejected") "__init__")),
  fun K => He.eqO (PySem.W.findIn K (.ref (He.ga K "NoPlace")) "__init__") (some (some (.ref (He.ma K (He.ga K "NoPlace") "__init__")))),
  fun K => decide (PySem.W.typeIn K (.ref (He.ma K (He.ga K "NoPlace") "__init__")) = some (.type "function")),
  fun K => PySem.W.keepIn K (.ref (He.ma K (He.ga K "NoPlace") "__init__")),
  fun K => He.eqO (PySem.W.findIn K (.ref (He.ga K "NoVersion")) "__init__") (some (some (.ref (He.ma K (He.ga K "NoVersion") "__init__")))),
  fun K => decide (PySem.W.typeIn K (.ref (He.ma K (He.ga K "NoVersion") "__init__")) = some (.type "function"))]
def fbX15 : List (PySem.W.Frag → Bool) := [fun K => PySem.W.keepIn K (.ref (He.ma K (He.ga K "NoVersion") "__init__")),
  fun K => He.eqO (PySem.W.nsIn K mainGlobals "_law_deck") (some (some (.ref (He.ga K "_law_deck")))),
  fun K => PySem.W.keepIn K (.ref (He.ga K "_law_deck")),
  fun K => He.eqO (PySem.W.nsIn K mainGlobals "_law_draw") (some (some (.ref (He.ga K "_law_draw")))),
  fun K => PySem.W.keepIn K (.ref (He.ga K "_law_draw")),
  fun K => He.eqO (PySem.W.nsIn K mainGlobals "_law_one") (some (some (.ref (He.ga K "_law_one")))),
  fun K => PySem.W.keepIn K (.ref (He.ga K "_law_one")),
  fun K => He.eqO (PySem.W.nsIn K mainGlobals "_law_value") (some (some (.ref (He.ga K "_law_value")))),
  fun K => PySem.W.keepIn K (.ref (He.ga K "_law_value")),
  fun K => He.eqO (PySem.W.nsIn K mainGlobals "_law_kinds") (some (some (.ref (He.ga K "_law_kinds")))),
  fun K => PySem.W.keepIn K (.ref (He.ga K "_law_kinds")),
  fun K => He.eqO (PySem.W.nsIn K mainGlobals "_law_kinds_right") (some (some (.ref (He.ga K "_law_kinds_right")))),
  fun K => PySem.W.keepIn K (.ref (He.ga K "_law_kinds_right")),
  fun K => He.eqO (PySem.W.nsIn K mainGlobals "_law_fields_right") (some (some (.ref (He.ga K "_law_fields_right")))),
  fun K => PySem.W.keepIn K (.ref (He.ga K "_law_fields_right")),
  fun K => He.eqO (PySem.W.nsIn K mainGlobals "_law_bounds") (some (some (.ref (He.ga K "_law_bounds")))),
  fun K => PySem.W.keepIn K (.ref (He.ga K "_law_bounds")),
  fun K => He.eqO (PySem.W.nsIn K mainGlobals "law") (some (some (.ref (He.ga K "law")))),
  fun K => PySem.W.keepIn K (.ref (He.ga K "law")),
  fun K => intB K "MAX_NAME" (8)]
def fbX16 : List (PySem.W.Frag → Bool) := [fun K => intB K "MAX_WORD" (8),
  fun K => intB K "MAX_TIMES" (8),
  fun K => intB K "MAX_DEEP" (3),
  fun K => intB K "MAX_NOTS" (2),
  fun K => intB K "MAX_PLACES" (24),
  fun K => intB K "MAX_WEIGHT" (60),
  fun K => intB K "MAX_HALVINGS" (4),
  fun K => intB K "MAX_COMPARINGS" (3),
  fun K => intB K "MAX_NEST" (3),
  fun K => intB K "MAX_POWER" (40),
  fun K => intB K "MAX_EDITS" (60),
  fun K => intB K "BATCH" (20),
  fun K => strB K "LETTERS" "abcdefghijklmnopqrstuvwxyz",
  fun K => strB K "SIGNS" "abcdefghijklmnopqrstuvwxyz0123456789",
  fun K => intB K "MOST_NUMBER" (99),
  fun K => intB K "MOST_FACTOR" (9),
  fun K => intB K "DOWN" (0),
  fun K => strB K "INPUT" "n",
  fun K => He.eqO (PySem.W.nsIn K mainGlobals "KEPT") (some (some (.ref (He.ga K "KEPT")))),
  fun K => tupB K (He.ga K "KEPT") [.str "half", .str "tell", .str "say", .str "stop", .str "if", .str "else", .str "repeat", .str "pass", .str "odd", .str "not", .str "program"] false]
def fbX17 : List (PySem.W.Frag → Bool) := [fun K => He.eqO (PySem.W.nsIn K mainGlobals "WAYS_benchedits") (some (some (.ref (He.ga K "WAYS_benchedits")))),
  fun K => tupB K (He.ga K "WAYS_benchedits") [.str "down", .str "up"] false,
  fun K => He.eqO (PySem.W.nsIn K mainGlobals "FREE") (some (some (.ref (He.ga K "FREE")))),
  fun K => tupB K (He.ga K "FREE") [] false,
  fun K => He.eqO (PySem.W.nsIn K mainGlobals "WHOLE") (some (some (.ref (He.ga K "WHOLE")))),
  fun K => tupB K (He.ga K "WHOLE") [.int (0), .int (1), .non, .non] false,
  fun K => He.eqO (PySem.W.nsIn K mainGlobals "WAYS_fixes") (some (some (.ref (He.ga K "WAYS_fixes")))),
  fun K => tupB K (He.ga K "WAYS_fixes") [.str "down", .str "up"] true,
  fun K => He.eqO (PySem.W.nsIn K mainGlobals "LookupError") (some none),
  fun K => He.eqO (PySem.W.nsIn K mainGlobals "ValueError") (some none),
  fun K => He.eqO (PySem.W.nsIn K mainGlobals "abs") (some none),
  fun K => He.eqO (PySem.W.nsIn K mainGlobals "int") (some none),
  fun K => He.eqO (PySem.W.nsIn K mainGlobals "isinstance") (some none),
  fun K => He.eqO (PySem.W.nsIn K mainGlobals "len") (some none),
  fun K => He.eqO (PySem.W.nsIn K mainGlobals "range") (some none),
  fun K => He.eqO (PySem.W.nsIn K mainGlobals "repr") (some none),
  fun K => He.eqO (PySem.W.nsIn K mainGlobals "str") (some none)]
def fbG0 : FbX := [fbX0, fbX1, fbX2, fbX3, fbX4, fbX5]
def fbG1 : FbX := [fbX6, fbX7, fbX8, fbX9, fbX10, fbX11]
def fbG2 : FbX := [fbX12, fbX13, fbX14, fbX15, fbX16, fbX17]
def fbX : FbX := ((fbG0 ++ fbG1) ++ fbG2)
def dX0 : He.FnD := ⟨("BadText", some "__init__"), "__init__", "BadText.__init__", defArgs s_BadText_init, defBody s_BadText_init, defScope s_BadText_init⟩
def dX1 : He.FnD := ⟨("BadProgram", some "__init__"), "__init__", "BadProgram.__init__", defArgs s_BadProgram_init, defBody s_BadProgram_init, defScope s_BadProgram_init⟩
def dX2 : He.FnD := ⟨("BadFix", some "__init__"), "__init__", "BadFix.__init__", defArgs s_BadFix_init, defBody s_BadFix_init, defScope s_BadFix_init⟩
def dX3 : He.FnD := ⟨("BadWay", some "__init__"), "__init__", "BadWay.__init__", defArgs s_BadWay_init, defBody s_BadWay_init, defScope s_BadWay_init⟩
def dX4 : He.FnD := ⟨("BadNumber", some "__init__"), "__init__", "BadNumber.__init__", defArgs s_BadNumber_init, defBody s_BadNumber_init, defScope s_BadNumber_init⟩
def dX5 : He.FnD := ⟨("BadChoices", some "__init__"), "__init__", "BadChoices.__init__", defArgs s_BadChoices_init, defBody s_BadChoices_init, defScope s_BadChoices_init⟩
def dX6 : He.FnD := ⟨("NoHalf", some "__init__"), "__init__", "NoHalf.__init__", defArgs s_NoHalf_init, defBody s_NoHalf_init, defScope s_NoHalf_init⟩
def dX7 : He.FnD := ⟨("PinThere", some "__init__"), "__init__", "PinThere.__init__", defArgs s_PinThere_init, defBody s_PinThere_init, defScope s_PinThere_init⟩
def dX8 : He.FnD := ⟨("NoPin", some "__init__"), "__init__", "NoPin.__init__", defArgs s_NoPin_init, defBody s_NoPin_init, defScope s_NoPin_init⟩
def dX9 : He.FnD := ⟨("Unsure", some "__init__"), "__init__", "Unsure.__init__", defArgs s_Unsure_init, defBody s_Unsure_init, defScope s_Unsure_init⟩
def dX10 : He.FnD := ⟨("BadEdit", some "__init__"), "__init__", "BadEdit.__init__", defArgs s_BadEdit_init, defBody s_BadEdit_init, defScope s_BadEdit_init⟩
def dX11 : He.FnD := ⟨("Rejected", some "__init__"), "__init__", "Rejected.__init__", defArgs s_Rejected_init, defBody s_Rejected_init, defScope s_Rejected_init⟩
def dX12 : He.FnD := ⟨("NoPlace", some "__init__"), "__init__", "NoPlace.__init__", defArgs s_NoPlace_init, defBody s_NoPlace_init, defScope s_NoPlace_init⟩
def dX13 : He.FnD := ⟨("NoVersion", some "__init__"), "__init__", "NoVersion.__init__", defArgs s_NoVersion_init, defBody s_NoVersion_init, defScope s_NoVersion_init⟩
def dX14 : He.FnD := ⟨("_law_deck", none), "_law_deck", "_law_deck", defArgs s_l_deck, defBody s_l_deck, defScope s_l_deck⟩
def dX15 : He.FnD := ⟨("_law_draw", none), "_law_draw", "_law_draw", defArgs s_l_draw, defBody s_l_draw, defScope s_l_draw⟩
def dX16 : He.FnD := ⟨("_law_one", none), "_law_one", "_law_one", defArgs s_l_one, defBody s_l_one, defScope s_l_one⟩
def dX17 : He.FnD := ⟨("_law_value", none), "_law_value", "_law_value", defArgs s_l_value, defBody s_l_value, defScope s_l_value⟩
def dX18 : He.FnD := ⟨("_law_kinds", none), "_law_kinds", "_law_kinds", defArgs s_l_kinds, defBody s_l_kinds, defScope s_l_kinds⟩
def dX19 : He.FnD := ⟨("_law_kinds_right", none), "_law_kinds_right", "_law_kinds_right", defArgs s_l_kinds_right, defBody s_l_kinds_right, defScope s_l_kinds_right⟩
def dX20 : He.FnD := ⟨("_law_fields_right", none), "_law_fields_right", "_law_fields_right", defArgs s_l_fields_right, defBody s_l_fields_right, defScope s_l_fields_right⟩
def dX21 : He.FnD := ⟨("_law_bounds", none), "_law_bounds", "_law_bounds", defArgs s_l_bounds, defBody s_l_bounds, defScope s_l_bounds⟩
def dX22 : He.FnD := ⟨("law", none), "law", "law", defArgs s_law, defBody s_law, defScope s_law⟩
def fnX : List He.FnD := [dX0, dX1, dX2, dX3, dX4, dX5, dX6, dX7, dX8, dX9, dX10, dX11, dX12, dX13, dX14, dX15, dX16, dX17, dX18, dX19, dX20, dX21, dX22]
def dfX : List He.DefD := []
def nmX0 : List Str := [("_wall" : Str), ("HalfError" : Str), ("BadText" : Str), ("BadProgram" : Str), ("BadFix" : Str), ("BadWay" : Str), ("BadNumber" : Str), ("BadChoices" : Str), ("NoHalf" : Str), ("PinThere" : Str)]
def nmX1 : List Str := [("NoPin" : Str), ("Unsure" : Str), ("Busy" : Str), ("TooManyEdits" : Str), ("NothingToUndo" : Str), ("NothingToRedo" : Str), ("BadEdits" : Str), ("BadEdit" : Str), ("Rejected" : Str), ("NoPlace" : Str)]
def nmX2 : List Str := [("NoVersion" : Str), ("MAX_NAME" : Str), ("MAX_WORD" : Str), ("MAX_TIMES" : Str), ("MAX_DEEP" : Str), ("MAX_NOTS" : Str), ("MAX_PLACES" : Str), ("MAX_WEIGHT" : Str), ("MAX_HALVINGS" : Str), ("MAX_COMPARINGS" : Str)]
def nmX3 : List Str := [("MAX_NEST" : Str), ("MAX_POWER" : Str), ("MAX_EDITS" : Str), ("BATCH" : Str), ("LETTERS" : Str), ("SIGNS" : Str), ("KEPT" : Str), ("MOST_NUMBER" : Str), ("MOST_FACTOR" : Str), ("is_whole" : Str)]
def nmX4 : List Str := [("is_word" : Str), ("is_name" : Str), ("is_expression" : Str), ("is_test" : Str), ("is_plain" : Str), ("is_statement" : Str), ("blocks_of" : Str), ("items_within" : Str), ("rows_of" : Str), ("rows_of_programs" : Str)]
def nmX5 : List Str := [("order_error" : Str), ("bare" : Str), ("own_count" : Str), ("counted" : Str), ("weight" : Str), ("program_error" : Str), ("halves_of" : Str), ("places_in" : Str), ("WAYS_benchedits" : Str), ("statements_in" : Str)]
def nmX6 : List Str := [("size_of" : Str), ("with_inner" : Str), ("with_others" : Str), ("all_in" : Str), ("placed_at" : Str), ("need_program" : Str), ("is_place_of_pin" : Str), ("is_way" : Str), ("moved" : Str), ("added" : Str)]
def nmX7 : List Str := [("dropped" : Str), ("changed" : Str), ("pinned" : Str), ("freed" : Str), ("edited" : Str), ("FREE" : Str), ("placed" : Str), ("inner_blocks" : Str), ("up_half" : Str), ("Path" : Str)]
def nmX8 : List Str := [("led" : Str), ("reduced" : Str), ("form_of" : Str), ("value_of" : Str), ("value_of_pieces" : Str), ("less_parts" : Str), ("Walker" : Str), ("gone_into" : Str), ("halved" : Str), ("WHOLE" : Str)]
def nmX9 : List Str := [("paths_of" : Str), ("turns_of" : Str), ("first_at" : Str), ("last_at" : Str), ("is_there" : Str), ("is_at" : Str), ("rank" : Str), ("first_points" : Str), ("cuts" : Str), ("common_rows" : Str)]
def nmX10 : List Str := [("is_within" : Str), ("number_at" : Str), ("outcome_at" : Str), ("first_of" : Str), ("DOWN" : Str), ("INPUT" : Str), ("value_of_runs" : Str), ("is_true" : Str), ("Course" : Str), ("course_of" : Str)]
def nmX11 : List Str := [("run_of" : Str), ("next_choices" : Str), ("runs_on" : Str), ("each_with" : Str), ("rows_of_verdicts" : Str), ("parted_in" : Str), ("first_row" : Str), ("parted_pinned" : Str), ("WAYS_fixes" : Str), ("is_pin" : Str)]
def nmX12 : List Str := [("is_fix" : Str), ("pins_of" : Str), ("run_fixed" : Str), ("parted_fixed" : Str), ("need_integer" : Str), ("need_choices" : Str), ("Bench" : Str), ("SureBench" : Str), ("_law_deck" : Str), ("_law_draw" : Str)]
def nmX13 : List Str := [("_law_one" : Str), ("_law_value" : Str), ("_law_kinds" : Str), ("_law_kinds_right" : Str), ("_law_fields_right" : Str), ("_law_bounds" : Str)]
def nmX : List Str := nmX0 ++ (nmX1 ++ (nmX2 ++ (nmX3 ++ (nmX4 ++ (nmX5 ++ (nmX6 ++ (nmX7 ++ (nmX8 ++ (nmX9 ++ (nmX10 ++ (nmX11 ++ (nmX12 ++ (nmX13)))))))))))))
abbrev rwX : PySem.W.OpenRow := PySem.W.OpenLaw.row PySem.Challenge.rw_eitherhalf_k00_errors_made_by_hand
abbrev qvX : Program := PySem.W.view rwX.prog [147]
set_option maxHeartbeats 0 in
theorem runX0 (w : World) : HandSHeadRun.RunEq rwX qvX (hookXD 5 fbG0 [] []) (fun s => obsXDG 5 fbG0 [] [] (HandSHeadRun.getT s)) 20000 nmX w := by
  intro os
  kernel_rfl
set_option maxHeartbeats 0 in
theorem runG1 (w : World) : ∀ os : OsState, (HandSHeadRun.endF (HandSHeadRun.stepQ (HandSHeadRun.denQ HandSHeadRun.tabQ) rwX.prog w) 20000 rwX.prog w os).map (fun s => obsXDG 5 fbG1 [] [] (HandSHeadRun.getT s)) = some (valXD [] []) := by
  intro os
  kernel_rfl
set_option maxHeartbeats 0 in
theorem runG2 (w : World) : ∀ os : OsState, (HandSHeadRun.endF (HandSHeadRun.stepQ (HandSHeadRun.denQ HandSHeadRun.tabQ) rwX.prog w) 20000 rwX.prog w os).map (fun s => obsXDG 5 fbG2 [] [] (HandSHeadRun.getT s)) = some (valXD [] []) := by
  intro os
  kernel_rfl
theorem runX1 (w : World) : HandSHeadRun.RunEq rwX qvX (hookXD 5 fbX [] []) (fun s => obsXDG 5 fbX [] [] (HandSHeadRun.getT s)) 20000 nmX w := run_more (run_more (runX0 w) (runG1 w)) (runG2 w)
set_option maxHeartbeats 0 in
theorem runX2 (w : World) : ∀ os : OsState, (HandSHeadRun.endF (HandSHeadRun.stepQ (HandSHeadRun.denQ HandSHeadRun.tabQ) rwX.prog w) 20000 rwX.prog w os).map (fun s => obsXDG 5 [] fnX dfX (HandSHeadRun.getT s)) = some (valXD fnX dfX) := by
  intro os
  kernel_rfl
theorem runX (w : World) : HandSHeadRun.RunEq rwX qvX (hookXD 5 fbX fnX dfX) (fun s => obsXDG 5 fbX fnX dfX (HandSHeadRun.getT s)) 20000 nmX w := run_two (runX1 w) (runX2 w)
end EH
namespace EH
open PySem L2

/-! ### what is kept but for some addresses -/
structure Kp (S : List Addr) (H H' : Hp) : Prop where
  keep : ∀ b o, H b = some o → b ∉ S → H' b = some o
  tup : ∀ b xs, H b = some (.tup xs) → H' b = some (.tup xs)
  ext : ∀ b φ, H b = some (.ext φ) → H' b = some (.ext φ)
  frz : ∀ b o u, H b = some (.frz o u) → H' b = some (.frz o u)
theorem Kp.refl {S : List Addr} {H : Hp} : Kp S H H := ⟨fun _ _ h _ => h, fun _ _ h => h, fun _ _ h => h, fun _ _ _ h => h⟩
theorem Kp.trans {S : List Addr} {H H1 H2 : Hp} (a : Kp S H H1) (b : Kp S H1 H2) : Kp S H H2 := ⟨fun c o h n => b.keep c o (a.keep c o h n) n, fun c xs h => b.tup c xs (a.tup c xs h), fun c φ h => b.ext c φ (a.ext c φ h), fun c o u h => b.frz c o u (a.frz c o u h)⟩
theorem Kp.sub {S S' : List Addr} {H H1 : Hp} (a : Kp S H H1) (h : ∀ b, b ∈ S → b ∈ S') : Kp S' H H1 := ⟨fun c o e n => a.keep c o e fun z => n (h c z), a.tup, a.ext, a.frz⟩
theorem Kp.at {H H1 : Hp} {b : Addr} {o : HO} (a : Kp [] H H1) (h : H b = some o) : H1 b = some o := a.keep b o h (by simp)
theorem Kp.free {S : List Addr} {H H1 : Hp} {p : Addr} (a : Kp S H H1) (h : H1 p = none) (n : p ∉ S) : H p = none := by
  cases e : H p with
  | none => rfl
  | some o =>
    rw [a.keep p o e n] at h
    cases h
theorem Kp.step {S S1 : List Addr} {H H1 H2 : Hp} (a : Kp S H H1) (b : Kp S1 H1 H2) (h : ∀ p ∈ S1, p ∈ S ∨ H p = none) : Kp S H H2 :=
  ⟨fun c o e n => b.keep c o (a.keep c o e n) fun z => (h c z).elim n fun y => (by rw [y] at e; cases e), fun c xs e => b.tup c xs (a.tup c xs e), fun c φ e => b.ext c φ (a.ext c φ e), fun c o u e => b.frz c o u (a.frz c o u e)⟩
theorem Kp.step0 {S : List Addr} {H H1 H2 : Hp} (a : Kp S H H1) (b : Kp [] H1 H2) : Kp S H H2 := a.step b fun _ z => nomatch z
theorem Kp.step1 {S : List Addr} {H H1 H2 : Hp} {p : Addr} (a : Kp S H H1) (b : Kp [p] H1 H2) (h : p ∈ S ∨ H p = none) : Kp S H H2 := a.step b fun _ z => by
  rcases List.mem_cons.mp z with rfl | z
  · exact h
  · cases z
theorem Kp.new {H : Hp} {p : Addr} {u : HO} (h : H p = none) : Kp [] H (upd H p u) := ⟨fun c o e _ => by rw [upd_ne (ne_of_none e h)]; exact e, fun c o e => by rw [upd_ne (ne_of_none e h)]; exact e, fun c o e => by rw [upd_ne (ne_of_none e h)]; exact e, fun c o u e => by rw [upd_ne (ne_of_none e h)]; exact e⟩
theorem Kp.put {H : Hp} {p : Addr} {u v : HO} (h : H p = some v) (hv : ∀ xs, v ≠ .tup xs) (he : ∀ φ, v ≠ .ext φ := by intro φ z; cases z) (hf : ∀ o u, v ≠ .frz o u := by intro o u z; cases z) : Kp [p] H (upd H p u) := ⟨fun c o e n => by rw [upd_ne (by intro z; subst z; exact n (by simp))]; exact e,
  fun c xs e => by rw [upd_ne (by intro z; subst z; rw [h] at e; exact hv xs (Option.some.inj e))]; exact e,
  fun c φ e => by rw [upd_ne (by intro z; subst z; rw [h] at e; exact he φ (Option.some.inj e))]; exact e,
  fun c o w e => by rw [upd_ne (by intro z; subst z; rw [h] at e; exact hf o w (Option.some.inj e))]; exact e⟩
theorem Kp.seq {K : PySem.W.Frag} {S : List Addr} {H H' : Hp} {a : Addr} {xs : List V} (k : Kp S H H') (h : SqL K H a xs) (n : a ∉ S) : SqL K H' a xs := by
  rcases h with (h | ⟨o, h⟩) | h
  · exact .inl (.inl (k.keep _ _ h n))
  · exact .inl (.inr ⟨o, k.keep _ _ h n⟩)
  · exact .inr h
theorem ne1 {a p : Addr} (h : a ≠ p) : a ∉ [p] := by simp [h]
theorem ne2 {a p q : Addr} (h : a ≠ p) (h2 : a ≠ q) : a ∉ [p, q] := by simp [h, h2]

/-! ### rules whose new heaps are letters -/
section
variable {X : Cx} {e : Expr} {es : List Expr} {pos : Pos}
theorem PE.imp {t t' : TE} (h : PE X e t) (i : ∀ σ H Q, t' σ H Q → t σ H Q) : PE X e t' := ⟨fun pins s σ H Q I q => h.run pins s σ H Q I (i σ H Q q)⟩
theorem OpR.imp {f : Value → Value → Sem Value} {r r' : R2} (h : OpR X f r) (i : ∀ x y H Q, r' x y H Q → r x y H Q) : OpR X f r' := fun pins s σ H x y v u Q I a b q => h pins s σ H x y v u Q I a b (i x y H Q q)
theorem CallR.imp {f : Value} {r r' : List V → Hp → VK → Prop} (h : CallR X f r) (i : ∀ xs H Q, r' xs H Q → r xs H Q) : CallR X f r' := fun pins s σ H xs us Q I a q => h pins s σ H xs us Q I a (i xs H Q q)
theorem SlR.imp {r r' : V → Option Int → Option Int → Hp → VK → Prop} (h : SlR X r) (i : ∀ x lo hi H Q, r' x lo hi H Q → r x lo hi H Q) : SlR X r' := fun pins s σ H x v vl vu lo hi sl Q I rx hs pl pu q => h pins s σ H x v vl vu lo hi sl Q I rx hs pl pu (i x lo hi H Q q)
theorem MtR.imp {id : String} {r r' : V → List V → Hp → VK → Prop} (h : MtR X id r) (i : ∀ x xs H Q, r' x xs H Q → r x xs H Q) : MtR X id r' := fun pins s σ H x xs v us Q I a b q => h pins s σ H x xs v us Q I a b (i x xs H Q q)
theorem PSet.imp {t t' : TSet} (h : PSet X t) (i : ∀ o k v H Q, t' o k v H Q → t o k v H Q) : PSet X t' := fun pins s σ H o k v ov iv u Q I a b c q => h pins s σ H o k v ov iv u Q I a b c (i o k v H Q q)
/-- a new object at p -/
def NewQ (H : Hp) (o : HO) (Q : VK) : Prop := ∀ p H2, H p = none → H2 p = some o → Kp [] H H2 → Q (.ref p) H2
theorem NewQ.to {H : Hp} {o : HO} {Q : VK} (h : NewQ H o Q) : ∀ p, H p = none → Q (.ref p) (upd H p o) := fun p hp => h p _ hp upd_same (Kp.new hp)
theorem newQ_iff {H : Hp} {o : HO} {Q : VK} (S : Prop) : (S ∧ ∀ p H2, H p = none → H2 = upd H p o → Q (.ref p) H2) = (S ∧ ∀ p, H p = none → Q (.ref p) (upd H p o)) :=
  propext ⟨fun h => ⟨h.1, fun p hp => h.2 p _ hp rfl⟩, fun h => ⟨h.1, fun p H2 hp e => e ▸ h.2 p hp⟩⟩
def tTupA (t : TA) : TE := fun σ H Q => t σ H fun xs H1 => xs.length ≤ sizeLine ∧ ∀ p H2, H1 p = none → H2 = upd H1 p (.tup xs) → Q (.ref p) H2
def tLstA (t : TA) : TE := fun σ H Q => t σ H fun xs H1 => xs.length ≤ sizeLine ∧ ∀ p H2, H1 p = none → H2 = upd H1 p (.lst xs) → Q (.ref p) H2
theorem pe_tupA {x1} {t : TA} (h : PA X es t) : PE X (.Tuple es x1 pos) (tTupA t) := PE.imp (pe_tup h) fun σ H Q q => by
  unfold tTup
  unfold tTupA at q
  simp only [newQ_iff] at q
  exact q
theorem pe_lstA {t : TA} (h : PA X es t) : PE X (.List es pos) (tLstA t) := PE.imp (pe_lst h) fun σ H Q q => by
  unfold tLst
  unfold tLstA at q
  simp only [newQ_iff] at q
  exact q
theorem new_at {H H2 : Hp} {p : Addr} {o : HO} (e : H2 = upd H p o) : H2 p = some o := by rw [e]; exact upd_same
theorem new_kp {H H2 : Hp} {p : Addr} {o : HO} (h : H p = none) (e : H2 = upd H p o) : Kp [] H H2 := by rw [e]; exact Kp.new h
/-- what follows a store at p -/
def PutQ (H : Hp) (p : Addr) (o : HO) (Q : Hp → Prop) : Prop := ∀ H2, H2 p = some o → Kp [p] H H2 → Q H2
theorem PutQ.to {H : Hp} {p : Addr} {o v : HO} {Q : Hp → Prop} (h : PutQ H p o Q) (e : H p = some v) (hv : ∀ xs, v ≠ .tup xs) (he : ∀ φ, v ≠ .ext φ := by intro φ z; cases z) (hf : ∀ o u, v ≠ .frz o u := by intro o u z; cases z) : Q (upd H p o) := h _ upd_same (Kp.put e hv he hf)
def rSetA : TSet := fun o i v H Q => ∃ p xs k j, o = .ref p ∧ i = .int k ∧ H p = some (.lst xs) ∧ ixN xs.length k = some j ∧ PutQ H p (.lst (xs.set j v)) Q
theorem set_listA : PSet X rSetA := PSet.imp set_list fun o i v H Q ⟨p, xs, k, j, a, b, c, d, q⟩ => ⟨p, xs, k, j, a, b, c, d, q.to c (fun _ z => by cases z)⟩
def rCatLA : R2 := fun x y H Q => ∃ l b xs zs, x = .ref l ∧ y = .ref b ∧ H l = some (.lst xs) ∧ H b = some (.lst zs) ∧ xs.length + zs.length ≤ sizeLine ∧ NewQ H (.lst (xs ++ zs)) Q
theorem op_catL : OpR X (binaryOp .Add) rCatLA := OpR.imp op_cat fun x y H Q ⟨l, b, xs, zs, e1, e2, h1, h2, z, q⟩ => ⟨l, b, xs, zs, e1, e2, h1, h2, z, q.to⟩
def rRepA : R2 := fun x y H Q => ∃ l k xs, x = .ref l ∧ y = .int k ∧ H l = some (.lst xs) ∧ 0 ≤ k ∧ k ≤ 1000000 ∧ xs.length * k.toNat ≤ 1000000 ∧ NewQ H (.lst (List.replicate k.toNat xs).flatten) Q
theorem op_repL : OpR X (binaryOp .Mult) rRepA := OpR.imp op_rep fun x y H Q ⟨l, k, xs, e1, e2, h1, h2, h3, z, q⟩ => ⟨l, k, xs, e1, e2, h1, by omega, by omega, Nat.le_trans z (by decide), q.to⟩
def rSlLA (K : PySem.W.Frag) : V → Option Int → Option Int → Hp → VK → Prop := fun x lo hi H Q => ∃ a xs, x = .ref a ∧ SqL K H a xs ∧ NewQ H (.lst (cutV xs lo hi)) Q
theorem sl_listA : SlR X (rSlLA X.K) := SlR.imp sl_list fun x lo hi H Q ⟨a, xs, e, h, q⟩ => ⟨a, xs, e, h, q.to⟩
theorem cutV_whole {xs : List V} {lo hi : Option Int} (h : HT.sIx xs.length 0 lo = 0 ∧ HT.sIx xs.length xs.length hi = xs.length) : cutV xs lo hi = xs := by
  unfold cutV
  rw [h.1, h.2]
  simp
/-- a loop, a cut: what is said there is said by hand -/
structure Lp (p : Prop) : Prop where
  h : p
theorem Lp.eq (p : Prop) : Lp p = p := propext ⟨fun x => x.h, fun x => ⟨x⟩⟩
def tForA (wi : TI) (g : TG) (tb : TS) : TS := fun D σ H => wi σ H fun J H1 => Lp (∃ W : Nat → Nat → L2.St → Hp → Prop, (∃ m, W 0 m σ H1) ∧ ∀ i m σ H, W i m σ H →
  (J.stop i H ∧ D.nx σ H) ∨ (J.go i H ∧ ∃ N : L2.St → Hp → Prop, (∀ σ' H', N σ' H' → ∃ m', m' < m ∧ W (i + 1) m' σ' H') ∧ ∀ x H', J.yld i H x H' → g x σ H' fun σ2 H2 => tb { D with nx := N, ct := N, bk := D.nx } σ2 H2))
theorem tForA_eq (wi : TI) (g : TG) (tb : TS) : tForA wi g tb = tFor wi g tb := by
  funext D σ H
  unfold tForA tFor
  simp only [Lp.eq]
theorem ps_forA {tg iter : Expr} {body : List Stmt} {wi : TI} {g : TG} {tb : TS} (h : PS X (.For tg iter body [] pos) (tFor wi g tb)) : PS X (.For tg iter body [] pos) (tForA wi g tb) := by rw [tForA_eq]; exact h
def tCutA (t u : TS) : TS := fun D σ H => Lp (C8.tCut t u D σ H)
theorem pss_cutA {st : Stmt} {rest : List Stmt} {t u : TS} (h1 : PS X st t) (h2 : PSs X rest u) : PSs X (st :: rest) (tCutA t u) := by
  have e : tCutA t u = C8.tCut t u := by
    funext D σ H
    unfold tCutA
    rw [Lp.eq]
  rw [e]
  exact C8.pss_cut h1 h2
/-! the same rules over a written part that is told by a letter -/
variable {K : PySem.W.Frag}
theorem ix_listK (hK : X.K = K) : IxR X (rIxL K) := hK ▸ ix_list
theorem op_in_seqK (hK : X.K = K) : OpR X (compareOp .In) (rIn K false) := hK ▸ op_in_seq
def rLenK (K : PySem.W.Frag) : List V → Hp → VK → Prop := fun xs H Q => ∃ p ys, xs = [.ref p] ∧ (SqL K H p ys ∨ SqT K H p ys) ∧ Q (.int ys.length) H
theorem call_lenK (hK : X.K = K) : CallR X (.builtin "len") (rLenK K) := hK ▸ call_len_seq
theorem sl_listK (hK : X.K = K) : SlR X (rSlLA K) := hK ▸ sl_listA
theorem pi_listK {tg l : Expr} {tl : TE} (hK : X.K = K) (hl : PE X l tl) : PI X tg l (iList K tl) := hK ▸ pi_list hl
end

/-! ### the deck: its cells at c, how many numbers were drawn -/
structure DkOk (cs : List Int) (n : Int) : Prop where
  len : cs.length ≤ 63
  pos : ∀ x ∈ cs, (0 : Int) ≤ x
  n0 : 0 ≤ n
structure Deck (H : Hp) (a c : Addr) (n : Int) : Prop where
  ex : ∃ cs : List Int, H a = some (.lst [.ref c, .int n]) ∧ H c = some (.lst (cs.map V.int)) ∧ DkOk cs n
theorem Deck.ne {H : Hp} {a c : Addr} {n : Int} (d : Deck H a c n) : a ≠ c := by
  obtain ⟨cs, h1, h2, ok⟩ := d.ex
  refine ne_of h1 h2 fun z => ?_
  have z1 := HO.lst.inj z
  cases cs with
  | nil => cases z1
  | cons x r => cases z1
theorem Deck.kp {S : List Addr} {H H' : Hp} {a c : Addr} {n : Int} (d : Deck H a c n) (k : Kp S H H') (ha : a ∉ S) (hc : c ∉ S) : Deck H' a c n := by
  obtain ⟨cs, h1, h2, ok⟩ := d.ex
  exact ⟨cs, k.keep _ _ h1 ha, k.keep _ _ h2 hc, ok⟩
theorem Deck.kp0 {H H' : Hp} {a c : Addr} {n : Int} (d : Deck H a c n) (k : Kp [] H H') : Deck H' a c n := d.kp k (by simp) (by simp)
theorem Deck.a_some {H : Hp} {a c : Addr} {n : Int} (d : Deck H a c n) : ∃ xs, H a = some (.lst xs) := by
  obtain ⟨cs, h1, h2, ok⟩ := d.ex
  exact ⟨_, h1⟩
theorem Deck.c_some {H : Hp} {a c : Addr} {n : Int} (d : Deck H a c n) : ∃ xs, H c = some (.lst xs) := by
  obtain ⟨cs, h1, h2, ok⟩ := d.ex
  exact ⟨_, h2⟩
/-- a new address is not the deck's -/
theorem Deck.off {H : Hp} {a c p : Addr} {n : Int} (d : Deck H a c n) (h : H p = none) : p ∉ [a, c] := by
  obtain ⟨xs, h1⟩ := d.a_some
  obtain ⟨ys, h2⟩ := d.c_some
  exact ne2 (ne_of_none h1 h).symm (ne_of_none h2 h).symm
abbrev MANY : Int := 1000000000
def spDraw : Sp := fun vs H Q _ => ∃ (a c : Addr) (n many : Int), vs = [.ref a, .int many] ∧ Deck H a c n ∧ n ≤ MANY ∧ 0 < many ∧ many.natAbs < 2 ^ 1000 ∧
  ∀ (r : Int) (H' : Hp), 0 ≤ r → r < many → Deck H' a c (n + 1) → Kp [a, c] H H' → Q (.int r) H'
def spDeck (K : PySem.W.Frag) : Sp := fun vs H Q _ => ∃ (s : Addr) (ns : List Int), vs = [.ref s] ∧ SqL K H s (ns.map V.int) ∧ ns.length ≤ 63 ∧
  ∀ (a c : Addr) (H' : Hp), H a = none → H c = none → Kp [] H H' → Deck H' a c 0 → Q (.ref a) H'
/-- an item of a list that is drawn -/
def spOne (K : PySem.W.Frag) : Sp := fun vs H Q _ => ∃ (a c l : Addr) (n : Int) (xs : List V), vs = [.ref a, .ref l] ∧ Deck H a c n ∧ n ≤ MANY ∧ SqL K H l xs ∧ l ∉ [a, c] ∧ 0 < xs.length ∧ xs.length ≤ 1000000 ∧
  ∀ (x : V) (H' : Hp), x ∈ xs → Deck H' a c (n + 1) → Kp [a, c] H H' → Q x H'
/-- a sign of a text that is drawn -/
def spOneS : Sp := fun vs H Q _ => ∃ (a c : Addr) (n : Int) (z : Str), vs = [.ref a, .str z] ∧ Deck H a c n ∧ n ≤ MANY ∧ 0 < z.length ∧ z.length ≤ 1000000 ∧ ∀ (ch : Nat) (H' : Hp), ch ∈ z.cps.toList → Deck H' a c (n + 1) → Kp [a, c] H H' → Q (.str ⟨#[ch]⟩) H'
def spOne2 (K : PySem.W.Frag) : Sp := fun vs H Q E => spOne K vs H Q E ∨ spOneS vs H Q E
theorem pow1000 {m : Nat} (h : m ≤ 1000000) : ((m : Int)).natAbs < 2 ^ 1000 := by
  have e : ((m : Int)).natAbs < 2 ^ 30 := by
    have e2 : (2 : Nat) ^ 30 = 1073741824 := by decide
    rw [e2]
    omega
  exact Nat.lt_of_lt_of_le e (Nat.pow_le_pow_right (by decide) (by decide))
/-- a def of the text, as the top has left it -/
structure DA (K : PySem.W.Frag) (mg : Str → Option Value) (x : Str) (st : Stmt) (ps : List Str) where
  f : Addr
  fd : FuncData
  F : Fun K x x st f fd
  b : Binds K fd ps []
  g : mg x = some (.ref f)
/-- a class of the text, a method of it -/
structure CA (K : PySem.W.Frag) (mg : Str → Option Value) (x : Str) where
  C : Addr
  cl : Cls K C
  g : mg x = some (.ref C)
  mks : PySem.W.makesIn K C = true
  kp : PySem.W.keepIn K (.ref C) = true
structure DM (K : PySem.W.Frag) (C : Addr) (m q : Str) (st : Stmt) (ps : List Str) where
  f : Addr
  fd : FuncData
  F : Fun K m q st f fd
  b : Binds K fd ps []
  m : Meth K C m f
theorem atI_mem {α : Type} {xs : List α} {i : Int} (h0 : 0 ≤ i) (h : i < (xs.length : Int)) : ∃ v, atI xs i = some v ∧ v ∈ xs := by
  have hi : i.toNat < xs.length := by omega
  have e : i = ((i.toNat : Nat) : Int) := by omega
  have q : atI xs ((i.toNat : Nat) : Int) = some xs[i.toNat] := atI_nat (List.getElem?_eq_getElem hi)
  rw [← e] at q
  exact ⟨xs[i.toNat], q, List.getElem_mem hi⟩
theorem ixN_nat {n : Nat} {i : Int} (h0 : 0 ≤ i) (h : i < (n : Int)) : ixN n i = some i.toNat := by
  unfold ixN
  rw [if_pos h0, if_pos h]
theorem isi_ss : kitB "str" "str" = some true := by decide +kernel
theorem isi_is : kitB "int" "str" = some false := by decide +kernel
theorem isi_ts : kitB "tuple" "str" = some false := by decide +kernel
theorem isi_si : kitB "str" "int" = some false := by decide +kernel
theorem isi_ii : kitB "int" "int" = some true := by decide +kernel
theorem isi_ti : kitB "tuple" "int" = some false := by decide +kernel
theorem isi_st : kitB "str" "tuple" = some false := by decide +kernel
theorem isi_it : kitB "int" "tuple" = some false := by decide +kernel
theorem isi_tt : kitB "tuple" "tuple" = some true := by decide +kernel
theorem cpow_of {i j : Int} (h : 0 ≤ j ∧ j ≤ 1000000 ∧ i.natAbs < 2 ^ 64) : CPow i j := h
theorem cmul_of {i j : Int} (h : -(2 ^ 64) < i ∧ i < 2 ^ 64) : CMul i j := .inl h
theorem cdivn_of {i j : Int} (h : j ≠ 0 ∧ j.natAbs < 1073741824) : CDivN i j := h
theorem lt_lit {n : Nat} (h : Nat.ble (n + 1) 1000 = true) : n < 1000 := Nat.le_of_ble_eq_true h
theorem le_lit {n : Nat} (h : Nat.ble n 1000 = true) : n ≤ 1000000 := Nat.le_trans (Nat.le_of_ble_eq_true h) (by decide)
theorem pos_lit {n : Nat} (h : Nat.ble 1 n = true) : 0 < n := Nat.le_of_ble_eq_true h
theorem sz_lit {n : Nat} (h : Nat.ble n 1000 = true) : n ≤ sizeLine := Nat.le_trans (Nat.le_of_ble_eq_true h) (by decide)
theorem sz_lt {n : Nat} (h : n ≤ 1000000) : n < sizeLine := Nat.lt_of_le_of_lt h (by decide)
theorem sz_le {n : Nat} (h : n ≤ 1000000) : n ≤ sizeLine := Nat.le_of_lt (sz_lt h)
end EH
namespace EH
open PySem L2 PyProof.Rows
/-! ### defs that write texts of displays: nothing of that sort is under way around them -/
def Free (A : Around) : Prop := A.guards = some []
structure FnG (P : Program) (w : World) (K : PySem.W.Frag) (mg : Str → Option Value) (base : Heap) (CX : CXT) (k : Nat) (f : Addr) (fd : FuncData) (ps : List Str) (sp : Sp) : Prop where
  len : ∀ vs H Q E, sp vs H Q E → vs.length = ps.length
  run : ∀ (A : Around) (outer : List Env) (s : Shared) (H : Hp) (args : Args) (us : List Value) (vs : List V) (Q : VK) (E : XK),
    Free A → Room k A → Env0 P w K mg base A outer s H → BindsTo s fd args (ps.zip us) → Vals vs us → sp vs H Q E → codeAny (model P w) A (.call (.ref f) args) (CR CX outer P w H s Q E) s
section
variable {P : Program} {w : World} {K : PySem.W.Frag} {mg : Str → Option Value} {base : Heap} {CX : CXT}
theorem Fun.okG {x qual : Str} {st : Stmt} {f : Addr} {fd : FuncData} {N ps : List Str} {k : Nat} {sp : Sp} (F : Fun K x qual st f fd) (S : FnScope N ps (defScope st)) (len : ∀ vs H Q E, sp vs H Q E → vs.length = ps.length)
    (body : ∀ (cdv : Value) (A : Around) (outer : List Env) (s : Shared) (H : Hp) (vs : List V) (Q : VK) (E : XK), Free (A.deeper (envOfC qual (defScope st) s.heap.objs.size f cdv)) →
      Room k (A.deeper (envOfC qual (defScope st) s.heap.objs.size f cdv)) → sp vs H Q E →
      ∃ t, PSs (cxOf CX0 P w K mg base N qual (defScope st) f cdv A outer s H E).nox (defBody st) t ∧ t { nx := fun _ H' => Q .non H', rt := Q } (start N vs) H) : FnG P w K mg base CX0 (k + 1) f fd ps sp := by
  refine ⟨len, fun A outer s H args us vs Q E fr hr e0 hb r hsp => ?_⟩
  obtain ⟨oc, od, kV, doc, pm, an, cdv, ct, osl, rfl, lk, hcd⟩ := F.ex
  have hl := len _ _ _ _ hsp
  have KX : K.In s.heap := e0.mod.kin.keeps fun b o e => (e0.bs b o e).1
  have lim : s.heap.NoLimit := e0.mod.nolimit.keeps fun b o e => (e0.bs b o e).1
  have kinds : ∀ y ∈ ps.zip us, (defScope st).names.lookup y.1 = some .local ∨ ((defScope st).names.lookup y.1 = some .cell ∧ ((cellsFrom (s.heap.objs.size + 1) (defScope st).names []).lookup y.1).isSome = true) := by
    rintro ⟨n, v⟩ hy
    rcases S.par n (List.of_mem_zip hy).1 with q | q
    · exact .inl q
    · exact .inr ⟨q, PySem.W.cellsFrom_some _ _ _ (.inl q)⟩
  refine codeAny_call_function hr.depth (KX _ _ lk) rfl S.co S.gen rfl (PySem.W.codeRec_of KX hcd) (hb _ _ _ _ ?_)
  refine wpAny_newFunctionEnv_cells S.kind kinds fun env he s1 y => ?_
  subst he
  refine ⟨lim.keeps y.toInCall.keep, codeAny_func ?_⟩
  obtain ⟨t, ht, hq⟩ := body cdv A outer s H vs Q E fr (hr.deeper _) hsp
  have I0 : Inv (cxOf CX0 P w K mg base N qual (defScope st) f cdv A outer s H E) [] (start N vs) H s1 := inv_start S hr.hd e0 hl r y
  refine wpAny_mono (ht.nox.run [] s1 (start N vs) H _ I0 hq) (fun fl s' hs => ?_) fun _ _ z => z
  have close : ∀ {σ' : L2.St} {H' : Hp} {v : V} {u : Value}, Inv (cxOf CX0 P w K mg base N qual (defScope st) f cdv A outer s H E) [] σ' H' s' → RelV v u → Q v H' → CE outer P w H s Q u s' :=
    fun J rv q => ⟨_, _, J.os, J.bare, J.base, J.hok, rv, q⟩
  cases fl with
  | ret u => obtain ⟨v, σ', H', J, rv, q⟩ := hs; exact close J rv q
  | next => obtain ⟨σ', H', J, q⟩ := hs; exact close (v := V.non) (u := Value.none) J rfl q
  | brk => obtain ⟨_, _, _, q⟩ := hs; exact q.elim
  | cont => obtain ⟨_, _, _, q⟩ := hs; exact q.elim
end
section
variable {X : Cx} {CX : CXT} {k : Nat} {f C : Addr} {fd : FuncData} {ps : List Str} {sp : Sp} {dvs : List V} {ds : List Value} {E : XK} {x m : Str} {p pos apos : Pos} {e o : Expr} {es : List Expr} {ta : TE} {t : TA}
theorem run_fnG {pins : List (Addr × Obj)} {σ : L2.St} {H : Hp} {s : Shared} {Q : VK} {us : List Value} {vs : List V} (F : FnG X.prog X.w X.K X.mg X.base CX k f fd ps sp) (fr : Free X.A) (hr : Room k X.A) (hb : Binds X.K fd ps ds) (hd : Vals dvs ds)
    (hx : Passes CX X E) (I : Inv X pins σ H s) (r : Vals vs us) (h : sp (vs ++ dvs) H Q E) : wpAny (model X.prog X.w) X.A (call (.ref f) us) (EP X pins σ Q) X.xe s := by
  have rr : Vals (vs ++ dvs) (us ++ ds) := r.append hd
  have hl : (us ++ ds).length = ps.length := rr.length.symm.trans (F.len _ _ _ _ h)
  refine wpAny_call (codeAny_mono (F.run X.A X.stack s H ⟨us, []⟩ _ _ Q E fr hr I.env0 (hb s us I.kIn hl) rr h) fun z s' hq => ?_)
  cases z with
  | error e => exact hx pins σ H s e s' I hq
  | ok fl => cases fl with
    | ret u => exact I.after hq
    | next => exact hq.elim
    | brk => exact hq.elim
    | cont => exact hq.elim
theorem pe_callG (F : FnG X.prog X.w X.K X.mg X.base CX k f fd ps sp) (fr : Free X.A) (hr : Room k X.A) (hg : Gl X x) (hm : X.mg x = some (.ref f)) (hk : PySem.W.keepIn X.K (.ref f) = true) (hb : Binds X.K fd ps ds) (hd : Vals dvs ds)
    (hx : Passes CX X E) (ha : PA X (e :: es) t) (hdb : (x == ("__debug__" : Str)) = false := by decide) (he : starEach (e :: es) X.env = (false, eval e X.env) :: starEach es X.env := by rfl)
    (hpl : (backTo pos (starEach es X.env)).any (·.1) = false := by rfl) : PE X (.Call (.Name x p) (e :: es) [] pos) (tCall sp dvs E t) := by
  constructor
  intro pins s σ H Q I h
  refine wpAny_Call_Name_kw (ld_glob I hg hm ?_ hdb)
  exact PySem.W.callWith_K (h₀ := X.base) I.ok.mod.kin hk (thn (ha.run pos pins s σ H _ I h) fun us s1 ⟨vs, H1, I1, r, q⟩ => ⟨I1.kIn, run_fnG F fr hr hb hd hx I1 r q⟩) he hpl
end
/-! ### repr -/
section
variable {X : Cx}
/-- repr of data: the text of the data -/
def rReprD (K : PySem.W.Frag) : List V → Hp → VK → Prop := fun xs H Q => ∃ x d, xs = [x] ∧ Dp K H x d ∧ d.showable = true ∧ d.shown.length ≤ sizeLine ∧ d.depth ≤ 60 ∧ Q (.str d.shown) H
theorem call_reprD (fr : Free X.A) (hu : X.A.units + 64 < cLine) : CallR X (.builtin "repr") (rReprD X.K) := by
  intro pins s σ H xs us Q I r h
  obtain ⟨x, d, rfl, hd, sh, sz, dp, q⟩ := h
  obtain ⟨u, rfl, rx⟩ := vals1 r
  obtain ⟨as, rd⟩ := Dp.reads I d x u hd rx
  have nd : d.hasDict = false := by
    have all : ∀ (d : PyData) (v : V), Dp X.K H v d → d.hasDict = false := by
      intro d v h
      exact Dp.rec (motive_1 := fun v d _ => d.hasDict = false) (motive_2 := fun vs ds _ => PyData.hasDictAll ds = false) (by simp only [PyData.hasDict]) (fun _ => by simp only [PyData.hasDict]) (fun _ => by simp only [PyData.hasDict])
        (fun _ => by simp only [PyData.hasDict]) (fun _ _ ih => by simp only [PyData.hasDict]; exact ih) (fun _ _ ih => by simp only [PyData.hasDict]; exact ih) (by simp only [PyData.hasDictAll]) (fun _ _ i1 i2 => by simp only [PyData.hasDictAll, i1, i2, Bool.or_self]) h
    exact all d x hd
  cases hd with
  | non => cases (show u = Value.none from rx); exact PySem.P.repr_of_none ⟨.str _, H, I.tok _, ⟨_, rfl⟩, q⟩
  | bl b =>
    cases (show u = Value.bool b from rx)
    refine PySem.P.repr_of_bool ⟨.str _, H, I.tok _, ⟨_, rfl⟩, ?_⟩
    rw [PyData.shown_bool] at q
    exact q
  | int i =>
    obtain ⟨t, rfl⟩ := (show ∃ t, u = Value.int i t from rx)
    refine PySem.P.repr_of_int (by simpa [PyData.showable] using sh) ⟨.str _, H, I.tok _, ⟨_, rfl⟩, ?_⟩
    rw [PyData.shown_int] at q
    exact q
  | str y =>
    obtain ⟨t, rfl⟩ := (show ∃ t, u = Value.str y t from rx)
    refine PySem.P.repr_of_str ⟨.str _, H, I.tok _, ⟨_, rfl⟩, ?_⟩ ?_
    · simp only [PyData.shown] at q; exact q
    · simp only [PyData.shown] at sz; exact sz
  | lst h1 h2 =>
    cases rx
    exact repr_of_reads' rd sh (PyData.noDict_hsm nd) fr (by omega) (fun _ _ z => z) (fun h' t tk hk => ⟨.str _, H, I.kept hk, ⟨_, rfl⟩, q⟩) sz
  | tup h1 h2 =>
    cases rx
    exact repr_of_reads' rd sh (PyData.noDict_hsm nd) fr (by omega) (fun _ _ z => z) (fun h' t tk hk => ⟨.str _, H, I.kept hk, ⟨_, rfl⟩, q⟩) sz
end
/-! ### a law's own head, its def of the kind FnG -/
section
variable {P : Program} {w : World} {K : PySem.W.Frag} {mg mb : Str → Option Value} {CX : CXT} {k : Nat} {fa a : Addr} {fd : FuncData} {x : Str} {sp : Sp} {s₁ : Shared} {vs : List Value} {ns : List Int}
theorem law_coreG (KX : K.In s₁.heap) (hns : s₁.heap.Ns mainGlobals mg) (hb : s₁.heap.Ns builtinsNs mb) (hbb : ∀ x : Str, x ≠ "__name__" → mb x = bootBuiltins x) (hlim : s₁.heap.NoLimit) (hg : s₁.gens = #[])
    (ha : s₁.heap.get? a = some { cls := .type "list", data := .seq vs.toArray }) (hr : Room k callerA)
    (F : ∀ base : Heap, K.In base → base.Ns mainGlobals mg → FnG P w K mg base CX k fa fd [x] sp) (hbind : ∀ (s : Shared) (u : Value), BindsTo s fd ⟨[u], []⟩ [(x, u)])
    (hCX : ∀ H e s', CX [] H s₁ (fun _ _ _ => False) e s' → False) (H : Hp) (hO : Only H) (hsp : sp [.ref a] H (fun v _ => v = .bl true) fun _ _ _ => False) (hok : HOk P w H s₁.heap) (hA : ∀ b, H b ≠ none → b = a) (hK : H a ≠ none → K.lookup a = none) :
    codeAny (model P w) callerA (.call (.ref fa) ⟨[.ref a], []⟩) (fun r s' => r = .ok (.ret (.bool true)) ∧ OldK s₁.heap s'.heap ∧ s'.os = s₁.os ∧ AllBare s'.gens) s₁ := by
  have un_a : ∀ {b : Addr}, b ≠ a → H b = none := fun {b} h => by
    cases q : H b with
    | none => rfl
    | some u => exact absurd (hA b (by rw [q]; exact fun z => nomatch z)) h
  have dictFree : ∀ {b : Addr} {o : Obj} {es : Array DictEntry} {ep : Nat}, s₁.heap.get? b = some o → o.data = .dict es ep → H b = none := fun {b o es ep} e d => by
    refine un_a fun z => ?_
    subst z
    rw [ha] at e
    cases e
    cases (show Data.seq vs.toArray _ = Data.dict es ep from d)
  have nsK : ∀ {b : Addr} {m : Str → Option Value}, s₁.heap.Ns b m → (hidT s₁.heap H).Ns b m := fun ⟨o, es, ep, e, d, r⟩ => ⟨o, es, ep, hidT_get e (dictFree e d), d, r⟩
  have kin : K.In (hidT s₁.heap H) := fun b o e => by
    refine hidT_get (KX b o e) ?_
    by_cases z : b = a
    · subst z
      cases q : H b with
      | none => rfl
      | some u => rw [hK (by rw [q]; exact fun z => nomatch z)] at e; cases e
    · exact un_a z
  have md : Mod K mg (hidT s₁.heap H) := ⟨kin, nsK hns, ⟨mb, nsK hb, hbb⟩, by obtain ⟨mc, h1, h2⟩ := hlim; exact ⟨mc, nsK h1, h2⟩⟩
  have e0 : Env0 P w K mg (hidT s₁.heap H) callerA [] s₁ H := ⟨rfl, md, fun _ _ e => of_hidT e, Nat.le_of_eq (hidT_size _ _), trivial, (fun b z => absurd (show b ∈ ([] : List Addr) from z) (by simp)), hok, .of_eq hg⟩
  refine codeAny_mono ((F _ kin (nsK hns)).run callerA [] s₁ H ⟨[.ref a], []⟩ [.ref a] [.ref a] _ _ rfl hr e0 (hbind s₁ (.ref a)) (.cons rfl .nil) hsp) fun r s' h => ?_
  cases r with
  | error e => exact (hCX H e s' h).elim
  | ok fl => cases fl with
    | next => exact h.elim
    | brk => exact h.elim
    | cont => exact h.elim
    | ret u =>
      obtain ⟨v, H', os, bare, un, hok', rv, q⟩ := h
      cases (show v = .bl true from q)
      cases (show u = Value.bool true from rv)
      refine ⟨rfl, OldK.of_keep fun b o e => ?_, os, bare⟩
      rcases hO b with z | ⟨ob, xs, z⟩
      · exact un.keep b o e z (fun y => nomatch (show b ∈ ([] : List Addr) from y)) (fun y => nomatch y)
      · obtain ⟨e1, _⟩ := hok b _ z
        obtain ⟨e2, _⟩ := hok' b _ (un.frzs b ob _ z)
        rw [e] at e1
        cases e1
        exact e2
theorem law_callG (KX : K.In s₁.heap) (hns : s₁.heap.Ns mainGlobals mg) (hb : s₁.heap.Ns builtinsNs mb) (hbb : ∀ x : Str, x ≠ "__name__" → mb x = bootBuiltins x) (hlim : s₁.heap.NoLimit) (hg : s₁.gens = #[])
    (ha : s₁.heap.get? a = some { cls := .type "list", data := .seq vs.toArray }) (hi : IntsAre vs ns) (hl : ns.length ≤ sizeLine) (hr : Room k callerA)
    (F : ∀ base : Heap, K.In base → base.Ns mainGlobals mg → FnG P w K mg base CX k fa fd [x] sp) (hbind : ∀ (s : Shared) (u : Value), BindsTo s fd ⟨[u], []⟩ [(x, u)])
    (hsp : ∀ H : Hp, Only H → SqL K H a (ns.map V.int) → sp [.ref a] H (fun v _ => v = .bl true) fun _ _ _ => False) (hCX : ∀ H e s', CX [] H s₁ (fun _ _ _ => False) e s' → False) :
    codeAny (model P w) callerA (.call (.ref fa) ⟨[.ref a], []⟩) (fun r s' => r = .ok (.ret (.bool true)) ∧ OldK s₁.heap s'.heap ∧ s'.os = s₁.os ∧ AllBare s'.gens) s₁ := by
  have rv := vals_ints hi
  have core := law_coreG (k := k) (fa := fa) (sp := sp) KX hns hb hbb hlim hg ha hr F hbind hCX
  cases hk : K.lookup a with
  | some o =>
    have e := KX a o hk
    rw [ha] at e
    cases e
    have hS : SqL K (fun _ => none) a (ns.map V.int) := .inr ⟨_, vs.toArray, _, hk, rfl, rfl, rfl, by rw [List.size_toArray, hi.length]; exact hl, by simpa using rv⟩
    exact core (fun _ => none) (fun _ => .inl rfl) (hsp _ (fun _ => .inl rfl) hS) (fun b u z => nomatch (show (none : Option HO) = some u from z)) (fun b z => absurd rfl z) fun z => absurd rfl z
  | none =>
    have at_a : ∀ b : Addr, b = a → (fun b => if b = a then some (HO.frz { cls := .type "list", data := .seq vs.toArray } (.lst (ns.map V.int))) else none) b = some (.frz { cls := .type "list", data := .seq vs.toArray } (.lst (ns.map V.int))) := fun b z => if_pos z
    have off_a : ∀ b : Addr, b ≠ a → (fun b => if b = a then some (HO.frz { cls := .type "list", data := .seq vs.toArray } (.lst (ns.map V.int))) else none) b = none := fun b z => if_neg z
    generalize (fun b => if b = a then some (HO.frz { cls := .type "list", data := .seq vs.toArray } (.lst (ns.map V.int))) else none) = H0 at at_a off_a
    have only : Only H0 := fun b => by
      by_cases z : b = a
      · exact .inr ⟨_, _, at_a b z⟩
      · exact .inl (off_a b z)
    refine core H0 only (hsp H0 only (.inl (.inr ⟨_, at_a a rfl⟩))) (fun b u z => ?_) (fun b z => ?_) fun _ => hk
    · by_cases y : b = a
      · have e := (at_a b y).symm.trans z
        cases e
        subst y
        exact ⟨ha, by rw [List.length_map]; exact hl, vs, _, rv, ha⟩
      · exact nomatch (off_a b y).symm.trans z
    · by_cases y : b = a
      · exact y
      · exact absurd (off_a b y) z
end
def spLaw (K : PySem.W.Frag) : Sp := fun vs H Q _ => ∃ (a : Addr) (ns : List Int), vs = [.ref a] ∧ SqL K H a (ns.map V.int) ∧ ns.length ≤ 63 ∧ ∀ H', Q (.bl true) H'
theorem walk_ofGX {l : PySem.W.OpenLaw} {n k : Nat} {q : Program} {loose : List Str} {XP : (Str → Option Value) → Heap → Prop} {YP : World → Heap → Prop} {d : DefRec} {x : Str}
    (hn : l.most = some n) (hn2 : n ≤ sizeLine) (hn63 : n ≤ 63) (hdf : d.params.defaults = []) (hr : Room k callerA)
    (F : ∀ (w : World) (mg : Str → Option Value) (fa : Addr) (h : Heap), YP w h → h.Ns mainGlobals mg → mg d.name = some (.ref fa) →
      ∃ (K : PySem.W.Frag) (fd : FuncData), K.In h ∧ (∀ (s : Shared) (u : Value), BindsTo s fd ⟨[u], []⟩ [(x, u)]) ∧ ∀ base : Heap, K.In base → base.Ns mainGlobals mg → FnG l.prog w K mg base CX0 k fa fd [x] (spLaw K)) :
    PySem.W.WalkO q loose XP YP l.row.toRowW d [] (fun f vs => PySem.call f vs) := by
  refine Att.attach_call hn hdf fun w s₀ s₁ mg mb fa o pm cd doc a vs ns G Y ho hd hcd hmg hobj hints hlen hg => ?_
  obtain ⟨K, fd, KX, hb, hF⟩ := F w mg fa _ Y G.T.g hmg
  exact law_callG KX G.T.g G.T.b G.T.builtins G.T.nolimit hg hobj hints (Nat.le_trans hlen hn2) hr hF hb (fun H _ hS => ⟨a, ns, rfl, hS, Nat.le_trans hlen hn63, fun _ => rfl⟩) fun _ _ _ z => z
def TopF : Prop := ∀ (w : World) (K : PySem.W.Frag) (h : Heap) (mg : Str → Option Value) (fa : Addr), K.In h → h.Ns mainGlobals mg → mg "law" = some (.ref fa) → SaysXD fbX fnX dfX K → ∃ fd : FuncData, (∀ (s : Shared) (v : Value), BindsTo s fd ⟨[v], []⟩ [("_law_script", v)]) ∧ ∀ base : Heap, K.In base → base.Ns mainGlobals mg → FnG (PySem.Challenge.rw_eitherhalf_k00_errors_made_by_hand).prog w K mg base CX0 33 fa fd ["_law_script"] (spLaw K)
end EH
section
open PySem PySem.W PySem.Calls PyProof.Rows
set_option maxRecDepth 100000 in
set_option maxHeartbeats 0 in
theorem EH.topX (F : EH.TopF) : PySem.Challenge.rw_eitherhalf_k00_errors_made_by_hand.Holds := by
  w_on; o_law
  refine HandSHeadRun.head_any (r := EH.rwX) (q := EH.qvX) (H := EH.hookXD 5 EH.fbX EH.fnX EH.dfX) (ob := fun s => EH.obsXDG 5 EH.fbX EH.fnX EH.dfX (HandSHeadRun.getT s)) (M := 20000) (loose := EH.nmX) (d := HandSHeadRun.topDef EH.rwX.prog 147) (kwd := []) (fun s => EH.obsXDG_eq (HandSHeadRun.getT_eq s)) (by kernel_rfl) (fun s => by kernel_rfl) EH.runX (by kernel_rfl) (by kernel_rfl) (by kernel_rfl) (by rfl) (by first | assumption | decide +kernel) (by decide +kernel) ⟨rfl, rfl, rfl, rfl, rfl, by decide +kernel⟩ ?hw ?hc
  case hw => w_witness2
  case hc =>
    refine EH.walk_ofGX (l := PySem.Challenge.rw_eitherhalf_k00_errors_made_by_hand) (n := 63) (k := 33) (x := "_law_script") rfl (by decide) (by decide) (by kernel_rfl) ⟨rfl, by decide, by decide⟩ ?F
    intro w mg fa h Y G hmg0
    obtain ⟨K, KX, c⟩ := Y
    have hmg : mg ("law" : PySem.Str) = some (.ref fa) := by
      have e : (HandSHeadRun.topDef EH.rwX.prog 147).name = ("law" : PySem.Str) := by kernel_rfl
      rw [← e]
      exact hmg0
    obtain ⟨fd, hb, hF⟩ := F w K h mg fa KX G hmg c
    exact ⟨K, fd, KX, hb, hF⟩
end
namespace EH
open PySem PySem.Spec PyProof.Rows L2
/-! ### B.__init__(self, ..) of an own class B over ValueError -/
structure BaseI (K : PySem.W.Frag) (B : Addr) : Prop where
  ga : PySem.W.specialIn K (.ref B) "__getattribute__" = some (some (.builtin "type.__getattribute__"))
  rd : PySem.W.readsIn K B (.type "type") = true
  ini : PySem.W.findCls K (.ref B) (.type "type") "__init__" = some (.val (.builtin "ValueError.__init__"))
section
variable {X : Cx} {e : Expr} {es : List Expr} {ta : TA} {p1 p2 pos : Pos} {x : Str} {B : Addr}
/-- the built-in __init__ on an error that is being made, with what stands behind it among the arguments -/
theorem ve_init {pins : List (Addr × Obj)} {σ : L2.St} {Q : VK} {us : List Value} {t : Shared}
    (h : AP X pins σ (fun vs H1 => ∃ (a C : Addr) (ws : List V), vs = .ref a :: ws ∧ ws.length ≤ 1000 ∧ OexC X.K C ∧ H1 a = some (exo a C none) ∧ Q .non H1) us t) :
    wpAny (model X.prog X.w) X.A (call (.builtin "ValueError.__init__") us) (EP X pins σ Q) X.xe t := by
  rcases h with ⟨_, G, J, vals, a, C, ws, rfl, few, own, at_, out⟩
  match us, vals with
  | _ :: ur, .cons ea rest =>
    rw [show _ = Value.ref a from ea]
    have e := Paired.length rest
    exact oinit_ok own J at_ (by rw [sizeLine_eq]; omega) fun t' J' => ⟨.non, G, J', rfl, out⟩
theorem pe_heinit {pl : Sem Bool} (hg : Gl X x) (hm : X.mg x = some (.ref B)) (T : BaseI X.K B) (ha : PA X (e :: es) ta) (hdb : (x == ("__debug__" : Str)) = false := by decide)
    (hc : eval (.Call (.Attribute (.Name x p1) "__init__" p2) (e :: es) [] pos) X.env = (do
      let c ← eval (.Name x p1) X.env
      standAt p2.atName
      let (m, self) ← holding [c] (getMethod c "__init__" pl)
      callWith pos m self (backTo pos (starEach (e :: es) X.env)) (backToKw pos (keywordEach [] X.env))) := by rfl)
    (h1 : starEach (e :: es) X.env = (false, eval e X.env) :: starEach es X.env := by rfl) (h2 : (backTo pos (starEach es X.env)).any (·.1) = false := by rfl) :
    PE X (.Call (.Attribute (.Name x p1) "__init__" p2) (e :: es) [] pos) (tVeI X.K ta) :=
  .mk fun pins s σ H Q I h =>
    have named := fun (k : Nat) => PyProof.Rows.callWith_method1 (env := X.env) (first := []) (thn (ha.run pos pins { s with toks := k } σ H _ (I.tok k) h) fun _ _ => ve_init) h1 h2
    PySem.W.methodCall_KW (ld_glob I hg hm (PySem.W.method_cls I.kIn T.ga (PySem.W.cls_value I.kIn T.rd T.ini (by decide +kernel) (named _))) hdb) hc
end
/-- C.__init__(self, f): the base's __init__, self.f = f -/
def spErrI (C : Addr) (f : Str) : Sp := fun vs H Q _ => ∃ (a : Addr) (v : V), vs = [.ref a, v] ∧ H a = some (exo a C none) ∧ ∀ dx, H dx = none → dx ≠ a → Q .non (upd (upd H dx (exd dx [(f, v)])) a (exo a C (some dx)))
/-- what is written of an error's class with one field -/
structure ErrC (K : PySem.W.Frag) (C : Addr) (f : Str) : Prop where
  ox : OexC K C
  noN : PySem.W.findIn K (.ref C) f = some none
  ga : PySem.W.findIn K (.ref C) "__getattribute__" = some (some (.builtin "BaseException.__getattribute__"))
  gg : PySem.W.findIn K (.ref C) "__getattr__" = some none
  hdC : PySem.W.hasDictIn K C = true
  te : PySem.W.exmOne K (.ref C) (.ref C) = some true
section
variable {X : Cx} {C : Addr} {f : Str}
end
/-! with the frame of their own, and as facts of a law's top -/
section
variable {X : Cx} {K : PySem.W.Frag}
theorem pe_heinitK (hK : X.K = K) {e : Expr} {es : List Expr} {ta : TA} {p1 p2 pos : Pos} {x : Str} {B : Addr} {pl : Sem Bool} (hg : Gl X x) (hm : X.mg x = some (.ref B)) (T : BaseI K B) (ha : PA X (e :: es) ta) (hdb : (x == ("__debug__" : Str)) = false := by decide)
    (hc : eval (.Call (.Attribute (.Name x p1) "__init__" p2) (e :: es) [] pos) X.env = (do
      let c ← eval (.Name x p1) X.env
      standAt p2.atName
      let (m, self) ← holding [c] (getMethod c "__init__" pl)
      callWith pos m self (backTo pos (starEach (e :: es) X.env)) (backToKw pos (keywordEach [] X.env))) := by rfl)
    (h1 : starEach (e :: es) X.env = (false, eval e X.env) :: starEach es X.env := by rfl) (h2 : (backTo pos (starEach es X.env)).any (·.1) = false := by rfl) :
    PE X (.Call (.Attribute (.Name x p1) "__init__" p2) (e :: es) [] pos) (tVeI K ta) := by
  subst hK
  exact pe_heinit hg hm T ha hdb hc h1 h2
theorem ps_ostK (hK : X.K = K) {o e : Expr} {to te : TE} {f : Str} {p' pos : Pos} (ho : PE X o to) (he : PE X e te) (hs : swapsWith e (some (.Attribute o f p')) pos.line X.env = pure false := by rfl) : PS X (.Assign [.Attribute o f p'] e pos) (tOst K f to te) := by
  subst hK
  exact ps_ost ho he hs
end
/-- a class of errors with one field; its __init__; its own base -/
structure EA (K : PySem.W.Frag) (mg : Str → Option Value) (x f : Str) where
  C : Addr
  g : mg x = some (.ref C)
  E : ErrC K C f
structure EI (K : PySem.W.Frag) (C : Addr) (q : Str) (st : Stmt) (ps : List Str) where
  f : Addr
  fd : FuncData
  F : Fun K "__init__" q st f fd
  b : Binds K fd ps []
  iC : PySem.W.findIn K (.ref C) "__init__" = some (some (.ref f))
  tI : PySem.W.typeIn K (.ref f) = some (.type "function")
structure BA (K : PySem.W.Frag) (mg : Str → Option Value) (x : Str) where
  C : Addr
  g : mg x = some (.ref C)
  B : BaseI K C
/-- an error of the class at S is what «except S» names -/
theorem exm_self {K : PySem.W.Frag} {S : Addr} (h1 : PySem.W.subIn K (.ref S) (.type "BaseException") = some true) (h2 : PySem.W.isClsIn K S = true) (h3 : PySem.W.typeIn K (.ref S) = some (.type "type")) (h4 : PySem.W.subIn K (.ref S) (.ref S) = some true) :
    PySem.W.exmOne K (.ref S) (.ref S) = some true := by
  have e1 : (PySem.W.subIn K (.ref S) (.type "BaseException") == some true) = true := by rw [h1] <;> rfl
  have e2 : ((PySem.W.clsIn K S).isSome && PySem.W.typeIn K (.ref S) == some (.type "type")) = true := by
    have h2' : (PySem.W.clsIn K S).isSome = true := h2
    rw [h2', h3] <;> rfl
  show (if (PySem.W.subIn K (.ref S) (.type "BaseException") == some true) = true then (if ((PySem.W.clsIn K S).isSome && PySem.W.typeIn K (.ref S) == some (.type "type")) = true then PySem.W.subIn K (.ref S) (.ref S) else none) else none) = some true
  rw [if_pos e1, if_pos e2]
  exact h4
end EH
/-! ### errors over LookupError, by their __init__ (own work, after the rules for ValueError's classes) -/
namespace EH
open PySem PySem.Spec PyProof.Rows L2
abbrev lkObj (c t0 : Addr) (d : Option Addr) : Obj := { cls := .ref c, dict := d, data := .fields #[.ref t0, .none, .none, .none, .bool false, .none] }
/-- what is written of a class right over LookupError -/
structure OexL (K : PySem.W.Frag) (C : Addr) : Prop where
  cls : ∃ nm q N bs sn sub ab col dd k0 k1 k2 k3 k5, K.lookup C = some (excClassObj nm q C N bs lkMro true sn sub ab col dd k0 k1 k2 k3 k5 "LookupError.__new__")
  sa : PySem.W.findIn K (.ref C) "__setattr__" = some (some (.builtin "object.__setattr__"))
  exC : PySem.W.subIn K (.ref C) (.type "BaseException") = some true
  tyC : PySem.W.typeIn K (.ref C) = some (.type "type")
  kC : PySem.W.keepIn K (.ref C) = true
section
open PySem.W PySem.Calls Builtin Builtin.ObjectAttr
variable {pr : Program} {wo : World} {Ar : Around} {Rs : Result → Shared → Prop} {hp : Heap} {gs : Array GenState} {dr : Drawn} {tn : Nat} {oz : OsState}
/-- e.f = v, e an error that is being made, with no dict as yet -/
theorem lk_setattr {K : Frag} {fn : Str} {tk : Tok} {v : Value} {e c t0 : Addr} {data : ClassData} (kin : K.In hp) (he : hp.get? e = some (lkObj c t0 none)) (hcd : clsIn K c = some data)
    (hm : data.mro = .ref c :: lkMro) (hdic : data.hasDict = true) (free : findIn K (.ref c) fn = some none)
    (out : ∀ hp2 tn2 dx, (∀ b o, b ≠ e → hp.get? b = some o → hp2.get? b = some o) → hp.objs.size ≤ dx → dx ≠ e → hp2.get? e = some (lkObj c t0 (some dx)) →
      hp2.Ns1 dx (fun y => if y = fn then some v else none) → Rs (.ok (.ret .none)) ⟨hp2, gs, dr, tn2, oz⟩) :
    codeAny (model pr wo) Ar (.call (.builtin "object.__setattr__") ⟨[.ref e, .str fn tk, v], []⟩) Rs ⟨hp, gs, dr, tn, oz⟩ := by
  have it : InstAt hp e (lkObj c t0 none) c none := ⟨he, rfl, rfl, trivial⟩
  have so := F.store_object
  have inO : data.mro.contains (.type "object") = true := by
    rw [hm, List.contains_cons, show lkMro.contains (.type "object") = true by decide +kernel, Bool.or_true]
  have nem : data.mro.isEmpty = false := by rw [hm]; rfl
  have eNew : e ≠ hp.objs.size := Nat.ne_of_lt (Heap.lt_size he)
  have mIn : mroIn K c (.type "object") = some true := by
    unfold mroIn
    rw [hcd, Option.bind_some, if_neg (by rw [nem]; decide), inO]
  have isO : Looks (model pr wo) hp (isInstance (.ref e) (.type "object")) true := it.type.andThen (looks_mroIn kin mIn)
  have lkm : Looks (model pr wo) hp (mroOf (.ref c)) data.mro := (looks_clsIn kin hcd).andThen .now
  have lk0 : Looks (model pr wo) hp (storeTaker? none) none := .now
  have lkc : Looks (model pr wo) hp (classData c) data := looks_clsIn kin hcd
  have passed : refuseLoop (.ref e) "__setattr__" data.mro = pure () := by
    rw [hm, refuseLoop_ref]
    exact F.store_LookupError.passes (.ref e)
  refine codeAny_call_builtin so.slot.plain so.entry ?_
  refine @check_slot (model pr wo) _ _ ⟨hp, gs, dr, tn, oz⟩ "object.__setattr__" "object" "__setattr__" (.ref e) [.str fn tk, v] [] _ so.kind so.split isO (so.args (.ref e) (.str fn tk) v) ?_
  rw [osa_eq, refuse_eq]
  refine wpAny_bind ?_
  refine wpAny_bind (it.type.at ?_)
  refine wpAny_bind (lkm.at ?_)
  rw [passed]
  refine wpAny_pure (wpAny_bind (it.type.at ?_))
  refine wpAny_bind ((looks_findIn kin free).at ?_)
  refine wpAny_bind (lk0.at ?_)
  show wpAny _ _ (storeInOwnDict (.ref e) (.ref c) (.str fn tk) fn v false) _ _ _
  obtain ⟨n1, n2, n3, n4, n5, n6, n7, n8, n9, n10, n11⟩ := data
  dsimp only at hdic
  subst hdic
  unfold storeInOwnDict ownDictForStores
  repeat (first | with_reducible refine HandSPX.store_in_new ?_ ?_ | with_reducible refine wpAny_loadPart_at he ?_ | with_reducible refine lkc.at ?_ | wp_step)
  · refine ⟨{ cls := .type "dict", data := .dict #[] }, #[], 0, ?_, rfl, fun z hz => absurd hz (by simp), fun _ => rfl⟩
    exact (Heap.get?_update_ne _ _ _ _ eNew.symm).trans (Heap.get?_push_at rfl rfl)
  · intro hp2 tn2 nd sb
    have he1 : (hp.push { cls := .type "dict", data := .dict #[] }).get? e = some (lkObj c t0 none) := Heap.get?_push_of_some _ he
    refine out hp2 tn2 hp.objs.size (fun b o nb ho => ?_) (Nat.le_refl _) eNew.symm ?_ nd
    · rw [sb.2 b (Nat.ne_of_lt (Heap.lt_size ho)), Heap.get?_update_ne _ _ _ _ nb]
      exact Heap.get?_push_of_some _ ho
    · rw [sb.2 e eNew]
      exact Heap.get?_update_self _ he1 rfl
end
section
variable {X : Cx} {pins : List (Addr × Obj)} {σ : L2.St} {H : Hp} {s : Shared} {a C : Addr} {f : Str} {y : V} {u : Value}
/-- the dict is there: what a hidden heap keeps -/
theorem lk_kept {hp hp2 : Heap} {dx t0 : Addr} {mA : Str → Option Value} {zs : List (Str × V)} (I : Inv X pins σ H s) (eh : s.heap = hp) (at_ : H a = some (exo a C none)) (more : hp.objs.size ≤ dx) (kp : ∀ b o, b ≠ a → hp.get? b = some o → hp2.get? b = some o)
    (ea : hp2.get? a = some (lkObj C t0 (some dx))) (nd : hp2.Ns1 dx mA) (rel : ∀ g, RelO (zs.lookup g) (mA g)) :
    Un X.fs [] H (upd (upd H dx (exd dx zs)) a (exo a C (some dx))) hp hp2 ∧ ∀ b o, upd (upd H dx (exd dx zs)) a (exo a C (some dx)) b = some o → ObjOk X.prog X.w (upd (upd H dx (exd dx zs)) a (exo a C (some dx))) hp2 b o := by
  subst eh
  have new : H dx = none := I.hok.fresh more
  have old : ∀ {b : Addr} {o : Obj}, s.heap.get? b = some o → b ≠ dx := fun z e => absurd (Heap.lt_size z) (by rw [e]; exact Nat.not_lt.mpr more)
  have free : ∀ {b : Addr}, H b = none → b ≠ a := fun z e => by rw [e, at_] at z; cases z
  have same : ∀ {b : Addr} {o : HO}, H b = some o → exo a C none ≠ o → upd (upd H dx (exd dx zs)) a (exo a C (some dx)) b = some o := fun {b o} z n => by
    rw [upd_ne (at_ne at_ z n), upd_ne (ne_of_none z new)]
    exact z
  constructor
  · constructor
    · intro b o z n _ _
      exact kp b o (free n) z
    · intro b o z n _ _
      exact ⟨o.slots, kp b o (free n) z⟩
    · intro b o z n _
      rw [upd_ne (free n), upd_ne (old z)]
      exact n
    · intro b o z _
      by_cases e : b = a
      · subst e
        exact ⟨_, ea⟩
      · exact ⟨o, kp b o e z⟩
    · intro b xs z
      exact same z exo_tup
    · intro b o v z
      exact same z exo_frz
    · intro b ps z
      exact ⟨#[], by rw [same z exo_tbl]; simp⟩
  · intro b o z
    by_cases e : b = a
    · subst e
      rw [upd_same] at z
      cases z
      exact exo_ok ea
    · rw [upd_ne e] at z
      by_cases e2 : b = dx
      · subst e2
        rw [upd_same] at z
        cases z
        exact exd_ok nd rel
      · rw [upd_ne e2] at z
        refine (I.hok b o z).stay (fun c v hc w => kp c v ?_ w) (fun c hc => same hc exo_own) fun c xs hc => same hc exo_tup
        rcases hc with rfl | hc
        · exact e
        · exact at_ne at_ hc exo_own
/-- e.f = v, the only field -/
theorem lk_field {A : Around} {Q : Unit → Shared → Prop} {E : Value → Shared → Prop} (T : OexL X.K C) (I : Inv X pins σ H s) (at_ : H a = some (exo a C none)) (none_ : PySem.W.findIn X.K (.ref C) f = some none) (rel : RelV y u)
    (out : ∀ dx t, H dx = none → dx ≠ a → Inv X pins σ (upd (upd H dx (exd dx [(f, y)])) a (exo a C (some dx))) t → Q () t) : wpAny (model X.prog X.w) A (setAttr (.ref a) f u) Q E s := by
  obtain ⟨n1, n2, N, bs, sn, sub, ab, col, dd, k0, k1, k2, k3, k5, hC⟩ := T.cls
  obtain ⟨t0, eo⟩ := exo_at I.hok at_
  have cd : PySem.W.clsIn X.K C = some { name := n1, bases := bs, mro := .ref C :: lkMro, ns := N, qualname := n2, hasDict := true, slotNames := sn, subclasses := sub, abstract := ab, collection := col, hasDel := false } := by
    unfold PySem.W.clsIn
    rw [hC] <;> rfl
  obtain ⟨hp, gs, dr, tn, oz⟩ := s
  refine PySem.W.set_plain I.kIn (ox := lkObj C t0 none) (od := none) ⟨eo, rfl, rfl, trivial⟩ T.sa ?_
  refine lk_setattr I.kIn eo cd rfl rfl none_ fun hp2 tn2 dx kp more ne ea nd => ?_
  obtain ⟨un, ok⟩ := lk_kept (zs := [(f, y)]) I rfl at_ more kp ea nd (relO_put (fs := []) rel fun g => True.intro)
  exact out dx _ (I.hok.fresh more) ne (I.un (t' := tn2) un ok)
/-- LookupError.__init__(e, ..) -/
theorem lk_binit {A : Around} {us : List Value} {Q : Value → Shared → Prop} {E : Value → Shared → Prop} (T : OexL X.K C) (I : Inv X pins σ H s) (at_ : H a = some (exo a C none)) (few : us.length ≤ sizeLine) (out : ∀ t, Inv X pins σ H t → Q .none t) :
    wpAny (model X.prog X.w) A (call (.builtin "LookupError.__init__") (.ref a :: us)) Q E s := by
  obtain ⟨n1, n2, N, bs, sn, sub, ab, col, dd, k0, k1, k2, k3, k5, hC⟩ := T.cls
  obtain ⟨t0, eo⟩ := exo_at I.hok at_
  obtain ⟨hp, gs, dr, tn, oz⟩ := s
  refine wpAny_call (PySem.HandSPX.init_base F.excBase_LookupError (fun Y => rfl) (I.kIn _ _ hC) eo few fun hp2 t1 kp ea => ?_)
  have J := I.write (t' := tn) (x := a) (e := a) (o := exo a C none) (by rw [at_]; trivial) (.inl rfl) kp ⟨_, ea⟩ (exo_ok ea)
  have e0 : upd H a (exo a C none) = H := funext fun b => by
    by_cases e : b = a
    · subst e
      exact upd_same.trans at_.symm
    · exact upd_ne e
  rw [e0] at J
  exact out _ J
end
/-! ### readings, rules -/
def tLkI (K : PySem.W.Frag) (ta : TA) : TE := fun σ H Q => ta σ H fun vs H1 => ∃ (a C : Addr) (ws : List V), vs = .ref a :: ws ∧ ws.length ≤ 1000 ∧ OexL K C ∧ H1 a = some (exo a C none) ∧ Q .non H1
def tLkF (K : PySem.W.Frag) (f : Str) (to te : TE) : TS := fun D σ H => te σ H fun y H1 => to σ H1 fun x H2 => ∃ a C : Addr, x = .ref a ∧ OexL K C ∧ PySem.W.findIn K (.ref C) f = some none ∧ H2 a = some (exo a C none) ∧
  ∀ dx, H2 dx = none → dx ≠ a → D.nx σ (upd (upd H2 dx (exd dx [(f, y)])) a (exo a C (some dx)))
theorem lk_typ : typeOf (.type "LookupError") = pure (.type "type") := by kernel_rfl
section
variable {K : PySem.W.Frag} {X : Cx} {e o : Expr} {es : List Expr} {ta : TA} {to te : TE} {f : Str} {p p1 p2 p' pos : Pos}
theorem lk_ap {pins : List (Addr × Obj)} {σ : L2.St} {Q : VK} {us : List Value} {t : Shared}
    (h : AP X pins σ (fun vs H1 => ∃ (a C : Addr) (ws : List V), vs = .ref a :: ws ∧ ws.length ≤ 1000 ∧ OexL X.K C ∧ H1 a = some (exo a C none) ∧ Q .non H1) us t) :
    wpAny (model X.prog X.w) X.A (call (.builtin "LookupError.__init__") us) (EP X pins σ Q) X.xe t := by
  rcases h with ⟨_, G, J, vals, a, C, ws, rfl, few, own, at_, out⟩
  match us, vals with
  | _ :: ur, .cons ea rest =>
    rw [show _ = Value.ref a from ea]
    have e := Paired.length rest
    exact lk_binit own J at_ (by rw [sizeLine_eq]; omega) fun t' J' => ⟨.non, G, J', rfl, out⟩
theorem pe_lkinit (hX : X.K = K) {pl : Sem Bool} (hg : Gl X "LookupError") (hm : X.mg "LookupError" = none) (vl : PySem.W.findCls K (.type "LookupError") (.type "type") "__init__" = some (.val (.builtin "LookupError.__init__"))) (ha : PA X (e :: es) ta)
    (hc : eval (.Call (.Attribute (.Name "LookupError" p1) "__init__" p2) (e :: es) [] pos) X.env = (do
      let c ← eval (.Name "LookupError" p1) X.env
      standAt p2.atName
      let (m, self) ← holding [c] (getMethod c "__init__" pl)
      callWith pos m self (backTo pos (starEach (e :: es) X.env)) (backToKw pos (keywordEach [] X.env))) := by rfl)
    (h1 : starEach (e :: es) X.env = (false, eval e X.env) :: starEach es X.env := by rfl) (h2 : (backTo pos (starEach es X.env)).any (·.1) = false := by rfl) :
    PE X (.Call (.Attribute (.Name "LookupError" p1) "__init__" p2) (e :: es) [] pos) (tLkI K ta) := by
  subst hX
  constructor
  intro pins s σ H Q I h
  have named := fun (k : Nat) => PyProof.Rows.callWith_method1 (env := X.env) (first := []) (thn (ha.run pos pins { s with toks := k } σ H _ (I.tok k) h) fun _ _ => lk_ap) h1 h2
  obtain ⟨m, fr⟩ := I.fr
  refine PySem.W.methodCall_KW (ld_blt I hg hm PyProof.Rows.Boot.«LookupError» ?_ (by decide) (by decide)) hc
  exact PySem.W.method_type fr I.ok.mod.kin lk_typ (by decide +kernel) vl (by decide +kernel) (named _)
theorem ps_lkf (hX : X.K = K) (ho : PE X o to) (he : PE X e te) (hs : swapsWith e (some (.Attribute o f p')) pos.line X.env = pure false := by rfl) : PS X (.Assign [.Attribute o f p'] e pos) (tLkF K f to te) := by
  subst hX
  constructor
  intro pins s σ H D I h
  refine plainObj_wpAny_Assign_Attribute (thn (he.run pins s σ H _ I h) fun v s1 z1 => ?_) hs
  obtain ⟨y, H1, I1, ry, q1⟩ := z1
  refine thn (ho.run pins s1 σ H1 _ I1 q1) fun u s2 z2 => ?_
  obtain ⟨x, H2, I2, rx, a, C, ex, own, no, at_, q⟩ := z2
  subst ex
  cases (show u = Value.ref a from rx)
  exact lk_field own I2 at_ no ry fun dx t nd ne J => ⟨σ, _, J, q dx nd ne⟩
end
/-- what is written of an error's class over LookupError with one field -/
structure ErrL (K : PySem.W.Frag) (C : Addr) (f : Str) : Prop where
  ox : OexL K C
  noN : PySem.W.findIn K (.ref C) f = some none
  ga : PySem.W.findIn K (.ref C) "__getattribute__" = some (some (.builtin "BaseException.__getattribute__"))
  gg : PySem.W.findIn K (.ref C) "__getattr__" = some none
  hdC : PySem.W.hasDictIn K C = true
  te : PySem.W.exmOne K (.ref C) (.ref C) = some true
structure EAL (K : PySem.W.Frag) (mg : Str → Option Value) (x f : Str) where
  C : Addr
  g : mg x = some (.ref C)
  E : ErrL K C f
section
variable {X : Cx} {C : Addr} {f : Str}
end
/-! ### a try whose clauses all name the error: except A as n: .. except B as m: .. -/
/-- X's frame has caught an exception (at a, of the class cls, its dict d); sI is the state without it, B the ground -/
structure Cau (X : Cx) (pins : List (Addr × Obj)) (σ : L2.St) (H : Hp) (B : Heap) (a : Addr) (cls : Value) (d : Option Addr) (sI s : Shared) : Prop where
  stk : X.stack = X.env :: X.outer
  own : X.env.frame = some X.env.locals
  inv : Inv X pins σ H sI
  grd : ∀ b o, sI.heap.get? b = some o → b ∉ frs X.stack → B.get? b = some o
  ups : sI.heap.UpToSlots s.heap
  fly : HandSPX.FlyingZ B (X.env :: X.outer) a (Zc cls d) s.heap
  new : H a = none
  oss : s.os = sI.os
  bar : AllBare s.gens
theorem frs_head {e : Env} {l : List Env} {b : Addr} (h : e.frame = some b) : b ∈ frs (e :: l) := List.mem_filterMap.mpr ⟨e, .head _, h⟩
theorem frs_tail {e : Env} {l : List Env} {b : Addr} (h : b ∈ frs l) : b ∈ frs (e :: l) := by
  obtain ⟨x, hx, hb⟩ := List.mem_filterMap.mp h
  exact List.mem_filterMap.mpr ⟨x, .tail _ hx, hb⟩
section
variable {X : Cx} {pins : List (Addr × Obj)} {σ : L2.St} {H : Hp} {B : Heap} {a : Addr} {cls : Value} {d : Option Addr} {sI s : Shared}
theorem Cau.here (c : Cau X pins σ H B a cls d sI s) : Inv X pins σ H s := c.inv.landed c.grd c.fly.1 c.ups c.oss c.bar
theorem Cau.onto (c : Cau X pins σ H B a cls d sI s) {g : Heap} (f : HandSPX.FlyingZ B (X.env :: X.outer) a (Zc cls d) g) (u : s.heap.UpToSlots g) : Cau X pins σ H B a cls d sI { s with heap := g } :=
  { c with ups := c.ups.trans u, fly := f }
/-- its record, and the state in which a suite runs -/
theorem Cau.held (c : Cau X pins σ H B a cls d sI s) : ∃ oe, s.heap.get? a = some oe ∧ Zc cls d oe ∧ (∃ vs, oe.data = .fields vs) ∧ Inv (X.suite a ((a, oe) :: (X.pn ++ pins))) [] σ H s := by
  obtain ⟨oe, rs, g1, g2, g3⟩ := c.fly.there
  have out : a ∉ frs (X.env :: X.outer) := fun m => by
    obtain ⟨_, o, g4, nf⟩ := c.fly.2.2.1.mem m
    rw [g1] at g4
    exact nf rs (Option.some.inj g4 ▸ g3)
  exact ⟨oe, g1, g2, ⟨rs, g3⟩, c.here.suite g1 g3 c.new (fun z => out (frs_head (by rw [c.own, z]))) fun m => out (frs_tail m)⟩
/-- a clause is asked -/
theorem Cau.asked (c : Cau X pins σ H B a cls d sI s) {x : Str} {k : Value} {b : Bool} {np : Pos} {R : Bool → Shared → Prop} {E F : Value → Shared → Prop} (hn : Names X x k) (hb : PySem.W.exmOne X.K cls k = some b) (q : R b s) :
    wpAny (model X.prog X.w) (X.A.mark (some (.ref a))) (eval (.Name x np) X.env) (fun v t => wpAny (model X.prog X.w) (X.A.mark (some (.ref a))) (excMatches (.ref a) v) R F t) E s := by
  obtain ⟨oe, g1, g2, -, J⟩ := c.held
  have ty : PySem.W.Looks (model X.prog X.w) s.heap (typeOf (.ref a)) cls := fun _ _ _ _ k q => wpAny_typeOf_ref (k a oe g1) (g2.1.symm ▸ q)
  have fit : wpAny (model X.prog X.w) (X.A.mark (some (.ref a))) (excMatches (.ref a) k) R F s := (PySem.W.exm_one c.here.kIn ty hb).here q
  obtain ⟨n1, n2, n3 | ⟨n3, n4, n5⟩⟩ := hn
  · exact ld_glob J n1 n3 fit n2
  · exact ld_blt J n1 n3 n4 fit n5 n2
/-- how a suite's end is seen behind the clause: the name is gone -/
def unb (i : Nat) (D : Ends) : Ends := { nx := fun σ H => D.nx (σ.set i none) H, rt := D.rt, bk := fun σ H => D.bk (σ.set i none) H, ct := fun σ H => D.ct (σ.set i none) H }
/-- its suite runs, with the name -/
theorem Cau.runs (c : Cau X pins σ H B a cls d sI s) {n : Str} {i : Nat} {st : List Stmt} {p : Pos} {D : Ends} {ts : TS} {E1 E2 E3 : Value → Shared → Prop} (hN : X.N.Nodup) (hi : X.N[i]? = some n) (hl : X.env.kindOf n = some .local)
    (hs : ∀ (oe : Obj) (pn : List (Addr × Obj)), Zc cls d oe → (∃ vs, oe.data = .fields vs) → PSs (X.suite a ((a, oe) :: pn)) st ts) (h : ts (unb i D) (σ.set i (some (.ref a))) H) :
    wpAny (model X.prog X.w) (X.A.mark (some (.ref a))) (setFlight (.ref a) none) (fun _ s1 => wpAny (model X.prog X.w) (X.A.mark (some (.ref a))) (storeName X.env n (.ref a)) (fun _ s2 => wpAny (model X.prog X.w) (X.A.mark (some (.ref a))) (execs st X.env)
      (fun f s3 => wpAny (model X.prog X.w) X.A (do bindName X.env n .none; unbindBehindTheSuite X.env n p) (fun _ s4 => SP X pins D f s4) X.xe s3) E1 s2) E2 s1) E3 s := by
  refine HandSPX.lands_againZ c.fly fun g fl up => ?_
  have c2 := c.onto fl up
  obtain ⟨oe, -, g2, g3, J⟩ := c2.held
  refine store_ok (X := X.suite a ((a, oe) :: (X.pn ++ pins))) (v := .ref a) J hN hi (.inl hl) rfl (fun s2 J2 => ?_) (.inr hl)
  refine wpAny_mono ((hs oe _ g2 g3).run [] s2 _ H _ J2 h) (fun f s3 out => ?_) fun _ _ z => z.elim
  have away : ∀ {σ3 : L2.St} {H3 : Hp} {Q : Unit → Shared → Prop}, Inv (X.suite a ((a, oe) :: (X.pn ++ pins))) [] σ3 H3 s3 → (∀ t, Inv X pins (σ3.set i none) H3 t → Q () t) → wpAny (model X.prog X.w) X.A (do bindName X.env n .none; unbindBehindTheSuite X.env n p) Q X.xe s3 :=
    fun J3 hq => gone_ok (J3.unsuite c.inv.ok) hN hi hl hq
  match f, out with
  | .next, ⟨_, _, J3, q⟩ => exact away J3 fun _ J4 => ⟨_, _, J4, q⟩
  | .brk, ⟨_, _, J3, q⟩ => exact away J3 fun _ J4 => ⟨_, _, J4, q⟩
  | .cont, ⟨_, _, J3, q⟩ => exact away J3 fun _ J4 => ⟨_, _, J4, q⟩
  | .ret _, ⟨_, _, _, J3, r, q⟩ => exact away J3 fun _ J4 => ⟨_, _, _, J4, r, q⟩
/-- no clause takes it -/
theorem Cau.passed (c : Cau X pins σ H B a cls d sI s) {W : WX} {Q : Flow → Shared → Prop} (tk : Takes X W) (w : W cls d σ H) : wpAny (model X.prog X.w) X.A (handleBy (.ref a) X.env []) Q X.xe s := by
  refine wpAny_handleBy_nil ?_
  obtain ⟨-, -, -, oe, rs, T, oT, ts, g1, -, g3, g4, -⟩ := id c.fly
  have up : wpAny (model X.prog X.w) X.A (setFlight (.ref a) X.env.frame) (fun _ t => wpAny (model X.prog X.w) X.A (throw (.ref a) : Sem Flow) Q X.xe t) X.xe s := by
    rw [c.own]
    refine HandSPX.setFlight_upZ c.fly fun g hd u => wpAny_throw (tk _ _ ⟨a, B, sI, pins, σ, H, cls, d, rfl, c.inv, c.grd, c.ups.trans u, ?_, c.new, c.oss, c.bar, w⟩)
    rw [c.stk]
    exact .inr (.inr hd)
  unfold PySem.passOn
  refine wpAny_bind (wpAny_field g1 g3 g4 ?_)
  rw [if_neg (by simp)]
  first
    | exact wpAny_bind up
    | exact wpAny_bind (wpAny_pure (wpAny_bind up))
end
/-- a clause: the class, the name's slot, what its suite does -/
abbrev NCl := Value × Nat × (Addr → Value → Option Addr → TS)
/-- what the clauses, one after the other, wish of an exception -/
def wNs (K : PySem.W.Frag) (Wout : WX) (D : Ends) : List NCl → WX
  | [] => Wout
  | (k, i, ts) :: r => fun cls d σ H => ∃ b, PySem.W.exmOne K cls k = some b ∧ (b = true → ∀ a, H a = none → ts a cls d (unb i D) (σ.set i (some (.ref a))) H) ∧ (b = false → wNs K Wout D r cls d σ H)
inductive NHs (X : Cx) : List ExceptHandler → List NCl → Prop
  | nil : NHs X [] []
  | cons {x n : Str} {k : Value} {i : Nat} {ts : Addr → Value → Option Addr → TS} {b : Stmt} {bs : List Stmt} {p p' : Pos} {hds : List ExceptHandler} {l : List NCl} (hn : Names X x k) (hi : X.N[i]? = some n) (hl : X.env.kindOf n = some .local)
      (hs : ∀ (a : Addr) (cls : Value) (d : Option Addr) (oe : Obj) (pn : List (Addr × Obj)), Zc cls d oe → (∃ vs, oe.data = .fields vs) → PSs (X.suite a ((a, oe) :: pn)) (b :: bs) (ts a cls d)) (r : NHs X hds l) :
      NHs X (.ExceptHandler (some (.Name x p)) (some n) (b :: bs) p' :: hds) ((k, i, ts) :: l)
theorem Cau.clauses {X : Cx} {pins : List (Addr × Obj)} {σ : L2.St} {H : Hp} {B : Heap} {a : Addr} {cls : Value} {d : Option Addr} {sI s : Shared} {W : WX} {D : Ends} (hN : X.N.Nodup) (tk : Takes X W) (c : Cau X pins σ H B a cls d sI s) :
    ∀ {hds : List ExceptHandler} {l : List NCl}, NHs X hds l → wNs X.K W D l cls d σ H → wpAny (model X.prog X.w) X.A (handleBy (.ref a) X.env hds) (SP X pins D) X.xe s
  | _, _, .nil, w => c.passed tk w
  | _, _, .cons hn hi hl hs r, ⟨true, e, yes, _⟩ => wpAny_handleBy_cons (codeAny_handlers_test (c.asked hn e (codeAny_handlers_suite_as (c.runs hN hi hl (hs a cls d) (yes rfl a c.new))))) (by intro z; cases z)
  | _, _, .cons hn hi hl hs r, ⟨false, e, _, no⟩ => wpAny_handleBy_cons (codeAny_handlers_test (c.asked hn e (Cau.clauses hN tk c r (no rfl)))) (by intro z; cases z)
/-! ### o.m(e, ..) in a try: what it lets out is told at the slots of that place -/
section
variable {X : Cx} {CT : CXT} {k : Nat} {f C : Addr} {fd : FuncData} {ps : List Str} {sp : Sp} {E : L2.St → XK} {m : Str} {pos apos : Pos} {e o : Expr} {es : List Expr} {ta : TE} {t : TA}
end
/-- a def, whatever its defaults are -/
structure FunV (K : PySem.W.Frag) (x qual : Str) (st : Stmt) (f : Addr) (fd : FuncData) : Prop where
  ex : ∃ dvs kws, FunD K x qual (defArgs st) (defBody st) (defScope st) dvs kws f fd
section
variable {P : Program} {w : World} {K : PySem.W.Frag} {mg : Str → Option Value} {base : Heap} {x qual : Str} {st : Stmt} {f : Addr} {fd : FuncData}
theorem FunV.kp (F : FunV K x qual st f fd) : PySem.W.keepIn K (.ref f) = true := by
  obtain ⟨_, _, D⟩ := F.ex
  exact D.kp
theorem FunV.ok {N ps : List Str} {k : Nat} {sp : Sp} (F : FunV K x qual st f fd) (S : FnScope N ps (defScope st)) (len : ∀ vs H Q E, sp vs H Q E → vs.length = ps.length)
    (hbody : ∀ (cdv : Value) (A : Around) (outer : List Env) (s : Shared) (H : Hp) (vs : List V) (Q : VK) (E : XK), Room k (A.deeper (envOfC qual (defScope st) s.heap.objs.size f cdv)) → sp vs H Q E →
      ∃ t, PSs (cxOf CX0 P w K mg base N qual (defScope st) f cdv A outer s H E).nox (defBody st) t ∧ t { nx := fun _ H' => Q .non H', rt := Q } (start N vs) H) : FnOk P w K mg base CX0 (k + 1) f fd ps sp := by
  obtain ⟨_, _, D⟩ := F.ex
  refine D.ok S len fun cdv A outer s H vs Q E hr hsp => ?_
  obtain ⟨t, h, q⟩ := hbody cdv A outer s H vs Q E hr hsp
  exact ⟨t, h.nox, q⟩
end
/-- a method with one keyword-only parameter that is None by default -/
structure DMK (K : PySem.W.Frag) (C : Addr) (m q : Str) (st : Stmt) (ps : List Str) where
  f : Addr
  fd : FuncData
  F : Fun K m q st f fd
  b : Binds K fd ps [Value.none]
  m : Meth K C m f
/-- a method with defaults, all parameters given -/
structure DMV (K : PySem.W.Frag) (C : Addr) (m q : Str) (st : Stmt) (ps : List Str) where
  f : Addr
  fd : FuncData
  F : FunV K m q st f fd
  b : Binds K fd ps []
  m : Meth K C m f
end EH
namespace EH
open PySem L2 PyProof.Rows
/-! ### t[::-1] of a tuple -/
section
variable {prog : Program} {w : World} {A : Around} {E : Value → Shared → Prop} {s : Shared}
end
section
variable {X : Cx}
end
section
variable {X : Cx} {K : PySem.W.Frag}
end
end EH
namespace EH
open PySem L2
/-! ### programs as plain data -/
inductive Ex where
  | num (i : Int) | var (x : Str) | plus (a b : Ex) | minus (a b : Ex) | times (k : Int) (a : Ex)
inductive Ts where
  | less (a b : Ex) | odd (a : Ex) | not (t : Ts)
inductive Sm where
  | set (x : Str) (e : Ex) | half (x : Str) (e : Ex) | tell (e : Ex) | say (w : Str) | stop (w : Str)
  | ite (t : Ts) (yes no : List Sm) | rep (k : Nat) (b : List Sm)
/-! what a value is in the heap: tuples of tuples, ints, texts -/
mutual
def Tr (H : Hp) : PyData → V → Prop
  | .none, v => v = .non
  | .bool b, v => v = .bl b
  | .int i, v => v = .int i
  | .str x, v => v = .str x
  | .tuple ds, v => ∃ a xs, v = .ref a ∧ H a = some (.tup xs) ∧ TrAll H ds xs
  | .list _, _ => False
  | .dict _, _ => False
def TrAll (H : Hp) : List PyData → List V → Prop
  | [], xs => xs = []
  | d :: ds, xs => ∃ v vs, xs = v :: vs ∧ Tr H d v ∧ TrAll H ds vs
end
mutual
theorem Tr.mono {H H' : Hp} (k : ∀ b xs, H b = some (.tup xs) → H' b = some (.tup xs)) : ∀ (d : PyData) (v : V), Tr H d v → Tr H' d v
  | .none, v, h => by simp only [Tr] at h ⊢; exact h
  | .bool b, v, h => by simp only [Tr] at h ⊢; exact h
  | .int i, v, h => by simp only [Tr] at h ⊢; exact h
  | .str x, v, h => by simp only [Tr] at h ⊢; exact h
  | .tuple ds, v, h => by
    simp only [Tr] at h ⊢
    obtain ⟨a, xs, e, h1, h2⟩ := h
    exact ⟨a, xs, e, k a xs h1, TrAll.mono k ds xs h2⟩
  | .list _, v, h => by simp only [Tr] at h
  | .dict _, v, h => by simp only [Tr] at h
theorem TrAll.mono {H H' : Hp} (k : ∀ b xs, H b = some (.tup xs) → H' b = some (.tup xs)) : ∀ (ds : List PyData) (vs : List V), TrAll H ds vs → TrAll H' ds vs
  | [], vs, h => by simp only [TrAll] at h ⊢; exact h
  | d :: ds, vs, h => by
    simp only [TrAll] at h ⊢
    obtain ⟨v, r, e, h1, h2⟩ := h
    exact ⟨v, r, e, Tr.mono k d v h1, TrAll.mono k ds r h2⟩
end
theorem Kp.tr {S : List Addr} {H H' : Hp} {d : PyData} {v : V} (k : Kp S H H') (h : Tr H d v) : Tr H' d v := Tr.mono k.tup d v h
mutual
theorem Tr.dp {K : PySem.W.Frag} {H : Hp} : ∀ (d : PyData) (v : V), Tr H d v → Dp K H v d
  | .none, v, h => by simp only [Tr] at h; subst h; exact .non
  | .bool b, v, h => by simp only [Tr] at h; subst h; exact .bl b
  | .int i, v, h => by simp only [Tr] at h; subst h; exact .int i
  | .str x, v, h => by simp only [Tr] at h; subst h; exact .str x
  | .tuple ds, v, h => by
    simp only [Tr] at h
    obtain ⟨a, xs, e, h1, h2⟩ := h
    subst e
    exact .tup (SqT.of h1) (TrAll.dp ds xs h2)
  | .list _, v, h => by simp only [Tr] at h
  | .dict _, v, h => by simp only [Tr] at h
theorem TrAll.dp {K : PySem.W.Frag} {H : Hp} : ∀ (ds : List PyData) (vs : List V), TrAll H ds vs → DpAll K H vs ds
  | [], vs, h => by simp only [TrAll] at h; subst h; exact .nil
  | d :: ds, vs, h => by
    simp only [TrAll] at h
    obtain ⟨v, r, e, h1, h2⟩ := h
    subst e
    exact .cons (Tr.dp d v h1) (TrAll.dp ds r h2)
end
theorem TrAll.length {H : Hp} : ∀ {ds : List PyData} {vs : List V}, TrAll H ds vs → vs.length = ds.length
  | [], vs, h => by simp only [TrAll] at h; subst h; rfl
  | d :: ds, vs, h => by
    simp only [TrAll] at h
    obtain ⟨v, r, e, h1, h2⟩ := h
    subst e
    rw [List.length_cons, List.length_cons, TrAll.length h2]
theorem TrAll.get {H : Hp} : ∀ {ds : List PyData} {vs : List V} {i : Nat} {d : PyData}, TrAll H ds vs → ds[i]? = some d → ∃ v, vs[i]? = some v ∧ Tr H d v
  | [], vs, i, d, h, e => by simp at e
  | d :: ds, vs, 0, d', h, e => by
    simp only [TrAll] at h
    obtain ⟨v, r, rfl, h1, h2⟩ := h
    cases e
    exact ⟨v, rfl, h1⟩
  | d :: ds, vs, i + 1, d', h, e => by
    simp only [TrAll] at h
    obtain ⟨v, r, rfl, h1, h2⟩ := h
    exact TrAll.get (i := i) h2 e
theorem TrAll.append {H : Hp} : ∀ {ds es : List PyData} {vs ws : List V}, TrAll H ds vs → TrAll H es ws → TrAll H (ds ++ es) (vs ++ ws)
  | [], es, vs, ws, h, g => by simp only [TrAll] at h; subst h; exact g
  | d :: ds, es, vs, ws, h, g => by
    simp only [TrAll] at h
    obtain ⟨v, r, rfl, h1, h2⟩ := h
    simp only [List.cons_append, TrAll]
    exact ⟨v, r ++ ws, rfl, h1, TrAll.append h2 g⟩
/-! what a tuple is -/
theorem tr_str {H : Hp} {x : Str} {v : V} (h : Tr H (.str x) v) : v = .str x := by simp only [Tr] at h; exact h
theorem tr_tup2 {H : Hp} {d1 d2 : PyData} {v : V} (h : Tr H (.tuple [d1, d2]) v) : ∃ a x1 x2, v = .ref a ∧ H a = some (.tup [x1, x2]) ∧ Tr H d1 x1 ∧ Tr H d2 x2 := by
  simp only [Tr, TrAll] at h
  obtain ⟨a, xs, rfl, h1, x1, _, rfl, t1, x2, _, rfl, t2, rfl⟩ := h
  exact ⟨a, x1, x2, rfl, h1, t1, t2⟩
theorem tr_tup3 {H : Hp} {d1 d2 d3 : PyData} {v : V} (h : Tr H (.tuple [d1, d2, d3]) v) : ∃ a x1 x2 x3, v = .ref a ∧ H a = some (.tup [x1, x2, x3]) ∧ Tr H d1 x1 ∧ Tr H d2 x2 ∧ Tr H d3 x3 := by
  simp only [Tr, TrAll] at h
  obtain ⟨a, xs, rfl, h1, x1, _, rfl, t1, x2, _, rfl, t2, x3, _, rfl, t3, rfl⟩ := h
  exact ⟨a, x1, x2, x3, rfl, h1, t1, t2, t3⟩
theorem tr_tup4 {H : Hp} {d1 d2 d3 d4 : PyData} {v : V} (h : Tr H (.tuple [d1, d2, d3, d4]) v) : ∃ a x1 x2 x3 x4, v = .ref a ∧ H a = some (.tup [x1, x2, x3, x4]) ∧ Tr H d1 x1 ∧ Tr H d2 x2 ∧ Tr H d3 x3 ∧ Tr H d4 x4 := by
  simp only [Tr, TrAll] at h
  obtain ⟨a, xs, rfl, h1, x1, _, rfl, t1, x2, _, rfl, t2, x3, _, rfl, t3, x4, _, rfl, t4, rfl⟩ := h
  exact ⟨a, x1, x2, x3, x4, rfl, h1, t1, t2, t3, t4⟩
/-! their data -/
def Ex.d : Ex → PyData
  | .num i => .int i
  | .var x => .str x
  | .plus a b => .tuple [.str "plus", a.d, b.d]
  | .minus a b => .tuple [.str "minus", a.d, b.d]
  | .times k a => .tuple [.str "times", .int k, a.d]
def Ts.d : Ts → PyData
  | .less a b => .tuple [.str "less", a.d, b.d]
  | .odd a => .tuple [.str "odd", a.d]
  | .not t => .tuple [.str "not", t.d]
mutual
def Sm.d : Sm → PyData
  | .set x e => .tuple [.str "set", .str x, e.d]
  | .half x e => .tuple [.str "half", .str x, e.d]
  | .tell e => .tuple [.str "tell", e.d]
  | .say w => .tuple [.str "say", .str w]
  | .stop w => .tuple [.str "stop", .str w]
  | .ite t y n => .tuple [.str "if", t.d, .tuple (Sm.ds y), .tuple (Sm.ds n)]
  | .rep k b => .tuple [.str "repeat", .int k, .tuple (Sm.ds b)]
def Sm.ds : List Sm → List PyData
  | [] => []
  | s :: r => s.d :: Sm.ds r
end
/-! ### what they are worth -/
def Ex.ev (env : Str → Int) : Ex → Int
  | .num i => i
  | .var x => env x
  | .plus a b => a.ev env + b.ev env
  | .minus a b => a.ev env - b.ev env
  | .times k a => k * a.ev env
def Ts.ev (env : Str → Int) : Ts → Bool
  | .less a b => decide (a.ev env < b.ev env)
  | .odd a => decide ((a.ev env) % 2 = 1)
  | .not t => !t.ev env
/-- a name that can be shown -/
def NmOk (x : Str) : Prop := PyData.strOk x = true ∧ x.length ≤ 1000
/-- factors are small -/
def Ex.ok : Ex → Prop
  | .num i => -99 ≤ i ∧ i ≤ 99
  | .var x => NmOk x
  | .plus a b => a.ok ∧ b.ok
  | .minus a b => a.ok ∧ b.ok
  | .times k a => -9 ≤ k ∧ k ≤ 9 ∧ a.ok
def Ex.deep : Ex → Nat
  | .num _ => 1
  | .var _ => 1
  | .plus a b => max a.deep b.deep + 1
  | .minus a b => max a.deep b.deep + 1
  | .times _ a => a.deep + 1
/-! ### places -/
mutual
def Sm.pl : Sm → Nat
  | .ite _ y n => 1 + (Sm.pls y + Sm.pls n)
  | .rep _ b => 1 + Sm.pls b
  | .set _ _ => 1
  | .half _ _ => 1
  | .tell _ => 1
  | .say _ => 1
  | .stop _ => 1
def Sm.pls : List Sm → Nat
  | [] => 0
  | s :: r => s.pl + Sm.pls r
end
mutual
def Sm.nest : Sm → Nat
  | .ite _ y n => max (Sm.nests y) (Sm.nests n) + 1
  | .rep _ b => Sm.nests b + 1
  | .set _ _ => 0
  | .half _ _ => 0
  | .tell _ => 0
  | .say _ => 0
  | .stop _ => 0
def Sm.nests : List Sm → Nat
  | [] => 0
  | s :: r => max s.nest (Sm.nests r)
end
def Sm.blks : Sm → List (List Sm)
  | .ite _ y n => [y, n]
  | .rep _ b => [b]
  | .set _ _ => []
  | .half _ _ => []
  | .tell _ => []
  | .say _ => []
  | .stop _ => []
theorem Sm.pl_blks : ∀ s : Sm, s.pl = 1 + ((Sm.blks s).map Sm.pls).sum
  | .ite _ y n => by simp [Sm.pl, Sm.blks]
  | .rep _ b => by simp [Sm.pl, Sm.blks]
  | .set _ _ => by simp [Sm.pl, Sm.blks]
  | .half _ _ => by simp [Sm.pl, Sm.blks]
  | .tell _ => by simp [Sm.pl, Sm.blks]
  | .say _ => by simp [Sm.pl, Sm.blks]
  | .stop _ => by simp [Sm.pl, Sm.blks]
theorem Sm.pl_pos (s : Sm) : 0 < s.pl := by rw [Sm.pl_blks]; omega
theorem Sm.ds_map : ∀ l : List Sm, Sm.ds l = l.map Sm.d
  | [] => by simp [Sm.ds]
  | s :: r => by simp [Sm.ds, Sm.ds_map r]
/-! ### the names of a run -/
def EnvRel (kvs : List (Key × V)) (env : Str → Int) : Prop := ∀ y : Str, (valV kvs (Sum.inr y)).getD (.int 0) = .int (env y)
/-- expressions at most three deep -/
def Ts.ok : Ts → Prop
  | .less a b => (a.ok ∧ a.deep ≤ 3) ∧ b.ok ∧ b.deep ≤ 3
  | .odd a => a.ok ∧ a.deep ≤ 3
  | .not t => t.ok
def Ts.nots : Ts → Nat
  | .less _ _ => 0
  | .odd _ => 0
  | .not t => t.nots + 1
theorem Ex.deep_pos : ∀ e : Ex, 0 < e.deep
  | .num _ => Nat.one_pos
  | .var _ => Nat.one_pos
  | .plus _ _ => Nat.succ_pos _
  | .minus _ _ => Nat.succ_pos _
  | .times _ _ => Nat.succ_pos _
/-! ### runs as plain functions -/
structure Cs where
  env : Str → Int
  said : List Key
  turns : List Int
def setE (env : Str → Int) (x : Str) (v : Int) : Str → Int := fun y => if y = x then v else env y
section
variable (dec : Nat → Int → Int → Int) (ways : Int → Option Int)
def halv (s : Cs) (v p : Int) : Int × Cs :=
  if v % 2 = 0 then (v / 2, s) else
    match ways p with
    | some c => (v / 2 + c, s)
    | none => (v / 2 + dec s.turns.length v p, { s with turns := s.turns ++ [dec s.turns.length v p] })
def iterN : Nat → (Cs → Option Str × Cs) → Cs → Option Str × Cs
  | 0, _, s => (none, s)
  | n + 1, f, s => match f s with
    | (some c, s') => (some c, s')
    | (none, s') => iterN n f s'
mutual
def Sm.run : Sm → Int → Cs → Option Str × Cs
  | .set x e, _, s => (none, { s with env := setE s.env x (e.ev s.env) })
  | .half x e, p, s => (none, { (halv dec ways s (e.ev s.env) p).2 with env := setE s.env x (halv dec ways s (e.ev s.env) p).1 })
  | .tell e, _, s => (none, { s with said := s.said ++ [Sum.inl (e.ev s.env)] })
  | .say c, _, s => (none, { s with said := s.said ++ [Sum.inr c] })
  | .stop c, _, s => (some c, s)
  | .ite t y n, p, s => if t.ev s.env then Sm.runs y (p + 1) s else Sm.runs n (p + 1 + (Sm.pls y : Int)) s
  | .rep k b, p, s => iterN k (fun s => Sm.runs b (p + 1) s) s
def Sm.runs : List Sm → Int → Cs → Option Str × Cs
  | [], _, s => (none, s)
  | t :: r, p, s => match t.run p s with
    | (some c, s') => (some c, s')
    | (none, s') => Sm.runs r (p + (t.pl : Int)) s'
end
end
mutual
def Sm.wt : Sm → Nat
  | .ite _ y n => 1 + (Sm.wts y + Sm.wts n)
  | .rep k b => 1 + k * Sm.wts b
  | .set _ _ => 1
  | .half _ _ => 1
  | .tell _ => 1
  | .say _ => 1
  | .stop _ => 1
def Sm.wts : List Sm → Nat
  | [] => 0
  | s :: r => s.wt + Sm.wts r
end
mutual
def Sm.ok : Sm → Prop
  | .ite t y n => t.ok ∧ t.nots ≤ 2 ∧ Sm.oks y ∧ Sm.oks n
  | .rep k b => k ≤ 8 ∧ Sm.oks b
  | .set x e => (e.ok ∧ e.deep ≤ 3) ∧ NmOk x
  | .half x e => (e.ok ∧ e.deep ≤ 3) ∧ NmOk x
  | .tell e => e.ok ∧ e.deep ≤ 3
  | .say c => PyData.strOk c = true ∧ c.length ≤ 20
  | .stop c => PyData.strOk c = true ∧ c.length ≤ 20
def Sm.oks : List Sm → Prop
  | [] => True
  | s :: r => s.ok ∧ Sm.oks r
end
/-! ### the object of a run -/
structure Cad where
  x : Addr
  dx : Addr
  nd : Addr
  sd : Addr
  td : Addr
  cd : Addr
  wd : Addr
def cfs (a : Cad) (r : V) : List (Str × V) := [("names", .ref a.nd), ("said", .ref a.sd), ("turns", .ref a.td), ("choices", .ref a.cd), ("ways", .ref a.wd), ("rule", r)]
structure CAt (C : Addr) (H : Hp) (a : Cad) (r : V) (chs : List Int) (wk : List (Key × V)) (n : Nat) (s : Cs) : Prop where
  ob : H a.x = some (.ins C a.dx (cfs a r))
  nm : ∃ kvs, H a.nd = some (.dK kvs) ∧ EnvRel kvs s.env ∧ kvs.length ≤ n + 1
  sa : H a.sd = some (.lst (s.said.map kV))
  tu : H a.td = some (.lst (s.turns.map V.int))
  ch : H a.cd = some (.tup (chs.map V.int))
  wy : H a.wd = some (.dK wk)
  ls : s.said.length ≤ n
  lt : s.turns.length ≤ n
  ne1 : a.nd ≠ a.wd
  ne2 : a.sd ≠ a.td
  lc : chs.length ≤ 1000000
def decC (chs : List Int) : Nat → Int → Int → Int := fun k _ _ => chs.getD k 0
theorem CAt.mono {C : Addr} {H : Hp} {a : Cad} {r : V} {chs : List Int} {wk : List (Key × V)} {n m : Nat} {s : Cs} (c : CAt C H a r chs wk n s) (h : n ≤ m) : CAt C H a r chs wk m s := by
  obtain ⟨kvs, h1, h2, h3⟩ := c.nm
  have := c.ls
  have := c.lt
  exact ⟨c.ob, ⟨kvs, h1, h2, by omega⟩, c.sa, c.tu, c.ch, c.wy, by omega, by omega, c.ne1, c.ne2, c.lc⟩
theorem CAt.kp0 {C : Addr} {H H' : Hp} {a : Cad} {r : V} {chs : List Int} {wk : List (Key × V)} {n : Nat} {s : Cs} (c : CAt C H a r chs wk n s) (k : Kp [] H H') : CAt C H' a r chs wk n s := by
  obtain ⟨kvs, h1, h2, h3⟩ := c.nm
  exact ⟨k.at c.ob, ⟨kvs, k.at h1, h2, h3⟩, k.at c.sa, k.at c.tu, k.tup _ _ c.ch, k.at c.wy, c.ls, c.lt, c.ne1, c.ne2, c.lc⟩
theorem EnvRel.put {kvs : List (Key × V)} {env : Str → Int} (h : EnvRel kvs env) (x : Str) (v : Int) : EnvRel (putK kvs (Sum.inr x) (.int v)) (setE env x v) := by
  intro y
  rw [valV_put]
  unfold setE
  by_cases e : y = x
  · subst e
    rw [if_pos rfl, if_pos rfl]
    rfl
  · rw [if_neg e, if_neg (fun z => e (Sum.inr.inj z))]
    exact h y
/-- the name x stands for v behind a store -/
theorem CAt.put {C : Addr} {H H1 : Hp} {a : Cad} {r : V} {chs : List Int} {wk : List (Key × V)} {n : Nat} {s : Cs} {kvs : List (Key × V)} {x : Str} {v : Int} (c : CAt C H a r chs wk n s) (hk : H a.nd = some (.dK kvs)) (he : EnvRel kvs s.env)
    (hl : kvs.length ≤ n + 1) (e : H1 = upd H a.nd (.dK (putK kvs (Sum.inr x) (.int v)))) : CAt C H1 a r chs wk (n + 1) { s with env := setE s.env x v } ∧ Kp [a.nd, a.sd, a.td] H H1 := by
  have k : Kp [a.nd] H H1 := by rw [e]; exact Kp.put hk (fun _ z => by cases z)
  have l2 := length_putK kvs (Sum.inr x : Key) (V.int v)
  have := c.ls
  have := c.lt
  refine ⟨⟨k.keep _ _ c.ob (EH.ne1 (ne_of c.ob hk (fun z => by cases z))), ⟨_, by rw [e]; exact upd_same, he.put x v, by omega⟩, k.keep _ _ c.sa (EH.ne1 (ne_of c.sa hk (fun z => by cases z))), k.keep _ _ c.tu (EH.ne1 (ne_of c.tu hk (fun z => by cases z))),
    k.tup _ _ c.ch, k.keep _ _ c.wy (EH.ne1 c.ne1.symm), by show s.said.length ≤ _; omega, by show s.turns.length ≤ _; omega, c.ne1, c.ne2, c.lc⟩, k.sub (by simp)⟩
theorem CAt.say {C : Addr} {H H1 : Hp} {a : Cad} {r : V} {chs : List Int} {wk : List (Key × V)} {n : Nat} {s : Cs} {v : Key} (c : CAt C H a r chs wk n s) (h1 : H1 a.sd = some (.lst (s.said.map kV ++ [kV v]))) (k : Kp [a.sd] H H1) :
    CAt C H1 a r chs wk (n + 1) { s with said := s.said ++ [v] } ∧ Kp [a.nd, a.sd, a.td] H H1 := by
  obtain ⟨kvs, g1, g2, g3⟩ := c.nm
  have := c.ls
  have := c.lt
  refine ⟨⟨k.keep _ _ c.ob (EH.ne1 (ne_of c.ob c.sa (fun z => by cases z))), ⟨kvs, k.keep _ _ g1 (EH.ne1 (ne_of g1 c.sa (fun z => by cases z))), g2, by omega⟩, by rw [h1, List.map_append]; rfl, k.keep _ _ c.tu (EH.ne1 c.ne2.symm),
    k.tup _ _ c.ch, k.keep _ _ c.wy (EH.ne1 (ne_of c.wy c.sa (fun z => by cases z))), by show (s.said ++ [v]).length ≤ _; rw [List.length_append, List.length_singleton]; omega, by show s.turns.length ≤ _; omega, c.ne1, c.ne2, c.lc⟩, k.sub (by simp)⟩
theorem CAt.turn {C : Addr} {H H1 : Hp} {a : Cad} {r : V} {chs : List Int} {wk : List (Key × V)} {n : Nat} {s : Cs} {v : Int} (c : CAt C H a r chs wk n s) (h1 : H1 a.td = some (.lst (s.turns.map V.int ++ [.int v]))) (k : Kp [a.td] H H1) :
    CAt C H1 a r chs wk (n + 1) { s with turns := s.turns ++ [v] } ∧ Kp [a.nd, a.sd, a.td] H H1 := by
  obtain ⟨kvs, g1, g2, g3⟩ := c.nm
  have := c.ls
  have := c.lt
  refine ⟨⟨k.keep _ _ c.ob (EH.ne1 (ne_of c.ob c.tu (fun z => by cases z))), ⟨kvs, k.keep _ _ g1 (EH.ne1 (ne_of g1 c.tu (fun z => by cases z))), g2, by omega⟩, k.keep _ _ c.sa (EH.ne1 c.ne2), by rw [h1, List.map_append]; rfl,
    k.tup _ _ c.ch, k.keep _ _ c.wy (EH.ne1 (ne_of c.wy c.tu (fun z => by cases z))), by show s.said.length ≤ _; omega, by show (s.turns ++ [v]).length ≤ _; rw [List.length_append, List.length_singleton]; omega, c.ne1, c.ne2, c.lc⟩, k.sub (by simp)⟩
/-! ### the promises -/
def Sm.plain : Sm → Prop
  | .ite _ _ _ => False
  | .rep _ _ => False
  | .set _ _ => True
  | .half _ _ => True
  | .tell _ => True
  | .say _ => True
  | .stop _ => True
/-! ### the parts of a statement with blocks -/
section
variable (dec : Nat → Int → Int → Int) (ways : Int → Option Int)
end
def Sm.kw : Sm → Str
  | .ite _ _ _ => "if"
  | .rep _ _ => "repeat"
  | .set _ _ => "set"
  | .half _ _ => "half"
  | .tell _ => "tell"
  | .say _ => "say"
  | .stop _ => "stop"
theorem Sm.head {H : Hp} {v : V} : ∀ {t : Sm}, Tr H t.d v → ∃ u rest, v = .ref u ∧ H u = some (.tup (.str t.kw :: rest))
  | .ite _ _ _, h => by obtain ⟨u, x1, x2, x3, x4, rfl, h1, t1, _⟩ := tr_tup4 h; cases tr_str t1; exact ⟨u, _, rfl, h1⟩
  | .rep _ _, h => by obtain ⟨u, x1, x2, x3, rfl, h1, t1, _⟩ := tr_tup3 h; cases tr_str t1; exact ⟨u, _, rfl, h1⟩
  | .set _ _, h => by obtain ⟨u, x1, x2, x3, rfl, h1, t1, _⟩ := tr_tup3 h; cases tr_str t1; exact ⟨u, _, rfl, h1⟩
  | .half _ _, h => by obtain ⟨u, x1, x2, x3, rfl, h1, t1, _⟩ := tr_tup3 h; cases tr_str t1; exact ⟨u, _, rfl, h1⟩
  | .tell _, h => by obtain ⟨u, x1, x2, rfl, h1, t1, _⟩ := tr_tup2 h; cases tr_str t1; exact ⟨u, _, rfl, h1⟩
  | .say _, h => by obtain ⟨u, x1, x2, rfl, h1, t1, _⟩ := tr_tup2 h; cases tr_str t1; exact ⟨u, _, rfl, h1⟩
  | .stop _, h => by obtain ⟨u, x1, x2, rfl, h1, t1, _⟩ := tr_tup2 h; cases tr_str t1; exact ⟨u, _, rfl, h1⟩
/-! ### what a run tells -/
def kD : Key → PyData
  | .inl i => .int i
  | .inr x => .str x
def wD : Option Str → PyData
  | none => .none
  | some c => .str c
def env0 (n : Int) : Str → Int := fun y => if y = "n" then n else 0
def cs0 (n : Int) : Cs := ⟨env0 n, [], []⟩
def noWay : Int → Option Int := fun _ => none
/-! ### programs that are drawn -/
/-- the names stand at nm -/
structure Nms (H : Hp) (nm a c : Addr) (names : List Str) : Prop where
  at_ : H nm = some (.lst (names.map V.str))
  off : nm ∉ [a, c]
  len : 0 < names.length ∧ names.length ≤ 1000
  oks : ∀ x ∈ names, NmOk x
theorem Nms.kp {S : List Addr} {H H' : Hp} {nm a c : Addr} {names : List Str} (x : Nms H nm a c names) (k : Kp S H H') (h : nm ∉ S) : Nms H' nm a c names := ⟨k.keep _ _ x.at_ h, x.off, x.len, x.oks⟩
theorem Nms.kp0 {H H' : Hp} {nm a c : Addr} {names : List Str} (x : Nms H nm a c names) (k : Kp [] H H') : Nms H' nm a c names := x.kp k (by simp)
theorem Nms.kpD {H H' : Hp} {nm a c : Addr} {names : List Str} (x : Nms H nm a c names) (k : Kp [a, c] H H') : Nms H' nm a c names := x.kp k x.off
/-! names that come from a list, words that come from the law's own lists -/
def Ex.inN (N : List Str) : Ex → Prop
  | .num _ => True
  | .var x => x ∈ N
  | .plus a b => a.inN N ∧ b.inN N
  | .minus a b => a.inN N ∧ b.inN N
  | .times _ a => a.inN N
def Ts.inN (N : List Str) : Ts → Prop
  | .less a b => a.inN N ∧ b.inN N
  | .odd a => a.inN N
  | .not t => t.inN N
def WdIn (c : Str) : Prop := c ∈ (["go", "7", "half", "odd", "end", "0", "not"] : List Str)
mutual
def Sm.inN (N : List Str) : Sm → Prop
  | .ite t y n => t.inN N ∧ Sm.insN N y ∧ Sm.insN N n
  | .rep _ b => Sm.insN N b
  | .set x e => e.inN N ∧ x ∈ N
  | .half x e => e.inN N ∧ x ∈ N
  | .tell e => e.inN N
  | .say c => WdIn c
  | .stop c => WdIn c
def Sm.insN (N : List Str) : List Sm → Prop
  | [] => True
  | s :: r => s.inN N ∧ Sm.insN N r
end
/-- what the counters are -/
structure Lf where
  p : Int
  w : Int
  h : Int
  c : Int
def Lf.vs (l : Lf) : List V := [.int l.p, .int l.w, .int l.h, .int l.c]
structure Gs (H : Hp) (a c nm lf : Addr) (m : Int) (names : List Str) (l : Lf) : Prop where
  dk : Deck H a c m
  nms : Nms H nm a c names
  lft : H lf = some (.lst l.vs)
  off : lf ∉ [a, c, nm]
theorem Gs.kp0 {H H' : Hp} {a c nm lf : Addr} {m : Int} {names : List Str} {l : Lf} (g : Gs H a c nm lf m names l) (k : Kp [] H H') : Gs H' a c nm lf m names l := ⟨g.dk.kp0 k, g.nms.kp0 k, k.at g.lft, g.off⟩
theorem Gs.nac {H : Hp} {a c nm lf : Addr} {m : Int} {names : List Str} {l : Lf} (g : Gs H a c nm lf m names l) : lf ∉ [a, c] := by
  have := g.off
  simp only [List.mem_cons, List.not_mem_nil, or_false, not_or] at this ⊢
  exact ⟨this.1, this.2.1⟩
theorem Gs.drawn {H H' : Hp} {a c nm lf : Addr} {m m' : Int} {names : List Str} {l : Lf} (g : Gs H a c nm lf m names l) (d : Deck H' a c m') (k : Kp [a, c] H H') : Gs H' a c nm lf m' names l :=
  ⟨d, g.nms.kpD k, k.keep _ _ g.lft g.nac, g.off⟩
theorem Gs.left {H H' : Hp} {a c nm lf : Addr} {m : Int} {names : List Str} {l l' : Lf} (g : Gs H a c nm lf m names l) (h : H' lf = some (.lst l'.vs)) (k : Kp [lf] H H') : Gs H' a c nm lf m names l' := by
  have o := g.off
  simp only [List.mem_cons, List.not_mem_nil, or_false, not_or] at o
  exact ⟨g.dk.kp k (ne1 (fun z => o.1 z.symm)) (ne1 (fun z => o.2.1 z.symm)), g.nms.kp k (ne1 (fun z => o.2.2 z.symm)), h, g.off⟩
/-! data that are tuples of tuples: what == asks -/
theorem shaped_of {d : PyData} (h1 : d.canLay0 = true) (h2 : d.depth ≤ 64) : SeqAt.shaped d = true := by
  show (d.canLay0 && decide (d.depth ≤ 64)) = true
  rw [h1, decide_eq_true h2]
  rfl
section
variable {X : Cx}
end
theorem Ex.dep : ∀ e : Ex, e.d.depth + 1 ≤ e.deep
  | .num _ => by simp [Ex.d, Ex.deep, PyData.depth]
  | .var _ => by simp [Ex.d, Ex.deep, PyData.depth]
  | .plus a b => by
    have := Ex.dep a
    have := Ex.dep b
    simp only [Ex.d, Ex.deep, PyData.depth, PyData.depthAll]
    omega
  | .minus a b => by
    have := Ex.dep a
    have := Ex.dep b
    simp only [Ex.d, Ex.deep, PyData.depth, PyData.depthAll]
    omega
  | .times _ a => by
    have := Ex.dep a
    simp only [Ex.d, Ex.deep, PyData.depth, PyData.depthAll]
    omega
theorem Ts.dep : ∀ {t : Ts}, t.ok → t.d.depth ≤ t.nots + 4
  | .less a b, h => by
    have := Ex.dep a
    have := Ex.dep b
    obtain ⟨⟨_, h1⟩, _, h2⟩ := (show (a.ok ∧ a.deep ≤ 3) ∧ b.ok ∧ b.deep ≤ 3 from h)
    simp only [Ts.d, Ts.nots, PyData.depth, PyData.depthAll]
    omega
  | .odd a, h => by
    have := Ex.dep a
    obtain ⟨_, h1⟩ := (show a.ok ∧ a.deep ≤ 3 from h)
    simp only [Ts.d, Ts.nots, PyData.depth, PyData.depthAll]
    omega
  | .not t, h => by
    have := Ts.dep (t := t) h
    simp only [Ts.d, Ts.nots, PyData.depth, PyData.depthAll]
    omega
theorem Ex.lay : ∀ {e : Ex}, e.ok → e.d.canLay0 = true
  | .num _, _ => by simp [Ex.d, PyData.canLay0]
  | .var x, h => by
    simp only [Ex.d, PyData.canLay0]
    exact h.1
  | .plus a b, h => by
    obtain ⟨h1, h2⟩ := (show a.ok ∧ b.ok from h)
    simp only [Ex.d, PyData.canLay0, PyData.canLayAll0, Ex.lay h1, Ex.lay h2]
    decide +kernel
  | .minus a b, h => by
    obtain ⟨h1, h2⟩ := (show a.ok ∧ b.ok from h)
    simp only [Ex.d, PyData.canLay0, PyData.canLayAll0, Ex.lay h1, Ex.lay h2]
    decide +kernel
  | .times k a, h => by
    obtain ⟨_, _, h2⟩ := (show -9 ≤ k ∧ k ≤ 9 ∧ a.ok from h)
    simp only [Ex.d, PyData.canLay0, PyData.canLayAll0, Ex.lay h2]
    decide +kernel
theorem Ts.lay : ∀ {t : Ts}, t.ok → t.d.canLay0 = true
  | .less a b, h => by
    obtain ⟨⟨h1, _⟩, h2, _⟩ := (show (a.ok ∧ a.deep ≤ 3) ∧ b.ok ∧ b.deep ≤ 3 from h)
    simp only [Ts.d, PyData.canLay0, PyData.canLayAll0, Ex.lay h1, Ex.lay h2]
    decide +kernel
  | .odd a, h => by
    obtain ⟨h1, _⟩ := (show a.ok ∧ a.deep ≤ 3 from h)
    simp only [Ts.d, PyData.canLay0, PyData.canLayAll0, Ex.lay h1]
    decide +kernel
  | .not t, h => by
    simp only [Ts.d, PyData.canLay0, PyData.canLayAll0, Ts.lay (t := t) h]
    decide +kernel
theorem Ts.shaped {t : Ts} (h : t.ok) (h2 : t.nots ≤ 2) : SeqAt.shaped t.d = true := shaped_of (Ts.lay h) (by have := Ts.dep h; omega)
def Ts.isOdd : Ts → Bool
  | .less _ _ => false
  | .odd _ => true
  | .not t => t.isOdd
/-! what a statement counts -/
mutual
def Sm.hv : Sm → Nat
  | .ite t y n => (if t.isOdd then 1 else 0) + (Sm.hvs y + Sm.hvs n)
  | .rep k b => k * Sm.hvs b
  | .half _ _ => 1
  | .set _ _ => 0
  | .tell _ => 0
  | .say _ => 0
  | .stop _ => 0
def Sm.hvs : List Sm → Nat
  | [] => 0
  | s :: r => s.hv + Sm.hvs r
end
mutual
def Sm.cp : Sm → Nat
  | .ite t y n => (if t.isOdd then 0 else 1) + (Sm.cps y + Sm.cps n)
  | .rep k b => k * Sm.cps b
  | .half _ _ => 0
  | .set _ _ => 0
  | .tell _ => 0
  | .say _ => 0
  | .stop _ => 0
def Sm.cps : List Sm → Nat
  | [] => 0
  | s :: r => s.cp + Sm.cps r
end
/-- words and names are those of the text; times at most eight -/
def Lf.nn (l : Lf) : Prop := 0 ≤ l.p ∧ 0 ≤ l.w ∧ 0 ≤ l.h ∧ 0 ≤ l.c
def Lf.le (l l' : Lf) : Prop := l'.p ≤ l.p ∧ l'.w ≤ l.w ∧ l'.h ≤ l.h ∧ l'.c ≤ l.c
/-! ### statements and blocks that are drawn -/
/-- what is left behind a statement, a block -/
structure Took (t : Int) (pl wt hv cp : Nat) (l l' : Lf) : Prop where
  p : (pl : Int) ≤ l.p - l'.p
  w : t * (wt : Int) ≤ l.w - l'.w
  h : t * (hv : Int) ≤ l.h - l'.h
  c : t * (cp : Int) ≤ l.c - l'.c
theorem Took.le {t : Int} (ht : 0 ≤ t) {p w h c : Nat} {l l' : Lf} (a : Took t p w h c l l') : l.le l' := by
  have := a.p; have := a.w; have := a.h; have := a.c
  have z1 : 0 ≤ t * (w : Int) := Int.mul_nonneg ht (Int.natCast_nonneg _)
  have z2 : 0 ≤ t * (h : Int) := Int.mul_nonneg ht (Int.natCast_nonneg _)
  have z3 : 0 ≤ t * (c : Int) := Int.mul_nonneg ht (Int.natCast_nonneg _)
  exact ⟨by omega, by omega, by omega, by omega⟩
theorem Took.none {t : Int} {l : Lf} : Took t 0 0 0 0 l l := by
  refine ⟨?_, ?_, ?_, ?_⟩ <;> simp
theorem Took.of {t : Int} {p w h c p' w' h' c' : Nat} {l l' : Lf} (a : Took t p w h c l l') (e1 : p = p') (e2 : w = w') (e3 : h = h') (e4 : c = c') : Took t p' w' h' c' l l' := by subst e1 e2 e3 e4; exact a
theorem Took.rep {t : Int} {k p w h c : Nat} {l l' : Lf} (a : Took (t * (k : Int)) p w h c l l') : Took t p (k * w) (k * h) (k * c) l l' := by
  refine ⟨a.p, ?_, ?_, ?_⟩
  · have := a.w
    rw [Int.natCast_mul, ← Int.mul_assoc]
    exact this
  · have := a.h
    rw [Int.natCast_mul, ← Int.mul_assoc]
    exact this
  · have := a.c
    rw [Int.natCast_mul, ← Int.mul_assoc]
    exact this
/-! how deep statements lie in one another -/
mutual
def Sm.dl : Sm → Nat
  | .ite _ y n => max (Sm.dls y) (Sm.dls n)
  | .rep _ b => Sm.dls b
  | .set _ _ => 0
  | .half _ _ => 0
  | .tell _ => 0
  | .say _ => 0
  | .stop _ => 0
def Sm.dls : List Sm → Nat
  | [] => 0
  | s :: r => max (s.dl + 1) (Sm.dls r)
end
/-- what a drawn statement keeps -/
structure SOk (N : List Str) (t depth : Int) (l l' : Lf) (s : Sm) : Prop where
  ok : s.ok
  inn : s.inN N
  nest : (s.nest : Int) + depth ≤ 4
  dl : (s.dl : Int) + depth ≤ 3
  took : Took t s.pl s.wt s.hv s.cp l l'
structure BOk (N : List Str) (t depth : Int) (l l' : Lf) (b : List Sm) : Prop where
  ok : Sm.oks b
  inn : Sm.insN N b
  nest : b = [] ∨ (Sm.nests b : Int) + depth ≤ 4
  dl : b = [] ∨ (Sm.dls b : Int) + depth ≤ 4
  took : Took t (Sm.pls b) (Sm.wts b) (Sm.hvs b) (Sm.cps b) l l'
mutual
theorem Sm.lay : ∀ {s : Sm}, s.ok → s.d.canLay0 = true
  | .set x e, h => by
    simp only [Sm.ok] at h
    simp only [Sm.d, PyData.canLay0, PyData.canLayAll0, h.2.1, Ex.lay h.1.1]
    decide +kernel
  | .half x e, h => by
    simp only [Sm.ok] at h
    simp only [Sm.d, PyData.canLay0, PyData.canLayAll0, h.2.1, Ex.lay h.1.1]
    decide +kernel
  | .tell e, h => by
    simp only [Sm.ok] at h
    simp only [Sm.d, PyData.canLay0, PyData.canLayAll0, Ex.lay h.1]
    decide +kernel
  | .say c, h => by
    simp only [Sm.ok] at h
    simp only [Sm.d, PyData.canLay0, PyData.canLayAll0, h.1]
    decide +kernel
  | .stop c, h => by
    simp only [Sm.ok] at h
    simp only [Sm.d, PyData.canLay0, PyData.canLayAll0, h.1]
    decide +kernel
  | .ite t y n, h => by
    simp only [Sm.ok] at h
    simp only [Sm.d, PyData.canLay0, PyData.canLayAll0, Ts.lay h.1, Sm.lays h.2.2.1, Sm.lays h.2.2.2]
    decide +kernel
  | .rep k b, h => by
    simp only [Sm.ok] at h
    simp only [Sm.d, PyData.canLay0, PyData.canLayAll0, Sm.lays h.2]
    decide +kernel
theorem Sm.lays : ∀ {b : List Sm}, Sm.oks b → PyData.canLayAll0 (Sm.ds b) = true
  | [], _ => by simp [Sm.ds, PyData.canLayAll0]
  | s :: r, h => by
    simp only [Sm.oks] at h
    simp only [Sm.ds, PyData.canLayAll0, Sm.lay h.1, Sm.lays h.2]
    rfl
end
mutual
theorem Sm.dep : ∀ {s : Sm}, s.ok → s.d.depth ≤ 2 * s.nest + 8
  | .set x e, h => by
    simp only [Sm.ok] at h
    have := e.dep
    simp only [Sm.d, PyData.depth, PyData.depthAll]
    omega
  | .half x e, h => by
    simp only [Sm.ok] at h
    have := e.dep
    simp only [Sm.d, PyData.depth, PyData.depthAll]
    omega
  | .tell e, h => by
    simp only [Sm.ok] at h
    have := e.dep
    simp only [Sm.d, PyData.depth, PyData.depthAll]
    omega
  | .say c, h => by simp [Sm.d, PyData.depth, PyData.depthAll]
  | .stop c, h => by simp [Sm.d, PyData.depth, PyData.depthAll]
  | .ite t y n, h => by
    simp only [Sm.ok] at h
    have := Ts.dep h.1
    have := Sm.deps h.2.2.1
    have := Sm.deps h.2.2.2
    simp only [Sm.d, PyData.depth, PyData.depthAll, Sm.nest]
    omega
  | .rep k b, h => by
    simp only [Sm.ok] at h
    have := Sm.deps h.2
    simp only [Sm.d, PyData.depth, PyData.depthAll, Sm.nest]
    omega
theorem Sm.deps : ∀ {b : List Sm}, Sm.oks b → PyData.depthAll (Sm.ds b) ≤ 2 * Sm.nests b + 8
  | [], _ => by simp [Sm.ds, PyData.depthAll]
  | s :: r, h => by
    simp only [Sm.oks] at h
    have := Sm.dep h.1
    have := Sm.deps h.2
    simp only [Sm.ds, PyData.depthAll, Sm.nests]
    omega
end
theorem Sm.shaped {s : Sm} (h : s.ok) (h2 : s.nest ≤ 10) : SeqAt.shaped s.d = true := shaped_of (Sm.lay h) (by have := Sm.dep h; omega)
theorem Sm.ds_app : ∀ (b c : List Sm), Sm.ds (b ++ c) = Sm.ds b ++ Sm.ds c
  | [], c => by simp only [List.nil_append, Sm.ds]
  | s :: r, c => by simp only [List.cons_append, Sm.ds, Sm.ds_app r c]
theorem Sm.oks_app : ∀ {b c : List Sm}, Sm.oks b → Sm.oks c → Sm.oks (b ++ c)
  | [], c, _, h => h
  | s :: r, c, h, g => by
    simp only [Sm.oks] at h
    simp only [List.cons_append, Sm.oks]
    exact ⟨h.1, Sm.oks_app h.2 g⟩
theorem Sm.pls_app : ∀ (b c : List Sm), Sm.pls (b ++ c) = Sm.pls b + Sm.pls c
  | [], c => by simp only [List.nil_append, Sm.pls]; omega
  | s :: r, c => by simp only [List.cons_append, Sm.pls, Sm.pls_app r c]; omega
theorem Sm.wts_app : ∀ (b c : List Sm), Sm.wts (b ++ c) = Sm.wts b + Sm.wts c
  | [], c => by simp only [List.nil_append, Sm.wts]; omega
  | s :: r, c => by simp only [List.cons_append, Sm.wts, Sm.wts_app r c]; omega
theorem Sm.hvs_app : ∀ (b c : List Sm), Sm.hvs (b ++ c) = Sm.hvs b + Sm.hvs c
  | [], c => by simp only [List.nil_append, Sm.hvs]; omega
  | s :: r, c => by simp only [List.cons_append, Sm.hvs, Sm.hvs_app r c]; omega
theorem Sm.cps_app : ∀ (b c : List Sm), Sm.cps (b ++ c) = Sm.cps b + Sm.cps c
  | [], c => by simp only [List.nil_append, Sm.cps]; omega
  | s :: r, c => by simp only [List.cons_append, Sm.cps, Sm.cps_app r c]; omega
theorem Sm.nests_app : ∀ (b c : List Sm), Sm.nests (b ++ c) ≤ Sm.nests b ∨ Sm.nests (b ++ c) ≤ Sm.nests c
  | [], c => .inr (by simp only [List.nil_append]; omega)
  | s :: r, c => by
    have := Sm.nests_app r c
    simp only [List.cons_append, Sm.nests]
    omega
theorem BOk.nil {N : List Str} {t d : Int} {l : Lf} : BOk N t d l l [] := ⟨by simp only [Sm.oks], by simp only [Sm.insN], .inl rfl, .inl rfl, by simp only [Sm.pls, Sm.wts, Sm.hvs, Sm.cps]; exact Took.none⟩
theorem BOk.one {N : List Str} {t d : Int} {l l1 : Lf} {s : Sm} (x : SOk N t d l l1 s) : BOk N t d l l1 [s] := by
  refine ⟨by simp only [Sm.oks]; exact ⟨x.ok, trivial⟩, by simp only [Sm.insN]; exact ⟨x.inn, trivial⟩, .inr ?_, .inr ?_, x.took.of ?_ ?_ ?_ ?_⟩
  · have := x.nest
    simp only [Sm.nests]
    omega
  · have := x.dl
    simp only [Sm.dls]
    omega
  · simp only [Sm.pls]; omega
  · simp only [Sm.wts]; omega
  · simp only [Sm.hvs]; omega
  · simp only [Sm.cps]; omega
/-! ### programs, numbers, choices -/
structure PrOk (b : List Sm) : Prop where
  ok : Sm.oks b
  nest : Sm.nests b ≤ 4
  pl : Sm.pls b ≤ 24
  wt : Sm.wts b ≤ 60
  hv : Sm.hvs b ≤ 4
  cp : Sm.cps b ≤ 3
theorem BOk.pr {N : List Str} {l : Lf} {b : List Sm} (x : BOk N 1 0 ⟨24, 60, 4, 3⟩ l b) (h : l.nn) : PrOk b := by
  obtain ⟨h1, h2, h3, h4⟩ := h
  have a1 : _ ≤ 24 - l.p := x.took.p
  have a2 : _ ≤ 60 - l.w := x.took.w
  have a3 : _ ≤ 4 - l.h := x.took.h
  have a4 : _ ≤ 3 - l.c := x.took.c
  refine ⟨x.ok, ?_, by omega, by omega, by omega, by omega⟩
  rcases x.nest with rfl | h
  · simp only [Sm.nests]; omega
  · omega
theorem BOk.deep {N : List Str} {l l' : Lf} {t : Int} {b : List Sm} (x : BOk N t 0 l l' b) : Sm.dls b ≤ 4 := by
  rcases x.dl with rfl | h
  · simp only [Sm.dls]; omega
  · omega
/-! ### texts -/
section
variable {X : Cx}
end
theorem strOk_app {a b : Str} (h1 : PyData.strOk a = true) (h2 : PyData.strOk b = true) : PyData.strOk (a ++ b) = true := by
  show (a.cps ++ b.cps).all _ = true
  rw [Array.all_append]
  rw [show a.cps.all (· < 0x110000) = true from h1, show b.cps.all (· < 0x110000) = true from h2]
  rfl
theorem strOk_of {a : Str} (h : ∀ c ∈ a.cps.toList, c < 0x110000) : PyData.strOk a = true := by
  show a.cps.all _ = true
  rw [← Array.all_toList, List.all_eq_true]
  intro c hc
  exact decide_eq_true (h c hc)
def letters : Str := "abcdefgijkmoqruvwxyz"
def signs : Str := letters ++ "0123456789"
def nmsOf (L R : Str) : List Str := ["n", L ++ "q" ++ R, L ++ "x" ++ R, L ++ "z" ++ R]
structure LR (L R : Str) : Prop where
  l : ∀ c ∈ L.cps.toList, c ∈ letters.cps.toList
  r : ∀ c ∈ R.cps.toList, c ∈ signs.cps.toList
  ll : L.length ≤ 8
  rl : R.length ≤ 8
theorem sign_ok {c : Nat} (h : c ∈ signs.cps.toList) : c < 0x110000 := by
  have : ∀ c ∈ signs.cps.toList, c < 0x110000 := by decide +kernel
  exact this c h
theorem letter_sign {c : Nat} (h : c ∈ letters.cps.toList) : c ∈ signs.cps.toList := by
  have : ∀ c ∈ letters.cps.toList, c ∈ signs.cps.toList := by decide +kernel
  exact this c h
theorem LR.oks {L R : Str} (x : LR L R) : ∀ y ∈ nmsOf L R, NmOk y := by
  have h1 : PyData.strOk L = true := strOk_of fun c hc => sign_ok (letter_sign (x.l c hc))
  have h2 : PyData.strOk R = true := strOk_of fun c hc => sign_ok (x.r c hc)
  intro y hy
  simp only [nmsOf, List.mem_cons, List.not_mem_nil, or_false] at hy
  have ln : ∀ q : Str, q.length ≤ 8 → (L ++ q ++ R).length ≤ 1000 := by
    intro q hq
    have a1 := x.ll
    have a2 := x.rl
    have e : (L ++ q ++ R).length = L.length + q.length + R.length := by
      show ((L.cps ++ q.cps) ++ R.cps).size = _
      rw [Array.size_append, Array.size_append]
      rfl
    omega
  rcases hy with rfl | rfl | rfl | rfl
  · exact ⟨by decide +kernel, by decide +kernel⟩
  · exact ⟨strOk_app (strOk_app h1 (by decide +kernel)) h2, ln _ (by decide +kernel)⟩
  · exact ⟨strOk_app (strOk_app h1 (by decide +kernel)) h2, ln _ (by decide +kernel)⟩
  · exact ⟨strOk_app (strOk_app h1 (by decide +kernel)) h2, ln _ (by decide +kernel)⟩
/-! ### what every run keeps -/
section
variable {J : Nat → Nat → Cs → Prop}
theorem iterN_inv {f : Cs → Option Str × Cs} {dw dh : Nat} (mono : ∀ w h w' h' s, J w h s → w ≤ w' → h ≤ h' → J w' h' s) (st : ∀ w h s, J w h s → J (w + dw) (h + dh) (f s).2) : ∀ (k w h : Nat) (s : Cs), J w h s → J (w + k * dw) (h + k * dh) (iterN k f s).2
  | 0, w, h, s, j => mono _ _ _ _ _ j (Nat.le_add_right _ _) (Nat.le_add_right _ _)
  | k + 1, w, h, s, j => by
    have j1 := st w h s j
    rw [iterN, Nat.succ_mul, Nat.succ_mul]
    cases e : f s with
    | mk c s' =>
      rw [e] at j1
      cases c with
      | none => exact mono _ _ _ _ _ (iterN_inv mono st k _ _ s' j1) (by omega) (by omega)
      | some c => exact mono _ _ _ _ _ j1 (by omega) (by omega)
variable {dec : Nat → Int → Int → Int} {ways : Int → Option Int}
mutual
theorem Sm.inv (mono : ∀ w h w' h' s, J w h s → w ≤ w' → h ≤ h' → J w' h' s) (pl : ∀ st : Sm, st.plain → st.ok → ∀ p w h s, J w h s → J (w + 1) (h + st.hv) (st.run dec ways p s).2) :
    ∀ (t : Sm), t.ok → ∀ (p : Int) (w h : Nat) (s : Cs), J w h s → J (w + t.wt) (h + t.hv) (t.run dec ways p s).2
  | .ite t y n, o, p, w, h, s, j => by
    simp only [Sm.ok] at o
    simp only [Sm.run, Sm.wt, Sm.hv]
    by_cases hc : t.ev s.env = true
    · have jj := Sm.invs mono pl y o.2.2.1 (p + 1) w h s j
      rw [if_pos hc]
      refine mono _ _ _ _ _ jj ?_ ?_ <;> omega
    · have jj := Sm.invs mono pl n o.2.2.2 (p + 1 + (Sm.pls y : Int)) w h s j
      rw [if_neg hc]
      refine mono _ _ _ _ _ jj ?_ ?_ <;> omega
  | .rep k b, o, p, w, h, s, j => by
    simp only [Sm.ok] at o
    simp only [Sm.run, Sm.wt, Sm.hv]
    have jj := iterN_inv mono (fun w h s j => Sm.invs mono pl b o.2 (p + 1) w h s j) k w h s j
    refine mono _ _ _ _ _ jj ?_ ?_ <;> omega
  | .set x e, o, p, w, h, s, j => by
    have := pl (.set x e) trivial o p w h s j
    simp only [Sm.wt]
    exact this
  | .half x e, o, p, w, h, s, j => by
    have := pl (.half x e) trivial o p w h s j
    simp only [Sm.wt]
    exact this
  | .tell e, o, p, w, h, s, j => by
    have := pl (.tell e) trivial o p w h s j
    simp only [Sm.wt]
    exact this
  | .say c, o, p, w, h, s, j => by
    have := pl (.say c) trivial o p w h s j
    simp only [Sm.wt]
    exact this
  | .stop c, o, p, w, h, s, j => by
    have := pl (.stop c) trivial o p w h s j
    simp only [Sm.wt]
    exact this
theorem Sm.invs (mono : ∀ w h w' h' s, J w h s → w ≤ w' → h ≤ h' → J w' h' s) (pl : ∀ st : Sm, st.plain → st.ok → ∀ p w h s, J w h s → J (w + 1) (h + st.hv) (st.run dec ways p s).2) :
    ∀ (b : List Sm), Sm.oks b → ∀ (p : Int) (w h : Nat) (s : Cs), J w h s → J (w + Sm.wts b) (h + Sm.hvs b) (Sm.runs dec ways b p s).2
  | [], _, p, w, h, s, j => by
    simp only [Sm.runs]
    exact mono _ _ _ _ _ j (Nat.le_add_right _ _) (Nat.le_add_right _ _)
  | t :: r, o, p, w, h, s, j => by
    simp only [Sm.oks] at o
    have j1 := Sm.inv mono pl t o.1 p w h s j
    simp only [Sm.runs, Sm.wts, Sm.hvs]
    cases e : Sm.run dec ways t p s with
    | mk c s' =>
      rw [e] at j1
      cases c with
      | none => exact mono _ _ _ _ _ (Sm.invs mono pl r o.2 _ _ _ s' j1) (by omega) (by omega)
      | some c => exact mono _ _ _ _ _ j1 (by omega) (by omega)
end
end
section
variable {dec : Nat → Int → Int → Int} {ways : Int → Option Int}
theorem halv_turns (s : Cs) (v p : Int) : (halv dec ways s v p).2.turns = s.turns ∨ (halv dec ways s v p).2.turns = s.turns ++ [dec s.turns.length v p] := by
  unfold halv
  split
  · exact .inl rfl
  · split
    · exact .inl rfl
    · exact .inr rfl
theorem plain_turns (st : Sm) (h : st.plain) (p : Int) (s : Cs) : (st.run dec ways p s).2.turns = s.turns ∨ (st.hv = 1 ∧ ∃ v, (st.run dec ways p s).2.turns = s.turns ++ [dec s.turns.length v p]) := by
  cases st with
  | ite _ _ _ => exact h.elim
  | rep _ _ => exact h.elim
  | set x e => exact .inl (by simp only [Sm.run])
  | half x e =>
    simp only [Sm.run, Sm.hv]
    rcases halv_turns (dec := dec) (ways := ways) s (e.ev s.env) p with h | h
    · exact .inl h
    · exact .inr ⟨trivial, _, h⟩
  | tell e => exact .inl (by simp only [Sm.run])
  | say c => exact .inl (by simp only [Sm.run])
  | stop c => exact .inl (by simp only [Sm.run])
theorem turns_le (b : List Sm) (o : Sm.oks b) (p : Int) (s : Cs) : (Sm.runs dec ways b p s).2.turns.length ≤ s.turns.length + Sm.hvs b := by
  have := Sm.invs (J := fun _ h s' => s'.turns.length ≤ s.turns.length + h) (dec := dec) (ways := ways) (fun _ _ _ _ _ j _ hh => Nat.le_trans j (by omega)) (fun st hp ho p w h s' j => by
    rcases plain_turns (dec := dec) (ways := ways) st hp p s' with e | ⟨e1, v, e2⟩
    · rw [e]; omega
    · rw [e2, e1, List.length_append]
      simp only [List.length_singleton]
      omega) b o p 0 0 s (Nat.le_refl _)
  simpa using this
theorem turns_ge (b : List Sm) (o : Sm.oks b) (p : Int) (s : Cs) : s.turns.length ≤ (Sm.runs dec ways b p s).2.turns.length :=
  Sm.invs (J := fun _ _ s' => s.turns.length ≤ s'.turns.length) (dec := dec) (ways := ways) (fun _ _ _ _ _ j _ _ => j) (fun st hp ho p w h s' j => by
    rcases plain_turns (dec := dec) (ways := ways) st hp p s' with e | ⟨e1, v, e2⟩
    · rw [e]; exact j
    · rw [e2, List.length_append]
      omega) b o p 0 0 s (Nat.le_refl _)
end
/-- the first n choices -/
def tk (chs : List Int) (n : Nat) : List Int := (List.range n).map fun i => chs.getD i 0
theorem tk_succ (chs : List Int) (n : Nat) : tk chs (n + 1) = tk chs n ++ [chs.getD n 0] := by
  unfold tk
  rw [List.range_succ, List.map_append]
  rfl
theorem tk_len (chs : List Int) (n : Nat) : (tk chs n).length = n := by
  unfold tk
  rw [List.length_map, List.length_range]
theorem turns_tk {chs : List Int} {ways : Int → Option Int} (b : List Sm) (o : Sm.oks b) (p : Int) (n : Int) : (Sm.runs (decC chs) ways b p (cs0 n)).2.turns = tk chs (Sm.runs (decC chs) ways b p (cs0 n)).2.turns.length :=
  Sm.invs (J := fun _ _ s' => s'.turns = tk chs s'.turns.length) (dec := decC chs) (ways := ways) (fun _ _ _ _ _ j _ _ => j) (fun st hp ho p w h s' j => by
    rcases plain_turns (dec := decC chs) (ways := ways) st hp p s' with e | ⟨e1, v, e2⟩
    · rw [e]; exact j
    · rw [e2, List.length_append, List.length_singleton, tk_succ, ← j]
      rfl) b o p 0 0 (cs0 n) rfl
/-! ### runs that differ from the turn j on -/
def Rl (j : Nat) (a b : Option Str × Cs) : Prop := a = b ∨ (j < a.2.turns.length ∧ j < b.2.turns.length)
theorem iterN_ge {f : Cs → Option Str × Cs} (mf : ∀ s, s.turns.length ≤ (f s).2.turns.length) : ∀ (k : Nat) (s : Cs), s.turns.length ≤ (iterN k f s).2.turns.length
  | 0, s => Nat.le_refl _
  | k + 1, s => by
    have h := mf s
    rw [iterN]
    cases e : f s with
    | mk c s' =>
      rw [e] at h
      cases c with
      | none => exact Nat.le_trans h (iterN_ge mf k s')
      | some c => exact h
theorem iterN_ge1 {f : Cs → Option Str × Cs} (mf : ∀ s, s.turns.length ≤ (f s).2.turns.length) (k : Nat) (s : Cs) : (f s).2.turns.length ≤ (iterN (k + 1) f s).2.turns.length := by
  rw [iterN]
  cases e : f s with
  | mk c s' =>
    cases c with
    | none => exact iterN_ge mf k s'
    | some c => exact Nat.le_refl _
theorem iterN_rel {j : Nat} {f g : Cs → Option Str × Cs} (mf : ∀ s, s.turns.length ≤ (f s).2.turns.length) (mg : ∀ s, s.turns.length ≤ (g s).2.turns.length) (r : ∀ s, Rl j (f s) (g s)) : ∀ (k : Nat) (s : Cs), Rl j (iterN k f s) (iterN k g s)
  | 0, s => .inl rfl
  | k + 1, s => by
    rcases r s with h | ⟨h1, h2⟩
    · rw [iterN, iterN, ← h]
      cases e : f s with
      | mk c s' =>
        cases c with
        | none => exact iterN_rel mf mg r k s'
        | some c => exact .inl rfl
    · exact .inr ⟨Nat.lt_of_lt_of_le h1 (iterN_ge1 mf k s), Nat.lt_of_lt_of_le h2 (iterN_ge1 mg k s)⟩
section
variable {d1 d2 : Nat → Int → Int → Int} {ways : Int → Option Int} {j : Nat}
theorem runs_ge1 {dec : Nat → Int → Int → Int} (t : Sm) (r : List Sm) (o : Sm.oks r) (p : Int) (s : Cs) : (Sm.run dec ways t p s).2.turns.length ≤ (Sm.runs dec ways (t :: r) p s).2.turns.length := by
  simp only [Sm.runs]
  cases e : Sm.run dec ways t p s with
  | mk c s' =>
    cases c with
    | none => exact turns_ge r o _ s'
    | some c => exact Nat.le_refl _
mutual
theorem Sm.rel (ag : ∀ k v p, k < j → d1 k v p = d2 k v p) : ∀ (t : Sm), t.ok → ∀ (p : Int) (s : Cs), Rl j (t.run d1 ways p s) (t.run d2 ways p s)
  | .ite t y n, o, p, s => by
    simp only [Sm.ok] at o
    simp only [Sm.run]
    split
    · exact Sm.rels ag y o.2.2.1 _ s
    · exact Sm.rels ag n o.2.2.2 _ s
  | .rep k b, o, p, s => by
    simp only [Sm.ok] at o
    simp only [Sm.run]
    exact iterN_rel (fun s => turns_ge b o.2 _ s) (fun s => turns_ge b o.2 _ s) (fun s => Sm.rels ag b o.2 _ s) k s
  | .set x e, o, p, s => by simp only [Sm.run]; exact .inl rfl
  | .half x e, o, p, s => by
    by_cases h : s.turns.length < j
    · refine .inl ?_
      simp only [Sm.run, halv, ag _ _ _ h]
    · simp only [Sm.run, halv]
      split
      · exact .inl rfl
      · split
        · exact .inl rfl
        · refine .inr ⟨?_, ?_⟩
          · show j < (s.turns ++ [_]).length
            rw [List.length_append, List.length_singleton]
            omega
          · show j < (s.turns ++ [_]).length
            rw [List.length_append, List.length_singleton]
            omega
  | .tell e, o, p, s => by simp only [Sm.run]; exact .inl rfl
  | .say c, o, p, s => by simp only [Sm.run]; exact .inl rfl
  | .stop c, o, p, s => by simp only [Sm.run]; exact .inl rfl
theorem Sm.rels (ag : ∀ k v p, k < j → d1 k v p = d2 k v p) : ∀ (b : List Sm), Sm.oks b → ∀ (p : Int) (s : Cs), Rl j (Sm.runs d1 ways b p s) (Sm.runs d2 ways b p s)
  | [], _, p, s => by simp only [Sm.runs]; exact .inl rfl
  | t :: r, o, p, s => by
    simp only [Sm.oks] at o
    rcases Sm.rel ag t o.1 p s with h | ⟨h1, h2⟩
    · simp only [Sm.runs, ← h]
      cases e : Sm.run d1 ways t p s with
      | mk c s' =>
        cases c with
        | none => exact Sm.rels ag r o.2 _ s'
        | some c => exact .inl rfl
    · exact .inr ⟨Nat.lt_of_lt_of_le h1 (runs_ge1 t r o.2 p s), Nat.lt_of_lt_of_le h2 (runs_ge1 t r o.2 p s)⟩
end
end
/-- the same turns at the start, the same run -/
theorem runs_same {c1 c2 : List Int} {ways : Int → Option Int} (b : List Sm) (o : Sm.oks b) (p n : Int) (h : ∀ k, k < (Sm.runs (decC c1) ways b p (cs0 n)).2.turns.length → c1.getD k 0 = c2.getD k 0) : Sm.runs (decC c2) ways b p (cs0 n) = Sm.runs (decC c1) ways b p (cs0 n) := by
  rcases Sm.rels (d1 := decC c1) (d2 := decC c2) (ways := ways) (j := (Sm.runs (decC c1) ways b p (cs0 n)).2.turns.length) (fun k _ _ hk => h k hk) b o p (cs0 n) with e | ⟨h1, _⟩
  · exact e.symm
  · exact absurd h1 (Nat.lt_irrefl _)
theorem runs_other {c1 c2 : List Int} {ways : Int → Option Int} (b : List Sm) (o : Sm.oks b) (p n : Int) (j : Nat) (hj : j < (Sm.runs (decC c1) ways b p (cs0 n)).2.turns.length) (h : ∀ k, k < j → c1.getD k 0 = c2.getD k 0) :
    (Sm.runs (decC c2) ways b p (cs0 n)).2.turns.take (j + 1) = tk c2 (j + 1) := by
  have l : j < (Sm.runs (decC c2) ways b p (cs0 n)).2.turns.length := by
    rcases Sm.rels (d1 := decC c1) (d2 := decC c2) (ways := ways) (j := j) (fun k _ _ hk => h k hk) b o p (cs0 n) with e | ⟨_, h2⟩
    · rw [← e]; exact hj
    · exact h2
  rw [turns_tk b o p n]
  unfold tk
  rw [← List.map_take, List.take_range, Nat.min_eq_left l]
/-! ### how large the numbers are -/
theorem Ex.ev_le {env : Str → Int} {M : Nat} (hM : 99 ≤ M) (h : ∀ x, (env x).natAbs ≤ M) : ∀ {e : Ex}, e.ok → (e.ev env).natAbs ≤ M * 9 ^ e.deep
  | .num i, o => by
    obtain ⟨h1, h2⟩ := (show -99 ≤ i ∧ i ≤ 99 from o)
    show i.natAbs ≤ M * 9 ^ 1
    omega
  | .var x, o => by
    have := h x
    show (env x).natAbs ≤ M * 9 ^ 1
    omega
  | .plus a b, o => by
    have h1 := Ex.ev_le hM h (e := a) (show a.ok ∧ b.ok from o).1
    have h2 := Ex.ev_le hM h (e := b) (show a.ok ∧ b.ok from o).2
    show (a.ev env + b.ev env).natAbs ≤ M * 9 ^ (max a.deep b.deep + 1)
    have p1 : M * 9 ^ a.deep ≤ M * 9 ^ max a.deep b.deep := Nat.mul_le_mul_left _ (Nat.pow_le_pow_right (by decide) (Nat.le_max_left _ _))
    have p2 : M * 9 ^ b.deep ≤ M * 9 ^ max a.deep b.deep := Nat.mul_le_mul_left _ (Nat.pow_le_pow_right (by decide) (Nat.le_max_right _ _))
    rw [Nat.pow_succ, ← Nat.mul_assoc]
    omega
  | .minus a b, o => by
    have h1 := Ex.ev_le hM h (e := a) (show a.ok ∧ b.ok from o).1
    have h2 := Ex.ev_le hM h (e := b) (show a.ok ∧ b.ok from o).2
    show (a.ev env - b.ev env).natAbs ≤ M * 9 ^ (max a.deep b.deep + 1)
    have p1 : M * 9 ^ a.deep ≤ M * 9 ^ max a.deep b.deep := Nat.mul_le_mul_left _ (Nat.pow_le_pow_right (by decide) (Nat.le_max_left _ _))
    have p2 : M * 9 ^ b.deep ≤ M * 9 ^ max a.deep b.deep := Nat.mul_le_mul_left _ (Nat.pow_le_pow_right (by decide) (Nat.le_max_right _ _))
    rw [Nat.pow_succ, ← Nat.mul_assoc]
    omega
  | .times k a, o => by
    obtain ⟨k1, k2, oa⟩ := (show -9 ≤ k ∧ k ≤ 9 ∧ a.ok from o)
    have h1 := Ex.ev_le hM h (e := a) oa
    show (k * a.ev env).natAbs ≤ M * 9 ^ (a.deep + 1)
    rw [Int.natAbs_mul, Nat.pow_succ, ← Nat.mul_assoc, Nat.mul_comm]
    exact Nat.mul_le_mul h1 (by omega)
/-- a number, a text that a run may tell -/
def kOk (M : Nat) : Key → Prop
  | .inl i => i.natAbs ≤ M
  | .inr c => PyData.strOk c = true ∧ c.length ≤ 20
theorem kOk.mono {M M' : Nat} (h : M ≤ M') : ∀ {k : Key}, kOk M k → kOk M' k
  | .inl _, o => Nat.le_trans o h
  | .inr _, o => o
def BN : Nat := 10 ^ 60
structure Mag (w : Nat) (s : Cs) : Prop where
  env : ∀ x, (s.env x).natAbs ≤ BN * 729 ^ w
  said : ∀ k ∈ s.said, kOk (BN * 729 ^ w) k
  len : s.said.length ≤ w
theorem bn_mono {w w' : Nat} (h : w ≤ w') : BN * 729 ^ w ≤ BN * 729 ^ w' := Nat.mul_le_mul_left _ (Nat.pow_le_pow_right (by decide) h)
theorem bn_99 (w : Nat) : 99 ≤ BN * 729 ^ w := Nat.le_trans (by decide : 99 ≤ BN * 1) (Nat.mul_le_mul_left _ (Nat.one_le_pow _ _ (by decide)))
theorem Mag.mono {w w' : Nat} {s : Cs} (m : Mag w s) (h : w ≤ w') : Mag w' s := ⟨fun x => Nat.le_trans (m.env x) (bn_mono h), fun k hk => (m.said k hk).mono (bn_mono h), Nat.le_trans m.len h⟩
theorem Mag.ev {w : Nat} {s : Cs} (m : Mag w s) {e : Ex} (o : e.ok) (d : e.deep ≤ 3) : (e.ev s.env).natAbs ≤ BN * 729 ^ (w + 1) := by
  have h := Ex.ev_le (bn_99 w) m.env o
  refine Nat.le_trans h ?_
  rw [Nat.pow_succ, ← Nat.mul_assoc]
  exact Nat.mul_le_mul_left _ (Nat.le_trans (Nat.pow_le_pow_right (by decide) d) (by decide))
section
variable {dec : Nat → Int → Int → Int} {ways : Int → Option Int}
theorem iterN_word {Pz : Str → Prop} {f : Cs → Option Str × Cs} (h : ∀ s c, (f s).1 = some c → Pz c) : ∀ (k : Nat) (s : Cs) (c : Str), (iterN k f s).1 = some c → Pz c
  | 0, s, c, e => nomatch (show (none : Option Str) = some c from e)
  | k + 1, s, c, e => by
    rw [iterN] at e
    have h1 := h s
    cases z : f s with
    | mk d s' =>
      rw [z] at e h1
      cases d with
      | none => exact iterN_word h k s' c e
      | some d => exact h1 c e
mutual
theorem Sm.word : ∀ (t : Sm), t.ok → ∀ (p : Int) (s : Cs) (c : Str), (t.run dec ways p s).1 = some c → PyData.strOk c = true ∧ c.length ≤ 20
  | .ite t y n, o, p, s, c, e => by
    simp only [Sm.ok] at o
    simp only [Sm.run] at e
    by_cases hc : t.ev s.env = true
    · rw [if_pos hc] at e
      exact Sm.words y o.2.2.1 _ s c e
    · rw [if_neg hc] at e
      exact Sm.words n o.2.2.2 _ s c e
  | .rep k b, o, p, s, c, e => by
    simp only [Sm.ok] at o
    simp only [Sm.run] at e
    exact iterN_word (fun s c e => Sm.words b o.2 _ s c e) k s c e
  | .set x e', o, p, s, c, e => by simp only [Sm.run] at e; exact nomatch e
  | .half x e', o, p, s, c, e => by simp only [Sm.run] at e; exact nomatch e
  | .tell e', o, p, s, c, e => by simp only [Sm.run] at e; exact nomatch e
  | .say c', o, p, s, c, e => by simp only [Sm.run] at e; exact nomatch e
  | .stop c', o, p, s, c, e => by
    simp only [Sm.ok] at o
    simp only [Sm.run] at e
    cases e
    exact o
theorem Sm.words : ∀ (b : List Sm), Sm.oks b → ∀ (p : Int) (s : Cs) (c : Str), (Sm.runs dec ways b p s).1 = some c → PyData.strOk c = true ∧ c.length ≤ 20
  | [], _, p, s, c, e => by simp only [Sm.runs] at e; exact nomatch e
  | t :: r, o, p, s, c, e => by
    simp only [Sm.oks] at o
    have h1 := Sm.word t o.1 p s
    simp only [Sm.runs] at e
    cases z : Sm.run dec ways t p s with
    | mk d s' =>
      rw [z] at e h1
      cases d with
      | none => exact Sm.words r o.2 _ s' c e
      | some d => exact h1 c e
end
end
/-! ### what is told can be shown -/
def BM : Nat := 10 ^ 240
structure ROk (r : Option Str × Cs) : Prop where
  said : ∀ k ∈ r.2.said, kOk (BM - 1) k
  len : r.2.said.length ≤ 60
  word : ∀ c, r.1 = some c → PyData.strOk c = true ∧ c.length ≤ 20
  turns : ∀ i ∈ r.2.turns, i = 0 ∨ i = 1
  tlen : r.2.turns.length ≤ 4
theorem decC_01 {chs : List Int} (h : ∀ i ∈ chs, i = 0 ∨ i = 1) (k : Nat) (v p : Int) : decC chs k v p = 0 ∨ decC chs k v p = 1 := by
  show chs.getD k 0 = 0 ∨ chs.getD k 0 = 1
  rw [List.getD_eq_getElem?_getD]
  cases e : chs[k]? with
  | none => exact .inl rfl
  | some i => exact h i (List.mem_of_getElem? e)
theorem tk_01 {chs : List Int} (h : ∀ i ∈ chs, i = 0 ∨ i = 1) (n : Nat) : ∀ i ∈ tk chs n, i = 0 ∨ i = 1 := by
  intro i hi
  unfold tk at hi
  obtain ⟨k, _, rfl⟩ := List.mem_map.mp hi
  exact decC_01 h k 0 0
theorem log_le {i : Int} (h : i.natAbs ≤ BM - 1) : i.natAbs.log2 < 900 := by
  by_cases z : i.natAbs = 0
  · rw [z]; decide
  · rw [Nat.log2_lt z]
    exact Nat.lt_of_le_of_lt h (by decide +kernel)
theorem kD_showable {k : Key} (h : kOk (BM - 1) k) : (kD k).showable = true := by
  cases k with
  | inl i =>
    show PyData.showable (.int i) = true
    simp only [PyData.showable, decide_eq_true_eq]
    have := log_le (show i.natAbs ≤ BM - 1 from h)
    omega
  | inr c => simp only [kD, PyData.showable]
def ty01 (l : List Int) : Prop := ∀ i ∈ l, i = 0 ∨ i = 1
theorem kD_short {k : Key} (h : kOk (BM - 1) k) : (kD k).leavesShort 241 = true := by
  cases k with
  | inl i =>
    show PyData.leavesShort 241 (.int i) = true
    simp only [PyData.leavesShort, decide_eq_true_eq]
    have hi : i.natAbs < 10 ^ 240 := by
      have : 0 < BM := by decide +kernel
      exact Nat.lt_of_le_of_lt (show i.natAbs ≤ BM - 1 from h) (by show BM - 1 < BM; omega)
    have e := int_text_length_le10 (k := 240) (by decide) hi
    show (Str.ofString (toString i)).length ≤ 241
    rw [ofString_length]
    exact e
  | inr c =>
    show PyData.leavesShort 241 (.str c) = true
    exact PyData.leavesShort_of_canLay0 241 (.str c) (by simp only [PyData.canLay0]; exact h.1) (by simp only [PyData.intsShort])
theorem kD_weight {k : Key} (h : kOk (BM - 1) k) : (kD k).weight ≤ 1000 := by
  cases k with
  | inl i =>
    show PyData.weight (.int i) ≤ 1000
    simp only [PyData.weight]
    have := log_le (show i.natAbs ≤ BM - 1 from h)
    split <;> omega
  | inr c =>
    show PyData.weight (.str c) ≤ 1000
    simp only [PyData.weight]
    exact Nat.le_trans h.2 (by decide)
theorem kD_depth (k : Key) : (kD k).depth = 0 := by cases k <;> simp only [kD, PyData.depth]
/-- data that repr may be asked of -/
structure Shw (d : PyData) : Prop where
  sh : d.showable = true
  sz : d.shown.length ≤ sizeLine
  dp : d.depth ≤ 60
theorem shw_of {d : PyData} {W : Nat} (h1 : d.showable = true) (h2 : d.leavesShort 241 = true) (h3 : d.weight ≤ W) (h4 : (243 : Nat) * W + 241 ≤ 16777216) (h5 : d.depth ≤ 60) : Shw d := by
  refine ⟨h1, Nat.le_trans (PyData.shown_le 241 (by decide) d h2) ?_, h5⟩
  refine Nat.le_trans (Nat.add_le_add_right (Nat.mul_le_mul_left 243 h3) 241) ?_
  exact Nat.le_trans h4 (by decide +kernel)
section
variable {X : Cx}
def rReprT : List V → Hp → VK → Prop := fun xs H Q => ∃ x d, xs = [x] ∧ Tr H d x ∧ Shw d ∧ ∀ z, z = d.shown → Q (.str z) H
theorem call_reprT (fr : Free X.A) (hu : X.A.units + 64 < cLine) : CallR X (.builtin "repr") rReprT := CallR.imp (call_reprD fr hu) fun xs H Q ⟨x, d, e, t, s, q⟩ => ⟨x, d, e, Tr.dp d x t, s.sh, s.sz, s.dp, q _ rfl⟩
end
/-! ### short: the trailing noughts go -/
theorem tk_getD {chs : List Int} {n k : Nat} (h : k < n) : (tk chs n).getD k 0 = chs.getD k 0 := by
  unfold tk
  rw [List.getD_eq_getElem?_getD, List.getElem?_map, List.getElem?_range h]
  rfl
theorem getD_app {a b : List Int} {k : Nat} (h : k < a.length) : (a ++ b).getD k 0 = a.getD k 0 := by
  rw [List.getD_eq_getElem?_getD, List.getD_eq_getElem?_getD, List.getElem?_append_left h]
theorem ty01.take {l : List Int} (h : ty01 l) (k : Nat) : ty01 (l.take k) := fun i hi => h i (List.mem_of_mem_take hi)
/-! ### all runs on a number, one behind another -/
def nxt : List Int → Option (List Int)
  | [] => none
  | x :: r => match nxt r with
    | some c => some (x :: c)
    | none => if x = 1 then none else some [1]
theorem nxt_ones : ∀ {t : List Int}, (∀ x ∈ t, x = 1) → nxt t = none
  | [], _ => rfl
  | x :: r, h => by
    rw [nxt, nxt_ones (fun y hy => h y (List.mem_cons_of_mem _ hy))]
    show (if x = 1 then none else some [1]) = none
    rw [if_pos (h x List.mem_cons_self)]
theorem nxt_at {x : Int} {r : List Int} (hx : x ≠ 1) (hr : ∀ y ∈ r, y = 1) : ∀ p : List Int, nxt (p ++ x :: r) = some (p ++ [1])
  | [] => by
    show nxt (x :: r) = _
    rw [nxt, nxt_ones hr]
    show (if x = 1 then none else some [1]) = _
    rw [if_neg hx]
    rfl
  | y :: p => by
    show nxt (y :: (p ++ x :: r)) = _
    rw [nxt, nxt_at hx hr p]
    rfl
theorem nxt_cases : ∀ t : List Int, (nxt t = none ∧ ∀ x ∈ t, x = 1) ∨ ∃ p x r, t = p ++ x :: r ∧ x ≠ 1 ∧ (∀ y ∈ r, y = 1) ∧ nxt t = some (p ++ [1])
  | [] => .inl ⟨rfl, fun x h => nomatch h⟩
  | x :: r => by
    rcases nxt_cases r with ⟨h1, h2⟩ | ⟨p, y, q, rfl, hy, hq, e⟩
    · by_cases hx : x = 1
      · refine .inl ⟨nxt_ones ?_, ?_⟩ <;>
        · intro z hz
          rcases List.mem_cons.mp hz with rfl | hz
          · exact hx
          · exact h2 z hz
      · exact .inr ⟨[], x, r, rfl, hx, h2, nxt_at hx h2 []⟩
    · exact .inr ⟨x :: p, y, q, rfl, hy, hq, nxt_at hy hq (x :: p)⟩
/-- the number that a row of turns writes, k figures -/
def wl : Nat → List Int → Int
  | _, [] => 0
  | 0, _ :: _ => 0
  | k + 1, x :: r => x * (2 : Int) ^ k + wl k r
/-- the part of the whole that turns stand for -/
def pw (k : Nat) (t : List Int) : Int := (2 : Int) ^ (k - t.length)
theorem pw_pos (k : Nat) (t : List Int) : 1 ≤ pw k t := by
  have : (0 : Int) < (2 : Int) ^ (k - t.length) := Int.pow_pos (by decide)
  unfold pw
  omega
theorem pw_cons (k : Nat) (x : Int) (r : List Int) : pw (k + 1) (x :: r) = pw k r := by
  unfold pw
  rw [List.length_cons, Nat.add_sub_add_right]
theorem pow2_succ (k : Nat) : (2 : Int) ^ (k + 1) = 2 * (2 : Int) ^ k := by rw [Int.pow_succ, Int.mul_comm]
theorem wl_nil (k : Nat) : wl k [] = 0 := by cases k <;> rfl
theorem wl_ones : ∀ {k : Nat} {t : List Int}, (∀ x ∈ t, x = 1) → t.length ≤ k → wl k t + pw k t = (2 : Int) ^ k
  | k, [], _, _ => by rw [wl_nil]; unfold pw; simp
  | 0, x :: r, _, l => absurd l (Nat.not_succ_le_zero _)
  | k + 1, x :: r, h, l => by
    have ih := wl_ones (k := k) (t := r) (fun y hy => h y (List.mem_cons_of_mem _ hy)) (Nat.le_of_succ_le_succ l)
    rw [pw_cons, pow2_succ, wl, h x List.mem_cons_self]
    omega
theorem ty01.tail {x : Int} {r : List Int} (h : ty01 (x :: r)) : ty01 r := fun i hi => h i (List.mem_cons_of_mem _ hi)
theorem ty01.head {x : Int} {r : List Int} (h : ty01 (x :: r)) : x = 0 ∨ x = 1 := h x List.mem_cons_self
theorem wl_nxt : ∀ {k : Nat} {t c : List Int}, ty01 t → t.length ≤ k → nxt t = some c → wl k c = wl k t + pw k t
  | k, [], c, _, _, e => nomatch (show (none : Option (List Int)) = some c from e)
  | 0, x :: r, c, _, l, _ => absurd l (Nat.not_succ_le_zero _)
  | k + 1, x :: r, c, h, l, e => by
    rcases nxt_cases r with ⟨h1, h2⟩ | ⟨p, y, q, rfl, hy, hq, e1⟩
    · rw [nxt, h1] at e
      have e : (if x = 1 then none else some [1]) = some c := e
      by_cases hx : x = 1
      · rw [if_pos hx] at e; cases e
      · rw [if_neg hx] at e
        cases e
        have x0 : x = 0 := by
          rcases h.head with z | z
          · exact z
          · exact absurd z hx
        have o := wl_ones (k := k) h2 (Nat.le_of_succ_le_succ l)
        rw [pw_cons]
        show 1 * (2 : Int) ^ k + wl k [] = (x * (2 : Int) ^ k + wl k r) + pw k r
        rw [wl_nil, x0]
        omega
    · have ih := wl_nxt (k := k) h.tail (Nat.le_of_succ_le_succ l) e1
      rw [nxt, e1] at e
      cases e
      rw [pw_cons, wl, wl, ih]
      omega
theorem nxt_none {t : List Int} (h : nxt t = none) : ∀ x ∈ t, x = 1 := by
  rcases nxt_cases t with ⟨_, h2⟩ | ⟨p, x, r, _, _, _, e⟩
  · exact h2
  · rw [e] at h; cases h
theorem wl_rng : ∀ {k : Nat} {t : List Int}, ty01 t → t.length ≤ k → 0 ≤ wl k t ∧ wl k t + pw k t ≤ (2 : Int) ^ k
  | k, [], _, _ => by rw [wl_nil]; unfold pw; simp
  | 0, x :: r, _, l => absurd l (Nat.not_succ_le_zero _)
  | k + 1, x :: r, h, l => by
    have ih := wl_rng (k := k) h.tail (Nat.le_of_succ_le_succ l)
    have p := pw_pos k r
    rw [pw_cons, pow2_succ, wl]
    rcases h.head with z | z <;> rw [z] <;> constructor <;> omega
theorem wl_zeros : ∀ (k : Nat) (c : List Int) (m : Nat), wl k (c ++ List.replicate m 0) = wl k c
  | k, [], 0 => rfl
  | 0, [], m + 1 => rfl
  | k + 1, [], m + 1 => by
    have := wl_zeros k [] m
    rw [List.nil_append] at this
    show 0 * (2 : Int) ^ k + wl k (List.replicate m 0) = 0
    rw [this, wl_nil]
    omega
  | 0, x :: r, m => rfl
  | k + 1, x :: r, m => by
    show x * (2 : Int) ^ k + wl k (r ++ List.replicate m 0) = _
    rw [wl_zeros k r m]
    rfl
theorem tk_zeros {c : List Int} {n : Nat} (h : c.length ≤ n) : tk c n = c ++ List.replicate (n - c.length) 0 := by
  refine List.ext_getElem? fun i => ?_
  unfold tk
  rw [List.getElem?_map]
  by_cases l : i < n
  · rw [List.getElem?_range l]
    show some (c.getD i 0) = _
    rw [List.getD_eq_getElem?_getD]
    by_cases l2 : i < c.length
    · rw [List.getElem?_append_left l2, List.getElem?_eq_getElem l2]
      rfl
    · rw [List.getElem?_append_right (by omega), List.getElem?_eq_none (by omega), List.getElem?_replicate, if_pos (by omega)]
      rfl
  · rw [List.getElem?_eq_none (by rw [List.length_range]; omega), List.getElem?_eq_none (by rw [List.length_append, List.length_replicate]; omega)]
    rfl
theorem wl_tk {k : Nat} {c : List Int} {n : Nat} (h : c.length ≤ n) : wl k (tk c n) = wl k c := by rw [tk_zeros h, wl_zeros]
/-- a number between those of t begins with t -/
theorem wl_pre : ∀ {k : Nat} {t v : List Int}, ty01 t → ty01 v → v.length = k → t.length ≤ k → wl k t ≤ wl k v → wl k v < wl k t + pw k t → ∃ s, v = t ++ s
  | k, [], v, _, _, _, _, _, _ => ⟨v, rfl⟩
  | 0, x :: r, v, _, _, _, l, _, _ => absurd l (Nat.not_succ_le_zero _)
  | k + 1, x :: r, [], _, _, lv, _, _, _ => nomatch lv
  | k + 1, x :: r, y :: w, h, g, lv, l, a, b => by
    have l1 := Nat.le_of_succ_le_succ l
    have lw : w.length = k := Nat.succ.inj lv
    have r1 := wl_rng (k := k) h.tail l1
    have r2 := wl_rng (k := k) g.tail (Nat.le_of_eq lw)
    have p1 := pw_pos k w
    have p2 := pw_pos k r
    rw [pw_cons] at b
    rw [wl, wl] at a b
    have e : x = y := by
      rcases h.head with z | z <;> rcases g.head with u | u <;> rw [z, u] at a b <;> rw [z, u] <;> omega
    subst e
    obtain ⟨s, rfl⟩ := wl_pre (k := k) h.tail g.tail lw l1 (by omega) (by omega)
    exact ⟨s, rfl⟩
/-- t comes ahead of u, and is no beginning of it -/
inductive Ahd : List Int → List Int → Prop
  | lt {r w : List Int} : Ahd (0 :: r) (1 :: w)
  | eq {x : Int} {r w : List Int} : Ahd r w → Ahd (x :: r) (x :: w)
theorem wl_ahd : ∀ {k : Nat} {t u : List Int}, ty01 t → ty01 u → t.length ≤ k → u.length ≤ k → wl k t + pw k t ≤ wl k u → Ahd t u
  | k, [], u, _, g, _, lu, a => by
    have r := wl_rng g lu
    have p := pw_pos k u
    rw [wl_nil] at a
    have e : pw k [] = (2 : Int) ^ k := by unfold pw; simp
    omega
  | 0, x :: r, u, _, _, l, _, _ => absurd l (Nat.not_succ_le_zero _)
  | k + 1, x :: r, [], h, _, l, _, a => by
    have r1 := wl_rng h l
    have p := pw_pos (k + 1) (x :: r)
    rw [wl_nil] at a
    omega
  | k + 1, x :: r, y :: w, h, g, l, lu, a => by
    have l1 := Nat.le_of_succ_le_succ l
    have lw := Nat.le_of_succ_le_succ lu
    have r1 := wl_rng (k := k) h.tail l1
    have r2 := wl_rng (k := k) g.tail lw
    have p1 := pw_pos k w
    have p2 := pw_pos k r
    rw [pw_cons] at a
    rw [wl, wl] at a
    rcases h.head with z | z <;> rcases g.head with v | v <;> rw [z, v] at a ⊢
    · exact .eq (wl_ahd (k := k) h.tail g.tail l1 lw (by omega))
    · exact .lt
    · omega
    · exact .eq (wl_ahd (k := k) h.tail g.tail l1 lw (by omega))
section
variable (ways : Int → Option Int) (b : List Sm) (n : Int)
abbrev rn (c : List Int) : Option Str × Cs := Sm.runs (decC c) ways b 0 (cs0 n)
/-- the runs so far, and the choices of the next one -/
inductive Chn : List (Option Str × Cs) → Option (List Int) → Prop
  | nil : Chn [] (some [])
  | snoc {Rs : List (Option Str × Cs)} {c : List Int} : Chn Rs (some c) → Chn (Rs ++ [rn ways b n c]) (nxt (rn ways b n c).2.turns)
end
def topO (k : Nat) : Option (List Int) → Int
  | some c => wl k c
  | none => (2 : Int) ^ k
structure ChOk (ways : Int → Option Int) (b : List Sm) (n : Int) (k : Nat) (Rs : List (Option Str × Cs)) (o : Option (List Int)) : Prop where
  self : ∀ R ∈ Rs, rn ways b n R.2.turns = R ∧ ty01 R.2.turns ∧ R.2.turns.length ≤ k ∧ wl k R.2.turns + pw k R.2.turns ≤ topO k o
  sum : (Rs.map fun R => pw k R.2.turns).sum = topO k o
  cs : ∀ c, o = some c → ty01 c ∧ c.length ≤ (rn ways b n c).2.turns.length
  all : ∀ v : List Int, v.length = k → ty01 v → wl k v < topO k o → rn ways b n v ∈ Rs
  ord : Rs.Pairwise fun R S => Ahd R.2.turns S.2.turns
section
variable {ways : Int → Option Int} {b : List Sm} {n : Int} {k : Nat}
theorem rn_turns (o : Sm.oks b) (c : List Int) : (rn ways b n c).2.turns = tk c (rn ways b n c).2.turns.length := turns_tk b o 0 n
theorem rn_len (o : Sm.oks b) (hv : Sm.hvs b ≤ k) (c : List Int) : (rn ways b n c).2.turns.length ≤ k := by
  have := turns_le (dec := decC c) (ways := ways) b o 0 (cs0 n)
  have e : (cs0 n).turns.length = 0 := rfl
  show (Sm.runs (decC c) ways b 0 (cs0 n)).2.turns.length ≤ k
  omega
theorem rn_self (o : Sm.oks b) (c : List Int) : rn ways b n (rn ways b n c).2.turns = rn ways b n c := by
  refine runs_same (c1 := c) (c2 := (rn ways b n c).2.turns) (ways := ways) b o 0 n fun i hi => ?_
  have e := tk_getD (chs := c) hi
  rw [← rn_turns o c] at e
  exact e.symm
theorem ChOk.nil (o : Sm.oks b) : ChOk ways b n k [] (some []) := by
  refine ⟨(fun R h => nomatch h), ?_, ?_, ?_, .nil⟩
  · show (0 : Int) = wl k []
    rw [wl_nil]
  · rintro c ⟨⟩
    exact ⟨(fun i h => nomatch h), Nat.zero_le _⟩
  · intro v l h a
    have := (wl_rng h (Nat.le_of_eq l)).1
    have a : wl k v < wl k [] := a
    rw [wl_nil] at a
    omega
theorem ChOk.snoc (o : Sm.oks b) (hv : Sm.hvs b ≤ k) {Rs : List (Option Str × Cs)} {c : List Int} (h : ChOk ways b n k Rs (some c)) : ChOk ways b n k (Rs ++ [rn ways b n c]) (nxt (rn ways b n c).2.turns) := by
  obtain ⟨c01, cl⟩ := h.cs c rfl
  have tt := rn_turns (ways := ways) (n := n) o c
  have tl := rn_len (ways := ways) (n := n) o hv c
  have t01 : ty01 (rn ways b n c).2.turns := by
    rw [tt]
    exact tk_01 c01 _
  have wc : wl k (rn ways b n c).2.turns = wl k c := by
    rw [tt]
    exact wl_tk cl
  have top : topO k (nxt (rn ways b n c).2.turns) = wl k c + pw k (rn ways b n c).2.turns := by
    cases e : nxt (rn ways b n c).2.turns with
    | none =>
      have := wl_ones (k := k) (nxt_none e) tl
      show (2 : Int) ^ k = _
      omega
    | some c2 =>
      have := wl_nxt t01 tl e
      show wl k c2 = _
      omega
  have p := pw_pos k (rn ways b n c).2.turns
  have tc : topO k (some c) = wl k c := rfl
  refine ⟨?_, ?_, ?_, ?_, ?_⟩
  · intro R hR
    rcases List.mem_append.mp hR with z | z
    · obtain ⟨a1, a2, a3, a4⟩ := h.self R z
      exact ⟨a1, a2, a3, by omega⟩
    · cases List.mem_singleton.mp z
      exact ⟨rn_self o c, t01, tl, by omega⟩
  · rw [List.map_append, List.sum_append, h.sum, top]
    show wl k c + (pw k _ + 0) = _
    omega
  · intro c2 e
    rcases nxt_cases (rn ways b n c).2.turns with ⟨z, _⟩ | ⟨q, x, r, et, hx, hr, e2⟩
    · rw [z] at e; cases e
    · rw [e2] at e
      cases e
      have q01 : ty01 (q ++ [1]) := by
        intro i hi
        rcases List.mem_append.mp hi with z | z
        · exact t01 i (by rw [et]; exact List.mem_append_left _ z)
        · cases List.mem_singleton.mp z
          exact .inr rfl
      refine ⟨q01, ?_⟩
      have hj : q.length < (rn ways b n c).2.turns.length := by
        rw [et, List.length_append, List.length_cons]
        omega
      have ot := runs_other (c1 := c) (c2 := q ++ [1]) (ways := ways) b o 0 n q.length hj (by
        intro i hi
        have e := tk_getD (chs := c) (show i < (rn ways b n c).2.turns.length by omega)
        rw [← tt, et] at e
        rw [← e, List.getD_eq_getElem?_getD, List.getD_eq_getElem?_getD, List.getElem?_append_left hi, List.getElem?_append_left hi])
      have := congrArg List.length ot
      rw [List.length_take, tk_len] at this
      rw [List.length_append, List.length_singleton]
      show q.length + 1 ≤ (Sm.runs (decC (q ++ [1])) ways b 0 (cs0 n)).2.turns.length
      omega
  · intro v l v01 a
    by_cases z : wl k v < wl k c
    · exact List.mem_append_left _ (h.all v l v01 z)
    · refine List.mem_append_right _ (List.mem_singleton.mpr ?_)
      obtain ⟨s, rfl⟩ := wl_pre t01 v01 l tl (by omega) (by omega)
      refine runs_same (c1 := c) (c2 := (rn ways b n c).2.turns ++ s) (ways := ways) b o 0 n fun i hi => ?_
      rw [getD_app hi]
      have e := tk_getD (chs := c) hi
      rw [← rn_turns o c] at e
      exact e.symm
  · rw [List.pairwise_append]
    refine ⟨h.ord, List.pairwise_singleton _ _, ?_⟩
    intro R hR S hS
    cases List.mem_singleton.mp hS
    obtain ⟨a1, a2, a3, a4⟩ := h.self R hR
    exact wl_ahd a2 t01 a3 tl (by omega)
theorem Chn.ok (o : Sm.oks b) (hv : Sm.hvs b ≤ k) {Rs : List (Option Str × Cs)} {c : Option (List Int)} (h : Chn ways b n Rs c) : ChOk ways b n k Rs c := by
  generalize e : c = c' at h
  induction h generalizing c with
  | nil => exact ChOk.nil o
  | snoc h ih => exact (ih rfl).snoc o hv
theorem sum_ge {Rs : List (Option Str × Cs)} : (Rs.length : Int) ≤ (Rs.map fun R => pw k R.2.turns).sum := by
  induction Rs with
  | nil => exact Int.le_refl 0
  | cons R r ih =>
    have := pw_pos k R.2.turns
    rw [List.map_cons, List.sum_cons, List.length_cons]
    omega
theorem topO_le {o : Option (List Int)} (h : ∀ c, o = some c → ty01 c ∧ c.length ≤ k) : topO k o ≤ (2 : Int) ^ k := by
  cases o with
  | none => exact Int.le_refl _
  | some c =>
    obtain ⟨h1, h2⟩ := h c rfl
    have := wl_rng h1 h2
    have := pw_pos k c
    show wl k c ≤ _
    omega
theorem ChOk.len (o : Sm.oks b) (hv : Sm.hvs b ≤ k) {Rs : List (Option Str × Cs)} {c : Option (List Int)} (h : ChOk ways b n k Rs c) : (Rs.length : Int) ≤ (2 : Int) ^ k := by
  refine Int.le_trans (sum_ge (k := k)) ?_
  rw [h.sum]
  refine topO_le fun c e => ?_
  obtain ⟨h1, h2⟩ := h.cs c e
  exact ⟨h1, Nat.le_trans h2 (rn_len o hv c)⟩
end
/-! ### against an empty list, an empty tuple -/
section
variable {X : Cx}
/-! ### xs[::-1], xs.pop() -/
end
/-! ### what program_error asks, on data -/
def LETS : Str := "abcdefghijklmnopqrstuvwxyz"
def SGNS : Str := "abcdefghijklmnopqrstuvwxyz0123456789"
def KEPTS : List V := [.str "half", .str "tell", .str "say", .str "stop", .str "if", .str "else", .str "repeat", .str "pass", .str "odd", .str "not", .str "program"]
def wholeB (lo hi : Int) : PyData → Bool
  | .int i => decide (lo ≤ i) && decide (i ≤ hi)
  | _ => false
def sgnsB (z : Str) : Bool := z.cps.toList.all fun c => decide (c ∈ SGNS.cps.toList)
def lenB (z : Str) : Bool := decide (1 ≤ (z.length : Int)) && decide ((z.length : Int) ≤ 8)
def wordB : PyData → Bool
  | .str z => lenB z && sgnsB z
  | _ => false
def headB (z : Str) : Bool := match z.cps.toList with
  | [] => false
  | c :: _ => decide (c ∈ LETS.cps.toList)
def nameB : PyData → Bool
  | .str z => lenB z && headB z && sgnsB z && !inV (.str z) KEPTS
  | _ => false
def exprB : Nat → PyData → Bool
  | 0, _ => false
  | n + 1, .tuple [.str k, b, c] => exprB n c && (if k = "times" then wholeB (-9) 9 b else inV (.str k) [.str "plus", .str "minus"] && exprB n b)
  | n + 1, .tuple _ => false
  | n + 1, d => nameB d || wholeB (-99) 99 d
def testB : Nat → PyData → Bool
  | n, .tuple [.str k, b, c] => decide (k = "less") && exprB 3 b && exprB 3 c
  | 0, .tuple [.str k, b] => decide (k = "odd") && exprB 3 b
  | n + 1, .tuple [.str k, b] => if k = "odd" then exprB 3 b else decide (k = "not") && testB n b
  | _, _ => false
def plainB : PyData → Bool
  | .tuple [.str k, b, c] => inV (.str k) [.str "set", .str "half"] && nameB b && exprB 3 c
  | .tuple [.str k, b] => if k = "tell" then exprB 3 b else inV (.str k) [.str "say", .str "stop"] && wordB b
  | _ => false
def isTupB : PyData → Bool
  | .tuple _ => true
  | _ => false
def stmtB : PyData → Bool
  | .tuple [.str k, t, y, n] => decide (k = "if") && testB 2 t && isTupB y && isTupB n
  | .tuple [.str k, t, b] => if k = "repeat" then wholeB 0 8 t && isTupB b else plainB (.tuple [.str k, t, b])
  | .tuple [.str k, b] => plainB (.tuple [.str k, b])
  | _ => false
mutual
/-- no text is longer than the line -/
def Szd : PyData → Prop
  | .str z => z.length ≤ 1000000
  | .tuple ds => Szds ds
  | .none => True
  | .bool _ => True
  | .int _ => True
  | .list _ => True
  | .dict _ => True
def Szds : List PyData → Prop
  | [] => True
  | d :: r => Szd d ∧ Szds r
end
theorem Szds.get : ∀ {ds : List PyData} {i : Nat} {d : PyData}, Szds ds → ds[i]? = some d → Szd d
  | [], i, d, h, e => by simp at e
  | x :: r, 0, d, h, e => by
    simp only [Szds] at h
    cases e
    exact h.1
  | x :: r, i + 1, d, h, e => by
    simp only [Szds] at h
    exact Szds.get (i := i) h.2 e
theorem in2 {k a b : Str} (h : inV (.str k) [.str a, .str b] = true) : k = a ∨ k = b := by
  unfold inV at h
  simp only [List.any_cons, List.any_nil, Bool.or_false, Bool.or_eq_true] at h
  rcases h with h | h
  · exact .inl (by simpa [eqV] using h : a = k).symm
  · exact .inr (by simpa [eqV] using h : b = k).symm
/-! ### the blocks of a statement, on data -/
def blksD : PyData → List PyData
  | .tuple [.str k, _, y, n] => if k = "if" then [y, n] else []
  | .tuple [.str k, _, b] => if k = "repeat" then [b] else []
  | _ => []
def itemsD : PyData → List PyData
  | .tuple ds => ds
  | _ => []
def bitems (d : PyData) : List PyData := (blksD d).flatMap itemsD
theorem plain_kw {w : Str} {ds : List PyData} (h : plainB (.tuple (.str w :: ds)) = true) : w ≠ "if" ∧ w ≠ "repeat" := by
  have a1 : inV (.str "if") [.str "set", .str "half"] = false := by decide +kernel
  have a2 : inV (.str "if") [.str "say", .str "stop"] = false := by decide +kernel
  have a3 : ¬ (("if" : Str) = "tell") := by decide +kernel
  have b1 : inV (.str "repeat") [.str "set", .str "half"] = false := by decide +kernel
  have b2 : inV (.str "repeat") [.str "say", .str "stop"] = false := by decide +kernel
  have b3 : ¬ (("repeat" : Str) = "tell") := by decide +kernel
  rcases ds with _ | ⟨d2, _ | ⟨d3, _ | ⟨d4, r⟩⟩⟩
  · exact absurd h (by show ¬ (false = true); decide)
  · replace h : (if w = "tell" then exprB 3 d2 else inV (.str w) [.str "say", .str "stop"] && wordB d2) = true := h
    constructor
    · rintro rfl
      rw [if_neg a3, a2] at h
      exact absurd h (by simp)
    · rintro rfl
      rw [if_neg b3, b2] at h
      exact absurd h (by simp)
  · replace h : (inV (.str w) [.str "set", .str "half"] && nameB d2 && exprB 3 d3) = true := h
    constructor
    · rintro rfl
      rw [a1] at h
      exact absurd h (by simp)
    · rintro rfl
      rw [b1] at h
      exact absurd h (by simp)
  · exact absurd h (by show ¬ (false = true); decide)
theorem stmt_cases {d : PyData} (h : stmtB d = true) : (∃ t y n, d = .tuple [.str "if", t, .tuple y, .tuple n] ∧ testB 2 t = true) ∨ (∃ k b, d = .tuple [.str "repeat", .int k, .tuple b] ∧ 0 ≤ k ∧ k ≤ 8) ∨
    (∃ w ds, d = .tuple (.str w :: ds) ∧ w ≠ "if" ∧ w ≠ "repeat" ∧ plainB d = true ∧ blksD d = []) := by
  have tup : ∀ e, isTupB e = true → ∃ es, e = .tuple es := by
    intro e he
    cases e with
    | tuple es => exact ⟨es, rfl⟩
    | none => exact absurd he (by decide)
    | bool b => exact absurd he (by show ¬ (false = true); decide)
    | int b => exact absurd he (by show ¬ (false = true); decide)
    | str b => exact absurd he (by show ¬ (false = true); decide)
    | list b => exact absurd he (by show ¬ (false = true); decide)
    | dict b => exact absurd he (by show ¬ (false = true); decide)
  have pl : ∀ w ds, plainB (.tuple (.str w :: ds)) = true → (∃ w' ds', PyData.tuple (.str w :: ds) = .tuple (.str w' :: ds') ∧ w' ≠ "if" ∧ w' ≠ "repeat" ∧ plainB (.tuple (.str w :: ds)) = true ∧ blksD (.tuple (.str w :: ds)) = []) := by
    intro w ds hp
    obtain ⟨n1, n2⟩ := plain_kw hp
    refine ⟨w, ds, rfl, n1, n2, hp, ?_⟩
    rcases ds with _ | ⟨d2, _ | ⟨d3, _ | ⟨d4, _ | ⟨d5, r⟩⟩⟩⟩
    · rfl
    · rfl
    · show (if w = "repeat" then [d3] else []) = []
      rw [if_neg n2]
    · show (if w = "if" then [d3, d4] else []) = []
      rw [if_neg n1]
    · rfl
  unfold stmtB at h
  split at h
  · rename_i k t y n
    simp only [Bool.and_eq_true, decide_eq_true_eq] at h
    obtain ⟨⟨⟨rfl, h2⟩, h3⟩, h4⟩ := h
    obtain ⟨ys, rfl⟩ := tup y h3
    obtain ⟨ns, rfl⟩ := tup n h4
    exact .inl ⟨t, ys, ns, rfl, h2⟩
  · rename_i k t b
    by_cases e : k = "repeat"
    · rw [if_pos e] at h
      subst e
      simp only [Bool.and_eq_true] at h
      obtain ⟨h1, h2⟩ := h
      obtain ⟨bs, rfl⟩ := tup b h2
      cases t with
      | int i =>
        replace h1 : (decide (0 ≤ i) && decide (i ≤ 8)) = true := h1
        simp only [Bool.and_eq_true, decide_eq_true_eq] at h1
        exact .inr (.inl ⟨i, bs, rfl, h1.1, h1.2⟩)
      | none => exact absurd h1 (by decide)
      | bool b => exact absurd h1 (by show ¬ (false = true); decide)
      | tuple b => exact absurd h1 (by show ¬ (false = true); decide)
      | str b => exact absurd h1 (by show ¬ (false = true); decide)
      | list b => exact absurd h1 (by show ¬ (false = true); decide)
      | dict b => exact absurd h1 (by show ¬ (false = true); decide)
    · rw [if_neg e] at h
      exact .inr (.inr (pl _ _ h))
  · exact .inr (.inr (pl _ _ h))
  · cases h
mutual
/-- how many parts there are -/
def dsz : PyData → Nat
  | .tuple ds => 1 + dszs ds
  | .none => 1
  | .bool _ => 1
  | .int _ => 1
  | .str _ => 1
  | .list _ => 1
  | .dict _ => 1
def dszs : List PyData → Nat
  | [] => 0
  | d :: r => dsz d + dszs r
end
theorem dsz_pos (d : PyData) : 1 ≤ dsz d := by cases d <;> simp only [dsz] <;> omega
theorem dszs_app : ∀ (a b : List PyData), dszs (a ++ b) = dszs a + dszs b
  | [], b => by simp only [List.nil_append, dszs]; omega
  | d :: r, b => by simp only [List.cons_append, dszs, dszs_app r b]; omega
theorem items_sz (d : PyData) : dszs (itemsD d) + 1 ≤ dsz d := by
  cases d with
  | tuple ds => simp only [itemsD, dsz]; omega
  | none => simp only [itemsD, dsz, dszs]; omega
  | bool _ => simp only [itemsD, dsz, dszs]; omega
  | int _ => simp only [itemsD, dsz, dszs]; omega
  | str _ => simp only [itemsD, dsz, dszs]; omega
  | list _ => simp only [itemsD, dsz, dszs]; omega
  | dict _ => simp only [itemsD, dsz, dszs]; omega
theorem bitems_sz (d : PyData) : dszs (bitems d) + 1 ≤ dsz d := by
  unfold bitems
  unfold blksD
  split
  · rename_i k t y n
    have h1 := items_sz y
    have h2 := items_sz n
    split
    · simp only [List.flatMap_cons, List.flatMap_nil, List.append_nil, dszs_app, dsz, dszs]
      omega
    · simp only [List.flatMap_nil, dsz, dszs]
      omega
  · rename_i k t b
    have h1 := items_sz b
    split
    · simp only [List.flatMap_cons, List.flatMap_nil, List.append_nil, dsz, dszs]
      omega
    · simp only [List.flatMap_nil, dsz, dszs]
      omega
  · have := dsz_pos d
    simp only [List.flatMap_nil, dszs]
    omega
theorem Szds.app : ∀ {a b : List PyData}, Szds a → Szds b → Szds (a ++ b)
  | [], b, _, h => h
  | d :: r, b, h, g => by
    simp only [Szds] at h
    simp only [List.cons_append, Szds]
    exact ⟨h.1, Szds.app h.2 g⟩
theorem Szd.items {d : PyData} (h : Szd d) : Szds (itemsD d) := by
  cases d with
  | tuple ds => simpa only [Szd, itemsD] using h
  | none => simp only [itemsD, Szds]
  | bool _ => simp only [itemsD, Szds]
  | int _ => simp only [itemsD, Szds]
  | str _ => simp only [itemsD, Szds]
  | list _ => simp only [itemsD, Szds]
  | dict _ => simp only [itemsD, Szds]
theorem Szd.bitems {d : PyData} (h : Szd d) : Szds (bitems d) := by
  unfold EH.bitems blksD
  split
  · rename_i k t y n
    simp only [Szd, Szds] at h
    split
    · simp only [List.flatMap_cons, List.flatMap_nil, List.append_nil]
      exact h.2.2.1.items.app h.2.2.2.1.items
    · simp only [List.flatMap_nil, Szds]
  · rename_i k t b
    simp only [Szd, Szds] at h
    split
    · simp only [List.flatMap_cons, List.flatMap_nil, List.append_nil]
      exact h.2.2.1.items
    · simp only [List.flatMap_nil, Szds]
  · simp only [List.flatMap_nil, Szds]
/-! ### the first wrong statement -/
def stk (l : List (Int × PyData)) : List PyData := l.map (·.2)
def ordE : Nat → List (Int × PyData) → Int → Option (Int × Str)
  | 0, _, _ => none
  | _ + 1, [], _ => none
  | f + 1, (dep, d) :: r, p => if 3 < dep then some (p, "nest") else if stmtB d = true then ordE f (((bitems d).map fun e => (dep + 1, e)) ++ r) (p + 1) else some (p, "statement")
theorem stk_app (a b : List (Int × PyData)) : stk (a ++ b) = stk a ++ stk b := List.map_append
theorem stk_bi (dep : Int) (l : List PyData) : stk (l.map fun e => (dep, e)) = l := by
  unfold stk
  rw [List.map_map]
  exact List.map_id l
def ordErr (ds : List PyData) : Option (Int × Str) := ordE (dszs ds + 1) (ds.map fun e => (0, e)) 0
/-! ### what passes is a program -/
theorem sgns_ok {z : Str} (h : sgnsB z = true) : PyData.strOk z = true := by
  have hs : ∀ c ∈ SGNS.cps.toList, c < 0x110000 := by decide +kernel
  show z.cps.all _ = true
  rw [← Array.all_toList, List.all_eq_true]
  intro c hc
  unfold sgnsB at h
  rw [List.all_eq_true] at h
  exact decide_eq_true (hs c (of_decide_eq_true (h c hc)))
theorem lenB_le {z : Str} (h : lenB z = true) : z.length ≤ 8 := by
  unfold lenB at h
  rw [Bool.and_eq_true] at h
  have := of_decide_eq_true h.2
  omega
theorem name_str {d : PyData} (h : nameB d = true) : ∃ z, d = .str z ∧ NmOk z := by
  cases d with
  | str z =>
    replace h : (lenB z && headB z && sgnsB z && !inV (.str z) KEPTS) = true := h
    simp only [Bool.and_eq_true] at h
    obtain ⟨⟨⟨h1, h2⟩, h3⟩, h4⟩ := h
    have := lenB_le h1
    exact ⟨z, rfl, sgns_ok h3, by omega⟩
  | none => exact absurd h (by decide)
  | bool b => exact absurd h (by show ¬ (false = true); decide)
  | int b => exact absurd h (by show ¬ (false = true); decide)
  | tuple b => exact absurd h (by show ¬ (false = true); decide)
  | list b => exact absurd h (by show ¬ (false = true); decide)
  | dict b => exact absurd h (by show ¬ (false = true); decide)
theorem word_str {d : PyData} (h : wordB d = true) : ∃ z, d = .str z ∧ PyData.strOk z = true ∧ z.length ≤ 20 := by
  cases d with
  | str z =>
    replace h : (lenB z && sgnsB z) = true := h
    simp only [Bool.and_eq_true] at h
    have := lenB_le h.1
    exact ⟨z, rfl, sgns_ok h.2, by omega⟩
  | none => exact absurd h (by decide)
  | bool b => exact absurd h (by show ¬ (false = true); decide)
  | int b => exact absurd h (by show ¬ (false = true); decide)
  | tuple b => exact absurd h (by show ¬ (false = true); decide)
  | list b => exact absurd h (by show ¬ (false = true); decide)
  | dict b => exact absurd h (by show ¬ (false = true); decide)
theorem whole_int {lo hi : Int} {d : PyData} (h : wholeB lo hi d = true) : ∃ i, d = .int i ∧ lo ≤ i ∧ i ≤ hi := by
  cases d with
  | int i =>
    replace h : (decide (lo ≤ i) && decide (i ≤ hi)) = true := h
    simp only [Bool.and_eq_true, decide_eq_true_eq] at h
    exact ⟨i, rfl, h.1, h.2⟩
  | none => exact absurd h (by show ¬ (false = true); decide)
  | bool b => exact absurd h (by show ¬ (false = true); decide)
  | str b => exact absurd h (by show ¬ (false = true); decide)
  | tuple b => exact absurd h (by show ¬ (false = true); decide)
  | list b => exact absurd h (by show ¬ (false = true); decide)
  | dict b => exact absurd h (by show ¬ (false = true); decide)
theorem expr_tup {n : Nat} {ds : List PyData} (h : exprB (n + 1) (.tuple ds) = true) : ∃ k b c, ds = [.str k, b, c] ∧ exprB n c = true ∧ (if k = "times" then wholeB (-9) 9 b else inV (.str k) [.str "plus", .str "minus"] && exprB n b) = true := by
  have no : ∀ {P : Prop}, (false = true) → P := fun z => by cases z
  rcases ds with _ | ⟨d1, _ | ⟨d2, _ | ⟨d3, _ | ⟨d4, r⟩⟩⟩⟩
  · exact no h
  · cases d1 <;> exact no h
  · cases d1 <;> exact no h
  · cases d1 with
    | str k =>
      replace h : (exprB n d3 && (if k = "times" then wholeB (-9) 9 d2 else inV (.str k) [.str "plus", .str "minus"] && exprB n d2)) = true := h
      rw [Bool.and_eq_true] at h
      exact ⟨k, d2, d3, rfl, h.1, h.2⟩
    | none => exact no h
    | bool _ => exact no h
    | int _ => exact no h
    | tuple _ => exact no h
    | list _ => exact no h
    | dict _ => exact no h
  · cases d1 <;> exact no h
theorem expr_flat {n : Nat} {d : PyData} (h : (nameB d || wholeB (-99) 99 d) = true) : ∃ e : Ex, d = e.d ∧ e.ok ∧ e.deep ≤ n + 1 := by
  rw [Bool.or_eq_true] at h
  rcases h with h | h
  · obtain ⟨z, rfl, ok⟩ := name_str h
    exact ⟨.var z, by simp only [Ex.d], ok, by simp only [Ex.deep]; omega⟩
  · obtain ⟨i, rfl, i1, i2⟩ := whole_int h
    exact ⟨.num i, by simp only [Ex.d], ⟨i1, i2⟩, by simp only [Ex.deep]; omega⟩
theorem expr_ex : ∀ (n : Nat) {d : PyData}, exprB n d = true → ∃ e : Ex, d = e.d ∧ e.ok ∧ e.deep ≤ n
  | 0, d, h => absurd h (by unfold exprB; simp)
  | n + 1, d, h => by
    cases d with
    | tuple ds =>
      obtain ⟨k, b, c, rfl, h1, h2⟩ := expr_tup h
      obtain ⟨ec, rfl, oc, dc⟩ := expr_ex n h1
      by_cases hk : k = "times"
      · rw [if_pos hk] at h2
        obtain ⟨i, rfl, i1, i2⟩ := whole_int h2
        subst hk
        exact ⟨.times i ec, by simp only [Ex.d], ⟨i1, i2, oc⟩, by simp only [Ex.deep]; omega⟩
      · rw [if_neg hk] at h2
        simp only [Bool.and_eq_true] at h2
        obtain ⟨hi, hb⟩ := h2
        obtain ⟨eb, rfl, ob, db⟩ := expr_ex n hb
        rcases in2 hi with rfl | rfl
        · exact ⟨.plus eb ec, by simp only [Ex.d], ⟨ob, oc⟩, by simp only [Ex.deep]; omega⟩
        · exact ⟨.minus eb ec, by simp only [Ex.d], ⟨ob, oc⟩, by simp only [Ex.deep]; omega⟩
    | none => exact expr_flat h
    | bool b => exact expr_flat h
    | int b => exact expr_flat h
    | str b => exact expr_flat h
    | list b => exact expr_flat h
    | dict b => exact expr_flat h
theorem test_ts : ∀ (n : Nat) {d : PyData}, testB n d = true → ∃ t : Ts, d = t.d ∧ t.ok ∧ t.nots ≤ n
  | n, d, h => by
    unfold testB at h
    split at h
    · rename_i k b c
      simp only [Bool.and_eq_true, decide_eq_true_eq] at h
      obtain ⟨⟨rfl, h1⟩, h2⟩ := h
      obtain ⟨eb, rfl, ob, db⟩ := expr_ex 3 h1
      obtain ⟨ec, rfl, oc, dc⟩ := expr_ex 3 h2
      exact ⟨.less eb ec, by simp only [Ts.d], ⟨⟨ob, db⟩, oc, dc⟩, Nat.zero_le _⟩
    · rename_i k b
      simp only [Bool.and_eq_true, decide_eq_true_eq] at h
      obtain ⟨rfl, h1⟩ := h
      obtain ⟨eb, rfl, ob, db⟩ := expr_ex 3 h1
      exact ⟨.odd eb, by simp only [Ts.d], ⟨ob, db⟩, Nat.zero_le _⟩
    · rename_i n k b
      by_cases hk : k = "odd"
      · rw [if_pos hk] at h
        subst hk
        obtain ⟨eb, rfl, ob, db⟩ := expr_ex 3 h
        exact ⟨.odd eb, by simp only [Ts.d], ⟨ob, db⟩, Nat.zero_le _⟩
      · rw [if_neg hk] at h
        simp only [Bool.and_eq_true, decide_eq_true_eq] at h
        obtain ⟨rfl, h1⟩ := h
        obtain ⟨t, rfl, ot, nt⟩ := test_ts n h1
        exact ⟨.not t, by simp only [Ts.d], ot, by simp only [Ts.nots]; omega⟩
    · cases h
theorem plain_sm {d : PyData} (h : plainB d = true) : ∃ s : Sm, d = s.d ∧ s.ok ∧ s.nest = 0 := by
  unfold plainB at h
  split at h
  · rename_i k b c
    simp only [Bool.and_eq_true] at h
    obtain ⟨⟨hi, h1⟩, h2⟩ := h
    obtain ⟨z, rfl, oz⟩ := name_str h1
    obtain ⟨e, rfl, oe, de⟩ := expr_ex 3 h2
    rcases in2 hi with rfl | rfl
    · exact ⟨.set z e, by simp only [Sm.d], by simp only [Sm.ok]; exact ⟨⟨oe, de⟩, oz⟩, by simp only [Sm.nest]⟩
    · exact ⟨.half z e, by simp only [Sm.d], by simp only [Sm.ok]; exact ⟨⟨oe, de⟩, oz⟩, by simp only [Sm.nest]⟩
  · rename_i k b
    by_cases hk : k = "tell"
    · rw [if_pos hk] at h
      subst hk
      obtain ⟨e, rfl, oe, de⟩ := expr_ex 3 h
      exact ⟨.tell e, by simp only [Sm.d], by simp only [Sm.ok]; exact ⟨oe, de⟩, by simp only [Sm.nest]⟩
    · rw [if_neg hk] at h
      simp only [Bool.and_eq_true] at h
      obtain ⟨hi, h1⟩ := h
      obtain ⟨z, rfl, oz⟩ := word_str h1
      rcases in2 hi with rfl | rfl
      · exact ⟨.say z, by simp only [Sm.d], by simp only [Sm.ok]; exact oz, by simp only [Sm.nest]⟩
      · exact ⟨.stop z, by simp only [Sm.d], by simp only [Sm.ok]; exact oz, by simp only [Sm.nest]⟩
  · cases h
theorem sms_of {dep : Int} : ∀ {l : List PyData}, (∀ d ∈ l, ∃ s : Sm, d = s.d ∧ s.ok ∧ (s.nest : Int) + dep ≤ 4) → ∃ b : List Sm, l = Sm.ds b ∧ Sm.oks b ∧ (b = [] ∨ (Sm.nests b : Int) + dep ≤ 4)
  | [], _ => ⟨[], by simp only [Sm.ds], by simp only [Sm.oks], .inl rfl⟩
  | d :: r, h => by
    obtain ⟨s, rfl, o, n⟩ := h d List.mem_cons_self
    obtain ⟨b, rfl, ob, nb⟩ := sms_of fun e he => h e (List.mem_cons_of_mem _ he)
    refine ⟨s :: b, by simp only [Sm.ds], by simp only [Sm.oks]; exact ⟨o, ob⟩, .inr ?_⟩
    simp only [Sm.nests]
    rcases nb with rfl | nb
    · simp only [Sm.nests]
      omega
    · omega
theorem ord_none : ∀ (f : Nat) (l : List (Int × PyData)) (p : Int), dszs (stk l) < f → ordE f l p = none → ∀ q ∈ l, ∃ s : Sm, q.2 = s.d ∧ s.ok ∧ (s.nest : Int) + q.1 ≤ 4
  | 0, l, p, hf, _ => absurd hf (Nat.not_lt_zero _)
  | f + 1, [], p, _, _ => fun q h => nomatch h
  | f + 1, (dep, d) :: r, p, hf, h => by
    simp only [ordE] at h
    by_cases hd : 3 < dep
    · rw [if_pos hd] at h; cases h
    · rw [if_neg hd] at h
      by_cases hs : stmtB d = true
      · rw [if_pos hs] at h
        have hb := bitems_sz d
        have e : dszs (stk ((dep, d) :: r)) = dsz d + dszs (stk r) := by
          show dszs (d :: stk r) = _
          simp only [dszs]
        have e2 : dszs (stk (((bitems d).map fun e => (dep + 1, e)) ++ r)) = dszs (bitems d) + dszs (stk r) := by rw [stk_app, stk_bi, dszs_app]
        have ih := ord_none f _ _ (by omega) h
        intro q hq
        rcases List.mem_cons.mp hq with rfl | hq
        · have each : ∀ e ∈ bitems d, ∃ s : Sm, e = s.d ∧ s.ok ∧ (s.nest : Int) + (dep + 1) ≤ 4 := fun e he => ih (dep + 1, e) (List.mem_append_left _ (List.mem_map.mpr ⟨e, he, rfl⟩))
          rcases stmt_cases hs with ⟨t, y, n, rfl, ht⟩ | ⟨k, b, rfl, k1, k2⟩ | ⟨w, ds, rfl, n1, n2, hp, eb⟩
          · have eb : bitems (.tuple [.str "if", t, .tuple y, .tuple n]) = y ++ n := by
              unfold bitems
              rw [show blksD (.tuple [.str "if", t, .tuple y, .tuple n]) = [.tuple y, .tuple n] by unfold blksD; exact if_pos rfl]
              simp [itemsD]
            rw [eb] at each
            obtain ⟨ys, ey, oy, ny⟩ := sms_of (dep := dep + 1) (l := y) fun e he => each e (List.mem_append_left _ he)
            obtain ⟨ns, en, on, nn⟩ := sms_of (dep := dep + 1) (l := n) fun e he => each e (List.mem_append_right _ he)
            obtain ⟨ts, et, ot, nt⟩ := test_ts 2 ht
            subst ey en et
            refine ⟨.ite ts ys ns, by simp only [Sm.d], by simp only [Sm.ok]; exact ⟨ot, nt, oy, on⟩, ?_⟩
            simp only [Sm.nest]
            have z1 : (Sm.nests ys : Int) + (dep + 1) ≤ 4 := by
              rcases ny with rfl | ny
              · simp only [Sm.nests]; omega
              · exact ny
            have z2 : (Sm.nests ns : Int) + (dep + 1) ≤ 4 := by
              rcases nn with rfl | nn
              · simp only [Sm.nests]; omega
              · exact nn
            omega
          · have eb : bitems (.tuple [.str "repeat", .int k, .tuple b]) = b := by
              unfold bitems
              rw [show blksD (.tuple [.str "repeat", .int k, .tuple b]) = [.tuple b] by unfold blksD; exact if_pos rfl]
              simp [itemsD]
            rw [eb] at each
            obtain ⟨bs, ey, oy, ny⟩ := sms_of (dep := dep + 1) (l := b) each
            subst ey
            refine ⟨.rep k.toNat bs, ?_, ?_, ?_⟩
            · simp only [Sm.d]
              rw [Int.toNat_of_nonneg k1]
            · simp only [Sm.ok]
              exact ⟨by omega, oy⟩
            · simp only [Sm.nest]
              rcases ny with rfl | ny
              · simp only [Sm.nests]; omega
              · omega
          · obtain ⟨s, es, os, ns⟩ := plain_sm hp
            exact ⟨s, es, os, by rw [ns]; show ((0 : Nat) : Int) + dep ≤ 4; omega⟩
        · exact ih q (List.mem_append_right _ hq)
      · rw [if_neg hs] at h; cases h
theorem ordErr_none {ds : List PyData} (h : ordErr ds = none) : ∃ b : List Sm, ds = Sm.ds b ∧ Sm.oks b ∧ Sm.nests b ≤ 4 := by
  have hs : stk (ds.map fun e => ((0 : Int), e)) = ds := stk_bi 0 ds
  have := ord_none _ _ _ (by rw [hs]; omega) h
  obtain ⟨b, e, o, n⟩ := sms_of (dep := 0) (l := ds) fun d hd => this (0, d) (List.mem_map.mpr ⟨d, hd, rfl⟩)
  refine ⟨b, e, o, ?_⟩
  rcases n with rfl | n
  · simp only [Sm.nests]; omega
  · omega
/-! ### the statements in order -/
/-- the items of the blocks of a statement -/
def Sm.inn : Sm → List Sm
  | .ite _ y n => y ++ n
  | .rep _ b => b
  | _ => []
theorem Sm.bitems_inn (s : Sm) : bitems s.d = Sm.ds s.inn := by
  unfold bitems
  cases s with
  | ite t y n =>
    rw [show blksD (Sm.ite t y n).d = [.tuple (Sm.ds y), .tuple (Sm.ds n)] by simp only [Sm.d, blksD]; exact if_pos trivial]
    simp [itemsD, Sm.inn, Sm.ds_app]
  | rep k b =>
    rw [show blksD (Sm.rep k b).d = [.tuple (Sm.ds b)] by simp only [Sm.d, blksD]; exact if_pos trivial]
    simp [itemsD, Sm.inn]
  | set x e => rw [show blksD (Sm.set x e).d = [] by simp only [Sm.d, blksD]; rw [if_neg (by decide +kernel)]]; simp [Sm.inn, Sm.ds]
  | half x e => rw [show blksD (Sm.half x e).d = [] by simp only [Sm.d, blksD]; rw [if_neg (by decide +kernel)]]; simp [Sm.inn, Sm.ds]
  | tell e => simp [Sm.d, blksD, Sm.inn, Sm.ds]
  | say e => simp [Sm.d, blksD, Sm.inn, Sm.ds]
  | stop e => simp [Sm.d, blksD, Sm.inn, Sm.ds]
/-! ### counts -/
def own (sort : Str) (s : Sm) : Nat := if sort = "weight" then 1 else match s with
  | .ite t _ _ => if sort = "half" then (if t.isOdd then 1 else 0) else (if t.isOdd then 0 else 1)
  | .half _ _ => if sort = "half" then 1 else 0
  | _ => 0
def Ts.base : Ts → Ts
  | .not t => t.base
  | t => t
def bndErr (b : List Sm) : Option Str :=
  if 24 < Sm.pls b then some "places" else if 60 < Sm.wts b then some "weight" else if 4 < Sm.hvs b then some "halvings" else if 3 < Sm.cps b then some "comparings" else none
def bndD : Option Str → PyData
  | none => .none
  | some w => .tuple [.none, .str w]
/-- what program_error tells of a value -/
inductive PErr : PyData → PyData → Prop
  | prog {d : PyData} (h : isTupB d = false) : PErr d (.tuple [.none, .str "program"])
  | ord {ds : List PyData} {p : Int} {w : Str} (h : ordErr ds = some (p, w)) : PErr (.tuple ds) (.tuple [.int p, .str w])
  | bnd {b : List Sm} (h : ordErr (Sm.ds b) = none) : PErr (.tuple (Sm.ds b)) (bndD (bndErr b))
/-! ### places play no part where choices go by their number -/
def NoP (dec : Nat → Int → Int → Int) : Prop := ∀ k v p q, dec k v p = dec k v q
theorem decC_noP (chs : List Int) : NoP (decC chs) := fun _ _ _ _ => rfl
theorem iterN_congr {f g : Cs → Option Str × Cs} (h : ∀ s, f s = g s) : ∀ (k : Nat) (s : Cs), iterN k f s = iterN k g s
  | 0, s => rfl
  | k + 1, s => by
    rw [iterN, iterN, h s]
    cases g s with
    | mk c s' =>
      cases c with
      | none => exact iterN_congr h k s'
      | some c => rfl
section
variable {dec : Nat → Int → Int → Int}
theorem halv_p (h : NoP dec) (s : Cs) (v p q : Int) : halv dec noWay s v p = halv dec noWay s v q := by
  unfold halv
  simp only [noWay]
  rw [h _ v p q]
mutual
theorem Sm.run_p (h : NoP dec) : ∀ (t : Sm) (p q : Int) (s : Cs), t.run dec noWay p s = t.run dec noWay q s
  | .ite t y n, p, q, s => by
    simp only [Sm.run]
    split
    · exact Sm.runs_p h y _ _ s
    · exact Sm.runs_p h n _ _ s
  | .rep k b, p, q, s => by
    simp only [Sm.run]
    exact iterN_congr (fun s => Sm.runs_p h b _ _ s) k s
  | .set x e, p, q, s => by simp only [Sm.run]
  | .half x e, p, q, s => by simp only [Sm.run, halv_p h s _ p q]
  | .tell e, p, q, s => by simp only [Sm.run]
  | .say c, p, q, s => by simp only [Sm.run]
  | .stop c, p, q, s => by simp only [Sm.run]
theorem Sm.runs_p (h : NoP dec) : ∀ (b : List Sm) (p q : Int) (s : Cs), Sm.runs dec noWay b p s = Sm.runs dec noWay b q s
  | [], p, q, s => by simp only [Sm.runs]
  | t :: r, p, q, s => by
    simp only [Sm.runs, Sm.run_p h t p q s]
    cases Sm.run dec noWay t q s with
    | mk c s' =>
      cases c with
      | none => exact Sm.runs_p h r _ _ s'
      | some c => rfl
end
theorem runs_app {ways : Int → Option Int} : ∀ (a b : List Sm) (p : Int) (s : Cs), Sm.runs dec ways (a ++ b) p s = match Sm.runs dec ways a p s with
    | (some c, s') => (some c, s')
    | (none, s') => Sm.runs dec ways b (p + (Sm.pls a : Int)) s'
  | [], b, p, s => by
    simp only [List.nil_append, Sm.runs, Sm.pls]
    rw [show p + ((0 : Nat) : Int) = p by omega]
  | t :: r, b, p, s => by
    simp only [List.cons_append, Sm.runs, Sm.pls]
    cases Sm.run dec ways t p s with
    | mk c s' =>
      cases c with
      | none =>
        show Sm.runs dec ways (r ++ b) (p + (t.pl : Int)) s' = match Sm.runs dec ways r (p + (t.pl : Int)) s' with
          | (some c, s') => (some c, s')
          | (none, s') => Sm.runs dec ways b (p + ((t.pl + Sm.pls r : Nat) : Int)) s'
        rw [runs_app r b]
        cases Sm.runs dec ways r (p + (t.pl : Int)) s' with
        | mk c2 s2 =>
          cases c2 with
          | none =>
            show Sm.runs dec ways b (p + (t.pl : Int) + (Sm.pls r : Int)) s2 = Sm.runs dec ways b (p + ((t.pl + Sm.pls r : Nat) : Int)) s2
            rw [show p + (t.pl : Int) + (Sm.pls r : Int) = p + ((t.pl + Sm.pls r : Nat) : Int) by omega]
          | some c2 => rfl
      | some c => rfl
end
/-- the same runs -/
def EqB (b b' : List Sm) : Prop := ∀ (chs : List Int) (p q : Int) (s : Cs), Sm.runs (decC chs) noWay b p s = Sm.runs (decC chs) noWay b' q s
theorem EqB.refl (b : List Sm) : EqB b b := fun chs p q s => Sm.runs_p (decC_noP chs) b p q s
theorem EqB.app {a a' b b' : List Sm} (h1 : EqB a a') (h2 : EqB b b') : EqB (a ++ b) (a' ++ b') := fun chs p q s => by
  rw [runs_app, runs_app, h1 chs p q s]
  cases Sm.runs (decC chs) noWay a' q s with
  | mk c s' =>
    cases c with
    | none => exact h2 chs _ _ s'
    | some c => rfl
theorem runs_one {dec : Nat → Int → Int → Int} {ways : Int → Option Int} (t : Sm) (p : Int) (s : Cs) : Sm.runs dec ways [t] p s = t.run dec ways p s := by
  simp only [Sm.runs]
  cases t.run dec ways p s with
  | mk c s' => cases c <;> rfl
theorem EqB.rep {b b' : List Sm} (h : EqB b b') (k : Nat) : EqB [.rep k b] [.rep k b'] := fun chs p q s => by
  rw [runs_one, runs_one]
  simp only [Sm.run]
  exact iterN_congr (fun s => h chs _ _ s) k s
theorem EqB.ite {t t' : Ts} {y y' n n' : List Sm} (ht : ∀ env, t'.ev env = t.ev env) (h1 : EqB y y') (h2 : EqB n n') : EqB [.ite t y n] [.ite t' y' n'] := fun chs p q s => by
  rw [runs_one, runs_one]
  simp only [Sm.run, ht]
  split
  · exact h1 chs _ _ s
  · exact h2 chs _ _ s
theorem EqB.turn {t t' : Ts} {y y' n n' : List Sm} (ht : ∀ env, t.ev env = !t'.ev env) (h1 : EqB y y') (h2 : EqB n n') : EqB [.ite t y n] [.ite t' n' y'] := fun chs p q s => by
  rw [runs_one, runs_one]
  simp only [Sm.run, ht]
  cases t'.ev s.env with
  | true => exact h2 chs _ _ s
  | false => exact h1 chs _ _ s
theorem EqB.stop (c : Str) (r : List Sm) : EqB [.stop c] (.stop c :: r) := fun chs p q s => by
  rw [runs_one]
  simp only [Sm.run, Sm.runs]
theorem EqB.set {x : Str} {e e' : Ex} (h : ∀ env, e'.ev env = e.ev env) : EqB [.set x e] [.set x e'] := fun chs p q s => by
  rw [runs_one, runs_one]
  simp only [Sm.run, h]
theorem EqB.half {x : Str} {e e' : Ex} (h : ∀ env, e'.ev env = e.ev env) : EqB [.half x e] [.half x e'] := fun chs p q s => by
  rw [runs_one, runs_one]
  simp only [Sm.run, h, halv_p (decC_noP chs) s _ p q]
theorem EqB.tell {e e' : Ex} (h : ∀ env, e'.ev env = e.ev env) : EqB [.tell e] [.tell e'] := fun chs p q s => by
  rw [runs_one, runs_one]
  simp only [Sm.run, h]
structure Oth (N : Nat) (b b' : List Sm) : Prop where
  eq : EqB b b'
  ok : Sm.oks b'
  nest : Sm.nests b' ≤ N
  wt : Sm.wts b' ≤ 2 * Sm.wts b
  pl : Sm.pls b' ≤ 2 ^ (N + 1) * Sm.pls b
theorem Oth.nil (N : Nat) : Oth N [] [] := ⟨EqB.refl _, by simp only [Sm.oks], by simp only [Sm.nests]; omega, by simp only [Sm.wts]; omega, by simp only [Sm.pls]; omega⟩
theorem Oth.app {N : Nat} {a a' b b' : List Sm} (h1 : Oth N a a') (h2 : Oth N b b') : Oth N (a ++ b) (a' ++ b') := by
  refine ⟨h1.eq.app h2.eq, Sm.oks_app h1.ok h2.ok, ?_, ?_, ?_⟩
  · have := Sm.nests_app a' b'
    have := h1.nest
    have := h2.nest
    omega
  · rw [Sm.wts_app, Sm.wts_app]
    have := h1.wt
    have := h2.wt
    omega
  · rw [Sm.pls_app, Sm.pls_app, Nat.mul_add]
    exact Nat.add_le_add h1.pl h2.pl
theorem two_le (N : Nat) : 2 ≤ 2 ^ (N + 1) := by
  have : 1 ≤ 2 ^ N := Nat.one_le_pow _ _ (by decide)
  rw [Nat.pow_succ]
  omega
theorem Oth.one {N : Nat} {s s' : Sm} (he : EqB [s] [s']) (ho : s'.ok) (hn : s'.nest ≤ N) (hw : s'.wt ≤ 2 * s.wt) (hp : s'.pl ≤ 2 ^ (N + 1) * s.pl) : Oth N [s] [s'] := by
  refine ⟨he, by simp only [Sm.oks]; exact ⟨ho, trivial⟩, ?_, ?_, ?_⟩
  · simp only [Sm.nests]; omega
  · simp only [Sm.wts]; omega
  · simp only [Sm.pls, Nat.add_zero]; exact hp
theorem Oth.stop {N : Nat} {c : Str} (h : (Sm.stop c).ok) {j : Nat} (hj : j ≤ 1) : Oth N [.stop c] (.stop c :: List.replicate j (.say "never")) := by
  have nev : (Sm.say "never").ok := by simp only [Sm.ok]; exact ⟨by decide +kernel, by decide +kernel⟩
  have t2 := two_le N
  rcases (show j = 0 ∨ j = 1 by omega) with rfl | rfl
  · refine ⟨EqB.stop c _, by simp only [List.replicate_zero, Sm.oks]; exact ⟨h, trivial⟩, ?_, ?_, ?_⟩
    · simp only [List.replicate_zero, Sm.nests, Sm.nest]; omega
    · simp only [List.replicate_zero, Sm.wts, Sm.wt]; omega
    · simp only [List.replicate_zero, Sm.pls, Sm.pl]; omega
  · refine ⟨EqB.stop c _, by simp only [List.replicate_one, Sm.oks]; exact ⟨h, nev, trivial⟩, ?_, ?_, ?_⟩
    · simp only [List.replicate_one, Sm.nests, Sm.nest]; omega
    · simp only [List.replicate_one, Sm.wts, Sm.wt]; omega
    · simp only [List.replicate_one, Sm.pls, Sm.pl]; omega
theorem Oth.rep {N : Nat} {b b' : List Sm} (h : Oth N b b') {k : Nat} (hk : k ≤ 8) : Oth (N + 1) [.rep k b] [.rep k b'] := by
  have := h.nest
  have hw := h.wt
  have hp := h.pl
  refine Oth.one (h.eq.rep k) (by simp only [Sm.ok]; exact ⟨hk, h.ok⟩) (by simp only [Sm.nest]; omega) ?_ ?_
  · simp only [Sm.wt]
    have : k * Sm.wts b' ≤ k * (2 * Sm.wts b) := Nat.mul_le_mul_left _ hw
    rw [Nat.mul_left_comm] at this
    omega
  · have t2 := two_le (N + 1)
    simp only [Sm.pl]
    rw [Nat.mul_add, Nat.mul_one]
    have : 2 ^ (N + 1) * Sm.pls b ≤ 2 ^ (N + 1 + 1) * Sm.pls b := Nat.mul_le_mul_right _ (Nat.pow_le_pow_right (by decide) (by omega))
    omega
theorem Oth.ite {N : Nat} {t t' : Ts} {y y' n n' : List Sm} (ht : ∀ env, t'.ev env = t.ev env) (to : t'.ok) (tn : t'.nots ≤ 2) (h1 : Oth N y y') (h2 : Oth N n n') : Oth (N + 1) [.ite t y n] [.ite t' y' n'] := by
  have a1 := h1.nest; have a2 := h2.nest; have b1 := h1.wt; have b2 := h2.wt; have c1 := h1.pl; have c2 := h2.pl
  refine Oth.one (EqB.ite ht h1.eq h2.eq) (by simp only [Sm.ok]; exact ⟨to, tn, h1.ok, h2.ok⟩) (by simp only [Sm.nest]; omega) (by simp only [Sm.wt]; omega) ?_
  have t2 := two_le (N + 1)
  simp only [Sm.pl]
  rw [Nat.mul_add, Nat.mul_one, Nat.mul_add]
  have e1 : 2 ^ (N + 1) * Sm.pls y ≤ 2 ^ (N + 1 + 1) * Sm.pls y := Nat.mul_le_mul_right _ (Nat.pow_le_pow_right (by decide) (by omega))
  have e2 : 2 ^ (N + 1) * Sm.pls n ≤ 2 ^ (N + 1 + 1) * Sm.pls n := Nat.mul_le_mul_right _ (Nat.pow_le_pow_right (by decide) (by omega))
  omega
theorem Oth.turn {N : Nat} {t t' : Ts} {y y' n n' : List Sm} (ht : ∀ env, t.ev env = !t'.ev env) (to : t'.ok) (tn : t'.nots ≤ 2) (h1 : Oth N y y') (h2 : Oth N n n') : Oth (N + 1) [.ite t y n] [.ite t' n' y'] := by
  have a1 := h1.nest; have a2 := h2.nest; have b1 := h1.wt; have b2 := h2.wt; have c1 := h1.pl; have c2 := h2.pl
  refine Oth.one (EqB.turn ht h1.eq h2.eq) (by simp only [Sm.ok]; exact ⟨to, tn, h2.ok, h1.ok⟩) (by simp only [Sm.nest]; omega) (by simp only [Sm.wt]; omega) ?_
  have t2 := two_le (N + 1)
  simp only [Sm.pl]
  rw [Nat.mul_add, Nat.mul_one, Nat.mul_add]
  have e1 : 2 ^ (N + 1) * Sm.pls y ≤ 2 ^ (N + 1 + 1) * Sm.pls y := Nat.mul_le_mul_right _ (Nat.pow_le_pow_right (by decide) (by omega))
  have e2 : 2 ^ (N + 1) * Sm.pls n ≤ 2 ^ (N + 1 + 1) * Sm.pls n := Nat.mul_le_mul_right _ (Nat.pow_le_pow_right (by decide) (by omega))
  omega
theorem Oth.plain {N : Nat} {s s' : Sm} (he : EqB [s] [s']) (ho : s'.ok) (h1 : s.plain) (h2 : s'.plain) : Oth N [s] [s'] := by
  have t2 := two_le N
  refine Oth.one he ho ?_ ?_ ?_
  · cases s' <;> simp only [Sm.nest] <;> first | omega | exact h2.elim
  · cases s <;> cases s' <;> simp only [Sm.wt] <;> first | omega | exact h1.elim | exact h2.elim
  · cases s <;> cases s' <;> simp only [Sm.pl] <;> first | omega | exact h1.elim | exact h2.elim
/-! ### sums turned about -/
inductive Nd where
  | e (x : Ex) | t (x : Ts)
def Nd.d : Nd → PyData
  | .e x => x.d
  | .t x => x.d
def Nd.ok (n : Nat) : Nd → Prop
  | .e x => x.ok ∧ x.deep ≤ n
  | .t x => x.ok ∧ x.nots + 4 ≤ n
inductive Nd.to : Nd → Nd → Prop
  | e {x y : Ex} (o : y.ok) (d : y.deep ≤ x.deep) (h : ∀ env, y.ev env = x.ev env) : Nd.to (.e x) (.e y)
  | t {x y : Ts} (o : y.ok) (d : y.nots = x.nots) (h : ∀ env, y.ev env = x.ev env) : Nd.to (.t x) (.t y)
inductive Nds : List Nd → List Nd → Prop
  | nil : Nds [] []
  | cons {x y : Nd} {l r : List Nd} (h : x.to y) (t : Nds l r) : Nds (x :: l) (y :: r)
theorem Nds.snoc {l r : List Nd} {x y : Nd} (h : Nds l r) (t : x.to y) : Nds (l ++ [x]) (r ++ [y]) := by
  induction h with
  | nil => exact .cons t .nil
  | cons h _ ih => exact .cons h ih
end EH
namespace EH
open PySem PySem.Spec PyProof.Rows L2 StX
/-! ### a new instance of a class that has no __init__ of its own -/
structure Mk0 (K : PySem.W.Frag) (C : Addr) : Prop where
  makes : PySem.W.makesIn K C = true
  init : PySem.W.findIn K (.ref C) "__init__" = some (some (.builtin "object.__init__"))
  kp : PySem.W.keepIn K (.ref C) = true
section
variable {X : Cx} {C : Addr} {x : Str} {p pos : Pos}
end
/-! ### rules as plain data -/
inductive Rul where
  | down | up | even | odd | zero | away | blw (n : Int) | places (ps : List Int) | turned (r : Rul) | join (w : Str) (a b : Rul)
def b01 (p : Prop) [Decidable p] : Int := if p then 1 else 0
def Rul.go : Rul → Int → Int → Int
  | .down, _, _ => 0
  | .up, _, _ => 1
  | .even, v, _ => b01 (v % 4 = 3)
  | .odd, v, _ => b01 (v % 4 = 1)
  | .zero, v, _ => b01 (v < 0)
  | .away, v, _ => b01 (v > 0)
  | .blw n, v, _ => b01 (v < n)
  | .places ps, _, p => b01 (p ∈ ps)
  | .turned r, v, p => 1 - r.go v p
  | .join w a b, v, p => if w = "and" then b01 (a.go v p + b.go v p = 2) else if w = "or" then b01 (a.go v p + b.go v p > 0) else b01 (a.go v p + b.go v p = 1)
def Rul.dp : Rul → Nat
  | .turned r => r.dp + 1
  | .join _ a b => max a.dp b.dp + 1
  | _ => 1
/-- the classes of rules; two of them may be lacking -/
structure RC where
  rule : Addr
  down : Addr
  up : Addr
  even : Addr
  odd : Addr
  zero : Addr
  away : Addr
  turned : Addr
  joined : Addr
  below : Option Addr
  places : Option Addr
/-- the rule at an address -/
def RAt (c : RC) (H : Hp) : Rul → Addr → Prop
  | .down, a => ∃ C dx, (C = c.down ∨ C = c.rule) ∧ H a = some (.ins C dx [])
  | .up, a => ∃ dx, H a = some (.ins c.up dx [])
  | .even, a => ∃ dx, H a = some (.ins c.even dx [])
  | .odd, a => ∃ dx, H a = some (.ins c.odd dx [])
  | .zero, a => ∃ dx, H a = some (.ins c.zero dx [])
  | .away, a => ∃ dx, H a = some (.ins c.away dx [])
  | .blw n, a => ∃ C dx, c.below = some C ∧ H a = some (.ins C dx [("number", .int n)])
  | .places ps, a => ∃ C dx t, c.places = some C ∧ H a = some (.ins C dx [("places", .ref t)]) ∧ H t = some (.tup (ps.map V.int))
  | .turned r, a => ∃ dx b, H a = some (.ins c.turned dx [("inner", .ref b)]) ∧ RAt c H r b
  | .join w r s, a => ∃ dx b d, H a = some (.ins c.joined dx [("word", .str w), ("one", .ref b), ("other", .ref d)]) ∧ RAt c H r b ∧ RAt c H s d
theorem RAt.kp {c : RC} {S : List Addr} {H H' : Hp} (k : Kp S H H') (hS : ∀ x ∈ S, ∀ C dx fs, H x ≠ some (.ins C dx fs)) : ∀ {r : Rul} {a : Addr}, RAt c H r a → RAt c H' r a := by
  have ke : ∀ {a : Addr} {C dx fs}, H a = some (.ins C dx fs) → H' a = some (.ins C dx fs) := fun {a C dx fs} e => k.keep _ _ e fun z => hS a z C dx fs e
  intro r
  induction r with
  | down => rintro a ⟨C, dx, e, h⟩; exact ⟨C, dx, e, ke h⟩
  | up => rintro a ⟨dx, h⟩; exact ⟨dx, ke h⟩
  | even => rintro a ⟨dx, h⟩; exact ⟨dx, ke h⟩
  | odd => rintro a ⟨dx, h⟩; exact ⟨dx, ke h⟩
  | zero => rintro a ⟨dx, h⟩; exact ⟨dx, ke h⟩
  | away => rintro a ⟨dx, h⟩; exact ⟨dx, ke h⟩
  | blw n => rintro a ⟨C, dx, e, h⟩; exact ⟨C, dx, e, ke h⟩
  | places ps => rintro a ⟨C, dx, t, e, h, ht⟩; exact ⟨C, dx, t, e, ke h, k.tup _ _ ht⟩
  | turned r ih => rintro a ⟨dx, b, h, hb⟩; exact ⟨dx, b, ke h, ih hb⟩
  | join w r s i1 i2 => rintro a ⟨dx, b, d, h, hb, hd⟩; exact ⟨dx, b, d, ke h, i1 hb, i2 hd⟩
theorem RAt.kp0 {c : RC} {H H' : Hp} (k : Kp [] H H') {r : Rul} {a : Addr} (h : RAt c H r a) : RAt c H' r a := h.kp k (fun _ z => nomatch z)
theorem RAt.ins {c : RC} {H : Hp} : ∀ {r : Rul} {a : Addr}, RAt c H r a → ∃ C dx fs, H a = some (.ins C dx fs)
  | .down, a, ⟨C, dx, e, h⟩ => ⟨_, _, _, h⟩
  | .up, a, ⟨dx, h⟩ => ⟨_, _, _, h⟩
  | .even, a, ⟨dx, h⟩ => ⟨_, _, _, h⟩
  | .odd, a, ⟨dx, h⟩ => ⟨_, _, _, h⟩
  | .zero, a, ⟨dx, h⟩ => ⟨_, _, _, h⟩
  | .away, a, ⟨dx, h⟩ => ⟨_, _, _, h⟩
  | .blw n, a, ⟨C, dx, e, h⟩ => ⟨_, _, _, h⟩
  | .places ps, a, ⟨C, dx, t, e, h, ht⟩ => ⟨_, _, _, h⟩
  | .turned r, a, ⟨dx, b, h, hb⟩ => ⟨_, _, _, h⟩
  | .join w r s, a, ⟨dx, b, d, h, _⟩ => ⟨_, _, _, h⟩
/-! ### rules that are called -/
/-- a class whose call tells what g tells of its attributes -/
def spRC (C : Addr) (fs : List (Str × V)) (g : Int → Int → Int) : Sp := fun vs H Q _ => ∃ (a dx : Addr) (v p : Int), vs = [.ref a, .int v, .int p] ∧ H a = some (.ins C dx fs) ∧ Q (.int (g v p)) H
def spPlacesC (C : Addr) : Sp := fun vs H Q _ => ∃ (a dx t : Addr) (ps : List Int) (v p : Int), vs = [.ref a, .int v, .int p] ∧ H a = some (.ins C dx [("places", .ref t)]) ∧ H t = some (.tup (ps.map V.int)) ∧ Q (.int (b01 (p ∈ ps))) H
def spBelowC (C : Addr) : Sp := fun vs H Q _ => ∃ (a dx : Addr) (n v p : Int), vs = [.ref a, .int v, .int p] ∧ H a = some (.ins C dx [("number", .int n)]) ∧ Q (.int (b01 (v < n))) H
def spTurnedC (c : RC) (n : Nat) : Sp := fun vs H Q _ => ∃ (a dx b : Addr) (r : Rul) (v p : Int), vs = [.ref a, .int v, .int p] ∧ H a = some (.ins c.turned dx [("inner", .ref b)]) ∧ RAt c H r b ∧ r.dp ≤ n ∧ Q (.int (1 - r.go v p)) H
def spJoinedC (c : RC) (n : Nat) : Sp := fun vs H Q _ => ∃ (a dx b d : Addr) (w : Str) (r s : Rul) (v p : Int), vs = [.ref a, .int v, .int p] ∧ H a = some (.ins c.joined dx [("word", .str w), ("one", .ref b), ("other", .ref d)]) ∧ RAt c H r b ∧ RAt c H s d ∧ r.dp ≤ n ∧ s.dp ≤ n ∧ Q (.int ((Rul.join w r s).go v p)) H
/-- all that a call of a rule at most n deep needs -/
structure RCalls (P : Program) (w : World) (K : PySem.W.Frag) (mg : Str → Option Value) (base : Heap) (c : RC) (n k : Nat) : Prop where
  rule : ∃ g, CallO K c.rule g ∧ FnR P w K mg base CX0 k g (spRC c.rule [] fun _ _ => 0)
  down : ∃ g, CallO K c.down g ∧ FnR P w K mg base CX0 k g (spRC c.down [] fun _ _ => 0)
  up : ∃ g, CallO K c.up g ∧ FnR P w K mg base CX0 k g (spRC c.up [] fun _ _ => 1)
  even : ∃ g, CallO K c.even g ∧ FnR P w K mg base CX0 k g (spRC c.even [] fun v _ => b01 (v % 4 = 3))
  odd : ∃ g, CallO K c.odd g ∧ FnR P w K mg base CX0 k g (spRC c.odd [] fun v _ => b01 (v % 4 = 1))
  zero : ∃ g, CallO K c.zero g ∧ FnR P w K mg base CX0 k g (spRC c.zero [] fun v _ => b01 (v < 0))
  away : ∃ g, CallO K c.away g ∧ FnR P w K mg base CX0 k g (spRC c.away [] fun v _ => b01 (v > 0))
  below : ∀ C, c.below = some C → ∃ g, CallO K C g ∧ FnR P w K mg base CX0 k g (spBelowC C)
  places : ∀ C, c.places = some C → ∃ g, CallO K C g ∧ FnR P w K mg base CX0 k g (spPlacesC C)
  turned : ∀ m, n = m + 1 → ∃ g, CallO K c.turned g ∧ FnR P w K mg base CX0 k g (spTurnedC c m)
  joined : ∀ m, n = m + 1 → ∃ g, CallO K c.joined g ∧ FnR P w K mg base CX0 k g (spJoinedC c m)
section
variable {X : Cx} {c : RC} {n k : Nat}
end
section
variable {X : Cx} {c : RC} {n k : Nat} {fe e : Expr} {es : List Expr} {tf : TE} {t : TA} {pos : Pos}
end
end EH
namespace EH
open PySem PySem.Spec PySem.Calls PyProof.Rows L2 StX
/-! ### operators of own classes between two instances -/
section
variable {prog : Program} {w : World} {A : Around} {E : Value → Shared → Prop} {s : Shared} {K : PySem.W.Frag}
/-- what a class must have that an attribute of it is asked for -/
structure ClsA (K : PySem.W.Frag) (D : Addr) (cd : ClassData) : Prop where
  op : PySem.W.nsIn K cStatics "thirdparty.any" = some none
  ty : PySem.W.typeIn K (.ref D) = some (.type "type")
  cls : PySem.W.clsIn K D = some cd
  n1 : cd.name.cps.foldl (fun k c => k + (Str.utf8Of c).length) 0 ≤ 100
  n2 : cd.name.toString.length ≤ 50
end
/-! ### operators of own classes between two instances -/
section
variable {prog : Program} {w : World} {A : Around} {E : Value → Shared → Prop} {s : Shared} {K : PySem.W.Frag}
/-- what a class must have of a two-place operator that a class above it has -/
structure OpC (K : PySem.W.Frag) (nm : String) (C f : Addr) (cd : ClassData) (rest : List Value) : Prop where
  a : ClsA K C cd
  mro : cd.mro = .ref C :: rest
  at_ : PySem.W.findIn K (.ref C) (PySem.dunder nm) = some (some (.ref f))
  refl : PySem.W.findIn K (.ref C) (dunderR nm) = some none
/-- the class's own class has no reflected one, or one that is bound -/
def RefOk (K : PySem.W.Frag) (nm : String) (C D : Addr) : Prop := (dunderR nm).length + 100 ≤ sizeLine ∧ (typeLookup (.type "type") (dunderR nm) = pure none ∨ (dunderR nm = ("__ror__" : Str) ∧ (∀ B, B = C ∨ B = D → PySem.W.findCls K (.ref B) (.type "type") "__ror__" = some (.get (.builtin "wrapper_descriptor.__get__") (.builtin "type.__ror__") (.ref B) (.type "type")))))
end
/-! ### as rules -/
/-- classes that have the operator from one class above them -/
structure OpsC (K : PySem.W.Frag) (nm : String) (CC : Addr → Prop) (f : Addr) : Prop where
  op : ∀ C, CC C → ∃ cd rest, OpC K nm C f cd rest
  ref : ∀ C D, CC C → CC D → D ≠ C → RefOk K nm D C
  fn : PySem.W.isFn K (.ref f) = true
section
variable {X : Cx} {CC : Addr → Prop} {f : Addr} {k : Nat} {sp : Sp}
end
/-! ### o[i], o[i] = v, o op= v of an own class that has the method -/
section
variable {X : Cx} {CT : CXT} {k : Nat} {f C : Addr} {fd : FuncData} {ps : List Str} {sp : Sp} {E : L2.St → XK} {m q : Str} {st : Stmt} {pos : Pos} {o i e : Expr} {ta tb te : TE}
end
/-! ### an error without a field: C() -/
abbrev veMro : List Value := [.type "ValueError", .type "Exception", .type "BaseException", .type "object"]
structure ErrN (K : PySem.W.Frag) (C : Addr) : Prop where
  ob : PySem.W.excIn K C veMro "ValueError.__new__" = true
  exC : PySem.W.subIn K (.ref C) (.type "BaseException") = some true
  tyC : PySem.W.typeIn K (.ref C) = some (.type "type")
  kC : PySem.W.keepIn K (.ref C) = true
  te : PySem.W.exmOne K (.ref C) (.ref C) = some true
structure NA (K : PySem.W.Frag) (mg : Str → Option Value) (x : Str) where
  C : Addr
  g : mg x = some (.ref C)
  E : ErrN K C
end EH
namespace EH
open PySem PySem.Spec PySem.Calls PyProof.Rows L2
/-! ### B.m(self, ..): a def of a class, asked by the class's name -/
structure ClsI (K : PySem.W.Frag) (B f : Addr) (m : Str) : Prop where
  ga : PySem.W.specialIn K (.ref B) "__getattribute__" = some (some (.builtin "type.__getattribute__"))
  rd : PySem.W.readsIn K B (.type "type") = true
  ini : PySem.W.findCls K (.ref B) (.type "type") m = some (.val (.ref f))
  kp : PySem.W.keepIn K (.ref f) = true
section
variable {X : Cx} {CT : CXT} {k : Nat} {f B C : Addr} {fd : FuncData} {ps : List Str} {sp : Sp} {E : XK} {m x : Str} {p1 p2 pos apos : Pos} {o e : Expr} {es : List Expr} {ta te : TE} {t tk : TA}
/-! ### o.m(k = v) -/
end
/-! ### errors with two fields -/
def spErrI2 (C : Addr) (f g : Str) : Sp := fun vs H Q _ => ∃ (a : Addr) (v w : V), vs = [.ref a, v, w] ∧ H a = some (exo a C none) ∧ ∀ dx, H dx = none → dx ≠ a → Q .non (upd (upd (upd H dx (exd dx [(f, v)])) a (exo a C (some dx))) dx (exd dx [(g, w), (f, v)]))
structure EA2 (K : PySem.W.Frag) (mg : Str → Option Value) (x f1 f2 : Str) where
  C : Addr
  g : mg x = some (.ref C)
  E1 : ErrC K C f1
  E2 : ErrC K C f2
section
variable {X : Cx} {C : Addr} {f : Str}
end
/-! ### defaults and keywords of benches -/
section
variable {P : Program} {w : World} {K : PySem.W.Frag} {mg : Str → Option Value} {base : Heap} {x qual : Str} {st : Stmt} {f : Addr} {fd : FuncData}
end
section
variable {K : PySem.W.Frag} {x qual : Str} {st : Stmt} {f : Addr} {fd : FuncData}
end
/-! ### errors as values: made, kept, asked -/
/-- an error that lives at a: of the class at C, with its fields (none where it has no dict) -/
def LvE (H : Hp) (C a : Addr) : Option (List (Str × V)) → Prop
  | some fs => ∃ d, H a = some (exo a C (some d)) ∧ H d = some (exd d fs)
  | none => H a = some (exo a C none)
theorem LvE.kp0 {H H' : Hp} {C a : Addr} {fs : Option (List (Str × V))} (k : Kp [] H H') (h : LvE H C a fs) : LvE H' C a fs := by
  cases fs with
  | none => exact k.at h
  | some fs =>
    obtain ⟨d, h1, h2⟩ := h
    exact ⟨d, k.at h1, k.at h2⟩
def tExV (C : Addr) (sp : Sp) (dvs : List V) (ta : TA) : TE := fun σ H Q => ta σ H fun vs H1 => vs.length ≤ 1000 ∧ ∀ a, H1 a = none → sp (.ref a :: (vs ++ dvs)) (upd H1 a (exo a C none)) (fun v H2 => v = .non ∧ Q (.ref a) H2) (fun _ _ _ => False)
section
variable {X : Cx} {CX : CXT} {x : Str} {C fI : Addr} {k : Nat} {fd : FuncData} {ps : List Str} {sp : Sp} {ds : List Value} {dvs : List V} {ta : TA} {e : Expr} {es : List Expr} {p pos : Pos}
/-- C(e, ..), of an error's class over ValueError, as a value -/
theorem pe_exV (own : OexC X.K C) (iC : PySem.W.findIn X.K (.ref C) "__init__" = some (some (.ref fI))) (tI : PySem.W.typeIn X.K (.ref fI) = some (.type "function"))
    (G : FnOk X.prog X.w X.K X.mg X.base CX k fI fd ps sp) (room : Room (k + 1) X.A) (hb : Binds X.K fd ps ds) (hd : Vals dvs ds) (hx : Passes CX X (fun _ _ _ => False)) (hg : Gl X x) (hm : X.mg x = some (.ref C)) (ha : PA X (e :: es) ta)
    (hdb : (x == ("__debug__" : Str)) = false := by decide) (h1 : starEach (e :: es) X.env = (false, eval e X.env) :: starEach es X.env := by rfl) (h2 : (backTo pos (starEach es X.env)).any (·.1) = false := by rfl) :
    PE X (.Call (.Name x p) (e :: es) [] pos) (tExV C sp dvs ta) := by
  refine ⟨fun pins s σ H Q I h => ?_⟩
  obtain ⟨n1, n2, N, bs, bm, sn, sub, ab, col, dd, k0, k1, k2, k3, k5, hC, hm9⟩ := own.cls
  refine wpAny_Call_Name_kw (ld_glob I hg hm ?_ hdb)
  refine PySem.W.callWith_K (h₀ := X.base) I.ok.mod.kin own.kC (thn (ha.run pos pins s σ H _ I h) fun us t zt => ?_) h1 h2
  obtain ⟨vs, H1, J, vals, few, go⟩ := zt
  refine ⟨J.kIn, ?_⟩
  show wpAny _ _ (call (.ref C) us) _ _ _
  obtain ⟨hp, gs, dr, tn, oz⟩ := t
  have more : hp.objs.size ≤ (hp.objs.size + 1) := Nat.le_succ _
  have nob : H1 (hp.objs.size + 1) = none := J.hok.fresh more
  have want := go (hp.objs.size + 1) nob
  have keep : ∀ c o, hp.get? c = some o → ((hp.push (PySem.W.kdv_tup us)).push (PySem.HandSPX.excO C hp.objs.size)).get? c = some o := fun c o z => Heap.get?_push_of_some _ (Heap.get?_push_of_some _ z)
  have eb : ((hp.push (PySem.W.kdv_tup us)).push (PySem.HandSPX.excO C hp.objs.size)).get? (hp.objs.size + 1) = some (PySem.HandSPX.excO C hp.objs.size) := by
    heap_get
  have J1 : Inv X pins σ (upd H1 (hp.objs.size + 1) (exo (hp.objs.size + 1) C none)) ⟨((hp.push (PySem.W.kdv_tup us)).push (PySem.HandSPX.excO C hp.objs.size)), gs, dr, tn, oz⟩ := J.laid (t' := tn) (a := (hp.objs.size + 1)) (o := exo (hp.objs.size + 1) C none) (h' := ((hp.push (PySem.W.kdv_tup us)).push (PySem.HandSPX.excO C hp.objs.size))) keep more (exo_ok eb)
  have vals1 : Vals (V.ref (hp.objs.size + 1) :: (vs ++ dvs)) (Value.ref (hp.objs.size + 1) :: (us ++ ds)) := .cons rfl (vals.append hd)
  have fit : us.length ≤ sizeLine := by
    have z := Paired.length vals
    rw [sizeLine_eq]
    omega
  have lens : (Value.ref (hp.objs.size + 1) :: us ++ ds).length = ps.length := (G.len _ _ _ _ want) ▸ vals1.length.symm
  refine wpAny_call (PySem.HandSPX.call_own F.excBase_ValueError (fun Y => PySem.HandSPX.refsVE_contains Y bm hm9) (J.kIn _ _ hC) (PySem.W.looks_findIn J.kIn iC) (fun self => PySem.W.bind_fn J.kIn self tI) fit ?_)
  have ran := G.run _ X.stack _ _ ⟨Value.ref (hp.objs.size + 1) :: us, []⟩ (Value.ref (hp.objs.size + 1) :: (us ++ ds)) _ _ (fun _ _ _ => False) (room.make C us []) (J1.env0.make C us []) (hb _ (Value.ref (hp.objs.size + 1) :: us) J1.kIn lens) vals1 want
  refine codeAny_mono ran fun r t2 zr => ?_
  match r, zr with
  | .error er, zr => exact hx pins σ _ _ er t2 J1 zr
  | .ok (.ret w0), zr =>
    obtain ⟨v, H2, I3, rv, ev, q2⟩ := J1.after zr
    subst ev
    exact ⟨rv, .ref (hp.objs.size + 1), H2, I3, rfl, q2⟩
  | .ok .next, zr => exact False.elim zr
  | .ok .brk, zr => exact False.elim zr
  | .ok .cont, zr => exact False.elim zr
/-- the same over LookupError -/
theorem pe_lkV (own : OexL X.K C) (iC : PySem.W.findIn X.K (.ref C) "__init__" = some (some (.ref fI))) (tI : PySem.W.typeIn X.K (.ref fI) = some (.type "function"))
    (G : FnOk X.prog X.w X.K X.mg X.base CX k fI fd ps sp) (room : Room (k + 1) X.A) (hb : Binds X.K fd ps ds) (hd : Vals dvs ds) (hx : Passes CX X (fun _ _ _ => False)) (hg : Gl X x) (hm : X.mg x = some (.ref C)) (ha : PA X (e :: es) ta)
    (hdb : (x == ("__debug__" : Str)) = false := by decide) (h1 : starEach (e :: es) X.env = (false, eval e X.env) :: starEach es X.env := by rfl) (h2 : (backTo pos (starEach es X.env)).any (·.1) = false := by rfl) :
    PE X (.Call (.Name x p) (e :: es) [] pos) (tExV C sp dvs ta) := by
  refine ⟨fun pins s σ H Q I h => ?_⟩
  obtain ⟨n1, n2, N, bs, sn, sub, ab, col, dd, k0, k1, k2, k3, k5, hC⟩ := own.cls
  refine wpAny_Call_Name_kw (ld_glob I hg hm ?_ hdb)
  refine PySem.W.callWith_K (h₀ := X.base) I.ok.mod.kin own.kC (thn (ha.run pos pins s σ H _ I h) fun us t zt => ?_) h1 h2
  obtain ⟨vs, H1, J, vals, few, go⟩ := zt
  refine ⟨J.kIn, ?_⟩
  show wpAny _ _ (call (.ref C) us) _ _ _
  obtain ⟨hp, gs, dr, tn, oz⟩ := t
  have more : hp.objs.size ≤ (hp.objs.size + 1) := Nat.le_succ _
  have nob : H1 (hp.objs.size + 1) = none := J.hok.fresh more
  have want := go (hp.objs.size + 1) nob
  have keep : ∀ c o, hp.get? c = some o → ((hp.push (PySem.W.kdv_tup us)).push (PySem.HandSPX.excO C hp.objs.size)).get? c = some o := fun c o z => Heap.get?_push_of_some _ (Heap.get?_push_of_some _ z)
  have eb : ((hp.push (PySem.W.kdv_tup us)).push (PySem.HandSPX.excO C hp.objs.size)).get? (hp.objs.size + 1) = some (PySem.HandSPX.excO C hp.objs.size) := by
    heap_get
  have J1 : Inv X pins σ (upd H1 (hp.objs.size + 1) (exo (hp.objs.size + 1) C none)) ⟨((hp.push (PySem.W.kdv_tup us)).push (PySem.HandSPX.excO C hp.objs.size)), gs, dr, tn, oz⟩ := J.laid (t' := tn) (a := (hp.objs.size + 1)) (o := exo (hp.objs.size + 1) C none) (h' := ((hp.push (PySem.W.kdv_tup us)).push (PySem.HandSPX.excO C hp.objs.size))) keep more (exo_ok eb)
  have vals1 : Vals (V.ref (hp.objs.size + 1) :: (vs ++ dvs)) (Value.ref (hp.objs.size + 1) :: (us ++ ds)) := .cons rfl (vals.append hd)
  have fit : us.length ≤ sizeLine := by
    have z := Paired.length vals
    rw [sizeLine_eq]
    omega
  have lens : (Value.ref (hp.objs.size + 1) :: us ++ ds).length = ps.length := (G.len _ _ _ _ want) ▸ vals1.length.symm
  refine wpAny_call (PySem.HandSPX.call_own F.excBase_LookupError (fun Y => rfl) (J.kIn _ _ hC) (PySem.W.looks_findIn J.kIn iC) (fun self => PySem.W.bind_fn J.kIn self tI) fit ?_)
  have ran := G.run _ X.stack _ _ ⟨Value.ref (hp.objs.size + 1) :: us, []⟩ (Value.ref (hp.objs.size + 1) :: (us ++ ds)) _ _ (fun _ _ _ => False) (room.make C us []) (J1.env0.make C us []) (hb _ (Value.ref (hp.objs.size + 1) :: us) J1.kIn lens) vals1 want
  refine codeAny_mono ran fun r t2 zr => ?_
  match r, zr with
  | .error er, zr => exact hx pins σ _ _ er t2 J1 zr
  | .ok (.ret w0), zr =>
    obtain ⟨v, H2, I3, rv, ev, q2⟩ := J1.after zr
    subst ev
    exact ⟨rv, .ref (hp.objs.size + 1), H2, I3, rfl, q2⟩
  | .ok .next, zr => exact False.elim zr
  | .ok .brk, zr => exact False.elim zr
  | .ok .cont, zr => exact False.elim zr
/-- C(), of an error's class without __init__ of its own, as a value -/
theorem pe_exN (T : ErrN X.K C) (hg : Gl X x) (gC : X.mg x = some (.ref C)) (hdb : (x == ("__debug__" : Str)) = false := by decide) :
    PE X (.Call (.Name x p) [] [] pos) (fun _ H Q => ∀ a H2, H a = none → H2 = upd H a (exo a C none) → Q (.ref a) H2) := by
  refine ⟨fun pins s σ H Q I h => ?_⟩
  refine wpAny_Call_Name_kw (ld_glob I hg gC ?_ hdb)
  refine PySem.W.callWith_K0 I.kIn T.kC ?_
  obtain ⟨bm, N, nm, qn, bs, hdct, sn, sub, ab, col, dd, k0, k1, k2, k3, k5, mN, hC, hN, hni, O⟩ := exc_obj I.kIn T.ob
  obtain ⟨hp, g, d, t, os⟩ := s
  refine wpAny_call_exc_subT F.excBase_ValueError O hC hN hni (fun h' e hm => ?_) (by show 0 ≤ sizeLine; omega)
  obtain ⟨t1, he, _, _⟩ := hm.there
  have hn : H e = none := I.hok.gone hm.new
  exact ⟨.ref e, _, I.laidN hm.keeps hm.new hn (exo_ok he), rfl, h e _ hn rfl⟩
end
/-! ### asking such errors -/
structure ExcK (K : PySem.W.Frag) (C : Addr) : Prop where
  cl : (PySem.W.clsIn K C).isSome = true
  ga : PySem.W.findIn K (.ref C) "__getattribute__" = some (some (.builtin "BaseException.__getattribute__"))
  gg : PySem.W.findIn K (.ref C) "__getattr__" = some none
  su : PySem.W.subIn K (.ref C) (.type "BaseException") = some true
  ca : PySem.W.findIn K (.ref C) "__class__" = some (some (.builtin "object.__class__"))
  cg : PySem.W.specialIn K (.builtin "object.__class__") "__get__" = some (some (.builtin "getset_descriptor.__get__"))
  ct : PySem.W.takesIn K (.builtin "object.__class__") = some true
  ob : PySem.W.mroIn K C (.type "object") = some true
theorem LvE.inst {X : Cx} {pins : List (Addr × Obj)} {σ : L2.St} {H : Hp} {s : Shared} {C a : Addr} {fs : Option (List (Str × V))} (I : Inv X pins σ H s) (h : LvE H C a fs) : ∃ ox od, PySem.W.InstAt s.heap a ox C od := by
  cases fs with
  | none =>
    obtain ⟨t1, hx⟩ := exo_at I.hok h
    exact ⟨_, none, hx, rfl, rfl, trivial⟩
  | some fs =>
    obtain ⟨d, h1, h2⟩ := h
    obtain ⟨t1, hx⟩ := exo_at I.hok h1
    obtain ⟨mA, ⟨o, es, ep, ho, hr⟩, _⟩ := exd_at I.hok h2
    exact ⟨_, some o, hx, rfl, rfl, ho⟩
def rIsV (K : PySem.W.Frag) : List V → Hp → VK → Prop := fun xs H Q => ∃ (a C : Addr) (fs : Option (List (Str × V))) (c : V) (u : Value) (b : Bool), xs = [.ref a, c] ∧ LvE H C a fs ∧ ExcK K C ∧ ClsV c u ∧ PySem.W.kitOne K (.ref C) u = some b ∧ Q (.bl b) H
theorem call_isV {X : Cx} {K : PySem.W.Frag} (hK : X.K = K) : CallR X (.builtin "isinstance") (rIsV K) := by
  subst hK
  intro pins s σ H xs us Q I r h
  obtain ⟨a, C, fs, c, u, b, rfl, hl, T, k, e, q⟩ := h
  obtain ⟨u1, u2, rfl, r1, r2⟩ := vals2 r
  obtain rfl : u1 = Value.ref a := r1
  have e2 := k.eq r2
  subst e2
  obtain ⟨ox, od, J⟩ := hl.inst I
  exact PySem.W.kia_one (PySem.W.kitx_exc T.cl T.ga T.gg T.su T.ca T.cg T.ct T.ob) I.kIn J e (fun z => nomatch z) fun tk => ⟨.bl b, H, I.tok tk, rfl, q⟩
/-- the same, with an own class, and with a built-in one -/
def rIsVc (K : PySem.W.Frag) : List V → Hp → VK → Prop := fun xs H Q => ∃ (a C : Addr) (fs : Option (List (Str × V))) (D : Addr) (b : Bool), xs = [.ref a, .ref D] ∧ LvE H C a fs ∧ ExcK K C ∧ PySem.W.kitOne K (.ref C) (.ref D) = some b ∧ Q (.bl b) H
def rIsVt (K : PySem.W.Frag) : List V → Hp → VK → Prop := fun xs H Q => ∃ (a C : Addr) (fs : Option (List (Str × V))) (n : String) (b : Bool), xs = [.ref a, .ty n] ∧ LvE H C a fs ∧ ExcK K C ∧ PySem.W.kitOne K (.ref C) (.type n) = some b ∧ Q (.bl b) H
theorem call_isVc {X : Cx} {K : PySem.W.Frag} (hK : X.K = K) : CallR X (.builtin "isinstance") (rIsVc K) := CallR.imp (call_isV hK) fun xs H Q ⟨a, C, fs, D, b, e, h1, h2, h3, q⟩ => ⟨a, C, fs, _, _, b, e, h1, h2, .own D, h3, q⟩
theorem call_isVt {X : Cx} {K : PySem.W.Frag} (hK : X.K = K) : CallR X (.builtin "isinstance") (rIsVt K) := CallR.imp (call_isV hK) fun xs H Q ⟨a, C, fs, n, b, e, h1, h2, h3, q⟩ => ⟨a, C, fs, _, _, b, e, h1, h2, .ty n, h3, q⟩
/-- a new error with one field -/
theorem liv_made {C : Addr} {f : Str} {v : V} {H : Hp} {Q : Addr → Hp → Prop} (h : ∀ a H', LvE H' C a (some [(f, v)]) → Kp [] H H' → H a = none → Q a H') :
    ∀ a, H a = none → spErrI C f (.ref a :: ([v] ++ [])) (upd H a (exo a C none)) (fun v2 H2 => v2 = .non ∧ Q a H2) (fun _ _ _ => False) := by
  refine fun a ha => ⟨a, v, rfl, upd_same, fun dx hdx hne => ⟨rfl, ?_⟩⟩
  have hd : H dx = none := by rwa [upd_ne hne] at hdx
  have same : ∀ c, H c ≠ none → upd (upd (upd H a (exo a C none)) dx (exd dx [(f, v)])) a (exo a C (some dx)) c = H c := fun c hc => by
    have h1 : c ≠ a := fun z => hc (z ▸ ha)
    have h2 : c ≠ dx := fun z => hc (z ▸ hd)
    rw [upd_ne h1, upd_ne h2, upd_ne h1]
  exact h a _ ⟨dx, upd_same, by rw [upd_ne hne, upd_same]⟩ ⟨fun c o e _ => by rw [same c (by rw [e]; simp)]; exact e, fun c o e => by rw [same c (by rw [e]; simp)]; exact e, fun c o e => by rw [same c (by rw [e]; simp)]; exact e, fun c o u e => by rw [same c (by rw [e]; simp)]; exact e⟩ ha
/-- and with two -/
theorem liv_made2 {C : Addr} {f g : Str} {v x : V} {H : Hp} {Q : Addr → Hp → Prop} (h : ∀ a H', LvE H' C a (some [(g, x), (f, v)]) → Kp [] H H' → H a = none → Q a H') :
    ∀ a, H a = none → spErrI2 C f g (.ref a :: ([v, x] ++ [])) (upd H a (exo a C none)) (fun v2 H2 => v2 = .non ∧ Q a H2) (fun _ _ _ => False) := by
  refine fun a ha => ⟨a, v, x, rfl, upd_same, fun dx hdx hne => ⟨rfl, ?_⟩⟩
  have hd : H dx = none := by rwa [upd_ne hne] at hdx
  have same : ∀ c, H c ≠ none → upd (upd (upd (upd H a (exo a C none)) dx (exd dx [(f, v)])) a (exo a C (some dx))) dx (exd dx [(g, x), (f, v)]) c = H c := fun c hc => by
    have h1 : c ≠ a := fun z => hc (z ▸ ha)
    have h2 : c ≠ dx := fun z => hc (z ▸ hd)
    rw [upd_ne h2, upd_ne h1, upd_ne h2, upd_ne h1]
  exact h a _ ⟨dx, by rw [upd_ne (Ne.symm hne), upd_same], upd_same⟩ ⟨fun c o e _ => by rw [same c (by rw [e]; simp)]; exact e, fun c o e => by rw [same c (by rw [e]; simp)]; exact e, fun c o e => by rw [same c (by rw [e]; simp)]; exact e, fun c o u e => by rw [same c (by rw [e]; simp)]; exact e⟩ ha
def spKinds0 (K : PySem.W.Frag) (L : List Value) : Sp := fun vs H Q _ => ∃ (a C : Addr) (fs : Option (List (Str × V))) (bs : List Bool), vs = [.ref a] ∧ LvE H C a fs ∧ ExcK K C ∧ L.map (PySem.W.kitOne K (.ref C)) = bs.map some ∧ bs.length = 22 ∧
  ∀ (p : Addr) (H' : Hp), H p = none → H' p = some (.lst ((bs.take 17).map V.bl)) → Kp [] H H' → Q (.ref p) H'
/-- e.f, e an error that lives -/
def tLivF (C : Addr) (f : Str) (te : TE) : TE := fun σ H Q => te σ H fun x H1 => ∃ (a : Addr) (fs : List (Str × V)) (v : V), x = .ref a ∧ LvE H1 C a (some fs) ∧ fs.lookup f = some v ∧ Q v H1
section
variable {X : Cx} {C : Addr} {f : Str} {e : Expr} {te : TE} {pos : Pos}
theorem pe_livF (T : ExcK X.K C) (hd : PySem.W.hasDictIn X.K C = true) (no : PySem.W.findIn X.K (.ref C) f = some none) (he : PE X e te) (hb : attributeBase e f X.env (eval e X.env) = eval e X.env := by rfl) : PE X (.Attribute e f pos) (tLivF C f te) := by
  refine ⟨fun pins s σ H Q I h => ?_⟩
  refine attr_of hb (thn (he.run pins s σ H _ I h) fun u s1 hh => ?_)
  obtain ⟨x, H1, I1, rx, a, fs, v, rfl, ⟨d, h1, h2⟩, l, q⟩ := hh
  obtain rfl : u = Value.ref a := rx
  obtain ⟨t1, hx⟩ := exo_at I1.hok h1
  obtain ⟨mA, hns, hr⟩ := exd_at I1.hok h2
  obtain ⟨od, ho, hl⟩ := lookIn_ns hns
  obtain ⟨u, hu, ru⟩ := RelO.some_of (v := v) (o := mA f) (l ▸ hr f)
  refine HandSPX.exc_get I1.kIn (od := some od) ⟨hx, rfl, rfl, ho⟩ T.ga T.gg T.su (PySem.W.findObj_own hd no rfl (by rw [hl, hu])) (handed_of ru) ⟨v, H1, I1.tok _, ru, q⟩
end
/-! ### a number that a class has -/
structure ClsNum (K : PySem.W.Frag) (C : Addr) (f : Str) (i : Int) : Prop where
  rd : PySem.W.readsIn K C (.type "type") = true
  va : ∃ t, PySem.W.findCls K (.ref C) (.type "type") f = some (.val (.int i t))
theorem pe_clsN {X : Cx} {C : Addr} {f : Str} {i : Int} {e : Expr} {te : TE} {pos : Pos} (T : ClsNum X.K C f i) (he : PE X e te) (hb : attributeBase e f X.env (eval e X.env) = eval e X.env := by rfl) : PE X (.Attribute e f pos) (fun σ H Q => te σ H fun x H1 => x = .ref C ∧ Q (.int i) H1) := by
  refine ⟨fun pins s σ H Q I h => ?_⟩
  refine attr_of hb (thn (he.run pins s σ H _ I h) fun u s1 hh => ?_)
  obtain ⟨x, H1, I1, rx, rfl, q⟩ := hh
  obtain rfl : u = Value.ref C := rx
  obtain ⟨t, hv⟩ := T.va
  exact PySem.W.cls_value I1.kIn T.rd hv rfl ⟨.int i, H1, I1.tok _, ⟨t, rfl⟩, q⟩
/-! ### the facts of a head, as Bools -/
theorem excKB_ok {K : PySem.W.Frag} {C : Addr} (h : excKB K C = true) : ExcK K C := by
  simp only [excKB, Bool.and_eq_true, decide_eq_true_eq] at h
  obtain ⟨h1, h2, h3, h4, h5, h6, h7, h8⟩ := h
  exact ⟨h1, h2, h3, h4, h5, h6, h7, h8⟩
theorem kindsB_ok {K : PySem.W.Frag} {C : Addr} {L : List Value} {bs : List Bool} (h : kindsB K C L bs = true) : L.map (PySem.W.kitOne K (.ref C)) = bs.map some := of_decide_eq_true h
theorem clsNumB_ok {K : PySem.W.Frag} {C : Addr} {f : Str} {i : Int} (h : clsNumB K C f i = true) : ClsNum K C f i := by
  unfold clsNumB at h
  rw [Bool.and_eq_true] at h
  obtain ⟨h1, h2⟩ := h
  split at h2
  · rename_i j t e
    obtain rfl := of_decide_eq_true h2
    exact ⟨h1, t, e⟩
  · cases h2
end EH
namespace EH
open PySem PySem.Spec PyProof.Rows L2
/-! ### sorted of a tuple of data, x in a list of data, repr of a list -/
section
variable {X : Cx}
def rReprLs : List V → Hp → VK → Prop := fun xs H Q => ∃ a vs ds, xs = [.ref a] ∧ H a = some (.lst vs) ∧ TrAll H ds vs ∧ Shw (.list ds) ∧ ∀ z, z = (PyData.list ds).shown → Q (.str z) H
theorem call_reprLs (fr : Free X.A) (hu : X.A.units + 64 < cLine) : CallR X (.builtin "repr") rReprLs := CallR.imp (call_reprD fr hu) fun xs H Q ⟨a, vs, ds, e, h, t, s, q⟩ => ⟨.ref a, .list ds, e, .lst (SqL.of h) (TrAll.dp ds vs t), s.sh, s.sz, s.dp, q _ rfl⟩
end
/-! ### sorted of anything that can be collected: data -/
section
variable {X : Cx}
/-- data that can be sorted; one alone always -/
def Srt (ds : List PyData) : Prop := PySem.W.Sortable ds ∨ (ds.length ≤ 1 ∧ ∀ d ∈ ds, d ≠ .none)
/-- the data of a key -/
def keyD (k : List Key) : PyData := .tuple (k.map kD)
end
/-! ### tuple * int, any number from 0 on -/
section
variable {X : Cx}
end
end EH
namespace EH
open PySem L2
/-- a run as runs_on tells it -/
def runD (r : Option Str × Cs) : PyData := .tuple [.tuple (r.2.turns.map PyData.int), .tuple (r.2.said.map kD), wD r.1]
section
variable {ways : Int → Option Int} {b : List Sm} {n : Int} {k : Nat}
theorem Chn.len (o : Sm.oks b) (hv : Sm.hvs b ≤ 8) {Rs : List (Option Str × Cs)} {c : Option (List Int)} (h : Chn ways b n Rs c) : Rs.length ≤ 256 := by
  have := (h.ok (k := 8) o hv).len o hv
  have e : (2 : Int) ^ 8 = 256 := by decide
  omega
end
theorem lay_all {ds : List PyData} {k : Nat} (h : ∀ d ∈ ds, d.canLay0 = true ∧ d.depth ≤ k) : PyData.canLayAll0 ds = true ∧ PyData.depthAll ds ≤ k := by
  induction ds with
  | nil => exact ⟨by simp only [PyData.canLayAll0], by simp only [PyData.depthAll]; omega⟩
  | cons d r ih =>
    obtain ⟨i1, i2⟩ := ih fun d hd => h d (List.mem_cons_of_mem _ hd)
    obtain ⟨j1, j2⟩ := h d List.mem_cons_self
    exact ⟨by simp only [PyData.canLayAll0, i1, j1]; rfl, by simp only [PyData.depthAll]; omega⟩
/-! ### programs can be shown -/
structure Sw (d : PyData) (W D : Nat) : Prop where
  sh : d.showable = true
  ls : d.leavesShort 13 = true
  wt : d.weight ≤ W
  dp : d.depth ≤ D
structure Sws (ds : List PyData) (W D : Nat) : Prop where
  sh : PyData.showableAll ds = true
  ls : PyData.leavesShortAll 13 ds = true
  wt : PyData.weightAll ds ≤ W
  dp : PyData.depthAll ds ≤ D
theorem Sw.mono {d : PyData} {W D W' D' : Nat} (h : Sw d W D) (a : W ≤ W') (b : D ≤ D') : Sw d W' D' := ⟨h.sh, h.ls, Nat.le_trans h.wt a, Nat.le_trans h.dp b⟩
theorem Sws.mono {d : List PyData} {W D W' D' : Nat} (h : Sws d W D) (a : W ≤ W') (b : D ≤ D') : Sws d W' D' := ⟨h.sh, h.ls, Nat.le_trans h.wt a, Nat.le_trans h.dp b⟩
theorem sws_nil : Sws [] 0 0 := ⟨by simp only [PyData.showableAll], by simp only [PyData.leavesShortAll], by simp only [PyData.weightAll]; exact Nat.le_refl _, by simp only [PyData.depthAll]; exact Nat.le_refl _⟩
theorem sws_cons {d : PyData} {ds : List PyData} {W D W' : Nat} (h : Sw d W D) (t : Sws ds W' D) : Sws (d :: ds) (W + 1 + W') D := by
  obtain ⟨h1, h2, h3, h4⟩ := h
  obtain ⟨t1, t2, t3, t4⟩ := t
  refine ⟨by simp only [PyData.showableAll, h1, t1]; rfl, by simp only [PyData.leavesShortAll, h2, t2]; rfl, ?_, ?_⟩
  · simp only [PyData.weightAll]; omega
  · simp only [PyData.depthAll]; omega
theorem sw_tup {ds : List PyData} {W D : Nat} (t : Sws ds W D) : Sw (.tuple ds) (W + 1) (D + 1) := by
  obtain ⟨t1, t2, t3, t4⟩ := t
  refine ⟨by simp only [PyData.showable, t1], by simp only [PyData.leavesShort, t2], ?_, ?_⟩
  · simp only [PyData.weight]; omega
  · simp only [PyData.depth]; omega
theorem sw_int {i : Int} (h : i.natAbs < 1000) : Sw (.int i) 20 0 := by
  have hl : i.natAbs.log2 ≤ 10 := by
    by_cases z : i.natAbs = 0
    · rw [z]; decide
    · exact Nat.le_of_lt_succ ((Nat.log2_lt z).mpr (by have : (2:Nat) ^ 11 = 2048 := by decide
                                                       omega))
  refine ⟨?_, ?_, ?_, ?_⟩
  · simp only [PyData.showable, decide_eq_true_eq]; omega
  · simp only [PyData.leavesShort, decide_eq_true_eq]
    have e := int_text_length_le10 (a := i) (k := 12) (by decide) (Nat.lt_of_lt_of_le h (by decide))
    show (Str.ofString (toString i)).length ≤ 13
    rw [ofString_length]
    exact e
  · simp only [PyData.weight]
    split <;> omega
  · simp only [PyData.depth]; exact Nat.le_refl _
theorem sw_str {c : Str} {n : Nat} (h : PyData.strOk c = true ∧ c.length ≤ n) : Sw (.str c) n 0 := by
  refine ⟨by simp only [PyData.showable], ?_, ?_, ?_⟩
  · exact PyData.leavesShort_of_canLay0 13 (.str c) (by simp only [PyData.canLay0]; exact h.1) (by simp only [PyData.intsShort])
  · simp only [PyData.weight]; exact h.2
  · simp only [PyData.depth]; exact Nat.le_refl _
theorem Sw.shw {d : PyData} {W D : Nat} (h : Sw d W D) (hw : W ≤ 1000000) (hd : D ≤ 60) : Shw d := by
  refine ⟨h.sh, Nat.le_trans (PyData.shown_le 13 (by decide) d h.ls) ?_, Nat.le_trans h.dp hd⟩
  have := h.wt
  have : (15 : Nat) * d.weight + 13 ≤ 16777216 := by omega
  exact Nat.le_trans this (by decide +kernel)
theorem sw_kw (x : Str) (h : PyData.strOk x = true ∧ x.length ≤ 6) : Sw (.str x) 6 0 := sw_str h
def exW : Nat → Nat
  | 0 => 1000
  | n + 1 => 2 * exW n + 40
theorem exW_ge : ∀ n, 1000 ≤ exW n
  | 0 => Nat.le_refl _
  | n + 1 => by have := exW_ge n; simp only [exW]; omega
theorem Ex.sw : ∀ {e : Ex} (n : Nat), e.ok → e.deep ≤ n + 1 → Sw e.d (exW n) n
  | .num i, n, h, _ => by
    have h : -99 ≤ i ∧ i ≤ 99 := h
    have := exW_ge n
    exact (sw_int (by omega)).mono (by omega) (Nat.zero_le _)
  | .var x, n, h, _ => (sw_str h).mono (exW_ge n) (Nat.zero_le _)
  | .plus a b, 0, h, d => absurd (show max a.deep b.deep + 1 ≤ 1 from d) (by have := a.deep_pos; omega)
  | .plus a b, n + 1, h, d => by
    have d : max a.deep b.deep + 1 ≤ n + 1 + 1 := d
    have ha := Ex.sw n (show a.ok ∧ b.ok from h).1 (by omega)
    have hb := Ex.sw n (show a.ok ∧ b.ok from h).2 (by omega)
    exact (sw_tup (sws_cons ((sw_kw "plus" (by decide +kernel)).mono (Nat.le_refl _) (Nat.zero_le _)) (sws_cons ha (sws_cons hb (sws_nil.mono (Nat.le_refl _) (Nat.zero_le _)))))).mono (by simp only [exW]; omega) (Nat.le_refl _)
  | .minus a b, 0, h, d => absurd (show max a.deep b.deep + 1 ≤ 1 from d) (by have := a.deep_pos; omega)
  | .minus a b, n + 1, h, d => by
    have d : max a.deep b.deep + 1 ≤ n + 1 + 1 := d
    have ha := Ex.sw n (show a.ok ∧ b.ok from h).1 (by omega)
    have hb := Ex.sw n (show a.ok ∧ b.ok from h).2 (by omega)
    exact (sw_tup (sws_cons ((sw_kw "minus" (by decide +kernel)).mono (Nat.le_refl _) (Nat.zero_le _)) (sws_cons ha (sws_cons hb (sws_nil.mono (Nat.le_refl _) (Nat.zero_le _)))))).mono (by simp only [exW]; omega) (Nat.le_refl _)
  | .times k a, 0, h, d => absurd (show a.deep + 1 ≤ 1 from d) (by have := a.deep_pos; omega)
  | .times k a, n + 1, h, d => by
    have d : a.deep + 1 ≤ n + 1 + 1 := d
    obtain ⟨h1, h2, h3⟩ := (show -9 ≤ k ∧ k ≤ 9 ∧ a.ok from h)
    have ha := Ex.sw n h3 (by omega)
    have := exW_ge n
    exact (sw_tup (sws_cons ((sw_kw "times" (by decide +kernel)).mono (Nat.le_refl _) (Nat.zero_le _)) (sws_cons ((sw_int (i := k) (by omega)).mono (Nat.le_refl _) (Nat.zero_le _)) (sws_cons ha (sws_nil.mono (Nat.le_refl _) (Nat.zero_le _)))))).mono (by simp only [exW]; omega) (Nat.le_refl _)
theorem Ex.sw3 {e : Ex} (h : e.ok) (d : e.deep ≤ 3) : Sw e.d 4200 2 := (Ex.sw 2 h d).mono (by decide) (Nat.le_refl _)
theorem Ts.sw : ∀ {t : Ts}, t.ok → Sw t.d (8420 + 20 * t.nots) (3 + t.nots)
  | .less a b, h => by
    obtain ⟨⟨o1, d1⟩, o2, d2⟩ := (show (a.ok ∧ a.deep ≤ 3) ∧ b.ok ∧ b.deep ≤ 3 from h)
    exact (sw_tup (sws_cons ((sw_kw "less" (by decide +kernel)).mono (Nat.le_refl _) (Nat.zero_le _)) (sws_cons (Ex.sw3 o1 d1) (sws_cons (Ex.sw3 o2 d2) (sws_nil.mono (Nat.le_refl _) (Nat.zero_le _)))))).mono (by simp only [Ts.nots]; omega) (by simp only [Ts.nots]; omega)
  | .odd a, h => by
    obtain ⟨o1, d1⟩ := (show a.ok ∧ a.deep ≤ 3 from h)
    exact (sw_tup (sws_cons ((sw_kw "odd" (by decide +kernel)).mono (Nat.le_refl _) (Nat.zero_le _)) (sws_cons (Ex.sw3 o1 d1) (sws_nil.mono (Nat.le_refl _) (Nat.zero_le _))))).mono (by simp only [Ts.nots]; omega) (by simp only [Ts.nots]; omega)
  | .not t, h => by
    have ih := Ts.sw (t := t) h
    exact (sw_tup (sws_cons ((sw_kw "not" (by decide +kernel)).mono (Nat.le_refl _) (Nat.zero_le _)) (sws_cons ih (sws_nil.mono (Nat.le_refl _) (Nat.zero_le _))))).mono (by simp only [Ts.nots]; omega) (by simp only [Ts.nots]; omega)
mutual
theorem Sm.sw : ∀ {s : Sm}, s.ok → Sw s.d (9000 * s.pl - 1) (6 + 2 * s.nest)
  | .ite t y n, h => by
    simp only [Sm.ok] at h
    have ht := Ts.sw h.1
    have hy := sw_tup (Sm.sws h.2.2.1)
    have hn := sw_tup (Sm.sws h.2.2.2)
    simp only [Sm.d, Sm.pl, Sm.nest]
    exact (sw_tup (D := 5 + 2 * (max (Sm.nests y) (Sm.nests n) + 1)) (sws_cons ((sw_kw "if" (by decide +kernel)).mono (Nat.le_refl _) (Nat.zero_le _)) (sws_cons (ht.mono (Nat.le_refl _) (by omega)) (sws_cons (hy.mono (Nat.le_refl _) (by omega)) (sws_cons (hn.mono (Nat.le_refl _) (by omega)) (sws_nil.mono (Nat.le_refl _) (Nat.zero_le _))))))).mono (by omega) (by omega)
  | .rep k b, h => by
    simp only [Sm.ok] at h
    have hb := sw_tup (Sm.sws h.2)
    simp only [Sm.d, Sm.pl, Sm.nest]
    exact (sw_tup (D := 5 + 2 * (Sm.nests b + 1)) (sws_cons ((sw_kw "repeat" (by decide +kernel)).mono (Nat.le_refl _) (Nat.zero_le _)) (sws_cons ((sw_int (i := (k : Int)) (by omega)).mono (Nat.le_refl _) (Nat.zero_le _)) (sws_cons (hb.mono (Nat.le_refl _) (by omega)) (sws_nil.mono (Nat.le_refl _) (Nat.zero_le _)))))).mono (by omega) (by omega)
  | .set x e, h => by
    simp only [Sm.ok] at h
    simp only [Sm.d, Sm.pl, Sm.nest]
    exact (sw_tup (sws_cons ((sw_kw "set" (by decide +kernel)).mono (Nat.le_refl _) (Nat.zero_le _)) (sws_cons ((sw_str h.2).mono (Nat.le_refl _) (Nat.zero_le _)) (sws_cons (Ex.sw3 h.1.1 h.1.2) (sws_nil.mono (Nat.le_refl _) (Nat.zero_le _)))))).mono (by omega) (by omega)
  | .half x e, h => by
    simp only [Sm.ok] at h
    simp only [Sm.d, Sm.pl, Sm.nest]
    exact (sw_tup (sws_cons ((sw_kw "half" (by decide +kernel)).mono (Nat.le_refl _) (Nat.zero_le _)) (sws_cons ((sw_str h.2).mono (Nat.le_refl _) (Nat.zero_le _)) (sws_cons (Ex.sw3 h.1.1 h.1.2) (sws_nil.mono (Nat.le_refl _) (Nat.zero_le _)))))).mono (by omega) (by omega)
  | .tell e, h => by
    simp only [Sm.ok] at h
    simp only [Sm.d, Sm.pl, Sm.nest]
    exact (sw_tup (sws_cons ((sw_kw "tell" (by decide +kernel)).mono (Nat.le_refl _) (Nat.zero_le _)) (sws_cons (Ex.sw3 h.1 h.2) (sws_nil.mono (Nat.le_refl _) (Nat.zero_le _))))).mono (by omega) (by omega)
  | .say c, h => by
    simp only [Sm.ok] at h
    simp only [Sm.d, Sm.pl, Sm.nest]
    exact (sw_tup (D := 0) (sws_cons (sw_kw "say" (by decide +kernel)) (sws_cons (sw_str h) sws_nil))).mono (by omega) (by omega)
  | .stop c, h => by
    simp only [Sm.ok] at h
    simp only [Sm.d, Sm.pl, Sm.nest]
    exact (sw_tup (D := 0) (sws_cons (sw_kw "stop" (by decide +kernel)) (sws_cons (sw_str h) sws_nil))).mono (by omega) (by omega)
theorem Sm.sws : ∀ {b : List Sm}, Sm.oks b → Sws (Sm.ds b) (9000 * Sm.pls b) (6 + 2 * Sm.nests b)
  | [], _ => by simp only [Sm.ds]; exact sws_nil.mono (Nat.zero_le _) (Nat.zero_le _)
  | s :: r, h => by
    simp only [Sm.oks] at h
    have h1 := Sm.sw h.1
    have h2 := Sm.sws h.2
    have := s.pl_pos
    simp only [Sm.ds, Sm.pls, Sm.nests]
    exact (sws_cons (h1.mono (Nat.le_refl _) (show 6 + 2 * s.nest ≤ 6 + 2 * max s.nest (Sm.nests r) by omega)) (h2.mono (Nat.le_refl _) (by omega))).mono (by omega) (Nat.le_refl _)
end
/-! ### what the law itself asks of right statements -/
/-! what the counts are -/
def oc : Sm → Nat
  | .ite t _ _ => if t.isOdd then 0 else 1
  | _ => 0
section
variable {X : Cx}
end
theorem nests_take : ∀ (b : List Sm) (n : Nat), Sm.nests (b.take n) ≤ Sm.nests b
  | [], n => by rw [List.take_nil]; exact Nat.le_refl _
  | s :: r, 0 => by simp only [List.take_zero, Sm.nests]; omega
  | s :: r, n + 1 => by
    have := nests_take r n
    simp only [List.take_succ_cons, Sm.nests]
    omega
theorem oks_take : ∀ {b : List Sm} (n : Nat), Sm.oks b → Sm.oks (b.take n)
  | [], n, _ => by rw [List.take_nil]; simp only [Sm.oks]
  | s :: r, 0, _ => by simp only [List.take_zero, Sm.oks]
  | s :: r, n + 1, h => by
    simp only [Sm.oks] at h
    simp only [List.take_succ_cons, Sm.oks]
    exact ⟨h.1, oks_take n h.2⟩
theorem PrOk.take {b : List Sm} (h : PrOk b) (n : Nat) : PrOk (b.take n) := by
  have e : b.take n ++ b.drop n = b := List.take_append_drop n b
  have e1 := Sm.pls_app (b.take n) (b.drop n)
  have e2 := Sm.wts_app (b.take n) (b.drop n)
  have e3 := Sm.hvs_app (b.take n) (b.drop n)
  have e4 := Sm.cps_app (b.take n) (b.drop n)
  rw [e] at e1 e2 e3 e4
  have h1 := h.pl; have h2 := h.wt; have h3 := h.hv; have h4 := h.cp; have h5 := h.nest; have h6 := nests_take b n
  exact ⟨oks_take n h.ok, by omega, by omega, by omega, by omega, by omega⟩
/-! how many parts a program has -/
theorem tup_inj2 {a b c d : PyData} (h : PyData.tuple [a, b] = .tuple [c, d]) : a = c ∧ b = d := by
  have h := PyData.tuple.inj h
  exact ⟨(List.cons.inj h).1, (List.cons.inj (List.cons.inj h).2).1⟩
theorem tup_inj3 {a b c d e f : PyData} (h : PyData.tuple [a, b, c] = .tuple [d, e, f]) : a = d ∧ b = e ∧ c = f := by
  have h := PyData.tuple.inj h
  have h2 := List.cons.inj h
  have h3 := List.cons.inj h2.2
  exact ⟨h2.1, h3.1, (List.cons.inj h3.2).1⟩
theorem tup_inj4 {a b c d e f g i : PyData} (h : PyData.tuple [a, b, c, d] = .tuple [e, f, g, i]) : a = e ∧ b = f ∧ c = g ∧ d = i := by
  have h := PyData.tuple.inj h
  have h2 := List.cons.inj h
  have h3 := List.cons.inj h2.2
  have h4 := List.cons.inj h3.2
  exact ⟨h2.1, h3.1, h4.1, (List.cons.inj h4.2).1⟩
theorem kw_ne {a b : Str} {r s : List PyData} (n : a ≠ b) (h : PyData.tuple (.str a :: r) = .tuple (.str b :: s)) : False := n (PyData.str.inj (List.cons.inj (PyData.tuple.inj h)).1)
theorem Ex.d_inj : ∀ a b : Ex, a.d = b.d → a = b := by
  intro a
  induction a with
  | num i => intro b h; cases b <;> simp only [Ex.d] at h <;> first | (cases h; done) | (cases h; rfl)
  | var i => intro b h; cases b <;> simp only [Ex.d] at h <;> first | (cases h; done) | (cases h; rfl)
  | plus x y ix iy =>
    intro b h
    cases b with
    | num i => simp only [Ex.d] at h; cases h
    | var i => simp only [Ex.d] at h; cases h
    | plus x' y' =>
      simp only [Ex.d] at h
      obtain ⟨_, h1, h2⟩ := tup_inj3 h
      rw [ix _ h1, iy _ h2]
    | minus x' y' => simp only [Ex.d] at h; exact (kw_ne (by decide +kernel) h).elim
    | times x' y' => simp only [Ex.d] at h; exact (kw_ne (by decide +kernel) h).elim
  | minus x y ix iy =>
    intro b h
    cases b with
    | num i => simp only [Ex.d] at h; cases h
    | var i => simp only [Ex.d] at h; cases h
    | minus x' y' =>
      simp only [Ex.d] at h
      obtain ⟨_, h1, h2⟩ := tup_inj3 h
      rw [ix _ h1, iy _ h2]
    | plus x' y' => simp only [Ex.d] at h; exact (kw_ne (by decide +kernel) h).elim
    | times x' y' => simp only [Ex.d] at h; exact (kw_ne (by decide +kernel) h).elim
  | times x y iy =>
    intro b h
    cases b with
    | num i => simp only [Ex.d] at h; cases h
    | var i => simp only [Ex.d] at h; cases h
    | times x' y' =>
      simp only [Ex.d] at h
      obtain ⟨_, h1, h2⟩ := tup_inj3 h
      rw [PyData.int.inj h1, iy _ h2]
    | plus x' y' => simp only [Ex.d] at h; exact (kw_ne (by decide +kernel) h).elim
    | minus x' y' => simp only [Ex.d] at h; exact (kw_ne (by decide +kernel) h).elim
theorem Ts.d_inj : ∀ a b : Ts, a.d = b.d → a = b := by
  intro a
  induction a with
  | less x y =>
    intro b h
    cases b with
    | less x' y' =>
      simp only [Ts.d] at h
      obtain ⟨_, h1, h2⟩ := tup_inj3 h
      rw [Ex.d_inj _ _ h1, Ex.d_inj _ _ h2]
    | odd x' => simp only [Ts.d] at h; exact (kw_ne (by decide +kernel) h).elim
    | not x' => simp only [Ts.d] at h; exact (kw_ne (by decide +kernel) h).elim
  | odd x =>
    intro b h
    cases b with
    | odd x' =>
      simp only [Ts.d] at h
      obtain ⟨_, h1⟩ := tup_inj2 h
      rw [Ex.d_inj _ _ h1]
    | less x' y' => simp only [Ts.d] at h; exact (kw_ne (by decide +kernel) h).elim
    | not x' => simp only [Ts.d] at h; exact (kw_ne (by decide +kernel) h).elim
  | not x ih =>
    intro b h
    cases b with
    | not x' =>
      simp only [Ts.d] at h
      obtain ⟨_, h1⟩ := tup_inj2 h
      rw [ih _ h1]
    | less x' y' => simp only [Ts.d] at h; exact (kw_ne (by decide +kernel) h).elim
    | odd x' => simp only [Ts.d] at h; exact (kw_ne (by decide +kernel) h).elim
mutual
theorem Sm.d_inj : ∀ a b : Sm, a.d = b.d → a = b
  | .set x e, b, h => by
    cases b <;> simp only [Sm.d] at h <;> first | exact (kw_ne (by decide +kernel) h).elim | (obtain ⟨_, h1, h2⟩ := tup_inj3 h; rw [PyData.str.inj h1, Ex.d_inj _ _ h2])
  | .half x e, b, h => by
    cases b <;> simp only [Sm.d] at h <;> first | exact (kw_ne (by decide +kernel) h).elim | (obtain ⟨_, h1, h2⟩ := tup_inj3 h; rw [PyData.str.inj h1, Ex.d_inj _ _ h2])
  | .tell e, b, h => by
    cases b <;> simp only [Sm.d] at h <;> first | exact (kw_ne (by decide +kernel) h).elim | (obtain ⟨_, h1⟩ := tup_inj2 h; rw [Ex.d_inj _ _ h1])
  | .say e, b, h => by
    cases b <;> simp only [Sm.d] at h <;> first | exact (kw_ne (by decide +kernel) h).elim | (obtain ⟨_, h1⟩ := tup_inj2 h; rw [PyData.str.inj h1])
  | .stop e, b, h => by
    cases b <;> simp only [Sm.d] at h <;> first | exact (kw_ne (by decide +kernel) h).elim | (obtain ⟨_, h1⟩ := tup_inj2 h; rw [PyData.str.inj h1])
  | .ite t y n, b, h => by
    cases b with
    | ite t' y' n' =>
      simp only [Sm.d] at h
      obtain ⟨_, h1, h2, h3⟩ := tup_inj4 h
      rw [Ts.d_inj _ _ h1, Sm.ds_inj y y' (PyData.tuple.inj h2), Sm.ds_inj n n' (PyData.tuple.inj h3)]
    | set _ _ => simp only [Sm.d] at h; exact (kw_ne (by decide +kernel) h).elim
    | half _ _ => simp only [Sm.d] at h; exact (kw_ne (by decide +kernel) h).elim
    | tell _ => simp only [Sm.d] at h; exact (kw_ne (by decide +kernel) h).elim
    | say _ => simp only [Sm.d] at h; exact (kw_ne (by decide +kernel) h).elim
    | stop _ => simp only [Sm.d] at h; exact (kw_ne (by decide +kernel) h).elim
    | rep _ _ => simp only [Sm.d] at h; exact (kw_ne (by decide +kernel) h).elim
  | .rep k y, b, h => by
    cases b with
    | rep k' y' =>
      simp only [Sm.d] at h
      obtain ⟨_, h1, h2⟩ := tup_inj3 h
      rw [Int.ofNat.inj (PyData.int.inj h1), Sm.ds_inj y y' (PyData.tuple.inj h2)]
    | set _ _ => simp only [Sm.d] at h; exact (kw_ne (by decide +kernel) h).elim
    | half _ _ => simp only [Sm.d] at h; exact (kw_ne (by decide +kernel) h).elim
    | tell _ => simp only [Sm.d] at h; exact (kw_ne (by decide +kernel) h).elim
    | say _ => simp only [Sm.d] at h; exact (kw_ne (by decide +kernel) h).elim
    | stop _ => simp only [Sm.d] at h; exact (kw_ne (by decide +kernel) h).elim
    | ite _ _ _ => simp only [Sm.d] at h; exact (kw_ne (by decide +kernel) h).elim
theorem Sm.ds_inj : ∀ a b : List Sm, Sm.ds a = Sm.ds b → a = b
  | [], [], _ => rfl
  | [], s :: r, h => by simp only [Sm.ds] at h; cases h
  | s :: r, [], h => by simp only [Sm.ds] at h; cases h
  | s :: r, s' :: r', h => by
    simp only [Sm.ds] at h
    have h := List.cons.inj h
    rw [Sm.d_inj s s' h.1, Sm.ds_inj r r' h.2]
end
theorem PErr.one {d e e' : PyData} (h : PErr d e) (g : PErr d e') : e = e' := by
  cases h with
  | prog h => 
    cases g with
    | prog _ => rfl
    | ord h2 => cases h
    | bnd h2 => cases h
  | ord h1 =>
    generalize eD : PyData.tuple _ = D at g
    cases g with
    | prog h => subst eD; cases h
    | ord h2 => cases eD; rw [h1] at h2; cases h2; rfl
    | bnd h2 => cases eD; rw [h1] at h2; cases h2
  | bnd h1 =>
    generalize eD : PyData.tuple _ = D at g
    cases g with
    | prog h => subst eD; cases h
    | ord h2 => cases eD; rw [h1] at h2; cases h2
    | bnd h2 => rw [Sm.ds_inj _ _ (PyData.tuple.inj eD)]
/-- right statements, all through -/
inductive VS : Sm → Prop
  | mk {s : Sm} : stmtB s.d = true → (∀ s' ∈ s.inn, VS s') → VS s
def VD (d : PyData) : Prop := ∃ s : Sm, d = s.d ∧ VS s
theorem VD.items {d e : PyData} (h : VD d) (m : e ∈ bitems d) : VD e := by
  obtain ⟨s, rfl, h⟩ := h
  cases h with
  | mk _ h2 =>
    rw [Sm.bitems_inn, Sm.ds_map] at m
    obtain ⟨s', hs, rfl⟩ := List.mem_map.mp m
    exact ⟨s', rfl, h2 s' hs⟩
/-! ### programs near the bounds -/
structure Gb (b : List Sm) (n : Nat) : Prop where
  ok : Sm.oks b
  vs : ∀ s ∈ b, VS s
  pl : Sm.pls b ≤ n
theorem Gb.nil : Gb [] 0 := ⟨by simp only [Sm.oks], (fun s h => nomatch h), by simp only [Sm.pls]; exact Nat.le_refl _⟩
theorem Gb.mono {b : List Sm} {n m : Nat} (g : Gb b n) (h : n ≤ m) : Gb b m := ⟨g.ok, g.vs, Nat.le_trans g.pl h⟩
theorem Gb.app {a b : List Sm} {n m : Nat} (g : Gb a n) (h : Gb b m) : Gb (a ++ b) (n + m) := by
  refine ⟨Sm.oks_app g.ok h.ok, fun s hs => ?_, by rw [Sm.pls_app]; exact Nat.add_le_add g.pl h.pl⟩
  rcases List.mem_append.mp hs with z | z
  · exact g.vs s z
  · exact h.vs s z
theorem Gb.one {s : Sm} {n : Nat} (h : s.ok) (v : VS s) (p : s.pl ≤ n) : Gb [s] n := by
  refine ⟨by simp only [Sm.oks]; exact ⟨h, trivial⟩, fun s' hs => ?_, by simp only [Sm.pls]; omega⟩
  cases List.mem_singleton.mp hs
  exact v
theorem Gb.rep {s : Sm} {n : Nat} (g : Gb [s] n) : ∀ k : Nat, Gb (List.replicate k s) (k * n)
  | 0 => by rw [Nat.zero_mul]; exact Gb.nil
  | k + 1 => by
    have := g.app (g.rep k)
    rw [show (k + 1) * n = n + k * n by rw [Nat.succ_mul, Nat.add_comm]]
    exact this
/-! ### what the errors look like -/
theorem ordE_rng : ∀ (f : Nat) (l : List (Int × PyData)) (p q : Int) (w : Str), ordE f l p = some (q, w) → p ≤ q ∧ q ≤ p + (dszs (stk l) : Int) ∧ (w = "nest" ∨ w = "statement")
  | 0, l, p, q, w, h => by cases h
  | f + 1, [], p, q, w, h => by cases h
  | f + 1, (dep, d) :: r, p, q, w, h => by
    simp only [ordE] at h
    have e : dszs (stk ((dep, d) :: r)) = dsz d + dszs (stk r) := by
      show dszs (d :: stk r) = _
      simp only [dszs]
    split at h
    · cases h
      exact ⟨Int.le_refl _, by omega, .inl rfl⟩
    · split at h
      · have hb := bitems_sz d
        have e2 : dszs (stk (((bitems d).map fun e => (dep + 1, e)) ++ r)) = dszs (bitems d) + dszs (stk r) := by rw [stk_app, stk_bi, dszs_app]
        obtain ⟨h1, h2, h3⟩ := ordE_rng f _ _ q w h
        exact ⟨by omega, by omega, h3⟩
      · cases h
        exact ⟨Int.le_refl _, by omega, .inr rfl⟩
theorem err_shw {x : PyData} {w : Str} (hx : x = .none ∨ ∃ i : Int, x = .int i ∧ kOk (BM - 1) (.inl i)) (hw : PyData.strOk w = true ∧ w.length ≤ 20) : Shw (.tuple [x, .str w]) := by
  have w1 : (PyData.str w).showable = true := kD_showable (k := .inr w) hw
  have w2 : (PyData.str w).leavesShort 241 = true := kD_short (k := .inr w) hw
  have w3 : (PyData.str w).weight ≤ 1000 := kD_weight (k := .inr w) hw
  have x1 : x.showable = true ∧ x.leavesShort 241 = true ∧ x.weight ≤ 1000 ∧ x.depth = 0 := by
    rcases hx with rfl | ⟨i, rfl, hi⟩
    · exact ⟨by simp only [PyData.showable], by simp only [PyData.leavesShort], by simp only [PyData.weight]; decide, by simp only [PyData.depth]⟩
    · exact ⟨kD_showable (k := .inl i) hi, kD_short (k := .inl i) hi, kD_weight (k := .inl i) hi, by simp only [PyData.depth]⟩
  refine shw_of (W := 4000) ?_ ?_ ?_ (by decide) ?_
  · rw [PyData.showable, PyData.showableAll, PyData.showableAll, PyData.showableAll, x1.1, w1]
    rfl
  · rw [PyData.leavesShort, PyData.leavesShortAll, PyData.leavesShortAll, PyData.leavesShortAll, x1.2.1, w2]
    rfl
  · rw [PyData.weight, PyData.weightAll, PyData.weightAll, PyData.weightAll]
    omega
  · rw [PyData.depth, PyData.depthAll, PyData.depthAll, PyData.depthAll, x1.2.2.2]
    simp [PyData.depth]
theorem none_shw : Shw .none := ⟨by decide +kernel, by decide +kernel, by decide +kernel⟩
theorem big_int {i : Int} (h1 : 0 ≤ i) (h2 : i ≤ 1000001) : kOk (BM - 1) (.inl i) := by
  show i.natAbs ≤ BM - 1
  have c : (1000001 : Int) ≤ ((BM - 1 : Nat) : Int) := by decide +kernel
  generalize BM - 1 = M at c ⊢
  omega
theorem PErr.shw {d e : PyData} (h : PErr d e) (hz : dsz d ≤ 1000000) : Shw e := by
  cases h with
  | prog h => exact err_shw (.inl rfl) ⟨by decide +kernel, by decide +kernel⟩
  | @ord ds p w h =>
    have hz : 1 + dszs ds ≤ 1000000 := by simpa only [dsz] using hz
    obtain ⟨h1, h2, h3⟩ := ordE_rng _ _ _ _ _ h
    rw [stk_bi] at h2
    refine err_shw (.inr ⟨p, rfl, big_int h1 (by omega)⟩) ?_
    rcases h3 with rfl | rfl <;> exact ⟨by decide +kernel, by decide +kernel⟩
  | @bnd b h =>
    have hw : ∀ w, bndErr b = some w → PyData.strOk w = true ∧ w.length ≤ 20 := by
      intro w hw
      unfold bndErr at hw
      split at hw
      · cases hw; exact ⟨by decide +kernel, by decide +kernel⟩
      · split at hw
        · cases hw; exact ⟨by decide +kernel, by decide +kernel⟩
        · split at hw
          · cases hw; exact ⟨by decide +kernel, by decide +kernel⟩
          · split at hw
            · cases hw; exact ⟨by decide +kernel, by decide +kernel⟩
            · cases hw
    cases hb : bndErr b with
    | none => exact none_shw
    | some w => exact err_shw (.inl rfl) (hw w hb)
theorem PErr.right {d : PyData} (h : PErr d .none) : ∃ b, d = .tuple (Sm.ds b) ∧ Sm.oks b ∧ Sm.nests b ≤ 4 ∧ Sm.pls b ≤ 24 ∧ Sm.wts b ≤ 60 := by
  generalize eN : PyData.none = e at h
  cases h with
  | prog h => cases eN
  | ord h => cases eN
  | @bnd b h =>
    obtain ⟨b', eb, ok', ns'⟩ := ordErr_none h
    cases Sm.ds_inj _ _ eb
    refine ⟨b, rfl, ok', ns', ?_⟩
    unfold bndErr at eN
    by_cases h1 : 24 < Sm.pls b
    · rw [if_pos h1] at eN; cases eN
    · rw [if_neg h1] at eN
      by_cases h2 : 60 < Sm.wts b
      · rw [if_pos h2] at eN; cases eN
      · omega
end EH
namespace EH
open PySem PySem.Spec PyProof.Rows L2 LamX
/-! ### lambdas that are made, kept, and called later -/
def LamO (f : Addr) (o : Obj) : HO := .ext fun h => h.get? f = some o
def CellO (c : Addr) (v : V) : HO := .ext fun h => ∃ u, RelV v u ∧ h.IsCell c (some u)
structure LamC where
  q : Str
  params : Arguments
  body : Expr
  scope : Scope
  clo : List (Str × Addr)
  pm : Value
  c' : Addr
  ctv : Value
def LamC.obj (L : LamC) : Obj := PySem.W.kla_obj "<lambda>" L.q L.params L.body L.scope L.clo L.pm L.c' L.ctv
structure LamH (H : Hp) (f : Addr) (L : LamC) (fv : Str → Option V) : Prop where
  fn : H f = some (LamO f L.obj)
  code : H L.c' = some (CodeO L.c' L.q)
  cell : ∀ y c, L.clo.lookup y = some c → ∃ v, fv y = some v ∧ H c = some (CellO c v)
  dis : ∀ x y c, L.clo.lookup x = some c → L.clo.lookup y = some c → x = y
theorem LamH.kp {S : List Addr} {H H' : Hp} {f : Addr} {L : LamC} {fv : Str → Option V} (l : LamH H f L fv) (k : Kp S H H') : LamH H' f L fv := by
  refine ⟨k.ext _ _ l.fn, k.ext _ _ l.code, fun y c e => ?_, l.dis⟩
  obtain ⟨v, e1, e2⟩ := l.cell y c e
  exact ⟨v, e1, k.ext _ _ e2⟩
/-- a lambda's names: parameters, then captured ones -/
structure LamSc (N ps frees : List Str) (sc : Scope) : Prop where
  kind : sc.kind = .function
  co : sc.isCoroutine = false
  gen : sc.isGenerator = false
  nd : N.Nodup
  all : N = ps ++ frees
  par : ∀ x ∈ ps, sc.names.lookup x = some .local
  fre : ∀ x ∈ frees, sc.names.lookup x = some .free
  nocell : ∀ y ∈ sc.names, y.2 ≠ .cell
section
variable {P : Program} {w : World} {K : PySem.W.Frag} {mg : Str → Option Value} {base : Heap}
end
/-! ### a lambda is made and kept -/
section
variable {X : Cx}
end
/-! ### a def that returns a lambda: its cells are known from then on -/
section
variable {P : Program} {w : World} {K : PySem.W.Frag} {mg : Str → Option Value} {base : Heap}
end
/-! ### a kept lambda is called -/
structure LamOk (P : Program) (w : World) (K : PySem.W.Frag) (mg : Str → Option Value) (base : Heap) (k : Nat) (L : LamC) (fv : Str → Option V) (sp : Sp) : Prop where
  run : ∀ (A : Around) (outer : List Env) (s : Shared) (H : Hp) (f : Addr) (us : List Value) (vs : List V) (Q : VK) (E : XK), Room k A → Env0 P w K mg base A outer s H → LamH H f L fv → Vals vs us → sp vs H Q E → codeAny (model P w) A (.call (.ref f) ⟨us, []⟩) (CR CX0 outer P w H s Q E) s
section
variable {X : Cx}
end
/-! ### a dict's display, its new heaps by letters -/
section
variable {X : Cx}
end
/-! ### the law's own walk: a world of names, items, turns, and a function that chooses -/
structure Wad where
  x : Addr
  nd : Addr
  sd : Addr
  td : Addr
  f : Addr
def wkvs (a : Wad) : List (Key × V) := [(Sum.inr "names", .ref a.nd), (Sum.inr "items", .ref a.sd), (Sum.inr "turns", .ref a.td), (Sum.inr "choose", .ref a.f)]
structure WAt (CP : Hp → Addr → Prop) (ow : List Addr) (H : Hp) (a : Wad) (n : Nat) (s : Cs) : Prop where
  ob : H a.x = some (.dK (wkvs a))
  nm : ∃ kvs, H a.nd = some (.dK kvs) ∧ EnvRel kvs s.env ∧ kvs.length ≤ n + 1
  sa : H a.sd = some (.lst (s.said.map kV))
  tu : H a.td = some (.lst (s.turns.map V.int))
  ch : CP H a.f
  ls : s.said.length ≤ n
  lt : s.turns.length ≤ n
  ne1 : a.nd ≠ a.x
  ne2 : a.sd ≠ a.td
  dis : ∀ x ∈ [a.nd, a.sd, a.td], x ∉ ow
section
variable {CP : Hp → Addr → Prop} {ow : List Addr} {H H1 : Hp} {a : Wad} {n m : Nat} {s : Cs}
theorem WAt.g1 (c : WAt CP ow H a n s) : DGet H a.x (.str "names") (some (.ref a.nd)) := DGet.k (k := Sum.inr "names") c.ob
theorem WAt.g2 (c : WAt CP ow H a n s) : DGet H a.x (.str "items") (some (.ref a.sd)) := DGet.k (k := Sum.inr "items") c.ob
theorem WAt.g3 (c : WAt CP ow H a n s) : DGet H a.x (.str "turns") (some (.ref a.td)) := DGet.k (k := Sum.inr "turns") c.ob
theorem WAt.g4 (c : WAt CP ow H a n s) : DGet H a.x (.str "choose") (some (.ref a.f)) := DGet.k (k := Sum.inr "choose") c.ob
theorem WAt.mono (c : WAt CP ow H a n s) (h : n ≤ m) : WAt CP ow H a m s := by
  obtain ⟨kvs, h1, h2, h3⟩ := c.nm
  have := c.ls
  have := c.lt
  exact ⟨c.ob, ⟨kvs, h1, h2, by omega⟩, c.sa, c.tu, c.ch, by omega, by omega, c.ne1, c.ne2, c.dis⟩
theorem WAt.kp0 (kp : ∀ S H H' f, CP H f → Kp S H H' → (∀ x ∈ S, x ∉ ow) → CP H' f) (c : WAt CP ow H a n s) (k : Kp [] H H1) : WAt CP ow H1 a n s := by
  obtain ⟨kvs, h1, h2, h3⟩ := c.nm
  exact ⟨k.at c.ob, ⟨kvs, k.at h1, h2, h3⟩, k.at c.sa, k.at c.tu, kp _ _ _ _ c.ch k (fun _ z => nomatch z), c.ls, c.lt, c.ne1, c.ne2, c.dis⟩
theorem WAt.put {kvs : List (Key × V)} {x : Str} {v : Int} (kp : ∀ S H H' f, CP H f → Kp S H H' → (∀ x ∈ S, x ∉ ow) → CP H' f) (c : WAt CP ow H a n s) (hk : H a.nd = some (.dK kvs)) (he : EnvRel kvs s.env)
    (hl : kvs.length ≤ n + 1) (e : H1 = upd H a.nd (.dK (putK kvs (Sum.inr x) (.int v)))) : WAt CP ow H1 a (n + 1) { s with env := setE s.env x v } ∧ Kp [a.nd, a.sd, a.td] H H1 := by
  have k : Kp [a.nd] H H1 := by rw [e]; exact Kp.put hk (fun _ z => by cases z)
  have l2 := length_putK kvs (Sum.inr x : Key) (V.int v)
  have := c.ls
  have := c.lt
  refine ⟨⟨k.keep _ _ c.ob (EH.ne1 c.ne1.symm), ⟨_, by rw [e]; exact upd_same, he.put x v, by omega⟩, k.keep _ _ c.sa (EH.ne1 (ne_of c.sa hk (fun z => by cases z))), k.keep _ _ c.tu (EH.ne1 (ne_of c.tu hk (fun z => by cases z))),
    kp _ _ _ _ c.ch k (fun x hx => c.dis x (by cases List.mem_singleton.mp hx; simp)), by show s.said.length ≤ _; omega, by show s.turns.length ≤ _; omega, c.ne1, c.ne2, c.dis⟩, k.sub (by simp)⟩
theorem WAt.say {v : Key} (kp : ∀ S H H' f, CP H f → Kp S H H' → (∀ x ∈ S, x ∉ ow) → CP H' f) (c : WAt CP ow H a n s) (h1 : H1 a.sd = some (.lst (s.said.map kV ++ [kV v]))) (k : Kp [a.sd] H H1) :
    WAt CP ow H1 a (n + 1) { s with said := s.said ++ [v] } ∧ Kp [a.nd, a.sd, a.td] H H1 := by
  obtain ⟨kvs, g1, g2, g3⟩ := c.nm
  have := c.ls
  have := c.lt
  refine ⟨⟨k.keep _ _ c.ob (EH.ne1 (ne_of c.ob c.sa (fun z => by cases z))), ⟨kvs, k.keep _ _ g1 (EH.ne1 (ne_of g1 c.sa (fun z => by cases z))), g2, by omega⟩, by rw [h1, List.map_append]; rfl, k.keep _ _ c.tu (EH.ne1 c.ne2.symm),
    kp _ _ _ _ c.ch k (fun x hx => c.dis x (by cases List.mem_singleton.mp hx; simp)), by show (s.said ++ [v]).length ≤ _; rw [List.length_append, List.length_singleton]; omega, by show s.turns.length ≤ _; omega, c.ne1, c.ne2, c.dis⟩, k.sub (by simp)⟩
theorem WAt.turn {v : Int} (kp : ∀ S H H' f, CP H f → Kp S H H' → (∀ x ∈ S, x ∉ ow) → CP H' f) (c : WAt CP ow H a n s) (h1 : H1 a.td = some (.lst (s.turns.map V.int ++ [.int v]))) (k : Kp [a.td] H H1) :
    WAt CP ow H1 a (n + 1) { s with turns := s.turns ++ [v] } ∧ Kp [a.nd, a.sd, a.td] H H1 := by
  obtain ⟨kvs, g1, g2, g3⟩ := c.nm
  have := c.ls
  have := c.lt
  refine ⟨⟨k.keep _ _ c.ob (EH.ne1 (ne_of c.ob c.tu (fun z => by cases z))), ⟨kvs, k.keep _ _ g1 (EH.ne1 (ne_of g1 c.tu (fun z => by cases z))), g2, by omega⟩, k.keep _ _ c.sa (EH.ne1 c.ne2), by rw [h1, List.map_append]; rfl,
    kp _ _ _ _ c.ch k (fun x hx => c.dis x (by cases List.mem_singleton.mp hx; simp)), by show s.said.length ≤ _; omega, by show (s.turns ++ [v]).length ≤ _; rw [List.length_append, List.length_singleton]; omega, c.ne1, c.ne2, c.dis⟩, k.sub (by simp)⟩
end
theorem WAt.off {CP : Hp → Addr → Prop} {ow : List Addr} {H : Hp} {a : Wad} {n : Nat} {s : Cs} {l : Addr} (c : WAt CP ow H a n s) (h : H l = none) : l ∉ [a.nd, a.sd, a.td] := by
  obtain ⟨kvs, g1, _⟩ := c.nm
  simp [(ne_of_none g1 h).symm, (ne_of_none c.sa h).symm, (ne_of_none c.tu h).symm]
/-- a function that chooses, called by value, place and the number of the turn -/
structure Chooser (P : Program) (w : World) (K : PySem.W.Frag) (mg : Str → Option Value) (base : Heap) (k : Nat) (LS : LamC → Prop) (sp : (Str → Option V) → Sp) (CP : Hp → Addr → Prop) (ow : List Addr) (dec : Nat → Int → Int → Int) : Prop where
  F : ∀ L fv, LS L → LamOk P w K mg base k L fv (sp fv)
  kp : ∀ S H H' f, CP H f → Kp S H H' → (∀ x ∈ S, x ∉ ow) → CP H' f
  fr : ∀ H f, CP H f → ∀ x ∈ ow, H x ≠ none
  atF : ∀ H f, CP H f → ∃ L fv, LS L ∧ LamH H f L fv ∧ ∀ (v p : Int) (n : Nat) (Q : VK), (∀ H', Kp [] H H' → Q (.int (dec n v p)) H') → sp fv [.int v, .int p, .int n] H Q fun _ _ _ => False
end EH
namespace EH
open PySem L2
/-! ### all runs on a number by sixteen choices, sorted by their turns -/
section
variable {ways : Int → Option Int} {b : List Sm} {n : Int}
theorem Chn.same : ∀ (m : Nat) {Rs Rs' : List (Option Str × Cs)} {c c' : Option (List Int)}, Rs.length = m → Rs'.length = m → Chn ways b n Rs c → Chn ways b n Rs' c' → Rs = Rs' ∧ c = c'
  | 0, Rs, Rs', c, c', h1, h2, a, e => by
    cases a with
    | nil =>
      cases e with
      | nil => exact ⟨rfl, rfl⟩
      | snoc e => simp at h2
    | snoc a => simp at h1
  | m + 1, Rs, Rs', c, c', h1, h2, a, e => by
    cases a with
    | nil => simp at h1
    | snoc a =>
      cases e with
      | nil => simp at h2
      | snoc e =>
        rw [List.length_append] at h1 h2
        obtain ⟨z1, z2⟩ := Chn.same m (by simpa using h1) (by simpa using h2) a e
        cases z2
        subst z1
        exact ⟨rfl, rfl⟩
end
/-- a sorted list is the strictly rising one with the same items -/
theorem sorted_eq {α : Type} {lt : α → α → Bool} : ∀ {m l : List α}, l.Perm m → l.Pairwise (fun a b => lt b a = false) → m.Pairwise (fun a b => lt a b = true) → l = m
  | [], l, p, _, _ => p.eq_nil
  | a :: m, [], p, _, _ => absurd p.length_eq (by simp)
  | a :: m, x :: l, p, hs, hm => by
    have hs' := List.pairwise_cons.mp hs
    have hm' := List.pairwise_cons.mp hm
    have e : x = a := by
      have h1 : a ∈ x :: l := p.mem_iff.mpr List.mem_cons_self
      have h2 : x ∈ a :: m := p.mem_iff.mp List.mem_cons_self
      rcases List.mem_cons.mp h1 with z | z
      · exact z.symm
      · rcases List.mem_cons.mp h2 with y | y
        · exact y
        · have a1 := hs'.1 a z
          have a2 := hm'.1 x y
          rw [a1] at a2
          cases a2
    subst e
    rw [sorted_eq (List.perm_cons x |>.mp p) hs'.2 hm'.2]
def bits (j : Nat) : List Int := [(j : Int) / 8, (j : Int) / 4 % 2, (j : Int) / 2 % 2, (j : Int) % 2]
theorem bits_ok {j : Nat} (h : j < 16) : ty01 (bits j) ∧ (bits j).length = 4 := by
  refine ⟨?_, rfl⟩
  intro i hi
  simp only [bits, List.mem_cons, List.not_mem_nil, or_false] at hi
  rcases hi with rfl | rfl | rfl | rfl <;> omega
theorem bits_all {v : List Int} (h : ty01 v) (l : v.length = 4) : ∃ j, j < 16 ∧ bits j = v := by
  match v, l with
  | [x, y, z, w], _ =>
    have hx := h x (by simp)
    have hy := h y (by simp)
    have hz := h z (by simp)
    have hw := h w (by simp)
    refine ⟨(8 * x + 4 * y + 2 * z + w).toNat, by omega, ?_⟩
    simp only [bits]
    rw [show (((8 * x + 4 * y + 2 * z + w).toNat : Nat) : Int) = 8 * x + 4 * y + 2 * z + w by omega]
    congr 1
    · omega
    · congr 1
      · omega
      · congr 1
        · omega
        · congr 1
          omega
def tkey (R : Option Str × Cs) : List Key := R.2.turns.map Sum.inl
theorem tkey_inj {R S : Option Str × Cs} (h : tkey R = tkey S) : R.2.turns = S.2.turns := by
  unfold tkey at h
  exact List.map_inj_right (fun a b e => Sum.inl.inj e) |>.mp h
theorem keyD_tkey (R : Option Str × Cs) : keyD (tkey R) = .tuple (R.2.turns.map PyData.int) := by
  unfold keyD tkey
  rw [List.map_map]
  rfl
theorem ahd_lt : ∀ {t u : List Int}, Ahd t u → PySem.W.rowLt (t.map .int) (u.map .int) = true := by
  intro t u h
  rw [PySem.W.dataLt_ints]
  refine decide_eq_true ?_
  induction h with
  | lt => exact List.cons_lt_cons_iff.mpr (.inl (by decide))
  | eq h ih => exact List.cons_lt_cons_iff.mpr (.inr ⟨rfl, ih⟩)
section
variable {ways : Int → Option Int} {b : List Sm} {n : Int}
theorem chn_mem {Rs : List (Option Str × Cs)} (o : Sm.oks b) (hv : Sm.hvs b ≤ 4) (h : Chn ways b n Rs none) (R : Option Str × Cs) : R ∈ Rs ↔ ∃ j, j < 16 ∧ R = rn ways b n (bits j) := by
  have ok := h.ok (k := 4) o hv
  constructor
  · intro hR
    obtain ⟨e, t01, tl, _⟩ := ok.self R hR
    have l4 : (tk R.2.turns 4).length = 4 := tk_len _ _
    obtain ⟨j, hj, eb⟩ := bits_all (tk_01 t01 4) l4
    refine ⟨j, hj, ?_⟩
    rw [eb]
    have e2 : rn ways b n (tk R.2.turns 4) = rn ways b n R.2.turns := by
      refine runs_same (c1 := R.2.turns) (c2 := tk R.2.turns 4) (ways := ways) b o 0 n fun i hi => ?_
      have : i < 4 := Nat.lt_of_lt_of_le hi (rn_len o hv _)
      exact (tk_getD this).symm
    rw [e2, e]
  · rintro ⟨j, hj, rfl⟩
    obtain ⟨b1, b2⟩ := bits_ok hj
    refine ok.all _ b2 b1 ?_
    have := wl_rng b1 (Nat.le_of_eq b2)
    have := pw_pos 4 (bits j)
    show wl 4 (bits j) < (2 : Int) ^ 4
    omega
/-- what the dict holds: each run once, by its turns -/
structure AllAt (ways : Int → Option Int) (b : List Sm) (n : Int) (H : Hp) (kvs : List (List Key × V)) (Ss : List (Option Str × Cs)) (i : Nat) : Prop where
  keys : kvs.map (·.1) = Ss.map tkey
  nd : (Ss.map tkey).Nodup
  val : ∀ R ∈ Ss, ∃ v, valV kvs (tkey R) = some v ∧ Tr H (runD R) v
  from_ : ∀ R ∈ Ss, ∃ j, j < 16 ∧ R = rn ways b n (bits j)
  all : ∀ j, j < i → rn ways b n (bits j) ∈ Ss
theorem AllAt.kp {H H' : Hp} {S : List Addr} {kvs : List (List Key × V)} {Ss : List (Option Str × Cs)} {i : Nat} (h : AllAt ways b n H kvs Ss i) (k : Kp S H H') : AllAt ways b n H' kvs Ss i :=
  ⟨h.keys, h.nd, fun R hR => let ⟨v, e, t⟩ := h.val R hR; ⟨v, e, k.tr t⟩, h.from_, h.all⟩
theorem AllAt.put {H : Hp} {kvs : List (List Key × V)} {Ss : List (Option Str × Cs)} {i : Nat} {v : V} (o : Sm.oks b) (hi : i < 16) (h : AllAt ways b n H kvs Ss i) (t : Tr H (runD (rn ways b n (bits i))) v) :
    ∃ Ss', AllAt ways b n H (putK kvs (tkey (rn ways b n (bits i))) v) Ss' (i + 1) := by
  have self : ∀ R, (∃ j, j < 16 ∧ R = rn ways b n (bits j)) → rn ways b n R.2.turns = R := by
    rintro R ⟨j, hj, rfl⟩
    exact rn_self o _
  generalize hR : rn ways b n (bits i) = R at t
  have fR : ∃ j, j < 16 ∧ R = rn ways b n (bits j) := ⟨i, hi, hR.symm⟩
  have one : ∀ S ∈ Ss, tkey S = tkey R → S = R := fun S hS e => by
    rw [← self S (h.from_ S hS), ← self R fR, tkey_inj e]
  by_cases hm : R ∈ Ss
  · refine ⟨Ss, ?_, h.nd, fun S hS => ?_, h.from_, fun j hj => ?_⟩
    · have hk : (kvs.any fun kv => decide (kv.1 = tkey R)) = true := by
        have : tkey R ∈ kvs.map (·.1) := by rw [h.keys]; exact List.mem_map.mpr ⟨R, hm, rfl⟩
        obtain ⟨p, hp, e⟩ := List.mem_map.mp this
        exact List.any_eq_true.mpr ⟨p, hp, decide_eq_true e⟩
      unfold putK
      rw [if_pos hk, List.map_map, ← h.keys]
      refine List.map_congr_left fun p _ => ?_
      show (if p.1 = tkey R then (p.1, v) else p).1 = p.1
      split <;> rfl
    · rw [valV_put]
      by_cases e : tkey S = tkey R
      · rw [if_pos e, one S hS e]
        exact ⟨v, rfl, t⟩
      · rw [if_neg e]
        exact h.val S hS
    · by_cases z : j = i
      · subst z; rw [hR]; exact hm
      · exact h.all j (by omega)
  · have nk : tkey R ∉ Ss.map tkey := fun z => by
      obtain ⟨S, hS, e⟩ := List.mem_map.mp z
      exact hm (one S hS e ▸ hS)
    have hk : ¬ (kvs.any fun kv => decide (kv.1 = tkey R)) = true := by
      intro z
      obtain ⟨p, hp, e⟩ := List.any_eq_true.mp z
      exact nk (by rw [← h.keys]; exact List.mem_map.mpr ⟨p, hp, of_decide_eq_true e⟩)
    refine ⟨Ss ++ [R], ?_, ?_, fun S hS => ?_, fun S hS => ?_, fun j hj => ?_⟩
    · unfold putK
      rw [if_neg hk, List.map_append, List.map_append, h.keys]
      rfl
    · rw [List.map_append]
      refine List.nodup_append.mpr ⟨h.nd, by simp, ?_⟩
      intro x hx y hy e
      subst e
      have : x = tkey R := by simpa using hy
      exact nk (this ▸ hx)
    · rw [valV_put]
      rcases List.mem_append.mp hS with z | z
      · by_cases e : tkey S = tkey R
        · exact absurd (one S z e ▸ z) hm
        · rw [if_neg e]
          exact h.val S z
      · cases List.mem_singleton.mp z
        rw [if_pos rfl]
        exact ⟨v, rfl, t⟩
    · rcases List.mem_append.mp hS with z | z
      · exact h.from_ S z
      · cases List.mem_singleton.mp z
        exact fR
    · by_cases z : j = i
      · subst z; rw [hR]; simp
      · exact List.mem_append_left _ (h.all j (by omega))
theorem AllAt.sorted {H : Hp} {kvs : List (List Key × V)} {Ss Rs : List (Option Str × Cs)} (o : Sm.oks b) (hv : Sm.hvs b ≤ 4) (c : Chn ways b n Rs none) (h : AllAt ways b n H kvs Ss 16) :
    PySem.W.AllAlike (kvs.map fun p => keyD p.1) ∧ Srt (kvs.map fun p => keyD p.1) ∧ (kvs.map fun p => keyD p.1).mergeSort (PySem.W.dataLe false id) = Rs.map (fun R => .tuple (R.2.turns.map PyData.int)) ∧ (∀ R ∈ Rs, ∃ v, valV kvs (tkey R) = some v ∧ Tr H (runD R) v) ∧ kvs.length ≤ 16 := by
  have ok := c.ok (k := 4) o hv
  have ek : (kvs.map fun p => keyD p.1) = Ss.map fun R => .tuple (R.2.turns.map PyData.int) := by
    have : (kvs.map fun p => keyD p.1) = (kvs.map (·.1)).map keyD := by rw [List.map_map]; rfl
    rw [this, h.keys, List.map_map]
    exact List.map_congr_left fun R _ => keyD_tkey R
  have mem : ∀ R, R ∈ Ss ↔ R ∈ Rs := fun R => by
    rw [chn_mem o hv c]
    exact ⟨h.from_ R, fun ⟨j, hj, e⟩ => e ▸ h.all j hj⟩
  have strict : (Rs.map fun R => PyData.tuple (R.2.turns.map PyData.int)).Pairwise (fun a b => PySem.W.dataLt a b = true) := by
    rw [List.pairwise_map]
    refine ok.ord.imp fun hA => ?_
    rw [PySem.W.dataLt_tuple]
    exact ahd_lt hA
  have ndS : Ss.Nodup := (List.pairwise_map.mp h.nd).imp fun hne e => hne (by rw [e])
  have ndR : Rs.Nodup := by
    refine ok.ord.imp fun hA e => ?_
    subst e
    have := ahd_lt hA
    rw [PySem.W.dataLt_ints, decide_eq_true_eq] at this
    exact absurd this (List.lt_irrefl _)
  have perm : Ss.Perm Rs := (List.perm_ext_iff_of_nodup ndS ndR).mpr mem
  have lenR := c.len o (Nat.le_trans hv (by decide))
  have lenR16 : Rs.length ≤ 16 := by
    have := ok.len o hv
    have e : (2 : Int) ^ 4 = 16 := by decide
    omega
  refine ⟨?_, ?_, ?_, fun R hR => h.val R ((mem R).mpr hR), ?_⟩
  · rw [ek]
    refine PySem.W.AllAlike.of fun R S => ?_
    show PySem.W.alike (.tuple _) (.tuple _) = true
    simp only [PySem.W.alike]
    exact PySem.W.alike_ints _ _
  · rw [ek]
    by_cases z : ∃ R ∈ Rs, R.2.turns = []
    · obtain ⟨R, hR, e⟩ := z
      refine .inr ⟨?_, fun d hd => ?_⟩
      · have s := ok.sum
        have hp : pw 4 R.2.turns = 16 := by rw [e]; decide
        have tt : topO 4 none = 16 := by decide
        rw [tt] at s
        rw [List.length_map, perm.length_eq]
        obtain ⟨A, B, rfl⟩ := List.append_of_mem hR
        rw [List.map_append, List.map_cons, List.sum_append, List.sum_cons, hp] at s
        have sA := sum_ge (k := 4) (Rs := A)
        have sB := sum_ge (k := 4) (Rs := B)
        rw [List.length_append, List.length_cons]
        omega
      · obtain ⟨S, _, rfl⟩ := List.mem_map.mp hd
        exact fun z => by cases z
    · refine .inl (.inl fun d hd => ?_)
      obtain ⟨S, hS, rfl⟩ := List.mem_map.mp hd
      have := fun e => z ⟨S, (mem S).mp hS, e⟩
      cases e : S.2.turns with
      | nil => exact absurd e this
      | cons x r => exact ⟨_, _, rfl⟩
  · rw [ek]
    refine sorted_eq (lt := PySem.W.dataLt) ((List.mergeSort_perm _ _).trans (perm.map _)) ?_ strict
    have := PySem.W.sort_pairwise (PySem.W.sortLe_total (PyProof.Rows.listOrd PyProof.Rows.itemOrd) false fun d : PyData => PySem.W.keyToks (id d)) (Ss.map fun R => PyData.tuple (R.2.turns.map PyData.int))
    refine List.Pairwise.imp (fun {x y} hxy => ?_) this
    have hxy : (!PySem.W.dataLt y x) = true := hxy
    cases e : PySem.W.dataLt y x with
    | false => rfl
    | true => rw [e] at hxy; cases hxy
  · have := congrArg List.length h.keys
    rw [List.length_map, List.length_map, perm.length_eq] at this
    omega
end
section
variable {X : Cx} {pos : Pos}
end
def tabQ : Str := "_law_by.<locals>.<lambda>"
/-! ### rows of runs can be shown -/
structure Bk (d : PyData) (B D : Nat) : Prop where
  sh : d.showable = true
  ls : d.leavesShort 241 = true
  bk : d.bulk ≤ B
  dp : d.depth ≤ D
structure Bks (ds : List PyData) (B D : Nat) : Prop where
  sh : PyData.showableAll ds = true
  ls : PyData.leavesShortAll 241 ds = true
  bk : PyData.bulkAll ds ≤ B
  dp : PyData.depthAll ds ≤ D
theorem Bk.mono {d : PyData} {W D W' D' : Nat} (h : Bk d W D) (a : W ≤ W') (b : D ≤ D') : Bk d W' D' := ⟨h.sh, h.ls, Nat.le_trans h.bk a, Nat.le_trans h.dp b⟩
theorem Bks.mono {d : List PyData} {W D W' D' : Nat} (h : Bks d W D) (a : W ≤ W') (b : D ≤ D') : Bks d W' D' := ⟨h.sh, h.ls, Nat.le_trans h.bk a, Nat.le_trans h.dp b⟩
theorem bks_nil : Bks [] 0 0 := ⟨by simp only [PyData.showableAll], by simp only [PyData.leavesShortAll], by simp only [PyData.bulkAll]; exact Nat.le_refl _, by simp only [PyData.depthAll]; exact Nat.le_refl _⟩
theorem bks_cons {d : PyData} {ds : List PyData} {W D W' : Nat} (h : Bk d W D) (t : Bks ds W' D) : Bks (d :: ds) (W + 1 + W') D := by
  obtain ⟨h1, h2, h3, h4⟩ := h
  obtain ⟨t1, t2, t3, t4⟩ := t
  refine ⟨by simp only [PyData.showableAll, h1, t1]; rfl, by simp only [PyData.leavesShortAll, h2, t2]; rfl, ?_, ?_⟩
  · simp only [PyData.bulkAll]; omega
  · simp only [PyData.depthAll]; omega
theorem bk_tup {ds : List PyData} {W D : Nat} (t : Bks ds W D) : Bk (.tuple ds) W (D + 1) := by
  obtain ⟨t1, t2, t3, t4⟩ := t
  refine ⟨by simp only [PyData.showable, t1], by simp only [PyData.leavesShort, t2], ?_, ?_⟩
  · simp only [PyData.bulk]; omega
  · simp only [PyData.depth]; omega
theorem bk_lst {ds : List PyData} {W D : Nat} (t : Bks ds W D) : Bk (.list ds) W (D + 1) := by
  obtain ⟨t1, t2, t3, t4⟩ := t
  refine ⟨by simp only [PyData.showable, t1], by simp only [PyData.leavesShort, t2], ?_, ?_⟩
  · simp only [PyData.bulk]; omega
  · simp only [PyData.depth]; omega
theorem bk_kD {k : Key} (h : kOk (BM - 1) k) : Bk (kD k) 20 0 := by
  refine ⟨kD_showable h, kD_short h, ?_, by rw [kD_depth]; exact Nat.le_refl _⟩
  cases k with
  | inl i =>
    show PyData.bulk (.int i) ≤ 20
    simp only [PyData.bulk]
    exact Nat.zero_le _
  | inr c =>
    show PyData.bulk (.str c) ≤ 20
    simp only [PyData.bulk]
    exact h.2
theorem Bk.shw {d : PyData} {W D : Nat} (h : Bk d W D) (hw : W ≤ 65000) (hd : D ≤ 60) : Shw d := by
  refine ⟨h.sh, Nat.le_trans (PyData.shown_le_bulk 241 (by decide) d h.ls) ?_, Nat.le_trans h.dp hd⟩
  have := h.bk
  have : (243 : Nat) * d.bulk + 241 ≤ 16777216 := by omega
  exact Nat.le_trans this (by decide +kernel)
end EH
namespace EH
open PySem PySem.Spec L2
/-! ### values of all kinds: as Tr, with lists and dicts that nothing changes any more -/
def kvD (ks : List (Str × Int)) : List (PyData × PyData) := ks.map fun p => (.str p.1, .int p.2)
def kvK (ks : List (Str × Int)) : List (Key × V) := ks.map fun p => (.inr p.1, .int p.2)
mutual
def Tq (H : Hp) : PyData → V → Prop
  | .none, v => v = .non
  | .bool b, v => v = .bl b
  | .int i, v => v = .int i
  | .str x, v => v = .str x
  | .tuple ds, v => ∃ a xs, v = .ref a ∧ H a = some (.tup xs) ∧ TqAll H ds xs
  | .list ds, v => ∃ a o xs, v = .ref a ∧ (a == sysModules) = false ∧ H a = some (.frz o (.lst xs)) ∧ TqAll H ds xs
  | .dict kvs, v => ∃ a o ks, v = .ref a ∧ kvs = kvD ks ∧ H a = some (.frz o (.dK (kvK ks)))
def TqAll (H : Hp) : List PyData → List V → Prop
  | [], xs => xs = []
  | d :: ds, xs => ∃ v vs, xs = v :: vs ∧ Tq H d v ∧ TqAll H ds vs
end
/-- what such values lean on is kept -/
structure Kf (H H' : Hp) : Prop where
  tup : ∀ b xs, H b = some (.tup xs) → H' b = some (.tup xs)
  frz : ∀ b o u, H b = some (.frz o u) → H' b = some (.frz o u)
mutual
theorem Tq.mono {H H' : Hp} (k : Kf H H') : ∀ (d : PyData) (v : V), Tq H d v → Tq H' d v
  | .none, v, h => by simp only [Tq] at h ⊢; exact h
  | .bool b, v, h => by simp only [Tq] at h ⊢; exact h
  | .int i, v, h => by simp only [Tq] at h ⊢; exact h
  | .str x, v, h => by simp only [Tq] at h ⊢; exact h
  | .tuple ds, v, h => by
    simp only [Tq] at h ⊢
    obtain ⟨a, xs, e, h1, h2⟩ := h
    exact ⟨a, xs, e, k.tup a xs h1, TqAll.mono k ds xs h2⟩
  | .list ds, v, h => by
    simp only [Tq] at h ⊢
    obtain ⟨a, o, xs, e, n, h1, h2⟩ := h
    exact ⟨a, o, xs, e, n, k.frz a o _ h1, TqAll.mono k ds xs h2⟩
  | .dict kvs, v, h => by
    simp only [Tq] at h ⊢
    obtain ⟨a, o, ks, e, e2, h1⟩ := h
    exact ⟨a, o, ks, e, e2, k.frz a o _ h1⟩
theorem TqAll.mono {H H' : Hp} (k : Kf H H') : ∀ (ds : List PyData) (vs : List V), TqAll H ds vs → TqAll H' ds vs
  | [], vs, h => by simp only [TqAll] at h ⊢; exact h
  | d :: ds, vs, h => by
    simp only [TqAll] at h ⊢
    obtain ⟨v, r, e, h1, h2⟩ := h
    exact ⟨v, r, e, Tq.mono k d v h1, TqAll.mono k ds r h2⟩
end
theorem Kp.kf {S : List Addr} {H H' : Hp} (k : Kp S H H') : Kf H H' := ⟨k.tup, k.frz⟩
theorem Kp.tq {S : List Addr} {H H' : Hp} {d : PyData} {v : V} (k : Kp S H H') (h : Tq H d v) : Tq H' d v := Tq.mono k.kf d v h
theorem Kp.tqAll {S : List Addr} {H H' : Hp} {d : List PyData} {v : List V} (k : Kp S H H') (h : TqAll H d v) : TqAll H' d v := TqAll.mono k.kf d v h
/-! what is made of tuples alone -/
mutual
theorem Tr.tq {H : Hp} : ∀ {d : PyData} {v : V}, Tr H d v → Tq H d v
  | .none, v, h => by simp only [Tr] at h; simp only [Tq]; exact h
  | .bool b, v, h => by simp only [Tr] at h; simp only [Tq]; exact h
  | .int i, v, h => by simp only [Tr] at h; simp only [Tq]; exact h
  | .str x, v, h => by simp only [Tr] at h; simp only [Tq]; exact h
  | .tuple ds, v, h => by
    simp only [Tr] at h
    simp only [Tq]
    obtain ⟨a, xs, e, h1, h2⟩ := h
    exact ⟨a, xs, e, h1, TrAll.tq h2⟩
  | .list ds, v, h => by simp only [Tr] at h
  | .dict ds, v, h => by simp only [Tr] at h
theorem TrAll.tq {H : Hp} : ∀ {ds : List PyData} {vs : List V}, TrAll H ds vs → TqAll H ds vs
  | [], vs, h => by simp only [TrAll] at h; simp only [TqAll]; exact h
  | d :: ds, vs, h => by
    simp only [TrAll] at h
    simp only [TqAll]
    obtain ⟨v, r, e, h1, h2⟩ := h
    exact ⟨v, r, e, Tr.tq h1, TrAll.tq h2⟩
end
/-! data without lists and dicts -/
mutual
def plainD : PyData → Bool
  | .tuple ds => plainDs ds
  | .list _ => false
  | .dict _ => false
  | .none => true
  | .bool _ => true
  | .int _ => true
  | .str _ => true
def plainDs : List PyData → Bool
  | [] => true
  | d :: ds => plainD d && plainDs ds
end
mutual
theorem Tq.tr {H : Hp} : ∀ {d : PyData} {v : V}, plainD d = true → Tq H d v → Tr H d v
  | .none, v, _, h => by simp only [Tq] at h; simp only [Tr]; exact h
  | .bool b, v, _, h => by simp only [Tq] at h; simp only [Tr]; exact h
  | .int i, v, _, h => by simp only [Tq] at h; simp only [Tr]; exact h
  | .str x, v, _, h => by simp only [Tq] at h; simp only [Tr]; exact h
  | .tuple ds, v, p, h => by
    simp only [Tq] at h
    simp only [Tr]
    obtain ⟨a, xs, e, h1, h2⟩ := h
    exact ⟨a, xs, e, h1, TqAll.tr (by simpa only [plainD] using p) h2⟩
  | .list ds, v, p, h => by simp only [plainD] at p; cases p
  | .dict ds, v, p, h => by simp only [plainD] at p; cases p
theorem TqAll.tr {H : Hp} : ∀ {ds : List PyData} {vs : List V}, plainDs ds = true → TqAll H ds vs → TrAll H ds vs
  | [], vs, _, h => by simp only [TqAll] at h; simp only [TrAll]; exact h
  | d :: ds, vs, p, h => by
    simp only [TqAll] at h
    simp only [TrAll]
    simp only [plainDs, Bool.and_eq_true] at p
    obtain ⟨v, r, e, h1, h2⟩ := h
    exact ⟨v, r, e, Tq.tr p.1 h1, TqAll.tr p.2 h2⟩
end
theorem Ex.plainD : ∀ e : Ex, plainD e.d = true
  | .num _ => rfl
  | .var _ => rfl
  | .plus a b => by simp only [Ex.d, EH.plainD, plainDs, Ex.plainD a, Ex.plainD b, Bool.and_true]
  | .minus a b => by simp only [Ex.d, EH.plainD, plainDs, Ex.plainD a, Ex.plainD b, Bool.and_true]
  | .times _ b => by simp only [Ex.d, EH.plainD, plainDs, Ex.plainD b, Bool.and_true]
theorem Ts.plainD : ∀ t : Ts, plainD t.d = true
  | .less a b => by simp only [Ts.d, EH.plainD, plainDs, Ex.plainD a, Ex.plainD b, Bool.and_true]
  | .odd a => by simp only [Ts.d, EH.plainD, plainDs, Ex.plainD a, Bool.and_true]
  | .not t => by simp only [Ts.d, EH.plainD, plainDs, Ts.plainD t, Bool.and_true]
mutual
theorem Sm.plainD : ∀ s : Sm, plainD s.d = true
  | .set _ e => by simp only [Sm.d, EH.plainD, EH.plainDs, Ex.plainD e, Bool.and_true]
  | .half _ e => by simp only [Sm.d, EH.plainD, EH.plainDs, Ex.plainD e, Bool.and_true]
  | .tell e => by simp only [Sm.d, EH.plainD, EH.plainDs, Ex.plainD e, Bool.and_true]
  | .say _ => by simp only [Sm.d, EH.plainD, EH.plainDs, Bool.and_true]
  | .stop _ => by simp only [Sm.d, EH.plainD, EH.plainDs, Bool.and_true]
  | .ite t y n => by simp only [Sm.d, EH.plainD, EH.plainDs, Ts.plainD t, Sm.plainDs y, Sm.plainDs n, Bool.and_true]
  | .rep _ b => by simp only [Sm.d, EH.plainD, EH.plainDs, Sm.plainDs b, Bool.and_true]
theorem Sm.plainDs : ∀ b : List Sm, EH.plainDs (Sm.ds b) = true
  | [] => by simp only [Sm.ds, EH.plainDs]
  | s :: r => by simp only [Sm.ds, EH.plainDs, Sm.plainD s, Sm.plainDs r, Bool.and_true]
end
/-! what a tuple is -/
theorem TqAll.length {H : Hp} : ∀ {ds : List PyData} {vs : List V}, TqAll H ds vs → vs.length = ds.length
  | [], vs, h => by simp only [TqAll] at h; subst h; rfl
  | d :: ds, vs, h => by
    simp only [TqAll] at h
    obtain ⟨v, r, e, h1, h2⟩ := h
    subst e
    rw [List.length_cons, List.length_cons, TqAll.length h2]
theorem TqAll.get {H : Hp} : ∀ {ds : List PyData} {vs : List V} {i : Nat} {d : PyData}, TqAll H ds vs → ds[i]? = some d → ∃ v, vs[i]? = some v ∧ Tq H d v
  | [], vs, i, d, h, e => by simp at e
  | d :: ds, vs, 0, d', h, e => by
    simp only [TqAll] at h
    obtain ⟨v, r, rfl, h1, h2⟩ := h
    cases e
    exact ⟨v, rfl, h1⟩
  | d :: ds, vs, i + 1, d', h, e => by
    simp only [TqAll] at h
    obtain ⟨v, r, rfl, h1, h2⟩ := h
    exact TqAll.get (i := i) h2 e
theorem TqAll.append {H : Hp} : ∀ {ds es : List PyData} {vs ws : List V}, TqAll H ds vs → TqAll H es ws → TqAll H (ds ++ es) (vs ++ ws)
  | [], es, vs, ws, h, g => by simp only [TqAll] at h; subst h; exact g
  | d :: ds, es, vs, ws, h, g => by
    simp only [TqAll] at h
    obtain ⟨v, r, rfl, h1, h2⟩ := h
    simp only [List.cons_append, TqAll]
    exact ⟨v, r ++ ws, rfl, h1, TqAll.append h2 g⟩
theorem tq_int {H : Hp} {i : Int} {v : V} (h : Tq H (.int i) v) : v = .int i := by simp only [Tq] at h; exact h
theorem tq_str {H : Hp} {x : Str} {v : V} (h : Tq H (.str x) v) : v = .str x := by simp only [Tq] at h; exact h
theorem tq_tup {H : Hp} {ds : List PyData} {v : V} (h : Tq H (.tuple ds) v) : ∃ a xs, v = .ref a ∧ H a = some (.tup xs) ∧ TqAll H ds xs := by simp only [Tq] at h; exact h
theorem tq_lst {H : Hp} {ds : List PyData} {v : V} (h : Tq H (.list ds) v) : ∃ a o xs, v = .ref a ∧ (a == sysModules) = false ∧ H a = some (.frz o (.lst xs)) ∧ TqAll H ds xs := by simp only [Tq] at h; exact h
theorem tq_dct {H : Hp} {kvs : List (PyData × PyData)} {v : V} (h : Tq H (.dict kvs) v) : ∃ a o ks, v = .ref a ∧ kvs = kvD ks ∧ H a = some (.frz o (.dK (kvK ks))) := by simp only [Tq] at h; exact h
theorem mq_tup {H : Hp} {ds : List PyData} {a : Addr} {xs : List V} (h : H a = some (.tup xs)) (t : TqAll H ds xs) : Tq H (.tuple ds) (.ref a) := by simp only [Tq]; exact ⟨a, xs, rfl, h, t⟩
theorem mq_lst {H : Hp} {ds : List PyData} {a : Addr} {o : Obj} {xs : List V} (n : (a == sysModules) = false) (h : H a = some (.frz o (.lst xs))) (t : TqAll H ds xs) : Tq H (.list ds) (.ref a) := by simp only [Tq]; exact ⟨a, o, xs, rfl, n, h, t⟩
theorem mq_dct {H : Hp} {ks : List (Str × Int)} {a : Addr} {o : Obj} (h : H a = some (.frz o (.dK (kvK ks)))) : Tq H (.dict (kvD ks)) (.ref a) := by simp only [Tq]; exact ⟨a, o, ks, rfl, rfl, h⟩
theorem tqs_nil {H : Hp} : TqAll H [] [] := by simp only [TqAll]
theorem tqs_cons {H : Hp} {d : PyData} {ds : List PyData} {v : V} {vs : List V} (h : Tq H d v) (t : TqAll H ds vs) : TqAll H (d :: ds) (v :: vs) := by simp only [TqAll]; exact ⟨v, vs, rfl, h, t⟩
theorem mq_int {H : Hp} {i : Int} : Tq H (.int i) (.int i) := by simp only [Tq]
theorem mq_str {H : Hp} {x : Str} : Tq H (.str x) (.str x) := by simp only [Tq]
theorem mq_non {H : Hp} : Tq H .none .non := by simp only [Tq]
theorem mq_bl {H : Hp} {b : Bool} : Tq H (.bool b) (.bl b) := by simp only [Tq]
theorem TqAll.take {H : Hp} : ∀ {ds : List PyData} {vs : List V} (k : Nat), TqAll H ds vs → TqAll H (ds.take k) (vs.take k)
  | ds, vs, 0, _ => by rw [List.take_zero, List.take_zero]; exact tqs_nil
  | [], vs, k + 1, h => by simp only [TqAll] at h; subst h; exact tqs_nil
  | d :: ds, vs, k + 1, h => by
    simp only [TqAll] at h
    obtain ⟨v, r, rfl, h1, h2⟩ := h
    exact tqs_cons h1 (TqAll.take k h2)
theorem TqAll.drop {H : Hp} : ∀ {ds : List PyData} {vs : List V} (k : Nat), TqAll H ds vs → TqAll H (ds.drop k) (vs.drop k)
  | ds, vs, 0, h => h
  | [], vs, k + 1, h => by simp only [TqAll] at h; subst h; exact tqs_nil
  | d :: ds, vs, k + 1, h => by
    simp only [TqAll] at h
    obtain ⟨v, r, rfl, h1, h2⟩ := h
    exact TqAll.drop k h2
/-! isinstance -/
/-! promises -/
section
variable {X : Cx} {pins : List (Addr × Obj)} {σ : L2.St} {H : Hp} {s : Shared}
/-! ### what values of all kinds are read as -/
def kEnc : Key → PyData
  | .inl i => .int i
  | .inr x => .str x
theorem mix_reads {P : Program} {w : World} {h : Heap} (k : Key) (v : Value) (e : (mixKind P w).is k v = true) : Reads h v (kEnc k) [] := by
  rcases keyIs_shape (k := k) (v := v) e with ⟨i, t, rfl, rfl⟩ | ⟨x, t, rfl, rfl⟩
  · exact .int i t
  · exact .str x t
theorem pairs_kv {h : Heap} : ∀ {ks : List (Str × Int)} {vs : List (Key × Value)}, KV (kvK ks) vs → PyProof.V.PairsRead h kEnc vs (kvD ks) []
  | [], [], _ => .nil
  | p :: ks, (k, v) :: vs, .cons ⟨e, t, ev⟩ r => by
    obtain rfl : Sum.inr p.1 = k := e
    obtain rfl : v = Value.int p.2 t := ev
    exact .cons (as := []) (bs := []) (Reads.int p.2 t) (pairs_kv r)
mutual
theorem Tq.reads (I : Inv X pins σ H s) : ∀ {d : PyData} {v : V} {u : Value}, Tq H d v → RelV v u → ∃ as, Reads s.heap u d as ∧ sysModules ∉ as
  | .none, v, u, h, r => by
    simp only [Tq] at h
    subst h
    cases (show u = Value.none from r)
    exact ⟨_, .none, by simp⟩
  | .bool b, v, u, h, r => by
    simp only [Tq] at h
    subst h
    cases (show u = Value.bool b from r)
    exact ⟨_, .bool b, by simp⟩
  | .int i, v, u, h, r => by
    cases tq_int h
    obtain ⟨t, rfl⟩ := r
    exact ⟨_, .int i t, by simp⟩
  | .str x, v, u, h, r => by
    cases tq_str h
    obtain ⟨t, rfl⟩ := r
    exact ⟨_, .str x t, by simp⟩
  | .tuple ds, v, u, h, r => by
    obtain ⟨a, xs, rfl, h1, h2⟩ := tq_tup h
    cases (show u = Value.ref a from r)
    obtain ⟨its, rv, ⟨o, g1, g2, n, g3⟩, _⟩ := I.tuple (SqT.of h1)
    obtain ⟨as, ra, na⟩ := TqAll.reads I h2 rv
    exact ⟨as, .tuple g1 g2 g3 ra, na⟩
  | .list ds, v, u, h, r => by
    obtain ⟨a, ob, xs, rfl, ne, h1, h2⟩ := tq_lst h
    cases (show u = Value.ref a from r)
    obtain ⟨its, rv, ⟨o, n, g1, g2, _, g3⟩, _⟩ := I.list (show SqL X.K H a xs from .inl (.inr ⟨ob, h1⟩))
    obtain ⟨as, ra, na⟩ := TqAll.reads I h2 rv
    refine ⟨a :: as, .list g1 g2 g3 ra, fun m => ?_⟩
    rcases List.mem_cons.mp m with z | z
    · exact beq_eq_false_iff_ne.mp ne z.symm
    · exact na z
  | .dict kvs, v, u, h, r => by
    obtain ⟨a, ob, ks, rfl, rfl, h1⟩ := tq_dct h
    cases (show u = Value.ref a from r)
    obtain ⟨_, _, ne, vs, kv, dd⟩ := I.hok a _ h1
    refine ⟨a :: [], PyProof.V.reads_dictOf (enc := kEnc) mix_reads dd (pairs_kv kv), fun m => ?_⟩
    rcases List.mem_cons.mp m with z | z
    · exact beq_eq_false_iff_ne.mp ne z.symm
    · cases z
theorem TqAll.reads (I : Inv X pins σ H s) : ∀ {ds : List PyData} {vs : List V} {us : List Value}, TqAll H ds vs → Vals vs us → ∃ as, ReadsAll s.heap us ds as ∧ sysModules ∉ as
  | [], vs, us, h, r => by
    simp only [TqAll] at h
    subst h
    cases r
    exact ⟨[], .nil, by simp⟩
  | d :: ds, vs, us, h, r => by
    simp only [TqAll] at h
    obtain ⟨v, rest, rfl, h1, h2⟩ := h
    cases r with
    | cons r1 r2 =>
      obtain ⟨as, q1, n1⟩ := Tq.reads I h1 r1
      obtain ⟨bs, q2, n2⟩ := TqAll.reads I h2 r2
      exact ⟨as ++ bs, .cons q1 q2, fun m => (List.mem_append.mp m).elim n1 n2⟩
end
end
section
variable {X : Cx}
def rReprQ : List V → Hp → VK → Prop := fun xs H Q => ∃ x d, xs = [x] ∧ Tq H d x ∧ Shw d ∧ ∀ z, z = d.shown → Q (.str z) H
theorem call_reprQ (fr : Free X.A) (hu : X.A.units + 64 < cLine) : CallR X (.builtin "repr") rReprQ := by
  intro pins s σ H xs us Q I r h
  obtain ⟨x, d, rfl, t, sw, q⟩ := h
  have plain : plainD d = true → wpAny (model X.prog X.w) X.A (call (.builtin "repr") us) (EP X pins σ Q) X.xe s := fun p => call_reprT fr hu pins s σ H [x] us Q I r ⟨x, d, rfl, Tq.tr p t, sw, q⟩
  have other : ∀ {a : Addr}, us = [.ref a] → (∃ as, Reads s.heap (.ref a) d as ∧ sysModules ∉ as) → wpAny (model X.prog X.w) X.A (call (.builtin "repr") us) (EP X pins σ Q) X.xe s := by
    rintro a rfl ⟨as, rd, na⟩
    have := sw.dp
    exact repr_of_reads' rd sw.sh (fun _ => na) fr (by omega) (fun _ _ z => z) (fun h' t' tk hk => ⟨.str _, H, I.kept hk, ⟨_, rfl⟩, q _ rfl⟩) sw.sz
  obtain ⟨u, rfl, rx⟩ := vals1 r
  have rd := Tq.reads I t rx
  cases d with
  | none => exact plain rfl
  | bool b => exact plain rfl
  | int i => exact plain rfl
  | str z => exact plain rfl
  | tuple ds =>
    obtain ⟨a, _, rfl, _⟩ := tq_tup t
    cases (show u = Value.ref a from rx)
    exact other rfl rd
  | list ds =>
    obtain ⟨a, _, _, rfl, _⟩ := tq_lst t
    cases (show u = Value.ref a from rx)
    exact other rfl rd
  | dict kvs =>
    obtain ⟨a, _, _, rfl, _⟩ := tq_dct t
    cases (show u = Value.ref a from rx)
    exact other rfl rd
/-! ### lists and dicts that nothing will change -/
def FrzQ (H : Hp) (u : HO) (Q : VK) : Prop := ∀ (p : Addr) (H2 : Hp) (o : Obj), H p = none → (p == sysModules) = false → H2 p = some (.frz o u) → Kp [] H H2 → Q (.ref p) H2
def tLstF (t : TA) : TE := fun σ H Q => t σ H fun xs H1 => xs.length ≤ sizeLine ∧ FrzQ H1 (.lst xs) Q
theorem new_ne {pins : List (Addr × Obj)} {σ : L2.St} {H : Hp} {s : Shared} (I : Inv X pins σ H s) : (s.heap.objs.size == sysModules) = false := beq_eq_false_iff_ne.mpr (Nat.ne_of_gt I.big)
theorem pe_lstF {es : List Expr} {t : TA} {pos : Pos} (h : PA X es t) : PE X (.List es pos) (tLstF t) :=
  .mk fun pins s σ H Q I hq => wpAny_List_spliced (thn (h.run pos pins s σ H _ I hq) fun us t ⟨xs, G, J, rv, few, out⟩ => by
    have fresh := J.hok.fresh (Nat.le_refl t.heap.objs.size)
    have at_ : (t.heap.push { cls := .type "list", data := .seq us.toArray }).get? t.heap.objs.size = some { cls := .type "list", data := .seq us.toArray } := Heap.get?_push_size _ rfl
    exact ⟨by rw [← Paired.length rv]; exact few, .ref t.heap.objs.size, _, J.laid (t' := t.toks) (o := .frz _ (.lst xs)) (fun b v e => Heap.get?_push_of_some _ e) (Nat.le_refl _) ⟨at_, few, us, 0, rv, at_⟩, rfl, out _ _ _ fresh (new_ne J) upd_same (Kp.new fresh)⟩)
def tFrzK (t : TE) : TE := fun σ H Q => t σ H fun v H1 => ∃ (a : Addr) (kvs : List (Key × V)), v = .ref a ∧ H1 a = some (.dK kvs) ∧ ∀ (o : Obj) (H2 : Hp), H2 = upd H1 a (.frz o (.dK kvs)) → Q v H2
theorem pe_frzK {e : Expr} {t : TE} (h : PE X e t) : PE X e (tFrzK t) :=
  .mk fun pins s σ H Q I hq => thn (h.run pins s σ H _ I hq) fun u s1 ⟨v, H1, I1, rv, a, kvs, ev, ea, q⟩ => by
    obtain ⟨od, J⟩ := I1.lock ea trivial
    exact ⟨v, _, J, rv, q od _ rfl⟩
theorem kp_frz {H H2 : Hp} {p : Addr} {u w : HO} (h : H p = none) (e : H2 = upd (upd H p u) p w) : Kp [] H H2 ∧ H2 p = some w := by
  subst e
  refine ⟨⟨fun c o g _ => ?_, fun c o g => ?_, fun c o g => ?_, fun c o u g => ?_⟩, upd_same⟩ <;> rw [upd_ne (ne_of_none g h), upd_ne (ne_of_none g h)] <;> exact g
theorem kp_frz2 {H H2 : Hp} {p : Addr} {u v w : HO} (h : H p = none) (e : H2 = upd (upd (upd H p u) p v) p w) : Kp [] H H2 ∧ H2 p = some w := by
  subst e
  refine ⟨⟨fun c o g _ => ?_, fun c o g => ?_, fun c o g => ?_, fun c o u g => ?_⟩, upd_same⟩ <;> rw [upd_ne (ne_of_none g h), upd_ne (ne_of_none g h), upd_ne (ne_of_none g h)] <;> exact g
end
end EH
namespace EH
open PySem L2
/-! ### the law's own recognizers, on values of all kinds -/
/-- a value that is odd -/
structure OddD (d : PyData) : Prop where
  sz : Szd d
  ds : dsz d ≤ 100
  bk : Bk d 300 12
mutual
def szdB : PyData → Bool
  | .str z => decide (z.length ≤ 1000000)
  | .tuple ds => szdsB ds
  | .none => true
  | .bool _ => true
  | .int _ => true
  | .list _ => true
  | .dict _ => true
def szdsB : List PyData → Bool
  | [] => true
  | d :: r => szdB d && szdsB r
end
mutual
theorem szd_of : ∀ {d : PyData}, szdB d = true → Szd d
  | .str z, h => by simp only [szdB, decide_eq_true_eq] at h; simp only [Szd]; exact h
  | .tuple ds, h => by simp only [szdB] at h; simp only [Szd]; exact szds_of h
  | .none, _ => by simp only [Szd]
  | .bool _, _ => by simp only [Szd]
  | .int _, _ => by simp only [Szd]
  | .list _, _ => by simp only [Szd]
  | .dict _, _ => by simp only [Szd]
theorem szds_of : ∀ {ds : List PyData}, szdsB ds = true → Szds ds
  | [], _ => by simp only [Szds]
  | d :: r, h => by
    simp only [szdsB, Bool.and_eq_true] at h
    simp only [Szds]
    exact ⟨szd_of h.1, szds_of h.2⟩
end
def oddOk (d : PyData) : Bool := szdB d && decide (dsz d ≤ 100) && d.showable && d.leavesShort 241 && decide (d.bulk ≤ 300) && decide (d.depth ≤ 12)
theorem oddD_of {d : PyData} (h : oddOk d = true) : OddD d := by
  simp only [oddOk, Bool.and_eq_true, decide_eq_true_eq] at h
  obtain ⟨⟨⟨⟨⟨h1, h2⟩, h3⟩, h4⟩, h5⟩, h6⟩ := h
  exact ⟨szd_of h1, h2, ⟨h3, h4, h5, h6⟩⟩
theorem TqAll.mem {H : Hp} {x : V} : ∀ {ds : List PyData} {vs : List V}, TqAll H ds vs → x ∈ vs → ∃ d, d ∈ ds ∧ Tq H d x
  | [], vs, h, m => by
    simp only [TqAll] at h
    subst h
    cases m
  | d :: ds, vs, h, m => by
    simp only [TqAll] at h
    obtain ⟨v, r, rfl, h1, h2⟩ := h
    rcases List.mem_cons.mp m with rfl | m
    · exact ⟨d, List.mem_cons_self, h1⟩
    · obtain ⟨e, he, t⟩ := TqAll.mem h2 m
      exact ⟨e, List.mem_cons_of_mem _ he, t⟩
/-! ### how a value that is changed at one place measures -/
structure Bent (d d' : PyData) : Prop where
  sz : Szd d → Szd d'
  ds : dsz d' ≤ 2 * dsz d + 100
  sh : d.showable = true → d'.showable = true
  ls : d.leavesShort 241 = true → d'.leavesShort 241 = true
  bk : d'.bulk ≤ 2 * d.bulk + 300
  dp : d'.depth ≤ d.depth + 12
/-! ### how much a program with short names shows -/
theorem bk_i {i : Int} (h : i.natAbs < 1000) : Bk (.int i) 0 0 := by
  have s := sw_int h
  refine ⟨s.sh, ?_, by simp only [PyData.bulk]; exact Nat.le_refl _, by simp only [PyData.depth]; exact Nat.le_refl _⟩
  have := s.ls
  simp only [PyData.leavesShort, decide_eq_true_eq] at this ⊢
  omega
theorem bk_s {c : Str} {n : Nat} (h : PyData.strOk c = true ∧ c.length ≤ n) : Bk (.str c) n 0 := by
  refine ⟨by simp only [PyData.showable], ?_, ?_, ?_⟩
  · exact PyData.leavesShort_of_canLay0 241 (.str c) (by simp only [PyData.canLay0]; exact h.1) (by simp only [PyData.intsShort])
  · simp only [PyData.bulk]; exact h.2
  · simp only [PyData.depth]; exact Nat.le_refl _
theorem bk_kw (x : Str) (h : PyData.strOk x = true ∧ x.length ≤ 6) : Bk (.str x) 6 0 := bk_s h
def exB : Nat → Nat
  | 0 => 20
  | n + 1 => 2 * exB n + 10
theorem exB_ge : ∀ n, 20 ≤ exB n
  | 0 => Nat.le_refl _
  | n + 1 => by have := exB_ge n; simp only [exB]; omega
section
variable {N : List Str} (hN : ∀ x ∈ N, x.length ≤ 20)
include hN
theorem Ex.bk : ∀ {e : Ex} (n : Nat), e.ok → e.inN N → e.deep ≤ n + 1 → Bk e.d (exB n) n
  | .num i, n, h, _, _ => by
    have h : -99 ≤ i ∧ i ≤ 99 := h
    exact (bk_i (by omega)).mono (Nat.zero_le _) (Nat.zero_le _)
  | .var x, n, h, g, _ => (bk_s ⟨h.1, hN x g⟩).mono (exB_ge n) (Nat.zero_le _)
  | .plus a b, 0, h, _, d => absurd (show max a.deep b.deep + 1 ≤ 1 from d) (by have := a.deep_pos; omega)
  | .plus a b, n + 1, h, g, d => by
    have d : max a.deep b.deep + 1 ≤ n + 1 + 1 := d
    have ha := Ex.bk n (show a.ok ∧ b.ok from h).1 (show a.inN N ∧ b.inN N from g).1 (by omega)
    have hb := Ex.bk n (show a.ok ∧ b.ok from h).2 (show a.inN N ∧ b.inN N from g).2 (by omega)
    exact (bk_tup (bks_cons ((bk_kw "plus" (by decide +kernel)).mono (Nat.le_refl _) (Nat.zero_le _)) (bks_cons ha (bks_cons hb (bks_nil.mono (Nat.le_refl _) (Nat.zero_le _)))))).mono (by simp only [exB]; omega) (Nat.le_refl _)
  | .minus a b, 0, h, _, d => absurd (show max a.deep b.deep + 1 ≤ 1 from d) (by have := a.deep_pos; omega)
  | .minus a b, n + 1, h, g, d => by
    have d : max a.deep b.deep + 1 ≤ n + 1 + 1 := d
    have ha := Ex.bk n (show a.ok ∧ b.ok from h).1 (show a.inN N ∧ b.inN N from g).1 (by omega)
    have hb := Ex.bk n (show a.ok ∧ b.ok from h).2 (show a.inN N ∧ b.inN N from g).2 (by omega)
    exact (bk_tup (bks_cons ((bk_kw "minus" (by decide +kernel)).mono (Nat.le_refl _) (Nat.zero_le _)) (bks_cons ha (bks_cons hb (bks_nil.mono (Nat.le_refl _) (Nat.zero_le _)))))).mono (by simp only [exB]; omega) (Nat.le_refl _)
  | .times k a, 0, h, _, d => absurd (show a.deep + 1 ≤ 1 from d) (by have := a.deep_pos; omega)
  | .times k a, n + 1, h, g, d => by
    have d : a.deep + 1 ≤ n + 1 + 1 := d
    obtain ⟨h1, h2, h3⟩ := (show -9 ≤ k ∧ k ≤ 9 ∧ a.ok from h)
    have ha := Ex.bk n h3 (show a.inN N from g) (by omega)
    have := exB_ge n
    exact (bk_tup (bks_cons ((bk_kw "times" (by decide +kernel)).mono (Nat.le_refl _) (Nat.zero_le _)) (bks_cons ((bk_i (i := k) (by omega)).mono (Nat.le_refl _) (Nat.zero_le _)) (bks_cons ha (bks_nil.mono (Nat.le_refl _) (Nat.zero_le _)))))).mono (by simp only [exB]; omega) (Nat.le_refl _)
theorem Ex.bk3 {e : Ex} (h : e.ok) (g : e.inN N) (d : e.deep ≤ 3) : Bk e.d 110 2 := (Ex.bk hN 2 h g d).mono (by decide) (Nat.le_refl _)
theorem Ts.bk : ∀ {t : Ts}, t.ok → t.inN N → Bk t.d (230 + 8 * t.nots) (3 + t.nots)
  | .less a b, h, g => by
    obtain ⟨⟨o1, d1⟩, o2, d2⟩ := (show (a.ok ∧ a.deep ≤ 3) ∧ b.ok ∧ b.deep ≤ 3 from h)
    obtain ⟨g1, g2⟩ := (show a.inN N ∧ b.inN N from g)
    exact (bk_tup (bks_cons ((bk_kw "less" (by decide +kernel)).mono (Nat.le_refl _) (Nat.zero_le _)) (bks_cons (Ex.bk3 hN o1 g1 d1) (bks_cons (Ex.bk3 hN o2 g2 d2) (bks_nil.mono (Nat.le_refl _) (Nat.zero_le _)))))).mono (by simp only [Ts.nots]; omega) (by simp only [Ts.nots]; omega)
  | .odd a, h, g => by
    obtain ⟨o1, d1⟩ := (show a.ok ∧ a.deep ≤ 3 from h)
    exact (bk_tup (bks_cons ((bk_kw "odd" (by decide +kernel)).mono (Nat.le_refl _) (Nat.zero_le _)) (bks_cons (Ex.bk3 hN o1 (show a.inN N from g) d1) (bks_nil.mono (Nat.le_refl _) (Nat.zero_le _))))).mono (by simp only [Ts.nots]; omega) (by simp only [Ts.nots]; omega)
  | .not t, h, g => by
    have ih := Ts.bk (t := t) h (show t.inN N from g)
    exact (bk_tup (bks_cons ((bk_kw "not" (by decide +kernel)).mono (Nat.le_refl _) (Nat.zero_le _)) (bks_cons ih (bks_nil.mono (Nat.le_refl _) (Nat.zero_le _))))).mono (by simp only [Ts.nots]; omega) (by simp only [Ts.nots]; omega)
mutual
theorem Sm.bk : ∀ {s : Sm}, s.ok → s.inN N → Bk s.d (300 * s.pl - 1) (6 + 2 * s.nest)
  | .ite t y n, h, g => by
    simp only [Sm.ok] at h
    simp only [Sm.inN] at g
    have ht := Ts.bk hN h.1 g.1
    have hy := bk_tup (Sm.bks h.2.2.1 g.2.1)
    have hn := bk_tup (Sm.bks h.2.2.2 g.2.2)
    simp only [Sm.d, Sm.pl, Sm.nest]
    exact (bk_tup (D := 5 + 2 * (max (Sm.nests y) (Sm.nests n) + 1)) (bks_cons ((bk_kw "if" (by decide +kernel)).mono (Nat.le_refl _) (Nat.zero_le _)) (bks_cons (ht.mono (Nat.le_refl _) (by omega)) (bks_cons (hy.mono (Nat.le_refl _) (by omega)) (bks_cons (hn.mono (Nat.le_refl _) (by omega)) (bks_nil.mono (Nat.le_refl _) (Nat.zero_le _))))))).mono (by omega) (by omega)
  | .rep k b, h, g => by
    simp only [Sm.ok] at h
    simp only [Sm.inN] at g
    have hb := bk_tup (Sm.bks h.2 g)
    simp only [Sm.d, Sm.pl, Sm.nest]
    exact (bk_tup (D := 5 + 2 * (Sm.nests b + 1)) (bks_cons ((bk_kw "repeat" (by decide +kernel)).mono (Nat.le_refl _) (Nat.zero_le _)) (bks_cons ((bk_i (i := (k : Int)) (by omega)).mono (Nat.le_refl _) (Nat.zero_le _)) (bks_cons (hb.mono (Nat.le_refl _) (by omega)) (bks_nil.mono (Nat.le_refl _) (Nat.zero_le _)))))).mono (by omega) (by omega)
  | .set x e, h, g => by
    simp only [Sm.ok] at h
    simp only [Sm.inN] at g
    simp only [Sm.d, Sm.pl, Sm.nest]
    exact (bk_tup (bks_cons ((bk_kw "set" (by decide +kernel)).mono (Nat.le_refl _) (Nat.zero_le _)) (bks_cons ((bk_s (n := 20) ⟨h.2.1, hN x g.2⟩).mono (Nat.le_refl _) (Nat.zero_le _)) (bks_cons (Ex.bk3 hN h.1.1 g.1 h.1.2) (bks_nil.mono (Nat.le_refl _) (Nat.zero_le _)))))).mono (by omega) (by omega)
  | .half x e, h, g => by
    simp only [Sm.ok] at h
    simp only [Sm.inN] at g
    simp only [Sm.d, Sm.pl, Sm.nest]
    exact (bk_tup (bks_cons ((bk_kw "half" (by decide +kernel)).mono (Nat.le_refl _) (Nat.zero_le _)) (bks_cons ((bk_s (n := 20) ⟨h.2.1, hN x g.2⟩).mono (Nat.le_refl _) (Nat.zero_le _)) (bks_cons (Ex.bk3 hN h.1.1 g.1 h.1.2) (bks_nil.mono (Nat.le_refl _) (Nat.zero_le _)))))).mono (by omega) (by omega)
  | .tell e, h, g => by
    simp only [Sm.ok] at h
    simp only [Sm.inN] at g
    simp only [Sm.d, Sm.pl, Sm.nest]
    exact (bk_tup (bks_cons ((bk_kw "tell" (by decide +kernel)).mono (Nat.le_refl _) (Nat.zero_le _)) (bks_cons (Ex.bk3 hN h.1 g h.2) (bks_nil.mono (Nat.le_refl _) (Nat.zero_le _))))).mono (by omega) (by omega)
  | .say c, h, _ => by
    simp only [Sm.ok] at h
    simp only [Sm.d, Sm.pl, Sm.nest]
    exact (bk_tup (D := 0) (bks_cons (bk_kw "say" (by decide +kernel)) (bks_cons (bk_s h) bks_nil))).mono (by omega) (by omega)
  | .stop c, h, _ => by
    simp only [Sm.ok] at h
    simp only [Sm.d, Sm.pl, Sm.nest]
    exact (bk_tup (D := 0) (bks_cons (bk_kw "stop" (by decide +kernel)) (bks_cons (bk_s h) bks_nil))).mono (by omega) (by omega)
theorem Sm.bks : ∀ {b : List Sm}, Sm.oks b → Sm.insN N b → Bks (Sm.ds b) (300 * Sm.pls b) (6 + 2 * Sm.nests b)
  | [], _, _ => by simp only [Sm.ds]; exact bks_nil.mono (Nat.zero_le _) (Nat.zero_le _)
  | s :: r, h, g => by
    simp only [Sm.oks] at h
    simp only [Sm.insN] at g
    have h1 := Sm.bk h.1 g.1
    have h2 := Sm.bks h.2 g.2
    have := s.pl_pos
    simp only [Sm.ds, Sm.pls, Sm.nests]
    exact (bks_cons (h1.mono (Nat.le_refl _) (show 6 + 2 * s.nest ≤ 6 + 2 * max s.nest (Sm.nests r) by omega)) (h2.mono (Nat.le_refl _) (by omega))).mono (by omega) (Nat.le_refl _)
end
end
/-- values that can be asked and shown -/
structure Vo (d : PyData) : Prop where
  sz : Szd d
  ds : dsz d ≤ 1000000
  sw : Shw d
structure Vw (d : PyData) (Z W D : Nat) : Prop where
  sz : Szd d
  ds : dsz d ≤ Z
  bk : Bk d W D
end EH
namespace EH
open PySem PySem.Spec L2
/-! ### lists of bools, and of one text many times, compared -/
theorem bools_dp {K : PySem.W.Frag} {H : Hp} : ∀ bs : List Bool, DpAll K H (bs.map V.bl) (bs.map PyData.bool)
  | [] => .nil
  | x :: r => .cons (.bl x) (bools_dp r)
theorem bools_lay (bs : List Bool) : PyData.canLayAll0 (bs.map PyData.bool) = true ∧ PyData.depthAll (bs.map PyData.bool) ≤ 0 := lay_all (ds := bs.map PyData.bool) (k := 0) (by
  intro d hd
  obtain ⟨z, hz, rfl⟩ := List.mem_map.mp hd
  exact ⟨by simp only [PyData.canLay0], by simp [PyData.depth]⟩)
theorem bools_shaped (bs : List Bool) : SeqAt.shaped (.list (bs.map PyData.bool)) = true := by
  have := bools_lay bs
  exact shaped_of (by simp only [PyData.canLay0]; exact this.1) (by simp only [PyData.depth]; omega)
def rNeBs : R2 := fun x y H Q => ∃ (a b : Addr) (bs : List Bool), x = .ref a ∧ y = .ref b ∧ H a = some (.lst (bs.map V.bl)) ∧ H b = some (.lst (bs.map V.bl)) ∧ Q (.bl false) H
theorem op_neBs {X : Cx} (hu : X.A.units + 64 < cLine) : OpR X (compareOp .NotEq) rNeBs := OpR.imp (op_neD hu) fun x y H Q ⟨a, b, bs, e1, e2, h1, h2, q⟩ => by
  refine ⟨.list (bs.map PyData.bool), .list (bs.map PyData.bool), e1 ▸ .lst (SqL.of h1) (bools_dp bs), e2 ▸ .lst (SqL.of h2) (bools_dp bs), bools_shaped bs, bools_shaped bs, ?_⟩
  rw [SeqAt.eqv_refl _ (by simp only [PyData.canLay0]; exact (bools_lay bs).1)]
  exact q
def rEqSs : R2 := fun x y H Q => ∃ (a b : Addr) (xs : List Str), x = .ref a ∧ y = .ref b ∧ H a = some (.lst (xs.map V.str)) ∧ H b = some (.lst (xs.map V.str)) ∧ Q (.bl true) H
theorem strs_eqV {K : PySem.W.Frag} {H : Hp} : ∀ xs : List Str, Paired (EqV K H 1) (xs.map V.str) (xs.map V.str)
  | [] => .nil
  | x :: r => .cons (.inl ⟨rfl, rfl⟩) (strs_eqV r)
theorem op_eqSs {X : Cx} (hu : X.A.units + 64 < cLine) : OpR X (compareOp .Eq) rEqSs := OpR.imp (op_eqV hu) fun x y H Q ⟨a, b, xs, e1, e2, h1, h2, q⟩ =>
  ⟨1, by decide, .inl ⟨a, b, _, _, e1, e2, SqL.of h1, SqL.of h2, strs_eqV xs⟩, q⟩
/-! ### which classes an error is of -/
/-- the answers for the k-th class: 17 of the list, NoPlace, NoVersion, HalfError, LookupError, ValueError -/
def kb (k : Nat) : List Bool := ((List.range 17).map fun j => decide (j = k)) ++ [false, false, true, false, true]
theorem kb_len (k : Nat) : (kb k).length = 22 := by simp [kb]
theorem kb_take (k : Nat) : (kb k).take 17 = (List.range 17).map fun j => decide (j = k) := by simp [kb]
theorem kd_get {K : PySem.W.Frag} {C : Addr} {L : List Value} {bs : List Bool} {i : Nat} {c : Value} {b : Bool} (h : L.map (PySem.W.kitOne K (.ref C)) = bs.map some) (hc : L[i]? = some c) (hb : bs[i]? = some b) : PySem.W.kitOne K (.ref C) c = some b := by
  have e := congrArg (fun z : List (Option Bool) => z[i]?) h
  simp only [List.getElem?_map, hc, hb, Option.map_some] at e
  exact Option.some.inj e
structure LvK (K : PySem.W.Frag) (L : List Value) (X : Hp) (k : Nat) (v : V) : Prop where
  ex : ∃ a C fs, v = .ref a ∧ LvE X C a fs ∧ ExcK K C ∧ L.map (PySem.W.kitOne K (.ref C)) = (kb k).map some
theorem LvK.kp0 {K : PySem.W.Frag} {L : List Value} {X X' : Hp} {k : Nat} {v : V} (kk : Kp [] X X') (h : LvK K L X k v) : LvK K L X' k v := by
  obtain ⟨a, C, fs, e, h1, h2, h3⟩ := h.ex
  exact ⟨a, C, fs, e, h1.kp0 kk, h2, h3⟩
/-- from the k-th on -/
def LsK (K : PySem.W.Frag) (L : List Value) (X : Hp) : Nat → List V → Prop
  | _, [] => True
  | k, v :: r => LvK K L X k v ∧ LsK K L X (k + 1) r
theorem LsK.kp0 {K : PySem.W.Frag} {L : List Value} {X X' : Hp} (kk : Kp [] X X') : ∀ {k : Nat} {vs : List V}, LsK K L X k vs → LsK K L X' k vs
  | _, [], _ => trivial
  | _, _ :: _, h => ⟨h.1.kp0 kk, LsK.kp0 kk h.2⟩
theorem LsK.app {K : PySem.W.Frag} {L : List Value} {X : Hp} {ws : List V} : ∀ {k : Nat} {vs : List V}, LsK K L X k vs → LsK K L X (k + vs.length) ws → LsK K L X k (vs ++ ws)
  | _, [], _, h => h
  | k, v :: r, h, g => ⟨h.1, LsK.app h.2 (by rw [List.length_cons] at g; rwa [show k + 1 + r.length = k + (r.length + 1) by omega])⟩
theorem LsK.get {K : PySem.W.Frag} {L : List Value} {X : Hp} {v : V} : ∀ {k : Nat} {vs : List V} {i : Nat}, LsK K L X k vs → vs[i]? = some v → LvK K L X (k + i) v
  | _, [], _, _, h => by simp at h
  | k, _ :: _, 0, h, e => by
    cases e
    exact h.1
  | k, _ :: r, i + 1, h, e => by
    have := LsK.get (i := i) h.2 e
    rwa [show k + 1 + i = k + (i + 1) by omega] at this
def spRight0 : Sp := fun vs H Q _ => ∃ (v : V), vs = [v] ∧ ∀ H', Kp [] H H' → Q (.bl true) H'
theorem eq_int0 (j k : Nat) : decide (V.int (0 + (j : Int)) = V.int (0 + (k : Int))) = decide (j = k) := by
  by_cases h : j = k
  · subst h
    simp
  · have : ¬ (V.int (0 + (j : Int)) = V.int (0 + (k : Int))) := fun z => by
      have := V.int.inj z
      omega
    rw [decide_eq_false this, decide_eq_false h]
theorem kb_19 (k : Nat) : (kb k)[19]? = some true := by simp [kb]
theorem kb_20 (k : Nat) : (kb k)[20]? = some false := by simp [kb]
theorem kb_21 (k : Nat) : (kb k)[21]? = some true := by simp [kb]
/-- an error of none of the 17 classes; h: whether it is a HalfError -/
structure LvN (K : PySem.W.Frag) (L : List Value) (X : Hp) (h : Bool) (v : V) : Prop where
  ex : ∃ (a C : Addr) (fs : Option (List (Str × V))) (bs : List Bool), v = .ref a ∧ LvE X C a fs ∧ ExcK K C ∧ L.map (PySem.W.kitOne K (.ref C)) = bs.map some ∧ bs.length = 22 ∧ bs.take 17 = List.replicate 17 false ∧ bs[19]? = some h ∧ bs[20]? = some (!h) ∧ bs[21]? = some h
theorem LvN.kp0 {K : PySem.W.Frag} {L : List Value} {X X' : Hp} {h : Bool} {v : V} (kk : Kp [] X X') (g : LvN K L X h v) : LvN K L X' h v := by
  obtain ⟨a, C, fs, bs, e, h1, h2, h3⟩ := g.ex
  exact ⟨a, C, fs, bs, e, h1.kp0 kk, h2, h3⟩
def spBounds0 : Sp := fun vs H Q _ => vs = [] ∧ ∀ (p : Addr) (H' : Hp), H' p = some (.lst ([8, 8, 8, 3, 2, 24, 60, 4, 3, 3, 40, 60, 20, 60, 60].map V.int)) → Kp [] H H' → Q (.ref p) H'
def spFields0 : Sp := fun vs H Q _ => ∃ (v x : V) (d : PyData), vs = [v, x] ∧ Tq H d v ∧ Shw d ∧ ∀ H', Kp [] H H' → Q (.bl true) H'
/-! ### values of many kinds -/
theorem bk_mid {i : Int} (h : i.natAbs ≤ 1000000000) : Bk (.int i) 20 0 := by
  have e : kOk (BM - 1) (.inl i) := Nat.le_trans h (by decide +kernel)
  exact bk_kD e
theorem int_strOk0 (i : Int) : PyData.strOk (Str.ofString (toString i)) = true := by
  unfold PyData.strOk
  rw [Str.ofString_eq_toList]
  rw [Array.all_eq_true]
  intro k hk
  simp only [List.getElem_toArray, List.getElem_map, decide_eq_true_eq]
  have hv := ((toString i).toList[k]'(by simpa using hk)).valid
  rcases hv with h | ⟨_, h⟩
  · exact Nat.lt_trans h (by decide)
  · exact h
theorem bk_txt {i : Int} (h : i.natAbs ≤ 1000000000) : Bk (.str (Str.ofString (toString i))) 20 0 := by
  have e := int_text_length_le10 (a := i) (k := 12) (by decide) (by omega)
  refine (bk_s ⟨int_strOk0 i, ?_⟩).mono (Nat.le_refl _) (Nat.le_refl _)
  rw [ofString_length]
  omega
theorem bk_dic {i : Int} (h : i.natAbs ≤ 1000000000) : Bk (.dict (kvD [("a", i)])) 200 12 := by
  obtain ⟨h1, h2, h3, h4⟩ := bk_mid h
  obtain ⟨g1, g2, g3, g4⟩ : Bk (.str "a") 20 0 := bk_s ⟨by decide +kernel, by decide +kernel⟩
  refine ⟨?_, ?_, ?_, ?_⟩
  · simp only [kvD, List.map_cons, List.map_nil, PyData.showable, PyData.showableKv] at h1 ⊢
    simp only [h1, Bool.and_self]
  · simp only [kvD, List.map_cons, List.map_nil, PyData.leavesShort, PyData.leavesShortKv] at h2 g2 ⊢
    simp only [h2, g2, Bool.and_self]
  · simp only [kvD, List.map_cons, List.map_nil, PyData.bulk, PyData.bulkKv] at h3 g3 ⊢
    omega
  · simp only [kvD, List.map_cons, List.map_nil, PyData.depth, PyData.depthKv] at h4 g4 ⊢
    omega
def spValue0 : Sp := fun vs H Q _ => ∃ (a c : Addr) (m : Int), vs = [.ref a] ∧ Deck H a c m ∧ m ≤ 1000 ∧
  ∀ (t : V) (d : PyData) (H' : Hp) (m' : Int), Tq H' d t → Shw d → m ≤ m' → m' ≤ m + 2 → Deck H' a c m' → Kp [a, c] H H' → Q t H'
abbrev V0 (d : PyData) : Prop := Bk d 300 12
theorem v0_odd {d : PyData} (h : oddOk d = true) : V0 d := (oddD_of h).bk
theorem v0s_nil : ∀ d ∈ ([] : List PyData), V0 d := fun _ h => nomatch h
theorem v0s_cons {d : PyData} {ds : List PyData} (h : V0 d) (t : ∀ d ∈ ds, V0 d) : ∀ x ∈ d :: ds, V0 x := fun x hx => by
  rcases List.mem_cons.mp hx with rfl | hx
  · exact h
  · exact t x hx
theorem v0s_app {ds es : List PyData} (h : ∀ d ∈ ds, V0 d) (t : ∀ d ∈ es, V0 d) : ∀ x ∈ ds ++ es, V0 x := fun x hx => (List.mem_append.mp hx).elim (h x) (t x)
theorem v0_tup {i : Int} (h : i.natAbs ≤ 1000000000) : V0 (.tuple [.int i]) := (bk_tup (bks_cons (bk_mid h) bks_nil)).mono (by decide) (by decide)
theorem v0_lst {i : Int} (h : i.natAbs ≤ 1000000000) : V0 (.list [.int i]) := (bk_lst (bks_cons (bk_mid h) bks_nil)).mono (by decide) (by decide)
theorem trs_ints0 {H : Hp} : ∀ l : List Int, TrAll H (l.map PyData.int) (l.map V.int)
  | [] => by simp only [List.map_nil, TrAll]
  | i :: r => by
    simp only [List.map_cons, TrAll, Tr]
    exact ⟨_, _, rfl, rfl, trs_ints0 r⟩
end EH
namespace EH
open PySem L2
theorem sc_BadText_init : FnScope ["self", "line"] ["self", "line"] (defScope s_BadText_init) := ⟨rfl, rfl, rfl, by decide +kernel, rfl, by decide +kernel, by decide +kernel⟩
theorem sc_BadProgram_init : FnScope ["self", "error"] ["self", "error"] (defScope s_BadProgram_init) := ⟨rfl, rfl, rfl, by decide +kernel, rfl, by decide +kernel, by decide +kernel⟩
theorem sc_BadFix_init : FnScope ["self", "value"] ["self", "value"] (defScope s_BadFix_init) := ⟨rfl, rfl, rfl, by decide +kernel, rfl, by decide +kernel, by decide +kernel⟩
theorem sc_BadWay_init : FnScope ["self", "way"] ["self", "way"] (defScope s_BadWay_init) := ⟨rfl, rfl, rfl, by decide +kernel, rfl, by decide +kernel, by decide +kernel⟩
theorem sc_BadNumber_init : FnScope ["self", "number"] ["self", "number"] (defScope s_BadNumber_init) := ⟨rfl, rfl, rfl, by decide +kernel, rfl, by decide +kernel, by decide +kernel⟩
theorem sc_BadChoices_init : FnScope ["self", "choices"] ["self", "choices"] (defScope s_BadChoices_init) := ⟨rfl, rfl, rfl, by decide +kernel, rfl, by decide +kernel, by decide +kernel⟩
theorem sc_NoHalf_init : FnScope ["self", "place"] ["self", "place"] (defScope s_NoHalf_init) := ⟨rfl, rfl, rfl, by decide +kernel, rfl, by decide +kernel, by decide +kernel⟩
theorem sc_PinThere_init : FnScope ["self", "place"] ["self", "place"] (defScope s_PinThere_init) := ⟨rfl, rfl, rfl, by decide +kernel, rfl, by decide +kernel, by decide +kernel⟩
theorem sc_NoPin_init : FnScope ["self", "place"] ["self", "place"] (defScope s_NoPin_init) := ⟨rfl, rfl, rfl, by decide +kernel, rfl, by decide +kernel, by decide +kernel⟩
theorem sc_Unsure_init : FnScope ["self", "number", "turns"] ["self", "number", "turns"] (defScope s_Unsure_init) := ⟨rfl, rfl, rfl, by decide +kernel, rfl, by decide +kernel, by decide +kernel⟩
theorem sc_BadEdit_init : FnScope ["self", "index"] ["self", "index"] (defScope s_BadEdit_init) := ⟨rfl, rfl, rfl, by decide +kernel, rfl, by decide +kernel, by decide +kernel⟩
theorem sc_Rejected_init : FnScope ["self", "index"] ["self", "index"] (defScope s_Rejected_init) := ⟨rfl, rfl, rfl, by decide +kernel, rfl, by decide +kernel, by decide +kernel⟩
theorem sc_NoPlace_init : FnScope ["self", "place"] ["self", "place"] (defScope s_NoPlace_init) := ⟨rfl, rfl, rfl, by decide +kernel, rfl, by decide +kernel, by decide +kernel⟩
theorem sc_NoVersion_init : FnScope ["self", "version"] ["self", "version"] (defScope s_NoVersion_init) := ⟨rfl, rfl, rfl, by decide +kernel, rfl, by decide +kernel, by decide +kernel⟩
theorem sc_l_deck : FnScope ["_law_script", "_law_cell"] ["_law_script"] (defScope s_l_deck) := ⟨rfl, rfl, rfl, by decide +kernel, rfl, by decide +kernel, by decide +kernel⟩
theorem sc_l_draw : FnScope ["_law_deck_here", "_law_many", "_law_cell", "_law_at", "_law_mixed"] ["_law_deck_here", "_law_many"] (defScope s_l_draw) := ⟨rfl, rfl, rfl, by decide +kernel, rfl, by decide +kernel, by decide +kernel⟩
theorem sc_l_one : FnScope ["_law_deck_here", "_law_items"] ["_law_deck_here", "_law_items"] (defScope s_l_one) := ⟨rfl, rfl, rfl, by decide +kernel, rfl, by decide +kernel, by decide +kernel⟩
theorem sc_l_value : FnScope ["_law_deck_here", "_law_many", "_law_values"] ["_law_deck_here"] (defScope s_l_value) := ⟨rfl, rfl, rfl, by decide +kernel, rfl, by decide +kernel, by decide +kernel⟩
theorem sc_l_kinds : FnScope ["_law_e", "_law_found"] ["_law_e"] (defScope s_l_kinds) := ⟨rfl, rfl, rfl, by decide +kernel, rfl, by decide +kernel, by decide +kernel⟩
theorem sc_l_kinds_right : FnScope ["_law_a", "_law_some", "_law_k", "_law_e", "_law_j"] ["_law_a"] (defScope s_l_kinds_right) := ⟨rfl, rfl, rfl, by decide +kernel, rfl, by decide +kernel, by decide +kernel⟩
theorem sc_l_fields_right : FnScope ["_law_a", "_law_b", "_law_found", "_law_one_here"] ["_law_a", "_law_b"] (defScope s_l_fields_right) := ⟨rfl, rfl, rfl, by decide +kernel, rfl, by decide +kernel, by decide +kernel⟩
theorem sc_l_bounds : FnScope ["_law_found"] [] (defScope s_l_bounds) := ⟨rfl, rfl, rfl, by decide +kernel, rfl, by decide +kernel, by decide +kernel⟩
theorem sc_law : FnScope ["_law_script", "_law_deck_here", "_law_turn", "_law_a", "_law_b"] ["_law_script"] (defScope s_law) := ⟨rfl, rfl, rfl, by decide +kernel, rfl, by decide +kernel, by decide +kernel⟩
structure DAo (K : PySem.W.Frag) (mg : Str → Option Value) (x own : Str) (st : Stmt) (ps : List Str) where
  f : Addr
  fd : FuncData
  F : Fun K own own st f fd
  b : Binds K fd ps []
  g : mg x = some (.ref f)
set_option genInjectivity false in
set_option genSizeOfSpec false in
structure Top (K : PySem.W.Frag) (mg : Str → Option Value) where
  l_deck : DA K mg "_law_deck" s_l_deck ["_law_script"]
  l_draw : DA K mg "_law_draw" s_l_draw ["_law_deck_here", "_law_many"]
  l_one : DA K mg "_law_one" s_l_one ["_law_deck_here", "_law_items"]
  l_value : DA K mg "_law_value" s_l_value ["_law_deck_here"]
  l_kinds : DA K mg "_law_kinds" s_l_kinds ["_law_e"]
  l_kinds_right : DA K mg "_law_kinds_right" s_l_kinds_right ["_law_a"]
  l_fields_right : DA K mg "_law_fields_right" s_l_fields_right ["_law_a", "_law_b"]
  l_bounds : DA K mg "_law_bounds" s_l_bounds []
  law : DA K mg "law" s_law ["_law_script"]
  HalfError : BA K mg "HalfError"
  BadText : EA K mg "BadText" "line"
  BadText_init : EI K BadText.C "BadText.__init__" s_BadText_init ["self", "line"]
  BadProgram : EA K mg "BadProgram" "error"
  BadProgram_init : EI K BadProgram.C "BadProgram.__init__" s_BadProgram_init ["self", "error"]
  BadFix : EA K mg "BadFix" "value"
  BadFix_init : EI K BadFix.C "BadFix.__init__" s_BadFix_init ["self", "value"]
  BadWay : EA K mg "BadWay" "way"
  BadWay_init : EI K BadWay.C "BadWay.__init__" s_BadWay_init ["self", "way"]
  BadNumber : EA K mg "BadNumber" "number"
  BadNumber_init : EI K BadNumber.C "BadNumber.__init__" s_BadNumber_init ["self", "number"]
  BadChoices : EA K mg "BadChoices" "choices"
  BadChoices_init : EI K BadChoices.C "BadChoices.__init__" s_BadChoices_init ["self", "choices"]
  NoHalf : EA K mg "NoHalf" "place"
  NoHalf_init : EI K NoHalf.C "NoHalf.__init__" s_NoHalf_init ["self", "place"]
  PinThere : EA K mg "PinThere" "place"
  PinThere_init : EI K PinThere.C "PinThere.__init__" s_PinThere_init ["self", "place"]
  NoPin : EA K mg "NoPin" "place"
  NoPin_init : EI K NoPin.C "NoPin.__init__" s_NoPin_init ["self", "place"]
  BadEdit : EA K mg "BadEdit" "index"
  BadEdit_init : EI K BadEdit.C "BadEdit.__init__" s_BadEdit_init ["self", "index"]
  Rejected : EA K mg "Rejected" "index"
  Rejected_init : EI K Rejected.C "Rejected.__init__" s_Rejected_init ["self", "index"]
  NoPlace : EAL K mg "NoPlace" "place"
  NoPlace_init : EI K NoPlace.C "NoPlace.__init__" s_NoPlace_init ["self", "place"]
  NoVersion : EAL K mg "NoVersion" "version"
  NoVersion_init : EI K NoVersion.C "NoVersion.__init__" s_NoVersion_init ["self", "version"]
  lkI : PySem.W.findCls K (.type "LookupError") (.type "type") "__init__" = some (.val (.builtin "LookupError.__init__"))
  Busy : NA K mg "Busy"
  TooManyEdits : NA K mg "TooManyEdits"
  NothingToUndo : NA K mg "NothingToUndo"
  NothingToRedo : NA K mg "NothingToRedo"
  BadEdits : NA K mg "BadEdits"
  Unsure : EA2 K mg "Unsure" "number" "turns"
  Unsure_init : EI K Unsure.C "Unsure.__init__" s_Unsure_init ["self", "number", "turns"]
  lv_BadText : ExcK K BadText.C
  kd_BadText : ([.ref BadText.C, .ref BadProgram.C, .ref BadFix.C, .ref BadWay.C, .ref BadNumber.C, .ref BadChoices.C, .ref NoHalf.C, .ref PinThere.C, .ref NoPin.C, .ref Unsure.C, .ref Busy.C, .ref TooManyEdits.C, .ref NothingToUndo.C, .ref NothingToRedo.C, .ref BadEdits.C, .ref BadEdit.C, .ref Rejected.C, .ref NoPlace.C, .ref NoVersion.C, .ref HalfError.C, .type "LookupError", .type "ValueError"] : List Value).map (PySem.W.kitOne K (.ref BadText.C)) = ([true, false, false, false, false, false, false, false, false, false, false, false, false, false, false, false, false, false, false, true, false, true] : List Bool).map some
  lv_BadProgram : ExcK K BadProgram.C
  kd_BadProgram : ([.ref BadText.C, .ref BadProgram.C, .ref BadFix.C, .ref BadWay.C, .ref BadNumber.C, .ref BadChoices.C, .ref NoHalf.C, .ref PinThere.C, .ref NoPin.C, .ref Unsure.C, .ref Busy.C, .ref TooManyEdits.C, .ref NothingToUndo.C, .ref NothingToRedo.C, .ref BadEdits.C, .ref BadEdit.C, .ref Rejected.C, .ref NoPlace.C, .ref NoVersion.C, .ref HalfError.C, .type "LookupError", .type "ValueError"] : List Value).map (PySem.W.kitOne K (.ref BadProgram.C)) = ([false, true, false, false, false, false, false, false, false, false, false, false, false, false, false, false, false, false, false, true, false, true] : List Bool).map some
  lv_BadFix : ExcK K BadFix.C
  kd_BadFix : ([.ref BadText.C, .ref BadProgram.C, .ref BadFix.C, .ref BadWay.C, .ref BadNumber.C, .ref BadChoices.C, .ref NoHalf.C, .ref PinThere.C, .ref NoPin.C, .ref Unsure.C, .ref Busy.C, .ref TooManyEdits.C, .ref NothingToUndo.C, .ref NothingToRedo.C, .ref BadEdits.C, .ref BadEdit.C, .ref Rejected.C, .ref NoPlace.C, .ref NoVersion.C, .ref HalfError.C, .type "LookupError", .type "ValueError"] : List Value).map (PySem.W.kitOne K (.ref BadFix.C)) = ([false, false, true, false, false, false, false, false, false, false, false, false, false, false, false, false, false, false, false, true, false, true] : List Bool).map some
  lv_BadWay : ExcK K BadWay.C
  kd_BadWay : ([.ref BadText.C, .ref BadProgram.C, .ref BadFix.C, .ref BadWay.C, .ref BadNumber.C, .ref BadChoices.C, .ref NoHalf.C, .ref PinThere.C, .ref NoPin.C, .ref Unsure.C, .ref Busy.C, .ref TooManyEdits.C, .ref NothingToUndo.C, .ref NothingToRedo.C, .ref BadEdits.C, .ref BadEdit.C, .ref Rejected.C, .ref NoPlace.C, .ref NoVersion.C, .ref HalfError.C, .type "LookupError", .type "ValueError"] : List Value).map (PySem.W.kitOne K (.ref BadWay.C)) = ([false, false, false, true, false, false, false, false, false, false, false, false, false, false, false, false, false, false, false, true, false, true] : List Bool).map some
  lv_BadNumber : ExcK K BadNumber.C
  kd_BadNumber : ([.ref BadText.C, .ref BadProgram.C, .ref BadFix.C, .ref BadWay.C, .ref BadNumber.C, .ref BadChoices.C, .ref NoHalf.C, .ref PinThere.C, .ref NoPin.C, .ref Unsure.C, .ref Busy.C, .ref TooManyEdits.C, .ref NothingToUndo.C, .ref NothingToRedo.C, .ref BadEdits.C, .ref BadEdit.C, .ref Rejected.C, .ref NoPlace.C, .ref NoVersion.C, .ref HalfError.C, .type "LookupError", .type "ValueError"] : List Value).map (PySem.W.kitOne K (.ref BadNumber.C)) = ([false, false, false, false, true, false, false, false, false, false, false, false, false, false, false, false, false, false, false, true, false, true] : List Bool).map some
  lv_BadChoices : ExcK K BadChoices.C
  kd_BadChoices : ([.ref BadText.C, .ref BadProgram.C, .ref BadFix.C, .ref BadWay.C, .ref BadNumber.C, .ref BadChoices.C, .ref NoHalf.C, .ref PinThere.C, .ref NoPin.C, .ref Unsure.C, .ref Busy.C, .ref TooManyEdits.C, .ref NothingToUndo.C, .ref NothingToRedo.C, .ref BadEdits.C, .ref BadEdit.C, .ref Rejected.C, .ref NoPlace.C, .ref NoVersion.C, .ref HalfError.C, .type "LookupError", .type "ValueError"] : List Value).map (PySem.W.kitOne K (.ref BadChoices.C)) = ([false, false, false, false, false, true, false, false, false, false, false, false, false, false, false, false, false, false, false, true, false, true] : List Bool).map some
  lv_NoHalf : ExcK K NoHalf.C
  kd_NoHalf : ([.ref BadText.C, .ref BadProgram.C, .ref BadFix.C, .ref BadWay.C, .ref BadNumber.C, .ref BadChoices.C, .ref NoHalf.C, .ref PinThere.C, .ref NoPin.C, .ref Unsure.C, .ref Busy.C, .ref TooManyEdits.C, .ref NothingToUndo.C, .ref NothingToRedo.C, .ref BadEdits.C, .ref BadEdit.C, .ref Rejected.C, .ref NoPlace.C, .ref NoVersion.C, .ref HalfError.C, .type "LookupError", .type "ValueError"] : List Value).map (PySem.W.kitOne K (.ref NoHalf.C)) = ([false, false, false, false, false, false, true, false, false, false, false, false, false, false, false, false, false, false, false, true, false, true] : List Bool).map some
  lv_PinThere : ExcK K PinThere.C
  kd_PinThere : ([.ref BadText.C, .ref BadProgram.C, .ref BadFix.C, .ref BadWay.C, .ref BadNumber.C, .ref BadChoices.C, .ref NoHalf.C, .ref PinThere.C, .ref NoPin.C, .ref Unsure.C, .ref Busy.C, .ref TooManyEdits.C, .ref NothingToUndo.C, .ref NothingToRedo.C, .ref BadEdits.C, .ref BadEdit.C, .ref Rejected.C, .ref NoPlace.C, .ref NoVersion.C, .ref HalfError.C, .type "LookupError", .type "ValueError"] : List Value).map (PySem.W.kitOne K (.ref PinThere.C)) = ([false, false, false, false, false, false, false, true, false, false, false, false, false, false, false, false, false, false, false, true, false, true] : List Bool).map some
  lv_NoPin : ExcK K NoPin.C
  kd_NoPin : ([.ref BadText.C, .ref BadProgram.C, .ref BadFix.C, .ref BadWay.C, .ref BadNumber.C, .ref BadChoices.C, .ref NoHalf.C, .ref PinThere.C, .ref NoPin.C, .ref Unsure.C, .ref Busy.C, .ref TooManyEdits.C, .ref NothingToUndo.C, .ref NothingToRedo.C, .ref BadEdits.C, .ref BadEdit.C, .ref Rejected.C, .ref NoPlace.C, .ref NoVersion.C, .ref HalfError.C, .type "LookupError", .type "ValueError"] : List Value).map (PySem.W.kitOne K (.ref NoPin.C)) = ([false, false, false, false, false, false, false, false, true, false, false, false, false, false, false, false, false, false, false, true, false, true] : List Bool).map some
  lv_Unsure : ExcK K Unsure.C
  kd_Unsure : ([.ref BadText.C, .ref BadProgram.C, .ref BadFix.C, .ref BadWay.C, .ref BadNumber.C, .ref BadChoices.C, .ref NoHalf.C, .ref PinThere.C, .ref NoPin.C, .ref Unsure.C, .ref Busy.C, .ref TooManyEdits.C, .ref NothingToUndo.C, .ref NothingToRedo.C, .ref BadEdits.C, .ref BadEdit.C, .ref Rejected.C, .ref NoPlace.C, .ref NoVersion.C, .ref HalfError.C, .type "LookupError", .type "ValueError"] : List Value).map (PySem.W.kitOne K (.ref Unsure.C)) = ([false, false, false, false, false, false, false, false, false, true, false, false, false, false, false, false, false, false, false, true, false, true] : List Bool).map some
  lv_Busy : ExcK K Busy.C
  kd_Busy : ([.ref BadText.C, .ref BadProgram.C, .ref BadFix.C, .ref BadWay.C, .ref BadNumber.C, .ref BadChoices.C, .ref NoHalf.C, .ref PinThere.C, .ref NoPin.C, .ref Unsure.C, .ref Busy.C, .ref TooManyEdits.C, .ref NothingToUndo.C, .ref NothingToRedo.C, .ref BadEdits.C, .ref BadEdit.C, .ref Rejected.C, .ref NoPlace.C, .ref NoVersion.C, .ref HalfError.C, .type "LookupError", .type "ValueError"] : List Value).map (PySem.W.kitOne K (.ref Busy.C)) = ([false, false, false, false, false, false, false, false, false, false, true, false, false, false, false, false, false, false, false, true, false, true] : List Bool).map some
  lv_TooManyEdits : ExcK K TooManyEdits.C
  kd_TooManyEdits : ([.ref BadText.C, .ref BadProgram.C, .ref BadFix.C, .ref BadWay.C, .ref BadNumber.C, .ref BadChoices.C, .ref NoHalf.C, .ref PinThere.C, .ref NoPin.C, .ref Unsure.C, .ref Busy.C, .ref TooManyEdits.C, .ref NothingToUndo.C, .ref NothingToRedo.C, .ref BadEdits.C, .ref BadEdit.C, .ref Rejected.C, .ref NoPlace.C, .ref NoVersion.C, .ref HalfError.C, .type "LookupError", .type "ValueError"] : List Value).map (PySem.W.kitOne K (.ref TooManyEdits.C)) = ([false, false, false, false, false, false, false, false, false, false, false, true, false, false, false, false, false, false, false, true, false, true] : List Bool).map some
  lv_NothingToUndo : ExcK K NothingToUndo.C
  kd_NothingToUndo : ([.ref BadText.C, .ref BadProgram.C, .ref BadFix.C, .ref BadWay.C, .ref BadNumber.C, .ref BadChoices.C, .ref NoHalf.C, .ref PinThere.C, .ref NoPin.C, .ref Unsure.C, .ref Busy.C, .ref TooManyEdits.C, .ref NothingToUndo.C, .ref NothingToRedo.C, .ref BadEdits.C, .ref BadEdit.C, .ref Rejected.C, .ref NoPlace.C, .ref NoVersion.C, .ref HalfError.C, .type "LookupError", .type "ValueError"] : List Value).map (PySem.W.kitOne K (.ref NothingToUndo.C)) = ([false, false, false, false, false, false, false, false, false, false, false, false, true, false, false, false, false, false, false, true, false, true] : List Bool).map some
  lv_NothingToRedo : ExcK K NothingToRedo.C
  kd_NothingToRedo : ([.ref BadText.C, .ref BadProgram.C, .ref BadFix.C, .ref BadWay.C, .ref BadNumber.C, .ref BadChoices.C, .ref NoHalf.C, .ref PinThere.C, .ref NoPin.C, .ref Unsure.C, .ref Busy.C, .ref TooManyEdits.C, .ref NothingToUndo.C, .ref NothingToRedo.C, .ref BadEdits.C, .ref BadEdit.C, .ref Rejected.C, .ref NoPlace.C, .ref NoVersion.C, .ref HalfError.C, .type "LookupError", .type "ValueError"] : List Value).map (PySem.W.kitOne K (.ref NothingToRedo.C)) = ([false, false, false, false, false, false, false, false, false, false, false, false, false, true, false, false, false, false, false, true, false, true] : List Bool).map some
  lv_BadEdits : ExcK K BadEdits.C
  kd_BadEdits : ([.ref BadText.C, .ref BadProgram.C, .ref BadFix.C, .ref BadWay.C, .ref BadNumber.C, .ref BadChoices.C, .ref NoHalf.C, .ref PinThere.C, .ref NoPin.C, .ref Unsure.C, .ref Busy.C, .ref TooManyEdits.C, .ref NothingToUndo.C, .ref NothingToRedo.C, .ref BadEdits.C, .ref BadEdit.C, .ref Rejected.C, .ref NoPlace.C, .ref NoVersion.C, .ref HalfError.C, .type "LookupError", .type "ValueError"] : List Value).map (PySem.W.kitOne K (.ref BadEdits.C)) = ([false, false, false, false, false, false, false, false, false, false, false, false, false, false, true, false, false, false, false, true, false, true] : List Bool).map some
  lv_BadEdit : ExcK K BadEdit.C
  kd_BadEdit : ([.ref BadText.C, .ref BadProgram.C, .ref BadFix.C, .ref BadWay.C, .ref BadNumber.C, .ref BadChoices.C, .ref NoHalf.C, .ref PinThere.C, .ref NoPin.C, .ref Unsure.C, .ref Busy.C, .ref TooManyEdits.C, .ref NothingToUndo.C, .ref NothingToRedo.C, .ref BadEdits.C, .ref BadEdit.C, .ref Rejected.C, .ref NoPlace.C, .ref NoVersion.C, .ref HalfError.C, .type "LookupError", .type "ValueError"] : List Value).map (PySem.W.kitOne K (.ref BadEdit.C)) = ([false, false, false, false, false, false, false, false, false, false, false, false, false, false, false, true, false, false, false, true, false, true] : List Bool).map some
  lv_Rejected : ExcK K Rejected.C
  kd_Rejected : ([.ref BadText.C, .ref BadProgram.C, .ref BadFix.C, .ref BadWay.C, .ref BadNumber.C, .ref BadChoices.C, .ref NoHalf.C, .ref PinThere.C, .ref NoPin.C, .ref Unsure.C, .ref Busy.C, .ref TooManyEdits.C, .ref NothingToUndo.C, .ref NothingToRedo.C, .ref BadEdits.C, .ref BadEdit.C, .ref Rejected.C, .ref NoPlace.C, .ref NoVersion.C, .ref HalfError.C, .type "LookupError", .type "ValueError"] : List Value).map (PySem.W.kitOne K (.ref Rejected.C)) = ([false, false, false, false, false, false, false, false, false, false, false, false, false, false, false, false, true, false, false, true, false, true] : List Bool).map some
  lv_NoPlace : ExcK K NoPlace.C
  kd_NoPlace : ([.ref BadText.C, .ref BadProgram.C, .ref BadFix.C, .ref BadWay.C, .ref BadNumber.C, .ref BadChoices.C, .ref NoHalf.C, .ref PinThere.C, .ref NoPin.C, .ref Unsure.C, .ref Busy.C, .ref TooManyEdits.C, .ref NothingToUndo.C, .ref NothingToRedo.C, .ref BadEdits.C, .ref BadEdit.C, .ref Rejected.C, .ref NoPlace.C, .ref NoVersion.C, .ref HalfError.C, .type "LookupError", .type "ValueError"] : List Value).map (PySem.W.kitOne K (.ref NoPlace.C)) = ([false, false, false, false, false, false, false, false, false, false, false, false, false, false, false, false, false, true, false, false, true, false] : List Bool).map some
  lv_NoVersion : ExcK K NoVersion.C
  kd_NoVersion : ([.ref BadText.C, .ref BadProgram.C, .ref BadFix.C, .ref BadWay.C, .ref BadNumber.C, .ref BadChoices.C, .ref NoHalf.C, .ref PinThere.C, .ref NoPin.C, .ref Unsure.C, .ref Busy.C, .ref TooManyEdits.C, .ref NothingToUndo.C, .ref NothingToRedo.C, .ref BadEdits.C, .ref BadEdit.C, .ref Rejected.C, .ref NoPlace.C, .ref NoVersion.C, .ref HalfError.C, .type "LookupError", .type "ValueError"] : List Value).map (PySem.W.kitOne K (.ref NoVersion.C)) = ([false, false, false, false, false, false, false, false, false, false, false, false, false, false, false, false, false, false, true, false, true, false] : List Bool).map some
  lv_HalfError : ExcK K HalfError.C
  kd_HalfError : ([.ref BadText.C, .ref BadProgram.C, .ref BadFix.C, .ref BadWay.C, .ref BadNumber.C, .ref BadChoices.C, .ref NoHalf.C, .ref PinThere.C, .ref NoPin.C, .ref Unsure.C, .ref Busy.C, .ref TooManyEdits.C, .ref NothingToUndo.C, .ref NothingToRedo.C, .ref BadEdits.C, .ref BadEdit.C, .ref Rejected.C, .ref NoPlace.C, .ref NoVersion.C, .ref HalfError.C, .type "LookupError", .type "ValueError"] : List Value).map (PySem.W.kitOne K (.ref HalfError.C)) = ([false, false, false, false, false, false, false, false, false, false, false, false, false, false, false, false, false, false, false, true, false, true] : List Bool).map some
  hn_HalfError : ErrN K HalfError.C
  cB_Bench : Addr
  gB_Bench : mg "Bench" = some (.ref cB_Bench)
  mo_Bench : ClsNum K cB_Bench "MOST_EDITS" 60
  cB_SureBench : Addr
  gB_SureBench : mg "SureBench" = some (.ref cB_SureBench)
  mo_SureBench : ClsNum K cB_SureBench "MOST_EDITS" 60
  t_MAX_NAME : Tok
  g_MAX_NAME : mg "MAX_NAME" = some (.int 8 t_MAX_NAME)
  t_MAX_WORD : Tok
  g_MAX_WORD : mg "MAX_WORD" = some (.int 8 t_MAX_WORD)
  t_MAX_TIMES : Tok
  g_MAX_TIMES : mg "MAX_TIMES" = some (.int 8 t_MAX_TIMES)
  t_MAX_DEEP : Tok
  g_MAX_DEEP : mg "MAX_DEEP" = some (.int 3 t_MAX_DEEP)
  t_MAX_NOTS : Tok
  g_MAX_NOTS : mg "MAX_NOTS" = some (.int 2 t_MAX_NOTS)
  t_MAX_PLACES : Tok
  g_MAX_PLACES : mg "MAX_PLACES" = some (.int 24 t_MAX_PLACES)
  t_MAX_WEIGHT : Tok
  g_MAX_WEIGHT : mg "MAX_WEIGHT" = some (.int 60 t_MAX_WEIGHT)
  t_MAX_HALVINGS : Tok
  g_MAX_HALVINGS : mg "MAX_HALVINGS" = some (.int 4 t_MAX_HALVINGS)
  t_MAX_COMPARINGS : Tok
  g_MAX_COMPARINGS : mg "MAX_COMPARINGS" = some (.int 3 t_MAX_COMPARINGS)
  t_MAX_NEST : Tok
  g_MAX_NEST : mg "MAX_NEST" = some (.int 3 t_MAX_NEST)
  t_MAX_POWER : Tok
  g_MAX_POWER : mg "MAX_POWER" = some (.int 40 t_MAX_POWER)
  t_MAX_EDITS : Tok
  g_MAX_EDITS : mg "MAX_EDITS" = some (.int 60 t_MAX_EDITS)
  t_BATCH : Tok
  g_BATCH : mg "BATCH" = some (.int 20 t_BATCH)
  t_LETTERS : Tok
  g_LETTERS : mg "LETTERS" = some (.str "abcdefghijklmnopqrstuvwxyz" t_LETTERS)
  t_SIGNS : Tok
  g_SIGNS : mg "SIGNS" = some (.str "abcdefghijklmnopqrstuvwxyz0123456789" t_SIGNS)
  t_MOST_NUMBER : Tok
  g_MOST_NUMBER : mg "MOST_NUMBER" = some (.int 99 t_MOST_NUMBER)
  t_MOST_FACTOR : Tok
  g_MOST_FACTOR : mg "MOST_FACTOR" = some (.int 9 t_MOST_FACTOR)
  t_DOWN : Tok
  g_DOWN : mg "DOWN" = some (.int 0 t_DOWN)
  t_INPUT : Tok
  g_INPUT : mg "INPUT" = some (.str "n" t_INPUT)
  KEPT : Addr
  g_KEPT : mg "KEPT" = some (.ref KEPT)
  q_KEPT : ∀ H, SqT K H KEPT [.str "half", .str "tell", .str "say", .str "stop", .str "if", .str "else", .str "repeat", .str "pass", .str "odd", .str "not", .str "program"]
  WAYS_benchedits : Addr
  g_WAYS_benchedits : mg "WAYS_benchedits" = some (.ref WAYS_benchedits)
  q_WAYS_benchedits : ∀ H, SqT K H WAYS_benchedits [.str "down", .str "up"]
  FREE : Addr
  g_FREE : mg "FREE" = some (.ref FREE)
  q_FREE : ∀ H, SqT K H FREE []
  WHOLE : Addr
  g_WHOLE : mg "WHOLE" = some (.ref WHOLE)
  q_WHOLE : ∀ H, SqT K H WHOLE [.int (0), .int (1), .non, .non]
  WAYS_fixes : Addr
  g_WAYS_fixes : mg "WAYS_fixes" = some (.ref WAYS_fixes)
  q_WAYS_fixes : ∀ H, SqT K H WAYS_fixes [.str "down", .str "up"]
  w_WAYS_fixes : ∃ o, K.lookup WAYS_fixes = some o ∧ o.cls = .type "tuple" ∧ o.dict = none
  LookupError : mg "LookupError" = none
  ValueError : mg "ValueError" = none
  abs : mg "abs" = none
  int : mg "int" = none
  isinstance : mg "isinstance" = none
  len : mg "len" = none
  range : mg "range" = none
  repr : mg "repr" = none
  str : mg "str" = none
end EH
namespace EH
open PySem L2
local macro_rules | `(tactic| walk_at "sd") => `(tactic| first | assumption | ((with_reducible show (_ : Int) ≤ _); omega) | ((with_reducible show (_ : Int) < _); omega) | rfl | exact SqL.of (by assumption) | exact SqT.of (by assumption) | exact atI_nat (j := 0) rfl | exact atI_nat (j := 1) rfl | exact atI_nat (j := 2) rfl | exact atI_nat (j := 3) rfl | exact sz_lit rfl | exact lt_lit rfl | exact pos_lit rfl | exact le_lit rfl | exact Or.inl (SqL.of (by assumption)) | exact ⟨_, SqL.of (by assumption)⟩ | exact ⟨_, SqT.of (by assumption)⟩ | exact Or.inr (SqT.of (by assumption)) | exact ClsV.ty _ | exact TyX.base (TyOf.int _) | exact TyX.base (TyOf.str _) | exact TyX.base (TyOf.tup (by assumption)) | exact kit_ty isi_ss | exact kit_ty isi_is | exact kit_ty isi_ts | exact kit_ty isi_si | exact kit_ty isi_ii | exact kit_ty isi_ti | exact kit_ty isi_st | exact kit_ty isi_it | exact kit_ty isi_tt | exact Or.inl ⟨_, Or.inl (by assumption)⟩ | exact DGet.k (k := Sum.inr _) (by assumption) | exact DGet.k (k := Sum.inl _) (by assumption) | (refine cpow_of ?_; decide) | (refine cmul_of ?_; decide) | (show (_ : Int) ≠ 0; first | decide | omega) | (refine cdivn_of ?_; decide) | exact Or.inl ⟨rfl, _, SqL.of (by assumption)⟩ | omega)
local macro_rules | `(tactic| walk_at "st") => `(tactic| first | (apply Exists.intro) | (refine And.intro ?_ ?_; focus (walk_at "sd")) | (apply Or.inl; apply Exists.intro; refine And.intro ?_ ?_; focus rfl) | (apply Or.inr; apply Exists.intro; refine And.intro ?_ ?_; focus rfl))
local macro_rules | `(tactic| walk_at "go") => `(tactic| repeat (walk_at "st"))
section
variable {P : Program} {w : World} {K : PySem.W.Frag} {mg : Str → Option Value} {base : Heap}
theorem ok_l_draw (T : Top K mg) {k : Nat} : FnOk P w K mg base CX0 (k + 1) T.l_draw.f T.l_draw.fd ["_law_deck_here", "_law_many"] spDraw := by
  refine T.l_draw.F.ok sc_l_draw (fun vs H Q E h => ?_) (fun cdv A outer s H vs Q E hr h => ?_)
  · obtain ⟨a, c, n, many, rfl, _⟩ := h
    rfl
  obtain ⟨a, c, n, many, rfl, hD, hn, hm, hm2, q⟩ := h
  refine ⟨_, (pss_cons (ps_asg (pe_op op_add (pe_ix (ix_listK (K := K) rfl) (pv 0) pe_int (fun _ _ => rfl)) pe_int) (pg_sub (pv 0) pe_int set_listA))
      (pss_cons (ps_asg (pe_tupA (pa_cons pe_int (pa_cons (pe_un un_neg pe_int) pa_nil))) (pg_tup (by rfl) (pgs_cons (pg_name (i := 2) sc_l_draw.nd rfl (.inl rfl)) (pgs_cons (pg_name (i := 3) sc_l_draw.nd rfl (.inl rfl)) pgs_nil))))
      (pss_cons (ps_if (pt_cmpR op_gt (pe_callB (id := "len") (call_lenK (K := K) rfl) (by rfl) T.len PySem.boot_len (pa_cons (pe_ix (ix_listK (K := K) rfl) (pv 0) pe_int (fun _ _ => rfl)) pa_nil)) pe_int (nomark _)) (pss_cons (ps_set (i := 3) sc_l_draw.nd rfl (.inl rfl) (pe_op op_modN (pe_callTy (T := "int") call_int1 (by rfl) T.int (by decide +kernel) (pa_cons (pe_ix (ix_listK (K := K) rfl) (pv 0) pe_int (fun _ _ => rfl)) pa_nil)) (pe_callB (id := "len") (call_lenK (K := K) rfl) (by rfl) T.len PySem.boot_len (pa_cons (pe_ix (ix_listK (K := K) rfl) (pv 0) pe_int (fun _ _ => rfl)) pa_nil))))
      (pss_one (ps_set (i := 2) sc_l_draw.nd rfl (.inl rfl) (pe_ix (ix_listK (K := K) rfl) (pe_ix (ix_listK (K := K) rfl) (pv 0) pe_int (fun _ _ => rfl)) (pv 3) (fun _ _ => rfl))))) pss_nil)
      (pss_cons (ps_if (pt_cmpR op_ge (pv 2) (pe_op op_pow pe_int pe_int) (nomark _)) (pss_cons (ps_asg (pe_op op_fdivW (pe_callTy (T := "int") call_int1 (by rfl) T.int (by decide +kernel) (pa_cons (pv 2) pa_nil)) (pv 1)) (pg_sub (pe_ix (ix_listK (K := K) rfl) (pv 0) pe_int (fun _ _ => rfl)) (pv 3) set_listA))
      (pss_one (ps_ret (pe_op op_modN (pe_callTy (T := "int") call_int1 (by rfl) T.int (by decide +kernel) (pa_cons (pv 2) pa_nil)) (pv 1))))) pss_nil)
      (pss_cons (ps_set (i := 4) sc_l_draw.nd rfl (.inl rfl) (pe_op op_add (pe_op op_add (pe_op op_modN (pe_callTy (T := "int") call_int1 (by rfl) T.int (by decide +kernel) (pa_cons (pv 2) pa_nil)) pe_int) (pe_op op_mul pe_int (pe_ix (ix_listK (K := K) rfl) (pv 0) pe_int (fun _ _ => rfl)))) pe_int))
      (pss_one (ps_ret (pe_op op_modN (pe_callTy (T := "int") call_int1 (by rfl) T.int (by decide +kernel) (pa_cons (pe_op op_modN (pe_callTy (T := "int") call_int1 (by rfl) T.int (by decide +kernel) (pa_cons (pe_op op_pow (pv 4) pe_int) pa_nil)) pe_int) pa_nil)) (pv 1))))))))), ?_⟩
  obtain ⟨cs, h1, h2, ok⟩ := hD.ex
  have hn1 : n ≤ 1000000000 := hn
  have nac : a ≠ c := hD.ne
  walk_at "go"
  intro H1 g1 k1
  replace g1 : H1 a = some (.lst [V.ref c, V.int (n + 1)]) := g1
  walk_at "go"
  intro t H2 ht e2
  have g2 := new_at e2
  have k2 := new_kp ht e2
  have a2 := k2.at g1
  have c1 := k1.keep _ _ h2 (ne1 nac.symm)
  have c2 := k2.at c1
  clear e2
  walk_at "go"
  have len1 : ((cs.map V.int).length : Int) = (cs.length : Int) := by rw [List.length_map]
  have l63 := ok.len
  have n0 := ok.n0
  refine ite2 (fun hc => ?_) (fun hc => ?_)
  · have hc1 : (0 : Int) < ((cs.map V.int).length : Int) := of_decide_eq_true hc
    have f0 := Int.fmod_nonneg_of_pos (a := n + 1) hc1
    have f1 := Int.fmod_lt_of_pos (a := n + 1) hc1
    obtain ⟨v, hv, vm⟩ := atI_mem f0 f1
    obtain ⟨x, xm, rfl⟩ := List.mem_map.mp vm
    have x0 := ok.pos x xm
    walk_at "go"
    refine ite2 (fun hd => ?_) (fun hd => ?_)
    · walk_at "go"
      refine ⟨⟨hm, Nat.lt_of_lt_of_le (PySem.Flt.log2_lt_of (by decide) hm2) (by decide)⟩, ?_⟩
      walk_at "go"
      refine ⟨ixN_nat f0 f1, ?_⟩
      intro H3 g3 k3
      walk_at "go"
      refine q _ H3 (Int.fmod_nonneg_of_pos _ hm) (Int.fmod_lt_of_pos _ hm) ⟨cs.set ((n + 1).fmod ((cs.map V.int).length : Int)).toNat (x / many), k3.keep _ _ a2 (ne1 nac), ?_, ?_, ?_, by omega⟩ ((((Kp.refl.step1 k1 (.inl (by simp))).step0 k2)).step1 k3 (.inl (by simp)))
      · rw [g3, List.map_set]
      · rw [List.length_set]
        exact l63
      · intro y hy
        rcases List.mem_or_eq_of_mem_set hy with hy | rfl
        · exact ok.pos y hy
        · exact Int.ediv_nonneg x0 (Int.le_of_lt hm)
    · walk_at "go"
      have m0 := Int.fmod_nonneg_of_pos x (b := 2147483563) (by decide)
      have m1 := Int.fmod_lt_of_pos x (b := 2147483563) (by decide)
      refine ⟨⟨by decide, by decide, ?_⟩, ?_⟩
      · show (x.fmod 2147483563 + 8117 * (n + 1) + 3).natAbs < 2 ^ 64
        have e : (2 : Nat) ^ 64 = 18446744073709551616 := by decide
        rw [e]
        omega
      walk_at "go"
      exact q _ H2 (Int.fmod_nonneg_of_pos _ hm) (Int.fmod_lt_of_pos _ hm) ⟨cs, a2, c2, l63, ok.pos, by omega⟩ ((Kp.refl.step1 k1 (.inl (by simp))).step0 k2)
  · walk_at "go"
    refine ⟨⟨by decide, by decide, ?_⟩, ?_⟩
    · show ((0 : Int).fmod 2147483563 + 8117 * (n + 1) + 3).natAbs < 2 ^ 64
      have e : (2 : Nat) ^ 64 = 18446744073709551616 := by decide
      have e2 : (0 : Int).fmod 2147483563 = 0 := by decide
      rw [e, e2]
      omega
    walk_at "go"
    exact q _ H2 (Int.fmod_nonneg_of_pos _ hm) (Int.fmod_lt_of_pos _ hm) ⟨cs, a2, c2, l63, ok.pos, by omega⟩ ((Kp.refl.step1 k1 (.inl (by simp))).step0 k2)
theorem ok_l_one2 (T : Top K mg) {k : Nat} : FnOk P w K mg base CX0 (k + 2) T.l_one.f T.l_one.fd ["_law_deck_here", "_law_items"] (spOne2 K) := by
  have G_l_draw : FnOk P w K mg base CX0 (k + 1) T.l_draw.f T.l_draw.fd ["_law_deck_here", "_law_many"] spDraw := ok_l_draw T
  refine T.l_one.F.ok sc_l_one (fun vs H Q E h => ?_) (fun cdv A outer s H vs Q E hr h => ?_)
  · rcases h with ⟨a, c, l, n, xs, rfl, _⟩ | ⟨a, c, n, z, rfl, _⟩ <;> rfl
  refine ⟨_, (pss_one (ps_ret (pe_ix (IxR.or (ix_listK (K := K) rfl) ix_str) (pv 1) (pe_call G_l_draw (hr.mono (by omega)) (by rfl) T.l_draw.g T.l_draw.F.kp T.l_draw.b .nil pass0 (pa_cons (pv 0) (pa_cons (pe_callB (id := "len") (CallR.or (call_lenK (K := K) rfl) call_len_str) (by rfl) T.len PySem.boot_len (pa_cons (pv 1) pa_nil)) pa_nil))) (fun _ _ => rfl)))), ?_⟩
  rcases h with ⟨a, c, l, n, xs, rfl, hD, hn, hS, hl, h0, hz, q⟩ | ⟨a, c, n, z, rfl, hD, hn, h0, hz, q⟩
  · refine ⟨_, rfl, _, rfl, _, rfl, .inl ⟨l, xs, rfl, .inl hS, a, c, n, _, rfl, hD, hn, by omega, pow1000 hz, fun r H1 r0 r1 D1 k1 => ?_⟩⟩
    obtain ⟨v, hv, vm⟩ := atI_mem r0 r1
    exact .inl ⟨l, xs, _, _, rfl, rfl, k1.seq hS hl, hv, q _ H1 vm D1 k1⟩
  · refine ⟨_, rfl, _, rfl, _, rfl, .inr ⟨z, rfl, sz_le hz, a, c, n, _, rfl, hD, hn, by omega, pow1000 hz, fun r H1 r0 r1 D1 k1 => ?_⟩⟩
    have r2 : r < (z.cps.toList.length : Int) := by rw [Array.length_toList]; exact r1
    obtain ⟨v, hv, vm⟩ := atI_mem r0 r2
    exact .inr ⟨z, _, v, rfl, rfl, sz_le hz, hv, q _ H1 vm D1 k1⟩
theorem ok_l_one (T : Top K mg) {k : Nat} : FnOk P w K mg base CX0 (k + 2) T.l_one.f T.l_one.fd ["_law_deck_here", "_law_items"] (spOne K) := (ok_l_one2 T).imp fun _ _ _ _ h => .inl h
end
section
variable {P : Program} {w : World} {K : PySem.W.Frag} {mg : Str → Option Value} {base : Heap}
theorem ok_l_deck (T : Top K mg) {k : Nat} : FnOk P w K mg base CX0 (k + 1) T.l_deck.f T.l_deck.fd ["_law_script"] (spDeck K) := by
  refine T.l_deck.F.ok sc_l_deck (fun vs H Q E h => ?_) (fun cdv A outer s H vs Q E hr h => ?_)
  · obtain ⟨a, ns, rfl, _⟩ := h
    rfl
  obtain ⟨a, ns, rfl, hS, hl, q⟩ := h
  refine ⟨_, (pss_one (ps_ret (pe_lstA (pa_cons (pe_lc (own := [("_law_cell", 1)]) (by rfl) sc_l_deck.nd (pi_listK (K := K) rfl (pe_slice (sl_listK (K := K) rfl) (pv 0) po_none (po_some pe_int))) (blkOk_by (N := ["_law_script", "_law_cell"]) (sc := defScope s_l_deck) (own := [("_law_cell", 1)]) (by decide +kernel)) (fun _ _ _ _ _ => (pg_name (i := 1) sc_l_deck.nd rfl (.inl rfl))) (fun _ _ _ _ _ => pts_nil) (fun _ _ _ _ _ => (pe_callB (id := "abs") call_abs (by rfl) T.abs (by decide +kernel) (pa_cons (pv 1) pa_nil)))) (pa_cons pe_int pa_nil))))), ?_⟩
  have hc : cutV (ns.map V.int) none (some 63) = ns.map V.int := by
    apply cutV_whole
    refine ⟨rfl, ?_⟩
    show HT.sIx _ _ (some ((63 : Nat) : Int)) = _
    rw [HT.sIx_nat, List.length_map]
    omega
  walk_at "go"
  intro p H1 hp g1 k1
  rw [hc] at g1
  refine ⟨p, rfl, ⟨_, SqL.of g1⟩, fun D hD => ?_⟩
  refine lc_list (K := K) (a := p) (xs := ns.map V.int) (fun i H2 => Kp [D] H1 H2 ∧ H2 D = some (.lst ((ns.take i).map fun x => V.int (if x < 0 then -x else x)))) ⟨(Kp.new hD).sub (by simp), upd_same⟩ ?_ ?_ ?_
  · rintro i H2 _ ⟨k2, _⟩
    exact SqL.of (k2.keep _ _ g1 (ne1 (ne_of_none g1 hD)))
  · rintro i x H2 hx ⟨k2, d2⟩
    rw [List.getElem?_map] at hx
    cases e : ns[i]? with
    | none => rw [e] at hx; cases hx
    | some z =>
      rw [e] at hx
      cases hx
      have hz : (List.map (fun x => V.int (if x < 0 then -x else x)) (List.take i ns)).length < sizeLine := by
        rw [List.length_map, List.length_take]
        exact sz_lt (by omega)
      walk_at "go"
      refine ⟨k2.step1 (Kp.put d2 (fun _ y => by cases y)) (.inl (by simp)), ?_⟩
      rw [upd_same, List.take_add_one, e, List.map_append]
      rfl
  · rintro H2 ⟨k2, d2⟩
    rw [List.length_map, List.take_length] at d2
    walk_at "go"
    intro r H3 hr3 e3
    have k3 := new_kp hr3 e3
    have k4 : Kp [] H H3 := ((k1.step1 k2 (.inr (k1.free hD (by simp)))).step0 k3)
    refine q r D H3 (((k1.step1 k2 (.inr (k1.free hD (by simp))))).free hr3 (by simp)) (k1.free hD (by simp)) k4 ⟨⟨ns.map fun x => if x < 0 then -x else x, new_at e3, ?_, ?_, ?_, by decide⟩⟩
    · rw [k3.at d2, List.map_map]
      rfl
    · rw [List.length_map]
      exact hl
    · intro x hx
      obtain ⟨y, _, rfl⟩ := List.mem_map.mp hx
      split <;> omega
end
section
variable {P : Program} {w : World} {K : PySem.W.Frag} {mg : Str → Option Value} {base : Heap}
theorem ok_BadText_init (T : Top K mg) {k : Nat} : FnOk P w K mg base CX0 (k + 1) T.BadText_init.f T.BadText_init.fd ["self", "line"] (spErrI T.BadText.C "line") := by
  refine T.BadText_init.F.ok sc_BadText_init (fun vs H Q E h => ?_) (fun cdv A outer s H vs Q E hr h => ?_)
  · obtain ⟨a, v, rfl, _⟩ := h
    rfl
  obtain ⟨a, v, rfl, ha, q⟩ := h
  refine ⟨_, (pss_cons (ps_expr (pe_heinitK (K := K) rfl (by rfl) T.HalfError.g T.HalfError.B (pa_cons (pv 0) (pa_cons pe_str pa_nil))))
      (pss_one (ps_ostK (K := K) rfl (pv 0) (pv 1)))), ?_⟩
  have T1 := T.BadText.E.ox
  have T2 := T.BadText.E.noN
  walk_at "go"
  exact .inl ⟨ha, q⟩
theorem ok_BadProgram_init (T : Top K mg) {k : Nat} : FnOk P w K mg base CX0 (k + 1) T.BadProgram_init.f T.BadProgram_init.fd ["self", "error"] (spErrI T.BadProgram.C "error") := by
  refine T.BadProgram_init.F.ok sc_BadProgram_init (fun vs H Q E h => ?_) (fun cdv A outer s H vs Q E hr h => ?_)
  · obtain ⟨a, v, rfl, _⟩ := h
    rfl
  obtain ⟨a, v, rfl, ha, q⟩ := h
  refine ⟨_, (pss_cons (ps_expr (pe_heinitK (K := K) rfl (by rfl) T.HalfError.g T.HalfError.B (pa_cons (pv 0) (pa_cons pe_str pa_nil))))
      (pss_one (ps_ostK (K := K) rfl (pv 0) (pv 1)))), ?_⟩
  have T1 := T.BadProgram.E.ox
  have T2 := T.BadProgram.E.noN
  walk_at "go"
  exact .inl ⟨ha, q⟩
theorem ok_BadFix_init (T : Top K mg) {k : Nat} : FnOk P w K mg base CX0 (k + 1) T.BadFix_init.f T.BadFix_init.fd ["self", "value"] (spErrI T.BadFix.C "value") := by
  refine T.BadFix_init.F.ok sc_BadFix_init (fun vs H Q E h => ?_) (fun cdv A outer s H vs Q E hr h => ?_)
  · obtain ⟨a, v, rfl, _⟩ := h
    rfl
  obtain ⟨a, v, rfl, ha, q⟩ := h
  refine ⟨_, (pss_cons (ps_expr (pe_heinitK (K := K) rfl (by rfl) T.HalfError.g T.HalfError.B (pa_cons (pv 0) (pa_cons pe_str pa_nil))))
      (pss_one (ps_ostK (K := K) rfl (pv 0) (pv 1)))), ?_⟩
  have T1 := T.BadFix.E.ox
  have T2 := T.BadFix.E.noN
  walk_at "go"
  exact .inl ⟨ha, q⟩
theorem ok_BadWay_init (T : Top K mg) {k : Nat} : FnOk P w K mg base CX0 (k + 1) T.BadWay_init.f T.BadWay_init.fd ["self", "way"] (spErrI T.BadWay.C "way") := by
  refine T.BadWay_init.F.ok sc_BadWay_init (fun vs H Q E h => ?_) (fun cdv A outer s H vs Q E hr h => ?_)
  · obtain ⟨a, v, rfl, _⟩ := h
    rfl
  obtain ⟨a, v, rfl, ha, q⟩ := h
  refine ⟨_, (pss_cons (ps_expr (pe_heinitK (K := K) rfl (by rfl) T.HalfError.g T.HalfError.B (pa_cons (pv 0) (pa_cons pe_str pa_nil))))
      (pss_one (ps_ostK (K := K) rfl (pv 0) (pv 1)))), ?_⟩
  have T1 := T.BadWay.E.ox
  have T2 := T.BadWay.E.noN
  walk_at "go"
  exact .inl ⟨ha, q⟩
theorem ok_BadNumber_init (T : Top K mg) {k : Nat} : FnOk P w K mg base CX0 (k + 1) T.BadNumber_init.f T.BadNumber_init.fd ["self", "number"] (spErrI T.BadNumber.C "number") := by
  refine T.BadNumber_init.F.ok sc_BadNumber_init (fun vs H Q E h => ?_) (fun cdv A outer s H vs Q E hr h => ?_)
  · obtain ⟨a, v, rfl, _⟩ := h
    rfl
  obtain ⟨a, v, rfl, ha, q⟩ := h
  refine ⟨_, (pss_cons (ps_expr (pe_heinitK (K := K) rfl (by rfl) T.HalfError.g T.HalfError.B (pa_cons (pv 0) (pa_cons pe_str pa_nil))))
      (pss_one (ps_ostK (K := K) rfl (pv 0) (pv 1)))), ?_⟩
  have T1 := T.BadNumber.E.ox
  have T2 := T.BadNumber.E.noN
  walk_at "go"
  exact .inl ⟨ha, q⟩
theorem ok_BadChoices_init (T : Top K mg) {k : Nat} : FnOk P w K mg base CX0 (k + 1) T.BadChoices_init.f T.BadChoices_init.fd ["self", "choices"] (spErrI T.BadChoices.C "choices") := by
  refine T.BadChoices_init.F.ok sc_BadChoices_init (fun vs H Q E h => ?_) (fun cdv A outer s H vs Q E hr h => ?_)
  · obtain ⟨a, v, rfl, _⟩ := h
    rfl
  obtain ⟨a, v, rfl, ha, q⟩ := h
  refine ⟨_, (pss_cons (ps_expr (pe_heinitK (K := K) rfl (by rfl) T.HalfError.g T.HalfError.B (pa_cons (pv 0) (pa_cons pe_str pa_nil))))
      (pss_one (ps_ostK (K := K) rfl (pv 0) (pv 1)))), ?_⟩
  have T1 := T.BadChoices.E.ox
  have T2 := T.BadChoices.E.noN
  walk_at "go"
  exact .inl ⟨ha, q⟩
theorem ok_NoHalf_init (T : Top K mg) {k : Nat} : FnOk P w K mg base CX0 (k + 1) T.NoHalf_init.f T.NoHalf_init.fd ["self", "place"] (spErrI T.NoHalf.C "place") := by
  refine T.NoHalf_init.F.ok sc_NoHalf_init (fun vs H Q E h => ?_) (fun cdv A outer s H vs Q E hr h => ?_)
  · obtain ⟨a, v, rfl, _⟩ := h
    rfl
  obtain ⟨a, v, rfl, ha, q⟩ := h
  refine ⟨_, (pss_cons (ps_expr (pe_heinitK (K := K) rfl (by rfl) T.HalfError.g T.HalfError.B (pa_cons (pv 0) (pa_cons pe_str pa_nil))))
      (pss_one (ps_ostK (K := K) rfl (pv 0) (pv 1)))), ?_⟩
  have T1 := T.NoHalf.E.ox
  have T2 := T.NoHalf.E.noN
  walk_at "go"
  exact .inl ⟨ha, q⟩
theorem ok_PinThere_init (T : Top K mg) {k : Nat} : FnOk P w K mg base CX0 (k + 1) T.PinThere_init.f T.PinThere_init.fd ["self", "place"] (spErrI T.PinThere.C "place") := by
  refine T.PinThere_init.F.ok sc_PinThere_init (fun vs H Q E h => ?_) (fun cdv A outer s H vs Q E hr h => ?_)
  · obtain ⟨a, v, rfl, _⟩ := h
    rfl
  obtain ⟨a, v, rfl, ha, q⟩ := h
  refine ⟨_, (pss_cons (ps_expr (pe_heinitK (K := K) rfl (by rfl) T.HalfError.g T.HalfError.B (pa_cons (pv 0) (pa_cons pe_str pa_nil))))
      (pss_one (ps_ostK (K := K) rfl (pv 0) (pv 1)))), ?_⟩
  have T1 := T.PinThere.E.ox
  have T2 := T.PinThere.E.noN
  walk_at "go"
  exact .inl ⟨ha, q⟩
theorem ok_NoPin_init (T : Top K mg) {k : Nat} : FnOk P w K mg base CX0 (k + 1) T.NoPin_init.f T.NoPin_init.fd ["self", "place"] (spErrI T.NoPin.C "place") := by
  refine T.NoPin_init.F.ok sc_NoPin_init (fun vs H Q E h => ?_) (fun cdv A outer s H vs Q E hr h => ?_)
  · obtain ⟨a, v, rfl, _⟩ := h
    rfl
  obtain ⟨a, v, rfl, ha, q⟩ := h
  refine ⟨_, (pss_cons (ps_expr (pe_heinitK (K := K) rfl (by rfl) T.HalfError.g T.HalfError.B (pa_cons (pv 0) (pa_cons pe_str pa_nil))))
      (pss_one (ps_ostK (K := K) rfl (pv 0) (pv 1)))), ?_⟩
  have T1 := T.NoPin.E.ox
  have T2 := T.NoPin.E.noN
  walk_at "go"
  exact .inl ⟨ha, q⟩
theorem ok_BadEdit_init (T : Top K mg) {k : Nat} : FnOk P w K mg base CX0 (k + 1) T.BadEdit_init.f T.BadEdit_init.fd ["self", "index"] (spErrI T.BadEdit.C "index") := by
  refine T.BadEdit_init.F.ok sc_BadEdit_init (fun vs H Q E h => ?_) (fun cdv A outer s H vs Q E hr h => ?_)
  · obtain ⟨a, v, rfl, _⟩ := h
    rfl
  obtain ⟨a, v, rfl, ha, q⟩ := h
  refine ⟨_, (pss_cons (ps_expr (pe_heinitK (K := K) rfl (by rfl) T.HalfError.g T.HalfError.B (pa_cons (pv 0) (pa_cons pe_str pa_nil))))
      (pss_one (ps_ostK (K := K) rfl (pv 0) (pv 1)))), ?_⟩
  have T1 := T.BadEdit.E.ox
  have T2 := T.BadEdit.E.noN
  walk_at "go"
  exact .inl ⟨ha, q⟩
theorem ok_Rejected_init (T : Top K mg) {k : Nat} : FnOk P w K mg base CX0 (k + 1) T.Rejected_init.f T.Rejected_init.fd ["self", "index"] (spErrI T.Rejected.C "index") := by
  refine T.Rejected_init.F.ok sc_Rejected_init (fun vs H Q E h => ?_) (fun cdv A outer s H vs Q E hr h => ?_)
  · obtain ⟨a, v, rfl, _⟩ := h
    rfl
  obtain ⟨a, v, rfl, ha, q⟩ := h
  refine ⟨_, (pss_cons (ps_expr (pe_heinitK (K := K) rfl (by rfl) T.HalfError.g T.HalfError.B (pa_cons (pv 0) (pa_cons pe_str pa_nil))))
      (pss_one (ps_ostK (K := K) rfl (pv 0) (pv 1)))), ?_⟩
  have T1 := T.Rejected.E.ox
  have T2 := T.Rejected.E.noN
  walk_at "go"
  exact .inl ⟨ha, q⟩
theorem ok_NoPlace_init (T : Top K mg) {k : Nat} : FnOk P w K mg base CX0 (k + 1) T.NoPlace_init.f T.NoPlace_init.fd ["self", "place"] (spErrI T.NoPlace.C "place") := by
  refine T.NoPlace_init.F.ok sc_NoPlace_init (fun vs H Q E h => ?_) (fun cdv A outer s H vs Q E hr h => ?_)
  · obtain ⟨a, v, rfl, _⟩ := h
    rfl
  obtain ⟨a, v, rfl, ha, q⟩ := h
  refine ⟨_, (pss_cons (ps_expr (pe_lkinit (K := K) rfl (by rfl) T.LookupError T.lkI (pa_cons (pv 0) (pa_cons pe_str pa_nil))))
      (pss_one (ps_lkf (K := K) rfl (pv 0) (pv 1)))), ?_⟩
  have T1 := T.NoPlace.E.ox
  have T2 := T.NoPlace.E.noN
  walk_at "go"
  exact q
theorem ok_NoVersion_init (T : Top K mg) {k : Nat} : FnOk P w K mg base CX0 (k + 1) T.NoVersion_init.f T.NoVersion_init.fd ["self", "version"] (spErrI T.NoVersion.C "version") := by
  refine T.NoVersion_init.F.ok sc_NoVersion_init (fun vs H Q E h => ?_) (fun cdv A outer s H vs Q E hr h => ?_)
  · obtain ⟨a, v, rfl, _⟩ := h
    rfl
  obtain ⟨a, v, rfl, ha, q⟩ := h
  refine ⟨_, (pss_cons (ps_expr (pe_lkinit (K := K) rfl (by rfl) T.LookupError T.lkI (pa_cons (pv 0) (pa_cons pe_str pa_nil))))
      (pss_one (ps_lkf (K := K) rfl (pv 0) (pv 1)))), ?_⟩
  have T1 := T.NoVersion.E.ox
  have T2 := T.NoVersion.E.noN
  walk_at "go"
  exact q
end
section
variable {P : Program} {w : World} {K : PySem.W.Frag} {mg : Str → Option Value} {base : Heap}
theorem ok_Unsure_init (T : Top K mg) {k : Nat} : FnOk P w K mg base CX0 (k + 1) T.Unsure_init.f T.Unsure_init.fd ["self", "number", "turns"] (spErrI2 T.Unsure.C "number" "turns") := by
  refine T.Unsure_init.F.ok sc_Unsure_init (fun vs H Q E h => ?_) (fun cdv A outer s H vs Q E hr h => ?_)
  · obtain ⟨a, v, w, rfl, _⟩ := h
    rfl
  obtain ⟨a, v, w, rfl, ha, q⟩ := h
  refine ⟨_, (pss_cons (ps_expr (pe_heinitK (K := K) rfl (by rfl) T.HalfError.g T.HalfError.B (pa_cons (pv 0) (pa_cons pe_str pa_nil))))
      (pss_cons (ps_ostK (K := K) rfl (pv 0) (pv 1))
      (pss_one (ps_ostK (K := K) rfl (pv 0) (pv 2))))), ?_⟩
  have T1 := T.Unsure.E1.ox
  have T2 := T.Unsure.E1.noN
  have T3 := T.Unsure.E2.noN
  walk_at "go"
  refine .inl ⟨ha, fun dx hdx hne => ?_⟩
  walk_at "go"
  refine .inr ⟨dx, [("number", v)], upd_same, ?_, (by simp), ?_⟩
  · rw [upd_ne hne, upd_same]
  · exact q dx hdx hne
end
section
variable {P : Program} {w : World} {K : PySem.W.Frag} {mg : Str → Option Value} {base : Heap}
def livL (T : Top K mg) : List Value := [.ref T.BadText.C, .ref T.BadProgram.C, .ref T.BadFix.C, .ref T.BadWay.C, .ref T.BadNumber.C, .ref T.BadChoices.C, .ref T.NoHalf.C, .ref T.PinThere.C, .ref T.NoPin.C, .ref T.Unsure.C, .ref T.Busy.C, .ref T.TooManyEdits.C, .ref T.NothingToUndo.C, .ref T.NothingToRedo.C, .ref T.BadEdits.C, .ref T.BadEdit.C, .ref T.Rejected.C, .ref T.NoPlace.C, .ref T.NoVersion.C, .ref T.HalfError.C, .type "LookupError", .type "ValueError"]
theorem ok_l_kinds0 (T : Top K mg) {k : Nat} : FnOk P w K mg base CX0 (k + 1) T.l_kinds.f T.l_kinds.fd ["_law_e"] (spKinds0 K (livL T)) := by
  refine T.l_kinds.F.ok sc_l_kinds (fun vs H Q E h => ?_) (fun cdv A outer s H vs Q E hr h => ?_)
  · obtain ⟨a, C, fs, bs, rfl, _⟩ := h
    rfl
  obtain ⟨a, C, fs, bs, rfl, hl, hE, hK, hn, q⟩ := h
  match bs, hn, hK, q with
  | [b0, b1, b2, b3, b4, b5, b6, b7, b8, b9, b10, b11, b12, b13, b14, b15, b16, b17, b18, b19, b20, b21], _, hK, q =>
  unfold livL at hK
  simp only [List.map_cons, List.map_nil, List.cons.injEq, and_true] at hK
  obtain ⟨h0, h1, h2, h3, h4, h5, h6, h7, h8, h9, h10, h11, h12, h13, h14, h15, h16, h17, h18, h19, h20, h21⟩ := hK
  refine ⟨_, (pss_cons (ps_set (i := 1) sc_l_kinds.nd rfl (.inl rfl) (pe_lstA (pa_cons (pe_callB (id := "isinstance") (call_isVc (K := K) rfl) (by rfl) T.isinstance (by decide +kernel) (pa_cons (pv 0) (pa_cons (pe_glob (v := .ref T.BadText.C) (by rfl) T.BadText.g rfl) pa_nil))) (pa_cons (pe_callB (id := "isinstance") (call_isVc (K := K) rfl) (by rfl) T.isinstance (by decide +kernel) (pa_cons (pv 0) (pa_cons (pe_glob (v := .ref T.BadProgram.C) (by rfl) T.BadProgram.g rfl) pa_nil))) (pa_cons (pe_callB (id := "isinstance") (call_isVc (K := K) rfl) (by rfl) T.isinstance (by decide +kernel) (pa_cons (pv 0) (pa_cons (pe_glob (v := .ref T.BadFix.C) (by rfl) T.BadFix.g rfl) pa_nil))) (pa_cons (pe_callB (id := "isinstance") (call_isVc (K := K) rfl) (by rfl) T.isinstance (by decide +kernel) (pa_cons (pv 0) (pa_cons (pe_glob (v := .ref T.BadWay.C) (by rfl) T.BadWay.g rfl) pa_nil))) pa_nil))))))
      (pss_cons (ps_set (i := 1) sc_l_kinds.nd rfl (.inl rfl) (pe_op op_catL (pv 1) (pe_lstA (pa_cons (pe_callB (id := "isinstance") (call_isVc (K := K) rfl) (by rfl) T.isinstance (by decide +kernel) (pa_cons (pv 0) (pa_cons (pe_glob (v := .ref T.BadNumber.C) (by rfl) T.BadNumber.g rfl) pa_nil))) (pa_cons (pe_callB (id := "isinstance") (call_isVc (K := K) rfl) (by rfl) T.isinstance (by decide +kernel) (pa_cons (pv 0) (pa_cons (pe_glob (v := .ref T.BadChoices.C) (by rfl) T.BadChoices.g rfl) pa_nil))) (pa_cons (pe_callB (id := "isinstance") (call_isVc (K := K) rfl) (by rfl) T.isinstance (by decide +kernel) (pa_cons (pv 0) (pa_cons (pe_glob (v := .ref T.NoHalf.C) (by rfl) T.NoHalf.g rfl) pa_nil))) pa_nil))))))
      (pss_cons (ps_set (i := 1) sc_l_kinds.nd rfl (.inl rfl) (pe_op op_catL (pv 1) (pe_lstA (pa_cons (pe_callB (id := "isinstance") (call_isVc (K := K) rfl) (by rfl) T.isinstance (by decide +kernel) (pa_cons (pv 0) (pa_cons (pe_glob (v := .ref T.PinThere.C) (by rfl) T.PinThere.g rfl) pa_nil))) (pa_cons (pe_callB (id := "isinstance") (call_isVc (K := K) rfl) (by rfl) T.isinstance (by decide +kernel) (pa_cons (pv 0) (pa_cons (pe_glob (v := .ref T.NoPin.C) (by rfl) T.NoPin.g rfl) pa_nil))) (pa_cons (pe_callB (id := "isinstance") (call_isVc (K := K) rfl) (by rfl) T.isinstance (by decide +kernel) (pa_cons (pv 0) (pa_cons (pe_glob (v := .ref T.Unsure.C) (by rfl) T.Unsure.g rfl) pa_nil))) (pa_cons (pe_callB (id := "isinstance") (call_isVc (K := K) rfl) (by rfl) T.isinstance (by decide +kernel) (pa_cons (pv 0) (pa_cons (pe_glob (v := .ref T.Busy.C) (by rfl) T.Busy.g rfl) pa_nil))) pa_nil)))))))
      (pss_cons (ps_set (i := 1) sc_l_kinds.nd rfl (.inl rfl) (pe_op op_catL (pv 1) (pe_lstA (pa_cons (pe_callB (id := "isinstance") (call_isVc (K := K) rfl) (by rfl) T.isinstance (by decide +kernel) (pa_cons (pv 0) (pa_cons (pe_glob (v := .ref T.TooManyEdits.C) (by rfl) T.TooManyEdits.g rfl) pa_nil))) (pa_cons (pe_callB (id := "isinstance") (call_isVc (K := K) rfl) (by rfl) T.isinstance (by decide +kernel) (pa_cons (pv 0) (pa_cons (pe_glob (v := .ref T.NothingToUndo.C) (by rfl) T.NothingToUndo.g rfl) pa_nil))) (pa_cons (pe_callB (id := "isinstance") (call_isVc (K := K) rfl) (by rfl) T.isinstance (by decide +kernel) (pa_cons (pv 0) (pa_cons (pe_glob (v := .ref T.NothingToRedo.C) (by rfl) T.NothingToRedo.g rfl) pa_nil))) pa_nil))))))
      (pss_one (ps_ret (pe_op op_catL (pv 1) (pe_lstA (pa_cons (pe_callB (id := "isinstance") (call_isVc (K := K) rfl) (by rfl) T.isinstance (by decide +kernel) (pa_cons (pv 0) (pa_cons (pe_glob (v := .ref T.BadEdits.C) (by rfl) T.BadEdits.g rfl) pa_nil))) (pa_cons (pe_callB (id := "isinstance") (call_isVc (K := K) rfl) (by rfl) T.isinstance (by decide +kernel) (pa_cons (pv 0) (pa_cons (pe_glob (v := .ref T.BadEdit.C) (by rfl) T.BadEdit.g rfl) pa_nil))) (pa_cons (pe_callB (id := "isinstance") (call_isVc (K := K) rfl) (by rfl) T.isinstance (by decide +kernel) (pa_cons (pv 0) (pa_cons (pe_glob (v := .ref T.Rejected.C) (by rfl) T.Rejected.g rfl) pa_nil))) pa_nil))))))))))), ?_⟩
  walk_at "go"
  intro p0 H0 hp0 e0
  have k0 := new_kp hp0 e0
  have a0 := new_at e0
  have l0 := hl.kp0 k0
  walk_at "go"
  intro p1 H1 hp1 e1
  have k1 := new_kp hp1 e1
  have a1 := new_at e1
  have s1 := k1.at a0
  walk_at "go"
  intro q1 G1 hq1 c1 m1
  have l1 := (l0.kp0 k1).kp0 m1
  have n1 := (k0.trans k1).trans m1
  walk_at "go"
  intro p2 H2 hp2 e2
  have k2 := new_kp hp2 e2
  have a2 := new_at e2
  have s2 := k2.at c1
  walk_at "go"
  intro q2 G2 hq2 c2 m2
  have l2 := (l1.kp0 k2).kp0 m2
  have n2 := (n1.trans k2).trans m2
  walk_at "go"
  intro p3 H3 hp3 e3
  have k3 := new_kp hp3 e3
  have a3 := new_at e3
  have s3 := k3.at c2
  walk_at "go"
  intro q3 G3 hq3 c3 m3
  have l3 := (l2.kp0 k3).kp0 m3
  have n3 := (n2.trans k3).trans m3
  walk_at "go"
  intro p4 H4 hp4 e4
  have k4 := new_kp hp4 e4
  have a4 := new_at e4
  have s4 := k4.at c3
  walk_at "go"
  intro q4 G4 hq4 c4 m4
  have l4 := (l3.kp0 k4).kp0 m4
  have n4 := (n3.trans k4).trans m4
  exact q q4 G4 ((n3.trans k4).free hq4 (by simp)) c4 n4
end
section
variable {P : Program} {w : World} {K : PySem.W.Frag} {mg : Str → Option Value} {base : Heap}
theorem ok_l_kinds_right0 (T : Top K mg) : FnOk P w K mg base CX0 3 T.l_kinds_right.f T.l_kinds_right.fd ["_law_a"] spRight0 := by
  have G_l_kinds := ok_l_kinds0 (P := P) (w := w) (base := base) (k := 0) T
  have G_BadText_init := ok_BadText_init (P := P) (w := w) (base := base) (k := 0) T
  have G_BadProgram_init := ok_BadProgram_init (P := P) (w := w) (base := base) (k := 0) T
  have G_BadFix_init := ok_BadFix_init (P := P) (w := w) (base := base) (k := 0) T
  have G_BadWay_init := ok_BadWay_init (P := P) (w := w) (base := base) (k := 0) T
  have G_BadNumber_init := ok_BadNumber_init (P := P) (w := w) (base := base) (k := 0) T
  have G_BadChoices_init := ok_BadChoices_init (P := P) (w := w) (base := base) (k := 0) T
  have G_NoHalf_init := ok_NoHalf_init (P := P) (w := w) (base := base) (k := 0) T
  have G_PinThere_init := ok_PinThere_init (P := P) (w := w) (base := base) (k := 0) T
  have G_NoPin_init := ok_NoPin_init (P := P) (w := w) (base := base) (k := 0) T
  have G_BadEdit_init := ok_BadEdit_init (P := P) (w := w) (base := base) (k := 0) T
  have G_Rejected_init := ok_Rejected_init (P := P) (w := w) (base := base) (k := 0) T
  have G_NoPlace_init := ok_NoPlace_init (P := P) (w := w) (base := base) (k := 0) T
  have G_NoVersion_init := ok_NoVersion_init (P := P) (w := w) (base := base) (k := 0) T
  have G_Unsure_init := ok_Unsure_init (P := P) (w := w) (base := base) (k := 0) T
  refine T.l_kinds_right.F.ok sc_l_kinds_right (fun vs H Q E h => ?_) (fun cdv A outer s H vs Q E hr h => ?_)
  · obtain ⟨av, rfl, _⟩ := h
    rfl
  obtain ⟨av, rfl, q⟩ := h
  have hu64 := hr.units
  have hu := hu_of hr
  refine ⟨_, (pss_cutA (ps_set (i := 1) sc_l_kinds_right.nd rfl (.inl rfl) (pe_lstA (pa_cons (pe_exV T.BadText.E.ox T.BadText_init.iC T.BadText_init.tI G_BadText_init (hr.mono (by omega)) T.BadText_init.b .nil pass0 (by rfl) T.BadText.g (pa_cons (pv 0) pa_nil)) (pa_cons (pe_exV T.BadProgram.E.ox T.BadProgram_init.iC T.BadProgram_init.tI G_BadProgram_init (hr.mono (by omega)) T.BadProgram_init.b .nil pass0 (by rfl) T.BadProgram.g (pa_cons (pv 0) pa_nil)) (pa_cons (pe_exV T.BadFix.E.ox T.BadFix_init.iC T.BadFix_init.tI G_BadFix_init (hr.mono (by omega)) T.BadFix_init.b .nil pass0 (by rfl) T.BadFix.g (pa_cons (pv 0) pa_nil)) (pa_cons (pe_exV T.BadWay.E.ox T.BadWay_init.iC T.BadWay_init.tI G_BadWay_init (hr.mono (by omega)) T.BadWay_init.b .nil pass0 (by rfl) T.BadWay.g (pa_cons (pv 0) pa_nil)) (pa_cons (pe_exV T.BadNumber.E.ox T.BadNumber_init.iC T.BadNumber_init.tI G_BadNumber_init (hr.mono (by omega)) T.BadNumber_init.b .nil pass0 (by rfl) T.BadNumber.g (pa_cons (pv 0) pa_nil)) (pa_cons (pe_exV T.BadChoices.E.ox T.BadChoices_init.iC T.BadChoices_init.tI G_BadChoices_init (hr.mono (by omega)) T.BadChoices_init.b .nil pass0 (by rfl) T.BadChoices.g (pa_cons (pv 0) pa_nil)) (pa_cons (pe_exV T.NoHalf.E.ox T.NoHalf_init.iC T.NoHalf_init.tI G_NoHalf_init (hr.mono (by omega)) T.NoHalf_init.b .nil pass0 (by rfl) T.NoHalf.g (pa_cons (pv 0) pa_nil)) (pa_cons (pe_exV T.PinThere.E.ox T.PinThere_init.iC T.PinThere_init.tI G_PinThere_init (hr.mono (by omega)) T.PinThere_init.b .nil pass0 (by rfl) T.PinThere.g (pa_cons (pv 0) pa_nil)) pa_nil))))))))))
      (pss_cutA (ps_set (i := 1) sc_l_kinds_right.nd rfl (.inl rfl) (pe_op op_catL (pv 1) (pe_lstA (pa_cons (pe_exV T.NoPin.E.ox T.NoPin_init.iC T.NoPin_init.tI G_NoPin_init (hr.mono (by omega)) T.NoPin_init.b .nil pass0 (by rfl) T.NoPin.g (pa_cons (pv 0) pa_nil)) (pa_cons (pe_exV T.Unsure.E1.ox T.Unsure_init.iC T.Unsure_init.tI G_Unsure_init (hr.mono (by omega)) T.Unsure_init.b .nil pass0 (by rfl) T.Unsure.g (pa_cons (pv 0) (pa_cons (pv 0) pa_nil))) (pa_cons (pe_exN T.Busy.E (by rfl) T.Busy.g) (pa_cons (pe_exN T.TooManyEdits.E (by rfl) T.TooManyEdits.g) (pa_cons (pe_exN T.NothingToUndo.E (by rfl) T.NothingToUndo.g) (pa_cons (pe_exN T.NothingToRedo.E (by rfl) T.NothingToRedo.g) (pa_cons (pe_exN T.BadEdits.E (by rfl) T.BadEdits.g) pa_nil))))))))))
      (pss_cutA (ps_set (i := 1) sc_l_kinds_right.nd rfl (.inl rfl) (pe_op op_catL (pv 1) (pe_lstA (pa_cons (pe_exV T.BadEdit.E.ox T.BadEdit_init.iC T.BadEdit_init.tI G_BadEdit_init (hr.mono (by omega)) T.BadEdit_init.b .nil pass0 (by rfl) T.BadEdit.g (pa_cons (pv 0) pa_nil)) (pa_cons (pe_exV T.Rejected.E.ox T.Rejected_init.iC T.Rejected_init.tI G_Rejected_init (hr.mono (by omega)) T.Rejected_init.b .nil pass0 (by rfl) T.Rejected.g (pa_cons (pv 0) pa_nil)) pa_nil)))))
      (pss_cons (ps_forA (ps_for PassesOwn.never rfl (pi_range1 (by rfl) T.range (pa_cons pe_int pa_nil)) (pg_name (i := 2) sc_l_kinds_right.nd rfl (.inr rfl)) (pss_cons (ps_if (PW.pt (pw_or (pt_cmpR (op_neBs hu64) (pe_call G_l_kinds (hr.mono (by omega)) (by rfl) T.l_kinds.g T.l_kinds.F.kp T.l_kinds.b .nil pass0 (pa_cons (pe_ix (ix_listK (K := K) rfl) (pv 1) (pv 2) (fun _ _ => rfl)) pa_nil)) (pe_lc (own := [("_law_j", 4)]) (by rfl) sc_l_kinds_right.nd (pi_range1 (by rfl) T.range (pa_cons pe_int pa_nil)) (blkOk_by (N := ["_law_a", "_law_some", "_law_k", "_law_e", "_law_j"]) (sc := defScope s_l_kinds_right) (own := [("_law_j", 4)]) (by decide +kernel)) (fun _ _ _ _ _ => (pg_name (i := 4) sc_l_kinds_right.nd rfl (.inl rfl))) (fun _ _ _ _ _ => pts_nil) (fun _ _ _ _ _ => (pe_cmpR op_eq (pv 4) (pv 2) (nomark _)))) (nomark _)) (pw_or1 (pt_val (pe_callB (id := "isinstance") (call_isVt (K := K) rfl) (by rfl) T.isinstance (by decide +kernel) (pa_cons (pe_ix (ix_listK (K := K) rfl) (pv 1) (pv 2) (fun _ _ => rfl)) (pa_cons (pe_bltn (v := .ty "LookupError") (u := .type "LookupError") (by rfl) T.LookupError (by decide +kernel) rfl) pa_nil))))))) (pss_one (ps_ret pe_bl)) pss_nil)
      (pss_one (ps_if (PW.pt (pw_or (pt_not (pt_val (pe_callB (id := "isinstance") (call_isVc (K := K) rfl) (by rfl) T.isinstance (by decide +kernel) (pa_cons (pe_ix (ix_listK (K := K) rfl) (pv 1) (pv 2) (fun _ _ => rfl)) (pa_cons (pe_glob (v := .ref T.HalfError.C) (by rfl) T.HalfError.g rfl) pa_nil))))) (pw_or1 (pt_not (pt_val (pe_callB (id := "isinstance") (call_isVt (K := K) rfl) (by rfl) T.isinstance (by decide +kernel) (pa_cons (pe_ix (ix_listK (K := K) rfl) (pv 1) (pv 2) (fun _ _ => rfl)) (pa_cons (pe_bltn (v := .ty "ValueError") (u := .type "ValueError") (by rfl) T.ValueError (by decide +kernel) rfl) pa_nil)))))))) (pss_one (ps_ret pe_bl)) pss_nil)))))
      (pss_cons (ps_forA (ps_for PassesOwn.never rfl (pi_listK (K := K) rfl (pe_lstA (pa_cons (pe_lkV T.NoPlace.E.ox T.NoPlace_init.iC T.NoPlace_init.tI G_NoPlace_init (hr.mono (by omega)) T.NoPlace_init.b .nil pass0 (by rfl) T.NoPlace.g (pa_cons (pv 0) pa_nil)) (pa_cons (pe_lkV T.NoVersion.E.ox T.NoVersion_init.iC T.NoVersion_init.tI G_NoVersion_init (hr.mono (by omega)) T.NoVersion_init.b .nil pass0 (by rfl) T.NoVersion.g (pa_cons (pv 0) pa_nil)) (pa_cons (pe_exN T.hn_HalfError (by rfl) T.HalfError.g) pa_nil))))) (pg_name (i := 3) sc_l_kinds_right.nd rfl (.inl rfl)) (pss_one (ps_if (pt_cmpR (op_in_seqK (K := K) rfl) pe_bl (pe_call G_l_kinds (hr.mono (by omega)) (by rfl) T.l_kinds.g T.l_kinds.F.kp T.l_kinds.b .nil pass0 (pa_cons (pv 3) pa_nil)) (by rfl)) (pss_one (ps_ret pe_bl)) pss_nil))))
      (pss_cons (ps_forA (ps_for PassesOwn.never rfl (pi_listK (K := K) rfl (pe_lstA (pa_cons (pe_lkV T.NoPlace.E.ox T.NoPlace_init.iC T.NoPlace_init.tI G_NoPlace_init (hr.mono (by omega)) T.NoPlace_init.b .nil pass0 (by rfl) T.NoPlace.g (pa_cons (pv 0) pa_nil)) (pa_cons (pe_lkV T.NoVersion.E.ox T.NoVersion_init.iC T.NoVersion_init.tI G_NoVersion_init (hr.mono (by omega)) T.NoVersion_init.b .nil pass0 (by rfl) T.NoVersion.g (pa_cons (pv 0) pa_nil)) pa_nil)))) (pg_name (i := 3) sc_l_kinds_right.nd rfl (.inl rfl)) (pss_one (ps_if (PW.pt (pw_or (pt_not (pt_val (pe_callB (id := "isinstance") (call_isVt (K := K) rfl) (by rfl) T.isinstance (by decide +kernel) (pa_cons (pv 3) (pa_cons (pe_bltn (v := .ty "LookupError") (u := .type "LookupError") (by rfl) T.LookupError (by decide +kernel) rfl) pa_nil))))) (pw_or (pt_val (pe_callB (id := "isinstance") (call_isVt (K := K) rfl) (by rfl) T.isinstance (by decide +kernel) (pa_cons (pv 3) (pa_cons (pe_bltn (v := .ty "ValueError") (u := .type "ValueError") (by rfl) T.ValueError (by decide +kernel) rfl) pa_nil)))) (pw_or1 (pt_val (pe_callB (id := "isinstance") (call_isVc (K := K) rfl) (by rfl) T.isinstance (by decide +kernel) (pa_cons (pv 3) (pa_cons (pe_glob (v := .ref T.HalfError.C) (by rfl) T.HalfError.g rfl) pa_nil)))))))) (pss_one (ps_ret pe_bl)) pss_nil))))
      (pss_cons (ps_if (PW.pt (pw_or (pt_val (pe_callB (id := "isinstance") (call_isVt (K := K) rfl) (by rfl) T.isinstance (by decide +kernel) (pa_cons (pe_exN T.hn_HalfError (by rfl) T.HalfError.g) (pa_cons (pe_bltn (v := .ty "LookupError") (u := .type "LookupError") (by rfl) T.LookupError (by decide +kernel) rfl) pa_nil)))) (pw_or1 (pt_not (pt_val (pe_callB (id := "isinstance") (call_isVt (K := K) rfl) (by rfl) T.isinstance (by decide +kernel) (pa_cons (pe_exN T.hn_HalfError (by rfl) T.HalfError.g) (pa_cons (pe_bltn (v := .ty "ValueError") (u := .type "ValueError") (by rfl) T.ValueError (by decide +kernel) rfl) pa_nil)))))))) (pss_one (ps_ret pe_bl)) pss_nil)
      (pss_one (ps_ret (pe_and (pe_not (pe_callB (id := "isinstance") (call_isVc (K := K) rfl) (by rfl) T.isinstance (by decide +kernel) (pa_cons (pe_lkV T.NoPlace.E.ox T.NoPlace_init.iC T.NoPlace_init.tI G_NoPlace_init (hr.mono (by omega)) T.NoPlace_init.b .nil pass0 (by rfl) T.NoPlace.g (pa_cons (pv 0) pa_nil)) (pa_cons (pe_glob (v := .ref T.NoVersion.C) (by rfl) T.NoVersion.g rfl) pa_nil)))) (pe_one (pe_not (pe_callB (id := "isinstance") (call_isVc (K := K) rfl) (by rfl) T.isinstance (by decide +kernel) (pa_cons (pe_lkV T.NoVersion.E.ox T.NoVersion_init.iC T.NoVersion_init.tI G_NoVersion_init (hr.mono (by omega)) T.NoVersion_init.b .nil pass0 (by rfl) T.NoVersion.g (pa_cons (pv 0) pa_nil)) (pa_cons (pe_glob (v := .ref T.NoPlace.C) (by rfl) T.NoPlace.g rfl) pa_nil))))))))))))))), ?_⟩
  refine ⟨⟨fun σ X => Lp (∃ (p : Addr) (vs : List V) (w2 w3 w4 : Option V), σ = [some av, some (.ref p), w2, w3, w4] ∧ X p = some (.lst vs) ∧ vs.length = 8 ∧ LsK K (livL T) X 0 vs ∧ Kp [] H X), ?_, ?_⟩⟩
  · walk_at "go"
    refine liv_made fun a0 H0 m0 k0 n0 => ?_
    have l0 : LvK K (livL T) H0 0 (.ref a0) := ⟨⟨a0, T.BadText.C, _, rfl, m0, T.lv_BadText, (T.kd_BadText.trans (congrArg (List.map some) (show _ = kb 0 by decide)))⟩⟩
    walk_at "go"
    refine liv_made fun a1 H1 m1 k1 n1 => ?_
    have l1 : LvK K (livL T) H1 1 (.ref a1) := ⟨⟨a1, T.BadProgram.C, _, rfl, m1, T.lv_BadProgram, (T.kd_BadProgram.trans (congrArg (List.map some) (show _ = kb 1 by decide)))⟩⟩
    walk_at "go"
    refine liv_made fun a2 H2 m2 k2 n2 => ?_
    have l2 : LvK K (livL T) H2 2 (.ref a2) := ⟨⟨a2, T.BadFix.C, _, rfl, m2, T.lv_BadFix, (T.kd_BadFix.trans (congrArg (List.map some) (show _ = kb 2 by decide)))⟩⟩
    walk_at "go"
    refine liv_made fun a3 H3 m3 k3 n3 => ?_
    have l3 : LvK K (livL T) H3 3 (.ref a3) := ⟨⟨a3, T.BadWay.C, _, rfl, m3, T.lv_BadWay, (T.kd_BadWay.trans (congrArg (List.map some) (show _ = kb 3 by decide)))⟩⟩
    walk_at "go"
    refine liv_made fun a4 H4 m4 k4 n4 => ?_
    have l4 : LvK K (livL T) H4 4 (.ref a4) := ⟨⟨a4, T.BadNumber.C, _, rfl, m4, T.lv_BadNumber, (T.kd_BadNumber.trans (congrArg (List.map some) (show _ = kb 4 by decide)))⟩⟩
    walk_at "go"
    refine liv_made fun a5 H5 m5 k5 n5 => ?_
    have l5 : LvK K (livL T) H5 5 (.ref a5) := ⟨⟨a5, T.BadChoices.C, _, rfl, m5, T.lv_BadChoices, (T.kd_BadChoices.trans (congrArg (List.map some) (show _ = kb 5 by decide)))⟩⟩
    walk_at "go"
    refine liv_made fun a6 H6 m6 k6 n6 => ?_
    have l6 : LvK K (livL T) H6 6 (.ref a6) := ⟨⟨a6, T.NoHalf.C, _, rfl, m6, T.lv_NoHalf, (T.kd_NoHalf.trans (congrArg (List.map some) (show _ = kb 6 by decide)))⟩⟩
    walk_at "go"
    refine liv_made fun a7 H7 m7 k7 n7 => ?_
    have l7 : LvK K (livL T) H7 7 (.ref a7) := ⟨⟨a7, T.PinThere.C, _, rfl, m7, T.lv_PinThere, (T.kd_PinThere.trans (congrArg (List.map some) (show _ = kb 7 by decide)))⟩⟩
    walk_at "go"
    intro P0 G0 hP0 eP0
    have K0 := new_kp hP0 eP0
    have A0 := new_at eP0
    have Ls0 : LsK K (livL T) G0 0 [.ref a0, .ref a1, .ref a2, .ref a3, .ref a4, .ref a5, .ref a6, .ref a7] := ⟨l0.kp0 (k1.trans (k2.trans (k3.trans (k4.trans (k5.trans (k6.trans (k7.trans K0))))))), ⟨l1.kp0 (k2.trans (k3.trans (k4.trans (k5.trans (k6.trans (k7.trans K0)))))), ⟨l2.kp0 (k3.trans (k4.trans (k5.trans (k6.trans (k7.trans K0))))), ⟨l3.kp0 (k4.trans (k5.trans (k6.trans (k7.trans K0)))), ⟨l4.kp0 (k5.trans (k6.trans (k7.trans K0))), ⟨l5.kp0 (k6.trans (k7.trans K0)), ⟨l6.kp0 (k7.trans K0), ⟨l7.kp0 K0, trivial⟩⟩⟩⟩⟩⟩⟩⟩
    walk_at "go"
    exact ⟨⟨_, _, _, _, _, rfl, A0, by rfl, Ls0, (k0.trans (k1.trans (k2.trans (k3.trans (k4.trans (k5.trans (k6.trans (k7.trans K0))))))))⟩⟩
  rintro σ X1 ⟨⟨p, vs, w2, w3, w4, rfl, hp, hn, hL, kA⟩⟩
  refine ⟨⟨fun σ X => Lp (∃ (p : Addr) (vs : List V) (w2 w3 w4 : Option V), σ = [some av, some (.ref p), w2, w3, w4] ∧ X p = some (.lst vs) ∧ vs.length = 15 ∧ LsK K (livL T) X 0 vs ∧ Kp [] H X), ?_, ?_⟩⟩
  · walk_at "go"
    refine liv_made fun a8 H8 m8 k8 n8 => ?_
    have l8 : LvK K (livL T) H8 8 (.ref a8) := ⟨⟨a8, T.NoPin.C, _, rfl, m8, T.lv_NoPin, (T.kd_NoPin.trans (congrArg (List.map some) (show _ = kb 8 by decide)))⟩⟩
    walk_at "go"
    refine liv_made2 fun a9 H9 m9 k9 n9 => ?_
    have l9 : LvK K (livL T) H9 9 (.ref a9) := ⟨⟨a9, T.Unsure.C, _, rfl, m9, T.lv_Unsure, (T.kd_Unsure.trans (congrArg (List.map some) (show _ = kb 9 by decide)))⟩⟩
    walk_at "go"
    intro a10 H10 n10 e10
    have k10 := new_kp n10 e10
    have m10 : LvE H10 T.Busy.C a10 none := new_at e10
    have l10 : LvK K (livL T) H10 10 (.ref a10) := ⟨⟨a10, T.Busy.C, _, rfl, m10, T.lv_Busy, (T.kd_Busy.trans (congrArg (List.map some) (show _ = kb 10 by decide)))⟩⟩
    walk_at "go"
    intro a11 H11 n11 e11
    have k11 := new_kp n11 e11
    have m11 : LvE H11 T.TooManyEdits.C a11 none := new_at e11
    have l11 : LvK K (livL T) H11 11 (.ref a11) := ⟨⟨a11, T.TooManyEdits.C, _, rfl, m11, T.lv_TooManyEdits, (T.kd_TooManyEdits.trans (congrArg (List.map some) (show _ = kb 11 by decide)))⟩⟩
    walk_at "go"
    intro a12 H12 n12 e12
    have k12 := new_kp n12 e12
    have m12 : LvE H12 T.NothingToUndo.C a12 none := new_at e12
    have l12 : LvK K (livL T) H12 12 (.ref a12) := ⟨⟨a12, T.NothingToUndo.C, _, rfl, m12, T.lv_NothingToUndo, (T.kd_NothingToUndo.trans (congrArg (List.map some) (show _ = kb 12 by decide)))⟩⟩
    walk_at "go"
    intro a13 H13 n13 e13
    have k13 := new_kp n13 e13
    have m13 : LvE H13 T.NothingToRedo.C a13 none := new_at e13
    have l13 : LvK K (livL T) H13 13 (.ref a13) := ⟨⟨a13, T.NothingToRedo.C, _, rfl, m13, T.lv_NothingToRedo, (T.kd_NothingToRedo.trans (congrArg (List.map some) (show _ = kb 13 by decide)))⟩⟩
    walk_at "go"
    intro a14 H14 n14 e14
    have k14 := new_kp n14 e14
    have m14 : LvE H14 T.BadEdits.C a14 none := new_at e14
    have l14 : LvK K (livL T) H14 14 (.ref a14) := ⟨⟨a14, T.BadEdits.C, _, rfl, m14, T.lv_BadEdits, (T.kd_BadEdits.trans (congrArg (List.map some) (show _ = kb 14 by decide)))⟩⟩
    walk_at "go"
    intro P8 G8 hP8 eP8
    have K8 := new_kp hP8 eP8
    have A8 := new_at eP8
    have Ls8 : LsK K (livL T) G8 8 [.ref a8, .ref a9, .ref a10, .ref a11, .ref a12, .ref a13, .ref a14] := ⟨l8.kp0 (k9.trans (k10.trans (k11.trans (k12.trans (k13.trans (k14.trans K8)))))), ⟨l9.kp0 (k10.trans (k11.trans (k12.trans (k13.trans (k14.trans K8))))), ⟨l10.kp0 (k11.trans (k12.trans (k13.trans (k14.trans K8)))), ⟨l11.kp0 (k12.trans (k13.trans (k14.trans K8))), ⟨l12.kp0 (k13.trans (k14.trans K8)), ⟨l13.kp0 (k14.trans K8), ⟨l14.kp0 K8, trivial⟩⟩⟩⟩⟩⟩⟩
    have S := (k8.trans (k9.trans (k10.trans (k11.trans (k12.trans (k13.trans (k14.trans K8))))))).at hp
    have z : vs.length + _ ≤ sizeLine := sz_le (show vs.length + 7 ≤ 1000000 by omega)
    walk_at "go"
    intro q Gq hq aq kq
    have Lq := LsK.app ((hL.kp0 (k8.trans (k9.trans (k10.trans (k11.trans (k12.trans (k13.trans (k14.trans K8)))))))).kp0 kq) (show LsK K (livL T) Gq (0 + vs.length) _ by rw [hn]; exact Ls8.kp0 kq)
    walk_at "go"
    exact ⟨⟨_, _, _, _, _, rfl, aq, by rw [List.length_append, hn]; rfl, Lq, kA.trans ((k8.trans (k9.trans (k10.trans (k11.trans (k12.trans (k13.trans (k14.trans K8))))))).trans kq)⟩⟩
  rintro σ X2 ⟨⟨p, vs, w2, w3, w4, rfl, hp, hn, hL, kA⟩⟩
  refine ⟨⟨fun σ X => Lp (∃ (p : Addr) (vs : List V) (w2 w3 w4 : Option V), σ = [some av, some (.ref p), w2, w3, w4] ∧ X p = some (.lst vs) ∧ vs.length = 17 ∧ LsK K (livL T) X 0 vs ∧ Kp [] H X), ?_, ?_⟩⟩
  · walk_at "go"
    refine liv_made fun a15 H15 m15 k15 n15 => ?_
    have l15 : LvK K (livL T) H15 15 (.ref a15) := ⟨⟨a15, T.BadEdit.C, _, rfl, m15, T.lv_BadEdit, (T.kd_BadEdit.trans (congrArg (List.map some) (show _ = kb 15 by decide)))⟩⟩
    walk_at "go"
    refine liv_made fun a16 H16 m16 k16 n16 => ?_
    have l16 : LvK K (livL T) H16 16 (.ref a16) := ⟨⟨a16, T.Rejected.C, _, rfl, m16, T.lv_Rejected, (T.kd_Rejected.trans (congrArg (List.map some) (show _ = kb 16 by decide)))⟩⟩
    walk_at "go"
    intro P15 G15 hP15 eP15
    have K15 := new_kp hP15 eP15
    have A15 := new_at eP15
    have Ls15 : LsK K (livL T) G15 15 [.ref a15, .ref a16] := ⟨l15.kp0 (k16.trans K15), ⟨l16.kp0 K15, trivial⟩⟩
    have S := (k15.trans (k16.trans K15)).at hp
    have z : vs.length + _ ≤ sizeLine := sz_le (show vs.length + 2 ≤ 1000000 by omega)
    walk_at "go"
    intro q Gq hq aq kq
    have Lq := LsK.app ((hL.kp0 (k15.trans (k16.trans K15))).kp0 kq) (show LsK K (livL T) Gq (0 + vs.length) _ by rw [hn]; exact Ls15.kp0 kq)
    walk_at "go"
    exact ⟨⟨_, _, _, _, _, rfl, aq, by rw [List.length_append, hn]; rfl, Lq, kA.trans ((k15.trans (k16.trans K15)).trans kq)⟩⟩
  rintro σ X3 ⟨⟨p, vs, w2, w3, w4, rfl, hp, hn, hL, kA⟩⟩
  walk_at "go"
  refine ⟨for_range (lo := 0) (n := Int.toNat 17) (fun k σ X => Lp (∃ (w2 w3 w4 : Option V), σ = [some av, some (.ref p), w2, w3, w4] ∧ Kp [] X3 X)) ⟨_, _, _, rfl, Kp.refl⟩ ?_ ?_⟩
  · rintro k σ X hk ⟨⟨w2, w3, w4, rfl, kX⟩⟩
    have hk : k < 17 := hk
    have et : vs[k]? = some vs[k] := List.getElem?_eq_getElem (by omega)
    have lv := hL.get et
    rw [Nat.zero_add] at lv
    generalize vs[k] = v at et lv
    obtain ⟨a, C, fs, rfl, le, xe, kd⟩ := (lv.kp0 kX).ex
    have ex : atI vs (0 + (k : Int)) = some (.ref a) := by rw [Int.zero_add]; exact atI_nat et
    have hpX := kX.at hp
    have kl := kb_len k
    walk_at "go"
    intro q1 H1 hq1 aq1 k1
    walk_at "go"
    intro D hD
    have nDq : q1 ≠ D := ne_of_none aq1 hD
    refine lc_range (lo := 0) (n := Int.toNat 17) (fun j H2 => Lp (Kp [D] H1 H2 ∧ H2 D = some (.lst (((List.range j).map fun i => decide (i = k)).map V.bl)))) ⟨(Kp.new hD).sub (by simp), upd_same⟩ ?_ ?_
    · rintro j X2 hj ⟨⟨kx, dx⟩⟩
      have hj : j < 17 := hj
      have lz : (((List.range j).map fun i => decide (i = k)).map V.bl).length < sizeLine := by
        rw [List.length_map, List.length_map, List.length_range]
        exact sz_lt (by omega)
      walk_at "go"
      rw [eq_int0]
      refine ⟨⟨kx.step1 (Kp.put dx (fun _ z => by cases z)) (.inl (by simp)), ?_⟩⟩
      rw [upd_same, List.range_succ, List.map_append, List.map_append]
      rfl
    · rintro X2 ⟨⟨kx, dx⟩⟩
      have kD : Kp [] H1 X2 := Kp.refl.step1 kx (.inr hD)
      rw [kb_take] at aq1
      have aq2 := kx.keep _ _ aq1 (ne1 nDq)
      have dx2 : X2 D = some (.lst (((List.range 17).map fun i => decide (i = k)).map V.bl)) := dx
      have le2 := (le.kp0 k1).kp0 kD
      have hp2 := kD.at (k1.at hpX)
      have g19 : PySem.W.kitOne K (.ref C) (.ref T.HalfError.C) = some true := kd_get (i := 19) kd rfl (kb_19 k)
      have g20 : PySem.W.kitOne K (.ref C) (.type "LookupError") = some false := kd_get (i := 20) kd rfl (kb_20 k)
      have g21 : PySem.W.kitOne K (.ref C) (.type "ValueError") = some true := kd_get (i := 21) kd rfl (kb_21 k)
      refine ⟨q1, D, _, rfl, rfl, aq2, dx2, ?_⟩
      walk_at "go"
      exact ⟨⟨_, _, _, rfl, kX.trans (k1.trans kD)⟩⟩
  · rintro σ X4 ⟨⟨w2, w3, w4, rfl, k4⟩⟩
    walk_at "go"
    refine liv_made fun a1 Y1 m1 j1 n1 => ?_
    have l1 : LvN K (livL T) Y1 false (.ref a1) := ⟨⟨a1, T.NoPlace.C, _, _, rfl, m1, T.lv_NoPlace, T.kd_NoPlace, rfl, by decide, rfl, rfl, rfl⟩⟩
    walk_at "go"
    refine liv_made fun a2 Y2 m2 j2 n2 => ?_
    have l2 : LvN K (livL T) Y2 false (.ref a2) := ⟨⟨a2, T.NoVersion.C, _, _, rfl, m2, T.lv_NoVersion, T.kd_NoVersion, rfl, by decide, rfl, rfl, rfl⟩⟩
    walk_at "go"
    intro a3 Y3 n3 e3
    have j3 := new_kp n3 e3
    have m3 : LvE Y3 T.HalfError.C a3 none := new_at e3
    have l3 : LvN K (livL T) Y3 true (.ref a3) := ⟨⟨a3, T.HalfError.C, _, _, rfl, m3, T.lv_HalfError, T.kd_HalfError, rfl, by decide, rfl, rfl, rfl⟩⟩
    walk_at "go"
    intro P1 Y4 hP1 eP1
    have j4 := new_kp hP1 eP1
    have aP1 := new_at eP1
    have all1 : ∀ v ∈ [V.ref a1, V.ref a2, V.ref a3], ∃ h, LvN K (livL T) Y4 h v := by
      intro v hv
      simp only [List.mem_cons, List.not_mem_nil, or_false] at hv
      rcases hv with rfl | rfl | rfl
      · exact ⟨_, l1.kp0 (j2.trans (j3.trans j4))⟩
      · exact ⟨_, l2.kp0 (j3.trans j4)⟩
      · exact ⟨_, l3.kp0 j4⟩
    walk_at "go"
    refine ⟨for_list (K := K) (a := P1) (xs := [.ref a1, .ref a2, .ref a3]) (fun j σ X => Lp (∃ w3 : Option V, σ = [some av, some (.ref p), w2, w3, w4] ∧ Kp [] Y4 X)) ⟨_, rfl, Kp.refl⟩ ?_ ?_ ?_⟩
    · rintro j σ X hj ⟨⟨w3, rfl, kx⟩⟩
      exact SqL.of (kx.at aP1)
    · rintro j y σ X hy ⟨⟨w3, rfl, kx⟩⟩
      obtain ⟨h, lv⟩ := all1 y (List.mem_of_getElem? hy)
      obtain ⟨a, C, fs, bs, rfl, le, xe, kd, bl, b17, _⟩ := (lv.kp0 kx).ex
      walk_at "go"
      intro q1 H1 hq1 aq1 k1
      rw [b17] at aq1
      walk_at "go"
      exact ⟨⟨_, rfl, kx.trans k1⟩⟩
    · rintro σ X5 ⟨⟨w3, rfl, k5⟩⟩
      walk_at "go"
      refine liv_made fun b1 V1 v1 i1 u1 => ?_
      have g1 : LvN K (livL T) V1 false (.ref b1) := ⟨⟨b1, T.NoPlace.C, _, _, rfl, v1, T.lv_NoPlace, T.kd_NoPlace, rfl, by decide, rfl, rfl, rfl⟩⟩
      walk_at "go"
      refine liv_made fun b2 V2 v2 i2 u2 => ?_
      have g2 : LvN K (livL T) V2 false (.ref b2) := ⟨⟨b2, T.NoVersion.C, _, _, rfl, v2, T.lv_NoVersion, T.kd_NoVersion, rfl, by decide, rfl, rfl, rfl⟩⟩
      walk_at "go"
      intro P2 V4 hP2 eP2
      have i4 := new_kp hP2 eP2
      have aP2 := new_at eP2
      have all2 : ∀ v ∈ [V.ref b1, V.ref b2], LvN K (livL T) V4 false v := by
        intro v hv
        simp only [List.mem_cons, List.not_mem_nil, or_false] at hv
        rcases hv with rfl | rfl
        · exact g1.kp0 (i2.trans i4)
        · exact g2.kp0 i4
      walk_at "go"
      refine ⟨for_list (K := K) (a := P2) (xs := [.ref b1, .ref b2]) (fun j σ X => Lp (∃ w3 : Option V, σ = [some av, some (.ref p), w2, w3, w4] ∧ Kp [] V4 X)) ⟨_, rfl, Kp.refl⟩ ?_ ?_ ?_⟩
      · rintro j σ X hj ⟨⟨w3, rfl, kx⟩⟩
        exact SqL.of (kx.at aP2)
      · rintro j y σ X hy ⟨⟨w3, rfl, kx⟩⟩
        obtain ⟨a, C, fs, bs, rfl, le, xe, kd, bl, b17, c19, c20, c21⟩ := ((all2 y (List.mem_of_getElem? hy)).kp0 kx).ex
        have g19 : PySem.W.kitOne K (.ref C) (.ref T.HalfError.C) = some false := kd_get (i := 19) kd rfl c19
        have g20 : PySem.W.kitOne K (.ref C) (.type "LookupError") = some true := kd_get (i := 20) kd rfl c20
        have g21 : PySem.W.kitOne K (.ref C) (.type "ValueError") = some false := kd_get (i := 21) kd rfl c21
        walk_at "go"
        exact ⟨⟨_, rfl, kx⟩⟩
      · rintro σ X6 ⟨⟨w3, rfl, k6⟩⟩
        have xH := T.lv_HalfError
        have h20 : PySem.W.kitOne K (.ref T.HalfError.C) (.type "LookupError") = some false := kd_get (i := 20) T.kd_HalfError rfl rfl
        have h21 : PySem.W.kitOne K (.ref T.HalfError.C) (.type "ValueError") = some true := kd_get (i := 21) T.kd_HalfError rfl rfl
        walk_at "go"
        intro e1 Z1 n1' ee1
        have z1 := new_kp n1' ee1
        have le1 : LvE Z1 T.HalfError.C e1 none := new_at ee1
        walk_at "go"
        intro e2 Z2 n2' ee2
        have z2 := new_kp n2' ee2
        have le2 : LvE Z2 T.HalfError.C e2 none := new_at ee2
        walk_at "go"
        have xP := T.lv_NoPlace
        have xV := T.lv_NoVersion
        have hPV : PySem.W.kitOne K (.ref T.NoPlace.C) (.ref T.NoVersion.C) = some false := kd_get (i := 18) T.kd_NoPlace rfl rfl
        have hVP : PySem.W.kitOne K (.ref T.NoVersion.C) (.ref T.NoPlace.C) = some false := kd_get (i := 17) T.kd_NoVersion rfl rfl
        refine liv_made fun e3 Z3 lm3 z3 _ => ?_
        walk_at "go"
        refine liv_made fun e4 Z4 lm4 z4 _ => ?_
        walk_at "go"
        exact q Z4 ((((((((((((((kA.trans k4).trans j1).trans j2).trans j3).trans j4).trans k5).trans i1).trans i2).trans i4).trans k6).trans z1).trans z2).trans z3).trans z4)
end
section
variable {P : Program} {w : World} {K : PySem.W.Frag} {mg : Str → Option Value} {base : Heap}
theorem ok_l_bounds0 (T : Top K mg) {k : Nat} : FnOk P w K mg base CX0 (k + 1) T.l_bounds.f T.l_bounds.fd [] spBounds0 := by
  refine T.l_bounds.F.ok sc_l_bounds (fun vs H Q E h => ?_) (fun cdv A outer s H vs Q E hr h => ?_)
  · obtain ⟨rfl, _⟩ := h
    rfl
  obtain ⟨rfl, q⟩ := h
  refine ⟨_, (pss_cons (ps_set (i := 0) sc_l_bounds.nd rfl (.inl rfl) (pe_lstA (pa_cons (pe_glob (v := .int 8) (by rfl) T.g_MAX_NAME ⟨_, rfl⟩) (pa_cons (pe_glob (v := .int 8) (by rfl) T.g_MAX_WORD ⟨_, rfl⟩) (pa_cons (pe_glob (v := .int 8) (by rfl) T.g_MAX_TIMES ⟨_, rfl⟩) (pa_cons (pe_glob (v := .int 3) (by rfl) T.g_MAX_DEEP ⟨_, rfl⟩) (pa_cons (pe_glob (v := .int 2) (by rfl) T.g_MAX_NOTS ⟨_, rfl⟩) (pa_cons (pe_glob (v := .int 24) (by rfl) T.g_MAX_PLACES ⟨_, rfl⟩) (pa_cons (pe_glob (v := .int 60) (by rfl) T.g_MAX_WEIGHT ⟨_, rfl⟩) (pa_cons (pe_glob (v := .int 4) (by rfl) T.g_MAX_HALVINGS ⟨_, rfl⟩) (pa_cons (pe_glob (v := .int 3) (by rfl) T.g_MAX_COMPARINGS ⟨_, rfl⟩) pa_nil)))))))))))
      (pss_one (ps_ret (pe_op op_catL (pv 0) (pe_lstA (pa_cons (pe_glob (v := .int 3) (by rfl) T.g_MAX_NEST ⟨_, rfl⟩) (pa_cons (pe_glob (v := .int 40) (by rfl) T.g_MAX_POWER ⟨_, rfl⟩) (pa_cons (pe_glob (v := .int 60) (by rfl) T.g_MAX_EDITS ⟨_, rfl⟩) (pa_cons (pe_glob (v := .int 20) (by rfl) T.g_BATCH ⟨_, rfl⟩) (pa_cons (pe_clsN T.mo_Bench (pe_glob (v := .ref T.cB_Bench) (by rfl) T.gB_Bench rfl)) (pa_cons (pe_clsN T.mo_SureBench (pe_glob (v := .ref T.cB_SureBench) (by rfl) T.gB_SureBench rfl)) pa_nil))))))))))), ?_⟩
  walk_at "go"
  intro p1 H1 hp1 e1
  have k1 := new_kp hp1 e1
  have a1 := new_at e1
  walk_at "go"
  intro p2 H2 hp2 e2
  have k2 := new_kp hp2 e2
  have a2 := new_at e2
  have s2 := k2.at a1
  walk_at "go"
  intro p3 H3 hp3 a3 k3
  exact q p3 H3 a3 ((k1.trans k2).trans k3)
theorem ok_l_fields_right0 (T : Top K mg) : FnG P w K mg base CX0 3 T.l_fields_right.f T.l_fields_right.fd ["_law_a", "_law_b"] spFields0 := by
  have G_BadText_init := ok_BadText_init (P := P) (w := w) (base := base) (k := 0) T
  have G_BadProgram_init := ok_BadProgram_init (P := P) (w := w) (base := base) (k := 0) T
  have G_BadFix_init := ok_BadFix_init (P := P) (w := w) (base := base) (k := 0) T
  have G_BadWay_init := ok_BadWay_init (P := P) (w := w) (base := base) (k := 0) T
  have G_BadNumber_init := ok_BadNumber_init (P := P) (w := w) (base := base) (k := 0) T
  have G_BadChoices_init := ok_BadChoices_init (P := P) (w := w) (base := base) (k := 0) T
  have G_NoHalf_init := ok_NoHalf_init (P := P) (w := w) (base := base) (k := 0) T
  have G_PinThere_init := ok_PinThere_init (P := P) (w := w) (base := base) (k := 0) T
  have G_NoPin_init := ok_NoPin_init (P := P) (w := w) (base := base) (k := 0) T
  have G_Unsure_init := ok_Unsure_init (P := P) (w := w) (base := base) (k := 0) T
  have G_BadEdit_init := ok_BadEdit_init (P := P) (w := w) (base := base) (k := 0) T
  have G_Rejected_init := ok_Rejected_init (P := P) (w := w) (base := base) (k := 0) T
  have G_NoPlace_init := ok_NoPlace_init (P := P) (w := w) (base := base) (k := 0) T
  have G_NoVersion_init := ok_NoVersion_init (P := P) (w := w) (base := base) (k := 0) T
  refine Fun.okG T.l_fields_right.F sc_l_fields_right (fun vs H Q E h => ?_) (fun cdv A outer s H vs Q E fr hr h => ?_)
  · obtain ⟨v, x, d, rfl, _⟩ := h
    rfl
  obtain ⟨v, x, d, rfl, tv, sw, q⟩ := h
  have hu64 := hr.units
  have hu := hu_of hr
  refine ⟨_, (pss_cons (ps_set (i := 2) sc_l_fields_right.nd rfl (.inl rfl) (pe_lstA (pa_cons (pe_livF T.lv_BadText T.BadText.E.hdC T.BadText.E.noN (pe_exV T.BadText.E.ox T.BadText_init.iC T.BadText_init.tI G_BadText_init (hr.mono (by omega)) T.BadText_init.b .nil pass0 (by rfl) T.BadText.g (pa_cons (pv 0) pa_nil))) (pa_cons (pe_livF T.lv_BadProgram T.BadProgram.E.hdC T.BadProgram.E.noN (pe_exV T.BadProgram.E.ox T.BadProgram_init.iC T.BadProgram_init.tI G_BadProgram_init (hr.mono (by omega)) T.BadProgram_init.b .nil pass0 (by rfl) T.BadProgram.g (pa_cons (pv 0) pa_nil))) (pa_cons (pe_livF T.lv_BadFix T.BadFix.E.hdC T.BadFix.E.noN (pe_exV T.BadFix.E.ox T.BadFix_init.iC T.BadFix_init.tI G_BadFix_init (hr.mono (by omega)) T.BadFix_init.b .nil pass0 (by rfl) T.BadFix.g (pa_cons (pv 0) pa_nil))) (pa_cons (pe_livF T.lv_BadWay T.BadWay.E.hdC T.BadWay.E.noN (pe_exV T.BadWay.E.ox T.BadWay_init.iC T.BadWay_init.tI G_BadWay_init (hr.mono (by omega)) T.BadWay_init.b .nil pass0 (by rfl) T.BadWay.g (pa_cons (pv 0) pa_nil))) (pa_cons (pe_livF T.lv_BadNumber T.BadNumber.E.hdC T.BadNumber.E.noN (pe_exV T.BadNumber.E.ox T.BadNumber_init.iC T.BadNumber_init.tI G_BadNumber_init (hr.mono (by omega)) T.BadNumber_init.b .nil pass0 (by rfl) T.BadNumber.g (pa_cons (pv 0) pa_nil))) pa_nil)))))))
      (pss_cons (ps_set (i := 2) sc_l_fields_right.nd rfl (.inl rfl) (pe_op op_catL (pv 2) (pe_lstA (pa_cons (pe_livF T.lv_BadChoices T.BadChoices.E.hdC T.BadChoices.E.noN (pe_exV T.BadChoices.E.ox T.BadChoices_init.iC T.BadChoices_init.tI G_BadChoices_init (hr.mono (by omega)) T.BadChoices_init.b .nil pass0 (by rfl) T.BadChoices.g (pa_cons (pv 0) pa_nil))) (pa_cons (pe_livF T.lv_NoHalf T.NoHalf.E.hdC T.NoHalf.E.noN (pe_exV T.NoHalf.E.ox T.NoHalf_init.iC T.NoHalf_init.tI G_NoHalf_init (hr.mono (by omega)) T.NoHalf_init.b .nil pass0 (by rfl) T.NoHalf.g (pa_cons (pv 0) pa_nil))) (pa_cons (pe_livF T.lv_PinThere T.PinThere.E.hdC T.PinThere.E.noN (pe_exV T.PinThere.E.ox T.PinThere_init.iC T.PinThere_init.tI G_PinThere_init (hr.mono (by omega)) T.PinThere_init.b .nil pass0 (by rfl) T.PinThere.g (pa_cons (pv 0) pa_nil))) (pa_cons (pe_livF T.lv_NoPin T.NoPin.E.hdC T.NoPin.E.noN (pe_exV T.NoPin.E.ox T.NoPin_init.iC T.NoPin_init.tI G_NoPin_init (hr.mono (by omega)) T.NoPin_init.b .nil pass0 (by rfl) T.NoPin.g (pa_cons (pv 0) pa_nil))) (pa_cons (pe_livF T.lv_Unsure T.Unsure.E1.hdC T.Unsure.E1.noN (pe_exV T.Unsure.E1.ox T.Unsure_init.iC T.Unsure_init.tI G_Unsure_init (hr.mono (by omega)) T.Unsure_init.b .nil pass0 (by rfl) T.Unsure.g (pa_cons (pv 0) (pa_cons (pv 1) pa_nil)))) pa_nil))))))))
      (pss_cons (ps_set (i := 2) sc_l_fields_right.nd rfl (.inl rfl) (pe_op op_catL (pv 2) (pe_lstA (pa_cons (pe_livF T.lv_Unsure T.Unsure.E2.hdC T.Unsure.E2.noN (pe_exV T.Unsure.E1.ox T.Unsure_init.iC T.Unsure_init.tI G_Unsure_init (hr.mono (by omega)) T.Unsure_init.b .nil pass0 (by rfl) T.Unsure.g (pa_cons (pv 1) (pa_cons (pv 0) pa_nil)))) (pa_cons (pe_livF T.lv_BadEdit T.BadEdit.E.hdC T.BadEdit.E.noN (pe_exV T.BadEdit.E.ox T.BadEdit_init.iC T.BadEdit_init.tI G_BadEdit_init (hr.mono (by omega)) T.BadEdit_init.b .nil pass0 (by rfl) T.BadEdit.g (pa_cons (pv 0) pa_nil))) (pa_cons (pe_livF T.lv_Rejected T.Rejected.E.hdC T.Rejected.E.noN (pe_exV T.Rejected.E.ox T.Rejected_init.iC T.Rejected_init.tI G_Rejected_init (hr.mono (by omega)) T.Rejected_init.b .nil pass0 (by rfl) T.Rejected.g (pa_cons (pv 0) pa_nil))) (pa_cons (pe_livF T.lv_NoPlace T.NoPlace.E.hdC T.NoPlace.E.noN (pe_lkV T.NoPlace.E.ox T.NoPlace_init.iC T.NoPlace_init.tI G_NoPlace_init (hr.mono (by omega)) T.NoPlace_init.b .nil pass0 (by rfl) T.NoPlace.g (pa_cons (pv 0) pa_nil))) (pa_cons (pe_livF T.lv_NoVersion T.NoVersion.E.hdC T.NoVersion.E.noN (pe_lkV T.NoVersion.E.ox T.NoVersion_init.iC T.NoVersion_init.tI G_NoVersion_init (hr.mono (by omega)) T.NoVersion_init.b .nil pass0 (by rfl) T.NoVersion.g (pa_cons (pv 0) pa_nil))) pa_nil))))))))
      (pss_one (ps_ret (pe_cmpR (op_eqSs hu64) (pe_lc (own := [("_law_one_here", 3)]) (by rfl) sc_l_fields_right.nd (pi_listK (K := K) rfl (pv 2)) (blkOk_by (N := ["_law_a", "_law_b", "_law_found", "_law_one_here"]) (sc := defScope s_l_fields_right) (own := [("_law_one_here", 3)]) (by decide +kernel)) (fun _ _ _ _ _ => (pg_name (i := 3) sc_l_fields_right.nd rfl (.inl rfl))) (fun _ _ _ _ _ => pts_nil) (fun _ _ _ _ _ => (pe_callB (id := "repr") (call_reprQ fr hu64) (by rfl) T.repr (by decide +kernel) (pa_cons (pv 3) pa_nil)))) (pe_op op_repL (pe_lstA (pa_cons (pe_callB (id := "repr") (call_reprQ fr hu64) (by rfl) T.repr (by decide +kernel) (pa_cons (pv 0) pa_nil)) pa_nil)) (pe_callB (id := "len") (call_lenK (K := K) rfl) (by rfl) T.len PySem.boot_len (pa_cons (pv 2) pa_nil))) (nomark _))))))), ?_⟩
  walk_at "go"
  refine liv_made fun a0 H0 m0 k0 n0 => ?_
  walk_at "go"
  refine liv_made fun a1 H1 m1 k1 n1 => ?_
  walk_at "go"
  refine liv_made fun a2 H2 m2 k2 n2 => ?_
  walk_at "go"
  refine liv_made fun a3 H3 m3 k3 n3 => ?_
  walk_at "go"
  refine liv_made fun a4 H4 m4 k4 n4 => ?_
  walk_at "go"
  intro P0 G0 hP0 eP0
  have K0 := new_kp hP0 eP0
  have A0 := new_at eP0
  have C0 : Kp [] H G0 := (k0.trans (k1.trans (k2.trans (k3.trans (k4.trans K0)))))
  walk_at "go"
  refine liv_made fun a5 H5 m5 k5 n5 => ?_
  walk_at "go"
  refine liv_made fun a6 H6 m6 k6 n6 => ?_
  walk_at "go"
  refine liv_made fun a7 H7 m7 k7 n7 => ?_
  walk_at "go"
  refine liv_made fun a8 H8 m8 k8 n8 => ?_
  walk_at "go"
  refine liv_made2 fun a9 H9 m9 k9 n9 => ?_
  walk_at "go"
  intro P5 G5 hP5 eP5
  have K5 := new_kp hP5 eP5
  have A5 := new_at eP5
  have S5 := (k5.trans (k6.trans (k7.trans (k8.trans (k9.trans K5))))).at A0
  walk_at "go"
  intro q1 J1 hq1 B1 t1
  have C1 : Kp [] H J1 := (C0.trans (k5.trans (k6.trans (k7.trans (k8.trans (k9.trans K5)))))).trans t1
  walk_at "go"
  refine liv_made2 fun a10 H10 m10 k10 n10 => ?_
  walk_at "go"
  refine liv_made fun a11 H11 m11 k11 n11 => ?_
  walk_at "go"
  refine liv_made fun a12 H12 m12 k12 n12 => ?_
  walk_at "go"
  refine liv_made fun a13 H13 m13 k13 n13 => ?_
  walk_at "go"
  refine liv_made fun a14 H14 m14 k14 n14 => ?_
  walk_at "go"
  intro P10 G10 hP10 eP10
  have K10 := new_kp hP10 eP10
  have A10 := new_at eP10
  have S10 := (k10.trans (k11.trans (k12.trans (k13.trans (k14.trans K10))))).at B1
  walk_at "go"
  intro q2 J2 hq2 B2 t2
  have C2 : Kp [] H J2 := (C1.trans (k10.trans (k11.trans (k12.trans (k13.trans (k14.trans K10)))))).trans t2
  have B3 : J2 q2 = some (.lst (List.replicate 15 v)) := B2
  have tv2 := C2.tq tv
  clear B2
  walk_at "go"
  intro D hD
  have nD : q2 ≠ D := ne_of_none B3 hD
  refine lc_list (K := K) (a := q2) (xs := List.replicate 15 v) (fun j X => Lp (Kp [D] J2 X ∧ X D = some (.lst (List.replicate j (.str d.shown))))) ⟨(Kp.new hD).sub (by simp), upd_same⟩ ?_ ?_ ?_
  · rintro j X _ ⟨⟨kx, _⟩⟩
    exact SqL.of (kx.keep _ _ B3 (ne1 nD))
  · rintro j y X hy ⟨⟨kx, dx⟩⟩
    have ey : y = v := List.eq_of_mem_replicate (List.mem_of_getElem? hy)
    subst ey
    have hj : j < 15 := by
      have := (List.getElem?_eq_some_iff.mp hy).1
      rwa [List.length_replicate] at this
    have tvx := kx.tq tv2
    walk_at "go"
    intro z ez
    subst ez
    have lz : (List.replicate j (V.str d.shown)).length < sizeLine := by rw [List.length_replicate]; exact sz_lt (by omega)
    walk_at "go"
    refine ⟨⟨kx.step1 (Kp.put dx (fun _ z => by cases z)) (.inl (by simp)), ?_⟩⟩
    rw [upd_same, List.replicate_succ']
  · rintro X ⟨⟨kx, dx⟩⟩
    have kD : Kp [] J2 X := Kp.refl.step1 kx (.inr hD)
    rw [List.length_replicate] at dx
    have tvx := kD.tq tv2
    have B4 := kD.at B3
    walk_at "go"
    intro z ez
    subst ez
    walk_at "go"
    intro p9 H9 hp9 e9
    have k9 := new_kp hp9 e9
    have a9 := new_at e9
    have B5 := k9.at B4
    have dx9 := k9.at dx
    walk_at "go"
    rw [List.length_replicate]
    refine ⟨by decide, Nat.le_of_ble_eq_true rfl, fun p10 H10 hp10 a10 k10 => ?_⟩
    have e10 : (List.replicate (((15 : Nat) : Int)).toNat [V.str d.shown]).flatten = (List.replicate 15 d.shown).map V.str := by rfl
    rw [e10] at a10
    have dx10 : H10 D = some (.lst ((List.replicate 15 d.shown).map V.str)) := by
      rw [List.map_replicate]
      exact k10.at dx9
    exact ⟨D, p10, _, rfl, rfl, dx10, a10, q H10 (((C2.trans kD).trans k9).trans k10)⟩
end
section
variable {P : Program} {w : World} {K : PySem.W.Frag} {mg : Str → Option Value} {base : Heap}
theorem ok_l_value0 (T : Top K mg) : FnOk P w K mg base CX0 4 T.l_value.f T.l_value.fd ["_law_deck_here"] spValue0 := by
  have G_l_draw : FnOk P w K mg base CX0 1 T.l_draw.f T.l_draw.fd ["_law_deck_here", "_law_many"] spDraw := ok_l_draw T
  have G_l_one : FnOk P w K mg base CX0 2 T.l_one.f T.l_one.fd ["_law_deck_here", "_law_items"] (spOne K) := ok_l_one T
  refine T.l_value.F.ok sc_l_value (fun vs H Q E h => ?_) (fun cdv A outer s H vs Q E hr h => ?_)
  · obtain ⟨a, c, m, rfl, _⟩ := h
    rfl
  obtain ⟨a, c, m, rfl, D, hm, q⟩ := h
  have hu := hu_of hr
  have hm9 : m ≤ MANY := Int.le_trans (show m ≤ 999999999 by omega) (by decide)
  have hm8 : m + 1 ≤ MANY := Int.le_trans (show m + 1 ≤ 999999999 by omega) (by decide)
  have b3 : (0 : Int) < 10 ^ Int.toNat 9 := by decide
  have b4 : ((10 : Int) ^ Int.toNat 9).natAbs < 2 ^ 1000 := by decide +kernel
  refine ⟨_, (pss_cons (ps_set (i := 1) sc_l_value.nd rfl (.inl rfl) (pe_op op_sub (pe_call G_l_draw (hr.mono (by omega)) (by rfl) T.l_draw.g T.l_draw.F.kp T.l_draw.b .nil pass0 (pa_cons (pv 0) (pa_cons (pe_op op_pow pe_int pe_int) pa_nil))) (pe_op op_mul pe_int (pe_op op_pow pe_int pe_int))))
      (pss_cons (ps_set (i := 2) sc_l_value.nd rfl (.inl rfl) (pe_lstA (pa_cons pe_non (pa_cons pe_bl (pa_cons pe_bl (pa_cons pe_int (pa_cons pe_int (pa_cons (pv 1) (pa_cons (pe_callTy (T := "str") call_str_int (by rfl) T.str (by decide +kernel) (pa_cons (pv 1) pa_nil)) (pa_cons pe_str (pa_cons (pe_tupA pa_nil) (pa_cons (pe_tupA (pa_cons (pv 1) pa_nil)) (pa_cons (pe_lstF (pa_cons (pv 1) pa_nil)) (pa_cons (pe_tupA (pa_cons pe_non (pa_cons pe_str pa_nil))) (pa_cons (pe_tupA (pa_cons (pe_tupA (pa_cons pe_int pa_nil)) (pa_cons pe_bl pa_nil))) (pa_cons (pe_frzK pe_dnewK) pa_nil))))))))))))))))
      (pss_one (ps_ret (pe_call G_l_one (hr.mono (by omega)) (by rfl) T.l_one.g T.l_one.F.kp T.l_one.b .nil pass0 (pa_cons (pv 0) (pa_cons (pe_op op_catL (pv 2) (pe_lstA (pa_cons (pe_frzK (pe_disp (pps_cons pe_str (pv 1) pps_nil) (by rfl) (by rfl) (fun z => by cases z) (by decide))) (pa_cons (pe_tupA (pa_cons pe_str (pa_cons pe_str pa_nil))) (pa_cons (pe_tupA (pa_cons (pe_tupA (pa_cons pe_int (pa_cons pe_str pa_nil))) pa_nil)) pa_nil))))) pa_nil))))))), ?_⟩
  walk_at "go"
  intro r H1 r0 r1 D1 k1
  walk_at "go"
  have e9 : (10 : Int) ^ Int.toNat 9 = 1000000000 := by decide
  have e8 : (10 : Int) ^ Int.toNat 8 = 100000000 := by decide
  rw [e9] at r1
  have hmv : (r - 5 * 10 ^ Int.toNat 8).natAbs ≤ 1000000000 := by rw [e8]; omega
  have lg : (r - 5 * 10 ^ Int.toNat 8).natAbs.log2 < 1920 := by
    by_cases z : (r - 5 * 10 ^ Int.toNat 8).natAbs = 0
    · rw [z]; decide
    · refine (Nat.log2_lt z).mpr (Nat.lt_of_le_of_lt hmv ?_)
      decide +kernel
  walk_at "go"
  intro p21 H21 hp21 e21
  have k21 := new_kp hp21 e21
  have a21 := new_at e21
  have t21 : Tq H21 (.tuple []) (.ref p21) := mq_tup a21 tqs_nil
  walk_at "go"
  intro p22 H22 hp22 e22
  have k22 := new_kp hp22 e22
  have a22 := new_at e22
  have t22 : Tq H22 (.tuple [.int (r - 5 * 10 ^ Int.toNat 8)]) (.ref p22) := mq_tup a22 (tqs_cons mq_int tqs_nil)
  walk_at "go"
  intro p23 H23 o23 hp23 n23 a23 k23
  have t23 : Tq H23 (.list [.int (r - 5 * 10 ^ Int.toNat 8)]) (.ref p23) := mq_lst n23 a23 (tqs_cons mq_int tqs_nil)
  walk_at "go"
  intro p24 H24 hp24 e24
  have k24 := new_kp hp24 e24
  have a24 := new_at e24
  have t24 : Tq H24 (.tuple [.none, .str "places"]) (.ref p24) := mq_tup a24 (tqs_cons mq_non (tqs_cons mq_str tqs_nil))
  walk_at "go"
  intro p25 H25 hp25 e25
  have k25 := new_kp hp25 e25
  have a25 := new_at e25
  have t25 : Tq H25 (.tuple [.int 1]) (.ref p25) := mq_tup a25 (tqs_cons mq_int tqs_nil)
  walk_at "go"
  intro p26 H26 hp26 e26
  have k26 := new_kp hp26 e26
  have a26 := new_at e26
  have t26 : Tq H26 (.tuple [.tuple [.int 1], .bool true]) (.ref p26) := mq_tup a26 (tqs_cons (k26.tq t25) (tqs_cons mq_bl tqs_nil))
  walk_at "go"
  intro p27 hp27
  refine ⟨_, [], rfl, upd_same, fun o27 H27 e27 => ?_⟩
  obtain ⟨k27, a27⟩ := kp_frz hp27 e27
  have t27 : Tq H27 (.dict (kvD [])) (.ref p27) := mq_dct a27
  walk_at "go"
  intro p28 H28 hp28 e28
  have k28 := new_kp hp28 e28
  have a28 := new_at e28
  have t28 : TqAll H28 [.none, .bool true, .bool false, .int 0, .int 1, .int (r - 5 * 10 ^ Int.toNat 8), .str (Str.ofString (toString (r - 5 * 10 ^ Int.toNat 8))), .str "", .tuple [], .tuple [.int (r - 5 * 10 ^ Int.toNat 8)], .list [.int (r - 5 * 10 ^ Int.toNat 8)], .tuple [.none, .str "places"], .tuple [.tuple [.int 1], .bool true], .dict (kvD [])] _ := (tqs_cons mq_non (tqs_cons mq_bl (tqs_cons mq_bl (tqs_cons mq_int (tqs_cons mq_int (tqs_cons mq_int (tqs_cons mq_str (tqs_cons mq_str (tqs_cons ((k22.trans (k23.trans (k24.trans (k25.trans (k26.trans (k27.trans k28)))))).tq t21) (tqs_cons ((k23.trans (k24.trans (k25.trans (k26.trans (k27.trans k28))))).tq t22) (tqs_cons ((k24.trans (k25.trans (k26.trans (k27.trans k28)))).tq t23) (tqs_cons ((k25.trans (k26.trans (k27.trans k28))).tq t24) (tqs_cons ((k27.trans k28).tq t26) (tqs_cons (k28.tq t27) tqs_nil))))))))))))))
  have g28 : ∀ d ∈ ([.none, .bool true, .bool false, .int 0, .int 1, .int (r - 5 * 10 ^ Int.toNat 8), .str (Str.ofString (toString (r - 5 * 10 ^ Int.toNat 8))), .str "", .tuple [], .tuple [.int (r - 5 * 10 ^ Int.toNat 8)], .list [.int (r - 5 * 10 ^ Int.toNat 8)], .tuple [.none, .str "places"], .tuple [.tuple [.int 1], .bool true], .dict (kvD [])] : List PyData), V0 d := (v0s_cons (v0_odd (by decide +kernel)) (v0s_cons (v0_odd (by decide +kernel)) (v0s_cons (v0_odd (by decide +kernel)) (v0s_cons (v0_odd (by decide +kernel)) (v0s_cons (v0_odd (by decide +kernel)) (v0s_cons ((bk_mid hmv).mono (by decide) (by decide)) (v0s_cons ((bk_txt hmv).mono (by decide) (by decide)) (v0s_cons (v0_odd (by decide +kernel)) (v0s_cons (v0_odd (by decide +kernel)) (v0s_cons (v0_tup hmv) (v0s_cons (v0_lst hmv) (v0s_cons (v0_odd (by decide +kernel)) (v0s_cons (v0_odd (by decide +kernel)) (v0s_cons (v0_odd (by decide +kernel)) v0s_nil))))))))))))))
  walk_at "go"
  intro p29 hp29
  walk_at "go"
  refine ⟨upd_same, [(Sum.inr "a", V.int (r - 5 * 10 ^ Int.toNat 8))], rfl, by show 1 ≤ 15; decide, ?_⟩
  refine ⟨_, [(Sum.inr "a", V.int (r - 5 * 10 ^ Int.toNat 8))], rfl, by rw [upd_same]; rfl, fun o29 H29 e29 => ?_⟩
  obtain ⟨k29, a29⟩ := kp_frz2 hp29 e29
  have t29 : Tq H29 (.dict (kvD [("a", (r - 5 * 10 ^ Int.toNat 8))])) (.ref p29) := mq_dct a29
  walk_at "go"
  intro p30 H30 hp30 e30
  have k30 := new_kp hp30 e30
  have a30 := new_at e30
  have t30 : Tq H30 (.tuple [.str "tell", .str "n"]) (.ref p30) := mq_tup a30 (tqs_cons mq_str (tqs_cons mq_str tqs_nil))
  walk_at "go"
  intro p31 H31 hp31 e31
  have k31 := new_kp hp31 e31
  have a31 := new_at e31
  have t31 : Tq H31 (.tuple [.int 0, .str "up"]) (.ref p31) := mq_tup a31 (tqs_cons mq_int (tqs_cons mq_str tqs_nil))
  walk_at "go"
  intro p32 H32 hp32 e32
  have k32 := new_kp hp32 e32
  have a32 := new_at e32
  have t32 : Tq H32 (.tuple [.tuple [.int 0, .str "up"]]) (.ref p32) := mq_tup a32 (tqs_cons (k32.tq t31) tqs_nil)
  walk_at "go"
  intro p33 H33 hp33 e33
  have k33 := new_kp hp33 e33
  have a33 := new_at e33
  have t33 : TqAll H33 [.dict (kvD [("a", (r - 5 * 10 ^ Int.toNat 8))]), .tuple [.str "tell", .str "n"], .tuple [.tuple [.int 0, .str "up"]]] _ := (tqs_cons ((k30.trans (k31.trans (k32.trans k33))).tq t29) (tqs_cons ((k31.trans (k32.trans k33)).tq t30) (tqs_cons (k33.tq t32) tqs_nil)))
  have g33 : ∀ d ∈ ([.dict (kvD [("a", (r - 5 * 10 ^ Int.toNat 8))]), .tuple [.str "tell", .str "n"], .tuple [.tuple [.int 0, .str "up"]]] : List PyData), V0 d := (v0s_cons ((bk_dic hmv).mono (by decide) (by decide)) (v0s_cons (v0_odd (by decide +kernel)) (v0s_cons (v0_odd (by decide +kernel)) v0s_nil)))
  have s33 := (k29.trans (k30.trans (k31.trans (k32.trans k33)))).at a28
  walk_at "go"
  intro p34 H34 hp34 a34 k34
  have t34 := TqAll.append ((k29.trans (k30.trans (k31.trans (k32.trans (k33.trans k34))))).tqAll t28) (k34.tqAll t33)
  have g34 := v0s_app g28 g33
  have DP := D1.kp0 (k21.trans (k22.trans (k23.trans (k24.trans (k25.trans (k26.trans (k27.trans (k28.trans (k29.trans (k30.trans (k31.trans (k32.trans k33))))))))))))
  have off := DP.off hp34
  have DD := DP.kp0 k34
  have nB : _ = 17 := TqAll.length t34
  have nB0 := Nat.lt_of_lt_of_eq (show 0 < 17 by decide) nB.symm
  have nB1 := Nat.le_trans (Nat.le_of_eq nB) (show 17 ≤ 1000000 by decide)
  walk_at "go"
  intro y HZ hy DZ kZ
  obtain ⟨dd, hd, td⟩ := TqAll.mem t34 hy
  exact q y dd HZ _ (kZ.tq td) ((g34 dd hd).shw (by decide) (by decide)) (by omega) (by omega) DZ ((k1.step0 (k21.trans (k22.trans (k23.trans (k24.trans (k25.trans (k26.trans (k27.trans (k28.trans (k29.trans (k30.trans (k31.trans (k32.trans (k33.trans k34)))))))))))))).trans kZ)
end
section
variable {P : Program} {w : World} {K : PySem.W.Frag} {mg : Str → Option Value} {base : Heap}
theorem ok_law (T : Top K mg) : FnG P w K mg base CX0 33 T.law.f T.law.fd ["_law_script"] (spLaw K) := by
  have G_l_deck := ok_l_deck (P := P) (w := w) (base := base) (k := 0) T
  have G_l_value := ok_l_value0 (P := P) (w := w) (base := base) T
  have G_l_kinds_right := ok_l_kinds_right0 (P := P) (w := w) (base := base) T
  have G_l_fields_right := ok_l_fields_right0 (P := P) (w := w) (base := base) T
  have G_l_bounds := ok_l_bounds0 (P := P) (w := w) (base := base) (k := 0) T
  refine Fun.okG T.law.F sc_law (fun vs H Q E h => ?_) (fun cdv A outer s H vs Q E fr hr h => ?_)
  · obtain ⟨a, ns, rfl, _⟩ := h
    rfl
  obtain ⟨sa, ns, rfl, hS, hl, q⟩ := h
  have hu64 := hr.units
  have hu := hu_of hr
  refine ⟨_, (pss_cons (ps_set (i := 1) sc_law.nd rfl (.inl rfl) (pe_call G_l_deck (hr.mono (by omega)) (by rfl) T.l_deck.g T.l_deck.F.kp T.l_deck.b .nil pass0 (pa_cons (pv 0) pa_nil)))
      (pss_cons (ps_forA (ps_for PassesOwn.never rfl (pi_range1 (by rfl) T.range (pa_cons pe_int pa_nil)) (pg_name (i := 2) sc_law.nd rfl (.inl rfl)) (pss_cons (ps_par (i := 3) (j := 4) (by rfl) sc_law.nd rfl rfl (by decide) rfl rfl (pa_cons (pe_call G_l_value (hr.mono (by omega)) (by rfl) T.l_value.g T.l_value.F.kp T.l_value.b .nil pass0 (pa_cons (pv 1) pa_nil)) (pa_cons (pe_call G_l_value (hr.mono (by omega)) (by rfl) T.l_value.g T.l_value.F.kp T.l_value.b .nil pass0 (pa_cons (pv 1) pa_nil)) pa_nil)) (by rfl))
      (pss_one (ps_if (PW.pt (pw_or (pt_not (pt_val (pe_call G_l_kinds_right (hr.mono (by omega)) (by rfl) T.l_kinds_right.g T.l_kinds_right.F.kp T.l_kinds_right.b .nil pass0 (pa_cons (pv 3) pa_nil)))) (pw_or1 (pt_not (pt_val (pe_callG G_l_fields_right fr (hr.mono (by omega)) (by rfl) T.l_fields_right.g T.l_fields_right.F.kp T.l_fields_right.b .nil pass0 (pa_cons (pv 3) (pa_cons (pv 4) pa_nil)))))))) (pss_one (ps_ret pe_bl)) pss_nil)))))
      (pss_one (ps_ret (pe_cmpR op_eq (pe_callB (id := "repr") (call_reprLs fr hu64) (by rfl) T.repr (by decide +kernel) (pa_cons (pe_call0 G_l_bounds (hr.mono (by omega)) (by rfl) T.l_bounds.g T.l_bounds.F.kp T.l_bounds.b .nil pass0) pa_nil)) (pe_callB (id := "repr") (call_reprLs fr hu64) (by rfl) T.repr (by decide +kernel) (pa_cons (pe_lstA (pa_cons pe_int (pa_cons pe_int (pa_cons pe_int (pa_cons pe_int (pa_cons pe_int (pa_cons pe_int (pa_cons pe_int (pa_cons pe_int (pa_cons pe_int (pa_cons pe_int (pa_cons pe_int (pa_cons pe_int (pa_cons pe_int (pa_cons pe_int (pa_cons pe_int pa_nil)))))))))))))))) pa_nil)) (nomark _)))))), ?_⟩
  walk_at "go"
  intro a c H1 ha hc k1 D1
  walk_at "go"
  refine ⟨for_range (lo := 0) (n := Int.toNat 4) (fun i σ X => Lp (∃ (w2 w3 w4 : Option V) (m : Int), σ = [some (.ref sa), some (.ref a), w2, w3, w4] ∧ Deck X a c m ∧ 0 ≤ m ∧ m ≤ (i : Int) * 10)) ⟨_, _, _, 0, rfl, D1, by decide, by simp⟩ ?_ ?_⟩
  · rintro i σ X hi ⟨⟨w2, w3, w4, m, rfl, DX, m0, mu⟩⟩
    have hi4 : i < 4 := hi
    have hm : m ≤ 1000 := by omega
    walk_at "go"
    intro t1 d1 X1 m1 tq1 sw1 ma1 mb1 D2 k2
    have hm1 : m1 ≤ 1000 := by omega
    walk_at "go"
    intro t2 d2 X2 m2 tq2 sw2 ma2 mb2 D3 k3
    have tq12 := k3.tq tq1
    walk_at "go"
    intro X3 k4
    have tq13 := k4.tq tq12
    have D4 := D3.kp0 k4
    walk_at "go"
    intro X4 k5
    have D5 := D4.kp0 k5
    walk_at "go"
    exact ⟨⟨_, _, _, m2, rfl, D5, by omega, by omega⟩⟩
  · rintro σ X ⟨⟨w2, w3, w4, m, rfl, DX, m0, mu⟩⟩
    have swL : Shw (.list ([8, 8, 8, 3, 2, 24, 60, 4, 3, 3, 40, 60, 20, 60, 60].map PyData.int)) := ⟨by decide +kernel, by decide +kernel, by decide +kernel⟩
    walk_at "go"
    intro p1 X1 hp1 k2
    have tr1 : TrAll X1 _ _ := trs_ints0 [8, 8, 8, 3, 2, 24, 60, 4, 3, 3, 40, 60, 20, 60, 60]
    walk_at "go"
    intro z1 ez1
    walk_at "go"
    intro p2 X2 hr2 er2
    have hp2 : X2 p2 = some (.lst ([8, 8, 8, 3, 2, 24, 60, 4, 3, 3, 40, 60, 20, 60, 60].map V.int)) := new_at er2
    have tr2 : TrAll X2 _ _ := trs_ints0 [8, 8, 8, 3, 2, 24, 60, 4, 3, 3, 40, 60, 20, 60, 60]
    walk_at "go"
    intro z2 ez2
    cases ez1.trans ez2.symm
    walk_at "go"
    rw [show decide (V.str z1 = V.str z1) = true by simp]
    exact q _
end
end EH
namespace EH
open PySem L2 PyProof.Rows
theorem all_mk {P : Program} {w : World} {K : PySem.W.Frag} {h : Heap} {mg : Str → Option Value} {fa : Addr} (X : K.In h) (G : h.Ns mainGlobals mg) (hfa : mg "law" = some (.ref fa))
    {C_HalfError : Addr}
    {C_BadText : Addr}
    {C_BadProgram : Addr}
    {C_BadFix : Addr}
    {C_BadWay : Addr}
    {C_BadNumber : Addr}
    {C_BadChoices : Addr}
    {C_NoHalf : Addr}
    {C_PinThere : Addr}
    {C_NoPin : Addr}
    {C_BadEdit : Addr}
    {C_Rejected : Addr}
    {C_NoPlace : Addr}
    {C_NoVersion : Addr}
    {C_Unsure : Addr}
    {C_Busy : Addr}
    {C_TooManyEdits : Addr}
    {C_NothingToUndo : Addr}
    {C_NothingToRedo : Addr}
    {C_BadEdits : Addr}
    {C_Bench : Addr}
    {C_SureBench : Addr}
    {f1 : Addr} {od1 an1 : Option Addr} {sl1 : Array (Option Value)} {oc1 kV1 dc1 pm1 cd1 ct1 : Value}
    {f2 : Addr} {od2 an2 : Option Addr} {sl2 : Array (Option Value)} {oc2 kV2 dc2 pm2 cd2 ct2 : Value}
    {f3 : Addr} {od3 an3 : Option Addr} {sl3 : Array (Option Value)} {oc3 kV3 dc3 pm3 cd3 ct3 : Value}
    {f4 : Addr} {od4 an4 : Option Addr} {sl4 : Array (Option Value)} {oc4 kV4 dc4 pm4 cd4 ct4 : Value}
    {f5 : Addr} {od5 an5 : Option Addr} {sl5 : Array (Option Value)} {oc5 kV5 dc5 pm5 cd5 ct5 : Value}
    {f6 : Addr} {od6 an6 : Option Addr} {sl6 : Array (Option Value)} {oc6 kV6 dc6 pm6 cd6 ct6 : Value}
    {f7 : Addr} {od7 an7 : Option Addr} {sl7 : Array (Option Value)} {oc7 kV7 dc7 pm7 cd7 ct7 : Value}
    {f8 : Addr} {od8 an8 : Option Addr} {sl8 : Array (Option Value)} {oc8 kV8 dc8 pm8 cd8 ct8 : Value}
    {f9 : Addr} {od9 an9 : Option Addr} {sl9 : Array (Option Value)} {oc9 kV9 dc9 pm9 cd9 ct9 : Value}
    {f10 : Addr} {od10 an10 : Option Addr} {sl10 : Array (Option Value)} {oc10 kV10 dc10 pm10 cd10 ct10 : Value}
    {f11 : Addr} {od11 an11 : Option Addr} {sl11 : Array (Option Value)} {oc11 kV11 dc11 pm11 cd11 ct11 : Value}
    {f12 : Addr} {od12 an12 : Option Addr} {sl12 : Array (Option Value)} {oc12 kV12 dc12 pm12 cd12 ct12 : Value}
    {f13 : Addr} {od13 an13 : Option Addr} {sl13 : Array (Option Value)} {oc13 kV13 dc13 pm13 cd13 ct13 : Value}
    {f14 : Addr} {od14 an14 : Option Addr} {sl14 : Array (Option Value)} {oc14 kV14 dc14 pm14 cd14 ct14 : Value}
    {f15 : Addr} {od15 an15 : Option Addr} {sl15 : Array (Option Value)} {oc15 kV15 dc15 pm15 cd15 ct15 : Value}
    {f16 : Addr} {od16 an16 : Option Addr} {sl16 : Array (Option Value)} {oc16 kV16 dc16 pm16 cd16 ct16 : Value}
    {f17 : Addr} {od17 an17 : Option Addr} {sl17 : Array (Option Value)} {oc17 kV17 dc17 pm17 cd17 ct17 : Value}
    {f18 : Addr} {od18 an18 : Option Addr} {sl18 : Array (Option Value)} {oc18 kV18 dc18 pm18 cd18 ct18 : Value}
    {f19 : Addr} {od19 an19 : Option Addr} {sl19 : Array (Option Value)} {oc19 kV19 dc19 pm19 cd19 ct19 : Value}
    {f20 : Addr} {od20 an20 : Option Addr} {sl20 : Array (Option Value)} {oc20 kV20 dc20 pm20 cd20 ct20 : Value}
    {f21 : Addr} {od21 an21 : Option Addr} {sl21 : Array (Option Value)} {oc21 kV21 dc21 pm21 cd21 ct21 : Value}
    {f22 : Addr} {od22 an22 : Option Addr} {sl22 : Array (Option Value)} {oc22 kV22 dc22 pm22 cd22 ct22 : Value}
    {f23 : Addr} {od23 an23 : Option Addr} {sl23 : Array (Option Value)} {oc23 kV23 dc23 pm23 cd23 ct23 : Value}
    {t_MAX_NAME : Tok}
    {t_MAX_WORD : Tok}
    {t_MAX_TIMES : Tok}
    {t_MAX_DEEP : Tok}
    {t_MAX_NOTS : Tok}
    {t_MAX_PLACES : Tok}
    {t_MAX_WEIGHT : Tok}
    {t_MAX_HALVINGS : Tok}
    {t_MAX_COMPARINGS : Tok}
    {t_MAX_NEST : Tok}
    {t_MAX_POWER : Tok}
    {t_MAX_EDITS : Tok}
    {t_BATCH : Tok}
    {t_LETTERS : Tok}
    {t_SIGNS : Tok}
    {t_MOST_NUMBER : Tok}
    {t_MOST_FACTOR : Tok}
    {t_DOWN : Tok}
    {t_INPUT : Tok}
    {a_KEPT : Addr}
    {a_WAYS_benchedits : Addr}
    {a_FREE : Addr}
    {a_WHOLE : Addr}
    {a_WAYS_fixes : Addr}
    (aC_HalfError : PySem.W.nsIn K mainGlobals "HalfError" = some (some (.ref C_HalfError)))
    (ga_HalfError : PySem.W.specialIn K (.ref C_HalfError) "__getattribute__" = some (some (.builtin "type.__getattribute__")))
    (rd_HalfError : PySem.W.readsIn K C_HalfError (.type "type") = true)
    (ini_HalfError : PySem.W.findCls K (.ref C_HalfError) (.type "type") "__init__" = some (.val (.builtin "ValueError.__init__")))
    (aC_BadText : PySem.W.nsIn K mainGlobals "BadText" = some (some (.ref C_BadText)))
    (xL_BadText : ∃ nm q N bs bm sn sub ab col dd k0 k1 k2 k3 k5, K.lookup C_BadText = some (excClassObj nm q C_BadText N bs bm true sn sub ab col dd k0 k1 k2 k3 k5 "ValueError.__new__") ∧ PySem.HandSPX.refsVE bm = true)
    (sa_BadText : PySem.W.findIn K (.ref C_BadText) "__setattr__" = some (some (.builtin "object.__setattr__")))
    (ga_BadText : PySem.W.findIn K (.ref C_BadText) "__getattribute__" = some (some (.builtin "BaseException.__getattribute__")))
    (gg_BadText : PySem.W.findIn K (.ref C_BadText) "__getattr__" = some none)
    (no_BadText : PySem.W.findIn K (.ref C_BadText) "line" = some none)
    (kc_BadText : PySem.W.keepIn K (.ref C_BadText) = true)
    (ex_BadText : PySem.W.subIn K (.ref C_BadText) (.type "BaseException") = some true)
    (ty_BadText : PySem.W.typeIn K (.ref C_BadText) = some (.type "type"))
    (hd_BadText : PySem.W.hasDictIn K C_BadText = true)
    (ic_BadText : PySem.W.isClsIn K C_BadText = true)
    (sc_BadText : PySem.W.subIn K (.ref C_BadText) (.ref C_BadText) = some true)
    (aC_BadProgram : PySem.W.nsIn K mainGlobals "BadProgram" = some (some (.ref C_BadProgram)))
    (xL_BadProgram : ∃ nm q N bs bm sn sub ab col dd k0 k1 k2 k3 k5, K.lookup C_BadProgram = some (excClassObj nm q C_BadProgram N bs bm true sn sub ab col dd k0 k1 k2 k3 k5 "ValueError.__new__") ∧ PySem.HandSPX.refsVE bm = true)
    (sa_BadProgram : PySem.W.findIn K (.ref C_BadProgram) "__setattr__" = some (some (.builtin "object.__setattr__")))
    (ga_BadProgram : PySem.W.findIn K (.ref C_BadProgram) "__getattribute__" = some (some (.builtin "BaseException.__getattribute__")))
    (gg_BadProgram : PySem.W.findIn K (.ref C_BadProgram) "__getattr__" = some none)
    (no_BadProgram : PySem.W.findIn K (.ref C_BadProgram) "error" = some none)
    (kc_BadProgram : PySem.W.keepIn K (.ref C_BadProgram) = true)
    (ex_BadProgram : PySem.W.subIn K (.ref C_BadProgram) (.type "BaseException") = some true)
    (ty_BadProgram : PySem.W.typeIn K (.ref C_BadProgram) = some (.type "type"))
    (hd_BadProgram : PySem.W.hasDictIn K C_BadProgram = true)
    (ic_BadProgram : PySem.W.isClsIn K C_BadProgram = true)
    (sc_BadProgram : PySem.W.subIn K (.ref C_BadProgram) (.ref C_BadProgram) = some true)
    (aC_BadFix : PySem.W.nsIn K mainGlobals "BadFix" = some (some (.ref C_BadFix)))
    (xL_BadFix : ∃ nm q N bs bm sn sub ab col dd k0 k1 k2 k3 k5, K.lookup C_BadFix = some (excClassObj nm q C_BadFix N bs bm true sn sub ab col dd k0 k1 k2 k3 k5 "ValueError.__new__") ∧ PySem.HandSPX.refsVE bm = true)
    (sa_BadFix : PySem.W.findIn K (.ref C_BadFix) "__setattr__" = some (some (.builtin "object.__setattr__")))
    (ga_BadFix : PySem.W.findIn K (.ref C_BadFix) "__getattribute__" = some (some (.builtin "BaseException.__getattribute__")))
    (gg_BadFix : PySem.W.findIn K (.ref C_BadFix) "__getattr__" = some none)
    (no_BadFix : PySem.W.findIn K (.ref C_BadFix) "value" = some none)
    (kc_BadFix : PySem.W.keepIn K (.ref C_BadFix) = true)
    (ex_BadFix : PySem.W.subIn K (.ref C_BadFix) (.type "BaseException") = some true)
    (ty_BadFix : PySem.W.typeIn K (.ref C_BadFix) = some (.type "type"))
    (hd_BadFix : PySem.W.hasDictIn K C_BadFix = true)
    (ic_BadFix : PySem.W.isClsIn K C_BadFix = true)
    (sc_BadFix : PySem.W.subIn K (.ref C_BadFix) (.ref C_BadFix) = some true)
    (aC_BadWay : PySem.W.nsIn K mainGlobals "BadWay" = some (some (.ref C_BadWay)))
    (xL_BadWay : ∃ nm q N bs bm sn sub ab col dd k0 k1 k2 k3 k5, K.lookup C_BadWay = some (excClassObj nm q C_BadWay N bs bm true sn sub ab col dd k0 k1 k2 k3 k5 "ValueError.__new__") ∧ PySem.HandSPX.refsVE bm = true)
    (sa_BadWay : PySem.W.findIn K (.ref C_BadWay) "__setattr__" = some (some (.builtin "object.__setattr__")))
    (ga_BadWay : PySem.W.findIn K (.ref C_BadWay) "__getattribute__" = some (some (.builtin "BaseException.__getattribute__")))
    (gg_BadWay : PySem.W.findIn K (.ref C_BadWay) "__getattr__" = some none)
    (no_BadWay : PySem.W.findIn K (.ref C_BadWay) "way" = some none)
    (kc_BadWay : PySem.W.keepIn K (.ref C_BadWay) = true)
    (ex_BadWay : PySem.W.subIn K (.ref C_BadWay) (.type "BaseException") = some true)
    (ty_BadWay : PySem.W.typeIn K (.ref C_BadWay) = some (.type "type"))
    (hd_BadWay : PySem.W.hasDictIn K C_BadWay = true)
    (ic_BadWay : PySem.W.isClsIn K C_BadWay = true)
    (sc_BadWay : PySem.W.subIn K (.ref C_BadWay) (.ref C_BadWay) = some true)
    (aC_BadNumber : PySem.W.nsIn K mainGlobals "BadNumber" = some (some (.ref C_BadNumber)))
    (xL_BadNumber : ∃ nm q N bs bm sn sub ab col dd k0 k1 k2 k3 k5, K.lookup C_BadNumber = some (excClassObj nm q C_BadNumber N bs bm true sn sub ab col dd k0 k1 k2 k3 k5 "ValueError.__new__") ∧ PySem.HandSPX.refsVE bm = true)
    (sa_BadNumber : PySem.W.findIn K (.ref C_BadNumber) "__setattr__" = some (some (.builtin "object.__setattr__")))
    (ga_BadNumber : PySem.W.findIn K (.ref C_BadNumber) "__getattribute__" = some (some (.builtin "BaseException.__getattribute__")))
    (gg_BadNumber : PySem.W.findIn K (.ref C_BadNumber) "__getattr__" = some none)
    (no_BadNumber : PySem.W.findIn K (.ref C_BadNumber) "number" = some none)
    (kc_BadNumber : PySem.W.keepIn K (.ref C_BadNumber) = true)
    (ex_BadNumber : PySem.W.subIn K (.ref C_BadNumber) (.type "BaseException") = some true)
    (ty_BadNumber : PySem.W.typeIn K (.ref C_BadNumber) = some (.type "type"))
    (hd_BadNumber : PySem.W.hasDictIn K C_BadNumber = true)
    (ic_BadNumber : PySem.W.isClsIn K C_BadNumber = true)
    (sc_BadNumber : PySem.W.subIn K (.ref C_BadNumber) (.ref C_BadNumber) = some true)
    (aC_BadChoices : PySem.W.nsIn K mainGlobals "BadChoices" = some (some (.ref C_BadChoices)))
    (xL_BadChoices : ∃ nm q N bs bm sn sub ab col dd k0 k1 k2 k3 k5, K.lookup C_BadChoices = some (excClassObj nm q C_BadChoices N bs bm true sn sub ab col dd k0 k1 k2 k3 k5 "ValueError.__new__") ∧ PySem.HandSPX.refsVE bm = true)
    (sa_BadChoices : PySem.W.findIn K (.ref C_BadChoices) "__setattr__" = some (some (.builtin "object.__setattr__")))
    (ga_BadChoices : PySem.W.findIn K (.ref C_BadChoices) "__getattribute__" = some (some (.builtin "BaseException.__getattribute__")))
    (gg_BadChoices : PySem.W.findIn K (.ref C_BadChoices) "__getattr__" = some none)
    (no_BadChoices : PySem.W.findIn K (.ref C_BadChoices) "choices" = some none)
    (kc_BadChoices : PySem.W.keepIn K (.ref C_BadChoices) = true)
    (ex_BadChoices : PySem.W.subIn K (.ref C_BadChoices) (.type "BaseException") = some true)
    (ty_BadChoices : PySem.W.typeIn K (.ref C_BadChoices) = some (.type "type"))
    (hd_BadChoices : PySem.W.hasDictIn K C_BadChoices = true)
    (ic_BadChoices : PySem.W.isClsIn K C_BadChoices = true)
    (sc_BadChoices : PySem.W.subIn K (.ref C_BadChoices) (.ref C_BadChoices) = some true)
    (aC_NoHalf : PySem.W.nsIn K mainGlobals "NoHalf" = some (some (.ref C_NoHalf)))
    (xL_NoHalf : ∃ nm q N bs bm sn sub ab col dd k0 k1 k2 k3 k5, K.lookup C_NoHalf = some (excClassObj nm q C_NoHalf N bs bm true sn sub ab col dd k0 k1 k2 k3 k5 "ValueError.__new__") ∧ PySem.HandSPX.refsVE bm = true)
    (sa_NoHalf : PySem.W.findIn K (.ref C_NoHalf) "__setattr__" = some (some (.builtin "object.__setattr__")))
    (ga_NoHalf : PySem.W.findIn K (.ref C_NoHalf) "__getattribute__" = some (some (.builtin "BaseException.__getattribute__")))
    (gg_NoHalf : PySem.W.findIn K (.ref C_NoHalf) "__getattr__" = some none)
    (no_NoHalf : PySem.W.findIn K (.ref C_NoHalf) "place" = some none)
    (kc_NoHalf : PySem.W.keepIn K (.ref C_NoHalf) = true)
    (ex_NoHalf : PySem.W.subIn K (.ref C_NoHalf) (.type "BaseException") = some true)
    (ty_NoHalf : PySem.W.typeIn K (.ref C_NoHalf) = some (.type "type"))
    (hd_NoHalf : PySem.W.hasDictIn K C_NoHalf = true)
    (ic_NoHalf : PySem.W.isClsIn K C_NoHalf = true)
    (sc_NoHalf : PySem.W.subIn K (.ref C_NoHalf) (.ref C_NoHalf) = some true)
    (aC_PinThere : PySem.W.nsIn K mainGlobals "PinThere" = some (some (.ref C_PinThere)))
    (xL_PinThere : ∃ nm q N bs bm sn sub ab col dd k0 k1 k2 k3 k5, K.lookup C_PinThere = some (excClassObj nm q C_PinThere N bs bm true sn sub ab col dd k0 k1 k2 k3 k5 "ValueError.__new__") ∧ PySem.HandSPX.refsVE bm = true)
    (sa_PinThere : PySem.W.findIn K (.ref C_PinThere) "__setattr__" = some (some (.builtin "object.__setattr__")))
    (ga_PinThere : PySem.W.findIn K (.ref C_PinThere) "__getattribute__" = some (some (.builtin "BaseException.__getattribute__")))
    (gg_PinThere : PySem.W.findIn K (.ref C_PinThere) "__getattr__" = some none)
    (no_PinThere : PySem.W.findIn K (.ref C_PinThere) "place" = some none)
    (kc_PinThere : PySem.W.keepIn K (.ref C_PinThere) = true)
    (ex_PinThere : PySem.W.subIn K (.ref C_PinThere) (.type "BaseException") = some true)
    (ty_PinThere : PySem.W.typeIn K (.ref C_PinThere) = some (.type "type"))
    (hd_PinThere : PySem.W.hasDictIn K C_PinThere = true)
    (ic_PinThere : PySem.W.isClsIn K C_PinThere = true)
    (sc_PinThere : PySem.W.subIn K (.ref C_PinThere) (.ref C_PinThere) = some true)
    (aC_NoPin : PySem.W.nsIn K mainGlobals "NoPin" = some (some (.ref C_NoPin)))
    (xL_NoPin : ∃ nm q N bs bm sn sub ab col dd k0 k1 k2 k3 k5, K.lookup C_NoPin = some (excClassObj nm q C_NoPin N bs bm true sn sub ab col dd k0 k1 k2 k3 k5 "ValueError.__new__") ∧ PySem.HandSPX.refsVE bm = true)
    (sa_NoPin : PySem.W.findIn K (.ref C_NoPin) "__setattr__" = some (some (.builtin "object.__setattr__")))
    (ga_NoPin : PySem.W.findIn K (.ref C_NoPin) "__getattribute__" = some (some (.builtin "BaseException.__getattribute__")))
    (gg_NoPin : PySem.W.findIn K (.ref C_NoPin) "__getattr__" = some none)
    (no_NoPin : PySem.W.findIn K (.ref C_NoPin) "place" = some none)
    (kc_NoPin : PySem.W.keepIn K (.ref C_NoPin) = true)
    (ex_NoPin : PySem.W.subIn K (.ref C_NoPin) (.type "BaseException") = some true)
    (ty_NoPin : PySem.W.typeIn K (.ref C_NoPin) = some (.type "type"))
    (hd_NoPin : PySem.W.hasDictIn K C_NoPin = true)
    (ic_NoPin : PySem.W.isClsIn K C_NoPin = true)
    (sc_NoPin : PySem.W.subIn K (.ref C_NoPin) (.ref C_NoPin) = some true)
    (aC_BadEdit : PySem.W.nsIn K mainGlobals "BadEdit" = some (some (.ref C_BadEdit)))
    (xL_BadEdit : ∃ nm q N bs bm sn sub ab col dd k0 k1 k2 k3 k5, K.lookup C_BadEdit = some (excClassObj nm q C_BadEdit N bs bm true sn sub ab col dd k0 k1 k2 k3 k5 "ValueError.__new__") ∧ PySem.HandSPX.refsVE bm = true)
    (sa_BadEdit : PySem.W.findIn K (.ref C_BadEdit) "__setattr__" = some (some (.builtin "object.__setattr__")))
    (ga_BadEdit : PySem.W.findIn K (.ref C_BadEdit) "__getattribute__" = some (some (.builtin "BaseException.__getattribute__")))
    (gg_BadEdit : PySem.W.findIn K (.ref C_BadEdit) "__getattr__" = some none)
    (no_BadEdit : PySem.W.findIn K (.ref C_BadEdit) "index" = some none)
    (kc_BadEdit : PySem.W.keepIn K (.ref C_BadEdit) = true)
    (ex_BadEdit : PySem.W.subIn K (.ref C_BadEdit) (.type "BaseException") = some true)
    (ty_BadEdit : PySem.W.typeIn K (.ref C_BadEdit) = some (.type "type"))
    (hd_BadEdit : PySem.W.hasDictIn K C_BadEdit = true)
    (ic_BadEdit : PySem.W.isClsIn K C_BadEdit = true)
    (sc_BadEdit : PySem.W.subIn K (.ref C_BadEdit) (.ref C_BadEdit) = some true)
    (aC_Rejected : PySem.W.nsIn K mainGlobals "Rejected" = some (some (.ref C_Rejected)))
    (xL_Rejected : ∃ nm q N bs bm sn sub ab col dd k0 k1 k2 k3 k5, K.lookup C_Rejected = some (excClassObj nm q C_Rejected N bs bm true sn sub ab col dd k0 k1 k2 k3 k5 "ValueError.__new__") ∧ PySem.HandSPX.refsVE bm = true)
    (sa_Rejected : PySem.W.findIn K (.ref C_Rejected) "__setattr__" = some (some (.builtin "object.__setattr__")))
    (ga_Rejected : PySem.W.findIn K (.ref C_Rejected) "__getattribute__" = some (some (.builtin "BaseException.__getattribute__")))
    (gg_Rejected : PySem.W.findIn K (.ref C_Rejected) "__getattr__" = some none)
    (no_Rejected : PySem.W.findIn K (.ref C_Rejected) "index" = some none)
    (kc_Rejected : PySem.W.keepIn K (.ref C_Rejected) = true)
    (ex_Rejected : PySem.W.subIn K (.ref C_Rejected) (.type "BaseException") = some true)
    (ty_Rejected : PySem.W.typeIn K (.ref C_Rejected) = some (.type "type"))
    (hd_Rejected : PySem.W.hasDictIn K C_Rejected = true)
    (ic_Rejected : PySem.W.isClsIn K C_Rejected = true)
    (sc_Rejected : PySem.W.subIn K (.ref C_Rejected) (.ref C_Rejected) = some true)
    (aC_NoPlace : PySem.W.nsIn K mainGlobals "NoPlace" = some (some (.ref C_NoPlace)))
    (xM_NoPlace : ∃ nm q N bs sn sub ab col dd k0 k1 k2 k3 k5, K.lookup C_NoPlace = some (excClassObj nm q C_NoPlace N bs lkMro true sn sub ab col dd k0 k1 k2 k3 k5 "LookupError.__new__"))
    (sa_NoPlace : PySem.W.findIn K (.ref C_NoPlace) "__setattr__" = some (some (.builtin "object.__setattr__")))
    (ga_NoPlace : PySem.W.findIn K (.ref C_NoPlace) "__getattribute__" = some (some (.builtin "BaseException.__getattribute__")))
    (gg_NoPlace : PySem.W.findIn K (.ref C_NoPlace) "__getattr__" = some none)
    (no_NoPlace : PySem.W.findIn K (.ref C_NoPlace) "place" = some none)
    (kc_NoPlace : PySem.W.keepIn K (.ref C_NoPlace) = true)
    (ex_NoPlace : PySem.W.subIn K (.ref C_NoPlace) (.type "BaseException") = some true)
    (ty_NoPlace : PySem.W.typeIn K (.ref C_NoPlace) = some (.type "type"))
    (hd_NoPlace : PySem.W.hasDictIn K C_NoPlace = true)
    (ic_NoPlace : PySem.W.isClsIn K C_NoPlace = true)
    (sc_NoPlace : PySem.W.subIn K (.ref C_NoPlace) (.ref C_NoPlace) = some true)
    (aC_NoVersion : PySem.W.nsIn K mainGlobals "NoVersion" = some (some (.ref C_NoVersion)))
    (xM_NoVersion : ∃ nm q N bs sn sub ab col dd k0 k1 k2 k3 k5, K.lookup C_NoVersion = some (excClassObj nm q C_NoVersion N bs lkMro true sn sub ab col dd k0 k1 k2 k3 k5 "LookupError.__new__"))
    (sa_NoVersion : PySem.W.findIn K (.ref C_NoVersion) "__setattr__" = some (some (.builtin "object.__setattr__")))
    (ga_NoVersion : PySem.W.findIn K (.ref C_NoVersion) "__getattribute__" = some (some (.builtin "BaseException.__getattribute__")))
    (gg_NoVersion : PySem.W.findIn K (.ref C_NoVersion) "__getattr__" = some none)
    (no_NoVersion : PySem.W.findIn K (.ref C_NoVersion) "version" = some none)
    (kc_NoVersion : PySem.W.keepIn K (.ref C_NoVersion) = true)
    (ex_NoVersion : PySem.W.subIn K (.ref C_NoVersion) (.type "BaseException") = some true)
    (ty_NoVersion : PySem.W.typeIn K (.ref C_NoVersion) = some (.type "type"))
    (hd_NoVersion : PySem.W.hasDictIn K C_NoVersion = true)
    (ic_NoVersion : PySem.W.isClsIn K C_NoVersion = true)
    (sc_NoVersion : PySem.W.subIn K (.ref C_NoVersion) (.ref C_NoVersion) = some true)
    (aC_Unsure : PySem.W.nsIn K mainGlobals "Unsure" = some (some (.ref C_Unsure)))
    (xL_Unsure : ∃ nm q N bs bm sn sub ab col dd k0 k1 k2 k3 k5, K.lookup C_Unsure = some (excClassObj nm q C_Unsure N bs bm true sn sub ab col dd k0 k1 k2 k3 k5 "ValueError.__new__") ∧ PySem.HandSPX.refsVE bm = true)
    (sa_Unsure : PySem.W.findIn K (.ref C_Unsure) "__setattr__" = some (some (.builtin "object.__setattr__")))
    (ga_Unsure : PySem.W.findIn K (.ref C_Unsure) "__getattribute__" = some (some (.builtin "BaseException.__getattribute__")))
    (gg_Unsure : PySem.W.findIn K (.ref C_Unsure) "__getattr__" = some none)
    (no_Unsure : PySem.W.findIn K (.ref C_Unsure) "number" = some none)
    (np_Unsure : PySem.W.findIn K (.ref C_Unsure) "turns" = some none)
    (kc_Unsure : PySem.W.keepIn K (.ref C_Unsure) = true)
    (ex_Unsure : PySem.W.subIn K (.ref C_Unsure) (.type "BaseException") = some true)
    (ty_Unsure : PySem.W.typeIn K (.ref C_Unsure) = some (.type "type"))
    (hd_Unsure : PySem.W.hasDictIn K C_Unsure = true)
    (ic_Unsure : PySem.W.isClsIn K C_Unsure = true)
    (sc_Unsure : PySem.W.subIn K (.ref C_Unsure) (.ref C_Unsure) = some true)
    (aC_Busy : PySem.W.nsIn K mainGlobals "Busy" = some (some (.ref C_Busy)))
    (xn_Busy : PySem.W.excIn K C_Busy [.type "ValueError", .type "Exception", .type "BaseException", .type "object"] "ValueError.__new__" = true)
    (kc_Busy : PySem.W.keepIn K (.ref C_Busy) = true)
    (ex_Busy : PySem.W.subIn K (.ref C_Busy) (.type "BaseException") = some true)
    (ty_Busy : PySem.W.typeIn K (.ref C_Busy) = some (.type "type"))
    (ic_Busy : PySem.W.isClsIn K C_Busy = true)
    (sc_Busy : PySem.W.subIn K (.ref C_Busy) (.ref C_Busy) = some true)
    (aC_TooManyEdits : PySem.W.nsIn K mainGlobals "TooManyEdits" = some (some (.ref C_TooManyEdits)))
    (xn_TooManyEdits : PySem.W.excIn K C_TooManyEdits [.type "ValueError", .type "Exception", .type "BaseException", .type "object"] "ValueError.__new__" = true)
    (kc_TooManyEdits : PySem.W.keepIn K (.ref C_TooManyEdits) = true)
    (ex_TooManyEdits : PySem.W.subIn K (.ref C_TooManyEdits) (.type "BaseException") = some true)
    (ty_TooManyEdits : PySem.W.typeIn K (.ref C_TooManyEdits) = some (.type "type"))
    (ic_TooManyEdits : PySem.W.isClsIn K C_TooManyEdits = true)
    (sc_TooManyEdits : PySem.W.subIn K (.ref C_TooManyEdits) (.ref C_TooManyEdits) = some true)
    (aC_NothingToUndo : PySem.W.nsIn K mainGlobals "NothingToUndo" = some (some (.ref C_NothingToUndo)))
    (xn_NothingToUndo : PySem.W.excIn K C_NothingToUndo [.type "ValueError", .type "Exception", .type "BaseException", .type "object"] "ValueError.__new__" = true)
    (kc_NothingToUndo : PySem.W.keepIn K (.ref C_NothingToUndo) = true)
    (ex_NothingToUndo : PySem.W.subIn K (.ref C_NothingToUndo) (.type "BaseException") = some true)
    (ty_NothingToUndo : PySem.W.typeIn K (.ref C_NothingToUndo) = some (.type "type"))
    (ic_NothingToUndo : PySem.W.isClsIn K C_NothingToUndo = true)
    (sc_NothingToUndo : PySem.W.subIn K (.ref C_NothingToUndo) (.ref C_NothingToUndo) = some true)
    (aC_NothingToRedo : PySem.W.nsIn K mainGlobals "NothingToRedo" = some (some (.ref C_NothingToRedo)))
    (xn_NothingToRedo : PySem.W.excIn K C_NothingToRedo [.type "ValueError", .type "Exception", .type "BaseException", .type "object"] "ValueError.__new__" = true)
    (kc_NothingToRedo : PySem.W.keepIn K (.ref C_NothingToRedo) = true)
    (ex_NothingToRedo : PySem.W.subIn K (.ref C_NothingToRedo) (.type "BaseException") = some true)
    (ty_NothingToRedo : PySem.W.typeIn K (.ref C_NothingToRedo) = some (.type "type"))
    (ic_NothingToRedo : PySem.W.isClsIn K C_NothingToRedo = true)
    (sc_NothingToRedo : PySem.W.subIn K (.ref C_NothingToRedo) (.ref C_NothingToRedo) = some true)
    (aC_BadEdits : PySem.W.nsIn K mainGlobals "BadEdits" = some (some (.ref C_BadEdits)))
    (xn_BadEdits : PySem.W.excIn K C_BadEdits [.type "ValueError", .type "Exception", .type "BaseException", .type "object"] "ValueError.__new__" = true)
    (kc_BadEdits : PySem.W.keepIn K (.ref C_BadEdits) = true)
    (ex_BadEdits : PySem.W.subIn K (.ref C_BadEdits) (.type "BaseException") = some true)
    (ty_BadEdits : PySem.W.typeIn K (.ref C_BadEdits) = some (.type "type"))
    (ic_BadEdits : PySem.W.isClsIn K C_BadEdits = true)
    (sc_BadEdits : PySem.W.subIn K (.ref C_BadEdits) (.ref C_BadEdits) = some true)
    (xn_HalfError : PySem.W.excIn K C_HalfError [.type "ValueError", .type "Exception", .type "BaseException", .type "object"] "ValueError.__new__" = true)
    (kc_HalfError : PySem.W.keepIn K (.ref C_HalfError) = true)
    (ex_HalfError : PySem.W.subIn K (.ref C_HalfError) (.type "BaseException") = some true)
    (ty_HalfError : PySem.W.typeIn K (.ref C_HalfError) = some (.type "type"))
    (ic_HalfError : PySem.W.isClsIn K C_HalfError = true)
    (sc_HalfError : PySem.W.subIn K (.ref C_HalfError) (.ref C_HalfError) = some true)
    (lvB_BadText : excKB K C_BadText = true)
    (kdB_BadText : kindsB K C_BadText [.ref C_BadText, .ref C_BadProgram, .ref C_BadFix, .ref C_BadWay, .ref C_BadNumber, .ref C_BadChoices, .ref C_NoHalf, .ref C_PinThere, .ref C_NoPin, .ref C_Unsure, .ref C_Busy, .ref C_TooManyEdits, .ref C_NothingToUndo, .ref C_NothingToRedo, .ref C_BadEdits, .ref C_BadEdit, .ref C_Rejected, .ref C_NoPlace, .ref C_NoVersion, .ref C_HalfError, .type "LookupError", .type "ValueError"] [true, false, false, false, false, false, false, false, false, false, false, false, false, false, false, false, false, false, false, true, false, true] = true)
    (lvB_BadProgram : excKB K C_BadProgram = true)
    (kdB_BadProgram : kindsB K C_BadProgram [.ref C_BadText, .ref C_BadProgram, .ref C_BadFix, .ref C_BadWay, .ref C_BadNumber, .ref C_BadChoices, .ref C_NoHalf, .ref C_PinThere, .ref C_NoPin, .ref C_Unsure, .ref C_Busy, .ref C_TooManyEdits, .ref C_NothingToUndo, .ref C_NothingToRedo, .ref C_BadEdits, .ref C_BadEdit, .ref C_Rejected, .ref C_NoPlace, .ref C_NoVersion, .ref C_HalfError, .type "LookupError", .type "ValueError"] [false, true, false, false, false, false, false, false, false, false, false, false, false, false, false, false, false, false, false, true, false, true] = true)
    (lvB_BadFix : excKB K C_BadFix = true)
    (kdB_BadFix : kindsB K C_BadFix [.ref C_BadText, .ref C_BadProgram, .ref C_BadFix, .ref C_BadWay, .ref C_BadNumber, .ref C_BadChoices, .ref C_NoHalf, .ref C_PinThere, .ref C_NoPin, .ref C_Unsure, .ref C_Busy, .ref C_TooManyEdits, .ref C_NothingToUndo, .ref C_NothingToRedo, .ref C_BadEdits, .ref C_BadEdit, .ref C_Rejected, .ref C_NoPlace, .ref C_NoVersion, .ref C_HalfError, .type "LookupError", .type "ValueError"] [false, false, true, false, false, false, false, false, false, false, false, false, false, false, false, false, false, false, false, true, false, true] = true)
    (lvB_BadWay : excKB K C_BadWay = true)
    (kdB_BadWay : kindsB K C_BadWay [.ref C_BadText, .ref C_BadProgram, .ref C_BadFix, .ref C_BadWay, .ref C_BadNumber, .ref C_BadChoices, .ref C_NoHalf, .ref C_PinThere, .ref C_NoPin, .ref C_Unsure, .ref C_Busy, .ref C_TooManyEdits, .ref C_NothingToUndo, .ref C_NothingToRedo, .ref C_BadEdits, .ref C_BadEdit, .ref C_Rejected, .ref C_NoPlace, .ref C_NoVersion, .ref C_HalfError, .type "LookupError", .type "ValueError"] [false, false, false, true, false, false, false, false, false, false, false, false, false, false, false, false, false, false, false, true, false, true] = true)
    (lvB_BadNumber : excKB K C_BadNumber = true)
    (kdB_BadNumber : kindsB K C_BadNumber [.ref C_BadText, .ref C_BadProgram, .ref C_BadFix, .ref C_BadWay, .ref C_BadNumber, .ref C_BadChoices, .ref C_NoHalf, .ref C_PinThere, .ref C_NoPin, .ref C_Unsure, .ref C_Busy, .ref C_TooManyEdits, .ref C_NothingToUndo, .ref C_NothingToRedo, .ref C_BadEdits, .ref C_BadEdit, .ref C_Rejected, .ref C_NoPlace, .ref C_NoVersion, .ref C_HalfError, .type "LookupError", .type "ValueError"] [false, false, false, false, true, false, false, false, false, false, false, false, false, false, false, false, false, false, false, true, false, true] = true)
    (lvB_BadChoices : excKB K C_BadChoices = true)
    (kdB_BadChoices : kindsB K C_BadChoices [.ref C_BadText, .ref C_BadProgram, .ref C_BadFix, .ref C_BadWay, .ref C_BadNumber, .ref C_BadChoices, .ref C_NoHalf, .ref C_PinThere, .ref C_NoPin, .ref C_Unsure, .ref C_Busy, .ref C_TooManyEdits, .ref C_NothingToUndo, .ref C_NothingToRedo, .ref C_BadEdits, .ref C_BadEdit, .ref C_Rejected, .ref C_NoPlace, .ref C_NoVersion, .ref C_HalfError, .type "LookupError", .type "ValueError"] [false, false, false, false, false, true, false, false, false, false, false, false, false, false, false, false, false, false, false, true, false, true] = true)
    (lvB_NoHalf : excKB K C_NoHalf = true)
    (kdB_NoHalf : kindsB K C_NoHalf [.ref C_BadText, .ref C_BadProgram, .ref C_BadFix, .ref C_BadWay, .ref C_BadNumber, .ref C_BadChoices, .ref C_NoHalf, .ref C_PinThere, .ref C_NoPin, .ref C_Unsure, .ref C_Busy, .ref C_TooManyEdits, .ref C_NothingToUndo, .ref C_NothingToRedo, .ref C_BadEdits, .ref C_BadEdit, .ref C_Rejected, .ref C_NoPlace, .ref C_NoVersion, .ref C_HalfError, .type "LookupError", .type "ValueError"] [false, false, false, false, false, false, true, false, false, false, false, false, false, false, false, false, false, false, false, true, false, true] = true)
    (lvB_PinThere : excKB K C_PinThere = true)
    (kdB_PinThere : kindsB K C_PinThere [.ref C_BadText, .ref C_BadProgram, .ref C_BadFix, .ref C_BadWay, .ref C_BadNumber, .ref C_BadChoices, .ref C_NoHalf, .ref C_PinThere, .ref C_NoPin, .ref C_Unsure, .ref C_Busy, .ref C_TooManyEdits, .ref C_NothingToUndo, .ref C_NothingToRedo, .ref C_BadEdits, .ref C_BadEdit, .ref C_Rejected, .ref C_NoPlace, .ref C_NoVersion, .ref C_HalfError, .type "LookupError", .type "ValueError"] [false, false, false, false, false, false, false, true, false, false, false, false, false, false, false, false, false, false, false, true, false, true] = true)
    (lvB_NoPin : excKB K C_NoPin = true)
    (kdB_NoPin : kindsB K C_NoPin [.ref C_BadText, .ref C_BadProgram, .ref C_BadFix, .ref C_BadWay, .ref C_BadNumber, .ref C_BadChoices, .ref C_NoHalf, .ref C_PinThere, .ref C_NoPin, .ref C_Unsure, .ref C_Busy, .ref C_TooManyEdits, .ref C_NothingToUndo, .ref C_NothingToRedo, .ref C_BadEdits, .ref C_BadEdit, .ref C_Rejected, .ref C_NoPlace, .ref C_NoVersion, .ref C_HalfError, .type "LookupError", .type "ValueError"] [false, false, false, false, false, false, false, false, true, false, false, false, false, false, false, false, false, false, false, true, false, true] = true)
    (lvB_Unsure : excKB K C_Unsure = true)
    (kdB_Unsure : kindsB K C_Unsure [.ref C_BadText, .ref C_BadProgram, .ref C_BadFix, .ref C_BadWay, .ref C_BadNumber, .ref C_BadChoices, .ref C_NoHalf, .ref C_PinThere, .ref C_NoPin, .ref C_Unsure, .ref C_Busy, .ref C_TooManyEdits, .ref C_NothingToUndo, .ref C_NothingToRedo, .ref C_BadEdits, .ref C_BadEdit, .ref C_Rejected, .ref C_NoPlace, .ref C_NoVersion, .ref C_HalfError, .type "LookupError", .type "ValueError"] [false, false, false, false, false, false, false, false, false, true, false, false, false, false, false, false, false, false, false, true, false, true] = true)
    (lvB_Busy : excKB K C_Busy = true)
    (kdB_Busy : kindsB K C_Busy [.ref C_BadText, .ref C_BadProgram, .ref C_BadFix, .ref C_BadWay, .ref C_BadNumber, .ref C_BadChoices, .ref C_NoHalf, .ref C_PinThere, .ref C_NoPin, .ref C_Unsure, .ref C_Busy, .ref C_TooManyEdits, .ref C_NothingToUndo, .ref C_NothingToRedo, .ref C_BadEdits, .ref C_BadEdit, .ref C_Rejected, .ref C_NoPlace, .ref C_NoVersion, .ref C_HalfError, .type "LookupError", .type "ValueError"] [false, false, false, false, false, false, false, false, false, false, true, false, false, false, false, false, false, false, false, true, false, true] = true)
    (lvB_TooManyEdits : excKB K C_TooManyEdits = true)
    (kdB_TooManyEdits : kindsB K C_TooManyEdits [.ref C_BadText, .ref C_BadProgram, .ref C_BadFix, .ref C_BadWay, .ref C_BadNumber, .ref C_BadChoices, .ref C_NoHalf, .ref C_PinThere, .ref C_NoPin, .ref C_Unsure, .ref C_Busy, .ref C_TooManyEdits, .ref C_NothingToUndo, .ref C_NothingToRedo, .ref C_BadEdits, .ref C_BadEdit, .ref C_Rejected, .ref C_NoPlace, .ref C_NoVersion, .ref C_HalfError, .type "LookupError", .type "ValueError"] [false, false, false, false, false, false, false, false, false, false, false, true, false, false, false, false, false, false, false, true, false, true] = true)
    (lvB_NothingToUndo : excKB K C_NothingToUndo = true)
    (kdB_NothingToUndo : kindsB K C_NothingToUndo [.ref C_BadText, .ref C_BadProgram, .ref C_BadFix, .ref C_BadWay, .ref C_BadNumber, .ref C_BadChoices, .ref C_NoHalf, .ref C_PinThere, .ref C_NoPin, .ref C_Unsure, .ref C_Busy, .ref C_TooManyEdits, .ref C_NothingToUndo, .ref C_NothingToRedo, .ref C_BadEdits, .ref C_BadEdit, .ref C_Rejected, .ref C_NoPlace, .ref C_NoVersion, .ref C_HalfError, .type "LookupError", .type "ValueError"] [false, false, false, false, false, false, false, false, false, false, false, false, true, false, false, false, false, false, false, true, false, true] = true)
    (lvB_NothingToRedo : excKB K C_NothingToRedo = true)
    (kdB_NothingToRedo : kindsB K C_NothingToRedo [.ref C_BadText, .ref C_BadProgram, .ref C_BadFix, .ref C_BadWay, .ref C_BadNumber, .ref C_BadChoices, .ref C_NoHalf, .ref C_PinThere, .ref C_NoPin, .ref C_Unsure, .ref C_Busy, .ref C_TooManyEdits, .ref C_NothingToUndo, .ref C_NothingToRedo, .ref C_BadEdits, .ref C_BadEdit, .ref C_Rejected, .ref C_NoPlace, .ref C_NoVersion, .ref C_HalfError, .type "LookupError", .type "ValueError"] [false, false, false, false, false, false, false, false, false, false, false, false, false, true, false, false, false, false, false, true, false, true] = true)
    (lvB_BadEdits : excKB K C_BadEdits = true)
    (kdB_BadEdits : kindsB K C_BadEdits [.ref C_BadText, .ref C_BadProgram, .ref C_BadFix, .ref C_BadWay, .ref C_BadNumber, .ref C_BadChoices, .ref C_NoHalf, .ref C_PinThere, .ref C_NoPin, .ref C_Unsure, .ref C_Busy, .ref C_TooManyEdits, .ref C_NothingToUndo, .ref C_NothingToRedo, .ref C_BadEdits, .ref C_BadEdit, .ref C_Rejected, .ref C_NoPlace, .ref C_NoVersion, .ref C_HalfError, .type "LookupError", .type "ValueError"] [false, false, false, false, false, false, false, false, false, false, false, false, false, false, true, false, false, false, false, true, false, true] = true)
    (lvB_BadEdit : excKB K C_BadEdit = true)
    (kdB_BadEdit : kindsB K C_BadEdit [.ref C_BadText, .ref C_BadProgram, .ref C_BadFix, .ref C_BadWay, .ref C_BadNumber, .ref C_BadChoices, .ref C_NoHalf, .ref C_PinThere, .ref C_NoPin, .ref C_Unsure, .ref C_Busy, .ref C_TooManyEdits, .ref C_NothingToUndo, .ref C_NothingToRedo, .ref C_BadEdits, .ref C_BadEdit, .ref C_Rejected, .ref C_NoPlace, .ref C_NoVersion, .ref C_HalfError, .type "LookupError", .type "ValueError"] [false, false, false, false, false, false, false, false, false, false, false, false, false, false, false, true, false, false, false, true, false, true] = true)
    (lvB_Rejected : excKB K C_Rejected = true)
    (kdB_Rejected : kindsB K C_Rejected [.ref C_BadText, .ref C_BadProgram, .ref C_BadFix, .ref C_BadWay, .ref C_BadNumber, .ref C_BadChoices, .ref C_NoHalf, .ref C_PinThere, .ref C_NoPin, .ref C_Unsure, .ref C_Busy, .ref C_TooManyEdits, .ref C_NothingToUndo, .ref C_NothingToRedo, .ref C_BadEdits, .ref C_BadEdit, .ref C_Rejected, .ref C_NoPlace, .ref C_NoVersion, .ref C_HalfError, .type "LookupError", .type "ValueError"] [false, false, false, false, false, false, false, false, false, false, false, false, false, false, false, false, true, false, false, true, false, true] = true)
    (lvB_NoPlace : excKB K C_NoPlace = true)
    (kdB_NoPlace : kindsB K C_NoPlace [.ref C_BadText, .ref C_BadProgram, .ref C_BadFix, .ref C_BadWay, .ref C_BadNumber, .ref C_BadChoices, .ref C_NoHalf, .ref C_PinThere, .ref C_NoPin, .ref C_Unsure, .ref C_Busy, .ref C_TooManyEdits, .ref C_NothingToUndo, .ref C_NothingToRedo, .ref C_BadEdits, .ref C_BadEdit, .ref C_Rejected, .ref C_NoPlace, .ref C_NoVersion, .ref C_HalfError, .type "LookupError", .type "ValueError"] [false, false, false, false, false, false, false, false, false, false, false, false, false, false, false, false, false, true, false, false, true, false] = true)
    (lvB_NoVersion : excKB K C_NoVersion = true)
    (kdB_NoVersion : kindsB K C_NoVersion [.ref C_BadText, .ref C_BadProgram, .ref C_BadFix, .ref C_BadWay, .ref C_BadNumber, .ref C_BadChoices, .ref C_NoHalf, .ref C_PinThere, .ref C_NoPin, .ref C_Unsure, .ref C_Busy, .ref C_TooManyEdits, .ref C_NothingToUndo, .ref C_NothingToRedo, .ref C_BadEdits, .ref C_BadEdit, .ref C_Rejected, .ref C_NoPlace, .ref C_NoVersion, .ref C_HalfError, .type "LookupError", .type "ValueError"] [false, false, false, false, false, false, false, false, false, false, false, false, false, false, false, false, false, false, true, false, true, false] = true)
    (lvB_HalfError : excKB K C_HalfError = true)
    (kdB_HalfError : kindsB K C_HalfError [.ref C_BadText, .ref C_BadProgram, .ref C_BadFix, .ref C_BadWay, .ref C_BadNumber, .ref C_BadChoices, .ref C_NoHalf, .ref C_PinThere, .ref C_NoPin, .ref C_Unsure, .ref C_Busy, .ref C_TooManyEdits, .ref C_NothingToUndo, .ref C_NothingToRedo, .ref C_BadEdits, .ref C_BadEdit, .ref C_Rejected, .ref C_NoPlace, .ref C_NoVersion, .ref C_HalfError, .type "LookupError", .type "ValueError"] [false, false, false, false, false, false, false, false, false, false, false, false, false, false, false, false, false, false, false, true, false, true] = true)
    (aC_Bench : PySem.W.nsIn K mainGlobals "Bench" = some (some (.ref C_Bench)))
    (moB_Bench : clsNumB K C_Bench "MOST_EDITS" (60) = true)
    (aC_SureBench : PySem.W.nsIn K mainGlobals "SureBench" = some (some (.ref C_SureBench)))
    (moB_SureBench : clsNumB K C_SureBench "MOST_EDITS" (60) = true)
    (lkI : PySem.W.findCls K (.type "LookupError") (.type "type") "__init__" = some (.val (.builtin "LookupError.__init__")))
    (a1 : PySem.W.findIn K (.ref C_BadText) "__init__" = some (some (.ref f1)))
    (i1 : PySem.W.typeIn K (.ref f1) = some (.type "function"))
    (l1 : K.lookup f1 = some ⟨oc1, od1, .func (PySem.W.fnOf "__init__" "BadText.__init__" (defArgs s_BadText_init) (defBody s_BadText_init) (defScope s_BadText_init) .none kV1 dc1 pm1 an1 cd1 ct1), sl1⟩)
    (c1 : PySem.W.codeIn K cd1 "BadText.__init__" = true)
    (k1 : PySem.W.keepIn K (.ref f1) = true)
    (a2 : PySem.W.findIn K (.ref C_BadProgram) "__init__" = some (some (.ref f2)))
    (i2 : PySem.W.typeIn K (.ref f2) = some (.type "function"))
    (l2 : K.lookup f2 = some ⟨oc2, od2, .func (PySem.W.fnOf "__init__" "BadProgram.__init__" (defArgs s_BadProgram_init) (defBody s_BadProgram_init) (defScope s_BadProgram_init) .none kV2 dc2 pm2 an2 cd2 ct2), sl2⟩)
    (c2 : PySem.W.codeIn K cd2 "BadProgram.__init__" = true)
    (k2 : PySem.W.keepIn K (.ref f2) = true)
    (a3 : PySem.W.findIn K (.ref C_BadFix) "__init__" = some (some (.ref f3)))
    (i3 : PySem.W.typeIn K (.ref f3) = some (.type "function"))
    (l3 : K.lookup f3 = some ⟨oc3, od3, .func (PySem.W.fnOf "__init__" "BadFix.__init__" (defArgs s_BadFix_init) (defBody s_BadFix_init) (defScope s_BadFix_init) .none kV3 dc3 pm3 an3 cd3 ct3), sl3⟩)
    (c3 : PySem.W.codeIn K cd3 "BadFix.__init__" = true)
    (k3 : PySem.W.keepIn K (.ref f3) = true)
    (a4 : PySem.W.findIn K (.ref C_BadWay) "__init__" = some (some (.ref f4)))
    (i4 : PySem.W.typeIn K (.ref f4) = some (.type "function"))
    (l4 : K.lookup f4 = some ⟨oc4, od4, .func (PySem.W.fnOf "__init__" "BadWay.__init__" (defArgs s_BadWay_init) (defBody s_BadWay_init) (defScope s_BadWay_init) .none kV4 dc4 pm4 an4 cd4 ct4), sl4⟩)
    (c4 : PySem.W.codeIn K cd4 "BadWay.__init__" = true)
    (k4 : PySem.W.keepIn K (.ref f4) = true)
    (a5 : PySem.W.findIn K (.ref C_BadNumber) "__init__" = some (some (.ref f5)))
    (i5 : PySem.W.typeIn K (.ref f5) = some (.type "function"))
    (l5 : K.lookup f5 = some ⟨oc5, od5, .func (PySem.W.fnOf "__init__" "BadNumber.__init__" (defArgs s_BadNumber_init) (defBody s_BadNumber_init) (defScope s_BadNumber_init) .none kV5 dc5 pm5 an5 cd5 ct5), sl5⟩)
    (c5 : PySem.W.codeIn K cd5 "BadNumber.__init__" = true)
    (k5 : PySem.W.keepIn K (.ref f5) = true)
    (a6 : PySem.W.findIn K (.ref C_BadChoices) "__init__" = some (some (.ref f6)))
    (i6 : PySem.W.typeIn K (.ref f6) = some (.type "function"))
    (l6 : K.lookup f6 = some ⟨oc6, od6, .func (PySem.W.fnOf "__init__" "BadChoices.__init__" (defArgs s_BadChoices_init) (defBody s_BadChoices_init) (defScope s_BadChoices_init) .none kV6 dc6 pm6 an6 cd6 ct6), sl6⟩)
    (c6 : PySem.W.codeIn K cd6 "BadChoices.__init__" = true)
    (k6 : PySem.W.keepIn K (.ref f6) = true)
    (a7 : PySem.W.findIn K (.ref C_NoHalf) "__init__" = some (some (.ref f7)))
    (i7 : PySem.W.typeIn K (.ref f7) = some (.type "function"))
    (l7 : K.lookup f7 = some ⟨oc7, od7, .func (PySem.W.fnOf "__init__" "NoHalf.__init__" (defArgs s_NoHalf_init) (defBody s_NoHalf_init) (defScope s_NoHalf_init) .none kV7 dc7 pm7 an7 cd7 ct7), sl7⟩)
    (c7 : PySem.W.codeIn K cd7 "NoHalf.__init__" = true)
    (k7 : PySem.W.keepIn K (.ref f7) = true)
    (a8 : PySem.W.findIn K (.ref C_PinThere) "__init__" = some (some (.ref f8)))
    (i8 : PySem.W.typeIn K (.ref f8) = some (.type "function"))
    (l8 : K.lookup f8 = some ⟨oc8, od8, .func (PySem.W.fnOf "__init__" "PinThere.__init__" (defArgs s_PinThere_init) (defBody s_PinThere_init) (defScope s_PinThere_init) .none kV8 dc8 pm8 an8 cd8 ct8), sl8⟩)
    (c8 : PySem.W.codeIn K cd8 "PinThere.__init__" = true)
    (k8 : PySem.W.keepIn K (.ref f8) = true)
    (a9 : PySem.W.findIn K (.ref C_NoPin) "__init__" = some (some (.ref f9)))
    (i9 : PySem.W.typeIn K (.ref f9) = some (.type "function"))
    (l9 : K.lookup f9 = some ⟨oc9, od9, .func (PySem.W.fnOf "__init__" "NoPin.__init__" (defArgs s_NoPin_init) (defBody s_NoPin_init) (defScope s_NoPin_init) .none kV9 dc9 pm9 an9 cd9 ct9), sl9⟩)
    (c9 : PySem.W.codeIn K cd9 "NoPin.__init__" = true)
    (k9 : PySem.W.keepIn K (.ref f9) = true)
    (a10 : PySem.W.findIn K (.ref C_Unsure) "__init__" = some (some (.ref f10)))
    (i10 : PySem.W.typeIn K (.ref f10) = some (.type "function"))
    (l10 : K.lookup f10 = some ⟨oc10, od10, .func (PySem.W.fnOf "__init__" "Unsure.__init__" (defArgs s_Unsure_init) (defBody s_Unsure_init) (defScope s_Unsure_init) .none kV10 dc10 pm10 an10 cd10 ct10), sl10⟩)
    (c10 : PySem.W.codeIn K cd10 "Unsure.__init__" = true)
    (k10 : PySem.W.keepIn K (.ref f10) = true)
    (a11 : PySem.W.findIn K (.ref C_BadEdit) "__init__" = some (some (.ref f11)))
    (i11 : PySem.W.typeIn K (.ref f11) = some (.type "function"))
    (l11 : K.lookup f11 = some ⟨oc11, od11, .func (PySem.W.fnOf "__init__" "BadEdit.__init__" (defArgs s_BadEdit_init) (defBody s_BadEdit_init) (defScope s_BadEdit_init) .none kV11 dc11 pm11 an11 cd11 ct11), sl11⟩)
    (c11 : PySem.W.codeIn K cd11 "BadEdit.__init__" = true)
    (k11 : PySem.W.keepIn K (.ref f11) = true)
    (a12 : PySem.W.findIn K (.ref C_Rejected) "__init__" = some (some (.ref f12)))
    (i12 : PySem.W.typeIn K (.ref f12) = some (.type "function"))
    (l12 : K.lookup f12 = some ⟨oc12, od12, .func (PySem.W.fnOf "__init__" "Rejected.__init__" (defArgs s_Rejected_init) (defBody s_Rejected_init) (defScope s_Rejected_init) .none kV12 dc12 pm12 an12 cd12 ct12), sl12⟩)
    (c12 : PySem.W.codeIn K cd12 "Rejected.__init__" = true)
    (k12 : PySem.W.keepIn K (.ref f12) = true)
    (a13 : PySem.W.findIn K (.ref C_NoPlace) "__init__" = some (some (.ref f13)))
    (i13 : PySem.W.typeIn K (.ref f13) = some (.type "function"))
    (l13 : K.lookup f13 = some ⟨oc13, od13, .func (PySem.W.fnOf "__init__" "NoPlace.__init__" (defArgs s_NoPlace_init) (defBody s_NoPlace_init) (defScope s_NoPlace_init) .none kV13 dc13 pm13 an13 cd13 ct13), sl13⟩)
    (c13 : PySem.W.codeIn K cd13 "NoPlace.__init__" = true)
    (k13 : PySem.W.keepIn K (.ref f13) = true)
    (a14 : PySem.W.findIn K (.ref C_NoVersion) "__init__" = some (some (.ref f14)))
    (i14 : PySem.W.typeIn K (.ref f14) = some (.type "function"))
    (l14 : K.lookup f14 = some ⟨oc14, od14, .func (PySem.W.fnOf "__init__" "NoVersion.__init__" (defArgs s_NoVersion_init) (defBody s_NoVersion_init) (defScope s_NoVersion_init) .none kV14 dc14 pm14 an14 cd14 ct14), sl14⟩)
    (c14 : PySem.W.codeIn K cd14 "NoVersion.__init__" = true)
    (k14 : PySem.W.keepIn K (.ref f14) = true)
    (a15 : PySem.W.nsIn K mainGlobals "_law_deck" = some (some (.ref f15)))
    (l15 : K.lookup f15 = some ⟨oc15, od15, .func (PySem.W.fnOf "_law_deck" "_law_deck" (defArgs s_l_deck) (defBody s_l_deck) (defScope s_l_deck) .none kV15 dc15 pm15 an15 cd15 ct15), sl15⟩)
    (c15 : PySem.W.codeIn K cd15 "_law_deck" = true)
    (k15 : PySem.W.keepIn K (.ref f15) = true)
    (a16 : PySem.W.nsIn K mainGlobals "_law_draw" = some (some (.ref f16)))
    (l16 : K.lookup f16 = some ⟨oc16, od16, .func (PySem.W.fnOf "_law_draw" "_law_draw" (defArgs s_l_draw) (defBody s_l_draw) (defScope s_l_draw) .none kV16 dc16 pm16 an16 cd16 ct16), sl16⟩)
    (c16 : PySem.W.codeIn K cd16 "_law_draw" = true)
    (k16 : PySem.W.keepIn K (.ref f16) = true)
    (a17 : PySem.W.nsIn K mainGlobals "_law_one" = some (some (.ref f17)))
    (l17 : K.lookup f17 = some ⟨oc17, od17, .func (PySem.W.fnOf "_law_one" "_law_one" (defArgs s_l_one) (defBody s_l_one) (defScope s_l_one) .none kV17 dc17 pm17 an17 cd17 ct17), sl17⟩)
    (c17 : PySem.W.codeIn K cd17 "_law_one" = true)
    (k17 : PySem.W.keepIn K (.ref f17) = true)
    (a18 : PySem.W.nsIn K mainGlobals "_law_value" = some (some (.ref f18)))
    (l18 : K.lookup f18 = some ⟨oc18, od18, .func (PySem.W.fnOf "_law_value" "_law_value" (defArgs s_l_value) (defBody s_l_value) (defScope s_l_value) .none kV18 dc18 pm18 an18 cd18 ct18), sl18⟩)
    (c18 : PySem.W.codeIn K cd18 "_law_value" = true)
    (k18 : PySem.W.keepIn K (.ref f18) = true)
    (a19 : PySem.W.nsIn K mainGlobals "_law_kinds" = some (some (.ref f19)))
    (l19 : K.lookup f19 = some ⟨oc19, od19, .func (PySem.W.fnOf "_law_kinds" "_law_kinds" (defArgs s_l_kinds) (defBody s_l_kinds) (defScope s_l_kinds) .none kV19 dc19 pm19 an19 cd19 ct19), sl19⟩)
    (c19 : PySem.W.codeIn K cd19 "_law_kinds" = true)
    (k19 : PySem.W.keepIn K (.ref f19) = true)
    (a20 : PySem.W.nsIn K mainGlobals "_law_kinds_right" = some (some (.ref f20)))
    (l20 : K.lookup f20 = some ⟨oc20, od20, .func (PySem.W.fnOf "_law_kinds_right" "_law_kinds_right" (defArgs s_l_kinds_right) (defBody s_l_kinds_right) (defScope s_l_kinds_right) .none kV20 dc20 pm20 an20 cd20 ct20), sl20⟩)
    (c20 : PySem.W.codeIn K cd20 "_law_kinds_right" = true)
    (k20 : PySem.W.keepIn K (.ref f20) = true)
    (a21 : PySem.W.nsIn K mainGlobals "_law_fields_right" = some (some (.ref f21)))
    (l21 : K.lookup f21 = some ⟨oc21, od21, .func (PySem.W.fnOf "_law_fields_right" "_law_fields_right" (defArgs s_l_fields_right) (defBody s_l_fields_right) (defScope s_l_fields_right) .none kV21 dc21 pm21 an21 cd21 ct21), sl21⟩)
    (c21 : PySem.W.codeIn K cd21 "_law_fields_right" = true)
    (k21 : PySem.W.keepIn K (.ref f21) = true)
    (a22 : PySem.W.nsIn K mainGlobals "_law_bounds" = some (some (.ref f22)))
    (l22 : K.lookup f22 = some ⟨oc22, od22, .func (PySem.W.fnOf "_law_bounds" "_law_bounds" (defArgs s_l_bounds) (defBody s_l_bounds) (defScope s_l_bounds) .none kV22 dc22 pm22 an22 cd22 ct22), sl22⟩)
    (c22 : PySem.W.codeIn K cd22 "_law_bounds" = true)
    (k22 : PySem.W.keepIn K (.ref f22) = true)
    (a23 : PySem.W.nsIn K mainGlobals "law" = some (some (.ref f23)))
    (l23 : K.lookup f23 = some ⟨oc23, od23, .func (PySem.W.fnOf "law" "law" (defArgs s_law) (defBody s_law) (defScope s_law) .none kV23 dc23 pm23 an23 cd23 ct23), sl23⟩)
    (c23 : PySem.W.codeIn K cd23 "law" = true)
    (k23 : PySem.W.keepIn K (.ref f23) = true)
    (g_MAX_NAME : PySem.W.nsIn K mainGlobals "MAX_NAME" = some (some (.int 8 t_MAX_NAME)))
    (g_MAX_WORD : PySem.W.nsIn K mainGlobals "MAX_WORD" = some (some (.int 8 t_MAX_WORD)))
    (g_MAX_TIMES : PySem.W.nsIn K mainGlobals "MAX_TIMES" = some (some (.int 8 t_MAX_TIMES)))
    (g_MAX_DEEP : PySem.W.nsIn K mainGlobals "MAX_DEEP" = some (some (.int 3 t_MAX_DEEP)))
    (g_MAX_NOTS : PySem.W.nsIn K mainGlobals "MAX_NOTS" = some (some (.int 2 t_MAX_NOTS)))
    (g_MAX_PLACES : PySem.W.nsIn K mainGlobals "MAX_PLACES" = some (some (.int 24 t_MAX_PLACES)))
    (g_MAX_WEIGHT : PySem.W.nsIn K mainGlobals "MAX_WEIGHT" = some (some (.int 60 t_MAX_WEIGHT)))
    (g_MAX_HALVINGS : PySem.W.nsIn K mainGlobals "MAX_HALVINGS" = some (some (.int 4 t_MAX_HALVINGS)))
    (g_MAX_COMPARINGS : PySem.W.nsIn K mainGlobals "MAX_COMPARINGS" = some (some (.int 3 t_MAX_COMPARINGS)))
    (g_MAX_NEST : PySem.W.nsIn K mainGlobals "MAX_NEST" = some (some (.int 3 t_MAX_NEST)))
    (g_MAX_POWER : PySem.W.nsIn K mainGlobals "MAX_POWER" = some (some (.int 40 t_MAX_POWER)))
    (g_MAX_EDITS : PySem.W.nsIn K mainGlobals "MAX_EDITS" = some (some (.int 60 t_MAX_EDITS)))
    (g_BATCH : PySem.W.nsIn K mainGlobals "BATCH" = some (some (.int 20 t_BATCH)))
    (g_LETTERS : PySem.W.nsIn K mainGlobals "LETTERS" = some (some (.str "abcdefghijklmnopqrstuvwxyz" t_LETTERS)))
    (g_SIGNS : PySem.W.nsIn K mainGlobals "SIGNS" = some (some (.str "abcdefghijklmnopqrstuvwxyz0123456789" t_SIGNS)))
    (g_MOST_NUMBER : PySem.W.nsIn K mainGlobals "MOST_NUMBER" = some (some (.int 99 t_MOST_NUMBER)))
    (g_MOST_FACTOR : PySem.W.nsIn K mainGlobals "MOST_FACTOR" = some (some (.int 9 t_MOST_FACTOR)))
    (g_DOWN : PySem.W.nsIn K mainGlobals "DOWN" = some (some (.int 0 t_DOWN)))
    (g_INPUT : PySem.W.nsIn K mainGlobals "INPUT" = some (some (.str "n" t_INPUT)))
    (g_KEPT : PySem.W.nsIn K mainGlobals "KEPT" = some (some (.ref a_KEPT)))
    (q_KEPT : ∀ H, SqT K H a_KEPT [.str "half", .str "tell", .str "say", .str "stop", .str "if", .str "else", .str "repeat", .str "pass", .str "odd", .str "not", .str "program"])
    (g_WAYS_benchedits : PySem.W.nsIn K mainGlobals "WAYS_benchedits" = some (some (.ref a_WAYS_benchedits)))
    (q_WAYS_benchedits : ∀ H, SqT K H a_WAYS_benchedits [.str "down", .str "up"])
    (g_FREE : PySem.W.nsIn K mainGlobals "FREE" = some (some (.ref a_FREE)))
    (q_FREE : ∀ H, SqT K H a_FREE [])
    (g_WHOLE : PySem.W.nsIn K mainGlobals "WHOLE" = some (some (.ref a_WHOLE)))
    (q_WHOLE : ∀ H, SqT K H a_WHOLE [.int (0), .int (1), .non, .non])
    (g_WAYS_fixes : PySem.W.nsIn K mainGlobals "WAYS_fixes" = some (some (.ref a_WAYS_fixes)))
    (q_WAYS_fixes : ∀ H, SqT K H a_WAYS_fixes [.str "down", .str "up"])
    (w_WAYS_fixes : ∃ o, K.lookup a_WAYS_fixes = some o ∧ o.cls = .type "tuple" ∧ o.dict = none)
    (z_LookupError : PySem.W.nsIn K mainGlobals "LookupError" = some none)
    (z_ValueError : PySem.W.nsIn K mainGlobals "ValueError" = some none)
    (z_abs : PySem.W.nsIn K mainGlobals "abs" = some none)
    (z_int : PySem.W.nsIn K mainGlobals "int" = some none)
    (z_isinstance : PySem.W.nsIn K mainGlobals "isinstance" = some none)
    (z_len : PySem.W.nsIn K mainGlobals "len" = some none)
    (z_range : PySem.W.nsIn K mainGlobals "range" = some none)
    (z_repr : PySem.W.nsIn K mainGlobals "repr" = some none)
    (z_str : PySem.W.nsIn K mainGlobals "str" = some none) :
    ∃ fd : FuncData, (∀ (s : Shared) (v : Value), BindsTo s fd ⟨[v], []⟩ [("_law_script", v)]) ∧ ∀ base : Heap, K.In base → base.Ns mainGlobals mg → FnG P w K mg base CX0 33 fa fd ["_law_script"] (spLaw K) := by
  have e := hfa.symm.trans (PySem.W.mg_of X G a23)
  cases e
  have F1 := fun_mk (st := s_BadText_init) l1 c1 k1
  have b1 := F1.binds (ps := ["self", "line"]) fun _ _ _ _ _ _ us hl => match us, hl with | [_, _], _ => rfl
  have F2 := fun_mk (st := s_BadProgram_init) l2 c2 k2
  have b2 := F2.binds (ps := ["self", "error"]) fun _ _ _ _ _ _ us hl => match us, hl with | [_, _], _ => rfl
  have F3 := fun_mk (st := s_BadFix_init) l3 c3 k3
  have b3 := F3.binds (ps := ["self", "value"]) fun _ _ _ _ _ _ us hl => match us, hl with | [_, _], _ => rfl
  have F4 := fun_mk (st := s_BadWay_init) l4 c4 k4
  have b4 := F4.binds (ps := ["self", "way"]) fun _ _ _ _ _ _ us hl => match us, hl with | [_, _], _ => rfl
  have F5 := fun_mk (st := s_BadNumber_init) l5 c5 k5
  have b5 := F5.binds (ps := ["self", "number"]) fun _ _ _ _ _ _ us hl => match us, hl with | [_, _], _ => rfl
  have F6 := fun_mk (st := s_BadChoices_init) l6 c6 k6
  have b6 := F6.binds (ps := ["self", "choices"]) fun _ _ _ _ _ _ us hl => match us, hl with | [_, _], _ => rfl
  have F7 := fun_mk (st := s_NoHalf_init) l7 c7 k7
  have b7 := F7.binds (ps := ["self", "place"]) fun _ _ _ _ _ _ us hl => match us, hl with | [_, _], _ => rfl
  have F8 := fun_mk (st := s_PinThere_init) l8 c8 k8
  have b8 := F8.binds (ps := ["self", "place"]) fun _ _ _ _ _ _ us hl => match us, hl with | [_, _], _ => rfl
  have F9 := fun_mk (st := s_NoPin_init) l9 c9 k9
  have b9 := F9.binds (ps := ["self", "place"]) fun _ _ _ _ _ _ us hl => match us, hl with | [_, _], _ => rfl
  have F10 := fun_mk (st := s_Unsure_init) l10 c10 k10
  have b10 := F10.binds (ps := ["self", "number", "turns"]) fun _ _ _ _ _ _ us hl => match us, hl with | [_, _, _], _ => rfl
  have F11 := fun_mk (st := s_BadEdit_init) l11 c11 k11
  have b11 := F11.binds (ps := ["self", "index"]) fun _ _ _ _ _ _ us hl => match us, hl with | [_, _], _ => rfl
  have F12 := fun_mk (st := s_Rejected_init) l12 c12 k12
  have b12 := F12.binds (ps := ["self", "index"]) fun _ _ _ _ _ _ us hl => match us, hl with | [_, _], _ => rfl
  have F13 := fun_mk (st := s_NoPlace_init) l13 c13 k13
  have b13 := F13.binds (ps := ["self", "place"]) fun _ _ _ _ _ _ us hl => match us, hl with | [_, _], _ => rfl
  have F14 := fun_mk (st := s_NoVersion_init) l14 c14 k14
  have b14 := F14.binds (ps := ["self", "version"]) fun _ _ _ _ _ _ us hl => match us, hl with | [_, _], _ => rfl
  have F15 := fun_mk (st := s_l_deck) l15 c15 k15
  have b15 := F15.binds (ps := ["_law_script"]) fun _ _ _ _ _ _ us hl => match us, hl with | [_], _ => rfl
  have F16 := fun_mk (st := s_l_draw) l16 c16 k16
  have b16 := F16.binds (ps := ["_law_deck_here", "_law_many"]) fun _ _ _ _ _ _ us hl => match us, hl with | [_, _], _ => rfl
  have F17 := fun_mk (st := s_l_one) l17 c17 k17
  have b17 := F17.binds (ps := ["_law_deck_here", "_law_items"]) fun _ _ _ _ _ _ us hl => match us, hl with | [_, _], _ => rfl
  have F18 := fun_mk (st := s_l_value) l18 c18 k18
  have b18 := F18.binds (ps := ["_law_deck_here"]) fun _ _ _ _ _ _ us hl => match us, hl with | [_], _ => rfl
  have F19 := fun_mk (st := s_l_kinds) l19 c19 k19
  have b19 := F19.binds (ps := ["_law_e"]) fun _ _ _ _ _ _ us hl => match us, hl with | [_], _ => rfl
  have F20 := fun_mk (st := s_l_kinds_right) l20 c20 k20
  have b20 := F20.binds (ps := ["_law_a"]) fun _ _ _ _ _ _ us hl => match us, hl with | [_], _ => rfl
  have F21 := fun_mk (st := s_l_fields_right) l21 c21 k21
  have b21 := F21.binds (ps := ["_law_a", "_law_b"]) fun _ _ _ _ _ _ us hl => match us, hl with | [_, _], _ => rfl
  have F22 := fun_mk (st := s_l_bounds) l22 c22 k22
  have b22 := F22.binds (ps := []) fun _ _ _ _ _ _ us hl => match us, hl with | [], _ => rfl
  have F23 := fun_mk (st := s_law) l23 c23 k23
  have b23 := F23.binds (ps := ["_law_script"]) fun _ _ _ _ _ _ us hl => match us, hl with | [_], _ => rfl
  refine ⟨PySem.W.fnOf "law" "law" (defArgs s_law) (defBody s_law) (defScope s_law) .none kV23 dc23 pm23 an23 cd23 ct23, fun s v => .of_eq rfl, fun base _ _ => ok_law (P := P) (w := w) (base := base) (T := { HalfError := ⟨C_HalfError, PySem.W.mg_of X G aC_HalfError, ⟨ga_HalfError, rd_HalfError, ini_HalfError⟩⟩, BadText := ⟨C_BadText, PySem.W.mg_of X G aC_BadText, ⟨⟨xL_BadText, sa_BadText, ex_BadText, ty_BadText, kc_BadText⟩, no_BadText, ga_BadText, gg_BadText, hd_BadText, exm_self ex_BadText ic_BadText ty_BadText sc_BadText⟩⟩, BadProgram := ⟨C_BadProgram, PySem.W.mg_of X G aC_BadProgram, ⟨⟨xL_BadProgram, sa_BadProgram, ex_BadProgram, ty_BadProgram, kc_BadProgram⟩, no_BadProgram, ga_BadProgram, gg_BadProgram, hd_BadProgram, exm_self ex_BadProgram ic_BadProgram ty_BadProgram sc_BadProgram⟩⟩, BadFix := ⟨C_BadFix, PySem.W.mg_of X G aC_BadFix, ⟨⟨xL_BadFix, sa_BadFix, ex_BadFix, ty_BadFix, kc_BadFix⟩, no_BadFix, ga_BadFix, gg_BadFix, hd_BadFix, exm_self ex_BadFix ic_BadFix ty_BadFix sc_BadFix⟩⟩, BadWay := ⟨C_BadWay, PySem.W.mg_of X G aC_BadWay, ⟨⟨xL_BadWay, sa_BadWay, ex_BadWay, ty_BadWay, kc_BadWay⟩, no_BadWay, ga_BadWay, gg_BadWay, hd_BadWay, exm_self ex_BadWay ic_BadWay ty_BadWay sc_BadWay⟩⟩, BadNumber := ⟨C_BadNumber, PySem.W.mg_of X G aC_BadNumber, ⟨⟨xL_BadNumber, sa_BadNumber, ex_BadNumber, ty_BadNumber, kc_BadNumber⟩, no_BadNumber, ga_BadNumber, gg_BadNumber, hd_BadNumber, exm_self ex_BadNumber ic_BadNumber ty_BadNumber sc_BadNumber⟩⟩, BadChoices := ⟨C_BadChoices, PySem.W.mg_of X G aC_BadChoices, ⟨⟨xL_BadChoices, sa_BadChoices, ex_BadChoices, ty_BadChoices, kc_BadChoices⟩, no_BadChoices, ga_BadChoices, gg_BadChoices, hd_BadChoices, exm_self ex_BadChoices ic_BadChoices ty_BadChoices sc_BadChoices⟩⟩, NoHalf := ⟨C_NoHalf, PySem.W.mg_of X G aC_NoHalf, ⟨⟨xL_NoHalf, sa_NoHalf, ex_NoHalf, ty_NoHalf, kc_NoHalf⟩, no_NoHalf, ga_NoHalf, gg_NoHalf, hd_NoHalf, exm_self ex_NoHalf ic_NoHalf ty_NoHalf sc_NoHalf⟩⟩, PinThere := ⟨C_PinThere, PySem.W.mg_of X G aC_PinThere, ⟨⟨xL_PinThere, sa_PinThere, ex_PinThere, ty_PinThere, kc_PinThere⟩, no_PinThere, ga_PinThere, gg_PinThere, hd_PinThere, exm_self ex_PinThere ic_PinThere ty_PinThere sc_PinThere⟩⟩, NoPin := ⟨C_NoPin, PySem.W.mg_of X G aC_NoPin, ⟨⟨xL_NoPin, sa_NoPin, ex_NoPin, ty_NoPin, kc_NoPin⟩, no_NoPin, ga_NoPin, gg_NoPin, hd_NoPin, exm_self ex_NoPin ic_NoPin ty_NoPin sc_NoPin⟩⟩, BadEdit := ⟨C_BadEdit, PySem.W.mg_of X G aC_BadEdit, ⟨⟨xL_BadEdit, sa_BadEdit, ex_BadEdit, ty_BadEdit, kc_BadEdit⟩, no_BadEdit, ga_BadEdit, gg_BadEdit, hd_BadEdit, exm_self ex_BadEdit ic_BadEdit ty_BadEdit sc_BadEdit⟩⟩, Rejected := ⟨C_Rejected, PySem.W.mg_of X G aC_Rejected, ⟨⟨xL_Rejected, sa_Rejected, ex_Rejected, ty_Rejected, kc_Rejected⟩, no_Rejected, ga_Rejected, gg_Rejected, hd_Rejected, exm_self ex_Rejected ic_Rejected ty_Rejected sc_Rejected⟩⟩, NoPlace := ⟨C_NoPlace, PySem.W.mg_of X G aC_NoPlace, ⟨⟨xM_NoPlace, sa_NoPlace, ex_NoPlace, ty_NoPlace, kc_NoPlace⟩, no_NoPlace, ga_NoPlace, gg_NoPlace, hd_NoPlace, exm_self ex_NoPlace ic_NoPlace ty_NoPlace sc_NoPlace⟩⟩, NoVersion := ⟨C_NoVersion, PySem.W.mg_of X G aC_NoVersion, ⟨⟨xM_NoVersion, sa_NoVersion, ex_NoVersion, ty_NoVersion, kc_NoVersion⟩, no_NoVersion, ga_NoVersion, gg_NoVersion, hd_NoVersion, exm_self ex_NoVersion ic_NoVersion ty_NoVersion sc_NoVersion⟩⟩, Unsure := ⟨C_Unsure, PySem.W.mg_of X G aC_Unsure, ⟨⟨xL_Unsure, sa_Unsure, ex_Unsure, ty_Unsure, kc_Unsure⟩, no_Unsure, ga_Unsure, gg_Unsure, hd_Unsure, exm_self ex_Unsure ic_Unsure ty_Unsure sc_Unsure⟩, ⟨⟨xL_Unsure, sa_Unsure, ex_Unsure, ty_Unsure, kc_Unsure⟩, np_Unsure, ga_Unsure, gg_Unsure, hd_Unsure, exm_self ex_Unsure ic_Unsure ty_Unsure sc_Unsure⟩⟩, Busy := ⟨C_Busy, PySem.W.mg_of X G aC_Busy, ⟨xn_Busy, ex_Busy, ty_Busy, kc_Busy, exm_self ex_Busy ic_Busy ty_Busy sc_Busy⟩⟩, TooManyEdits := ⟨C_TooManyEdits, PySem.W.mg_of X G aC_TooManyEdits, ⟨xn_TooManyEdits, ex_TooManyEdits, ty_TooManyEdits, kc_TooManyEdits, exm_self ex_TooManyEdits ic_TooManyEdits ty_TooManyEdits sc_TooManyEdits⟩⟩, NothingToUndo := ⟨C_NothingToUndo, PySem.W.mg_of X G aC_NothingToUndo, ⟨xn_NothingToUndo, ex_NothingToUndo, ty_NothingToUndo, kc_NothingToUndo, exm_self ex_NothingToUndo ic_NothingToUndo ty_NothingToUndo sc_NothingToUndo⟩⟩, NothingToRedo := ⟨C_NothingToRedo, PySem.W.mg_of X G aC_NothingToRedo, ⟨xn_NothingToRedo, ex_NothingToRedo, ty_NothingToRedo, kc_NothingToRedo, exm_self ex_NothingToRedo ic_NothingToRedo ty_NothingToRedo sc_NothingToRedo⟩⟩, BadEdits := ⟨C_BadEdits, PySem.W.mg_of X G aC_BadEdits, ⟨xn_BadEdits, ex_BadEdits, ty_BadEdits, kc_BadEdits, exm_self ex_BadEdits ic_BadEdits ty_BadEdits sc_BadEdits⟩⟩, hn_HalfError := ⟨xn_HalfError, ex_HalfError, ty_HalfError, kc_HalfError, exm_self ex_HalfError ic_HalfError ty_HalfError sc_HalfError⟩, lv_BadText := excKB_ok lvB_BadText, kd_BadText := kindsB_ok kdB_BadText, lv_BadProgram := excKB_ok lvB_BadProgram, kd_BadProgram := kindsB_ok kdB_BadProgram, lv_BadFix := excKB_ok lvB_BadFix, kd_BadFix := kindsB_ok kdB_BadFix, lv_BadWay := excKB_ok lvB_BadWay, kd_BadWay := kindsB_ok kdB_BadWay, lv_BadNumber := excKB_ok lvB_BadNumber, kd_BadNumber := kindsB_ok kdB_BadNumber, lv_BadChoices := excKB_ok lvB_BadChoices, kd_BadChoices := kindsB_ok kdB_BadChoices, lv_NoHalf := excKB_ok lvB_NoHalf, kd_NoHalf := kindsB_ok kdB_NoHalf, lv_PinThere := excKB_ok lvB_PinThere, kd_PinThere := kindsB_ok kdB_PinThere, lv_NoPin := excKB_ok lvB_NoPin, kd_NoPin := kindsB_ok kdB_NoPin, lv_Unsure := excKB_ok lvB_Unsure, kd_Unsure := kindsB_ok kdB_Unsure, lv_Busy := excKB_ok lvB_Busy, kd_Busy := kindsB_ok kdB_Busy, lv_TooManyEdits := excKB_ok lvB_TooManyEdits, kd_TooManyEdits := kindsB_ok kdB_TooManyEdits, lv_NothingToUndo := excKB_ok lvB_NothingToUndo, kd_NothingToUndo := kindsB_ok kdB_NothingToUndo, lv_NothingToRedo := excKB_ok lvB_NothingToRedo, kd_NothingToRedo := kindsB_ok kdB_NothingToRedo, lv_BadEdits := excKB_ok lvB_BadEdits, kd_BadEdits := kindsB_ok kdB_BadEdits, lv_BadEdit := excKB_ok lvB_BadEdit, kd_BadEdit := kindsB_ok kdB_BadEdit, lv_Rejected := excKB_ok lvB_Rejected, kd_Rejected := kindsB_ok kdB_Rejected, lv_NoPlace := excKB_ok lvB_NoPlace, kd_NoPlace := kindsB_ok kdB_NoPlace, lv_NoVersion := excKB_ok lvB_NoVersion, kd_NoVersion := kindsB_ok kdB_NoVersion, lv_HalfError := excKB_ok lvB_HalfError, kd_HalfError := kindsB_ok kdB_HalfError, cB_Bench := C_Bench, gB_Bench := PySem.W.mg_of X G aC_Bench, mo_Bench := clsNumB_ok moB_Bench, cB_SureBench := C_SureBench, gB_SureBench := PySem.W.mg_of X G aC_SureBench, mo_SureBench := clsNumB_ok moB_SureBench, lkI := lkI, BadText_init := ⟨_, _, F1, b1, a1, i1⟩, BadProgram_init := ⟨_, _, F2, b2, a2, i2⟩, BadFix_init := ⟨_, _, F3, b3, a3, i3⟩, BadWay_init := ⟨_, _, F4, b4, a4, i4⟩, BadNumber_init := ⟨_, _, F5, b5, a5, i5⟩, BadChoices_init := ⟨_, _, F6, b6, a6, i6⟩, NoHalf_init := ⟨_, _, F7, b7, a7, i7⟩, PinThere_init := ⟨_, _, F8, b8, a8, i8⟩, NoPin_init := ⟨_, _, F9, b9, a9, i9⟩, Unsure_init := ⟨_, _, F10, b10, a10, i10⟩, BadEdit_init := ⟨_, _, F11, b11, a11, i11⟩, Rejected_init := ⟨_, _, F12, b12, a12, i12⟩, NoPlace_init := ⟨_, _, F13, b13, a13, i13⟩, NoVersion_init := ⟨_, _, F14, b14, a14, i14⟩, l_deck := ⟨_, _, F15, b15, PySem.W.mg_of X G a15⟩, l_draw := ⟨_, _, F16, b16, PySem.W.mg_of X G a16⟩, l_one := ⟨_, _, F17, b17, PySem.W.mg_of X G a17⟩, l_value := ⟨_, _, F18, b18, PySem.W.mg_of X G a18⟩, l_kinds := ⟨_, _, F19, b19, PySem.W.mg_of X G a19⟩, l_kinds_right := ⟨_, _, F20, b20, PySem.W.mg_of X G a20⟩, l_fields_right := ⟨_, _, F21, b21, PySem.W.mg_of X G a21⟩, l_bounds := ⟨_, _, F22, b22, PySem.W.mg_of X G a22⟩, law := ⟨_, _, F23, b23, PySem.W.mg_of X G a23⟩, t_MAX_NAME := t_MAX_NAME, g_MAX_NAME := PySem.W.mg_of X G g_MAX_NAME, t_MAX_WORD := t_MAX_WORD, g_MAX_WORD := PySem.W.mg_of X G g_MAX_WORD, t_MAX_TIMES := t_MAX_TIMES, g_MAX_TIMES := PySem.W.mg_of X G g_MAX_TIMES, t_MAX_DEEP := t_MAX_DEEP, g_MAX_DEEP := PySem.W.mg_of X G g_MAX_DEEP, t_MAX_NOTS := t_MAX_NOTS, g_MAX_NOTS := PySem.W.mg_of X G g_MAX_NOTS, t_MAX_PLACES := t_MAX_PLACES, g_MAX_PLACES := PySem.W.mg_of X G g_MAX_PLACES, t_MAX_WEIGHT := t_MAX_WEIGHT, g_MAX_WEIGHT := PySem.W.mg_of X G g_MAX_WEIGHT, t_MAX_HALVINGS := t_MAX_HALVINGS, g_MAX_HALVINGS := PySem.W.mg_of X G g_MAX_HALVINGS, t_MAX_COMPARINGS := t_MAX_COMPARINGS, g_MAX_COMPARINGS := PySem.W.mg_of X G g_MAX_COMPARINGS, t_MAX_NEST := t_MAX_NEST, g_MAX_NEST := PySem.W.mg_of X G g_MAX_NEST, t_MAX_POWER := t_MAX_POWER, g_MAX_POWER := PySem.W.mg_of X G g_MAX_POWER, t_MAX_EDITS := t_MAX_EDITS, g_MAX_EDITS := PySem.W.mg_of X G g_MAX_EDITS, t_BATCH := t_BATCH, g_BATCH := PySem.W.mg_of X G g_BATCH, t_LETTERS := t_LETTERS, g_LETTERS := PySem.W.mg_of X G g_LETTERS, t_SIGNS := t_SIGNS, g_SIGNS := PySem.W.mg_of X G g_SIGNS, t_MOST_NUMBER := t_MOST_NUMBER, g_MOST_NUMBER := PySem.W.mg_of X G g_MOST_NUMBER, t_MOST_FACTOR := t_MOST_FACTOR, g_MOST_FACTOR := PySem.W.mg_of X G g_MOST_FACTOR, t_DOWN := t_DOWN, g_DOWN := PySem.W.mg_of X G g_DOWN, t_INPUT := t_INPUT, g_INPUT := PySem.W.mg_of X G g_INPUT, KEPT := a_KEPT, g_KEPT := PySem.W.mg_of X G g_KEPT, q_KEPT := q_KEPT, WAYS_benchedits := a_WAYS_benchedits, g_WAYS_benchedits := PySem.W.mg_of X G g_WAYS_benchedits, q_WAYS_benchedits := q_WAYS_benchedits, FREE := a_FREE, g_FREE := PySem.W.mg_of X G g_FREE, q_FREE := q_FREE, WHOLE := a_WHOLE, g_WHOLE := PySem.W.mg_of X G g_WHOLE, q_WHOLE := q_WHOLE, WAYS_fixes := a_WAYS_fixes, g_WAYS_fixes := PySem.W.mg_of X G g_WAYS_fixes, q_WAYS_fixes := q_WAYS_fixes, w_WAYS_fixes := w_WAYS_fixes, LookupError := PySem.W.mg_none_of X G z_LookupError, ValueError := PySem.W.mg_none_of X G z_ValueError, abs := PySem.W.mg_none_of X G z_abs, int := PySem.W.mg_none_of X G z_int, isinstance := PySem.W.mg_none_of X G z_isinstance, len := PySem.W.mg_none_of X G z_len, range := PySem.W.mg_none_of X G z_range, repr := PySem.W.mg_none_of X G z_repr, str := PySem.W.mg_none_of X G z_str })⟩

theorem factsX {P : Program} {w : World} {K : PySem.W.Frag} {h : Heap} {mg : Str → Option Value} {fa : Addr} (X : K.In h) (G : h.Ns mainGlobals mg) (hfa : mg "law" = some (.ref fa)) (c : SaysXD fbX fnX dfX K) :
    ∃ fd : FuncData, (∀ (s : Shared) (v : Value), BindsTo s fd ⟨[v], []⟩ [("_law_script", v)]) ∧ ∀ base : Heap, K.In base → base.Ns mainGlobals mg → FnG P w K mg base CX0 33 fa fd ["_law_script"] (spLaw K) := by
  obtain ⟨_, _, _, _, _, _, _, _, _, l1, c1⟩ := c.def_ 0 (d := dX0) rfl
  obtain ⟨_, _, _, _, _, _, _, _, _, l2, c2⟩ := c.def_ 1 (d := dX1) rfl
  obtain ⟨_, _, _, _, _, _, _, _, _, l3, c3⟩ := c.def_ 2 (d := dX2) rfl
  obtain ⟨_, _, _, _, _, _, _, _, _, l4, c4⟩ := c.def_ 3 (d := dX3) rfl
  obtain ⟨_, _, _, _, _, _, _, _, _, l5, c5⟩ := c.def_ 4 (d := dX4) rfl
  obtain ⟨_, _, _, _, _, _, _, _, _, l6, c6⟩ := c.def_ 5 (d := dX5) rfl
  obtain ⟨_, _, _, _, _, _, _, _, _, l7, c7⟩ := c.def_ 6 (d := dX6) rfl
  obtain ⟨_, _, _, _, _, _, _, _, _, l8, c8⟩ := c.def_ 7 (d := dX7) rfl
  obtain ⟨_, _, _, _, _, _, _, _, _, l9, c9⟩ := c.def_ 8 (d := dX8) rfl
  obtain ⟨_, _, _, _, _, _, _, _, _, l10, c10⟩ := c.def_ 9 (d := dX9) rfl
  obtain ⟨_, _, _, _, _, _, _, _, _, l11, c11⟩ := c.def_ 10 (d := dX10) rfl
  obtain ⟨_, _, _, _, _, _, _, _, _, l12, c12⟩ := c.def_ 11 (d := dX11) rfl
  obtain ⟨_, _, _, _, _, _, _, _, _, l13, c13⟩ := c.def_ 12 (d := dX12) rfl
  obtain ⟨_, _, _, _, _, _, _, _, _, l14, c14⟩ := c.def_ 13 (d := dX13) rfl
  obtain ⟨_, _, _, _, _, _, _, _, _, l15, c15⟩ := c.def_ 14 (d := dX14) rfl
  obtain ⟨_, _, _, _, _, _, _, _, _, l16, c16⟩ := c.def_ 15 (d := dX15) rfl
  obtain ⟨_, _, _, _, _, _, _, _, _, l17, c17⟩ := c.def_ 16 (d := dX16) rfl
  obtain ⟨_, _, _, _, _, _, _, _, _, l18, c18⟩ := c.def_ 17 (d := dX17) rfl
  obtain ⟨_, _, _, _, _, _, _, _, _, l19, c19⟩ := c.def_ 18 (d := dX18) rfl
  obtain ⟨_, _, _, _, _, _, _, _, _, l20, c20⟩ := c.def_ 19 (d := dX19) rfl
  obtain ⟨_, _, _, _, _, _, _, _, _, l21, c21⟩ := c.def_ 20 (d := dX20) rfl
  obtain ⟨_, _, _, _, _, _, _, _, _, l22, c22⟩ := c.def_ 21 (d := dX21) rfl
  obtain ⟨_, _, _, _, _, _, _, _, _, l23, c23⟩ := c.def_ 22 (d := dX22) rfl
  obtain ⟨_, g_MAX_NAME⟩ := intB_ok (c.fact 15 19 (f := fun K => intB K "MAX_NAME" (8)) rfl rfl)
  obtain ⟨_, g_MAX_WORD⟩ := intB_ok (c.fact 16 0 (f := fun K => intB K "MAX_WORD" (8)) rfl rfl)
  obtain ⟨_, g_MAX_TIMES⟩ := intB_ok (c.fact 16 1 (f := fun K => intB K "MAX_TIMES" (8)) rfl rfl)
  obtain ⟨_, g_MAX_DEEP⟩ := intB_ok (c.fact 16 2 (f := fun K => intB K "MAX_DEEP" (3)) rfl rfl)
  obtain ⟨_, g_MAX_NOTS⟩ := intB_ok (c.fact 16 3 (f := fun K => intB K "MAX_NOTS" (2)) rfl rfl)
  obtain ⟨_, g_MAX_PLACES⟩ := intB_ok (c.fact 16 4 (f := fun K => intB K "MAX_PLACES" (24)) rfl rfl)
  obtain ⟨_, g_MAX_WEIGHT⟩ := intB_ok (c.fact 16 5 (f := fun K => intB K "MAX_WEIGHT" (60)) rfl rfl)
  obtain ⟨_, g_MAX_HALVINGS⟩ := intB_ok (c.fact 16 6 (f := fun K => intB K "MAX_HALVINGS" (4)) rfl rfl)
  obtain ⟨_, g_MAX_COMPARINGS⟩ := intB_ok (c.fact 16 7 (f := fun K => intB K "MAX_COMPARINGS" (3)) rfl rfl)
  obtain ⟨_, g_MAX_NEST⟩ := intB_ok (c.fact 16 8 (f := fun K => intB K "MAX_NEST" (3)) rfl rfl)
  obtain ⟨_, g_MAX_POWER⟩ := intB_ok (c.fact 16 9 (f := fun K => intB K "MAX_POWER" (40)) rfl rfl)
  obtain ⟨_, g_MAX_EDITS⟩ := intB_ok (c.fact 16 10 (f := fun K => intB K "MAX_EDITS" (60)) rfl rfl)
  obtain ⟨_, g_BATCH⟩ := intB_ok (c.fact 16 11 (f := fun K => intB K "BATCH" (20)) rfl rfl)
  obtain ⟨_, g_LETTERS⟩ := strB_ok (c.fact 16 12 (f := fun K => strB K "LETTERS" "abcdefghijklmnopqrstuvwxyz") rfl rfl)
  obtain ⟨_, g_SIGNS⟩ := strB_ok (c.fact 16 13 (f := fun K => strB K "SIGNS" "abcdefghijklmnopqrstuvwxyz0123456789") rfl rfl)
  obtain ⟨_, g_MOST_NUMBER⟩ := intB_ok (c.fact 16 14 (f := fun K => intB K "MOST_NUMBER" (99)) rfl rfl)
  obtain ⟨_, g_MOST_FACTOR⟩ := intB_ok (c.fact 16 15 (f := fun K => intB K "MOST_FACTOR" (9)) rfl rfl)
  obtain ⟨_, g_DOWN⟩ := intB_ok (c.fact 16 16 (f := fun K => intB K "DOWN" (0)) rfl rfl)
  obtain ⟨_, g_INPUT⟩ := strB_ok (c.fact 16 17 (f := fun K => strB K "INPUT" "n") rfl rfl)
  exact all_mk (P := P) (w := w) X G hfa (C_HalfError := (He.ga K "HalfError")) (C_BadText := (He.ga K "BadText")) (C_BadProgram := (He.ga K "BadProgram")) (C_BadFix := (He.ga K "BadFix")) (C_BadWay := (He.ga K "BadWay")) (C_BadNumber := (He.ga K "BadNumber")) (C_BadChoices := (He.ga K "BadChoices")) (C_NoHalf := (He.ga K "NoHalf")) (C_PinThere := (He.ga K "PinThere")) (C_NoPin := (He.ga K "NoPin")) (C_BadEdit := (He.ga K "BadEdit")) (C_Rejected := (He.ga K "Rejected")) (C_NoPlace := (He.ga K "NoPlace")) (C_NoVersion := (He.ga K "NoVersion")) (C_Busy := (He.ga K "Busy")) (C_TooManyEdits := (He.ga K "TooManyEdits")) (C_NothingToUndo := (He.ga K "NothingToUndo")) (C_NothingToRedo := (He.ga K "NothingToRedo")) (C_BadEdits := (He.ga K "BadEdits")) (C_Unsure := (He.ga K "Unsure")) (C_Bench := (He.ga K "Bench")) (C_SureBench := (He.ga K "SureBench")) (f1 := (He.ma K (He.ga K "BadText") "__init__")) (f2 := (He.ma K (He.ga K "BadProgram") "__init__")) (f3 := (He.ma K (He.ga K "BadFix") "__init__")) (f4 := (He.ma K (He.ga K "BadWay") "__init__")) (f5 := (He.ma K (He.ga K "BadNumber") "__init__")) (f6 := (He.ma K (He.ga K "BadChoices") "__init__")) (f7 := (He.ma K (He.ga K "NoHalf") "__init__")) (f8 := (He.ma K (He.ga K "PinThere") "__init__")) (f9 := (He.ma K (He.ga K "NoPin") "__init__")) (f10 := (He.ma K (He.ga K "Unsure") "__init__")) (f11 := (He.ma K (He.ga K "BadEdit") "__init__")) (f12 := (He.ma K (He.ga K "Rejected") "__init__")) (f13 := (He.ma K (He.ga K "NoPlace") "__init__")) (f14 := (He.ma K (He.ga K "NoVersion") "__init__")) (f15 := (He.ga K "_law_deck")) (f16 := (He.ga K "_law_draw")) (f17 := (He.ga K "_law_one")) (f18 := (He.ga K "_law_value")) (f19 := (He.ga K "_law_kinds")) (f20 := (He.ga K "_law_kinds_right")) (f21 := (He.ga K "_law_fields_right")) (f22 := (He.ga K "_law_bounds")) (f23 := (He.ga K "law")) (a_KEPT := (He.ga K "KEPT")) (a_WAYS_benchedits := (He.ga K "WAYS_benchedits")) (a_FREE := (He.ga K "FREE")) (a_WHOLE := (He.ga K "WHOLE")) (a_WAYS_fixes := (He.ga K "WAYS_fixes"))
    (He.eqO_ok (c.fact 0 0 rfl rfl))
    (He.eqO_ok (c.fact 0 1 rfl rfl))
    (c.fact 0 2 rfl rfl)
    (valB_ok (c.fact 0 3 rfl rfl))
    (He.eqO_ok (c.fact 0 4 rfl rfl))
    (oexC_cls (c.fact 0 5 rfl rfl))
    (He.eqO_ok (c.fact 0 6 rfl rfl))
    (He.eqO_ok (c.fact 0 7 rfl rfl))
    (He.eqO_ok (c.fact 0 8 rfl rfl))
    (He.eqO_ok (c.fact 0 9 rfl rfl))
    (c.fact 0 10 rfl rfl)
    (of_decide_eq_true (c.fact 0 11 rfl rfl))
    (of_decide_eq_true (c.fact 0 12 rfl rfl))
    (c.fact 0 13 rfl rfl)
    (c.fact 0 14 rfl rfl)
    (of_decide_eq_true (c.fact 0 15 rfl rfl))
    (He.eqO_ok (c.fact 0 16 rfl rfl))
    (oexC_cls (c.fact 0 17 rfl rfl))
    (He.eqO_ok (c.fact 0 18 rfl rfl))
    (He.eqO_ok (c.fact 0 19 rfl rfl))
    (He.eqO_ok (c.fact 1 0 rfl rfl))
    (He.eqO_ok (c.fact 1 1 rfl rfl))
    (c.fact 1 2 rfl rfl)
    (of_decide_eq_true (c.fact 1 3 rfl rfl))
    (of_decide_eq_true (c.fact 1 4 rfl rfl))
    (c.fact 1 5 rfl rfl)
    (c.fact 1 6 rfl rfl)
    (of_decide_eq_true (c.fact 1 7 rfl rfl))
    (He.eqO_ok (c.fact 1 8 rfl rfl))
    (oexC_cls (c.fact 1 9 rfl rfl))
    (He.eqO_ok (c.fact 1 10 rfl rfl))
    (He.eqO_ok (c.fact 1 11 rfl rfl))
    (He.eqO_ok (c.fact 1 12 rfl rfl))
    (He.eqO_ok (c.fact 1 13 rfl rfl))
    (c.fact 1 14 rfl rfl)
    (of_decide_eq_true (c.fact 1 15 rfl rfl))
    (of_decide_eq_true (c.fact 1 16 rfl rfl))
    (c.fact 1 17 rfl rfl)
    (c.fact 1 18 rfl rfl)
    (of_decide_eq_true (c.fact 1 19 rfl rfl))
    (He.eqO_ok (c.fact 2 0 rfl rfl))
    (oexC_cls (c.fact 2 1 rfl rfl))
    (He.eqO_ok (c.fact 2 2 rfl rfl))
    (He.eqO_ok (c.fact 2 3 rfl rfl))
    (He.eqO_ok (c.fact 2 4 rfl rfl))
    (He.eqO_ok (c.fact 2 5 rfl rfl))
    (c.fact 2 6 rfl rfl)
    (of_decide_eq_true (c.fact 2 7 rfl rfl))
    (of_decide_eq_true (c.fact 2 8 rfl rfl))
    (c.fact 2 9 rfl rfl)
    (c.fact 2 10 rfl rfl)
    (of_decide_eq_true (c.fact 2 11 rfl rfl))
    (He.eqO_ok (c.fact 2 12 rfl rfl))
    (oexC_cls (c.fact 2 13 rfl rfl))
    (He.eqO_ok (c.fact 2 14 rfl rfl))
    (He.eqO_ok (c.fact 2 15 rfl rfl))
    (He.eqO_ok (c.fact 2 16 rfl rfl))
    (He.eqO_ok (c.fact 2 17 rfl rfl))
    (c.fact 2 18 rfl rfl)
    (of_decide_eq_true (c.fact 2 19 rfl rfl))
    (of_decide_eq_true (c.fact 3 0 rfl rfl))
    (c.fact 3 1 rfl rfl)
    (c.fact 3 2 rfl rfl)
    (of_decide_eq_true (c.fact 3 3 rfl rfl))
    (He.eqO_ok (c.fact 3 4 rfl rfl))
    (oexC_cls (c.fact 3 5 rfl rfl))
    (He.eqO_ok (c.fact 3 6 rfl rfl))
    (He.eqO_ok (c.fact 3 7 rfl rfl))
    (He.eqO_ok (c.fact 3 8 rfl rfl))
    (He.eqO_ok (c.fact 3 9 rfl rfl))
    (c.fact 3 10 rfl rfl)
    (of_decide_eq_true (c.fact 3 11 rfl rfl))
    (of_decide_eq_true (c.fact 3 12 rfl rfl))
    (c.fact 3 13 rfl rfl)
    (c.fact 3 14 rfl rfl)
    (of_decide_eq_true (c.fact 3 15 rfl rfl))
    (He.eqO_ok (c.fact 3 16 rfl rfl))
    (oexC_cls (c.fact 3 17 rfl rfl))
    (He.eqO_ok (c.fact 3 18 rfl rfl))
    (He.eqO_ok (c.fact 3 19 rfl rfl))
    (He.eqO_ok (c.fact 4 0 rfl rfl))
    (He.eqO_ok (c.fact 4 1 rfl rfl))
    (c.fact 4 2 rfl rfl)
    (of_decide_eq_true (c.fact 4 3 rfl rfl))
    (of_decide_eq_true (c.fact 4 4 rfl rfl))
    (c.fact 4 5 rfl rfl)
    (c.fact 4 6 rfl rfl)
    (of_decide_eq_true (c.fact 4 7 rfl rfl))
    (He.eqO_ok (c.fact 4 8 rfl rfl))
    (oexC_cls (c.fact 4 9 rfl rfl))
    (He.eqO_ok (c.fact 4 10 rfl rfl))
    (He.eqO_ok (c.fact 4 11 rfl rfl))
    (He.eqO_ok (c.fact 4 12 rfl rfl))
    (He.eqO_ok (c.fact 4 13 rfl rfl))
    (c.fact 4 14 rfl rfl)
    (of_decide_eq_true (c.fact 4 15 rfl rfl))
    (of_decide_eq_true (c.fact 4 16 rfl rfl))
    (c.fact 4 17 rfl rfl)
    (c.fact 4 18 rfl rfl)
    (of_decide_eq_true (c.fact 4 19 rfl rfl))
    (He.eqO_ok (c.fact 5 0 rfl rfl))
    (oexC_cls (c.fact 5 1 rfl rfl))
    (He.eqO_ok (c.fact 5 2 rfl rfl))
    (He.eqO_ok (c.fact 5 3 rfl rfl))
    (He.eqO_ok (c.fact 5 4 rfl rfl))
    (He.eqO_ok (c.fact 5 5 rfl rfl))
    (c.fact 5 6 rfl rfl)
    (of_decide_eq_true (c.fact 5 7 rfl rfl))
    (of_decide_eq_true (c.fact 5 8 rfl rfl))
    (c.fact 5 9 rfl rfl)
    (c.fact 5 10 rfl rfl)
    (of_decide_eq_true (c.fact 5 11 rfl rfl))
    (He.eqO_ok (c.fact 5 12 rfl rfl))
    (oexC_cls (c.fact 5 13 rfl rfl))
    (He.eqO_ok (c.fact 5 14 rfl rfl))
    (He.eqO_ok (c.fact 5 15 rfl rfl))
    (He.eqO_ok (c.fact 5 16 rfl rfl))
    (He.eqO_ok (c.fact 5 17 rfl rfl))
    (c.fact 5 18 rfl rfl)
    (of_decide_eq_true (c.fact 5 19 rfl rfl))
    (of_decide_eq_true (c.fact 6 0 rfl rfl))
    (c.fact 6 1 rfl rfl)
    (c.fact 6 2 rfl rfl)
    (of_decide_eq_true (c.fact 6 3 rfl rfl))
    (He.eqO_ok (c.fact 6 4 rfl rfl))
    (oexC_cls (c.fact 6 5 rfl rfl))
    (He.eqO_ok (c.fact 6 6 rfl rfl))
    (He.eqO_ok (c.fact 6 7 rfl rfl))
    (He.eqO_ok (c.fact 6 8 rfl rfl))
    (He.eqO_ok (c.fact 6 9 rfl rfl))
    (c.fact 6 10 rfl rfl)
    (of_decide_eq_true (c.fact 6 11 rfl rfl))
    (of_decide_eq_true (c.fact 6 12 rfl rfl))
    (c.fact 6 13 rfl rfl)
    (c.fact 6 14 rfl rfl)
    (of_decide_eq_true (c.fact 6 15 rfl rfl))
    (He.eqO_ok (c.fact 6 16 rfl rfl))
    (oexL_cls (c.fact 6 17 rfl rfl))
    (He.eqO_ok (c.fact 6 18 rfl rfl))
    (He.eqO_ok (c.fact 6 19 rfl rfl))
    (He.eqO_ok (c.fact 7 0 rfl rfl))
    (He.eqO_ok (c.fact 7 1 rfl rfl))
    (c.fact 7 2 rfl rfl)
    (of_decide_eq_true (c.fact 7 3 rfl rfl))
    (of_decide_eq_true (c.fact 7 4 rfl rfl))
    (c.fact 7 5 rfl rfl)
    (c.fact 7 6 rfl rfl)
    (of_decide_eq_true (c.fact 7 7 rfl rfl))
    (He.eqO_ok (c.fact 7 8 rfl rfl))
    (oexL_cls (c.fact 7 9 rfl rfl))
    (He.eqO_ok (c.fact 7 10 rfl rfl))
    (He.eqO_ok (c.fact 7 11 rfl rfl))
    (He.eqO_ok (c.fact 7 12 rfl rfl))
    (He.eqO_ok (c.fact 7 13 rfl rfl))
    (c.fact 7 14 rfl rfl)
    (of_decide_eq_true (c.fact 7 15 rfl rfl))
    (of_decide_eq_true (c.fact 7 16 rfl rfl))
    (c.fact 7 17 rfl rfl)
    (c.fact 7 18 rfl rfl)
    (of_decide_eq_true (c.fact 7 19 rfl rfl))
    (He.eqO_ok (c.fact 8 0 rfl rfl))
    (oexC_cls (c.fact 8 1 rfl rfl))
    (He.eqO_ok (c.fact 8 2 rfl rfl))
    (He.eqO_ok (c.fact 8 3 rfl rfl))
    (He.eqO_ok (c.fact 8 4 rfl rfl))
    (He.eqO_ok (c.fact 8 5 rfl rfl))
    (He.eqO_ok (c.fact 8 6 rfl rfl))
    (c.fact 8 7 rfl rfl)
    (of_decide_eq_true (c.fact 8 8 rfl rfl))
    (of_decide_eq_true (c.fact 8 9 rfl rfl))
    (c.fact 8 10 rfl rfl)
    (c.fact 8 11 rfl rfl)
    (of_decide_eq_true (c.fact 8 12 rfl rfl))
    (He.eqO_ok (c.fact 8 13 rfl rfl))
    (c.fact 8 14 rfl rfl)
    (c.fact 8 15 rfl rfl)
    (of_decide_eq_true (c.fact 8 16 rfl rfl))
    (of_decide_eq_true (c.fact 8 17 rfl rfl))
    (c.fact 8 18 rfl rfl)
    (of_decide_eq_true (c.fact 8 19 rfl rfl))
    (He.eqO_ok (c.fact 9 0 rfl rfl))
    (c.fact 9 1 rfl rfl)
    (c.fact 9 2 rfl rfl)
    (of_decide_eq_true (c.fact 9 3 rfl rfl))
    (of_decide_eq_true (c.fact 9 4 rfl rfl))
    (c.fact 9 5 rfl rfl)
    (of_decide_eq_true (c.fact 9 6 rfl rfl))
    (He.eqO_ok (c.fact 9 7 rfl rfl))
    (c.fact 9 8 rfl rfl)
    (c.fact 9 9 rfl rfl)
    (of_decide_eq_true (c.fact 9 10 rfl rfl))
    (of_decide_eq_true (c.fact 9 11 rfl rfl))
    (c.fact 9 12 rfl rfl)
    (of_decide_eq_true (c.fact 9 13 rfl rfl))
    (He.eqO_ok (c.fact 9 14 rfl rfl))
    (c.fact 9 15 rfl rfl)
    (c.fact 9 16 rfl rfl)
    (of_decide_eq_true (c.fact 9 17 rfl rfl))
    (of_decide_eq_true (c.fact 9 18 rfl rfl))
    (c.fact 9 19 rfl rfl)
    (of_decide_eq_true (c.fact 10 0 rfl rfl))
    (He.eqO_ok (c.fact 10 1 rfl rfl))
    (c.fact 10 2 rfl rfl)
    (c.fact 10 3 rfl rfl)
    (of_decide_eq_true (c.fact 10 4 rfl rfl))
    (of_decide_eq_true (c.fact 10 5 rfl rfl))
    (c.fact 10 6 rfl rfl)
    (of_decide_eq_true (c.fact 10 7 rfl rfl))
    (c.fact 10 8 rfl rfl)
    (c.fact 10 9 rfl rfl)
    (of_decide_eq_true (c.fact 10 10 rfl rfl))
    (of_decide_eq_true (c.fact 10 11 rfl rfl))
    (c.fact 10 12 rfl rfl)
    (of_decide_eq_true (c.fact 10 13 rfl rfl))
    (c.fact 10 14 rfl rfl)
    (c.fact 10 15 rfl rfl)
    (c.fact 10 16 rfl rfl)
    (c.fact 10 17 rfl rfl)
    (c.fact 10 18 rfl rfl)
    (c.fact 10 19 rfl rfl)
    (c.fact 11 0 rfl rfl)
    (c.fact 11 1 rfl rfl)
    (c.fact 11 2 rfl rfl)
    (c.fact 11 3 rfl rfl)
    (c.fact 11 4 rfl rfl)
    (c.fact 11 5 rfl rfl)
    (c.fact 11 6 rfl rfl)
    (c.fact 11 7 rfl rfl)
    (c.fact 11 8 rfl rfl)
    (c.fact 11 9 rfl rfl)
    (c.fact 11 10 rfl rfl)
    (c.fact 11 11 rfl rfl)
    (c.fact 11 12 rfl rfl)
    (c.fact 11 13 rfl rfl)
    (c.fact 11 14 rfl rfl)
    (c.fact 11 15 rfl rfl)
    (c.fact 11 16 rfl rfl)
    (c.fact 11 17 rfl rfl)
    (c.fact 11 18 rfl rfl)
    (c.fact 11 19 rfl rfl)
    (c.fact 12 0 rfl rfl)
    (c.fact 12 1 rfl rfl)
    (c.fact 12 2 rfl rfl)
    (c.fact 12 3 rfl rfl)
    (c.fact 12 4 rfl rfl)
    (c.fact 12 5 rfl rfl)
    (c.fact 12 6 rfl rfl)
    (c.fact 12 7 rfl rfl)
    (c.fact 12 8 rfl rfl)
    (c.fact 12 9 rfl rfl)
    (c.fact 12 10 rfl rfl)
    (c.fact 12 11 rfl rfl)
    (c.fact 12 12 rfl rfl)
    (c.fact 12 13 rfl rfl)
    (He.eqO_ok (c.fact 12 14 rfl rfl))
    (c.fact 12 15 rfl rfl)
    (He.eqO_ok (c.fact 12 16 rfl rfl))
    (c.fact 12 17 rfl rfl)
    (valB_ok (c.fact 12 18 rfl rfl))
    (He.eqO_ok (c.fact 12 19 rfl rfl))
    (of_decide_eq_true (c.fact 13 0 rfl rfl))
    l1
    c1
    (c.fact 13 1 rfl rfl)
    (He.eqO_ok (c.fact 13 2 rfl rfl))
    (of_decide_eq_true (c.fact 13 3 rfl rfl))
    l2
    c2
    (c.fact 13 4 rfl rfl)
    (He.eqO_ok (c.fact 13 5 rfl rfl))
    (of_decide_eq_true (c.fact 13 6 rfl rfl))
    l3
    c3
    (c.fact 13 7 rfl rfl)
    (He.eqO_ok (c.fact 13 8 rfl rfl))
    (of_decide_eq_true (c.fact 13 9 rfl rfl))
    l4
    c4
    (c.fact 13 10 rfl rfl)
    (He.eqO_ok (c.fact 13 11 rfl rfl))
    (of_decide_eq_true (c.fact 13 12 rfl rfl))
    l5
    c5
    (c.fact 13 13 rfl rfl)
    (He.eqO_ok (c.fact 13 14 rfl rfl))
    (of_decide_eq_true (c.fact 13 15 rfl rfl))
    l6
    c6
    (c.fact 13 16 rfl rfl)
    (He.eqO_ok (c.fact 13 17 rfl rfl))
    (of_decide_eq_true (c.fact 13 18 rfl rfl))
    l7
    c7
    (c.fact 13 19 rfl rfl)
    (He.eqO_ok (c.fact 14 0 rfl rfl))
    (of_decide_eq_true (c.fact 14 1 rfl rfl))
    l8
    c8
    (c.fact 14 2 rfl rfl)
    (He.eqO_ok (c.fact 14 3 rfl rfl))
    (of_decide_eq_true (c.fact 14 4 rfl rfl))
    l9
    c9
    (c.fact 14 5 rfl rfl)
    (He.eqO_ok (c.fact 14 6 rfl rfl))
    (of_decide_eq_true (c.fact 14 7 rfl rfl))
    l10
    c10
    (c.fact 14 8 rfl rfl)
    (He.eqO_ok (c.fact 14 9 rfl rfl))
    (of_decide_eq_true (c.fact 14 10 rfl rfl))
    l11
    c11
    (c.fact 14 11 rfl rfl)
    (He.eqO_ok (c.fact 14 12 rfl rfl))
    (of_decide_eq_true (c.fact 14 13 rfl rfl))
    l12
    c12
    (c.fact 14 14 rfl rfl)
    (He.eqO_ok (c.fact 14 15 rfl rfl))
    (of_decide_eq_true (c.fact 14 16 rfl rfl))
    l13
    c13
    (c.fact 14 17 rfl rfl)
    (He.eqO_ok (c.fact 14 18 rfl rfl))
    (of_decide_eq_true (c.fact 14 19 rfl rfl))
    l14
    c14
    (c.fact 15 0 rfl rfl)
    (He.eqO_ok (c.fact 15 1 rfl rfl))
    l15
    c15
    (c.fact 15 2 rfl rfl)
    (He.eqO_ok (c.fact 15 3 rfl rfl))
    l16
    c16
    (c.fact 15 4 rfl rfl)
    (He.eqO_ok (c.fact 15 5 rfl rfl))
    l17
    c17
    (c.fact 15 6 rfl rfl)
    (He.eqO_ok (c.fact 15 7 rfl rfl))
    l18
    c18
    (c.fact 15 8 rfl rfl)
    (He.eqO_ok (c.fact 15 9 rfl rfl))
    l19
    c19
    (c.fact 15 10 rfl rfl)
    (He.eqO_ok (c.fact 15 11 rfl rfl))
    l20
    c20
    (c.fact 15 12 rfl rfl)
    (He.eqO_ok (c.fact 15 13 rfl rfl))
    l21
    c21
    (c.fact 15 14 rfl rfl)
    (He.eqO_ok (c.fact 15 15 rfl rfl))
    l22
    c22
    (c.fact 15 16 rfl rfl)
    (He.eqO_ok (c.fact 15 17 rfl rfl))
    l23
    c23
    (c.fact 15 18 rfl rfl)
    g_MAX_NAME
    g_MAX_WORD
    g_MAX_TIMES
    g_MAX_DEEP
    g_MAX_NOTS
    g_MAX_PLACES
    g_MAX_WEIGHT
    g_MAX_HALVINGS
    g_MAX_COMPARINGS
    g_MAX_NEST
    g_MAX_POWER
    g_MAX_EDITS
    g_BATCH
    g_LETTERS
    g_SIGNS
    g_MOST_NUMBER
    g_MOST_FACTOR
    g_DOWN
    g_INPUT
    (He.eqO_ok (c.fact 16 18 rfl rfl))
    (tupB_ok (c.fact 16 19 (f := fun K => tupB K (He.ga K "KEPT") [.str "half", .str "tell", .str "say", .str "stop", .str "if", .str "else", .str "repeat", .str "pass", .str "odd", .str "not", .str "program"] false) rfl rfl))
    (He.eqO_ok (c.fact 17 0 rfl rfl))
    (tupB_ok (c.fact 17 1 (f := fun K => tupB K (He.ga K "WAYS_benchedits") [.str "down", .str "up"] false) rfl rfl))
    (He.eqO_ok (c.fact 17 2 rfl rfl))
    (tupB_ok (c.fact 17 3 (f := fun K => tupB K (He.ga K "FREE") [] false) rfl rfl))
    (He.eqO_ok (c.fact 17 4 rfl rfl))
    (tupB_ok (c.fact 17 5 (f := fun K => tupB K (He.ga K "WHOLE") [.int (0), .int (1), .non, .non] false) rfl rfl))
    (He.eqO_ok (c.fact 17 6 rfl rfl))
    (tupB_ok (c.fact 17 7 (f := fun K => tupB K (He.ga K "WAYS_fixes") [.str "down", .str "up"] true) rfl rfl))
    (tupB_bare (c.fact 17 7 (f := fun K => tupB K (He.ga K "WAYS_fixes") [.str "down", .str "up"] true) rfl rfl))
    (He.eqO_ok (c.fact 17 8 rfl rfl))
    (He.eqO_ok (c.fact 17 9 rfl rfl))
    (He.eqO_ok (c.fact 17 10 rfl rfl))
    (He.eqO_ok (c.fact 17 11 rfl rfl))
    (He.eqO_ok (c.fact 17 12 rfl rfl))
    (He.eqO_ok (c.fact 17 13 rfl rfl))
    (He.eqO_ok (c.fact 17 14 rfl rfl))
    (He.eqO_ok (c.fact 17 15 rfl rfl))
    (He.eqO_ok (c.fact 17 16 rfl rfl))
end EH
theorem PySem.Challenge.cw_eitherhalf_k00_errors_made_by_hand_holds : PySem.Challenge.rw_eitherhalf_k00_errors_made_by_hand.Holds :=
  EH.topX fun _ _ _ _ _ X G hfa c => EH.factsX X G hfa c
#print axioms PySem.Challenge.cw_eitherhalf_k00_errors_made_by_hand_holds
