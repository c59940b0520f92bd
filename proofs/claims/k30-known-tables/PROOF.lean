import PyProof.Rows.All
import Wide.All
import OpenK.AllK
import Wide.FinOn
import KE.KStateDown
import HandS.Head0
import HandS.Head1
import HandS.Head2
import HandS.HeadHook1
import HandS.Words
import HandS.ForMost
import HandS.ForExc
import KE.KeyNested
import HandS.TryOnly
import KE.GoesEnum
import KE.GoesMore
import HandS.Zip
import HandS.Style
import HandS.TupAny
import HandS.IsInst
import HandS.Conv
import HandS.Deep
import HandS.Wide
import HandS.TupSets
import HandS.SortInts
import KE.DataMinMax
import KE.SortData
import KE.KDictSum
import KE.KDictCopyH
import PyProof.SeqIndex
import PySem.Challenge.RW_handshakes_k30_known_tables
set_option Elab.async false
set_option linter.all false
set_option maxRecDepth 100000
set_option maxHeartbeats 4000000
namespace Mini
open PySem PySem.Spec PyProof.Rows L2
namespace Hd
def refsH (o : Obj) : List Addr := match o.data with
  | .seq its _ => its.toList.flatMap He.refV
  | .dict es _ => es.toList.flatMap fun e => He.refV e.val
  | .func fd => He.refV fd.code ++ He.refV fd.defaults
  | .cls cd => [cd.ns]
  | _ => []
def nxH (g : Addr → Option Obj) (as : List Addr) : List Addr := as.flatMap fun a => match g a with
  | some o => refsH o
  | none => []
def frAs {α : Type} (as : List Addr) (k : List Addr → α) : α := match as with
  | [] => k []
  | a :: r => HandSHeadRun.frNat a fun a => frAs r fun r => k (a :: r)
theorem frAs_eq {α : Type} : ∀ (as : List Addr) (k : List Addr → α), frAs as k = k as
  | [], k => rfl
  | a :: r, k => by
    show HandSHeadRun.frNat a (fun a => frAs r fun r => k (a :: r)) = _
    rw [HandSHeadRun.frNat_eq, frAs_eq r]
/-- what the module's names reach in so many steps -/
def reach (g : Addr → Option Obj) : Nat → List Addr → List Addr → List Addr
  | 0, acc, as => acc ++ as
  | n + 1, acc, as => reach g n (acc ++ as) (nxH g as)
def frO {α : Type} (o : Obj) (k : Obj → α) : α := match o with
  | ⟨c, d, dt, sl⟩ => k ⟨c, d, dt, sl⟩
theorem frO_eq {α : Type} (o : Obj) (k : Obj → α) : frO o k = k o := by
  obtain ⟨c, d, dt, sl⟩ := o
  rfl
def frK {α : Type} (K : PySem.W.Frag) (k : PySem.W.Frag → α) : α := match K with
  | [] => k []
  | (a, o) :: r => HandSHeadRun.frNat a fun a => frO o fun o => frK r fun r => k ((a, o) :: r)
theorem frK_eq {α : Type} : ∀ (K : PySem.W.Frag) (k : PySem.W.Frag → α), frK K k = k K
  | [], k => rfl
  | (a, o) :: r, k => by
    show HandSHeadRun.frNat a (fun a => frO o fun o => frK r fun r => k ((a, o) :: r)) = _
    rw [HandSHeadRun.frNat_eq, frO_eq, frK_eq r]
abbrev fragOf (g : Addr → Option Obj) : PySem.W.Frag := He.frG g (reach g 6 [] [mainGlobals])
abbrev ga := He.ga
abbrev ma := He.ma
def objOf (K : PySem.W.Frag) (a : Addr) : Obj := (K.lookup a).getD ⟨.none, none, .plain, #[]⟩
def fdOf (K : PySem.W.Frag) (a : Addr) : FuncData := match (objOf K a).data with
  | .func fd => fd
  | _ => default
def itsOf (K : PySem.W.Frag) (a : Addr) : List Value := match (objOf K a).data with
  | .seq its _ => its.toList
  | _ => []
def epOf (K : PySem.W.Frag) (a : Addr) : Nat := match (objOf K a).data with
  | .seq _ n => n
  | _ => 0
def tkV : Value → Tok
  | .str _ t => t
  | .int _ t => t
  | _ => default
def tkN (K : PySem.W.Frag) (x : Str) : Tok := tkV (((PySem.W.nsIn K mainGlobals x).getD none).getD .none)
abbrev FnV : Type := Option (Str × Str × Arguments × FuncBody × Scope × Addr × List (Str × Addr) × Nat × Addr)
def dcode : Value → Nat
  | .none => 0
  | .ref _ => 1
  | _ => 2
def fnV (K : PySem.W.Frag) (f : Addr) : FnV := match K.lookup f with
  | some ⟨_, _, .func fd, _⟩ => some (fd.name, fd.qualname, fd.params, fd.body, fd.scope, fd.globals, fd.closure, dcode fd.defaults, fd.builtins)
  | _ => none
def fnW (name qual : Str) (params : Arguments) (body : List Stmt) (scope : Scope) (d : Nat) : FnV := some (name, qual, params, .stmts body, scope, mainGlobals, [], d, builtinsNs)
theorem fn_at {K : PySem.W.Frag} {f : Addr} {name qual : Str} {params : Arguments} {body : List Stmt} {scope : Scope} {d : Nat} (e : fnV K f = fnW name qual params body scope d) :
    dcode (fdOf K f).defaults = d ∧ K.lookup f = some ⟨(objOf K f).cls, (objOf K f).dict, .func (PySem.W.fnOf name qual params body scope (fdOf K f).defaults (fdOf K f).kwdefaults (fdOf K f).doc (fdOf K f).pyModule (fdOf K f).annotations (fdOf K f).code (fdOf K f).closureTuple), (objOf K f).slots⟩ := by
  unfold fnV at e
  unfold fdOf objOf
  cases q : K.lookup f with
  | none =>
    rw [q] at e
    cases e
  | some o =>
    obtain ⟨oc, od, dt, osl⟩ := o
    rw [q] at e
    cases dt with
    | func fd =>
      obtain ⟨n1, n2, n3, n4, n5, n6, n7, n8, n9, n10, n11, n12, n13, n14, n15⟩ := fd
      have e2 : (some (n1, n2, n3, n4, n5, n6, n7, dcode n8, n15) : FnV) = some (name, qual, params, .stmts body, scope, mainGlobals, [], d, builtinsNs) := e
      simp only [Option.some.injEq, Prod.mk.injEq] at e2
      obtain ⟨h1, h2, h3, h4, h5, h6, h7, h8, h9⟩ := e2
      subst h1 h2 h3 h4 h5 h6 h7 h8 h9
      exact ⟨rfl, rfl⟩
    | _ => cases e
theorem fn_0 {K : PySem.W.Frag} {f : Addr} {name qual : Str} {params : Arguments} {body : List Stmt} {scope : Scope} (e : fnV K f = fnW name qual params body scope 0) :
    K.lookup f = some ⟨(objOf K f).cls, (objOf K f).dict, .func (PySem.W.fnOf name qual params body scope .none (fdOf K f).kwdefaults (fdOf K f).doc (fdOf K f).pyModule (fdOf K f).annotations (fdOf K f).code (fdOf K f).closureTuple), (objOf K f).slots⟩ := by
  obtain ⟨h, e⟩ := fn_at e
  have z : (fdOf K f).defaults = .none := by
    cases q : (fdOf K f).defaults with
    | none => rfl
    | _ =>
      rw [q] at h
      cases h
  rw [z] at e
  exact e
def strV (v : Value) (z : Str) : Bool := match v with
  | .str y _ => decide (y = z)
  | _ => false
theorem strV_ok {v : Value} {z : Str} (h : strV v z = true) : v = .str z (tkV v) := by
  cases v with
  | str y t =>
    have e := of_decide_eq_true (show decide (y = z) = true from h)
    rw [e]
    rfl
  | _ => cases h
def strsB : List Value → List Str → Bool
  | [], [] => true
  | v :: r, z :: s => strV v z && strsB r s
  | _, _ => false
def mkS : List Value → List Str → List Value
  | _, [] => []
  | its, z :: s => .str z (tkV (its.headD .none)) :: mkS its.tail s
theorem strsB_ok : ∀ {its : List Value} {zs : List Str}, strsB its zs = true → its = mkS its zs
  | [], [], _ => rfl
  | v :: r, z :: s, h => by
    obtain ⟨h1, h2⟩ := He.ba (show (strV v z && strsB r s) = true from h)
    show v :: r = Value.str z (tkV v) :: mkS r s
    rw [← strsB_ok h2, ← strV_ok h1]
  | [], _ :: _, h => by cases h
  | _ :: _, [], h => by cases h
def isSeq (K : PySem.W.Frag) (a : Addr) : Bool := match K.lookup a with
  | some ⟨_, _, .seq _ _, _⟩ => true
  | _ => false
theorem seq_at {K : PySem.W.Frag} {a : Addr} (h : isSeq K a = true) : K.lookup a = some ⟨(objOf K a).cls, (objOf K a).dict, .seq (itsOf K a).toArray (epOf K a), (objOf K a).slots⟩ := by
  unfold isSeq at h
  unfold itsOf epOf objOf
  cases q : K.lookup a with
  | none =>
    rw [q] at h
    cases h
  | some o =>
    obtain ⟨oc, od, dt, osl⟩ := o
    rw [q] at h
    cases dt with
    | seq its n => simp
    | _ => cases h
def isTup (K : PySem.W.Frag) (a : Addr) : Bool := match (objOf K a).cls with
  | .type c => decide (c = "tuple")
  | _ => false
theorem tup_cls {K : PySem.W.Frag} {a : Addr} (h : isTup K a = true) : (objOf K a).cls = .type "tuple" := by
  unfold isTup at h
  cases q : (objOf K a).cls with
  | type c =>
    rw [q] at h
    rw [of_decide_eq_true h]
  | _ =>
    rw [q] at h
    cases h
def tupB (K : PySem.W.Frag) (a : Addr) (zs : List Str) : Bool := isSeq K a && (isTup K a && strsB (itsOf K a) zs)
theorem tup_ok {K : PySem.W.Frag} {a : Addr} {zs : List Str} (h : tupB K a zs = true) : K.lookup a = some ⟨.type "tuple", (objOf K a).dict, .seq (mkS (itsOf K a) zs).toArray (epOf K a), (objOf K a).slots⟩ := by
  obtain ⟨h1, h⟩ := He.ba h
  obtain ⟨h2, h3⟩ := He.ba h
  have e := seq_at h1
  rw [tup_cls h2, strsB_ok h3] at e
  exact e
def intB (K : PySem.W.Frag) (x : Str) (i : Int) : Bool := match PySem.W.nsIn K mainGlobals x with
  | some (some (.int j _)) => decide (j = i)
  | _ => false
theorem int_ok {K : PySem.W.Frag} {x : Str} {i : Int} (h : intB K x i = true) : PySem.W.nsIn K mainGlobals x = some (some (.int i (tkN K x))) := by
  unfold intB at h
  unfold tkN
  split at h
  · rename_i y t q
    rw [q, of_decide_eq_true h]
    rfl
  · cases h
abbrev Al : Type := Bool × List FnV
def obsG (b : PySem.W.Frag → Bool) (fs : PySem.W.Frag → List FnV) (g : Addr → Option Obj) : Al := frAs (reach g 6 [] [mainGlobals]) fun as => frK (He.frG g as) fun K => (b K, fs K)
theorem obsG_is {b : PySem.W.Frag → Bool} {fs : PySem.W.Frag → List FnV} {g : Addr → Option Obj} : obsG b fs g = (b (fragOf g), fs (fragOf g)) := by
  unfold obsG
  rw [frAs_eq, frK_eq]
def hookH (b : PySem.W.Frag → Bool) (fs : PySem.W.Frag → List FnV) (vs : List FnV) : PySem.W.Hook where
  α := Al
  obs := fun s => obsG b fs s.heap.get?
  val := fun _ => (true, vs)
  says := fun _ h => ∃ K : PySem.W.Frag, K.In h ∧ b K = true ∧ fs K = vs
  of := fun _ s e => ⟨fragOf s.heap.get?, He.frG_in, by
    have e' : obsG b fs s.heap.get? = (true, vs) := e
    rw [obsG_is] at e'
    exact ⟨congrArg (fun z : Al => z.1) e', congrArg (fun z : Al => z.2) e'⟩⟩
  keeps := fun _ _ _ ⟨K, hK, c⟩ k => ⟨K, PySem.W.Frag.In.keeps hK k, c⟩
theorem ob_eq {b : PySem.W.Frag → Bool} {fs : PySem.W.Frag → List FnV} {vs : List FnV} (s : PySem.W.SharedT) : obsG b fs (HandSHeadRun.getT s) = (hookH b fs vs).obs s.abs := by
  have e : HandSHeadRun.getT s = s.abs.heap.get? := funext (HandSHeadRun.getT_eq s)
  rw [e] <;> rfl
end Hd
end Mini
namespace Mini
open PySem PySem.Spec PyProof.Rows L2
def top (i : Nat) : Stmt := PySem.Challenge.pw_handshakes_k30_known_tables.main.body.getD i (.Pass ⟨0, 0, 0, 0⟩)

def hd_b0 (K : PySem.W.Frag) : Bool :=
  decide (PySem.W.nsIn K mainGlobals "is_number" = some (some (.ref (Hd.ga K "is_number")))) && (
  PySem.W.codeIn K (Hd.fdOf K (Hd.ga K "is_number")).code "is_number" && (
  PySem.W.keepIn K (.ref (Hd.ga K "is_number")) && (
  decide (PySem.W.nsIn K mainGlobals "cross" = some (some (.ref (Hd.ga K "cross")))) && (
  PySem.W.codeIn K (Hd.fdOf K (Hd.ga K "cross")).code "cross" && (
  PySem.W.keepIn K (.ref (Hd.ga K "cross")) && (
  decide (PySem.W.nsIn K mainGlobals "are_crossed" = some (some (.ref (Hd.ga K "are_crossed")))) && (
  PySem.W.codeIn K (Hd.fdOf K (Hd.ga K "are_crossed")).code "are_crossed" && (
  PySem.W.keepIn K (.ref (Hd.ga K "are_crossed")) && (
  decide (PySem.W.nsIn K mainGlobals "arms" = some (some (.ref (Hd.ga K "arms")))) && (
  PySem.W.codeIn K (Hd.fdOf K (Hd.ga K "arms")).code "arms" && (
  PySem.W.keepIn K (.ref (Hd.ga K "arms")) && (
  decide (PySem.W.nsIn K mainGlobals "is_paired" = some (some (.ref (Hd.ga K "is_paired")))) && (
  PySem.W.codeIn K (Hd.fdOf K (Hd.ga K "is_paired")).code "is_paired" && (
  PySem.W.keepIn K (.ref (Hd.ga K "is_paired")) && (
  decide (PySem.W.nsIn K mainGlobals "is_arrangement" = some (some (.ref (Hd.ga K "is_arrangement")))) && (
  PySem.W.codeIn K (Hd.fdOf K (Hd.ga K "is_arrangement")).code "is_arrangement" && (
  PySem.W.keepIn K (.ref (Hd.ga K "is_arrangement")) && (
  decide (PySem.W.nsIn K mainGlobals "look_same" = some (some (.ref (Hd.ga K "look_same")))) && (
  PySem.W.codeIn K (Hd.fdOf K (Hd.ga K "look_same")).code "look_same" && (
  PySem.W.keepIn K (.ref (Hd.ga K "look_same")) && (
  decide (PySem.W.nsIn K mainGlobals "fits" = some (some (.ref (Hd.ga K "fits")))) && (
  PySem.W.codeIn K (Hd.fdOf K (Hd.ga K "fits")).code "fits" && (
  PySem.W.keepIn K (.ref (Hd.ga K "fits")) && (
  decide (PySem.W.nsIn K mainGlobals "crossing" = some (some (.ref (Hd.ga K "crossing"))))))))))))))))))))))))))))
def hd_b1 (K : PySem.W.Frag) : Bool :=
  PySem.W.codeIn K (Hd.fdOf K (Hd.ga K "crossing")).code "crossing" && (
  PySem.W.keepIn K (.ref (Hd.ga K "crossing")) && (
  decide (PySem.W.nsIn K mainGlobals "home" = some (some (.ref (Hd.ga K "home")))) && (
  PySem.W.codeIn K (Hd.fdOf K (Hd.ga K "home")).code "home" && (
  PySem.W.keepIn K (.ref (Hd.ga K "home")) && (
  decide (PySem.W.nsIn K mainGlobals "free_groups" = some (some (.ref (Hd.ga K "free_groups")))) && (
  PySem.W.codeIn K (Hd.fdOf K (Hd.ga K "free_groups")).code "free_groups" && (
  PySem.W.keepIn K (.ref (Hd.ga K "free_groups")) && (
  decide (PySem.W.nsIn K mainGlobals "evidence" = some (some (.ref (Hd.ga K "evidence")))) && (
  PySem.W.codeIn K (Hd.fdOf K (Hd.ga K "evidence")).code "evidence" && (
  PySem.W.keepIn K (.ref (Hd.ga K "evidence")) && (
  decide (PySem.W.nsIn K mainGlobals "regions" = some (some (.ref (Hd.ga K "regions")))) && (
  PySem.W.codeIn K (Hd.fdOf K (Hd.ga K "regions")).code "regions" && (
  PySem.W.keepIn K (.ref (Hd.ga K "regions")) && (
  decide (PySem.W.nsIn K mainGlobals "catalan" = some (some (.ref (Hd.ga K "catalan")))) && (
  PySem.W.codeIn K (Hd.fdOf K (Hd.ga K "catalan")).code "catalan" && (
  PySem.W.keepIn K (.ref (Hd.ga K "catalan")) && (
  decide (PySem.W.nsIn K mainGlobals "many" = some (some (.ref (Hd.ga K "many")))) && (
  PySem.W.codeIn K (Hd.fdOf K (Hd.ga K "many")).code "many" && (
  PySem.W.keepIn K (.ref (Hd.ga K "many")) && (
  decide (PySem.W.nsIn K mainGlobals "with_pair" = some (some (.ref (Hd.ga K "with_pair")))) && (
  PySem.W.codeIn K (Hd.fdOf K (Hd.ga K "with_pair")).code "with_pair" && (
  PySem.W.keepIn K (.ref (Hd.ga K "with_pair")) && (
  decide (PySem.W.nsIn K mainGlobals "busy_people" = some (some (.ref (Hd.ga K "busy_people")))) && (
  PySem.W.codeIn K (Hd.fdOf K (Hd.ga K "busy_people")).code "busy_people"))))))))))))))))))))))))
def hd_b2 (K : PySem.W.Frag) : Bool :=
  PySem.W.keepIn K (.ref (Hd.ga K "busy_people")) && (
  decide (PySem.W.nsIn K mainGlobals "choices" = some (some (.ref (Hd.ga K "choices")))) && (
  PySem.W.codeIn K (Hd.fdOf K (Hd.ga K "choices")).code "choices" && (
  PySem.W.keepIn K (.ref (Hd.ga K "choices")) && (
  decide (PySem.W.nsIn K mainGlobals "arrangement_at" = some (some (.ref (Hd.ga K "arrangement_at")))) && (
  PySem.W.codeIn K (Hd.fdOf K (Hd.ga K "arrangement_at")).code "arrangement_at" && (
  PySem.W.keepIn K (.ref (Hd.ga K "arrangement_at")) && (
  decide (PySem.W.nsIn K mainGlobals "number_of" = some (some (.ref (Hd.ga K "number_of")))) && (
  PySem.W.codeIn K (Hd.fdOf K (Hd.ga K "number_of")).code "number_of" && (
  PySem.W.keepIn K (.ref (Hd.ga K "number_of")) && (
  decide (PySem.W.nsIn K mainGlobals "all_arrangements" = some (some (.ref (Hd.ga K "all_arrangements")))) && (
  PySem.W.codeIn K (Hd.fdOf K (Hd.ga K "all_arrangements")).code "all_arrangements" && (
  PySem.W.keepIn K (.ref (Hd.ga K "all_arrangements")) && (
  decide (PySem.W.nsIn K mainGlobals "gcd" = some (some (.ref (Hd.ga K "gcd")))) && (
  PySem.W.codeIn K (Hd.fdOf K (Hd.ga K "gcd")).code "gcd" && (
  PySem.W.keepIn K (.ref (Hd.ga K "gcd")) && (
  decide (PySem.W.nsIn K mainGlobals "reduced" = some (some (.ref (Hd.ga K "reduced")))) && (
  PySem.W.codeIn K (Hd.fdOf K (Hd.ga K "reduced")).code "reduced" && (
  PySem.W.keepIn K (.ref (Hd.ga K "reduced")) && (
  decide (PySem.W.nsIn K mainGlobals "look_known" = some (some (.ref (Hd.ga K "look_known")))) && (
  PySem.W.codeIn K (Hd.fdOf K (Hd.ga K "look_known")).code "look_known" && (
  PySem.W.keepIn K (.ref (Hd.ga K "look_known")) && (
  decide (PySem.W.nsIn K mainGlobals "look_person" = some (some (.ref (Hd.ga K "look_person")))) && (
  PySem.W.codeIn K (Hd.fdOf K (Hd.ga K "look_person")).code "look_person" && (
  PySem.W.keepIn K (.ref (Hd.ga K "look_person"))))))))))))))))))))))))))
def hd_b3 (K : PySem.W.Frag) : Bool :=
  decide (PySem.W.nsIn K mainGlobals "ways_with" = some (some (.ref (Hd.ga K "ways_with")))) && (
  PySem.W.codeIn K (Hd.fdOf K (Hd.ga K "ways_with")).code "ways_with" && (
  PySem.W.keepIn K (.ref (Hd.ga K "ways_with")) && (
  decide (PySem.W.nsIn K mainGlobals "chance" = some (some (.ref (Hd.ga K "chance")))) && (
  PySem.W.codeIn K (Hd.fdOf K (Hd.ga K "chance")).code "chance" && (
  PySem.W.keepIn K (.ref (Hd.ga K "chance")) && (
  decide (PySem.W.nsIn K mainGlobals "pair_chance" = some (some (.ref (Hd.ga K "pair_chance")))) && (
  PySem.W.codeIn K (Hd.fdOf K (Hd.ga K "pair_chance")).code "pair_chance" && (
  PySem.W.keepIn K (.ref (Hd.ga K "pair_chance")) && (
  decide (PySem.W.nsIn K mainGlobals "partner_chances" = some (some (.ref (Hd.ga K "partner_chances")))) && (
  PySem.W.codeIn K (Hd.fdOf K (Hd.ga K "partner_chances")).code "partner_chances" && (
  PySem.W.keepIn K (.ref (Hd.ga K "partner_chances")) && (
  decide (PySem.W.nsIn K mainGlobals "all_pairs" = some (some (.ref (Hd.ga K "all_pairs")))) && (
  PySem.W.codeIn K (Hd.fdOf K (Hd.ga K "all_pairs")).code "all_pairs" && (
  PySem.W.keepIn K (.ref (Hd.ga K "all_pairs")) && (
  decide (PySem.W.nsIn K mainGlobals "sure_pairs" = some (some (.ref (Hd.ga K "sure_pairs")))) && (
  PySem.W.codeIn K (Hd.fdOf K (Hd.ga K "sure_pairs")).code "sure_pairs" && (
  PySem.W.keepIn K (.ref (Hd.ga K "sure_pairs")) && (
  decide (PySem.W.nsIn K mainGlobals "possible_pairs" = some (some (.ref (Hd.ga K "possible_pairs")))) && (
  PySem.W.codeIn K (Hd.fdOf K (Hd.ga K "possible_pairs")).code "possible_pairs" && (
  PySem.W.keepIn K (.ref (Hd.ga K "possible_pairs")) && (
  decide (PySem.W.nsIn K mainGlobals "neighbour_mean" = some (some (.ref (Hd.ga K "neighbour_mean")))) && (
  PySem.W.codeIn K (Hd.fdOf K (Hd.ga K "neighbour_mean")).code "neighbour_mean" && (
  PySem.W.keepIn K (.ref (Hd.ga K "neighbour_mean")) && (
  decide (PySem.W.nsIn K mainGlobals "new_arms" = some (some (.ref (Hd.ga K "new_arms"))))))))))))))))))))))))))))
def hd_b4 (K : PySem.W.Frag) : Bool :=
  PySem.W.codeIn K (Hd.fdOf K (Hd.ga K "new_arms")).code "new_arms" && (
  PySem.W.keepIn K (.ref (Hd.ga K "new_arms")) && (
  decide (PySem.W.nsIn K mainGlobals "is_possible" = some (some (.ref (Hd.ga K "is_possible")))) && (
  PySem.W.codeIn K (Hd.fdOf K (Hd.ga K "is_possible")).code "is_possible" && (
  PySem.W.keepIn K (.ref (Hd.ga K "is_possible")) && (
  decide (PySem.W.nsIn K mainGlobals "exchanges" = some (some (.ref (Hd.ga K "exchanges")))) && (
  PySem.W.codeIn K (Hd.fdOf K (Hd.ga K "exchanges")).code "exchanges" && (
  PySem.W.keepIn K (.ref (Hd.ga K "exchanges")) && (
  decide (PySem.W.nsIn K mainGlobals "changed" = some (some (.ref (Hd.ga K "changed")))) && (
  PySem.W.codeIn K (Hd.fdOf K (Hd.ga K "changed")).code "changed" && (
  PySem.W.keepIn K (.ref (Hd.ga K "changed")) && (
  decide (PySem.W.nsIn K mainGlobals "ring_of" = some (some (.ref (Hd.ga K "ring_of")))) && (
  PySem.W.codeIn K (Hd.fdOf K (Hd.ga K "ring_of")).code "ring_of" && (
  PySem.W.keepIn K (.ref (Hd.ga K "ring_of")) && (
  decide (PySem.W.nsIn K mainGlobals "rings" = some (some (.ref (Hd.ga K "rings")))) && (
  PySem.W.codeIn K (Hd.fdOf K (Hd.ga K "rings")).code "rings" && (
  PySem.W.keepIn K (.ref (Hd.ga K "rings")) && (
  decide (PySem.W.nsIn K mainGlobals "distance" = some (some (.ref (Hd.ga K "distance")))) && (
  PySem.W.codeIn K (Hd.fdOf K (Hd.ga K "distance")).code "distance" && (
  PySem.W.keepIn K (.ref (Hd.ga K "distance")) && (
  decide (PySem.W.nsIn K mainGlobals "nearer" = some (some (.ref (Hd.ga K "nearer")))) && (
  PySem.W.codeIn K (Hd.fdOf K (Hd.ga K "nearer")).code "nearer" && (
  PySem.W.keepIn K (.ref (Hd.ga K "nearer")) && (
  decide (PySem.W.nsIn K mainGlobals "spheres" = some (some (.ref (Hd.ga K "spheres")))) && (
  PySem.W.codeIn K (Hd.fdOf K (Hd.ga K "spheres")).code "spheres"))))))))))))))))))))))))
def hd_b5 (K : PySem.W.Frag) : Bool :=
  PySem.W.keepIn K (.ref (Hd.ga K "spheres")) && (
  decide (PySem.W.nsIn K mainGlobals "farthest" = some (some (.ref (Hd.ga K "farthest")))) && (
  PySem.W.codeIn K (Hd.fdOf K (Hd.ga K "farthest")).code "farthest" && (
  PySem.W.keepIn K (.ref (Hd.ga K "farthest")) && (
  decide (PySem.W.nsIn K mainGlobals "ways_many" = some (some (.ref (Hd.ga K "ways_many")))) && (
  PySem.W.codeIn K (Hd.fdOf K (Hd.ga K "ways_many")).code "ways_many" && (
  PySem.W.keepIn K (.ref (Hd.ga K "ways_many")) && (
  decide (PySem.W.nsIn K mainGlobals "_law_cell_at" = some (some (.ref (Hd.ga K "_law_cell_at")))) && (
  PySem.W.codeIn K (Hd.fdOf K (Hd.ga K "_law_cell_at")).code "_law_cell_at" && (
  PySem.W.keepIn K (.ref (Hd.ga K "_law_cell_at")) && (
  decide (PySem.W.nsIn K mainGlobals "_law_box" = some (some (.ref (Hd.ga K "_law_box")))) && (
  PySem.W.codeIn K (Hd.fdOf K (Hd.ga K "_law_box")).code "_law_box" && (
  PySem.W.keepIn K (.ref (Hd.ga K "_law_box")) && (
  decide (PySem.W.nsIn K mainGlobals "_law_take" = some (some (.ref (Hd.ga K "_law_take")))) && (
  PySem.W.codeIn K (Hd.fdOf K (Hd.ga K "_law_take")).code "_law_take" && (
  PySem.W.keepIn K (.ref (Hd.ga K "_law_take")) && (
  decide (PySem.W.nsIn K mainGlobals "_law_same" = some (some (.ref (Hd.ga K "_law_same")))) && (
  PySem.W.codeIn K (Hd.fdOf K (Hd.ga K "_law_same")).code "_law_same" && (
  PySem.W.keepIn K (.ref (Hd.ga K "_law_same")) && (
  decide (PySem.W.nsIn K mainGlobals "_law_more" = some (some (.ref (Hd.ga K "_law_more")))) && (
  PySem.W.codeIn K (Hd.fdOf K (Hd.ga K "_law_more")).code "_law_more" && (
  PySem.W.keepIn K (.ref (Hd.ga K "_law_more")) && (
  decide (PySem.W.nsIn K mainGlobals "_law_counts_right" = some (some (.ref (Hd.ga K "_law_counts_right")))) && (
  PySem.W.codeIn K (Hd.fdOf K (Hd.ga K "_law_counts_right")).code "_law_counts_right" && (
  PySem.W.keepIn K (.ref (Hd.ga K "_law_counts_right"))))))))))))))))))))))))))
def hd_b6 (K : PySem.W.Frag) : Bool :=
  decide (PySem.W.nsIn K mainGlobals "_law_numbers_right" = some (some (.ref (Hd.ga K "_law_numbers_right")))) && (
  PySem.W.codeIn K (Hd.fdOf K (Hd.ga K "_law_numbers_right")).code "_law_numbers_right" && (
  PySem.W.keepIn K (.ref (Hd.ga K "_law_numbers_right")) && (
  decide (PySem.W.nsIn K mainGlobals "_law_chances_right" = some (some (.ref (Hd.ga K "_law_chances_right")))) && (
  PySem.W.codeIn K (Hd.fdOf K (Hd.ga K "_law_chances_right")).code "_law_chances_right" && (
  PySem.W.keepIn K (.ref (Hd.ga K "_law_chances_right")) && (
  decide (PySem.W.nsIn K mainGlobals "_law_small_right" = some (some (.ref (Hd.ga K "_law_small_right")))) && (
  PySem.W.codeIn K (Hd.fdOf K (Hd.ga K "_law_small_right")).code "_law_small_right" && (
  PySem.W.keepIn K (.ref (Hd.ga K "_law_small_right")) && (
  decide (PySem.W.nsIn K mainGlobals "_law_right" = some (some (.ref (Hd.ga K "_law_right")))) && (
  PySem.W.codeIn K (Hd.fdOf K (Hd.ga K "_law_right")).code "_law_right" && (
  PySem.W.keepIn K (.ref (Hd.ga K "_law_right")) && (
  decide (PySem.W.nsIn K mainGlobals "law" = some (some (.ref (Hd.ga K "law")))) && (
  PySem.W.codeIn K (Hd.fdOf K (Hd.ga K "law")).code "law" && (
  PySem.W.keepIn K (.ref (Hd.ga K "law")) && (
  decide (PySem.W.nsIn K mainGlobals "abs" = some none) && (
  decide (PySem.W.nsIn K mainGlobals "all" = some none) && (
  decide (PySem.W.nsIn K mainGlobals "any" = some none) && (
  decide (PySem.W.nsIn K mainGlobals "bool" = some none) && (
  decide (PySem.W.nsIn K mainGlobals "enumerate" = some none) && (
  decide (PySem.W.nsIn K mainGlobals "int" = some none) && (
  decide (PySem.W.nsIn K mainGlobals "isinstance" = some none) && (
  decide (PySem.W.nsIn K mainGlobals "len" = some none) && (
  decide (PySem.W.nsIn K mainGlobals "list" = some none) && (
  decide (PySem.W.nsIn K mainGlobals "max" = some none)))))))))))))))))))))))))
def hd_b7 (K : PySem.W.Frag) : Bool :=
  decide (PySem.W.nsIn K mainGlobals "min" = some none) && (
  decide (PySem.W.nsIn K mainGlobals "range" = some none) && (
  decide (PySem.W.nsIn K mainGlobals "set" = some none) && (
  decide (PySem.W.nsIn K mainGlobals "sorted" = some none) && (
  decide (PySem.W.nsIn K mainGlobals "str" = some none) && (
  decide (PySem.W.nsIn K mainGlobals "sum" = some none) && (
  decide (PySem.W.nsIn K mainGlobals "tuple" = some none) && (
  decide (PySem.W.nsIn K mainGlobals "zip" = some none) && (
  Hd.intB K "MOST" 300))))))))
def hd_b (K : PySem.W.Frag) : Bool := hd_b0 K && (hd_b1 K && (hd_b2 K && (hd_b3 K && (hd_b4 K && (hd_b5 K && (hd_b6 K && (hd_b7 K)))))))
def hd_fs (K : PySem.W.Frag) : List Hd.FnV := [Hd.fnV K (Hd.ga K "is_number"),
  Hd.fnV K (Hd.ga K "cross"),
  Hd.fnV K (Hd.ga K "are_crossed"),
  Hd.fnV K (Hd.ga K "arms"),
  Hd.fnV K (Hd.ga K "is_paired"),
  Hd.fnV K (Hd.ga K "is_arrangement"),
  Hd.fnV K (Hd.ga K "look_same"),
  Hd.fnV K (Hd.ga K "fits"),
  Hd.fnV K (Hd.ga K "crossing"),
  Hd.fnV K (Hd.ga K "home"),
  Hd.fnV K (Hd.ga K "free_groups"),
  Hd.fnV K (Hd.ga K "evidence"),
  Hd.fnV K (Hd.ga K "regions"),
  Hd.fnV K (Hd.ga K "catalan"),
  Hd.fnV K (Hd.ga K "many"),
  Hd.fnV K (Hd.ga K "with_pair"),
  Hd.fnV K (Hd.ga K "busy_people"),
  Hd.fnV K (Hd.ga K "choices"),
  Hd.fnV K (Hd.ga K "arrangement_at"),
  Hd.fnV K (Hd.ga K "number_of"),
  Hd.fnV K (Hd.ga K "all_arrangements"),
  Hd.fnV K (Hd.ga K "gcd"),
  Hd.fnV K (Hd.ga K "reduced"),
  Hd.fnV K (Hd.ga K "look_known"),
  Hd.fnV K (Hd.ga K "look_person"),
  Hd.fnV K (Hd.ga K "ways_with"),
  Hd.fnV K (Hd.ga K "chance"),
  Hd.fnV K (Hd.ga K "pair_chance"),
  Hd.fnV K (Hd.ga K "partner_chances"),
  Hd.fnV K (Hd.ga K "all_pairs"),
  Hd.fnV K (Hd.ga K "sure_pairs"),
  Hd.fnV K (Hd.ga K "possible_pairs"),
  Hd.fnV K (Hd.ga K "neighbour_mean"),
  Hd.fnV K (Hd.ga K "new_arms"),
  Hd.fnV K (Hd.ga K "is_possible"),
  Hd.fnV K (Hd.ga K "exchanges"),
  Hd.fnV K (Hd.ga K "changed"),
  Hd.fnV K (Hd.ga K "ring_of"),
  Hd.fnV K (Hd.ga K "rings"),
  Hd.fnV K (Hd.ga K "distance"),
  Hd.fnV K (Hd.ga K "nearer"),
  Hd.fnV K (Hd.ga K "spheres"),
  Hd.fnV K (Hd.ga K "farthest"),
  Hd.fnV K (Hd.ga K "ways_many"),
  Hd.fnV K (Hd.ga K "_law_cell_at"),
  Hd.fnV K (Hd.ga K "_law_box"),
  Hd.fnV K (Hd.ga K "_law_take"),
  Hd.fnV K (Hd.ga K "_law_same"),
  Hd.fnV K (Hd.ga K "_law_more"),
  Hd.fnV K (Hd.ga K "_law_counts_right"),
  Hd.fnV K (Hd.ga K "_law_numbers_right"),
  Hd.fnV K (Hd.ga K "_law_chances_right"),
  Hd.fnV K (Hd.ga K "_law_small_right"),
  Hd.fnV K (Hd.ga K "_law_right"),
  Hd.fnV K (Hd.ga K "law")]
def hd_vs : List Hd.FnV := [Hd.fnW "is_number" "is_number" (defArgs (top 8)) (defBody (top 8)) (defScope (top 8)) 0,
  Hd.fnW "cross" "cross" (defArgs (top 9)) (defBody (top 9)) (defScope (top 9)) 0,
  Hd.fnW "are_crossed" "are_crossed" (defArgs (top 10)) (defBody (top 10)) (defScope (top 10)) 0,
  Hd.fnW "arms" "arms" (defArgs (top 11)) (defBody (top 11)) (defScope (top 11)) 0,
  Hd.fnW "is_paired" "is_paired" (defArgs (top 12)) (defBody (top 12)) (defScope (top 12)) 0,
  Hd.fnW "is_arrangement" "is_arrangement" (defArgs (top 13)) (defBody (top 13)) (defScope (top 13)) 0,
  Hd.fnW "look_same" "look_same" (defArgs (top 14)) (defBody (top 14)) (defScope (top 14)) 0,
  Hd.fnW "fits" "fits" (defArgs (top 17)) (defBody (top 17)) (defScope (top 17)) 0,
  Hd.fnW "crossing" "crossing" (defArgs (top 18)) (defBody (top 18)) (defScope (top 18)) 0,
  Hd.fnW "home" "home" (defArgs (top 19)) (defBody (top 19)) (defScope (top 19)) 0,
  Hd.fnW "free_groups" "free_groups" (defArgs (top 20)) (defBody (top 20)) (defScope (top 20)) 0,
  Hd.fnW "evidence" "evidence" (defArgs (top 21)) (defBody (top 21)) (defScope (top 21)) 0,
  Hd.fnW "regions" "regions" (defArgs (top 22)) (defBody (top 22)) (defScope (top 22)) 0,
  Hd.fnW "catalan" "catalan" (defArgs (top 23)) (defBody (top 23)) (defScope (top 23)) 0,
  Hd.fnW "many" "many" (defArgs (top 24)) (defBody (top 24)) (defScope (top 24)) 0,
  Hd.fnW "with_pair" "with_pair" (defArgs (top 25)) (defBody (top 25)) (defScope (top 25)) 0,
  Hd.fnW "busy_people" "busy_people" (defArgs (top 26)) (defBody (top 26)) (defScope (top 26)) 0,
  Hd.fnW "choices" "choices" (defArgs (top 27)) (defBody (top 27)) (defScope (top 27)) 0,
  Hd.fnW "arrangement_at" "arrangement_at" (defArgs (top 28)) (defBody (top 28)) (defScope (top 28)) 0,
  Hd.fnW "number_of" "number_of" (defArgs (top 29)) (defBody (top 29)) (defScope (top 29)) 0,
  Hd.fnW "all_arrangements" "all_arrangements" (defArgs (top 30)) (defBody (top 30)) (defScope (top 30)) 0,
  Hd.fnW "gcd" "gcd" (defArgs (top 32)) (defBody (top 32)) (defScope (top 32)) 0,
  Hd.fnW "reduced" "reduced" (defArgs (top 33)) (defBody (top 33)) (defScope (top 33)) 0,
  Hd.fnW "look_known" "look_known" (defArgs (top 34)) (defBody (top 34)) (defScope (top 34)) 0,
  Hd.fnW "look_person" "look_person" (defArgs (top 35)) (defBody (top 35)) (defScope (top 35)) 0,
  Hd.fnW "ways_with" "ways_with" (defArgs (top 36)) (defBody (top 36)) (defScope (top 36)) 0,
  Hd.fnW "chance" "chance" (defArgs (top 37)) (defBody (top 37)) (defScope (top 37)) 0,
  Hd.fnW "pair_chance" "pair_chance" (defArgs (top 38)) (defBody (top 38)) (defScope (top 38)) 0,
  Hd.fnW "partner_chances" "partner_chances" (defArgs (top 39)) (defBody (top 39)) (defScope (top 39)) 0,
  Hd.fnW "all_pairs" "all_pairs" (defArgs (top 40)) (defBody (top 40)) (defScope (top 40)) 0,
  Hd.fnW "sure_pairs" "sure_pairs" (defArgs (top 41)) (defBody (top 41)) (defScope (top 41)) 0,
  Hd.fnW "possible_pairs" "possible_pairs" (defArgs (top 42)) (defBody (top 42)) (defScope (top 42)) 0,
  Hd.fnW "neighbour_mean" "neighbour_mean" (defArgs (top 43)) (defBody (top 43)) (defScope (top 43)) 0,
  Hd.fnW "new_arms" "new_arms" (defArgs (top 45)) (defBody (top 45)) (defScope (top 45)) 0,
  Hd.fnW "is_possible" "is_possible" (defArgs (top 46)) (defBody (top 46)) (defScope (top 46)) 0,
  Hd.fnW "exchanges" "exchanges" (defArgs (top 47)) (defBody (top 47)) (defScope (top 47)) 0,
  Hd.fnW "changed" "changed" (defArgs (top 48)) (defBody (top 48)) (defScope (top 48)) 0,
  Hd.fnW "ring_of" "ring_of" (defArgs (top 50)) (defBody (top 50)) (defScope (top 50)) 0,
  Hd.fnW "rings" "rings" (defArgs (top 51)) (defBody (top 51)) (defScope (top 51)) 0,
  Hd.fnW "distance" "distance" (defArgs (top 52)) (defBody (top 52)) (defScope (top 52)) 0,
  Hd.fnW "nearer" "nearer" (defArgs (top 53)) (defBody (top 53)) (defScope (top 53)) 0,
  Hd.fnW "spheres" "spheres" (defArgs (top 55)) (defBody (top 55)) (defScope (top 55)) 0,
  Hd.fnW "farthest" "farthest" (defArgs (top 56)) (defBody (top 56)) (defScope (top 56)) 0,
  Hd.fnW "ways_many" "ways_many" (defArgs (top 57)) (defBody (top 57)) (defScope (top 57)) 0,
  Hd.fnW "_law_cell_at" "_law_cell_at" (defArgs (top 59)) (defBody (top 59)) (defScope (top 59)) 0,
  Hd.fnW "_law_box" "_law_box" (defArgs (top 60)) (defBody (top 60)) (defScope (top 60)) 0,
  Hd.fnW "_law_take" "_law_take" (defArgs (top 61)) (defBody (top 61)) (defScope (top 61)) 0,
  Hd.fnW "_law_same" "_law_same" (defArgs (top 62)) (defBody (top 62)) (defScope (top 62)) 0,
  Hd.fnW "_law_more" "_law_more" (defArgs (top 63)) (defBody (top 63)) (defScope (top 63)) 0,
  Hd.fnW "_law_counts_right" "_law_counts_right" (defArgs (top 64)) (defBody (top 64)) (defScope (top 64)) 0,
  Hd.fnW "_law_numbers_right" "_law_numbers_right" (defArgs (top 65)) (defBody (top 65)) (defScope (top 65)) 0,
  Hd.fnW "_law_chances_right" "_law_chances_right" (defArgs (top 66)) (defBody (top 66)) (defScope (top 66)) 0,
  Hd.fnW "_law_small_right" "_law_small_right" (defArgs (top 67)) (defBody (top 67)) (defScope (top 67)) 0,
  Hd.fnW "_law_right" "_law_right" (defArgs (top 68)) (defBody (top 68)) (defScope (top 68)) 0,
  Hd.fnW "law" "law" (defArgs (top 69)) (defBody (top 69)) (defScope (top 69)) 0]
def hd_n0 : List PySem.Str := ["__name__", "OtherPeople", "Unfit", "Impossible", "NoPerson", "NoNumber", "TooMany", "is_number", "cross", "are_crossed", "arms", "is_paired", "is_arrangement", "look_same", "MOST", "fits", "crossing", "home", "free_groups", "evidence", "regions", "catalan", "many", "with_pair", "busy_people", "choices", "arrangement_at", "number_of", "all_arrangements", "gcd"]
def hd_n1 : List PySem.Str := ["reduced", "look_known", "look_person", "ways_with", "chance", "pair_chance", "partner_chances", "all_pairs", "sure_pairs", "possible_pairs", "neighbour_mean", "new_arms", "is_possible", "exchanges", "changed", "ring_of", "rings", "distance", "nearer", "spheres", "farthest", "ways_many", "_law_cell_at", "_law_box", "_law_take", "_law_same", "_law_more", "_law_counts_right", "_law_numbers_right", "_law_chances_right"]
def hd_n2 : List PySem.Str := ["_law_small_right", "_law_right"]
def hd_names : List PySem.Str := hd_n0 ++ hd_n1 ++ hd_n2
theorem hd_run (w : World) : HandSHeadRun.RunEq (PySem.W.OpenLaw.row PySem.Challenge.rw_handshakes_k30_known_tables) (PySem.W.view (PySem.W.OpenLaw.row PySem.Challenge.rw_handshakes_k30_known_tables).prog [69]) (Hd.hookH hd_b hd_fs hd_vs) (fun s => Hd.obsG hd_b hd_fs (HandSHeadRun.getT s)) 60000 hd_names w := by
  intro os
  kernel_rfl
end Mini
namespace Mini
open PySem PySem.Spec PyProof.Rows L2
structure Room (k : Nat) (A : Around) : Prop extends L2.Room k A where
  gd : A.guards = some []
theorem Room.mono {j k : Nat} {A : Around} (r : Room k A) (h : j ≤ k) : Room j A := ⟨r.toRoom.mono h, r.gd⟩
theorem Room.deeper {k : Nat} {A : Around} (r : Room (k + 1) A) (env : Env) : Room k (A.deeper env) := ⟨r.toRoom.deeper env, r.gd⟩
structure FnOk (P : Program) (w : World) (K : PySem.W.Frag) (mg : Str → Option Value) (base : Heap) (CX : CXT) (k : Nat) (f : Addr) (fd : FuncData) (ps : List Str) (sp : Sp) : Prop where
  len : ∀ vs H Q E, sp vs H Q E → vs.length = ps.length
  run : ∀ (A : Around) (outer : List Env) (s : Shared) (H : Hp) (args : Args) (us : List Value) (vs : List V) (Q : VK) (E : XK), Room k A → Env0 P w K mg base A outer s H → BindsTo s fd args (ps.zip us) → Vals vs us → sp vs H Q E →
    codeAny (model P w) A (.call (.ref f) args) (CR CX outer P w H s Q E) s
section
variable {P : Program} {w : World} {K : PySem.W.Frag} {mg : Str → Option Value} {base : Heap} {CX : CXT} {k j : Nat} {f : Addr} {fd : FuncData} {ps : List Str} {sp sp' : Sp}
theorem FnOk.mono (F : FnOk P w K mg base CX j f fd ps sp) (h : j ≤ k) : FnOk P w K mg base CX k f fd ps sp := ⟨F.len, fun A outer s H args us vs Q E r => F.run A outer s H args us vs Q E (r.mono h)⟩
theorem FnOk.imp (F : FnOk P w K mg base CX k f fd ps sp) (h : ∀ vs H Q E, sp' vs H Q E → sp vs H Q E) : FnOk P w K mg base CX k f fd ps sp' :=
  ⟨fun vs H Q E q => F.len vs H Q E (h _ _ _ _ q), fun A outer s H args us vs Q E r e0 b v q => F.run A outer s H args us vs Q E r e0 b v (h _ _ _ _ q)⟩
theorem FnOk.of (F : L2.FnOk P w K mg base CX k f fd ps sp) : FnOk P w K mg base CX k f fd ps sp := ⟨F.len, fun A outer s H args us vs Q E r => F.run A outer s H args us vs Q E r.toRoom⟩
/-- a def by its body -/
theorem fun_okX {x qual : Str} {st : Stmt} {N : List Str} (F : Fun K x qual st f fd) (S : FnScope N ps (defScope st)) (len : ∀ vs H Q E, sp vs H Q E → vs.length = ps.length)
    (hbody : ∀ (cdv : Value) (A : Around) (outer : List Env) (s : Shared) (H : Hp) (vs : List V) (Q : VK) (E : XK), Room k (A.deeper (envOfC qual (defScope st) s.heap.objs.size f cdv)) → sp vs H Q E →
      ∃ t, PSs (cxOf CX P w K mg base N qual (defScope st) f cdv A outer s H E) (defBody st) t ∧ t { nx := fun _ H' => Q .non H', rt := Q } (start N vs) H) : FnOk P w K mg base CX (k + 1) f fd ps sp := by
  obtain ⟨oc, od, kV, doc, pm, an, cdv, ct, osl, rfl, lk, hcd⟩ := F.ex
  refine ⟨len, fun A outer s H args us vs Q E r e0 hb rv hsp => ?_⟩
  have there : ∀ b o, base.get? b = some o → s.heap.get? b = some o := fun b o e => (e0.bs b o e).1
  have kin : K.In s.heap := e0.mod.kin.keeps there
  have par : ∀ y ∈ ps.zip us, (defScope st).names.lookup y.1 = some .local ∨ ((defScope st).names.lookup y.1 = some .cell ∧ ((cellsFrom (s.heap.objs.size + 1) (defScope st).names []).lookup y.1).isSome = true) := by
    rintro ⟨n, v⟩ hy
    exact (S.par n (List.of_mem_zip hy).1).elim .inl fun q => .inr ⟨q, PySem.W.cellsFrom_some _ _ _ (.inl q)⟩
  refine codeAny_call_function r.depth (kin _ _ lk) rfl S.co S.gen rfl (PySem.W.codeRec_of kin hcd) (hb _ _ _ _ ?_)
  refine wpAny_newFunctionEnv_cells S.kind par fun env he s1 x => ?_
  subst he
  obtain ⟨t, ht, hq⟩ := hbody cdv A outer s H vs Q E (r.deeper _) hsp
  have I : Inv (cxOf CX P w K mg base N qual (defScope st) f cdv A outer s H E) [] (start N vs) H s1 := inv_start S r.hd e0 (len _ _ _ _ hsp) rv x
  refine ⟨(e0.mod.nolimit.keeps there).keeps x.toInCall.keep, codeAny_func (wpAny_mono (ht.run [] s1 (start N vs) H _ I hq) (fun fl s' hs => ?_) fun e s' hs => hs)⟩
  match fl, hs with
  | .ret u, ⟨v, σ', H', J, rv', q⟩ => exact ⟨v, H', J.os, J.bare, J.base, J.hok, rv', q⟩
  | .next, ⟨σ', H', J, q⟩ => exact ⟨V.non, H', J.os, J.bare, J.base, J.hok, rfl, q⟩
  | .brk, ⟨_, _, _, q⟩ => exact False.elim q
  | .cont, ⟨_, _, _, q⟩ => exact False.elim q
end
section
variable {X : Cx} {CX : CXT} {k : Nat} {f : Addr} {fd : FuncData} {ps : List Str} {sp : Sp} {E : L2.St → XK} {x : Str} {p pos : Pos} {e : Expr} {es : List Expr} {t : TA}
theorem run_fnS {pins : List (Addr × Obj)} {σ : L2.St} {H : Hp} {s : Shared} {Q : VK} {us : List Value} {vs : List V} (F : FnOk X.prog X.w X.K X.mg X.base CX k f fd ps sp) (hr : Room k X.A) (hb : Binds X.K fd ps []) (hx : PassesAt CX X σ (E σ))
    (I : Inv X pins σ H s) (r : Vals vs us) (h : sp vs H Q (E σ)) : wpAny (model X.prog X.w) X.A (call (.ref f) us) (EP X pins σ Q) X.xe s := by
  have b := hb s us I.kIn (by rw [List.append_nil, ← r.length]; exact F.len _ _ _ _ h)
  rw [List.append_nil] at b
  refine wpAny_call (codeAny_mono (F.run X.A X.stack s H ⟨us, []⟩ us vs Q (E σ) hr I.env0 b r h) fun r s' q => ?_)
  match r, q with
  | .error e, q => exact hx pins H s e s' I q
  | .ok (.ret u), q => exact I.after q
  | .ok .next, q => exact False.elim q
  | .ok .brk, q => exact False.elim q
  | .ok .cont, q => exact False.elim q
theorem pe_callS (F : FnOk X.prog X.w X.K X.mg X.base CX k f fd ps sp) (hr : Room k X.A) (hg : Gl X x) (hm : X.mg x = some (.ref f)) (hk : PySem.W.keepIn X.K (.ref f) = true) (hb : Binds X.K fd ps []) (hx : ∀ σ, PassesAt CX X σ (E σ))
    (ha : PA X (e :: es) t) (hdb : (x == ("__debug__" : Str)) = false := by decide) (he : starEach (e :: es) X.env = (false, eval e X.env) :: starEach es X.env := by rfl) (hpl : (backTo pos (starEach es X.env)).any (·.1) = false := by rfl) :
    PE X (.Call (.Name x p) (e :: es) [] pos) (tCallS sp E t) := ⟨fun pins s σ H Q I h =>
  wpAny_Call_Name_kw (ld_glob I hg hm (PySem.W.callWith_K (h₀ := X.base) I.ok.mod.kin hk (thn (ha.run pos pins s σ H _ I h) fun _ _ ⟨_, _, I1, r, q⟩ => ⟨I1.kIn, run_fnS F hr hb (hx σ) I1 r q⟩) he hpl) hdb)⟩
end
section
variable {P : Program} {w : World} {K : PySem.W.Frag} {mg mb : Str → Option Value} {CX : CXT} {k : Nat} {fa a : Addr} {fd : FuncData} {x : Str} {sp : Sp} {s₁ : Shared} {vs : List Value} {ns : List Int}
/-- the script alone may be tracked -/
theorem call_at {H : Hp} (KX : K.In s₁.heap) (hns : s₁.heap.Ns mainGlobals mg) (hb : s₁.heap.Ns builtinsNs mb) (hbb : ∀ x : Str, x ≠ "__name__" → mb x = bootBuiltins x) (hlim : s₁.heap.NoLimit) (hg : s₁.gens = #[])
    (ha : s₁.heap.get? a = some { cls := .type "list", data := .seq vs.toArray }) (hr : Room k callerA)
    (F : ∀ base : Heap, K.In base → base.Ns mainGlobals mg → FnOk P w K mg base CX k fa fd [x] sp) (hbind : ∀ (s : Shared) (u : Value), BindsTo s fd ⟨[u], []⟩ [(x, u)])
    (hO : Only H) (hsp : sp [.ref a] H (fun v _ => v = .bl true) fun _ _ _ => False) (hCX : ∀ e s', CX [] H s₁ (fun _ _ _ => False) e s' → False)
    (hok : HOk P w H s₁.heap) (hA : ∀ b, H b ≠ none → b = a) (hK : H a ≠ none → K.lookup a = none) :
    codeAny (model P w) callerA (.call (.ref fa) ⟨[.ref a], []⟩) (fun r s' => r = .ok (.ret (.bool true)) ∧ OldK s₁.heap s'.heap ∧ s'.os = s₁.os ∧ AllBare s'.gens) s₁ := by
  have base_of : ∀ {b : Addr} {o : Obj}, s₁.heap.get? b = some o → (H b ≠ none → False) → (hidT s₁.heap H).get? b = some o := fun {b o} e n => hidT_get e (by
    cases q : H b with
    | none => rfl
    | some u => exact (n (by rw [q]; simp)).elim)
  have nsK : ∀ {b : Addr} {m : Str → Option Value}, s₁.heap.Ns b m → (hidT s₁.heap H).Ns b m := by
    rintro b m ⟨o, es, ep, e, d, r⟩
    refine ⟨o, es, ep, base_of e fun n => ?_, d, r⟩
    have := hA b n
    subst this
    rw [ha] at e
    cases e
    exact Data.noConfusion (show Data.seq vs.toArray _ = Data.dict es ep from d)
  have hKb : K.In (hidT s₁.heap H) := fun b o e => base_of (KX b o e) fun n => by
    have := hA b n
    subst this
    rw [hK n] at e
    cases e
  obtain ⟨mc, l1, l2⟩ := hlim
  have hM : Mod K mg (hidT s₁.heap H) := ⟨hKb, nsK hns, ⟨mb, nsK hb, hbb⟩, ⟨mc, nsK l1, l2⟩⟩
  have no : ∀ {b : Addr}, b ∈ ([] : List Addr) → False := fun h => by simp at h
  have e0 : Env0 P w K mg (hidT s₁.heap H) callerA [] s₁ H := ⟨rfl, hM, fun b o e => of_hidT e, Nat.le_of_eq (hidT_size _ _), trivial, fun b hb => (no hb).elim, hok, .of_eq hg⟩
  refine codeAny_mono ((F _ hKb (nsK hns)).run callerA [] s₁ H ⟨[.ref a], []⟩ [.ref a] [.ref a] _ _ hr e0 (hbind s₁ (.ref a)) (.cons rfl .nil) hsp) fun r s' h => ?_
  match r, h with
  | .error e, h => exact (hCX e s' h).elim
  | .ok .next, h => exact False.elim h
  | .ok .brk, h => exact False.elim h
  | .ok .cont, h => exact False.elim h
  | .ok (.ret u), ⟨v, H', os, bare, un, hok', r', q⟩ =>
    cases (show v = .bl true from q)
    cases (show u = Value.bool true from r')
    refine ⟨rfl, OldK.of_keep fun b o e => ?_, os, bare⟩
    rcases hO b with z | ⟨ob, xs, z⟩
    · exact un.keep b o e z (fun y => no y) (by simp)
    · obtain ⟨e1, _⟩ := hok b _ z
      obtain ⟨e2, _⟩ := hok' b _ (un.frzs b ob _ z)
      rw [e] at e1
      cases e1
      exact e2
end
end Mini
namespace Mini
open PySem L2

/-- the written part, and the world (its hashes) -/
structure Kx where
  fr : PySem.W.Frag
  w : World
instance : CoeOut Kx PySem.W.Frag := ⟨Kx.fr⟩
abbrev kx (X : Cx) : Kx := ⟨X.K, X.w⟩
inductive D where
  | non | bl (b : Bool) | int (i : Int) | str (x : Str) | tup (xs : List D) | lv (xs : List D) | fl (xs : List D) | ref (n : Nat) | exc (c : Str) (ns : List Str) (xs : List D) | fd (ks vs : List D) | obj (c : Str) (ns : List Str) (xs : List D)
inductive O where
  | lst (xs : List D) | dct (ks vs : List D) | dead
abbrev Hd := List O
structure Ex where
  cls : Str
  fs : List (Str × D)
inductive Res (α : Type) where
  | ok (a : α) (h : Hd) | exc (x : Ex) (h : Hd) | fail
abbrev Ev := List (Option D)
def Res.bind {α β : Type} (r : Res α) (k : α → Hd → Res β) : Res β := match r with
  | .ok a h => k a h
  | .exc x h => .exc x h
  | .fail => .fail

def live (h : Hd) (m : Nat) : Bool := match h[m]? with
  | some (.lst _) => true
  | some (.dct _ _) => true
  | _ => false

mutual
def nkD : D → Option NestedKey
  | .non => some .none
  | .bl b => some (.num (if b = true then 1 else 0))
  | .int i => some (.num i)
  | .tup xs => (nkDs xs).map .tup
  | _ => none
def nkDs : List D → Option (List NestedKey)
  | [] => some []
  | d :: ds => match nkD d, nkDs ds with
    | some k, some ks => some (k :: ks)
    | _, _ => none
end
def okK (d : D) : Bool := match nkD d with
  | some k => decide (k.depth ≤ 8)
  | none => false
def hkD (w : World) (d : D) : Int := match nkD d with
  | some k => k.hash w
  | none => 0
/-- the entries of a dict: hashes, keys, values -/
def EntR : List Int → List V → List V → List DictEntry → Prop
  | [], [], [], [] => True
  | h :: hs, u :: us, x :: xs, e :: es => e.hash = h ∧ RelV u e.key ∧ RelV x e.val ∧ EntR hs us xs es
  | _, _, _, _ => False
def NdO (a : Addr) (hs : List Int) (us ws : List V) : HO := .ext fun h => (a == sysModules) = false ∧ ∃ (o : Obj) (es : Array DictEntry) (ep : Nat), h.get? a = some o ∧ o.ExactDict ∧ o.data = .dict es ep ∧ EntR hs us ws es.toList
structure GoodK (ks vs : List D) : Prop where
  ok : ks.all okK = true
  nd : (ks.map nkD).Nodup
  ln : ks.length = vs.length
  sz : ks.length ≤ sizeLine
/-- where the cells stand; Z: addresses that no value speaks of (a comprehension's list while it grows) -/
structure Rh where
  f : Nat → Addr
  Z : Addr → Prop
instance : CoeFun Rh (fun _ => Nat → Addr) := ⟨Rh.f⟩

def KLst (K : PySem.W.Frag) (a : Addr) (xs : List V) : Prop :=
  ∃ (o : Obj) (its : Array Value) (n : Nat), K.lookup a = some o ∧ o.cls = .type "list" ∧ o.dict = none ∧ o.data = .seq its n ∧ its.size ≤ sizeLine ∧ Vals xs its.toList

/-- a caught exception of the class at C, at a, its dict d -/
def XcO (C : Addr) (d : Option Addr) (a : Addr) : HO := .ext fun h => ∃ (oe : Obj) (vs : Array Value), h.get? a = some oe ∧ oe.cls = .ref C ∧ oe.dict = d ∧ oe.data = .fields vs
mutual
def RelD (K : Kx) (rho : Rh) (h : Hd) (B : Nat) (H : Hp) : D → V → Prop
  | .non, v => v = .non
  | .bl b, v => v = .bl b
  | .int i, v => v = .int i
  | .str x, v => v = .str x
  | .tup xs, v => ∃ a us, v = .ref a ∧ SqT K H a us ∧ RelDs K rho h B H xs us
  | .lv xs, v => ∃ a us, v = .ref a ∧ (H a = some (.lst us) ∧ ¬ rho.Z a ∧ ∀ m, live h m = true → rho m ≠ a) ∧ RelDs K rho h B H xs us
  | .fl xs, v => ∃ a us, v = .ref a ∧ ((∃ o, H a = some (.frz o (.lst us))) ∨ KLst K a us) ∧ RelDs K rho h B H xs us
  | .ref n, v => n < B ∧ v = .ref (rho n)
  | .exc c ns xs, v => ∃ (a C : Addr) (o : Obj) (d : Option Addr), v = .ref a ∧ PySem.W.nsIn K.fr mainGlobals c = some (some (.ref C)) ∧ H a = some (.frz o (XcO C d a)) ∧ ((ns = [] ∧ xs = [] ∧ d = none) ∨ ∃ (dd : Addr) (od : Obj) (us : List (Str × V)), d = some dd ∧ H dd = some (.frz od (.xd us)) ∧ us.map (·.1) = ns ∧ RelDs K rho h B H xs (us.map (·.2)))
  | .fd ks vs, v => ∃ (a : Addr) (o : Obj) (us ws : List V), v = .ref a ∧ GoodK ks vs ∧ H a = some (.frz o (NdO a (ks.map (hkD K.w)) us ws)) ∧ RelDs K rho h B H ks us ∧ RelDs K rho h B H vs ws
  | .obj c ns xs, v => ∃ (a C dx : Addr) (o : Obj) (us : List (Str × V)), v = .ref a ∧ PySem.W.nsIn K.fr mainGlobals c = some (some (.ref C)) ∧ H a = some (.frz o (.ins C dx us)) ∧ us.map (·.1) = ns ∧ RelDs K rho h B H xs (us.map (·.2))
def RelDs (K : Kx) (rho : Rh) (h : Hd) (B : Nat) (H : Hp) : List D → List V → Prop
  | [], us => us = []
  | d :: ds, us => ∃ v r, us = v :: r ∧ RelD K rho h B H d v ∧ RelDs K rho h B H ds r
end

structure Ext (K : Kx) (rho : Rh) (h : Hd) (H : Hp) (rho' : Rh) (h' : Hd) (H' : Hp) : Prop where
  le : h.length ≤ h'.length
  ag : ∀ m, m < h.length → rho' m = rho m
  lv : ∀ m, m < h.length → live h' m = true → live h m = true
  fr : ∀ m, h.length ≤ m → live h' m = true → H (rho' m) = none
  kp : ∀ a o, H a = some o → (∀ m, live h m = true → rho m ≠ a) → H' a = some o
  tp : ∀ a us, H a = some (.tup us) → H' a = some (.tup us)
  fz : ∀ a o u, H a = some (.frz o u) → H' a = some (.frz o u)
  dm : ∀ a, H' a = none → H a = none
  zi : ∀ a, rho.Z a → rho'.Z a
  zo : ∀ a, rho'.Z a → rho.Z a ∨ H a = none

theorem live_lt {h : Hd} {m : Nat} (e : live h m = true) : m < h.length := by
  unfold live at e
  cases q : h[m]? with
  | none => rw [q] at e; cases e
  | some o => exact (List.getElem?_eq_some_iff.mp q).1

section
variable {K : Kx} {rho rho' rho2 : Rh} {h h' h2 : Hd} {H H' H2 : Hp}
theorem Ext.refl : Ext K rho h H rho h H where
  le := Nat.le_refl _
  ag := fun _ _ => rfl
  lv := fun _ _ e => e
  fr := fun m hm e => absurd (live_lt e) (Nat.not_lt.mpr hm)
  kp := fun _ _ e _ => e
  tp := fun _ _ e => e
  fz := fun _ _ _ e => e
  dm := fun _ e => e
  zi := fun _ e => e
  zo := fun _ e => .inl e
theorem Ext.ne (x : Ext K rho h H rho' h' H') {a : Addr} {o : HO} (e : H a = some o) (n : ∀ m, live h m = true → rho m ≠ a) : ∀ m, live h' m = true → rho' m ≠ a := fun m hm => by
  by_cases hl : m < h.length
  · rw [x.ag m hl]; exact n m (x.lv m hl hm)
  · have := x.fr m (Nat.not_lt.mp hl) hm
    intro z; rw [z, e] at this; cases this
theorem Ext.trans (x : Ext K rho h H rho' h' H') (y : Ext K rho' h' H' rho2 h2 H2) : Ext K rho h H rho2 h2 H2 where
  le := Nat.le_trans x.le y.le
  ag := fun m hm => (y.ag m (Nat.lt_of_lt_of_le hm x.le)).trans (x.ag m hm)
  lv := fun m hm e => x.lv m hm (y.lv m (Nat.lt_of_lt_of_le hm x.le) e)
  fr := fun m hm e => by
    by_cases hl : m < h'.length
    · rw [y.ag m hl]; exact x.fr m hm (y.lv m hl e)
    · exact x.dm _ (y.fr m (Nat.not_lt.mp hl) e)
  kp := fun a o e n => y.kp a o (x.kp a o e n) (x.ne e n)
  tp := fun a us e => y.tp a us (x.tp a us e)
  fz := fun a o u e => y.fz a o u (x.fz a o u e)
  dm := fun a e => x.dm a (y.dm a e)
  zi := fun a e => y.zi a (x.zi a e)
  zo := fun a e => (y.zo a e).elim (x.zo a) fun q => .inr (x.dm a q)
theorem Ext.nz (x : Ext K rho h H rho' h' H') {a : Addr} {o : HO} (e : H a = some o) (z : ¬ rho.Z a) : ¬ rho'.Z a := fun q => (x.zo a q).elim z fun n => by rw [e] at n; cases n
theorem Ext.sqT (x : Ext K rho h H rho' h' H') {a : Addr} {us : List V} (e : SqT K H a us) : SqT K H' a us := by
  rcases e with (e | ⟨o, e⟩) | e
  · exact .inl (.inl (x.tp _ _ e))
  · exact .inl (.inr ⟨o, x.fz _ _ _ e⟩)
  · exact .inr e

mutual
theorem RelD.mono (x : Ext K rho h H rho' h' H') {B B' : Nat} (hB : B ≤ B') (hh : B ≤ h.length) : ∀ (d : D) (v : V), RelD K rho h B H d v → RelD K rho' h' B' H' d v
  | .non, v, e => by simp only [RelD] at e ⊢; exact e
  | .bl b, v, e => by simp only [RelD] at e ⊢; exact e
  | .int i, v, e => by simp only [RelD] at e ⊢; exact e
  | .str z, v, e => by simp only [RelD] at e ⊢; exact e
  | .tup xs, v, e => by
    simp only [RelD] at e ⊢
    obtain ⟨a, us, e1, e2, e3⟩ := e
    exact ⟨a, us, e1, x.sqT e2, RelDs.mono x hB hh xs us e3⟩
  | .lv xs, v, e => by
    simp only [RelD] at e ⊢
    obtain ⟨a, us, e1, e2, e3⟩ := e
    refine ⟨a, us, e1, ?_, RelDs.mono x hB hh xs us e3⟩
    obtain ⟨e2, z, n⟩ := e2
    exact ⟨x.kp _ _ e2 n, x.nz e2 z, x.ne e2 n⟩
  | .fl xs, v, e => by
    simp only [RelD] at e ⊢
    obtain ⟨a, us, e1, e2, e3⟩ := e
    refine ⟨a, us, e1, ?_, RelDs.mono x hB hh xs us e3⟩
    rcases e2 with ⟨o, e2⟩ | e2
    · exact .inl ⟨o, x.fz _ _ _ e2⟩
    · exact .inr e2
  | .ref n, v, e => by
    simp only [RelD] at e ⊢
    exact ⟨Nat.lt_of_lt_of_le e.1 hB, by rw [x.ag n (Nat.lt_of_lt_of_le e.1 hh)]; exact e.2⟩
  | .exc c ns xs, v, e => by
    simp only [RelD] at e ⊢
    obtain ⟨a, C, o, d, e1, e2, e3, e4⟩ := e
    exact ⟨a, C, o, d, e1, e2, x.fz _ _ _ e3, e4.imp id fun ⟨dd, od, us, q1, q2, q3, q4⟩ => ⟨dd, od, us, q1, x.fz _ _ _ q2, q3, RelDs.mono x hB hh xs _ q4⟩⟩
  | .fd ks vs, v, e => by
    simp only [RelD] at e ⊢
    obtain ⟨a, o, us, ws, e1, e2, e3, e4, e5⟩ := e
    exact ⟨a, o, us, ws, e1, e2, x.fz _ _ _ e3, RelDs.mono x hB hh ks _ e4, RelDs.mono x hB hh vs _ e5⟩
  | .obj c ns xs, v, e => by
    simp only [RelD] at e ⊢
    obtain ⟨a, C, dx, o, us, e1, e2, e3, e4, e5⟩ := e
    exact ⟨a, C, dx, o, us, e1, e2, x.fz _ _ _ e3, e4, RelDs.mono x hB hh xs _ e5⟩
theorem RelDs.mono (x : Ext K rho h H rho' h' H') {B B' : Nat} (hB : B ≤ B') (hh : B ≤ h.length) : ∀ (ds : List D) (us : List V), RelDs K rho h B H ds us → RelDs K rho' h' B' H' ds us
  | [], us, e => by simp only [RelDs] at e ⊢; exact e
  | d :: ds, us, e => by
    simp only [RelDs] at e ⊢
    obtain ⟨v, r, e1, e2, e3⟩ := e
    exact ⟨v, r, e1, RelD.mono x hB hh d v e2, RelDs.mono x hB hh ds r e3⟩
end
end

/-- a cell and what stands for it -/
def RelC (K : Kx) (rho : Rh) (h : Hd) (m : Nat) (H : Hp) : O → Prop
  | .lst xs => ∃ us, H (rho m) = some (.lst us) ∧ RelDs K rho h m H xs us
  | .dct ks vs => GoodK ks vs ∧ ∃ us ws, H (rho m) = some (NdO (rho m) (ks.map (hkD K.w)) us ws) ∧ RelDs K rho h m H ks us ∧ RelDs K rho h m H vs ws
  | .dead => True
structure Rel (K : Kx) (rho : Rh) (h : Hd) (H : Hp) : Prop where
  inj : ∀ m n, live h m = true → live h n = true → rho m = rho n → m = n
  cell : ∀ m o, h[m]? = some o → RelC K rho h m H o
  zd : ∀ a, rho.Z a → H a ≠ none
  zc : ∀ m, live h m = true → ¬ rho.Z (rho m)
abbrev RelV' (K : Kx) (rho : Rh) (h : Hd) (H : Hp) (d : D) (v : V) : Prop := RelD K rho h h.length H d v
abbrev RelVs' (K : Kx) (rho : Rh) (h : Hd) (H : Hp) (d : List D) (v : List V) : Prop := RelDs K rho h h.length H d v
def RelS (K : Kx) (rho : Rh) (h : Hd) (H : Hp) (s : Ev) (σ : St) : Prop :=
  s.length = σ.length ∧ ∀ (i : Nat) (d : D), s[i]? = some (some d) → ∃ v, σ[i]? = some (some v) ∧ RelV' K rho h H d v
def RelX (K : Kx) (mg : Str → Option Value) (rho : Rh) (h : Hd) (H : Hp) (x : Ex) (cls : Value) (dd : Option Addr) : Prop :=
  ∃ C, mg x.cls = some (.ref C) ∧ cls = .ref C ∧ ((x.fs = [] ∧ dd = none) ∨ ∃ d od us, dd = some d ∧ H d = some (.frz od (.xd us)) ∧ us.map (·.1) = x.fs.map (·.1) ∧ RelDs K rho h h.length H (x.fs.map (·.2)) (us.map (·.2)))
section
variable {K : Kx} {rho rho' rho2 : Rh} {h h' h2 : Hd} {H H' H2 : Hp}
theorem Ext.v (x : Ext K rho h H rho' h' H') {d : D} {v : V} (r : RelV' K rho h H d v) : RelV' K rho' h' H' d v := RelD.mono x x.le (Nat.le_refl _) d v r
theorem Ext.vs (x : Ext K rho h H rho' h' H') {d : List D} {v : List V} (r : RelVs' K rho h H d v) : RelVs' K rho' h' H' d v := RelDs.mono x x.le (Nat.le_refl _) d v r
theorem Ext.s (x : Ext K rho h H rho' h' H') {s : Ev} {σ : St} (r : RelS K rho h H s σ) : RelS K rho' h' H' s σ := ⟨r.1, fun i d e => let ⟨v, a, b⟩ := r.2 i d e; ⟨v, a, x.v b⟩⟩
theorem RelS.set {s : Ev} {σ : St} (r : RelS K rho h H s σ) {d : D} {v : V} (e : RelV' K rho h H d v) (i : Nat) : RelS K rho h H (s.set i (some d)) (σ.set i (some v)) := by
  refine ⟨by simp [r.1], fun j d' q => ?_⟩
  by_cases hj : i = j
  · subst hj
    by_cases hl : i < s.length
    · rw [List.getElem?_set_self hl] at q
      cases q
      exact ⟨v, by rw [List.getElem?_set_self (by rw [← r.1]; exact hl)], e⟩
    · rw [List.getElem?_eq_none (by simpa using hl)] at q; cases q
  · rw [List.getElem?_set_ne hj] at q
    obtain ⟨w, a, b⟩ := r.2 j d' q
    exact ⟨w, by rw [List.getElem?_set_ne hj]; exact a, b⟩
theorem RelDs.length : ∀ {ds : List D} {us : List V} {B : Nat}, RelDs K rho h B H ds us → ds.length = us.length
  | [], us, B, e => by simp only [RelDs] at e; subst e; rfl
  | d :: ds, us, B, e => by
    simp only [RelDs] at e
    obtain ⟨v, r, e1, _, e3⟩ := e
    subst e1
    simp [RelDs.length e3]
theorem RelDs.get : ∀ {ds : List D} {us : List V} {B i : Nat} {d : D}, RelDs K rho h B H ds us → ds[i]? = some d → ∃ v, us[i]? = some v ∧ RelD K rho h B H d v
  | [], us, B, i, d, e, q => by simp at q
  | d' :: ds, us, B, 0, d, e, q => by
    simp only [RelDs] at e
    obtain ⟨v, r, e1, e2, e3⟩ := e
    subst e1
    simp at q
    subst q
    exact ⟨v, rfl, e2⟩
  | d' :: ds, us, B, i + 1, d, e, q => by
    simp only [RelDs] at e
    obtain ⟨v, r, e1, e2, e3⟩ := e
    subst e1
    simp at q
    obtain ⟨w, a, b⟩ := RelDs.get (i := i) e3 q
    exact ⟨w, by simpa using a, b⟩
theorem RelDs.append : ∀ {ds es : List D} {us ws : List V} {B : Nat}, RelDs K rho h B H ds us → RelDs K rho h B H es ws → RelDs K rho h B H (ds ++ es) (us ++ ws)
  | [], es, us, ws, B, e, q => by simp only [RelDs] at e; subst e; exact q
  | d :: ds, es, us, ws, B, e, q => by
    simp only [RelDs] at e
    obtain ⟨v, r, e1, e2, e3⟩ := e
    subst e1
    simp only [List.cons_append, RelDs]
    exact ⟨v, _, rfl, e2, RelDs.append e3 q⟩
theorem RelDs.set {d : D} {v : V} {B : Nat} (r : RelD K rho h B H d v) : ∀ {ds : List D} {us : List V} (i : Nat), RelDs K rho h B H ds us → RelDs K rho h B H (ds.set i d) (us.set i v)
  | [], us, i, e => by simp only [RelDs] at e; subst e; simp [RelDs]
  | d' :: ds, us, 0, e => by
    simp only [RelDs] at e
    obtain ⟨v', r', e1, e2, e3⟩ := e
    subst e1
    simp only [List.set_cons_zero, RelDs]
    exact ⟨v, _, rfl, r, e3⟩
  | d' :: ds, us, i + 1, e => by
    simp only [RelDs] at e
    obtain ⟨v', r', e1, e2, e3⟩ := e
    subst e1
    simp only [List.set_cons_succ, RelDs]
    exact ⟨v', _, rfl, e2, RelDs.set r i e3⟩
theorem RelDs.take : ∀ {ds : List D} {us : List V} {B : Nat} (i : Nat), RelDs K rho h B H ds us → RelDs K rho h B H (ds.take i) (us.take i)
  | ds, us, B, 0, e => by simp [RelDs]
  | [], us, B, i + 1, e => by simp only [RelDs] at e; subst e; simp [RelDs]
  | d' :: ds, us, B, i + 1, e => by
    simp only [RelDs] at e
    obtain ⟨v', r', e1, e2, e3⟩ := e
    subst e1
    simp only [List.take_succ_cons, RelDs]
    exact ⟨v', _, rfl, e2, RelDs.take i e3⟩
theorem RelDs.drop : ∀ {ds : List D} {us : List V} {B : Nat} (i : Nat), RelDs K rho h B H ds us → RelDs K rho h B H (ds.drop i) (us.drop i)
  | ds, us, B, 0, e => e
  | [], us, B, i + 1, e => by simp only [RelDs] at e; subst e; simp [RelDs]
  | d' :: ds, us, B, i + 1, e => by
    simp only [RelDs] at e
    obtain ⟨v', r', e1, e2, e3⟩ := e
    subst e1
    simp only [List.drop_succ_cons]
    exact RelDs.drop i e3
theorem RelDs.nil_iff {ds : List D} {us : List V} {B : Nat} (e : RelDs K rho h B H ds us) : ds = [] ↔ us = [] := by
  have := RelDs.length e
  constructor
  · intro z; subst z; exact List.length_eq_zero_iff.mp this.symm
  · intro z; subst z; exact List.length_eq_zero_iff.mp this
end
end Mini
namespace Mini
open PySem L2

abbrev PG' (α : Type) := α → (Rh) → Hd → Hp → Prop
def PostG {α : Type} (K : Kx) (mg : Str → Option Value) (W : XK) (rho : Rh) (h : Hd) (H : Hp) (r : Res α) (P : PG' α) : Prop := match r with
  | .ok a h' => ∀ rho' H', Ext K rho h H rho' h' H' → Rel K rho' h' H' → P a rho' h' H'
  | .exc x h' => ∀ rho' H' cls dd, Ext K rho h H rho' h' H' → Rel K rho' h' H' → RelX K mg rho' h' H' x cls dd → W cls dd H'
  | .fail => False
abbrev pE (K : Kx) (Q : VK) : PG' D := fun d rho h H => ∀ v, RelV' K rho h H d v → Q v H
abbrev pA (K : Kx) (Q : List V → Hp → Prop) : PG' (List D) := fun d rho h H => ∀ v, RelVs' K rho h H d v → Q v H
abbrev pT (Q : Bool → Hp → Prop) : PG' Bool := fun b _ _ H => Q b H
section
variable {α β : Type} {K : Kx} {mg : Str → Option Value} {W W' : XK} {rho rho1 : Rh} {h h1 : Hd} {H H1 : Hp} {P P' : PG' α}
theorem PostG.ext {r : Res α} (x : Ext K rho h H rho1 h1 H1) (p : PostG K mg W rho h H r P) : PostG K mg W rho1 h1 H1 r P := by
  cases r with
  | ok a h' => exact fun rho' H' e R => p rho' H' (x.trans e) R
  | exc y h' => exact fun rho' H' cls dd e R q => p rho' H' cls dd (x.trans e) R q
  | fail => exact p
theorem PostG.imp {r : Res α} (p : PostG K mg W rho h H r P) (i : ∀ a rho' h' H', Ext K rho h H rho' h' H' → Rel K rho' h' H' → P a rho' h' H' → P' a rho' h' H') : PostG K mg W rho h H r P' := by
  cases r with
  | ok a h' => exact fun rho' H' e R => i a rho' h' H' e R (p rho' H' e R)
  | exc y h' => exact p
  | fail => exact p
theorem PostG.bind {r : Res α} {k : α → Hd → Res β} {P : PG' β} (p : PostG K mg W rho h H (r.bind k) P) : PostG K mg W rho h H r (fun a rho' h' H' => PostG K mg W rho' h' H' (k a h') P) := by
  cases r with
  | ok a h' => exact fun rho' H' e R => PostG.ext e p
  | exc y h' => exact p
  | fail => exact p
theorem PostG.ok {a : α} (p : PostG K mg W rho h H (.ok a h) P) (R : Rel K rho h H) : P a rho h H := p rho H Ext.refl R
end

/-- a primitive's result: no exception -/
abbrev PR := Option (D × Hd)
def lift {α : Type} (r : Option (α × Hd)) : Res α := match r with
  | some (d, h) => .ok d h
  | none => .fail
abbrev EF := Ev → Hd → Res D
abbrev TF := Ev → Hd → Res Bool
abbrev AF := Ev → Hd → Res (List D)
inductive Fl where
  | nx (s : Ev) | rt (d : D) | bk (s : Ev) | ct (s : Ev) | ex (x : Ex) (s : Ev)
abbrev SF := Ev → Hd → Res Fl

def tG {α β : Type} (K : Kx) (mg : Str → Option Value) (W : WX) (f : Ev → Hd → Res α) (p : β → PG' α) : St → Hp → β → Prop := fun σ H Q =>
  ∃ rho h s, Rel K rho h H ∧ RelS K rho h H s σ ∧ PostG K mg (fun c d H' => W c d σ H') rho h H (f s h) (p Q)
abbrev tE (K : Kx) (mg : Str → Option Value) (W : WX) (f : EF) : TE := tG K mg W f (pE K)
abbrev tT (K : Kx) (mg : Str → Option Value) (W : WX) (f : TF) : TT := tG K mg W f pT
abbrev tA (K : Kx) (mg : Str → Option Value) (W : WX) (f : AF) : TA := tG K mg W f (pA K)
def pS (K : Kx) (W : WX) (mg : Str → Option Value) (E : Ends) : PG' Fl := fun fl rho h H => match fl with
  | .nx s => ∀ σ, RelS K rho h H s σ → E.nx σ H
  | .rt d => ∀ v, RelV' K rho h H d v → E.rt v H
  | .bk s => ∀ σ, RelS K rho h H s σ → E.bk σ H
  | .ct s => ∀ σ, RelS K rho h H s σ → E.ct σ H
  | .ex x s => ∀ σ cls dd, RelS K rho h H s σ → RelX K mg rho h H x cls dd → W cls dd σ H
def tS (K : Kx) (mg : Str → Option Value) (W : WX) (f : SF) : TS := fun E σ H =>
  ∃ rho h s, Rel K rho h H ∧ RelS K rho h H s σ ∧ PostG K mg (fun _ _ _ => False) rho h H (f s h) (pS K W mg E)

abbrev SE (X : Cx) (W : WX) (e : Expr) (f : EF) : Prop := PE X e (tE (kx X) X.mg W f)
abbrev ST (X : Cx) (W : WX) (e : Expr) (f : TF) : Prop := PT X e (tT (kx X) X.mg W f)
abbrev SW (X : Cx) (W : WX) (e : Expr) (f : TF) : Prop := PW X e (tT (kx X) X.mg W f)
abbrev SA (X : Cx) (W : WX) (e : List Expr) (f : AF) : Prop := PA X e (tA (kx X) X.mg W f)
abbrev SS (X : Cx) (W : WX) (e : Stmt) (f : SF) : Prop := PS X e (tS (kx X) X.mg W f)
abbrev SSs (X : Cx) (W : WX) (e : List Stmt) (f : SF) : Prop := PSs X e (tS (kx X) X.mg W f)
section
variable {X : Cx} {e : Expr} {es : List Expr} {st : Stmt} {sts : List Stmt}
theorem PE.imp {t t' : TE} (p : PE X e t) (i : ∀ σ H Q, t' σ H Q → t σ H Q) : PE X e t' := ⟨fun pins s σ H Q I q => p.run pins s σ H Q I (i σ H Q q)⟩
theorem PT.imp {t t' : TT} (p : PT X e t) (i : ∀ σ H Q, t' σ H Q → t σ H Q) : PT X e t' := ⟨fun pins s σ H Q I q => p.run pins s σ H Q I (i σ H Q q)⟩
theorem PW.imp {t t' : TT} (p : PW X e t) (i : ∀ σ H Q, t' σ H Q → t σ H Q) : PW X e t' := ⟨fun wh pins s σ H Q I q => p.run wh pins s σ H Q I (i σ H Q q)⟩
theorem PA.imp {t t' : TA} (p : PA X es t) (i : ∀ σ H Q, t' σ H Q → t σ H Q) : PA X es t' := ⟨fun ps pins s σ H Q I q => p.run ps pins s σ H Q I (i σ H Q q)⟩
theorem PK.imp {ks : List Keyword} {t t' : TA} (p : PK X ks t) (i : ∀ σ H Q, t' σ H Q → t σ H Q) : PK X ks t' := ⟨fun ps pins s σ H Q I q => p.run ps pins s σ H Q I (i σ H Q q)⟩
theorem PS.imp {t t' : TS} (p : PS X st t) (i : ∀ E σ H, t' E σ H → t E σ H) : PS X st t' := ⟨fun pins s σ H E I q => p.run pins s σ H E I (i E σ H q)⟩
theorem PSs.imp {t t' : TS} (p : PSs X sts t) (i : ∀ E σ H, t' E σ H → t E σ H) : PSs X sts t' := ⟨fun pins s σ H E I q => p.run pins s σ H E I (i E σ H q)⟩
end

section
variable {α β γ : Type} {K : Kx} {mg : Str → Option Value} {W : WX} {f : Ev → Hd → Res α} {k : α → Hd → Res γ} {p : β → PG' α} {P : PG' γ} {σ : St} {H : Hp} {c : β} {rho : Rh} {h : Hd} {s : Ev}
theorem step (R : Rel K rho h H) (S : RelS K rho h H s σ) (po : PostG K mg (fun c d H' => W c d σ H') rho h H ((f s h).bind k) P)
    (hc : ∀ rho' h' H' a, Ext K rho h H rho' h' H' → Rel K rho' h' H' → RelS K rho' h' H' s σ → PostG K mg (fun c d H' => W c d σ H') rho' h' H' (k a h') P → p c a rho' h' H') : tG K mg W f p σ H c :=
  ⟨rho, h, s, R, S, (PostG.bind po).imp fun a rho' h' H' e R' z => hc rho' h' H' a e R' (e.s S) z⟩
end

def e_var (i : Nat) : EF := fun s h => match s[i]? with
  | some (some d) => .ok d h
  | _ => .fail
def e_c (d : D) : EF := fun _ h => .ok d h
section
variable {X : Cx} {W : WX} {pos : Pos}
theorem tE.get {K : Kx} {mg : Str → Option Value} {i : Nat} {σ : St} {H : Hp} {Q : VK} (h : tE K mg W (e_var i) σ H Q) : tVar i σ H Q := by
  obtain ⟨rho, hh, s, R, S, po⟩ := h
  unfold e_var at po
  cases q : s[i]? with
  | none => rw [q] at po; exact po.elim
  | some o =>
    cases o with
    | none => rw [q] at po; exact po.elim
    | some d =>
      rw [q] at po
      obtain ⟨v, e, r⟩ := S.2 i d q
      exact ⟨v, e, PostG.ok po R v r⟩
theorem r_var (i : Nat) {x : Str} (hN : X.N[i]? = some x := by rfl) (hv : Vis X.env.scope x := by first | exact Or.inl rfl | exact Or.inr (Or.inl rfl) | exact Or.inr (Or.inr rfl)) (hd : (x == ("__debug__" : Str)) = false := by decide)
    (hcd : (x == ("__classdict__" : Str)) = false := by decide) : SE X W (.Name x pos) (e_var i) := PE.imp (pe_var hN hv hd hcd) fun _ _ _ h => tE.get h
theorem tE.const {K : Kx} {mg : Str → Option Value} {d : D} {v : V} {σ : St} {H : Hp} {Q : VK} (h : tE K mg W (e_c d) σ H Q) (r : ∀ rho h H, RelV' K rho h H d v) : tC v σ H Q := by
  obtain ⟨rho, hh, s, R, S, po⟩ := h
  exact PostG.ok po R v (r _ _ _)
theorem r_int {i : Int} {j : Nat} : SE X W (.Constant (.int i) j pos) (e_c (.int i)) := PE.imp pe_int fun _ _ _ h => tE.const h fun _ _ _ => by simp only [RelV', RelD]
theorem r_bl {b : Bool} {j : Nat} : SE X W (.Constant (.bool b) j pos) (e_c (.bl b)) := PE.imp pe_bl fun _ _ _ h => tE.const h fun _ _ _ => by simp only [RelV', RelD]
theorem r_non {j : Nat} : SE X W (.Constant .none j pos) (e_c .non) := PE.imp pe_non fun _ _ _ h => tE.const h fun _ _ _ => by simp only [RelV', RelD]
theorem r_str {x : Str} {j : Nat} : SE X W (.Constant (.str x) j pos) (e_c (.str x)) := PE.imp pe_str fun _ _ _ h => tE.const h fun _ _ _ => by simp only [RelV', RelD]
end

def PostP (K : Kx) (rho : Rh) (h : Hd) (H : Hp) (r : PR) (Q : VK) : Prop := match r with
  | some (d, h') => ∀ rho' H' v, Ext K rho h H rho' h' H' → Rel K rho' h' H' → RelV' K rho' h' H' d v → Q v H'
  | none => False
theorem PostP.of {K : Kx} {mg : Str → Option Value} {W : XK} {rho : Rh} {h : Hd} {H : Hp} {r : PR} {Q : VK} (p : PostG K mg W rho h H (lift r) (pE K Q)) : PostP K rho h H r Q := by
  cases r with
  | none => exact p
  | some x => exact fun rho' H' v e R r => p rho' H' e R v r
theorem PostP.here {K : Kx} {rho : Rh} {h : Hd} {H : Hp} {d : D} {Q : VK} (p : PostP K rho h H (some (d, h)) Q) (R : Rel K rho h H) {v : V} (r : RelV' K rho h H d v) : Q v H := p rho H v Ext.refl R r
abbrev P2 := D → D → Hd → PR
abbrev P1 := D → Hd → PR
abbrev PL := List D → Hd → PR
abbrev PM := D → List D → Hd → PR
def rO (K : Kx) (g : P2) : R2 := fun x y H Q => ∃ rho h dx dy, Rel K rho h H ∧ RelV' K rho h H dx x ∧ RelV' K rho h H dy y ∧ PostP K rho h H (g dx dy h) Q
def rU' (K : Kx) (g : P1) : V → Hp → VK → Prop := fun x H Q => ∃ rho h dx, Rel K rho h H ∧ RelV' K rho h H dx x ∧ PostP K rho h H (g dx h) Q
def rC (K : Kx) (g : PL) : List V → Hp → VK → Prop := fun xs H Q => ∃ rho h ds, Rel K rho h H ∧ RelVs' K rho h H ds xs ∧ PostP K rho h H (g ds h) Q
def rM (K : Kx) (g : PM) : V → List V → Hp → VK → Prop := fun x xs H Q => ∃ rho h d ds, Rel K rho h H ∧ RelV' K rho h H d x ∧ RelVs' K rho h H ds xs ∧ PostP K rho h H (g d ds h) Q

def e_op (g : P2) (a b : EF) : EF := fun s h => (a s h).bind fun x h1 => (b s h1).bind fun y h2 => lift (g x y h2)
def e_un (g : P1) (a : EF) : EF := fun s h => (a s h).bind fun x h1 => lift (g x h1)
section
variable {X : Cx} {W : WX} {pos : Pos} {a b c : Expr} {fa fb fc : EF}
theorem OpR.imp' {f : Value → Value → Sem Value} {r r' : R2} (p : OpR X f r) (i : ∀ x y H Q, r' x y H Q → r x y H Q) : OpR X f r' := fun pins s σ H x y v u Q I rx ry q => p pins s σ H x y v u Q I rx ry (i x y H Q q)
theorem tE.op {K : Kx} {mg : Str → Option Value} {g : P2} {σ : St} {H : Hp} {Q : VK} (h : tE K mg W (e_op g fa fb) σ H Q) : tOp (rO K g) (tE K mg W fa) (tE K mg W fb) σ H Q := by
  obtain ⟨rho, h, s, R, S, po⟩ := h
  exact step R S po fun rho1 h1 H1 x e1 R1 S1 po1 v r => step R1 S1 po1 fun rho2 h2 H2 y e2 R2 S2 po2 u ru => ⟨rho2, h2, x, y, R2, e2.v r, ru, PostP.of po2⟩
theorem r_op {op : Operator} {g : P2} (ho : OpR X (binaryOp op) (rO (kx X) g)) (ha : SE X W a fa) (hb : SE X W b fb) : SE X W (.BinOp a op b pos) (e_op g fa fb) := PE.imp (pe_op ho ha hb) fun _ _ _ h => tE.op h
theorem r_cmp {op : CmpOp} {g : P2} (ho : OpR X (compareOp op) (rO (kx X) g)) (ha : SE X W a fa) (hb : SE X W b fb) (hm : behindInMarks op b = false := by first | exact nobehind _ (by decide) (by decide) | rfl) : SE X W (.Compare a [op] [b] pos) (e_op g fa fb) :=
  PE.imp (pe_cmpR ho ha hb hm) fun _ _ _ h => tE.op h
theorem tE.un {K : Kx} {mg : Str → Option Value} {g : P1} {σ : St} {H : Hp} {Q : VK} (h : tE K mg W (e_un g fa) σ H Q) : tUn (rU' K g) (tE K mg W fa) σ H Q := by
  obtain ⟨rho, h, s, R, S, po⟩ := h
  exact step R S po fun rho1 h1 H1 x e1 R1 S1 po1 v r => ⟨rho1, h1, x, R1, r, PostP.of po1⟩
theorem r_un {op : UnaryOp} {g : P1} (ho : UnR X (unaryOp op) (rU' (kx X) g)) (ha : SE X W a fa) : SE X W (.UnaryOp op a pos) (e_un g fa) := PE.imp (pe_un ho ha) fun _ _ _ h => tE.un h
/-- a subscript -/
theorem r_ix {g : P2} (ho : IxR X (rO (kx X) g)) (ha : SE X W a fa) (hb : SE X W b fb) (hs : PlainIx b := by intro _ _; rfl) : SE X W (.Subscript a b pos) (e_op g fa fb) := PE.imp (pe_ix ho ha hb hs) fun _ _ _ h => tE.op h
end

def t_b (f : EF) : TF := fun s h => (f s h).bind fun d h1 => match d with
  | .bl b => .ok b h1
  | _ => .fail
def truD (d : D) (h : Hd) : Option Bool := match d with
  | .non => some false
  | .bl b => some b
  | .int i => some (i != 0)
  | .str y => if y.length ≤ sizeLine then some ((y.length : Int) != 0) else none
  | .tup xs => some (!xs.isEmpty)
  | .lv xs => some (!xs.isEmpty)
  | .fl xs => some (!xs.isEmpty)
  | .exc _ _ _ => none
  | .obj _ _ _ => none
  | .fd _ _ => none
  | .ref n => match h[n]? with
    | some (.lst xs) => some (!xs.isEmpty)
    | _ => none
def t_tru (f : EF) : TF := fun s h => (f s h).bind fun d h1 => match truD d h1 with
  | some b => .ok b h1
  | none => .fail
section
variable {K : Kx} {rho : Rh} {h : Hd} {H : Hp}
theorem RelV'.bl {b : Bool} {v : V} (r : RelV' K rho h H (.bl b) v) : v = .bl b := by simpa only [RelV', RelD] using r
theorem RelV'.int {b : Int} {v : V} (r : RelV' K rho h H (.int b) v) : v = .int b := by simpa only [RelV', RelD] using r
theorem RelV'.str {b : Str} {v : V} (r : RelV' K rho h H (.str b) v) : v = .str b := by simpa only [RelV', RelD] using r
theorem RelV'.non {v : V} (r : RelV' K rho h H .non v) : v = .non := by simpa only [RelV', RelD] using r
theorem relInt (i : Int) : RelV' K rho h H (.int i) (.int i) := by simp only [RelV', RelD]
theorem relBl (i : Bool) : RelV' K rho h H (.bl i) (.bl i) := by simp only [RelV', RelD]
theorem relStr (i : Str) : RelV' K rho h H (.str i) (.str i) := by simp only [RelV', RelD]
theorem relNon : RelV' K rho h H .non .non := by simp only [RelV', RelD]
theorem RelV'.tup {xs : List D} {v : V} (r : RelV' K rho h H (.tup xs) v) : ∃ a us, v = .ref a ∧ SqT K H a us ∧ RelVs' K rho h H xs us := by simpa only [RelV', RelD] using r
theorem Rel.cellL (R : Rel K rho h H) {n : Nat} {xs : List D} (e : h[n]? = some (.lst xs)) : ∃ us, H (rho n) = some (.lst us) ∧ RelVs' K rho h H xs us := by
  obtain ⟨us, a, b⟩ := R.cell n _ e
  exact ⟨us, a, RelDs.mono Ext.refl (Nat.le_of_lt (List.getElem?_eq_some_iff.mp e).1) (Nat.le_of_lt (List.getElem?_eq_some_iff.mp e).1) _ _ b⟩
/-- a list that is read: by value, or a cell -/
def asL (d : D) (h : Hd) : Option (List D) := match d with
  | .lv xs => some xs
  | .fl xs => some xs
  | .ref n => match h[n]? with
    | some (.lst xs) => some xs
    | _ => none
  | _ => none
theorem asL_ok (R : Rel K rho h H) {d : D} {v : V} {xs : List D} (r : RelV' K rho h H d v) (e : asL d h = some xs) : ∃ a us, v = .ref a ∧ SqL K H a us ∧ RelVs' K rho h H xs us := by
  cases d with
  | lv ys =>
    simp only [asL, Option.some.injEq] at e
    subst e
    simp only [RelV', RelD] at r
    obtain ⟨a, us, e1, e2, e3⟩ := r
    exact ⟨a, us, e1, .inl (.inl e2.1), e3⟩
  | fl ys =>
    simp only [asL, Option.some.injEq] at e
    subst e
    simp only [RelV', RelD] at r
    obtain ⟨a, us, e1, e2, e3⟩ := r
    refine ⟨a, us, e1, ?_, e3⟩
    rcases e2 with e2 | e2
    · exact .inl (.inr e2)
    · exact .inr e2
  | ref n =>
    simp only [asL] at e
    cases q : h[n]? with
    | none => rw [q] at e; cases e
    | some o =>
      cases o with
      | dead => rw [q] at e; cases e
      | dct _ _ => rw [q] at e; cases e
      | lst ys =>
        rw [q] at e
        cases e
        obtain ⟨us, a, b⟩ := R.cellL q
        simp only [RelV', RelD] at r
        exact ⟨_, us, r.2, .inl (.inl a), b⟩
  | _ => simp [asL] at e
/-- a list or a tuple that is read -/
def asS (d : D) (h : Hd) : Option (List D) := match d with
  | .tup xs => some xs
  | d => asL d h
theorem asS_ok (R : Rel K rho h H) {d : D} {v : V} {xs : List D} (r : RelV' K rho h H d v) (e : asS d h = some xs) : ∃ a us, v = .ref a ∧ (SqL K H a us ∨ SqT K H a us) ∧ RelVs' K rho h H xs us := by
  cases d with
  | tup ys =>
    simp only [asS, Option.some.injEq] at e
    subst e
    obtain ⟨a, us, e1, e2, e3⟩ := r.tup
    exact ⟨a, us, e1, .inr e2, e3⟩
  | lv ys => obtain ⟨a, us, e1, e2, e3⟩ := asL_ok R r e; exact ⟨a, us, e1, .inl e2, e3⟩
  | fl ys => obtain ⟨a, us, e1, e2, e3⟩ := asL_ok R r e; exact ⟨a, us, e1, .inl e2, e3⟩
  | ref n => obtain ⟨a, us, e1, e2, e3⟩ := asL_ok R r e; exact ⟨a, us, e1, .inl e2, e3⟩
  | _ => simp [asS, asL] at e
theorem RelDs.isEmpty {ds : List D} {us : List V} {B : Nat} (e : RelDs K rho h B H ds us) : ds.isEmpty = us.isEmpty := by
  cases ds with
  | nil => simp only [RelDs] at e; subst e; rfl
  | cons d r => simp only [RelDs] at e; obtain ⟨_, _, e, _⟩ := e; subst e; rfl
theorem truD_ok (R : Rel K rho h H) {d : D} {v : V} {b : Bool} (r : RelV' K rho h H d v) (e : truD d h = some b) : TruV K v H b := by
  cases d with
  | non => rw [r.non]; simp only [truD, Option.some.injEq] at e; exact e.symm
  | bl c => rw [r.bl]; simp only [truD, Option.some.injEq] at e; exact e.symm
  | int i => rw [r.int]; simp only [truD, Option.some.injEq] at e; exact e.symm
  | str y =>
    rw [r.str]
    simp only [truD] at e
    split at e
    · rename_i hl; cases e; exact ⟨hl, rfl⟩
    · cases e
  | tup xs =>
    obtain ⟨a, us, e1, e2, e3⟩ := r.tup
    simp only [truD, Option.some.injEq] at e
    subst e1 e
    exact .inr (.inl ⟨us, e2, by rw [RelDs.isEmpty e3]⟩)
  | lv xs =>
    obtain ⟨a, us, e1, e2, e3⟩ := asL_ok R r (xs := xs) rfl
    simp only [truD, Option.some.injEq] at e
    subst e1 e
    exact .inl ⟨us, e2, by rw [RelDs.isEmpty e3]⟩
  | fl xs =>
    obtain ⟨a, us, e1, e2, e3⟩ := asL_ok R r (xs := xs) rfl
    simp only [truD, Option.some.injEq] at e
    subst e1 e
    exact .inl ⟨us, e2, by rw [RelDs.isEmpty e3]⟩
  | exc _ _ _ => simp [truD] at e
  | obj _ _ _ => simp [truD] at e
  | fd _ _ => simp [truD] at e
  | ref n =>
    simp only [truD] at e
    cases q : h[n]? with
    | none => rw [q] at e; cases e
    | some o =>
      cases o with
      | dead => rw [q] at e; cases e
      | dct _ _ => rw [q] at e; cases e
      | lst ys =>
        rw [q] at e
        cases e
        obtain ⟨a, us, e1, e2, e3⟩ := asL_ok R r (xs := ys) (by simp only [asL, q])
        subst e1
        exact .inl ⟨us, e2, by rw [RelDs.isEmpty e3]⟩
end
section
variable {X : Cx} {W : WX} {pos : Pos} {a b c : Expr} {fa fb fc : EF} {ta tb : TF} {rest : List Expr}
theorem tE.asB {K : Kx} {mg : Str → Option Value} {σ : St} {H : Hp} {Q : Bool → Hp → Prop} (h : tT K mg W (t_b fa) σ H Q) : tE K mg W fa σ H fun x H1 => ∃ c, x = .bl c ∧ Q c H1 := by
  obtain ⟨rho, h, s, R, S, po⟩ := h
  refine step R S po fun rho1 h1 H1 x e1 R1 S1 po1 v r => ?_
  cases x with
  | bl c => exact ⟨c, r.bl, PostG.ok po1 R1⟩
  | _ => exact po1.elim
theorem tE.asTru {K : Kx} {mg : Str → Option Value} {σ : St} {H : Hp} {Q : Bool → Hp → Prop} (h : tT K mg W (t_tru fa) σ H Q) : tE K mg W fa σ H fun x H' => ∃ k, TruV K x H' k ∧ Q k H' := by
  obtain ⟨rho, h, s, R, S, po⟩ := h
  refine step R S po fun rho1 h1 H1 x e1 R1 S1 po1 v r => ?_
  cases q : truD x h1 with
  | none => simp only [q] at po1; exact po1.elim
  | some k => simp only [q] at po1; exact ⟨k, truD_ok R1 r q, PostG.ok po1 R1⟩
/-- a test of any plain expression: a name, a call, a subscript -/
theorem r_tru (ha : SE X W a fa) (he : ∀ whole, isTrue a X.env whole = (do let v ← whole; standAt a.pos; holding [v] (truthy v)) := by intro _; rfl) : ST X W a (t_tru fa) := PT.imp (pt_truth ha he) fun _ _ _ h => tE.asTru h
/-- a comparison as a test -/
theorem r_tcmp {op : CmpOp} {g : P2} (ho : OpR X (compareOp op) (rO (kx X) g)) (ha : SE X W a fa) (hb : SE X W b fb) (hm : behindInMarks op b = false := by first | exact nobehind _ (by decide) (by decide) | rfl) : ST X W (.Compare a [op] [b] pos) (t_b (e_op g fa fb)) :=
  PT.imp (pt_cmpR ho ha hb hm) fun _ _ _ h => by
    have z := tE.asB h
    obtain ⟨rho, h, s, R, S, po⟩ := z
    exact tE.op ⟨rho, h, s, R, S, po⟩
def t_and (a b : TF) : TF := fun s h => (a s h).bind fun c h1 => if c then b s h1 else .ok false h1
def t_or (a b : TF) : TF := fun s h => (a s h).bind fun c h1 => if c then .ok true h1 else b s h1
def t_not (a : TF) : TF := fun s h => (a s h).bind fun c h1 => .ok (!c) h1
theorem r_and1 (ha : ST X W a ta) : SW X W (.BoolOp .And [a] pos) ta := pw_and1 ha
theorem r_or1 (ha : ST X W a ta) : SW X W (.BoolOp .Or [a] pos) ta := pw_or1 ha
theorem r_and (ha : ST X W a ta) (hb : SW X W (.BoolOp .And (b :: rest) pos) tb) : SW X W (.BoolOp .And (a :: b :: rest) pos) (t_and ta tb) := PW.imp (pw_and ha hb) fun σ H Q h => by
  obtain ⟨rho, h, s, R, S, po⟩ := h
  refine step R S po fun rho1 h1 H1 x e1 R1 S1 po1 => ?_
  cases x with
  | true => exact iteT ⟨rho1, h1, s, R1, S1, po1⟩
  | false => exact iteF (PostG.ok po1 R1)
theorem r_or (ha : ST X W a ta) (hb : SW X W (.BoolOp .Or (b :: rest) pos) tb) : SW X W (.BoolOp .Or (a :: b :: rest) pos) (t_or ta tb) := PW.imp (pw_or ha hb) fun σ H Q h => by
  obtain ⟨rho, h, s, R, S, po⟩ := h
  refine step R S po fun rho1 h1 H1 x e1 R1 S1 po1 => ?_
  cases x with
  | true => exact iteT (PostG.ok po1 R1)
  | false => exact iteF ⟨rho1, h1, s, R1, S1, po1⟩
theorem r_bool (h : SW X W a ta) : ST X W a ta := PW.pt h
theorem r_not (ha : ST X W a ta) : ST X W (.UnaryOp .Not a pos) (t_not ta) := PT.imp (pt_not ha) fun σ H Q h => by
  obtain ⟨rho, h, s, R, S, po⟩ := h
  refine step R S po fun rho1 h1 H1 x e1 R1 S1 po1 => ?_
  have z := PostG.ok po1 R1
  exact z
/-- as values: all but the last are bools -/
def e_and (a b : EF) : EF := fun s h => (a s h).bind fun c h1 => match c with
  | .bl true => b s h1
  | .bl false => .ok (.bl false) h1
  | _ => .fail
def e_or (a b : EF) : EF := fun s h => (a s h).bind fun c h1 => match c with
  | .bl true => .ok (.bl true) h1
  | .bl false => b s h1
  | _ => .fail
def e_not (a : EF) : EF := fun s h => (a s h).bind fun c h1 => match c with
  | .bl c => .ok (.bl (!c)) h1
  | _ => .fail
theorem r_one {op} (ha : SE X W a fa) : SE X W (.BoolOp op [a] pos) fa := pe_one ha
theorem r_andV (ha : SE X W a fa) (hb : SE X W (.BoolOp .And (b :: rest) pos) fb) : SE X W (.BoolOp .And (a :: b :: rest) pos) (e_and fa fb) := PE.imp (pe_and ha hb) fun σ H Q h => by
  obtain ⟨rho, h, s, R, S, po⟩ := h
  refine step R S po fun rho1 h1 H1 x e1 R1 S1 po1 v r => ?_
  cases x with
  | bl c =>
    refine ⟨c, r.bl, ?_⟩
    cases c with
    | true => exact iteT ⟨rho1, h1, s, R1, S1, po1⟩
    | false => exact iteF (PostG.ok po1 R1 _ (relBl false))
  | _ => exact po1.elim
theorem r_notV (ha : SE X W a fa) : SE X W (.UnaryOp .Not a pos) (e_not fa) := PE.imp (pe_not ha) fun σ H Q h => by
  obtain ⟨rho, h, s, R, S, po⟩ := h
  refine step R S po fun rho1 h1 H1 x e1 R1 S1 po1 v r => ?_
  cases x with
  | bl c => exact ⟨c, r.bl, PostG.ok po1 R1 _ (relBl _)⟩
  | _ => exact po1.elim
/-- a < b < c -/
def e_chain (g g' : P2) (a b c : EF) : EF := fun s h => (a s h).bind fun x h1 => (b s h1).bind fun y h2 => (lift (g x y h2)).bind fun z h3 => match z with
  | .bl true => (c s h3).bind fun w h4 => lift (g' y w h4)
  | .bl false => .ok (.bl false) h3
  | _ => .fail
theorem tE.chain {K : Kx} {mg : Str → Option Value} {g g' : P2} {σ : St} {H : Hp} {Q : VK} (h : tE K mg W (e_chain g g' fa fb fc) σ H Q) : tChain (rO K g) (rO K g') (tE K mg W fa) (tE K mg W fb) (tE K mg W fc) σ H Q := by
  obtain ⟨rho, h, s, R, S, po⟩ := h
  refine step R S po fun rho1 h1 H1 x e1 R1 S1 po1 v r => step R1 S1 po1 fun rho2 h2 H2 y e2 R2 S2 po2 u ru => ⟨rho2, h2, x, y, R2, e2.v r, ru, ?_⟩
  have po3 := PostG.bind po2
  cases q : g x y h2 with
  | none => rw [q] at po3; exact po3
  | some dz =>
    obtain ⟨z, h3⟩ := dz
    rw [q] at po3
    intro rho3 H3 w e3 R3 rw
    have po4 := po3 rho3 H3 e3 R3
    cases z with
    | bl k =>
      refine ⟨k, rw.bl, ?_⟩
      cases k with
      | true => exact iteT (step R3 (e3.s S2) po4 fun rho4 h4 H4 z e4 R4 S4 po5 t rt => ⟨rho4, h4, y, z, R4, (e3.trans e4).v ru, rt, PostP.of po5⟩)
      | false => exact iteF (PostG.ok po4 R3 _ (relBl false))
    | _ => exact po4.elim
theorem r_tchain {op op' : CmpOp} {g g' : P2} (ho : OpR X (compareOp op) (rO (kx X) g)) (ho' : OpR X (compareOp op') (rO (kx X) g')) (ha : SE X W a fa) (hb : SE X W b fb) (hc : SE X W c fc)
    (hm : lastMarks [op, op'] [b, c] = false := by with_unfolding_all rfl) : ST X W (.Compare a [op, op'] [b, c] pos) (t_b (e_chain g g' fa fb fc)) := PT.imp (pt_chain ho ho' ha hb hc hm) fun _ _ _ h => by
  have z := tE.asB h
  obtain ⟨rho, h, s, R, S, po⟩ := z
  exact tE.chain ⟨rho, h, s, R, S, po⟩
end

def a_nil : AF := fun _ h => .ok [] h
def a_cons (a : EF) (r : AF) : AF := fun s h => (a s h).bind fun x h1 => (r s h1).bind fun xs h2 => .ok (x :: xs) h2
theorem tA.cons {K : Kx} {mg : Str → Option Value} {W : WX} {fa : EF} {fr : AF} {σ : St} {H : Hp} {Q : List V → Hp → Prop} (h : tA K mg W (a_cons fa fr) σ H Q) : tCons (tE K mg W fa) (tA K mg W fr) σ H Q := by
  obtain ⟨rho, h, s, R, S, po⟩ := h
  refine step R S po fun rho1 h1 H1 x e1 R1 S1 po1 v r => step R1 S1 po1 fun rho2 h2 H2 ys e2 R2 S2 po2 us ru => ?_
  refine PostG.ok po2 R2 (v :: us) ?_
  simp only [RelVs', RelDs]
  exact ⟨v, us, rfl, e2.v r, ru⟩
theorem tA.nil {K : Kx} {mg : Str → Option Value} {W : WX} {σ : St} {H : Hp} {Q : List V → Hp → Prop} (h : tA K mg W a_nil σ H Q) : tNil σ H Q := by
  obtain ⟨rho, h, s, R, S, po⟩ := h
  exact PostG.ok po R [] (by simp only [RelVs', RelDs])
section
variable {X : Cx} {W : WX} {pos : Pos} {e : Expr} {es : List Expr} {fa : EF} {fr : AF}
theorem ra_nil : SA X W [] a_nil := PA.imp pa_nil fun _ _ _ h => tA.nil h
theorem ra_cons (ha : SE X W e fa) (hr : SA X W es fr) (hs : starEach (e :: es) X.env = (false, eval e X.env) :: starEach es X.env := by rfl) : SA X W (e :: es) (a_cons fa fr) := PA.imp (pa_cons ha hr hs) fun _ _ _ h => tA.cons h
end

/-- a new list by value (m = false) or as a cell (m = true) -/
def mkL (m : Bool) (xs : List D) (h : Hd) : PR := if m then some (.ref h.length, h ++ [.lst xs]) else some (.lv xs, h)
section
variable {K : Kx} {rho : Rh} {h : Hd} {H : Hp} {p : Addr}
theorem Ext.upd (R : Rel K rho h H) (np : H p = none) (o : HO) : Ext K rho h H rho h (L2.upd H p o) where
  le := Nat.le_refl _
  ag := fun _ _ => rfl
  lv := fun _ _ e => e
  fr := fun m hm e => absurd (live_lt e) (Nat.not_lt.mpr hm)
  kp := fun a o' e _ => by rw [upd_ne (ne_of_none e np)]; exact e
  tp := fun a us e => by rw [upd_ne (ne_of_none e np)]; exact e
  fz := fun a o' u e => by rw [upd_ne (ne_of_none e np)]; exact e
  dm := fun a e => by
    by_cases q : a = p
    · subst q; exact np
    · rw [upd_ne q] at e; exact e
  zi := fun _ e => e
  zo := fun _ e => .inl e
theorem Rel.at (R : Rel K rho h H) {m : Nat} (e : live h m = true) : ∃ us, H (rho m) = some us := by
  unfold live at e
  cases q : h[m]? with
  | none => rw [q] at e; cases e
  | some o =>
    have c := R.cell m _ q
    cases o with
    | dead => rw [q] at e; cases e
    | lst xs => obtain ⟨us, a, _⟩ := c; exact ⟨_, a⟩
    | dct ks vs => obtain ⟨_, us, ws, a, _⟩ := c; exact ⟨_, a⟩
/-- the heap grew by something that is no cell -/
theorem Rel.upd (R : Rel K rho h H) (np : H p = none) (o : HO) : Rel K rho h (L2.upd H p o) where
  inj := R.inj
  cell := fun m ob e => by
    have c := R.cell m ob e
    have hm := (List.getElem?_eq_some_iff.mp e).1
    cases ob with
    | dead => trivial
    | dct ks vs =>
      obtain ⟨g, us, ws, a, b, b'⟩ := c
      exact ⟨g, us, ws, by rw [upd_ne (ne_of_none a np)]; exact a, RelDs.mono (Ext.upd R np o) (Nat.le_refl _) (Nat.le_of_lt hm) _ _ b, RelDs.mono (Ext.upd R np o) (Nat.le_refl _) (Nat.le_of_lt hm) _ _ b'⟩
    | lst xs =>
      obtain ⟨us, a, b⟩ := c
      exact ⟨us, by rw [upd_ne (ne_of_none a np)]; exact a, RelDs.mono (Ext.upd R np o) (Nat.le_refl _) (Nat.le_of_lt hm) _ _ b⟩
  zd := fun a z e => R.zd a z ((Ext.upd R np o).dm a e)
  zc := R.zc
theorem Rel.newV (R : Rel K rho h H) (np : H p = none) {xs : List D} {us : List V} (r : RelVs' K rho h H xs us) : RelV' K rho h (L2.upd H p (.lst us)) (.lv xs) (.ref p) := by
  simp only [RelV', RelD]
  refine ⟨p, us, rfl, ⟨upd_same, fun z => R.zd p z np, fun m hm => ?_⟩, (Ext.upd R np _).vs r⟩
  obtain ⟨ws, q⟩ := R.at hm
  exact ne_of_none q np
theorem Rel.newT (R : Rel K rho h H) (np : H p = none) {xs : List D} {us : List V} (r : RelVs' K rho h H xs us) : RelV' K rho h (L2.upd H p (.tup us)) (.tup xs) (.ref p) := by
  simp only [RelV', RelD]
  exact ⟨p, us, rfl, .inl (.inl upd_same), (Ext.upd R np _).vs r⟩
def rhoAdd (rho : Rh) (n : Nat) (p : Addr) : Rh := ⟨fun m => if m = n then p else rho m, rho.Z⟩
theorem live_app {xs : List D} {m : Nat} (e : live (h ++ [.lst xs]) m = true) : live h m = true ∨ m = h.length := by
  have hl := live_lt e
  rw [List.length_append] at hl
  by_cases q : m < h.length
  · left
    unfold live at e ⊢
    rw [List.getElem?_append_left q] at e
    exact e
  · right
    simp at hl; omega
theorem Ext.alloc (R : Rel K rho h H) (np : H p = none) {xs : List D} {us : List V} : Ext K rho h H (rhoAdd rho h.length p) (h ++ [.lst xs]) (L2.upd H p (.lst us)) where
  le := by rw [List.length_append]; exact Nat.le_add_right _ _
  ag := fun m hm => by show (if m = h.length then p else rho m) = rho m; rw [if_neg (Nat.ne_of_lt hm)]
  lv := fun m hm e => by
    rcases live_app e with q | q
    · exact q
    · omega
  fr := fun m hm e => by
    rcases live_app e with q | q
    · exact absurd (live_lt q) (Nat.not_lt.mpr hm)
    · subst q; show H (if h.length = h.length then p else rho h.length) = none; rw [if_pos rfl]; exact np
  kp := (Ext.upd R np _).kp
  tp := (Ext.upd R np _).tp
  fz := (Ext.upd R np _).fz
  dm := (Ext.upd R np (.lst us)).dm
  zi := fun _ e => e
  zo := fun _ e => .inl e
theorem Rel.alloc (R : Rel K rho h H) (np : H p = none) {xs : List D} {us : List V} (r : RelVs' K rho h H xs us) : Rel K (rhoAdd rho h.length p) (h ++ [.lst xs]) (L2.upd H p (.lst us)) where
  inj := fun m n hm hn e => by
    have e : (if m = h.length then p else rho m) = (if n = h.length then p else rho n) := e
    rcases live_app hm with qm | qm <;> rcases live_app hn with qn | qn
    · rw [if_neg (Nat.ne_of_lt (live_lt qm)), if_neg (Nat.ne_of_lt (live_lt qn))] at e; exact R.inj m n qm qn e
    · rw [if_neg (Nat.ne_of_lt (live_lt qm)), if_pos qn] at e
      obtain ⟨ws, z⟩ := R.at qm
      exact absurd e (ne_of_none z np)
    · rw [if_pos qm, if_neg (Nat.ne_of_lt (live_lt qn))] at e
      obtain ⟨ws, z⟩ := R.at qn
      exact absurd e.symm (ne_of_none z np)
    · rw [qm, qn]
  cell := fun m ob e => by
    have x := Ext.alloc (xs := xs) (us := us) R np
    by_cases q : m < h.length
    · rw [List.getElem?_append_left q] at e
      cases ob with
      | dead => trivial
      | dct ks vs =>
        obtain ⟨g, us', ws, a, b, b'⟩ := R.cell m _ e
        exact ⟨g, us', ws, by rw [x.ag m q, upd_ne (ne_of_none a np)]; exact a, RelDs.mono x (Nat.le_refl _) (Nat.le_of_lt q) _ _ b, RelDs.mono x (Nat.le_refl _) (Nat.le_of_lt q) _ _ b'⟩
      | lst ys =>
        obtain ⟨ws, a, b⟩ := R.cell m _ e
        exact ⟨ws, by rw [x.ag m q, upd_ne (ne_of_none a np)]; exact a, RelDs.mono x (Nat.le_refl _) (Nat.le_of_lt q) _ _ b⟩
    · have hl := (List.getElem?_eq_some_iff.mp e).1
      rw [List.length_append] at hl
      have em : m = h.length := by simp at hl; omega
      subst em
      rw [List.getElem?_append_right (Nat.le_refl _)] at e
      simp at e
      subst e
      exact ⟨us, by show L2.upd H p (.lst us) (if h.length = h.length then p else rho h.length) = _; rw [if_pos rfl]; exact upd_same, RelDs.mono x (Nat.le_refl _) (Nat.le_refl _) _ _ r⟩
  zd := fun a z e => R.zd a z ((Ext.upd R np (.lst us)).dm a e)
  zc := fun m hm z => by
    have z : rho.Z (if m = h.length then p else rho m) := z
    rcases live_app hm with q | q
    · rw [if_neg (Nat.ne_of_lt (live_lt q))] at z; exact R.zc m q z
    · rw [if_pos q] at z; exact R.zd p z np
/-- a new list: both ways -/
theorem post_mkL (R : Rel K rho h H) {m : Bool} {xs : List D} {us : List V} {Q : VK} (r : RelVs' K rho h H xs us) (po : PostP K rho h H (mkL m xs h) Q) (np : H p = none) : Q (.ref p) (L2.upd H p (.lst us)) := by
  unfold mkL at po
  cases m with
  | true =>
    refine po (rhoAdd rho h.length p) _ _ (Ext.alloc R np) (Rel.alloc R np r) ?_
    simp only [RelV', RelD, List.length_append]
    exact ⟨by simp, by show V.ref p = .ref (if h.length = h.length then p else rho h.length); rw [if_pos rfl]⟩
  | false => exact po rho _ _ (Ext.upd R np _) (R.upd np _) (R.newV np r)
theorem post_tup (R : Rel K rho h H) {xs : List D} {us : List V} {Q : VK} (r : RelVs' K rho h H xs us) (po : PostP K rho h H (some (.tup xs, h)) Q) (np : H p = none) : Q (.ref p) (L2.upd H p (.tup us)) :=
  po rho _ _ (Ext.upd R np _) (R.upd np _) (R.newT np r)
end
def e_tup (a : AF) : EF := fun s h => (a s h).bind fun xs h1 => if xs.length ≤ sizeLine then .ok (.tup xs) h1 else .fail
def e_lst (m : Bool) (a : AF) : EF := fun s h => (a s h).bind fun xs h1 => if xs.length ≤ sizeLine then lift (mkL m xs h1) else .fail
section
variable {X : Cx} {W : WX} {pos : Pos} {es : List Expr} {fa : AF}
theorem r_tup {x1} (ha : SA X W es fa) : SE X W (.Tuple es x1 pos) (e_tup fa) := PE.imp (pe_tup ha) fun σ H Q h => by
  obtain ⟨rho, h, s, R, S, po⟩ := h
  refine step R S po fun rho1 h1 H1 x e1 R1 S1 po1 v r => ?_
  by_cases q : x.length ≤ sizeLine
  · simp only [q, if_true] at po1
    refine ⟨by rw [← RelDs.length r]; exact q, fun p np => post_tup R1 r ?_ np⟩
    exact fun rho' H' v e R' rr => po1 rho' H' e R' v rr
  · simp only [q, if_false] at po1; exact po1.elim
theorem r_lst (m : Bool) (ha : SA X W es fa) : SE X W (.List es pos) (e_lst m fa) := PE.imp (pe_lst ha) fun σ H Q h => by
  obtain ⟨rho, h, s, R, S, po⟩ := h
  refine step R S po fun rho1 h1 H1 x e1 R1 S1 po1 v r => ?_
  by_cases q : x.length ≤ sizeLine
  · simp only [q, if_true] at po1
    exact ⟨by rw [← RelDs.length r]; exact q, fun p np => post_mkL R1 r (PostP.of po1) np⟩
  · simp only [q, if_false] at po1; exact po1.elim
end

def e_call (g : PL) (a : AF) : EF := fun s h => (a s h).bind fun xs h1 => lift (g xs h1)
section
variable {X : Cx} {W : WX} {p pos : Pos} {x : Str} {e o : Expr} {es : List Expr} {fo : EF} {fa : AF} {id T : String} {g : PL}
theorem CallR.imp' {f : Value} {r r' : List V → Hp → VK → Prop} (p : CallR X f r) (i : ∀ x H Q, r' x H Q → r x H Q) : CallR X f r' := fun pins s σ H xs us Q I rx q => p pins s σ H xs us Q I rx (i xs H Q q)
theorem tE.cb {K : Kx} {mg : Str → Option Value} {σ : St} {H : Hp} {Q : VK} (h : tE K mg W (e_call g fa) σ H Q) : tCB (rC K g) (tA K mg W fa) σ H Q := by
  obtain ⟨rho, h, s, R, S, po⟩ := h
  exact step R S po fun rho1 h1 H1 x e1 R1 S1 po1 v r => ⟨rho1, h1, x, R1, r, PostP.of po1⟩
theorem r_callB (hc : CallR X (.builtin id) (rC (kx X) g)) (hm : X.mg x = none) (hv : bootBuiltins x = some (.builtin id)) (ha : SA X W (e :: es) fa) (hg : Gl X x := by rfl) (hn : x ≠ "__name__" := by decide) (hdb : (x == ("__debug__" : Str)) = false := by decide)
    (he : starEach (e :: es) X.env = (false, eval e X.env) :: starEach es X.env := by rfl) (hpl : (backTo pos (starEach es X.env)).any (·.1) = false := by rfl) : SE X W (.Call (.Name x p) (e :: es) [] pos) (e_call g fa) :=
  PE.imp (pe_callB hc hg hm hv ha hn hdb he hpl) fun _ _ _ h => tE.cb h
theorem r_callTy (hc : CallR X (.type T) (rC (kx X) g)) (hm : X.mg x = none) (hv : bootBuiltins x = some (.type T)) (ha : SA X W (e :: es) fa) (hg : Gl X x := by rfl) (hn : x ≠ "__name__" := by decide) (hdb : (x == ("__debug__" : Str)) = false := by decide)
    (he : starEach (e :: es) X.env = (false, eval e X.env) :: starEach es X.env := by rfl) (hpl : (backTo pos (starEach es X.env)).any (·.1) = false := by rfl) : SE X W (.Call (.Name x p) (e :: es) [] pos) (e_call g fa) :=
  PE.imp (pe_callTy hc hg hm hv ha hn hdb he hpl) fun _ _ _ h => tE.cb h
end
end Mini
namespace Mini
open PySem L2

def bindE {α : Type} (r : Res α) (s : Ev) (k : α → Hd → Res Fl) : Res Fl := match r with
  | .ok a h => k a h
  | .exc x h => .ok (.ex x s) h
  | .fail => .fail
section
variable {α β : Type} {K : Kx} {mg : Str → Option Value} {W : WX} {f : Ev → Hd → Res α} {k : α → Hd → Res Fl} {p : β → PG' α} {E : Ends} {σ : St} {H : Hp} {c : β} {rho : Rh} {h : Hd} {s : Ev}
theorem stepS (R : Rel K rho h H) (S : RelS K rho h H s σ) (po : PostG K mg (fun _ _ _ => False) rho h H (bindE (f s h) s k) (pS K W mg E))
    (hc : ∀ rho' h' H' a, Ext K rho h H rho' h' H' → Rel K rho' h' H' → RelS K rho' h' H' s σ → PostG K mg (fun _ _ _ => False) rho' h' H' (k a h') (pS K W mg E) → p c a rho' h' H') : tG K mg W f p σ H c := by
  refine ⟨rho, h, s, R, S, ?_⟩
  cases q : f s h with
  | ok a h' => rw [q] at po; exact fun rho' H' e R' => hc rho' h' H' a e R' (e.s S) (PostG.ext e po)
  | exc x h' => rw [q] at po; exact fun rho' H' cls dd e R' rx => po rho' H' e R' σ cls dd (e.s S) rx
  | fail => rw [q] at po; exact po
end
def s_nil : SF := fun s h => .ok (.nx s) h
def s_seq (a b : SF) : SF := fun s h => match a s h with
  | .ok (.nx s1) h1 => b s1 h1
  | r => r
def s_expr (f : EF) : SF := fun s h => bindE (f s h) s fun _ h1 => .ok (.nx s) h1
def s_ret (f : EF) : SF := fun s h => bindE (f s h) s fun d h1 => .ok (.rt d) h1
def s_if (t : TF) (a b : SF) : SF := fun s h => bindE (t s h) s fun c h1 => if c then a s h1 else b s h1
def s_never : SF := fun _ _ => .fail
def s_break : SF := fun s h => .ok (.bk s) h
def s_set (i : Nat) (f : EF) : SF := fun s h => bindE (f s h) s fun d h1 => .ok (.nx (s.set i (some d))) h1
def s_aug (i : Nat) (g : P2) (f : EF) : SF := fun s h => match s[i]? with
  | some (some x) => bindE (f s h) s fun y h1 => match g x y h1 with
    | some (d, h2) => .ok (.nx (s.set i (some d))) h2
    | none => .fail
  | _ => .fail
section
variable {X : Cx} {W : WX} {pos : Pos} {e c : Expr} {fe : EF} {tc : TF} {st : Stmt} {rest a b : List Stmt} {fs gs : SF}
theorem r_nil : SSs X W [] s_nil := PSs.imp pss_nil fun E σ H h => by
  obtain ⟨rho, h, s, R, S, po⟩ := h
  exact PostG.ok po R σ S
theorem tS.seq {K : Kx} {mg : Str → Option Value} {E : Ends} {σ : St} {H : Hp} (h : tS K mg W (s_seq fs gs) E σ H) : tSeq (tS K mg W fs) (tS K mg W gs) E σ H := by
  obtain ⟨rho, h, s, R, S, po⟩ := h
  refine ⟨rho, h, s, R, S, ?_⟩
  unfold s_seq at po
  cases q : fs s h with
  | ok fl h' =>
    rw [q] at po
    cases fl with
    | nx s1 => exact fun rho' H' e R' σ' S' => ⟨rho', h', s1, R', S', PostG.ext e po⟩
    | rt d => exact po
    | bk s1 => exact po
    | ct s1 => exact po
    | ex x s1 => exact po
  | exc x h' => rw [q] at po; exact po
  | fail => rw [q] at po; exact po
theorem r_seq (h1 : SS X W st fs) (h2 : SSs X W rest gs) : SSs X W (st :: rest) (s_seq fs gs) := PSs.imp (pss_cons h1 h2) fun _ _ _ h => tS.seq h
theorem r_last (h1 : SS X W st fs) : SSs X W [st] fs := pss_one h1
theorem r_break : SS X W (.Break pos) s_break := PS.imp ps_break fun E σ H h => by
  obtain ⟨rho, h, s, R, S, po⟩ := h
  exact PostG.ok po R σ S
theorem r_never : SS X W st s_never := PS.imp ps_never fun E σ H h => by
  obtain ⟨rho, h, s, R, S, po⟩ := h
  exact po
theorem r_expr (he : SE X W e fe) (hs : swapsWith e none pos.line X.env = pure false := by rfl) : SS X W (.Expr e pos) (s_expr fe) := PS.imp (ps_expr he hs) fun E σ H h => by
  obtain ⟨rho, h, s, R, S, po⟩ := h
  exact stepS R S po fun rho1 h1 H1 x e1 R1 S1 po1 v r => PostG.ok po1 R1 σ S1
theorem r_ret (he : SE X W e fe) : SS X W (.Return (some e) pos) (s_ret fe) := PS.imp (ps_ret he) fun E σ H h => by
  obtain ⟨rho, h, s, R, S, po⟩ := h
  exact stepS R S po fun rho1 h1 H1 x e1 R1 S1 po1 v r => PostG.ok po1 R1 v r
theorem r_if (hc : ST X W c tc) (ha : SSs X W a fs) (hb : SSs X W b gs) : SS X W (.If c a b pos) (s_if tc fs gs) := PS.imp (ps_if hc ha hb) fun E σ H h => by
  obtain ⟨rho, h, s, R, S, po⟩ := h
  refine stepS R S po fun rho1 h1 H1 x e1 R1 S1 po1 => ?_
  cases x with
  | true => exact iteT ⟨rho1, h1, s, R1, S1, po1⟩
  | false => exact iteF ⟨rho1, h1, s, R1, S1, po1⟩
theorem r_set {i : Nat} {x : Str} {pos' : Pos} (hN : X.N.Nodup) (he : SE X W e fe) (hi : X.N[i]? = some x := by rfl) (hx : Loc X.env.scope x := by first | exact Or.inl rfl | exact Or.inr rfl) (hs : swapsWith e (some (.Name x pos')) pos.line X.env = pure false := by rfl)
    (hf : X.fn x = true ∨ X.env.scope.names.lookup x = some .local := by first | exact .inl rfl | exact .inr rfl | assumption) : SS X W (.Assign [.Name x pos'] e pos) (s_set i fe) := PS.imp (ps_set hN hi hx he hs hf) fun E σ H h => by
  obtain ⟨rho, h, s, R, S, po⟩ := h
  exact stepS R S po fun rho1 h1 H1 x e1 R1 S1 po1 v r => PostG.ok po1 R1 _ (S1.set r i)
theorem r_aug {i : Nat} {x : Str} {op : Operator} {g : P2} {pos' : Pos} (hN : X.N.Nodup) (ho : OpR X (inplaceOp op) (rO (kx X) g)) (he : SE X W e fe) (hi : X.N[i]? = some x := by rfl) (hx : Loc X.env.scope x := by first | exact Or.inl rfl | exact Or.inr rfl)
    (hf : X.fn x = true ∨ X.env.scope.names.lookup x = some .local := by first | exact .inl rfl | exact .inr rfl | assumption) : SS X W (.AugAssign (.Name x pos') op e pos) (s_aug i g fe) := PS.imp (ps_aug hN hi hx he ho hf) fun E σ H h => by
  obtain ⟨rho, h, s, R, S, po⟩ := h
  unfold s_aug at po
  cases q : s[i]? with
  | none => rw [q] at po; exact po.elim
  | some o =>
    cases o with
    | none => rw [q] at po; exact po.elim
    | some x =>
      rw [q] at po
      obtain ⟨v, e1, r⟩ := S.2 i x q
      refine ⟨v, e1, stepS R S po fun rho1 h1 H1 y e1 R1 S1 po1 u ru => ⟨rho1, h1, x, y, R1, e1.v r, ru, ?_⟩⟩
      cases q2 : g x y h1 with
      | none => simp only [q2] at po1; exact po1
      | some dz =>
        simp only [q2] at po1
        exact fun rho' H' v' e2 R2 r2 => po1 rho' H' e2 R2 _ ((e2.s S1).set r2 i)
end

inductive Pat where
  | nm (i : Nat) | tp (ps : List Pat)
mutual
def patG (K : PySem.W.Frag) : Pat → TG
  | .nm i => gName i
  | .tp ps => fun v σ H Q => gTup K (patN ps) (patGs K ps) v σ H Q ∨ gLst K (patN ps) (patGs K ps) v σ H Q
def patGs (K : PySem.W.Frag) : List Pat → TGs
  | [] => gNil
  | p :: ps => gCons (patG K p) (patGs K ps)
def patN : List Pat → Nat
  | [] => 0
  | _ :: ps => patN ps + 1
end
mutual
def patD : Pat → D → Ev → Option Ev
  | .nm i, d, s => some (s.set i (some d))
  | .tp ps, .tup xs, s => if xs.length = patN ps then patDs ps xs s else none
  | .tp ps, .lv xs, s => if xs.length = patN ps then patDs ps xs s else none
  | .tp _, _, _ => none
def patDs : List Pat → List D → Ev → Option Ev
  | [], [], s => some s
  | p :: ps, x :: xs, s => match patD p x s with
    | some s1 => patDs ps xs s1
    | none => none
  | _, _, _ => none
end
mutual
def patI : Pat → List Nat
  | .nm i => [i]
  | .tp ps => patIs ps
def patIs : List Pat → List Nat
  | [] => []
  | p :: ps => patI p ++ patIs ps
end
theorem wipe_get (σ : St) (j : Nat) : ∀ vs : List Nat, (wipe σ vs)[j]? = if j ∈ vs then (if j < σ.length then some none else none) else σ[j]?
  | [] => by simp [wipe]
  | v :: vs => by
    unfold wipe
    by_cases hv : v = j
    · subst hv
      by_cases hl : v < σ.length
      · rw [List.getElem?_set_self (by rw [wipe_length]; exact hl)]
        simp [hl]
      · rw [List.getElem?_eq_none (by simp [wipe_length]; omega)]
        simp [hl]
    · rw [List.getElem?_set_ne hv, wipe_get σ j vs]
      have : ¬ j = v := fun e => hv e.symm
      simp [this]
theorem wipe_set {σ : St} {i : Nat} {v : Option V} {vs : List Nat} (h : i ∈ vs) : wipe (σ.set i v) vs = wipe σ vs := by
  apply List.ext_getElem?
  intro j
  rw [wipe_get, wipe_get]
  by_cases hj : j ∈ vs
  · simp [hj]
  · have : i ≠ j := fun e => hj (e ▸ h)
    simp [hj, List.getElem?_set_ne this]
section
variable {K : Kx} {rho : Rh} {h : Hd} {H : Hp}
mutual
theorem patG_ok : ∀ (p : Pat) (d : D) (v : V) (s s' : Ev) (σ : St), RelV' K rho h H d v → RelS K rho h H s σ → patD p d s = some s' →
    ∃ σ', RelS K rho h H s' σ' ∧ (∀ Q : St → Hp → Prop, Q σ' H → patG K p v σ H Q) ∧ ∀ vs, (∀ i ∈ patI p, i ∈ vs) → wipe σ' vs = wipe σ vs
  | .nm i, d, v, s, s', σ, r, S, e => by
    simp only [patD, Option.some.injEq] at e
    subst e
    refine ⟨σ.set i (some v), S.set r i, fun Q q => ?_, fun vs hv => wipe_set (hv i (by simp [patI]))⟩
    simp only [patG]
    exact q
  | .tp ps, .tup xs, v, s, s', σ, r, S, e => by
    simp only [patD] at e
    split at e
    · rename_i hl
      obtain ⟨a, us, e1, e2, e3⟩ := r.tup
      obtain ⟨σ', S', q, w⟩ := patGs_ok ps xs us s s' σ e3 S e
      refine ⟨σ', S', fun Q z => ?_, fun vs hv => w vs (by simpa [patI] using hv)⟩
      simp only [patG]
      exact .inl ⟨a, us, e1, e2, by rw [← RelDs.length e3]; exact hl, q Q z⟩
    · cases e
  | .tp ps, .non, v, s, s', σ, r, S, e => by simp [patD] at e
  | .tp ps, .bl _, v, s, s', σ, r, S, e => by simp [patD] at e
  | .tp ps, .int _, v, s, s', σ, r, S, e => by simp [patD] at e
  | .tp ps, .str _, v, s, s', σ, r, S, e => by simp [patD] at e
  | .tp ps, .lv xs, v, s, s', σ, r, S, e => by
    simp only [patD] at e
    split at e
    · rename_i hl
      simp only [RelV', RelD] at r
      obtain ⟨a, us, e1, e2, e3⟩ := r
      obtain ⟨σ', S', q, w⟩ := patGs_ok ps xs us s s' σ e3 S e
      refine ⟨σ', S', fun Q z => ?_, fun vs hv => w vs (by simpa [patI] using hv)⟩
      simp only [patG]
      exact .inr ⟨a, us, e1, .inl (.inl e2.1), by rw [← RelDs.length e3]; exact hl, q Q z⟩
    · cases e
  | .tp ps, .fl _, v, s, s', σ, r, S, e => by simp [patD] at e
  | .tp ps, .ref _, v, s, s', σ, r, S, e => by simp [patD] at e
  | .tp ps, .exc _ _ _, v, s, s', σ, r, S, e => by simp [patD] at e
  | .tp ps, .obj _ _ _, v, s, s', σ, r, S, e => by simp [patD] at e
  | .tp ps, .fd _ _, v, s, s', σ, r, S, e => by simp [patD] at e
theorem patGs_ok : ∀ (ps : List Pat) (ds : List D) (us : List V) (s s' : Ev) (σ : St), RelVs' K rho h H ds us → RelS K rho h H s σ → patDs ps ds s = some s' →
    ∃ σ', RelS K rho h H s' σ' ∧ (∀ Q : St → Hp → Prop, Q σ' H → patGs K ps us σ H Q) ∧ ∀ vs, (∀ i ∈ patIs ps, i ∈ vs) → wipe σ' vs = wipe σ vs
  | [], [], us, s, s', σ, r, S, e => by
    simp only [patDs, Option.some.injEq] at e
    subst e
    simp only [RelVs', RelDs] at r
    subst r
    exact ⟨σ, S, fun Q q => by simp only [patGs]; exact ⟨rfl, q⟩, fun vs _ => rfl⟩
  | p :: ps, x :: xs, us, s, s', σ, r, S, e => by
    simp only [patDs] at e
    cases q : patD p x s with
    | none => rw [q] at e; cases e
    | some s1 =>
      rw [q] at e
      simp only [RelVs', RelDs] at r
      obtain ⟨v, rr, e1, e2, e3⟩ := r
      obtain ⟨σ1, S1, q1, w1⟩ := patG_ok p x v s s1 σ e2 S q
      obtain ⟨σ2, S2, q2, w2⟩ := patGs_ok ps xs rr s1 s' σ1 e3 S1 e
      refine ⟨σ2, S2, fun Q z => ?_, fun vs hv => ?_⟩
      · simp only [patGs]
        exact ⟨v, rr, e1, q1 _ (q2 Q z)⟩
      · have h1 : ∀ i ∈ patI p, i ∈ vs := fun i hi => hv i (by simp [patIs, hi])
        have h2 : ∀ i ∈ patIs ps, i ∈ vs := fun i hi => hv i (by simp [patIs, hi])
        rw [w2 vs h2, w1 vs h1]
  | [], _ :: _, us, s, s', σ, r, S, e => by simp [patDs] at e
  | _ :: _, [], us, s, s', σ, r, S, e => by simp [patDs] at e
end
end
abbrev SG (X : Cx) (tg : Expr) (p : Pat) : Prop := PG X tg (patG X.K p)
abbrev SGs (X : Cx) (tg : List Expr) (p : List Pat) : Prop := PGs X tg (patGs X.K p)
def s_asg (p : Pat) (f : EF) : SF := fun s h => bindE (f s h) s fun d h1 => match patD p d s with
  | some s1 => .ok (.nx s1) h1
  | none => .fail
section
variable {X : Cx} {W : WX} {pos : Pos} {e tg : Expr} {fe : EF} {es : List Expr} {p : Pat} {ps : List Pat}
theorem g_nm {i : Nat} {x : Str} (hN : X.N.Nodup) (hi : X.N[i]? = some x := by rfl) (hx : Loc X.env.scope x := by first | exact Or.inl rfl | exact Or.inr rfl) (hf : X.fn x = true ∨ X.env.scope.names.lookup x = some .local := by first | exact .inl rfl | exact .inr rfl | assumption) :
    SG X (.Name x pos) (.nm i) := by
  show PG X _ _
  unfold patG
  exact pg_name hN hi hx hf
theorem gs_nil : SGs X [] [] := by
  show PGs X _ _
  unfold patGs
  exact pgs_nil
theorem gs_cons (h1 : SG X e p) (h2 : SGs X es ps) (hs : (assignEach (e :: es) X.env).map (·.2) = assign e X.env :: (assignEach es X.env).map (·.2) := by rfl) : SGs X (e :: es) (p :: ps) := by
  show PGs X _ _
  unfold patGs
  exact pgs_cons h1 h2 hs
theorem g_tp {k : Nat} (hc : X.calm = true) (h : SGs X es ps) (hn : (assignEach es X.env).length = patN ps := by rfl) (hst : (assignEach es X.env).findIdx? (·.1) = none := by rfl) : SG X (.Tuple es k pos) (.tp ps) := by
  show PG X _ _
  unfold patG
  exact ⟨fun pins s σ H v u Q I r q => q.elim (fun q => (pg_tup hc h hn hst).run pins s σ H v u Q I r q) fun q => (pg_lst hc h hn hst).run pins s σ H v u Q I r q⟩
theorem r_asg (he : SE X W e fe) (hg : SG X tg p) (hs : swapsWithSole [tg] e pos.line X.env = pure false := by rfl) (hw : swappedStores [tg] e X.env = pure none := by rfl)
    (h1 : (assignEach [tg] X.env).map (·.2) = [assign tg X.env] := by rfl) : SS X W (.Assign [tg] e pos) (s_asg p fe) := PS.imp (ps_asg he hg hs hw h1) fun E σ H h => by
  obtain ⟨rho, h, s, R, S, po⟩ := h
  refine stepS R S po fun rho1 h1 H1 x e1 R1 S1 po1 v r => ?_
  cases q : patD p x s with
  | none => simp only [q] at po1; exact po1.elim
  | some s1 =>
    simp only [q] at po1
    obtain ⟨σ', S', z, _⟩ := patG_ok p x v s s1 σ r S1 q
    exact z _ (PostG.ok po1 R1 σ' S')
end
/-- a, b = x, y of plain local names -/
def s_par (i j : Nat) (a : AF) : SF := fun s h => bindE (a s h) s fun ds h1 => match ds with
  | [x, y] => .ok (.nx ((s.set i (some x)).set j (some y))) h1
  | _ => .fail
theorem r_par {X : Cx} {W : WX} {pos : Pos} {i j : Nat} {x y : Str} {a b : Expr} {fa : AF} {px py pt : Pos} {kt k2 pt2} (hN : X.N.Nodup) (hc : X.calm = true) (ha : SA X W [a, b] fa) (hi : X.N[i]? = some x := by rfl) (hj : X.N[j]? = some y := by rfl) (hij : i ≠ j := by decide)
    (hx : X.env.scope.names.lookup x = some .local := by rfl) (hy : X.env.scope.names.lookup y = some .local := by rfl)
    (hw : swappedStores [.Tuple [.Name x px, .Name y py] kt pt] (.Tuple [a, b] k2 pt2) X.env = pure (some [x, y]) := by rfl)
    (hs : swapsWithSole [.Tuple [.Name x px, .Name y py] kt pt] (.Tuple [a, b] k2 pt2) pos.line X.env = pure false := by rfl) :
    SS X W (.Assign [.Tuple [.Name x px, .Name y py] kt pt] (.Tuple [a, b] k2 pt2) pos) (s_par i j fa) := PS.imp (ps_par hc hN hi hj hij hx hy ha hw hs) fun E σ H h => by
  obtain ⟨rho, h, s, R, S, po⟩ := h
  refine stepS R S po fun rho1 h1 H1 ds e1 R1 S1 po1 vs r => ?_
  match ds, po1, r with
  | [d1, d2], po1, r =>
    simp only [RelVs', RelDs] at r
    obtain ⟨v, rr, e1, r1, w, rr2, e2, r2, e3⟩ := r
    subst e3 e2
    exact ⟨v, w, e1, PostG.ok po1 R1 _ ((S1.set r1 i).set r2 j)⟩
  | [], po1, r => exact po1.elim
  | [_], po1, r => exact po1.elim
  | _ :: _ :: _ :: _, po1, r => exact po1.elim

abbrev GF := D → Ev → Hd → Res Ev
def tGt (K : Kx) (mg : Str → Option Value) (g : GF) : TG := fun v σ H Q => ∃ rho h s d, Rel K rho h H ∧ RelS K rho h H s σ ∧ RelV' K rho h H d v ∧ PostG K mg (fun _ _ _ => False) rho h H (g d s h) fun s' rho' h' H' => ∀ σ', RelS K rho' h' H' s' σ' → Q σ' H'
abbrev GFs := List D → Ev → Hd → Res Ev
def tGts (K : Kx) (mg : Str → Option Value) (g : GFs) : TGs := fun v σ H Q => ∃ rho h s d, Rel K rho h H ∧ RelS K rho h H s σ ∧ RelVs' K rho h H d v ∧ PostG K mg (fun _ _ _ => False) rho h H (g d s h) fun s' rho' h' H' => ∀ σ', RelS K rho' h' H' s' σ' → Q σ' H'
def g_name (i : Nat) : GF := fun d s h => .ok (s.set i (some d)) h
def g_sub (g : D → D → D → Hd → Option Hd) (o i : EF) : GF := fun d s h => (o s h).bind fun x h1 => (i s h1).bind fun y h2 => match g x y d h2 with
  | some h3 => .ok s h3
  | none => .fail
def g_nil : GFs := fun ds s h => match ds with
  | [] => .ok s h
  | _ => .fail
def g_cons (g : GF) (r : GFs) : GFs := fun ds s h => match ds with
  | d :: ds => (g d s h).bind fun s1 h1 => r ds s1 h1
  | [] => .fail
def g_tup (n : Nat) (r : GFs) : GF := fun d s h => match d with
  | .tup xs => if xs.length = n then r xs s h else .fail
  | _ => .fail
def rS (K : Kx) (g : D → D → D → Hd → Option Hd) : TSet := fun o i v H Q => ∃ rho h d0 d1 d2, Rel K rho h H ∧ RelV' K rho h H d0 o ∧ RelV' K rho h H d1 i ∧ RelV' K rho h H d2 v ∧ ∃ h', g d0 d1 d2 h = some h' ∧ ∀ rho' H', Ext K rho h H rho' h' H' → Rel K rho' h' H' → Q H'
section
variable {X : Cx} {W : WX} {pos : Pos} {e o i tg : Expr} {fe fo fi : EF} {es : List Expr}
theorem tG.noex {α β : Type} {K : Kx} {mg : Str → Option Value} {f : Ev → Hd → Res α} {p : β → PG' α} {σ : St} {H : Hp} {c : β} (h : tG K mg (fun _ _ _ _ => False) f p σ H c) : tG K mg W f p σ H c := by
  obtain ⟨rho, h, s, R, S, po⟩ := h
  refine ⟨rho, h, s, R, S, ?_⟩
  cases q : f s h with
  | ok a h' => rw [q] at po; exact po
  | exc x h' => rw [q] at po; exact fun rho' H' cls dd e R' rx => (po rho' H' cls dd e R' rx).elim
  | fail => rw [q] at po; exact po
theorem PG.imp {t t' : TG} (p : PG X tg t) (i : ∀ v σ H Q, t' v σ H Q → t v σ H Q) : PG X tg t' := ⟨fun pins s σ H v u Q I r q => p.run pins s σ H v u Q I r (i v σ H Q q)⟩
theorem PGs.imp {t t' : TGs} (p : PGs X es t) (i : ∀ v σ H Q, t' v σ H Q → t v σ H Q) : PGs X es t' := ⟨fun pins s σ H v u Q I r q => p.run pins s σ H v u Q I r (i v σ H Q q)⟩
theorem q_name {i : Nat} {x : Str} (hN : X.N.Nodup) (hi : X.N[i]? = some x := by rfl) (hx : Loc X.env.scope x := by first | exact Or.inl rfl | exact Or.inr rfl) (hf : X.fn x = true ∨ X.env.scope.names.lookup x = some .local := by first | exact .inl rfl | exact .inr rfl | assumption) :
    PG X (.Name x pos) (tGt (kx X) X.mg (g_name i)) := PG.imp (pg_name hN hi hx hf) fun v σ H Q h => by
  obtain ⟨rho, h, s, d, R, S, r, po⟩ := h
  exact PostG.ok po R _ (S.set r i)
theorem q_sub {g : D → D → D → Hd → Option Hd} (hs : PSet X (rS (kx X) g)) (ho : SE X W o fo) (hi : SE X W i fi)
    (ha : ∀ v, assign (.Subscript o i pos) X.env v = (do
      let ov ← holding [v] (eval o X.env)
      let iv ← holding [v, ov] (eval i X.env)
      standAt pos
      holding [v, ov, iv] (setItem ov iv v)
      release [v, ov, iv] []) := by intro _; rfl) : PG X (.Subscript o i pos) (tGt (kx X) X.mg (g_sub g fo fi)) := PG.imp (pg_sub ho hi hs ha) fun v σ H Q h => by
  obtain ⟨rho, h, s, d, R, S, r, po⟩ := h
  refine tG.noex (step R S po fun rho1 h1 H1 x e1 R1 S1 po1 ov ro => tG.noex (step R1 S1 po1 fun rho2 h2 H2 y e2 R2 S2 po2 iv ri => ⟨rho2, h2, x, y, d, R2, e2.v ro, ri, (e1.trans e2).v r, ?_⟩))
  cases q : g x y d h2 with
  | none => simp only [q] at po2; exact po2.elim
  | some h3 =>
    simp only [q] at po2
    exact ⟨h3, rfl, fun rho' H' e3 R3 => po2 rho' H' e3 R3 σ (e3.s S2)⟩
theorem qs_nil : PGs X [] (tGts (kx X) X.mg g_nil) := PGs.imp pgs_nil fun v σ H Q h => by
  obtain ⟨rho, h, s, d, R, S, r, po⟩ := h
  cases d with
  | nil => simp only [RelVs', RelDs] at r; exact ⟨r, PostG.ok po R σ S⟩
  | cons _ _ => exact po.elim
theorem qs_cons {g : GF} {gs : GFs} (h1 : PG X e (tGt (kx X) X.mg g)) (h2 : PGs X es (tGts (kx X) X.mg gs)) (hs : (assignEach (e :: es) X.env).map (·.2) = assign e X.env :: (assignEach es X.env).map (·.2) := by rfl) : PGs X (e :: es) (tGts (kx X) X.mg (g_cons g gs)) :=
  PGs.imp (pgs_cons h1 h2 hs) fun v σ H Q h => by
    obtain ⟨rho, h, s, d, R, S, r, po⟩ := h
    cases d with
    | nil => exact po.elim
    | cons d ds =>
      simp only [RelVs', RelDs] at r
      obtain ⟨u, us, e1, r1, r2⟩ := r
      refine ⟨u, us, e1, rho, h, s, d, R, S, r1, ?_⟩
      exact (PostG.bind po).imp fun s1 rho1 h1 H1 e1 R1 z σ' S' => ⟨rho1, h1, s1, ds, R1, S', e1.vs r2, z⟩
theorem q_tup {k n : Nat} {gs : GFs} (hc : X.calm = true) (h : PGs X es (tGts (kx X) X.mg gs)) (hn : (assignEach es X.env).length = n := by rfl) (hst : (assignEach es X.env).findIdx? (·.1) = none := by rfl) : PG X (.Tuple es k pos) (tGt (kx X) X.mg (g_tup n gs)) :=
  PG.imp (pg_tup hc h hn hst) fun v σ H Q h => by
    obtain ⟨rho, h, s, d, R, S, r, po⟩ := h
    cases d with
    | tup xs =>
      simp only [g_tup] at po
      split at po
      · rename_i hl
        obtain ⟨a, us, e1, e2, e3⟩ := r.tup
        exact ⟨a, us, e1, e2, by rw [← RelDs.length e3]; exact hl, rho, h, s, xs, R, S, e3, po⟩
      · exact po.elim
    | _ => exact po.elim
def s_asgT (g : GF) (f : EF) : SF := fun s h => bindE (f s h) s fun d h1 => match g d s h1 with
  | .ok s1 h2 => .ok (.nx s1) h2
  | _ => .fail
theorem r_asgT {g : GF} (he : SE X W e fe) (hg : PG X tg (tGt (kx X) X.mg g)) (hs : swapsWithSole [tg] e pos.line X.env = pure false := by rfl) (hw : swappedStores [tg] e X.env = pure none := by rfl)
    (h1 : (assignEach [tg] X.env).map (·.2) = [assign tg X.env] := by rfl) : SS X W (.Assign [tg] e pos) (s_asgT g fe) := PS.imp (ps_asg he hg hs hw h1) fun E σ H h => by
  obtain ⟨rho, h, s, R, S, po⟩ := h
  refine stepS R S po fun rho1 h1 H1 x e1 R1 S1 po1 v r => ⟨rho1, h1, s, x, R1, S1, r, ?_⟩
  cases q : g x s h1 with
  | ok s1 h2 => simp only [q] at po1; exact fun rho' H' e2 R2 σ' S' => po1 rho' H' e2 R2 σ' S'
  | exc _ _ => simp only [q] at po1; exact po1.elim
  | fail => simp only [q] at po1; exact po1
end

def s_freeze (i : Nat) (b : SF) : SF := fun s h => match s[i]? with
  | some (some (.ref n)) => match h[n]? with
    | some (.lst xs) => b (s.set i (some (.lv xs))) (h.set n .dead)
    | _ => .fail
  | _ => .fail
theorem live_dead {h : Hd} {n m : Nat} (e : live (h.set n .dead) m = true) : live h m = true ∧ m ≠ n := by
  unfold live at e ⊢
  by_cases q : n = m
  · subst q
    by_cases hl : n < h.length
    · rw [List.getElem?_set_self hl] at e; cases e
    · rw [List.getElem?_eq_none (by simpa using hl)] at e; cases e
  · rw [List.getElem?_set_ne q] at e
    exact ⟨e, fun z => q z.symm⟩
section
variable {K : Kx} {rho : Rh} {h : Hd} {H : Hp}
theorem Ext.dead (n : Nat) : Ext K rho h H rho (h.set n .dead) H where
  le := by simp
  ag := fun _ _ => rfl
  lv := fun m _ e => (live_dead e).1
  fr := fun m hm e => absurd (live_lt e) (by simpa using hm)
  kp := fun _ _ e _ => e
  tp := fun _ _ e => e
  fz := fun _ _ _ e => e
  dm := fun _ e => e
  zi := fun _ e => e
  zo := fun _ e => .inl e
theorem Rel.dead (R : Rel K rho h H) (n : Nat) : Rel K rho (h.set n .dead) H where
  inj := fun m k hm hk e => R.inj m k (live_dead hm).1 (live_dead hk).1 e
  cell := fun m o e => by
    by_cases q : n = m
    · subst q
      have hl : n < h.length := by
        have := (List.getElem?_eq_some_iff.mp e).1
        simpa using this
      rw [List.getElem?_set_self hl] at e
      cases e
      trivial
    · rw [List.getElem?_set_ne q] at e
      have c := R.cell m o e
      cases o with
      | dead => trivial
      | dct ks vs =>
        obtain ⟨g, us, ws, a, b, b'⟩ := c
        exact ⟨g, us, ws, a, RelDs.mono (Ext.dead n) (Nat.le_refl _) (Nat.le_of_lt (List.getElem?_eq_some_iff.mp e).1) _ _ b, RelDs.mono (Ext.dead n) (Nat.le_refl _) (Nat.le_of_lt (List.getElem?_eq_some_iff.mp e).1) _ _ b'⟩
      | lst xs =>
        obtain ⟨us, a, b⟩ := c
        exact ⟨us, a, RelDs.mono (Ext.dead n) (Nat.le_refl _) (Nat.le_of_lt (List.getElem?_eq_some_iff.mp e).1) _ _ b⟩
  zd := R.zd
  zc := fun m hm => R.zc m (live_dead hm).1
theorem Rel.frozen (R : Rel K rho h H) {n : Nat} {xs : List D} (e : h[n]? = some (.lst xs)) : RelV' K rho (h.set n .dead) H (.lv xs) (.ref (rho n)) := by
  obtain ⟨us, a, b⟩ := R.cellL e
  have ln : live h n = true := by unfold live; rw [e]
  simp only [RelV', RelD]
  refine ⟨rho n, us, rfl, ⟨a, R.zc n ln, fun m hm z => ?_⟩, ?_⟩
  · obtain ⟨hm, ne⟩ := live_dead hm
    exact ne (R.inj m n hm ln z)
  · have := (Ext.dead (K := K) (rho := rho) (H := H) n).vs b
    exact this
end
theorem tS.freeze {K : Kx} {mg : Str → Option Value} {W : WX} {i : Nat} {b : SF} {E : Ends} {σ : St} {H : Hp} (q : tS K mg W (s_freeze i b) E σ H) : tS K mg W b E σ H := by
  obtain ⟨rho, h, s, R, S, po⟩ := q
  unfold s_freeze at po
  split at po
  · rename_i n q
    split at po
    · rename_i xs q2
      obtain ⟨v, e1, r⟩ := S.2 i _ q
      simp only [RelV', RelD] at r
      have hil : i < σ.length := (List.getElem?_eq_some_iff.mp e1).1
      refine ⟨rho, h.set n .dead, s.set i (some (.lv xs)), R.dead n, ?_, PostG.ext (Ext.dead n) po⟩
      have S1 := ((Ext.dead (K := K) (rho := rho) (H := H) n).s S).set (R.frozen q2) i
      have e : σ.set i (some (.ref (rho n))) = σ := by
        apply List.ext_getElem?
        intro j
        by_cases hj : i = j
        · subst hj; rw [List.getElem?_set_self hil, e1, r.2]
        · rw [List.getElem?_set_ne hj]
      rw [e] at S1
      exact S1
    · exact po.elim
  · exact po.elim
theorem r_freeze {X : Cx} {W : WX} (i : Nat) {sts : List Stmt} {b : SF} (p : SSs X W sts b) : SSs X W sts (s_freeze i b) := PSs.imp p fun _ _ _ q => tS.freeze q

def whileM (t : TF) (b : SF) : Nat → SF
  | 0 => fun _ _ => .fail
  | n + 1 => fun s h => bindE (t s h) s fun c h1 => if c then (match b s h1 with
    | .ok (.nx s2) h2 => whileM t b n s2 h2
    | .ok (.ct s2) h2 => whileM t b n s2 h2
    | .ok (.bk s2) h2 => .ok (.nx s2) h2
    | r => r) else .ok (.nx s) h1
theorem r_while {X : Cx} {W : WX} {c : Expr} {body : List Stmt} {pos : Pos} {tc : TF} {b : SF} (n : Nat) (hp : PassesOwn (model X.prog X.w) X.A X.env X.xe) (hc : ST X W c tc) (hb : SSs X W body b) : SS X W (.While c body [] pos) (whileM tc b n) :=
  PS.imp (ps_while hp hc hb) fun E σ H q => by
    refine ⟨fun m σ H => ∃ k, k < m + 1 ∧ tS (kx X) X.mg W (whileM tc b k) E σ H, ⟨n, n, Nat.lt_succ_self _, q⟩, fun m σ H q => ?_⟩
    obtain ⟨k, hk, rho, h, s, R, S, po⟩ := q
    cases k with
    | zero => exact po.elim
    | succ k =>
      refine stepS R S po fun rho1 h1 H1 x e1 R1 S1 po1 => ?_
      cases x with
      | false => exact iteF (PostG.ok po1 R1 σ S1)
      | true =>
        refine iteT ⟨fun σ' H' => tS (kx X) X.mg W (whileM tc b k) E σ' H', fun σ' H' z => ⟨m - 1, by omega, k, by omega, z⟩, ?_⟩
        refine ⟨rho1, h1, s, R1, S1, ?_⟩
        simp only [if_true] at po1
        cases qb : b s h1 with
        | ok fl h2 =>
          rw [qb] at po1
          cases fl with
          | nx s2 => exact fun rho' H' e R' σ' S' => ⟨rho', h2, s2, R', S', PostG.ext e po1⟩
          | ct s2 => exact fun rho' H' e R' σ' S' => ⟨rho', h2, s2, R', S', PostG.ext e po1⟩
          | bk s2 => exact po1
          | rt d => exact po1
          | ex x s2 => exact po1
        | exc x h2 => rw [qb] at po1; exact po1
        | fail => rw [qb] at po1; exact po1
end Mini
namespace Mini
open PySem L2

structure ExtZ (K : Kx) (rho : Rh) (h : Hd) (H : Hp) (rho' : Rh) (h' : Hd) (H' : Hp) : Prop where
  le : h.length ≤ h'.length
  ag : ∀ m, m < h.length → rho' m = rho m
  lv : ∀ m, m < h.length → live h' m = true → live h m = true
  fr : ∀ m, h.length ≤ m → live h' m = true → H (rho' m) = none
  kp : ∀ a o, H a = some o → ¬ rho.Z a → (∀ m, live h m = true → rho m ≠ a) → H' a = some o
  tp : ∀ a us, H a = some (.tup us) → H' a = some (.tup us)
  fz : ∀ a o u, H a = some (.frz o u) → H' a = some (.frz o u)
  dm : ∀ a, H' a = none → H a = none
  zo : ∀ a, rho'.Z a → rho.Z a ∨ H a = none
section
variable {K : Kx} {rho rho' rho2 : Rh} {h h' h2 : Hd} {H H' H2 : Hp}
theorem Ext.z (x : Ext K rho h H rho' h' H') : ExtZ K rho h H rho' h' H' := ⟨x.le, x.ag, x.lv, x.fr, fun a o e _ n => x.kp a o e n, x.tp, x.fz, x.dm, x.zo⟩
theorem ExtZ.ne (x : ExtZ K rho h H rho' h' H') {a : Addr} {o : HO} (e : H a = some o) (n : ∀ m, live h m = true → rho m ≠ a) : ∀ m, live h' m = true → rho' m ≠ a := fun m hm => by
  by_cases hl : m < h.length
  · rw [x.ag m hl]; exact n m (x.lv m hl hm)
  · have := x.fr m (Nat.not_lt.mp hl) hm
    intro z; rw [z, e] at this; cases this
theorem ExtZ.nz (x : ExtZ K rho h H rho' h' H') {a : Addr} {o : HO} (e : H a = some o) (z : ¬ rho.Z a) : ¬ rho'.Z a := fun q => (x.zo a q).elim z fun n => by rw [e] at n; cases n
theorem ExtZ.trans (x : ExtZ K rho h H rho' h' H') (y : ExtZ K rho' h' H' rho2 h2 H2) : ExtZ K rho h H rho2 h2 H2 where
  le := Nat.le_trans x.le y.le
  ag := fun m hm => (y.ag m (Nat.lt_of_lt_of_le hm x.le)).trans (x.ag m hm)
  lv := fun m hm e => x.lv m hm (y.lv m (Nat.lt_of_lt_of_le hm x.le) e)
  fr := fun m hm e => by
    by_cases hl : m < h'.length
    · rw [y.ag m hl]; exact x.fr m hm (y.lv m hl e)
    · exact x.dm _ (y.fr m (Nat.not_lt.mp hl) e)
  kp := fun a o e z n => y.kp a o (x.kp a o e z n) (x.nz e z) (x.ne e n)
  tp := fun a us e => y.tp a us (x.tp a us e)
  fz := fun a o u e => y.fz a o u (x.fz a o u e)
  dm := fun a e => x.dm a (y.dm a e)
  zo := fun a e => (y.zo a e).elim (x.zo a) fun q => .inr (x.dm a q)
theorem ExtZ.sqT (x : ExtZ K rho h H rho' h' H') {a : Addr} {us : List V} (e : SqT K H a us) : SqT K H' a us := by
  rcases e with (e | ⟨o, e⟩) | e
  · exact .inl (.inl (x.tp _ _ e))
  · exact .inl (.inr ⟨o, x.fz _ _ _ e⟩)
  · exact .inr e
mutual
theorem RelD.monoZ (x : ExtZ K rho h H rho' h' H') {B B' : Nat} (hB : B ≤ B') (hh : B ≤ h.length) : ∀ (d : D) (v : V), RelD K rho h B H d v → RelD K rho' h' B' H' d v
  | .non, v, e => by simp only [RelD] at e ⊢; exact e
  | .bl b, v, e => by simp only [RelD] at e ⊢; exact e
  | .int i, v, e => by simp only [RelD] at e ⊢; exact e
  | .str z, v, e => by simp only [RelD] at e ⊢; exact e
  | .tup xs, v, e => by
    simp only [RelD] at e ⊢
    obtain ⟨a, us, e1, e2, e3⟩ := e
    exact ⟨a, us, e1, x.sqT e2, RelDs.monoZ x hB hh xs us e3⟩
  | .lv xs, v, e => by
    simp only [RelD] at e ⊢
    obtain ⟨a, us, e1, e2, e3⟩ := e
    refine ⟨a, us, e1, ?_, RelDs.monoZ x hB hh xs us e3⟩
    obtain ⟨e2, z, n⟩ := e2
    exact ⟨x.kp _ _ e2 z n, x.nz e2 z, x.ne e2 n⟩
  | .fl xs, v, e => by
    simp only [RelD] at e ⊢
    obtain ⟨a, us, e1, e2, e3⟩ := e
    refine ⟨a, us, e1, ?_, RelDs.monoZ x hB hh xs us e3⟩
    rcases e2 with ⟨o, e2⟩ | e2
    · exact .inl ⟨o, x.fz _ _ _ e2⟩
    · exact .inr e2
  | .ref n, v, e => by
    simp only [RelD] at e ⊢
    exact ⟨Nat.lt_of_lt_of_le e.1 hB, by rw [x.ag n (Nat.lt_of_lt_of_le e.1 hh)]; exact e.2⟩
  | .exc c ns xs, v, e => by
    simp only [RelD] at e ⊢
    obtain ⟨a, C, o, d, e1, e2, e3, e4⟩ := e
    exact ⟨a, C, o, d, e1, e2, x.fz _ _ _ e3, e4.imp id fun ⟨dd, od, us, q1, q2, q3, q4⟩ => ⟨dd, od, us, q1, x.fz _ _ _ q2, q3, RelDs.monoZ x hB hh xs _ q4⟩⟩
  | .fd ks vs, v, e => by
    simp only [RelD] at e ⊢
    obtain ⟨a, o, us, ws, e1, e2, e3, e4, e5⟩ := e
    exact ⟨a, o, us, ws, e1, e2, x.fz _ _ _ e3, RelDs.monoZ x hB hh ks _ e4, RelDs.monoZ x hB hh vs _ e5⟩
  | .obj c ns xs, v, e => by
    simp only [RelD] at e ⊢
    obtain ⟨a, C, dx, o, us, e1, e2, e3, e4, e5⟩ := e
    exact ⟨a, C, dx, o, us, e1, e2, x.fz _ _ _ e3, e4, RelDs.monoZ x hB hh xs _ e5⟩
theorem RelDs.monoZ (x : ExtZ K rho h H rho' h' H') {B B' : Nat} (hB : B ≤ B') (hh : B ≤ h.length) : ∀ (ds : List D) (us : List V), RelDs K rho h B H ds us → RelDs K rho' h' B' H' ds us
  | [], us, e => by simp only [RelDs] at e ⊢; exact e
  | d :: ds, us, e => by
    simp only [RelDs] at e ⊢
    obtain ⟨v, r, e1, e2, e3⟩ := e
    exact ⟨v, r, e1, RelD.monoZ x hB hh d v e2, RelDs.monoZ x hB hh ds r e3⟩
end
theorem ExtZ.v (x : ExtZ K rho h H rho' h' H') {d : D} {v : V} (r : RelV' K rho h H d v) : RelV' K rho' h' H' d v := RelD.monoZ x x.le (Nat.le_refl _) d v r
theorem ExtZ.vs (x : ExtZ K rho h H rho' h' H') {d : List D} {v : List V} (r : RelVs' K rho h H d v) : RelVs' K rho' h' H' d v := RelDs.monoZ x x.le (Nat.le_refl _) d v r
theorem ExtZ.s (x : ExtZ K rho h H rho' h' H') {s : Ev} {σ : St} (r : RelS K rho h H s σ) : RelS K rho' h' H' s σ := ⟨r.1, fun i d e => let ⟨v, a, b⟩ := r.2 i d e; ⟨v, a, x.v b⟩⟩
/-- a reserved list is changed -/
theorem ExtZ.grow (x : ExtZ K rho h H rho' h' H') {p : Addr} {us : List V} {o : HO} (hp : H p = some (.lst us)) (hz : rho.Z p) : ExtZ K rho h H rho' h' (L2.upd H' p o) where
  le := x.le
  ag := x.ag
  lv := x.lv
  fr := x.fr
  kp := fun a o' e z n => by
    have q : a ≠ p := fun q => z (by rw [q]; exact hz)
    rw [upd_ne q]; exact x.kp a o' e z n
  tp := fun a us' e => by
    have q : a ≠ p := fun q => by rw [q, hp] at e; cases e
    rw [upd_ne q]; exact x.tp a us' e
  fz := fun a o' u e => by
    have q : a ≠ p := fun q => by rw [q, hp] at e; cases e
    rw [upd_ne q]; exact x.fz a o' u e
  dm := fun a e => by
    by_cases q : a = p
    · subst q; rw [upd_same] at e; cases e
    · rw [upd_ne q] at e; exact x.dm a e
  zo := x.zo
end

/-- J walks the items, whatever else goes on -/
def Serves (K : Kx) (J : It) (items : List D) (rho : Rh) (h : Hd) (H : Hp) : Prop :=
  ∀ (rho' : Rh) (h' : Hd) (H' : Hp), ExtZ K rho h H rho' h' H' → Rel K rho' h' H' → ∀ i : Nat,
    (∀ d, items[i]? = some d → J.go i H' ∧ ∀ x H2, J.yld i H' x H2 → Ext K rho' h' H' rho' h' H2 ∧ Rel K rho' h' H2 ∧ RelV' K rho' h' H2 d x) ∧ (items.length ≤ i → J.stop i H')
theorem Serves.ext {K : Kx} {J : It} {items : List D} {rho rho1 : Rh} {h h1 : Hd} {H H1 : Hp} (s : Serves K J items rho h H) (x : Ext K rho h H rho1 h1 H1) : Serves K J items rho1 h1 H1 := fun rho' h' H' e R => s rho' h' H' (x.z.trans e) R
abbrev pI (K : Kx) (Q : It → Hp → Prop) : PG' (List D) := fun items rho h H => ∀ J, Serves K J items rho h H → Q J H
abbrev tI (K : Kx) (mg : Str → Option Value) (W : WX) (f : AF) : TI := tG K mg W f (pI K)
abbrev SI (X : Cx) (W : WX) (tg e : Expr) (f : AF) : Prop := PI X tg e (tI (kx X) X.mg W f)
theorem PI.imp {X : Cx} {tg e : Expr} {t t' : TI} (p : PI X tg e t) (i : ∀ σ H Q, t' σ H Q → t σ H Q) : PI X tg e t' := ⟨fun pins s σ H R I q => p.run pins s σ H R I (i σ H R q)⟩
theorem PI.or {X : Cx} {tg e : Expr} {t u t' : TI} (p : PI X tg e t) (q : PI X tg e u) (i : ∀ σ H Q, t' σ H Q → t σ H Q ∨ u σ H Q) : PI X tg e t' := ⟨fun pins s σ H R I z => (i σ H R z).elim (p.run pins s σ H R I) (q.run pins s σ H R I)⟩
/-- a list by value or a tuple -/
def i_seq (f : EF) : AF := fun s h => (f s h).bind fun d h1 => match d with
  | .lv xs => .ok xs h1
  | .tup xs => .ok xs h1
  | _ => .fail
theorem serves_lv {K : Kx} {rho : Rh} {h : Hd} {H : Hp} {xs : List D} {a : Addr} (r : RelV' K rho h H (.lv xs) (.ref a)) : Serves K (Itl K a) xs rho h H := by
  intro rho' h' H' e R i
  have r' := e.v r
  obtain ⟨a', us, e1, e2, e3⟩ := asL_ok R r' (xs := xs) rfl
  cases e1
  refine ⟨fun d hd => ?_, fun hl => ⟨us, e2, by rw [← RelDs.length e3]; exact hl⟩⟩
  obtain ⟨v, e4, e5⟩ := RelDs.get e3 hd
  exact ⟨⟨us, v, e2, e4⟩, fun x H2 ⟨q1, q2⟩ => by
    subst q1
    have := q2 us e2
    rw [e4] at this
    cases this
    exact ⟨Ext.refl, R, e5⟩⟩
theorem serves_tup {K : Kx} {rho : Rh} {h : Hd} {H : Hp} {xs : List D} {a : Addr} (r : RelV' K rho h H (.tup xs) (.ref a)) : Serves K (Itt K a) xs rho h H := by
  intro rho' h' H' e R i
  obtain ⟨a', us, e1, e2, e3⟩ := (e.v r).tup
  cases e1
  refine ⟨fun d hd => ?_, fun hl => ⟨us, e2, by rw [← RelDs.length e3]; exact hl⟩⟩
  obtain ⟨v, e4, e5⟩ := RelDs.get e3 hd
  exact ⟨⟨us, v, e2, e4⟩, fun x H2 ⟨q1, q2⟩ => by
    subst q1
    have := q2 us e2
    rw [e4] at this
    cases this
    exact ⟨Ext.refl, R, e5⟩⟩
theorem ri_seq {X : Cx} {W : WX} {tg e : Expr} {fe : EF} (he : SE X W e fe) : SI X W tg e (i_seq fe) := by
  refine PI.or (pi_list he) (pi_tup he) fun σ H Q q => ?_
  obtain ⟨rho, h, s, R, S, po⟩ := q
  have po2 := po
  cases q : fe s h with
  | fail => simp only [i_seq, q] at po2; exact po2.elim
  | exc x h1 =>
    simp only [i_seq, q] at po2
    exact .inl ⟨rho, h, s, R, S, by rw [q]; exact po2⟩
  | ok d h1 =>
    simp only [i_seq, q] at po2
    cases d with
    | lv xs =>
      refine .inl ⟨rho, h, s, R, S, ?_⟩
      rw [q]
      intro rho1 H1 e1 R1 v r
      have r0 := r
      obtain ⟨a, us, e2, e3, e4⟩ := asL_ok R1 r (xs := xs) rfl
      subst e2
      exact ⟨a, rfl, ⟨us, e3⟩, po2 rho1 H1 e1 R1 _ (serves_lv r0)⟩
    | tup xs =>
      refine .inr ⟨rho, h, s, R, S, ?_⟩
      rw [q]
      intro rho1 H1 e1 R1 v r
      have r0 := r
      obtain ⟨a, us, e2, e3, e4⟩ := r.tup
      subst e2
      exact ⟨a, rfl, ⟨us, e3⟩, po2 rho1 H1 e1 R1 _ (serves_tup r0)⟩
    | _ => exact po2.elim

def rangeL (lo : Int) : Nat → List D
  | 0 => []
  | n + 1 => .int lo :: rangeL (lo + 1) n
theorem rangeL_length : ∀ (n : Nat) (lo : Int), (rangeL lo n).length = n
  | 0, _ => rfl
  | n + 1, lo => by simp [rangeL, rangeL_length n]
theorem rangeL_get : ∀ (n i : Nat) (lo : Int) (d : D), (rangeL lo n)[i]? = some d → d = .int (lo + i) ∧ i < n
  | 0, i, lo, d, e => by simp [rangeL] at e
  | n + 1, 0, lo, d, e => by simp [rangeL] at e; subst e; simp
  | n + 1, i + 1, lo, d, e => by
    simp only [rangeL, List.getElem?_cons_succ] at e
    obtain ⟨a, b⟩ := rangeL_get n i (lo + 1) d e
    exact ⟨by rw [a]; congr 1; omega, by omega⟩
theorem serves_range {K : Kx} {rho : Rh} {h : Hd} {H : Hp} (lo : Int) (n : Nat) : Serves K (Itr lo n) (rangeL lo n) rho h H := by
  intro rho' h' H' e R i
  refine ⟨fun d hd => ?_, fun hl => by rw [rangeL_length] at hl; exact hl⟩
  obtain ⟨a, b⟩ := rangeL_get n i lo d hd
  subst a
  exact ⟨b, fun x H2 ⟨q1, q2⟩ => by subst q1 q2; exact ⟨Ext.refl, R, relInt _⟩⟩
def in62 (i : Int) : Bool := decide (-(2 ^ 62) ≤ i) && decide (i < 2 ^ 62)
theorem in62_ok {i : Int} (e : in62 i = true) : -(2 ^ 62) ≤ i ∧ i < 2 ^ 62 := by
  unfold in62 at e
  rw [Bool.and_eq_true] at e
  exact ⟨of_decide_eq_true e.1, of_decide_eq_true e.2⟩
def i_rng1 (a : AF) : AF := fun s h => (a s h).bind fun ds h1 => match ds with
  | [.int j] => if in62 j then .ok (rangeL 0 j.toNat) h1 else .fail
  | _ => .fail
def i_rng2 (a : AF) : AF := fun s h => (a s h).bind fun ds h1 => match ds with
  | [.int i, .int j] => if in62 i && in62 j then .ok (rangeL i (j - i).toNat) h1 else .fail
  | _ => .fail
section
variable {X : Cx} {W : WX} {tg a b : Expr} {p pos : Pos} {fa : AF}
theorem ri_range1 (hm : X.mg "range" = none) (ha : SA X W [a] fa) (hg : Gl X "range" := by rfl) (hs : starEach [a] X.env = [(false, eval a X.env)] := by rfl) : SI X W tg (.Call (.Name "range" p) [a] [] pos) (i_rng1 fa) := PI.imp (pi_range1 hg hm ha hs) fun σ H Q q => by
  obtain ⟨rho, h, s, R, S, po⟩ := q
  refine step R S po fun rho1 h1 H1 ds e1 R1 S1 po1 vs r => ?_
  match ds, po1, r with
  | [.int j], po1, r =>
    by_cases q : in62 j = true
    · simp only [q, if_true] at po1
      simp only [RelVs', RelDs, RelD] at r
      obtain ⟨v, rr, e2, e3, e4⟩ := r
      subst e4 e3
      exact ⟨j, e2, (in62_ok q).1, (in62_ok q).2, PostG.ok po1 R1 _ (serves_range 0 _)⟩
    · simp only [q] at po1; exact po1.elim
  | [], po1, r => exact po1.elim
  | [.non], po1, r => exact po1.elim
  | [.bl _], po1, r => exact po1.elim
  | [.str _], po1, r => exact po1.elim
  | [.tup _], po1, r => exact po1.elim
  | [.lv _], po1, r => exact po1.elim
  | [.fl _], po1, r => exact po1.elim
  | [.ref _], po1, r => exact po1.elim
  | _ :: _ :: _, po1, r => simp only at po1; exact po1.elim
theorem ri_range2 (hm : X.mg "range" = none) (ha : SA X W [a, b] fa) (hg : Gl X "range" := by rfl) (hs : starEach [a, b] X.env = [(false, eval a X.env), (false, eval b X.env)] := by rfl) (hs2 : starEach [b] X.env = [(false, eval b X.env)] := by rfl) :
    SI X W tg (.Call (.Name "range" p) [a, b] [] pos) (i_rng2 fa) := PI.imp (pi_range2 hg hm ha hs hs2) fun σ H Q q => by
  obtain ⟨rho, h, s, R, S, po⟩ := q
  refine step R S po fun rho1 h1 H1 ds e1 R1 S1 po1 vs r => ?_
  split at po1
  · rename_i i j
    by_cases q : (in62 i && in62 j) = true
    · simp only [q, if_true] at po1
      rw [Bool.and_eq_true] at q
      simp only [RelVs', RelDs, RelD] at r
      obtain ⟨v, rr, e2, e3, v2, rr2, e4, e5, e6⟩ := r
      subst e6 e5 e4 e3
      exact ⟨i, j, e2, ⟨(in62_ok q.1).1, (in62_ok q.1).2, (in62_ok q.2).1, (in62_ok q.2).2⟩, PostG.ok po1 R1 _ (serves_range i _)⟩
    · simp only [q] at po1; exact po1.elim
  · exact po1.elim
end

def forM (p : Pat) (b : SF) : List D → SF
  | [] => fun s h => .ok (.nx s) h
  | d :: r => fun s h => match patD p d s with
    | some s1 => (match b s1 h with
      | .ok (.nx s2) h2 => forM p b r s2 h2
      | .ok (.ct s2) h2 => forM p b r s2 h2
      | .ok (.bk s2) h2 => .ok (.nx s2) h2
      | r => r)
    | none => .fail
def s_for (i : AF) (p : Pat) (b : SF) : SF := fun s h => bindE (i s h) s fun items h1 => forM p b items s h1
theorem r_for {X : Cx} {W : WX} {tg iter : Expr} {body : List Stmt} {pos : Pos} {fi : AF} {p : Pat} {b : SF} (hp : PassesOwn (model X.prog X.w) X.A X.env X.xe) (hc : X.calm = true) (hi : SI X W tg iter fi) (hg : SG X tg p) (hb : SSs X W body b)
    (hs : ∀ x, foldedSetIterable iter X.env x = pure x := by intro _; rfl) : SS X W (.For tg iter body [] pos) (s_for fi p b) :=
  PS.imp (ps_for hp hc hi hg hb hs) fun E σ H q => by
    obtain ⟨rho, h, s, R, S, po⟩ := q
    refine stepS R S po fun rho0 h0 H0 items e0 R0 S0 po0 J sv => ?_
    refine ⟨fun i m σ H => i + m = items.length ∧ ∃ rho h s, Ext (kx X) rho0 h0 H0 rho h H ∧ Rel (kx X) rho h H ∧ RelS (kx X) rho h H s σ ∧ PostG (kx X) X.mg (fun _ _ _ => False) rho h H (forM p b (items.drop i) s h) (pS (kx X) W X.mg E),
      ⟨items.length, by simp, rho0, h0, s, Ext.refl, R0, S0, by simpa using po0⟩, fun i m σ H q => ?_⟩
    obtain ⟨hm, rho, h, s, e1, R1, S1, po1⟩ := q
    obtain ⟨s1, s2⟩ := sv rho h H e1.z R1 i
    cases hi : items[i]? with
    | none =>
      have hl : items.length ≤ i := List.getElem?_eq_none_iff.mp hi
      rw [List.drop_eq_nil_of_le hl] at po1
      exact .inl ⟨s2 hl, PostG.ok po1 R1 σ S1⟩
    | some d =>
      have hl : i < items.length := (List.getElem?_eq_some_iff.mp hi).1
      have ed : items.drop i = d :: items.drop (i + 1) := by
        rw [List.drop_eq_getElem_cons hl]
        congr 1
        exact (List.getElem?_eq_some_iff.mp hi).2
      rw [ed] at po1
      obtain ⟨go, yl⟩ := s1 d hi
      refine .inr ⟨go, fun σ' H' => ∃ rho h s, Ext (kx X) rho0 h0 H0 rho h H' ∧ Rel (kx X) rho h H' ∧ RelS (kx X) rho h H' s σ' ∧ PostG (kx X) X.mg (fun _ _ _ => False) rho h H' (forM p b (items.drop (i + 1)) s h) (pS (kx X) W X.mg E),
        fun σ' H' z => ⟨m - 1, by omega, by omega, z⟩, fun x H2 y => ?_⟩
      obtain ⟨e2, R2, r⟩ := yl x H2 y
      simp only [forM] at po1
      cases q : patD p d s with
      | none => rw [q] at po1; exact po1.elim
      | some s1' =>
        rw [q] at po1
        obtain ⟨σ', S', z, _⟩ := patG_ok p d x s s1' σ r (e2.s S1) q
        refine z _ ⟨rho, h, s1', R2, S', ?_⟩
        have po2 := PostG.ext e2 po1
        cases qb : b s1' h with
        | ok fl h2 =>
          simp only [qb] at po2
          cases fl with
          | nx s2 => exact fun rho' H' e R' σ' S' => ⟨rho', h2, s2, (e1.trans e2).trans e, R', S', PostG.ext e po2⟩
          | ct s2 => exact fun rho' H' e R' σ' S' => ⟨rho', h2, s2, (e1.trans e2).trans e, R', S', PostG.ext e po2⟩
          | bk s2 => exact po2
          | rt d => exact po2
          | ex x s2 => exact po2
        | exc x h2 => simp only [qb] at po2; exact po2
        | fail => simp only [qb] at po2; exact po2

def wipeD (s : Ev) : List Nat → Ev
  | [] => s
  | v :: vs => (wipeD s vs).set v none
theorem wipeD_get (s : Ev) (j : Nat) : ∀ vs : List Nat, (wipeD s vs)[j]? = if j ∈ vs then (if j < s.length then some none else none) else s[j]?
  | [] => by simp [wipeD]
  | v :: vs => by
    have hw : ∀ vs, (wipeD s vs).length = s.length := by
      intro vs
      induction vs with
      | nil => rfl
      | cons v vs ih => simp [wipeD, ih]
    unfold wipeD
    by_cases hv : v = j
    · subst hv
      by_cases hl : v < s.length
      · rw [List.getElem?_set_self (by rw [hw]; exact hl)]
        simp [hl]
      · rw [List.getElem?_eq_none (by simp [hw]; omega)]
        simp [hl]
    · rw [List.getElem?_set_ne hv, wipeD_get s j vs]
      have : ¬ j = v := fun e => hv e.symm
      simp [this]
theorem RelS.wipe {K : Kx} {rho : Rh} {h : Hd} {H : Hp} {s : Ev} {σ : St} (S : RelS K rho h H s σ) (vs : List Nat) : RelS K rho h H (wipeD s vs) (L2.wipe σ vs) := by
  have hw : ∀ vs, (wipeD s vs).length = s.length := by
    intro vs
    induction vs with
    | nil => rfl
    | cons v vs ih => simp [wipeD, ih]
  refine ⟨by rw [hw, wipe_length]; exact S.1, fun i d e => ?_⟩
  rw [wipeD_get] at e
  split at e
  · split at e <;> cases e
  · rename_i hn
    obtain ⟨v, a, b⟩ := S.2 i d e
    exact ⟨v, by rw [wipe_get]; simp [hn, a], b⟩
/-- ok: no exception leaves a comprehension -/
def lcM (p : Pat) (tt : TF) (te : EF) (s0 : Ev) : List D → List D → Hd → Option (List D × Hd)
  | [], acc, h => some (acc, h)
  | d :: r, acc, h => match patD p d s0 with
    | some s1 => (match tt s1 h with
      | .ok true h1 => (match te s1 h1 with
        | .ok y h2 => if acc.length < sizeLine then lcM p tt te s0 r (acc ++ [y]) h2 else none
        | _ => none)
      | .ok false h1 => lcM p tt te s0 r acc h1
      | _ => none)
    | none => none
def e_lc (own : List Nat) (i : AF) (p : Pat) (tt : TF) (te : EF) : EF := fun s h => (i s h).bind fun items h1 => match lcM p tt te (wipeD s own) items [] h1 with
  | some (ys, h2) => .ok (.lv ys) h2
  | none => .fail
def t_yes : TF := fun _ h => .ok true h
abbrev W0 : WX := fun _ _ _ _ => False
theorem wipe_wipe (σ : St) (vs : List Nat) : wipe (wipe σ vs) vs = wipe σ vs := by
  apply List.ext_getElem?
  intro j
  rw [wipe_get, wipe_get, wipe_length]
  by_cases hj : j ∈ vs <;> simp [hj]
def zAdd (rho : Rh) (a : Addr) : Rh := ⟨rho.f, fun b => rho.Z b ∨ b = a⟩
def zDel (rho : Rh) (a : Addr) : Rh := ⟨rho.f, fun b => rho.Z b ∧ b ≠ a⟩
section
variable {K : Kx} {rho rho1 : Rh} {h h1 : Hd} {H H1 : Hp} {p : Addr} {o : HO}
/-- a new object is laid, its address reserved -/
theorem Ext.zin (R : Rel K rho h H) (np : H p = none) : Ext K rho h H (zAdd rho p) h (L2.upd H p o) :=
  { Ext.upd R np o with zi := fun a e => .inl e, zo := fun a e => e.elim .inl fun q => .inr (by rw [q]; exact np) }
theorem Rel.zin (R : Rel K rho h H) (np : H p = none) : Rel K (zAdd rho p) h (L2.upd H p o) := by
  refine ⟨R.inj, fun m ob e => ?_, fun a z => ?_, fun m hm z => ?_⟩
  · have c := R.cell m ob e
    cases ob with
    | dead => trivial
    | dct ks vs =>
      obtain ⟨g, us, ws, a, b, b'⟩ := c
      have hm := (List.getElem?_eq_some_iff.mp e).1
      exact ⟨g, us, ws, by show L2.upd H p o (rho m) = _; rw [upd_ne (ne_of_none a np)]; exact a, RelDs.mono (Ext.zin R np) (Nat.le_refl _) (Nat.le_of_lt hm) _ _ b, RelDs.mono (Ext.zin R np) (Nat.le_refl _) (Nat.le_of_lt hm) _ _ b'⟩
    | lst xs =>
      obtain ⟨us, a, b⟩ := c
      have hm := (List.getElem?_eq_some_iff.mp e).1
      exact ⟨us, by show L2.upd H p o (rho m) = _; rw [upd_ne (ne_of_none a np)]; exact a, RelDs.mono (Ext.zin R np) (Nat.le_refl _) (Nat.le_of_lt hm) _ _ b⟩
  · rcases z with z | z
    · exact (R.upd np o).zd a z
    · rw [z, upd_same]; simp
  · rcases z with z | z
    · exact R.zc m hm z
    · obtain ⟨us, q⟩ := R.at hm
      rw [show (zAdd rho p) m = rho m from rfl] at z
      rw [z, np] at q; cases q
/-- what stands at an address that was free is changed -/
theorem Ext.over (x : Ext K rho h H rho1 h1 H1) (np : H p = none) : Ext K rho h H rho1 h1 (L2.upd H1 p o) where
  le := x.le
  ag := x.ag
  lv := x.lv
  fr := x.fr
  kp := fun a o e n => by rw [upd_ne (ne_of_none e np)]; exact x.kp a o e n
  tp := fun a us e => by rw [upd_ne (ne_of_none e np)]; exact x.tp a us e
  fz := fun a o u e => by rw [upd_ne (ne_of_none e np)]; exact x.fz a o u e
  dm := fun a e => by
    by_cases q : a = p
    · subst q; exact np
    · rw [upd_ne q] at e; exact x.dm a e
  zi := x.zi
  zo := x.zo
theorem RelD.grow {us us' : List V} (hp : H p = some (.lst us)) (hz : rho.Z p) (d : D) : ∀ (v : V) (B : Nat), RelD K rho h B H d v → RelD K rho h B (L2.upd H p (.lst us')) d v := by
  refine D.rec (motive_1 := fun d => ∀ (v : V) (B : Nat), RelD K rho h B H d v → RelD K rho h B (L2.upd H p (.lst us')) d v)
    (motive_2 := fun ds => ∀ (vs : List V) (B : Nat), RelDs K rho h B H ds vs → RelDs K rho h B (L2.upd H p (.lst us')) ds vs) ?_ ?_ ?_ ?_ ?_ ?_ ?_ ?_ ?_ ?_ ?_ ?_ ?_ d
  · intro v B e; simp only [RelD] at e ⊢; exact e
  · intro b v B e; simp only [RelD] at e ⊢; exact e
  · intro b v B e; simp only [RelD] at e ⊢; exact e
  · intro b v B e; simp only [RelD] at e ⊢; exact e
  · intro xs ih v B e
    simp only [RelD] at e ⊢
    obtain ⟨a, ws, e1, e2, e3⟩ := e
    refine ⟨a, ws, e1, ?_, ih ws B e3⟩
    rcases e2 with (e2 | ⟨o, e2⟩) | e2
    · exact .inl (.inl (by rw [upd_ne (ne_of e2 hp (by intro z; cases z))]; exact e2))
    · exact .inl (.inr ⟨o, by rw [upd_ne (ne_of e2 hp (by intro z; cases z))]; exact e2⟩)
    · exact .inr e2
  · intro xs ih v B e
    simp only [RelD] at e ⊢
    obtain ⟨a, ws, e1, e2, e3⟩ := e
    refine ⟨a, ws, e1, ?_, ih ws B e3⟩
    obtain ⟨e2, z, n⟩ := e2
    have ne : a ≠ p := fun q => z (q ▸ hz)
    exact ⟨by rw [upd_ne ne]; exact e2, z, n⟩
  · intro xs ih v B e
    simp only [RelD] at e ⊢
    obtain ⟨a, ws, e1, e2, e3⟩ := e
    refine ⟨a, ws, e1, ?_, ih ws B e3⟩
    rcases e2 with ⟨o, e2⟩ | e2
    · exact .inl ⟨o, by rw [upd_ne (ne_of e2 hp (by intro z; cases z))]; exact e2⟩
    · exact .inr e2
  · intro n v B e; simp only [RelD] at e ⊢; exact e
  · intro c ns xs ih v B e
    simp only [RelD] at e ⊢
    obtain ⟨a, C, o, d, e1, e2, e3, e4⟩ := e
    exact ⟨a, C, o, d, e1, e2, by rw [upd_ne (ne_of e3 hp (by intro z; cases z))]; exact e3, e4.imp id fun ⟨dd, od, us, q1, q2, q3, q4⟩ => ⟨dd, od, us, q1, by rw [upd_ne (ne_of q2 hp (by intro z; cases z))]; exact q2, q3, ih _ B q4⟩⟩
  · intro ks vs ih ih2 v B e
    simp only [RelD] at e ⊢
    obtain ⟨a, o, us, ws, e1, e2, e3, e4, e5⟩ := e
    exact ⟨a, o, us, ws, e1, e2, by rw [upd_ne (ne_of e3 hp (by intro z; cases z))]; exact e3, ih _ B e4, ih2 _ B e5⟩
  · intro c ns xs ih v B e
    simp only [RelD] at e ⊢
    obtain ⟨a, C, dx, o, us, e1, e2, e3, e4, e5⟩ := e
    exact ⟨a, C, dx, o, us, e1, e2, by rw [upd_ne (ne_of e3 hp (by intro z; cases z))]; exact e3, e4, ih _ B e5⟩
  · intro vs B e; simp only [RelDs] at e ⊢; exact e
  · intro d ds i1 i2 vs B e
    simp only [RelDs] at e ⊢
    obtain ⟨v, r, e1, e2, e3⟩ := e
    exact ⟨v, r, e1, i1 v B e2, i2 r B e3⟩
theorem RelDs.grow {us us' : List V} (hp : H p = some (.lst us)) (hz : rho.Z p) : ∀ (ds : List D) (vs : List V) (B : Nat), RelDs K rho h B H ds vs → RelDs K rho h B (L2.upd H p (.lst us')) ds vs
  | [], vs, B, e => by simp only [RelDs] at e ⊢; exact e
  | d :: ds, vs, B, e => by
    simp only [RelDs] at e ⊢
    obtain ⟨v, r, e1, e2, e3⟩ := e
    exact ⟨v, r, e1, RelD.grow hp hz d v B e2, RelDs.grow hp hz ds r B e3⟩
theorem Rel.grow (R : Rel K rho h H) {us us' : List V} (hp : H p = some (.lst us)) (hz : rho.Z p) : Rel K rho h (L2.upd H p (.lst us')) := by
  refine ⟨R.inj, fun m ob e => ?_, fun a z => ?_, R.zc⟩
  · have c := R.cell m ob e
    cases ob with
    | dead => trivial
    | dct ks vs =>
      obtain ⟨g, us, ws, a, b, b'⟩ := c
      have ne : rho m ≠ p := fun q => R.zc m (by unfold live; rw [e]) (q ▸ hz)
      exact ⟨g, us, ws, by rw [upd_ne ne]; exact a, RelDs.grow hp hz _ _ m b, RelDs.grow hp hz _ _ m b'⟩
    | lst xs =>
      obtain ⟨ws, a, b⟩ := c
      have ne : rho m ≠ p := fun q => R.zc m (by unfold live; rw [e]) (q ▸ hz)
      exact ⟨ws, by rw [upd_ne ne]; exact a, RelDs.grow hp hz _ _ m b⟩
  · by_cases q : a = p
    · rw [q, upd_same]; simp
    · rw [upd_ne q]; exact R.zd a z
/-- the reserved address is let go -/
theorem RelD.zdel (d : D) : ∀ (v : V) (B : Nat), RelD K rho h B H d v → RelD K (zDel rho p) h B H d v := by
  refine D.rec (motive_1 := fun d => ∀ (v : V) (B : Nat), RelD K rho h B H d v → RelD K (zDel rho p) h B H d v)
    (motive_2 := fun ds => ∀ (vs : List V) (B : Nat), RelDs K rho h B H ds vs → RelDs K (zDel rho p) h B H ds vs) ?_ ?_ ?_ ?_ ?_ ?_ ?_ ?_ ?_ ?_ ?_ ?_ ?_ d
  · intro v B e; simp only [RelD] at e ⊢; exact e
  · intro b v B e; simp only [RelD] at e ⊢; exact e
  · intro b v B e; simp only [RelD] at e ⊢; exact e
  · intro b v B e; simp only [RelD] at e ⊢; exact e
  · intro xs ih v B e
    simp only [RelD] at e ⊢
    obtain ⟨a, ws, e1, e2, e3⟩ := e
    exact ⟨a, ws, e1, e2, ih ws B e3⟩
  · intro xs ih v B e
    simp only [RelD] at e ⊢
    obtain ⟨a, ws, e1, e2, e3⟩ := e
    refine ⟨a, ws, e1, ?_, ih ws B e3⟩
    obtain ⟨e2, z, n⟩ := e2
    exact ⟨e2, fun q => z q.1, n⟩
  · intro xs ih v B e
    simp only [RelD] at e ⊢
    obtain ⟨a, ws, e1, e2, e3⟩ := e
    exact ⟨a, ws, e1, e2, ih ws B e3⟩
  · intro n v B e; simp only [RelD] at e ⊢; exact e
  · intro c ns xs ih v B e
    simp only [RelD] at e ⊢
    obtain ⟨a, C, o, d, e1, e2, e3, e4⟩ := e
    exact ⟨a, C, o, d, e1, e2, e3, e4.imp id fun ⟨dd, od, us, q1, q2, q3, q4⟩ => ⟨dd, od, us, q1, q2, q3, ih _ B q4⟩⟩
  · intro ks vs ih ih2 v B e
    simp only [RelD] at e ⊢
    obtain ⟨a, o, us, ws, e1, e2, e3, e4, e5⟩ := e
    exact ⟨a, o, us, ws, e1, e2, e3, ih _ B e4, ih2 _ B e5⟩
  · intro c ns xs ih v B e
    simp only [RelD] at e ⊢
    obtain ⟨a, C, dx, o, us, e1, e2, e3, e4, e5⟩ := e
    exact ⟨a, C, dx, o, us, e1, e2, e3, e4, ih _ B e5⟩
  · intro vs B e; simp only [RelDs] at e ⊢; exact e
  · intro d ds i1 i2 vs B e
    simp only [RelDs] at e ⊢
    obtain ⟨v, r, e1, e2, e3⟩ := e
    exact ⟨v, r, e1, i1 v B e2, i2 r B e3⟩
theorem RelDs.zdel : ∀ (ds : List D) (vs : List V) (B : Nat), RelDs K rho h B H ds vs → RelDs K (zDel rho p) h B H ds vs
  | [], vs, B, e => by simp only [RelDs] at e ⊢; exact e
  | d :: ds, vs, B, e => by
    simp only [RelDs] at e ⊢
    obtain ⟨v, r, e1, e2, e3⟩ := e
    exact ⟨v, r, e1, RelD.zdel d v B e2, RelDs.zdel ds r B e3⟩
theorem Rel.zdel (R : Rel K rho h H) : Rel K (zDel rho p) h H := by
  refine ⟨R.inj, fun m ob e => ?_, fun a z => R.zd a z.1, fun m hm z => R.zc m hm z.1⟩
  have c := R.cell m ob e
  cases ob with
  | dead => trivial
  | dct ks vs =>
    obtain ⟨g, us, ws, a, b, b'⟩ := c
    exact ⟨g, us, ws, a, RelDs.zdel _ _ m b, RelDs.zdel _ _ m b'⟩
  | lst xs =>
    obtain ⟨ws, a, b⟩ := c
    exact ⟨ws, a, RelDs.zdel _ _ m b⟩
theorem Ext.zdel (R : Rel K rho h H) (x : Ext K rho h H rho1 h1 H1) (np : H p = none) : Ext K rho h H (zDel rho1 p) h1 H1 :=
  { x with zi := fun a z => ⟨x.zi a z, fun q => R.zd a z (by rw [q]; exact np)⟩, zo := fun a z => x.zo a z.1 }
end
theorem tE.lc {K : Kx} {mg : Str → Option Value} {W : WX} {own : List Nat} {fi : AF} {p : Pat} {tt : TF} {te : EF} (hp : ∀ i ∈ patI p, i ∈ own) {σ : St} {H : Hp} {Q : VK} (q : tE K mg W (e_lc own fi p tt te) σ H Q) :
    tLc (tI K mg W fi) (patG K p) (tT K mg W0 tt) (tE K mg W0 te) own σ H Q := by
  obtain ⟨rho, h, s, R, S, po⟩ := q
  refine step R S po fun rho0 h0 H0 items e0 R0 S0 po0 J sv => fun Dl np => ?_
  refine ⟨fun i k H => i + k = items.length ∧ ∃ rho h acc us, Ext K rho0 h0 H0 rho h H ∧ rho.Z Dl ∧ Rel K rho h H ∧ H Dl = some (.lst us) ∧ RelVs' K rho h H acc us ∧
      PostG K mg (fun c d H' => W c d σ H') rho0 h0 H0 (match lcM p tt te (wipeD s own) (items.drop i) acc h with
        | some (ys, h2) => Res.ok (.lv ys) h2
        | none => Res.fail) (pE K Q), ?_, fun i k H q => ?_⟩
  · exact ⟨items.length, by simp, zAdd rho0 Dl, h0, [], [], Ext.zin R0 np, .inr rfl, R0.zin np, upd_same, by simp only [RelVs', RelDs], by simpa using po0⟩
  · obtain ⟨hk, rho1, h1, acc, us, x1, hz, R1, hD, ra, po1⟩ := q
    have nD : ∀ m, live h1 m = true → rho1 m ≠ Dl := fun m hm q => R1.zc m hm (q ▸ hz)
    obtain ⟨s1, s2⟩ := sv rho1 h1 H x1.z R1 i
    cases hi : items[i]? with
    | none =>
      have hl : items.length ≤ i := List.getElem?_eq_none_iff.mp hi
      rw [List.drop_eq_nil_of_le hl] at po1
      refine .inl ⟨s2 hl, po1 (zDel rho1 Dl) H (Ext.zdel R0 x1 np) R1.zdel _ ?_⟩
      simp only [RelV', RelD]
      exact ⟨Dl, us, rfl, ⟨hD, fun z => z.2 rfl, nD⟩, RelDs.zdel _ _ _ ra⟩
    | some d =>
      have hl : i < items.length := (List.getElem?_eq_some_iff.mp hi).1
      have ed : items.drop i = d :: items.drop (i + 1) := by
        rw [List.drop_eq_getElem_cons hl]
        congr 1
        exact (List.getElem?_eq_some_iff.mp hi).2
      rw [ed] at po1
      obtain ⟨go, yl⟩ := s1 d hi
      refine .inr ⟨go, fun H' => ∃ rho h acc us, Ext K rho0 h0 H0 rho h H' ∧ rho.Z Dl ∧ Rel K rho h H' ∧ H' Dl = some (.lst us) ∧ RelVs' K rho h H' acc us ∧
          PostG K mg (fun c d H' => W c d σ H') rho0 h0 H0 (match lcM p tt te (wipeD s own) (items.drop (i + 1)) acc h with
            | some (ys, h2) => Res.ok (.lv ys) h2
            | none => Res.fail) (pE K Q),
        fun H' z => ⟨k - 1, by omega, by omega, z⟩, fun x H2 y => ?_⟩
      obtain ⟨e2, R2, r⟩ := yl x H2 y
      have hD2 := e2.kp _ _ hD nD
      simp only [lcM] at po1
      cases q : patD p d (wipeD s own) with
      | none => simp only [q] at po1; exact po1.elim
      | some s1' =>
        simp only [q] at po1
        have x2 := x1.trans e2
        obtain ⟨σ', S', z, wp⟩ := patG_ok p d x (wipeD s own) s1' (wipe σ own) r (RelS.wipe (x2.s S0) own) q
        refine z _ ⟨by rw [wp own hp, wipe_wipe], rho1, h1, s1', R2, S', ?_⟩
        cases qt : tt s1' h1 with
        | fail => simp only [qt] at po1; exact po1.elim
        | exc _ _ => simp only [qt] at po1; exact po1.elim
        | ok c h2 =>
          simp only [qt] at po1
          intro rho3 H3 e3 R3
          have hz3 : rho3.Z Dl := e3.zi _ hz
          have hD3 := e3.kp _ _ hD2 nD
          cases c with
          | false => exact iteF ⟨rho3, h2, acc, us, x2.trans e3, hz3, R3, hD3, (e2.trans e3).vs ra, po1⟩
          | true =>
            refine iteT ⟨rho3, h2, s1', R3, e3.s S', ?_⟩
            cases qe : te s1' h2 with
            | fail => simp only [qe] at po1; exact po1.elim
            | exc _ _ => simp only [qe] at po1; exact po1.elim
            | ok yv h3 =>
              simp only [qe] at po1
              intro rho4 H4 e4 R4 v rv
              have nD3 : ∀ m, live h2 m = true → rho3 m ≠ Dl := fun m hm q => R3.zc m hm (q ▸ hz3)
              have hD4 := e4.kp _ _ hD3 nD3
              have hz4 : rho4.Z Dl := e4.zi _ hz3
              have ra4 := (e2.trans (e3.trans e4)).vs ra
              by_cases hlen : acc.length < sizeLine
              · simp only [hlen, if_true] at po1
                refine ⟨us, hD4, by rw [← RelDs.length ra]; exact hlen, rho4, h3, acc ++ [yv], us ++ [v], (x2.trans (e3.trans e4)).over np, hz4, R4.grow hD4 hz4, upd_same, ?_, po1⟩
                refine RelDs.append (RelDs.grow hD4 hz4 _ _ _ ra4) ?_
                simp only [RelDs]
                exact ⟨v, [], rfl, RelD.grow hD4 hz4 _ _ _ rv, rfl⟩
              · simp only [hlen, if_false] at po1; exact po1.elim
section
variable {X : Cx} {W : WX} {elt tg iter : Expr} {ifs : List Expr} {scope : Scope} {own : List (Str × Nat)} {pos : Pos} {fi : AF} {p : Pat} {tt : TF} {te : EF}
theorem rts_nil : PTs X [] (tT (kx X) X.mg W t_yes) := ⟨fun pins s σ H Q I q => pts_nil.run pins s σ H Q I (by
  obtain ⟨rho, h, s, R, S, po⟩ := q
  exact PostG.ok po R)⟩
theorem rts_one {c : Expr} (h : ST X W c tt) : PTs X [c] (tT (kx X) X.mg W tt) := pts_one h
/-- what a comprehension's block asks of its parts -/
structure Blk (X : Cx) (scope : Scope) (tg : Expr) (ifs : List Expr) (elt : Expr) (p : Pat) (tt : TF) (te : EF) : Prop where
  hg : ∀ (s : Shared) (H : Hp) (C : Addr) (cl : List (Str × Addr)) (fp : List Addr), SG (X.blk s H scope (compEnvC scope cl C X.env) fp) tg p
  ht : ∀ (s : Shared) (H : Hp) (C : Addr) (cl : List (Str × Addr)) (fp : List Addr), PTs (X.blk s H scope (compEnvC scope cl C X.env) fp) ifs (tT (kx X) X.mg W0 tt)
  he : ∀ (s : Shared) (H : Hp) (C : Addr) (cl : List (Str × Addr)) (fp : List Addr), SE (X.blk s H scope (compEnvC scope cl C X.env) fp) W0 elt te
theorem r_lc {oi : List Nat} (hN : X.N.Nodup) (hc : X.calm = true) (hi : SI X W tg iter fi) (ok : BlkOk X.N X.env.scope scope own) (b : Blk X scope tg ifs elt p tt te) (hp : ∀ i ∈ patI p, i ∈ oi) (ho : own.map (·.2) = oi := by rfl) (hs : ∀ x, foldedSetIterable iter X.env x = pure x := by intro _; rfl) :
    SE X W (.ListComp elt [⟨tg, iter, ifs, 0⟩] scope pos) (e_lc oi fi p tt te) := PE.imp (pe_lc hc hN hi ok b.hg b.ht b.he hs) fun _ _ _ h => by subst ho; exact tE.lc hp h
theorem r_setLc {oi : List Nat} {i : Nat} {y : Str} {py spos : Pos} (hN : X.N.Nodup) (hc : X.calm = true) (hi : SI X W tg iter fi) (ok : BlkOk X.N X.env.scope scope own) (b : Blk X scope tg ifs elt p tt te) (hp : ∀ i ∈ patI p, i ∈ oi)
    (hsw : swapsWith (.ListComp elt [⟨tg, iter, ifs, 0⟩] scope pos) (some (.Name y py)) spos.line X.env = pure true) (ho : own.map (·.2) = oi := by rfl) (hy : X.N[i]? = some y := by rfl) (hyl : X.env.scope.names.lookup y = some .local := by rfl) (hs : ∀ x, foldedSetIterable iter X.env x = pure x := by intro _; rfl) :
    SS X W (.Assign [.Name y py] (.ListComp elt [⟨tg, iter, ifs, 0⟩] scope pos) spos) (s_set i (e_lc oi fi p tt te)) := PS.imp (ps_setLc hc hN hy hyl hsw hi ok b.hg b.ht b.he hs) fun E σ H h => by
  subst ho
  obtain ⟨rho, h, s, R, S, po⟩ := h
  exact tE.lc (W := W) hp (stepS R S po fun rho1 h1 H1 x e1 R1 S1 po1 v r => PostG.ok po1 R1 _ (S1.set r i))
end
end Mini
namespace Mini
open PySem PySem.Spec PyProof.Rows L2

abbrev MF := List D → Hd → Res D
mutual
def noRef : D → Bool
  | .tup xs => noRefs xs
  | .lv xs => noRefs xs
  | .fl xs => noRefs xs
  | .exc _ _ xs => noRefs xs
  | .obj _ _ xs => noRefs xs
  | .fd ks vs => noRefs ks && noRefs vs
  | .ref _ => false
  | _ => true
def noRefs : List D → Bool
  | [] => true
  | d :: ds => noRef d && noRefs ds
end
theorem noRefs_iff : ∀ ds : List D, noRefs ds = true ↔ ∀ d ∈ ds, noRef d = true
  | [] => by simp [noRefs]
  | d :: ds => by simp [noRefs, noRefs_iff ds]
section
variable {K : Kx} {rho : Rh} {h h' : Hd} {H : Hp}
theorem RelD.noref (hl : ∀ m, live h' m = true → live h m = true) (d : D) : ∀ (v : V) (B B' : Nat), noRef d = true → RelD K rho h B H d v → RelD K rho h' B' H d v := by
  refine D.rec (motive_1 := fun d => ∀ (v : V) (B B' : Nat), noRef d = true → RelD K rho h B H d v → RelD K rho h' B' H d v)
    (motive_2 := fun ds => ∀ (vs : List V) (B B' : Nat), noRefs ds = true → RelDs K rho h B H ds vs → RelDs K rho h' B' H ds vs) ?_ ?_ ?_ ?_ ?_ ?_ ?_ ?_ ?_ ?_ ?_ ?_ ?_ d
  · intro v B B' n e; simp only [RelD] at e ⊢; exact e
  · intro b v B B' n e; simp only [RelD] at e ⊢; exact e
  · intro b v B B' n e; simp only [RelD] at e ⊢; exact e
  · intro b v B B' n e; simp only [RelD] at e ⊢; exact e
  · intro xs ih v B B' n e
    simp only [RelD] at e ⊢
    obtain ⟨a, ws, e1, e2, e3⟩ := e
    exact ⟨a, ws, e1, e2, ih ws B B' (by simpa [noRef] using n) e3⟩
  · intro xs ih v B B' n e
    simp only [RelD] at e ⊢
    obtain ⟨a, ws, e1, e2, e3⟩ := e
    refine ⟨a, ws, e1, ?_, ih ws B B' (by simpa [noRef] using n) e3⟩
    obtain ⟨e2, z, k⟩ := e2
    exact ⟨e2, z, fun m hm => k m (hl m hm)⟩
  · intro xs ih v B B' n e
    simp only [RelD] at e ⊢
    obtain ⟨a, ws, e1, e2, e3⟩ := e
    exact ⟨a, ws, e1, e2, ih ws B B' (by simpa [noRef] using n) e3⟩
  · intro n v B B' q e; simp [noRef] at q
  · intro c ns xs ih v B B' n e
    simp only [RelD] at e ⊢
    obtain ⟨a, C, o, d, e1, e2, e3, e4⟩ := e
    exact ⟨a, C, o, d, e1, e2, e3, e4.imp id fun ⟨dd, od, us, q1, q2, q3, q4⟩ => ⟨dd, od, us, q1, q2, q3, ih _ B B' (by simpa [noRef] using n) q4⟩⟩
  · intro ks vs ih ih2 v B B' n e
    simp only [RelD] at e ⊢
    obtain ⟨a, o, us, ws, e1, e2, e3, e4, e5⟩ := e
    simp only [noRef, Bool.and_eq_true] at n
    exact ⟨a, o, us, ws, e1, e2, e3, ih _ B B' n.1 e4, ih2 _ B B' n.2 e5⟩
  · intro c ns xs ih v B B' n e
    simp only [RelD] at e ⊢
    obtain ⟨a, C, dx, o, us, e1, e2, e3, e4, e5⟩ := e
    exact ⟨a, C, dx, o, us, e1, e2, e3, e4, ih _ B B' (by simpa [noRef] using n) e5⟩
  · intro vs B B' n e; simp only [RelDs] at e ⊢; exact e
  · intro d ds i1 i2 vs B B' n e
    simp only [noRefs, Bool.and_eq_true] at n
    simp only [RelDs] at e ⊢
    obtain ⟨v, r, e1, e2, e3⟩ := e
    exact ⟨v, r, e1, i1 v B B' n.1 e2, i2 r B B' n.2 e3⟩
theorem RelDs.noref (hl : ∀ m, live h' m = true → live h m = true) : ∀ (ds : List D) (vs : List V) (B B' : Nat), noRefs ds = true → RelDs K rho h B H ds vs → RelDs K rho h' B' H ds vs
  | [], vs, B, B', n, e => by simp only [RelDs] at e ⊢; exact e
  | d :: ds, vs, B, B', n, e => by
    simp only [noRefs, Bool.and_eq_true] at n
    simp only [RelDs] at e ⊢
    obtain ⟨v, r, e1, e2, e3⟩ := e
    exact ⟨v, r, e1, RelD.noref hl d v B B' n.1 e2, RelDs.noref hl ds r B B' n.2 e3⟩
/-- fewer live cells: all values stay -/
theorem RelD.less (hl : ∀ m, live h' m = true → live h m = true) (d : D) : ∀ (v : V) (B : Nat), RelD K rho h B H d v → RelD K rho h' B H d v := by
  refine D.rec (motive_1 := fun d => ∀ (v : V) (B : Nat), RelD K rho h B H d v → RelD K rho h' B H d v)
    (motive_2 := fun ds => ∀ (vs : List V) (B : Nat), RelDs K rho h B H ds vs → RelDs K rho h' B H ds vs) ?_ ?_ ?_ ?_ ?_ ?_ ?_ ?_ ?_ ?_ ?_ ?_ ?_ d
  · intro v B e; simp only [RelD] at e ⊢; exact e
  · intro b v B e; simp only [RelD] at e ⊢; exact e
  · intro b v B e; simp only [RelD] at e ⊢; exact e
  · intro b v B e; simp only [RelD] at e ⊢; exact e
  · intro xs ih v B e
    simp only [RelD] at e ⊢
    obtain ⟨a, ws, e1, e2, e3⟩ := e
    exact ⟨a, ws, e1, e2, ih ws B e3⟩
  · intro xs ih v B e
    simp only [RelD] at e ⊢
    obtain ⟨a, ws, e1, e2, e3⟩ := e
    refine ⟨a, ws, e1, ?_, ih ws B e3⟩
    obtain ⟨e2, z, k⟩ := e2
    exact ⟨e2, z, fun m hm => k m (hl m hm)⟩
  · intro xs ih v B e
    simp only [RelD] at e ⊢
    obtain ⟨a, ws, e1, e2, e3⟩ := e
    exact ⟨a, ws, e1, e2, ih ws B e3⟩
  · intro n v B e; simp only [RelD] at e ⊢; exact e
  · intro c ns xs ih v B e
    simp only [RelD] at e ⊢
    obtain ⟨a, C, o, d, e1, e2, e3, e4⟩ := e
    exact ⟨a, C, o, d, e1, e2, e3, e4.imp id fun ⟨dd, od, us, q1, q2, q3, q4⟩ => ⟨dd, od, us, q1, q2, q3, ih _ B q4⟩⟩
  · intro ks vs ih ih2 v B e
    simp only [RelD] at e ⊢
    obtain ⟨a, o, us, ws, e1, e2, e3, e4, e5⟩ := e
    exact ⟨a, o, us, ws, e1, e2, e3, ih _ B e4, ih2 _ B e5⟩
  · intro c ns xs ih v B e
    simp only [RelD] at e ⊢
    obtain ⟨a, C, dx, o, us, e1, e2, e3, e4, e5⟩ := e
    exact ⟨a, C, dx, o, us, e1, e2, e3, e4, ih _ B e5⟩
  · intro vs B e; simp only [RelDs] at e ⊢; exact e
  · intro d ds i1 i2 vs B e
    simp only [RelDs] at e ⊢
    obtain ⟨v, r, e1, e2, e3⟩ := e
    exact ⟨v, r, e1, i1 v B e2, i2 r B e3⟩
theorem RelDs.less (hl : ∀ m, live h' m = true → live h m = true) : ∀ (ds : List D) (vs : List V) (B : Nat), RelDs K rho h B H ds vs → RelDs K rho h' B H ds vs
  | [], vs, B, e => by simp only [RelDs] at e ⊢; exact e
  | d :: ds, vs, B, e => by
    simp only [RelDs] at e ⊢
    obtain ⟨v, r, e1, e2, e3⟩ := e
    exact ⟨v, r, e1, RelD.less hl d v B e2, RelDs.less hl ds r B e3⟩
theorem live_take {n m : Nat} (e : live (h.take n) m = true) : live h m = true ∧ m < n := by
  have hl := live_lt e
  have hn : m < n := by rw [List.length_take] at hl; omega
  unfold live at e ⊢
  rw [List.getElem?_take_of_lt hn] at e
  exact ⟨e, hn⟩
theorem Rel.take (R : Rel K rho h H) (n : Nat) : Rel K rho (h.take n) H := by
  refine ⟨fun m k hm hk e => R.inj m k (live_take hm).1 (live_take hk).1 e, fun m o e => ?_, R.zd, fun m hm => R.zc m (live_take hm).1⟩
  have hl := (List.getElem?_eq_some_iff.mp e).1
  have hn : m < n := by rw [List.length_take] at hl; omega
  rw [List.getElem?_take_of_lt hn] at e
  have c := R.cell m o e
  cases o with
  | dead => trivial
  | dct ks vs =>
    obtain ⟨g, us, ws, a, b, b'⟩ := c
    exact ⟨g, us, ws, a, RelDs.less (fun m hm => (live_take hm).1) _ _ _ b, RelDs.less (fun m hm => (live_take hm).1) _ _ _ b'⟩
  | lst xs =>
    obtain ⟨us, a, b⟩ := c
    exact ⟨us, a, RelDs.less (fun m hm => (live_take hm).1) _ _ _ b⟩
theorem Ext.take {rho' : Rh} {H' : Hp} (x : Ext K rho h H rho' h' H') : Ext K rho h H rho' (h'.take h.length) H' :=
  { x with
    le := by rw [List.length_take, Nat.min_eq_left x.le]; exact Nat.le_refl _
    lv := fun m hm e => x.lv m hm (live_take e).1
    fr := fun m hm e => absurd (live_take e).2 (Nat.not_lt.mpr hm) }
end
/-- what a def hands out: its own cells are dropped; one of them that is handed out becomes a value -/
def sealD (n : Nat) (d : D) (h : Hd) : Option D := match d with
  | .ref k => if k < n then some (.ref k) else match h[k]? with
    | some (.lst xs) => if noRefs xs then some (.lv xs) else none
    | _ => none
  | d => if noRef d then some d else none
theorem sealD_ok {K : Kx} {rho : Rh} {h : Hd} {H : Hp} {n : Nat} {d d' : D} {v : V} (R : Rel K rho h H) (hn : n ≤ h.length) (r : RelV' K rho h H d v) (e : sealD n d h = some d') : RelV' K rho (h.take n) H d' v := by
  have len : (h.take n).length = n := by rw [List.length_take, Nat.min_eq_left hn]
  have other : noRef d = true → d' = d → RelV' K rho (h.take n) H d' v := fun q1 q2 => by rw [q2]; exact RelD.noref (fun m hm => (live_take hm).1) d v _ _ q1 r
  cases d with
  | ref k =>
    simp only [sealD] at e
    by_cases hk : k < n
    · simp only [hk, if_true, Option.some.injEq] at e
      subst e
      simp only [RelV', RelD] at r ⊢
      exact ⟨by rw [len]; exact hk, r.2⟩
    · simp only [hk, if_false] at e
      cases q : h[k]? with
      | none => rw [q] at e; cases e
      | some o =>
        cases o with
        | dead => rw [q] at e; cases e
        | dct _ _ => rw [q] at e; cases e
        | lst xs =>
          rw [q] at e
          simp only at e
          by_cases hx : noRefs xs = true
          · simp only [hx, if_true, Option.some.injEq] at e
            subst e
            obtain ⟨us, a, b⟩ := R.cellL q
            have lk : live h k = true := by unfold live; rw [q]
            simp only [RelV', RelD] at r ⊢
            refine ⟨rho k, us, r.2, ⟨a, R.zc k lk, fun m hm z => ?_⟩, RelDs.noref (fun m hm => (live_take hm).1) _ _ _ _ hx b⟩
            have := R.inj m k (live_take hm).1 lk z
            exact hk (this ▸ (live_take hm).2)
          · simp only [hx] at e; cases e
  | _ =>
    all_goals
      simp only [sealD] at e
      split at e
      · rename_i q; cases e; exact other q rfl
      · cases e
def sealX (x : Ex) : Bool := noRefs (x.fs.map (·.2))
/-- the body's run: a def of np parameters and n names -/
def runB (np n : Nat) (b : SF) : MF := fun ds h => if ds.length = np then (match b (ds.map some ++ List.replicate (n - ds.length) none) h with
  | .ok (.nx _) h' => .ok .non h'
  | .ok (.rt d) h' => .ok d h'
  | .ok (.ex x _) h' => .exc x h'
  | _ => .fail) else .fail
def sealR (n : Nat) : Res D → Res D
  | .ok d h => match sealD n d h with
    | some d' => .ok d' (h.take n)
    | none => .fail
  | .exc x h => if sealX x then .exc x (h.take n) else .fail
  | .fail => .fail
def fnM (np n : Nat) (b : SF) : MF := fun ds h => sealR h.length (runB np n b ds h)
def spM (K : Kx) (mg : Str → Option Value) (m : MF) : Sp := fun vs H Q E => ∃ rho h ds, Rel K rho h H ∧ RelVs' K rho h H ds vs ∧ PostG K mg E rho h H (m ds h) (pE K Q)
theorem RelS.start {K : Kx} {rho : Rh} {h : Hd} {H : Hp} {N : List Str} {ds : List D} {vs : List V} (r : RelVs' K rho h H ds vs) : RelS K rho h H (ds.map some ++ List.replicate (N.length - ds.length) none) (L2.start N vs) := by
  have hl := RelDs.length r
  refine ⟨by unfold L2.start; simp [hl], fun i d e => ?_⟩
  unfold L2.start
  by_cases hi : i < ds.length
  · rw [List.getElem?_append_left (by simpa using hi)] at e
    rw [List.getElem?_map] at e
    cases q : ds[i]? with
    | none => rw [q] at e; simp at e
    | some d' =>
      rw [q] at e
      simp at e
      subst e
      obtain ⟨v, a, b⟩ := RelDs.get r q
      exact ⟨v, by rw [List.getElem?_append_left (by simp; omega), List.getElem?_map, a]; rfl, b⟩
  · rw [List.getElem?_append_right (by simpa using hi)] at e
    have := List.mem_of_getElem? e
    simp [List.mem_replicate] at this
section
variable {P : Program} {w : World} {K : PySem.W.Frag} {mg : Str → Option Value} {base : Heap}
/-- a def's mirror, kept by the def -/
theorem fn_zero {k : Nat} {f : Addr} {fd : FuncData} {ps : List Str} : FnOk P w K mg base (L2.CX P w) k f fd ps (spM ⟨K, w⟩ mg fun _ _ => .fail) where
  len := fun vs H Q E h => by obtain ⟨_, _, _, _, _, h⟩ := h; exact h.elim
  run := fun A outer s H args us vs Q E _ _ _ _ h => by obtain ⟨_, _, _, _, _, h⟩ := h; exact h.elim
theorem spM.len {np n : Nat} {b : SF} {vs : List V} {H : Hp} {Q : VK} {E : XK} (h : spM ⟨K, w⟩ mg (fnM np n b) vs H Q E) : vs.length = np := by
  obtain ⟨rho, h, ds, R, r, po⟩ := h
  by_cases q : ds.length = np
  · rw [← RelDs.length r]; exact q
  · unfold fnM runB at po; simp only [q, if_false] at po; exact po.elim
theorem fn_ok {x qual : Str} {st : Stmt} {f : Addr} {fd : FuncData} {N ps : List Str} {k : Nat} {b : SF} (F : Fun K x qual st f fd) (S : FnScope N ps (defScope st))
    (hb : ∀ (cdv : Value) (A : Around) (outer : List Env) (s : Shared) (H : Hp) (E : XK), Room k (A.deeper (envOfC qual (defScope st) s.heap.objs.size f cdv)) →
      SSs (cxOf (L2.CX P w) P w K mg base N qual (defScope st) f cdv A outer s H E) (fun cls d _ H => E cls d H) (defBody st) b) : FnOk P w K mg base (L2.CX P w) (k + 1) f fd ps (spM ⟨K, w⟩ mg (fnM ps.length N.length b)) := by
  refine fun_okX F S (fun vs H Q E h => spM.len h) fun cdv A outer s H vs Q E hr h => ⟨_, hb cdv A outer s H E hr, ?_⟩
  obtain ⟨rho, h, ds, R, r, po⟩ := h
  refine ⟨rho, h, ds.map some ++ List.replicate (N.length - ds.length) none, R, RelS.start r, ?_⟩
  unfold fnM runB at po
  by_cases q : ds.length = ps.length
  · simp only [q, if_true] at po
    rw [← q] at po
    cases qb : b (ds.map some ++ List.replicate (N.length - ds.length) none) h with
    | fail => rw [qb] at po; exact po
    | exc x h' => rw [qb] at po; exact po.elim
    | ok fl h' =>
      rw [qb] at po
      cases fl with
      | nx s1 => exact fun rho' H' e R' σ' S' => po rho' H' e.take (R'.take _) _ relNon
      | rt d =>
        intro rho' H' e R' v r'
        simp only [sealR] at po
        cases qs : sealD h.length d h' with
        | none => rw [qs] at po; exact po.elim
        | some d' => rw [qs] at po; exact po rho' H' e.take (R'.take _) v (sealD_ok R' e.le r' qs)
      | bk s1 => exact po.elim
      | ct s1 => exact po.elim
      | ex x s1 =>
        intro rho' H' e R' σ' cls dd S' rx
        simp only [sealR] at po
        by_cases qx : sealX x = true
        · simp only [qx, if_true] at po
          refine po rho' H' cls dd e.take (R'.take _) ?_
          obtain ⟨C, a1, a2, a3⟩ := rx
          refine ⟨C, a1, a2, ?_⟩
          rcases a3 with a3 | ⟨d, od, us, b1, b2, b3, b4⟩
          · exact .inl a3
          · exact .inr ⟨d, od, us, b1, b2, b3, RelDs.noref (fun m hm => (live_take hm).1) _ _ _ _ qx b4⟩
        · simp only [qx] at po; exact po.elim
  · simp only [q, if_false] at po; exact po.elim
/-- a def as its callers see it -/
structure Df (P : Program) (w : World) (K : PySem.W.Frag) (mg : Str → Option Value) (base : Heap) (k : Nat) (x : Str) (ps : List Str) (f : Addr) (fd : FuncData) (m : MF) : Prop where
  ok : FnOk P w K mg base (L2.CX P w) k f fd ps (spM ⟨K, w⟩ mg m)
  gl : mg x = some (.ref f)
  kp : PySem.W.keepIn K (.ref f) = true
  bd : Binds K fd ps []
end
/-- the arguments given by name put in the parameters' order -/
def permL {α : Type} (np nk : Nat) (perm : List Nat) (us ws : List α) : List α := if us.length = np ∧ ws.length = nk then perm.filterMap fun i => (us ++ ws)[i]? else []
def e_own (m : MF) (a : AF) : EF := fun s h => (a s h).bind fun xs h1 => m xs h1
theorem RelDs.perm {K : Kx} {rho : Rh} {h : Hd} {H : Hp} {B : Nat} {ds es : List D} {us ws : List V} (r1 : RelDs K rho h B H ds us) (r2 : RelDs K rho h B H es ws) (np nk : Nat) (perm : List Nat) : RelDs K rho h B H (permL np nk perm ds es) (permL np nk perm us ws) := by
  unfold permL
  rw [RelDs.length r1, RelDs.length r2]
  split
  · have r := RelDs.append r1 r2
    have hl := RelDs.length r
    induction perm with
    | nil => simp [RelDs]
    | cons i perm ih =>
      rw [List.filterMap_cons, List.filterMap_cons]
      cases q : (ds ++ es)[i]? with
      | none =>
        have : (us ++ ws)[i]? = none := by
          rw [List.getElem?_eq_none_iff] at q ⊢
          omega
        rw [this]; exact ih
      | some d =>
        obtain ⟨v, a, b⟩ := RelDs.get r q
        rw [a]
        simp only [RelDs]
        exact ⟨v, _, rfl, b, ih⟩
  · simp [RelDs]
section
variable {X : Cx} {W : WX} {k j : Nat} {f : Addr} {fd : FuncData} {x : Str} {ps ks : List Str} {m : MF} {p pos : Pos} {e : Expr} {es : List Expr} {kws : List Keyword} {fa fk : AF}
theorem r_own (F : Df X.prog X.w X.K X.mg X.base k x ps f fd m) (hr : Room j X.A) (tk : Takes X W) (ha : SA X W (e :: es) fa) (hj : k ≤ j := by first | decide | omega) (hg : Gl X x := by rfl) (hdb : (x == ("__debug__" : Str)) = false := by decide)
    (he : starEach (e :: es) X.env = (false, eval e X.env) :: starEach es X.env := by rfl) (hpl : (backTo pos (starEach es X.env)).any (·.1) = false := by rfl) : SE X W (.Call (.Name x p) (e :: es) [] pos) (e_own m fa) :=
  PE.imp (pe_callS F.ok (hr.mono hj) hg F.gl F.kp F.bd (E := WE W) (fun σ => passAt tk σ) ha hdb he hpl) fun σ H Q h => by
    obtain ⟨rho, h, s, R, S, po⟩ := h
    exact step R S po fun rho1 h1 H1 ds e1 R1 S1 po1 vs r => ⟨rho1, h1, ds, R1, r, po1⟩
theorem r_own0 (F : Df X.prog X.w X.K X.mg X.base k x ps f fd m) (hr : Room j X.A) (tk : Takes X W) (hj : k ≤ j := by first | decide | omega) (hg : Gl X x := by rfl) (hdb : (x == ("__debug__" : Str)) = false := by decide) : SE X W (.Call (.Name x p) [] [] pos) (e_own m a_nil) :=
  ⟨fun pins s σ H Q I h => by
    refine wpAny_Call_Name_kw (ld_glob I hg F.gl ?_ hdb)
    refine PySem.W.callWith_K0 I.kIn F.kp (run_fnS (us := []) (vs := []) (E := WE W) F.ok (hr.mono hj) F.bd (passAt tk σ) I .nil ?_)
    obtain ⟨rho, h, s, R, S, po⟩ := h
    exact ⟨rho, h, [], R, by simp only [RelVs', RelDs], po⟩⟩
end
end Mini
namespace PySem
open AutoSeq1 (wpAny_loadPart')
theorem meets_enumerate_newT (l : Addr) (items : Array Value) (n : Nat) (dct : Option Addr) (sl : Array (Option Value)) :
    Meets (Builtin.«enumerate.__new__» ⟨[.type "enumerate", .ref l], []⟩) (fun _ R s => s.heap.get? l = some { cls := .type "tuple", dict := dct, data := .seq items n, slots := sl } ∧
      R (.ok (.ret (.ref (s.heap.push { cls := .type "tuple_iterator", data := .fields #[.ref l, .int 0 0] }).objs.size)))
        { s with heap := (s.heap.push { cls := .type "tuple_iterator", data := .fields #[.ref l, .int 0 0] }).push { cls := .type "enumerate", data := .fields #[.none, .bool false, .ref s.heap.objs.size, rawInt 0, .none, .none] } }) :=
  .of_wp fun prog w A R s h => by
    obtain ⟨hp, g, d, tk, os⟩ := s; obtain ⟨hl, h⟩ := h
    have hsub := sub_enumerate
    have hL : Heap.IsTuple (Shared.heap ⟨hp, g, d, tk, os⟩) l items := ⟨_, hl, rfl, n, rfl⟩
    wp_walk using wpAny_loadPart' hl
    refine wpAny_stack_any fun st => wpAny_pure ?_
    split
    · rename_i c _ _ _ _ _
      cases (c == Value.type "enumerate")
      · wp_walk using wpAny_loadPart' hl, wpAny_pyIter_tuple hL
        exact ⟨_, rfl, h⟩
      · wp_walk using wpAny_loadPart' hl, wpAny_pyIter_tuple hL
        exact ⟨_, rfl, h⟩
    · wp_walk using wpAny_loadPart' hl, wpAny_pyIter_tuple hL
      exact ⟨_, rfl, h⟩
theorem call_enumerate_tup {prog : Program} {w : World} {A : Around} {E : Value → Shared → Prop} {s : Shared} {l : Addr} {items : Array Value} {Q : Value → Shared → Prop} (hL : s.heap.IsTuple l items)
    (h : ∀ h', IsEnum h' (s.heap.objs.size + 1) s.heap.objs.size 0 .none → h'.IsTupleIter s.heap.objs.size l 0 → h'.objs.size = s.heap.objs.size + 2 →
      (∀ b o, s.heap.get? b = some o → h'.get? b = some o) → Q (.ref (s.heap.objs.size + 1)) { s with heap := h' }) :
    wpAny (model prog w) A (call (.type "enumerate") [.ref l]) Q E s := by
  obtain ⟨⟨c, dct, dt, sl⟩, hl, hc, n, hd⟩ := hL
  replace hc : c = .type "tuple" := hc
  replace hd : dt = .seq items n := hd
  subst hc hd
  refine callType_new F.called_enumerate (by decide) (F.typeCall_enumerate_1 _) (F.newCall_enumerate_1 _) (fun obj => F.args_object_init_2 obj _) F.entry_enumerate_new
    (meets_enumerate_newT l items n dct sl) ⟨hl, ?_⟩
  have hz : (s.heap.push { cls := .type "tuple_iterator", data := .fields #[.ref l, .int 0 0] }).objs.size = s.heap.objs.size + 1 := Heap.size_push ..
  show _ ∧ _
  rw [hz]
  have he : IsEnum ((s.heap.push { cls := .type "tuple_iterator", data := .fields #[.ref l, .int 0 0] }).push
      { cls := .type "enumerate", data := .fields #[.none, .bool false, .ref s.heap.objs.size, rawInt 0, .none, .none] }) (s.heap.objs.size + 1) s.heap.objs.size 0 .none := by
    have := Heap.get?_push_size (s.heap.push { cls := .type "tuple_iterator", data := .fields #[.ref l, .int 0 0] })
      (o := { cls := .type "enumerate", data := .fields #[.none, .bool false, .ref s.heap.objs.size, rawInt 0, .none, .none] }) rfl
    rw [hz] at this; exact this
  refine ⟨⟨_, he, rfl⟩, h _ he ⟨_, Heap.get?_push_of_some _ (Heap.get?_push_size _ rfl), rfl, rfl⟩ (by rw [Heap.size_push, hz]) fun b o x => Heap.get?_push_of_some _ (Heap.get?_push_of_some _ x)⟩
end PySem
namespace Mini
open PySem PySem.Spec PyProof.Rows L2
/-- the tuple at a, each item in a new pair -/
def IteT (K : PySem.W.Frag) (a : Addr) : It :=
  ⟨fun i H => ∃ (xs : List V) (x : V), SqT K H a xs ∧ xs[i]? = some x, fun i H v H' => ∃ T x, v = .ref T ∧ H T = none ∧ H' = upd H T (.tup [.int (i : Nat), x]) ∧ ∀ xs, SqT K H a xs → xs[i]? = some x, fun i H => ∃ xs : List V, SqT K H a xs ∧ xs.length ≤ i⟩
theorem turn_enumT {P : Program} {w : World} {K : PySem.W.Frag} {elts : List Expr} {kk : Nat} {tpos : Pos} (a e it : Addr) (hai : a ≠ it) (hae : a ≠ e) :
    Turn P w K (.Tuple elts kk tpos) (IteT K a) [e, it] e (fun i h => (∃ old, IsEnum h e it ((i : Nat) : Int) old) ∧ h.IsTupleIter it a i ∧ e ≠ it) where
  mem := by simp
  obj := fun i h st b hb => by
    obtain ⟨⟨old, he⟩, ⟨o, ho, hc, hd⟩, _⟩ := st
    have e' : b = e ∨ b = it := by simpa using hb
    rcases e' with z | z
    · rw [z]; exact ⟨_, he, fun v q => nomatch q⟩
    · rw [z]; exact ⟨o, ho, fun v q => by rw [hd] at q; cases q⟩
  keep := fun i h h' st k => let ⟨⟨old, he⟩, hi, hne⟩ := st; ⟨⟨old, k e (by simp) _ he⟩, hi.at fun o q => k it (by simp) o q, hne⟩
  item := by
    intro X hP hw hK hc i pins s σ H E I hf st hg
    subst hP hw hK
    obtain ⟨⟨old, he⟩, hit, hne⟩ := st
    obtain ⟨xs, x, hq, hx⟩ := hg
    obtain ⟨its, rv, p, hz⟩ := I.tuple hq
    obtain ⟨u, hu, ru⟩ := rv.get hx
    have hel : e < s.heap.objs.size := Heap.lt_size he
    have hil : it < s.heap.objs.size := by obtain ⟨_, q, _⟩ := hit; exact Heap.lt_size q
    have hlt : i < its.toArray.size := by have := (List.getElem?_eq_some_iff.mp hu).1; simpa using this
    have hef : e ∉ [it, a] := by
      intro z
      rcases List.mem_cons.mp z with z | z
      · exact hne z
      · exact hae ((List.mem_singleton.mp z).symm)
    refine wpAny_pyNext_enum_itemC (Draws.tuple (A := X.A.in1) (by rw [show X.A.in1.handled = X.A.handled from rfl]; exact I.ok.hd hc) it a hai its.toArray) he ⟨hit, p⟩ hlt hne hef fun x' h' tk hP ho hst' hT hsz hk => ?_
    have ex : x' = u := by
      have : its.toArray[i]? = some x' := hP
      have e2 : its.toArray[i]? = some u := by simpa using hu
      rw [e2] at this; exact (Option.some.inj this).symm
    subst ex
    obtain ⟨hit', _⟩ := hst'
    refine ⟨_, rfl, wpAny_letOwnedTupleGo_enum (s := { s with heap := h', toks := tk + 1 }) ho fun h'' he' sb => ?_⟩
    have hT2 : h''.get? s.heap.objs.size = some { cls := .type "tuple", data := .seq #[.int i tk, x'] } := (sb.2 _ (Nat.ne_of_gt hel)).trans hT
    have new : ObjOk X.prog X.w (upd H s.heap.objs.size (.tup [.int (i : Nat), x])) h'' s.heap.objs.size (.tup [.int (i : Nat), x]) :=
      ⟨by show 2 ≤ sizeLine; decide, [.int i tk, x'], .cons ⟨_, rfl⟩ (.cons ru .nil), ⟨_, hT2, rfl, _, rfl⟩⟩
    have I1 : Inv X pins σ (upd H s.heap.objs.size (.tup [.int (i : Nat), x])) { s with heap := h'', toks := tk + 1 } :=
      I.turnedNew (ch := [e, it]) (fun b ob hb q => (sb.2 b (fun z => hb (by simp [z]))).trans (hk b ob (fun z => hb (by simp [z])) (fun z => hb (by simp [z])) q)) hf (Nat.le_refl _) new
    refine ⟨.ref s.heap.objs.size, _, I1, rfl, ⟨_, x, rfl, I.hok.fresh (Nat.le_refl _), rfl, fun ys hy => by rw [I.tuple_inj hy hq]; exact hx⟩, ⟨⟨x', ?_⟩, hit'.at fun o q => (sb.2 it (Ne.symm hne)).trans q, hne⟩, fun b hb => ?_⟩
    · have e1 : ((i + 1 : Nat) : Int) = (i : Int) + 1 := by omega
      rw [e1]; exact he'
    · have hb' : b < s.heap.objs.size := by
        have e' : b = e ∨ b = it := by simpa using hb
        rcases e' with z | z
        · rw [z]; exact hel
        · rw [z]; exact hil
      rw [upd_ne (Nat.ne_of_lt hb')]
      exact (hf b hb).1
  done := by
    intro X hP hw hK hc i pins s σ H E I hf st hg
    subst hP hw hK
    obtain ⟨⟨old, he⟩, hit, hne⟩ := st
    obtain ⟨xs, hq, hx⟩ := hg
    obtain ⟨its, rv, p, hz⟩ := I.tuple hq
    obtain ⟨f0, f1, f2, f3, f4, f5⟩ := hf it (by simp)
    have hl := rv.length
    have D : Draws X.prog X.w X.A.in1 it [it, a] i (fun j v => its.toArray[j]? = some v) (fun j h => j = i ∧ h.IsTupleIter it a j ∧ h.IsTuple a its.toArray) := by
      refine ⟨fun _ _ st => let ⟨o, ho, _⟩ := st.2.1; ⟨o, ho⟩, fun _ _ _ st hk => ⟨st.1, st.2.1.at fun o e => hk it (by simp) o e, st.2.2.at fun o e => hk a (by simp) o e⟩, fun j s Q E hj st hQ => ?_, fun s Q E st hE => ?_⟩
      · exact absurd hj (by rw [st.1]; exact Nat.lt_irrefl _)
      · exact wpAny_nextOf_tuple_end (by rw [show X.A.in1.handled = X.A.handled from rfl]; exact I.ok.hd hc) st.2.1 st.2.2 (by simp; omega) hE
    exact wpAny_pyNext_enum_endD D he ⟨rfl, hit, p⟩ fun h' eb => ⟨rfl, I.turned (t' := s.toks) (fun b o hb q => eb b o hb q) f0 f1 f3 f4 f5⟩
  self := fun A i s Q E st h => let ⟨⟨_, he⟩, _⟩ := st; wpAny_pyIter_enum he h
def iEnumT (K : PySem.W.Frag) (ta : TA) : TI := fun σ H R => ta σ H fun vs H1 => ∃ a xs, vs = [.ref a] ∧ SqT K H1 a xs ∧ R (IteT K a) H1
theorem pi_enumT {X : Cx} {e : Expr} {ta : TA} {p pos tpos : Pos} {elts : List Expr} {kk : Nat} (hg : Gl X "enumerate") (hm : X.mg "enumerate" = none) (ha : PA X [e] ta) (hs : starEach [e] X.env = [(false, eval e X.env)] := by rfl) :
    PI X (.Tuple elts kk tpos) (.Call (.Name "enumerate" p) [e] [] pos) (iEnumT X.K ta) := by
  refine ⟨fun pins s σ H R I h => ?_⟩
  refine Call_ (ld_blt I hg hm boot_enumerate (PyProof.Rows.callWith_type1 (thn (ha.run pos pins s σ H _ I h) fun us s1 ⟨vs, H1, I1, r1, q1⟩ => ?_) hs rfl))
  obtain ⟨a, xs, ex, hq, q⟩ := q1
  subst ex
  cases r1 with
  | cons r rr =>
    cases rr
    cases r
    obtain ⟨its, rv, p', hz⟩ := I1.tuple hq
    obtain ⟨oa, hoa, _⟩ := id p'
    have la : a < s1.heap.objs.size := Heap.lt_size hoa
    refine call_enumerate_tup (show s1.heap.IsTuple a its.toArray from p') fun h' he hit hsz hk => wpAny_pyIter_enum he ?_
    have I2 : Inv X pins σ H1 { s1 with heap := h' } := I1.kept (t' := s1.toks) hk
    refine ⟨s1.heap.objs.size + 1, [s1.heap.objs.size + 1, s1.heap.objs.size], _, _, H1, rfl, I2, turn_enumT a (s1.heap.objs.size + 1) s1.heap.objs.size (Nat.ne_of_lt la) (Nat.ne_of_lt (Nat.lt_succ_of_lt la)), ⟨⟨.none, he⟩, hit, Nat.succ_ne_self _⟩, fun b hb => ?_, q⟩
    have e' : b = s1.heap.objs.size + 1 ∨ b = s1.heap.objs.size := by simpa using hb
    have hle : s1.heap.objs.size ≤ b := by
      rcases e' with z | z
      · rw [z]; exact Nat.le_add_right _ _
      · rw [z]; exact Nat.le_refl _
    exact I1.fpOk hle (I1.hok.fresh hle)

def enumL (i : Nat) : List D → List D
  | [] => []
  | d :: ds => .tup [.int (i : Nat), d] :: enumL (i + 1) ds
theorem enumL_length : ∀ (ds : List D) (i : Nat), (enumL i ds).length = ds.length
  | [], _ => rfl
  | d :: ds, i => by simp [enumL, enumL_length ds]
theorem enumL_get : ∀ (ds : List D) (k i : Nat) (d : D), (enumL k ds)[i]? = some d → ∃ x, ds[i]? = some x ∧ d = .tup [.int ((k + i : Nat) : Int), x]
  | [], k, i, d, e => by simp [enumL] at e
  | x :: ds, k, 0, d, e => by simp [enumL] at e; exact ⟨x, rfl, by rw [← e]; simp⟩
  | x :: ds, k, i + 1, d, e => by
    simp only [enumL, List.getElem?_cons_succ] at e
    obtain ⟨y, a, b⟩ := enumL_get ds (k + 1) i d e
    refine ⟨y, by simpa using a, ?_⟩
    rw [b]
    have : k + 1 + i = k + (i + 1) := by omega
    rw [this]
def zipL : List D → List D → List D
  | x :: xs, y :: ys => .tup [x, y] :: zipL xs ys
  | _, _ => []
theorem zipL_length : ∀ (xs ys : List D), (zipL xs ys).length = min xs.length ys.length
  | [], _ => by simp [zipL]
  | _ :: _, [] => by simp [zipL]
  | x :: xs, y :: ys => by simp [zipL, zipL_length xs ys]
theorem zipL_get : ∀ (xs ys : List D) (i : Nat) (d : D), (zipL xs ys)[i]? = some d → ∃ x y, xs[i]? = some x ∧ ys[i]? = some y ∧ d = .tup [x, y]
  | [], _, i, d, e => by simp [zipL] at e
  | _ :: _, [], i, d, e => by simp [zipL] at e
  | x :: xs, y :: ys, 0, d, e => by simp [zipL] at e; exact ⟨x, y, rfl, rfl, e.symm⟩
  | x :: xs, y :: ys, i + 1, d, e => by
    simp only [zipL, List.getElem?_cons_succ] at e
    obtain ⟨a, b, c, d, e⟩ := zipL_get xs ys i d e
    exact ⟨a, b, by simpa using c, by simpa using d, e⟩
section
variable {K : Kx} {rho : Rh} {h : Hd} {H : Hp}
/-- a new pair -/
theorem pair_new (R : Rel K rho h H) {T : Addr} (nT : H T = none) {d1 d2 : D} {v1 v2 : V} (r1 : RelV' K rho h H d1 v1) (r2 : RelV' K rho h H d2 v2) :
    Ext K rho h H rho h (L2.upd H T (.tup [v1, v2])) ∧ Rel K rho h (L2.upd H T (.tup [v1, v2])) ∧ RelV' K rho h (L2.upd H T (.tup [v1, v2])) (.tup [d1, d2]) (.ref T) :=
  ⟨Ext.upd R nT _, R.upd nT _, R.newT nT (by simp only [RelVs', RelDs]; exact ⟨v1, _, rfl, r1, v2, [], rfl, r2, rfl⟩)⟩
/-- what a list or a tuple holds, whatever goes on -/
def Holds (K : Kx) (rho : Rh) (h : Hd) (H : Hp) (a : Addr) (l : Bool) (xs : List D) : Prop :=
  ∀ (rho' : Rh) (h' : Hd) (H' : Hp), ExtZ K rho h H rho' h' H' → Rel K rho' h' H' → ∃ us, (if l then SqL K H' a us else SqT K H' a us) ∧ RelVs' K rho' h' H' xs us
def asV (d : D) : Option (Bool × List D) := match d with
  | .lv xs => some (true, xs)
  | .fl xs => some (true, xs)
  | .tup xs => some (false, xs)
  | _ => none
theorem asV_ok {d : D} {v : V} {l : Bool} {xs : List D} (r : RelV' K rho h H d v) (e : asV d = some (l, xs)) : ∃ a, v = .ref a ∧ Holds K rho h H a l xs := by
  cases d with
  | lv ys =>
    simp only [asV, Option.some.injEq, Prod.mk.injEq] at e
    obtain ⟨e1, e2⟩ := e
    subst e1 e2
    obtain ⟨a, us, e1, _⟩ : ∃ a us, v = .ref a ∧ True := by simp only [RelV', RelD] at r; obtain ⟨a, us, e, _⟩ := r; exact ⟨a, us, e, trivial⟩
    subst e1
    refine ⟨a, rfl, fun rho' h' H' x R => ?_⟩
    obtain ⟨a', us, q1, q2, q3⟩ := asL_ok R (x.v r) (xs := ys) rfl
    cases q1
    exact ⟨us, by simpa using q2, q3⟩
  | fl ys =>
    simp only [asV, Option.some.injEq, Prod.mk.injEq] at e
    obtain ⟨e1, e2⟩ := e
    subst e1 e2
    obtain ⟨a, us, e1, _⟩ : ∃ a us, v = .ref a ∧ True := by simp only [RelV', RelD] at r; obtain ⟨a, us, e, _⟩ := r; exact ⟨a, us, e, trivial⟩
    subst e1
    refine ⟨a, rfl, fun rho' h' H' x R => ?_⟩
    obtain ⟨a', us, q1, q2, q3⟩ := asL_ok R (x.v r) (xs := ys) rfl
    cases q1
    exact ⟨us, by simpa using q2, q3⟩
  | tup ys =>
    simp only [asV, Option.some.injEq, Prod.mk.injEq] at e
    obtain ⟨e1, e2⟩ := e
    subst e1 e2
    obtain ⟨a, us, e1, _, _⟩ := r.tup
    subst e1
    refine ⟨a, rfl, fun rho' h' H' x R => ?_⟩
    obtain ⟨a', us, q1, q2, q3⟩ := (x.v r).tup
    cases q1
    exact ⟨us, by simpa using q2, q3⟩
  | _ => simp [asV] at e
theorem serves_enumL {a : Addr} {xs : List D} (q : Holds K rho h H a true xs) : Serves K (Ite K a) (enumL 0 xs) rho h H := by
  intro rho' h' H' x R i
  obtain ⟨us, q1, q2⟩ := q rho' h' H' x R
  simp only [if_true] at q1
  refine ⟨fun d hd => ?_, fun hl => ⟨us, q1, by rw [enumL_length] at hl; rw [← RelDs.length q2]; exact hl⟩⟩
  obtain ⟨y, e1, e2⟩ := enumL_get xs 0 i d hd
  obtain ⟨v, e3, e4⟩ := RelDs.get q2 e1
  refine ⟨⟨us, v, q1, e3⟩, fun w H2 ⟨T, z, w1, w2, w3, w4⟩ => ?_⟩
  have := w4 us q1
  rw [e3] at this
  cases this
  subst w1 w3 e2
  have := pair_new R w2 (relInt (i : Nat)) e4
  simpa using this
theorem serves_enumT {a : Addr} {xs : List D} (q : Holds K rho h H a false xs) : Serves K (IteT K a) (enumL 0 xs) rho h H := by
  intro rho' h' H' x R i
  obtain ⟨us, q1, q2⟩ := q rho' h' H' x R
  simp only [Bool.false_eq_true, if_false] at q1
  refine ⟨fun d hd => ?_, fun hl => ⟨us, q1, by rw [enumL_length] at hl; rw [← RelDs.length q2]; exact hl⟩⟩
  obtain ⟨y, e1, e2⟩ := enumL_get xs 0 i d hd
  obtain ⟨v, e3, e4⟩ := RelDs.get q2 e1
  refine ⟨⟨us, v, q1, e3⟩, fun w H2 ⟨T, z, w1, w2, w3, w4⟩ => ?_⟩
  have := w4 us q1
  rw [e3] at this
  cases this
  subst w1 w3 e2
  have := pair_new R w2 (relInt (i : Nat)) e4
  simpa using this
theorem serves_zipL {a b : Addr} {xs ys : List D} (p : Holds K rho h H a true xs) (q : Holds K rho h H b true ys) : Serves K (Itz K a b) (zipL xs ys) rho h H := by
  intro rho' h' H' x R i
  obtain ⟨us, p1, p2⟩ := p rho' h' H' x R
  obtain ⟨ws, q1, q2⟩ := q rho' h' H' x R
  simp only [if_true] at p1 q1
  refine ⟨fun d hd => ?_, fun hl => ⟨us, ws, p1, q1, by rw [zipL_length] at hl; rw [← RelDs.length q2, ← RelDs.length p2]; omega⟩⟩
  obtain ⟨y, z, e1, e2, e3⟩ := zipL_get xs ys i d hd
  obtain ⟨v, v1, v2⟩ := RelDs.get p2 e1
  obtain ⟨w, w1, w2⟩ := RelDs.get q2 e2
  refine ⟨⟨us, ws, v, w, p1, q1, v1, w1⟩, fun t H2 ⟨T, t1, t2, t3, t4, t5, t6, t7⟩ => ?_⟩
  have z1 := t6 us p1
  have z2 := t7 ws q1
  rw [v1] at z1
  rw [w1] at z2
  cases z1
  cases z2
  subst t3 t5 e3
  exact pair_new R t4 v2 w2
theorem serves_zipT {a b : Addr} {xs ys : List D} (p : Holds K rho h H a false xs) (q : Holds K rho h H b false ys) : Serves K (RZ.ItzT K a b) (zipL xs ys) rho h H := by
  intro rho' h' H' x R i
  obtain ⟨us, p1, p2⟩ := p rho' h' H' x R
  obtain ⟨ws, q1, q2⟩ := q rho' h' H' x R
  simp only [Bool.false_eq_true, if_false] at p1 q1
  refine ⟨fun d hd => ?_, fun hl => ⟨us, ws, p1, q1, by rw [zipL_length] at hl; rw [← RelDs.length q2, ← RelDs.length p2]; omega⟩⟩
  obtain ⟨y, z, e1, e2, e3⟩ := zipL_get xs ys i d hd
  obtain ⟨v, v1, v2⟩ := RelDs.get p2 e1
  obtain ⟨w, w1, w2⟩ := RelDs.get q2 e2
  refine ⟨⟨us, ws, v, w, p1, q1, v1, w1⟩, fun t H2 ⟨T, t1, t2, t3, t4, t5, t6, t7⟩ => ?_⟩
  have z1 := t6 us p1
  have z2 := t7 ws q1
  rw [v1] at z1
  rw [w1] at z2
  cases z1
  cases z2
  subst t3 t5 e3
  exact pair_new R t4 v2 w2
end
def i_enum (a : AF) : AF := fun s h => (a s h).bind fun ds h1 => match ds with
  | [d] => (match asV d with
    | some (_, xs) => .ok (enumL 0 xs) h1
    | none => .fail)
  | _ => .fail
def i_zip (a : AF) : AF := fun s h => (a s h).bind fun ds h1 => match ds with
  | [d, e] => (match asV d, asV e with
    | some (l, xs), some (m, ys) => if l = m then .ok (zipL xs ys) h1 else .fail
    | _, _ => .fail)
  | _ => .fail
section
variable {X : Cx} {W : WX} {e e2 : Expr} {p pos tpos : Pos} {elts : List Expr} {kk : Nat} {fa : AF}
theorem ri_enum (hm : X.mg "enumerate" = none) (ha : SA X W [e] fa) (hg : Gl X "enumerate" := by rfl) (hs : starEach [e] X.env = [(false, eval e X.env)] := by rfl) :
    SI X W (.Tuple elts kk tpos) (.Call (.Name "enumerate" p) [e] [] pos) (i_enum fa) := by
  refine PI.or (pi_enum hg hm ha hs) (pi_enumT hg hm ha hs) fun σ H Q q => ?_
  obtain ⟨rho, h, s, R, S, po⟩ := q
  unfold i_enum at po
  cases qf : fa s h with
  | fail => rw [qf] at po; exact po.elim
  | exc x h1 => rw [qf] at po; exact .inl ⟨rho, h, s, R, S, by rw [qf]; exact po⟩
  | ok ds h1 =>
    rw [qf] at po
    simp only [Res.bind] at po
    match ds, po, qf with
    | [], po, _ => exact po.elim
    | _ :: _ :: _, po, _ => exact po.elim
    | [d], po, qf =>
      simp only at po
      cases qa : asV d with
      | none => rw [qa] at po; exact po.elim
      | some lx =>
        obtain ⟨l, xs⟩ := lx
        rw [qa] at po
        simp only at po
        cases l with
        | true =>
          refine .inl ⟨rho, h, s, R, S, ?_⟩
          rw [qf]
          intro rho1 H1 e1 R1 vs r
          simp only [RelVs', RelDs] at r
          obtain ⟨v, rr, e2, r1, e3⟩ := r
          subst e3 e2
          obtain ⟨a, e4, hh⟩ := asV_ok r1 qa
          subst e4
          obtain ⟨us, q1, _⟩ := hh rho1 h1 H1 Ext.refl.z R1
          exact ⟨a, us, rfl, by simpa using q1, po rho1 H1 e1 R1 _ (serves_enumL hh)⟩
        | false =>
          refine .inr ⟨rho, h, s, R, S, ?_⟩
          rw [qf]
          intro rho1 H1 e1 R1 vs r
          simp only [RelVs', RelDs] at r
          obtain ⟨v, rr, e2, r1, e3⟩ := r
          subst e3 e2
          obtain ⟨a, e4, hh⟩ := asV_ok r1 qa
          subst e4
          obtain ⟨us, q1, _⟩ := hh rho1 h1 H1 Ext.refl.z R1
          exact ⟨a, us, rfl, by simpa using q1, po rho1 H1 e1 R1 _ (serves_enumT hh)⟩
theorem ri_zip (hm : X.mg "zip" = none) (ha : SA X W [e, e2] fa) (hg : Gl X "zip" := by rfl) (hs : starEach [e, e2] X.env = (false, eval e X.env) :: starEach [e2] X.env := by rfl) (hpl : (backTo pos (starEach [e2] X.env)).any (·.1) = false := by rfl) :
    SI X W (.Tuple elts kk tpos) (.Call (.Name "zip" p) [e, e2] [] pos) (i_zip fa) := PI.imp (RZ.pi_zipA hg hm ha hs hpl) fun σ H Q q => by
  obtain ⟨rho, h, s, R, S, po⟩ := q
  refine step R S po fun rho1 h1 H1 ds e1 R1 S1 po1 vs r => ?_
  match ds, po1, r with
  | [], po, _ => exact po.elim
  | [_], po, _ => exact po.elim
  | _ :: _ :: _ :: _, po, _ => exact po.elim
  | [d, d'], po, r =>
    simp only at po
    cases qa : asV d with
    | none => rw [qa] at po; exact po.elim
    | some lx =>
      obtain ⟨l, xs⟩ := lx
      cases qb : asV d' with
      | none => rw [qa, qb] at po; exact po.elim
      | some my =>
        obtain ⟨m, ys⟩ := my
        rw [qa, qb] at po
        simp only at po
        by_cases hlm : l = m
        · simp only [hlm, if_true] at po
          simp only [RelVs', RelDs] at r
          obtain ⟨v, rr, e2, r1, v2, rr2, e3, r2, e4⟩ := r
          subst e4 e3 e2 hlm
          obtain ⟨a, a1, ah⟩ := asV_ok r1 qa
          obtain ⟨b, b1, bh⟩ := asV_ok r2 qb
          subst a1 b1
          obtain ⟨us, q1, _⟩ := ah rho1 h1 H1 Ext.refl.z R1
          obtain ⟨ws, q2, _⟩ := bh rho1 h1 H1 Ext.refl.z R1
          refine ⟨a, b, us, ws, rfl, ?_⟩
          cases l with
          | true => exact .inl ⟨by simpa using q1, by simpa using q2, PostG.ok po R1 _ (serves_zipL ah bh)⟩
          | false => exact .inr ⟨by simpa using q1, by simpa using q2, PostG.ok po R1 _ (serves_zipT ah bh)⟩
        · simp only [hlm, if_false] at po; exact po.elim
end
end Mini
namespace Mini
open PySem PySem.Spec PyProof.Rows L2

section
variable {K : Kx} {rho : Rh} {h : Hd} {H : Hp}
/-- a list that may be joined or repeated: by value or a cell -/
def lstOf (d : D) (h : Hd) : Option (List D) := match d with
  | .lv xs => some xs
  | .ref n => match h[n]? with
    | some (.lst xs) => some xs
    | _ => none
  | _ => none
theorem lstOf_ok (R : Rel K rho h H) {d : D} {v : V} {xs : List D} (r : RelV' K rho h H d v) (e : lstOf d h = some xs) : ∃ a us, v = .ref a ∧ H a = some (.lst us) ∧ RelVs' K rho h H xs us := by
  cases d with
  | lv ys =>
    simp only [lstOf, Option.some.injEq] at e
    subst e
    simp only [RelV', RelD] at r
    obtain ⟨a, us, e1, e2, e3⟩ := r
    exact ⟨a, us, e1, e2.1, e3⟩
  | ref n =>
    simp only [lstOf] at e
    cases q : h[n]? with
    | none => rw [q] at e; cases e
    | some o =>
      cases o with
      | dead => rw [q] at e; cases e
      | dct _ _ => rw [q] at e; cases e
      | lst ys =>
        rw [q] at e
        cases e
        obtain ⟨us, a, b⟩ := R.cellL q
        simp only [RelV', RelD] at r
        exact ⟨_, us, r.2, a, b⟩
  | _ => simp [lstOf] at e
/-- a cell is written -/
theorem setCell (R : Rel K rho h H) {n : Nat} {xs ys : List D} {us ws : List V} (e : h[n]? = some (.lst xs)) (a : H (rho n) = some (.lst us)) (r : RelDs K rho h n H ys ws) :
    Ext K rho h H rho (h.set n (.lst ys)) (L2.upd H (rho n) (.lst ws)) ∧ Rel K rho (h.set n (.lst ys)) (L2.upd H (rho n) (.lst ws)) := by
  have hn : n < h.length := (List.getElem?_eq_some_iff.mp e).1
  have ln : live h n = true := by unfold live; rw [e]
  have lv : ∀ m, live (h.set n (.lst ys)) m = true → live h m = true := fun m hm => by
    by_cases q : n = m
    · subst q; exact ln
    · unfold live at hm ⊢
      rw [List.getElem?_set_ne q] at hm
      exact hm
  have x : Ext K rho h H rho (h.set n (.lst ys)) (L2.upd H (rho n) (.lst ws)) :=
    { le := by simp
      ag := fun _ _ => rfl
      lv := fun m _ hm => lv m hm
      fr := fun m hm q => absurd (live_lt q) (by simpa using hm)
      kp := fun b o q k => by rw [upd_ne (fun z => k n ln z.symm)]; exact q
      tp := fun b vs q => by rw [upd_ne (ne_of q a (by intro z; cases z))]; exact q
      fz := fun b o u q => by rw [upd_ne (ne_of q a (by intro z; cases z))]; exact q
      dm := fun b q => by
        by_cases z : b = rho n
        · rw [z, upd_same] at q; cases q
        · rw [upd_ne z] at q; exact q
      zi := fun _ q => q
      zo := fun _ q => .inl q }
  refine ⟨x, fun m k hm hk q => R.inj m k (lv m hm) (lv k hk) q, fun m o q => ?_, fun b z => ?_, fun m hm => R.zc m (lv m hm)⟩
  · by_cases z : n = m
    · subst z
      rw [List.getElem?_set_self hn] at q
      cases q
      exact ⟨ws, upd_same, RelDs.mono x (Nat.le_refl _) (Nat.le_of_lt hn) _ _ r⟩
    · rw [List.getElem?_set_ne z] at q
      have c := R.cell m o q
      cases o with
      | dead => trivial
      | dct ks vs =>
        obtain ⟨g, us', vs', b1, b2, b3⟩ := c
        have lm : live h m = true := by unfold live; rw [q]
        have ne : rho m ≠ rho n := fun w => z (R.inj n m ln lm w.symm)
        exact ⟨g, us', vs', by rw [upd_ne ne]; exact b1, RelDs.mono x (Nat.le_refl _) (Nat.le_of_lt (List.getElem?_eq_some_iff.mp q).1) _ _ b2, RelDs.mono x (Nat.le_refl _) (Nat.le_of_lt (List.getElem?_eq_some_iff.mp q).1) _ _ b3⟩
      | lst zs =>
        obtain ⟨vs, b1, b2⟩ := c
        have lm : live h m = true := by unfold live; rw [q]
        have ne : rho m ≠ rho n := fun w => z (R.inj n m ln lm w.symm)
        exact ⟨vs, by rw [upd_ne ne]; exact b1, RelDs.mono x (Nat.le_refl _) (Nat.le_of_lt (List.getElem?_eq_some_iff.mp q).1) _ _ b2⟩
  · by_cases q : b = rho n
    · rw [q, upd_same]; simp
    · rw [upd_ne q]; exact R.zd b z
end

def addP (m : Bool) : P2 := fun x y h => match x, y with
  | .int i, .int j => some (.int (i + j), h)
  | .str i, .str j => if i.length + j.length ≤ sizeLine then some (.str (i ++ j), h) else none
  | .tup xs, .tup ys => if xs.length + ys.length ≤ sizeLine then some (.tup (xs ++ ys), h) else none
  | x, y => match lstOf x h, lstOf y h with
    | some xs, some ys => if xs.length + ys.length ≤ sizeLine then mkL m (xs ++ ys) h else none
    | _, _ => none
def subP : P2 := fun x y h => match x, y with
  | .int i, .int j => some (.int (i - j), h)
  | _, _ => none
def in64 (i : Int) : Bool := decide (-(2 ^ 64) < i) && decide (i < 2 ^ 64)
def in63 (i : Int) : Bool := decide (-(2 ^ 63) ≤ i) && decide (i < 2 ^ 63)
def mulP (m : Bool) : P2 := fun x y h => match x, y with
  | .int i, .int j => if in64 i || in64 j then some (.int (i * j), h) else none
  | x, .int k => match lstOf x h with
    | some xs => if in63 k && decide (xs.length * k.toNat ≤ sizeLine) then mkL m (List.replicate k.toNat xs).flatten h else none
    | none => none
  | _, _ => none
def fdivP : P2 := fun x y h => match x, y with
  | .int i, .int j => if 0 < j ∧ j.natAbs.log2 < 9000 then some (.int (i / j), h) else none
  | _, _ => none
def modP : P2 := fun x y h => match x, y with
  | .int i, .int j => if 0 < j then some (.int (i % j), h) else none
  | _, _ => none
def powP : P2 := fun x y h => match x, y with
  | .int i, .int j => if 0 ≤ j ∧ j ≤ 1000000 ∧ i.natAbs < 2 ^ 64 then some (.int (i ^ j.toNat), h) else none
  | _, _ => none
def negP : P1 := fun x h => match x with
  | .int i => some (.int (-i), h)
  | _ => none
section
variable {X : Cx}
theorem p_add (m : Bool) : OpR X (binaryOp .Add) (rO (kx X) (addP m)) := by
  refine OpR.imp' (op_add.or (op_add_str.or (op_catA.or op_cat))) fun x y H Q q => ?_
  obtain ⟨rho, h, dx, dy, R, rx, ry, po⟩ := q
  have lists : ∀ xs ys, lstOf dx h = some xs → lstOf dy h = some ys → PostP (kx X) rho h H (if xs.length + ys.length ≤ sizeLine then mkL m (xs ++ ys) h else none) Q → rCat x y H Q := fun xs ys ex ey po => by
    obtain ⟨a, us, e1, e2, e3⟩ := lstOf_ok R rx ex
    obtain ⟨b, ws, f1, f2, f3⟩ := lstOf_ok R ry ey
    by_cases hl : xs.length + ys.length ≤ sizeLine
    · simp only [hl, if_true] at po
      exact ⟨a, b, us, ws, e1, f1, e2, f2, by rw [← RelDs.length e3, ← RelDs.length f3]; exact hl, fun p np => post_mkL R (RelDs.append e3 f3) po np⟩
    · simp only [hl, if_false] at po; exact po.elim
  unfold addP at po
  split at po
  · exact .inl ⟨_, _, rx.int, ry.int, PostP.here po R (relInt _)⟩
  · split at po
    · rename_i hl
      exact .inr (.inl ⟨_, _, rx.str, ry.str, hl, PostP.here po R (relStr _)⟩)
    · exact po.elim
  · rename_i xs ys
    split at po
    · rename_i hl
      obtain ⟨a, us, e1, e2, e3⟩ := rx.tup
      obtain ⟨b, ws, f1, f2, f3⟩ := ry.tup
      subst e1 f1
      refine .inr (.inr (.inl ⟨a, b, us, ws, rfl, rfl, e2, f2, by rw [← RelDs.length e3, ← RelDs.length f3]; exact hl, fun z => ?_, fun z1 z2 => ?_, fun z1 z2 p np => post_tup R (RelDs.append e3 f3) po np⟩))
      · have : xs = [] := (RelDs.nil_iff e3).mpr z
        subst this
        exact PostP.here po R (by simpa using ry)
      · have : ys = [] := (RelDs.nil_iff f3).mpr z2
        subst this
        exact PostP.here po R (by simpa using rx)
    · exact po.elim
  · cases ex : lstOf dx h with
    | none => rw [ex] at po; exact po.elim
    | some xs =>
      cases ey : lstOf dy h with
      | none => rw [ex, ey] at po; exact po.elim
      | some ys => rw [ex, ey] at po; exact .inr (.inr (.inr (lists xs ys ex ey po)))
theorem p_sub : OpR X (binaryOp .Sub) (rO (kx X) subP) := OpR.imp' op_sub fun x y H Q q => by
  obtain ⟨rho, h, dx, dy, R, rx, ry, po⟩ := q
  unfold subP at po
  split at po
  · exact ⟨_, _, rx.int, ry.int, PostP.here po R (relInt _)⟩
  · exact po.elim
theorem p_isub : OpR X (inplaceOp .Sub) (rO (kx X) subP) := OpR.imp' iop_sub fun x y H Q q => by
  obtain ⟨rho, h, dx, dy, R, rx, ry, po⟩ := q
  unfold subP at po
  split at po
  · exact ⟨_, _, rx.int, ry.int, PostP.here po R (relInt _)⟩
  · exact po.elim
def iaddP : P2 := fun x y h => match x, y with
  | .int i, .int j => some (.int (i + j), h)
  | _, _ => none
theorem p_iadd : OpR X (inplaceOp .Add) (rO (kx X) iaddP) := OpR.imp' iop_add fun x y H Q q => by
  obtain ⟨rho, h, dx, dy, R, rx, ry, po⟩ := q
  unfold iaddP at po
  split at po
  · exact ⟨_, _, rx.int, ry.int, PostP.here po R (relInt _)⟩
  · exact po.elim
theorem in64_ok {i j : Int} (e : (in64 i || in64 j) = true) : CMul i j := by
  rw [Bool.or_eq_true] at e
  rcases e with e | e <;> (unfold in64 at e; rw [Bool.and_eq_true] at e)
  · exact .inl ⟨of_decide_eq_true e.1, of_decide_eq_true e.2⟩
  · exact .inr ⟨of_decide_eq_true e.1, of_decide_eq_true e.2⟩
theorem p_mul (m : Bool) : OpR X (binaryOp .Mult) (rO (kx X) (mulP m)) := by
  refine OpR.imp' (op_mul.or op_rep) fun x y H Q q => ?_
  obtain ⟨rho, h, dx, dy, R, rx, ry, po⟩ := q
  unfold mulP at po
  split at po
  · split at po
    · rename_i hl
      exact .inl ⟨_, _, rx.int, ry.int, in64_ok hl, PostP.here po R (relInt _)⟩
    · exact po.elim
  · rename_i k hne
    cases ex : lstOf dx h with
    | none => rw [ex] at po; exact po.elim
    | some xs =>
      rw [ex] at po
      simp only at po
      by_cases hl : (in63 k && decide (xs.length * k.toNat ≤ sizeLine)) = true
      · simp only [hl, if_true] at po
        rw [Bool.and_eq_true] at hl
        obtain ⟨h1, h2⟩ := hl
        unfold in63 at h1
        rw [Bool.and_eq_true] at h1
        obtain ⟨a, us, e1, e2, e3⟩ := lstOf_ok R rx ex
        refine .inr ⟨a, k, us, e1, ry.int, e2, of_decide_eq_true h1.1, of_decide_eq_true h1.2, by rw [← RelDs.length e3]; exact of_decide_eq_true h2, fun p np => post_mkL R ?_ po np⟩
        generalize k.toNat = n
        induction n with
        | zero => simp only [List.replicate_zero, List.flatten_nil, RelVs', RelDs]
        | succ n ih => simp only [List.replicate_succ, List.flatten_cons]; exact RelDs.append e3 ih
      · simp only [hl] at po; exact po.elim
  · exact po.elim
def imulP : P2 := fun x y h => match x, y with
  | .int i, .int j => if in64 i || in64 j then some (.int (i * j), h) else none
  | _, _ => none
theorem p_imul : OpR X (inplaceOp .Mult) (rO (kx X) imulP) := OpR.imp' iop_mul fun x y H Q q => by
  obtain ⟨rho, h, dx, dy, R, rx, ry, po⟩ := q
  unfold imulP at po
  split at po
  · split at po
    · rename_i hl
      exact ⟨_, _, rx.int, ry.int, in64_ok hl, PostP.here po R (relInt _)⟩
    · exact po.elim
  · exact po.elim
theorem p_fdiv : OpR X (binaryOp .FloorDiv) (rO (kx X) fdivP) := OpR.imp' op_fdivW fun x y H Q q => by
  obtain ⟨rho, h, dx, dy, R, rx, ry, po⟩ := q
  unfold fdivP at po
  split at po
  · split at po
    · rename_i hl
      exact ⟨_, _, rx.int, ry.int, hl, PostP.here po R (relInt _)⟩
    · exact po.elim
  · exact po.elim
theorem p_mod : OpR X (binaryOp .Mod) (rO (kx X) modP) := OpR.imp' op_mod fun x y H Q q => by
  obtain ⟨rho, h, dx, dy, R, rx, ry, po⟩ := q
  unfold modP at po
  split at po
  · split at po
    · rename_i hl
      exact ⟨_, _, rx.int, ry.int, hl, PostP.here po R (relInt _)⟩
    · exact po.elim
  · exact po.elim
theorem p_pow : OpR X (binaryOp .Pow) (rO (kx X) powP) := OpR.imp' op_pow fun x y H Q q => by
  obtain ⟨rho, h, dx, dy, R, rx, ry, po⟩ := q
  unfold powP at po
  split at po
  · split at po
    · rename_i hl
      exact ⟨_, _, rx.int, ry.int, hl, PostP.here po R (relInt _)⟩
    · exact po.elim
  · exact po.elim
theorem p_neg : UnR X (unaryOp .USub) (rU' (kx X) negP) := fun pins s σ H x v Q I rx q => un_neg pins s σ H x v Q I rx (by
  obtain ⟨rho, h, dx, R, r, po⟩ := q
  unfold negP at po
  split at po
  · exact ⟨_, r.int, PostP.here po R (relInt _)⟩
  · exact po.elim)

def cmpP (p : Int → Int → Bool) : P2 := fun x y h => match x, y with
  | .int i, .int j => some (.bl (p i j), h)
  | _, _ => none
def ltP : P2 := cmpP fun i j => decide (i < j)
def leP : P2 := cmpP fun i j => decide (i ≤ j)
def gtP : P2 := cmpP fun i j => decide (j < i)
def geP : P2 := cmpP fun i j => decide (j ≤ i)
theorem cmp_ok {K : Kx} {p : Int → Int → Bool} {x y : V} {H : Hp} {Q : VK} (q : rO K (cmpP p) x y H Q) : rI0 (fun i j => .bl (p i j)) x y H Q := by
  obtain ⟨rho, h, dx, dy, R, rx, ry, po⟩ := q
  unfold cmpP at po
  split at po
  · exact ⟨_, _, rx.int, ry.int, PostP.here po R (relBl _)⟩
  · exact po.elim
theorem p_lt : OpR X (compareOp .Lt) (rO (kx X) ltP) := OpR.imp' op_lt fun _ _ _ _ q => cmp_ok q
theorem p_le : OpR X (compareOp .LtE) (rO (kx X) leP) := OpR.imp' op_le fun _ _ _ _ q => cmp_ok q
theorem p_gt : OpR X (compareOp .Gt) (rO (kx X) gtP) := OpR.imp' op_gt fun _ _ _ _ q => cmp_ok q
theorem p_ge : OpR X (compareOp .GtE) (rO (kx X) geP) := OpR.imp' op_ge fun _ _ _ _ q => cmp_ok q
def isNP : P2 := fun x y h => match y with
  | .non => (match x with
    | .non => some (.bl true, h)
    | _ => some (.bl false, h))
  | _ => none
def notNP : P2 := fun x y h => match y with
  | .non => (match x with
    | .non => some (.bl false, h)
    | _ => some (.bl true, h))
  | _ => none
theorem RelV'.isNon {K : Kx} {rho : Rh} {h : Hd} {H : Hp} {d : D} {v : V} (r : RelV' K rho h H d v) : v = .non ↔ d = .non := by
  cases d with
  | non => rw [r.non]; simp
  | bl b => rw [r.bl]; simp
  | int b => rw [r.int]; simp
  | str b => rw [r.str]; simp
  | tup xs => obtain ⟨a, us, e, _⟩ := r.tup; rw [e]; simp
  | lv xs => simp only [RelV', RelD] at r; obtain ⟨a, us, e, _⟩ := r; rw [e]; simp
  | fl xs => simp only [RelV', RelD] at r; obtain ⟨a, us, e, _⟩ := r; rw [e]; simp
  | exc _ _ _ => simp only [RelV', RelD] at r; obtain ⟨a, C, o, d, e, _⟩ := r; rw [e]; simp
  | obj _ _ _ => simp only [RelV', RelD] at r; obtain ⟨a, C, dx, o, us, e, _⟩ := r; rw [e]; simp
  | fd _ _ => simp only [RelV', RelD] at r; obtain ⟨a, o, us, ws, e, _⟩ := r; rw [e]; simp
  | ref n => simp only [RelV', RelD] at r; rw [r.2]; simp
theorem p_isN : OpR X (compareOp .Is) (rO (kx X) isNP) := OpR.imp' op_isN fun x y H Q q => by
  obtain ⟨rho, h, dx, dy, R, rx, ry, po⟩ := q
  unfold isNP at po
  split at po
  · refine ⟨ry.non, ?_⟩
    split at po
    · rw [rx.non]; exact PostP.here po R (relBl _)
    · rename_i hn
      rw [decide_eq_false (fun z => hn (rx.isNon.mp z))]; exact PostP.here po R (relBl _)
  · exact po.elim
theorem p_notN : OpR X (compareOp .IsNot) (rO (kx X) notNP) := OpR.imp' op_notN fun x y H Q q => by
  obtain ⟨rho, h, dx, dy, R, rx, ry, po⟩ := q
  unfold notNP at po
  split at po
  · refine ⟨ry.non, ?_⟩
    split at po
    · rw [rx.non]; exact PostP.here po R (relBl _)
    · rename_i hn
      rw [decide_eq_false (fun z => hn (rx.isNon.mp z))]; exact PostP.here po R (relBl _)
  · exact po.elim
end

mutual
def pyD : D → Option PyData
  | .non => some .none
  | .bl b => some (.bool b)
  | .int i => some (.int i)
  | .str x => some (.str x)
  | .tup xs => match pyDs xs with
    | some ds => some (.tuple ds)
    | none => none
  | .lv xs => match pyDs xs with
    | some ds => some (.list ds)
    | none => none
  | .fl xs => match pyDs xs with
    | some ds => some (.list ds)
    | none => none
  | .ref _ => none
  | .fd _ _ => none
  | .exc _ _ _ => none
  | .obj _ _ _ => none
def pyDs : List D → Option (List PyData)
  | [] => some []
  | d :: ds => match pyD d, pyDs ds with
    | some p, some ps => some (p :: ps)
    | _, _ => none
end
section
variable {K : Kx} {rho : Rh} {h : Hd} {H : Hp}
mutual
theorem pyD_ok : ∀ (d : D) (v : V) (B : Nat) (p : PyData), RelD K rho h B H d v → pyD d = some p → Dp K H v p
  | .non, v, B, p, r, e => by simp only [RelD] at r; simp only [pyD, Option.some.injEq] at e; subst r e; exact .non
  | .bl b, v, B, p, r, e => by simp only [RelD] at r; simp only [pyD, Option.some.injEq] at e; subst r e; exact .bl b
  | .int b, v, B, p, r, e => by simp only [RelD] at r; simp only [pyD, Option.some.injEq] at e; subst r e; exact .int b
  | .str b, v, B, p, r, e => by simp only [RelD] at r; simp only [pyD, Option.some.injEq] at e; subst r e; exact .str b
  | .tup xs, v, B, p, r, e => by
    simp only [RelD] at r
    obtain ⟨a, us, e1, e2, e3⟩ := r
    simp only [pyD] at e
    cases q : pyDs xs with
    | none => rw [q] at e; cases e
    | some ds => rw [q] at e; cases e; subst e1; exact .tup e2 (pyDs_ok xs us B ds e3 q)
  | .lv xs, v, B, p, r, e => by
    simp only [RelD] at r
    obtain ⟨a, us, e1, e2, e3⟩ := r
    simp only [pyD] at e
    cases q : pyDs xs with
    | none => rw [q] at e; cases e
    | some ds => rw [q] at e; cases e; subst e1; exact .lst (.inl (.inl e2.1)) (pyDs_ok xs us B ds e3 q)
  | .fl xs, v, B, p, r, e => by
    simp only [RelD] at r
    obtain ⟨a, us, e1, e2, e3⟩ := r
    simp only [pyD] at e
    cases q : pyDs xs with
    | none => rw [q] at e; cases e
    | some ds =>
      rw [q] at e; cases e; subst e1
      refine .lst ?_ (pyDs_ok xs us B ds e3 q)
      rcases e2 with e2 | e2
      · exact .inl (.inr e2)
      · exact .inr e2
  | .ref n, v, B, p, r, e => by simp [pyD] at e
  | .exc _ _ _, v, B, p, r, e => by simp [pyD] at e
  | .obj _ _ _, v, B, p, r, e => by simp [pyD] at e
  | .fd _ _, v, B, p, r, e => by simp [pyD] at e
theorem pyDs_ok : ∀ (ds : List D) (vs : List V) (B : Nat) (ps : List PyData), RelDs K rho h B H ds vs → pyDs ds = some ps → DpAll K H vs ps
  | [], vs, B, ps, r, e => by simp only [RelDs] at r; simp only [pyDs, Option.some.injEq] at e; subst r e; exact .nil
  | d :: ds, vs, B, ps, r, e => by
    simp only [RelDs] at r
    obtain ⟨v, rr, e1, e2, e3⟩ := r
    simp only [pyDs] at e
    cases q1 : pyD d with
    | none => rw [q1] at e; simp at e
    | some p =>
      cases q2 : pyDs ds with
      | none => rw [q1, q2] at e; simp at e
      | some ps' => rw [q1, q2] at e; cases e; subst e1; exact .cons (pyD_ok d v B p e2 q1) (pyDs_ok ds rr B ps' e3 q2)
end
/-- data as it stands: a cell is read -/
def pyR (d : D) (h : Hd) : Option PyData := match d with
  | .ref n => match h[n]? with
    | some (.lst xs) => (pyDs xs).map .list
    | _ => none
  | d => pyD d
theorem pyR_ok (R : Rel K rho h H) {d : D} {v : V} {p : PyData} (r : RelV' K rho h H d v) (e : pyR d h = some p) : Dp K H v p := by
  have other : pyD d = some p → Dp K H v p := fun q => pyD_ok d v _ p r q
  cases d with
  | ref n =>
    simp only [pyR] at e
    cases q : h[n]? with
    | none => rw [q] at e; cases e
    | some o =>
      cases o with
      | dead => rw [q] at e; cases e
      | dct _ _ => rw [q] at e; cases e
      | lst xs =>
        rw [q] at e
        simp only at e
        cases q2 : pyDs xs with
        | none => rw [q2] at e; cases e
        | some ds =>
          rw [q2] at e
          cases e
          obtain ⟨us, a, b⟩ := R.cellL q
          simp only [RelV', RelD] at r
          rw [r.2]
          exact .lst (.inl (.inl a)) (pyDs_ok xs us _ ds b q2)
  | _ => exact other e
end
def eqP (neg : Bool) : P2 := fun x y h => match pyR x h, pyR y h with
  | some a, some b => if SeqAt.shaped a && SeqAt.shaped b then some (.bl (if neg then !PyData.eqv a b else PyData.eqv a b), h) else none
  | _, _ => none
section
variable {X : Cx}
theorem p_eq (hu : X.A.units + 64 < cLine) : OpR X (compareOp .Eq) (rO (kx X) (eqP false)) := OpR.imp' (op_eqD hu) fun x y H Q q => by
  obtain ⟨rho, h, dx, dy, R, rx, ry, po⟩ := q
  unfold eqP at po
  split at po
  · rename_i a b qa qb
    by_cases hs : (SeqAt.shaped a && SeqAt.shaped b) = true
    · simp only [hs, if_true] at po
      rw [Bool.and_eq_true] at hs
      exact ⟨a, b, pyR_ok R rx qa, pyR_ok R ry qb, hs.1, hs.2, PostP.here po R (relBl _)⟩
    · simp only [hs] at po; exact po.elim
  · exact po.elim
theorem p_ne (hu : X.A.units + 64 < cLine) : OpR X (compareOp .NotEq) (rO (kx X) (eqP true)) := OpR.imp' (op_neD hu) fun x y H Q q => by
  obtain ⟨rho, h, dx, dy, R, rx, ry, po⟩ := q
  unfold eqP at po
  split at po
  · rename_i a b qa qb
    by_cases hs : (SeqAt.shaped a && SeqAt.shaped b) = true
    · simp only [hs, if_true] at po
      rw [Bool.and_eq_true] at hs
      exact ⟨a, b, pyR_ok R rx qa, pyR_ok R ry qb, hs.1, hs.2, PostP.here po R (relBl _)⟩
    · simp only [hs] at po; exact po.elim
  · exact po.elim
end

def lenP : PL := fun ds h => match ds with
  | [.str z] => if z.length ≤ sizeLine then some (.int z.length, h) else none
  | [d] => match asS d h with
    | some xs => some (.int xs.length, h)
    | none => none
  | _ => none
def absP : PL := fun ds h => match ds with
  | [.int i] => some (.int (if i < 0 then -i else i), h)
  | _ => none
def intP : PL := fun ds h => match ds with
  | [.int i] => some (.int i, h)
  | [.bl k] => some (.int (if k then 1 else 0), h)
  | _ => none
def min2P : PL := fun ds h => match ds with
  | [.int i, .int j] => some (.int (if j < i then j else i), h)
  | _ => none
def max2P : PL := fun ds h => match ds with
  | [.int i, .int j] => some (.int (if j > i then j else i), h)
  | _ => none
def listP (m : Bool) : PL := fun ds h => match ds with
  | [d] => match asS d h with
    | some xs => mkL m xs h
    | none => none
  | _ => none
def tupleP : PL := fun ds h => match ds with
  | [.tup xs] => some (.tup xs, h)
  | [d] => match asL d h with
    | some xs => some (.tup xs, h)
    | none => none
  | _ => none
def intsOf : List D → Option (List Int)
  | [] => some []
  | .int i :: ds => (intsOf ds).map (i :: ·)
  | _ :: _ => none
def blsOf : List D → Option (List Bool)
  | [] => some []
  | .bl i :: ds => (blsOf ds).map (i :: ·)
  | _ :: _ => none
def sumP : PL := fun ds h => match ds with
  | [d] => match (asL d h).bind intsOf with
    | some ns => some (.int ns.sum, h)
    | none => none
  | _ => none
def allP : PL := fun ds h => match ds with
  | [d] => match (asL d h).bind blsOf with
    | some ns => some (.bl (ns.all id), h)
    | none => none
  | _ => none
def anyP : PL := fun ds h => match ds with
  | [d] => match (asL d h).bind blsOf with
    | some ns => some (.bl (ns.any id), h)
    | none => none
  | _ => none
section
variable {K : Kx} {rho : Rh} {h : Hd} {H : Hp}
theorem rel1 {d : D} {xs : List V} (r : RelVs' K rho h H [d] xs) : ∃ v, xs = [v] ∧ RelV' K rho h H d v := by
  simp only [RelVs', RelDs] at r
  obtain ⟨v, rr, e1, r1, e2⟩ := r
  subst e2
  exact ⟨v, e1, r1⟩
theorem rel2 {d e : D} {xs : List V} (r : RelVs' K rho h H [d, e] xs) : ∃ v w, xs = [v, w] ∧ RelV' K rho h H d v ∧ RelV' K rho h H e w := by
  simp only [RelVs', RelDs] at r
  obtain ⟨v, rr, e1, r1, w, rr2, e2, r2, e3⟩ := r
  subst e3 e2
  exact ⟨v, w, e1, r1, r2⟩
theorem intsOf_ok : ∀ {ds : List D} {us : List V} {ns : List Int} {B : Nat}, RelDs K rho h B H ds us → intsOf ds = some ns → us = ns.map V.int
  | [], us, ns, B, r, e => by simp only [RelDs] at r; simp only [intsOf, Option.some.injEq] at e; subst r e; rfl
  | .int i :: ds, us, ns, B, r, e => by
    simp only [RelDs, RelD] at r
    obtain ⟨v, rr, e1, e2, e3⟩ := r
    simp only [intsOf] at e
    cases q : intsOf ds with
    | none => rw [q] at e; cases e
    | some ms => rw [q] at e; cases e; rw [e1, e2, intsOf_ok e3 q]; rfl
  | .non :: ds, us, ns, B, r, e => by simp [intsOf] at e
  | .bl _ :: ds, us, ns, B, r, e => by simp [intsOf] at e
  | .str _ :: ds, us, ns, B, r, e => by simp [intsOf] at e
  | .tup _ :: ds, us, ns, B, r, e => by simp [intsOf] at e
  | .lv _ :: ds, us, ns, B, r, e => by simp [intsOf] at e
  | .fl _ :: ds, us, ns, B, r, e => by simp [intsOf] at e
  | .ref _ :: ds, us, ns, B, r, e => by simp [intsOf] at e
  | .exc _ _ _ :: ds, us, ns, B, r, e => by simp [intsOf] at e
  | .obj _ _ _ :: ds, us, ns, B, r, e => by simp [intsOf] at e
  | .fd _ _ :: ds, us, ns, B, r, e => by simp [intsOf] at e
theorem blsOf_ok : ∀ {ds : List D} {us : List V} {ns : List Bool} {B : Nat}, RelDs K rho h B H ds us → blsOf ds = some ns → us = ns.map V.bl
  | [], us, ns, B, r, e => by simp only [RelDs] at r; simp only [blsOf, Option.some.injEq] at e; subst r e; rfl
  | .bl i :: ds, us, ns, B, r, e => by
    simp only [RelDs, RelD] at r
    obtain ⟨v, rr, e1, e2, e3⟩ := r
    simp only [blsOf] at e
    cases q : blsOf ds with
    | none => rw [q] at e; cases e
    | some ms => rw [q] at e; cases e; rw [e1, e2, blsOf_ok e3 q]; rfl
  | .non :: ds, us, ns, B, r, e => by simp [blsOf] at e
  | .int _ :: ds, us, ns, B, r, e => by simp [blsOf] at e
  | .str _ :: ds, us, ns, B, r, e => by simp [blsOf] at e
  | .tup _ :: ds, us, ns, B, r, e => by simp [blsOf] at e
  | .lv _ :: ds, us, ns, B, r, e => by simp [blsOf] at e
  | .fl _ :: ds, us, ns, B, r, e => by simp [blsOf] at e
  | .ref _ :: ds, us, ns, B, r, e => by simp [blsOf] at e
  | .exc _ _ _ :: ds, us, ns, B, r, e => by simp [blsOf] at e
  | .obj _ _ _ :: ds, us, ns, B, r, e => by simp [blsOf] at e
  | .fd _ _ :: ds, us, ns, B, r, e => by simp [blsOf] at e
end
section
variable {X : Cx}
theorem c_len : CallR X (.builtin "len") (rC (kx X) lenP) := CallR.imp' (call_len_str.or call_len_seq) fun xs H Q q => by
  obtain ⟨rho, h, ds, R, r, po⟩ := q
  unfold lenP at po
  split at po
  · split at po
    · rename_i hl
      obtain ⟨v, e, r⟩ := rel1 r
      exact .inl ⟨_, by rw [e, r.str], hl, PostP.here po R (relInt _)⟩
    · exact po.elim
  · rename_i d hne
    cases qa : asS d h with
    | none => rw [qa] at po; exact po.elim
    | some ys =>
      rw [qa] at po
      obtain ⟨v, e, r⟩ := rel1 r
      obtain ⟨a, us, e1, e2, e3⟩ := asS_ok R r qa
      subst e1
      exact .inr ⟨a, us, e, e2, by rw [← RelDs.length e3]; exact PostP.here po R (relInt _)⟩
  · exact po.elim
theorem c_abs : CallR X (.builtin "abs") (rC (kx X) absP) := CallR.imp' call_abs fun xs H Q q => by
  obtain ⟨rho, h, ds, R, r, po⟩ := q
  unfold absP at po
  split at po
  · obtain ⟨v, e, r⟩ := rel1 r
    exact ⟨_, by rw [e, r.int], PostP.here po R (relInt _)⟩
  · exact po.elim
theorem c_int : CallR X (.type "int") (rC (kx X) intP) := CallR.imp' call_int1 fun xs H Q q => by
  obtain ⟨rho, h, ds, R, r, po⟩ := q
  unfold intP at po
  split at po
  · obtain ⟨v, e, r⟩ := rel1 r
    exact .inl ⟨_, by rw [e, r.int], PostP.here po R (relInt _)⟩
  · obtain ⟨v, e, r⟩ := rel1 r
    exact .inr ⟨_, by rw [e, r.bl], PostP.here po R (relInt _)⟩
  · exact po.elim
theorem c_min2 (hc : X.calm = true) : CallR X (.builtin "min") (rC (kx X) min2P) := CallR.imp' (call_min2 hc) fun xs H Q q => by
  obtain ⟨rho, h, ds, R, r, po⟩ := q
  unfold min2P at po
  split at po
  · obtain ⟨v, w, e, r1, r2⟩ := rel2 r
    exact ⟨_, _, by rw [e, r1.int, r2.int], PostP.here po R (relInt _)⟩
  · exact po.elim
theorem c_max2 (hc : X.calm = true) : CallR X (.builtin "max") (rC (kx X) max2P) := CallR.imp' (call_max2 hc) fun xs H Q q => by
  obtain ⟨rho, h, ds, R, r, po⟩ := q
  unfold max2P at po
  split at po
  · obtain ⟨v, w, e, r1, r2⟩ := rel2 r
    exact ⟨_, _, by rw [e, r1.int, r2.int], PostP.here po R (relInt _)⟩
  · exact po.elim
theorem c_list (m : Bool) : CallR X (.type "list") (rC (kx X) (listP m)) := CallR.imp' call_list_of fun xs H Q q => by
  obtain ⟨rho, h, ds, R, r, po⟩ := q
  unfold listP at po
  split at po
  · rename_i d
    cases qa : asS d h with
    | none => rw [qa] at po; exact po.elim
    | some ys =>
      rw [qa] at po
      obtain ⟨v, e, r⟩ := rel1 r
      obtain ⟨a, us, e1, e2, e3⟩ := asS_ok R r qa
      subst e1
      exact ⟨a, us, e, e2, fun l nl => post_mkL R e3 po nl⟩
  · exact po.elim
theorem c_tuple : CallR X (.type "tuple") (rC (kx X) tupleP) := CallR.imp' call_tuple_of fun xs H Q q => by
  obtain ⟨rho, h, ds, R, r, po⟩ := q
  unfold tupleP at po
  split at po
  · obtain ⟨v, e, r⟩ := rel1 r
    have r0 := r
    obtain ⟨a, us, e1, e2, e3⟩ := r.tup
    subst e1
    exact ⟨a, us, e, .inr ⟨e2, PostP.here po R r0⟩⟩
  · rename_i d hne
    cases qa : asL d h with
    | none => rw [qa] at po; exact po.elim
    | some ys =>
      rw [qa] at po
      obtain ⟨v, e, r⟩ := rel1 r
      obtain ⟨a, us, e1, e2, e3⟩ := asL_ok R r qa
      subst e1
      exact ⟨a, us, e, .inl ⟨e2, fun l nl => post_tup R e3 po nl⟩⟩
  · exact po.elim
theorem c_sum (hc : X.calm = true) : CallR X (.builtin "sum") (rC (kx X) sumP) := CallR.imp' (cr_sum hc) fun xs H Q q => by
  obtain ⟨rho, h, ds, R, r, po⟩ := q
  unfold sumP at po
  split at po
  · rename_i d
    cases qa : asL d h with
    | none => rw [qa] at po; exact po.elim
    | some ys =>
      rw [qa] at po
      simp only [Option.bind_some] at po
      cases qi : intsOf ys with
      | none => rw [qi] at po; exact po.elim
      | some ns =>
        rw [qi] at po
        obtain ⟨v, e, r⟩ := rel1 r
        obtain ⟨a, us, e1, e2, e3⟩ := asL_ok R r qa
        subst e1
        exact ⟨a, ns, e, by rw [← intsOf_ok e3 qi]; exact e2, PostP.here po R (relInt _)⟩
  · exact po.elim
theorem c_all (hc : X.calm = true) : CallR X (.builtin "all") (rC (kx X) allP) := CallR.imp' (cr_all hc) fun xs H Q q => by
  obtain ⟨rho, h, ds, R, r, po⟩ := q
  unfold allP at po
  split at po
  · rename_i d
    cases qa : asL d h with
    | none => rw [qa] at po; exact po.elim
    | some ys =>
      rw [qa] at po
      simp only [Option.bind_some] at po
      cases qi : blsOf ys with
      | none => rw [qi] at po; exact po.elim
      | some ns =>
        rw [qi] at po
        obtain ⟨v, e, r⟩ := rel1 r
        obtain ⟨a, us, e1, e2, e3⟩ := asL_ok R r qa
        subst e1
        exact ⟨a, ns, e, by rw [← blsOf_ok e3 qi]; exact e2, PostP.here po R (relBl _)⟩
  · exact po.elim
theorem c_any (hc : X.calm = true) : CallR X (.builtin "any") (rC (kx X) anyP) := CallR.imp' (cr_any hc) fun xs H Q q => by
  obtain ⟨rho, h, ds, R, r, po⟩ := q
  unfold anyP at po
  split at po
  · rename_i d
    cases qa : asL d h with
    | none => rw [qa] at po; exact po.elim
    | some ys =>
      rw [qa] at po
      simp only [Option.bind_some] at po
      cases qi : blsOf ys with
      | none => rw [qi] at po; exact po.elim
      | some ns =>
        rw [qi] at po
        obtain ⟨v, e, r⟩ := rel1 r
        obtain ⟨a, us, e1, e2, e3⟩ := asL_ok R r qa
        subst e1
        exact ⟨a, ns, e, by rw [← blsOf_ok e3 qi]; exact e2, PostP.here po R (relBl _)⟩
  · exact po.elim
end

/-- the two ends of a range -/
abbrev RF := Ev → Hd → Res (Int × Int)
section
variable {X : Cx} {W : WX} {a b e : Expr} {fa fb : EF} {p pos : Pos} {f : RF}
theorem PRg.imp {t t' : L2.St → Hp → (Int → Int → Hp → Prop) → Prop} (p : PRg X e t) (i : ∀ σ H Q, t' σ H Q → t σ H Q) : PRg X e t' := fun pins s σ H Q I q => p pins s σ H Q I (i σ H Q q)
end

def ixP : P2 := fun x y h => match y with
  | .int i => (match x with
    | .str z => if z.length ≤ sizeLine then (match atI z.cps.toList i with
      | some c => some (.str ⟨#[c]⟩, h)
      | none => none) else none
    | x => match asS x h with
      | some xs => (match atI xs i with
        | some d => some (d, h)
        | none => none)
      | none => none)
  | _ => none
def cutD (xs : List D) (lo hi : Option Int) : List D := (xs.drop (HT.sIx xs.length 0 lo)).take (HT.sIx xs.length xs.length hi - HT.sIx xs.length 0 lo)
theorem atI_rel {K : Kx} {rho : Rh} {h : Hd} {H : Hp} {ds : List D} {us : List V} {i : Int} {d : D} (r : RelVs' K rho h H ds us) (e : atI ds i = some d) : ∃ v, atI us i = some v ∧ RelV' K rho h H d v := by
  unfold atI at e ⊢
  rw [← RelDs.length r]
  cases q : ixN ds.length i with
  | none => rw [q] at e; cases e
  | some j => rw [q] at e; exact RelDs.get r e
section
variable {X : Cx}
theorem p_ix : IxR X (rO (kx X) ixP) := fun value slice pins s σ H x y v u Q I rx ry q hs => ix_seq value slice pins s σ H x y v u Q I rx ry (by
  obtain ⟨rho, h, dx, dy, R, rx, ry, po⟩ := q
  unfold ixP at po
  split at po
  · rename_i i
    split at po
    · rename_i z
      split at po
      · rename_i hl
        split at po
        · rename_i c hc
          exact .inr (.inr ⟨z, i, c, rx.str, ry.int, hl, hc, PostP.here po R (relStr _)⟩)
        · exact po.elim
      · exact po.elim
    · rename_i hne
      cases qa : asS dx h with
      | none => rw [qa] at po; exact po.elim
      | some xs =>
        rw [qa] at po
        simp only at po
        cases qi : atI xs i with
        | none => rw [qi] at po; exact po.elim
        | some d =>
          rw [qi] at po
          obtain ⟨a, us, e1, e2, e3⟩ := asS_ok R rx qa
          obtain ⟨w, w1, w2⟩ := atI_rel e3 qi
          rcases e2 with e2 | e2
          · exact .inl ⟨a, us, i, w, e1, ry.int, e2, w1, PostP.here po R w2⟩
          · exact .inr (.inl ⟨a, us, i, w, e1, ry.int, e2, w1, PostP.here po R w2⟩)
  · exact po.elim) hs
end
/-- a part of a slice -/
abbrev OF := Ev → Hd → Res (Option Int)
abbrev pO (Q : Option Int → Hp → Prop) : PG' (Option Int) := fun o _ _ H => Q o H
def o_none : OF := fun _ h => .ok none h
def o_some (f : EF) : OF := fun s h => (f s h).bind fun d h1 => match d with
  | .int i => .ok (some i) h1
  | _ => .fail
def slP (m : Bool) (d : D) (lo hi : Option Int) (h : Hd) : PR := match d with
  | .tup xs => some (.tup (cutD xs lo hi), h)
  | d => match asL d h with
    | some xs => mkL m (cutD xs lo hi) h
    | none => none
def e_slice (m : Bool) (f : EF) (lo hi : OF) : EF := fun s h => (f s h).bind fun d h1 => (lo s h1).bind fun l h2 => (hi s h2).bind fun u h3 => lift (slP m d l u h3)
section
variable {X : Cx} {W : WX} {e : Expr} {lo hi : Option Expr} {fe : EF} {fl fh : OF} {p2 pos : Pos}
theorem PO.imp {e : Option Expr} {t t' : TO} (p : PO X e t) (i : ∀ σ H Q, t' σ H Q → t σ H Q) : PO X e t' := ⟨fun pins s σ H Q I q => p.run pins s σ H Q I (i σ H Q q)⟩
theorem ro_none : PO X none (tG (kx X) X.mg W o_none pO) := PO.imp po_none fun σ H Q q => by
  obtain ⟨rho, h, s, R, S, po⟩ := q
  exact PostG.ok po R
theorem ro_some (he : SE X W e fe) : PO X (some e) (tG (kx X) X.mg W (o_some fe) pO) := PO.imp (po_some he) fun σ H Q q => by
  obtain ⟨rho, h, s, R, S, po⟩ := q
  refine step R S po fun rho1 h1 H1 d e1 R1 S1 po1 v r => ?_
  cases d with
  | int i => exact ⟨i, r.int, PostG.ok po1 R1⟩
  | _ => exact po1.elim
theorem sl_D (m : Bool) : SlR X (fun x lo hi H Q => ∃ rho h d, Rel (kx X) rho h H ∧ RelV' (kx X) rho h H d x ∧ PostP (kx X) rho h H (slP m d lo hi h) Q) := by
  have key := (sl_tupA (X := X)).or sl_list
  intro pins s σ H x v vl vu lo hi sl Q I rx hs pl pu q
  refine key pins s σ H x v vl vu lo hi sl Q I rx hs pl pu ?_
  obtain ⟨rho, h, d, R, r, po⟩ := q
  unfold slP at po
  split at po
  · rename_i xs
    have r0 := r
    obtain ⟨a, us, e1, e2, e3⟩ := r.tup
    have hl := RelDs.length e3
    refine .inl ⟨a, us, e1, e2, fun z => ?_, fun z p np => ?_⟩
    · have : cutD xs lo hi = xs := by unfold cutD; rw [hl, z.1, z.2, ← hl]; simp
      rw [this] at po
      rw [← e1]; exact PostP.here po R r0
    · refine post_tup R (us := cutV us lo hi) ?_ po np
      unfold cutD cutV
      rw [hl]
      exact RelDs.take _ (RelDs.drop _ e3)
  · rename_i hne
    cases qa : asL d h with
    | none => rw [qa] at po; exact po.elim
    | some xs =>
      rw [qa] at po
      obtain ⟨a, us, e1, e2, e3⟩ := asL_ok R r qa
      refine .inr ⟨a, us, e1, e2, fun p np => post_mkL R ?_ po np⟩
      unfold cutD cutV
      rw [RelDs.length e3]
      exact RelDs.take _ (RelDs.drop _ e3)
theorem r_slice (m : Bool) (he : SE X W e fe) (hl : PO X lo (tG (kx X) X.mg W fl pO)) (hh : PO X hi (tG (kx X) X.mg W fh pO)) : SE X W (.Subscript e (.Slice lo hi none p2) pos) (e_slice m fe fl fh) := PE.imp (pe_slice (sl_D m) he hl hh) fun σ H Q q => by
  obtain ⟨rho, h, s, R, S, po⟩ := q
  exact step R S po fun rho1 h1 H1 d e1 R1 S1 po1 v r => step R1 S1 po1 fun rho2 h2 H2 l e2 R2 S2 po2 => step R2 S2 po2 fun rho3 h3 H3 u e3 R3 S3 po3 => ⟨rho3, h3, d, R3, (e2.trans e3).v r, PostP.of po3⟩
end

def setP (o i v : D) (h : Hd) : Option Hd := match o, i with
  | .ref n, .int k => match h[n]? with
    | some (.lst xs) => (match ixN xs.length k with
      | some j => if noRef v then some (h.set n (.lst (xs.set j v))) else none
      | none => none)
    | _ => none
  | _, _ => none
theorem RelC.cell {K : Kx} {rho : Rh} {h : Hd} {H : Hp} {n : Nat} {xs : List D} (R : Rel K rho h H) (e : h[n]? = some (.lst xs)) : ∃ us, H (rho n) = some (.lst us) ∧ RelDs K rho h n H xs us := R.cell n _ e
theorem noref_at {K : Kx} {rho : Rh} {h : Hd} {H : Hp} {d : D} {v : V} {B : Nat} (n : noRef d = true) (r : RelV' K rho h H d v) : RelD K rho h B H d v := RelD.noref (fun _ q => q) d v _ _ n r
section
variable {X : Cx}
theorem p_set : PSet X (rS (kx X) setP) := fun pins s σ H o i v ov iv u Q I ro ri rv q => set_list pins s σ H o i v ov iv u Q I ro ri rv (by
  obtain ⟨rho, h, d0, d1, d2, R, r0, r1, r2, h', e, k⟩ := q
  unfold setP at e
  split at e
  · rename_i n kk
    split at e
    · rename_i xs qx
      split at e
      · rename_i j qj
        split at e
        · rename_i nr
          cases e
          obtain ⟨us, a, b⟩ := RelC.cell R qx
          simp only [RelV', RelD] at r0
          obtain ⟨x, R'⟩ := setCell R qx a (RelDs.set (noref_at nr r2) j b)
          exact ⟨rho n, us, kk, j, r0.2, r1.int, a, by rw [← RelDs.length b]; exact qj, k _ _ x R'⟩
        · cases e
      · cases e
    · cases e
  · cases e)
end
def appendP : PM := fun x ds h => match x, ds with
  | .ref n, [d] => (match h[n]? with
    | some (.lst xs) => if noRef d && decide (xs.length < sizeLine) then some (.non, h.set n (.lst (xs ++ [d]))) else none
    | _ => none)
  | _, _ => none
section
variable {X : Cx} {W : WX} {o e : Expr} {es : List Expr} {fo : EF} {fa : AF} {name : Str} {id T : String} {apos cpos : Pos} {g : PM}
theorem MtR.imp' {r r' : V → List V → Hp → VK → Prop} (p : MtR X id r) (i : ∀ x xs H Q, r' x xs H Q → r x xs H Q) : MtR X id r' := fun pins s σ H x xs v us Q I rx rv q => p pins s σ H x xs v us Q I rx rv (i x xs H Q q)
/-- the receiver is a list -/
def lstTy (d : D) (h : Hd) : Bool := (asL d h).isSome
theorem lstTy_ok {K : Kx} {rho : Rh} {h : Hd} {H : Hp} (R : Rel K rho h H) {d : D} {v : V} (r : RelV' K rho h H d v) (e : lstTy d h = true) : tyV K "list" v H := by
  unfold lstTy at e
  cases q : asL d h with
  | none => rw [q] at e; cases e
  | some xs =>
    obtain ⟨a, us, e1, e2, e3⟩ := asL_ok R r q
    subst e1
    exact .inl ⟨rfl, us, e2⟩
def e_lm (g : PM) (o : EF) (a : AF) : EF := fun s h => (o s h).bind fun x h1 => if lstTy x h1 then (a s h1).bind fun xs h2 => lift (g x xs h2) else .fail
theorem r_lm (slot : Slot "list" name id) (hty : typeOf (.builtin id) = pure (.type "method_descriptor")) (hm : MtR X id (rM (kx X) g)) (ho : SE X W o fo) (ha : SA X W (e :: es) fa)
    (hbase : attributeBase o name X.env (eval o X.env) = eval o X.env := by rfl)
    (hfew : ((backTo cpos (starEach (e :: es) X.env)).all (fun x => !x.1) && (backToKw cpos (keywordEach [] X.env)).all (fun x => x.1.isSome)
      && decide ((e :: es).length + ([] : List Keyword).length + (if ([] : List Keyword).isEmpty then 0 else 1) < 30)) = true := by rfl)
    (hline : (apos.endLine == cpos.line) = true := by rfl) (hs : starEach (e :: es) X.env = (false, eval e X.env) :: starEach es X.env := by rfl) (hplain : (backTo cpos (starEach es X.env)).any (·.1) = false := by rfl) :
    SE X W (.Call (.Attribute o name apos) (e :: es) [] cpos) (e_lm g fo fa) := PE.imp (pe_bm PySem.F.plainAttrs_list slot hty hm ho ha hbase hfew hline hs hplain) fun σ H Q q => by
  obtain ⟨rho, h, s, R, S, po⟩ := q
  refine step R S po fun rho1 h1 H1 d e1 R1 S1 po1 v r => ?_
  by_cases hl : lstTy d h1 = true
  · simp only [hl, if_true] at po1
    exact ⟨lstTy_ok R1 r hl, step R1 S1 po1 fun rho2 h2 H2 ds e2 R2 S2 po2 vs rs => ⟨rho2, h2, d, ds, R2, e2.v r, rs, PostP.of po2⟩⟩
  · simp only [hl] at po1; exact po1.elim
theorem m_append : MtR X "list.append" (rM (kx X) appendP) := MtR.imp' mt_append fun x xs H Q q => by
  obtain ⟨rho, h, d, ds, R, r, rs, po⟩ := q
  unfold appendP at po
  split at po
  · rename_i n d'
    split at po
    · rename_i ys qx
      by_cases hl : (noRef d' && decide (ys.length < sizeLine)) = true
      · simp only [hl, if_true] at po
        rw [Bool.and_eq_true] at hl
        obtain ⟨us, a, b⟩ := RelC.cell R qx
        simp only [RelV', RelD] at r
        obtain ⟨v, e, rv⟩ := rel1 rs
        have one : RelDs (kx X) rho h n H [d'] [v] := by simp only [RelDs]; exact ⟨v, [], rfl, noref_at hl.1 rv, rfl⟩
        obtain ⟨x', R'⟩ := setCell R qx a (RelDs.append b one)
        exact ⟨rho n, us, v, r.2, e, a, by rw [← RelDs.length b]; exact of_decide_eq_true hl.2, po rho _ _ x' R' relNon⟩
      · simp only [hl] at po; exact po.elim
    · exact po.elim
  · exact po.elim
end
end Mini
namespace Mini
open PySem PySem.Spec PyProof.Rows L2

def tyS (d : D) : String := match d with
  | .non => "NoneType"
  | .bl _ => "bool"
  | .int _ => "int"
  | .str _ => "str"
  | .tup _ => "tuple"
  | .lv _ => "list"
  | .fl _ => "list"
  | .ref _ => "list"
  | .exc _ _ _ => "list"
  | .obj _ _ _ => "list"
  | .fd _ _ => "list"
def tyOk (d : D) (h : Hd) : Bool := match d with
  | .ref n => (asL (.ref n) h).isSome
  | .exc _ _ _ => false
  | .obj _ _ _ => false
  | .fd _ _ => false
  | _ => true
def isTy (T : String) (t : String) : Bool := t == T || (T == "int" && t == "bool")
def KitOk (T : String) : Prop := ∀ t ∈ ["NoneType", "bool", "int", "str", "tuple", "list"], kitB t T = some (isTy T t)
theorem tyS_mem (d : D) : tyS d ∈ ["NoneType", "bool", "int", "str", "tuple", "list"] := by cases d <;> simp [tyS]
theorem tyX_ok {K : Kx} {rho : Rh} {h : Hd} {H : Hp} (R : Rel K rho h H) {d : D} {v : V} (r : RelV' K rho h H d v) (e : tyOk d h = true) : TyX K H v (.type (tyS d)) := by
  cases d with
  | non => rw [r.non]; exact .base .non
  | bl b => rw [r.bl]; exact .base (.bl b)
  | int b => rw [r.int]; exact .base (.int b)
  | str b => rw [r.str]; exact .base (.str b)
  | tup xs =>
    obtain ⟨a, us, e1, e2, e3⟩ := r.tup
    subst e1
    rcases e2 with (e2 | ⟨o, e2⟩) | ⟨o, its, n, e2, c, _⟩
    · exact .base (.tup e2)
    · exact .fTuple e2
    · exact .kTuple e2 c
  | lv xs =>
    simp only [RelV', RelD] at r
    obtain ⟨a, us, e1, e2, e3⟩ := r
    subst e1
    exact .base (.lst e2.1)
  | fl xs =>
    simp only [RelV', RelD] at r
    obtain ⟨a, us, e1, e2, e3⟩ := r
    subst e1
    rcases e2 with ⟨o, e2⟩ | ⟨o, its, n, e2, c, _⟩
    · exact .base (.frz e2)
    · exact .kList e2 c
  | exc _ _ _ => simp [tyOk] at e
  | obj _ _ _ => simp [tyOk] at e
  | fd _ _ => simp [tyOk] at e
  | ref n =>
    simp only [tyOk, asL] at e
    cases q : h[n]? with
    | none => rw [q] at e; cases e
    | some o =>
      cases o with
      | dead => rw [q] at e; cases e
      | dct _ _ => rw [q] at e; cases e
      | lst ys =>
        obtain ⟨us, a, b⟩ := R.cellL q
        simp only [RelV', RelD] at r
        rw [r.2]
        exact .base (.lst a)
def e_isi (ts : List String) (f : EF) : EF := fun s h => (f s h).bind fun d h1 => if tyOk d h1 then .ok (.bl (ts.any fun T => isTy T (tyS d))) h1 else .fail
theorem kitAny_ok {K : PySem.W.Frag} {t : String} (ht : t ∈ ["NoneType", "bool", "int", "str", "tuple", "list"]) : ∀ ts : List String, (∀ T ∈ ts, KitOk T) → PySem.W.kitAny K (.type t) (ts.map Value.type) = some (ts.any fun T => isTy T t)
  | [], _ => kitAny_nil
  | T :: ts, h => by
    have h1 : PySem.W.kitOne K (.type t) (.type T) = some (isTy T t) := kit_ty (h T (by simp) t ht)
    have ih := kitAny_ok (K := K) ht ts fun U hU => h U (by simp [hU])
    rw [List.map_cons]
    refine kitAny_cons h1 (fun q => ?_) (fun q => ?_)
    · rw [List.any_cons, q, Bool.false_or]; exact ih
    · rw [List.any_cons, q, Bool.true_or]
section
variable {X : Cx} {W : WX} {e : Expr} {fe : EF} {p q pos : Pos}
theorem r_isi {T : Str} {Ts : String} (hm : X.mg "isinstance" = none) (he : SE X W e fe) (hT : X.mg T = none) (hv : bootBuiltins T = some (.type Ts)) (hk : KitOk Ts) (hg : Gl X "isinstance" := by rfl) (hgT : Gl X T := by rfl) (hn : T ≠ "__name__" := by decide) (hdb : (T == ("__debug__" : Str)) = false := by decide)
    (hs : starEach [e, .Name T q] X.env = (false, eval e X.env) :: starEach [.Name T q] X.env := by rfl) (hs2 : starEach [.Name T q] X.env = (false, eval (.Name T q) X.env) :: starEach [] X.env := by rfl) (hpl : (backTo pos (starEach [.Name T q] X.env)).any (·.1) = false := by rfl) :
    SE X W (.Call (.Name "isinstance" p) [e, .Name T q] [] pos) (e_isi [Ts] fe) :=
  PE.imp (pe_callB call_isi hg hm PyProof.Rows.boot_isinstance (pa_cons he (pa_cons (pe_bltn (v := .ty Ts) hgT hT hv rfl hn hdb) pa_nil hs2) hs) (by decide) (by decide) hs hpl) fun σ H Q z => by
    obtain ⟨rho, h, s, R, S, po⟩ := z
    refine step R S po fun rho1 h1 H1 d e1 R1 S1 po1 v r => ?_
    by_cases ht : tyOk d h1 = true
    · simp only [ht, if_true] at po1
      refine ⟨v, .ty Ts, .type (tyS d), .type Ts, isTy Ts (tyS d), rfl, .ty Ts, tyX_ok R1 r ht, kit_ty (hk _ (tyS_mem d)), ?_⟩
      have := PostG.ok po1 R1 _ (relBl _)
      simpa using this
    · simp only [ht] at po1; exact po1.elim
theorem r_isi2 {T U : Str} {Ts Us : String} {q1 q2 : Pos} {k : Nat} (hm : X.mg "isinstance" = none) (he : SE X W e fe) (hT : X.mg T = none) (hv : bootBuiltins T = some (.type Ts)) (hk : KitOk Ts) (hU : X.mg U = none) (hvU : bootBuiltins U = some (.type Us)) (hkU : KitOk Us)
    (hg : Gl X "isinstance" := by rfl) (hgT : Gl X T := by rfl) (hgU : Gl X U := by rfl) (hn : T ≠ "__name__" := by decide) (hdb : (T == ("__debug__" : Str)) = false := by decide) (hnU : U ≠ "__name__" := by decide) (hdbU : (U == ("__debug__" : Str)) = false := by decide)
    (hs : starEach [e, .Tuple [.Name T q1, .Name U q2] k q] X.env = (false, eval e X.env) :: starEach [.Tuple [.Name T q1, .Name U q2] k q] X.env := by rfl)
    (hs2 : starEach [.Tuple [.Name T q1, .Name U q2] k q] X.env = (false, eval (.Tuple [.Name T q1, .Name U q2] k q) X.env) :: starEach [] X.env := by rfl)
    (hs3 : starEach [.Name T q1, .Name U q2] X.env = (false, eval (.Name T q1) X.env) :: starEach [.Name U q2] X.env := by rfl) (hs4 : starEach [.Name U q2] X.env = (false, eval (.Name U q2) X.env) :: starEach [] X.env := by rfl)
    (hpl : (backTo pos (starEach [.Tuple [.Name T q1, .Name U q2] k q] X.env)).any (·.1) = false := by rfl) :
    SE X W (.Call (.Name "isinstance" p) [e, .Tuple [.Name T q1, .Name U q2] k q] [] pos) (e_isi [Ts, Us] fe) :=
  PE.imp (pe_callB call_isiT hg hm PyProof.Rows.boot_isinstance (pa_cons he (pa_cons (pe_tup (pa_cons (pe_bltn (v := .ty Ts) hgT hT hv rfl hn hdb) (pa_cons (pe_bltn (v := .ty Us) hgU hU hvU rfl hnU hdbU) pa_nil hs4) hs3)) pa_nil hs2) hs) (by decide) (by decide) hs hpl) fun σ H Q z => by
    obtain ⟨rho, h, s, R, S, po⟩ := z
    refine step R S po fun rho1 h1 H1 d e1 R1 S1 po1 v r => ?_
    by_cases ht : tyOk d h1 = true
    · simp only [ht, if_true] at po1
      refine ⟨by show 2 ≤ sizeLine; decide, fun p np => ?_⟩
      have x := Ext.upd R1 np (.tup [.ty Ts, .ty Us])
      have R2 := R1.upd np (.tup [.ty Ts, .ty Us])
      refine ⟨v, p, [.ty Ts, .ty Us], .type (tyS d), [.type Ts, .type Us], _, rfl, upd_same, .cons (.ty Ts) (.cons (.ty Us) .nil), tyX_ok R2 (x.v r) ht, kitAny_ok (tyS_mem d) [Ts, Us] (fun V hV => ?_), ?_⟩
      · simp at hV
        rcases hV with hV | hV <;> subst hV
        · exact hk
        · exact hkU
      · exact po1 rho1 _ x R2 _ (relBl _)
    · simp only [ht] at po1; exact po1.elim
end
theorem kit_int : KitOk "int" := by unfold KitOk; decide +kernel
theorem kit_bool : KitOk "bool" := by unfold KitOk; decide +kernel
theorem kit_str : KitOk "str" := by unfold KitOk; decide +kernel
theorem kit_list : KitOk "list" := by unfold KitOk; decide +kernel
theorem kit_tuple : KitOk "tuple" := by unfold KitOk; decide +kernel

def flatD (d : D) : Bool := match d with
  | .non | .bl _ | .int _ | .str _ => true
  | _ => false
def eqFD : D → D → Bool
  | .non, .non => true
  | .bl a, .bl b => a == b
  | .bl a, .int b => (if a then 1 else 0) == b
  | .int a, .bl b => a == (if b then 1 else 0)
  | .int a, .int b => a == b
  | .str a, .str b => a == b
  | _, _ => false
theorem flat_ok {K : Kx} {rho : Rh} {h : Hd} {H : Hp} {B : Nat} {d : D} {v : V} (r : RelD K rho h B H d v) (f : flatD d = true) : flatV v = true := by
  cases d <;> simp only [RelD] at r <;> first | (subst r; rfl) | (simp [flatD] at f)
theorem eqFD_ok {K : Kx} {rho : Rh} {h : Hd} {H : Hp} {B C : Nat} {d e : D} {v w : V} (r : RelD K rho h B H d v) (q : RelD K rho h C H e w) (f : flatD d = true) (g : flatD e = true) : eqV v w = eqFD d e := by
  cases d <;> simp only [RelD] at r <;> first | (simp [flatD] at f; done) | (subst r; cases e <;> simp only [RelD] at q <;> first | (simp [flatD] at g; done) | (subst q; rfl))
theorem flats_ok {K : Kx} {rho : Rh} {h : Hd} {H : Hp} {B : Nat} : ∀ {ds : List D} {us : List V}, RelDs K rho h B H ds us → ds.all flatD = true → us.all flatV = true
  | [], us, r, f => by simp only [RelDs] at r; subst r; rfl
  | d :: ds, us, r, f => by
    simp only [RelDs] at r
    obtain ⟨v, rr, e1, e2, e3⟩ := r
    simp only [List.all_cons, Bool.and_eq_true] at f
    subst e1
    simp only [List.all_cons, Bool.and_eq_true]
    exact ⟨flat_ok e2 f.1, flats_ok e3 f.2⟩
theorem inV_ok {K : Kx} {rho : Rh} {h : Hd} {H : Hp} {B C : Nat} {x : D} {v : V} (rx : RelD K rho h C H x v) (fx : flatD x = true) : ∀ {ds : List D} {us : List V}, RelDs K rho h B H ds us → ds.all flatD = true → inV v us = ds.any fun y => eqFD y x
  | [], us, r, f => by simp only [RelDs] at r; subst r; rfl
  | d :: ds, us, r, f => by
    simp only [RelDs] at r
    obtain ⟨w, rr, e1, e2, e3⟩ := r
    simp only [List.all_cons, Bool.and_eq_true] at f
    subst e1
    have ih := inV_ok rx fx e3 f.2
    unfold inV at ih ⊢
    rw [List.any_cons, List.any_cons, ih, eqFD_ok e2 rx f.1 fx]
def inP (neg : Bool) : P2 := fun x y h => match asS y h with
  | some ys => if flatD x && ys.all flatD then some (.bl (if neg then !(ys.any fun z => eqFD z x) else ys.any fun z => eqFD z x), h) else
      match pyR x h, pyR y h with
      | some d, some (.list ds) => if SeqAt.shaped d && SeqAt.shaped (.list ds) then some (.bl (if neg then !(ds.any fun z => PyData.eqv z d) else ds.any fun z => PyData.eqv z d), h) else none
      | _, _ => none
  | none => none
theorem in_ok {K : Kx} {neg : Bool} {x y : V} {H : Hp} {Q : VK} (q : rO K (inP neg) x y H Q) : rIn K neg x y H Q ∨ (∃ d ds, Dp K H x d ∧ Dp K H y (.list ds) ∧ SeqAt.shaped d = true ∧ SeqAt.shaped (.list ds) = true ∧ Q (.bl (if neg then !(ds.any fun z => PyData.eqv z d) else ds.any fun z => PyData.eqv z d)) H) := by
  obtain ⟨rho, h, dx, dy, R, rx, ry, po⟩ := q
  unfold inP at po
  split at po
  · rename_i ys qy
    by_cases hf : (flatD dx && ys.all flatD) = true
    · simp only [hf, if_true] at po
      rw [Bool.and_eq_true] at hf
      obtain ⟨a, us, e1, e2, e3⟩ := asS_ok R ry qy
      refine .inl ⟨a, us, e1, e2, flat_ok rx hf.1, flats_ok e3 hf.2, ?_⟩
      rw [inV_ok rx hf.1 e3 hf.2]
      exact PostP.here po R (relBl _)
    · simp only [hf] at po
      split at po
      · exact absurd (by assumption) Bool.false_ne_true
      · split at po
        · rename_i d ds qd qds
          by_cases hs : (SeqAt.shaped d && SeqAt.shaped (.list ds)) = true
          · simp only [hs, if_true] at po
            rw [Bool.and_eq_true] at hs
            exact .inr ⟨d, ds, pyR_ok R rx qd, pyR_ok R ry qds, hs.1, hs.2, PostP.here po R (relBl _)⟩
          · simp only [hs] at po; exact po.elim
        · exact po.elim
  · exact po.elim
section
variable {X : Cx}
theorem p_in (hu : X.A.units + 65 < cLine) : OpR X (compareOp .In) (rO (kx X) (inP false)) := OpR.imp' (op_in_seq.or (op_inD hu)) fun x y H Q q => (in_ok q).imp id fun ⟨d, ds, a, b, c, e, f⟩ => ⟨d, ds, a, b, c, e, by simpa using f⟩
theorem p_notIn (hu : X.A.units + 65 < cLine) : OpR X (compareOp .NotIn) (rO (kx X) (inP true)) := OpR.imp' (op_notIn_seq.or (op_notInD hu)) fun x y H Q q => (in_ok q).imp id fun ⟨d, ds, a, b, c, e, f⟩ => ⟨d, ds, a, b, c, e, by simpa using f⟩
end
end Mini
namespace Mini
open PySem PySem.Spec PyProof.Rows L2
theorem room65 {k : Nat} {A : Around} (r : Room k A) : A.units + 65 < cLine := by have := r.un; omega
section
variable {P : Program} {w : World} {K : PySem.W.Frag} {mg : Str → Option Value} {base : Heap}
/-- a def that hands out cells of its own -/
theorem fn_okR {x qual : Str} {st : Stmt} {f : Addr} {fd : FuncData} {N ps : List Str} {k : Nat} {b : SF} (F : Fun K x qual st f fd) (S : FnScope N ps (defScope st))
    (hb : ∀ (cdv : Value) (A : Around) (outer : List Env) (s : Shared) (H : Hp) (E : XK), Room k (A.deeper (envOfC qual (defScope st) s.heap.objs.size f cdv)) →
      SSs (cxOf (L2.CX P w) P w K mg base N qual (defScope st) f cdv A outer s H E) (fun cls d _ H => E cls d H) (defBody st) b) : FnOk P w K mg base (L2.CX P w) (k + 1) f fd ps (spM ⟨K, w⟩ mg (runB ps.length N.length b)) := by
  refine fun_okX F S (fun vs H Q E h => ?_) fun cdv A outer s H vs Q E hr h => ⟨_, hb cdv A outer s H E hr, ?_⟩
  · obtain ⟨rho, h, ds, R, r, po⟩ := h
    by_cases q : ds.length = ps.length
    · rw [← RelDs.length r]; exact q
    · unfold runB at po; simp only [q, if_false] at po; exact po.elim
  obtain ⟨rho, h, ds, R, r, po⟩ := h
  refine ⟨rho, h, ds.map some ++ List.replicate (N.length - ds.length) none, R, RelS.start r, ?_⟩
  unfold runB at po
  by_cases q : ds.length = ps.length
  · simp only [q, if_true] at po
    rw [← q] at po
    cases qb : b (ds.map some ++ List.replicate (N.length - ds.length) none) h with
    | fail => rw [qb] at po; exact po
    | exc x h' => rw [qb] at po; exact po.elim
    | ok fl h' =>
      rw [qb] at po
      cases fl with
      | nx s1 => exact fun rho' H' e R' σ' S' => po rho' H' e R' _ relNon
      | rt d => exact fun rho' H' e R' v r' => po rho' H' e R' v r'
      | bk s1 => exact po.elim
      | ct s1 => exact po.elim
      | ex x s1 => exact fun rho' H' e R' σ' cls dd S' rx => po rho' H' cls dd e R' rx
  · simp only [q, if_false] at po; exact po.elim
end
/-- the law's promise: a list of at most 63 ints is handed in, True comes out -/
def spLaw (K : PySem.W.Frag) : Sp := fun vs H Q _ => ∃ (a : Addr) (ns : List Int), vs = [.ref a] ∧ ns.length ≤ 63 ∧ Only H ∧ SqL K H a (ns.map V.int) ∧ ∀ v H', v = V.bl true → Q v H'
theorem relInts {K : Kx} {rho : Rh} {h : Hd} {H : Hp} {B : Nat} : ∀ ns : List Int, RelDs K rho h B H (ns.map D.int) (ns.map V.int)
  | [] => by simp [RelDs]
  | n :: ns => by
    simp only [List.map_cons, RelDs, RelD]
    exact ⟨_, _, rfl, rfl, relInts ns⟩
theorem spLaw_ok {K : PySem.W.Frag} {w : World} {mg : Str → Option Value} {m : MF} {vs : List V} {H : Hp} {Q : VK} {E : XK} (spec : ∀ ns : List Int, ns.length ≤ 63 → ∃ h, m [.fl (ns.map D.int)] [] = .ok (.bl true) h) (z : spLaw K vs H Q E) : spM ⟨K, w⟩ mg m vs H Q E := by
  obtain ⟨a, ns, e, hl, hO, hS, k⟩ := z
  obtain ⟨h', e'⟩ := spec ns hl
  have nl : ∀ m, live ([] : Hd) m = true → False := fun m q => by simp [live] at q
  refine ⟨⟨fun _ => a, fun _ => False⟩, [], [.fl (ns.map D.int)], ⟨fun m n q => (nl m q).elim, fun m o q => by simp at q, fun a z => z.elim, fun m q => (nl m q).elim⟩, ?_, ?_⟩
  · subst e
    simp only [RelVs', RelDs, RelD]
    refine ⟨.ref a, [], rfl, ⟨a, ns.map V.int, rfl, ?_, relInts ns⟩, rfl⟩
    rcases hS with (q | q) | q
    · rcases hO a with o | ⟨ob, xs, o⟩
      · rw [q] at o; cases o
      · rw [q] at o; cases o
    · exact .inl q
    · exact .inr q
  · rw [e']
    intro rho' H' x R' v r
    exact k v H' r.bl
end Mini
namespace Mini
open PySem L2
@[simp] theorem bind_ok {α β : Type} (a : α) (h : Hd) (k : α → Hd → Res β) : (Res.ok a h).bind k = k a h := id rfl
@[simp] theorem bindE_ok {α : Type} (a : α) (h : Hd) (s : Ev) (k : α → Hd → Res Fl) : bindE (.ok a h) s k = k a h := id rfl
@[simp] theorem lift_some {α : Type} (d : α) (h : Hd) : lift (some (d, h)) = .ok d h := id rfl
theorem whileM_succ (t : TF) (b : SF) (n : Nat) (s : Ev) (h : Hd) : whileM t b (n + 1) s h = bindE (t s h) s fun c h1 => if c then (match b s h1 with
    | .ok (.nx s2) h2 => whileM t b n s2 h2
    | .ok (.ct s2) h2 => whileM t b n s2 h2
    | .ok (.bk s2) h2 => .ok (.nx s2) h2
    | r => r) else .ok (.nx s) h1 := rfl
/-- a for loop: an invariant by the turn; a turn goes on, or leaves the loop with what is wanted -/
theorem for_wp {p : Pat} {b : SF} {Q : Res Fl → Prop} (I : Nat → Ev → Hd → Prop) (items : List D) (s : Ev) (h : Hd) (h0 : I 0 s h)
    (hs : ∀ (i : Nat) (d : D) (s : Ev) (h : Hd), items[i]? = some d → I i s h → ∃ s1, patD p d s = some s1 ∧
      ((∃ s2 h2, b s1 h = .ok (.nx s2) h2 ∧ I (i + 1) s2 h2) ∨ (∃ s2 h2, b s1 h = .ok (.ct s2) h2 ∧ I (i + 1) s2 h2) ∨ (∃ s2 h2, b s1 h = .ok (.bk s2) h2 ∧ Q (.ok (.nx s2) h2)) ∨ (∃ d h2, b s1 h = .ok (.rt d) h2 ∧ Q (.ok (.rt d) h2))))
    (hd : ∀ s h, I items.length s h → Q (.ok (.nx s) h)) : Q (forM p b items s h) := by
  suffices H : ∀ (l : List D) (i : Nat) (s : Ev) (h : Hd), items.drop i = l → i ≤ items.length → I i s h → Q (forM p b l s h) from H items 0 s h rfl (Nat.zero_le _) h0
  intro l
  induction l with
  | nil =>
    intro i s h e hi q
    have : i = items.length := by
      have := congrArg List.length e
      simp at this; omega
    subst this
    exact hd s h q
  | cons d r ih =>
    intro i s h e hi q
    have hd' : items[i]? = some d := by
      have := congrArg (fun l => l[0]?) e
      simpa using this
    have hl : i < items.length := (List.getElem?_eq_some_iff.mp hd').1
    have er : items.drop (i + 1) = r := by
      have := congrArg List.tail e
      simpa using this
    obtain ⟨s1, e1, c⟩ := hs i d s h hd' q
    simp only [forM, e1]
    rcases c with ⟨s2, h2, e2, q2⟩ | ⟨s2, h2, e2, q2⟩ | ⟨s2, h2, e2, q2⟩ | ⟨d', h2, e2, q2⟩
    · rw [e2]; exact ih (i + 1) s2 h2 er hl q2
    · rw [e2]; exact ih (i + 1) s2 h2 er hl q2
    · rw [e2]; exact q2
    · rw [e2]; exact q2
/-- a while loop: I with a number that falls at each turn -/
theorem while_wp {t : TF} {b : SF} {Q : Res Fl → Prop} (I : Nat → Ev → Hd → Prop)
    (hs : ∀ (k : Nat) (s : Ev) (h : Hd), I k s h → (∃ h1, t s h = .ok false h1 ∧ Q (.ok (.nx s) h1)) ∨ (∃ h1, t s h = .ok true h1 ∧
      ((∃ s2 h2 k', b s h1 = .ok (.nx s2) h2 ∧ k' < k ∧ I k' s2 h2) ∨ (∃ s2 h2 k', b s h1 = .ok (.ct s2) h2 ∧ k' < k ∧ I k' s2 h2) ∨ (∃ s2 h2, b s h1 = .ok (.bk s2) h2 ∧ Q (.ok (.nx s2) h2)) ∨ (∃ d h2, b s h1 = .ok (.rt d) h2 ∧ Q (.ok (.rt d) h2))))) :
    ∀ (n k : Nat) (s : Ev) (h : Hd), k < n → I k s h → Q (whileM t b n s h)
  | 0, k, s, h, hk, q => by omega
  | n + 1, k, s, h, hk, q => by
    rw [whileM_succ]
    rcases hs k s h q with ⟨h1, e1, q1⟩ | ⟨h1, e1, c⟩
    · rw [e1]; exact q1
    · rw [e1]
      simp only [bindE_ok, if_true]
      rcases c with ⟨s2, h2, k', e2, lk, q2⟩ | ⟨s2, h2, k', e2, lk, q2⟩ | ⟨s2, h2, e2, q2⟩ | ⟨d', h2, e2, q2⟩
      · rw [e2]; exact while_wp I hs n k' s2 h2 (by omega) q2
      · rw [e2]; exact while_wp I hs n k' s2 h2 (by omega) q2
      · rw [e2]; exact q2
      · rw [e2]; exact q2
/-- a comprehension whose parts leave the heap: filter and map -/
theorem lc_pure {p : Pat} {tt : TF} {te : EF} {s0 : Ev} {h : Hd} (g : D → Bool) (f : D → D) : ∀ (items acc : List D), (∀ d ∈ items, ∃ s1, patD p d s0 = some s1 ∧ tt s1 h = .ok (g d) h ∧ (g d = true → te s1 h = .ok (f d) h)) →
    acc.length + items.length ≤ sizeLine → lcM p tt te s0 items acc h = some (acc ++ (items.filter g).map f, h)
  | [], acc, _, _ => by simp [lcM]
  | d :: r, acc, hp, hl => by
    obtain ⟨s1, e1, e2, e3⟩ := hp d (by simp)
    have ih := fun acc hl => lc_pure g f r acc (fun d hd => hp d (by simp [hd])) hl
    simp only [List.length_cons] at hl
    simp only [lcM, e1, e2]
    cases q : g d with
    | false => simp only; rw [ih acc (by omega)]; simp [q]
    | true =>
      simp only [e3 q]
      rw [if_pos (by omega), ih _ (by simp; omega)]
      simp [q]
/-- .. with an invariant of the heap (draws): what is made so far and what is left -/
theorem lc_wp {p : Pat} {tt : TF} {te : EF} {s0 : Ev} {Q : Option (List D × Hd) → Prop} (I : Nat → List D → Hd → Prop) (items : List D) (h : Hd) (h0 : I 0 [] h)
    (hs : ∀ (i : Nat) (d : D) (acc : List D) (h : Hd), items[i]? = some d → I i acc h → ∃ s1, patD p d s0 = some s1 ∧
      ((∃ h1, tt s1 h = .ok false h1 ∧ I (i + 1) acc h1) ∨ (∃ h1 y h2, tt s1 h = .ok true h1 ∧ te s1 h1 = .ok y h2 ∧ acc.length < sizeLine ∧ I (i + 1) (acc ++ [y]) h2)))
    (hd : ∀ acc h, I items.length acc h → Q (some (acc, h))) : Q (lcM p tt te s0 items [] h) := by
  suffices H : ∀ (l : List D) (i : Nat) (acc : List D) (h : Hd), items.drop i = l → i ≤ items.length → I i acc h → Q (lcM p tt te s0 l acc h) from H items 0 [] h rfl (Nat.zero_le _) h0
  intro l
  induction l with
  | nil =>
    intro i acc h e hi q
    have : i = items.length := by
      have := congrArg List.length e
      simp at this; omega
    subst this
    exact hd acc h q
  | cons d r ih =>
    intro i acc h e hi q
    have hd' : items[i]? = some d := by
      have := congrArg (fun l => l[0]?) e
      simpa using this
    have hl : i < items.length := (List.getElem?_eq_some_iff.mp hd').1
    have er : items.drop (i + 1) = r := by
      have := congrArg List.tail e
      simpa using this
    obtain ⟨s1, e1, c⟩ := hs i d acc h hd' q
    simp only [lcM, e1]
    rcases c with ⟨h1, e2, q2⟩ | ⟨h1, y, h2, e2, e3, hl2, q2⟩
    · rw [e2]; exact ih (i + 1) acc h1 er hl q2
    · rw [e2]; simp only [e3, if_pos hl2]; exact ih (i + 1) _ h2 er hl q2

@[simp] theorem addP_int (m : Bool) (i j : Int) (h : Hd) : addP m (.int i) (.int j) h = some (.int (i + j), h) := id rfl
@[simp] theorem subP_int (i j : Int) (h : Hd) : subP (.int i) (.int j) h = some (.int (i - j), h) := id rfl
@[simp] theorem negP_int (i : Int) (h : Hd) : negP (.int i) h = some (.int (-i), h) := id rfl
@[simp] theorem iaddP_int (i j : Int) (h : Hd) : iaddP (.int i) (.int j) h = some (.int (i + j), h) := id rfl
@[simp] theorem ltP_int (i j : Int) (h : Hd) : ltP (.int i) (.int j) h = some (.bl (decide (i < j)), h) := id rfl
@[simp] theorem leP_int (i j : Int) (h : Hd) : leP (.int i) (.int j) h = some (.bl (decide (i ≤ j)), h) := id rfl
@[simp] theorem gtP_int (i j : Int) (h : Hd) : gtP (.int i) (.int j) h = some (.bl (decide (j < i)), h) := id rfl
@[simp] theorem geP_int (i j : Int) (h : Hd) : geP (.int i) (.int j) h = some (.bl (decide (j ≤ i)), h) := id rfl
theorem modP_int {i j : Int} (hj : 0 < j) (h : Hd) : modP (.int i) (.int j) h = some (.int (i % j), h) := by simp [modP, hj]
theorem seq_nx {a b : SF} {s s1 : Ev} {h h1 : Hd} (e : a s h = .ok (.nx s1) h1) : s_seq a b s h = b s1 h1 := by simp [s_seq, e]
theorem seq_rt {a b : SF} {s : Ev} {h h1 : Hd} {d : D} (e : a s h = .ok (.rt d) h1) : s_seq a b s h = .ok (.rt d) h1 := by simp [s_seq, e]
/-- a def whose body returns -/
theorem fn_rt {np n : Nat} {b : SF} {ds : List D} {h h' : Hd} {d : D} (s0 : Ev) (d' : D) (e : b s0 h = .ok (.rt d) h') (hs : sealD h.length d h' = some d') (h0 : ds.map some ++ List.replicate (n - ds.length) none = s0 := by rfl) (hl : ds.length = np := by rfl) : fnM np n b ds h = .ok d' (h'.take h.length) := by
  unfold fnM runB
  rw [if_pos hl, h0, e]
  simp only [sealR, hs]
def BoxAt (h : Hd) (b n : Nat) : Prop := ∃ x y z : Int, h[b]? = some (.lst [.int x, .int y, .int z]) ∧ 0 ≤ x ∧ 0 ≤ y ∧ y < 2 ^ 63 ∧ 0 ≤ z ∧ z ≤ n
/-- from h to h' only draws were made: at most k -/
structure Drawn (b : Nat) (h h' : Hd) (n k : Nat) : Prop where
  len : h'.length = h.length
  oth : ∀ m, m ≠ b → h'[m]? = h[m]?
  box : BoxAt h' b (n + k)
theorem Drawn.trans {b : Nat} {h h1 h2 : Hd} {n k j : Nat} (x : Drawn b h h1 n k) (y : Drawn b h1 h2 (n + k) j) : Drawn b h h2 n (k + j) :=
  ⟨y.len.trans x.len, fun m hm => (y.oth m hm).trans (x.oth m hm), by rw [← Nat.add_assoc]; exact y.box⟩
theorem BoxAt.mono {h : Hd} {b n m : Nat} (x : BoxAt h b n) (hm : n ≤ m) : BoxAt h b m := by
  obtain ⟨a, c, d, e, f, g, i, j, k⟩ := x
  exact ⟨a, c, d, e, f, g, i, j, by omega⟩
theorem Drawn.mono {b : Nat} {h h' : Hd} {n k j : Nat} (x : Drawn b h h' n k) (hk : k ≤ j) : Drawn b h h' n j := ⟨x.len, x.oth, x.box.mono (by omega)⟩
theorem Drawn.refl {b : Nat} {h : Hd} {n : Nat} (x : BoxAt h b n) : Drawn b h h n 0 := ⟨rfl, fun _ _ => rfl, x⟩
theorem BoxAt.lt {h : Hd} {b n : Nat} (x : BoxAt h b n) : b < h.length := by
  obtain ⟨_, _, _, e, _⟩ := x
  exact (List.getElem?_eq_some_iff.mp e).1
theorem in64_of {i : Int} (h1 : -(2 ^ 64) < i) (h2 : i < 2 ^ 64) : in64 i = true := by unfold in64; rw [decide_eq_true h1, decide_eq_true h2]; rfl
end Mini
namespace Mini
open PySem L2
section
variable {s s1 : Ev} {h h1 h2 h3 : Hd} {d d1 d2 d3 : D} {f f1 f2 f3 : EF} {a k : AF} {t t2 : TF} {b1 b2 : SF}
theorem op_ok {g : P2} (e1 : f1 s h = .ok d1 h1) (e2 : f2 s h1 = .ok d2 h2) (e3 : g d1 d2 h2 = some (d, h3)) : e_op g f1 f2 s h = .ok d h3 := by simp only [e_op, e1, e2, bind_ok, e3, lift_some]
theorem un_ok {g : P1} (e1 : f1 s h = .ok d1 h1) (e3 : g d1 h1 = some (d, h3)) : e_un g f1 s h = .ok d h3 := by simp only [e_un, e1, bind_ok, e3, lift_some]
theorem a1_ok (e1 : f1 s h = .ok d1 h1) : a_cons f1 a_nil s h = .ok [d1] h1 := by simp only [a_cons, a_nil, e1, bind_ok]
theorem a2_ok (e1 : f1 s h = .ok d1 h1) (e2 : f2 s h1 = .ok d2 h2) : a_cons f1 (a_cons f2 a_nil) s h = .ok [d1, d2] h2 := by simp only [a_cons, a_nil, e1, e2, bind_ok]
theorem call_ok {g : PL} {ds : List D} (e1 : a s h = .ok ds h1) (e3 : g ds h1 = some (d, h2)) : e_call g a s h = .ok d h2 := by simp only [e_call, e1, bind_ok, e3, lift_some]
theorem own_ok {m : MF} {ds : List D} (e1 : a s h = .ok ds h1) (e3 : m ds h1 = .ok d h2) : e_own m a s h = .ok d h2 := by simp only [e_own, e1, bind_ok, e3]
theorem lst_ok {ds : List D} (e1 : a s h = .ok ds h1) (hl : ds.length ≤ sizeLine) : e_lst false a s h = .ok (.lv ds) h1 := by simp only [e_lst, e1, bind_ok, if_pos hl, mkL, Bool.false_eq_true, if_false, lift_some]
theorem lstM_ok {ds : List D} (e1 : a s h = .ok ds h1) (hl : ds.length ≤ sizeLine) : e_lst true a s h = .ok (.ref h1.length) (h1 ++ [.lst ds]) := by simp only [e_lst, e1, bind_ok, if_pos hl, mkL, if_true, lift_some]
theorem tup_ok {ds : List D} (e1 : a s h = .ok ds h1) (hl : ds.length ≤ sizeLine) : e_tup a s h = .ok (.tup ds) h1 := by simp only [e_tup, e1, bind_ok, if_pos hl]
theorem var_ok {i : Nat} (e : s[i]? = some (some d) := by rfl) : e_var i s h = .ok d h := by simp only [e_var, e]
theorem b_ok {c : Bool} (e1 : f s h = .ok (.bl c) h1) : t_b f s h = .ok c h1 := by simp only [t_b, e1, bind_ok]
theorem tru_ok {c : Bool} (e1 : f s h = .ok (.bl c) h1) : t_tru f s h = .ok c h1 := by simp only [t_tru, e1, bind_ok, truD]
theorem not_ok {c : Bool} (e1 : t s h = .ok c h1) : t_not t s h = .ok (!c) h1 := by simp only [t_not, e1, bind_ok]
theorem or_f (e1 : t s h = .ok false h1) : t_or t t2 s h = t2 s h1 := by simp only [t_or, e1, bind_ok, Bool.false_eq_true, if_false]
theorem or_t (e1 : t s h = .ok true h1) : t_or t t2 s h = .ok true h1 := by simp only [t_or, e1, bind_ok, if_true]
theorem and_f (e1 : t s h = .ok false h1) : t_and t t2 s h = .ok false h1 := by simp [t_and, e1]
theorem and_t (e1 : t s h = .ok true h1) : t_and t t2 s h = t2 s h1 := by simp [t_and, e1]
theorem eand_t (e1 : f1 s h = .ok (.bl true) h1) : e_and f1 f2 s h = f2 s h1 := by simp only [e_and, e1, bind_ok]
theorem eand_f (e1 : f1 s h = .ok (.bl false) h1) : e_and f1 f2 s h = .ok (.bl false) h1 := by simp only [e_and, e1, bind_ok]
theorem set_ok {i : Nat} (e1 : f s h = .ok d h1) : s_set i f s h = .ok (.nx (s.set i (some d))) h1 := by simp only [s_set, e1, bindE_ok]
theorem ret_ok (e1 : f s h = .ok d h1) : s_ret f s h = .ok (.rt d) h1 := by simp only [s_ret, e1, bindE_ok]
theorem if_f (e1 : t s h = .ok false h1) : s_if t b1 b2 s h = b2 s h1 := by simp only [s_if, e1, bindE_ok, Bool.false_eq_true, if_false]
theorem if_t (e1 : t s h = .ok true h1) : s_if t b1 b2 s h = b1 s h1 := by simp only [s_if, e1, bindE_ok, if_true]
theorem for_ok {i : AF} {p : Pat} {items : List D} (e1 : i s h = .ok items h1) : s_for i p b1 s h = forM p b1 items s h1 := by simp only [s_for, e1, bindE_ok]
theorem par_ok {i j : Nat} (e1 : a s h = .ok [d1, d2] h1) : s_par i j a s h = .ok (.nx ((s.set i (some d1)).set j (some d2))) h1 := by simp only [s_par, e1, bindE_ok]
theorem seq_then {r : Res Fl} (e1 : b1 s h = .ok (.nx s1) h1) (e2 : b2 s1 h1 = r) : s_seq b1 b2 s h = r := (seq_nx e1).trans e2
theorem take_self {h : Hd} : h.take h.length = h := List.take_of_length_le (Nat.le_refl _)
theorem fn_rt' {np n : Nat} {b : SF} {ds : List D} {h : Hd} {d : D} (s0 : Ev) (e : b s0 h = .ok (.rt d) h) (hs : noRef d = true) (h0 : ds.map some ++ List.replicate (n - ds.length) none = s0 := by rfl) (hl : ds.length = np := by rfl) : fnM np n b ds h = .ok d h := by
  have hd : sealD h.length d h = some d := by
    cases d with
    | ref k => simp [noRef] at hs
    | _ => simp only [sealD, hs, if_true]
  have r := fn_rt (np := np) (n := n) (b := b) (ds := ds) (h := h) (h' := h) s0 d e hd h0 hl
  rw [take_self] at r
  exact r
theorem c_ok : e_c d s h = .ok d h := rfl
theorem nil_ok : s_nil s h = .ok (.nx s) h := rfl
end
end Mini
namespace Mini
open PySem L2
theorem take_set {h : Hd} {b : Nat} {o : O} : (h.set b o).take h.length = h.set b o := List.take_of_length_le (by simp)
theorem log2_small {n : Nat} (h : n ≤ 2 ^ 40) : n.log2 < 9000 := by
  by_cases h0 : n = 0
  · subst h0; decide
  · have h1 : n.log2 ≤ 40 := by
      have := Nat.log2_self_le h0
      have h2 : 2 ^ n.log2 ≤ 2 ^ 40 := Nat.le_trans this h
      exact (Nat.pow_le_pow_iff_right (by decide)).mp h2
    omega
theorem i48 : in64 48271 = true := by decide
def I (xs : List Int) : List D := xs.map D.int
theorem I_cons (x : Int) (xs : List Int) : I (x :: xs) = D.int x :: I xs := rfl
@[simp] theorem I_len (xs : List Int) : (I xs).length = xs.length := by simp [I]
theorem I_get (xs : List Int) (i : Nat) : (I xs)[i]? = (xs[i]?).map D.int := by simp [I]
theorem pyDs_I : ∀ xs : List Int, pyDs (I xs) = some (xs.map PyData.int)
  | [] => rfl
  | x :: xs => by simp only [I_cons, List.map_cons, pyDs, pyD]; rw [pyDs_I xs]
theorem canLay_I : ∀ xs : List Int, PyData.canLayAll0 (xs.map PyData.int) = true
  | [] => by simp [PyData.canLayAll0]
  | x :: xs => by simp only [List.map_cons, PyData.canLayAll0, PyData.canLay0, canLay_I xs, Bool.and_self]
theorem depth_I : ∀ xs : List Int, PyData.depthAll (xs.map PyData.int) = 0
  | [] => by simp [PyData.depthAll]
  | x :: xs => by simp only [List.map_cons, PyData.depthAll, PyData.depth, depth_I xs]; rfl
theorem shaped_tup_I (xs : List Int) : SeqAt.shaped (.tuple (xs.map PyData.int)) = true := by
  simp [SeqAt.shaped, PyData.canLay0, PyData.depth, canLay_I, depth_I]
theorem shaped_int (i : Int) : SeqAt.shaped (.int i) = true := by simp [SeqAt.shaped, PyData.canLay0, PyData.depth]
theorem shaped_bool (i : Bool) : SeqAt.shaped (.bool i) = true := by simp [SeqAt.shaped, PyData.canLay0, PyData.depth]
theorem eqvAll_I : ∀ xs ys : List Int, PyData.eqvAll (xs.map PyData.int) (ys.map PyData.int) = decide (xs = ys)
  | [], [] => by simp [PyData.eqvAll]
  | [], y :: ys => by simp [PyData.eqvAll]
  | x :: xs, [] => by simp [PyData.eqvAll]
  | x :: xs, y :: ys => by
    simp only [List.map_cons, PyData.eqvAll, PyData.eqv, eqvAll_I xs ys, List.cons.injEq, Bool.decide_and]
    by_cases h : x = y <;> simp [h]
theorem eqP_tup (neg : Bool) (xs ys : List Int) (h : Hd) : eqP neg (.tup (I xs)) (.tup (I ys)) h = some (.bl (if neg then !decide (xs = ys) else decide (xs = ys)), h) := by
  simp only [eqP, pyR, pyD, pyDs_I, shaped_tup_I, Bool.and_self, if_true, PyData.eqv, eqvAll_I]
theorem eqP_int (neg : Bool) (i j : Int) (h : Hd) : eqP neg (.int i) (.int j) h = some (.bl (if neg then !decide (i = j) else decide (i = j)), h) := by
  simp only [eqP, pyR, pyD, shaped_int, Bool.and_self, if_true, PyData.eqv]
  have : (i == j) = decide (i = j) := by by_cases e : i = j <;> simp [e]
  rw [this]
theorem eqP_bl (neg : Bool) (i j : Bool) (h : Hd) : eqP neg (.bl i) (.bl j) h = some (.bl (if neg then !(i == j) else (i == j)), h) := by
  simp only [eqP, pyR, pyD, shaped_bool, Bool.and_self, if_true, PyData.eqv]
theorem blsOf_B : ∀ xs : List Bool, blsOf (xs.map D.bl) = some xs
  | [] => rfl
  | x :: xs => by simp only [List.map_cons, blsOf]; rw [blsOf_B xs]; rfl
theorem atI_I {xs : List Int} {i : Nat} {x : Int} (e : xs[i]? = some x) : atI (I xs) (i : Int) = some (.int x) := atI_nat (by rw [I_get, e]; rfl)
theorem rangeL_eq : ∀ (n : Nat) (a : Int), rangeL a n = I ((List.range n).map fun i => a + ((i : Nat) : Int))
  | 0, a => rfl
  | n + 1, a => by
    rw [rangeL, rangeL_eq n (a + 1), List.range_succ_eq_map]
    simp only [I, List.map_cons, List.map_map]
    congr 1
    · simp
    · apply List.map_congr_left
      intro i _
      simp only [Function.comp]
      congr 1
      omega
def good : Nat → D → Prop
  | 0, .non => True
  | 0, .bl _ => True
  | 0, .int _ => True
  | 0, .str x => PyData.strOk x = true
  | 0, _ => False
  | _ + 1, .non => True
  | _ + 1, .bl _ => True
  | _ + 1, .int _ => True
  | _ + 1, .str x => PyData.strOk x = true
  | n + 1, .tup xs => xs.length ≤ 100000 ∧ ∀ x ∈ xs, good n x
  | n + 1, .lv xs => xs.length ≤ 100000 ∧ ∀ x ∈ xs, good n x
  | _ + 1, _ => False
theorem sz5 {n : Nat} (h : n ≤ 100000) : n ≤ sizeLine := Nat.le_trans h (by decide)
theorem zipL_self : ∀ xs : List D, zipL xs xs = xs.map fun x => D.tup [x, x]
  | [] => rfl
  | x :: xs => by simp [zipL, zipL_self xs]
def NI (A : List Nat) : List D := A.map fun x => D.int ((x : Nat) : Int)
def PS (st : List (Nat × Nat)) : List D := st.map fun I => D.tup [.int ((I.1 : Nat) : Int), .int ((I.2 : Nat) : Int)]
@[simp] theorem NI_len (A : List Nat) : (NI A).length = A.length := by simp [NI]
@[simp] theorem PS_len (A : List (Nat × Nat)) : (PS A).length = A.length := by simp [PS]
theorem NI_I (A : List Nat) : NI A = I (A.map fun x => ((x : Nat) : Int)) := by simp [NI, I]
theorem i2 : in64 2 = true := by decide
theorem patD_two (i j : Nat) (a b : D) (s : Ev) : patD (.tp [.nm i, .nm j]) (.tup [a, b]) s = some ((s.set i (some a)).set j (some b)) := by simp [patD, patDs, patN]
theorem set_last {α : Type} (h : List α) (x y : α) : (h ++ [x]).set h.length y = h ++ [y] := by
  rw [List.set_append_right _ _ (Nat.le_refl _)]; simp
theorem last_get {α : Type} (h : List α) (x : α) : (h ++ [x])[h.length]? = some x := by simp
theorem getD_some {xs : List Int} {i : Nat} (h : i < xs.length) : xs[i]? = some (xs.getD i 0) := by simp [List.getD_eq_getElem?_getD, h]
theorem in62_nat {n : Nat} (h : n ≤ 100000) : in62 (n : Int) = true := by unfold in62; rw [decide_eq_true (by omega), decide_eq_true (by omega)]; rfl
theorem rangeL_at {n i : Nat} (d : D) (e : (rangeL 0 n)[i]? = some d) : i < n ∧ d = .int i := by
  rw [rangeL_eq, I_get] at e
  rcases Nat.lt_or_ge i n with q | q
  · simp [q] at e; exact ⟨q, e.symm⟩
  · simp [q] at e
theorem rangeL_len (n : Nat) (a : Int) : (rangeL a n).length = n := by rw [rangeL_eq]; simp
theorem two_sz : (2 : Nat) ≤ sizeLine := by decide
theorem catP_lv {xs ys : List D} {h : Hd} (hl : xs.length + ys.length ≤ sizeLine) : addP false (.lv xs) (.lv ys) h = some (.lv (xs ++ ys), h) := by
  simp only [addP, lstOf, if_pos hl, mkL, Bool.false_eq_true, if_false]
theorem Drawn.to {b : Nat} {h h1 h2 : Hd} {n k m j J : Nat} (x : Drawn b h h1 n k) (y : Drawn b h1 h2 m j) (hm : m + j ≤ n + J) : Drawn b h h2 n J :=
  ⟨y.len.trans x.len, fun q hq => (y.oth q hq).trans (x.oth q hq), y.box.mono hm⟩
/-- lists of tuples of ints -/
def T2 (xss : List (List Int)) : List D := xss.map fun xs => D.tup (I xs)
@[simp] theorem T2_len (xss : List (List Int)) : (T2 xss).length = xss.length := by simp [T2]
theorem T2_app (a b : List (List Int)) : T2 (a ++ b) = T2 a ++ T2 b := by simp [T2]
theorem seq_lv {f : EF} {s : Ev} {h h1 : Hd} {xs : List D} (e : f s h = .ok (.lv xs) h1) : i_seq f s h = .ok xs h1 := by simp only [i_seq, e, bind_ok]
theorem catT {xs ys : List D} {h : Hd} (hl : xs.length + ys.length ≤ 100000) : addP false (.tup xs) (.tup ys) h = some (.tup (xs ++ ys), h) := by
  simp only [addP, if_pos (sz5 hl)]
theorem tupleP_lv {xs : List D} {h : Hd} : tupleP [.lv xs] h = some (.tup xs, h) := by simp only [tupleP, asL]
theorem one_sz : (1 : Nat) ≤ sizeLine := by decide
theorem pyDs_T2 : ∀ L : List (List Int), pyDs (T2 L) = some (L.map fun xs => PyData.tuple (xs.map PyData.int))
  | [] => rfl
  | x :: xs => by rw [show T2 (x :: xs) = D.tup (I x) :: T2 xs from rfl]; simp only [List.map_cons, pyDs, pyD, pyDs_I, Option.map_some]; rw [pyDs_T2 xs]
end Mini
namespace Mini
open PySem PySem.Spec PyProof.Rows L2
def lcM2 (p : Pat) (tt : TF) (i1 : AF) (own1 : List Nat) (p1 : Pat) (tt1 : TF) (te : EF) (s0 : Ev) : List D → List D → Hd → Option (List D × Hd)
  | [], acc, h => some (acc, h)
  | d :: r, acc, h => match patD p d s0 with
    | some s1 => (match tt s1 h with
      | .ok true h1 => (match i1 s1 h1 with
        | .ok items h2 => (match lcM p1 tt1 te (wipeD s1 own1) items acc h2 with
          | some (acc', h3) => lcM2 p tt i1 own1 p1 tt1 te s0 r acc' h3
          | none => none)
        | _ => none)
      | .ok false h1 => lcM2 p tt i1 own1 p1 tt1 te s0 r acc h1
      | _ => none)
    | none => none
def endL (r : Option (List D × Hd)) : Res D := match r with
  | some (ys, h2) => Res.ok (.lv ys) h2
  | none => Res.fail
def e_lc2 (own : List Nat) (i : AF) (p : Pat) (tt : TF) (i1 : AF) (own1 : List Nat) (p1 : Pat) (tt1 : TF) (te : EF) : EF := fun s h => (i s h).bind fun items h1 => endL (lcM2 p tt i1 own1 p1 tt1 te (wipeD s own) items [] h1)
theorem drop_cons {l : List D} {i : Nat} {d : D} (h : l[i]? = some d) : l.drop i = d :: l.drop (i + 1) := by
  have hl := (List.getElem?_eq_some_iff.mp h).1
  rw [List.drop_eq_getElem_cons hl]
  congr 1
  exact (List.getElem?_eq_some_iff.mp h).2
theorem tE.lc2 {K : Kx} {mg : Str → Option Value} {W : WX} {own own1 : List Nat} {fi fi1 : AF} {p p1 : Pat} {tt tt1 : TF} {te : EF} (hp : ∀ i ∈ patI p, i ∈ own) (hp1 : ∀ i ∈ patI p1, i ∈ own1) {σ : L2.St} {H : Hp} {Q : VK} (q : tE K mg W (e_lc2 own fi p tt fi1 own1 p1 tt1 te) σ H Q) :
    tLc2 (tI K mg W fi) (patG K p) (tT K mg W0 tt) (tI K mg W0 fi1) (patG K p1) (tT K mg W0 tt1) (tE K mg W0 te) own own1 σ H Q := by
  obtain ⟨rho, h, s, R, S, po⟩ := q
  refine step R S po fun rho0 h0 H0 items e0 R0 S0 po0 J sv => fun Dl np => ?_
  refine ⟨fun i k H => i + k = items.length ∧ ∃ rho h acc us, Ext K rho0 h0 H0 rho h H ∧ rho.Z Dl ∧ Rel K rho h H ∧ H Dl = some (.lst us) ∧ RelVs' K rho h H acc us ∧
      PostG K mg (fun c d H' => W c d σ H') rho0 h0 H0 (endL (lcM2 p tt fi1 own1 p1 tt1 te (wipeD s own) (items.drop i) acc h)) (pE K Q), ?_, fun i k H q => ?_⟩
  · exact ⟨items.length, by simp, zAdd rho0 Dl, h0, [], [], Ext.zin R0 np, .inr rfl, R0.zin np, upd_same, by simp only [RelVs', RelDs], by simpa using po0⟩
  · obtain ⟨hk, rho1, h1, acc, us, x1, hz, R1, hD, ra, po1⟩ := q
    have nD : ∀ m, live h1 m = true → rho1 m ≠ Dl := fun m hm q => R1.zc m hm (q ▸ hz)
    obtain ⟨s1, s2⟩ := sv rho1 h1 H x1.z R1 i
    cases hi : items[i]? with
    | none =>
      have hl : items.length ≤ i := List.getElem?_eq_none_iff.mp hi
      rw [List.drop_eq_nil_of_le hl] at po1
      refine .inl ⟨s2 hl, po1 (zDel rho1 Dl) H (Ext.zdel R0 x1 np) R1.zdel _ ?_⟩
      simp only [RelV', RelD]
      exact ⟨Dl, us, rfl, ⟨hD, fun z => z.2 rfl, nD⟩, RelDs.zdel _ _ _ ra⟩
    | some d =>
      have hl : i < items.length := (List.getElem?_eq_some_iff.mp hi).1
      rw [drop_cons hi] at po1
      obtain ⟨go, yl⟩ := s1 d hi
      refine .inr ⟨go, fun H' => ∃ rho h acc us, Ext K rho0 h0 H0 rho h H' ∧ rho.Z Dl ∧ Rel K rho h H' ∧ H' Dl = some (.lst us) ∧ RelVs' K rho h H' acc us ∧
          PostG K mg (fun c d H' => W c d σ H') rho0 h0 H0 (endL (lcM2 p tt fi1 own1 p1 tt1 te (wipeD s own) (items.drop (i + 1)) acc h)) (pE K Q),
        fun H' z => ⟨k - 1, by omega, by omega, z⟩, fun x H2 y => ?_⟩
      obtain ⟨e2, R2, r⟩ := yl x H2 y
      have hD2 := e2.kp _ _ hD nD
      simp only [lcM2] at po1
      cases q : patD p d (wipeD s own) with
      | none => simp only [q] at po1; exact po1.elim
      | some s1' =>
        simp only [q] at po1
        have x2 := x1.trans e2
        obtain ⟨σ', S', z, wp⟩ := patG_ok p d x (wipeD s own) s1' (wipe σ own) r (RelS.wipe (x2.s S0) own) q
        refine z _ ⟨by rw [wp own hp, wipe_wipe], rho1, h1, s1', R2, S', ?_⟩
        cases qt : tt s1' h1 with
        | fail => simp only [qt] at po1; exact po1.elim
        | exc _ _ => simp only [qt] at po1; exact po1.elim
        | ok c h2 =>
          simp only [qt] at po1
          intro rho3 H3 e3 R3
          have hz3 : rho3.Z Dl := e3.zi _ hz
          have hD3 := e3.kp _ _ hD2 nD
          have nD3 : ∀ m, live h2 m = true → rho3 m ≠ Dl := fun m hm q => R3.zc m hm (q ▸ hz3)
          cases c with
          | false => exact iteF ⟨rho3, h2, acc, us, x2.trans e3, hz3, R3, hD3, (e2.trans e3).vs ra, po1⟩
          | true =>
            refine iteT ⟨rho3, h2, s1', R3, e3.s S', ?_⟩
            cases qi : fi1 s1' h2 with
            | fail => simp only [qi] at po1; exact po1.elim
            | exc _ _ => simp only [qi] at po1; exact po1.elim
            | ok its h3 =>
              simp only [qi] at po1
              intro rho4 H4 e4 R4 J1 sv1
              have S4 := e4.s (e3.s S')
              have hD4 := e4.kp _ _ hD3 nD3
              have hz4 : rho4.Z Dl := e4.zi _ hz3
              have ra4 := (e2.trans (e3.trans e4)).vs ra
              have x4 := x2.trans (e3.trans e4)
              refine ⟨fun j k H => j + k = its.length ∧ ∃ rho h acc us, ExtZ K rho4 h3 H4 rho h H ∧ rho.Z Dl ∧ Ext K rho0 h0 H0 rho h H ∧ Rel K rho h H ∧ H Dl = some (.lst us) ∧ RelVs' K rho h H acc us ∧
                  PostG K mg (fun c d H' => W c d σ H') rho0 h0 H0 (endL (match lcM p1 tt1 te (wipeD s1' own1) (its.drop j) acc h with
                    | some (acc', h3) => lcM2 p tt fi1 own1 p1 tt1 te (wipeD s own) (items.drop (i + 1)) acc' h3
                    | none => none)) (pE K Q), ⟨its.length, by simp, rho4, h3, acc, us, Ext.refl.z, hz4, x4, R4, hD4, ra4, by simpa using po1⟩, fun j k H q => ?_⟩
              obtain ⟨hk1, rho5, h5, acc5, us5, x5, hz5, X5, R5, hD5, ra5, po5⟩ := q
              have nD5 : ∀ m, live h5 m = true → rho5 m ≠ Dl := fun m hm q => R5.zc m hm (q ▸ hz5)
              obtain ⟨t1, t2⟩ := sv1 rho5 h5 H x5 R5 j
              cases hj : its[j]? with
              | none =>
                have hl : its.length ≤ j := List.getElem?_eq_none_iff.mp hj
                rw [List.drop_eq_nil_of_le hl] at po5
                exact .inl ⟨t2 hl, rho5, h5, acc5, us5, X5, hz5, R5, hD5, ra5, po5⟩
              | some d1 =>
                have hl : j < its.length := (List.getElem?_eq_some_iff.mp hj).1
                rw [drop_cons hj] at po5
                obtain ⟨go1, yl1⟩ := t1 d1 hj
                refine .inr ⟨go1, fun H' => ∃ rho h acc us, ExtZ K rho4 h3 H4 rho h H' ∧ rho.Z Dl ∧ Ext K rho0 h0 H0 rho h H' ∧ Rel K rho h H' ∧ H' Dl = some (.lst us) ∧ RelVs' K rho h H' acc us ∧
                    PostG K mg (fun c d H' => W c d σ H') rho0 h0 H0 (endL (match lcM p1 tt1 te (wipeD s1' own1) (its.drop (j + 1)) acc h with
                      | some (acc', h3) => lcM2 p tt fi1 own1 p1 tt1 te (wipeD s own) (items.drop (i + 1)) acc' h3
                      | none => none)) (pE K Q),
                  fun H' z => ⟨k - 1, by omega, by omega, z⟩, fun x H6 y => ?_⟩
                obtain ⟨e6, R6, r1⟩ := yl1 x H6 y
                have hD6 := e6.kp _ _ hD5 nD5
                simp only [lcM] at po5
                cases q1 : patD p1 d1 (wipeD s1' own1) with
                | none => simp only [q1] at po5; exact po5.elim
                | some s2' =>
                  simp only [q1] at po5
                  obtain ⟨σ2, S2, z2, wp2⟩ := patG_ok p1 d1 x (wipeD s1' own1) s2' (wipe σ' own1) r1 (RelS.wipe ((x5.trans e6.z).s S4) own1) q1
                  refine z2 _ ⟨by rw [wp2 own1 hp1, wipe_wipe], rho5, h5, s2', R6, S2, ?_⟩
                  cases qt1 : tt1 s2' h5 with
                  | fail => simp only [qt1] at po5; exact po5.elim
                  | exc _ _ => simp only [qt1] at po5; exact po5.elim
                  | ok c1 h6 =>
                    simp only [qt1] at po5
                    intro rho7 H7 e7 R7
                    have hz7 : rho7.Z Dl := e7.zi _ hz5
                    have hD7 := e7.kp _ _ hD6 nD5
                    cases c1 with
                    | false => exact iteF ⟨rho7, h6, acc5, us5, x5.trans (e6.trans e7).z, hz7, X5.trans (e6.trans e7), R7, hD7, (e6.trans e7).vs ra5, po5⟩
                    | true =>
                      refine iteT ⟨rho7, h6, s2', R7, e7.s S2, ?_⟩
                      cases qe : te s2' h6 with
                      | fail => simp only [qe] at po5; exact po5.elim
                      | exc _ _ => simp only [qe] at po5; exact po5.elim
                      | ok yv h8 =>
                        simp only [qe] at po5
                        intro rho8 H8 e8 R8 v rv
                        have nD7 : ∀ m, live h6 m = true → rho7 m ≠ Dl := fun m hm q => R7.zc m hm (q ▸ hz7)
                        have hD8 := e8.kp _ _ hD7 nD7
                        have hz8 : rho8.Z Dl := e8.zi _ hz7
                        have ra8 := (e6.trans (e7.trans e8)).vs ra5
                        by_cases hlen : acc5.length < sizeLine
                        · simp only [hlen, if_true] at po5
                          refine ⟨us5, hD8, by rw [← RelDs.length ra5]; exact hlen, rho8, h8, acc5 ++ [yv], us5 ++ [v], ?_, hz8, (X5.trans (e6.trans (e7.trans e8))).over np, R8.grow hD8 hz8, upd_same, ?_, po5⟩
                          · exact (x5.trans (e6.trans (e7.trans e8)).z).grow hD4 hz4
                          · refine RelDs.append (RelDs.grow hD8 hz8 _ _ _ ra8) ?_
                            simp only [RelDs]
                            exact ⟨v, [], rfl, RelD.grow hD8 hz8 _ _ _ rv, rfl⟩
                        · simp only [hlen, if_false] at po5; exact po5.elim
section
variable {X : Cx} {W : WX} {elt tg iter tg1 iter1 : Expr} {ifs ifs1 : List Expr} {scope : Scope} {own : List (Str × Nat)} {pos : Pos} {fi fi1 : AF} {p p1 : Pat} {tt tt1 : TF} {te : EF}
/-- what the second clause asks of its parts -/
structure Blk2 (X : Cx) (scope : Scope) (tg iter : Expr) (ifs : List Expr) (fi : AF) (p : Pat) (tt : TF) : Prop where
  hi : ∀ (s : Shared) (H : Hp) (C : Addr) (cl : List (Str × Addr)) (fp : List Addr), SI (X.blk s H scope (compEnvC scope cl C X.env) fp) W0 tg iter fi
  hg : ∀ (s : Shared) (H : Hp) (C : Addr) (cl : List (Str × Addr)) (fp : List Addr), SG (X.blk s H scope (compEnvC scope cl C X.env) fp) tg p
  ht : ∀ (s : Shared) (H : Hp) (C : Addr) (cl : List (Str × Addr)) (fp : List Addr), PTs (X.blk s H scope (compEnvC scope cl C X.env) fp) ifs (tT (kx X) X.mg W0 tt)
theorem r_lc2 {oi oi1 : List Nat} (hN : X.N.Nodup) (hc : X.calm = true) (hi : SI X W tg iter fi) (ok : BlkOk X.N X.env.scope scope own) (b : Blk X scope tg ifs elt p tt te) (b1 : Blk2 X scope tg1 iter1 ifs1 fi1 p1 tt1) (hp : ∀ i ∈ patI p, i ∈ oi) (hp1 : ∀ i ∈ patI p1, i ∈ oi1) (hv : ∀ i ∈ oi1, i ∈ oi)
    (ho : own.map (·.2) = oi := by rfl) (hs : ∀ x, foldedSetIterable iter X.env x = pure x := by intro _; rfl) (hs1 : ∀ env x, foldedSetIterable iter1 env x = pure x := by intro _ _; rfl) :
    SE X W (.ListComp elt [⟨tg, iter, ifs, 0⟩, ⟨tg1, iter1, ifs1, 0⟩] scope pos) (e_lc2 oi fi p tt fi1 oi1 p1 tt1 te) := by
  subst ho
  exact PE.imp (pe_lc2 hc hN hi ok hv b.hg b.ht b1.hi b1.hg b1.ht b.he hs hs1) fun _ _ _ h => tE.lc2 hp hp1 h
end
section
variable {K : Kx} {rho : Rh} {h : Hd} {H : Hp} {B : Nat}
theorem RelDs.lift {us us' : List V} (p : us'.Perm us) : ∀ {ds : List D}, RelDs K rho h B H ds us → ∃ es, es.Perm ds ∧ RelDs K rho h B H es us' := by
  induction p with
  | nil => intro ds r; exact ⟨ds, .refl _, r⟩
  | cons x p ih =>
    intro ds r
    cases ds with
    | nil => simp only [RelDs] at r; cases r
    | cons d ds =>
      simp only [RelDs] at r
      obtain ⟨v, rr, e1, e2, e3⟩ := r
      cases e1
      obtain ⟨es, p1, p2⟩ := ih e3
      exact ⟨d :: es, p1.cons d, by simp only [RelDs]; exact ⟨_, _, rfl, e2, p2⟩⟩
  | swap x y l =>
    intro ds r
    match ds, r with
    | [], r => simp only [RelDs] at r; cases r
    | [d], r => simp only [RelDs] at r; obtain ⟨v, rr, e1, e2, e3⟩ := r; cases e1; cases e3
    | d :: e :: ds, r =>
      simp only [RelDs] at r
      obtain ⟨v, rr, e1, e2, v', rr', e3, e4, e5⟩ := r
      cases e1
      cases e3
      exact ⟨e :: d :: ds, .swap d e ds, by simp only [RelDs]; exact ⟨_, _, rfl, e4, _, _, rfl, e2, e5⟩⟩
  | trans p q ih1 ih2 =>
    intro ds r
    obtain ⟨es, a, b⟩ := ih2 r
    obtain ⟨fs, c, d⟩ := ih1 b
    exact ⟨fs, c.trans a, d⟩
end
end Mini
namespace PySem
open AutoSeq1
/-- xs.extend(t), t a tuple, whatever its dict and slots -/
theorem meets_extendT (l b : Addr) (xs ys : Array Value) (n m : Nat) (dct : Option Addr) (sl : Array (Option Value)) (hs0 : ¬(!xs.isEmpty && Builtin.List.listTooLong (xs.size + ys.size)) = true) (hs1 : xs.size ≤ sizeLine) (hs2 : xs.size + ys.size ≤ sizeLine + 1) :
    Meets (Builtin.«list.extend» ⟨[.ref l, .ref b], []⟩) (fun _ R s => s.heap.get? l = some { cls := .type "list", dict := none, data := .seq xs n, slots := #[] } ∧ s.heap.get? b = some { cls := .type "tuple", dict := dct, data := .seq ys m, slots := sl } ∧ R (.ok (.ret Value.none)) { s with heap := s.heap.update l (Obj.mapSeq fun x => x ++ ys), toks := s.toks }) :=
  .of_wp fun prog w A R s q => by
    obtain ⟨hp, g, d, tk, os⟩ := s
    obtain ⟨hl, hb, q⟩ := q
    have f1 := idx_int
    have f2 := sub_tuple_tuple
    have f3 := sub_list_list
    have f4 := sub_tuple_list
    have f5 := sub_list_tuple
    have hz : (xs ++ ys).size ≤ sizeLine + 1 := by rw [Array.size_append]; exact hs2
    wp_walk using (wpAny_updateSeq hl rfl (hz := hs1) (_hz' := hz)), wpAny_loadPart' hl, wpAny_loadPart' hb
    exact ⟨_, rfl, q⟩
end PySem
namespace Mini
open PySem PySem.Spec PyProof.Rows L2
theorem reads_ints {h : Heap} : ∀ {ns : List Int} {its : List Value}, Vals (ns.map V.int) its → ReadsAll h its (ns.map PyData.int) []
  | [], its, r => by cases r; exact .nil
  | n :: ns, its, r => by
    cases r with
    | cons r rr =>
      obtain ⟨t, rfl⟩ := r
      exact ReadsAll.cons (as := []) (bs := []) (.int n t) (reads_ints rr)
theorem alike_ints (ns : List Int) : PySem.W.AlikeAll (ns.map PyData.int) := by
  refine ⟨fun x hx y hy => ?_, fun x hx => ?_⟩
  · obtain ⟨a, _, rfl⟩ := List.mem_map.mp hx
    obtain ⟨b, _, rfl⟩ := List.mem_map.mp hy
    rfl
  · obtain ⟨a, _, rfl⟩ := List.mem_map.mp hx
    intro e; cases e
theorem depth_ints : ∀ ns : List Int, PyData.depthAll (ns.map PyData.int) = 0
  | [] => by simp [PyData.depthAll]
  | x :: xs => by simp only [List.map_cons, PyData.depthAll, PyData.depth, depth_ints xs]; rfl
def rMinT (K : PySem.W.Frag) : List V → Hp → VK → Prop := fun vs H Q => ∃ (a : Addr) (n : Int) (ns : List Int), vs = [V.ref a] ∧ SqT K H a ((n :: ns).map V.int) ∧ Q (.int (ns.foldl min n)) H
def rMaxT (K : PySem.W.Frag) : List V → Hp → VK → Prop := fun vs H Q => ∃ (a : Addr) (n : Int) (ns : List Int), vs = [V.ref a] ∧ SqT K H a ((n :: ns).map V.int) ∧ Q (.int (ns.foldl max n)) H
section
variable {X : Cx}
theorem cr_minT (hc : X.calm = true) (hu : X.A.units + 1 < cLine) : CallR X (.builtin "min") (rMinT X.K) := by
  intro pins s σ H vs us Q I r h
  obtain ⟨a, n, ns, rfl, hs, q⟩ := h
  obtain ⟨its, rv, ht, _⟩ := I.tuple hs
  rw [Vals.ref1 r]
  refine PySem.W.min_tuple_data (vs := its.toArray) (x := .int n) (xs := ns.map PyData.int) (as := []) (I.ok.hd hc) ht (by simpa using reads_ints rv) (alike_ints (n :: ns)) (by have := depth_ints (n :: ns); simp only [List.map_cons] at this; rw [this]; omega) fun i v h' tk bs hv rd hk => ?_
  rw [PySem.W.minD_ints] at rd
  cases rd with
  | int i t => exact ⟨.int _, H, I.kept hk, ⟨_, rfl⟩, q⟩
theorem cr_maxT (hc : X.calm = true) (hu : X.A.units + 1 < cLine) : CallR X (.builtin "max") (rMaxT X.K) := by
  intro pins s σ H vs us Q I r h
  obtain ⟨a, n, ns, rfl, hs, q⟩ := h
  obtain ⟨its, rv, ht, _⟩ := I.tuple hs
  rw [Vals.ref1 r]
  refine PySem.W.max_tuple_data (vs := its.toArray) (x := .int n) (xs := ns.map PyData.int) (as := []) (I.ok.hd hc) ht (by simpa using reads_ints rv) (alike_ints (n :: ns)) (by have := depth_ints (n :: ns); simp only [List.map_cons] at this; rw [this]; omega) fun i v h' tk bs hv rd hk => ?_
  rw [PySem.W.maxD_ints] at rd
  cases rd with
  | int i t => exact ⟨.int _, H, I.kept hk, ⟨_, rfl⟩, q⟩
end
theorem foldl_min_mem : ∀ (ns : List Int) (n : Int), ns.foldl min n ∈ n :: ns ∧ ∀ y ∈ n :: ns, ns.foldl min n ≤ y
  | [], n => by simp
  | m :: ns, n => by
    obtain ⟨a, b⟩ := foldl_min_mem ns (min n m)
    have h1 := b (min n m) (by simp)
    simp only [List.foldl_cons]
    refine ⟨?_, fun y hy => ?_⟩
    · rcases List.mem_cons.mp a with e | e
      · rw [e]
        by_cases q : n ≤ m
        · rw [Int.min_eq_left q]; simp
        · rw [Int.min_eq_right (by omega)]; simp
      · simp [e]
    · rcases List.mem_cons.mp hy with rfl | hy
      · omega
      · rcases List.mem_cons.mp hy with rfl | hy
        · omega
        · exact b y (by simp [hy])
theorem foldl_max_mem : ∀ (ns : List Int) (n : Int), ns.foldl max n ∈ n :: ns ∧ ∀ y ∈ n :: ns, y ≤ ns.foldl max n
  | [], n => by simp
  | m :: ns, n => by
    obtain ⟨a, b⟩ := foldl_max_mem ns (max n m)
    have h1 := b (max n m) (by simp)
    simp only [List.foldl_cons]
    refine ⟨?_, fun y hy => ?_⟩
    · rcases List.mem_cons.mp a with e | e
      · rw [e]
        by_cases q : n ≤ m
        · rw [Int.max_eq_right q]; simp
        · rw [Int.max_eq_left (by omega)]; simp
      · simp [e]
    · rcases List.mem_cons.mp hy with rfl | hy
      · omega
      · rcases List.mem_cons.mp hy with rfl | hy
        · omega
        · exact b y (by simp [hy])
def minP : PL := fun ds h => match ds with
  | [d] => match (asS d h).bind intsOf with
    | some (n :: ns) => some (.int (ns.foldl min n), h)
    | _ => none
  | _ => none
def maxP : PL := fun ds h => match ds with
  | [d] => match (asS d h).bind intsOf with
    | some (n :: ns) => some (.int (ns.foldl max n), h)
    | _ => none
  | _ => none
section
variable {X : Cx}
theorem c_min (hu : X.A.units + 1 < cLine) (hc : X.calm = true) : CallR X (.builtin "min") (rC (kx X) minP) := CallR.imp' ((cr_min hc).or (cr_minT hc hu)) fun xs H Q q => by
  obtain ⟨rho, h, ds, R, r, po⟩ := q
  unfold minP at po
  split at po
  · rename_i d
    cases qa : asS d h with
    | none => rw [qa] at po; exact po.elim
    | some ys =>
      rw [qa] at po
      simp only [Option.bind_some] at po
      split at po
      · rename_i n ns qi
        obtain ⟨v, e, r⟩ := rel1 r
        obtain ⟨a, us, e1, e2, e3⟩ := asS_ok R r qa
        subst e1
        have eu := intsOf_ok e3 qi
        subst eu
        have po' := PostP.here po R (relInt _)
        rcases e2 with e2 | e2
        · refine .inl ⟨a, n :: ns, e, e2, by simp, fun m hm hy => ?_⟩
          obtain ⟨f1, f2⟩ := foldl_min_mem ns n
          have : m = ns.foldl min n := Int.le_antisymm (hy _ f1) (f2 m hm)
          rw [this]
          exact po'
        · exact .inr ⟨a, n, ns, e, e2, po'⟩
      · exact po.elim
  · exact po.elim
theorem c_max (hu : X.A.units + 1 < cLine) (hc : X.calm = true) : CallR X (.builtin "max") (rC (kx X) maxP) := CallR.imp' ((cr_max hc).or (cr_maxT hc hu)) fun xs H Q q => by
  obtain ⟨rho, h, ds, R, r, po⟩ := q
  unfold maxP at po
  split at po
  · rename_i d
    cases qa : asS d h with
    | none => rw [qa] at po; exact po.elim
    | some ys =>
      rw [qa] at po
      simp only [Option.bind_some] at po
      split at po
      · rename_i n ns qi
        obtain ⟨v, e, r⟩ := rel1 r
        obtain ⟨a, us, e1, e2, e3⟩ := asS_ok R r qa
        subst e1
        have eu := intsOf_ok e3 qi
        subst eu
        have po' := PostP.here po R (relInt _)
        rcases e2 with e2 | e2
        · refine .inl ⟨a, n :: ns, e, e2, by simp, fun m hm hy => ?_⟩
          obtain ⟨f1, f2⟩ := foldl_max_mem ns n
          have : m = ns.foldl max n := Int.le_antisymm (f2 m hm) (hy _ f1)
          rw [this]
          exact po'
        · exact .inr ⟨a, n, ns, e, e2, po'⟩
      · exact po.elim
  · exact po.elim
end
def rExtT (K : PySem.W.Frag) : V → List V → Hp → VK → Prop := fun x vs H Q => ∃ l b xs zs, x = .ref l ∧ vs = [.ref b] ∧ H l = some (.lst xs) ∧ SqT K H b zs ∧ xs.length + zs.length ≤ sizeLine ∧ Q .non (upd H l (.lst (xs ++ zs)))
section
variable {X : Cx}
theorem mt_extT : MtM X "list.extend" (rExtT X.K) := by
  intro pins s σ H x vs v us Q I rx rv q
  obtain ⟨l, b, xs, zs, rfl, rfl, hH, hB, hz, q⟩ := q
  cases rx
  obtain ⟨u, rfl, ru⟩ := rv.one
  cases ru
  obtain ⟨z, its, n, r, hl, e⟩ := I.lstM hH
  obtain ⟨its2, r2, ⟨⟨oc, od, dt, osl⟩, ho, hc, m, hd⟩, hz2⟩ := I.tuple hB
  replace hc : oc = .type "tuple" := hc
  replace hd : dt = .seq its2.toArray m := hd
  subst hc hd
  have hl2 : zs.length = its2.length := r2.length
  have hsz : its.toArray.size + its2.toArray.size ≤ sizeLine := by rw [List.size_toArray, List.size_toArray]; omega
  have hlong : ¬ (!its.toArray.isEmpty && Builtin.List.listTooLong (its.toArray.size + its2.toArray.size)) = true := by
    rw [notLongL hsz, Bool.and_false]
    exact Bool.false_ne_true
  refine call_meets F.slot_list_extend ⟨_, e, rfl⟩ F.entry_list_extend (F.args_list_extend_2 _ _) (meets_extendT l b its.toArray its2.toArray n m od osl hlong (by rw [List.size_toArray]; omega) (by omega)) ⟨e, ho, ?_⟩
  refine ⟨.non, _, I.lset (its' := its ++ its2) hH e (by simp) (r.append r2) ?_, rfl, q⟩
  rw [List.length_append]
  omega
end
def notFl (d : D) : Bool := match d with
  | .fl _ => false
  | _ => true
def extP : PM := fun x ds h => match x, ds with
  | .ref n, [d] => (match h[n]?, asV d with
    | some (.lst xs), some (_, ys) => if notFl d && noRefs ys && decide (xs.length + ys.length ≤ sizeLine) then some (.non, h.set n (.lst (xs ++ ys))) else none
    | _, _ => none)
  | _, _ => none
section
variable {X : Cx}
theorem m_ext : MtR X "list.extend" (rM (kx X) extP) := MtR.imp' (MtR.or mt_extend mt_extT) fun x xs H Q q => by
  obtain ⟨rho, h, d, ds, R, r, rs, po⟩ := q
  unfold extP at po
  split at po
  · rename_i n e
    split at po
    · rename_i ys l ws qx qa
      by_cases hl : (notFl e && noRefs ws && decide (ys.length + ws.length ≤ sizeLine)) = true
      · rw [if_pos hl] at po
        rw [Bool.and_eq_true, Bool.and_eq_true] at hl
        obtain ⟨us, a, b⟩ := RelC.cell R qx
        simp only [RelV', RelD] at r
        obtain ⟨v, ev, rv⟩ := rel1 rs
        cases e with
        | lv zs =>
          simp only [asV, Option.some.injEq, Prod.mk.injEq] at qa
          obtain ⟨_, rfl⟩ := qa
          simp only [RelV', RelD] at rv
          obtain ⟨c, vs, f1, f2, f3⟩ := rv
          subst f1
          obtain ⟨x', R'⟩ := setCell R qx a (RelDs.append b (RelDs.noref (fun _ q => q) _ _ _ _ hl.1.2 f3))
          exact .inl ⟨rho n, c, us, vs, r.2, ev, a, f2.1, by rw [← RelDs.length b, ← RelDs.length f3]; exact of_decide_eq_true hl.2, po rho _ _ x' R' relNon⟩
        | tup zs =>
          simp only [asV, Option.some.injEq, Prod.mk.injEq] at qa
          obtain ⟨_, rfl⟩ := qa
          obtain ⟨c, vs, f1, f2, f3⟩ := rv.tup
          subst f1
          obtain ⟨x', R'⟩ := setCell R qx a (RelDs.append b (RelDs.noref (fun _ q => q) _ _ _ _ hl.1.2 f3))
          exact .inr ⟨rho n, c, us, vs, r.2, ev, a, f2, by rw [← RelDs.length b, ← RelDs.length f3]; exact of_decide_eq_true hl.2, po rho _ _ x' R' relNon⟩
        | fl zs => exact absurd hl.1.1 (by simp [notFl])
        | _ => simp [asV] at qa
      · rw [if_neg hl] at po; exact po.elim
    · exact po.elim
  · exact po.elim
end
theorem room1 {k : Nat} {A : Around} (r : Room k A) : A.units + 1 < cLine := by have := r.un; omega
end Mini
namespace Mini
open PySem PySem.Spec PyProof.Rows L2
def s_par3 (i j l : Nat) (a : AF) : SF := fun s h => bindE (a s h) s fun ds h1 => match ds with
  | [x, y, z] => .ok (.nx (((s.set i (some x)).set j (some y)).set l (some z))) h1
  | _ => .fail
theorem par3_ok {s : Ev} {h h1 : Hd} {d1 d2 d3 : D} {a : AF} {i j l : Nat} (e1 : a s h = .ok [d1, d2, d3] h1) : s_par3 i j l a s h = .ok (.nx (((s.set i (some d1)).set j (some d2)).set l (some d3))) h1 := by simp only [s_par3, e1, bindE_ok]
end Mini
namespace Mini
open PySem PySem.Spec PyProof.Rows L2
section
variable {prog : Program} {w : World} {A : Around} {E : Value → Shared → Prop} {s : Shared}
theorem collect_tup {l : Addr} {vs : List Value} {Q : List Value → Shared → Prop} (hl : IsTup s.heap l vs.toArray)
    (h : Q vs { s with heap := (s.heap.push (seqObj "list" #[] 0)).update s.heap.objs.size (Obj.mapSeq (· ++ vs.toArray)) }) (hsz : vs.length ≤ sizeLine) :
    wpAny (model prog w) A (collect (.ref l)) Q E s := by
  obtain ⟨o, ho, hc, n, hd⟩ := id hl
  unfold collect
  refine wpAny_bind (wpAny_runValue (codeAny_builtin entry_proto_collect' ?_))
  show wpAny _ _ (do again (.builtin "list.__iadd__" ⟨[← newList [], .ref l], []⟩)) _ _ s
  refine wpAny_bind (wpAny_newList (wpAny_pure ⟨Code.quiet_builtin _ (by decide +kernel), codeAny_builtin entry_list_iadd' ?_⟩))
  show wpAny _ _ (Builtin.List.listExtendWith (.ref s.heap.objs.size) (.ref l) (.ref s.heap.objs.size)) _ _ { s with heap := s.heap.push (seqObj "list" #[] 0) }
  unfold Builtin.List.listExtendWith
  have ho' : (s.heap.push (seqObj "list" #[] 0)).get? l = some o := Heap.get?_push_of_some _ ho
  refine wpAny_bind (wpAny_typeOf (T := "tuple") ⟨o, ho', hc⟩ ?_)
  have ht : (Value.type "tuple" == Value.type "tuple") = true := by rfl
  rw [if_pos (by rw [ht]; simp)]
  refine wpAny_bind (listItems_at ho' hd ?_)
  refine wpAny_bind (listItems_at (xs := #[]) (n := 0) (Heap.get?_push_size _ rfl) rfl ?_)
  rw [if_neg (by simp)]
  refine wpAny_bind (listUpdate_at (xs := #[]) (n := 0) (Heap.get?_push_size _ rfl) rfl ?_ (Nat.zero_le _) (by show (#[] ++ vs.toArray).size ≤ sizeLine + 1; simp only [Array.size_append, List.size_toArray, List.length_nil]; omega))
  refine wpAny_pure ?_
  show wpAny (model prog w) A (do
      let o ← load s.heap.objs.size
      match o.data with
      | .seq xs _ => pure xs.toList
      | _ => unsupported "internal:collect") Q E { s with heap := (s.heap.push (seqObj "list" #[] 0)).update s.heap.objs.size (Obj.mapSeq (· ++ vs.toArray)) }
  refine wpAny_bind (wpAny_load (get?_update_seq (Heap.get?_push_size _ rfl) _) ?_)
  show wpAny _ _ (pure ((#[] : Array Value) ++ vs.toArray).toList) Q E _
  rw [show ((#[] : Array Value) ++ vs.toArray).toList = vs by simp]
  exact wpAny_pure h
theorem sorted_of_sortT {l : Addr} {vs : List Value} {Q : Value → Shared → Prop} (hl : IsTup s.heap l vs.toArray) (hL : vs.length ≤ sizeLine)
    (body : ∀ E' : Value → Shared → Prop, wpAny (model prog w) A.in1.in1 (Builtin.«list.sort» ⟨[.ref (s.heap.objs.size + 1)], []⟩) (fun f s' => f = .done (.ret .none) ∧ Q (.ref (s.heap.objs.size + 1)) s') E' { s with heap := PySem.W.copyHeap s.heap vs }) :
    wpAny (model prog w) A (call (.builtin "sorted") [.ref l]) Q E s := by
  refine Calls.call_function_entry kind_sorted plain_sorted entry_sorted (args_sorted1 _) ?_
  unfold Builtin.«sorted»
  refine wpAny_bind (m := checkCount "sorted" 1 1 _) (wpAny_pure ?_)
  refine wpAny_bind (collect_tup hl ?_ hL)
  refine wpAny_bind (wpAny_newList ?_ hL)
  have hsz : ((s.heap.push (seqObj "list" #[] 0)).update s.heap.objs.size (Obj.mapSeq (· ++ vs.toArray))).objs.size = s.heap.objs.size + 1 := by
    rw [Heap.size_update, size_push']
  show wpAny _ _ _ _ _ { s with heap := PySem.W.copyHeap s.heap vs }
  rw [hsz]
  refine wpAny_bind (wpAny_holding (wpAny_call_entry slot_list_sort ⟨_, PySem.W.copyHeap_at s.heap vs, rfl⟩ entry_list_sort ?body (args_list_sort _)))
  case body =>
    show wpAny (model prog w) A.in1.in1 (Builtin.«list.sort» ⟨[.ref (s.heap.objs.size + 1)], []⟩) _ _ _
    refine wpAny_mono (body _) (fun f s' hf => ?_) fun _ _ e => e
    obtain ⟨rfl, hq⟩ := hf
    exact ⟨_, rfl, wpAny_pure ⟨_, rfl, hq⟩⟩
theorem sorted_dataT {β : Type} {vs : List Value} {bs : List β} {enc : β → PyData} {R : Value → β → Prop} {l : Addr} {Q : Value → Shared → Prop} (hl : IsTup s.heap l vs.toArray) (e : PySem.W.EachIs R vs bs) (er : PySem.W.EachIs (fun v b => ∃ as, Reads s.heap v (enc b) as) vs bs) (hal : PySem.W.AllAlike (bs.map enc)) (hk : PySem.W.Sortable (bs.map enc)) (hL : bs.length ≤ sizeLine)
    (hu : ∀ b, b ∈ bs → A.units + 2 + (enc b).depth < cLine) (h : ∀ out, out.length = bs.length → PySem.W.EachIs R out (bs.mergeSort (PySem.W.dataLe false enc)) → Q (.ref (s.heap.objs.size + 1)) { s with heap := sortedAll s.heap vs (List.toArray out) }) :
    wpAny (model prog w) A (call (.builtin "sorted") [.ref l]) Q E s := by
  have er' : PySem.W.EachIs (fun v b => ∃ as, Reads (PySem.W.sortingHeap (PySem.W.copyHeap s.heap vs) (s.heap.objs.size + 1) vs) v (enc b) as) vs bs := er.mono fun _ _ ⟨as, r⟩ => ⟨as, PyProof.Rows.Reads.keeps (fun _ _ => PySem.W.sorting_copy_old) r⟩
  exact sorted_of_sortT hl (by rw [e.length]; exact hL) fun _ => PySem.W.list_sort_vals (s := { s with heap := PySem.W.copyHeap s.heap vs }) (PySem.W.copyHeap_at s.heap vs)
    (PySem.W.SortsAt.data (s := { s with heap := PySem.W.sortingHeap (PySem.W.copyHeap s.heap vs) (s.heap.objs.size + 1) vs }) (PySem.W.each_map (R := fun v d => ∃ as, Reads (PySem.W.sortingHeap (PySem.W.copyHeap s.heap vs) (s.heap.objs.size + 1) vs) v d as) enc er') hal hk (PySem.W.bound_map hu)) (by rw [e.length]; exact hL)
    ⟨rfl, h _ (by rw [PySem.W.sortVals_length false rfl]; exact e.length) (PySem.W.sortVals_data false e er' hal)⟩
end
def rSortD (K : PySem.W.Frag) : List V → Hp → VK → Prop := fun vs H Q => ∃ (a : Addr) (us : List V) (ps : List PyData), vs = [V.ref a] ∧ (SqL K H a us ∨ SqT K H a us) ∧ DpAll K H us ps ∧ PySem.W.AllAlike ps ∧ PySem.W.Sortable ps ∧ (∀ d ∈ ps, d.depth ≤ 60) ∧
  ∀ p : Addr, H p = none → Q (.ref p) (upd H p (.lst (((us.zip ps).mergeSort (PySem.W.dataLe false (fun b : V × PyData => b.2))).map (·.1))))
theorem zip_snd : ∀ {us : List V} {ps : List PyData} {K : PySem.W.Frag} {H : Hp}, DpAll K H us ps → (us.zip ps).map (·.2) = ps ∧ us.length = ps.length
  | _, _, _, _, .nil => ⟨rfl, rfl⟩
  | _, _, _, _, .cons _ h => by
    obtain ⟨a, b⟩ := zip_snd h
    simp only [List.zip_cons_cons, List.map_cons, a, List.length_cons, b, and_self]
theorem each_zip {X : Cx} {pins : List (Addr × Obj)} {σ : L2.St} {H : Hp} {s : Shared} (I : L2.Inv X pins σ H s) : ∀ {us : List V} {ps : List PyData} {its : List Value}, DpAll X.K H us ps → Vals us its → PySem.W.EachIs (fun u (b : V × PyData) => RelV b.1 u) its (us.zip ps) ∧ PySem.W.EachIs (fun u (b : V × PyData) => ∃ as, Reads s.heap u b.2 as) its (us.zip ps)
  | _, _, _, .nil, r => by cases r; exact ⟨.nil, .nil⟩
  | _, _, _, .cons h1 h2, r => by
    cases r with
    | cons r1 r2 =>
      obtain ⟨a, b⟩ := each_zip I h2 r2
      exact ⟨.cons r1 a, .cons (Dp.reads I _ _ _ h1 r1) b⟩
theorem vals_each : ∀ {its : List Value} {bs : List (V × PyData)}, PySem.W.EachIs (fun u (b : V × PyData) => RelV b.1 u) its bs → Vals (bs.map (·.1)) its
  | _, _, .nil => .nil
  | _, _, .cons h t => .cons h (vals_each t)
section
variable {X : Cx}
theorem cr_sortD (hu : X.A.units + 65 < cLine) : CallR X (.builtin "sorted") (rSortD X.K) := by
  intro pins s σ H vs us' Q I r h
  obtain ⟨a, us, ps, rfl, hs, hd, hal, hk, hdp, q⟩ := h
  rw [Vals.ref1 r]
  obtain ⟨e1, e2⟩ := zip_snd hd
  have fin : ∀ its : List Value, Vals us its → us.length ≤ sizeLine → ∀ out : List Value, out.length = (us.zip ps).length → PySem.W.EachIs (fun u (b : V × PyData) => RelV b.1 u) out ((us.zip ps).mergeSort (PySem.W.dataLe false (fun b : V × PyData => b.2))) → EP X pins σ Q (.ref (s.heap.objs.size + 1)) { s with heap := sortedAll s.heap its (List.toArray out) } := fun its rv hz out ho eo => by
    obtain ⟨ep, he'⟩ := PyProof.Rows.sortedAll_at s.heap its out.toArray
    have hlen : (((us.zip ps).mergeSort (PySem.W.dataLe false (fun b : V × PyData => b.2))).map (·.1)).length ≤ sizeLine := by
      rw [List.length_map, List.length_mergeSort, List.length_zip, e2, Nat.min_self, ← e2]; exact hz
    exact ⟨.ref _, upd H (s.heap.objs.size + 1) (.lst (((us.zip ps).mergeSort (PySem.W.dataLe false (fun b : V × PyData => b.2))).map (·.1))), I.laid (t' := s.toks) (fun _ _ => PyProof.Rows.sortedAll_old) (Nat.le_succ _) ⟨hlen, out, ep, vals_each eo, he'⟩, rfl, q _ (I.hok.fresh (Nat.le_succ _))⟩
  have dep : ∀ b, b ∈ us.zip ps → X.A.units + 2 + (b.2).depth < cLine := fun b hb => by
    have : b.2 ∈ (us.zip ps).map (·.2) := List.mem_map.mpr ⟨b, hb, rfl⟩
    rw [e1] at this
    have := hdp _ this
    omega
  have hl : us.length = (us.zip ps).length := by rw [List.length_zip, e2, Nat.min_self]
  rcases hs with hs | hs
  · obtain ⟨its, rv, hl', hz⟩ := I.list hs
    obtain ⟨ea, eb⟩ := each_zip I hd rv
    exact PySem.W.sorted_data (enc := fun b : V × PyData => b.2) hl'.isList ea eb (by rw [e1]; exact hal) (by rw [e1]; exact hk) (by rw [← hl]; exact hz) dep (fin its rv hz)
  · obtain ⟨its, rv, hl', hz⟩ := I.tuple hs
    obtain ⟨ea, eb⟩ := each_zip I hd rv
    exact sorted_dataT (enc := fun b : V × PyData => b.2) hl' ea eb (by rw [e1]; exact hal) (by rw [e1]; exact hk) (by rw [← hl]; exact hz) dep (fin its rv hz)
end
def alikeB (ps : List PyData) : Bool := ps.all fun d => ps.all fun d' => PySem.W.alike d d'
def tupNE : PyData → Bool
  | .tuple (_ :: _) => true
  | _ => false
def plainB : PyData → Bool
  | .none => false
  | .tuple _ => false
  | _ => true
def sortableB (ps : List PyData) : Bool := ps.all tupNE || ps.all plainB
def pyOf (d : D) : PyData := (pyD d).getD .none
def sortL (xs : List D) : List D := PySem.W.msortQ xs (PySem.W.dataLe false pyOf)
theorem sortL_ms (xs : List D) : sortL xs = xs.mergeSort (PySem.W.dataLe false pyOf) := by
  unfold sortL
  rw [PySem.W.msortQ_eq]
/-- sorted -/
def sortP (m : Bool) : PL := fun ds h => match ds with
  | [d] => (match asS d h with
    | some xs => (match pyDs xs with
      | some ps => if alikeB ps && sortableB ps && ps.all (fun p => decide (p.depth ≤ 60)) then mkL m (sortL xs) h else none
      | none => none)
    | none => none)
  | _ => none
theorem sortable_of {ps : List PyData} (h : sortableB ps = true) : PySem.W.Sortable ps := by
  unfold sortableB at h
  rw [Bool.or_eq_true, List.all_eq_true, List.all_eq_true] at h
  rcases h with h | h
  · refine .inl fun d hd => ?_
    have := h d hd
    unfold tupNE at this
    split at this
    · exact ⟨_, _, rfl⟩
    · cases this
  · refine .inr fun d hd => ?_
    have := h d hd
    unfold plainB at this
    split at this
    · cases this
    · cases this
    · rename_i h1 h2
      exact ⟨fun e => h1 e, fun xs e => h2 xs e⟩
theorem alike_of {ps : List PyData} (h : alikeB ps = true) : PySem.W.AllAlike ps := by
  unfold alikeB at h
  rw [List.all_eq_true] at h
  intro d hd d' hd'
  have := h d hd
  rw [List.all_eq_true] at this
  exact this d' hd'
theorem pyDs_pyOf : ∀ {xs : List D} {ps : List PyData}, pyDs xs = some ps → xs.map pyOf = ps ∧ xs.length = ps.length
  | [], ps, e => by simp only [pyDs, Option.some.injEq] at e; subst e; exact ⟨rfl, rfl⟩
  | d :: xs, ps, e => by
    simp only [pyDs] at e
    cases q1 : pyD d with
    | none => rw [q1] at e; cases e
    | some p =>
      cases q2 : pyDs xs with
      | none => rw [q1, q2] at e; cases e
      | some qs =>
        rw [q1, q2] at e
        simp only [Option.some.injEq] at e
        subst e
        obtain ⟨a, b⟩ := pyDs_pyOf q2
        exact ⟨by simp only [List.map_cons, a, pyOf, q1, Option.getD_some], by simp [b]⟩
/-- three lists side by side -/
theorem zip3 {K : Kx} {rho : Rh} {h : Hd} {H : Hp} {B : Nat} : ∀ {xs : List D} {us : List V}, RelDs K rho h B H xs us → (∀ b ∈ xs.zip us, RelD K rho h B H b.1 b.2) ∧ (xs.zip us).map (·.1) = xs ∧ (xs.zip us).map (·.2) = us
  | [], us, e => by simp only [RelDs] at e; subst e; exact ⟨fun b hb => by simp at hb, rfl, rfl⟩
  | d :: xs, us, e => by
    simp only [RelDs] at e
    obtain ⟨v, r, rfl, e2, e3⟩ := e
    obtain ⟨a, b, c⟩ := zip3 e3
    refine ⟨fun p hp => ?_, by simp only [List.zip_cons_cons, List.map_cons, b], by simp only [List.zip_cons_cons, List.map_cons, c]⟩
    rcases List.mem_cons.mp hp with rfl | hp
    · exact e2
    · exact a p hp
theorem rel_of_zip {K : Kx} {rho : Rh} {h : Hd} {H : Hp} {B : Nat} : ∀ {L : List (D × V)}, (∀ b ∈ L, RelD K rho h B H b.1 b.2) → RelDs K rho h B H (L.map (·.1)) (L.map (·.2))
  | [], _ => by simp only [List.map_nil, RelDs]
  | b :: L, hb => by
    simp only [List.map_cons, RelDs]
    exact ⟨_, _, rfl, hb b (by simp), rel_of_zip fun c hc => hb c (by simp [hc])⟩
theorem sortL_zip {xs : List D} {us : List V} (w2 : (xs.zip us).map (·.1) = xs) : sortL xs = ((xs.zip us).mergeSort (PySem.W.dataLe false (fun b : D × V => pyOf b.1))).map (·.1) := by
  have := List.map_mergeSort (r := PySem.W.dataLe false (fun b : D × V => pyOf b.1)) (s := PySem.W.dataLe false pyOf) (f := fun b : D × V => b.1) (l := xs.zip us) (fun _ _ _ _ => rfl)
  rw [this, w2]
  exact sortL_ms xs
theorem zip_pyOf : ∀ {xs : List D} {us : List V}, xs.length = us.length → us.zip (xs.map pyOf) = (xs.zip us).map fun b => (b.2, pyOf b.1)
  | [], us, _ => by simp
  | x :: xs, [], l => by simp at l
  | x :: xs, u :: us, l => by simp only [List.map_cons, List.zip_cons_cons]; rw [zip_pyOf (by simpa using l)]
theorem sort_zip {xs : List D} {us : List V} {ps : List PyData} (y1 : xs.map pyOf = ps) (l : xs.length = us.length) : ((us.zip ps).mergeSort (PySem.W.dataLe false (fun b : V × PyData => b.2))).map (·.1) = ((xs.zip us).mergeSort (PySem.W.dataLe false (fun b : D × V => pyOf b.1))).map (·.2) := by
  rw [← y1, zip_pyOf l]
  have := List.map_mergeSort (r := PySem.W.dataLe false (fun b : D × V => pyOf b.1)) (s := PySem.W.dataLe false (fun b : V × PyData => b.2)) (f := fun b : D × V => (b.2, pyOf b.1)) (l := xs.zip us) (fun _ _ _ _ => rfl)
  rw [← this, List.map_map]
  rfl
section
variable {X : Cx}
theorem c_sort (m : Bool) (hu : X.A.units + 65 < cLine) : CallR X (.builtin "sorted") (rC (kx X) (sortP m)) := by
  intro pins s σ H vs us' Q I rx q
  obtain ⟨rho, h, ds, R, r, po⟩ := q
  unfold sortP at po
  split at po
  · rename_i d
    cases qa : asS d h with
    | none => rw [qa] at po; exact po.elim
    | some xs =>
      rw [qa] at po
      simp only at po
      cases qp : pyDs xs with
      | none => rw [qp] at po; exact po.elim
      | some ps =>
        rw [qp] at po
        simp only at po
        split at po
        · rename_i hc
          rw [Bool.and_eq_true, Bool.and_eq_true] at hc
          obtain ⟨v, e, r⟩ := rel1 r
          obtain ⟨a, us, e1, e2, e3⟩ := asS_ok R r qa
          subst e1
          have hd : DpAll X.K H us ps := pyDs_ok xs us _ ps e3 qp
          obtain ⟨z1, z2⟩ := zip_snd hd
          obtain ⟨y1, y2⟩ := pyDs_pyOf qp
          obtain ⟨w1, w2, w3⟩ := zip3 e3
          refine cr_sortD hu pins s σ H vs us' Q I rx ⟨a, us, ps, e, e2, hd, alike_of hc.1.1, sortable_of hc.1.2, fun d hd => ?_, fun p hp => ?_⟩
          · have := List.all_eq_true.mp hc.2 d hd
            simpa using this
          · refine post_mkL R (xs := sortL xs) ?_ po hp
            have k1 := sortL_zip (us := us) w2
            have k2 := sort_zip (us := us) y1 (by rw [y2, z2])
            rw [k1, k2]
            exact rel_of_zip fun b hb => w1 b ((List.mergeSort_perm _ _).mem_iff.mp hb)
        · exact po.elim
  · exact po.elim
end
end Mini
namespace Mini
open PySem PySem.Spec PyProof.Rows L2
theorem perm_map_inv {α β : Type} {k : α → β} {l m : List β} (p : l.Perm m) : ∀ L : List α, m = L.map k → ∃ L1 : List α, L1.Perm L ∧ l = L1.map k := by
  induction p with
  | nil => intro L e; exact ⟨[], by rw [List.map_eq_nil_iff.mp e.symm], rfl⟩
  | cons x p ih =>
    intro L e
    cases L with
    | nil => cases e
    | cons a L =>
      simp only [List.map_cons, List.cons.injEq] at e
      obtain ⟨L1, p1, e1⟩ := ih L e.2
      exact ⟨a :: L1, p1.cons a, by rw [List.map_cons, e.1, e1]⟩
  | swap x y l =>
    intro L e
    match L, e with
    | a :: b :: L, e =>
      simp only [List.map_cons, List.cons.injEq] at e
      exact ⟨b :: a :: L, .swap _ _ _, by rw [List.map_cons, List.map_cons, e.1, e.2.1, e.2.2]⟩
  | trans p q ih1 ih2 =>
    intro L e
    obtain ⟨L2, p2, e2⟩ := ih2 L e
    obtain ⟨L1, p1, e1⟩ := ih1 L2 e2
    exact ⟨L1, p1.trans p2, e1⟩
theorem lt_tups (a b : List Int) : PySem.W.dataLt (.tuple (a.map PyData.int)) (.tuple (b.map PyData.int)) = decide (a < b) := by
  rw [PySem.W.dataLt_tuple]
  exact PySem.W.dataLt_ints a b
abbrev encT (q : Addr × List Int) : PyData := .tuple (q.2.map PyData.int)
section
variable {P : Program} {w : World} {A : Around} {E : Value → Shared → Prop} {s : Shared}
theorem each_refs {h : Heap} {a : Addr} : ∀ {L : List (Addr × List Int)}, (∀ q ∈ L, TS.TupInts h (.ref q.1) q.2) → PySem.W.EachIs (fun v (q : Addr × List Int) => v = Value.ref q.1) (L.map fun q => Value.ref q.1) L ∧ PySem.W.EachIs (fun v (q : Addr × List Int) => ∃ as, Reads h v (encT q) as ∧ a ∉ as) (L.map fun q => Value.ref q.1) L
  | [], _ => ⟨.nil, .nil⟩
  | q :: L, hq => by
    obtain ⟨x, y⟩ := each_refs (a := a) (L := L) fun r hr => hq r (by simp [hr])
    obtain ⟨b, items, e, ⟨o, ho, hc, n, hd⟩, hi⟩ := hq q (by simp)
    refine ⟨.cons rfl x, .cons ⟨[], ?_, by simp⟩ y⟩
    show Reads h (Value.ref q.1) (encT q) []
    rw [e]
    exact Reads.tuple ho hc hd (hi.reads h)
theorem each_out : ∀ {out : List Value} {L : List (Addr × List Int)}, PySem.W.EachIs (fun v (q : Addr × List Int) => v = Value.ref q.1) out L → out = L.map fun q => Value.ref q.1
  | _, _, .nil => rfl
  | _, _, .cons h t => by rw [List.map_cons, h, each_out t]
theorem sorted_setD {a : Addr} {L : List (Addr × List Int)} {es : Array (Int × Value)} {ep : Nat} {t : SetTable} {Q : Value → Shared → Prop} (R : SetTR P w s.heap a L es ep t) (hh : A.handled = none) (hu : A.units + 65 < cLine) (ne : ∀ q ∈ L, q.2 ≠ [])
    (hQ : ∀ s' p (out : Array Value) (c : Nat) (L' : List (Addr × List Int)), (∀ b o, s.heap.get? b = some o → s'.heap.get? b = some o) → s'.gens = s.gens → s'.os = s.os → s.heap.objs.size ≤ p →
      s'.heap.get? p = some (seqObj "list" out c) → out.toList = L'.map (fun q => Value.ref q.1) → L'.Perm L → L'.Pairwise (fun q r => ¬ r.2 < q.2) → Q (.ref p) s') :
    wpAny (model P w) A (call (.builtin "sorted") [.ref a]) Q E s := by
  obtain ⟨o, ho, hex, hd⟩ := R.ob
  have hsz := R.size
  have hfew := R.few
  apply Calls.call_function_entry kind_sorted plain_sorted entry_sorted (args_sorted1 _)
  unfold Builtin.«sorted»
  apply wpAny_bind (m := checkCount "sorted" 1 1 _)
  apply wpAny_pure
  apply wpAny_bind
  refine collect_set (A := A.in1) hh ⟨o, ho, hex.1, hd⟩ R.fits (by unfold scanBound; omega) R.tab.ris R.led fun s1 vs k1 hz g1 o1 pm => ?_
  have hes : es.toList.map (·.2) = L.map fun q => Value.ref q.1 := by rw [R.rows]; unfold rowsOf; rw [List.map_map]; rfl
  rw [hes] at pm
  obtain ⟨L1, pL, rfl⟩ := perm_map_inv pm L rfl
  have hl : L1.length < 64 := by rw [pL.length_eq]; exact hfew
  refine wpAny_bind (wpAny_newList ?_ (by rw [sizeLine_eq, List.length_map]; omega))
  have hoL : (s1.heap.push (seqObj "list" (L1.map fun q => Value.ref q.1).toArray 0)).get? s1.heap.objs.size = some (seqObj "list" (L1.map fun q => Value.ref q.1).toArray 0) := Heap.get?_push_size _ rfl
  have tk : ∀ q ∈ L1, TS.TupInts (s1.heap.push (seqObj "list" (L1.map fun q => Value.ref q.1).toArray 0)) (.ref q.1) q.2 := fun q hq => tupInts_of (P := P) (w := w) (isT_keep (R.tup q (pL.mem_iff.mp hq)) fun b u e => Heap.get?_push_of_some _ (k1 b u e))
  obtain ⟨ea, eb⟩ := each_refs (a := s1.heap.objs.size) tk
  have al : PySem.W.AllAlike (L1.map encT) := PySem.W.AllAlike.of fun x y => by simp only [PySem.W.alike]; exact PySem.W.alike_ints _ _
  have so : PySem.W.Sortable (L1.map encT) := .inl fun d hd => by
    obtain ⟨q, hq, rfl⟩ := List.mem_map.mp hd
    have := ne q (pL.mem_iff.mp hq)
    cases z : q.2 with
    | nil => exact absurd z this
    | cons x r => exact ⟨.int x, r.map .int, by simp only [encT, z, List.map_cons]⟩
  have dp : ∀ q : Addr × List Int, (encT q).depth ≤ 1 := fun q => by simp only [encT, PyData.depth, PySem.W.depth_ints]; omega
  refine wpAny_bind (wpAny_holding (PySem.W.list_sort_data (s := { s1 with heap := s1.heap.push (seqObj "list" (L1.map fun q => Value.ref q.1).toArray 0) }) hoL ea eb al so (by rw [sizeLine_eq]; omega) (fun q _ => by have := dp q; have h1 : A.in1.units ≤ A.units + 1 := Nat.le_refl _; omega) fun out ol eo => ?_))
  obtain ⟨c, hc⟩ := sortedHeap_at (vs := L1.map fun q => Value.ref q.1) (out := out.toArray) hoL
  have pm2 : (L1.mergeSort (PySem.W.dataLe false encT)).Perm L := (List.mergeSort_perm _ _).trans pL
  have pw : (L1.mergeSort (PySem.W.dataLe false encT)).Pairwise (fun q r => ¬ r.2 < q.2) := by
    have := PySem.W.sort_pairwise (PySem.W.sortLe_total (PyProof.Rows.listOrd PyProof.Rows.itemOrd) false fun b : Addr × List Int => PySem.W.keyToks (encT b)) L1
    refine this.imp fun {q r} z => ?_
    have z : (!PySem.W.dataLt (encT r) (encT q)) = true := z
    rw [lt_tups] at z
    simpa using z
  refine wpAny_pure ⟨_, rfl, hQ _ s1.heap.objs.size out.toArray c _ (fun b u e => ?_) g1 o1 hz hc (by simpa using each_out eo) pm2 pw⟩
  have q := k1 b u e
  have hlt := Heap.lt_size q
  show (sortedHeap (s1.heap.push (seqObj "list" (L1.map fun q => Value.ref q.1).toArray 0)) s1.heap.objs.size (L1.map fun q => Value.ref q.1) out.toArray).get? b = some u
  rw [sortedHeap_old (Nat.ne_of_lt hlt) (by rw [size_push']; exact Nat.lt_succ_of_lt hlt)]
  exact Heap.get?_push_of_some _ q
end
def rSortSet (K : PySem.W.Frag) (P : Program) (w : World) : List V → Hp → VK → Prop := fun vs H Q => ∃ (a : Addr) (L : List (Addr × List Int)), vs = [V.ref a] ∧ H a = some (SetTO P w a L) ∧ (∀ p ∈ L, SqT K H p.1 (p.2.map V.int)) ∧ (∀ p ∈ L, p.2 ≠ []) ∧
  ∀ (L' : List (Addr × List Int)) (p : Addr), L'.Perm L → (L'.map (·.2)).Nodup → L'.length < 64 → L'.Pairwise (fun q r => ¬ r.2 < q.2) → H p = none → Q (.ref p) (upd H p (.lst (L'.map fun q => V.ref q.1)))
section
variable {X : Cx}
theorem cr_sortSet (hc : X.calm = true) (hu : X.A.units + 65 < cLine) : CallR X (.builtin "sorted") (rSortSet X.K X.prog X.w) := by
  intro pins s σ H vs us Q I r h
  obtain ⟨a, L, rfl, ha, hk, hne, q⟩ := h
  obtain ⟨es, ep, t, R⟩ := SetT0.full (I.hok a _ ha).1 fun p hp => I.isT (hk p hp)
  rw [Vals.ref1 r]
  refine sorted_setD R (I.ok.hd hc) hu hne fun s' p out c L' k g o hp hg hout pm pw => ?_
  have hfew : L'.length < 64 := by rw [pm.length_eq]; exact R.few
  have hn : H p = none := I.hok.fresh hp
  have J : L2.Inv X pins σ (upd H p (.lst (L'.map fun q => V.ref q.1))) { s with heap := s'.heap, gens := s'.gens, drawn := s'.drawn, toks := s'.toks } :=
    I.call (ch := []) (Un.laid k hp hn) (I.hok.laid k hp ⟨by rw [List.length_map, sizeLine_eq]; omega, out.toList, c, by rw [hout]; exact vals_of_refs L', hg⟩) (by rw [g]; exact I.bare) (fun _ z => nomatch z)
  have e : s' = { s with heap := s'.heap, gens := s'.gens, drawn := s'.drawn, toks := s'.toks } := by
    cases s'; cases s; cases o; rfl
  rw [e]
  exact ⟨.ref p, _, J, rfl, q L' p pm ((pm.map (·.2)).nodup_iff.mpr R.nd) hfew pw hn⟩
end
def tupsOf : List D → Option (List (List Int))
  | [] => some []
  | .tup xs :: r => (match intsOf xs, tupsOf r with
    | some ns, some ks => some (ns :: ks)
    | _, _ => none)
  | _ :: _ => none
def dedup : List (List Int) → List (List Int)
  | [] => []
  | a :: L => if a ∈ dedup L then dedup L else a :: dedup L
theorem mem_dedup {x : List Int} : ∀ {L : List (List Int)}, x ∈ dedup L ↔ x ∈ L
  | [] => by simp [dedup]
  | a :: L => by
    unfold dedup
    split
    · rename_i q
      rw [mem_dedup, List.mem_cons]
      exact ⟨.inr, fun z => z.elim (fun e => e ▸ mem_dedup.mp q) id⟩
    · rw [List.mem_cons, List.mem_cons, mem_dedup]
theorem dedup_nodup : ∀ L : List (List Int), (dedup L).Nodup
  | [] => by simp [dedup]
  | a :: L => by
    unfold dedup
    split
    · exact dedup_nodup L
    · rename_i q
      exact List.nodup_cons.mpr ⟨q, dedup_nodup L⟩
def setL (ks : List (List Int)) : List (List Int) := PySem.W.msortQ (dedup ks) (fun a b => !decide (b < a))
theorem setL_ms (ks : List (List Int)) : setL ks = (dedup ks).mergeSort (fun a b => !decide (b < a)) := by
  unfold setL
  rw [PySem.W.msortQ_eq]
theorem setL_sorted (ks : List (List Int)) : (setL ks).Pairwise fun a b => ¬ b < a := by
  have := List.pairwise_mergeSort (le := fun a b : List Int => !decide (b < a)) (fun a b c h1 h2 => by
    simp only [Bool.not_eq_true', decide_eq_false_iff_not] at h1 h2 ⊢
    exact List.not_lt.mpr (List.le_trans (List.not_lt.mp h1) (List.not_lt.mp h2))) (fun a b => by
    simp only [Bool.or_eq_true, Bool.not_eq_true', decide_eq_false_iff_not]
    rcases List.le_total a b with q | q
    · exact .inl (List.not_lt.mpr q)
    · exact .inr (List.not_lt.mpr q)) (dedup ks)
  rw [setL_ms]
  exact this.imp fun h => by simpa using h
theorem mem_setL {ks : List (List Int)} {x : List Int} : x ∈ setL ks ↔ x ∈ ks := by
  rw [setL_ms, (List.mergeSort_perm _ _).mem_iff, mem_dedup]
theorem setL_nodup (ks : List (List Int)) : (setL ks).Nodup := by
  rw [setL_ms]
  exact (List.mergeSort_perm _ _).nodup_iff.mpr (dedup_nodup ks)
theorem setL_uniq {ks L : List (List Int)} (nd : L.Nodup) (so : L.Pairwise fun a b => ¬ b < a) (m : ∀ x, x ∈ L ↔ x ∈ ks) : L = setL ks :=
  List.Perm.eq_of_pairwise (le := fun a b => ¬ b < a) (fun a b _ _ h1 h2 => List.le_antisymm (List.not_lt.mp h1) (List.not_lt.mp h2)) so (setL_sorted ks) ((List.perm_ext_iff_of_nodup nd (setL_nodup ks)).mpr fun x => by rw [m x, mem_setL])
def ssetP (m : Bool) (d : D) (h : Hd) : PR := match asL d h with
  | some xs => (match tupsOf xs with
    | some ks => if ks.length < 64 ∧ (ks.all fun a => !a.isEmpty) = true then mkL m ((setL ks).map fun ns => .tup (ns.map D.int)) h else none
    | none => none)
  | none => none
def e_sset (m : Bool) (f : EF) : EF := fun s h => (f s h).bind fun d h1 => lift (ssetP m d h1)
section
variable {K : Kx} {rho : Rh} {h : Hd} {H : Hp}
theorem tups_ok : ∀ {xs : List D} {us : List V} {ks : List (List Int)} {B : Nat}, RelDs K rho h B H xs us → tupsOf xs = some ks → ∃ L : List (Addr × List Int), us = L.map (fun p => V.ref p.1) ∧ L.map (·.2) = ks ∧ ∀ p ∈ L, SqT K H p.1 (p.2.map V.int)
  | [], us, ks, B, r, e => by simp only [RelDs] at r; simp only [tupsOf, Option.some.injEq] at e; subst r e; exact ⟨[], rfl, rfl, fun p hp => by simp at hp⟩
  | .tup zs :: xs, us, ks, B, r, e => by
    simp only [RelDs] at r
    obtain ⟨v, rr, e1, e2, e3⟩ := r
    simp only [tupsOf] at e
    cases q1 : intsOf zs with
    | none => rw [q1] at e; cases e
    | some ns =>
      cases q2 : tupsOf xs with
      | none => rw [q1, q2] at e; cases e
      | some k2 =>
        rw [q1, q2] at e
        simp only [Option.some.injEq] at e
        subst e
        obtain ⟨L, f1, f2, f3⟩ := tups_ok e3 q2
        simp only [RelD] at e2
        obtain ⟨a, ws, g1, g2, g3⟩ := e2
        refine ⟨(a, ns) :: L, by rw [e1, f1, g1]; rfl, by rw [List.map_cons, f2], fun p hp => ?_⟩
        rcases List.mem_cons.mp hp with rfl | hp
        · rw [← intsOf_ok g3 q1]; exact g2
        · exact f3 p hp
  | .non :: xs, us, ks, B, r, e => by simp [tupsOf] at e
  | .bl _ :: xs, us, ks, B, r, e => by simp [tupsOf] at e
  | .int _ :: xs, us, ks, B, r, e => by simp [tupsOf] at e
  | .str _ :: xs, us, ks, B, r, e => by simp [tupsOf] at e
  | .lv _ :: xs, us, ks, B, r, e => by simp [tupsOf] at e
  | .fl _ :: xs, us, ks, B, r, e => by simp [tupsOf] at e
  | .ref _ :: xs, us, ks, B, r, e => by simp [tupsOf] at e
  | .exc _ _ _ :: xs, us, ks, B, r, e => by simp [tupsOf] at e
  | .obj _ _ _ :: xs, us, ks, B, r, e => by simp [tupsOf] at e
  | .fd _ _ :: xs, us, ks, B, r, e => by simp [tupsOf] at e
theorem rel_tups {B : Nat} : ∀ {L : List (Addr × List Int)}, (∀ p ∈ L, SqT K H p.1 (p.2.map V.int)) → RelDs K rho h B H (L.map fun p => D.tup (p.2.map D.int)) (L.map fun p => V.ref p.1)
  | [], _ => by simp only [List.map_nil, RelDs]
  | p :: L, hp => by
    simp only [List.map_cons, RelDs]
    refine ⟨_, _, rfl, ?_, rel_tups fun q hq => hp q (by simp [hq])⟩
    simp only [RelD]
    refine ⟨_, _, rfl, hp p (by simp), ?_⟩
    have allI : ∀ (ns : List Int), RelDs K rho h B H (ns.map D.int) (ns.map V.int) := fun ns => by
      induction ns with
      | nil => simp only [List.map_nil, RelDs]
      | cons n ns ih => simp only [List.map_cons, RelDs]; exact ⟨_, _, rfl, by simp only [RelD], ih⟩
    exact allI p.2
end
section
variable {X : Cx} {W : WX} {p1 p2 q pos : Pos} {e : Expr} {f : EF}
theorem r_sset (m : Bool) (hu : X.A.units + 65 < cLine) (hc : X.calm = true) (hm1 : X.mg "sorted" = none) (hm2 : X.mg "set" = none) (ha : SE X W e f) (hg1 : Gl X "sorted" := by rfl) (hg2 : Gl X "set" := by rfl)
    (he2 : starEach [e] X.env = (false, eval e X.env) :: starEach [] X.env := by rfl) (he1 : starEach [Expr.Call (.Name "set" p2) [e] [] q] X.env = (false, eval (Expr.Call (.Name "set" p2) [e] [] q) X.env) :: starEach [] X.env := by rfl)
    (hp1 : (backTo pos (starEach [] X.env)).any (·.1) = false := by rfl) (hp2 : (backTo q (starEach [] X.env)).any (·.1) = false := by rfl) :
    SE X W (.Call (.Name "sorted" p1) [.Call (.Name "set" p2) [e] [] q] [] pos) (e_sset m f) := by
  have inner := pe_callTy (p := p2) (pos := q) (x := "set") (T := "set") (cr_setOfT (X := X) hc (by omega)) hg2 hm2 PyProof.Rows.boot_set (pa_cons ha pa_nil he2) (by decide) (by decide) he2 hp2
  have outer := pe_callB (p := p1) (pos := pos) (x := "sorted") (id := "sorted") (cr_sortSet (X := X) hc hu) hg1 hm1 PyProof.Rows.boot_sorted (pa_cons inner pa_nil he1) (by decide) (by decide) he1 hp1
  refine PE.imp outer fun σ H Q hh => ?_
  obtain ⟨rho, h, s, R, S, po⟩ := hh
  refine step R S po fun rho1 h1 H1 d e1 R1 S1 po1 v r => ?_
  show rSetOfT X.K X.prog X.w [v] H1 fun v2 H2 => rSortSet X.K X.prog X.w [v2] H2 Q
  cases qa : asL d h1 with
  | none => simp only [ssetP, qa] at po1; exact po1.elim
  | some xs =>
    cases qt : tupsOf xs with
    | none => simp only [ssetP, qa, qt] at po1; exact po1.elim
    | some ks =>
      simp only [ssetP, qa, qt] at po1
      split at po1
      · rename_i hk
        obtain ⟨a, us, g1, g2, g3⟩ := asL_ok R1 r qa
        subst g1
        obtain ⟨L0, f1, f2, f3⟩ := tups_ok g3 qt
        have len : L0.length = ks.length := by rw [← f2, List.length_map]
        refine ⟨a, L0, rfl, by rw [← f1]; exact g2, f3, by omega, fun a2 L hn s1 s2 => ?_⟩
        have up := Ext.upd R1 hn (SetTO X.prog X.w a2 L)
        have R2 := Rel.upd R1 hn (SetTO X.prog X.w a2 L)
        refine ⟨a2, L, rfl, upd_same, fun p hp => up.sqT (f3 p (s1 p hp)), fun p hp e => ?_, fun L' p pm nd few pw hp => ?_⟩
        · have := List.all_eq_true.mp hk.2 p.2 (by rw [← f2]; exact List.mem_map.mpr ⟨p, s1 p hp, rfl⟩)
          rw [e] at this
          cases this
        · have eL : L'.map (·.2) = setL ks := setL_uniq nd (by rw [List.pairwise_map]; exact pw) fun x => by
            rw [(pm.map (·.2)).mem_iff]
            constructor
            · intro hx
              obtain ⟨p, hp, rfl⟩ := List.mem_map.mp hx
              rw [← f2]
              exact List.mem_map.mpr ⟨p, s1 p hp, rfl⟩
            · intro hx
              rw [← f2] at hx
              obtain ⟨p, hp, rfl⟩ := List.mem_map.mp hx
              exact s2 p hp
          have po2 := PostP.of (PostG.ext up po1)
          rw [← eL, List.map_map] at po2
          exact post_mkL R2 (rel_tups fun p hp => up.sqT (f3 p (s1 p (pm.mem_iff.mp hp)))) po2 hp
      · exact po1.elim
end
end Mini
namespace Mini
open PySem PySem.Spec PyProof.Rows L2
section
variable {K : Kx} {rho rho2 : Rh} {h h2 : Hd} {H : Hp}
/-- the cells are told otherwise: the same values stand for the same -/
theorem RelD.recell (hz : ∀ a, rho2.Z a → rho.Z a) {n : Nat} (hf : ∀ m, m < n → rho2 m = rho m) (hl : ∀ m, live h2 m = true → ∃ m', live h m' = true ∧ rho2 m = rho m') (d : D) : ∀ (v : V) (B : Nat), B ≤ n → RelD K rho h B H d v → RelD K rho2 h2 B H d v := by
  refine D.rec (motive_1 := fun d => ∀ (v : V) (B : Nat), B ≤ n → RelD K rho h B H d v → RelD K rho2 h2 B H d v)
    (motive_2 := fun ds => ∀ (vs : List V) (B : Nat), B ≤ n → RelDs K rho h B H ds vs → RelDs K rho2 h2 B H ds vs) ?_ ?_ ?_ ?_ ?_ ?_ ?_ ?_ ?_ ?_ ?_ ?_ ?_ d
  · intro v B hB e; simp only [RelD] at e ⊢; exact e
  · intro b v B hB e; simp only [RelD] at e ⊢; exact e
  · intro b v B hB e; simp only [RelD] at e ⊢; exact e
  · intro b v B hB e; simp only [RelD] at e ⊢; exact e
  · intro xs ih v B hB e
    simp only [RelD] at e ⊢
    obtain ⟨a, ws, e1, e2, e3⟩ := e
    exact ⟨a, ws, e1, e2, ih ws B hB e3⟩
  · intro xs ih v B hB e
    simp only [RelD] at e ⊢
    obtain ⟨a, ws, e1, e2, e3⟩ := e
    refine ⟨a, ws, e1, ?_, ih ws B hB e3⟩
    obtain ⟨e2, z, k⟩ := e2
    refine ⟨e2, fun q => z (hz a q), fun m hm => ?_⟩
    obtain ⟨m', q1, q2⟩ := hl m hm
    rw [q2]; exact k m' q1
  · intro xs ih v B hB e
    simp only [RelD] at e ⊢
    obtain ⟨a, ws, e1, e2, e3⟩ := e
    exact ⟨a, ws, e1, e2, ih ws B hB e3⟩
  · intro k v B hB e
    simp only [RelD] at e ⊢
    exact ⟨e.1, by rw [hf k (Nat.lt_of_lt_of_le e.1 hB)]; exact e.2⟩
  · intro c ns xs ih v B hB e
    simp only [RelD] at e ⊢
    obtain ⟨a, C, o, d, e1, e2, e3, e4⟩ := e
    exact ⟨a, C, o, d, e1, e2, e3, e4.imp id fun ⟨dd, od, us, q1, q2, q3, q4⟩ => ⟨dd, od, us, q1, q2, q3, ih _ B hB q4⟩⟩
  · intro ks vs ih ih2 v B hB e
    simp only [RelD] at e ⊢
    obtain ⟨a, o, us, ws, e1, e2, e3, e4, e5⟩ := e
    exact ⟨a, o, us, ws, e1, e2, e3, ih _ B hB e4, ih2 _ B hB e5⟩
  · intro c ns xs ih v B hB e
    simp only [RelD] at e ⊢
    obtain ⟨a, C, dx, o, us, e1, e2, e3, e4, e5⟩ := e
    exact ⟨a, C, dx, o, us, e1, e2, e3, e4, ih _ B hB e5⟩
  · intro vs B hB e; simp only [RelDs] at e ⊢; exact e
  · intro d ds i1 i2 vs B hB e
    simp only [RelDs] at e ⊢
    obtain ⟨v, r, e1, e2, e3⟩ := e
    exact ⟨v, r, e1, i1 v B hB e2, i2 r B hB e3⟩
theorem RelDs.recell (hz : ∀ a, rho2.Z a → rho.Z a) {n : Nat} (hf : ∀ m, m < n → rho2 m = rho m) (hl : ∀ m, live h2 m = true → ∃ m', live h m' = true ∧ rho2 m = rho m') : ∀ (ds : List D) (vs : List V) (B : Nat), B ≤ n → RelDs K rho h B H ds vs → RelDs K rho2 h2 B H ds vs
  | [], vs, B, hB, e => by simp only [RelDs] at e ⊢; exact e
  | d :: ds, vs, B, hB, e => by
    simp only [RelDs] at e ⊢
    obtain ⟨v, r, e1, e2, e3⟩ := e
    exact ⟨v, r, e1, RelD.recell hz hf hl d v B hB e2, RelDs.recell hz hf hl ds r B hB e3⟩
end
/-- cell k put at place n -/
def reAt (rho : Rh) (n : Nat) (a : Addr) : Rh := ⟨fun m => if m = n then a else rho m, rho.Z⟩
theorem reAt_same {rho : Rh} {n : Nat} {a : Addr} : reAt rho n a n = a := by simp [reAt]
theorem reAt_ne {rho : Rh} {n m : Nat} {a : Addr} (h : m ≠ n) : reAt rho n a m = rho m := by simp [reAt, h]
theorem live_snoc {h : Hd} {xs : List D} {n m : Nat} (hn : n ≤ h.length) (e : live (h.take n ++ [.lst xs]) m = true) : (m < n ∧ live h m = true) ∨ m = n := by
  have hl := live_lt e
  have len : (h.take n).length = n := by rw [List.length_take, Nat.min_eq_left hn]
  rw [List.length_append, len] at hl
  simp only [List.length_cons, List.length_nil] at hl
  by_cases q : m = n
  · exact .inr q
  · have hm : m < n := by omega
    refine .inl ⟨hm, ?_⟩
    unfold live at e ⊢
    rw [List.getElem?_append_left (by rw [len]; exact hm), List.getElem?_take_of_lt hm] at e
    exact e
section
variable {K : Kx} {rho : Rh} {h : Hd} {H : Hp}
theorem Rel.keep (R : Rel K rho h H) {n k : Nat} (hn : n ≤ h.length) (hk : n ≤ k) {xs : List D} (q : h[k]? = some (.lst xs)) (hx : noRefs xs = true) :
    Rel K (reAt rho n (rho k)) (h.take n ++ [.lst xs]) H := by
  have lk : live h k = true := by unfold live; rw [q]
  have len : (h.take n).length = n := by rw [List.length_take, Nat.min_eq_left hn]
  have hf : ∀ m, m < n → reAt rho n (rho k) m = rho m := fun m hm => reAt_ne (by omega)
  have hl : ∀ m, live (h.take n ++ [.lst xs]) m = true → ∃ m', live h m' = true ∧ reAt rho n (rho k) m = rho m' := fun m hm => by
    rcases live_snoc hn hm with ⟨a, b⟩ | e
    · exact ⟨m, b, hf m a⟩
    · exact ⟨k, lk, by rw [e]; exact reAt_same⟩
  refine ⟨fun m m' hm hm' e => ?_, fun m o e => ?_, R.zd, fun m hm => ?_⟩
  · rcases live_snoc hn hm with ⟨a, b⟩ | c <;> rcases live_snoc hn hm' with ⟨a', b'⟩ | c'
    · rw [hf m a, hf m' a'] at e; exact R.inj m m' b b' e
    · rw [c', hf m a, reAt_same] at e
      have := R.inj m k b lk e
      omega
    · rw [c, hf m' a', reAt_same] at e
      have := R.inj k m' lk b' e
      omega
    · omega
  · by_cases hm : m < n
    · rw [List.getElem?_append_left (by rw [len]; exact hm), List.getElem?_take_of_lt hm] at e
      have c := R.cell m o e
      cases o with
      | dead => trivial
      | dct ks vs =>
        obtain ⟨g, us, ws, a, b, b'⟩ := c
        exact ⟨g, us, ws, by rw [hf m hm]; exact a, RelDs.recell (rho := rho) (h := h) (rho2 := reAt rho n (rho k)) (fun _ z => z) hf hl _ _ _ (Nat.le_of_lt hm) b, RelDs.recell (rho := rho) (h := h) (rho2 := reAt rho n (rho k)) (fun _ z => z) hf hl _ _ _ (Nat.le_of_lt hm) b'⟩
      | lst ys =>
        obtain ⟨us, a, b⟩ := c
        exact ⟨us, by rw [hf m hm]; exact a, RelDs.recell (rho := rho) (h := h) (rho2 := reAt rho n (rho k)) (fun _ z => z) hf hl _ _ _ (Nat.le_of_lt hm) b⟩
    · have hm' : m = n := by
        have := (List.getElem?_eq_some_iff.mp e).1
        rw [List.length_append, len] at this
        simp only [List.length_cons, List.length_nil] at this
        omega
      subst hm'
      rw [List.getElem?_append_right (by rw [len]; exact Nat.le_refl _), len, Nat.sub_self] at e
      simp only [List.getElem?_cons_zero, Option.some.injEq] at e
      subst e
      obtain ⟨us, a, b⟩ := R.cellL q
      refine ⟨us, by rw [reAt_same]; exact a, ?_⟩
      have b0 : RelDs K rho h m H xs us := RelDs.noref (fun _ q => q) _ _ _ _ hx b
      exact RelDs.recell (rho := rho) (h := h) (rho2 := reAt rho m (rho k)) (fun _ z => z) hf hl _ _ _ (Nat.le_refl _) b0
  · obtain ⟨m', a, b⟩ := hl m hm
    rw [b]
    exact R.zc m' a
theorem Ext.keep {h0 : Hd} {rho0 : Rh} {H0 : Hp} (x : Ext K rho0 h0 H0 rho h H) {k : Nat} (hk : h0.length ≤ k) {xs : List D} (q : h[k]? = some (.lst xs)) : Ext K rho0 h0 H0 (reAt rho h0.length (rho k)) (h.take h0.length ++ [.lst xs]) H where
  le := by rw [List.length_append, List.length_take, Nat.min_eq_left x.le]; omega
  ag := fun m hm => by rw [reAt_ne (by omega)]; exact x.ag m hm
  lv := fun m hm e => by
    rcases live_snoc x.le e with ⟨a, b⟩ | c
    · exact x.lv m hm b
    · omega
  fr := fun m hm e => by
    rcases live_snoc x.le e with ⟨a, b⟩ | c
    · omega
    · rw [c, reAt_same]; exact x.fr k hk (by unfold live; rw [q])
  kp := x.kp
  tp := x.tp
  fz := x.fz
  dm := x.dm
  zi := x.zi
  zo := x.zo
end
end Mini
namespace Mini
open PySem PySem.Spec PyProof.Rows L2
section
variable {K : Kx} {rho rho2 : Rh} {h h2 : Hd} {H : Hp}
theorem RelD.recell2 (hz : ∀ a, rho2.Z a → rho.Z a) {n : Nat} (hf : ∀ m, m < n → rho2 m = rho m) (hl : ∀ m, live h2 m = true → (∃ m', live h m' = true ∧ rho2 m = rho m') ∨ rho.Z (rho2 m)) (d : D) : ∀ (v : V) (B : Nat), B ≤ n → RelD K rho h B H d v → RelD K rho2 h2 B H d v := by
  refine D.rec (motive_1 := fun d => ∀ (v : V) (B : Nat), B ≤ n → RelD K rho h B H d v → RelD K rho2 h2 B H d v)
    (motive_2 := fun ds => ∀ (vs : List V) (B : Nat), B ≤ n → RelDs K rho h B H ds vs → RelDs K rho2 h2 B H ds vs) ?_ ?_ ?_ ?_ ?_ ?_ ?_ ?_ ?_ ?_ ?_ ?_ ?_ d
  · intro v B hB e; simp only [RelD] at e ⊢; exact e
  · intro b v B hB e; simp only [RelD] at e ⊢; exact e
  · intro b v B hB e; simp only [RelD] at e ⊢; exact e
  · intro b v B hB e; simp only [RelD] at e ⊢; exact e
  · intro xs ih v B hB e
    simp only [RelD] at e ⊢
    obtain ⟨a, ws, e1, e2, e3⟩ := e
    exact ⟨a, ws, e1, e2, ih ws B hB e3⟩
  · intro xs ih v B hB e
    simp only [RelD] at e ⊢
    obtain ⟨a, ws, e1, ⟨e2, z, k⟩, e3⟩ := e
    refine ⟨a, ws, e1, ⟨e2, fun q => z (hz a q), fun m hm => ?_⟩, ih ws B hB e3⟩
    rcases hl m hm with ⟨m', q1, q2⟩ | q
    · rw [q2]; exact k m' q1
    · intro e; rw [e] at q; exact z q
  · intro xs ih v B hB e
    simp only [RelD] at e ⊢
    obtain ⟨a, ws, e1, e2, e3⟩ := e
    exact ⟨a, ws, e1, e2, ih ws B hB e3⟩
  · intro k v B hB e
    simp only [RelD] at e ⊢
    exact ⟨e.1, by rw [hf k (Nat.lt_of_lt_of_le e.1 hB)]; exact e.2⟩
  · intro c ns xs ih v B hB e
    simp only [RelD] at e ⊢
    obtain ⟨a, C, o, d, e1, e2, e3, e4⟩ := e
    exact ⟨a, C, o, d, e1, e2, e3, e4.imp id fun ⟨dd, od, us, q1, q2, q3, q4⟩ => ⟨dd, od, us, q1, q2, q3, ih _ B hB q4⟩⟩
  · intro ks vs ih ih2 v B hB e
    simp only [RelD] at e ⊢
    obtain ⟨a, o, us, ws, e1, e2, e3, e4, e5⟩ := e
    exact ⟨a, o, us, ws, e1, e2, e3, ih _ B hB e4, ih2 _ B hB e5⟩
  · intro c ns xs ih v B hB e
    simp only [RelD] at e ⊢
    obtain ⟨a, C, dx, o, us, e1, e2, e3, e4, e5⟩ := e
    exact ⟨a, C, dx, o, us, e1, e2, e3, e4, ih _ B hB e5⟩
  · intro vs B hB e; simp only [RelDs] at e ⊢; exact e
  · intro d ds i1 i2 vs B hB e
    simp only [RelDs] at e ⊢
    obtain ⟨v, r, e1, e2, e3⟩ := e
    exact ⟨v, r, e1, i1 v B hB e2, i2 r B hB e3⟩
theorem RelDs.recell2 (hz : ∀ a, rho2.Z a → rho.Z a) {n : Nat} (hf : ∀ m, m < n → rho2 m = rho m) (hl : ∀ m, live h2 m = true → (∃ m', live h m' = true ∧ rho2 m = rho m') ∨ rho.Z (rho2 m)) : ∀ (ds : List D) (vs : List V) (B : Nat), B ≤ n → RelDs K rho h B H ds vs → RelDs K rho2 h2 B H ds vs
  | [], vs, B, hB, e => by simp only [RelDs] at e ⊢; exact e
  | d :: ds, vs, B, hB, e => by
    simp only [RelDs] at e ⊢
    obtain ⟨v, r, e1, e2, e3⟩ := e
    exact ⟨v, r, e1, RelD.recell2 hz hf hl d v B hB e2, RelDs.recell2 hz hf hl ds r B hB e3⟩
/-- the place of the new cell -/
def zCell (rho : Rh) (n : Nat) (a : Addr) : Rh := ⟨fun m => if m = n then a else rho m, fun b => rho.Z b ∧ b ≠ a⟩
theorem zCell_same {n : Nat} {a : Addr} : zCell rho n a n = a := by simp [zCell]
theorem zCell_ne {n m : Nat} {a : Addr} (q : m ≠ n) : zCell rho n a m = rho m := by simp [zCell, q]
theorem live_add {xs : List D} {m : Nat} (e : live (h ++ [.lst xs]) m = true) : (m < h.length ∧ live h m = true) ∨ m = h.length := by
  rcases live_app e with q | q
  · exact .inl ⟨live_lt q, q⟩
  · exact .inr q
theorem Rel.zcell (R : Rel K rho h H) {a : Addr} (hz : rho.Z a) {xs : List D} {us : List V} (hD : H a = some (.lst us)) (ra : RelVs' K rho h H xs us) : Rel K (zCell rho h.length a) (h ++ [.lst xs]) H := by
  have nD : ∀ m, live h m = true → rho m ≠ a := fun m hm q => R.zc m hm (q ▸ hz)
  have hf : ∀ m, m < h.length → zCell rho h.length a m = rho m := fun m hm => zCell_ne (by omega)
  have hl : ∀ m, live (h ++ [.lst xs]) m = true → (∃ m', live h m' = true ∧ zCell rho h.length a m = rho m') ∨ rho.Z (zCell rho h.length a m) := fun m hm => by
    rcases live_add hm with ⟨q1, q2⟩ | q
    · exact .inl ⟨m, q2, hf m q1⟩
    · exact .inr (by rw [q, zCell_same]; exact hz)
  refine ⟨fun m m' hm hm' e => ?_, fun m o e => ?_, fun b q => R.zd b q.1, fun m hm => ?_⟩
  · rcases live_add hm with ⟨q1, q2⟩ | q <;> rcases live_add hm' with ⟨q1', q2'⟩ | q'
    · rw [hf m q1, hf m' q1'] at e; exact R.inj m m' q2 q2' e
    · rw [hf m q1, q', zCell_same] at e; exact absurd e (nD m q2)
    · rw [hf m' q1', q, zCell_same] at e; exact absurd e.symm (nD m' q2')
    · omega
  · by_cases hm : m < h.length
    · rw [List.getElem?_append_left hm] at e
      have c := R.cell m o e
      cases o with
      | dead => trivial
      | dct ks vs =>
        obtain ⟨g, us', ws, p1, p2, p3⟩ := c
        exact ⟨g, us', ws, by rw [hf m hm]; exact p1, RelDs.recell2 (rho2 := zCell rho h.length a) (fun b (q : rho.Z b ∧ b ≠ a) => q.1) hf hl _ _ _ (Nat.le_of_lt hm) p2, RelDs.recell2 (rho2 := zCell rho h.length a) (fun b (q : rho.Z b ∧ b ≠ a) => q.1) hf hl _ _ _ (Nat.le_of_lt hm) p3⟩
      | lst ys =>
        obtain ⟨ws, p1, p2⟩ := c
        exact ⟨ws, by rw [hf m hm]; exact p1, RelDs.recell2 (rho2 := zCell rho h.length a) (fun b (q : rho.Z b ∧ b ≠ a) => q.1) hf hl _ _ _ (Nat.le_of_lt hm) p2⟩
    · have hm' : m = h.length := by
        have := (List.getElem?_eq_some_iff.mp e).1
        simp only [List.length_append, List.length_cons, List.length_nil] at this
        omega
      subst hm'
      rw [List.getElem?_append_right (Nat.le_refl _), Nat.sub_self] at e
      simp only [List.getElem?_cons_zero, Option.some.injEq] at e
      subst e
      exact ⟨us, by rw [zCell_same]; exact hD, RelDs.recell2 (rho2 := zCell rho h.length a) (fun b (q : rho.Z b ∧ b ≠ a) => q.1) hf hl _ _ _ (Nat.le_refl _) ra⟩
  · rcases live_add hm with ⟨q1, q2⟩ | q
    · rw [hf m q1]; exact fun z => R.zc m q2 z.1
    · rw [q, zCell_same]; exact fun z => z.2 rfl
theorem Ext.zcell {rho0 : Rh} {h0 : Hd} {H0 : Hp} (x : Ext K rho0 h0 H0 (zDel rho a) h H) (np : H0 a = none) {xs : List D} : Ext K rho0 h0 H0 (zCell rho h.length a) (h ++ [.lst xs]) H where
  le := by rw [List.length_append]; have := x.le; omega
  ag := fun m hm => by rw [zCell_ne (by have := x.le; omega)]; exact x.ag m hm
  lv := fun m hm e => by
    rcases live_add e with ⟨q1, q2⟩ | q
    · exact x.lv m hm q2
    · have := x.le; omega
  fr := fun m hm e => by
    rcases live_add e with ⟨q1, q2⟩ | q
    · rw [zCell_ne (by omega)]; exact x.fr m hm q2
    · rw [q, zCell_same]; exact np
  kp := x.kp
  tp := x.tp
  fz := x.fz
  dm := x.dm
  zi := x.zi
  zo := x.zo
end
def cellL (r : Option (List D × Hd)) : Res D := match r with
  | some (ys, h2) => Res.ok (.ref h2.length) (h2 ++ [.lst ys])
  | none => Res.fail
def e_lcC (own : List Nat) (i : AF) (p : Pat) (tt : TF) (te : EF) : EF := fun s h => (i s h).bind fun items h1 => cellL (lcM p tt te (wipeD s own) items [] h1)
theorem tE.lcC {K : Kx} {mg : Str → Option Value} {W : WX} {own : List Nat} {fi : AF} {p : Pat} {tt : TF} {te : EF} (hp : ∀ i ∈ patI p, i ∈ own) {σ : L2.St} {H : Hp} {Q : VK} (q : tE K mg W (e_lcC own fi p tt te) σ H Q) :
    tLc (tI K mg W fi) (patG K p) (tT K mg W0 tt) (tE K mg W0 te) own σ H Q := by
  obtain ⟨rho, h, s, R, S, po⟩ := q
  refine step R S po fun rho0 h0 H0 items e0 R0 S0 po0 J sv => fun Dl np => ?_
  refine ⟨fun i k H => i + k = items.length ∧ ∃ rho h acc us, Ext K rho0 h0 H0 rho h H ∧ rho.Z Dl ∧ Rel K rho h H ∧ H Dl = some (.lst us) ∧ RelVs' K rho h H acc us ∧
      PostG K mg (fun c d H' => W c d σ H') rho0 h0 H0 (cellL (lcM p tt te (wipeD s own) (items.drop i) acc h)) (pE K Q), ?_, fun i k H q => ?_⟩
  · exact ⟨items.length, by simp, zAdd rho0 Dl, h0, [], [], Ext.zin R0 np, .inr rfl, R0.zin np, upd_same, by simp only [RelVs', RelDs], by simpa using po0⟩
  · obtain ⟨hk, rho1, h1, acc, us, x1, hz, R1, hD, ra, po1⟩ := q
    have nD : ∀ m, live h1 m = true → rho1 m ≠ Dl := fun m hm q => R1.zc m hm (q ▸ hz)
    obtain ⟨s1, s2⟩ := sv rho1 h1 H x1.z R1 i
    cases hi : items[i]? with
    | none =>
      have hl : items.length ≤ i := List.getElem?_eq_none_iff.mp hi
      rw [List.drop_eq_nil_of_le hl] at po1
      refine .inl ⟨s2 hl, po1 (zCell rho1 h1.length Dl) H ((Ext.zdel R0 x1 np).zcell np) (R1.zcell hz hD ra) _ ?_⟩
      simp only [RelV', RelD]
      exact ⟨by simp, by rw [zCell_same]⟩
    | some d =>
      have hl : i < items.length := (List.getElem?_eq_some_iff.mp hi).1
      have ed : items.drop i = d :: items.drop (i + 1) := by
        rw [List.drop_eq_getElem_cons hl]
        congr 1
        exact (List.getElem?_eq_some_iff.mp hi).2
      rw [ed] at po1
      obtain ⟨go, yl⟩ := s1 d hi
      refine .inr ⟨go, fun H' => ∃ rho h acc us, Ext K rho0 h0 H0 rho h H' ∧ rho.Z Dl ∧ Rel K rho h H' ∧ H' Dl = some (.lst us) ∧ RelVs' K rho h H' acc us ∧
          PostG K mg (fun c d H' => W c d σ H') rho0 h0 H0 (cellL (lcM p tt te (wipeD s own) (items.drop (i + 1)) acc h)) (pE K Q),
        fun H' z => ⟨k - 1, by omega, by omega, z⟩, fun x H2 y => ?_⟩
      obtain ⟨e2, R2, r⟩ := yl x H2 y
      have hD2 := e2.kp _ _ hD nD
      simp only [lcM] at po1
      cases q : patD p d (wipeD s own) with
      | none => simp only [q] at po1; exact po1.elim
      | some s1' =>
        simp only [q] at po1
        have x2 := x1.trans e2
        obtain ⟨σ', S', z, wp⟩ := patG_ok p d x (wipeD s own) s1' (wipe σ own) r (RelS.wipe (x2.s S0) own) q
        refine z _ ⟨by rw [wp own hp, wipe_wipe], rho1, h1, s1', R2, S', ?_⟩
        cases qt : tt s1' h1 with
        | fail => simp only [qt] at po1; exact po1.elim
        | exc _ _ => simp only [qt] at po1; exact po1.elim
        | ok c h2 =>
          simp only [qt] at po1
          intro rho3 H3 e3 R3
          have hz3 : rho3.Z Dl := e3.zi _ hz
          have hD3 := e3.kp _ _ hD2 nD
          cases c with
          | false => exact iteF ⟨rho3, h2, acc, us, x2.trans e3, hz3, R3, hD3, (e2.trans e3).vs ra, po1⟩
          | true =>
            refine iteT ⟨rho3, h2, s1', R3, e3.s S', ?_⟩
            cases qe : te s1' h2 with
            | fail => simp only [qe] at po1; exact po1.elim
            | exc _ _ => simp only [qe] at po1; exact po1.elim
            | ok yv h3 =>
              simp only [qe] at po1
              intro rho4 H4 e4 R4 v rv
              have nD3 : ∀ m, live h2 m = true → rho3 m ≠ Dl := fun m hm q => R3.zc m hm (q ▸ hz3)
              have hD4 := e4.kp _ _ hD3 nD3
              have hz4 : rho4.Z Dl := e4.zi _ hz3
              have ra4 := (e2.trans (e3.trans e4)).vs ra
              by_cases hlen : acc.length < sizeLine
              · simp only [hlen, if_true] at po1
                refine ⟨us, hD4, by rw [← RelDs.length ra]; exact hlen, rho4, h3, acc ++ [yv], us ++ [v], (x2.trans (e3.trans e4)).over np, hz4, R4.grow hD4 hz4, upd_same, ?_, po1⟩
                refine RelDs.append (RelDs.grow hD4 hz4 _ _ _ ra4) ?_
                simp only [RelDs]
                exact ⟨v, [], rfl, RelD.grow hD4 hz4 _ _ _ rv, rfl⟩
              · simp only [hlen, if_false] at po1; exact po1.elim
section
variable {X : Cx} {W : WX} {elt tg iter : Expr} {ifs : List Expr} {scope : Scope} {own : List (Str × Nat)} {pos : Pos} {fi : AF} {p : Pat} {tt : TF} {te : EF}
theorem r_setLcC {oi : List Nat} {i : Nat} {y : Str} {py spos : Pos} (hN : X.N.Nodup) (hc : X.calm = true) (hi : SI X W tg iter fi) (ok : BlkOk X.N X.env.scope scope own) (b : Blk X scope tg ifs elt p tt te) (hp : ∀ i ∈ patI p, i ∈ oi)
    (hsw : swapsWith (.ListComp elt [⟨tg, iter, ifs, 0⟩] scope pos) (some (.Name y py)) spos.line X.env = pure true) (ho : own.map (·.2) = oi := by rfl) (hy : X.N[i]? = some y := by rfl) (hyl : X.env.scope.names.lookup y = some .local := by rfl) (hs : ∀ x, foldedSetIterable iter X.env x = pure x := by intro _; rfl) :
    SS X W (.Assign [.Name y py] (.ListComp elt [⟨tg, iter, ifs, 0⟩] scope pos) spos) (s_set i (e_lcC oi fi p tt te)) := PS.imp (ps_setLc hc hN hy hyl hsw hi ok b.hg b.ht b.he hs) fun E σ H h => by
  subst ho
  obtain ⟨rho, h, s, R, S, po⟩ := h
  exact tE.lcC (W := W) hp (stepS R S po fun rho1 h1 H1 x e1 R1 S1 po1 v r => PostG.ok po1 R1 _ (S1.set r i))
end
mutual
def fzD (h : Hd) : D → D
  | .tup xs => .tup (fzDs h xs)
  | .lv xs => .lv (fzDs h xs)
  | .fl xs => .fl (fzDs h xs)
  | .ref n => match h[n]? with
    | some (.lst xs) => .lv xs
    | _ => .ref n
  | .exc c ns xs => .exc c ns (fzDs h xs)
  | .obj c ns xs => .obj c ns (fzDs h xs)
  | d => d
def fzDs (h : Hd) : List D → List D
  | [] => []
  | d :: ds => fzD h d :: fzDs h ds
end
mutual
/-- a value with no list in it -/
def plainD : D → Bool
  | .tup xs => plainDs xs
  | .lv _ => false
  | .fl _ => false
  | .exc _ _ _ => false
  | .obj _ _ _ => false
  | .fd _ _ => false
  | .ref _ => false
  | _ => true
def plainDs : List D → Bool
  | [] => true
  | d :: ds => plainD d && plainDs ds
end
def flatO : O → Bool
  | .dead => true
  | .lst xs => noRefs xs
  | .dct _ _ => false
def fzH (h : Hd) : Hd := h.map fun _ => .dead
def fzS (h : Hd) (s : Ev) : Ev := s.map fun o => o.map (fzD h)
theorem fzH_live {h : Hd} {m : Nat} : live (fzH h) m = false := by
  unfold live fzH
  rw [List.getElem?_map]
  cases h[m]? <;> rfl
section
variable {K : Kx} {rho rho2 : Rh} {h h2 : Hd} {H H2 : Hp}
mutual
theorem RelD.fz (R : Rel K rho h H) (fl : h.all flatO = true) {B : Nat} : ∀ (d : D) (v : V), RelD K rho h B H d v → RelD K rho (fzH h) B H (fzD h d) v
  | .non, v, e => by simp only [fzD, RelD] at e ⊢; exact e
  | .bl b, v, e => by simp only [fzD, RelD] at e ⊢; exact e
  | .int i, v, e => by simp only [fzD, RelD] at e ⊢; exact e
  | .str z, v, e => by simp only [fzD, RelD] at e ⊢; exact e
  | .tup xs, v, e => by
    simp only [fzD, RelD] at e ⊢
    obtain ⟨a, us, e1, e2, e3⟩ := e
    exact ⟨a, us, e1, e2, RelDs.fz R fl xs us e3⟩
  | .lv xs, v, e => by
    simp only [fzD, RelD] at e ⊢
    obtain ⟨a, us, e1, ⟨e2, z, n⟩, e3⟩ := e
    exact ⟨a, us, e1, ⟨e2, z, fun m hm => by rw [fzH_live] at hm; cases hm⟩, RelDs.fz R fl xs us e3⟩
  | .fl xs, v, e => by
    simp only [fzD, RelD] at e ⊢
    obtain ⟨a, us, e1, e2, e3⟩ := e
    exact ⟨a, us, e1, e2, RelDs.fz R fl xs us e3⟩
  | .ref n, v, e => by
    have hl : ∀ m, live (fzH h) m = true → live h m = true := fun m hm => by rw [fzH_live] at hm; cases hm
    simp only [RelD] at e
    unfold fzD
    cases q : h[n]? with
    | none => simp only [RelD]; exact e
    | some o =>
      cases o with
      | dead => simp only [RelD]; exact e
      | dct _ _ =>
        have := List.all_eq_true.mp fl _ (List.mem_of_getElem? q)
        cases this
      | lst xs =>
        obtain ⟨us, a, b⟩ := R.cell n _ q
        have nx : noRefs xs = true := List.all_eq_true.mp fl _ (List.mem_of_getElem? q)
        have lv : live h n = true := by unfold live; rw [q]
        simp only [RelD]
        exact ⟨rho n, us, e.2, ⟨a, R.zc n lv, fun m hm => by rw [fzH_live] at hm; cases hm⟩, RelDs.noref hl _ _ _ _ nx b⟩
  | .exc c ns xs, v, e => by
    simp only [fzD, RelD] at e ⊢
    obtain ⟨a, C, o, d, e1, e2, e3, e4⟩ := e
    refine ⟨a, C, o, d, e1, e2, e3, e4.imp (fun z => ⟨z.1, by rw [z.2.1]; rfl, z.2.2⟩) fun ⟨dd, od, us, q1, q2, q3, q4⟩ => ⟨dd, od, us, q1, q2, q3, RelDs.fz R fl xs _ q4⟩⟩
  | .fd ks vs, v, e => by
    have hl : ∀ m, live (fzH h) m = true → live h m = true := fun m hm => by rw [fzH_live] at hm; cases hm
    simp only [fzD, RelD] at e ⊢
    obtain ⟨a, o, us, ws, e1, e2, e3, e4, e5⟩ := e
    exact ⟨a, o, us, ws, e1, e2, e3, RelDs.less hl _ _ _ e4, RelDs.less hl _ _ _ e5⟩
  | .obj c ns xs, v, e => by
    simp only [fzD, RelD] at e ⊢
    obtain ⟨a, C, dx, o, us, e1, e2, e3, e4, e5⟩ := e
    exact ⟨a, C, dx, o, us, e1, e2, e3, e4, RelDs.fz R fl xs _ e5⟩
theorem RelDs.fz (R : Rel K rho h H) (fl : h.all flatO = true) {B : Nat} : ∀ (ds : List D) (us : List V), RelDs K rho h B H ds us → RelDs K rho (fzH h) B H (fzDs h ds) us
  | [], us, e => by simp only [fzDs, RelDs] at e ⊢; exact e
  | d :: ds, us, e => by
    simp only [fzDs, RelDs] at e ⊢
    obtain ⟨v, r, e1, e2, e3⟩ := e
    exact ⟨v, r, e1, RelD.fz R fl d v e2, RelDs.fz R fl ds r e3⟩
end
mutual
theorem RelD.plain {B B' : Nat} : ∀ (d : D) (v : V), plainD d = true → RelD K rho h2 B H d v → RelD K rho h B' H d v
  | .non, v, p, e => by simp only [RelD] at e ⊢; exact e
  | .bl b, v, p, e => by simp only [RelD] at e ⊢; exact e
  | .int i, v, p, e => by simp only [RelD] at e ⊢; exact e
  | .str z, v, p, e => by simp only [RelD] at e ⊢; exact e
  | .tup xs, v, p, e => by
    simp only [RelD] at e ⊢
    obtain ⟨a, us, e1, e2, e3⟩ := e
    exact ⟨a, us, e1, e2, RelDs.plain xs us (by simpa only [plainD] using p) e3⟩
  | .lv xs, v, p, e => by simp only [plainD] at p; cases p
  | .fl xs, v, p, e => by simp only [plainD] at p; cases p
  | .ref n, v, p, e => by simp only [plainD] at p; cases p
  | .exc _ _ _, v, p, e => by simp only [plainD] at p; cases p
  | .obj _ _ _, v, p, e => by simp only [plainD] at p; cases p
  | .fd _ _, v, p, e => by simp only [plainD] at p; cases p
theorem RelDs.plain {B B' : Nat} : ∀ (ds : List D) (us : List V), plainDs ds = true → RelDs K rho h2 B H ds us → RelDs K rho h B' H ds us
  | [], us, p, e => by simp only [RelDs] at e ⊢; exact e
  | d :: ds, us, p, e => by
    simp only [plainDs, Bool.and_eq_true] at p
    simp only [RelDs] at e ⊢
    obtain ⟨v, r, e1, e2, e3⟩ := e
    exact ⟨v, r, e1, RelD.plain d v p.1 e2, RelDs.plain ds r p.2 e3⟩
end
theorem fzH_len : (fzH h).length = h.length := by unfold fzH; rw [List.length_map]
theorem RelS.fz (R : Rel K rho h H) (fl : h.all flatO = true) {s : Ev} {σ : L2.St} (S : RelS K rho h H s σ) : RelS K rho (fzH h) H (fzS h s) σ := by
  refine ⟨by unfold fzS; rw [List.length_map]; exact S.1, fun i d e => ?_⟩
  unfold fzS at e
  rw [List.getElem?_map] at e
  cases q : s[i]? with
  | none => rw [q] at e; cases e
  | some o =>
    rw [q] at e
    cases o with
    | none => cases e
    | some d' =>
      cases e
      obtain ⟨v, a, b⟩ := S.2 i d' q
      refine ⟨v, a, ?_⟩
      show RelD K rho (fzH h) (fzH h).length H (fzD h d') v
      rw [fzH_len]
      exact RelD.fz R fl d' v b
end
end Mini
namespace Mini
open PySem L2
section
variable {prog : Program} {w : World} {A : Around} {E : Value → Shared → Prop} {s : Shared}
abbrev NK := NestedKey
abbrev NX := NestedKey × Value × Value
def entN (w : World) (x : NX) : DictEntry := ⟨x.1.hash w, x.2.1, x.2.2⟩
def noStr : Value → Bool
  | .str _ _ => false
  | _ => true
structure KeyN (h : Heap) (k : NK) (v : Value) : Prop where
  is : NestedIs h k v
  dep : k.depth ≤ 8
  ns : noStr v = true
theorem quietN {k : NK} {v : Value} {Q : Bool → Shared → Prop} (x : KeyN s.heap k v) (h : Q true s) : wpAny (model prog w) A (eqIsQuiet 8 v) Q E s := quiet_key k _ 8 s x.is x.dep A E Q h
theorem eqN' {x y : NK} {a b : Value} {Q : Bool → Shared → Prop} (hu : A.units + 8 < cLine) (hx : KeyN s.heap x a) (hy : KeyN s.heap y b) (h : Q (decide (x = y)) s) : wpAny (model prog w) A (PySem.eqBool a b) Q E s :=
  eqAt_key x y A s _ _ hx.is hy.is (by have := hx.dep; omega) _ _ _ _ (by rw [← NestedKey.decide_eq]; exact h)
theorem hashN {k : NK} {v : Value} {Q : Int → Shared → Prop} (hu : A.units + 8 < cLine) (x : KeyN s.heap k v) (h : Q (k.hash w) { s with toks := s.toks + k.draws }) : wpAny (model prog w) A (pyHash v) Q E s :=
  pyHash_key _ _ _ _ _ x.is (by have := x.dep; omega) h
theorem tellN {k : NK} {v : Value} {stored : List Value} {Q : Bool → Shared → Prop} (hkey : KeyN s.heap k v) (hst : ∀ v ∈ stored, ∃ k', KeyN s.heap k' v) (h : Q false s) : wpAny (model prog w) A (tableMayTell v stored) Q E s := by
  unfold tableMayTell
  split
  · exact wpAny_pure h
  · refine wpAny_bind (quietN hkey ?_)
    simp only [Bool.not_true, Bool.false_eq_true, if_false]
    refine wpAny_bind ?_
    refine wpAny_forIn_list _ (fun rest r s' => s' = s ∧ r = (none, ()) ∧ ∀ v ∈ rest, ∃ k', KeyN s.heap k' v) _ ?_ ?_ _ _ ⟨rfl, rfl, hst⟩
    · rintro x rest r s' ⟨rfl, rfl, hr⟩
      obtain ⟨k', hb⟩ := hr x List.mem_cons_self
      refine wpAny_bind (quietN hb ?_)
      simp only [Bool.not_true, Bool.false_eq_true, if_false]
      exact wpAny_pure ⟨rfl, rfl, fun v hv => hr v (List.mem_cons_of_mem _ hv)⟩
    · rintro r s' ⟨rfl, rfl, _⟩
      exact wpAny_pure h
theorem atN {es : Array DictEntry} {xs : List NX} (he : es.toList = xs.map (entN w)) (j : Nat) : es[j]? = (xs[j]?).map (entN w) := by
  rw [← Array.getElem?_toList, he, List.getElem?_map]
theorem sizeN {es : Array DictEntry} {xs : List NX} (he : es.toList = xs.map (entN w)) : es.size = xs.length := by
  rw [← Array.length_toList, he, List.length_map]
theorem uniqN {xs : List NX} (hn : (xs.map (·.1)).Nodup) {i j : Nat} {k : NK} {p q : Value × Value} (hi : xs[i]? = some (k, p)) (hj : xs[j]? = some (k, q)) : i = j := by
  have hi' : (xs.map (·.1))[i]? = some k := by rw [List.getElem?_map, hi]; rfl
  have hj' : (xs.map (·.1))[j]? = some k := by rw [List.getElem?_map, hj]; rfl
  exact (List.getElem?_inj (List.getElem?_eq_some_iff.mp hi').1 hn).mp (hi'.trans hj'.symm)
/-- the search -/
theorem findN {d : Addr} {v : Value} {o : Obj} {es ep} {xs : List NX} {k : NK} {Q : Option Nat → Shared → Prop} (hu : A.units + 8 < cLine) (hkey : KeyN s.heap k v)
    (ho : s.heap.get? d = some o) (hd : o.data = .dict es ep) (he : es.toList = xs.map (entN w)) (his : ∀ x ∈ xs, KeyN s.heap x.1 x.2.1) (hn : (xs.map (·.1)).Nodup)
    (hnone : (∀ (j : Nat) (p : Value × Value), xs[j]? ≠ some (k, p)) → Q none s) (hsome : ∀ (j : Nat) (p : Value × Value), xs[j]? = some (k, p) → Q (some j) s) :
    wpAny (model prog w) A (dictFind d v (k.hash w)) Q E s := by
  have hsz : es.size = xs.length := sizeN he
  have haskey : ∀ (j : Nat) (p : Value × Value), xs[j]? = some (k, p) → ((es[j]?.map (·.hash)) == some (k.hash w)) = true := by
    intro j p hj
    rw [atN he j, hj]
    simp [entN]
  have hmem : ∀ e ∈ es, ∃ x ∈ xs, e = entN w x := by
    intro e hin
    have : e ∈ xs.map (entN w) := he ▸ Array.mem_toList_iff.mpr hin
    obtain ⟨x, hx, rfl⟩ := List.mem_map.mp this
    exact ⟨x, hx, rfl⟩
  have hany : ∀ a, v = .ref a → ¬ (es.any fun e => e.key == Value.ref a && e.hash != k.hash w) = true := by
    rintro a rfl
    rw [← Array.any_toList, List.any_eq_true]
    rintro ⟨e, hin, hc⟩
    obtain ⟨x, hx, rfl⟩ := hmem e (Array.mem_toList_iff.mp hin)
    simp only [entN, Bool.and_eq_true, beq_iff_eq, bne_iff_ne, ne_eq] at hc
    obtain ⟨hxa, hne⟩ := hc
    have := (his x hx).is
    rw [hxa] at this
    exact hne (by rw [NestedIs.inj _ _ _ this hkey.is])
  have hst : ∀ v ∈ (placesWithHash es.size (fun i => es[i]?.map (·.hash)) (k.hash w)).filterMap (fun i => es[i]?.map (·.key)), ∃ k', KeyN s.heap k' v := by
    intro v hv
    obtain ⟨i, _, hi⟩ := List.mem_filterMap.mp hv
    cases hei : es[i]? with
    | none => rw [hei] at hi; cases hi
    | some e =>
      rw [hei] at hi
      obtain rfl : e.key = v := by simpa using hi
      obtain ⟨x, hx, rfl⟩ := hmem e (Array.mem_of_getElem? hei)
      exact ⟨x.1, his x hx⟩
  have stay : ∀ (x : Nat) (k' : NK) (p' : Value × Value) (hit : Option Nat), xs[x]? = some (k', p') → ((hit = none ∧ ∀ j p, j < x → xs[j]? ≠ some (k, p)) ∨ ∃ j p, hit = some j ∧ j < x ∧ xs[j]? = some (k, p)) → ¬ k' = k → ((hit = none ∧ ∀ j p, j < x + 1 → xs[j]? ≠ some (k, p)) ∨ ∃ j p, hit = some j ∧ j < x + 1 ∧ xs[j]? = some (k, p)) := by
    intro x k' p' hit hkv hHx hne
    rcases hHx with ⟨h0, hno⟩ | ⟨j, p, h1, hjx, hj⟩
    · refine .inl ⟨h0, fun j p hjx hj => ?_⟩
      rcases Nat.lt_or_ge j x with h | h
      · exact hno j p h hj
      · have hjx' : j = x := by omega
        subst hjx'
        rw [hkv] at hj
        injection hj with hj
        injection hj with hj
        exact hne hj
    · exact .inr ⟨j, p, h1, by omega, hj⟩
  have reach : ∀ (i x : Nat) (hit : Option Nat), i ≤ x → (∀ j, i ≤ j → j < x → ((es[j]?.map (·.hash)) == some (k.hash w)) = false) → ((hit = none ∧ ∀ j p, j < i → xs[j]? ≠ some (k, p)) ∨ ∃ j p, hit = some j ∧ j < i ∧ xs[j]? = some (k, p)) → ((hit = none ∧ ∀ j p, j < x → xs[j]? ≠ some (k, p)) ∨ ∃ j p, hit = some j ∧ j < x ∧ xs[j]? = some (k, p)) := by
    intro i x hit hix hskip hH
    rcases hH with ⟨h0, hno⟩ | ⟨j, p, h1, hji, hj⟩
    · refine .inl ⟨h0, fun j p hjx hj => ?_⟩
      rcases Nat.lt_or_ge j i with h | h
      · exact hno j p h hj
      · have := hskip j h hjx
        rw [haskey j p hj] at this
        exact absurd this (by decide)
    · exact .inr ⟨j, p, h1, by omega, hj⟩
  have ending : ∀ (i : Nat) (hit : Option Nat), [] = (List.range' i (es.size - i)).filter (fun i => (es[i]?.map (·.hash)) == some (k.hash w)) → ((hit = none ∧ ∀ j p, j < i → xs[j]? ≠ some (k, p)) ∨ ∃ j p, hit = some j ∧ j < i ∧ xs[j]? = some (k, p)) → Q hit s := by
    intro i hit hr hH
    have hall : ∀ j, i ≤ j → j < es.size → ((es[j]?.map (·.hash)) == some (k.hash w)) = false := by
      intro j h1 h2
      have := List.filter_eq_nil_iff.mp hr.symm j (List.mem_range'_1.mpr ⟨h1, by omega⟩)
      simpa using this
    rcases hH with ⟨rfl, hno⟩ | ⟨j, p, rfl, _, hj⟩
    · refine hnone fun j p hj => ?_
      rcases Nat.lt_or_ge j i with h | h
      · exact hno j p h hj
      · have hjl : j < es.size := by
          rw [hsz]
          rcases Nat.lt_or_ge j xs.length with h' | h'
          · exact h'
          · rw [List.getElem?_eq_none h'] at hj; exact nomatch hj
        have := hall j h hjl
        rw [haskey j p hj] at this
        exact absurd this (by decide)
    · exact hsome j p hj
  have plain : wpAny (model prog w) A (dictWalkPlain d v (k.hash w) es (placesWithHash es.size (fun i => es[i]?.map (·.hash)) (k.hash w))) Q E s := by
    unfold dictWalkPlain
    refine wpAny_bind ?_
    refine wpAny_forIn_list _
      (fun rest b s' => s' = s ∧ ∃ i hit, hit = (none : Option Nat) ∧ b = (none, ()) ∧ rest = (List.range' i (es.size - i)).filter (fun i => (es[i]?.map (·.hash)) == some (k.hash w)) ∧ i ≤ es.size ∧
        ((hit = none ∧ ∀ j p, j < i → xs[j]? ≠ some (k, p)) ∨ ∃ j p, hit = some j ∧ j < i ∧ xs[j]? = some (k, p))) _ ?_ ?_ _ _
      ⟨rfl, 0, none, rfl, rfl, by rw [placesWithHash, List.range_eq_range', Nat.sub_zero], Nat.zero_le _, .inl ⟨rfl, fun _ _ h => absurd h (Nat.not_lt_zero _)⟩⟩
    · rintro x rest b s' ⟨rfl, i, hit, h0, rfl, hr, hi, hH⟩
      obtain ⟨hix, hxn, hpx, hskip, hrest⟩ := filter_range'_cons _ _ _ _ _ hr.symm
      have hlt : x < es.size := by omega
      have hrest' : rest = (List.range' (x + 1) (es.size - (x + 1))).filter (fun i => (es[i]?.map (·.hash)) == some (k.hash w)) := by rw [hrest]; congr 2; omega
      obtain ⟨⟨k', b, v'⟩, hkv⟩ : ∃ y, xs[x]? = some y := ⟨xs[x]'(by rw [← hsz]; exact hlt), List.getElem?_eq_getElem _⟩
      have hib : KeyN s'.heap k' b := his _ (List.mem_of_getElem? hkv)
      have hex : es[x]? = some ⟨k'.hash w, b, v'⟩ := by rw [atN he x, hkv]; rfl
      have hHx := reach i x hit hix hskip hH
      rw [hex]
      dsimp only
      by_cases hh : (k'.hash w == k.hash w) = true
      · rw [if_pos hh]
        refine wpAny_bind (wpAny_dictEpoch ho hd (wpAny_bind (eqN' hu hib hkey (wpAny_bind (wpAny_dictEpoch ho hd ?_)))))
        show wpAny _ _ (if (ep != ep) = true then _ else _) _ E _
        rw [if_neg (by simp)]
        by_cases hkk : k' = k
        · rw [decide_eq_true hkk]
          subst hkk
          first | rw [if_pos rfl] | skip
          first | refine wpAny_bind (wpAny_pure ?_) | skip
          refine wpAny_bind (wpAny_rule ?_)
          exact wpAny_pure (wpAny_pure (hsome x _ hkv))
        · rw [decide_eq_false hkk]
          simp only [Bool.false_eq_true, if_false]
          refine wpAny_bind (wpAny_rule ?_)
          first
            | exact wpAny_pure ⟨rfl, x + 1, hit, h0, rfl, hrest', hlt, stay x k' _ hit hkv hHx hkk⟩
            | exact wpAny_bind (wpAny_pure (wpAny_pure ⟨rfl, x + 1, hit, h0, rfl, hrest', hlt, stay x k' _ hit hkv hHx hkk⟩))
      · rw [if_neg hh]
        refine wpAny_pure ⟨rfl, x + 1, hit, h0, rfl, hrest', hlt, stay x k' _ hit hkv hHx ?_⟩
        intro hkk
        rw [hkk] at hh; simp at hh
    · rintro b s' ⟨rfl, i, hit, h0, rfl, hr, hi, hH⟩
      exact wpAny_pure (h0 ▸ ending i hit hr hH)
  unfold dictFind
  try with_reducible refine wpAny_holding ?_
  refine wpAny_bind (wpAny_dictEntries ho hd ?_)
  obtain ⟨is, dep, ns⟩ := id hkey
  cases is with
  | text x t => simp [noStr] at ns
  | none =>
    dsimp only
    by_cases hpl : ((Value.none :: (placesWithHash es.size (fun i => es[i]?.map (·.hash)) (NestedKey.hash w NestedKey.none)).filterMap (fun i => es[i]?.map (·.key))).all carriedByValue) = true
    · rw [if_pos hpl]
      exact plain
    rw [if_neg hpl]
    by_cases hone : (((placesWithHash es.size (fun i => es[i]?.map (·.hash)) (NestedKey.hash w NestedKey.none)).filterMap (fun i => es[i]?.map (·.key))) == [Value.none]) = true <;>
    (first | rw [if_pos hone] | rw [if_neg hone]) <;> (first | refine wpAny_bind (wpAny_pure ?_) | refine wpAny_bind (tellN hkey hst ?_)) <;> (
      rw [if_neg (by simp)]
      refine wpAny_bind ?_
      refine wpAny_forIn_list _
        (fun rest b s'' => s'' = s ∧ ∃ i hit, b = (none, hit) ∧ rest = (List.range' i (es.size - i)).filter (fun i => (es[i]?.map (·.hash)) == some (NestedKey.hash w NestedKey.none)) ∧ i ≤ es.size ∧
          ((hit = none ∧ ∀ j p, j < i → xs[j]? ≠ some (NestedKey.none, p)) ∨ ∃ j p, hit = some j ∧ j < i ∧ xs[j]? = some (NestedKey.none, p))) _ ?_ ?_ _ _
        ⟨rfl, 0, none, rfl, by rw [placesWithHash, List.range_eq_range', Nat.sub_zero], Nat.zero_le _, .inl ⟨rfl, fun _ _ h => absurd h (Nat.not_lt_zero _)⟩⟩
      · rintro x rest b s'' ⟨rfl, i, hit, rfl, hr, hi, hH⟩
        obtain ⟨hix, hxn, hpx, hskip, hrest⟩ := filter_range'_cons _ _ _ _ _ hr.symm
        have hlt : x < es.size := by omega
        have hrest' : rest = (List.range' (x + 1) (es.size - (x + 1))).filter (fun i => (es[i]?.map (·.hash)) == some (NestedKey.hash w NestedKey.none)) := by rw [hrest]; congr 2; omega
        obtain ⟨⟨k', b, v'⟩, hkv⟩ : ∃ y, xs[x]? = some y := ⟨xs[x]'(by rw [← hsz]; exact hlt), List.getElem?_eq_getElem _⟩
        have hib : KeyN s''.heap k' b := his _ (List.mem_of_getElem? hkv)
        have hex : es[x]? = some ⟨k'.hash w, b, v'⟩ := by rw [atN he x, hkv]; rfl
        have hHx := reach i x hit hix hskip hH
        rw [hex]
        dsimp only
        by_cases hh : (k'.hash w == NestedKey.hash w NestedKey.none) = true
        · rw [if_pos hh]
          refine wpAny_bind (wpAny_dictEpoch ho hd (wpAny_bind (eqN' hu hib hkey (wpAny_bind (wpAny_dictEpoch ho hd ?_)))))
          show wpAny _ _ (if (ep != ep) = true then _ else _) _ E _
          rw [if_neg (by simp)]
          by_cases hkk : k' = NestedKey.none
          · rw [decide_eq_true hkk]
            subst hkk
            rcases hHx with ⟨rfl, _⟩ | ⟨j, p, _, hjx, hj⟩
            · first | rw [if_pos rfl] | skip
              simp only [Option.isSome_none, Bool.false_eq_true, if_false]
              first | refine wpAny_bind (wpAny_pure ?_) | skip
              refine wpAny_bind (wpAny_rule ?_)
              split
              · exact wpAny_pure (wpAny_pure (hsome x _ hkv))
              · exact wpAny_pure ⟨rfl, x + 1, some x, rfl, hrest', hlt, .inr ⟨x, _, rfl, Nat.lt_succ_self x, hkv⟩⟩
            · exact absurd (uniqN hn hj hkv) (by omega)
          · rw [decide_eq_false hkk]
            simp only [Bool.false_eq_true, if_false]
            refine wpAny_bind (wpAny_rule ?_)
            first | rw [if_neg (by simp)] | skip
            first
              | exact wpAny_pure ⟨rfl, x + 1, hit, rfl, hrest', hlt, stay x k' _ hit hkv hHx hkk⟩
              | exact wpAny_bind (wpAny_pure (wpAny_pure ⟨rfl, x + 1, hit, rfl, hrest', hlt, stay x k' _ hit hkv hHx hkk⟩))
        · rw [if_neg hh]
          refine wpAny_pure ⟨rfl, x + 1, hit, rfl, hrest', hlt, stay x k' _ hit hkv hHx ?_⟩
          intro hkk
          rw [hkk] at hh; simp at hh
      · rintro b s'' ⟨rfl, i, hit, rfl, hr, hi, hH⟩
        exact wpAny_pure (ending i hit hr hH))
  | @bool bb i0 e0 =>
    dsimp only
    by_cases hpl : ((Value.bool bb :: (placesWithHash es.size (fun i => es[i]?.map (·.hash)) (NestedKey.hash w (NestedKey.num i0))).filterMap (fun i => es[i]?.map (·.key))).all carriedByValue) = true
    · rw [if_pos hpl]
      exact plain
    rw [if_neg hpl]
    by_cases hone : (((placesWithHash es.size (fun i => es[i]?.map (·.hash)) (NestedKey.hash w (NestedKey.num i0))).filterMap (fun i => es[i]?.map (·.key))) == [Value.bool bb]) = true <;>
    (first | rw [if_pos hone] | rw [if_neg hone]) <;> (first | refine wpAny_bind (wpAny_pure ?_) | refine wpAny_bind (tellN hkey hst ?_)) <;> (
      rw [if_neg (by simp)]
      refine wpAny_bind ?_
      refine wpAny_forIn_list _
        (fun rest b s'' => s'' = s ∧ ∃ i hit, b = (none, hit) ∧ rest = (List.range' i (es.size - i)).filter (fun i => (es[i]?.map (·.hash)) == some (NestedKey.hash w (NestedKey.num i0))) ∧ i ≤ es.size ∧
          ((hit = none ∧ ∀ j p, j < i → xs[j]? ≠ some ((NestedKey.num i0), p)) ∨ ∃ j p, hit = some j ∧ j < i ∧ xs[j]? = some ((NestedKey.num i0), p))) _ ?_ ?_ _ _
        ⟨rfl, 0, none, rfl, by rw [placesWithHash, List.range_eq_range', Nat.sub_zero], Nat.zero_le _, .inl ⟨rfl, fun _ _ h => absurd h (Nat.not_lt_zero _)⟩⟩
      · rintro x rest b s'' ⟨rfl, i, hit, rfl, hr, hi, hH⟩
        obtain ⟨hix, hxn, hpx, hskip, hrest⟩ := filter_range'_cons _ _ _ _ _ hr.symm
        have hlt : x < es.size := by omega
        have hrest' : rest = (List.range' (x + 1) (es.size - (x + 1))).filter (fun i => (es[i]?.map (·.hash)) == some (NestedKey.hash w (NestedKey.num i0))) := by rw [hrest]; congr 2; omega
        obtain ⟨⟨k', b, v'⟩, hkv⟩ : ∃ y, xs[x]? = some y := ⟨xs[x]'(by rw [← hsz]; exact hlt), List.getElem?_eq_getElem _⟩
        have hib : KeyN s''.heap k' b := his _ (List.mem_of_getElem? hkv)
        have hex : es[x]? = some ⟨k'.hash w, b, v'⟩ := by rw [atN he x, hkv]; rfl
        have hHx := reach i x hit hix hskip hH
        rw [hex]
        dsimp only
        by_cases hh : (k'.hash w == NestedKey.hash w (NestedKey.num i0)) = true
        · rw [if_pos hh]
          refine wpAny_bind (wpAny_dictEpoch ho hd (wpAny_bind (eqN' hu hib hkey (wpAny_bind (wpAny_dictEpoch ho hd ?_)))))
          show wpAny _ _ (if (ep != ep) = true then _ else _) _ E _
          rw [if_neg (by simp)]
          by_cases hkk : k' = (NestedKey.num i0)
          · rw [decide_eq_true hkk]
            subst hkk
            rcases hHx with ⟨rfl, _⟩ | ⟨j, p, _, hjx, hj⟩
            · first | rw [if_pos rfl] | skip
              simp only [Option.isSome_none, Bool.false_eq_true, if_false]
              first | refine wpAny_bind (wpAny_pure ?_) | skip
              refine wpAny_bind (wpAny_rule ?_)
              split
              · exact wpAny_pure (wpAny_pure (hsome x _ hkv))
              · exact wpAny_pure ⟨rfl, x + 1, some x, rfl, hrest', hlt, .inr ⟨x, _, rfl, Nat.lt_succ_self x, hkv⟩⟩
            · exact absurd (uniqN hn hj hkv) (by omega)
          · rw [decide_eq_false hkk]
            simp only [Bool.false_eq_true, if_false]
            refine wpAny_bind (wpAny_rule ?_)
            first | rw [if_neg (by simp)] | skip
            first
              | exact wpAny_pure ⟨rfl, x + 1, hit, rfl, hrest', hlt, stay x k' _ hit hkv hHx hkk⟩
              | exact wpAny_bind (wpAny_pure (wpAny_pure ⟨rfl, x + 1, hit, rfl, hrest', hlt, stay x k' _ hit hkv hHx hkk⟩))
        · rw [if_neg hh]
          refine wpAny_pure ⟨rfl, x + 1, hit, rfl, hrest', hlt, stay x k' _ hit hkv hHx ?_⟩
          intro hkk
          rw [hkk] at hh; simp at hh
      · rintro b s'' ⟨rfl, i, hit, rfl, hr, hi, hH⟩
        exact wpAny_pure (ending i hit hr hH))
  | int i0 t0 =>
    dsimp only
    by_cases hpl : ((Value.int i0 t0 :: (placesWithHash es.size (fun i => es[i]?.map (·.hash)) (NestedKey.hash w (NestedKey.num i0))).filterMap (fun i => es[i]?.map (·.key))).all carriedByValue) = true
    · rw [if_pos hpl]
      exact plain
    rw [if_neg hpl]
    by_cases hone : (((placesWithHash es.size (fun i => es[i]?.map (·.hash)) (NestedKey.hash w (NestedKey.num i0))).filterMap (fun i => es[i]?.map (·.key))) == [Value.int i0 t0]) = true <;>
    (first | rw [if_pos hone] | rw [if_neg hone]) <;> (first | refine wpAny_bind (wpAny_pure ?_) | refine wpAny_bind (tellN hkey hst ?_)) <;> (
      rw [if_neg (by simp)]
      refine wpAny_bind ?_
      refine wpAny_forIn_list _
        (fun rest b s'' => s'' = s ∧ ∃ i hit, b = (none, hit) ∧ rest = (List.range' i (es.size - i)).filter (fun i => (es[i]?.map (·.hash)) == some (NestedKey.hash w (NestedKey.num i0))) ∧ i ≤ es.size ∧
          ((hit = none ∧ ∀ j p, j < i → xs[j]? ≠ some ((NestedKey.num i0), p)) ∨ ∃ j p, hit = some j ∧ j < i ∧ xs[j]? = some ((NestedKey.num i0), p))) _ ?_ ?_ _ _
        ⟨rfl, 0, none, rfl, by rw [placesWithHash, List.range_eq_range', Nat.sub_zero], Nat.zero_le _, .inl ⟨rfl, fun _ _ h => absurd h (Nat.not_lt_zero _)⟩⟩
      · rintro x rest b s'' ⟨rfl, i, hit, rfl, hr, hi, hH⟩
        obtain ⟨hix, hxn, hpx, hskip, hrest⟩ := filter_range'_cons _ _ _ _ _ hr.symm
        have hlt : x < es.size := by omega
        have hrest' : rest = (List.range' (x + 1) (es.size - (x + 1))).filter (fun i => (es[i]?.map (·.hash)) == some (NestedKey.hash w (NestedKey.num i0))) := by rw [hrest]; congr 2; omega
        obtain ⟨⟨k', b, v'⟩, hkv⟩ : ∃ y, xs[x]? = some y := ⟨xs[x]'(by rw [← hsz]; exact hlt), List.getElem?_eq_getElem _⟩
        have hib : KeyN s''.heap k' b := his _ (List.mem_of_getElem? hkv)
        have hex : es[x]? = some ⟨k'.hash w, b, v'⟩ := by rw [atN he x, hkv]; rfl
        have hHx := reach i x hit hix hskip hH
        rw [hex]
        dsimp only
        by_cases hh : (k'.hash w == NestedKey.hash w (NestedKey.num i0)) = true
        · rw [if_pos hh]
          refine wpAny_bind (wpAny_dictEpoch ho hd (wpAny_bind (eqN' hu hib hkey (wpAny_bind (wpAny_dictEpoch ho hd ?_)))))
          show wpAny _ _ (if (ep != ep) = true then _ else _) _ E _
          rw [if_neg (by simp)]
          by_cases hkk : k' = (NestedKey.num i0)
          · rw [decide_eq_true hkk]
            subst hkk
            rcases hHx with ⟨rfl, _⟩ | ⟨j, p, _, hjx, hj⟩
            · first | rw [if_pos rfl] | skip
              simp only [Option.isSome_none, Bool.false_eq_true, if_false]
              first | refine wpAny_bind (wpAny_pure ?_) | skip
              refine wpAny_bind (wpAny_rule ?_)
              split
              · exact wpAny_pure (wpAny_pure (hsome x _ hkv))
              · exact wpAny_pure ⟨rfl, x + 1, some x, rfl, hrest', hlt, .inr ⟨x, _, rfl, Nat.lt_succ_self x, hkv⟩⟩
            · exact absurd (uniqN hn hj hkv) (by omega)
          · rw [decide_eq_false hkk]
            simp only [Bool.false_eq_true, if_false]
            refine wpAny_bind (wpAny_rule ?_)
            first | rw [if_neg (by simp)] | skip
            first
              | exact wpAny_pure ⟨rfl, x + 1, hit, rfl, hrest', hlt, stay x k' _ hit hkv hHx hkk⟩
              | exact wpAny_bind (wpAny_pure (wpAny_pure ⟨rfl, x + 1, hit, rfl, hrest', hlt, stay x k' _ hit hkv hHx hkk⟩))
        · rw [if_neg hh]
          refine wpAny_pure ⟨rfl, x + 1, hit, rfl, hrest', hlt, stay x k' _ hit hkv hHx ?_⟩
          intro hkk
          rw [hkk] at hh; simp at hh
      · rintro b s'' ⟨rfl, i, hit, rfl, hr, hi, hH⟩
        exact wpAny_pure (ending i hit hr hH))
  | @tup a o' vs n ks a1 a2 a3 a4 =>
    dsimp only
    rw [if_neg (show ¬ ((Value.ref a :: (placesWithHash es.size (fun i => es[i]?.map (·.hash)) (NestedKey.hash w (.tup ks))).filterMap (fun i => es[i]?.map (·.key))).all carriedByValue) = true by simp [carriedByValue])]
    rw [if_neg (hany a rfl)]
    by_cases hone : (((placesWithHash es.size (fun i => es[i]?.map (·.hash)) (NestedKey.hash w (NestedKey.tup ks))).filterMap (fun i => es[i]?.map (·.key))) == [Value.ref a]) = true <;>
    (first | rw [if_pos hone] | rw [if_neg hone]) <;> (first | refine wpAny_bind (wpAny_pure ?_) | refine wpAny_bind (tellN hkey hst ?_)) <;> (
      rw [if_neg (by simp)]
      refine wpAny_bind ?_
      refine wpAny_forIn_list _
        (fun rest b s'' => s'' = s ∧ ∃ i hit, b = (none, hit) ∧ rest = (List.range' i (es.size - i)).filter (fun i => (es[i]?.map (·.hash)) == some (NestedKey.hash w (NestedKey.tup ks))) ∧ i ≤ es.size ∧
          ((hit = none ∧ ∀ j p, j < i → xs[j]? ≠ some ((NestedKey.tup ks), p)) ∨ ∃ j p, hit = some j ∧ j < i ∧ xs[j]? = some ((NestedKey.tup ks), p))) _ ?_ ?_ _ _
        ⟨rfl, 0, none, rfl, by rw [placesWithHash, List.range_eq_range', Nat.sub_zero], Nat.zero_le _, .inl ⟨rfl, fun _ _ h => absurd h (Nat.not_lt_zero _)⟩⟩
      · rintro x rest b s'' ⟨rfl, i, hit, rfl, hr, hi, hH⟩
        obtain ⟨hix, hxn, hpx, hskip, hrest⟩ := filter_range'_cons _ _ _ _ _ hr.symm
        have hlt : x < es.size := by omega
        have hrest' : rest = (List.range' (x + 1) (es.size - (x + 1))).filter (fun i => (es[i]?.map (·.hash)) == some (NestedKey.hash w (NestedKey.tup ks))) := by rw [hrest]; congr 2; omega
        obtain ⟨⟨k', b, v'⟩, hkv⟩ : ∃ y, xs[x]? = some y := ⟨xs[x]'(by rw [← hsz]; exact hlt), List.getElem?_eq_getElem _⟩
        have hib : KeyN s''.heap k' b := his _ (List.mem_of_getElem? hkv)
        have hex : es[x]? = some ⟨k'.hash w, b, v'⟩ := by rw [atN he x, hkv]; rfl
        have hHx := reach i x hit hix hskip hH
        rw [hex]
        dsimp only
        by_cases hh : (k'.hash w == NestedKey.hash w (NestedKey.tup ks)) = true
        · rw [if_pos hh]
          refine wpAny_bind (wpAny_dictEpoch ho hd (wpAny_bind (eqN' hu hib hkey (wpAny_bind (wpAny_dictEpoch ho hd ?_)))))
          show wpAny _ _ (if (ep != ep) = true then _ else _) _ E _
          rw [if_neg (by simp)]
          by_cases hkk : k' = (NestedKey.tup ks)
          · rw [decide_eq_true hkk]
            subst hkk
            rcases hHx with ⟨rfl, _⟩ | ⟨j, p, _, hjx, hj⟩
            · first | rw [if_pos rfl] | skip
              simp only [Option.isSome_none, Bool.false_eq_true, if_false]
              first | refine wpAny_bind (wpAny_pure ?_) | skip
              refine wpAny_bind (wpAny_rule ?_)
              split
              · exact wpAny_pure (wpAny_pure (hsome x _ hkv))
              · exact wpAny_pure ⟨rfl, x + 1, some x, rfl, hrest', hlt, .inr ⟨x, _, rfl, Nat.lt_succ_self x, hkv⟩⟩
            · exact absurd (uniqN hn hj hkv) (by omega)
          · rw [decide_eq_false hkk]
            simp only [Bool.false_eq_true, if_false]
            refine wpAny_bind (wpAny_rule ?_)
            first | rw [if_neg (by simp)] | skip
            first
              | exact wpAny_pure ⟨rfl, x + 1, hit, rfl, hrest', hlt, stay x k' _ hit hkv hHx hkk⟩
              | exact wpAny_bind (wpAny_pure (wpAny_pure ⟨rfl, x + 1, hit, rfl, hrest', hlt, stay x k' _ hit hkv hHx hkk⟩))
        · rw [if_neg hh]
          refine wpAny_pure ⟨rfl, x + 1, hit, rfl, hrest', hlt, stay x k' _ hit hkv hHx ?_⟩
          intro hkk
          rw [hkk] at hh; simp at hh
      · rintro b s'' ⟨rfl, i, hit, rfl, hr, hi, hH⟩
        exact wpAny_pure (ending i hit hr hH))
def atNk (xs : List NX) (k : NK) : Option (Value × Value) := (xs.find? fun x => decide (x.1 = k)).map (·.2)
def putNk (xs : List NX) (k : NK) (a v : Value) : List NX := if (atNk xs k).isSome then xs.map (fun x => if x.1 = k then (x.1, x.2.1, v) else x) else xs ++ [(k, a, v)]
theorem atNk_get {xs : List NX} (hn : (xs.map (·.1)).Nodup) {i : Nat} {k : NK} {p : Value × Value} (hx : xs[i]? = some (k, p)) : atNk xs k = some p := by
  induction xs generalizing i with
  | nil => simp at hx
  | cons x rest ih =>
    rw [List.map_cons, List.nodup_cons] at hn
    cases i with
    | zero =>
      simp only [List.getElem?_cons_zero, Option.some.injEq] at hx
      subst hx; simp [atNk]
    | succ j =>
      simp only [List.getElem?_cons_succ] at hx
      have hmem : k ∈ rest.map (·.1) := List.mem_map.mpr ⟨(k, p), List.mem_of_getElem? hx, rfl⟩
      have hne : ¬ x.1 = k := fun e => hn.1 (e ▸ hmem)
      have := ih hn.2 hx
      simpa [atNk, List.find?_cons, hne] using this
theorem atNk_none {xs : List NX} {k : NK} (h : ∀ (j : Nat) (p : Value × Value), xs[j]? ≠ some (k, p)) : atNk xs k = none := by
  have : (xs.find? fun x => decide (x.1 = k)) = none := by
    rw [List.find?_eq_none]
    intro x hx hk
    obtain ⟨j, hj⟩ := List.mem_iff_getElem?.mp hx
    have hk' : x.1 = k := of_decide_eq_true hk
    exact h j x.2 (by rw [hj, ← hk'])
  simp [atNk, this]
theorem repl_not {xs : List NX} {k : NK} {v : Value} (hn : k ∉ xs.map (·.1)) : xs.map (fun x => if x.1 = k then (x.1, x.2.1, v) else x) = xs := by
  induction xs with
  | nil => rfl
  | cons x xs ih =>
    simp only [List.map_cons, List.mem_cons, not_or] at hn ⊢
    rw [if_neg (fun e => hn.1 e.symm), ih hn.2]
theorem modify_repl {k : NK} {v : Value} : ∀ {xs : List NX} {j : Nat} {p : Value × Value}, (xs.map (·.1)).Nodup → xs[j]? = some (k, p) → (xs.map (entN w)).modify j (fun e : DictEntry => { e with val := v }) = (xs.map (fun x => if x.1 = k then (x.1, x.2.1, v) else x)).map (entN w) := by
  intro xs
  induction xs with
  | nil => intro j p _ hj; simp at hj
  | cons x rest ih =>
    intro j p hn hj
    rw [List.map_cons, List.nodup_cons] at hn
    cases j with
    | zero =>
      simp only [List.getElem?_cons_zero, Option.some.injEq] at hj
      subst hj
      rw [List.map_cons, List.map_cons, repl_not hn.1, if_pos rfl, List.map_cons]
      rfl
    | succ j =>
      simp only [List.getElem?_cons_succ] at hj
      have hmem : k ∈ rest.map (·.1) := List.mem_map.mpr ⟨(k, p), List.mem_of_getElem? hj, rfl⟩
      have hne : ¬ x.1 = k := fun e => hn.1 (e ▸ hmem)
      rw [List.map_cons, List.map_cons, if_neg hne, List.map_cons]
      show entN w x :: (rest.map (entN w)).modify j _ = entN w x :: _
      rw [ih hn.2 hj]
/-- the dict at d -/
def NdAt (w : World) (h : Heap) (d : Addr) (xs : List NX) : Prop := ∃ o es ep, h.get? d = some o ∧ o.ExactDict ∧ o.data = .dict es ep ∧ es.toList = xs.map (entN w)
theorem NdAt.typeIs {d : Addr} {xs : List NX} (x : NdAt w s.heap d xs) : s.TypeIs (.ref d) "dict" := let ⟨o, _, _, ho, hc, _⟩ := x; ⟨o, ho, hc.1⟩
structure KeysN (h : Heap) (xs : List NX) : Prop where
  is : ∀ x ∈ xs, KeyN h x.1 x.2.1
  nd : (xs.map (·.1)).Nodup
theorem dgetN {d : Addr} {v : Value} {xs : List NX} {k : NK} {Q : Option Value → Shared → Prop} (hu : A.units + 8 < cLine) (hkey : KeyN s.heap k v) (hm : NdAt w s.heap d xs) (hk : KeysN s.heap xs)
    (h : Q ((atNk xs k).map (·.2)) { s with toks := s.toks + k.draws }) : wpAny (model prog w) A (dictGet d v) Q E s := by
  obtain ⟨o, es, ep, ho, _, hd, he⟩ := hm
  unfold dictGet
  try with_reducible refine wpAny_holding ?_
  refine wpAny_bind (hashN hu hkey (wpAny_bind (findN (s := { s with toks := s.toks + k.draws }) hu hkey ho hd he hk.is hk.nd ?_ ?_)))
  · intro hno
    rw [atNk_none hno] at h
    exact wpAny_pure h
  · intro j p hj
    rw [atNk_get hk.nd hj] at h
    refine wpAny_bind (wpAny_dictEntries (s := { s with toks := s.toks + k.draws }) ho hd ?_)
    rw [atN he j, hj]
    exact wpAny_pure h
theorem dsetN {d : Addr} {a : Value} {xs : List NX} {k : NK} {v : Value} {Q : Unit → Shared → Prop} (hu : A.units + 8 < cLine) (hkey : KeyN s.heap k a) (hm : NdAt w s.heap d xs) (hk : KeysN s.heap xs)
    (hQ : ∀ h', NdAt w h' d (putNk xs k a v) → Heap.SameBut d s.heap h' → Q () { s with heap := h', toks := s.toks + k.draws }) (hsz : xs.length ≤ sizeLine) :
    wpAny (model prog w) A (dictSet d a v) Q E s := by
  obtain ⟨o, es, ep, ho, hc, hd, he⟩ := hm
  unfold dictSet
  try with_reducible refine wpAny_holding ?_
  refine wpAny_bind (hashN hu hkey ?_)
  unfold dictSetHashed
  try with_reducible refine wpAny_holding ?_
  refine wpAny_bind (findN (s := { s with toks := s.toks + k.draws }) hu hkey ho hd he hk.is hk.nd ?_ ?_)
  · intro hno
    refine wpAny_bind (wpAny_rule (wpAny_updateDictKeys (hz := by have e := sizeN he; omega) (s := { s with toks := s.toks + k.draws }) ho hd (hQ _ ⟨_, _, ep + 1, Heap.get?_update_self _ ho (Obj.isFreed_of_dict (Obj.data_mapDictKeys hd _)),
      hc.mapDictKeys _, Obj.data_mapDictKeys hd _, ?_⟩ (Heap.SameBut.update ..))))
    rw [putNk, atNk_none hno]
    simp [he, entN]
  · intro j p hj
    refine wpAny_bind (wpAny_rule (wpAny_bind (wpAny_updateDict (s := { s with toks := s.toks + k.draws }) ho hd (wpAny_point (hQ _ ⟨_, _, ep, Heap.get?_update_self _ ho (Obj.isFreed_of_dict (Obj.data_mapDict hd _)),
      hc.mapDict _, Obj.data_mapDict hd _, ?_⟩ (Heap.SameBut.update ..))))))
    rw [putNk, atNk_get hk.nd hj]
    have := modify_repl (w := w) (v := v) hk.nd hj
    rw [← he] at this
    obtain ⟨l⟩ := es
    simpa using this
theorem getItemN {d : Addr} {a : Value} {xs : List NX} {k : NK} {p : Value × Value} {Q : Value → Shared → Prop} (hu : A.units + 9 < cLine) (hkey : KeyN s.heap k a) (hm : NdAt w s.heap d xs) (hk : KeysN s.heap xs) (hp : atNk xs k = some p)
    (h : Q p.2 { s with toks := s.toks + k.draws }) : wpAny (model prog w) A (getItem (.ref d) a) Q E s := by
  unfold getItem
  try with_reducible refine wpAny_holding ?_
  refine wpAny_bind (wpAny_sequenceKey hm.typeIs (by decide) ?_)
  refine wpAny_bind (wpAny_callSpecial?_slot (name := Str.ofString "__getitem__") hm.typeIs slot_dict_getitem
    (wpAny_call_entry slot_dict_getitem hm.typeIs entry_dict_getitem ?_ (args_dict_getitem _ _)))
  show wpAny _ _ (dictGet d a >>= _) _ _ s
  refine wpAny_bind (dgetN (by simp only [Around.in1_units]; omega) hkey hm hk ?_)
  rw [hp]
  exact wpAny_pure ⟨p.2, rfl, wpAny_pure h⟩
theorem setItemN {d : Addr} {a : Value} {xs : List NX} {k : NK} {v : Value} {Q : Unit → Shared → Prop} (hu : A.units + 9 < cLine) (hkey : KeyN s.heap k a) (hm : NdAt w s.heap d xs) (hk : KeysN s.heap xs)
    (hQ : ∀ h', NdAt w h' d (putNk xs k a v) → Heap.SameBut d s.heap h' → Q () { s with heap := h', toks := s.toks + k.draws }) (hsz : xs.length ≤ sizeLine) :
    wpAny (model prog w) A (setItem (.ref d) a v) Q E s := by
  unfold setItem
  try with_reducible refine wpAny_holding ?_
  refine wpAny_bind (wpAny_sequenceKey hm.typeIs (by decide) ?_)
  refine wpAny_bind (wpAny_callSpecial?_slot (name := Str.ofString "__setitem__") hm.typeIs slot_dict_setitem
    (wpAny_call_entry slot_dict_setitem hm.typeIs entry_dict_setitem ?_ (args_dict_setitem _ _ _)))
  show wpAny _ _ (Builtin.Dict.notOrdered "__setitem__" ⟨[.ref d, a, v], []⟩ >>= _) _ _ s
  refine wpAny_bind (wpAny_notOrdered_dict hm.typeIs ?_)
  show wpAny _ _ (dictSet d a v >>= _) _ _ s
  exact wpAny_bind (dsetN (by simp only [Around.in1_units]; omega) hkey hm hk (fun h' hm' hs' => wpAny_pure ⟨.none, rfl, wpAny_pure (hQ h' hm' hs')⟩) hsz)
theorem getOrN (d : Addr) (a dflt : Value) (hd : (d == sysModules) = false) :
    MeetsIn prog w (Builtin.«dict.get» ⟨[.ref d, a, dflt], []⟩) (fun A R s => A.units + 9 < cLine ∧ ∃ k xs, KeyN s.heap k a ∧ NdAt w s.heap d xs ∧ KeysN s.heap xs ∧
      R (.ok (.ret (((atNk xs k).map (·.2)).getD dflt))) { s with toks := s.toks + k.draws }) :=
  .of_wp fun A R s ⟨hu, k, xs, hkey, hm, hk, h⟩ => by
    show wpAny _ _ (dictGet d a >>= _) _ _ s
    refine wpAny_bind (dgetN (by simp only [Around.in1_units]; omega) hkey hm hk ?_)
    cases hf : (atNk xs k).map (·.2) with
    | some v =>
      rw [hf] at h
      exact wpAny_pure ⟨v, rfl, h⟩
    | none =>
      rw [hf] at h
      show wpAny _ _ (Builtin.Dict.missed d a >>= _) _ _ _
      exact wpAny_bind (wpAny_missed_other hd (wpAny_pure ⟨dflt, rfl, h⟩))
end
theorem vals_nil_of {us : List Value} (r : Vals [] us) : us = [] := by cases r; rfl
section
variable {X : Cx} {pins : List (Addr × Obj)} {σ : L2.St} {H : Hp} {s : Shared} {rho : Rh} {h : Hd}
mutual
theorem nk_is (I : L2.Inv X pins σ H s) : ∀ (d : D) (v : V) (u : Value) (B : Nat) (k : NK), RelD (kx X) rho h B H d v → RelV v u → nkD d = some k → NestedIs s.heap k u ∧ noStr u = true
  | .non, v, u, B, k, r, rv, e => by simp only [RelD] at r; subst r; simp only [nkD, Option.some.injEq] at e; subst e; cases (show u = Value.none from rv); exact ⟨.none, rfl⟩
  | .bl b, v, u, B, k, r, rv, e => by simp only [RelD] at r; subst r; simp only [nkD, Option.some.injEq] at e; subst e; cases (show u = Value.bool b from rv); exact ⟨.bool rfl, rfl⟩
  | .int i, v, u, B, k, r, rv, e => by simp only [RelD] at r; subst r; simp only [nkD, Option.some.injEq] at e; subst e; obtain ⟨t, rfl⟩ := (show ∃ t, u = Value.int i t from rv); exact ⟨.int i t, rfl⟩
  | .str x, v, u, B, k, r, rv, e => by simp [nkD] at e
  | .tup xs, v, u, B, k, r, rv, e => by
    simp only [RelD] at r
    obtain ⟨a, us, e1, e2, e3⟩ := r
    subst e1
    cases (show u = Value.ref a from rv)
    simp only [nkD] at e
    cases q : nkDs xs with
    | none => rw [q] at e; cases e
    | some ks =>
      rw [q] at e
      cases e
      obtain ⟨its, rvs, ⟨o, ho, hc, n, hd⟩, _⟩ := I.tuple e2
      exact ⟨.tup ho hc hd (by simpa using nks_are I xs us its B ks e3 rvs q), rfl⟩
  | .lv xs, v, u, B, k, r, rv, e => by simp [nkD] at e
  | .fl xs, v, u, B, k, r, rv, e => by simp [nkD] at e
  | .ref n, v, u, B, k, r, rv, e => by simp [nkD] at e
  | .exc _ _ _, v, u, B, k, r, rv, e => by simp [nkD] at e
  | .obj _ _ _, v, u, B, k, r, rv, e => by simp [nkD] at e
  | .fd _ _, v, u, B, k, r, rv, e => by simp [nkD] at e
theorem nks_are (I : L2.Inv X pins σ H s) : ∀ (ds : List D) (vs : List V) (us : List Value) (B : Nat) (ks : List NK), RelDs (kx X) rho h B H ds vs → Vals vs us → nkDs ds = some ks → NestedAll s.heap ks us
  | [], vs, us, B, ks, r, rv, e => by simp only [RelDs] at r; subst r; simp only [nkDs, Option.some.injEq] at e; subst e; rw [vals_nil_of rv]; exact .nil
  | d :: ds, vs, us, B, ks, r, rv, e => by
    simp only [RelDs] at r
    obtain ⟨v, rr, e1, e2, e3⟩ := r
    subst e1
    simp only [nkDs] at e
    cases q1 : nkD d with
    | none => rw [q1] at e; simp at e
    | some k =>
      cases q2 : nkDs ds with
      | none => rw [q1, q2] at e; simp at e
      | some ks' =>
        rw [q1, q2] at e
        cases e
        cases rv with
        | cons r1 r2 => exact .cons (nk_is I d v _ B k e2 r1 q1).1 (nks_are I ds rr _ B ks' e3 r2 q2)
end
theorem okK_some {d : D} (e : okK d = true) : ∃ k, nkD d = some k ∧ k.depth ≤ 8 := by
  unfold okK at e
  cases q : nkD d with
  | none => rw [q] at e; cases e
  | some k => rw [q] at e; exact ⟨k, rfl, of_decide_eq_true e⟩
theorem key_of (I : L2.Inv X pins σ H s) {d : D} {v : V} {u : Value} {B : Nat} (r : RelD (kx X) rho h B H d v) (rv : RelV v u) (e : okK d = true) : ∃ k, nkD d = some k ∧ KeyN s.heap k u := by
  obtain ⟨k, q, dp⟩ := okK_some e
  obtain ⟨a, b⟩ := nk_is I d v u B k r rv q
  exact ⟨k, q, a, dp, b⟩
/-- the entries, key by key -/
theorem ents_of (I : L2.Inv X pins σ H s) {B : Nat} : ∀ (ks : List D) (us ws : List V) (es : List DictEntry), ks.all okK = true → RelDs (kx X) rho h B H ks us → EntR (ks.map (hkD X.w)) us ws es →
    ∃ xs : List NX, es = xs.map (entN X.w) ∧ xs.map (fun x => some x.1) = ks.map nkD ∧ (∀ x ∈ xs, KeyN s.heap x.1 x.2.1) ∧ Vals ws (xs.map (·.2.2)) ∧ Vals us (xs.map (·.2.1))
  | [], us, ws, es, _, r, e => by
    simp only [RelDs] at r
    subst r
    cases ws with
    | nil =>
      cases es with
      | nil => exact ⟨[], rfl, rfl, fun _ h => by simp at h, .nil, .nil⟩
      | cons _ _ => simp [EntR] at e
    | cons _ _ => simp [EntR] at e
  | d :: ds, us, ws, es, ok, r, e => by
    simp only [RelDs] at r
    obtain ⟨v, rr, e1, e2, e3⟩ := r
    subst e1
    cases ws with
    | nil => simp [EntR] at e
    | cons w0 ws =>
      cases es with
      | nil => simp [EntR] at e
      | cons en es =>
        simp only [List.map_cons, EntR] at e
        obtain ⟨a1, a2, a3, a4⟩ := e
        rw [List.all_cons, Bool.and_eq_true] at ok
        obtain ⟨k, q, K⟩ := key_of I e2 a2 ok.1
        obtain ⟨xs, b1, b2, b3, b4, b5⟩ := ents_of I ds rr ws es ok.2 e3 a4
        refine ⟨(k, en.key, en.val) :: xs, ?_, ?_, ?_, .cons a3 b4, .cons a2 b5⟩
        · rw [List.map_cons, ← b1]
          congr 1
          have : en.hash = k.hash X.w := by rw [a1, hkD, q]
          cases en
          simp only at this
          simp only [entN, this]
        · rw [List.map_cons, List.map_cons, q, b2]
        · intro x hx
          rcases List.mem_cons.mp hx with rfl | hx
          · exact K
          · exact b3 x hx
/-- a dict's cell, opened -/
theorem nd_open (I : L2.Inv X pins σ H s) (R : Rel (kx X) rho h H) {n : Nat} {ks vs : List D} (e : h[n]? = some (.dct ks vs)) :
    GoodK ks vs ∧ (rho n == sysModules) = false ∧ ∃ us ws xs, H (rho n) = some (NdO (rho n) (ks.map (hkD X.w)) us ws) ∧ RelDs (kx X) rho h n H ks us ∧ RelDs (kx X) rho h n H vs ws ∧ NdAt X.w s.heap (rho n) xs ∧ KeysN s.heap xs ∧ xs.map (fun x => some x.1) = ks.map nkD ∧ Vals ws (xs.map (·.2.2)) ∧ Vals us (xs.map (·.2.1)) := by
  obtain ⟨g, us, ws, a, b, b'⟩ := R.cell n _ e
  obtain ⟨⟨sm, o, es, ep, h1, h2, h3, h4⟩, _⟩ := (show ObjOk X.prog X.w H s.heap (rho n) (NdO (rho n) (ks.map (hkD X.w)) us ws) from I.hok _ _ a)
  obtain ⟨xs, c1, c2, c3, c4, c5⟩ := ents_of I ks us ws es.toList g.ok b h4
  refine ⟨g, sm, us, ws, xs, a, b, b', ⟨o, es, ep, h1, h2, h3, c1⟩, ⟨c3, ?_⟩, c2, c4, c5⟩
  have := g.nd
  rw [← c2] at this
  have e : xs.map (fun x => some x.1) = (xs.map (·.1)).map some := by rw [List.map_map]; rfl
  rw [e] at this
  exact (List.pairwise_map.mp this).imp fun h e => h (by rw [e])
end
end Mini
namespace Mini
open PySem PySem.Spec PyProof.Rows L2
def dixD (ks : List D) (k : D) : Option Nat := ks.findIdx? fun d => decide (nkD d = nkD k)
def dgetD (ks vs : List D) (k : D) : Option D := match dixD ks k with
  | some i => vs[i]?
  | none => none
def dputD (ks vs : List D) (k v : D) : List D × List D := match dixD ks k with
  | some i => (ks, vs.set i v)
  | none => (ks ++ [k], vs ++ [v])
section
variable {xs : List NX} {ks : List D} {k : NK} {d : D}
theorem keyAt (e : xs.map (fun x => some x.1) = ks.map nkD) (j : Nat) : (xs[j]?).map (fun x => some x.1) = (ks[j]?).map nkD := by
  rw [← List.getElem?_map, ← List.getElem?_map, e]
theorem dix_some (e : xs.map (fun x => some x.1) = ks.map nkD) (q : nkD d = some k) {i : Nat} (h : dixD ks d = some i) : ∃ p, xs[i]? = some (k, p) := by
  obtain ⟨hi, h1, _⟩ := List.findIdx?_eq_some_iff_getElem.mp h
  have := keyAt e i
  rw [List.getElem?_eq_getElem hi] at this
  have h1 : nkD ks[i] = nkD d := of_decide_eq_true h1
  rw [Option.map_some, h1, q] at this
  cases z : xs[i]? with
  | none => rw [z] at this; cases this
  | some x =>
    rw [z] at this
    simp only [Option.map_some, Option.some.injEq] at this
    exact ⟨x.2, by rw [← this]⟩
theorem dix_none (e : xs.map (fun x => some x.1) = ks.map nkD) (q : nkD d = some k) (h : dixD ks d = none) (j : Nat) (p : Value × Value) : xs[j]? ≠ some (k, p) := fun z => by
  have := keyAt e j
  rw [z] at this
  cases y : ks[j]? with
  | none => rw [y] at this; cases this
  | some d' =>
    rw [y] at this
    simp only [Option.map_some, Option.some.injEq] at this
    have m := List.mem_of_getElem? y
    have := List.findIdx?_eq_none_iff.mp h d' m
    simp only [decide_eq_false_iff_not] at this
    exact this (by rw [q]; simp_all)
theorem atNk_ix (hn : (xs.map (·.1)).Nodup) (e : xs.map (fun x => some x.1) = ks.map nkD) (q : nkD d = some k) : (dixD ks d = none ∧ atNk xs k = none) ∨ ∃ i p, dixD ks d = some i ∧ xs[i]? = some (k, p) ∧ atNk xs k = some p := by
  cases h : dixD ks d with
  | none => exact .inl ⟨rfl, atNk_none (dix_none e q h)⟩
  | some i =>
    obtain ⟨p, hp⟩ := dix_some e q h
    exact .inr ⟨i, p, rfl, hp, atNk_get hn hp⟩
end
section
variable {X : Cx} {pins : List (Addr × Obj)} {σ : L2.St} {H : Hp} {s : Shared} {rho : Rh} {h : Hd}
theorem vals_at {ws : List V} {us : List Value} (r : Vals ws us) {i : Nat} {u : Value} (e : us[i]? = some u) : ∃ w, ws[i]? = some w ∧ RelV w u := by
  induction r generalizing i with
  | nil => simp at e
  | cons r1 r2 ih =>
    cases i with
    | zero => simp at e; subst e; exact ⟨_, rfl, r1⟩
    | succ i => simp at e; obtain ⟨w, a, b⟩ := ih e; exact ⟨w, by simpa using a, b⟩
theorem relDs_at {K : Kx} : ∀ {ds : List D} {us : List V} {B i : Nat} {u : V}, RelDs K rho h B H ds us → us[i]? = some u → ∃ d, ds[i]? = some d ∧ RelD K rho h B H d u
  | [], us, B, i, u, r, e => by simp only [RelDs] at r; subst r; simp at e
  | d :: ds, us, B, 0, u, r, e => by
    simp only [RelDs] at r
    obtain ⟨v, rr, e1, e2, e3⟩ := r
    subst e1
    simp at e; subst e
    exact ⟨d, rfl, e2⟩
  | d :: ds, us, B, i + 1, u, r, e => by
    simp only [RelDs] at r
    obtain ⟨v, rr, e1, e2, e3⟩ := r
    subst e1
    simp at e
    obtain ⟨d', a, b⟩ := relDs_at e3 e
    exact ⟨d', by simpa using a, b⟩
/-- what is found under a key -/
theorem look {n : Nat} {ks vs : List D} {ws : List V} {xs : List NX} {dk : D} {k : NK} (hk : KeysN s.heap xs) (e : xs.map (fun x => some x.1) = ks.map nkD) (rv : RelDs (kx X) rho h n H vs ws) (vl : Vals ws (xs.map (·.2.2))) (q : nkD dk = some k) :
    (dgetD ks vs dk = none ∧ atNk xs k = none) ∨ ∃ d v p, dgetD ks vs dk = some d ∧ atNk xs k = some p ∧ RelD (kx X) rho h n H d v ∧ RelV v p.2 := by
  rcases atNk_ix hk.nd e q with ⟨h1, h2⟩ | ⟨i, p, h1, h2, h3⟩
  · exact .inl ⟨by rw [dgetD, h1], h2⟩
  · obtain ⟨w, a, b⟩ := vals_at vl (i := i) (u := p.2) (by rw [List.getElem?_map, h2]; rfl)
    obtain ⟨d, c, f⟩ := relDs_at rv a
    exact .inr ⟨d, w, p, by rw [dgetD, h1]; exact c, h3, f, b⟩
end
theorem tail_dict {prog : Program} {w : World} {A : Around} {E : Value → Shared → Prop} {s : Shared} {value slice : Expr} {o i : Value} {Q : Value → Shared → Prop} (hT : s.TypeIs o "dict") (hs : subscripted slice false o i = operate [o, i] (getItem o i))
    (h : wpAny (model prog w) A (getItem o i) Q E s) : wpAny (model prog w) A (subscriptTail value slice o i) Q E s := by
  unfold subscriptTail
  refine wpAny_bind ?_
  rw [getitemInPython_of_ne hT.not_modules]
  refine wpAny_bind (wpAny_specialOf hT PySem.F.slot_dict_getitem.lookup ?_)
  have fin : wpAny (model prog w) A (subscripted slice false o i) (fun r s₃ => wpAny (model prog w) A (letTemporaryGo value o r >>= fun _ => pure r) Q E s₃) E s := by
    rw [hs]
    exact wpAny_operating (wpAny_mono h (fun r s₃ h₃ => wpAny_bind (wpAny_letTemporaryGo (wpAny_pure h₃))) fun _ _ x => x)
  first
    | exact wpAny_pure (wpAny_bind fin)
    | exact wpAny_bind (wpAny_pure (wpAny_bind fin))
    | exact wpAny_bind fin
/-- d[k] -/
def dixP : P2 := fun x y h => match x with
  | .ref n => match h[n]? with
    | some (.dct ks vs) => if okK y then (match dgetD ks vs y with
      | some d => some (d, h)
      | none => none) else none
    | _ => none
  | _ => none
section
variable {X : Cx}
theorem relD_up {K : Kx} {rho : Rh} {h : Hd} {H : Hp} {n : Nat} {d : D} {v : V} (hn : n ≤ h.length) (r : RelD K rho h n H d v) : RelV' K rho h H d v := RelD.mono Ext.refl hn hn d v r
theorem p_dix (hu : X.A.units + 9 < cLine) : IxR X (rO (kx X) dixP) := fun value slice pins s σ H x y v u Q I rx ry q hs => by
  obtain ⟨rho, h, dx, dy, R, r1, r2, po⟩ := q
  unfold dixP at po
  split at po
  · rename_i n
    split at po
    · rename_i ks vs qx
      by_cases ok : okK dy = true
      · rw [if_pos ok] at po
        simp only [RelV', RelD] at r1
        obtain ⟨hn, rfl⟩ := r1
        cases (show v = Value.ref (rho n) from rx)
        obtain ⟨g, sm, us, ws, xs, a, b, b', nd, hk, e, vl, ul⟩ := nd_open I R qx
        obtain ⟨k, qk, K⟩ := key_of I r2 ry ok
        rcases look hk e b' vl qk with ⟨h1, h2⟩ | ⟨d, w', p, h1, h2, h3, h4⟩
        · rw [h1] at po; exact po.elim
        · rw [h1] at po
          exact tail_dict nd.typeIs hs (getItemN hu K nd hk h2 ⟨w', H, I.tok _, h4, PostP.here po R (relD_up (Nat.le_of_lt hn) h3)⟩)
      · rw [if_neg ok] at po; exact po.elim
    · exact po.elim
  · exact po.elim
end
theorem entR_of {w : World} : ∀ {hs : List Int} {us ws : List V} {xs : List NX}, hs = xs.map (fun x => x.1.hash w) → Vals us (xs.map (·.2.1)) → Vals ws (xs.map (·.2.2)) → EntR hs us ws (xs.map (entN w))
  | hs, us, ws, [], e, r1, r2 => by
    subst e
    cases r1
    cases r2
    trivial
  | hs, us, ws, x :: xs, e, r1, r2 => by
    subst e
    cases r1 with
    | cons a1 b1 =>
      cases r2 with
      | cons a2 b2 =>
        simp only [List.map_cons, EntR]
        exact ⟨rfl, a1, a2, entR_of rfl b1 b2⟩
theorem ndO_ok {P : Program} {w : World} {H : Hp} {h : Heap} {a : Addr} {xs : List NX} {hs : List Int} {us ws : List V} (sm : (a == sysModules) = false) (nd : NdAt w h a xs) (e : hs = xs.map (fun x => x.1.hash w)) (r1 : Vals us (xs.map (·.2.1))) (r2 : Vals ws (xs.map (·.2.2))) : ObjOk P w H h a (NdO a hs us ws) := by
  obtain ⟨o, es, ep, h1, h2, h3, h4⟩ := nd
  refine ⟨⟨sm, o, es, ep, h1, h2, h3, by rw [h4]; exact entR_of e r1 r2⟩, ⟨o, h1⟩, ?_⟩
  rintro g1 g2 ⟨q1, o', es', ep', q2, q3⟩ k
  exact ⟨q1, o', es', ep', k _ q2, q3⟩
theorem hks_eq {w : World} : ∀ {xs : List NX} {ks : List D}, xs.map (fun x => some x.1) = ks.map nkD → ks.map (hkD w) = xs.map (fun x => x.1.hash w)
  | [], [], _ => rfl
  | [], _ :: _, e => by simp at e
  | _ :: _, [], e => by simp at e
  | x :: xs, k :: ks, e => by
    simp only [List.map_cons, List.cons.injEq] at e
    simp only [List.map_cons, hks_eq e.2]
    congr 1
    rw [hkD, ← e.1]
theorem setCellD {K : Kx} {rho : Rh} {h : Hd} {H : Hp} (R : Rel K rho h H) {n : Nat} {ks vs ks' vs' : List D} {us ws : List V} {o : HO} {hs : List Int} (e : h[n]? = some (.dct ks vs)) (a : H (rho n) = some (NdO (rho n) hs us ws)) {us' ws' : List V} (g : GoodK ks' vs') (r1 : RelDs K rho h n H ks' us') (r2 : RelDs K rho h n H vs' ws') :
    Ext K rho h H rho (h.set n (.dct ks' vs')) (L2.upd H (rho n) (NdO (rho n) (ks'.map (hkD K.w)) us' ws')) ∧ Rel K rho (h.set n (.dct ks' vs')) (L2.upd H (rho n) (NdO (rho n) (ks'.map (hkD K.w)) us' ws')) := by
  have hn : n < h.length := (List.getElem?_eq_some_iff.mp e).1
  have ln : live h n = true := by unfold live; rw [e]
  have lv : ∀ m, live (h.set n (.dct ks' vs')) m = true → live h m = true := fun m hm => by
    by_cases q : n = m
    · subst q; exact ln
    · unfold live at hm ⊢
      rw [List.getElem?_set_ne q] at hm
      exact hm
  have x : Ext K rho h H rho (h.set n (.dct ks' vs')) (L2.upd H (rho n) (NdO (rho n) (ks'.map (hkD K.w)) us' ws')) :=
    { le := by simp
      ag := fun _ _ => rfl
      lv := fun m _ hm => lv m hm
      fr := fun m hm q => absurd (live_lt q) (by simpa using hm)
      kp := fun b o q k => by rw [upd_ne (fun z => k n ln z.symm)]; exact q
      tp := fun b vs q => by rw [upd_ne (ne_of q a (by intro z; cases z))]; exact q
      fz := fun b o u q => by rw [upd_ne (ne_of q a (by intro z; cases z))]; exact q
      dm := fun b q => by
        by_cases z : b = rho n
        · rw [z, upd_same] at q; cases q
        · rw [upd_ne z] at q; exact q
      zi := fun _ q => q
      zo := fun _ q => .inl q }
  refine ⟨x, fun m k hm hk q => R.inj m k (lv m hm) (lv k hk) q, fun m o q => ?_, fun b z => ?_, fun m hm => R.zc m (lv m hm)⟩
  · by_cases z : n = m
    · subst z
      rw [List.getElem?_set_self hn] at q
      cases q
      exact ⟨g, us', ws', upd_same, RelDs.mono x (Nat.le_refl _) (Nat.le_of_lt hn) _ _ r1, RelDs.mono x (Nat.le_refl _) (Nat.le_of_lt hn) _ _ r2⟩
    · rw [List.getElem?_set_ne z] at q
      have c := R.cell m o q
      cases o with
      | dead => trivial
      | dct k2 v2 =>
        obtain ⟨g, u2, w2, b1, b2, b3⟩ := c
        have lm : live h m = true := by unfold live; rw [q]
        have ne : rho m ≠ rho n := fun w => z (R.inj n m ln lm w.symm)
        exact ⟨g, u2, w2, by rw [upd_ne ne]; exact b1, RelDs.mono x (Nat.le_refl _) (Nat.le_of_lt (List.getElem?_eq_some_iff.mp q).1) _ _ b2, RelDs.mono x (Nat.le_refl _) (Nat.le_of_lt (List.getElem?_eq_some_iff.mp q).1) _ _ b3⟩
      | lst zs =>
        obtain ⟨v2, b1, b2⟩ := c
        have lm : live h m = true := by unfold live; rw [q]
        have ne : rho m ≠ rho n := fun w => z (R.inj n m ln lm w.symm)
        exact ⟨v2, by rw [upd_ne ne]; exact b1, RelDs.mono x (Nat.le_refl _) (Nat.le_of_lt (List.getElem?_eq_some_iff.mp q).1) _ _ b2⟩
  · by_cases q : b = rho n
    · rw [q, upd_same]; simp
    · rw [upd_ne q]; exact R.zd b z
def dputP (o i v : D) (h : Hd) : Option Hd := match o with
  | .ref n => match h[n]? with
    | some (.dct ks vs) => if okK i && noRef i && noRef v && decide (ks.length < sizeLine) then some (h.set n (.dct (dputD ks vs i v).1 (dputD ks vs i v).2)) else none
    | _ => none
  | _ => none
theorem vals_set {xs : List V} {us : List Value} {x : V} {u : Value} (r : RelV x u) (h : Vals xs us) (i : Nat) : Vals (xs.set i x) (us.set i u) := by
  induction h generalizing i with
  | nil => simp; exact .nil
  | cons r1 r2 ih =>
    cases i with
    | zero => exact .cons r r2
    | succ i => exact .cons r1 (ih i)
theorem vals_app {xs ys : List V} {us ws : List Value} (h : Vals xs us) (h2 : Vals ys ws) : Vals (xs ++ ys) (us ++ ws) := by
  induction h with
  | nil => exact h2
  | cons r1 r2 ih => exact .cons r1 ih
theorem put_old {xs : List NX} {k : NK} {a v : Value} {i : Nat} {p : Value × Value} (hn : (xs.map (·.1)).Nodup) (hi : xs[i]? = some (k, p)) :
    (putNk xs k a v).map (fun x => some x.1) = xs.map (fun x => some x.1) ∧ (putNk xs k a v).map (·.2.1) = xs.map (·.2.1) ∧ (putNk xs k a v).map (·.2.2) = (xs.map (·.2.2)).set i v := by
  have e : putNk xs k a v = xs.map (fun x => if x.1 = k then (x.1, x.2.1, v) else x) := by rw [putNk, atNk_get hn hi]; rfl
  refine ⟨?_, ?_, ?_⟩
  · rw [e, List.map_map]
    apply List.map_congr_left
    intro x _
    simp only [Function.comp]
    split <;> rfl
  · rw [e, List.map_map]
    apply List.map_congr_left
    intro x _
    simp only [Function.comp]
    split <;> rfl
  · rw [e, List.map_map]
    apply List.ext_getElem?
    intro j
    rw [List.getElem?_set, List.getElem?_map, List.getElem?_map]
    by_cases q : i = j
    · subst q
      have hl := (List.getElem?_eq_some_iff.mp hi).1
      rw [if_pos rfl, if_pos (by simpa using hl), hi]
      simp
    · rw [if_neg q]
      cases z : xs[j]? with
      | none => rfl
      | some x =>
        simp only [Option.map_some, Function.comp]
        rw [if_neg]
        intro ek
        exact q (uniqN hn hi (q := x.2) (by rw [z, ← ek]))
theorem put_new {xs : List NX} {k : NK} {a v : Value} (h : atNk xs k = none) : putNk xs k a v = xs ++ [(k, a, v)] := by rw [putNk, h]; rfl
section
variable {X : Cx}
theorem p_dset (hu : X.A.units + 9 < cLine) : PSet X (rS (kx X) dputP) := fun pins s σ H o i v ov iv u Q I ro ri rv q => by
  obtain ⟨rho, h, d0, d1, d2, R, r0, r1, r2, h', e, kk⟩ := q
  unfold dputP at e
  split at e
  · rename_i n
    split at e
    · rename_i ks vs qx
      split at e
      · rename_i hc
        cases e
        simp only [Bool.and_eq_true, decide_eq_true_eq] at hc
        obtain ⟨⟨⟨ok, nr1⟩, nr2⟩, hl⟩ := hc
        simp only [RelV', RelD] at r0
        obtain ⟨hn, rfl⟩ := r0
        cases (show ov = Value.ref (rho n) from ro)
        obtain ⟨g, sm, us, ws, xs, a, b, b', nd, hk, ek, vl, ul⟩ := nd_open I R qx
        obtain ⟨k, qk, K⟩ := key_of I r1 ri ok
        have lx : xs.length = ks.length := by have := congrArg List.length ek; simpa using this
        have rk : RelD (kx X) rho h n H d1 i := noref_at nr1 r1
        have rd : RelD (kx X) rho h n H d2 v := noref_at nr2 r2
        have one : ∀ {d : D} {x : V}, RelD (kx X) rho h n H d x → RelDs (kx X) rho h n H [d] [x] := fun r => by simp only [RelDs]; exact ⟨_, [], rfl, r, rfl⟩
        have fin : ∀ (h2 : Heap) (tk : Nat) (us' ws' : List V), NdAt X.w h2 (rho n) (putNk xs k iv u) → Heap.SameBut (rho n) s.heap h2 → GoodK (dputD ks vs d1 d2).1 (dputD ks vs d1 d2).2 → RelDs (kx X) rho h n H (dputD ks vs d1 d2).1 us' → RelDs (kx X) rho h n H (dputD ks vs d1 d2).2 ws' → (putNk xs k iv u).map (fun x => some x.1) = (dputD ks vs d1 d2).1.map nkD → Vals us' ((putNk xs k iv u).map (·.2.1)) → Vals ws' ((putNk xs k iv u).map (·.2.2)) → ∃ H', L2.Inv X pins σ H' { s with heap := h2, toks := tk } ∧ Q H' := by
          intro h2 tk us' ws' nd2 sb g2 c1 c2 c3 c4 c5
          obtain ⟨x', R'⟩ := setCellD R (o := .lst []) qx a g2 c1 c2
          refine ⟨_, d_write I (by rw [a]; exact True.intro) sb (let ⟨q, _, _, hq, _⟩ := nd2; ⟨q, hq⟩) (ndO_ok sm nd2 (hks_eq c3) c4 c5), kk _ _ x' R'⟩
        refine setItemN hu K nd hk (fun h2 nd2 sb => ?_) (by rw [lx]; exact g.sz)
        rcases atNk_ix hk.nd ek qk with ⟨h1, h2'⟩ | ⟨j, p, h1, h2', h3⟩
        · have ep : dputD ks vs d1 d2 = (ks ++ [d1], vs ++ [d2]) := by rw [dputD, h1]
          refine fin h2 _ (us ++ [i]) (ws ++ [v]) nd2 sb ?_ ?_ ?_ ?_ ?_ ?_
          · rw [ep]
            refine ⟨by rw [List.all_append, g.ok]; simp [ok], ?_, by simp [g.ln], by simp; omega⟩
            rw [List.map_append, List.nodup_append]
            refine ⟨g.nd, by simp, fun z hz y hy e => ?_⟩
            simp only [List.map_cons, List.map_nil, List.mem_singleton] at hy
            subst hy
            obtain ⟨d', hd', rfl⟩ := List.mem_map.mp hz
            have := List.findIdx?_eq_none_iff.mp h1 d' hd'
            simp only [decide_eq_false_iff_not] at this
            exact this e
          · rw [ep]; exact RelDs.append b (one rk)
          · rw [ep]; exact RelDs.append b' (one rd)
          · rw [ep, put_new h2', List.map_append, List.map_append, ek]; simp [qk]
          · rw [put_new h2', List.map_append]; exact vals_app ul (.cons ri .nil)
          · rw [put_new h2', List.map_append]; exact vals_app vl (.cons rv .nil)
        · have ep : dputD ks vs d1 d2 = (ks, vs.set j d2) := by rw [dputD, h1]
          obtain ⟨f1, f2, f3⟩ := put_old (a := iv) (v := u) hk.nd h2'
          refine fin h2 _ us (ws.set j v) nd2 sb ?_ ?_ ?_ ?_ ?_ ?_
          · rw [ep]; exact ⟨g.ok, g.nd, by simp [g.ln], g.sz⟩
          · rw [ep]; exact b
          · rw [ep]; exact RelDs.set rd j b'
          · rw [ep, f1]; exact ek
          · rw [f2]; exact ul
          · rw [f3]; exact vals_set rv vl j
      · cases e
    · cases e
  · cases e
end
end Mini
namespace Mini
open PySem PySem.Spec PyProof.Rows L2
section
variable {K : Kx} {rho : Rh} {h : Hd} {H : Hp} {p : Addr}
theorem live_appO {o : O} {m : Nat} (e : live (h ++ [o]) m = true) : live h m = true ∨ m = h.length := by
  have hl := live_lt e
  rw [List.length_append] at hl
  by_cases q : m < h.length
  · left
    unfold live at e ⊢
    rw [List.getElem?_append_left q] at e
    exact e
  · right
    simp at hl; omega
theorem Ext.allocO (R : Rel K rho h H) (np : H p = none) {o : O} {ob : HO} : Ext K rho h H (rhoAdd rho h.length p) (h ++ [o]) (L2.upd H p ob) where
  le := by rw [List.length_append]; exact Nat.le_add_right _ _
  ag := fun m hm => by show (if m = h.length then p else rho m) = rho m; rw [if_neg (Nat.ne_of_lt hm)]
  lv := fun m hm e => by
    rcases live_appO e with q | q
    · exact q
    · omega
  fr := fun m hm e => by
    rcases live_appO e with q | q
    · exact absurd (live_lt q) (Nat.not_lt.mpr hm)
    · subst q; show H (if h.length = h.length then p else rho h.length) = none; rw [if_pos rfl]; exact np
  kp := (Ext.upd R np _).kp
  tp := (Ext.upd R np _).tp
  fz := (Ext.upd R np _).fz
  dm := (Ext.upd R np ob).dm
  zi := fun _ e => e
  zo := fun _ e => .inl e
theorem Rel.allocD (R : Rel K rho h H) (np : H p = none) {ks vs : List D} {us ws : List V} (g : GoodK ks vs) (r1 : RelVs' K rho h H ks us) (r2 : RelVs' K rho h H vs ws) : Rel K (rhoAdd rho h.length p) (h ++ [.dct ks vs]) (L2.upd H p (NdO p (ks.map (hkD K.w)) us ws)) where
  inj := fun m n hm hn e => by
    have e : (if m = h.length then p else rho m) = (if n = h.length then p else rho n) := e
    rcases live_appO hm with qm | qm <;> rcases live_appO hn with qn | qn
    · rw [if_neg (Nat.ne_of_lt (live_lt qm)), if_neg (Nat.ne_of_lt (live_lt qn))] at e; exact R.inj m n qm qn e
    · rw [if_neg (Nat.ne_of_lt (live_lt qm)), if_pos qn] at e
      obtain ⟨ws, z⟩ := R.at qm
      exact absurd e (ne_of_none z np)
    · rw [if_pos qm, if_neg (Nat.ne_of_lt (live_lt qn))] at e
      obtain ⟨ws, z⟩ := R.at qn
      exact absurd e.symm (ne_of_none z np)
    · rw [qm, qn]
  cell := fun m ob e => by
    have x : Ext K rho h H (rhoAdd rho h.length p) (h ++ [.dct ks vs]) (L2.upd H p (NdO p (ks.map (hkD K.w)) us ws)) := Ext.allocO R np
    by_cases q : m < h.length
    · rw [List.getElem?_append_left q] at e
      cases ob with
      | dead => trivial
      | dct k2 v2 =>
        obtain ⟨g, u2, w2, a, b, b'⟩ := R.cell m _ e
        exact ⟨g, u2, w2, by rw [x.ag m q, upd_ne (ne_of_none a np)]; exact a, RelDs.mono x (Nat.le_refl _) (Nat.le_of_lt q) _ _ b, RelDs.mono x (Nat.le_refl _) (Nat.le_of_lt q) _ _ b'⟩
      | lst ys =>
        obtain ⟨w2, a, b⟩ := R.cell m _ e
        exact ⟨w2, by rw [x.ag m q, upd_ne (ne_of_none a np)]; exact a, RelDs.mono x (Nat.le_refl _) (Nat.le_of_lt q) _ _ b⟩
    · have hl := (List.getElem?_eq_some_iff.mp e).1
      rw [List.length_append] at hl
      have em : m = h.length := by simp at hl; omega
      subst em
      rw [List.getElem?_append_right (Nat.le_refl _)] at e
      simp at e
      subst e
      have ea : (rhoAdd rho h.length p) h.length = p := by show (if h.length = h.length then p else rho h.length) = p; rw [if_pos rfl]
      refine ⟨g, us, ws, ?_, RelDs.mono x (Nat.le_refl _) (Nat.le_refl _) _ _ r1, RelDs.mono x (Nat.le_refl _) (Nat.le_refl _) _ _ r2⟩
      rw [ea]; exact upd_same
  zd := fun a z e => R.zd a z ((Ext.upd R np (NdO p (ks.map (hkD K.w)) us ws)).dm a e)
  zc := fun m hm z => by
    have z : rho.Z (if m = h.length then p else rho m) := z
    rcases live_appO hm with q | q
    · rw [if_neg (Nat.ne_of_lt (live_lt q))] at z; exact R.zc m q z
    · rw [if_pos q] at z; exact R.zd p z np
end
def e_dnew : EF := fun _ h => .ok (.ref h.length) (h ++ [.dct [] []])
theorem good_nil : GoodK [] [] := ⟨rfl, by simp, rfl, Nat.zero_le _⟩
section
variable {X : Cx} {W : WX} {pos : Pos}
theorem r_dnew : SE X W (.Dict [] [] pos) e_dnew := ⟨fun pins s σ H Q I q => by
  obtain ⟨rho, h, st, R, S, po⟩ := q
  have np : H s.heap.objs.size = none := I.hok.fresh (Nat.le_refl _)
  have sm : (s.heap.objs.size == sysModules) = false := beq_eq_false_iff_ne.mpr (Ne.symm (Nat.ne_of_lt I.big))
  have ok : ObjOk X.prog X.w (L2.upd H s.heap.objs.size (NdO s.heap.objs.size [] [] [])) (s.heap.push { cls := .type "dict", data := .dict #[] }) s.heap.objs.size (NdO s.heap.objs.size [] [] []) :=
    ndO_ok (xs := []) sm ⟨_, #[], 0, Heap.get?_push_size _ rfl, ⟨rfl, rfl, rfl⟩, rfl, rfl⟩ rfl .nil .nil
  refine wpAny_Dict_empty ⟨.ref s.heap.objs.size, _, I.laid (a := s.heap.objs.size) (o := NdO s.heap.objs.size [] [] []) (t' := s.toks) (fun _ _ q => Heap.get?_push_of_some _ q) (Nat.le_refl _) ok, rfl, ?_⟩
  have R' : Rel (kx X) (rhoAdd rho h.length s.heap.objs.size) (h ++ [.dct [] []]) (L2.upd H s.heap.objs.size (NdO s.heap.objs.size [] [] [])) := Rel.allocD R np (us := []) (ws := []) good_nil (by simp [RelVs', RelDs]) (by simp [RelVs', RelDs])
  refine po _ _ (Ext.allocO R np) R' _ ?_
  simp only [RelV', RelD, List.length_append]
  exact ⟨by simp, by show V.ref s.heap.objs.size = .ref (if h.length = h.length then s.heap.objs.size else rho h.length); rw [if_pos rfl]⟩⟩
end
def dctTy (d : D) (h : Hd) : Bool := match d with
  | .ref n => match h[n]? with
    | some (.dct _ _) => true
    | _ => false
  | _ => false
def e_dm (g : PM) (o : EF) (a : AF) : EF := fun s h => (o s h).bind fun x h1 => if dctTy x h1 then (a s h1).bind fun xs h2 => lift (g x xs h2) else .fail
def dgetP : PM := fun x ds h => match x, ds with
  | .ref n, [k, d] => (match h[n]? with
    | some (.dct ks vs) => if okK k then some ((dgetD ks vs k).getD d, h) else none
    | _ => none)
  | _, _ => none
section
variable {X : Cx} {W : WX}
theorem m_dget (hu : X.A.units + 9 < cLine) : MtR X "dict.get" (rM (kx X) dgetP) := fun pins s σ H x xs v us Q I rx rxs q => by
  obtain ⟨rho, h, d, ds, R, r, rs, po⟩ := q
  unfold dgetP at po
  split at po
  · rename_i n dk dd
    split at po
    · rename_i ks vs qx
      by_cases ok : okK dk = true
      · rw [if_pos ok] at po
        simp only [RelV', RelD] at r
        obtain ⟨hn, rfl⟩ := r
        cases (show v = Value.ref (rho n) from rx)
        simp only [RelVs', RelDs] at rs
        obtain ⟨y, r1, e1, ry, z, r2, e2, rz, e3⟩ := rs
        subst e3 e2 e1
        cases rxs with
        | cons ru t =>
          cases t with
          | cons rw' t' =>
            cases t'
            obtain ⟨g, sm, us, ws, xs, a, b, b', nd, hk, e, vl, ul⟩ := nd_open I R qx
            obtain ⟨k, qk, K⟩ := key_of I ry ru ok
            refine call_meetsIn PySem.F.slot_dict_get nd.typeIs PySem.F.entry_dict_get (PySem.F.args_dict_get_3 _ _ _) (getOrN (rho n) _ _ sm) ⟨hu, k, xs, K, nd, hk, ?_⟩
            rcases look hk e b' vl qk with ⟨h1, h2⟩ | ⟨d', w', p, h1, h2, h3, h4⟩
            · rw [h1] at po
              rw [h2]
              exact ⟨_, H, I.tok _, rw', PostP.here po R rz⟩
            · rw [h1] at po
              rw [h2]
              exact ⟨w', H, I.tok _, h4, PostP.here po R (relD_up (Nat.le_of_lt hn) h3)⟩
      · rw [if_neg ok] at po; exact po.elim
    · exact po.elim
  · exact po.elim
def isNd (x : V) (H : Hp) : Prop := ∃ a hs us ws, x = .ref a ∧ H a = some (NdO a hs us ws)
theorem isNd_at {pins : List (Addr × Obj)} {σ : L2.St} {H : Hp} {s : Shared} {x : V} {v : Value} (I : L2.Inv X pins σ H s) (r : RelV x v) (d : isNd x H) : s.TypeIs v "dict" ∧ (∀ b, v = .ref b → ∃ ob, s.heap.get? b = some ob ∧ ob.dict = none) := by
  obtain ⟨a, hs, us, ws, rfl, e⟩ := d
  cases (show v = Value.ref a from r)
  obtain ⟨⟨sm, o, es, ep, h1, h2, h3, h4⟩, _⟩ := (show ObjOk X.prog X.w H s.heap a (NdO a hs us ws) from I.hok _ _ e)
  exact ⟨⟨o, h1, h2.1⟩, fun b q => by cases q; exact ⟨o, h1, h2.2.1⟩⟩
theorem dctTy_ok {K : Kx} {rho : Rh} {h : Hd} {H : Hp} (R : Rel K rho h H) {d : D} {v : V} (r : RelV' K rho h H d v) (e : dctTy d h = true) : isNd v H := by
  unfold dctTy at e
  split at e
  · rename_i n
    split at e
    · rename_i ks vs q
      simp only [RelV', RelD] at r
      obtain ⟨_, rfl⟩ := r
      obtain ⟨g, us, ws, a, _⟩ := R.cell n _ q
      exact ⟨_, _, _, _, rfl, a⟩
    · cases e
  · cases e
variable {o e : Expr} {es : List Expr} {fo : EF} {fa : AF} {name : Str} {apos cpos : Pos} {id : String} {g : PM}
theorem r_dm (slot : Slot "dict" name id) (hty : typeOf (.builtin id) = pure (.type "method_descriptor")) (hm : MtR X id (rM (kx X) g)) (ho : SE X W o fo) (ha : SA X W (e :: es) fa)
    (hbase : attributeBase o name X.env (eval o X.env) = eval o X.env := by rfl)
    (hfew : ((backTo cpos (starEach (e :: es) X.env)).all (fun x => !x.1) && (backToKw cpos (keywordEach [] X.env)).all (fun x => x.1.isSome)
      && decide ((e :: es).length + ([] : List Keyword).length + (if ([] : List Keyword).isEmpty then 0 else 1) < 30)) = true := by rfl)
    (hline : (apos.endLine == cpos.line) = true := by rfl) (hs : starEach (e :: es) X.env = (false, eval e X.env) :: starEach es X.env := by rfl) (hplain : (backTo cpos (starEach es X.env)).any (·.1) = false := by rfl) :
    SE X W (.Call (.Attribute o name apos) (e :: es) [] cpos) (e_dm g fo fa) := ⟨fun pins s σ H Q I q => by
  have h : tE (kx X) X.mg W fo σ H (fun x H1 => isNd x H1 ∧ tA (kx X) X.mg W fa σ H1 fun xs H2 => rM (kx X) g x xs H2 Q) := by
    obtain ⟨rho, h, st, R, S, po⟩ := q
    refine step R S po fun rho1 h1 H1 d e1 R1 S1 po1 v r => ?_
    by_cases hl : dctTy d h1 = true
    · simp only [hl, if_true] at po1
      exact ⟨dctTy_ok R1 r hl, step R1 S1 po1 fun rho2 h2 H2 ds e2 R2 S2 po2 vs rs => ⟨rho2, h2, d, ds, R2, e2.v r, rs, PostP.of po2⟩⟩
    · simp only [hl] at po1; exact po1.elim
  refine wpAny_Call_method_late hbase hfew hline rfl (thn (ho.run pins s σ H _ I h) fun v s1 ⟨x, H1, I1, r1, ty, q1⟩ => ?_)
  obtain ⟨h1, h2⟩ := isNd_at I1 r1 ty
  refine ⟨"dict", id, PySem.F.plainAttrs_dict, slot, hty, h1, h2, ?_⟩
  have hA := ha.run cpos pins s1 σ H1 _ I1 q1
  rw [hs] at hA ⊢
  refine Calls.callWith_builtin (by show (false || (backTo cpos (starEach es X.env)).any (·.1)) = false; rw [hplain] <;> rfl) (Calls.evalArgs_plain ?_)
  exact thn hA fun us s2 ⟨vs, H2, I2, r2, q2⟩ => hm pins s2 σ H2 x vs v us Q I2 r1 r2 q2⟩
end
end Mini
namespace Mini
open PySem PySem.Spec PyProof.Rows L2
mutual
theorem reads_in {h : Heap} : ∀ {v : Value} {d : PyData} {as : List Addr}, Reads h v d as → ∀ a ∈ as, a < h.objs.size
  | _, _, _, .none, a, ha => by simp at ha
  | _, _, _, .bool _, a, ha => by simp at ha
  | _, _, _, .int _ _, a, ha => by simp at ha
  | _, _, _, .str _ _, a, ha => by simp at ha
  | _, _, _, .list h1 _ _ r, a, ha => by
    rcases List.mem_cons.mp ha with rfl | ha
    · exact Heap.lt_size h1
    · exact readsAll_in r a ha
  | _, _, _, .tuple h1 _ _ r, a, ha => readsAll_in r a ha
  | _, _, _, .dict h1 _ _ r r2, a, ha => by
    simp only [List.cons_append, List.mem_cons, List.mem_append] at ha
    rcases ha with rfl | ha | ha
    · exact Heap.lt_size h1
    · exact readsAll_in r a ha
    · exact readsAll_in r2 a ha
theorem readsAll_in {h : Heap} : ∀ {vs : List Value} {ds : List PyData} {as : List Addr}, ReadsAll h vs ds as → ∀ a ∈ as, a < h.objs.size
  | _, _, _, .nil, a, ha => by simp at ha
  | _, _, _, .cons r1 r2, a, ha => by
    rcases List.mem_append.mp ha with ha | ha
    · exact reads_in r1 a ha
    · exact readsAll_in r2 a ha
end
section
variable {prog : Program} {w : World} {A : Around} {E : Value → Shared → Prop} {s : Shared}
theorem sorted_src {T : String} {r d : Addr} {n : Nat} {P : Nat → Value → Prop} {OK : Heap → Prop} {Q : Value → Shared → Prop} (K : PySem.W.KdlSrc prog w T r d n P OK) (hh : A.handled = none) (hok : OK s.heap) (hn : n ≤ sizeLine)
    (h : ∀ (h' : Heap) (tk : Nat) (vs : List Value), (∀ b o, s.heap.get? b = some o → h'.get? b = some o) → vs.length = n → (∀ (j : Nat) (v : Value), vs[j]? = some v → P j v) →
      wpAny (model prog w) A.in1 (call (.builtin "list.sort") [.ref h'.objs.size]) (fun _ s' => Q (.ref h'.objs.size) s') E { s with heap := h'.push { cls := .type "list", data := .seq vs.toArray }, toks := tk }) :
    wpAny (model prog w) A (call (.builtin "sorted") [.ref r]) Q E s := by
  refine Calls.call_function_entry kind_sorted plain_sorted entry_sorted (args_sorted1 _) ?_
  unfold Builtin.«sorted»
  refine wpAny_bind (m := checkCount "sorted" 1 1 _) (wpAny_pure ?_)
  refine wpAny_bind (PySem.W.kdu_collect (A := A.in1) K hh hok hn fun h' tk acc hk hacc => ?_)
  have hl : acc.toList.length = n := by rw [Array.length_toList]; exact hacc.1
  refine wpAny_bind (wpAny_newList ?_ (by rw [hl]; exact hn))
  have hg := h h' tk acc.toList hk hl (fun j v e => hacc.2 j v (by rw [← Array.getElem?_toList]; exact e))
  refine wpAny_bind (wpAny_holding (wpAny_mono hg (fun _ s' x => ?_) fun _ _ e => e))
  exact wpAny_pure ⟨_, rfl, x⟩
theorem values_meets (d : Addr) (hd : (d == sysModules) = false) :
    MeetsIn prog w (Builtin.«dict.values» ⟨[.ref d], []⟩) (fun _ R s => s.TypeIs (.ref d) "dict" ∧
      R (.ok (.ret (.ref s.heap.objs.size))) { s with heap := s.heap.push { cls := .type "dict_values", data := .fields #[.ref d] } }) :=
  .of_wp fun A R s ⟨hm, h⟩ => by
    refine wpAny_bind ?_
    unfold Builtin.Dict.noArgs
    refine wpAny_bind (wpAny_notOrdered_dict hm ?_)
    show wpAny _ _ (pure d) _ _ s
    refine wpAny_pure ?_
    show wpAny _ _ (Builtin.Dict.showsAll d >>= _) _ _ s
    unfold Builtin.Dict.showsAll
    rw [if_neg (by rw [hd]; exact Bool.false_ne_true)]
    refine wpAny_bind (wpAny_pure ?_)
    exact wpAny_bind (wpAny_newObj_type (wpAny_pure ⟨_, rfl, h⟩))
end
/-- sorted(d.values()) -/
def e_svals (m : Bool) (f : EF) : EF := fun s h => (f s h).bind fun d h1 => match d with
  | .ref n => match h1[n]? with
    | some (.dct _ vs) => lift (sortP m [.lv vs] h1)
    | _ => .fail
  | _ => .fail
theorem entR_vals {hs : List Int} : ∀ {us ws : List V} {es : List DictEntry}, EntR hs us ws es → Vals ws (es.map (·.val)) := by
  induction hs with
  | nil =>
    intro us ws es e
    cases us <;> cases ws <;> cases es <;> simp [EntR] at e
    exact .nil
  | cons h hs ih =>
    intro us ws es e
    cases us <;> cases ws <;> cases es <;> simp only [EntR] at e
    exact .cons e.2.2.1 (ih e.2.2.2)
section
variable {X : Cx} {W : WX} {o : Expr} {p pos apos mpos : Pos} {fo : EF}
theorem room66 {k : Nat} {A : Around} (r : Room k A) : A.units + 66 < cLine := by have := r.un; omega
theorem room9 {k : Nat} {A : Around} (r : Room k A) : A.units + 9 < cLine := by have := r.un; omega
theorem r_svals (m : Bool) (hu : X.A.units + 66 < cLine) (hc : X.calm = true) (hm : X.mg "sorted" = none) (ho : SE X W o fo) (hg : Gl X "sorted" := by rfl) (hbase : attributeBase o "values" X.env (eval o X.env) = eval o X.env := by rfl) (hline : (apos.endLine == mpos.line) = true := by rfl)
    (hse : starEach [Expr.Call (.Attribute o "values" apos) [] [] mpos] X.env = [(false, eval (Expr.Call (.Attribute o "values" apos) [] [] mpos) X.env)] := by rfl) :
    SE X W (.Call (.Name "sorted" p) [.Call (.Attribute o "values" apos) [] [] mpos] [] pos) (e_svals m fo) := ⟨fun pins s σ H Q I q => by
  have hq : tE (kx X) X.mg W fo σ H (fun x H1 => ∃ rho h n ks vs, Rel (kx X) rho h H1 ∧ x = .ref (rho n) ∧ h[n]? = some (.dct ks vs) ∧ PostP (kx X) rho h H1 (sortP m [.lv vs] h) Q) := by
    obtain ⟨rho, h, st, R, S, po⟩ := q
    refine step R S po fun rho1 h1 H1 d e1 R1 S1 po1 v r => ?_
    cases d with
    | ref n =>
      simp only at po1
      cases qn : h1[n]? with
      | none => rw [qn] at po1; exact po1.elim
      | some ob =>
        cases ob with
        | dct ks vs =>
          rw [qn] at po1
          simp only [RelV', RelD] at r
          exact ⟨rho1, h1, n, ks, vs, R1, r.2, qn, PostP.of po1⟩
        | lst _ => rw [qn] at po1; exact po1.elim
        | dead => rw [qn] at po1; exact po1.elim
    | _ => exact po1.elim
  refine wpAny_Call_Name_kw (ld_blt I hg hm (u := .builtin "sorted") (by first | rfl | decide +kernel) ?_ (by first | decide +kernel | decide) (by first | decide +kernel | decide))
  rw [hse]
  refine PySem.callWith_builtin1 (wpAny_Call_method0_late hbase hline (thn (ho.run pins s σ H _ I hq) fun v s1 ⟨x, H1, I1, r1, rho, h, n, ks, vs, R, ex, qn, po⟩ => ?_))
  subst ex
  obtain rfl : v = Value.ref (rho n) := r1
  obtain ⟨g, us, ws, a, b, b'⟩ := R.cell n _ qn
  obtain ⟨⟨sm, ob, es, ep, h1, h2, h3, h4⟩, _⟩ := (show ObjOk X.prog X.w H1 s1.heap (rho n) (NdO (rho n) (ks.map (hkD X.w)) us ws) from I1.hok _ _ a)
  have hnl : n < h.length := (List.getElem?_eq_some_iff.mp qn).1
  refine ⟨"dict", "dict.values", F.plainAttrs_dict, F.slot_dict_values, F.type_dict_values, ⟨ob, h1, h2.1⟩, fun b e => ?_, Calls.callWith_builtin rfl (PySem.evalArgs_none ?_)⟩
  · cases e
    exact ⟨ob, h1, h2.2.1⟩
  refine call_meetsIn F.slot_dict_values ⟨ob, h1, h2.1⟩ F.entry_dict_values (F.args_dict_values_1 _) (values_meets (rho n) sm) ⟨⟨ob, h1, h2.1⟩, ?_⟩
  have k1 : ∀ b u, s1.heap.get? b = some u → (s1.heap.push { cls := .type "dict_values", data := .fields #[.ref (rho n)] }).get? b = some u := fun b u e => Heap.get?_push_of_some _ e
  have vl : Vals ws (es.toList.map (·.val)) := entR_vals h4
  have lw : ws.length = es.size := by rw [vl.length, List.length_map, Array.length_toList]
  have lv : vs.length = ws.length := RelDs.length b'
  have hz : es.size ≤ sizeLine := by rw [← lw, ← lv, ← g.ln]; exact g.sz
  -- what is sorted
  unfold sortP at po
  simp only [asS, asL] at po
  cases qp : pyDs vs with
  | none => rw [qp] at po; exact po.elim
  | some ps =>
    rw [qp] at po
    simp only at po
    split at po
    · rename_i hcc
      rw [Bool.and_eq_true, Bool.and_eq_true] at hcc
      have hd : DpAll X.K H1 ws ps := pyDs_ok vs ws _ ps b' qp
      obtain ⟨e1, e2⟩ := zip_snd hd
      obtain ⟨y1, y2⟩ := pyDs_pyOf qp
      obtain ⟨w1, w2, w3⟩ := zip3 b'
      refine sorted_src (PySem.KdlSrc.rawValues (r := s1.heap.objs.size) (d := rho n) (es := es) (ep := ep)) (I.ok.hd hc) ⟨⟨_, Heap.get?_push_size _ rfl, rfl, rfl⟩, ⟨ob, k1 _ _ h1, h2, h3⟩⟩ hz fun h' tk its hk hl hP => ?_
      have ei : its = es.toList.map (·.val) := by
        apply List.ext_getElem?
        intro j
        rcases Nat.lt_or_ge j es.size with q | q
        · rw [List.getElem?_eq_getElem (by omega)]
          obtain ⟨hi, e⟩ := hP j its[j] (List.getElem?_eq_getElem (by omega))
          rw [e, List.getElem?_map, Array.getElem?_toList, Array.getElem?_eq_getElem hi]
          rfl
        · rw [List.getElem?_eq_none (by omega), List.getElem?_eq_none (by simpa using q)]
      subst ei
      have k2 : ∀ b u, s1.heap.get? b = some u → (h'.push { cls := .type "list", data := .seq (es.toList.map (·.val)).toArray }).get? b = some u := fun b u e => Heap.get?_push_of_some _ (hk b u (k1 b u e))
      have np : s1.heap.get? h'.objs.size = none := by
        cases z : s1.heap.get? h'.objs.size with
        | none => rfl
        | some u => exact absurd (Heap.lt_size (hk _ _ (k1 _ _ z))) (Nat.lt_irrefl _)
      have hsz : s1.heap.objs.size ≤ h'.objs.size := by
        have vw : (s1.heap.push { cls := .type "dict_values", data := .fields #[.ref (rho n)] }).get? s1.heap.objs.size = some { cls := .type "dict_values", data := .fields #[.ref (rho n)] } := Heap.get?_push_size _ rfl
        exact Nat.le_of_lt (Heap.lt_size (hk _ _ vw))
      have HN : H1 h'.objs.size = none := I1.hok.fresh hsz
      obtain ⟨ea, eb⟩ := each_zip I1 hd vl
      have er : PySem.W.EachIs (fun v (b : V × PyData) => ∃ as, Reads (h'.push { cls := .type "list", data := .seq (es.toList.map (·.val)).toArray }) v b.2 as ∧ h'.objs.size ∉ as) (es.toList.map (·.val)) (ws.zip ps) := eb.mono fun v b ⟨as, r⟩ => ⟨as, PyProof.Rows.Reads.keeps k2 r, fun z => by
        exact absurd (reads_in r _ z) (Nat.not_lt.mpr hsz)⟩
      have hL : (ws.zip ps).length ≤ sizeLine := by rw [List.length_zip, e2, Nat.min_self, ← e2, lw]; exact hz
      refine PySem.W.list_sort_data (enc := fun b : V × PyData => b.2) (bs := ws.zip ps) (n := 0) (Heap.get?_push_size _ rfl) ea er (by rw [e1]; exact alike_of hcc.1.1) (by rw [e1]; exact sortable_of hcc.1.2) hL ?_ ?_
      · intro b hb
        have : b.2 ∈ (ws.zip ps).map (·.2) := List.mem_map.mpr ⟨b, hb, rfl⟩
        rw [e1] at this
        have := List.all_eq_true.mp hcc.2 _ this
        simp only [decide_eq_true_eq] at this
        simp only [Around.in1_units]
        omega
      · intro out ho eo
        obtain ⟨e0, hat⟩ := PyProof.Rows.sortedHeap_at (h := h'.push { cls := .type "list", data := .seq (es.toList.map (·.val)).toArray }) (a := h'.objs.size) (vs := es.toList.map (·.val)) (n := 0) (out := out.toArray) (Heap.get?_push_size _ rfl)
        have k3 : ∀ b u, s1.heap.get? b = some u → (sortedHeap (h'.push { cls := .type "list", data := .seq (es.toList.map (·.val)).toArray }) h'.objs.size (es.toList.map (·.val)) out.toArray).get? b = some u := fun b u e => by
          have lt := Heap.lt_size (k2 b u e)
          rw [PyProof.Rows.sortedHeap_old (fun z => by rw [z, np] at e; cases e) lt]
          exact k2 b u e
        have hlen : (((ws.zip ps).mergeSort (PySem.W.dataLe false (fun b : V × PyData => b.2))).map (·.1)).length ≤ sizeLine := by
          rw [List.length_map, List.length_mergeSort]; exact hL
        refine ⟨.ref h'.objs.size, L2.upd H1 h'.objs.size (.lst (((ws.zip ps).mergeSort (PySem.W.dataLe false (fun b : V × PyData => b.2))).map (·.1))), I1.laid (t' := tk) k3 hsz ⟨hlen, out, e0, vals_each eo, hat⟩, rfl, ?_⟩
        refine post_mkL R (xs := sortL vs) ?_ po HN
        have z1 := sortL_zip (us := ws) w2
        have z2 := sort_zip (us := ws) y1 (by rw [y2, e2])
        rw [z1, z2]
        exact rel_of_zip fun b hb => relD_up (Nat.le_of_lt hnl) (w1 b ((List.mergeSort_perm _ _).mem_iff.mp hb))
    · exact po.elim⟩
end
end Mini
namespace Mini
open PySem L2
def countP : PM := fun x ds h => match ds with
  | [k] => (match asL x h with
    | some xs => if okK k && xs.all okK then some (.int ((xs.countP fun d => decide (nkD d = nkD k) : Nat) : Int), h) else none
    | none => none)
  | _ => none
section
variable {X : Cx} {W : WX} {pins : List (Addr × Obj)} {s : Shared} {σ : L2.St} {H : Hp} {rho : Rh} {h : Hd}
theorem keysL (I : L2.Inv X pins σ H s) {B : Nat} : ∀ (xs : List D) (us : List V) (its : List Value), xs.all okK = true → RelDs (kx X) rho h B H xs us → Vals us its → ∃ ks : List NK, xs.map nkD = ks.map some ∧ its.length = ks.length ∧ ∀ j (h1 : j < its.length) (h2 : j < ks.length), KeyN s.heap ks[j] its[j]
  | [], us, its, _, r, v => by
    simp only [RelDs] at r
    subst r
    cases v
    exact ⟨[], rfl, rfl, fun j h1 => by simp at h1⟩
  | d :: xs, us, its, ok, r, v => by
    simp only [RelDs] at r
    obtain ⟨w, rr, e1, e2, e3⟩ := r
    subst e1
    rw [List.all_cons, Bool.and_eq_true] at ok
    cases v with
    | cons r1 r2 =>
      obtain ⟨k, q, K⟩ := key_of I e2 r1 ok.1
      obtain ⟨ks, p1, p2, p3⟩ := keysL I xs rr _ ok.2 e3 r2
      refine ⟨k :: ks, by rw [List.map_cons, List.map_cons, q, p1], by simp [p2], fun j h1 h2 => ?_⟩
      cases j with
      | zero => exact K
      | succ j => exact p3 j (by simpa using h1) (by simpa using h2)
theorem count_keys {d : D} {k : NK} (q : nkD d = some k) : ∀ {xs : List D} {ks : List NK}, xs.map nkD = ks.map some → (xs.countP fun d' => decide (nkD d' = nkD d)) = ks.count k
  | [], [], _ => rfl
  | [], k' :: ks, e => by simp at e
  | x :: xs, [], e => by simp at e
  | x :: xs, k' :: ks, e => by
    simp only [List.map_cons, List.cons.injEq] at e
    rw [List.countP_cons, List.count_cons, count_keys q e.2, e.1, q]
    by_cases c : k' = k <;> simp [c]
noncomputable def isK (hp : Heap) (k : NK) (y : Value) : Bool := @decide (NestedIs hp k y) (Classical.propDecidable _)
theorem isK_eq {hp : Heap} {k k' : NK} {y : Value} (K : NestedIs hp k' y) : isK hp k y = decide (k' = k) := by
  unfold isK
  by_cases c : k' = k
  · subst c
    rw [decide_eq_true rfl]
    exact @decide_eq_true _ (Classical.propDecidable _) K
  · rw [decide_eq_false c]
    exact @decide_eq_false _ (Classical.propDecidable _) fun z => c (NestedIs.inj _ _ _ K z)
theorem m_count (hu : X.A.units + 9 < cLine) : MtR X "list.count" (rM (kx X) countP) := fun pins s σ H x xs v us Q I rx rxs q => by
  obtain ⟨rho, h, d, ds, R, r, rs, po⟩ := q
  unfold countP at po
  split at po
  · rename_i dk
    split at po
    · rename_i ys qx
      by_cases ok : (okK dk && ys.all okK) = true
      · rw [if_pos ok] at po
        rw [Bool.and_eq_true] at ok
        obtain ⟨a, ws, rfl, sq, rw'⟩ := asL_ok R r qx
        cases (show v = Value.ref a from rx)
        simp only [RelVs', RelDs] at rs
        obtain ⟨y, r1, e1, ry, e3⟩ := rs
        subst e3 e1
        cases rxs with
        | cons ru t =>
          cases t
          rename_i u
          obtain ⟨k, qk, K⟩ := key_of I ry ru ok.1
          obtain ⟨its, rv, ⟨⟨cls, dd, data, sl⟩, n, ho, hc, hdn, hd⟩, hlen⟩ := I.list sq
          simp only at hc hd
          subst hc hd
          obtain ⟨ks, p1, p2, p3⟩ := keysL I ys ws its ok.2 rw' rv
          have fact : ∀ (its : List Value) (ks : List NK), its.length = ks.length → (∀ j (h1 : j < its.length) (h2 : j < ks.length), KeyN s.heap ks[j] its[j]) → (its.countP (isK s.heap k)) = ks.count k := by
            intro its
            induction its with
            | nil => intro ks l _; cases ks with
              | nil => rfl
              | cons _ _ => simp at l
            | cons y its ih =>
              intro ks l p
              cases ks with
              | nil => simp at l
              | cons k' ks =>
                rw [List.countP_cons, List.count_cons, ih ks (by simpa using l) fun j h1 h2 => p (j + 1) (by simpa using h1) (by simpa using h2)]
                have K0 := (p 0 (by simp) (by simp)).is
                simp only [List.getElem_cons_zero] at K0
                rw [isK_eq K0]
                by_cases c : k' = k <;> simp [c]
          refine call_meets PySem.F.slot_list_count ⟨_, ho, rfl⟩ PySem.F.entry_list_count (PySem.F.args_list_count_2 _ _)
            (SeqAt.list_countAt a its.toArray n dd sl u (isK s.heap k)) ⟨ho, fun y hy => ?_, ?_⟩
          · obtain ⟨j, hj, rfl⟩ := List.getElem_of_mem (by simpa using hy : y ∈ its)
            have Kj := p3 j hj (by omega)
            rw [isK_eq Kj.is]
            exact fun prog w E Q hq => eqN' (show X.A.units + 1 + 8 < cLine by omega) Kj K hq
          · refine ⟨.int ((ks.count k : Nat) : Int), H, I.tok _, ⟨s.toks, ?_⟩, PostP.here po R (by rw [count_keys qk p1]; simp [RelV', RelD])⟩
            show Value.int ((its.toArray.toList.countP _ : Nat) : Int) s.toks = Value.int ((ks.count k : Nat) : Int) s.toks
            rw [show its.toArray.toList = its from rfl, fact its ks p2 p3]
      · rw [if_neg ok] at po; exact po.elim
    · exact po.elim
  · exact po.elim
end
end Mini
namespace Mini
open PySem PySem.Spec PyProof.Rows L2
section
variable {X : Cx} {W : WX} {pos : Pos}
theorem r_gint {x : Str} {i : Int} (h : ∃ t, X.mg x = some (.int i t)) (hg : Gl X x := by rfl) (hd : (x == ("__debug__" : Str)) = false := by decide) : SE X W (.Name x pos) (e_c (.int i)) := by
  obtain ⟨t, h⟩ := h
  exact PE.imp (pe_glob (v := .int i) hg h ⟨_, rfl⟩ hd) fun _ _ _ h => tE.const h fun _ _ _ => by simp only [RelV', RelD]
end
theorem put_ok {X : Cx} (hu : X.A.units + 8 < cLine) {pins : List (Addr × Obj)} {s : Shared} {σ : L2.St} {H : Hp} {rho : Rh} {h h' : Hd} {n : Nat} {d1 d2 : D} {i v : V} {iv u : Value} {Q : Hp → Prop} {E : Value → Shared → Prop} (I : L2.Inv X pins σ H s) (R : Rel (kx X) rho h H)
    (r1 : RelV' (kx X) rho h H d1 i) (r2 : RelV' (kx X) rho h H d2 v) (ri : RelV i iv) (rv : RelV v u) (e : dputP (.ref n) d1 d2 h = some h') (kk : ∀ rho' H', Ext (kx X) rho h H rho' h' H' → Rel (kx X) rho' h' H' → Q H') :
    wpAny (model X.prog X.w) X.A (dictSet (rho n) iv u) (fun _ s' => ∃ H', L2.Inv X pins σ H' s' ∧ Q H') E s := by
  simp only [dputP] at e
  · split at e
    · rename_i ks vs qx
      split at e
      · rename_i hc
        cases e
        simp only [Bool.and_eq_true, decide_eq_true_eq] at hc
        obtain ⟨⟨⟨ok, nr1⟩, nr2⟩, hl⟩ := hc
        obtain ⟨g, sm, us, ws, xs, a, b, b', nd, hk, ek, vl, ul⟩ := nd_open I R qx
        obtain ⟨k, qk, K⟩ := key_of I r1 ri ok
        have lx : xs.length = ks.length := by have := congrArg List.length ek; simpa using this
        have rk : RelD (kx X) rho h n H d1 i := noref_at nr1 r1
        have rd : RelD (kx X) rho h n H d2 v := noref_at nr2 r2
        have one : ∀ {d : D} {x : V}, RelD (kx X) rho h n H d x → RelDs (kx X) rho h n H [d] [x] := fun r => by simp only [RelDs]; exact ⟨_, [], rfl, r, rfl⟩
        have fin : ∀ (h2 : Heap) (tk : Nat) (us' ws' : List V), NdAt X.w h2 (rho n) (putNk xs k iv u) → Heap.SameBut (rho n) s.heap h2 → GoodK (dputD ks vs d1 d2).1 (dputD ks vs d1 d2).2 → RelDs (kx X) rho h n H (dputD ks vs d1 d2).1 us' → RelDs (kx X) rho h n H (dputD ks vs d1 d2).2 ws' → (putNk xs k iv u).map (fun x => some x.1) = (dputD ks vs d1 d2).1.map nkD → Vals us' ((putNk xs k iv u).map (·.2.1)) → Vals ws' ((putNk xs k iv u).map (·.2.2)) → ∃ H', L2.Inv X pins σ H' { s with heap := h2, toks := tk } ∧ Q H' := by
          intro h2 tk us' ws' nd2 sb g2 c1 c2 c3 c4 c5
          obtain ⟨x', R'⟩ := setCellD R (o := .lst []) qx a g2 c1 c2
          refine ⟨_, d_write I (by rw [a]; exact True.intro) sb (let ⟨q, _, _, hq, _⟩ := nd2; ⟨q, hq⟩) (ndO_ok sm nd2 (hks_eq c3) c4 c5), kk _ _ x' R'⟩
        refine dsetN hu K nd hk (fun h2 nd2 sb => ?_) (by rw [lx]; exact g.sz)
        rcases atNk_ix hk.nd ek qk with ⟨h1, h2'⟩ | ⟨j, p, h1, h2', h3⟩
        · have ep : dputD ks vs d1 d2 = (ks ++ [d1], vs ++ [d2]) := by rw [dputD, h1]
          refine fin h2 _ (us ++ [i]) (ws ++ [v]) nd2 sb ?_ ?_ ?_ ?_ ?_ ?_
          · rw [ep]
            refine ⟨by rw [List.all_append, g.ok]; simp [ok], ?_, by simp [g.ln], by simp; omega⟩
            rw [List.map_append, List.nodup_append]
            refine ⟨g.nd, by simp, fun z hz y hy e => ?_⟩
            simp only [List.map_cons, List.map_nil, List.mem_singleton] at hy
            subst hy
            obtain ⟨d', hd', rfl⟩ := List.mem_map.mp hz
            have := List.findIdx?_eq_none_iff.mp h1 d' hd'
            simp only [decide_eq_false_iff_not] at this
            exact this e
          · rw [ep]; exact RelDs.append b (one rk)
          · rw [ep]; exact RelDs.append b' (one rd)
          · rw [ep, put_new h2', List.map_append, List.map_append, ek]; simp [qk]
          · rw [put_new h2', List.map_append]; exact vals_app ul (.cons ri .nil)
          · rw [put_new h2', List.map_append]; exact vals_app vl (.cons rv .nil)
        · have ep : dputD ks vs d1 d2 = (ks, vs.set j d2) := by rw [dputD, h1]
          obtain ⟨f1, f2, f3⟩ := put_old (a := iv) (v := u) hk.nd h2'
          refine fin h2 _ us (ws.set j v) nd2 sb ?_ ?_ ?_ ?_ ?_ ?_
          · rw [ep]; exact ⟨g.ok, g.nd, by simp [g.ln], g.sz⟩
          · rw [ep]; exact b
          · rw [ep]; exact RelDs.set rd j b'
          · rw [ep, f1]; exact ek
          · rw [f2]; exact ul
          · rw [f3]; exact vals_set rv vl j
      · cases e
    · cases e
def e_dsp (fk fv : EF) : EF := fun s h => (fk s (h ++ [.dct [] []])).bind fun k h1 => (fv s h1).bind fun v h2 => match dputP (.ref h.length) k v h2 with
  | some h3 => .ok (.ref h.length) h3
  | none => .fail
section
variable {X : Cx} {W : WX} {pos : Pos} {ek ev : Expr} {fk fv : EF}
theorem r_dsp (hu : X.A.units + 9 < cLine) (hk : SE X W ek fk) (hv : SE X W ev fv) (h1 : evalEachOpt [some ek] X.env = [some (eval ek X.env)] := by rfl) (h2 : evalEach [ev] X.env = [eval ev X.env] := by rfl) : SE X W (.Dict [some ek] [ev] pos) (e_dsp fk fv) := ⟨fun pins s σ H Q I q => by
  obtain ⟨rho, h, st, R, S, po⟩ := q
  have np : H s.heap.objs.size = none := I.hok.fresh (Nat.le_refl _)
  have sm : (s.heap.objs.size == sysModules) = false := beq_eq_false_iff_ne.mpr (Ne.symm (Nat.ne_of_lt I.big))
  have ok : ObjOk X.prog X.w (L2.upd H s.heap.objs.size (NdO s.heap.objs.size [] [] [])) (s.heap.push { cls := .type "dict", data := .dict #[] }) s.heap.objs.size (NdO s.heap.objs.size [] [] []) :=
    ndO_ok (xs := []) sm ⟨_, #[], 0, Heap.get?_push_size _ rfl, ⟨rfl, rfl, rfl⟩, rfl, rfl⟩ rfl .nil .nil
  have I1 := I.laid (a := s.heap.objs.size) (o := NdO s.heap.objs.size [] [] []) (t' := s.toks) (fun _ _ q => Heap.get?_push_of_some _ q) (Nat.le_refl _) ok
  have R1 : Rel (kx X) (rhoAdd rho h.length s.heap.objs.size) (h ++ [.dct [] []]) (L2.upd H s.heap.objs.size (NdO s.heap.objs.size [] [] [])) := Rel.allocD R np (us := []) (ws := []) good_nil (by simp [RelVs', RelDs]) (by simp [RelVs', RelDs])
  have x1 : Ext (kx X) rho h H (rhoAdd rho h.length s.heap.objs.size) (h ++ [.dct [] []]) (L2.upd H s.heap.objs.size (NdO s.heap.objs.size [] [] [])) := Ext.allocO R np
  have po1 := PostG.ext x1 po
  have at1 : rhoAdd rho h.length s.heap.objs.size h.length = s.heap.objs.size := by show (if h.length = h.length then s.heap.objs.size else rho h.length) = _; rw [if_pos rfl]
  have hl1 : h.length < (h ++ [O.dct [] []]).length := by simp
  generalize rhoAdd rho h.length s.heap.objs.size = rho1 at R1 x1 po1 at1
  rw [arm_eval_Dict, h1, h2, show ([some (eval ek X.env)].zip ([eval ev X.env].map fun v => do let x ← v; standAt pos; pure x)) = [((eval ek X.env), (do let x ← eval ev X.env; standAt pos; pure x : Sem Value))].map (fun p => (some p.1, p.2)) from rfl, dictDisplay_pairs _ (by simp) (by simp)]
  refine wpAny_bind (wpAny_standAt (wpAny_bind ?_))
  unfold subDict
  refine wpAny_bind (wpAny_alloc ?_)
  refine wpAny_bind (wpAny_holding ?_)
  rw [if_pos (by simp)]
  refine wpAny_bind ?_
  unfold evalPairs
  have hq : tE (kx X) X.mg W fk σ (L2.upd H s.heap.objs.size (NdO s.heap.objs.size [] [] [])) (fun xk H2 => ∃ rho2 h2 dk, Rel (kx X) rho2 h2 H2 ∧ RelS (kx X) rho2 h2 H2 st σ ∧ RelV' (kx X) rho2 h2 H2 dk xk ∧ rho2 h.length = s.heap.objs.size ∧ h.length < h2.length ∧ PostG (kx X) X.mg (fun c d H' => W c d σ H') rho2 h2 H2 ((fv st h2).bind fun v h2 => match dputP (.ref h.length) dk v h2 with
      | some h3 => .ok (.ref h.length) h3
      | none => .fail) (pE (kx X) Q)) := by
    refine step R1 (x1.s S) po1 fun rho2 h2 H2 d e2 R2 S2 po2 v r => ?_
    exact ⟨rho2, h2, d, R2, S2, r, by rw [e2.ag _ hl1, at1], Nat.lt_of_lt_of_le hl1 e2.le, po2⟩
  refine wpAny_bind (thn (hk.run pins _ σ _ _ I1 hq) fun kv s2 ⟨xk, H2, I2, rk, rho2, h2, dk, R2, S2, r2, at2, hl2, po2⟩ => ?_)
  refine wpAny_bind (wpAny_holding ?_)
  have hq2 : tE (kx X) X.mg W fv σ H2 (fun xv H3 => ∃ rho3 h3 h4 dv, Rel (kx X) rho3 h3 H3 ∧ RelV' (kx X) rho3 h3 H3 dk xk ∧ RelV' (kx X) rho3 h3 H3 dv xv ∧ rho3 h.length = s.heap.objs.size ∧ h.length < h3.length ∧ dputP (.ref h.length) dk dv h3 = some h4 ∧ PostG (kx X) X.mg (fun c d H' => W c d σ H') rho3 h3 H3 (.ok (D.ref h.length) h4) (pE (kx X) Q)) := by
    refine step R2 S2 po2 fun rho3 h3 H3 d e3 R3 S3 po3 v r => ?_
    cases qd : dputP (.ref h.length) dk d h3 with
    | none => rw [qd] at po3; exact po3.elim
    | some h4 =>
      rw [qd] at po3
      exact ⟨rho3, h3, h4, d, R3, e3.v r2, r, by rw [e3.ag _ hl2, at2], Nat.lt_of_lt_of_le hl2 e3.le, qd, po3⟩
  refine wpAny_bind (thn (hv.run pins s2 σ H2 _ I2 hq2) fun vv s3 ⟨xv, H3, I3, rv, rho3, h3, h4, dv, R3, r3, r4, at3, hl3, qd, po3⟩ => ?_)
  refine wpAny_bind (wpAny_standAt (wpAny_pure ?_))
  unfold evalPairs
  refine wpAny_bind (wpAny_holding (wpAny_pure (wpAny_pure ?_)))
  refine wpAny_holding ?_
  rw [List.forIn_cons]
  have := put_ok (E := X.xe) (Q := fun H' => Q (.ref s.heap.objs.size) H') (by omega) I3 R3 r3 r4 rk rv qd fun rho' H' e R' => po3 rho' H' e R' _ (by
    simp only [RelV', RelD]
    refine ⟨Nat.lt_of_lt_of_le hl3 e.le, ?_⟩
    rw [e.ag _ hl3, at3])
  rw [at3] at this
  refine wpAny_bind ?_
  dsimp only
  refine wpAny_bind (wpAny_bind (thn this fun _ s4 ⟨H4, I4, q4⟩ => ?_))
  refine wpAny_pure ?_
  dsimp only
  rw [List.forIn_nil]
  refine wpAny_pure (wpAny_pure (wpAny_pure (wpAny_pure ?_)))
  exact ⟨.ref s.heap.objs.size, H4, I4, rfl, q4⟩⟩
end
end Mini
namespace Mini
open PySem PySem.Spec PyProof.Rows L2
abbrev n_is_number : List Str := ["thing"]
def b_is_number : SF :=
  (s_ret (e_and (e_isi ["int"] (e_var 0)) (e_not (e_isi ["bool"] (e_var 0)))))
def m_is_number : MF := fnM 1 1 b_is_number
abbrev n_cross : List Str := ["one", "other", "person"]
def b_cross : SF :=
  (s_ret (e_op (eqP false) (e_call lenP (a_cons (e_lc [2] (i_seq (e_var 1)) (.nm 2) (t_b (e_chain ltP ltP (e_call minP (a_cons (e_var 0) a_nil)) (e_var 2) (e_call maxP (a_cons (e_var 0) a_nil)))) (e_var 2)) a_nil)) (e_c (D.int 1))))
def m_cross : MF := fnM 2 3 b_cross
abbrev n_are_crossed : List Str := ["pairs", "place", "pair", "other"]
def x_are_crossed_f0 : SF :=
  (s_if (t_tru (e_call anyP (a_cons (e_lc [3] (i_seq (e_slice false (e_var 0) (o_some (e_op (addP false) (e_var 1) (e_c (D.int 1)))) o_none)) (.nm 3) t_yes (e_own m_cross (a_cons (e_var 2) (a_cons (e_var 3) a_nil)))) a_nil)))
      (s_ret (e_c (D.bl true)))
      s_nil)
def b_are_crossed : SF :=
  (s_seq (s_for (i_enum (a_cons (e_var 0) a_nil)) (.tp [(.nm 1), (.nm 2)])
      x_are_crossed_f0)
    (s_ret (e_c (D.bl false))))
def m_are_crossed : MF := fnM 1 4 b_are_crossed
abbrev n_arms : List Str := ["arrangement", "partner", "person"]
def b_arms : SF :=
  (s_ret (e_lc [2, 1] (i_enum (a_cons (e_var 0) a_nil)) (.tp [(.nm 2), (.nm 1)]) (t_b (e_op ltP (e_var 2) (e_var 1))) (e_tup (a_cons (e_var 2) (a_cons (e_var 1) a_nil)))))
def m_arms : MF := fnM 1 3 b_arms
abbrev n_is_paired : List Str := ["thing", "person", "partner"]
def x_is_paired_f0 : SF :=
  (s_if (t_or (t_not (t_tru (e_own m_is_number (a_cons (e_var 2) a_nil)))) (t_or (t_not (t_b (e_chain leP ltP (e_c (D.int 0)) (e_var 2) (e_call lenP (a_cons (e_var 0) a_nil))))) (t_b (e_op (eqP false) (e_var 2) (e_var 1)))))
      (s_ret (e_c (D.bl false)))
      s_nil)
def b_is_paired : SF :=
  (s_seq (s_for (i_enum (a_cons (e_var 0) a_nil)) (.tp [(.nm 1), (.nm 2)])
      x_is_paired_f0)
    (s_ret (e_call allP (a_cons (e_lc [1, 2] (i_enum (a_cons (e_var 0) a_nil)) (.tp [(.nm 1), (.nm 2)]) t_yes (e_op (eqP false) (e_op ixP (e_var 0) (e_var 2)) (e_var 1))) a_nil))))
def m_is_paired : MF := fnM 1 3 b_is_paired
abbrev n_is_arrangement : List Str := ["thing"]
def b_is_arrangement : SF :=
  (s_ret (e_and (e_isi ["tuple"] (e_var 0)) (e_and (e_own m_is_paired (a_cons (e_var 0) a_nil)) (e_not (e_own m_are_crossed (a_cons (e_own m_arms (a_cons (e_var 0) a_nil)) a_nil))))))
def m_is_arrangement : MF := fnM 1 1 b_is_arrangement
abbrev n_look_same : List Str := ["one", "other"]
def b_look_same : SF :=
  (s_if (t_b (e_op (eqP true) (e_call lenP (a_cons (e_var 0) a_nil)) (e_call lenP (a_cons (e_var 1) a_nil))))
      s_never
      s_nil)
def m_look_same : MF := fnM 2 2 b_look_same
abbrev n_fits : List Str := ["known", "thing", "have", "pair"]
def b_fits : SF :=
  (s_seq (s_if (t_not (t_tru (e_own m_is_arrangement (a_cons (e_var 1) a_nil))))
      (s_ret (e_c (D.bl false)))
      s_nil)
    (s_seq (s_set 2 (e_own m_arms (a_cons (e_var 1) a_nil)))
    (s_ret (e_call allP (a_cons (e_lc [3] (i_seq (e_var 0)) (.nm 3) t_yes (e_op (inP false) (e_call tupleP (a_cons (e_var 3) a_nil)) (e_var 2))) a_nil)))))
def m_fits : MF := fnM 2 4 b_fits
abbrev n_crossing : List Str := ["known", "place", "pair", "other"]
def x_crossing_f0 : SF :=
  (s_if (t_tru (e_own m_cross (a_cons (e_var 2) (a_cons (e_var 3) a_nil))))
      (s_ret (e_tup (a_cons (e_call tupleP (a_cons (e_var 2) a_nil)) (a_cons (e_call tupleP (a_cons (e_var 3) a_nil)) a_nil))))
      s_nil)
def x_crossing_f1 : SF :=
  (s_for (i_seq (e_slice false (e_var 0) (o_some (e_op (addP false) (e_var 1) (e_c (D.int 1)))) o_none)) (.nm 3)
      x_crossing_f0)
def b_crossing : SF :=
  (s_seq (s_for (i_enum (a_cons (e_var 0) a_nil)) (.tp [(.nm 1), (.nm 2)])
      x_crossing_f1)
    (s_ret (e_c D.non)))
def m_crossing : MF := fnM 1 4 b_crossing
abbrev n_home : List Str := ["known", "person", "found", "one", "other"]
def x_home_f0 : SF :=
  (s_if (t_and (t_b (e_chain ltP ltP (e_var 3) (e_var 1) (e_var 4))) (t_or (t_b (e_op isNP (e_var 2) (e_c D.non))) (t_b (e_op ltP (e_op subP (e_var 4) (e_var 3)) (e_op subP (e_op ixP (e_var 2) (e_c (D.int 1))) (e_op ixP (e_var 2) (e_c (D.int 0))))))))
      (s_set 2 (e_tup (a_cons (e_var 3) (a_cons (e_var 4) a_nil))))
      s_nil)
def b_home : SF :=
  (s_seq (s_set 2 (e_c D.non))
    (s_seq (s_for (i_seq (e_var 0)) (.tp [(.nm 3), (.nm 4)])
      x_home_f0)
    (s_ret (e_var 2))))
def m_home : MF := fnM 2 5 b_home
abbrev n_free_groups : List Str := ["people", "known", "busy", "found", "person", "key", "pair"]
def x_free_groups_f0 : SF :=
  (s_if (t_b (e_op (inP true) (e_var 4) (e_var 2)))
      (s_seq (s_set 5 (e_own m_home (a_cons (e_var 1) (a_cons (e_var 4) a_nil))))
    (s_asgT (g_sub dputP (e_var 3) (e_var 5)) (e_op (addP false) (e_dm dgetP (e_var 3) (a_cons (e_var 5) (a_cons (e_tup a_nil) a_nil))) (e_tup (a_cons (e_var 4) a_nil)))))
      s_nil)
def b_free_groups : SF :=
  (s_seq (s_par 2 3 (a_cons (e_lc2 [6, 4] (i_seq (e_var 1)) (.nm 6) t_yes (i_seq (e_var 6)) [4] (.nm 4) t_yes (e_var 4)) (a_cons e_dnew a_nil)))
    (s_seq (s_for (i_rng1 (a_cons (e_var 0) a_nil)) (.nm 4)
      x_free_groups_f0)
    (s_ret (e_svals false (e_var 3)))))
def m_free_groups : MF := fnM 2 7 b_free_groups
abbrev n_evidence : List Str := ["people", "known", "crossed", "group"]
def x_evidence_f0 : SF :=
  (s_if (t_b (e_op (eqP false) (e_op modP (e_call lenP (a_cons (e_var 3) a_nil)) (e_c (D.int 2))) (e_c (D.int 1))))
      (s_ret (e_tup (a_cons (e_c (D.str (Str.ofString "odd"))) (a_cons (e_var 3) a_nil))))
      s_nil)
def b_evidence : SF :=
  (s_seq (s_set 2 (e_own m_crossing (a_cons (e_var 1) a_nil)))
    (s_seq (s_if (t_b (e_op notNP (e_var 2) (e_c D.non)))
      (s_ret (e_op (addP false) (e_tup (a_cons (e_c (D.str (Str.ofString "cross"))) a_nil)) (e_var 2)))
      s_nil)
    (s_seq (s_for (i_seq (e_own m_free_groups (a_cons (e_var 0) (a_cons (e_var 1) a_nil)))) (.nm 3)
      x_evidence_f0)
    (s_ret (e_c D.non)))))
def m_evidence : MF := fnM 2 4 b_evidence
abbrev n_regions : List Str := ["people", "known"]
def b_regions : SF :=
  (s_seq (s_if (t_b (e_op notNP (e_own m_crossing (a_cons (e_var 1) a_nil)) (e_c D.non)))
      s_never
      s_nil)
    (s_ret (e_own m_free_groups (a_cons (e_var 0) (a_cons (e_var 1) a_nil)))))
def m_regions : MF := fnM 2 2 b_regions
abbrev n_catalan : List Str := ["pairs", "found", "number"]
def x_catalan_f0 : SF :=
  (s_set 1 (e_op fdivP (e_op (mulP false) (e_op (mulP false) (e_var 1) (e_c (D.int 2))) (e_op (addP false) (e_op (mulP false) (e_c (D.int 2)) (e_var 2)) (e_c (D.int 1)))) (e_op (addP false) (e_var 2) (e_c (D.int 2)))))
def b_catalan : SF :=
  (s_seq (s_set 1 (e_c (D.int 1)))
    (s_seq (s_for (i_rng1 (a_cons (e_var 0) a_nil)) (.nm 2)
      x_catalan_f0)
    (s_ret (e_var 1))))
def m_catalan : MF := fnM 1 3 b_catalan
abbrev n_many : List Str := ["people", "known", "found", "group"]
def x_many_f0 : SF :=
  (s_aug 2 imulP (e_own m_catalan (a_cons (e_op fdivP (e_call lenP (a_cons (e_var 3) a_nil)) (e_c (D.int 2))) a_nil)))
def b_many : SF :=
  (s_seq (s_if (t_b (e_op notNP (e_own m_evidence (a_cons (e_var 0) (a_cons (e_var 1) a_nil))) (e_c D.non)))
      (s_ret (e_c (D.int 0)))
      s_nil)
    (s_seq (s_set 2 (e_c (D.int 1)))
    (s_seq (s_for (i_seq (e_own m_free_groups (a_cons (e_var 0) (a_cons (e_var 1) a_nil)))) (.nm 3)
      x_many_f0)
    (s_ret (e_var 2)))))
def m_many : MF := fnM 2 4 b_many
abbrev n_with_pair : List Str := ["known", "one", "other", "pair"]
def b_with_pair : SF :=
  (s_ret (e_call tupleP (a_cons (e_call (sortP false) (a_cons (e_op (addP false) (e_lc [3] (i_seq (e_var 0)) (.nm 3) t_yes (e_call tupleP (a_cons (e_var 3) a_nil))) (e_lst false (a_cons (e_tup (a_cons (e_call min2P (a_cons (e_var 1) (a_cons (e_var 2) a_nil))) (a_cons (e_call max2P (a_cons (e_var 1) (a_cons (e_var 2) a_nil))) a_nil))) a_nil))) a_nil)) a_nil)))
def m_with_pair : MF := fnM 3 4 b_with_pair
abbrev n_busy_people : List Str := ["known", "pair", "person"]
def b_busy_people : SF :=
  (s_ret (e_lc2 [1, 2] (i_seq (e_var 0)) (.nm 1) t_yes (i_seq (e_var 1)) [2] (.nm 2) t_yes (e_var 2)))
def m_busy_people : MF := fnM 1 3 b_busy_people
abbrev n_choices : List Str := ["people", "known", "person", "free", "other"]
def b_choices : SF :=
  (s_seq (s_set 3 (e_lc [4] (i_rng2 (a_cons (e_op (addP false) (e_var 2) (e_c (D.int 1))) (a_cons (e_var 0) a_nil))) (.nm 4) (t_b (e_op (inP true) (e_var 4) (e_own m_busy_people (a_cons (e_var 1) a_nil)))) (e_var 4)))
    (s_ret (e_lc [4] (i_seq (e_var 3)) (.nm 4) t_yes (e_tup (a_cons (e_var 4) (a_cons (e_own m_many (a_cons (e_var 0) (a_cons (e_own m_with_pair (a_cons (e_var 1) (a_cons (e_var 2) (a_cons (e_var 4) a_nil)))) a_nil))) a_nil))))))
def m_choices : MF := fnM 3 5 b_choices
abbrev n_arrangement_at : List Str := ["people", "known", "number", "pairs", "left", "person", "other", "ways", "found", "one"]
def x_arrangement_at_f0 : SF :=
  (s_seq (s_if (t_b (e_op ltP (e_var 4) (e_var 7)))
      (s_seq (s_set 3 (e_own m_with_pair (a_cons (e_var 3) (a_cons (e_var 5) (a_cons (e_var 6) a_nil)))))
    s_break)
      s_nil)
    (s_aug 4 subP (e_var 7)))
def x_arrangement_at_f1 : SF :=
  (s_if (t_b (e_op (inP true) (e_var 5) (e_own m_busy_people (a_cons (e_var 3) a_nil))))
      (s_for (i_seq (e_own m_choices (a_cons (e_var 0) (a_cons (e_var 3) (a_cons (e_var 5) a_nil))))) (.tp [(.nm 6), (.nm 7)])
      x_arrangement_at_f0)
      s_nil)
def x_arrangement_at_f2 : SF :=
  (s_asgT (g_tup 2 (g_cons (g_sub setP (e_var 8) (e_var 9)) (g_cons (g_sub setP (e_var 8) (e_var 6)) g_nil))) (e_tup (a_cons (e_var 6) (a_cons (e_var 9) a_nil))))
def b_arrangement_at : SF :=
  (s_seq (s_if (t_not (t_b (e_chain leP ltP (e_c (D.int 0)) (e_var 2) (e_own m_many (a_cons (e_var 0) (a_cons (e_var 1) a_nil))))))
      s_never
      s_nil)
    (s_seq (s_par 3 4 (a_cons (e_call tupleP (a_cons (e_var 1) a_nil)) (a_cons (e_var 2) a_nil)))
    (s_seq (s_for (i_rng1 (a_cons (e_var 0) a_nil)) (.nm 5)
      x_arrangement_at_f1)
    (s_seq (s_set 8 (e_op (mulP true) (e_lst false (a_cons (e_c (D.int 0)) a_nil)) (e_var 0)))
    (s_seq (s_for (i_seq (e_var 3)) (.tp [(.nm 9), (.nm 6)])
      x_arrangement_at_f2)
    (s_ret (e_call tupleP (a_cons (e_var 8) a_nil))))))))
def m_arrangement_at : MF := fnM 3 10 b_arrangement_at
abbrev n_number_of : List Str := ["people", "known", "arrangement", "have", "pair", "pairs", "found", "person", "partner", "other", "ways"]
def x_number_of_f0 : SF :=
  (s_if (t_b (e_op (inP true) (e_call tupleP (a_cons (e_var 4) a_nil)) (e_var 3)))
      s_never
      s_nil)
def x_number_of_f1 : SF :=
  (s_if (t_b (e_op (inP true) (e_var 7) (e_own m_busy_people (a_cons (e_var 5) a_nil))))
      (s_seq (s_aug 6 iaddP (e_call sumP (a_cons (e_lc [9, 10] (i_seq (e_own m_choices (a_cons (e_var 0) (a_cons (e_var 5) (a_cons (e_var 7) a_nil))))) (.tp [(.nm 9), (.nm 10)]) (t_b (e_op ltP (e_var 9) (e_var 8))) (e_var 10)) a_nil)))
    (s_set 5 (e_own m_with_pair (a_cons (e_var 5) (a_cons (e_var 7) (a_cons (e_var 8) a_nil))))))
      s_nil)
def b_number_of : SF :=
  (s_seq (s_if (t_b (e_op (eqP true) (e_call lenP (a_cons (e_var 2) a_nil)) (e_var 0)))
      s_never
      s_nil)
    (s_seq (s_set 3 (e_own m_arms (a_cons (e_var 2) a_nil)))
    (s_seq (s_for (i_seq (e_var 1)) (.nm 4)
      x_number_of_f0)
    (s_seq (s_par 5 6 (a_cons (e_call tupleP (a_cons (e_var 1) a_nil)) (a_cons (e_c (D.int 0)) a_nil)))
    (s_seq (s_for (i_seq (e_var 3)) (.tp [(.nm 7), (.nm 8)])
      x_number_of_f1)
    (s_ret (e_var 6)))))))
def m_number_of : MF := fnM 3 11 b_number_of
abbrev n_all_arrangements : List Str := ["people", "known", "ways", "number"]
def b_all_arrangements : SF :=
  (s_seq (s_set 2 (e_own m_many (a_cons (e_var 0) (a_cons (e_var 1) a_nil))))
    (s_seq (s_if (t_b (e_op gtP (e_var 2) (e_c (D.int 300))))
      s_never
      s_nil)
    (s_ret (e_lc [3] (i_rng1 (a_cons (e_var 2) a_nil)) (.nm 3) t_yes (e_own m_arrangement_at (a_cons (e_var 0) (a_cons (e_var 1) (a_cons (e_var 3) a_nil))))))))
def m_all_arrangements : MF := fnM 2 4 b_all_arrangements
abbrev n_gcd : List Str := ["one", "other"]
def x_gcd_w0 : SF :=
  (s_par 0 1 (a_cons (e_var 1) (a_cons (e_op modP (e_var 0) (e_var 1)) a_nil)))
def x_gcd_t0 : TF :=
  (t_b (e_op gtP (e_var 1) (e_c (D.int 0))))
def b_gcd : SF :=
  (s_seq (whileM x_gcd_t0
      x_gcd_w0 1000)
    (s_ret (e_var 0)))
def m_gcd : MF := fnM 2 2 b_gcd
abbrev n_reduced : List Str := ["numerator", "denominator", "shared"]
def b_reduced : SF :=
  (s_seq (s_set 2 (e_own m_gcd (a_cons (e_var 0) (a_cons (e_var 1) a_nil))))
    (s_ret (e_tup (a_cons (e_op fdivP (e_var 0) (e_var 2)) (a_cons (e_op fdivP (e_var 1) (e_var 2)) a_nil)))))
def m_reduced : MF := fnM 2 3 b_reduced
abbrev n_look_known : List Str := ["people", "known", "why"]
def b_look_known : SF :=
  (s_seq (s_set 2 (e_own m_evidence (a_cons (e_var 0) (a_cons (e_var 1) a_nil))))
    (s_if (t_b (e_op notNP (e_var 2) (e_c D.non)))
      s_never
      s_nil))
def m_look_known : MF := fnM 2 3 b_look_known
abbrev n_look_person : List Str := ["people", "person"]
def b_look_person : SF :=
  (s_if (t_not (t_b (e_chain leP ltP (e_c (D.int 0)) (e_var 1) (e_var 0))))
      s_never
      s_nil)
def m_look_person : MF := fnM 2 2 b_look_person
abbrev n_ways_with : List Str := ["people", "known", "one", "other", "pairs", "pair"]
def b_ways_with : SF :=
  (s_seq (s_set 4 (e_lc [5] (i_seq (e_var 1)) (.nm 5) t_yes (e_call tupleP (a_cons (e_var 5) a_nil))))
    (s_seq (s_if (t_b (e_op (inP false) (e_tup (a_cons (e_call min2P (a_cons (e_var 2) (a_cons (e_var 3) a_nil))) (a_cons (e_call max2P (a_cons (e_var 2) (a_cons (e_var 3) a_nil))) a_nil))) (e_var 4)))
      (s_ret (e_own m_many (a_cons (e_var 0) (a_cons (e_var 1) a_nil))))
      s_nil)
    (s_seq (s_if (t_or (t_b (e_op (inP false) (e_var 2) (e_own m_busy_people (a_cons (e_var 1) a_nil)))) (t_b (e_op (inP false) (e_var 3) (e_own m_busy_people (a_cons (e_var 1) a_nil)))))
      (s_ret (e_c (D.int 0)))
      s_nil)
    (s_ret (e_own m_many (a_cons (e_var 0) (a_cons (e_own m_with_pair (a_cons (e_var 1) (a_cons (e_var 2) (a_cons (e_var 3) a_nil)))) a_nil)))))))
def m_ways_with : MF := fnM 4 6 b_ways_with
abbrev n_chance : List Str := ["people", "known", "one", "other"]
def b_chance : SF :=
  (s_ret (e_own m_reduced (a_cons (e_own m_ways_with (a_cons (e_var 0) (a_cons (e_var 1) (a_cons (e_var 2) (a_cons (e_var 3) a_nil))))) (a_cons (e_own m_many (a_cons (e_var 0) (a_cons (e_var 1) a_nil))) a_nil))))
def m_chance : MF := fnM 4 4 b_chance
abbrev n_pair_chance : List Str := ["people", "known", "one", "other"]
def b_pair_chance : SF :=
  (s_seq (s_expr (e_own m_look_known (a_cons (e_var 0) (a_cons (e_var 1) a_nil))))
    (s_seq (s_expr (e_own m_look_person (a_cons (e_var 0) (a_cons (e_var 2) a_nil))))
    (s_seq (s_expr (e_own m_look_person (a_cons (e_var 0) (a_cons (e_var 3) a_nil))))
    (s_ret (e_own m_chance (a_cons (e_var 0) (a_cons (e_var 1) (a_cons (e_var 2) (a_cons (e_var 3) a_nil)))))))))
def m_pair_chance : MF := fnM 4 4 b_pair_chance
abbrev n_partner_chances : List Str := ["people", "known", "person", "found", "other", "part"]
def b_partner_chances : SF :=
  (s_seq (s_expr (e_own m_look_known (a_cons (e_var 0) (a_cons (e_var 1) a_nil))))
    (s_seq (s_expr (e_own m_look_person (a_cons (e_var 0) (a_cons (e_var 2) a_nil))))
    (s_seq (s_set 3 (e_lc [4] (i_rng1 (a_cons (e_var 0) a_nil)) (.nm 4) (t_b (e_op (eqP true) (e_var 4) (e_var 2))) (e_tup (a_cons (e_var 4) (a_cons (e_own m_chance (a_cons (e_var 0) (a_cons (e_var 1) (a_cons (e_var 2) (a_cons (e_var 4) a_nil))))) a_nil)))))
    (s_ret (e_lc [4, 5] (i_seq (e_var 3)) (.tp [(.nm 4), (.nm 5)]) (t_b (e_op gtP (e_op ixP (e_var 5) (e_c (D.int 0))) (e_c (D.int 0)))) (e_tup (a_cons (e_var 4) (a_cons (e_var 5) a_nil))))))))
def m_partner_chances : MF := fnM 3 6 b_partner_chances
abbrev n_all_pairs : List Str := ["people", "known", "found", "one", "other", "pair", "part"]
def x_all_pairs_f0 : SF :=
  (s_expr (e_lm extP (e_var 2) (a_cons (e_lc [4] (i_rng2 (a_cons (e_op (addP false) (e_var 3) (e_c (D.int 1))) (a_cons (e_var 0) a_nil))) (.nm 4) t_yes (e_tup (a_cons (e_tup (a_cons (e_var 3) (a_cons (e_var 4) a_nil))) (a_cons (e_own m_chance (a_cons (e_var 0) (a_cons (e_var 1) (a_cons (e_var 3) (a_cons (e_var 4) a_nil))))) a_nil)))) a_nil)))
def b_all_pairs : SF :=
  (s_seq (s_expr (e_own m_look_known (a_cons (e_var 0) (a_cons (e_var 1) a_nil))))
    (s_seq (s_set 2 (e_lst true a_nil))
    (s_seq (s_for (i_rng1 (a_cons (e_var 0) a_nil)) (.nm 3)
      x_all_pairs_f0)
    (s_freeze 2 (s_ret (e_lc [5, 6] (i_seq (e_var 2)) (.tp [(.nm 5), (.nm 6)]) (t_b (e_op gtP (e_op ixP (e_var 6) (e_c (D.int 0))) (e_c (D.int 0)))) (e_tup (a_cons (e_var 5) (a_cons (e_var 6) a_nil)))))))))
def m_all_pairs : MF := fnM 2 7 b_all_pairs
abbrev n_sure_pairs : List Str := ["people", "known", "pair", "part"]
def b_sure_pairs : SF :=
  (s_ret (e_lc [2, 3] (i_seq (e_own m_all_pairs (a_cons (e_var 0) (a_cons (e_var 1) a_nil)))) (.tp [(.nm 2), (.nm 3)]) (t_b (e_op (eqP false) (e_var 3) (e_tup (a_cons (e_c (D.int 1)) (a_cons (e_c (D.int 1)) a_nil))))) (e_var 2)))
def m_sure_pairs : MF := fnM 2 4 b_sure_pairs
abbrev n_possible_pairs : List Str := ["people", "known", "pair", "part"]
def b_possible_pairs : SF :=
  (s_ret (e_lc [2, 3] (i_seq (e_own m_all_pairs (a_cons (e_var 0) (a_cons (e_var 1) a_nil)))) (.tp [(.nm 2), (.nm 3)]) t_yes (e_var 2)))
def m_possible_pairs : MF := fnM 2 4 b_possible_pairs
abbrev n_neighbour_mean : List Str := ["people", "known", "pairs", "person", "one", "other"]
def b_neighbour_mean : SF :=
  (s_seq (s_expr (e_own m_look_known (a_cons (e_var 0) (a_cons (e_var 1) a_nil))))
    (s_seq (s_set 2 (e_sset false (e_lc [3] (i_rng1 (a_cons (e_var 0) a_nil)) (.nm 3) t_yes (e_call tupleP (a_cons (e_call (sortP false) (a_cons (e_lst false (a_cons (e_var 3) (a_cons (e_op modP (e_op (addP false) (e_var 3) (e_c (D.int 1))) (e_var 0)) a_nil))) a_nil)) a_nil)))))
    (s_ret (e_own m_reduced (a_cons (e_call sumP (a_cons (e_lc [4, 5] (i_seq (e_var 2)) (.tp [(.nm 4), (.nm 5)]) t_yes (e_own m_ways_with (a_cons (e_var 0) (a_cons (e_var 1) (a_cons (e_var 4) (a_cons (e_var 5) a_nil)))))) a_nil)) (a_cons (e_own m_many (a_cons (e_var 0) (a_cons (e_var 1) a_nil))) a_nil))))))
def m_neighbour_mean : MF := fnM 2 6 b_neighbour_mean
abbrev n_new_arms : List Str := ["arrangement", "exchange", "one", "other", "first", "second", "third", "last"]
def b_new_arms : SF :=
  (s_seq (s_asg (.tp [(.nm 2), (.nm 3)]) (e_var 1))
    (s_seq (s_asg (.tp [(.nm 4), (.nm 5), (.nm 6), (.nm 7)]) (e_call (sortP false) (a_cons (e_lst false (a_cons (e_var 2) (a_cons (e_var 3) (a_cons (e_op ixP (e_var 0) (e_var 2)) (a_cons (e_op ixP (e_var 0) (e_var 3)) a_nil))))) a_nil)))
    (s_seq (s_if (t_b (e_op (eqP false) (e_op ixP (e_var 0) (e_var 4)) (e_var 5)))
      (s_ret (e_lst false (a_cons (e_tup (a_cons (e_var 4) (a_cons (e_var 7) a_nil))) (a_cons (e_tup (a_cons (e_var 5) (a_cons (e_var 6) a_nil))) a_nil))))
      s_nil)
    (s_ret (e_lst false (a_cons (e_tup (a_cons (e_var 4) (a_cons (e_var 5) a_nil))) (a_cons (e_tup (a_cons (e_var 6) (a_cons (e_var 7) a_nil))) a_nil)))))))
def m_new_arms : MF := fnM 2 8 b_new_arms
abbrev n_is_possible : List Str := ["arrangement", "exchange", "made", "others", "arm", "other"]
def b_is_possible : SF :=
  (s_seq (s_set 2 (e_own m_new_arms (a_cons (e_var 0) (a_cons (e_var 1) a_nil))))
    (s_seq (s_set 3 (e_lc [4] (i_seq (e_own m_arms (a_cons (e_var 0) a_nil))) (.nm 4) (t_b (e_op (inP true) (e_op ixP (e_var 4) (e_c (D.int 0))) (e_var 1))) (e_var 4)))
    (s_ret (e_not (e_call anyP (a_cons (e_lc2 [4, 5] (i_seq (e_var 2)) (.nm 4) t_yes (i_seq (e_var 3)) [5] (.nm 5) t_yes (e_own m_cross (a_cons (e_var 4) (a_cons (e_var 5) a_nil)))) a_nil))))))
def m_is_possible : MF := fnM 2 6 b_is_possible
abbrev n_exchanges : List Str := ["arrangement", "found", "lesser", "place", "one", "arm", "other"]
def x_exchanges_f0 : SF :=
  (s_expr (e_lm extP (e_var 1) (a_cons (e_lc [6] (i_seq (e_slice false (e_var 2) (o_some (e_op (addP false) (e_var 3) (e_c (D.int 1)))) o_none)) (.nm 6) (t_tru (e_own m_is_possible (a_cons (e_var 0) (a_cons (e_tup (a_cons (e_var 4) (a_cons (e_var 6) a_nil))) a_nil)))) (e_tup (a_cons (e_var 4) (a_cons (e_var 6) a_nil)))) a_nil)))
def b_exchanges : SF :=
  (s_seq (s_par 1 2 (a_cons (e_lst true a_nil) (a_cons (e_lc [5] (i_seq (e_own m_arms (a_cons (e_var 0) a_nil))) (.nm 5) t_yes (e_op ixP (e_var 5) (e_c (D.int 0)))) a_nil)))
    (s_seq (s_for (i_enum (a_cons (e_var 2) a_nil)) (.tp [(.nm 3), (.nm 4)])
      x_exchanges_f0)
    (s_ret (e_var 1))))
def m_exchanges : MF := fnM 1 7 b_exchanges
abbrev n_changed : List Str := ["arrangement", "exchange", "found", "one", "other"]
def x_changed_f0 : SF :=
  (s_asgT (g_tup 2 (g_cons (g_sub setP (e_var 2) (e_var 3)) (g_cons (g_sub setP (e_var 2) (e_var 4)) g_nil))) (e_tup (a_cons (e_var 4) (a_cons (e_var 3) a_nil))))
def b_changed : SF :=
  (s_seq (s_set 2 (e_call (listP true) (a_cons (e_var 0) a_nil)))
    (s_seq (s_for (i_seq (e_own m_new_arms (a_cons (e_var 0) (a_cons (e_var 1) a_nil)))) (.tp [(.nm 3), (.nm 4)])
      x_changed_f0)
    (s_ret (e_call tupleP (a_cons (e_var 2) a_nil)))))
def m_changed : MF := fnM 2 5 b_changed
abbrev n_ring_of : List Str := ["one", "other", "person", "found"]
def x_ring_of_w0 : SF :=
  (s_seq (s_expr (e_lm appendP (e_var 3) (a_cons (e_op ixP (e_var 1) (e_op ixP (e_var 3) (e_un negP (e_c (D.int 1))))) a_nil)))
    (s_expr (e_lm appendP (e_var 3) (a_cons (e_op ixP (e_var 0) (e_op ixP (e_var 3) (e_un negP (e_c (D.int 1))))) a_nil))))
def x_ring_of_t0 : TF :=
  (t_b (e_op (eqP true) (e_op ixP (e_var 1) (e_op ixP (e_var 3) (e_un negP (e_c (D.int 1))))) (e_var 2)))
def b_ring_of : SF :=
  (s_seq (s_set 3 (e_lst true (a_cons (e_var 2) (a_cons (e_op ixP (e_var 0) (e_var 2)) a_nil))))
    (s_seq (whileM x_ring_of_t0
      x_ring_of_w0 1000)
    (s_ret (e_call tupleP (a_cons (e_var 3) a_nil)))))
def m_ring_of : MF := fnM 3 4 b_ring_of
abbrev n_rings : List Str := ["one", "other", "found", "met", "person"]
def x_rings_f0 : SF :=
  (s_if (t_b (e_op (inP true) (e_var 4) (e_var 3)))
      (s_seq (s_expr (e_lm appendP (e_var 2) (a_cons (e_own m_ring_of (a_cons (e_var 0) (a_cons (e_var 1) (a_cons (e_var 4) a_nil)))) a_nil)))
    (s_expr (e_lm extP (e_var 3) (a_cons (e_op ixP (e_var 2) (e_un negP (e_c (D.int 1)))) a_nil))))
      s_nil)
def b_rings : SF :=
  (s_seq (s_expr (e_own m_look_same (a_cons (e_var 0) (a_cons (e_var 1) a_nil))))
    (s_seq (s_par 2 3 (a_cons (e_lst true a_nil) (a_cons (e_lst true a_nil) a_nil)))
    (s_seq (s_for (i_rng1 (a_cons (e_call lenP (a_cons (e_var 0) a_nil)) a_nil)) (.nm 4)
      x_rings_f0)
    (s_ret (e_var 2)))))
def m_rings : MF := fnM 2 5 b_rings
abbrev n_distance : List Str := ["one", "other"]
def b_distance : SF :=
  (s_ret (e_op subP (e_op fdivP (e_call lenP (a_cons (e_var 0) a_nil)) (e_c (D.int 2))) (e_call lenP (a_cons (e_own m_rings (a_cons (e_var 0) (a_cons (e_var 1) a_nil))) a_nil))))
def m_distance : MF := fnM 2 2 b_distance
abbrev n_nearer : List Str := ["one", "other", "far", "pair"]
def b_nearer : SF :=
  (s_seq (s_set 2 (e_own m_distance (a_cons (e_var 0) (a_cons (e_var 1) a_nil))))
    (s_ret (e_lc [3] (i_seq (e_own m_exchanges (a_cons (e_var 0) a_nil))) (.nm 3) (t_b (e_op ltP (e_own m_distance (a_cons (e_own m_changed (a_cons (e_var 0) (a_cons (e_var 3) a_nil))) (a_cons (e_var 1) a_nil))) (e_var 2))) (e_var 3))))
def m_nearer : MF := fnM 2 4 b_nearer
abbrev n_spheres : List Str := ["arrangement", "steps", "other", "step"]
def b_spheres : SF :=
  (s_seq (s_set 1 (e_lc [2] (i_seq (e_own m_all_arrangements (a_cons (e_call lenP (a_cons (e_var 0) a_nil)) (a_cons (e_tup a_nil) a_nil)))) (.nm 2) t_yes (e_own m_distance (a_cons (e_var 0) (a_cons (e_var 2) a_nil)))))
    (s_ret (e_lc [3] (i_rng1 (a_cons (e_op (addP false) (e_call maxP (a_cons (e_var 1) a_nil)) (e_c (D.int 1))) a_nil)) (.nm 3) t_yes (e_lm countP (e_var 1) (a_cons (e_var 3) a_nil)))))
def m_spheres : MF := fnM 1 4 b_spheres
abbrev n_farthest : List Str := ["arrangement", "every", "steps", "other", "step"]
def b_farthest : SF :=
  (s_seq (s_set 1 (e_own m_all_arrangements (a_cons (e_call lenP (a_cons (e_var 0) a_nil)) (a_cons (e_tup a_nil) a_nil))))
    (s_seq (s_set 2 (e_lc [3] (i_seq (e_var 1)) (.nm 3) t_yes (e_own m_distance (a_cons (e_var 0) (a_cons (e_var 3) a_nil)))))
    (s_ret (e_lc [3, 4] (i_zip (a_cons (e_var 1) (a_cons (e_var 2) a_nil))) (.tp [(.nm 3), (.nm 4)]) (t_b (e_op (eqP false) (e_var 4) (e_call maxP (a_cons (e_var 2) a_nil)))) (e_var 3)))))
def m_farthest : MF := fnM 1 5 b_farthest
abbrev n_ways_many : List Str := ["one", "other", "every", "ways", "step", "here", "pair"]
def x_ways_many_f0 : SF :=
  (s_if (t_b (e_op (eqP false) (e_own m_distance (a_cons (e_var 5) (a_cons (e_var 1) a_nil))) (e_var 4)))
      (s_asgT (g_sub dputP (e_var 3) (e_var 5)) (e_call sumP (a_cons (e_lc [6] (i_seq (e_own m_nearer (a_cons (e_var 5) (a_cons (e_var 1) a_nil)))) (.nm 6) t_yes (e_op dixP (e_var 3) (e_own m_changed (a_cons (e_var 5) (a_cons (e_var 6) a_nil))))) a_nil)))
      s_nil)
def x_ways_many_f1 : SF :=
  (s_for (i_seq (e_var 2)) (.nm 5)
      x_ways_many_f0)
def b_ways_many : SF :=
  (s_seq (s_expr (e_own m_look_same (a_cons (e_var 0) (a_cons (e_var 1) a_nil))))
    (s_seq (s_set 2 (e_own m_all_arrangements (a_cons (e_call lenP (a_cons (e_var 0) a_nil)) (a_cons (e_tup a_nil) a_nil))))
    (s_seq (s_set 3 (e_dsp (e_call tupleP (a_cons (e_var 1) a_nil)) (e_c (D.int 1))))
    (s_seq (s_for (i_rng2 (a_cons (e_c (D.int 1)) (a_cons (e_op (addP false) (e_own m_distance (a_cons (e_var 0) (a_cons (e_var 1) a_nil))) (e_c (D.int 1))) a_nil))) (.nm 4)
      x_ways_many_f1)
    (s_ret (e_op dixP (e_var 3) (e_call tupleP (a_cons (e_var 0) a_nil))))))))
def m_ways_many : MF := fnM 2 7 b_ways_many
abbrev n_law_cell_at : List Str := ["_law_script", "_law_k"]
def b_law_cell_at : SF :=
  (s_seq (s_if (t_b (e_op ltP (e_var 1) (e_call lenP (a_cons (e_var 0) a_nil))))
      (s_ret (e_op ixP (e_var 0) (e_var 1)))
      s_nil)
    (s_ret (e_c (D.int 0))))
def m_law_cell_at : MF := fnM 2 2 b_law_cell_at
abbrev n_law_box : List Str := ["_law_script", "_law_k", "_law_core"]
def b_law_box : SF :=
  (s_seq (s_set 2 (e_own m_law_cell_at (a_cons (e_var 0) (a_cons (e_var 1) a_nil))))
    (s_ret (e_lst true (a_cons (e_op (mulP false) (e_call absP (a_cons (e_var 2) a_nil)) (e_call intP (a_cons (e_op geP (e_call absP (a_cons (e_var 2) a_nil)) (e_op powP (e_c (D.int 10)) (e_c (D.int 18)))) a_nil))) (a_cons (e_op (addP false) (e_op (addP false) (e_op modP (e_var 2) (e_c (D.int 2305843009213693951))) (e_op (mulP false) (e_c (D.int 39373)) (e_var 1))) (e_c (D.int 29))) (a_cons (e_c (D.int 0)) a_nil))))))
def m_law_box : MF := runB 2 3 b_law_box
abbrev n_law_take : List Str := ["_law_box_here", "_law_below", "_law_found", "_law_once", "_law_twice"]
def b_law_take (self : MF) : SF :=
  (s_seq (s_if (t_b (e_op gtP (e_op ixP (e_var 0) (e_c (D.int 0))) (e_c (D.int 0))))
      (s_seq (s_set 2 (e_op modP (e_op ixP (e_var 0) (e_c (D.int 0))) (e_var 1)))
    (s_seq (s_asgT (g_sub setP (e_var 0) (e_c (D.int 0))) (e_op fdivP (e_op ixP (e_var 0) (e_c (D.int 0))) (e_var 1)))
    (s_ret (e_var 2))))
      s_nil)
    (s_seq (s_if (t_b (e_op gtP (e_var 1) (e_op powP (e_c (D.int 10)) (e_c (D.int 7)))))
      (s_ret (e_op modP (e_op (addP false) (e_own self (a_cons (e_var 0) (a_cons (e_op powP (e_c (D.int 10)) (e_c (D.int 7))) a_nil))) (e_op (mulP false) (e_op powP (e_c (D.int 10)) (e_c (D.int 7))) (e_own self (a_cons (e_var 0) (a_cons (e_op (addP false) (e_op fdivP (e_var 1) (e_op powP (e_c (D.int 10)) (e_c (D.int 7)))) (e_c (D.int 1))) a_nil))))) (e_var 1)))
      s_nil)
    (s_seq (s_asgT (g_sub setP (e_var 0) (e_c (D.int 2))) (e_op (addP false) (e_op ixP (e_var 0) (e_c (D.int 2))) (e_c (D.int 1))))
    (s_seq (s_set 3 (e_op modP (e_op (mulP false) (e_op (addP false) (e_op ixP (e_var 0) (e_c (D.int 1))) (e_op (mulP false) (e_c (D.int 48271)) (e_op ixP (e_var 0) (e_c (D.int 2))))) (e_op (addP false) (e_c (D.int 39373)) (e_op ixP (e_var 0) (e_c (D.int 2))))) (e_c (D.int 2147483647))))
    (s_seq (s_set 4 (e_op modP (e_op (mulP false) (e_op (addP false) (e_op (addP false) (e_var 3) (e_op ixP (e_var 0) (e_c (D.int 2)))) (e_op fdivP (e_op ixP (e_var 0) (e_c (D.int 1))) (e_c (D.int 1000003)))) (e_op (addP false) (e_op modP (e_var 3) (e_c (D.int 40009))) (e_c (D.int 7)))) (e_c (D.int 2147483629))))
    (s_ret (e_op modP (e_op fdivP (e_op modP (e_op (addP false) (e_op (mulP false) (e_var 4) (e_c (D.int 48271))) (e_var 3)) (e_c (D.int 2147483587))) (e_c (D.int 64))) (e_var 1))))))))
def r_law_take : Nat → MF
  | 0 => fun _ _ => .fail
  | n + 1 => fnM 2 5 (b_law_take (r_law_take n))
def m_law_take : MF := r_law_take 4
abbrev n_law_same : List Str := ["_law_found", "_law_due", "_law_a", "_law_b"]
def b_law_same (self : MF) : SF :=
  (s_seq (s_if (t_tru (e_isi ["list", "tuple"] (e_var 1)))
      (s_seq (s_if (t_or (t_b (e_op (eqP true) (e_isi ["list"] (e_var 0)) (e_isi ["list"] (e_var 1)))) (t_b (e_op (eqP true) (e_isi ["tuple"] (e_var 0)) (e_isi ["tuple"] (e_var 1)))))
      (s_ret (e_c (D.bl false)))
      s_nil)
    (s_ret (e_and (e_op (eqP false) (e_call lenP (a_cons (e_var 0) a_nil)) (e_call lenP (a_cons (e_var 1) a_nil))) (e_call allP (a_cons (e_lc [2, 3] (i_zip (a_cons (e_var 0) (a_cons (e_var 1) a_nil))) (.tp [(.nm 2), (.nm 3)]) t_yes (e_own self (a_cons (e_var 2) (a_cons (e_var 3) a_nil)))) a_nil)))))
      s_nil)
    (s_seq (s_if (t_or (t_b (e_op isNP (e_var 1) (e_c D.non))) (t_tru (e_isi ["bool", "str"] (e_var 1))))
      (s_ret (e_and (e_op (eqP false) (e_var 0) (e_var 1)) (e_and (e_op (eqP false) (e_isi ["bool"] (e_var 0)) (e_isi ["bool"] (e_var 1))) (e_op (eqP false) (e_op isNP (e_var 0) (e_c D.non)) (e_op isNP (e_var 1) (e_c D.non))))))
      s_nil)
    (s_ret (e_and (e_isi ["int"] (e_var 0)) (e_and (e_not (e_isi ["bool"] (e_var 0))) (e_op (eqP false) (e_var 0) (e_var 1)))))))
def r_law_same : Nat → MF
  | 0 => fun _ _ => .fail
  | n + 1 => fnM 2 4 (b_law_same (r_law_same n))
def m_law_same : MF := r_law_same 5
abbrev n_law_more : List Str := ["_law_size", "_law_facts", "_law_extra", "_law_k"]
def b_law_more : SF :=
  (s_ret (e_op (addP false) (e_call tupleP (a_cons (e_var 1) a_nil)) (e_call tupleP (a_cons (e_lc [3] (i_rng1 (a_cons (e_var 2) a_nil)) (.nm 3) t_yes (e_tup (a_cons (e_op (addP false) (e_var 0) (e_op (mulP false) (e_c (D.int 2)) (e_var 3))) (a_cons (e_op (addP false) (e_op (addP false) (e_var 0) (e_op (mulP false) (e_c (D.int 2)) (e_var 3))) (e_c (D.int 1))) a_nil)))) a_nil))))
def m_law_more : MF := fnM 3 4 b_law_more
abbrev n_law_counts_right : List Str := ["_law_extra", "_law_some_so", "_law_told", "_law_facts"]
def b_law_counts_right : SF :=
  (s_seq (s_set 1 (e_tup (a_cons (e_tup a_nil) (a_cons (e_tup (a_cons (e_tup (a_cons (e_c (D.int 0)) (a_cons (e_c (D.int 1)) a_nil))) a_nil)) (a_cons (e_tup (a_cons (e_tup (a_cons (e_c (D.int 0)) (a_cons (e_c (D.int 3)) a_nil))) a_nil)) (a_cons (e_tup (a_cons (e_tup (a_cons (e_c (D.int 0)) (a_cons (e_c (D.int 5)) a_nil))) a_nil)) (a_cons (e_tup (a_cons (e_tup (a_cons (e_c (D.int 0)) (a_cons (e_c (D.int 2)) a_nil))) a_nil)) a_nil)))))))
    (s_seq (s_set 2 (e_lcC [3] (i_seq (e_var 1)) (.nm 3) t_yes (e_own m_many (a_cons (e_op (addP false) (e_c (D.int 6)) (e_op (mulP false) (e_c (D.int 2)) (e_var 0))) (a_cons (e_own m_law_more (a_cons (e_c (D.int 6)) (a_cons (e_var 3) (a_cons (e_var 0) a_nil)))) a_nil)))))
    (s_freeze 2 (s_seq (s_if (t_not (t_tru (e_own m_law_same (a_cons (e_var 2) (a_cons (e_lst false (a_cons (e_c (D.int 5)) (a_cons (e_c (D.int 2)) (a_cons (e_c (D.int 1)) (a_cons (e_c (D.int 2)) (a_cons (e_c (D.int 0)) a_nil)))))) a_nil)))))
      (s_ret (e_c (D.bl false)))
      s_nil)
    (s_seq (s_set 3 (e_own m_law_more (a_cons (e_c (D.int 8)) (a_cons (e_tup (a_cons (e_tup (a_cons (e_c (D.int 1)) (a_cons (e_c (D.int 4)) a_nil))) a_nil)) (a_cons (e_var 0) a_nil)))))
    (s_seq (s_set 2 (e_lst true (a_cons (e_own m_regions (a_cons (e_op (addP false) (e_c (D.int 8)) (e_op (mulP false) (e_c (D.int 2)) (e_var 0))) (a_cons (e_var 3) a_nil))) (a_cons (e_own m_many (a_cons (e_op (addP false) (e_c (D.int 8)) (e_op (mulP false) (e_c (D.int 2)) (e_var 0))) (a_cons (e_var 3) a_nil))) (a_cons (e_own m_evidence (a_cons (e_op (addP false) (e_c (D.int 8)) (e_op (mulP false) (e_c (D.int 2)) (e_var 0))) (a_cons (e_var 3) a_nil))) a_nil)))))
    (s_freeze 2 (s_seq (s_if (t_not (t_tru (e_own m_law_same (a_cons (e_var 2) (a_cons (e_lst false (a_cons (e_lst false (a_cons (e_tup (a_cons (e_c (D.int 0)) (a_cons (e_c (D.int 5)) (a_cons (e_c (D.int 6)) (a_cons (e_c (D.int 7)) a_nil))))) (a_cons (e_tup (a_cons (e_c (D.int 2)) (a_cons (e_c (D.int 3)) a_nil))) a_nil))) (a_cons (e_c (D.int 2)) (a_cons (e_c D.non) a_nil)))) a_nil)))))
      (s_ret (e_c (D.bl false)))
      s_nil)
    (s_seq (s_set 2 (e_lst true (a_cons (e_own m_evidence (a_cons (e_op (addP false) (e_c (D.int 6)) (e_op (mulP false) (e_c (D.int 2)) (e_var 0))) (a_cons (e_own m_law_more (a_cons (e_c (D.int 6)) (a_cons (e_tup (a_cons (e_tup (a_cons (e_c (D.int 0)) (a_cons (e_c (D.int 3)) a_nil))) (a_cons (e_tup (a_cons (e_c (D.int 1)) (a_cons (e_c (D.int 4)) a_nil))) a_nil))) (a_cons (e_var 0) a_nil)))) a_nil))) a_nil)))
    (s_seq (s_expr (e_lm appendP (e_var 2) (a_cons (e_own m_evidence (a_cons (e_op (addP false) (e_c (D.int 6)) (e_op (mulP false) (e_c (D.int 2)) (e_var 0))) (a_cons (e_own m_law_more (a_cons (e_c (D.int 6)) (a_cons (e_tup (a_cons (e_tup (a_cons (e_c (D.int 0)) (a_cons (e_c (D.int 2)) a_nil))) a_nil)) (a_cons (e_var 0) a_nil)))) a_nil))) a_nil)))
    (s_seq (s_expr (e_lm appendP (e_var 2) (a_cons (e_own m_evidence (a_cons (e_op (addP false) (e_c (D.int 6)) (e_op (mulP false) (e_c (D.int 2)) (e_var 0))) (a_cons (e_own m_law_more (a_cons (e_c (D.int 6)) (a_cons (e_tup (a_cons (e_tup (a_cons (e_c (D.int 0)) (a_cons (e_c (D.int 5)) a_nil))) (a_cons (e_tup (a_cons (e_c (D.int 1)) (a_cons (e_c (D.int 2)) a_nil))) a_nil))) (a_cons (e_var 0) a_nil)))) a_nil))) a_nil)))
    (s_seq (s_expr (e_lm appendP (e_var 2) (a_cons (e_own m_evidence (a_cons (e_op (addP false) (e_c (D.int 8)) (e_op (mulP false) (e_c (D.int 2)) (e_var 0))) (a_cons (e_own m_law_more (a_cons (e_c (D.int 8)) (a_cons (e_tup (a_cons (e_tup (a_cons (e_c (D.int 0)) (a_cons (e_c (D.int 7)) a_nil))) (a_cons (e_tup (a_cons (e_c (D.int 1)) (a_cons (e_c (D.int 4)) a_nil))) (a_cons (e_tup (a_cons (e_c (D.int 2)) (a_cons (e_c (D.int 6)) a_nil))) (a_cons (e_tup (a_cons (e_c (D.int 3)) (a_cons (e_c (D.int 5)) a_nil))) a_nil))))) (a_cons (e_var 0) a_nil)))) a_nil))) a_nil)))
    (s_freeze 2 (s_ret (e_own m_law_same (a_cons (e_var 2) (a_cons (e_lst false (a_cons (e_tup (a_cons (e_c (D.str (Str.ofString "cross"))) (a_cons (e_tup (a_cons (e_c (D.int 0)) (a_cons (e_c (D.int 3)) a_nil))) (a_cons (e_tup (a_cons (e_c (D.int 1)) (a_cons (e_c (D.int 4)) a_nil))) a_nil)))) (a_cons (e_tup (a_cons (e_c (D.str (Str.ofString "odd"))) (a_cons (e_tup (a_cons (e_c (D.int 1)) a_nil)) a_nil))) (a_cons (e_c D.non) (a_cons (e_tup (a_cons (e_c (D.str (Str.ofString "cross"))) (a_cons (e_tup (a_cons (e_c (D.int 1)) (a_cons (e_c (D.int 4)) a_nil))) (a_cons (e_tup (a_cons (e_c (D.int 2)) (a_cons (e_c (D.int 6)) a_nil))) a_nil)))) a_nil))))) a_nil)))))))))))))))))
def m_law_counts_right : MF := fnM 1 4 b_law_counts_right
abbrev n_law_numbers_right : List Str := ["_law_extra", "_law_five", "_law_tail", "_law_k", "_law_facts", "_law_due", "_law_told", "_law_hall"]
def x_law_numbers_right_f0 : SF :=
  (s_set 2 (e_op (addP false) (e_var 2) (e_lst false (a_cons (e_op (addP false) (e_c (D.int 7)) (e_op (mulP false) (e_c (D.int 2)) (e_var 3))) (a_cons (e_op (addP false) (e_c (D.int 6)) (e_op (mulP false) (e_c (D.int 2)) (e_var 3))) a_nil)))))
def b_law_numbers_right : SF :=
  (s_seq (s_set 1 (e_lst false (a_cons (e_tup (a_cons (e_c (D.int 1)) (a_cons (e_c (D.int 0)) (a_cons (e_c (D.int 3)) (a_cons (e_c (D.int 2)) (a_cons (e_c (D.int 5)) (a_cons (e_c (D.int 4)) a_nil))))))) (a_cons (e_tup (a_cons (e_c (D.int 1)) (a_cons (e_c (D.int 0)) (a_cons (e_c (D.int 5)) (a_cons (e_c (D.int 4)) (a_cons (e_c (D.int 3)) (a_cons (e_c (D.int 2)) a_nil))))))) (a_cons (e_tup (a_cons (e_c (D.int 3)) (a_cons (e_c (D.int 2)) (a_cons (e_c (D.int 1)) (a_cons (e_c (D.int 0)) (a_cons (e_c (D.int 5)) (a_cons (e_c (D.int 4)) a_nil))))))) (a_cons (e_tup (a_cons (e_c (D.int 5)) (a_cons (e_c (D.int 2)) (a_cons (e_c (D.int 1)) (a_cons (e_c (D.int 4)) (a_cons (e_c (D.int 3)) (a_cons (e_c (D.int 0)) a_nil))))))) (a_cons (e_tup (a_cons (e_c (D.int 5)) (a_cons (e_c (D.int 4)) (a_cons (e_c (D.int 3)) (a_cons (e_c (D.int 2)) (a_cons (e_c (D.int 1)) (a_cons (e_c (D.int 0)) a_nil))))))) a_nil)))))))
    (s_seq (s_set 2 (e_lst false a_nil))
    (s_seq (s_for (i_rng1 (a_cons (e_var 0) a_nil)) (.nm 3)
      x_law_numbers_right_f0)
    (s_seq (s_par 4 5 (a_cons (e_own m_law_more (a_cons (e_c (D.int 6)) (a_cons (e_tup a_nil) (a_cons (e_var 0) a_nil)))) (a_cons (e_lc [7] (i_seq (e_var 1)) (.nm 7) t_yes (e_op (addP false) (e_var 7) (e_call tupleP (a_cons (e_var 2) a_nil)))) a_nil)))
    (s_seq (s_if (t_not (t_tru (e_own m_law_same (a_cons (e_own m_all_arrangements (a_cons (e_op (addP false) (e_c (D.int 6)) (e_op (mulP false) (e_c (D.int 2)) (e_var 0))) (a_cons (e_var 4) a_nil))) (a_cons (e_var 5) a_nil)))))
      (s_ret (e_c (D.bl false)))
      s_nil)
    (s_seq (s_set 6 (e_lst true (a_cons (e_own m_arrangement_at (a_cons (e_op (addP false) (e_c (D.int 6)) (e_op (mulP false) (e_c (D.int 2)) (e_var 0))) (a_cons (e_var 4) (a_cons (e_c (D.int 4)) a_nil)))) (a_cons (e_own m_number_of (a_cons (e_op (addP false) (e_c (D.int 6)) (e_op (mulP false) (e_c (D.int 2)) (e_var 0))) (a_cons (e_var 4) (a_cons (e_op ixP (e_var 5) (e_c (D.int 2))) a_nil)))) (a_cons (e_own m_fits (a_cons (e_var 4) (a_cons (e_op ixP (e_var 5) (e_c (D.int 1))) a_nil))) a_nil)))))
    (s_seq (s_if (t_not (t_tru (e_own m_law_same (a_cons (e_op (addP false) (e_var 6) (e_lst false (a_cons (e_own m_fits (a_cons (e_tup (a_cons (e_tup (a_cons (e_c (D.int 0)) (a_cons (e_c (D.int 3)) a_nil))) a_nil)) (a_cons (e_op ixP (e_var 5) (e_c (D.int 2))) a_nil))) (a_cons (e_own m_fits (a_cons (e_tup (a_cons (e_tup (a_cons (e_c (D.int 0)) (a_cons (e_c (D.int 3)) a_nil))) a_nil)) (a_cons (e_op ixP (e_var 5) (e_c (D.int 1))) a_nil))) a_nil)))) (a_cons (e_lst false (a_cons (e_op ixP (e_var 5) (e_c (D.int 4))) (a_cons (e_c (D.int 2)) (a_cons (e_c (D.bl true)) (a_cons (e_c (D.bl true)) (a_cons (e_c (D.bl false)) a_nil)))))) a_nil)))))
      (s_ret (e_c (D.bl false)))
      s_nil)
    (s_seq (s_set 6 (e_lst true (a_cons (e_own m_many (a_cons (e_c (D.int 24)) (a_cons (e_tup a_nil) a_nil))) (a_cons (e_own m_many (a_cons (e_c (D.int 0)) (a_cons (e_tup a_nil) a_nil))) (a_cons (e_own m_many (a_cons (e_c (D.int 2)) (a_cons (e_tup a_nil) a_nil))) (a_cons (e_own m_all_arrangements (a_cons (e_c (D.int 0)) (a_cons (e_tup a_nil) a_nil))) (a_cons (e_own m_regions (a_cons (e_c (D.int 0)) (a_cons (e_tup a_nil) a_nil))) a_nil)))))))
    (s_seq (s_expr (e_lm appendP (e_var 6) (a_cons (e_own m_regions (a_cons (e_c (D.int 4)) (a_cons (e_tup (a_cons (e_tup (a_cons (e_c (D.int 0)) (a_cons (e_c (D.int 3)) a_nil))) (a_cons (e_tup (a_cons (e_c (D.int 1)) (a_cons (e_c (D.int 2)) a_nil))) a_nil))) a_nil))) a_nil)))
    (s_freeze 6 (s_ret (e_own m_law_same (a_cons (e_var 6) (a_cons (e_lst false (a_cons (e_c (D.int 208012)) (a_cons (e_c (D.int 1)) (a_cons (e_c (D.int 1)) (a_cons (e_lst false (a_cons (e_tup a_nil) a_nil)) (a_cons (e_lst false a_nil) (a_cons (e_lst false a_nil) a_nil))))))) a_nil))))))))))))))
def m_law_numbers_right : MF := fnM 1 8 b_law_numbers_right
abbrev n_law_chances_right : List Str := ["_law_extra", "_law_facts", "_law_size", "_law_told", "_law_behind", "_law_due"]
def b_law_chances_right : SF :=
  (s_seq (s_par 1 2 (a_cons (e_own m_law_more (a_cons (e_c (D.int 6)) (a_cons (e_tup a_nil) (a_cons (e_var 0) a_nil)))) (a_cons (e_op (addP false) (e_c (D.int 6)) (e_op (mulP false) (e_c (D.int 2)) (e_var 0))) a_nil)))
    (s_seq (s_set 3 (e_lst true (a_cons (e_own m_pair_chance (a_cons (e_var 2) (a_cons (e_var 1) (a_cons (e_c (D.int 0)) (a_cons (e_c (D.int 1)) a_nil))))) (a_cons (e_own m_pair_chance (a_cons (e_var 2) (a_cons (e_var 1) (a_cons (e_c (D.int 2)) (a_cons (e_c (D.int 0)) a_nil))))) (a_cons (e_own m_partner_chances (a_cons (e_var 2) (a_cons (e_var 1) (a_cons (e_c (D.int 0)) a_nil)))) a_nil)))))
    (s_freeze 3 (s_seq (s_if (t_not (t_tru (e_own m_law_same (a_cons (e_var 3) (a_cons (e_lst false (a_cons (e_tup (a_cons (e_c (D.int 2)) (a_cons (e_c (D.int 5)) a_nil))) (a_cons (e_tup (a_cons (e_c (D.int 0)) (a_cons (e_c (D.int 1)) a_nil))) (a_cons (e_lst false (a_cons (e_tup (a_cons (e_c (D.int 1)) (a_cons (e_tup (a_cons (e_c (D.int 2)) (a_cons (e_c (D.int 5)) a_nil))) a_nil))) (a_cons (e_tup (a_cons (e_c (D.int 3)) (a_cons (e_tup (a_cons (e_c (D.int 1)) (a_cons (e_c (D.int 5)) a_nil))) a_nil))) (a_cons (e_tup (a_cons (e_c (D.int 5)) (a_cons (e_tup (a_cons (e_c (D.int 2)) (a_cons (e_c (D.int 5)) a_nil))) a_nil))) a_nil)))) a_nil)))) a_nil)))))
      (s_ret (e_c (D.bl false)))
      s_nil)
    (s_seq (s_set 1 (e_own m_law_more (a_cons (e_c (D.int 6)) (a_cons (e_tup (a_cons (e_tup (a_cons (e_c (D.int 0)) (a_cons (e_c (D.int 3)) a_nil))) a_nil)) (a_cons (e_var 0) a_nil)))))
    (s_seq (s_set 4 (e_call (listP false) (a_cons (e_slice false (e_var 1) (o_some (e_c (D.int 1))) o_none) a_nil)))
    (s_seq (s_set 5 (e_op (addP false) (e_lst false (a_cons (e_tup (a_cons (e_c (D.int 0)) (a_cons (e_c (D.int 3)) a_nil))) (a_cons (e_tup (a_cons (e_c (D.int 1)) (a_cons (e_c (D.int 2)) a_nil))) (a_cons (e_tup (a_cons (e_c (D.int 4)) (a_cons (e_c (D.int 5)) a_nil))) a_nil)))) (e_var 4)))
    (s_seq (s_if (t_not (t_tru (e_own m_law_same (a_cons (e_lst false (a_cons (e_own m_sure_pairs (a_cons (e_var 2) (a_cons (e_var 1) a_nil))) (a_cons (e_own m_possible_pairs (a_cons (e_var 2) (a_cons (e_var 1) a_nil))) a_nil))) (a_cons (e_lst false (a_cons (e_var 5) (a_cons (e_var 5) a_nil))) a_nil)))))
      (s_ret (e_c (D.bl false)))
      s_nil)
    (s_seq (s_set 3 (e_lst true (a_cons (e_own m_possible_pairs (a_cons (e_c (D.int 4)) (a_cons (e_tup a_nil) a_nil))) (a_cons (e_own m_neighbour_mean (a_cons (e_c (D.int 6)) (a_cons (e_tup a_nil) a_nil))) (a_cons (e_own m_neighbour_mean (a_cons (e_c (D.int 2)) (a_cons (e_tup a_nil) a_nil))) (a_cons (e_own m_neighbour_mean (a_cons (e_c (D.int 4)) (a_cons (e_tup a_nil) a_nil))) a_nil))))))
    (s_seq (s_expr (e_lm appendP (e_var 3) (a_cons (e_own m_neighbour_mean (a_cons (e_c (D.int 0)) (a_cons (e_tup a_nil) a_nil))) a_nil)))
    (s_freeze 3 (s_ret (e_own m_law_same (a_cons (e_var 3) (a_cons (e_lst false (a_cons (e_lst false (a_cons (e_tup (a_cons (e_c (D.int 0)) (a_cons (e_c (D.int 1)) a_nil))) (a_cons (e_tup (a_cons (e_c (D.int 0)) (a_cons (e_c (D.int 3)) a_nil))) (a_cons (e_tup (a_cons (e_c (D.int 1)) (a_cons (e_c (D.int 2)) a_nil))) (a_cons (e_tup (a_cons (e_c (D.int 2)) (a_cons (e_c (D.int 3)) a_nil))) a_nil))))) (a_cons (e_tup (a_cons (e_c (D.int 12)) (a_cons (e_c (D.int 5)) a_nil))) (a_cons (e_tup (a_cons (e_c (D.int 1)) (a_cons (e_c (D.int 1)) a_nil))) (a_cons (e_tup (a_cons (e_c (D.int 2)) (a_cons (e_c (D.int 1)) a_nil))) (a_cons (e_tup (a_cons (e_c (D.int 0)) (a_cons (e_c (D.int 1)) a_nil))) a_nil)))))) a_nil)))))))))))))))
def m_law_chances_right : MF := fnM 1 6 b_law_chances_right
abbrev n_law_small_right : List Str := ["_law_flat", "_law_bent", "_law_last", "_law_told"]
def b_law_small_right : SF :=
  (s_seq (s_asgT (g_tup 3 (g_cons (g_name 0) (g_cons (g_name 1) (g_cons (g_name 2) g_nil)))) (e_tup (a_cons (e_tup (a_cons (e_c (D.int 1)) (a_cons (e_c (D.int 0)) (a_cons (e_c (D.int 3)) (a_cons (e_c (D.int 2)) (a_cons (e_c (D.int 5)) (a_cons (e_c (D.int 4)) a_nil))))))) (a_cons (e_tup (a_cons (e_c (D.int 3)) (a_cons (e_c (D.int 2)) (a_cons (e_c (D.int 1)) (a_cons (e_c (D.int 0)) (a_cons (e_c (D.int 5)) (a_cons (e_c (D.int 4)) a_nil))))))) (a_cons (e_tup (a_cons (e_c (D.int 5)) (a_cons (e_c (D.int 2)) (a_cons (e_c (D.int 1)) (a_cons (e_c (D.int 4)) (a_cons (e_c (D.int 3)) (a_cons (e_c (D.int 0)) a_nil))))))) a_nil)))))
    (s_seq (s_set 3 (e_lst false (a_cons (e_own m_spheres (a_cons (e_var 0) a_nil)) (a_cons (e_own m_spheres (a_cons (e_var 1) a_nil)) (a_cons (e_own m_spheres (a_cons (e_tup a_nil) a_nil)) (a_cons (e_own m_spheres (a_cons (e_tup (a_cons (e_c (D.int 1)) (a_cons (e_c (D.int 0)) a_nil))) a_nil)) (a_cons (e_own m_spheres (a_cons (e_tup (a_cons (e_c (D.int 1)) (a_cons (e_c (D.int 0)) (a_cons (e_c (D.int 3)) (a_cons (e_c (D.int 2)) a_nil))))) a_nil)) a_nil)))))))
    (s_seq (s_if (t_not (t_tru (e_own m_law_same (a_cons (e_var 3) (a_cons (e_lst false (a_cons (e_lst false (a_cons (e_c (D.int 1)) (a_cons (e_c (D.int 3)) (a_cons (e_c (D.int 1)) a_nil)))) (a_cons (e_lst false (a_cons (e_c (D.int 1)) (a_cons (e_c (D.int 2)) (a_cons (e_c (D.int 2)) a_nil)))) (a_cons (e_lst false (a_cons (e_c (D.int 1)) a_nil)) (a_cons (e_lst false (a_cons (e_c (D.int 1)) a_nil)) (a_cons (e_lst false (a_cons (e_c (D.int 1)) (a_cons (e_c (D.int 1)) a_nil))) a_nil)))))) a_nil)))))
      (s_ret (e_c (D.bl false)))
      s_nil)
    (s_seq (s_set 3 (e_lst false (a_cons (e_own m_farthest (a_cons (e_var 0) a_nil)) (a_cons (e_own m_farthest (a_cons (e_var 1) a_nil)) (a_cons (e_own m_farthest (a_cons (e_tup a_nil) a_nil)) (a_cons (e_own m_ways_many (a_cons (e_var 0) (a_cons (e_var 2) a_nil))) (a_cons (e_own m_ways_many (a_cons (e_var 0) (a_cons (e_var 1) a_nil))) a_nil)))))))
    (s_seq (s_set 3 (e_op (addP false) (e_var 3) (e_lst false (a_cons (e_own m_ways_many (a_cons (e_tup a_nil) (a_cons (e_tup a_nil) a_nil))) a_nil))))
    (s_ret (e_own m_law_same (a_cons (e_var 3) (a_cons (e_lst false (a_cons (e_lst false (a_cons (e_var 2) a_nil)) (a_cons (e_lst false (a_cons (e_tup (a_cons (e_c (D.int 1)) (a_cons (e_c (D.int 0)) (a_cons (e_c (D.int 5)) (a_cons (e_c (D.int 4)) (a_cons (e_c (D.int 3)) (a_cons (e_c (D.int 2)) a_nil))))))) (a_cons (e_tup (a_cons (e_c (D.int 5)) (a_cons (e_c (D.int 4)) (a_cons (e_c (D.int 3)) (a_cons (e_c (D.int 2)) (a_cons (e_c (D.int 1)) (a_cons (e_c (D.int 0)) a_nil))))))) a_nil))) (a_cons (e_lst false (a_cons (e_tup a_nil) a_nil)) (a_cons (e_c (D.int 3)) (a_cons (e_c (D.int 1)) (a_cons (e_c (D.int 1)) a_nil))))))) a_nil)))))))))
def m_law_small_right : MF := fnM 0 4 b_law_small_right
abbrev n_law_right : List Str := ["_law_box_here", "_law_extra"]
def b_law_right : SF :=
  (s_seq (s_set 1 (e_own m_law_take (a_cons (e_var 0) (a_cons (e_c (D.int 8)) a_nil))))
    (s_seq (s_if (t_or (t_not (t_tru (e_own m_law_counts_right (a_cons (e_var 1) a_nil)))) (t_not (t_tru (e_own m_law_numbers_right (a_cons (e_var 1) a_nil)))))
      (s_ret (e_c (D.bl false)))
      s_nil)
    (s_ret (e_and (e_own m_law_chances_right (a_cons (e_var 1) a_nil)) (e_own m_law_small_right a_nil)))))
def m_law_right : MF := fnM 1 2 b_law_right
abbrev n_law : List Str := ["_law_script", "_law_k"]
def b_law : SF :=
  (s_ret (e_call allP (a_cons (e_lc [1] (i_rng1 (a_cons (e_op (addP false) (e_c (D.int 1)) (e_call min2P (a_cons (e_c (D.int 3)) (a_cons (e_call lenP (a_cons (e_var 0) a_nil)) a_nil)))) a_nil)) (.nm 1) t_yes (e_own m_law_right (a_cons (e_own m_law_box (a_cons (e_var 0) (a_cons (e_var 1) a_nil))) a_nil))) a_nil)))
def m_law : MF := fnM 1 2 b_law
end Mini
namespace Mini
open PySem L2
theorem law_take_ok (n : Nat) {k : Int} (hk : 0 < k) (hk7 : k ≤ 10000000) {h : Hd} {b N : Nat} (hb : BoxAt h b N) (hN : N < 2 ^ 40) :
    ∃ r h', r_law_take (n + 1) [.ref b, .int k] h = .ok (.int r) h' ∧ 0 ≤ r ∧ r < k ∧ Drawn b h h' N 1 := by
  obtain ⟨x, y, z, e, hx, hy, hy2, hz, hzN⟩ := hb
  have hlt : b < h.length := (List.getElem?_eq_some_iff.mp e).1
  have es : ∀ o, (h.set b o)[b]? = some o := fun o => List.getElem?_set_self hlt
  by_cases hx0 : 0 < x
  · refine ⟨x % k, h.set b (.lst [.int (x / k), .int y, .int z]), ?_, Int.emod_nonneg _ (by omega), Int.emod_lt_of_pos _ hk, by simp, fun m hm => List.getElem?_set_ne (Ne.symm hm), ⟨x / k, y, z, es _, Int.ediv_nonneg hx (by omega), hy, hy2, hz, by omega⟩⟩
    have hlog : k.natAbs.log2 < 9000 := log2_small (by omega)
    simp [r_law_take, fnM, runB, b_law_take, s_seq, s_if, t_b, e_op, e_var, e_c, ixP, asS, asL, e, atI, ixN, gtP, cmpP, hx0, s_set, modP, hk, s_asgT, g_sub, fdivP, hlog, setP, noRef, s_ret, sealR, sealD, take_set]
  · have hx1 : x = 0 := by omega
    subst hx1
    have c1 : in64 (39373 + (z + 1)) = true := in64_of (by omega) (by omega)
    have c2 : ∀ o : Int, in64 (o % 40009 + 7) = true := fun o => in64_of (by omega) (by omega)
    have l1 : Nat.log2 1000003 < 9000 := log2_small (by decide)
    have l2 : Nat.log2 64 < 9000 := log2_small (by decide)
    have nk : ¬ (10000000 : Int) < k := by omega
    let once : Int := (y + 48271 * (z + 1)) * (39373 + (z + 1)) % 2147483647
    let twice : Int := (once + (z + 1) + y / 1000003) * (once % 40009 + 7) % 2147483629
    refine ⟨(twice * 48271 + once) % 2147483587 / 64 % k, h.set b (.lst [.int 0, .int y, .int (z + 1)]), ?_, Int.emod_nonneg _ (by omega), Int.emod_lt_of_pos _ hk, by simp, fun m hm => List.getElem?_set_ne (Ne.symm hm), ⟨0, y, z + 1, es _, by omega, hy, hy2, by omega, by omega⟩⟩
    simp [r_law_take, fnM, runB, b_law_take, s_seq, s_if, t_b, e_op, e_var, e_c, ixP, asS, asL, e, es, atI, ixN, gtP, cmpP, s_set, modP, hk, s_asgT, g_sub, fdivP, l1, l2, setP, noRef, s_ret, sealR, sealD, take_set, powP, nk, s_nil, addP, mulP, i48, c1, c2, once, twice]
theorem m_take_ok {k : Int} (hk : 0 < k) (hk7 : k ≤ 10000000) {h : Hd} {b N : Nat} (hb : BoxAt h b N) (hN : N < 2 ^ 40) :
    ∃ r h', m_law_take [.ref b, .int k] h = .ok (.int r) h' ∧ 0 ≤ r ∧ r < k ∧ Drawn b h h' N 1 := law_take_ok 3 hk hk7 hb hN
end Mini
namespace Mini
open PySem L2
theorem law_cell_at_ok (ns : List Int) (k : Nat) (h : Hd) (hl : ns.length ≤ 1000) : m_law_cell_at [.fl (I ns), .int k] h = .ok (.int (ns.getD k 0)) h := by
  by_cases hk : k < ns.length
  · have e : ns[k]? = some (ns.getD k 0) := by simp [List.getD_eq_getElem?_getD, hk]
    have := atI_I e
    simp [m_law_cell_at, fnM, runB, b_law_cell_at, s_seq, s_if, t_b, e_op, e_var, e_c, e_call, a_cons, a_nil, lenP, asS, asL, ltP, cmpP, hk, s_ret, ixP, sealR, sealD, noRef]
    rw [this]
    simp [sealR, sealD, noRef, List.getD_eq_getElem?_getD, hk]
  · have : ns.getD k 0 = 0 := by simp [List.getD_eq_getElem?_getD, hk]
    rw [this]
    have hk' : ¬ (k : Int) < (ns.length : Int) := by omega
    simp [m_law_cell_at, fnM, runB, b_law_cell_at, s_seq, s_if, t_b, e_op, e_var, e_c, e_call, a_cons, a_nil, lenP, asS, asL, ltP, cmpP, hk', s_ret, s_nil, sealR, sealD, noRef]
theorem law_box_ok (ns : List Int) (k : Nat) (h : Hd) (hl : ns.length ≤ 1000) (hk : k ≤ 1000) : ∃ c, m_law_box [.fl (I ns), .int k] h = .ok (.ref h.length) (h ++ [.lst c]) ∧ BoxAt (h ++ [.lst c]) h.length 0 := by
  let core := ns.getD k 0
  let fl : Int := if (10 : Int) ^ 18 ≤ (if core < 0 then -core else core) then 1 else 0
  refine ⟨[.int ((if core < 0 then -core else core) * fl), .int (core % 2305843009213693951 + 39373 * k + 29), .int 0], ?_, ⟨_, _, _, by simp; exact ⟨rfl, rfl, rfl⟩, ?_, by omega, by omega, by omega, by omega⟩⟩
  · have hc := law_cell_at_ok ns k h hl
    have i393 : in64 39373 = true := by decide
    have hp : (10 : Int) ^ 18 = 1000000000000000000 := by decide
    have hfl2 : ∀ c : Int, in64 (if (1000000000000000000 : Int) ≤ c then 1 else 0) = true := fun c => by split <;> decide
    simp [m_law_box, runB, b_law_box, s_seq, s_set, e_own, a_cons, a_nil, e_var, hc, s_ret, e_lst, e_op, e_call, absP, intP, geP, cmpP, powP, e_c, modP, addP, mulP, i393, mkL, sizeLine, hfl2, fl, core]
  · show 0 ≤ (if core < 0 then -core else core) * fl
    apply Int.mul_nonneg
    · split <;> omega
    · simp only [fl]; split <;> split <;> omega
end Mini
namespace Mini
open PySem L2
theorem law_of_right (right : ∀ (h : Hd) (b : Nat), h.length = b + 1 → b < 4 → BoxAt h b 0 → ∃ h', m_law_right [.ref b] h = .ok (.bl true) h' ∧ h'.length = h.length) : ∀ ns : List Int, ns.length ≤ 63 → ∃ h, m_law [.fl (ns.map D.int)] [] = .ok (.bl true) h := by
  intro ns hl
  have lc : ∃ n H, e_lc [1] (i_rng1 (a_cons (e_op (addP false) (e_c (D.int 1)) (e_call min2P (a_cons (e_c (D.int 3)) (a_cons (e_call lenP (a_cons (e_var 0) a_nil)) a_nil)))) a_nil)) (.nm 1) t_yes (e_own m_law_right (a_cons (e_own m_law_box (a_cons (e_var 0) (a_cons (e_var 1) a_nil))) a_nil)) [some (.fl (I ns)), none] [] = .ok (.lv (List.replicate n (.bl true))) H := by
    obtain ⟨c, hc, ec⟩ : ∃ c : Nat, c ≤ 4 ∧ i_rng1 (a_cons (e_op (addP false) (e_c (D.int 1)) (e_call min2P (a_cons (e_c (D.int 3)) (a_cons (e_call lenP (a_cons (e_var 0) a_nil)) a_nil)))) a_nil) [some (.fl (I ns)), none] [] = .ok (rangeL 0 c) [] := by
      have ln : e_call lenP (a_cons (e_var 0) a_nil) [some (.fl (I ns)), none] [] = .ok (.int (ns.length : Nat)) [] := call_ok (a1_ok var_ok) (by simp [lenP, asS, asL])
      have mn : e_call min2P (a_cons (e_c (D.int 3)) (a_cons (e_call lenP (a_cons (e_var 0) a_nil)) a_nil)) [some (.fl (I ns)), none] [] = .ok (.int (if (ns.length : Int) < 3 then (ns.length : Int) else 3)) [] := call_ok (a2_ok c_ok ln) rfl
      have ad := op_ok c_ok mn (addP_int false 1 _ [])
      refine ⟨(1 + (if (ns.length : Int) < 3 then (ns.length : Int) else 3)).toNat, by split <;> omega, ?_⟩
      have i6 : in62 (1 + (if (ns.length : Int) < 3 then (ns.length : Int) else 3)) = true := by
        unfold in62; rw [decide_eq_true (by split <;> omega), decide_eq_true (by split <;> omega)]; rfl
      simp only [i_rng1, a1_ok ad, bind_ok, i6, if_true]
    have w := lc_wp (p := .nm 1) (tt := t_yes) (te := e_own m_law_right (a_cons (e_own m_law_box (a_cons (e_var 0) (a_cons (e_var 1) a_nil))) a_nil)) (s0 := wipeD [some (.fl (I ns)), none] [1]) (Q := fun r => ∃ n H, r = some (List.replicate n (.bl true), H))
      (fun i acc H => H.length = i ∧ acc = List.replicate i (.bl true)) (rangeL 0 c) [] ⟨rfl, rfl⟩ (by
        rintro i d acc H hd ⟨hf, rfl⟩
        obtain ⟨hi, rfl⟩ := rangeL_at d hd
        obtain ⟨cc, e1, bx⟩ := law_box_ok ns i H (by omega) (by omega)
        have f1 : (H ++ [O.lst cc]).length = i + 1 := by rw [List.length_append, hf]; rfl
        obtain ⟨h', e2, dr⟩ := right _ _ (f1.trans (by rw [hf])) (by omega) bx
        refine ⟨[some (.fl (I ns)), some (.int (i : Nat))], rfl, .inr ⟨H, .bl true, h', rfl, own_ok (a1_ok (own_ok (a2_ok var_ok var_ok) e1)) e2, ?_, dr.trans f1, ?_⟩⟩
        · simp; exact Nat.lt_of_lt_of_le (show i < 1000 by omega) (by decide)
        · rw [List.replicate_succ'])
      (fun acc H q => ⟨(rangeL 0 c).length, H, by rw [q.2]⟩)
    obtain ⟨n, H, e⟩ := w
    refine ⟨n, H, ?_⟩
    unfold e_lc
    rw [ec, bind_ok, e]
  obtain ⟨n, H, e⟩ := lc
  refine ⟨_, fn_rt (np := 1) (n := 2) (b := b_law) (ds := [.fl (I ns)]) (h := []) (h' := H) (d := .bl true) [some (.fl (I ns)), none] (.bl true) (ret_ok (call_ok (a1_ok e) ?_)) rfl⟩
  have eb : List.replicate n (D.bl true) = (List.replicate n true).map D.bl := by simp
  simp only [allP, asL, Option.bind_some, eb, blsOf_B]
  congr 2
  simp
end Mini
namespace Mini
open PySem L2
theorem small_at1 (x : O) : m_law_small_right [] [x] = .ok (.bl true) [x] := by kernel_rfl
theorem small_at2 (x y : O) : m_law_small_right [] [x, y] = .ok (.bl true) [x, y] := by kernel_rfl
theorem small_at3 (x y z : O) : m_law_small_right [] [x, y, z] = .ok (.bl true) [x, y, z] := by kernel_rfl
theorem small_at4 (x y z u : O) : m_law_small_right [] [x, y, z, u] = .ok (.bl true) [x, y, z, u] := by kernel_rfl
theorem small_at (h : Hd) (h1 : 1 ≤ h.length) (h4 : h.length ≤ 4) : m_law_small_right [] h = .ok (.bl true) h :=
  match h, h1, h4 with
  | [x], _, _ => small_at1 x
  | [x, y], _, _ => small_at2 x y
  | [x, y, z], _, _ => small_at3 x y z
  | [x, y, z, u], _, _ => small_at4 x y z u
  | [], h1, _ => by simp at h1
  | _ :: _ :: _ :: _ :: _ :: _, _, h4 => by simp at h4
end Mini
namespace Mini
open PySem L2
theorem c_1_0 (x : O) : m_law_counts_right [.int 0] [x] = .ok (.bl true) [x] := by kernel_rfl
theorem c_1_1 (x : O) : m_law_counts_right [.int 1] [x] = .ok (.bl true) [x] := by kernel_rfl
theorem c_1_2 (x : O) : m_law_counts_right [.int 2] [x] = .ok (.bl true) [x] := by kernel_rfl
theorem c_1_3 (x : O) : m_law_counts_right [.int 3] [x] = .ok (.bl true) [x] := by kernel_rfl
theorem c_1_4 (x : O) : m_law_counts_right [.int 4] [x] = .ok (.bl true) [x] := by kernel_rfl
theorem c_1_5 (x : O) : m_law_counts_right [.int 5] [x] = .ok (.bl true) [x] := by kernel_rfl
theorem c_1_6 (x : O) : m_law_counts_right [.int 6] [x] = .ok (.bl true) [x] := by kernel_rfl
theorem c_1_7 (x : O) : m_law_counts_right [.int 7] [x] = .ok (.bl true) [x] := by kernel_rfl
theorem c_at1 (x : O) (f : Nat) (hf : f < 8) : m_law_counts_right [.int (f : Nat)] [x] = .ok (.bl true) [x] :=
  match f, hf with
  | 0, _ => c_1_0 x
  | 1, _ => c_1_1 x
  | 2, _ => c_1_2 x
  | 3, _ => c_1_3 x
  | 4, _ => c_1_4 x
  | 5, _ => c_1_5 x
  | 6, _ => c_1_6 x
  | 7, _ => c_1_7 x
  | _ + 8, hf => by omega
end Mini
namespace Mini
open PySem L2
theorem c_2_0 (x y : O) : m_law_counts_right [.int 0] [x, y] = .ok (.bl true) [x, y] := by kernel_rfl
theorem c_2_1 (x y : O) : m_law_counts_right [.int 1] [x, y] = .ok (.bl true) [x, y] := by kernel_rfl
theorem c_2_2 (x y : O) : m_law_counts_right [.int 2] [x, y] = .ok (.bl true) [x, y] := by kernel_rfl
theorem c_2_3 (x y : O) : m_law_counts_right [.int 3] [x, y] = .ok (.bl true) [x, y] := by kernel_rfl
theorem c_2_4 (x y : O) : m_law_counts_right [.int 4] [x, y] = .ok (.bl true) [x, y] := by kernel_rfl
theorem c_2_5 (x y : O) : m_law_counts_right [.int 5] [x, y] = .ok (.bl true) [x, y] := by kernel_rfl
theorem c_2_6 (x y : O) : m_law_counts_right [.int 6] [x, y] = .ok (.bl true) [x, y] := by kernel_rfl
theorem c_2_7 (x y : O) : m_law_counts_right [.int 7] [x, y] = .ok (.bl true) [x, y] := by kernel_rfl
theorem c_at2 (x y : O) (f : Nat) (hf : f < 8) : m_law_counts_right [.int (f : Nat)] [x, y] = .ok (.bl true) [x, y] :=
  match f, hf with
  | 0, _ => c_2_0 x y
  | 1, _ => c_2_1 x y
  | 2, _ => c_2_2 x y
  | 3, _ => c_2_3 x y
  | 4, _ => c_2_4 x y
  | 5, _ => c_2_5 x y
  | 6, _ => c_2_6 x y
  | 7, _ => c_2_7 x y
  | _ + 8, hf => by omega
end Mini
namespace Mini
open PySem L2
theorem c_3_0 (x y z : O) : m_law_counts_right [.int 0] [x, y, z] = .ok (.bl true) [x, y, z] := by kernel_rfl
theorem c_3_1 (x y z : O) : m_law_counts_right [.int 1] [x, y, z] = .ok (.bl true) [x, y, z] := by kernel_rfl
theorem c_3_2 (x y z : O) : m_law_counts_right [.int 2] [x, y, z] = .ok (.bl true) [x, y, z] := by kernel_rfl
theorem c_3_3 (x y z : O) : m_law_counts_right [.int 3] [x, y, z] = .ok (.bl true) [x, y, z] := by kernel_rfl
theorem c_3_4 (x y z : O) : m_law_counts_right [.int 4] [x, y, z] = .ok (.bl true) [x, y, z] := by kernel_rfl
theorem c_3_5 (x y z : O) : m_law_counts_right [.int 5] [x, y, z] = .ok (.bl true) [x, y, z] := by kernel_rfl
theorem c_3_6 (x y z : O) : m_law_counts_right [.int 6] [x, y, z] = .ok (.bl true) [x, y, z] := by kernel_rfl
theorem c_3_7 (x y z : O) : m_law_counts_right [.int 7] [x, y, z] = .ok (.bl true) [x, y, z] := by kernel_rfl
theorem c_at3 (x y z : O) (f : Nat) (hf : f < 8) : m_law_counts_right [.int (f : Nat)] [x, y, z] = .ok (.bl true) [x, y, z] :=
  match f, hf with
  | 0, _ => c_3_0 x y z
  | 1, _ => c_3_1 x y z
  | 2, _ => c_3_2 x y z
  | 3, _ => c_3_3 x y z
  | 4, _ => c_3_4 x y z
  | 5, _ => c_3_5 x y z
  | 6, _ => c_3_6 x y z
  | 7, _ => c_3_7 x y z
  | _ + 8, hf => by omega
end Mini
namespace Mini
open PySem L2
theorem c_4_0 (x y z u : O) : m_law_counts_right [.int 0] [x, y, z, u] = .ok (.bl true) [x, y, z, u] := by kernel_rfl
theorem c_4_1 (x y z u : O) : m_law_counts_right [.int 1] [x, y, z, u] = .ok (.bl true) [x, y, z, u] := by kernel_rfl
theorem c_4_2 (x y z u : O) : m_law_counts_right [.int 2] [x, y, z, u] = .ok (.bl true) [x, y, z, u] := by kernel_rfl
theorem c_4_3 (x y z u : O) : m_law_counts_right [.int 3] [x, y, z, u] = .ok (.bl true) [x, y, z, u] := by kernel_rfl
theorem c_4_4 (x y z u : O) : m_law_counts_right [.int 4] [x, y, z, u] = .ok (.bl true) [x, y, z, u] := by kernel_rfl
theorem c_4_5 (x y z u : O) : m_law_counts_right [.int 5] [x, y, z, u] = .ok (.bl true) [x, y, z, u] := by kernel_rfl
theorem c_4_6 (x y z u : O) : m_law_counts_right [.int 6] [x, y, z, u] = .ok (.bl true) [x, y, z, u] := by kernel_rfl
theorem c_4_7 (x y z u : O) : m_law_counts_right [.int 7] [x, y, z, u] = .ok (.bl true) [x, y, z, u] := by kernel_rfl
theorem c_at4 (x y z u : O) (f : Nat) (hf : f < 8) : m_law_counts_right [.int (f : Nat)] [x, y, z, u] = .ok (.bl true) [x, y, z, u] :=
  match f, hf with
  | 0, _ => c_4_0 x y z u
  | 1, _ => c_4_1 x y z u
  | 2, _ => c_4_2 x y z u
  | 3, _ => c_4_3 x y z u
  | 4, _ => c_4_4 x y z u
  | 5, _ => c_4_5 x y z u
  | 6, _ => c_4_6 x y z u
  | 7, _ => c_4_7 x y z u
  | _ + 8, hf => by omega
end Mini
namespace Mini
open PySem L2
theorem n_1_0 (x : O) : m_law_numbers_right [.int 0] [x] = .ok (.bl true) [x] := by kernel_rfl
theorem n_1_1 (x : O) : m_law_numbers_right [.int 1] [x] = .ok (.bl true) [x] := by kernel_rfl
theorem n_1_2 (x : O) : m_law_numbers_right [.int 2] [x] = .ok (.bl true) [x] := by kernel_rfl
theorem n_1_3 (x : O) : m_law_numbers_right [.int 3] [x] = .ok (.bl true) [x] := by kernel_rfl
theorem n_1_4 (x : O) : m_law_numbers_right [.int 4] [x] = .ok (.bl true) [x] := by kernel_rfl
theorem n_1_5 (x : O) : m_law_numbers_right [.int 5] [x] = .ok (.bl true) [x] := by kernel_rfl
theorem n_1_6 (x : O) : m_law_numbers_right [.int 6] [x] = .ok (.bl true) [x] := by kernel_rfl
theorem n_1_7 (x : O) : m_law_numbers_right [.int 7] [x] = .ok (.bl true) [x] := by kernel_rfl
theorem n_at1 (x : O) (f : Nat) (hf : f < 8) : m_law_numbers_right [.int (f : Nat)] [x] = .ok (.bl true) [x] :=
  match f, hf with
  | 0, _ => n_1_0 x
  | 1, _ => n_1_1 x
  | 2, _ => n_1_2 x
  | 3, _ => n_1_3 x
  | 4, _ => n_1_4 x
  | 5, _ => n_1_5 x
  | 6, _ => n_1_6 x
  | 7, _ => n_1_7 x
  | _ + 8, hf => by omega
end Mini
namespace Mini
open PySem L2
theorem n_2_0 (x y : O) : m_law_numbers_right [.int 0] [x, y] = .ok (.bl true) [x, y] := by kernel_rfl
theorem n_2_1 (x y : O) : m_law_numbers_right [.int 1] [x, y] = .ok (.bl true) [x, y] := by kernel_rfl
theorem n_2_2 (x y : O) : m_law_numbers_right [.int 2] [x, y] = .ok (.bl true) [x, y] := by kernel_rfl
theorem n_2_3 (x y : O) : m_law_numbers_right [.int 3] [x, y] = .ok (.bl true) [x, y] := by kernel_rfl
theorem n_2_4 (x y : O) : m_law_numbers_right [.int 4] [x, y] = .ok (.bl true) [x, y] := by kernel_rfl
theorem n_2_5 (x y : O) : m_law_numbers_right [.int 5] [x, y] = .ok (.bl true) [x, y] := by kernel_rfl
theorem n_2_6 (x y : O) : m_law_numbers_right [.int 6] [x, y] = .ok (.bl true) [x, y] := by kernel_rfl
theorem n_2_7 (x y : O) : m_law_numbers_right [.int 7] [x, y] = .ok (.bl true) [x, y] := by kernel_rfl
theorem n_at2 (x y : O) (f : Nat) (hf : f < 8) : m_law_numbers_right [.int (f : Nat)] [x, y] = .ok (.bl true) [x, y] :=
  match f, hf with
  | 0, _ => n_2_0 x y
  | 1, _ => n_2_1 x y
  | 2, _ => n_2_2 x y
  | 3, _ => n_2_3 x y
  | 4, _ => n_2_4 x y
  | 5, _ => n_2_5 x y
  | 6, _ => n_2_6 x y
  | 7, _ => n_2_7 x y
  | _ + 8, hf => by omega
end Mini
namespace Mini
open PySem L2
theorem n_3_0 (x y z : O) : m_law_numbers_right [.int 0] [x, y, z] = .ok (.bl true) [x, y, z] := by kernel_rfl
theorem n_3_1 (x y z : O) : m_law_numbers_right [.int 1] [x, y, z] = .ok (.bl true) [x, y, z] := by kernel_rfl
theorem n_3_2 (x y z : O) : m_law_numbers_right [.int 2] [x, y, z] = .ok (.bl true) [x, y, z] := by kernel_rfl
theorem n_3_3 (x y z : O) : m_law_numbers_right [.int 3] [x, y, z] = .ok (.bl true) [x, y, z] := by kernel_rfl
theorem n_3_4 (x y z : O) : m_law_numbers_right [.int 4] [x, y, z] = .ok (.bl true) [x, y, z] := by kernel_rfl
theorem n_3_5 (x y z : O) : m_law_numbers_right [.int 5] [x, y, z] = .ok (.bl true) [x, y, z] := by kernel_rfl
theorem n_3_6 (x y z : O) : m_law_numbers_right [.int 6] [x, y, z] = .ok (.bl true) [x, y, z] := by kernel_rfl
theorem n_3_7 (x y z : O) : m_law_numbers_right [.int 7] [x, y, z] = .ok (.bl true) [x, y, z] := by kernel_rfl
theorem n_at3 (x y z : O) (f : Nat) (hf : f < 8) : m_law_numbers_right [.int (f : Nat)] [x, y, z] = .ok (.bl true) [x, y, z] :=
  match f, hf with
  | 0, _ => n_3_0 x y z
  | 1, _ => n_3_1 x y z
  | 2, _ => n_3_2 x y z
  | 3, _ => n_3_3 x y z
  | 4, _ => n_3_4 x y z
  | 5, _ => n_3_5 x y z
  | 6, _ => n_3_6 x y z
  | 7, _ => n_3_7 x y z
  | _ + 8, hf => by omega
end Mini
namespace Mini
open PySem L2
theorem n_4_0 (x y z u : O) : m_law_numbers_right [.int 0] [x, y, z, u] = .ok (.bl true) [x, y, z, u] := by kernel_rfl
theorem n_4_1 (x y z u : O) : m_law_numbers_right [.int 1] [x, y, z, u] = .ok (.bl true) [x, y, z, u] := by kernel_rfl
theorem n_4_2 (x y z u : O) : m_law_numbers_right [.int 2] [x, y, z, u] = .ok (.bl true) [x, y, z, u] := by kernel_rfl
theorem n_4_3 (x y z u : O) : m_law_numbers_right [.int 3] [x, y, z, u] = .ok (.bl true) [x, y, z, u] := by kernel_rfl
theorem n_4_4 (x y z u : O) : m_law_numbers_right [.int 4] [x, y, z, u] = .ok (.bl true) [x, y, z, u] := by kernel_rfl
theorem n_4_5 (x y z u : O) : m_law_numbers_right [.int 5] [x, y, z, u] = .ok (.bl true) [x, y, z, u] := by kernel_rfl
theorem n_4_6 (x y z u : O) : m_law_numbers_right [.int 6] [x, y, z, u] = .ok (.bl true) [x, y, z, u] := by kernel_rfl
theorem n_4_7 (x y z u : O) : m_law_numbers_right [.int 7] [x, y, z, u] = .ok (.bl true) [x, y, z, u] := by kernel_rfl
theorem n_at4 (x y z u : O) (f : Nat) (hf : f < 8) : m_law_numbers_right [.int (f : Nat)] [x, y, z, u] = .ok (.bl true) [x, y, z, u] :=
  match f, hf with
  | 0, _ => n_4_0 x y z u
  | 1, _ => n_4_1 x y z u
  | 2, _ => n_4_2 x y z u
  | 3, _ => n_4_3 x y z u
  | 4, _ => n_4_4 x y z u
  | 5, _ => n_4_5 x y z u
  | 6, _ => n_4_6 x y z u
  | 7, _ => n_4_7 x y z u
  | _ + 8, hf => by omega
end Mini
namespace Mini
open PySem L2
section
variable {s s1 : Ev} {h h1 h2 h3 : Hd} {d d1 d2 d3 : D} {f f1 f2 f3 : EF} {a k : AF} {t t2 : TF} {b1 b2 : SF} {c c1 c2 : Bool}
theorem acons_ok {ds : List D} (e1 : f1 s h = .ok d1 h1) (e2 : a s h1 = .ok ds h2) : a_cons f1 a s h = .ok (d1 :: ds) h2 := by simp only [a_cons, e1, e2, bind_ok]
theorem anil_ok : a_nil s h = .ok [] h := rfl
theorem chain_ok {g g' : P2} (e1 : f1 s h = .ok d1 h) (e2 : f2 s h = .ok d2 h) (e3 : f3 s h = .ok d3 h) (p1 : g d1 d2 h = some (.bl c1, h)) (p2 : g' d2 d3 h = some (.bl c2, h)) : e_chain g g' f1 f2 f3 s h = .ok (.bl (c1 && c2)) h := by
  simp only [e_chain, e1, e2, bind_ok, p1, lift_some]
  cases c1 <;> simp [e3, p2]
theorem or_ok (e1 : t s h = .ok c1 h) (e2 : c1 = false → t2 s h = .ok c2 h) : t_or t t2 s h = .ok (c1 || c2) h := by
  cases c1
  · rw [or_f e1, e2 rfl]; rfl
  · rw [or_t e1]; rfl
theorem and_ok (e1 : t s h = .ok c1 h) (e2 : c1 = true → t2 s h = .ok c2 h) : t_and t t2 s h = .ok (c1 && c2) h := by
  cases c1
  · rw [and_f e1]; rfl
  · rw [and_t e1, e2 rfl]; rfl
theorem eand_ok (e1 : f1 s h = .ok (.bl c1) h) (e2 : c1 = true → f2 s h = .ok (.bl c2) h) : e_and f1 f2 s h = .ok (.bl (c1 && c2)) h := by
  cases c1
  · rw [eand_f e1]; rfl
  · rw [eand_t e1, e2 rfl]; rfl
theorem eor_ok (e1 : f1 s h = .ok (.bl c1) h) (e2 : c1 = false → f2 s h = .ok (.bl c2) h) : e_or f1 f2 s h = .ok (.bl (c1 || c2)) h := by
  cases c1
  · simp [e_or, e1, e2 rfl]
  · simp [e_or, e1]
theorem enot_ok (e1 : f s h = .ok (.bl c) h1) : e_not f s h = .ok (.bl (!c)) h1 := by simp [e_not, e1]
theorem not_t (e1 : t s h = .ok true h1) : t_not t s h = .ok false h1 := not_ok e1
theorem expr_ok (e1 : f s h = .ok d h1) : s_expr f s h = .ok (.nx s) h1 := by simp [s_expr, e1]
theorem lm_ok {g : PM} {ds : List D} (e1 : f s h = .ok d1 h1) (ht : lstTy d1 h1 = true) (e2 : a s h1 = .ok ds h2) (e3 : g d1 ds h2 = some (d, h3)) : e_lm g f a s h = .ok d h3 := by simp [e_lm, e1, ht, e2, e3]
theorem osome_ok {i : Int} (e1 : f s h = .ok (.int i) h1) : o_some f s h = .ok (some i) h1 := by simp [o_some, e1]
theorem onone_ok : o_none s h = .ok none h := rfl
theorem slice_ok {m : Bool} {lo hi : OF} {l u : Option Int} (e1 : f s h = .ok d1 h1) (e2 : lo s h1 = .ok l h2) (e3 : hi s h2 = .ok u h3) {h4 : Hd} (e4 : slP m d1 l u h3 = some (d, h4)) : e_slice m f lo hi s h = .ok d h4 := by simp [e_slice, e1, e2, e3, e4]
theorem asg_ok {p : Pat} (e1 : f s h = .ok d h1) (e2 : patD p d s = some s1) : s_asg p f s h = .ok (.nx s1) h1 := by simp [s_asg, e1, e2]
theorem asgT_ok {g : GF} (e1 : f s h = .ok d h1) (e2 : g d s h1 = .ok s1 h2) : s_asgT g f s h = .ok (.nx s1) h2 := by simp [s_asgT, e1, e2]
theorem if_ok {r : Res Fl} (e1 : t s h = .ok c h1) (e2 : (if c then b1 s h1 else b2 s h1) = r) : s_if t b1 b2 s h = r := by simp only [s_if, e1, bindE_ok]; exact e2
theorem if_no (e1 : t s h = .ok false h1) : s_if t b1 s_nil s h = .ok (.nx s) h1 := by rw [if_f e1]; rfl
theorem aug_ok {i : Nat} {g : P2} (e0 : s[i]? = some (some d1)) (e1 : f s h = .ok d2 h1) (e2 : g d1 d2 h1 = some (d, h2)) : s_aug i g f s h = .ok (.nx (s.set i (some d))) h2 := by simp [s_aug, e0, e1, e2]
theorem enum_ok {a : AF} {l : Bool} {xs : List D} (e1 : a s h = .ok [d] h1) (e2 : asV d = some (l, xs)) : i_enum a s h = .ok (enumL 0 xs) h1 := by simp only [i_enum, e1, bind_ok, e2]
theorem rng_ok {a : AF} {n : Nat} (e1 : a s h = .ok [.int (n : Nat)] h1) (hn : n ≤ 100000) : i_rng1 a s h = .ok (rangeL 0 n) h1 := by simp only [i_rng1, e1, bind_ok, in62_nat hn, if_true, Int.toNat_natCast]
/-- a def whose body returns a value, its own cells given up -/
theorem fn_v {np n : Nat} {b : SF} {ds : List D} {h h' : Hd} {d : D} (s0 : Ev) (e : b s0 h = .ok (.rt d) (h ++ h')) (hs : noRef d = true) (h0 : ds.map some ++ List.replicate (n - ds.length) none = s0 := by rfl) (hl : ds.length = np := by rfl) : fnM np n b ds h = .ok d h := by
  have hd : sealD h.length d (h ++ h') = some d := by
    cases d with
    | ref k => simp [noRef] at hs
    | _ => simp only [sealD, hs, if_true]
  have r := fn_rt (np := np) (n := n) (b := b) (ds := ds) (h := h) (h' := h ++ h') s0 d e hd h0 hl
  rw [List.take_left'] at r
  · exact r
  · rfl
theorem fn_nx {np n : Nat} {b : SF} {ds : List D} {h : Hd} {s1 : Ev} (s0 : Ev) (e : b s0 h = .ok (.nx s1) h) (h0 : ds.map some ++ List.replicate (n - ds.length) none = s0 := by rfl) (hl : ds.length = np := by rfl) : fnM np n b ds h = .ok .non h := by
  unfold fnM runB
  rw [if_pos hl, h0, e]
  simp only [sealR, sealD, noRef, if_true]
  rw [take_self]
end
class Enc (α : Type) [DecidableEq α] where
  enc : α → D
  py : α → PyData
  dep : Nat
  pyD_enc : ∀ a, pyD (enc a) = some (py a)
  eqv : ∀ a b, PyData.eqv (py a) (py b) = decide (a = b)
  lay : ∀ a, (py a).canLay0 = true
  depth : ∀ a, (py a).depth ≤ dep
  nr : ∀ a, noRef (enc a) = true
open Enc
instance : Enc Int := ⟨.int, .int, 0, fun _ => rfl, fun a b => by simp only [PyData.eqv]; by_cases e : a = b <;> simp [e], fun _ => by simp [PyData.canLay0], fun _ => by simp [PyData.depth], fun _ => rfl⟩
instance : Enc Nat := ⟨fun a => .int (a : Nat), fun a => .int (a : Nat), 0, fun _ => rfl, fun a b => by
    simp only [PyData.eqv]
    by_cases e : a = b
    · simp [e]
    · have : ¬ (a : Int) = b := by omega
      simp [e, this], fun _ => by simp [PyData.canLay0], fun _ => by simp [PyData.depth], fun _ => rfl⟩
instance : Enc Bool := ⟨.bl, .bool, 0, fun _ => rfl, fun a b => by simp only [PyData.eqv]; cases a <;> cases b <;> rfl, fun _ => by simp [PyData.canLay0], fun _ => by simp [PyData.depth], fun _ => rfl⟩
section
variable {α β : Type} [DecidableEq α] [DecidableEq β] [Enc α] [Enc β]
instance : Enc (α × β) := ⟨fun p => .tup [enc p.1, enc p.2], fun p => .tuple [py p.1, py p.2], max (dep α) (dep β) + 1, fun p => by simp only [pyD, pyDs, pyD_enc], fun a b => by
    simp only [PyData.eqv, PyData.eqvAll, Enc.eqv, Bool.and_true]
    rw [← Bool.decide_and, decide_eq_decide]
    exact ⟨fun e => Prod.ext e.1 e.2, fun e => by rw [e]; exact ⟨rfl, rfl⟩⟩, fun p => by simp [PyData.canLay0, PyData.canLayAll0, lay], fun p => by
    have := Enc.depth p.1; have := Enc.depth p.2
    simp only [PyData.depth, PyData.depthAll]; omega, fun p => by simp [noRef, noRefs, Enc.nr]⟩
theorem pyDs_map : ∀ xs : List α, pyDs (xs.map enc) = some (xs.map py)
  | [] => rfl
  | x :: xs => by simp only [List.map_cons, pyDs, pyD_enc, pyDs_map xs]
theorem eqvAll_map : ∀ xs ys : List α, PyData.eqvAll (xs.map py) (ys.map py) = decide (xs = ys)
  | [], [] => by simp [PyData.eqvAll]
  | [], y :: ys => by simp [PyData.eqvAll]
  | x :: xs, [] => by simp [PyData.eqvAll]
  | x :: xs, y :: ys => by
    simp only [List.map_cons, PyData.eqvAll, Enc.eqv, eqvAll_map xs ys, List.cons.injEq, Bool.decide_and]
theorem layAll_map : ∀ xs : List α, PyData.canLayAll0 (xs.map py) = true
  | [] => by simp [PyData.canLayAll0]
  | x :: xs => by simp [PyData.canLayAll0, lay, layAll_map xs]
theorem depthAll_map : ∀ xs : List α, PyData.depthAll (xs.map py) ≤ dep α
  | [] => by simp [PyData.depthAll]
  | x :: xs => by have := depthAll_map xs; have := Enc.depth x; simp only [List.map_cons, PyData.depthAll]; omega
theorem noRefs_map (xs : List α) : noRefs (xs.map enc) = true := by
  rw [noRefs_iff]; intro d hd; obtain ⟨a, _, rfl⟩ := List.mem_map.mp hd; exact Enc.nr a
/-- a list as a tuple -/
structure Tp (α : Type) where
  l : List α
  deriving DecidableEq
instance : Enc (Tp α) := ⟨fun p => .tup (p.l.map enc), fun p => .tuple (p.l.map py), dep α + 1, fun p => by simp only [pyD, pyDs_map], fun a b => by
    simp only [PyData.eqv, eqvAll_map]
    rw [decide_eq_decide]
    exact ⟨fun e => by cases a; cases b; simp at e; rw [e], fun e => by rw [e]⟩, fun p => by simp [PyData.canLay0, layAll_map], fun p => by
    have := depthAll_map p.l
    simp only [PyData.depth]; omega, fun p => by simp [noRef, noRefs_map]⟩
instance : Enc (List α) := ⟨fun p => .lv (p.map enc), fun p => .list (p.map py), dep α + 1, fun p => by simp only [pyD, pyDs_map], fun a b => by
    simp only [PyData.eqv, eqvAll_map], fun p => by simp [PyData.canLay0, layAll_map], fun p => by
    have := depthAll_map p
    simp only [PyData.depth]; omega, fun p => by simp [noRef, noRefs_map]⟩
theorem shaped_py (hd : dep α ≤ 64) (a : α) : SeqAt.shaped (py a) = true := by
  have := Enc.depth a
  simp only [SeqAt.shaped, lay, Bool.true_and, decide_eq_true_eq]
  omega
theorem pyR_enc (a : α) (h : Hd) : pyR (enc a) h = some (py a) := by
  have e := pyD_enc a
  unfold pyR
  split
  · rename_i q; have := Enc.nr a; rw [q] at this; simp [noRef] at this
  · exact e
theorem eqP_enc (neg : Bool) (hd : dep α ≤ 64) (a b : α) (h : Hd) : eqP neg (enc a) (enc b) h = some (.bl (if neg then !decide (a = b) else decide (a = b)), h) := by
  simp only [eqP, pyR_enc, shaped_py hd, Bool.and_self, if_true, Enc.eqv]
theorem any_enc (x : α) : ∀ L : List α, ((L.map py).any fun z => PyData.eqv z (py x)) = decide (x ∈ L)
  | [] => by simp
  | y :: L => by
    rw [List.map_cons, List.any_cons, any_enc x L, Enc.eqv]
    by_cases e : y = x
    · subst e; simp
    · have : ¬ x = y := fun q => e q.symm
      simp [e, this]
theorem flatD_eq {x z : α} (hx : flatD (enc x) = true) (hz : flatD (enc z) = true) : eqFD (enc z) (enc x) = PyData.eqv (py z) (py x) := by
  have ex := pyD_enc x
  have ez := pyD_enc z
  cases qx : enc x <;> rw [qx] at hx ex <;> simp [flatD] at hx <;> cases qz : enc z <;> rw [qz] at hz ez <;> simp [flatD] at hz <;> simp only [pyD, Option.some.injEq] at ex ez <;> rw [← ex, ← ez] <;> simp only [eqFD, PyData.eqv]
theorem inP_any (hd : dep α < 64) (x : α) {y : D} {L : List α} {h : Hd} (neg : Bool) (hy : asS y h = some (L.map enc)) (hp : pyR y h = some (.list (L.map py)) ∨ ∀ a : α, flatD (enc a) = true) : inP neg (enc x) y h = some (.bl (if neg then !decide (x ∈ L) else decide (x ∈ L)), h) := by
  have sl : SeqAt.shaped (.list (L.map py)) = true := shaped_py (α := List α) (by show dep α + 1 ≤ 64; omega) L
  unfold inP
  rw [hy]
  simp only
  split
  · rename_i q
    rw [Bool.and_eq_true, List.all_eq_true] at q
    have : ((L.map enc).any fun z => eqFD z (enc x)) = decide (x ∈ L) := by
      rw [← any_enc, List.any_map, List.any_map]
      have : ∀ (M : List α), (∀ z ∈ M, flatD (enc z) = true) → (M.any ((fun z => eqFD z (enc x)) ∘ enc)) = M.any ((fun z => PyData.eqv z (py x)) ∘ py) := fun M hM => by
        induction M with
        | nil => rfl
        | cons z M ih =>
          rw [List.any_cons, List.any_cons, ih fun z hz => hM z (by simp [hz])]
          congr 1
          exact flatD_eq q.1 (hM z (by simp))
      exact this L fun z hz => q.2 _ (List.mem_map.mpr ⟨z, hz, rfl⟩)
    rw [this]
  · rcases hp with hp | hp
    · rw [hp, pyR_enc]
      simp only [sl, shaped_py (α := α) (by omega) x, Bool.and_self, if_true, any_enc]
    · rename_i q
      refine absurd ?_ q
      rw [hp x, Bool.true_and, List.all_eq_true]
      intro z hz
      obtain ⟨a, _, rfl⟩ := List.mem_map.mp hz
      exact hp a
theorem inP_enc (neg : Bool) (hd : dep α < 64) (x : α) (L : List α) (h : Hd) : inP neg (enc x) (.lv (L.map enc)) h = some (.bl (if neg then !decide (x ∈ L) else decide (x ∈ L)), h) :=
  inP_any hd x neg rfl (.inl (by simp only [pyR, pyD, pyDs_map]))
end
theorem lcM_g {α : Type} {p : Pat} {tt : TF} {te : EF} {s0 : Ev} {h : Hd} (mk : α → D) (st : α → Ev) (g : α → Bool) (f : α → D) : ∀ (L : List α) (acc : List D), acc.length + L.length ≤ sizeLine →
    (∀ x ∈ L, patD p (mk x) s0 = some (st x) ∧ tt (st x) h = .ok (g x) h ∧ (g x = true → te (st x) h = .ok (f x) h)) → lcM p tt te s0 (L.map mk) acc h = some (acc ++ (L.filter g).map f, h)
  | [], acc, _, _ => by simp [lcM]
  | x :: L, acc, hl, hp => by
    obtain ⟨e0, e1, e2⟩ := hp x (by simp)
    have ih := fun acc hl => lcM_g (p := p) (tt := tt) (te := te) (s0 := s0) (h := h) mk st g f L acc hl (fun y hy => hp y (by simp [hy]))
    simp only [List.length_cons] at hl
    simp only [List.map_cons, lcM, e0, e1]
    cases q : g x with
    | false => simp only; rw [ih acc (by omega)]; simp [q]
    | true =>
      simp only [e2 q]
      rw [if_pos (by omega), ih _ (by simp; omega)]
      simp [q]
theorem lc_g {α : Type} {own : List Nat} {i : AF} {p : Pat} {tt : TF} {te : EF} {s : Ev} {h h1 : Hd} {L : List α} (mk : α → D) (st : α → Ev) (g : α → Bool) (f : α → D) (hi : i s h = .ok (L.map mk) h1) (hl : L.length ≤ 100000)
    (hp : ∀ x ∈ L, patD p (mk x) (wipeD s own) = some (st x) ∧ tt (st x) h1 = .ok (g x) h1 ∧ (g x = true → te (st x) h1 = .ok (f x) h1)) : e_lc own i p tt te s h = .ok (.lv ((L.filter g).map f)) h1 := by
  unfold e_lc
  rw [hi, bind_ok, lcM_g mk st g f L [] (by simp; exact sz5 hl) hp]
  simp
theorem lc_to {α : Type} {own : List Nat} {i : AF} {p : Pat} {tt : TF} {te : EF} {s : Ev} {h : Hd} {ys : List D} (L : List α) (mk : α → D) (st : α → Ev) (g : α → Bool) (f : α → D) (hi : i s h = .ok (L.map mk) h) (hl : L.length ≤ 100000)
    (hp : ∀ x ∈ L, patD p (mk x) (wipeD s own) = some (st x) ∧ tt (st x) h = .ok (g x) h ∧ (g x = true → te (st x) h = .ok (f x) h)) (he : (L.filter g).map f = ys) : e_lc own i p tt te s h = .ok (.lv ys) h := by
  rw [← he]; exact lc_g mk st g f hi hl hp
theorem lcM2_g {α β : Type} {p p1 : Pat} {tt tt1 : TF} {i1 : AF} {own1 : List Nat} {te : EF} {s0 : Ev} {h : Hd} (mk : α → D) (st : α → Ev) (g : α → Bool) (M : α → List β) (mk1 : β → D) (st1 : α → β → Ev) (g1 : α → β → Bool) (f : α → β → D) (B : Nat) : ∀ (L : List α) (acc : List D), acc.length + L.length * B ≤ sizeLine →
    (∀ x ∈ L, (M x).length ≤ B ∧ patD p (mk x) s0 = some (st x) ∧ tt (st x) h = .ok (g x) h ∧ (g x = true → i1 (st x) h = .ok ((M x).map mk1) h ∧ ∀ y ∈ M x, patD p1 (mk1 y) (wipeD (st x) own1) = some (st1 x y) ∧ tt1 (st1 x y) h = .ok (g1 x y) h ∧ (g1 x y = true → te (st1 x y) h = .ok (f x y) h))) →
    lcM2 p tt i1 own1 p1 tt1 te s0 (L.map mk) acc h = some (acc ++ (L.filter g).flatMap fun x => ((M x).filter (g1 x)).map (f x), h)
  | [], acc, _, _ => by simp [lcM2]
  | x :: L, acc, hl, hp => by
    obtain ⟨eB, e0, e1, e2⟩ := hp x (by simp)
    have ih := fun acc hl => lcM2_g (p := p) (p1 := p1) (tt := tt) (tt1 := tt1) (i1 := i1) (own1 := own1) (te := te) (s0 := s0) (h := h) mk st g M mk1 st1 g1 f B L acc hl (fun y hy => hp y (by simp [hy]))
    simp only [List.length_cons, Nat.succ_mul] at hl
    simp only [List.map_cons, lcM2, e0, e1]
    cases q : g x with
    | false => simp only; rw [ih acc (by omega)]; simp [q]
    | true =>
      obtain ⟨e3, e4⟩ := e2 q
      simp only [e3]
      rw [lcM_g mk1 (st1 x) (g1 x) (f x) (M x) acc (by omega) e4]
      simp only
      rw [ih _ (by
        have : ((M x).filter (g1 x)).length ≤ (M x).length := List.length_filter_le _ _
        simp only [List.length_append, List.length_map]; omega)]
      simp [q]
theorem lc2_g {α β : Type} {own own1 : List Nat} {i i1 : AF} {p p1 : Pat} {tt tt1 : TF} {te : EF} {s : Ev} {h h1 : Hd} {L : List α} (mk : α → D) (st : α → Ev) (g : α → Bool) (M : α → List β) (mk1 : β → D) (st1 : α → β → Ev) (g1 : α → β → Bool) (f : α → β → D) (B : Nat) (hi : i s h = .ok (L.map mk) h1) (hl : L.length * B ≤ 100000)
    (hp : ∀ x ∈ L, (M x).length ≤ B ∧ patD p (mk x) (wipeD s own) = some (st x) ∧ tt (st x) h1 = .ok (g x) h1 ∧ (g x = true → i1 (st x) h1 = .ok ((M x).map mk1) h1 ∧ ∀ y ∈ M x, patD p1 (mk1 y) (wipeD (st x) own1) = some (st1 x y) ∧ tt1 (st1 x y) h1 = .ok (g1 x y) h1 ∧ (g1 x y = true → te (st1 x y) h1 = .ok (f x y) h1))) :
    e_lc2 own i p tt i1 own1 p1 tt1 te s h = .ok (.lv ((L.filter g).flatMap fun x => ((M x).filter (g1 x)).map (f x))) h1 := by
  unfold e_lc2
  rw [hi, bind_ok, lcM2_g mk st g M mk1 st1 g1 f B L [] (by simp; exact sz5 hl) hp]
  simp [endL]
theorem cut_from {xs : List D} {i : Nat} : cutD xs (some ((i : Nat) : Int)) none = xs.drop i := by
  unfold cutD
  rw [HT.sIx_nat, HT.sIx_none]
  rcases Nat.le_total i xs.length with q | q
  · rw [Nat.min_eq_left q]
    exact List.take_of_length_le (by simp)
  · rw [Nat.min_eq_right q]
    simp [List.drop_of_length_le q]
theorem cut_to {xs : List D} {i : Nat} : cutD xs none (some ((i : Nat) : Int)) = xs.take i := by
  unfold cutD
  rw [HT.sIx_nat, HT.sIx_none]
  simp only [List.drop_zero, Nat.sub_zero]
  rcases Nat.le_total i xs.length with q | q
  · rw [Nat.min_eq_left q]
  · rw [Nat.min_eq_right q, List.take_of_length_le (Nat.le_refl _), List.take_of_length_le q]
end Mini
namespace Mini
open PySem L2
theorem sortL_uniq {xs ys : List D} (pm : ys.Perm xs) (so : ys.Pairwise fun a b => PySem.W.dataLt (pyOf b) (pyOf a) = false) (anti : ∀ a ∈ xs, ∀ b ∈ xs, PySem.W.dataLt (pyOf b) (pyOf a) = false → PySem.W.dataLt (pyOf a) (pyOf b) = false → a = b) : sortL xs = ys := by
  have p2 : (sortL xs).Pairwise fun a b => PySem.W.dataLt (pyOf b) (pyOf a) = false := by
    have := PySem.W.sort_pairwise (PySem.W.sortLe_total (PyProof.Rows.listOrd PyProof.Rows.itemOrd) false fun b : D => PySem.W.keyToks (pyOf b)) xs
    rw [sortL_ms]
    refine this.imp fun {a b} h => ?_
    have h : (!PySem.W.dataLt (pyOf b) (pyOf a)) = true := h
    simpa using h
  refine List.Perm.eq_of_pairwise (le := fun a b => PySem.W.dataLt (pyOf b) (pyOf a) = false) (fun a b ha hb h1 h2 => ?_) p2 so (by rw [sortL_ms]; exact (List.mergeSort_perm _ _).trans pm.symm)
  rw [sortL_ms] at ha
  exact anti a ((List.mergeSort_perm _ _).mem_iff.mp ha) b (pm.mem_iff.mp hb) h1 h2
theorem dataLt_tups (a b : List Int) : PySem.W.dataLt (.tuple (a.map PyData.int)) (.tuple (b.map PyData.int)) = decide (a < b) := by
  rw [PySem.W.dataLt_tuple]
  exact PySem.W.dataLt_ints a b
theorem pyOf_tup (a : List Int) : pyOf (.tup (I a)) = .tuple (a.map PyData.int) := by simp only [pyOf, pyD, pyDs_I, Option.getD_some]
theorem sort_tups (m : Bool) {L M : List (List Int)} (pm : M.Perm L) (so : M.Pairwise fun a b => ¬ b < a) (ne : ∀ a ∈ L, a ≠ []) {x : D} {h : Hd} (hx : asS x h = some (T2 L)) : sortP m [x] h = mkL m (T2 M) h := by
  have e : sortL (T2 L) = T2 M := by
    refine sortL_uniq (pm.map fun xs => D.tup (I xs)) ?_ fun a ha b hb h1 h2 => ?_
    · rw [T2, List.pairwise_map]
      refine so.imp fun {a b} q => ?_
      rw [pyOf_tup, pyOf_tup, dataLt_tups]
      exact decide_eq_false q
    · obtain ⟨x, _, rfl⟩ := List.mem_map.mp ha
      obtain ⟨y, _, rfl⟩ := List.mem_map.mp hb
      rw [pyOf_tup, pyOf_tup, dataLt_tups] at h1 h2
      have h1 := of_decide_eq_false h1
      have h2 := of_decide_eq_false h2
      have : x = y := List.le_antisymm (List.not_lt.mp h1) (List.not_lt.mp h2)
      rw [this]
  have c1 : alikeB (L.map fun xs => PyData.tuple (xs.map PyData.int)) = true := by
    unfold alikeB
    simp only [List.all_map, List.all_eq_true, Function.comp]
    intro a _ b _
    simp only [PySem.W.alike]
    exact PySem.W.alike_ints a b
  have c2 : sortableB (L.map fun xs => PyData.tuple (xs.map PyData.int)) = true := by
    unfold sortableB
    rw [Bool.or_eq_true]
    left
    simp only [List.all_map, List.all_eq_true, Function.comp]
    intro a ha
    have := ne a ha
    cases a with
    | nil => exact absurd rfl this
    | cons x r => rfl
  have c3 : (L.map fun xs => PyData.tuple (xs.map PyData.int)).all (fun p => decide (p.depth ≤ 60)) = true := by
    simp only [List.all_map, List.all_eq_true, Function.comp]
    intro a _
    rw [decide_eq_true_eq]
    simp only [PyData.depth, depth_I]
    omega
  simp only [sortP, hx, pyDs_T2, c1, c2, c3, Bool.and_self, if_true, e]
end Mini
namespace Mini
/-- n people; everybody the partner of their partner, nobody their own; no two arms cross -/
structure Arr (n : Nat) (A : List Nat) : Prop where
  len : A.length = n
  lt : ∀ p, p < n → A.getD p 0 < n
  ne : ∀ p, p < n → A.getD p 0 ≠ p
  inv : ∀ p, p < n → A.getD (A.getD p 0) 0 = p
  nc : ∀ p j, p < n → j < n → p < j → j < A.getD p 0 → p < A.getD j 0 ∧ A.getD j 0 < A.getD p 0
def Pend (st : List (Nat × Nat)) (p : Nat) : Prop := ∃ I ∈ st, I.1 ≤ p ∧ p < I.2
/-- the state of the drawing: A the partners so far, st the gaps that are left -/
structure HS (n : Nat) (A : List Nat) (st : List (Nat × Nat)) : Prop where
  len : A.length = n
  iv : ∀ I ∈ st, I.1 ≤ I.2 ∧ I.2 ≤ n ∧ (I.2 - I.1) % 2 = 0
  dj : st.Pairwise fun I J => I.2 ≤ J.1 ∨ J.2 ≤ I.1
  dn : ∀ p, p < n → ¬ Pend st p → A.getD p 0 < n ∧ ¬ Pend st (A.getD p 0) ∧ A.getD p 0 ≠ p ∧ A.getD (A.getD p 0) 0 = p
  nc : ∀ p j, p < n → j < n → ¬ Pend st p → ¬ Pend st j → p < j → j < A.getD p 0 → p < A.getD j 0 ∧ A.getD j 0 < A.getD p 0
  sp : ∀ p, p < n → ¬ Pend st p → p < A.getD p 0 → ∀ I ∈ st, I.1 < I.2 → (p < I.1 ∧ I.2 ≤ A.getD p 0) ∨ I.2 ≤ p ∨ A.getD p 0 < I.1
theorem HS.start (n : Nat) (he : n % 2 = 0) : HS n (List.replicate n 0) [(0, n)] where
  len := by simp
  iv := fun I hI => by simp at hI; subst hI; simp [he]
  dj := by simp
  dn := fun p hp q => absurd ⟨(0, n), by simp, Nat.zero_le _, hp⟩ q
  nc := fun p j hp _ q => absurd ⟨(0, n), by simp, Nat.zero_le _, hp⟩ q
  sp := fun p hp q => absurd ⟨(0, n), by simp, Nat.zero_le _, hp⟩ q
theorem HS.done {n : Nat} {A : List Nat} (x : HS n A []) : Arr n A := by
  have np : ∀ p, ¬ Pend [] p := fun p ⟨I, hI, _⟩ => by simp at hI
  exact ⟨x.len, fun p hp => (x.dn p hp (np p)).1, fun p hp => (x.dn p hp (np p)).2.2.1, fun p hp => (x.dn p hp (np p)).2.2.2, fun p j hp hj a b => x.nc p j hp hj (np p) (np j) a b⟩
theorem HS.drop {n : Nat} {A : List Nat} {st : List (Nat × Nat)} {a : Nat} (x : HS n A (st ++ [(a, a)])) : HS n A st := by
  have e : ∀ p, Pend (st ++ [(a, a)]) p ↔ Pend st p := fun p => by
    constructor
    · rintro ⟨I, hI, h1, h2⟩
      rcases List.mem_append.mp hI with h | h
      · exact ⟨I, h, h1, h2⟩
      · simp at h; subst h; simp at h1 h2; omega
    · rintro ⟨I, hI, h⟩
      exact ⟨I, List.mem_append_left _ hI, h⟩
  refine ⟨x.len, fun I hI => x.iv I (List.mem_append_left _ hI), (List.pairwise_append.mp x.dj).1, fun p hp q => ?_, fun p j hp hj q1 q2 => x.nc p j hp hj (by rw [e]; exact q1) (by rw [e]; exact q2), fun p hp q l I hI => x.sp p hp (by rw [e]; exact q) l I (List.mem_append_left _ hI)⟩
  have := x.dn p hp (by rw [e]; exact q)
  rw [e] at this
  exact this
theorem getD_set (A : List Nat) (i v j : Nat) (hi : i < A.length) : (A.set i v).getD j 0 = if i = j then v else A.getD j 0 := by
  by_cases h : i = j
  · subst h; simp [List.getD_eq_getElem?_getD, hi]
  · simp [List.getD_eq_getElem?_getD, List.getElem?_set_ne h, h]
theorem HS.step {n : Nat} {A : List Nat} {st : List (Nat × Nat)} {lo hi m : Nat} (x : HS n A (st ++ [(lo, hi)])) (hl : lo < m) (hm : m < hi) (he : (m - lo) % 2 = 1) :
    HS n ((A.set lo m).set m lo) (st ++ [(lo + 1, m), (m + 1, hi)]) := by
  have hiv := x.iv (lo, hi) (by simp)
  simp only at hiv
  obtain ⟨h1, h2, h3⟩ := hiv
  have dj := List.pairwise_append.mp x.dj
  have dis : ∀ J ∈ st, J.2 ≤ lo ∨ hi ≤ J.1 := fun J hJ => dj.2.2 J hJ (lo, hi) (by simp)
  have hlen := x.len
  have g : ∀ j, ((A.set lo m).set m lo).getD j 0 = if m = j then lo else if lo = j then m else A.getD j 0 := fun j => by
    rw [getD_set _ _ _ _ (by simp; omega), getD_set _ _ _ _ (by omega)]
  -- what was pending and is pending now
  have p1 : ∀ p, Pend (st ++ [(lo + 1, m), (m + 1, hi)]) p ↔ (Pend (st ++ [(lo, hi)]) p ∧ p ≠ lo ∧ p ≠ m) := fun p => by
    constructor
    · rintro ⟨I, hI, a, b⟩
      rcases List.mem_append.mp hI with h | h
      · have := dis I h
        have iv := x.iv I (List.mem_append_left _ h)
        exact ⟨⟨I, List.mem_append_left _ h, a, b⟩, by omega, by omega⟩
      · simp at h
        rcases h with h | h <;> (subst h; simp only at a b; exact ⟨⟨(lo, hi), by simp, by simp only; omega, by simp only; omega⟩, by omega, by omega⟩)
    · rintro ⟨⟨I, hI, a, b⟩, c, d⟩
      rcases List.mem_append.mp hI with h | h
      · exact ⟨I, List.mem_append_left _ h, a, b⟩
      · simp at h
        subst h
        simp only at a b
        by_cases q : p < m
        · exact ⟨(lo + 1, m), by simp, by simp only; omega, q⟩
        · exact ⟨(m + 1, hi), by simp, by simp only; omega, b⟩
  have plo : Pend (st ++ [(lo, hi)]) lo := ⟨(lo, hi), by simp, Nat.le_refl _, by simp only; omega⟩
  have pm : Pend (st ++ [(lo, hi)]) m := ⟨(lo, hi), by simp, by simp only; omega, by simp only; omega⟩
  have old : ∀ p, ¬ Pend (st ++ [(lo + 1, m), (m + 1, hi)]) p → p ≠ lo → p ≠ m → ¬ Pend (st ++ [(lo, hi)]) p := fun p q a b z => q ((p1 p).mpr ⟨z, a, b⟩)
  -- an old one's partner is neither lo nor m
  have part : ∀ p, p < n → ¬ Pend (st ++ [(lo, hi)]) p → A.getD p 0 ≠ lo ∧ A.getD p 0 ≠ m := fun p hp q => by
    have := (x.dn p hp q).2.1
    exact ⟨fun z => this (z ▸ plo), fun z => this (z ▸ pm)⟩
  refine ⟨by simp [hlen], fun I hI => ?_, ?_, fun p hp q => ?_, fun p j hp hj q1 q2 a b => ?_, fun p hp q a I hI c => ?_⟩
  · rcases List.mem_append.mp hI with h | h
    · exact x.iv I (List.mem_append_left _ h)
    · simp at h
      rcases h with h | h <;> (subst h; simp only; omega)
  · refine List.pairwise_append.mpr ⟨dj.1, by simp, fun I hI J hJ => ?_⟩
    have := dis I hI
    simp at hJ
    rcases hJ with h | h <;> (subst h; simp only; omega)
  · rw [g p]
    by_cases e1 : m = p
    · subst e1
      rw [if_pos rfl, g lo, if_neg (by omega), if_pos rfl, p1]
      exact ⟨by omega, fun z => z.2.1 rfl, by omega, rfl⟩
    · rw [if_neg e1]
      by_cases e2 : lo = p
      · subst e2
        rw [if_pos rfl, g m, if_pos rfl, p1]
        exact ⟨by omega, fun z => z.2.2 rfl, by omega, rfl⟩
      · rw [if_neg e2]
        have o := old p q (fun z => e2 z.symm) fun z => e1 z.symm
        have d := x.dn p hp o
        have pt := part p hp o
        rw [g, if_neg (fun z => pt.2 z.symm), if_neg (fun z => pt.1 z.symm), p1]
        exact ⟨d.1, fun z => d.2.1 z.1, d.2.2.1, d.2.2.2⟩
  · rw [g p] at b ⊢
    rw [g j]
    by_cases e1 : m = p
    · subst e1; rw [if_pos rfl] at b; omega
    · rw [if_neg e1] at b ⊢
      by_cases e2 : lo = p
      · subst e2
        rw [if_pos rfl] at b ⊢
        -- j lies strictly between lo and m: it is pending
        exact absurd ⟨(lo + 1, m), by simp, by simp only; omega, b⟩ q2
      · rw [if_neg e2] at b ⊢
        have o := old p q1 (fun z => e2 z.symm) fun z => e1 z.symm
        have s := x.sp p hp o (by omega) (lo, hi) (by simp) (by simp only; omega)
        simp only at s
        by_cases f1 : m = j
        · subst f1; rw [if_pos rfl]; omega
        · rw [if_neg f1]
          by_cases f2 : lo = j
          · subst f2; rw [if_pos rfl]; omega
          · rw [if_neg f2]
            exact x.nc p j hp hj o (old j q2 (fun z => f2 z.symm) fun z => f1 z.symm) a b
  · rw [g p] at a ⊢
    by_cases e1 : m = p
    · subst e1; rw [if_pos rfl] at a; omega
    · rw [if_neg e1] at a ⊢
      by_cases e2 : lo = p
      · subst e2
        rw [if_pos rfl]
        rcases List.mem_append.mp hI with h | h
        · have := dis I h
          omega
        · simp at h
          rcases h with h | h <;> (subst h; simp only at c ⊢; omega)
      · rw [if_neg e2] at a ⊢
        have o := old p q (fun z => e2 z.symm) fun z => e1 z.symm
        rcases List.mem_append.mp hI with h | h
        · exact x.sp p hp o a I (List.mem_append_left _ h) c
        · have s := x.sp p hp o a (lo, hi) (by simp) (by simp only; omega)
          simp only at s
          simp at h
          rcases h with h | h <;> (subst h; simp only at c ⊢; omega)
end Mini
namespace Mini
/-- strictly between p and q -/
def sd (p q r : Nat) : Bool := decide ((p < r ∧ r < q) ∨ (q < r ∧ r < p))
theorem sd_eq {p q r s t u : Nat} : (sd p q r = sd s t u) ↔ (((p < r ∧ r < q) ∨ (q < r ∧ r < p)) ↔ ((s < u ∧ u < t) ∨ (t < u ∧ u < s))) := by unfold sd; rw [decide_eq_decide]
theorem sd_true {p q r : Nat} : sd p q r = true ↔ ((p < r ∧ r < q) ∨ (q < r ∧ r < p)) := by unfold sd; rw [decide_eq_true_eq]
/-- n seats in pairs, each of an even and an odd one -/
structure Mt (n : Nat) (f : Nat → Nat) : Prop where
  lt : ∀ p, p < n → f p < n
  par : ∀ p, p < n → (f p + p) % 2 = 1
  inv : ∀ p, p < n → f (f p) = p
/-- .. and no two arms cross -/
structure Nc (n : Nat) (f : Nat → Nat) : Prop extends Mt n f where
  nc : ∀ p j, p < n → j < n → j ≠ p → j ≠ f p → sd p (f p) j = sd p (f p) (f j)
theorem Mt.ne {n : Nat} {f : Nat → Nat} (m : Mt n f) {p : Nat} (h : p < n) : f p ≠ p := fun e => by have := m.par p h; rw [e] at this; omega
theorem Mt.inj {n : Nat} {f : Nat → Nat} (m : Mt n f) {p q : Nat} (h : p < n) (h' : q < n) (e : f p = f q) : p = q := by rw [← m.inv p h, ← m.inv q h', e]
theorem Mt.flip {n : Nat} {f : Nat → Nat} (m : Mt n f) {p q : Nat} (h : p < n) (e : f p = q) : f q = p := by rw [← e]; exact m.inv p h
theorem Arr.par_iv {n : Nat} {A : List Nat} (x : Arr n A) : ∀ (k l r : Nat), r - l ≤ k → l ≤ r → r ≤ n → (∀ j, l ≤ j → j < r → l ≤ A.getD j 0 ∧ A.getD j 0 < r) → (r - l) % 2 = 0
  | 0, l, r, hk, hl, hr, _ => by omega
  | k + 1, l, r, hk, hl, hr, hc => by
    by_cases e : l = r
    · subst e; simp
    · have h1 := hc l (by omega) (by omega)
      have ne := x.ne l (by omega)
      have iv := x.inv l (by omega)
      generalize hm : A.getD l 0 = m at h1 ne iv
      have a1 := x.par_iv k (l + 1) m (by omega) (by omega) (by omega) fun j ja jb => by
        have := x.nc l j (by omega) (by omega) (by omega) (by omega)
        omega
      have a2 := x.par_iv k (m + 1) r (by omega) (by omega) (by omega) fun j ja jb => by
        have h2 := hc j (by omega) (by omega)
        have ij := x.inv j (by omega)
        have nl : A.getD j 0 ≠ l := fun e => by rw [e, hm] at ij; omega
        have nm : A.getD j 0 ≠ m := fun e => by rw [e, iv] at ij; omega
        refine ⟨?_, h2.2⟩
        rcases Nat.lt_or_ge (A.getD j 0) m with q | q
        · have := x.nc l (A.getD j 0) (by omega) (by omega) (by omega) (by omega)
          omega
        · omega
      omega
theorem Arr.par {n : Nat} {A : List Nat} (x : Arr n A) (p : Nat) (hp : p < n) : (A.getD p 0 + p) % 2 = 1 := by
  have key : ∀ p, p < n → p < A.getD p 0 → (A.getD p 0 + p) % 2 = 1 := fun p hp h => by
    have hl := x.lt p hp
    have := x.par_iv n (p + 1) (A.getD p 0) (by omega) (by omega) (by omega) fun j ja jb => by
      have := x.nc p j hp (by omega) (by omega) jb
      omega
    omega
  have ne := x.ne p hp
  rcases Nat.lt_or_ge p (A.getD p 0) with h | h
  · exact key p hp h
  · have := key (A.getD p 0) (x.lt p hp) (by rw [x.inv p hp]; omega)
    rw [x.inv p hp] at this
    omega
def fn (A : List Nat) : Nat → Nat := fun p => A.getD p 0
theorem Arr.Nc {n : Nat} {A : List Nat} (x : Arr n A) : Nc n (fn A) where
  lt := x.lt
  par := x.par
  inv := x.inv
  nc := fun p j hp hj h1 h2 => by
    have key : ∀ j, j < n → j ≠ p → j ≠ fn A p → sd p (fn A p) j = true → sd p (fn A p) (fn A j) = true := fun j hj h1 h2 h => by
      rw [sd_true] at h ⊢
      have ne := x.ne p hp
      have il := x.lt p hp
      have a := x.nc p j hp hj
      have b := x.nc (A.getD p 0) j il hj
      rw [x.inv p hp] at b
      simp only [fn] at h ⊢
      omega
    have ij := x.inv j hj
    have back := key (fn A j) (x.lt j hj) (fun e => h2 (by rw [← e]; exact ij.symm)) (fun e => h1 (by have := congrArg (fn A) e; simp only [fn] at this; rw [ij, x.inv p hp] at this; exact this))
    rw [show fn A (fn A j) = j from ij] at back
    cases q : sd p (fn A p) j with
    | true => rw [key j hj h1 h2 q]
    | false =>
      cases q' : sd p (fn A p) (fn A j) with
      | true => rw [back q'] at q; cases q
      | false => rfl
/-- the parity follows -/
theorem Nc.of {n : Nat} {f : Nat → Nat} (lt : ∀ p, p < n → f p < n) (ne : ∀ p, p < n → f p ≠ p) (inv : ∀ p, p < n → f (f p) = p) (nc : ∀ p j, p < n → j < n → j ≠ p → j ≠ f p → sd p (f p) j = sd p (f p) (f j)) : Nc n f := by
  have e : ∀ p, p < n → fn ((List.range n).map f) p = f p := fun p hp => by simp [fn, List.getD_eq_getElem?_getD, hp]
  have A : Arr n ((List.range n).map f) := by
    refine ⟨by simp, fun p hp => ?_, fun p hp => ?_, fun p hp => ?_, fun p j hp hj h1 h2 => ?_⟩
    · have := e p hp; simp only [fn] at this; rw [this]; exact lt p hp
    · have := e p hp; simp only [fn] at this; rw [this]; exact ne p hp
    · have q := e p hp; have q2 := e (f p) (lt p hp); simp only [fn] at q q2; rw [q, q2]; exact inv p hp
    · have q := e p hp; have q2 := e j hj; simp only [fn] at q q2; rw [q] at h2 ⊢; rw [q2]
      have := nc p j hp hj (by omega) (by omega)
      rw [sd_eq] at this
      omega
  refine ⟨⟨lt, fun p hp => ?_, inv⟩, nc⟩
  have := A.par p hp
  have q := e p hp
  simp only [fn] at q
  rw [q] at this
  exact this
/-- the arms of x and y are given up, x and y shake hands, and so do the other two -/
def sw (f : Nat → Nat) (x y : Nat) : Nat → Nat := fun p => if p = x then y else if p = y then x else if p = f x then f y else if p = f y then f x else f p
section
variable {n : Nat} {f : Nat → Nat} {x y : Nat}
structure Four (n : Nat) (f : Nat → Nat) (x y : Nat) : Prop where
  mt : Mt n f
  hx : x < n
  hy : y < n
  ne : x ≠ y
  nf : f x ≠ y
theorem Four.nf' (F : Four n f x y) : f y ≠ x := fun e => F.nf (F.mt.flip F.hy e)
theorem Four.nff (F : Four n f x y) : f x ≠ f y := fun e => F.ne (F.mt.inj F.hx F.hy e)
theorem Four.s1 (F : Four n f x y) : sw f x y x = y := by simp [sw]
theorem Four.s2 (F : Four n f x y) : sw f x y y = x := by simp [sw, F.ne.symm]
theorem Four.s3 (F : Four n f x y) : sw f x y (f x) = f y := by simp [sw, F.mt.ne F.hx, F.nf]
theorem Four.s4 (F : Four n f x y) : sw f x y (f y) = f x := by simp [sw, F.nf', F.mt.ne F.hy, F.nff.symm]
theorem sw_oth {p : Nat} (h1 : p ≠ x) (h2 : p ≠ y) (h3 : p ≠ f x) (h4 : p ≠ f y) : sw f x y p = f p := by simp [sw, h1, h2, h3, h4]
theorem Four.cases (F : Four n f x y) (p : Nat) : p = x ∨ p = y ∨ p = f x ∨ p = f y ∨ (p ≠ x ∧ p ≠ y ∧ p ≠ f x ∧ p ≠ f y) := by omega
theorem Four.keep (F : Four n f x y) {p : Nat} (hp : p < n) (h : p ≠ x ∧ p ≠ y ∧ p ≠ f x ∧ p ≠ f y) : f p ≠ x ∧ f p ≠ y ∧ f p ≠ f x ∧ f p ≠ f y :=
  ⟨fun e => h.2.2.1 (F.mt.flip hp e).symm, fun e => h.2.2.2 (F.mt.flip hp e).symm, fun e => h.1 (F.mt.inj hp F.hx e), fun e => h.2.1 (F.mt.inj hp F.hy e)⟩
theorem Four.lt' (F : Four n f x y) : ∀ p, p < n → sw f x y p < n := fun p h => by
    have := F.mt.lt _ F.hx; have := F.mt.lt _ F.hy; have := F.hx; have := F.hy
    rcases F.cases p with rfl | rfl | rfl | rfl | q
    · rw [F.s1]; omega
    · rw [F.s2]; omega
    · rw [F.s3]; omega
    · rw [F.s4]; omega
    · rw [sw_oth q.1 q.2.1 q.2.2.1 q.2.2.2]; exact F.mt.lt p h
theorem Four.inv' (F : Four n f x y) : ∀ p, p < n → sw f x y (sw f x y p) = p := fun p h => by
    rcases F.cases p with rfl | rfl | rfl | rfl | q
    · rw [F.s1, F.s2]
    · rw [F.s2, F.s1]
    · rw [F.s3, F.s4]
    · rw [F.s4, F.s3]
    · have k := F.keep h q
      rw [sw_oth q.1 q.2.1 q.2.2.1 q.2.2.2, sw_oth k.1 k.2.1 k.2.2.1 k.2.2.2]; exact F.mt.inv p h
theorem Four.mt' (F : Four n f x y) (hp : (x + y) % 2 = 1) : Mt n (sw f x y) where
  lt := F.lt'
  inv := F.inv'
  par := fun p h => by
    have := F.mt.par _ F.hx; have := F.mt.par _ F.hy
    rcases F.cases p with rfl | rfl | rfl | rfl | q
    · rw [F.s1]; omega
    · rw [F.s2]; omega
    · rw [F.s3]; omega
    · rw [F.s4]; omega
    · rw [sw_oth q.1 q.2.1 q.2.2.1 q.2.2.2]; exact F.mt.par p h
theorem Four.symm (F : Four n f x y) : Four n f y x := ⟨F.mt, F.hy, F.hx, F.ne.symm, F.nf'⟩
theorem Four.flip (F : Four n f x y) : Four n f (f x) (f y) := ⟨F.mt, F.mt.lt _ F.hx, F.mt.lt _ F.hy, F.nff, by rw [F.mt.inv _ F.hx]; exact F.nf'.symm⟩
theorem Four.sw_comm (F : Four n f x y) : sw f y x = sw f x y := by
  funext p
  rcases F.cases p with rfl | rfl | rfl | rfl | q
  · rw [F.symm.s2, F.s1]
  · rw [F.symm.s1, F.s2]
  · rw [F.symm.s4, F.s3]
  · rw [F.symm.s3, F.s4]
  · rw [sw_oth q.2.1 q.1 q.2.2.2 q.2.2.1, sw_oth q.1 q.2.1 q.2.2.1 q.2.2.2]
theorem Four.sw_flip (F : Four n f x y) : sw f (f x) (f y) = sw f x y := by
  have e1 := F.mt.inv _ F.hx
  have e2 := F.mt.inv _ F.hy
  funext p
  rcases F.cases p with rfl | rfl | rfl | rfl | q
  · have := F.flip.s3; rw [e1, e2] at this; rw [this, F.s1]
  · have := F.flip.s4; rw [e1, e2] at this; rw [this, F.s2]
  · rw [F.flip.s1, F.s3]
  · rw [F.flip.s2, F.s4]
  · rw [sw_oth q.2.2.1 q.2.2.2 (by rw [e1]; exact q.1) (by rw [e2]; exact q.2.1), sw_oth q.1 q.2.1 q.2.2.1 q.2.2.2]
end
/-- the exchange of two arms, by their lesser people a < b -/
def ex (f : Nat → Nat) (a b : Nat) : Nat → Nat := if f a < b then sw f a (f b) else sw f a b
/-- a possible exchange -/
structure Ps (n : Nat) (f : Nat → Nat) (a b : Nat) : Prop where
  ab : a < b
  hb : b < n
  la : a < f a
  lb : b < f b
  nc : Nc n (ex f a b)
/-- any change of two arms that crosses none is an exchange -/
theorem sw_ps {n : Nat} {f : Nat → Nat} {x y : Nat} (N : Nc n f) (F : Four n f x y) (M : Nc n (sw f x y)) : ∃ a b, Ps n f a b ∧ ex f a b = sw f x y ∧ ((a = min x (f x) ∧ b = min y (f y)) ∨ (a = min y (f y) ∧ b = min x (f x))) := by
  have key : ∀ x y, Four n f x y → Nc n (sw f x y) → x < f x → min x (f x) < min y (f y) → Ps n f (min x (f x)) (min y (f y)) ∧ ex f (min x (f x)) (min y (f y)) = sw f x y := by
    intro x y F M lx lt
    have hfx := F.mt.lt _ F.hx
    have hfy := F.mt.lt _ F.hy
    have n1 := F.nf; have n2 := F.nf'; have n3 := F.nff; have n4 := F.ne; have n5 := F.mt.ne F.hy
    have c := M.nc x (f x) F.hx hfx (F.mt.ne F.hx) (by rw [F.s1]; exact F.nf)
    rw [F.s1, F.s3, sd_eq] at c
    rw [Nat.min_eq_left (Nat.le_of_lt lx)] at lt ⊢
    rcases Nat.lt_or_ge y (f y) with ly | ly
    · rw [Nat.min_eq_left (Nat.le_of_lt ly)] at lt ⊢
      have o := N.nc x y F.hx F.hy F.ne.symm F.nf.symm
      rw [sd_eq] at o
      have e : ex f x y = sw f x y := by unfold ex; rw [if_neg (by omega)]
      exact ⟨⟨lt, F.hy, lx, ly, by rw [e]; exact M⟩, e⟩
    · rw [Nat.min_eq_right ly] at lt ⊢
      have o := N.nc x y F.hx F.hy F.ne.symm F.nf.symm
      rw [sd_eq] at o
      have i2 := F.mt.inv _ F.hy
      have e : ex f x (f y) = sw f x y := by unfold ex; rw [if_pos (by omega), i2]
      exact ⟨⟨lt, hfy, lx, by rw [i2]; omega, by rw [e]; exact M⟩, e⟩
  have key2 : ∀ x y, Four n f x y → Nc n (sw f x y) → min x (f x) < min y (f y) → Ps n f (min x (f x)) (min y (f y)) ∧ ex f (min x (f x)) (min y (f y)) = sw f x y := by
    intro x y F M lt
    have := F.mt.ne F.hx
    have i1 := F.mt.inv _ F.hx
    have i2 := F.mt.inv _ F.hy
    rcases Nat.lt_or_ge x (f x) with lx | lx
    · exact key x y F M lx lt
    · have := key (f x) (f y) F.flip (by rw [F.sw_flip]; exact M) (by rw [i1]; omega) (by rw [i1, i2, Nat.min_comm, Nat.min_comm (f y)]; exact lt)
      rw [i1, i2, Nat.min_comm, Nat.min_comm (f y), F.sw_flip] at this
      exact this
  rcases Nat.lt_trichotomy (min x (f x)) (min y (f y)) with h | h | h
  · exact ⟨_, _, (key2 x y F M h).1, (key2 x y F M h).2, .inl ⟨rfl, rfl⟩⟩
  · exfalso
    have n1 := F.nf; have n2 := F.nf'; have n3 := F.nff; have n4 := F.ne
    omega
  · have := key2 y x F.symm (by rw [F.sw_comm]; exact M) h
    exact ⟨_, _, this.1, by rw [this.2, F.sw_comm], .inr ⟨rfl, rfl⟩⟩
end Mini
namespace Mini
def itr (h : Nat → Nat) : Nat → Nat → Nat
  | 0, x => x
  | k + 1, x => h (itr h k x)
theorem itr_add (h : Nat → Nat) (j : Nat) : ∀ (k x : Nat), itr h (j + k) x = itr h k (itr h j x)
  | 0, _ => rfl
  | k + 1, x => by rw [← Nat.add_assoc, itr, itr_add h j k x, itr]
/-- at most n different numbers below n -/
theorem nodup_le : ∀ (n : Nat) (L : List Nat), L.Nodup → (∀ x ∈ L, x < n) → L.length ≤ n
  | 0, L, _, h => by
    cases L with
    | nil => simp
    | cons x r => have := h x (by simp); omega
  | n + 1, L, nd, h => by
    by_cases q : n ∈ L
    · have := nodup_le n (L.erase n) (nd.erase n) fun x hx => by
        have := (List.Nodup.mem_erase_iff nd).mp hx
        have := h x this.2
        omega
      rw [List.length_erase_of_mem q] at this
      omega
    · have := nodup_le n L nd fun x hx => by
        have := h x hx
        have : x ≠ n := fun e => q (e ▸ hx)
        omega
      omega
theorem least_of {P : Nat → Prop} : ∀ (k : Nat), P k → ∃ j, j ≤ k ∧ P j ∧ ∀ i, i < j → ¬ P i := by
  intro k
  induction k using Nat.strongRecOn with
  | ind k ih =>
    intro h
    by_cases q : ∃ i, i < k ∧ P i
    · obtain ⟨i, hi, pi⟩ := q
      obtain ⟨j, a, b, c⟩ := ih i hi pi
      exact ⟨j, by omega, b, c⟩
    · exact ⟨k, Nat.le_refl _, h, fun i hi pi => q ⟨i, hi, pi⟩⟩
section
variable {n : Nat} {f g : Nat → Nat}
abbrev pi (f g : Nat → Nat) : Nat → Nat := fun x => g (f x)
theorem pi_lt (F : Mt n f) (G : Mt n g) {x : Nat} (h : x < n) : pi f g x < n := G.lt _ (F.lt _ h)
theorem itr_lt (F : Mt n f) (G : Mt n g) {x : Nat} (h : x < n) : ∀ k, itr (pi f g) k x < n
  | 0 => h
  | k + 1 => pi_lt F G (itr_lt F G h k)
theorem pi_inj (F : Mt n f) (G : Mt n g) {x y : Nat} (h : x < n) (h' : y < n) (e : pi f g x = pi f g y) : x = y := F.inj h h' (G.inj (F.lt _ h) (F.lt _ h') e)
theorem itr_inj (F : Mt n f) (G : Mt n g) {x y : Nat} (h : x < n) (h' : y < n) : ∀ k, itr (pi f g) k x = itr (pi f g) k y → x = y
  | 0, e => e
  | k + 1, e => itr_inj F G h h' k (pi_inj F G (itr_lt F G h k) (itr_lt F G h' k) e)
theorem pi_par (F : Mt n f) (G : Mt n g) {x : Nat} (h : x < n) : pi f g x % 2 = x % 2 := by
  have := F.par x h; have := G.par (f x) (F.lt x h); simp only [pi]; omega
theorem itr_par (F : Mt n f) (G : Mt n g) {x : Nat} (h : x < n) : ∀ k, itr (pi f g) k x % 2 = x % 2
  | 0 => rfl
  | k + 1 => by rw [itr, pi_par F G (itr_lt F G h k), itr_par F G h k]
/-- a way back -/
structure Per (f g : Nat → Nat) (x K : Nat) : Prop where
  pos : 1 ≤ K
  eq : itr (pi f g) K x = x
  mn : ∀ j, 1 ≤ j → j < K → itr (pi f g) j x ≠ x
theorem Per.ex (F : Mt n f) (G : Mt n g) {x : Nat} (h : x < n) : ∃ K, K ≤ n ∧ Per f g x K := by
  have ex : ∃ K, 1 ≤ K ∧ K ≤ n ∧ itr (pi f g) K x = x := by
    by_cases nd : ((List.range (n + 1)).map fun k => itr (pi f g) k x).Nodup
    · have := nodup_le n _ nd fun y hy => by
        obtain ⟨k, _, rfl⟩ := List.mem_map.mp hy
        exact itr_lt F G h k
      simp at this
      omega
    · rw [List.nodup_iff_pairwise_ne, List.pairwise_iff_getElem] at nd
      simp only [Classical.not_forall] at nd
      obtain ⟨i, j, hi, hj, hij, e⟩ := nd
      simp only [Classical.not_not, List.getElem_map, List.getElem_range] at e
      simp only [List.length_map, List.length_range] at hi hj
      refine ⟨j - i, by omega, by omega, ?_⟩
      rw [show j = (j - i) + i by omega, itr_add] at e
      exact (itr_inj F G h (itr_lt F G h _) i e).symm
  obtain ⟨K, k1, k2, k3⟩ := ex
  obtain ⟨j, a, b, c⟩ := least_of (P := fun K => 1 ≤ K ∧ itr (pi f g) K x = x) K ⟨k1, k3⟩
  exact ⟨j, by omega, b.1, b.2, fun i i1 i2 e => c i i2 ⟨i1, e⟩⟩
theorem Per.ne (F : Mt n f) (G : Mt n g) {x K : Nat} (h : x < n) (p : Per f g x K) {i j : Nat} (hij : i < j) (hj : j < K) : itr (pi f g) i x ≠ itr (pi f g) j x := fun e => by
  rw [show j = (j - i) + i by omega, itr_add] at e
  exact p.mn (j - i) (by omega) (by omega) (itr_inj F G h (itr_lt F G h _) i e).symm
theorem Per.mod (p : Per f g x K) : ∀ k, ∃ j, j < K ∧ itr (pi f g) k x = itr (pi f g) j x
  | 0 => ⟨0, p.pos, rfl⟩
  | k + 1 => by
    obtain ⟨j, hj, e⟩ := p.mod k
    by_cases q : j + 1 < K
    · exact ⟨j + 1, q, by rw [itr, itr, e]⟩
    · refine ⟨0, p.pos, ?_⟩
      have : j + 1 = K := by omega
      show pi f g (itr (pi f g) k x) = x
      rw [e]
      have q2 := p.eq
      rw [← this] at q2
      exact q2
/-- by arms of both -/
inductive Rc (f g : Nat → Nat) (x : Nat) : Nat → Prop where
  | rfl : Rc f g x x
  | f {y : Nat} : Rc f g x y → Rc f g x (f y)
  | g {y : Nat} : Rc f g x y → Rc f g x (g y)
theorem Rc.trans {x y z : Nat} (a : Rc f g x y) (b : Rc f g y z) : Rc f g x z := by
  induction b with
  | rfl => exact a
  | f _ ih => exact ih.f
  | g _ ih => exact ih.g
theorem Rc.lt (F : Mt n f) (G : Mt n g) {x y : Nat} (h : x < n) (a : Rc f g x y) : y < n := by
  induction a with
  | rfl => exact h
  | f _ ih => exact F.lt _ ih
  | g _ ih => exact G.lt _ ih
theorem Rc.symm (F : Mt n f) (G : Mt n g) {x y : Nat} (h : x < n) (a : Rc f g x y) : Rc f g y x := by
  induction a with
  | rfl => exact .rfl
  | @f y q ih =>
    have : Rc f g (f y) y := by have := (Rc.rfl (f := f) (g := g) (x := f y)).f; rw [F.inv y (q.lt F G h)] at this; exact this
    exact this.trans ih
  | @g y q ih =>
    have : Rc f g (g y) y := by have := (Rc.rfl (f := f) (g := g) (x := g y)).g; rw [G.inv y (q.lt F G h)] at this; exact this
    exact this.trans ih
theorem Rc.swap {x y : Nat} (a : Rc f g x y) : Rc g f x y := by
  induction a with
  | rfl => exact .rfl
  | f _ ih => exact ih.g
  | g _ ih => exact ih.f
theorem Rc.itr (x : Nat) : ∀ k, Rc f g x (itr (pi f g) k x)
  | 0 => .rfl
  | k + 1 => (Rc.itr x k).f.g
/-- the people of a ring, one after another -/
theorem rc_iff (F : Mt n f) (G : Mt n g) {x K : Nat} (h : x < n) (p : Per f g x K) {y : Nat} : Rc f g x y ↔ ∃ i, i < K ∧ (y = itr (pi f g) i x ∨ y = f (itr (pi f g) i x)) := by
  constructor
  · intro a
    induction a with
    | rfl => exact ⟨0, p.pos, .inl rfl⟩
    | @f y _ ih =>
      obtain ⟨i, hi, e | e⟩ := ih
      · exact ⟨i, hi, .inr (by rw [e])⟩
      · exact ⟨i, hi, .inl (by rw [e, F.inv _ (itr_lt F G h i)])⟩
    | @g y _ ih =>
      obtain ⟨i, hi, e | e⟩ := ih
      · cases i with
        | zero =>
          refine ⟨K - 1, by have := p.pos; omega, .inr ?_⟩
          have q := p.eq
          rw [show K = (K - 1) + 1 by have := p.pos; omega, Mini.itr] at q
          rw [e, show Mini.itr (pi f g) 0 x = x from rfl]
          exact G.flip (F.lt _ (itr_lt F G h _)) q
        | succ i =>
          refine ⟨i, by omega, .inr ?_⟩
          rw [e, Mini.itr]
          exact G.inv _ (F.lt _ (itr_lt F G h i))
      · have q := p.mod (i + 1)
        obtain ⟨j, hj, ej⟩ := q
        exact ⟨j, hj, .inl (by rw [← ej, e, Mini.itr])⟩
  · rintro ⟨i, _, e | e⟩
    · rw [e]; exact Rc.itr x i
    · rw [e]; exact (Rc.itr x i).f
variable {x y : Nat}
/-- .. of one ring: it is parted -/
theorem part (F : Four n f x y) (G : Mt n g) (hp : (x + y) % 2 = 1) (r : Rc f g x y) : ¬ Rc (sw f x y) g (f x) x := by
  obtain ⟨K, _, p⟩ := Per.ex F.mt G F.hx
  obtain ⟨k, hk, e⟩ := (rc_iff F.mt G F.hx p).mp r
  have px := F.mt.par _ F.hx
  have py := F.mt.par _ F.hy
  have pr := itr_par F.mt G F.hx k
  have ek : y = f (itr (pi f g) k x) := by
    rcases e with e | e
    · rw [e] at hp; omega
    · exact e
  have ev : f y = itr (pi f g) k x := by rw [ek]; exact F.mt.inv _ (itr_lt F.mt G F.hx k)
  have k1 : 1 ≤ k := by
    rcases Nat.eq_zero_or_pos k with q | q
    · subst q; exact absurd ek.symm F.nf
    · exact q
  have key : ∀ z, Rc (sw f x y) g (f x) z → z = f x ∨ z = f y ∨ ∃ i, 1 ≤ i ∧ i < k ∧ (z = itr (pi f g) i x ∨ z = f (itr (pi f g) i x)) := by
    intro z a
    induction a with
    | rfl => exact .inl rfl
    | @f z _ ih =>
      rcases ih with rfl | rfl | ⟨i, i1, i2, e | e⟩
      · rw [F.s3]; exact .inr (.inl rfl)
      · rw [F.s4]; exact .inl rfl
      · have pi' := itr_par F.mt G F.hx i
        have : sw f x y z = f z := sw_oth (by rw [e]; exact p.mn i i1 (by omega)) (by rw [e]; omega) (by rw [e]; omega) (by rw [e, ev]; exact p.ne F.mt G F.hx i2 hk)
        rw [this]
        exact .inr (.inr ⟨i, i1, i2, .inr (by rw [e])⟩)
      · have pi' := itr_par F.mt G F.hx i
        have li := itr_lt F.mt G F.hx i
        have pf := F.mt.par _ li
        have : sw f x y z = f z := sw_oth (by rw [e]; omega) (by rw [e, ek]; exact fun q => p.ne F.mt G F.hx i2 hk (F.mt.inj li (itr_lt F.mt G F.hx k) q))
          (by rw [e]; exact fun q => p.mn i i1 (by omega) (F.mt.inj li F.hx q)) (by rw [e, ev]; omega)
        rw [this]
        exact .inr (.inr ⟨i, i1, i2, .inl (by rw [e, F.mt.inv _ li])⟩)
    | @g z _ ih =>
      have next : ∀ i, i < k → g (f (itr (pi f g) i x)) = f y ∨ ∃ j, 1 ≤ j ∧ j < k ∧ g (f (itr (pi f g) i x)) = itr (pi f g) j x := fun i hi => by
        by_cases q : i + 1 = k
        · left; rw [ev, ← q, itr]
        · exact .inr ⟨i + 1, by omega, by omega, rfl⟩
      have prev : ∀ i, 1 ≤ i → g (itr (pi f g) i x) = f (itr (pi f g) (i - 1) x) := fun i hi => by
        rw [show i = (i - 1) + 1 by omega, itr]
        exact G.inv _ (F.mt.lt _ (itr_lt F.mt G F.hx _))
      rcases ih with rfl | rfl | ⟨i, i1, i2, e | e⟩
      · rcases next 0 (by omega) with q | ⟨j, j1, j2, q⟩
        · exact .inr (.inl q)
        · exact .inr (.inr ⟨j, j1, j2, .inl q⟩)
      · rw [ev, prev k k1]
        by_cases q : k = 1
        · subst q; exact .inl rfl
        · exact .inr (.inr ⟨k - 1, by omega, by omega, .inr rfl⟩)
      · rw [e, prev i i1]
        by_cases q : i = 1
        · subst q; exact .inl rfl
        · exact .inr (.inr ⟨i - 1, by omega, by omega, .inr rfl⟩)
      · rw [e]
        rcases next i i2 with q | ⟨j, j1, j2, q⟩
        · exact .inr (.inl q)
        · exact .inr (.inr ⟨j, j1, j2, .inl q⟩)
  intro a
  rcases key x a with e | e | ⟨i, i1, i2, e | e⟩
  · exact F.mt.ne F.hx e.symm
  · exact F.nf' e.symm
  · exact p.mn i i1 (by omega) e.symm
  · have := itr_par F.mt G F.hx i
    have := F.mt.par _ (itr_lt F.mt G F.hx i)
    omega
open Classical in
/-- how many classes: their least members -/
noncomputable def cls (n : Nat) (R : Nat → Nat → Prop) : Nat := ((List.range n).filter fun p => decide (∀ q, q < p → ¬ R q p)).length
structure Eqv (n : Nat) (R : Nat → Nat → Prop) : Prop where
  refl : ∀ a, R a a
  lt : ∀ a b, a < n → R a b → b < n
  symm : ∀ a b, a < n → R a b → R b a
  trans : ∀ a b c, R a b → R b c → R a c
open Classical in
theorem Rc.eqv (F : Mt n f) (G : Mt n g) : Eqv n (Rc f g) := ⟨fun _ => .rfl, fun _ _ h r => r.lt F G h, fun _ _ h r => r.symm F G h, fun _ _ _ a b => a.trans b⟩
theorem Four.back (F : Four n f x y) (hp : (x + y) % 2 = 1) : Four n (sw f x y) x (f x) ∧ sw (sw f x y) x (f x) = f := by
  have B : Four n (sw f x y) x (f x) := ⟨F.mt' hp, F.hx, F.mt.lt _ F.hx, (F.mt.ne F.hx).symm, by rw [F.s1]; exact F.nf.symm⟩
  refine ⟨B, ?_⟩
  funext p
  rcases F.cases p with rfl | rfl | rfl | rfl | q
  · exact B.s1
  · have := B.s3; rw [F.s1, F.s3] at this; exact this
  · rw [F.mt.inv _ F.hx]; exact B.s2
  · have := B.s4; rw [F.s3, F.s1] at this; rw [this, F.mt.inv _ F.hy]
  · rw [sw_oth q.1 q.2.2.1 (by rw [F.s1]; exact q.2.1) (by rw [F.s3]; exact q.2.2.2), sw_oth q.1 q.2.1 q.2.2.1 q.2.2.2]
end
end Mini
namespace Mini
section
variable {n : Nat} {f f' g g' h : Nat → Nat} {a b x y : Nat}
abbrev Eqn (n : Nat) (f g : Nat → Nat) : Prop := ∀ p, p < n → f p = g p
theorem Rc.congr (F : Mt n f) (G : Mt n g) (e : Eqn n f f') (e' : Eqn n g g') (hx : x < n) (r : Rc f g x y) : Rc f' g' x y := by
  induction r with
  | rfl => exact .rfl
  | @f z q ih => rw [e z (q.lt F G hx)]; exact ih.f
  | @g z q ih => rw [e' z (q.lt F G hx)]; exact ih.g
theorem Mt.congr (F : Mt n f) (e : Eqn n f f') : Mt n f' where
  lt := fun p hp => by rw [← e p hp]; exact F.lt p hp
  par := fun p hp => by rw [← e p hp]; exact F.par p hp
  inv := fun p hp => by rw [← e p hp, ← e _ (F.lt p hp)]; exact F.inv p hp
theorem Nc.congr (F : Nc n f) (e : Eqn n f f') : Nc n f' := ⟨F.toMt.congr e, fun p j hp hj h1 h2 => by rw [← e p hp, ← e j hj]; rw [← e p hp] at h2; exact F.nc p j hp hj h1 h2⟩
theorem Eqn.symm (e : Eqn n f g) : Eqn n g f := fun p hp => (e p hp).symm
/-- the exchange as a change of two arms -/
theorem Ps.sw (N : Nc n f) (p : Ps n f a b) : ∃ y, Four n f a y ∧ ex f a b = sw f a y ∧ (a + y) % 2 = 1 ∧ ((f a < b ∧ y = f b) ∨ (¬ f a < b ∧ y = b)) := by
  have ha : a < n := by have := p.ab; have := p.hb; omega
  have ab := p.ab
  have la := p.la
  have lb := p.lb
  have nf : f a ≠ b := fun e => by have := N.toMt.flip ha e; omega
  by_cases q : f a < b
  · have e : ex f a b = Mini.sw f a (f b) := by unfold ex; rw [if_pos q]
    have F : Four n f a (f b) := ⟨N.toMt, ha, N.lt _ p.hb, by omega, fun e => by have := N.toMt.inj ha p.hb e; omega⟩
    refine ⟨f b, F, e, ?_, .inl ⟨q, rfl⟩⟩
    have := p.nc.par a ha
    rw [e, F.s1] at this
    omega
  · have e : ex f a b = Mini.sw f a b := by unfold ex; rw [if_neg q]
    have F : Four n f a b := ⟨N.toMt, ha, p.hb, by omega, nf⟩
    refine ⟨b, F, e, ?_, .inr ⟨q, rfl⟩⟩
    have := p.nc.par a ha
    rw [e, F.s1] at this
    omega
end
end Mini
namespace Mini
def crs (p q : Nat × Nat) : Bool := sd p.1 p.2 q.1 != sd p.1 p.2 q.2
def lessL (A : List Nat) : List Nat := (List.range A.length).filter fun p => decide (p < fn A p)
def armsL (A : List Nat) : List (Nat × Nat) := ((List.range A.length).filter fun p => decide (p < fn A p)).map fun p => (p, fn A p)
theorem mem_lessL {A : List Nat} {p : Nat} : p ∈ lessL A ↔ p < A.length ∧ p < fn A p := by simp [lessL, List.mem_filter]
theorem mem_armsL {A : List Nat} {r : Nat × Nat} : r ∈ armsL A ↔ r.1 < A.length ∧ r.1 < fn A r.1 ∧ r.2 = fn A r.1 := by
  simp only [armsL, List.mem_map, List.mem_filter, List.mem_range, decide_eq_true_eq]
  constructor
  · rintro ⟨p, ⟨h1, h2⟩, rfl⟩; exact ⟨h1, h2, rfl⟩
  · rintro ⟨h1, h2, h3⟩; exact ⟨r.1, ⟨h1, h2⟩, by rw [← h3]⟩
theorem crs_false {p q : Nat × Nat} : crs p q = false ↔ sd p.1 p.2 q.1 = sd p.1 p.2 q.2 := by unfold crs; simp
/-- the arrangement afterwards -/
def exA (A : List Nat) (a b : Nat) : List Nat := (List.range A.length).map (ex (fn A) a b)
theorem fn_exA {A : List Nat} {a b p : Nat} (hp : p < A.length) : fn (exA A a b) p = ex (fn A) a b p := by simp [fn, exA, List.getD_eq_getElem?_getD, hp]
theorem exA_len (A : List Nat) (a b : Nat) : (exA A a b).length = A.length := by simp [exA]
theorem list_eq_map {L : List Nat} {n : Nat} {g : Nat → Nat} (hl : L.length = n) (h : ∀ p, p < n → fn L p = g p) : L = (List.range n).map g := by
  apply List.ext_getElem?
  intro p
  rcases Nat.lt_or_ge p n with q | q
  · have := h p q
    simp only [fn, List.getD_eq_getElem?_getD] at this
    rw [List.getElem?_eq_getElem (by omega)] at this ⊢
    simp at this
    simp [q, this]
  · rw [List.getElem?_eq_none (by omega), List.getElem?_eq_none (by simpa using q)]
theorem Arr.eq_of {n : Nat} {A B : List Nat} (x : A.length = n) (y : B.length = n) (e : Eqn n (fn A) (fn B)) : A = B := by
  rw [list_eq_map x e]; exact (list_eq_map y fun _ _ => rfl).symm
theorem lessL_lt (A : List Nat) : (lessL A).Pairwise (· < ·) := List.Pairwise.filter _ List.pairwise_lt_range
end Mini
namespace Mini
/-- a list of exchanges that are possible one after another, and where it leads -/
inductive Led (n : Nat) : List Nat → List (Nat × Nat) → List Nat → Prop where
  | nil {A : List Nat} : Led n A [] A
  | cons {A B : List Nat} {a b : Nat} {r : List (Nat × Nat)} : Ps n (fn A) a b → Led n (exA A a b) r B → Led n A ((a, b) :: r) B
section
variable {n : Nat} {A B C : List Nat}
theorem Led.append {L M : List (Nat × Nat)} (r : Led n A L B) (q : Led n B M C) : Led n A (L ++ M) C := by
  induction r with
  | nil => exact q
  | cons p _ ih => exact .cons p (ih q)
/-- an exchange, and the one that takes it back -/
theorem Ps.back {a b : Nat} (x : Arr n A) (p : Ps n (fn A) a b) : ∃ c d, Ps n (fn (exA A a b)) c d ∧ exA (exA A a b) c d = A ∧ ∀ q, q < n → ((q < fn (exA A a b) q ∧ fn A q ≠ fn (exA A a b) q) ↔ q = c ∨ q = d) := by
  obtain ⟨y, F, e, hp, _⟩ := p.sw x.Nc
  obtain ⟨B, eb⟩ := F.back hp
  have M := p.nc
  rw [e] at M
  have eA : Eqn n (Mini.sw (fn A) a y) (fn (exA A a b)) := fun q hq => by rw [fn_exA (by rw [x.len]; exact hq), e]
  obtain ⟨c, d, P, ecd, cd⟩ := sw_ps M B (by rw [eb]; exact x.Nc)
  have hc : c < n := by have := P.ab; have := P.hb; omega
  have e1 := eA c hc
  have e2 := eA d P.hb
  have ee : Eqn n (ex (Mini.sw (fn A) a y) c d) (ex (fn (exA A a b)) c d) := fun q hq => by
    have e3 := eA q hq
    have h4 := M.lt d P.hb
    have e4 := eA _ h4
    rw [e2] at e4
    simp only [ex]
    rw [← e1]
    by_cases z : Mini.sw (fn A) a y c < d
    · rw [if_pos z, if_pos z]
      show (if q = c then _ else if q = _ then _ else if q = _ then _ else if q = _ then _ else _) = (if q = c then _ else if q = _ then _ else if q = _ then _ else if q = _ then _ else _)
      rw [← e1, ← e2, ← e3, e2, ← e4]
    · rw [if_neg z, if_neg z]
      show (if q = c then _ else if q = _ then _ else if q = _ then _ else if q = _ then _ else _) = (if q = c then _ else if q = _ then _ else if q = _ then _ else if q = _ then _ else _)
      rw [← e1, ← e2, ← e3]
  have P' : Ps n (fn (exA A a b)) c d := ⟨P.ab, P.hb, by rw [← e1]; exact P.la, by rw [← e2]; exact P.lb, P.nc.congr ee⟩
  refine ⟨c, d, P', ?_, fun q hq => ?_⟩
  · have hn := x.len
    refine Arr.eq_of (n := n) (by rw [exA_len, exA_len, hn]) hn fun q hq => ?_
    rw [fn_exA (by rw [exA_len, hn]; exact hq), ← ee q hq, ecd, eb]
  · rw [← eA q hq]
    have hfa := F.mt.lt _ F.hx
    have hfy := F.mt.lt _ F.hy
    have n1 := F.nf; have n2 := F.nf'; have n3 := F.nff; have n4 := F.ne
    rw [F.s1, F.s3] at cd
    have n5 := F.mt.ne F.hx
    have n6 := F.mt.ne F.hy
    rcases F.cases q with h | h | h | h | h
    · rw [h, F.s1]; omega
    · rw [h, F.s2]; omega
    · have s := F.s3; rw [← h] at s; rw [s]; have i := F.mt.inv _ F.hx; rw [← h] at i; rw [i]; omega
    · have s := F.s4; rw [← h] at s; rw [s]; have i := F.mt.inv _ F.hy; rw [← h] at i; rw [i]; omega
    · rw [sw_oth h.1 h.2.1 h.2.2.1 h.2.2.2]; omega
end
end Mini
namespace Mini
def seatL (A : List Nat) (L : List (Nat × Nat)) : List Nat := L.foldl (fun A r => (A.set r.1 r.2).set r.2 r.1) A
theorem seatL_len : ∀ (L : List (Nat × Nat)) (A : List Nat), (seatL A L).length = A.length
  | [], _ => rfl
  | r :: L, A => by unfold seatL; rw [List.foldl_cons]; have := seatL_len L ((A.set r.1 r.2).set r.2 r.1); unfold seatL at this; rw [this]; simp
theorem fn_set' (A : List Nat) (i v j : Nat) (hi : i < A.length) : fn (A.set i v) j = if j = i then v else fn A j := by
  unfold fn
  rw [getD_set A i v j hi]
  by_cases e : i = j
  · subst e; simp
  · have : ¬ j = i := fun q => e q.symm
    simp [e, this]
/-- pairs that agree with a matching put it in their places -/
theorem seat_at {n : Nat} {g : Nat → Nat} : ∀ (L : List (Nat × Nat)) (A : List Nat), A.length = n → (∀ r ∈ L, r.1 < n ∧ r.2 < n ∧ g r.1 = r.2 ∧ g r.2 = r.1) → ∀ p, p < n → ((∃ r ∈ L, p = r.1 ∨ p = r.2) ∨ fn A p = g p) → fn (seatL A L) p = g p
  | [], A, hA, hr, p, hp, h => by
    rcases h with ⟨r, hr, _⟩ | h
    · simp at hr
    · exact h
  | r :: L, A, hA, hr, p, hp, h => by
    have r0 := hr r (by simp)
    unfold seatL
    rw [List.foldl_cons]
    refine seat_at L ((A.set r.1 r.2).set r.2 r.1) (by simp [hA]) (fun q hq => hr q (by simp [hq])) p hp ?_
    by_cases q : p = r.1 ∨ p = r.2
    · right
      rw [fn_set' _ _ _ _ (by simp; omega), fn_set' _ _ _ _ (by omega)]
      rcases q with q | q
      · rw [q]
        by_cases e : r.1 = r.2
        · rw [if_pos e]; rw [r0.2.2.1]; exact e
        · rw [if_neg e, if_pos rfl, r0.2.2.1]
      · rw [if_pos q, q, r0.2.2.2]
    · rcases h with ⟨s, hs, e⟩ | h
      · rcases List.mem_cons.mp hs with rfl | hs
        · exact absurd e q
        · exact .inl ⟨s, hs, e⟩
      · right
        rw [fn_set' _ _ _ _ (by simp; omega), fn_set' _ _ _ _ (by omega), if_neg (fun e => q (.inr e)), if_neg (fun e => q (.inl e))]
        exact h
section
variable {n : Nat} {A : List Nat} {a b : Nat}
structure Le2 (n : Nat) (A : List Nat) (a b : Nat) : Prop where
  ab : a < b
  hb : b < n
  la : a < fn A a
  lb : b < fn A b
end
end Mini
namespace Mini
open PySem L2
def ar (l : Bool) (A : List Nat) : D := if l then .lv (NI A) else .tup (NI A)
abbrev PR2 (p : Nat × Nat) : D := .tup [.int ((p.1 : Nat) : Int), .int ((p.2 : Nat) : Int)]
theorem lenP_ar (l : Bool) (A : List Nat) (h : Hd) : lenP [ar l A] h = some (.int (A.length : Nat), h) := by cases l <;> simp [ar, lenP, asS, asL]
theorem NI_get (A : List Nat) {i : Nat} (hi : i < A.length) : (NI A)[i]? = some (.int ((fn A i : Nat) : Int)) := by simp [NI, fn, List.getD_eq_getElem?_getD, hi]
theorem ixP_ar {l : Bool} {A : List Nat} {i : Nat} (h : Hd) (hi : i < A.length) : ixP (ar l A) (.int (i : Nat)) h = some (.int ((fn A i : Nat) : Int), h) := by
  have := atI_nat (NI_get A hi)
  cases l <;> simp [ar, ixP, asS, asL, this]
theorem ltP_nat (i j : Nat) (h : Hd) : ltP (.int (i : Nat)) (.int (j : Nat)) h = some (.bl (decide (i < j)), h) := by
  rw [ltP_int]; congr 3; rw [decide_eq_decide]; omega
theorem gtP_nat (i j : Nat) (h : Hd) : gtP (.int (i : Nat)) (.int (j : Nat)) h = some (.bl (decide (j < i)), h) := by
  rw [gtP_int]; congr 3; rw [decide_eq_decide]; omega
theorem geP_nat (i j : Nat) (h : Hd) : geP (.int (i : Nat)) (.int (j : Nat)) h = some (.bl (decide (j ≤ i)), h) := by
  rw [geP_int]; congr 3; rw [decide_eq_decide]; omega
theorem leP_nat (i j : Nat) (h : Hd) : leP (.int (i : Nat)) (.int (j : Nat)) h = some (.bl (decide (i ≤ j)), h) := by
  rw [leP_int]; congr 3; rw [decide_eq_decide]; omega
theorem for_cons {p : Pat} {b : SF} {d : D} {r : List D} {s s1 s2 : Ev} {h h2 : Hd} {R : Res Fl} (e0 : patD p d s = some s1) (e1 : b s1 h = .ok (.nx s2) h2) (e2 : forM p b r s2 h2 = R) : forM p b (d :: r) s h = R := by
  simp only [forM, e0, e1]; exact e2
/-- an arrangement of at most a hundred -/
structure Am (n : Nat) (A : List Nat) : Prop extends Arr n A where
  few : n ≤ 100
theorem Am.at {n : Nat} {A : List Nat} (x : Am n A) {l : Bool} {i : Nat} (hi : i < n) (h : Hd) : ixP (ar l A) (.int (i : Nat)) h = some (.int ((fn A i : Nat) : Int), h) := ixP_ar h (by rw [x.len]; exact hi)
theorem Am.al {n : Nat} {A : List Nat} (x : Am n A) : A.length ≤ 1000 := by rw [x.len]; have := x.few; omega
theorem zero_ge (i : Int) (h : Hd) : leP (.int 0) (.int i) h = some (.bl (decide (0 ≤ i)), h) := leP_int _ _ _
theorem NI_app (A B : List Nat) : NI (A ++ B) = NI A ++ NI B := by simp [NI]
def TT (L : List (List Nat)) : List D := L.map fun r => D.tup (NI r)
theorem noRefs_TT (L : List (List Nat)) : noRefs (TT L) = true := by
  have := noRefs_map (α := Tp Nat) (L.map Tp.mk)
  rw [List.map_map] at this
  exact this
theorem lenP_lv (xs : List D) (h : Hd) : lenP [.lv xs] h = some (.int (xs.length : Nat), h) := by simp only [lenP, asS, asL]
theorem three_sz : (3 : Nat) ≤ sizeLine := by decide
theorem eqP_ar (neg : Bool) (A B : List Nat) (h : Hd) : eqP neg (ar false A) (ar false B) h = some (.bl (if neg then !decide (A = B) else decide (A = B)), h) := by
  have := eqP_enc (α := Tp Nat) neg (by decide) ⟨A⟩ ⟨B⟩ h
  simp only [Tp.mk.injEq] at this
  exact this
end Mini
namespace Mini
open PySem L2
theorem szl {ds : List D} (e : Nat.ble ds.length 1000 = true) : ds.length ≤ sizeLine := Nat.le_trans (Nat.le_of_ble_eq_true e) (by decide)
theorem var_st {s : Ev} {i : Nat} {d : D} {h : Hd} (e : s[i]? = some (some d)) : e_var i s h = .ok d h := var_ok e
theorem ltb {a b : Nat} (e : Nat.blt a b = true) : a < b := Nat.le_of_ble_eq_true e
theorem lenP_tup {xs : List D} {h : Hd} : lenP [.tup xs] h = some (.int (xs.length : Nat), h) := by simp only [lenP, asS, asL]
theorem iteT {α : Type} {a b r : α} (e : a = r) : (if true = true then a else b) = r := e
theorem iteF {α : Type} {a b r : α} (e : b = r) : (if false = true then a else b) = r := e
theorem sl_from {xs : List D} {i : Nat} {h : Hd} : slP false (.lv xs) (some ((i : Nat) : Int)) none h = some (.lv (xs.drop i), h) := by
  simp only [slP, asL]; rw [cut_from]; rfl
theorem sl_to {xs : List D} {i : Nat} {h : Hd} : slP false (.lv xs) none (some ((i : Nat) : Int)) h = some (.lv (xs.take i), h) := by
  simp only [slP, asL]; rw [cut_to]; rfl
theorem sl_fromT {xs : List D} {i : Nat} {h : Hd} : slP false (.tup xs) (some ((i : Nat) : Int)) none h = some (.tup (xs.drop i), h) := by
  simp only [slP]; rw [cut_from]
theorem sl_toT {xs : List D} {i : Nat} {h : Hd} : slP false (.tup xs) none (some ((i : Nat) : Int)) h = some (.tup (xs.take i), h) := by
  simp only [slP]; rw [cut_to]
theorem sl_from1 {xs : List D} {h : Hd} : slP false (.lv xs) (some 1) none h = some (.lv (xs.drop 1), h) := sl_from (i := 1)
theorem sl_to1 {xs : List D} {h : Hd} : slP false (.lv xs) none (some 1) h = some (.lv (xs.take 1), h) := sl_to (i := 1)
theorem sl_from1T {xs : List D} {h : Hd} : slP false (.tup xs) (some 1) none h = some (.tup (xs.drop 1), h) := sl_fromT (i := 1)
theorem sl_to1T {xs : List D} {h : Hd} : slP false (.tup xs) none (some 1) h = some (.tup (xs.take 1), h) := sl_toT (i := 1)
section
variable {s : Ev} {h h1 h2 : Hd} {t t2 : TF} {f f2 : EF} {c1 c2 : Bool}
theorem or_u (e1 : t s h = .ok c1 h) (e2 : t2 s h = .ok c2 h) : t_or t t2 s h = .ok (c1 || c2) h := or_ok e1 fun _ => e2
theorem and_u (e1 : t s h = .ok c1 h) (e2 : t2 s h = .ok c2 h) : t_and t t2 s h = .ok (c1 && c2) h := and_ok e1 fun _ => e2
theorem eand_u (e1 : f s h = .ok (.bl c1) h) (e2 : f2 s h = .ok (.bl c2) h) : e_and f f2 s h = .ok (.bl (c1 && c2)) h := eand_ok e1 fun _ => e2
theorem eor_u (e1 : f s h = .ok (.bl c1) h) (e2 : f2 s h = .ok (.bl c2) h) : e_or f f2 s h = .ok (.bl (c1 || c2)) h := eor_ok e1 fun _ => e2
theorem eqT_int (i j : Int) (h : Hd) : eqP true (.int i) (.int j) h = some (.bl (!decide (i = j)), h) := (eqP_int true i j h).trans rfl
theorem eqF_int (i j : Int) (h : Hd) : eqP false (.int i) (.int j) h = some (.bl (decide (i = j)), h) := (eqP_int false i j h).trans rfl
theorem ret_to {d d' : D} (e1 : f s h = .ok d h1) (e : d = d') : s_ret f s h = .ok (.rt d') h1 := by rw [← e]; exact ret_ok e1
end
/-- a def that draws -/
theorem fn_d {np n : Nat} {b : SF} {ds : List D} {h H : Hd} {d : D} (s0 : Ev) (e : b s0 h = .ok (.rt d) H) (hs : noRef d = true) (h0 : ds.map some ++ List.replicate (n - ds.length) none = s0 := by rfl) (hl : ds.length = np := by rfl) : fnM np n b ds h = .ok d (H.take h.length) := by
  have hd : sealD h.length d H = some d := by
    cases d with
    | ref k => simp [noRef] at hs
    | _ => simp only [sealD, hs, if_true]
  exact fn_rt (np := np) (n := n) (b := b) (ds := ds) (h := h) (h' := H) s0 d e hd h0 hl
theorem Drawn.cut {b : Nat} {h r H : Hd} {n k : Nat} (x : Drawn b (h ++ r) H n k) (hb : b < h.length) : Drawn b h (H.take h.length) n k := by
  have hl := x.len
  rw [List.length_append] at hl
  refine ⟨by rw [List.length_take]; omega, fun m hm => ?_, ?_⟩
  · rcases Nat.lt_or_ge m h.length with q | q
    · rw [List.getElem?_take_of_lt q, x.oth m hm, List.getElem?_append_left q]
    · rw [List.getElem?_eq_none (by rw [List.length_take]; omega), List.getElem?_eq_none q]
  · obtain ⟨u, v, w, e, q⟩ := x.box
    exact ⟨u, v, w, by rw [List.getElem?_take_of_lt hb]; exact e, q⟩
theorem modL {i : Int} {j : Int} (hj : 0 < j) (h : Hd) : modP (.int i) (.int j) h = some (.int (i % j), h) := modP_int hj h
theorem divL {i : Int} {j : Int} (hj : 0 < j ∧ j.natAbs.log2 < 9000) (h : Hd) : fdivP (.int i) (.int j) h = some (.int (i / j), h) := by simp only [fdivP, hj, and_self, if_true]
theorem mulN {i j : Int} (hi : (in64 i || in64 j) = true) (m : Bool) (h : Hd) : mulP m (.int i) (.int j) h = some (.int (i * j), h) := by simp only [mulP, hi, if_true]
theorem all_true {α : Type} (L : List α) (h : Hd) : allP [.lv (L.map fun _ => D.bl true)] h = some (.bl true, h) := by
  have : L.map (fun _ => D.bl true) = (L.map fun _ => true).map D.bl := by rw [List.map_map]; rfl
  rw [this]
  simp only [allP, asL, Option.bind_some, blsOf_B]
  congr 2
  simp
theorem ix_tup0 {a : D} {r : List D} {h : Hd} : ixP (.tup (a :: r)) (.int 0) h = some (a, h) := by
  have k : atI (a :: r) (0 : Int) = some a := atI_nat (j := 0) rfl
  simp only [ixP, asS, asL, k]
theorem ix_tup1 {a b : D} {r : List D} {h : Hd} : ixP (.tup (a :: b :: r)) (.int 1) h = some (b, h) := by
  have k : atI (a :: b :: r) (1 : Int) = some b := atI_nat (j := 1) rfl
  simp only [ixP, asS, asL, k]
theorem ix_lv0 {a : D} {r : List D} {h : Hd} : ixP (.lv (a :: r)) (.int 0) h = some (a, h) := by
  have k : atI (a :: r) (0 : Int) = some a := atI_nat (j := 0) rfl
  simp only [ixP, asS, asL, k]
theorem ix_lv1 {a b : D} {r : List D} {h : Hd} : ixP (.lv (a :: b :: r)) (.int 1) h = some (b, h) := by
  have k : atI (a :: b :: r) (1 : Int) = some b := atI_nat (j := 1) rfl
  simp only [ixP, asS, asL, k]
/-- a comprehension, the state left to be found -/
theorem lc_x {α : Type} {own : List Nat} {i : AF} {p : Pat} {tt : TF} {te : EF} {s : Ev} {h : Hd} {ys : List D} (L : List α) (mk : α → D) (g : α → Bool) (f : α → D) (hi : i s h = .ok (L.map mk) h) (hl : L.length ≤ 100000) (he : (L.filter g).map f = ys)
    (hp : ∀ x ∈ L, ∃ s1, patD p (mk x) (wipeD s own) = some s1 ∧ tt s1 h = .ok (g x) h ∧ (g x = true → te s1 h = .ok (f x) h)) : e_lc own i p tt te s h = .ok (.lv ys) h := by
  refine lc_to L mk (fun x => (patD p (mk x) (wipeD s own)).getD []) g f hi hl (fun x hx => ?_) he
  obtain ⟨s1, e1, e2⟩ := hp x hx
  rw [e1]
  exact ⟨rfl, e2⟩
theorem lc_y {α : Type} {own : List Nat} {i : AF} {p : Pat} {te : EF} {s : Ev} {h : Hd} {ys : List D} (L : List α) (mk : α → D) (f : α → D) (hi : i s h = .ok (L.map mk) h) (hl : L.length ≤ 100000) (he : L.map f = ys)
    (hp : ∀ x ∈ L, ∃ s1, patD p (mk x) (wipeD s own) = some s1 ∧ te s1 h = .ok (f x) h) : e_lc own i p t_yes te s h = .ok (.lv ys) h := by
  refine lc_x L mk (fun _ => true) f hi hl (by rw [List.filter_eq_self.mpr (fun _ _ => rfl), he]) fun x hx => ?_
  obtain ⟨s1, e1, e2⟩ := hp x hx
  exact ⟨s1, e1, rfl, fun _ => e2⟩
end Mini
namespace Mini
theorem permOf {α : Type} {L M : List α} (h1 : L.Nodup) (h2 : M.Nodup) (h : ∀ x, x ∈ L ↔ x ∈ M) : L.Perm M := (List.perm_ext_iff_of_nodup h1 h2).mpr h
def busyL (K : List (Nat × Nat)) : List Nat := K.flatMap fun r => [r.1, r.2]
structure Kn (n : Nat) (K : List (Nat × Nat)) : Prop where
  lt : ∀ r ∈ K, r.1 < r.2 ∧ r.2 < n
  nd : (busyL K).Nodup
def freeL (n : Nat) (K : List (Nat × Nat)) : List Nat := (List.range n).filter fun p => !decide (p ∈ busyL K)
/-- no known pair parts two people -/
def Sm (K : List (Nat × Nat)) (p q : Nat) : Prop := ∀ r ∈ K, (r.1 < p ∧ p < r.2) ↔ (r.1 < q ∧ q < r.2)
instance (K : List (Nat × Nat)) (p q : Nat) : Decidable (Sm K p q) := inferInstanceAs (Decidable (∀ r ∈ K, (r.1 < p ∧ p < r.2) ↔ (r.1 < q ∧ q < r.2)))
theorem Sm.rfl {K : List (Nat × Nat)} {p : Nat} : Sm K p p := fun _ _ => Iff.rfl
theorem Sm.symm {K : List (Nat × Nat)} {p q : Nat} (h : Sm K p q) : Sm K q p := fun r hr => (h r hr).symm
theorem Sm.trans {K : List (Nat × Nat)} {p q s : Nat} (h : Sm K p q) (k : Sm K q s) : Sm K p s := fun r hr => (h r hr).trans (k r hr)
theorem mem_busy {K : List (Nat × Nat)} {p : Nat} : p ∈ busyL K ↔ ∃ r ∈ K, p = r.1 ∨ p = r.2 := by
  simp [busyL, List.mem_flatMap]
theorem mem_free {n : Nat} {K : List (Nat × Nat)} {p : Nat} : p ∈ freeL n K ↔ p < n ∧ p ∉ busyL K := by
  simp [freeL, List.mem_filter]
theorem free_sorted (n : Nat) (K : List (Nat × Nat)) : (freeL n K).Pairwise (· < ·) := List.Pairwise.filter _ List.pairwise_lt_range
theorem free_nodup (n : Nat) (K : List (Nat × Nat)) : (freeL n K).Nodup := (free_sorted n K).imp fun h => Nat.ne_of_lt h
def grp (n : Nat) (K : List (Nat × Nat)) (p : Nat) : List Nat := (freeL n K).filter fun q => decide (Sm K p q)
def lowsG (n : Nat) (K : List (Nat × Nat)) : List Nat := (freeL n K).filter fun p => decide (∀ q ∈ freeL n K, q < p → ¬ Sm K q p)
def grpsL (n : Nat) (K : List (Nat × Nat)) : List (List Nat) := (lowsG n K).map (grp n K)
section
variable {n : Nat} {K : List (Nat × Nat)}
theorem mem_grp {p q : Nat} : q ∈ grp n K p ↔ q ∈ freeL n K ∧ Sm K p q := by simp [grp, List.mem_filter]
theorem mem_lows {p : Nat} : p ∈ lowsG n K ↔ p ∈ freeL n K ∧ ∀ q ∈ freeL n K, q < p → ¬ Sm K q p := by simp [lowsG, List.mem_filter]
theorem grp_congr {p q : Nat} (h : Sm K p q) : grp n K p = grp n K q := by
  apply List.filter_congr
  intro x _
  rw [decide_eq_decide]
  exact ⟨fun k => h.symm.trans k, fun k => h.trans k⟩
theorem grp_iff {p q : Nat} (hq : q ∈ freeL n K) : grp n K p = grp n K q ↔ Sm K p q := by
  refine ⟨fun e => ?_, grp_congr⟩
  have : q ∈ grp n K p := by rw [e]; exact mem_grp.mpr ⟨hq, .rfl⟩
  exact (mem_grp.mp this).2
theorem low_exG {p : Nat} (hp : p ∈ freeL n K) : ∃ a, a ∈ lowsG n K ∧ Sm K a p := by
  have : ∀ k p, p ≤ k → p ∈ freeL n K → ∃ a, a ∈ lowsG n K ∧ Sm K a p := by
    intro k
    induction k with
    | zero =>
      intro p hk hp
      exact ⟨p, mem_lows.mpr ⟨hp, fun q _ h => by omega⟩, .rfl⟩
    | succ k ih =>
      intro p hk hp
      by_cases c : ∃ q ∈ freeL n K, q < p ∧ Sm K q p
      · obtain ⟨q, h1, h2, h3⟩ := c
        obtain ⟨a, ha, hs⟩ := ih q (by omega) h1
        exact ⟨a, ha, hs.trans h3⟩
      · exact ⟨p, mem_lows.mpr ⟨hp, fun q h1 h2 h3 => c ⟨q, h1, h2, h3⟩⟩, .rfl⟩
  exact this p p (Nat.le_refl _) hp
theorem mem_grps {R : List Nat} : R ∈ grpsL n K ↔ ∃ p, p ∈ freeL n K ∧ R = grp n K p := by
  rw [grpsL, List.mem_map]
  constructor
  · rintro ⟨a, ha, rfl⟩
    exact ⟨a, (mem_lows.mp ha).1, rfl⟩
  · rintro ⟨p, hp, rfl⟩
    obtain ⟨a, ha, hs⟩ := low_exG hp
    exact ⟨a, ha, grp_congr hs⟩
theorem grps_nodup : (grpsL n K).Nodup := by
  rw [List.nodup_iff_pairwise_ne, grpsL, List.pairwise_map]
  refine List.Pairwise.imp_of_mem (R := (· < ·)) ?_ (List.Pairwise.filter _ (free_sorted n K))
  intro a b ha hb lt e
  have hb := mem_lows.mp hb
  exact hb.2 a (mem_lows.mp ha).1 lt ((grp_iff hb.1).mp e)
theorem grp_sorted (p : Nat) : (grp n K p).Pairwise (· < ·) := List.Pairwise.filter _ (free_sorted n K)
end
def prodL (L : List Nat) : Nat := L.foldr (· * ·) 1
theorem prodL_cons (x : Nat) (L : List Nat) : prodL (x :: L) = x * prodL L := rfl
theorem prodL_app (L M : List Nat) : prodL (L ++ M) = prodL L * prodL M := by
  induction L with
  | nil => simp [prodL]
  | cons x L ih => rw [List.cons_append, prodL_cons, prodL_cons, ih, Nat.mul_assoc]
theorem prodL_perm {L M : List Nat} (h : L.Perm M) : prodL L = prodL M := by
  induction h with
  | nil => rfl
  | cons x _ ih => rw [prodL_cons, prodL_cons, ih]
  | swap x y L => rw [prodL_cons, prodL_cons, prodL_cons, prodL_cons, Nat.mul_left_comm]
  | trans _ _ i1 i2 => rw [i1, i2]
/-- how many arrangements so many pairs have -/
def catL : Nat → Nat
  | 0 => 1
  | k + 1 => catL k * 2 * (2 * k + 1) / (k + 2)
def wL (l : Nat) : Nat := if l % 2 = 0 then catL (l / 2) else 0
theorem wL_rec : ∀ t, t ≤ 28 → ((List.range t).map fun i => wL i * wL (t - 1 - i)).sum = wL (t + 1) := by decide
def ncrB (K : List (Nat × Nat)) : Bool := decide (K.Pairwise fun r q => crs r q = false)
def manyL (n : Nat) (K : List (Nat × Nat)) : Nat := if ncrB K = true then prodL ((grpsL n K).map fun g => wL g.length) else 0
end Mini
namespace Mini
section
variable {n : Nat} {K : List (Nat × Nat)} {p q : Nat}
theorem busy_app (K : List (Nat × Nat)) (p q : Nat) : busyL (K ++ [(p, q)]) = busyL K ++ [p, q] := by simp [busyL]
theorem Kn.add (k : Kn n K) (hp : p ∈ freeL n K) (hq : q ∈ freeL n K) (lt : p < q) : Kn n (K ++ [(p, q)]) := by
  have a := mem_free.mp hp
  have b := mem_free.mp hq
  refine ⟨fun r hr => ?_, ?_⟩
  · rcases List.mem_append.mp hr with h | h
    · exact k.lt r h
    · simp at h; subst h; exact ⟨lt, b.1⟩
  · rw [busy_app, List.nodup_append]
    refine ⟨k.nd, by simp; omega, fun x hx y hy e => ?_⟩
    subst e
    simp at hy
    rcases hy with rfl | rfl
    · exact a.2 hx
    · exact b.2 hx
theorem free_add : freeL n (K ++ [(p, q)]) = (freeL n K).filter fun x => !decide (x = p) && !decide (x = q) := by
  unfold freeL
  rw [List.filter_filter]
  apply List.filter_congr
  intro x _
  rw [busy_app]
  by_cases h1 : x ∈ busyL K <;> by_cases h2 : x = p <;> by_cases h3 : x = q <;> simp [h1, h2, h3]
theorem mem_free_add {x : Nat} : x ∈ freeL n (K ++ [(p, q)]) ↔ x ∈ freeL n K ∧ x ≠ p ∧ x ≠ q := by
  rw [free_add]; simp [List.mem_filter]
theorem sm_add {x y : Nat} : Sm (K ++ [(p, q)]) x y ↔ Sm K x y ∧ ((p < x ∧ x < q) ↔ (p < y ∧ y < q)) := by
  constructor
  · intro h
    exact ⟨fun r hr => h r (by simp [hr]), h (p, q) (by simp)⟩
  · rintro ⟨h1, h2⟩ r hr
    rcases List.mem_append.mp hr with h | h
    · exact h1 r h
    · simp at h; subst h; exact h2
theorem crs_sm {r : Nat × Nat} (lt : r.1 < r.2) : crs r (p, q) = false ↔ ((r.1 < p ∧ p < r.2) ↔ (r.1 < q ∧ q < r.2)) := by
  unfold crs
  simp only [bne_eq_false_iff_eq]
  rw [sd_eq]
  constructor <;> intro h <;> constructor <;> intro h' <;> omega
theorem ncr_add (k : Kn n K) : ncrB (K ++ [(p, q)]) = true ↔ ncrB K = true ∧ Sm K p q := by
  unfold ncrB
  rw [decide_eq_true_eq, decide_eq_true_eq, List.pairwise_append]
  constructor
  · rintro ⟨h1, _, h3⟩
    exact ⟨h1, fun r hr => (crs_sm (k.lt r hr).1).mp (h3 r hr (p, q) (by simp))⟩
  · rintro ⟨h1, h2⟩
    refine ⟨h1, by simp, fun r hr s hs => ?_⟩
    simp at hs
    subst hs
    exact (crs_sm (k.lt r hr).1).mpr (h2 r hr)
/-- who is not in the group of p and q: all of a group on one side -/
theorem side_of (k : Kn n K) (s : Sm K p q) (lt : p < q) {x y : Nat} (hp : p ∉ busyL K) (hq : q ∉ busyL K) (hx : x ∉ busyL K) (hy : y ∉ busyL K) (nx : ¬ Sm K p x) (h : Sm K x y) : (p < x ∧ x < q) ↔ (p < y ∧ y < q) := by
  have : ∃ r ∈ K, ¬ ((r.1 < p ∧ p < r.2) ↔ (r.1 < x ∧ x < r.2)) := by
    apply Classical.byContradiction
    intro c
    exact nx fun r hr => Classical.byContradiction fun z => c ⟨r, hr, z⟩
  obtain ⟨r, hr, c⟩ := this
  have e1 := s r hr
  have e2 := h r hr
  have l := k.lt r hr
  have m1 : r.1 ∈ busyL K := mem_busy.mpr ⟨r, hr, .inl rfl⟩
  have m2 : r.2 ∈ busyL K := mem_busy.mpr ⟨r, hr, .inr rfl⟩
  have n1 : p ≠ r.1 := fun e => hp (e ▸ m1)
  have n2 : p ≠ r.2 := fun e => hp (e ▸ m2)
  have n3 : q ≠ r.1 := fun e => hq (e ▸ m1)
  have n4 : q ≠ r.2 := fun e => hq (e ▸ m2)
  have n5 : x ≠ r.1 := fun e => hx (e ▸ m1)
  have n6 : x ≠ r.2 := fun e => hx (e ▸ m2)
  have n7 : y ≠ r.1 := fun e => hy (e ▸ m1)
  have n8 : y ≠ r.2 := fun e => hy (e ▸ m2)
  omega
theorem grp_other (k : Kn n K) (s : Sm K p q) (lt : p < q) (hp : p ∈ freeL n K) (hq : q ∈ freeL n K) {x : Nat} (hx : x ∈ freeL n K) (nx : ¬ Sm K p x) : grp n (K ++ [(p, q)]) x = grp n K x := by
  have a := (mem_free.mp hp).2
  have b := (mem_free.mp hq).2
  have c := (mem_free.mp hx).2
  unfold grp
  rw [free_add, List.filter_filter]
  apply List.filter_congr
  intro y hy
  have d := (mem_free.mp hy).2
  rw [Bool.eq_iff_iff]
  simp only [Bool.and_eq_true, decide_eq_true_eq, Bool.not_eq_true', decide_eq_false_iff_not, sm_add]
  constructor
  · rintro ⟨⟨h, _⟩, _⟩; exact h
  · intro h
    exact ⟨⟨h, side_of k s lt a b c d nx h⟩, fun e => nx (e ▸ h).symm, fun e => nx (s.trans (e ▸ h).symm)⟩
/-- the group of the pair, parted -/
theorem grp_in (s : Sm K p q) (lt : p < q) {x : Nat} (sx : Sm K p x) (hx : p < x ∧ x < q) : grp n (K ++ [(p, q)]) x = (grp n K p).filter fun y => decide (p < y ∧ y < q) := by
  unfold grp
  rw [free_add, List.filter_filter, List.filter_filter]
  apply List.filter_congr
  intro y hy
  rw [Bool.eq_iff_iff]
  simp only [Bool.and_eq_true, decide_eq_true_eq, Bool.not_eq_true', decide_eq_false_iff_not, sm_add]
  constructor
  · rintro ⟨⟨h, e⟩, _⟩
    exact ⟨e.mp hx, sx.trans h⟩
  · rintro ⟨h1, h2⟩
    exact ⟨⟨sx.symm.trans h2, by simp [hx, h1]⟩, by omega, by omega⟩
theorem grp_out (s : Sm K p q) (lt : p < q) {x : Nat} (sx : Sm K p x) (hx : ¬ (p < x ∧ x < q)) : grp n (K ++ [(p, q)]) x = (grp n K p).filter fun y => decide (¬ (p ≤ y ∧ y ≤ q)) := by
  unfold grp
  rw [free_add, List.filter_filter, List.filter_filter]
  apply List.filter_congr
  intro y hy
  rw [Bool.eq_iff_iff]
  simp only [Bool.and_eq_true, decide_eq_true_eq, Bool.not_eq_true', decide_eq_false_iff_not, sm_add]
  constructor
  · rintro ⟨⟨h, e⟩, h1, h2⟩
    exact ⟨by omega, sx.trans h⟩
  · rintro ⟨h1, h2⟩
    exact ⟨⟨sx.symm.trans h2, by omega⟩, by omega, by omega⟩
end
end Mini
namespace Mini
section
variable {n : Nat} {K : List (Nat × Nat)} {p q : Nat}
def othG (n : Nat) (K : List (Nat × Nat)) (p : Nat) : List (List Nat) := (grpsL n K).filter fun C => !decide (C = grp n K p)
theorem mem_oth {C : List Nat} : C ∈ othG n K p ↔ ∃ x ∈ freeL n K, ¬ Sm K p x ∧ C = grp n K x := by
  simp only [othG, List.mem_filter, mem_grps, Bool.not_eq_true', decide_eq_false_iff_not]
  constructor
  · rintro ⟨⟨x, hx, rfl⟩, ne⟩
    exact ⟨x, hx, fun h => ne (grp_congr h).symm, rfl⟩
  · rintro ⟨x, hx, ns, rfl⟩
    exact ⟨⟨x, hx, rfl⟩, fun e => ns ((grp_iff hx).mp e.symm)⟩
theorem grps_split (hp : p ∈ freeL n K) : (grpsL n K).Perm (grp n K p :: othG n K p) := by
  refine permOf grps_nodup ?_ fun C => ?_
  · rw [List.nodup_cons]
    refine ⟨fun h => ?_, grps_nodup.filter _⟩
    simp [othG, List.mem_filter] at h
  · rw [List.mem_cons, mem_grps, mem_oth]
    constructor
    · rintro ⟨x, hx, rfl⟩
      by_cases s : Sm K p x
      · exact .inl (grp_congr s).symm
      · exact .inr ⟨x, hx, s, rfl⟩
    · rintro (rfl | ⟨x, hx, _, rfl⟩)
      · exact ⟨p, hp, rfl⟩
      · exact ⟨x, hx, rfl⟩
def inG (n : Nat) (K : List (Nat × Nat)) (p q : Nat) : List Nat := (grp n K p).filter fun y => decide (p < y ∧ y < q)
def outG (n : Nat) (K : List (Nat × Nat)) (p q : Nat) : List Nat := (grp n K p).filter fun y => decide (¬ (p ≤ y ∧ y ≤ q))
def neL (C : List Nat) : List (List Nat) := if C = [] then [] else [C]
theorem mem_neL {C X : List Nat} : X ∈ neL C ↔ X = C ∧ C ≠ [] := by
  unfold neL
  by_cases h : C = []
  · simp [h]
  · simp [h]
theorem prod_neL (C : List Nat) : prodL ((neL C).map fun g => wL g.length) = wL C.length := by
  unfold neL
  by_cases h : C = []
  · simp [h]; rfl
  · simp [h, prodL]
theorem grps_add (k : Kn n K) (s : Sm K p q) (lt : p < q) (hp : p ∈ freeL n K) (hq : q ∈ freeL n K) : (grpsL n (K ++ [(p, q)])).Perm (othG n K p ++ (neL (inG n K p q) ++ neL (outG n K p q))) := by
  have mi : ∀ y, y ∈ inG n K p q ↔ (y ∈ freeL n K ∧ Sm K p y) ∧ p < y ∧ y < q := fun y => by simp [inG, List.mem_filter, mem_grp]
  have mo : ∀ y, y ∈ outG n K p q ↔ (y ∈ freeL n K ∧ Sm K p y) ∧ ¬ (p ≤ y ∧ y ≤ q) := fun y => by simp only [outG, List.mem_filter, mem_grp, decide_eq_true_eq]
  have no : ∀ C ∈ othG n K p, ∀ y ∈ C, ¬ Sm K p y := by
    intro C hC y hy sy
    obtain ⟨x, hx, ns, rfl⟩ := mem_oth.mp hC
    exact ns (sy.trans (mem_grp.mp hy).2.symm)
  have hd : ∀ C : List Nat, C ≠ [] → ∃ y, y ∈ C := fun C h => by
    cases C with
    | nil => exact absurd rfl h
    | cons y C => exact ⟨y, by simp⟩
  refine permOf grps_nodup ?_ fun C => ?_
  · rw [List.nodup_append]
    refine ⟨grps_nodup.filter _, ?_, fun C hC D hD e => ?_⟩
    · rw [List.nodup_append]
      refine ⟨by unfold neL; split <;> simp, by unfold neL; split <;> simp, fun C hC D hD e => ?_⟩
      subst e
      obtain ⟨rfl, ne⟩ := mem_neL.mp hC
      obtain ⟨e, _⟩ := mem_neL.mp hD
      obtain ⟨y, hy⟩ := hd _ ne
      have h1 := (mi y).mp hy
      rw [e] at hy
      have h2 := (mo y).mp hy
      omega
    · subst e
      rcases List.mem_append.mp hD with h | h
      · obtain ⟨rfl, ne⟩ := mem_neL.mp h
        obtain ⟨y, hy⟩ := hd _ ne
        exact no _ hC y hy ((mi y).mp hy).1.2
      · obtain ⟨rfl, ne⟩ := mem_neL.mp h
        obtain ⟨y, hy⟩ := hd _ ne
        exact no _ hC y hy ((mo y).mp hy).1.2
  · rw [mem_grps, List.mem_append, List.mem_append, mem_oth, mem_neL, mem_neL]
    constructor
    · rintro ⟨x, hx, rfl⟩
      have hx := mem_free_add.mp hx
      by_cases sx : Sm K p x
      · right
        by_cases c : p < x ∧ x < q
        · left
          refine ⟨grp_in s lt sx c, fun e => ?_⟩
          have : x ∈ inG n K p q := (mi x).mpr ⟨⟨hx.1, sx⟩, c⟩
          rw [e] at this; simp at this
        · right
          refine ⟨grp_out s lt sx c, fun e => ?_⟩
          have : x ∈ outG n K p q := (mo x).mpr ⟨⟨hx.1, sx⟩, by omega⟩
          rw [e] at this; simp at this
      · exact .inl ⟨x, hx.1, sx, grp_other k s lt hp hq hx.1 sx⟩
    · rintro (⟨x, hx, ns, rfl⟩ | ⟨rfl, ne⟩ | ⟨rfl, ne⟩)
      · exact ⟨x, mem_free_add.mpr ⟨hx, fun e => ns (e ▸ .rfl), fun e => ns (e ▸ s)⟩, (grp_other k s lt hp hq hx ns).symm⟩
      · obtain ⟨x, hx⟩ := hd _ ne
        have h := (mi x).mp hx
        exact ⟨x, mem_free_add.mpr ⟨h.1.1, by omega, by omega⟩, (grp_in s lt h.1.2 h.2).symm⟩
      · obtain ⟨x, hx⟩ := hd _ ne
        have h := (mo x).mp hx
        exact ⟨x, mem_free_add.mpr ⟨h.1.1, by omega, by omega⟩, (grp_out s lt h.1.2 (by omega)).symm⟩
/-- the count with a pair more -/
theorem many_add (k : Kn n K) (lt : p < q) (hp : p ∈ freeL n K) (hq : q ∈ freeL n K) : manyL n (K ++ [(p, q)]) = if ncrB K = true ∧ Sm K p q then prodL ((othG n K p).map fun g => wL g.length) * (wL (inG n K p q).length * wL (outG n K p q).length) else 0 := by
  unfold manyL
  by_cases c : ncrB (K ++ [(p, q)]) = true
  · have h := (ncr_add k).mp c
    rw [if_pos c, if_pos h, prodL_perm ((grps_add k h.2 lt hp hq).map _), List.map_append, List.map_append, prodL_app, prodL_app, prod_neL, prod_neL]
  · rw [if_neg c, if_neg (fun h => c ((ncr_add k).mpr h))]
theorem many_split (hp : p ∈ freeL n K) : manyL n K = if ncrB K = true then wL (grp n K p).length * prodL ((othG n K p).map fun g => wL g.length) else 0 := by
  unfold manyL
  rw [prodL_perm ((grps_split hp).map _), List.map_cons, prodL_cons]
theorem sum_zero {α : Type} (L : List α) (f : α → Nat) (P : α → Bool) (h : ∀ x ∈ L, P x = false → f x = 0) : (L.map f).sum = ((L.filter P).map f).sum := by
  induction L with
  | nil => rfl
  | cons x L ih =>
    have ih := ih fun y hy => h y (by simp [hy])
    rw [List.map_cons, List.sum_cons, List.filter_cons]
    cases q : P x with
    | true => simp [ih]
    | false => rw [h x (by simp) q, ih]; simp
theorem sum_mul_left (L : List Nat) (c : Nat) : (L.map fun x => c * x).sum = c * L.sum := by
  induction L with
  | nil => simp
  | cons x L ih => simp only [List.map_cons, List.sum_cons, ih, Nat.mul_add]
theorem cut_at {a b : List Nat} {x p : Nat} (so : (a ++ x :: b).Pairwise (· < ·)) (hp : ∀ y ∈ a ++ x :: b, p < y) :
    (a ++ x :: b).filter (fun y => decide (p < y ∧ y < x)) = a ∧ (a ++ x :: b).filter (fun y => decide (¬ (p ≤ y ∧ y ≤ x))) = b := by
  rw [List.pairwise_append] at so
  obtain ⟨_, s2, s3⟩ := so
  have s2 := (List.pairwise_cons.mp s2).1
  have a1 : ∀ y ∈ a, y < x ∧ p < y := fun y hy => ⟨s3 y hy x (by simp), hp y (by simp [hy])⟩
  have px := hp x (by simp)
  constructor
  · rw [List.filter_append, List.filter_cons, if_neg (by simp), List.filter_eq_self.mpr, List.filter_eq_nil_iff.mpr, List.append_nil]
    · intro y hy; have := s2 y hy; simp; omega
    · intro y hy; have := a1 y hy; simp; omega
  · rw [List.filter_append, List.filter_cons, if_neg (by simp; omega), List.filter_eq_nil_iff.mpr, List.filter_eq_self.mpr, List.nil_append]
    · intro y hy; have := s2 y hy; simp; omega
    · intro y hy; have := a1 y hy; simp; omega
/-- the first free person has some partner -/
theorem many_first (k : Kn n K) (hn : n ≤ 28) {rest : List Nat} (e : freeL n K = p :: rest) : manyL n K = (rest.map fun q => manyL n (K ++ [(p, q)])).sum := by
  have so := free_sorted n K
  have hp : p ∈ freeL n K := by rw [e]; simp
  rw [e] at so
  have lt : ∀ q ∈ rest, p < q := (List.pairwise_cons.mp so).1
  have so' := (List.pairwise_cons.mp so).2
  have fr : ∀ q ∈ rest, q ∈ freeL n K := fun q hq => by rw [e]; simp [hq]
  rw [many_split hp]
  by_cases c : ncrB K = true
  · rw [if_pos c]
    -- those of the group
    let T := rest.filter fun q => decide (Sm K p q)
    have eT : T = rest.filter fun q => decide (Sm K p q) := rfl
    have eG : grp n K p = p :: T := by
      unfold grp
      rw [e, List.filter_cons, if_pos (by simp [Sm.rfl])]
    have z : ∀ q ∈ rest, decide (Sm K p q) = false → manyL n (K ++ [(p, q)]) = 0 := fun q hq h => by
      rw [many_add k (lt q hq) hp (fr q hq), if_neg (fun h' => of_decide_eq_false h h'.2)]
    rw [sum_zero rest _ _ z, ← eT, eG]
    have sT : T.Pairwise (· < ·) := List.Pairwise.filter _ so'
    have mT : ∀ q ∈ T, q ∈ rest ∧ Sm K p q := fun q hq => by simpa [eT, List.mem_filter] using hq
    have lT : T.length ≤ 28 := by
      have h1 : T.length ≤ rest.length := List.length_filter_le _ _
      have h2 : (freeL n K).length ≤ n := Nat.le_trans (List.length_filter_le _ _) (by simp)
      rw [e] at h2
      simp at h2
      omega
    have terms : (T.map fun q => manyL n (K ++ [(p, q)])) = ((List.range T.length).map fun i => wL i * wL (T.length - 1 - i)).map fun x => prodL ((othG n K p).map fun g => wL g.length) * x := by
      rw [List.map_map]
      apply List.ext_getElem
      · simp
      intro i h1 h2
      simp only [List.length_map] at h1
      simp only [List.getElem_map, List.getElem_range, Function.comp]
      have m := mT _ (List.getElem_mem h1)
      rw [many_add k (lt _ m.1) hp (fr _ m.1), if_pos ⟨c, m.2⟩]
      congr 1
      have dr := List.drop_eq_getElem_cons h1
      generalize T[i] = x at m dr ⊢
      have tk : T.take i ++ x :: T.drop (i + 1) = T := by rw [← dr, List.take_append_drop]
      have pT : ∀ y ∈ T, p < y := fun y hy => lt y (mT y hy).1
      have ca := cut_at (a := T.take i) (b := T.drop (i + 1)) (x := x) (p := p) (by rw [tk]; exact sT) (by rw [tk]; exact pT)
      rw [tk] at ca
      have px : p < x := lt x m.1
      have e1 : inG n K p x = T.take i := by
        unfold inG
        rw [eG, List.filter_cons, if_neg (by simp)]
        exact ca.1
      have e2 : outG n K p x = T.drop (i + 1) := by
        unfold outG
        rw [eG, List.filter_cons, if_neg (by simp; omega)]
        exact ca.2
      rw [e1, e2, List.length_take, List.length_drop, Nat.min_eq_left (by omega)]
      congr 2
      omega
    rw [terms, sum_mul_left, wL_rec _ lT, List.length_cons, Nat.mul_comm]
  · rw [if_neg c]
    symm
    have : (rest.map fun q => manyL n (K ++ [(p, q)])) = rest.map fun _ => 0 := by
      apply List.map_congr_left
      intro q hq
      rw [many_add k (lt q hq) hp (fr q hq), if_neg (fun h => c h.1)]
    rw [this]
    clear so so' lt fr e this
    induction rest with
    | nil => rfl
    | cons x r ih => rw [List.map_cons, List.sum_cons, ih]
end
end Mini
namespace Mini
section
variable {n : Nat} {K : List (Nat × Nat)}
theorem busy_uniq : ∀ {K : List (Nat × Nat)}, (busyL K).Nodup → ∀ {r s : Nat × Nat} {x : Nat}, r ∈ K → s ∈ K → (x = r.1 ∨ x = r.2) → (x = s.1 ∨ x = s.2) → r = s
  | [], _, r, s, x, hr, _, _, _ => by simp at hr
  | t :: K, nd, r, s, x, hr, hs, h1, h2 => by
    have e : busyL (t :: K) = [t.1, t.2] ++ busyL K := by simp [busyL]
    rw [e, List.nodup_append] at nd
    obtain ⟨_, nd2, nd3⟩ := nd
    have key : ∀ s ∈ K, (x = s.1 ∨ x = s.2) → (x = t.1 ∨ x = t.2) → False := fun s hs a b =>
      nd3 x (by simp; exact b) x (mem_busy.mpr ⟨s, hs, a⟩) rfl
    rcases List.mem_cons.mp hr with e1 | hr' <;> rcases List.mem_cons.mp hs with e2 | hs'
    · rw [e1, e2]
    · exact (key s hs' h2 (e1 ▸ h1)).elim
    · exact (key r hr' h1 (e2 ▸ h2)).elim
    · exact busy_uniq nd2 hr' hs' h1 h2
def pt (K : List (Nat × Nat)) (p : Nat) : Nat := match K.find? fun r => decide (p = r.1 ∨ p = r.2) with
  | some r => if p = r.1 then r.2 else r.1
  | none => 0
theorem pt_at (k : Kn n K) {r : Nat × Nat} (hr : r ∈ K) : pt K r.1 = r.2 ∧ pt K r.2 = r.1 := by
  have l := k.lt r hr
  constructor
  · unfold pt
    cases q : K.find? fun s => decide (r.1 = s.1 ∨ r.1 = s.2) with
    | none =>
      have := List.find?_eq_none.mp q r hr
      simp at this
    | some s =>
      have h1 := List.find?_some q
      have h2 := List.mem_of_find?_eq_some q
      have e := busy_uniq k.nd hr h2 (.inl rfl) (of_decide_eq_true h1)
      subst e
      simp
  · unfold pt
    cases q : K.find? fun s => decide (r.2 = s.1 ∨ r.2 = s.2) with
    | none =>
      have := List.find?_eq_none.mp q r hr
      simp at this
    | some s =>
      have h1 := List.find?_some q
      have h2 := List.mem_of_find?_eq_some q
      have e := busy_uniq k.nd hr h2 (.inr rfl) (of_decide_eq_true h1)
      subst e
      simp only
      rw [if_neg (by omega)]
def seat (n : Nat) (K : List (Nat × Nat)) : List Nat := seatL (List.replicate n 0) K
theorem seat_len (n : Nat) (K : List (Nat × Nat)) : (seat n K).length = n := by rw [seat, seatL_len]; simp
theorem seat_pt (k : Kn n K) {p : Nat} (hp : p ∈ busyL K) : fn (seat n K) p = pt K p := by
  obtain ⟨r, hr, h⟩ := mem_busy.mp hp
  refine seat_at (n := n) K (List.replicate n 0) (by simp) (fun s hs => ?_) p ?_ (.inl ⟨r, hr, h⟩)
  · have := k.lt s hs
    exact ⟨by omega, by omega, (pt_at k hs).1, (pt_at k hs).2⟩
  · have := k.lt r hr
    omega
/-- agrees with the known pairs -/
def Fit (n : Nat) (K : List (Nat × Nat)) (A : List Nat) : Prop := Arr n A ∧ ∀ r ∈ K, fn A r.1 = r.2
theorem Fit.pt (k : Kn n K) {A : List Nat} (f : Fit n K A) {p : Nat} (hp : p ∈ busyL K) : fn A p = Mini.pt K p := by
  obtain ⟨r, hr, h⟩ := mem_busy.mp hp
  have l := k.lt r hr
  have a := f.2 r hr
  have b : fn A r.2 = r.1 := by rw [← a]; exact f.1.inv r.1 (by omega)
  rcases h with rfl | rfl
  · rw [a, (pt_at k hr).1]
  · rw [b, (pt_at k hr).2]
theorem Fit.ncr (k : Kn n K) {A : List Nat} (f : Fit n K A) : ncrB K = true := by
  unfold ncrB
  rw [decide_eq_true_eq]
  have N := f.1.Nc
  have nd : K.Nodup := by
    have := k.nd
    clear f N
    have key : ∀ K : List (Nat × Nat), (busyL K).Nodup → K.Nodup := by
      intro K
      induction K with
      | nil => intro _; simp
      | cons t K ih =>
        intro nd
        have e : busyL (t :: K) = [t.1, t.2] ++ busyL K := by simp [busyL]
        rw [e, List.nodup_append] at nd
        rw [List.nodup_cons]
        exact ⟨fun h => nd.2.2 t.1 (by simp) t.1 (mem_busy.mpr ⟨t, h, .inl rfl⟩) rfl, ih nd.2.1⟩
    exact key K this
  refine List.Pairwise.imp_of_mem (R := (· ≠ ·)) ?_ nd
  intro r s hr hs ne
  rw [crs_false]
  have lr := k.lt r hr
  have ls := k.lt s hs
  have ar := f.2 r hr
  have as := f.2 s hs
  have n1 : s.1 ≠ r.1 := fun e => ne (busy_uniq k.nd hr hs (.inl e) (.inl rfl))
  have n2 : s.1 ≠ r.2 := fun e => ne (busy_uniq k.nd hr hs (.inr e) (.inl rfl))
  have := N.nc r.1 s.1 (by omega) (by omega) n1 (by rw [ar]; exact n2)
  rw [ar, as] at this
  exact this
/-- all people known -/
theorem all_known (k : Kn n K) (e : freeL n K = []) (A : List Nat) : Fit n K A ↔ ncrB K = true ∧ A = seat n K := by
  have bz : ∀ p, p < n → p ∈ busyL K := fun p hp => Classical.byContradiction fun h => by
    have : p ∈ freeL n K := mem_free.mpr ⟨hp, h⟩
    rw [e] at this; simp at this
  constructor
  · intro f
    refine ⟨f.ncr k, ?_⟩
    apply List.ext_getElem
    · rw [f.1.len, seat_len]
    · intro i h1 h2
      have hi : i < n := by rw [f.1.len] at h1; exact h1
      have a := f.pt k (bz i hi)
      rw [← seat_pt k (bz i hi)] at a
      simp only [fn, List.getD_eq_getElem?_getD, List.getElem?_eq_getElem h1, List.getElem?_eq_getElem h2, Option.getD_some] at a
      exact a
  · rintro ⟨c, rfl⟩
    have at' : ∀ r ∈ K, fn (seat n K) r.1 = r.2 ∧ fn (seat n K) r.2 = r.1 := fun r hr => by
      rw [seat_pt k (mem_busy.mpr ⟨r, hr, .inl rfl⟩), seat_pt k (mem_busy.mpr ⟨r, hr, .inr rfl⟩)]
      exact pt_at k hr
    have who : ∀ p, p < n → ∃ r ∈ K, (p = r.1 ∧ fn (seat n K) p = r.2) ∨ (p = r.2 ∧ fn (seat n K) p = r.1) := fun p hp => by
      obtain ⟨r, hr, h⟩ := mem_busy.mp (bz p hp)
      rcases h with rfl | rfl
      · exact ⟨r, hr, .inl ⟨rfl, (at' r hr).1⟩⟩
      · exact ⟨r, hr, .inr ⟨rfl, (at' r hr).2⟩⟩
    have cc : ∀ r ∈ K, ∀ s ∈ K, r ≠ s → ((r.1 < s.1 ∧ s.1 < r.2) ↔ (r.1 < s.2 ∧ s.2 < r.2)) := by
      intro r hr s hs ne
      unfold ncrB at c
      rw [decide_eq_true_eq] at c
      have lr := k.lt r hr
      have ls := k.lt s hs
      have n1 : s.1 ≠ r.1 := fun e => ne (busy_uniq k.nd hr hs (.inl e) (.inl rfl))
      have n2 : s.1 ≠ r.2 := fun e => ne (busy_uniq k.nd hr hs (.inr e) (.inl rfl))
      have n3 : s.2 ≠ r.1 := fun e => ne (busy_uniq k.nd hr hs (.inl e) (.inr rfl))
      have n4 : s.2 ≠ r.2 := fun e => ne (busy_uniq k.nd hr hs (.inr e) (.inr rfl))
      have two : crs r s = false ∨ crs s r = false := by
        have : ∀ L : List (Nat × Nat), L.Pairwise (fun r q => crs r q = false) → ∀ r ∈ L, ∀ s ∈ L, r ≠ s → crs r s = false ∨ crs s r = false := by
          intro L
          induction L with
          | nil => intro _ r hr; simp at hr
          | cons t L ih =>
            intro pw r hr s hs ne
            have pw := List.pairwise_cons.mp pw
            rcases List.mem_cons.mp hr with h1 | hr <;> rcases List.mem_cons.mp hs with h2 | hs
            · exact absurd (h1.trans h2.symm) ne
            · rw [h1]; exact .inl (pw.1 s hs)
            · rw [h2]; exact .inr (pw.1 r hr)
            · exact ih pw.2 r hr s hs ne
        exact this K c r hr s hs ne
      rcases two with h | h
      · exact (crs_sm lr.1).mp h
      · have := (crs_sm ls.1).mp h
        omega
    refine ⟨⟨seat_len n K, fun p hp => ?_, fun p hp => ?_, fun p hp => ?_, fun p j hp hj h1 h2 => ?_⟩, fun r hr => (at' r hr).1⟩
    · obtain ⟨r, hr, h⟩ := who p hp
      have := k.lt r hr
      simp only [fn] at h
      omega
    · obtain ⟨r, hr, h⟩ := who p hp
      have := k.lt r hr
      simp only [fn] at h
      omega
    · obtain ⟨r, hr, h⟩ := who p hp
      have := at' r hr
      simp only [fn] at h this
      rcases h with ⟨h1, h2⟩ | ⟨h1, h2⟩
      · rw [h2, h1]; exact this.2
      · rw [h2, h1]; exact this.1
    · obtain ⟨r, hr, h⟩ := who p hp
      obtain ⟨s, hs, h'⟩ := who j hj
      have lr := k.lt r hr
      have ls := k.lt s hs
      simp only [fn] at h h'
      by_cases ne : r = s
      · subst ne
        omega
      · have := cc r hr s hs ne
        omega
end
def complL (n : Nat) : Nat → List (Nat × Nat) → List (List Nat)
  | 0, K => if ncrB K = true then [seat n K] else []
  | f + 1, K => match freeL n K with
    | [] => if ncrB K = true then [seat n K] else []
    | p :: rest => rest.flatMap fun q => complL n f (K ++ [(p, q)])
section
variable {n : Nat}
theorem free_less {K : List (Nat × Nat)} {p q : Nat} {rest : List Nat} (e : freeL n K = p :: rest) (hq : q ∈ rest) : (freeL n (K ++ [(p, q)])).length + 2 = (freeL n K).length := by
  have nd := free_nodup n K
  have h2 : (freeL n (K ++ [(p, q)])).Perm (rest.erase q) := by
    rw [e, List.nodup_cons] at nd
    refine permOf (free_nodup _ _) (nd.2.erase q) fun x => ?_
    rw [mem_free_add, e, List.mem_cons, nd.2.mem_erase_iff]
    constructor
    · rintro ⟨h1 | h1, h2, h3⟩
      · exact absurd h1 h2
      · exact ⟨h3, h1⟩
    · rintro ⟨h1, h2⟩
      exact ⟨.inr h2, fun z => nd.1 (z ▸ h2), h1⟩
  rw [h2.length_eq, e, List.length_erase_of_mem hq, List.length_cons]
  have : 0 < rest.length := List.length_pos_of_mem hq
  omega
theorem grps_nil {K : List (Nat × Nat)} (e : freeL n K = []) : grpsL n K = [] := by simp [grpsL, lowsG, e]
/-- many counts them -/
theorem compl_len (hn : n ≤ 28) : ∀ (f : Nat) (K : List (Nat × Nat)), Kn n K → (freeL n K).length ≤ 2 * f → (complL n f K).length = manyL n K
  | 0, K, k, h => by
    have e : freeL n K = [] := List.length_eq_zero_iff.mp (by omega)
    unfold complL manyL
    rw [grps_nil e]
    by_cases c : ncrB K = true <;> simp [c, prodL]
  | f + 1, K, k, h => by
    unfold complL
    cases e : freeL n K with
    | nil =>
      simp only
      unfold manyL
      rw [grps_nil e]
      by_cases c : ncrB K = true <;> simp [c, prodL]
    | cons p rest =>
      simp only
      rw [many_first k hn e, List.length_flatMap]
      congr 1
      apply List.map_congr_left
      intro q hq
      have so := free_sorted n K
      rw [e] at so
      have hp : p ∈ freeL n K := by rw [e]; simp
      have hq' : q ∈ freeL n K := by rw [e]; simp [hq]
      refine compl_len hn f _ (k.add hp hq' ((List.pairwise_cons.mp so).1 q hq)) ?_
      have := free_less e hq
      omega
theorem mem_compl : ∀ (f : Nat) (K : List (Nat × Nat)), Kn n K → (freeL n K).length ≤ 2 * f → ∀ A, A ∈ complL n f K ↔ Fit n K A
  | 0, K, k, h, A => by
    have e : freeL n K = [] := List.length_eq_zero_iff.mp (by omega)
    rw [all_known k e]
    unfold complL
    by_cases c : ncrB K = true <;> simp [c]
  | f + 1, K, k, h, A => by
    unfold complL
    cases e : freeL n K with
    | nil =>
      rw [all_known k e]
      by_cases c : ncrB K = true <;> simp [c]
    | cons p rest =>
      simp only [List.mem_flatMap]
      have so := free_sorted n K
      rw [e] at so
      have hp : p ∈ freeL n K := by rw [e]; simp
      have kq : ∀ q ∈ rest, Kn n (K ++ [(p, q)]) ∧ (freeL n (K ++ [(p, q)])).length ≤ 2 * f := fun q hq => by
        have := free_less e hq
        exact ⟨k.add hp (by rw [e]; simp [hq]) ((List.pairwise_cons.mp so).1 q hq), by omega⟩
      constructor
      · rintro ⟨q, hq, hA⟩
        have := (mem_compl f _ (kq q hq).1 (kq q hq).2 A).mp hA
        exact ⟨this.1, fun r hr => this.2 r (by simp [hr])⟩
      · intro ft
        have pf := mem_free.mp hp
        have lt := ft.1.lt p pf.1
        have fq : fn A p ∈ freeL n K := by
          refine mem_free.mpr ⟨lt, fun hb => ?_⟩
          obtain ⟨r, hr, h⟩ := mem_busy.mp hb
          have l := k.lt r hr
          have a := ft.2 r hr
          have i := ft.1.inv p pf.1
          simp only [fn] at h a i
          rcases h with h | h
          · rw [h] at i
            exact pf.2 (mem_busy.mpr ⟨r, hr, .inr (by rw [← i]; exact a)⟩)
          · have b := ft.1.inv r.1 (by omega)
            rw [a] at b
            rw [h] at i
            exact pf.2 (mem_busy.mpr ⟨r, hr, .inl (by rw [← i]; exact b)⟩)
        have hq : fn A p ∈ rest := by
          rw [e, List.mem_cons] at fq
          rcases fq with h | h
          · exact absurd h (ft.1.ne p pf.1)
          · exact h
        refine ⟨fn A p, hq, (mem_compl f _ (kq _ hq).1 (kq _ hq).2 A).mpr ⟨ft.1, fun r hr => ?_⟩⟩
        rcases List.mem_append.mp hr with hr | hr
        · exact ft.2 r hr
        · simp at hr; subst hr; rfl
end
end Mini
namespace Mini
open PySem L2
local macro_rules | `(tactic| walk_at "prim") => `(tactic| first | with_reducible assumption | with_reducible exact addP_int _ _ _ _ | with_reducible exact subP_int _ _ _ | with_reducible exact negP_int _ _ | with_reducible exact ltP_nat _ _ _ | with_reducible exact leP_nat _ _ _ | with_reducible exact gtP_nat _ _ _ | with_reducible exact geP_nat _ _ _ | with_reducible exact ltP_int _ _ _ | with_reducible exact leP_int _ _ _ | with_reducible exact gtP_int _ _ _ | with_reducible exact geP_int _ _ _ | with_reducible exact eqT_int _ _ _ | with_reducible exact eqF_int _ _ _ | with_reducible exact tupleP_lv | with_reducible exact sl_from1 | with_reducible exact sl_to1 | with_reducible exact sl_from1T | with_reducible exact sl_to1T | with_reducible exact sl_from | with_reducible exact sl_to | with_reducible exact sl_fromT | with_reducible exact sl_toT | with_reducible exact lenP_ar _ _ _ | with_reducible exact lenP_lv _ _ | with_reducible exact ix_tup0 | with_reducible exact ix_tup1 | with_reducible exact ix_lv0 | with_reducible exact ix_lv1 | with_reducible exact all_true _ _ | with_reducible exact lenP_tup | with_reducible exact modL (by decide) _ | with_reducible exact divL (by decide) _ | exact szl rfl | with_reducible rfl)
local macro_rules | `(tactic| walk_at "st") => `(tactic| first | ((with_reducible apply var_st); exact rfl) | with_reducible exact c_ok | with_reducible exact anil_ok | with_reducible exact onone_ok | with_reducible exact nil_ok | with_reducible apply op_ok | with_reducible apply un_ok | with_reducible apply acons_ok | with_reducible apply call_ok | with_reducible apply own_ok | with_reducible apply set_ok | with_reducible apply ret_to | with_reducible apply seq_then | with_reducible apply b_ok | with_reducible apply tru_ok | with_reducible apply not_ok | with_reducible apply enot_ok | with_reducible apply expr_ok | with_reducible apply if_ok | with_reducible apply osome_ok | with_reducible apply slice_ok | with_reducible apply asg_ok | with_reducible apply asgT_ok | with_reducible apply or_u | with_reducible apply and_u | with_reducible apply eand_u | with_reducible apply eor_u | with_reducible apply par_ok | with_reducible apply par3_ok | with_reducible apply lst_ok | with_reducible apply lstM_ok | with_reducible apply tup_ok | with_reducible apply iteT | with_reducible apply iteF | walk_at "prim")
local macro_rules | `(tactic| walk_at "ev") => `(tactic| repeat walk_at "st")
local macro_rules | `(tactic| walk_at "b") => `(tactic| first | rfl | (rw [decide_eq_false (by omega)]; done) | (rw [decide_eq_true (by omega)]; done) | (rw [decide_eq_false (by omega)]; rfl) | (rw [decide_eq_true (by omega)]; rfl) | (simp; done))
local macro_rules | `(tactic| walk_at "p") => `(tactic| first | walk_at "prim" | (refine (ltP_nat _ _ _).trans ?_; walk_at "b") | (refine (leP_nat _ _ _).trans ?_; walk_at "b") | (refine (gtP_nat _ _ _).trans ?_; walk_at "b") | (refine (geP_nat _ _ _).trans ?_; walk_at "b") | (refine (eqP_ar _ _ _ _).trans ?_; walk_at "b") | (refine (eqT_int _ _ _).trans ?_; walk_at "b") | (refine (eqF_int _ _ _).trans ?_; walk_at "b") | (refine (ltP_int _ _ _).trans ?_; walk_at "b") | (refine (leP_int _ _ _).trans ?_; walk_at "b") | (refine (gtP_int _ _ _).trans ?_; walk_at "b") | (refine (geP_int _ _ _).trans ?_; walk_at "b") | exact modP_int (by omega) _ | rfl)
def prD (m : Bool) (r : Nat × Nat) : D := if m then .lv [.int ((r.1 : Nat) : Int), .int ((r.2 : Nat) : Int)] else .tup [.int ((r.1 : Nat) : Int), .int ((r.2 : Nat) : Int)]
def knD (l m : Bool) (K : List (Nat × Nat)) : D := if l then .lv (K.map (prD m)) else .tup (K.map (prD m))
theorem seq_prD {f : EF} {s : Ev} {h h1 : Hd} {m : Bool} {r : Nat × Nat} (e : f s h = .ok (prD m r) h1) : i_seq f s h = .ok [.int ((r.1 : Nat) : Int), .int ((r.2 : Nat) : Int)] h1 := by cases m <;> simp [i_seq, e, prD]
theorem seq_knD {f : EF} {s : Ev} {h h1 : Hd} {l m : Bool} {K : List (Nat × Nat)} (e : f s h = .ok (knD l m K) h1) : i_seq f s h = .ok (K.map (prD m)) h1 := by cases l <;> simp [i_seq, e, knD]
theorem asV_knD (l m : Bool) (K : List (Nat × Nat)) : asV (knD l m K) = some (l, K.map (prD m)) := by cases l <;> rfl
theorem pat_prD (i j : Nat) (m : Bool) (r : Nat × Nat) (s : Ev) : patD (.tp [.nm i, .nm j]) (prD m r) s = some ((s.set i (some (.int (r.1 : Nat)))).set j (some (.int (r.2 : Nat)))) := by
  cases m <;> simp [prD, patD, patDs, patN]
theorem tuple_prD (m : Bool) (r : Nat × Nat) (h : Hd) : tupleP [prD m r] h = some (PR2 r, h) := by cases m <;> simp [prD, tupleP, asL]
theorem sl_knD (l m : Bool) (K : List (Nat × Nat)) (i : Nat) (h : Hd) : slP false (knD l m K) (some ((i : Nat) : Int)) none h = some (knD l m (K.drop i), h) := by
  cases l
  · simp only [knD, Bool.false_eq_true, if_false]; rw [sl_fromT, List.map_drop]
  · simp only [knD, if_true]; rw [sl_from, List.map_drop]
theorem min_prD (m : Bool) (r : Nat × Nat) (h : Hd) : minP [prD m r] h = some (.int (min ((r.1 : Nat) : Int) ((r.2 : Nat) : Int)), h) := by cases m <;> simp [prD, minP, asS, asL, intsOf]
theorem max_prD (m : Bool) (r : Nat × Nat) (h : Hd) : maxP [prD m r] h = some (.int (max ((r.1 : Nat) : Int) ((r.2 : Nat) : Int)), h) := by cases m <;> simp [prD, maxP, asS, asL, intsOf]
theorem crossD_ok (l m : Bool) (p q : Nat × Nat) (h : Hd) : m_cross [prD l p, prD m q] h = .ok (.bl (crs p q)) h := by
  refine fn_rt' [some (prD l p), some (prD m q), none] ?_ rfl
  refine ret_ok ?_
  have lc := lc_g (own := [2]) (p := .nm 2) (tt := t_b (e_chain ltP ltP (e_call minP (a_cons (e_var 0) a_nil)) (e_var 2) (e_call maxP (a_cons (e_var 0) a_nil)))) (te := e_var 2) (i := i_seq (e_var 1)) (s := [some (prD l p), some (prD m q), none]) (h := h) (h1 := h) (L := [q.1, q.2])
    (fun x => D.int ((x : Nat) : Int)) (fun x => [some (prD l p), some (prD m q), some (D.int ((x : Nat) : Int))]) (fun x => sd p.1 p.2 x) (fun x => D.int ((x : Nat) : Int)) (seq_prD var_ok) (by simp) (fun x _ => ⟨rfl, b_ok (by
      have := chain_ok (g := ltP) (g' := ltP) (s := [some (prD l p), some (prD m q), some (D.int ((x : Nat) : Int))]) (h := h) (call_ok (a1_ok (var_ok (i := 0))) (min_prD l p h)) (var_ok (i := 2)) (call_ok (a1_ok (var_ok (i := 0))) (max_prD l p h)) (ltP_int _ _ _) (ltP_int _ _ _)
      rw [this]
      congr 2
      rw [← Bool.decide_and]
      unfold sd
      rw [decide_eq_decide]
      omega), fun _ => var_ok⟩)
  refine op_ok (call_ok (a1_ok lc) (by simp only [lenP, asS, asL]; rfl)) c_ok ?_
  rw [eqP_int]
  simp only [Bool.false_eq_true, if_false]
  congr 2
  simp only [crs]
  cases e1 : sd p.1 p.2 q.1 <;> cases e2 : sd p.1 p.2 q.2 <;> simp [List.filter_cons, e1, e2]
def crossingL : List (Nat × Nat) → Option ((Nat × Nat) × (Nat × Nat))
  | [] => none
  | r :: K => match K.find? fun s => crs r s with
    | some s => some (r, s)
    | none => crossingL K
theorem crossing_none : ∀ {K : List (Nat × Nat)}, crossingL K = none ↔ ncrB K = true
  | [] => by simp [crossingL, ncrB]
  | r :: K => by
    have ih := crossing_none (K := K)
    unfold ncrB at ih ⊢
    rw [decide_eq_true_eq] at ih ⊢
    rw [crossingL, List.pairwise_cons]
    cases q : K.find? fun s => crs r s with
    | some s =>
      have h1 := List.find?_some q
      have h2 := List.mem_of_find?_eq_some q
      constructor
      · intro h; cases h
      · intro h; rw [h.1 s h2] at h1; cases h1
    | none =>
      simp only
      rw [ih]
      have := List.find?_eq_none.mp q
      constructor
      · intro h; exact ⟨fun s hs => by simpa using this s hs, h⟩
      · intro h; exact h.2
def crossD (K : List (Nat × Nat)) : D := match crossingL K with
  | some (r, s) => .tup [PR2 r, PR2 s]
  | none => .non
theorem for_rt {p : Pat} {b : SF} {d : D} {r : List D} {s s1 : Ev} {h h2 : Hd} {d' : D} (e0 : patD p d s = some s1) (e1 : b s1 h = .ok (.rt d') h2) : forM p b (d :: r) s h = .ok (.rt d') h2 := by simp only [forM, e0, e1]
theorem cross_in (l m : Bool) (r : Nat × Nat) (h : Hd) : ∀ (L : List (Nat × Nat)) (s : Ev), s[2]? = some (some (prD m r)) → 3 < s.length →
    (match L.find? fun t => crs r t with
      | some t => forM (.nm 3) x_crossing_f0 (L.map (prD m)) s h = .ok (.rt (.tup [PR2 r, PR2 t])) h
      | none => ∃ v, forM (.nm 3) x_crossing_f0 (L.map (prD m)) s h = .ok (.nx (s.set 3 v)) h)
  | [], s, _, hl => ⟨s[3], by rw [List.set_getElem_self]; rfl⟩
  | t :: L, s, hs, hl => by
    have v2 : (s.set 3 (some (prD m t)))[2]? = some (some (prD m r)) := by rw [List.getElem?_set_ne (by decide)]; exact hs
    have v3 : (s.set 3 (some (prD m t)))[3]? = some (some (prD m t)) := List.getElem?_set_self hl
    have tst : t_tru (e_own m_cross (a_cons (e_var 2) (a_cons (e_var 3) a_nil))) (s.set 3 (some (prD m t))) h = .ok (crs r t) h := tru_ok (own_ok (acons_ok (var_ok v2) (acons_ok (var_ok v3) anil_ok)) (crossD_ok m m r t h))
    rw [List.find?_cons]
    cases q : crs r t with
    | true =>
      simp only
      rw [q] at tst
      refine for_rt rfl ((if_t tst).trans (ret_ok (tup_ok (acons_ok (call_ok (a1_ok (var_ok v2)) (tuple_prD m r h)) (acons_ok (call_ok (a1_ok (var_ok v3)) (tuple_prD m t h)) anil_ok)) two_sz)))
    | false =>
      simp only
      rw [q] at tst
      have ih := cross_in l m r h L (s.set 3 (some (prD m t))) v2 (by simpa using hl)
      cases z : L.find? fun t => crs r t with
      | some t' =>
        rw [z] at ih
        exact for_cons rfl (if_no tst) ih
      | none =>
        rw [z] at ih
        obtain ⟨v, e⟩ := ih
        exact ⟨v, for_cons rfl (if_no tst) (e.trans (by rw [List.set_set]))⟩
theorem crossing_ok (l m : Bool) (K : List (Nat × Nat)) (hK : K.length ≤ 1000) (h : Hd) : m_crossing [knD l m K] h = .ok (crossD K) h := by
  have loop : (match crossingL K with
      | some (r, t) => forM (.tp [(.nm 1), (.nm 2)]) x_crossing_f1 (enumL 0 (K.map (prD m))) [some (knD l m K), none, none, none] h = .ok (.rt (.tup [PR2 r, PR2 t])) h
      | none => ∃ v1 v2 v3, forM (.tp [(.nm 1), (.nm 2)]) x_crossing_f1 (enumL 0 (K.map (prD m))) [some (knD l m K), none, none, none] h = .ok (.nx [some (knD l m K), v1, v2, v3]) h) := by
    have gen : ∀ (L : List (Nat × Nat)) (k : Nat), K.drop k = L → ∀ v1 v2 v3, (match crossingL L with
      | some (r, t) => forM (.tp [(.nm 1), (.nm 2)]) x_crossing_f1 (enumL k (L.map (prD m))) [some (knD l m K), v1, v2, v3] h = .ok (.rt (.tup [PR2 r, PR2 t])) h
      | none => ∃ v1' v2' v3', forM (.tp [(.nm 1), (.nm 2)]) x_crossing_f1 (enumL k (L.map (prD m))) [some (knD l m K), v1, v2, v3] h = .ok (.nx [some (knD l m K), v1', v2', v3']) h) := by
      intro L
      induction L with
      | nil => intro k _ v1 v2 v3; exact ⟨v1, v2, v3, rfl⟩
      | cons r L ih =>
        intro k ek v1 v2 v3
        have ek' : K.drop (k + 1) = L := by
          have := congrArg List.tail ek
          simpa using this
        have src : i_seq (e_slice false (e_var 0) (o_some (e_op (addP false) (e_var 1) (e_c (D.int 1)))) o_none) [some (knD l m K), some (.int (k : Nat)), some (prD m r), v3] h = .ok (L.map (prD m)) h := by
          refine seq_knD (l := l) (slice_ok var_ok (osome_ok (op_ok var_ok c_ok (addP_int _ _ _ _))) onone_ok ?_)
          rw [show ((k : Nat) : Int) + 1 = ((k + 1 : Nat) : Int) by omega, sl_knD, ek']
        have inner := cross_in l m r h L [some (knD l m K), some (.int (k : Nat)), some (prD m r), v3] rfl (ltb rfl)
        have pd : patD (.tp [(.nm 1), (.nm 2)]) (.tup [.int ((k : Nat) : Int), prD m r]) [some (knD l m K), v1, v2, v3] = some [some (knD l m K), some (.int (k : Nat)), some (prD m r), v3] := patD_two 1 2 _ _ _
        rw [crossingL, List.map_cons, enumL]
        cases z : L.find? fun t => crs r t with
        | some t =>
          rw [z] at inner
          exact for_rt pd ((for_ok src).trans inner)
        | none =>
          rw [z] at inner
          obtain ⟨v, e⟩ := inner
          have ih := ih (k + 1) ek' (some (.int (k : Nat))) (some (prD m r)) v
          simp only
          cases y : crossingL L with
          | some rt =>
            obtain ⟨r', t'⟩ := rt
            rw [y] at ih
            exact for_cons pd ((for_ok src).trans e) ih
          | none =>
            rw [y] at ih
            obtain ⟨a, b, c, e'⟩ := ih
            exact ⟨a, b, c, for_cons pd ((for_ok src).trans e) e'⟩
    exact gen K 0 rfl none none none
  have en : i_enum (a_cons (e_var 0) a_nil) [some (knD l m K), none, none, none] h = .ok (enumL 0 (K.map (prD m))) h := enum_ok (a1_ok var_ok) (asV_knD l m K)
  unfold crossD
  cases z : crossingL K with
  | some rt =>
    obtain ⟨r, t⟩ := rt
    rw [z] at loop
    exact fn_rt' [some (knD l m K), none, none, none] (seq_rt ((for_ok en).trans loop)) rfl
  | none =>
    rw [z] at loop
    obtain ⟨a, b, c, e⟩ := loop
    exact fn_rt' [some (knD l m K), none, none, none] (seq_then ((for_ok en).trans e) (ret_ok c_ok)) rfl
end Mini
namespace Mini
section
variable {n : Nat} {K : List (Nat × Nat)}
theorem ncr_two (k : Kn n K) (c : ncrB K = true) : ∀ r ∈ K, ∀ s ∈ K, r ≠ s → (((r.1 < s.1 ∧ s.1 < r.2) ↔ (r.1 < s.2 ∧ s.2 < r.2)) ∧ s.1 ≠ r.1 ∧ s.1 ≠ r.2 ∧ s.2 ≠ r.1 ∧ s.2 ≠ r.2) := by
  intro r hr s hs ne
  unfold ncrB at c
  rw [decide_eq_true_eq] at c
  have lr := k.lt r hr
  have ls := k.lt s hs
  have n1 : s.1 ≠ r.1 := fun e => ne (busy_uniq k.nd hr hs (.inl e) (.inl rfl))
  have n2 : s.1 ≠ r.2 := fun e => ne (busy_uniq k.nd hr hs (.inr e) (.inl rfl))
  have n3 : s.2 ≠ r.1 := fun e => ne (busy_uniq k.nd hr hs (.inl e) (.inr rfl))
  have n4 : s.2 ≠ r.2 := fun e => ne (busy_uniq k.nd hr hs (.inr e) (.inr rfl))
  have two : crs r s = false ∨ crs s r = false := by
    have : ∀ L : List (Nat × Nat), L.Pairwise (fun r q => crs r q = false) → ∀ r ∈ L, ∀ s ∈ L, r ≠ s → crs r s = false ∨ crs s r = false := by
      intro L
      induction L with
      | nil => intro _ r hr; simp at hr
      | cons t L ih =>
        intro pw r hr s hs ne
        have pw := List.pairwise_cons.mp pw
        rcases List.mem_cons.mp hr with h1 | hr <;> rcases List.mem_cons.mp hs with h2 | hs
        · exact absurd (h1.trans h2.symm) ne
        · rw [h1]; exact .inl (pw.1 s hs)
        · rw [h2]; exact .inr (pw.1 r hr)
        · exact ih pw.2 r hr s hs ne
    exact this K c r hr s hs ne
  refine ⟨?_, n1, n2, n3, n4⟩
  rcases two with h | h
  · exact (crs_sm lr.1).mp h
  · have := (crs_sm ls.1).mp h
    omega
def nearer1 (f : Option (Nat × Nat)) (r : Nat × Nat) : Bool := match f with
  | none => true
  | some g => decide (r.2 - r.1 < g.2 - g.1)
def stepH (p : Nat) (f : Option (Nat × Nat)) (r : Nat × Nat) : Option (Nat × Nat) := if (decide (r.1 < p ∧ p < r.2) && nearer1 f r) = true then some r else f
def homeF (p : Nat) (f : Option (Nat × Nat)) (K : List (Nat × Nat)) : Option (Nat × Nat) := K.foldl (stepH p) f
def homeL (K : List (Nat × Nat)) (p : Nat) : Option (Nat × Nat) := homeF p none K
theorem homeF_some {p : Nat} : ∀ (L : List (Nat × Nat)) (f : Option (Nat × Nat)) {g : Nat × Nat}, homeF p f L = some g → (f = some g ∨ (g ∈ L ∧ g.1 < p ∧ p < g.2)) ∧ (∀ a, f = some a → g.2 - g.1 ≤ a.2 - a.1) ∧ ∀ s ∈ L, s.1 < p → p < s.2 → g.2 - g.1 ≤ s.2 - s.1
  | [], f, g, e => ⟨.inl e, fun a ha => by
    have e : f = some g := e
    rw [ha] at e; cases e; exact Nat.le_refl _, fun s hs => by simp at hs⟩
  | r :: L, f, g, e => by
    have e : homeF p (stepH p f r) L = some g := e
    obtain ⟨h1, h2, h3⟩ := homeF_some L _ e
    unfold stepH at h1 h2
    by_cases c : (decide (r.1 < p ∧ p < r.2) && nearer1 f r) = true
    · rw [if_pos c] at h1 h2
      rw [Bool.and_eq_true, decide_eq_true_eq] at c
      have h2 := h2 r rfl
      refine ⟨?_, fun a ha => ?_, fun s hs s1 s2 => ?_⟩
      · rcases h1 with h1 | ⟨h1, h4⟩
        · cases h1; exact .inr ⟨by simp, c.1⟩
        · exact .inr ⟨by simp [h1], h4⟩
      · subst ha
        have := c.2
        simp only [nearer1, decide_eq_true_eq] at this
        omega
      · rcases List.mem_cons.mp hs with rfl | hs
        · exact h2
        · exact h3 s hs s1 s2
    · rw [if_neg c] at h1 h2
      refine ⟨?_, h2, fun s hs s1 s2 => ?_⟩
      · rcases h1 with h1 | ⟨h1, h4⟩
        · exact .inl h1
        · exact .inr ⟨by simp [h1], h4⟩
      · rcases List.mem_cons.mp hs with rfl | hs
        · cases f with
          | none => simp [nearer1, s1, s2] at c
          | some a =>
            have := h2 a rfl
            simp [nearer1, s1, s2] at c
            omega
        · exact h3 s hs s1 s2
theorem homeF_none {p : Nat} : ∀ (L : List (Nat × Nat)) (f : Option (Nat × Nat)), homeF p f L = none → f = none ∧ ∀ s ∈ L, ¬ (s.1 < p ∧ p < s.2)
  | [], f, e => ⟨e, fun s hs => by simp at hs⟩
  | r :: L, f, e => by
    have e : homeF p (stepH p f r) L = none := e
    obtain ⟨h1, h2⟩ := homeF_none L _ e
    unfold stepH at h1
    by_cases c : (decide (r.1 < p ∧ p < r.2) && nearer1 f r) = true
    · rw [if_pos c] at h1; cases h1
    · rw [if_neg c] at h1
      refine ⟨h1, fun s hs => ?_⟩
      rcases List.mem_cons.mp hs with rfl | hs
      · subst h1
        intro h
        simp [nearer1, h.1, h.2] at c
      · exact h2 s hs
theorem homeF_congr {p q : Nat} : ∀ (L : List (Nat × Nat)) (f : Option (Nat × Nat)), (∀ r ∈ L, (r.1 < p ∧ p < r.2) ↔ (r.1 < q ∧ q < r.2)) → homeF p f L = homeF q f L
  | [], f, _ => rfl
  | r :: L, f, h => by
    have e : stepH p f r = stepH q f r := by
      unfold stepH
      rw [decide_eq_decide.mpr (h r (by simp))]
    show homeF p (stepH p f r) L = homeF q (stepH q f r) L
    rw [e]
    exact homeF_congr L _ fun s hs => h s (by simp [hs])
theorem home_iff (k : Kn n K) (c : ncrB K = true) {p q : Nat} : homeL K p = homeL K q ↔ Sm K p q := by
  refine ⟨fun e => ?_, fun h => homeF_congr K none h⟩
  have key : ∀ p q, homeL K p = homeL K q → ∀ s ∈ K, s.1 < p ∧ p < s.2 → s.1 < q ∧ q < s.2 := by
    intro p q e s hs h
    cases z : homeL K p with
    | none => exact absurd h ((homeF_none K none z).2 s hs)
    | some r =>
      obtain ⟨h1, _, h3⟩ := homeF_some K none z
      rw [e] at z
      obtain ⟨g1, _, g3⟩ := homeF_some K none z
      rcases h1 with h1 | ⟨h1, h4⟩
      · cases h1
      rcases g1 with g1 | ⟨g1, g4⟩
      · cases g1
      by_cases ne : r = s
      · subst ne; exact g4
      · have := h3 s hs h.1 h.2
        have := ncr_two k c r h1 s hs ne
        omega
  intro s hs
  exact ⟨key p q e s hs, key q p e.symm s hs⟩
end
abbrev GL := List (Option (Nat × Nat) × List Nat)
def gix (G : GL) (key : Option (Nat × Nat)) : Option Nat := G.findIdx? fun g => decide (g.1 = key)
def gput (G : GL) (key : Option (Nat × Nat)) (i : Nat) : GL := match gix G key with
  | some j => G.modify j fun g => (g.1, g.2 ++ [i])
  | none => G ++ [(key, [i])]
def gAt (n : Nat) (K : List (Nat × Nat)) (i : Nat) : GL := ((lowsG n K).filter fun a => decide (a < i)).map fun a => (homeL K a, (grp n K a).filter fun x => decide (x < i))
section
variable {n : Nat} {K : List (Nat × Nat)}
theorem lt_succ_filter {L : List Nat} (so : L.Pairwise (· < ·)) (i : Nat) : (L.filter fun x => decide (x < i + 1)) = (L.filter fun x => decide (x < i)) ++ if i ∈ L then [i] else [] := by
  induction L with
  | nil => simp
  | cons x L ih =>
    have so := List.pairwise_cons.mp so
    have ih := ih so.2
    rw [List.filter_cons, List.filter_cons]
    rcases Nat.lt_trichotomy x i with h | h | h
    · rw [if_pos (by simp; omega), if_pos (by simpa using h), ih]
      have : (i ∈ x :: L) ↔ i ∈ L := by
        rw [List.mem_cons]
        exact ⟨fun z => z.elim (fun e => by omega) id, .inr⟩
      simp only [this, List.cons_append]
    · subst h
      have e1 : (L.filter fun y => decide (y < x)) = [] := List.filter_eq_nil_iff.mpr fun y hy => by have := so.1 y hy; simp; omega
      have e2 : (L.filter fun y => decide (y < x + 1)) = [] := List.filter_eq_nil_iff.mpr fun y hy => by have := so.1 y hy; simp; omega
      simp [e1, e2]
    · have ni : i ∉ x :: L := fun z => by
        rcases List.mem_cons.mp z with z | z
        · omega
        · have := so.1 i z; omega
      have ni' : i ∉ L := fun z => ni (by simp [z])
      rw [if_neg (by simp; omega), if_neg (by simp; omega), ih, if_neg ni', if_neg ni]
theorem gAt_zero : gAt n K 0 = [] := by
  unfold gAt
  rw [List.filter_eq_nil_iff.mpr (by simp)]
  rfl
theorem gAt_busy {i : Nat} (hi : i ∉ freeL n K) : gAt n K (i + 1) = gAt n K i := by
  unfold gAt
  rw [lt_succ_filter (L := lowsG n K) (List.Pairwise.filter _ (free_sorted n K)) i, if_neg (fun h => hi (mem_lows.mp h).1), List.append_nil]
  apply List.map_congr_left
  intro a _
  rw [lt_succ_filter (grp_sorted a) i, if_neg (fun h => hi (mem_grp.mp h).1), List.append_nil]
theorem gAt_keys (k : Kn n K) (c : ncrB K = true) {i : Nat} : ((gAt n K i).map (·.1)).Nodup := by
  unfold gAt
  rw [List.map_map, List.nodup_iff_pairwise_ne, List.pairwise_map]
  refine List.Pairwise.imp_of_mem (R := (· < ·)) ?_ (List.Pairwise.filter _ (List.Pairwise.filter _ (free_sorted n K)))
  intro a b ha hb lt e
  have hb := mem_lows.mp (List.mem_filter.mp hb).1
  have ha := mem_lows.mp (List.mem_filter.mp ha).1
  exact hb.2 a ha.1 lt ((home_iff k c).mp e)
theorem gAt_free (k : Kn n K) (c : ncrB K = true) {i : Nat} (hi : i ∈ freeL n K) : gAt n K (i + 1) = gput (gAt n K i) (homeL K i) i := by
  have so : (lowsG n K).Pairwise (· < ·) := List.Pairwise.filter _ (free_sorted n K)
  by_cases lo : i ∈ lowsG n K
  · -- a new group
    have e : gix (gAt n K i) (homeL K i) = none := by
      unfold gix
      rw [List.findIdx?_eq_none_iff]
      intro g hg
      obtain ⟨a, ha, rfl⟩ := List.mem_map.mp hg
      have ha := List.mem_filter.mp ha
      rw [decide_eq_false_iff_not]
      intro e
      exact (mem_lows.mp lo).2 a (mem_lows.mp ha.1).1 (by simpa using ha.2) ((home_iff k c).mp e)
    unfold gput
    rw [e]
    simp only
    conv => lhs; unfold gAt
    rw [lt_succ_filter so i, if_pos lo, List.map_append]
    congr 1
    · unfold gAt
      apply List.map_congr_left
      intro a ha
      have ha := List.mem_filter.mp ha
      rw [lt_succ_filter (grp_sorted a) i, if_neg (fun h => (mem_lows.mp lo).2 a (mem_lows.mp ha.1).1 (by simpa using ha.2) (mem_grp.mp h).2), List.append_nil]
    · simp only [List.map_cons, List.map_nil]
      rw [lt_succ_filter (grp_sorted i) i, if_pos (mem_grp.mpr ⟨hi, .rfl⟩), List.filter_eq_nil_iff.mpr]
      · rfl
      · intro y hy
        have := mem_grp.mp hy
        simp only [decide_eq_true_eq]
        intro lt
        exact (mem_lows.mp lo).2 y this.1 lt this.2.symm
  · -- a group that is there
    obtain ⟨a, ha, sa⟩ := low_exG hi
    have al : a < i := by
      have hm : i ∈ grp n K a := mem_grp.mpr ⟨hi, sa⟩
      rcases Nat.lt_trichotomy a i with h | h | h
      · exact h
      · exact absurd (h ▸ ha) lo
      · exact absurd sa.symm ((mem_lows.mp ha).2 i hi h)
    have ma : (homeL K a, (grp n K a).filter fun x => decide (x < i)) ∈ gAt n K i := List.mem_map.mpr ⟨a, List.mem_filter.mpr ⟨ha, by simpa using al⟩, rfl⟩
    obtain ⟨j, hj, ej⟩ : ∃ j, gix (gAt n K i) (homeL K i) = some j ∧ ∃ (h : j < (gAt n K i).length), ((gAt n K i)[j]).1 = homeL K i := by
      cases z : gix (gAt n K i) (homeL K i) with
      | none =>
        have := List.findIdx?_eq_none_iff.mp z _ ma
        rw [decide_eq_false_iff_not] at this
        exact absurd ((home_iff k c).mpr sa) this
      | some j =>
        obtain ⟨hl, h1, _⟩ := List.findIdx?_eq_some_iff_getElem.mp z
        exact ⟨j, rfl, hl, of_decide_eq_true h1⟩
    obtain ⟨hl, e1⟩ := ej
    unfold gput
    rw [hj]
    simp only
    have len : (gAt n K (i + 1)).length = (gAt n K i).length := by
      unfold gAt
      rw [List.length_map, List.length_map, lt_succ_filter so i, if_neg lo, List.append_nil]
    apply List.ext_getElem
    · rw [List.length_modify, len]
    intro t h1 h2
    rw [List.getElem_modify]
    have ht : t < ((lowsG n K).filter fun a => decide (a < i)).length := by
      have := h1
      rw [len] at this
      unfold gAt at this
      simpa using this
    have ef : ((lowsG n K).filter fun a => decide (a < i + 1)) = (lowsG n K).filter fun a => decide (a < i) := by rw [lt_succ_filter so i, if_neg lo, List.append_nil]
    have ga : ∀ i' (h : t < (gAt n K i').length), ((lowsG n K).filter fun a => decide (a < i')) = ((lowsG n K).filter fun a => decide (a < i)) → (gAt n K i')[t] = (homeL K ((lowsG n K).filter fun a => decide (a < i))[t], (grp n K ((lowsG n K).filter fun a => decide (a < i))[t]).filter fun x => decide (x < i')) := by
      intro i' h e
      have : (gAt n K i')[t]? = some (homeL K ((lowsG n K).filter fun a => decide (a < i))[t], (grp n K ((lowsG n K).filter fun a => decide (a < i))[t]).filter fun x => decide (x < i')) := by
        unfold gAt
        rw [e, List.getElem?_map, List.getElem?_eq_getElem ht]
        rfl
      rw [List.getElem?_eq_getElem h] at this
      exact Option.some.inj this
    rw [ga (i + 1) h1 ef]
    have hti : t < (gAt n K i).length := by rw [← len]; exact h1
    have gt := ga i hti rfl
    generalize ((lowsG n K).filter fun a => decide (a < i))[t] = b at gt
    by_cases q : j = t
    · subst q
      rw [if_pos rfl]
      rw [gt] at e1 ⊢
      simp only at e1 ⊢
      rw [lt_succ_filter (grp_sorted b) i, if_pos (mem_grp.mpr ⟨hi, (home_iff k c).mp e1⟩)]
    · rw [if_neg q, gt]
      rw [lt_succ_filter (grp_sorted b) i, if_neg, List.append_nil]
      intro h
      have e2 : homeL K b = homeL K i := (home_iff k c).mpr (mem_grp.mp h).2
      have e3 : ((gAt n K i)[t]).1 = homeL K i := by rw [gt]; exact e2
      have nd := gAt_keys k c (i := i)
      have g1 : ((gAt n K i).map (·.1))[j]? = some (homeL K i) := by rw [List.getElem?_map, List.getElem?_eq_getElem hl, Option.map_some, e1]
      have g2 : ((gAt n K i).map (·.1))[t]? = some (homeL K i) := by rw [List.getElem?_map, List.getElem?_eq_getElem hti, Option.map_some, e3]
      exact q ((List.getElem?_inj (by simpa using hl) nd).mp (g1.trans g2.symm))
theorem gAt_all : (gAt n K n).map (·.2) = grpsL n K := by
  unfold gAt grpsL
  rw [List.map_map]
  have e : ((lowsG n K).filter fun a => decide (a < n)) = lowsG n K := List.filter_eq_self.mpr fun a ha => by
    have := mem_free.mp (mem_lows.mp ha).1
    simpa using this.1
  rw [e]
  apply List.map_congr_left
  intro a _
  simp only [Function.comp]
  refine List.filter_eq_self.mpr fun x hx => ?_
  have := mem_free.mp (mem_grp.mp hx).1
  simpa using this.1
end
end Mini
namespace Mini
open PySem L2
theorem PS_T2 (L : List (Nat × Nat)) : PS L = T2 (L.map fun p => [((p.1 : Nat) : Int), ((p.2 : Nat) : Int)]) := by simp [PS, T2, I]
theorem lt_two {a b c d : Int} : [a, b] < [c, d] ↔ a < c ∨ (a = c ∧ b < d) := by
  rw [List.cons_lt_cons_iff, List.cons_lt_cons_iff]
  simp
theorem sort_pairs (m : Bool) {L M : List (Nat × Nat)} (pm : L.Perm M) (so : L.Pairwise fun p q => p.1 < q.1 ∨ (p.1 = q.1 ∧ p.2 ≤ q.2)) {x : D} {h : Hd} (hx : asS x h = some (PS M)) : sortP m [x] h = mkL m (PS L) h := by
  rw [PS_T2] at hx ⊢
  refine sort_tups m (pm.map _) ?_ (fun a ha => ?_) hx
  · rw [List.pairwise_map]
    refine so.imp fun {p q} e z => ?_
    rw [lt_two] at z
    omega
  · obtain ⟨p, _, rfl⟩ := List.mem_map.mp ha
    simp
end Mini
namespace Mini
open PySem L2
local macro_rules | `(tactic| walk_at "prim") => `(tactic| first | with_reducible assumption | with_reducible exact addP_int _ _ _ _ | with_reducible exact subP_int _ _ _ | with_reducible exact negP_int _ _ | with_reducible exact ltP_nat _ _ _ | with_reducible exact leP_nat _ _ _ | with_reducible exact gtP_nat _ _ _ | with_reducible exact geP_nat _ _ _ | with_reducible exact ltP_int _ _ _ | with_reducible exact leP_int _ _ _ | with_reducible exact gtP_int _ _ _ | with_reducible exact geP_int _ _ _ | with_reducible exact eqT_int _ _ _ | with_reducible exact eqF_int _ _ _ | with_reducible exact tupleP_lv | with_reducible exact sl_from1 | with_reducible exact sl_to1 | with_reducible exact sl_from1T | with_reducible exact sl_to1T | with_reducible exact sl_from | with_reducible exact sl_to | with_reducible exact sl_fromT | with_reducible exact sl_toT | with_reducible exact lenP_ar _ _ _ | with_reducible exact lenP_lv _ _ | with_reducible exact ix_tup0 | with_reducible exact ix_tup1 | with_reducible exact ix_lv0 | with_reducible exact ix_lv1 | with_reducible exact all_true _ _ | with_reducible exact lenP_tup | with_reducible exact modL (by decide) _ | with_reducible exact divL (by decide) _ | exact szl rfl | with_reducible rfl)
local macro_rules | `(tactic| walk_at "st") => `(tactic| first | ((with_reducible apply var_st); exact rfl) | with_reducible exact c_ok | with_reducible exact anil_ok | with_reducible exact onone_ok | with_reducible exact nil_ok | with_reducible apply op_ok | with_reducible apply un_ok | with_reducible apply acons_ok | with_reducible apply call_ok | with_reducible apply own_ok | with_reducible apply set_ok | with_reducible apply ret_to | with_reducible apply seq_then | with_reducible apply b_ok | with_reducible apply tru_ok | with_reducible apply not_ok | with_reducible apply enot_ok | with_reducible apply expr_ok | with_reducible apply if_ok | with_reducible apply osome_ok | with_reducible apply slice_ok | with_reducible apply asg_ok | with_reducible apply asgT_ok | with_reducible apply or_u | with_reducible apply and_u | with_reducible apply eand_u | with_reducible apply eor_u | with_reducible apply par_ok | with_reducible apply par3_ok | with_reducible apply lst_ok | with_reducible apply lstM_ok | with_reducible apply tup_ok | with_reducible apply iteT | with_reducible apply iteF | walk_at "prim")
local macro_rules | `(tactic| walk_at "ev") => `(tactic| repeat walk_at "st")
local macro_rules | `(tactic| walk_at "b") => `(tactic| first | rfl | (rw [decide_eq_false (by omega)]; done) | (rw [decide_eq_true (by omega)]; done) | (rw [decide_eq_false (by omega)]; rfl) | (rw [decide_eq_true (by omega)]; rfl) | (simp; done))
local macro_rules | `(tactic| walk_at "p") => `(tactic| first | walk_at "prim" | (refine (ltP_nat _ _ _).trans ?_; walk_at "b") | (refine (leP_nat _ _ _).trans ?_; walk_at "b") | (refine (gtP_nat _ _ _).trans ?_; walk_at "b") | (refine (geP_nat _ _ _).trans ?_; walk_at "b") | (refine (eqP_ar _ _ _ _).trans ?_; walk_at "b") | (refine (eqT_int _ _ _).trans ?_; walk_at "b") | (refine (eqF_int _ _ _).trans ?_; walk_at "b") | (refine (ltP_int _ _ _).trans ?_; walk_at "b") | (refine (leP_int _ _ _).trans ?_; walk_at "b") | (refine (gtP_int _ _ _).trans ?_; walk_at "b") | (refine (geP_int _ _ _).trans ?_; walk_at "b") | exact modP_int (by omega) _ | rfl)
def optD : Option (Nat × Nat) → D
  | none => .non
  | some r => PR2 r
theorem noRef_optD (o : Option (Nat × Nat)) : noRef (optD o) = true := by cases o <;> rfl
theorem nk_optD (o : Option (Nat × Nat)) : nkD (optD o) = some (match o with
    | none => NestedKey.none
    | some r => .tup [.num r.1, .num r.2]) := by cases o <;> rfl
theorem nk_inj {a b : Option (Nat × Nat)} : nkD (optD a) = nkD (optD b) ↔ a = b := by
  rw [nk_optD, nk_optD]
  constructor
  · intro e
    cases a with
    | none => cases b with
      | none => rfl
      | some r => simp at e
    | some r => cases b with
      | none => simp at e
      | some s =>
        simp only [Option.some.injEq, NestedKey.tup.injEq, List.cons.injEq, NestedKey.num.injEq] at e
        congr 1
        exact Prod.ext (by omega) (by omega)
  · intro e; rw [e]
theorem okK_optD (o : Option (Nat × Nat)) : okK (optD o) = true := by
  unfold okK
  rw [nk_optD]
  cases o with
  | none => rfl
  | some r => simp [NestedKey.depth, NestedKey.depthAll]
theorem isN_optD (o : Option (Nat × Nat)) (h : Hd) : isNP (optD o) .non h = some (.bl (decide (o = none)), h) := by cases o <;> simp [optD, isNP]
theorem home_loop (m : Bool) (p : Nat) (s0 : Option D) (h : Hd) : ∀ (L : List (Nat × Nat)) (f : Option (Nat × Nat)) (v3 v4 : Option D), (∀ r ∈ L, r.1 < r.2) → (∀ g, f = some g → g.1 < g.2) →
    ∃ v3' v4', forM (.tp [(.nm 3), (.nm 4)]) x_home_f0 (L.map (prD m)) [s0, some (.int (p : Nat)), some (optD f), v3, v4] h = .ok (.nx [s0, some (.int (p : Nat)), some (optD (homeF p f L)), v3', v4']) h
  | [], f, v3, v4, _, _ => ⟨v3, v4, rfl⟩
  | r :: L, f, v3, v4, hL, hf => by
    have lt := hL r (by simp)
    obtain ⟨v3', v4', e⟩ := home_loop m p s0 h L (stepH p f r) (some (.int (r.1 : Nat))) (some (.int (r.2 : Nat))) (fun q hq => hL q (by simp [hq])) (fun g hg => by
      unfold stepH at hg
      split at hg
      · cases hg; exact lt
      · exact hf g hg)
    refine ⟨v3', v4', for_cons (pat_prD 3 4 m r _) (s2 := [s0, some (.int (p : Nat)), some (optD (stepH p f r)), some (.int (r.1 : Nat)), some (.int (r.2 : Nat))]) (h2 := h) ?_ e⟩
    have ch : t_b (e_chain ltP ltP (e_var 3) (e_var 1) (e_var 4)) [s0, some (.int (p : Nat)), some (optD f), some (.int (r.1 : Nat)), some (.int (r.2 : Nat))] h = .ok (decide (r.1 < p ∧ p < r.2)) h := by
      refine b_ok ((chain_ok var_ok var_ok var_ok (ltP_nat _ _ _) (ltP_nat _ _ _)).trans ?_)
      rw [← Bool.decide_and]
    show s_if _ _ _ [s0, some (.int (p : Nat)), some (optD f), some (.int (r.1 : Nat)), some (.int (r.2 : Nat))] h = _
    by_cases c : r.1 < p ∧ p < r.2
    · rw [decide_eq_true c] at ch
      have isn : t_b (e_op isNP (e_var 2) (e_c D.non)) [s0, some (.int (p : Nat)), some (optD f), some (.int (r.1 : Nat)), some (.int (r.2 : Nat))] h = .ok (decide (f = none)) h := b_ok (op_ok var_ok c_ok (isN_optD f h))
      cases f with
      | none =>
        rw [decide_eq_true rfl] at isn
        have st : stepH p none r = some r := by unfold stepH nearer1; rw [if_pos (by simp [c.1, c.2])]
        rw [st]
        exact (if_t ((and_t ch).trans (or_t isn))).trans (set_ok (tup_ok (acons_ok var_ok (acons_ok var_ok anil_ok)) two_sz))
      | some g =>
        have lg := hf g rfl
        rw [decide_eq_false (by simp)] at isn
        have cmp : t_b (e_op ltP (e_op subP (e_var 4) (e_var 3)) (e_op subP (e_op ixP (e_var 2) (e_c (D.int 1))) (e_op ixP (e_var 2) (e_c (D.int 0))))) [s0, some (.int (p : Nat)), some (optD (some g)), some (.int (r.1 : Nat)), some (.int (r.2 : Nat))] h = .ok (decide (r.2 - r.1 < g.2 - g.1)) h := by
          refine b_ok ((op_ok (op_ok var_ok var_ok (subP_int _ _ _)) (op_ok (op_ok var_ok c_ok ix_tup1) (op_ok var_ok c_ok ix_tup0) (subP_int _ _ _)) (ltP_int _ _ _)).trans ?_)
          congr 2
          rw [decide_eq_decide]
          omega
        have st : stepH p (some g) r = if decide (r.2 - r.1 < g.2 - g.1) = true then some r else some g := by
          unfold stepH nearer1
          rw [decide_eq_true c, Bool.true_and]
        rw [st]
        by_cases d : r.2 - r.1 < g.2 - g.1
        · rw [decide_eq_true d] at cmp ⊢
          rw [if_pos rfl]
          exact (if_t ((and_t ch).trans ((or_f isn).trans cmp))).trans (set_ok (tup_ok (acons_ok var_ok (acons_ok var_ok anil_ok)) two_sz))
        · rw [decide_eq_false d] at cmp ⊢
          rw [if_neg (by simp)]
          exact if_no ((and_t ch).trans ((or_f isn).trans cmp))
    · rw [decide_eq_false c] at ch
      have st : stepH p f r = f := by unfold stepH; rw [decide_eq_false c, Bool.false_and, if_neg (by simp)]
      rw [st]
      exact if_no (and_f ch)
theorem home_ok (l m : Bool) {K : List (Nat × Nat)} (hK : ∀ r ∈ K, r.1 < r.2) (p : Nat) (h : Hd) : m_home [knD l m K, .int (p : Nat)] h = .ok (optD (homeL K p)) h := by
  obtain ⟨v3, v4, e⟩ := home_loop m p (some (knD l m K)) h K none none none hK (fun g hg => by cases hg)
  refine fn_rt' [some (knD l m K), some (.int (p : Nat)), none, none, none] ?_ (noRef_optD _)
  exact seq_then (set_ok c_ok) (seq_then ((for_ok (seq_knD var_ok)).trans e) (ret_ok var_ok))
theorem busy_lc {l m : Bool} {K : List (Nat × Nat)} (hK : K.length ≤ 1000) {s : Ev} {h : Hd} {own : List Nat} {a b i : Nat} (hs : s[i]? = some (some (knD l m K))) (ha : a < (wipeD s own).length) (hb : b < ((wipeD ((wipeD s own).set a (some .non)) [b])).length) :
    e_lc2 own (i_seq (e_var i)) (.nm a) t_yes (i_seq (e_var a)) [b] (.nm b) t_yes (e_var b) s h = .ok (.lv (NI (busyL K))) h := by
  have lw : ∀ (x : Option D), (wipeD ((wipeD s own).set a x) [b]).length = (wipeD ((wipeD s own).set a (some .non)) [b]).length := fun x => by
    have : ∀ (s : Ev) (vs : List Nat), (wipeD s vs).length = s.length := fun s vs => by
      induction vs generalizing s with
      | nil => rfl
      | cons v vs ih => simp only [wipeD]; rw [List.length_set, ih]
    rw [this, this]; simp
  refine (lc2_g (L := K) (prD m) (fun r => (wipeD s own).set a (some (prD m r))) (fun _ => true) (fun r => [r.1, r.2]) (fun q : Nat => D.int ((q : Nat) : Int)) (fun r q => (wipeD ((wipeD s own).set a (some (prD m r))) [b]).set b (some (.int ((q : Nat) : Int)))) (fun _ _ => true) (fun _ q => D.int ((q : Nat) : Int)) 2 (seq_knD (var_ok hs)) (by omega) (fun r hr => ?_)).trans ?_
  · refine ⟨by simp, rfl, rfl, fun _ => ⟨seq_prD (var_ok (List.getElem?_set_self ha)), fun q _ => ⟨rfl, rfl, fun _ => var_ok (List.getElem?_set_self (by rw [lw]; exact hb))⟩⟩⟩
  · congr 2
    rw [List.filter_eq_self.mpr (fun _ _ => rfl), NI, busyL, List.map_flatMap]
    rfl
def gK (G : GL) : List D := G.map fun g => optD g.1
def gV (G : GL) : List D := G.map fun g => .tup (NI g.2)
theorem dix_g (G : GL) (key : Option (Nat × Nat)) : dixD (gK G) (optD key) = gix G key := by
  unfold dixD gix gK
  rw [List.findIdx?_map]
  congr 1
  funext g
  simp only [Function.comp]
  rw [decide_eq_decide]
  exact nk_inj
theorem dget_g (G : GL) (key : Option (Nat × Nat)) : dgetD (gK G) (gV G) (optD key) = (gix G key).bind fun j => (G[j]?).map fun g => .tup (NI g.2) := by
  unfold dgetD
  rw [dix_g]
  cases gix G key with
  | none => rfl
  | some j => simp [gV]
theorem gix_lt {G : GL} {key : Option (Nat × Nat)} {j : Nat} (e : gix G key = some j) : j < G.length := (List.findIdx?_eq_some_iff_getElem.mp e).1
theorem dput_g (G : GL) (key : Option (Nat × Nat)) (i : Nat) : dputD (gK G) (gV G) (optD key) (.tup (NI (((gix G key).bind fun j => (G[j]?).map (·.2)).getD [] ++ [i]))) = (gK (gput G key i), gV (gput G key i)) := by
  unfold dputD gput
  rw [dix_g]
  cases z : gix G key with
  | none => simp [gK, gV]
  | some j =>
    have hj := gix_lt z
    simp only [Option.bind_some, List.getElem?_eq_getElem hj, Option.map_some, Option.getD_some]
    refine Prod.ext ?_ ?_
    · simp only [gK]
      apply List.ext_getElem
      · simp
      intro t h1 h2
      simp only [List.getElem_map, List.getElem_modify]
      split <;> rfl
    · simp only [gV]
      apply List.ext_getElem
      · simp
      intro t h1 h2
      rw [List.getElem_set]
      simp only [List.getElem_map, List.getElem_modify]
      by_cases q : j = t
      · subst q; simp
      · simp [q]
end Mini
namespace Mini
open PySem L2
theorem nat_lt_int : ∀ {a b : List Nat}, (a.map (fun x => ((x : Nat) : Int)) < b.map fun x => ((x : Nat) : Int)) ↔ a < b
  | [], [] => by simp
  | [], b :: bs => by simp
  | a :: as, [] => by simp
  | a :: as, b :: bs => by
    rw [List.map_cons, List.map_cons, List.cons_lt_cons_iff, List.cons_lt_cons_iff, nat_lt_int (a := as) (b := bs)]
    have e1 : ((a : Nat) : Int) < b ↔ a < b := by omega
    have e2 : ((a : Nat) : Int) = b ↔ a = b := by omega
    rw [e1, e2]
theorem TT_T2 (L : List (List Nat)) : TT L = T2 (L.map fun r => r.map fun x => ((x : Nat) : Int)) := by
  rw [TT, T2, List.map_map]
  apply List.map_congr_left
  intro r _
  simp only [Function.comp, NI_I]
theorem sort_TT {L M : List (List Nat)} (pm : M.Perm L) (so : M.Pairwise (· < ·)) (ne : ∀ r ∈ L, r ≠ []) {x : D} {h : Hd} (hx : asS x h = some (TT L)) : sortP false [x] h = some (.lv (TT M), h) := by
  rw [TT_T2] at hx ⊢
  rw [sort_tups false (pm.map _) ?_ (fun a ha => ?_) hx]
  · rfl
  · rw [List.pairwise_map]
    exact so.imp fun h => by rw [nat_lt_int]; exact List.not_lt.mpr (List.le_of_lt h)
  · obtain ⟨r, hr, rfl⟩ := List.mem_map.mp ha
    have := ne r hr
    cases r with
    | nil => exact absurd rfl this
    | cons x r => simp
end Mini
namespace Mini
open PySem L2
local macro_rules | `(tactic| walk_at "prim") => `(tactic| first | with_reducible assumption | with_reducible exact addP_int _ _ _ _ | with_reducible exact subP_int _ _ _ | with_reducible exact negP_int _ _ | with_reducible exact ltP_nat _ _ _ | with_reducible exact leP_nat _ _ _ | with_reducible exact gtP_nat _ _ _ | with_reducible exact geP_nat _ _ _ | with_reducible exact ltP_int _ _ _ | with_reducible exact leP_int _ _ _ | with_reducible exact gtP_int _ _ _ | with_reducible exact geP_int _ _ _ | with_reducible exact eqT_int _ _ _ | with_reducible exact eqF_int _ _ _ | with_reducible exact tupleP_lv | with_reducible exact sl_from1 | with_reducible exact sl_to1 | with_reducible exact sl_from1T | with_reducible exact sl_to1T | with_reducible exact sl_from | with_reducible exact sl_to | with_reducible exact sl_fromT | with_reducible exact sl_toT | with_reducible exact lenP_ar _ _ _ | with_reducible exact lenP_lv _ _ | with_reducible exact ix_tup0 | with_reducible exact ix_tup1 | with_reducible exact ix_lv0 | with_reducible exact ix_lv1 | with_reducible exact all_true _ _ | with_reducible exact lenP_tup | with_reducible exact modL (by decide) _ | with_reducible exact divL (by decide) _ | exact szl rfl | with_reducible rfl)
local macro_rules | `(tactic| walk_at "st") => `(tactic| first | ((with_reducible apply var_st); exact rfl) | with_reducible exact c_ok | with_reducible exact anil_ok | with_reducible exact onone_ok | with_reducible exact nil_ok | with_reducible apply op_ok | with_reducible apply un_ok | with_reducible apply acons_ok | with_reducible apply call_ok | with_reducible apply own_ok | with_reducible apply set_ok | with_reducible apply ret_to | with_reducible apply seq_then | with_reducible apply b_ok | with_reducible apply tru_ok | with_reducible apply not_ok | with_reducible apply enot_ok | with_reducible apply expr_ok | with_reducible apply if_ok | with_reducible apply osome_ok | with_reducible apply slice_ok | with_reducible apply asg_ok | with_reducible apply asgT_ok | with_reducible apply or_u | with_reducible apply and_u | with_reducible apply eand_u | with_reducible apply eor_u | with_reducible apply par_ok | with_reducible apply par3_ok | with_reducible apply lst_ok | with_reducible apply lstM_ok | with_reducible apply tup_ok | with_reducible apply iteT | with_reducible apply iteF | walk_at "prim")
local macro_rules | `(tactic| walk_at "ev") => `(tactic| repeat walk_at "st")
local macro_rules | `(tactic| walk_at "b") => `(tactic| first | rfl | (rw [decide_eq_false (by omega)]; done) | (rw [decide_eq_true (by omega)]; done) | (rw [decide_eq_false (by omega)]; rfl) | (rw [decide_eq_true (by omega)]; rfl) | (simp; done))
local macro_rules | `(tactic| walk_at "p") => `(tactic| first | walk_at "prim" | (refine (ltP_nat _ _ _).trans ?_; walk_at "b") | (refine (leP_nat _ _ _).trans ?_; walk_at "b") | (refine (gtP_nat _ _ _).trans ?_; walk_at "b") | (refine (geP_nat _ _ _).trans ?_; walk_at "b") | (refine (eqP_ar _ _ _ _).trans ?_; walk_at "b") | (refine (eqT_int _ _ _).trans ?_; walk_at "b") | (refine (eqF_int _ _ _).trans ?_; walk_at "b") | (refine (ltP_int _ _ _).trans ?_; walk_at "b") | (refine (leP_int _ _ _).trans ?_; walk_at "b") | (refine (gtP_int _ _ _).trans ?_; walk_at "b") | (refine (geP_int _ _ _).trans ?_; walk_at "b") | exact modP_int (by omega) _ | rfl)
theorem inP_NI (neg : Bool) (x : Nat) (L : List Nat) (h : Hd) : inP neg (.int (x : Nat)) (.lv (NI L)) h = some (.bl (if neg then !decide (x ∈ L) else decide (x ∈ L)), h) := inP_enc (α := Nat) neg (by decide) x L h
theorem notin_NI (x : Nat) (L : List Nat) (h : Hd) : inP true (.int (x : Nat)) (.lv (NI L)) h = some (.bl (decide (x ∉ L)), h) := (inP_NI true x L h).trans (by simp)
theorem busy_len (K : List (Nat × Nat)) : (busyL K).length = 2 * K.length := by
  unfold busyL
  induction K with
  | nil => rfl
  | cons r K ih => rw [List.flatMap_cons, List.length_append, ih]; simp; omega
theorem free_len (n : Nat) (K : List (Nat × Nat)) : (freeL n K).length ≤ n := Nat.le_trans (List.length_filter_le _ _) (by simp)
theorem gAt_len (n : Nat) (K : List (Nat × Nat)) (i : Nat) : (gAt n K i).length ≤ n := by
  unfold gAt
  rw [List.length_map]
  exact Nat.le_trans (List.length_filter_le _ _) (Nat.le_trans (List.length_filter_le _ _) (free_len n K))
theorem grp_len (n : Nat) (K : List (Nat × Nat)) (p : Nat) : (grp n K p).length ≤ n := Nat.le_trans (List.length_filter_le _ _) (free_len n K)
theorem gAt_grp {n : Nat} {K : List (Nat × Nat)} {i : Nat} {g : Option (Nat × Nat) × List Nat} (hg : g ∈ gAt n K i) : g.2.length ≤ n := by
  obtain ⟨a, _, rfl⟩ := List.mem_map.mp hg
  exact Nat.le_trans (List.length_filter_le _ _) (grp_len n K a)
theorem Kn.len {n : Nat} {K : List (Nat × Nat)} (k : Kn n K) : K.length ≤ n := by
  have := nodup_le n _ k.nd fun x hx => by
    obtain ⟨r, hr, h⟩ := mem_busy.mp hx
    have := k.lt r hr
    omega
  rw [busy_len] at this
  omega
theorem groups_loop {n : Nat} {K : List (Nat × Nat)} (k : Kn n K) (c : ncrB K = true) (hn : n ≤ 1000) (l m : Bool) (h : Hd) :
    ∃ v4 v5, forM (.nm 4) x_free_groups_f0 (rangeL 0 n) [some (.int (n : Nat)), some (knD l m K), some (.lv (NI (busyL K))), some (.ref h.length), none, none, none] (h ++ [.dct [] []]) = .ok (.nx [some (.int (n : Nat)), some (knD l m K), some (.lv (NI (busyL K))), some (.ref h.length), v4, v5, none]) (h ++ [.dct (gK (gAt n K n)) (gV (gAt n K n))]) := by
  refine for_wp (Q := fun r => ∃ v4 v5, r = .ok (.nx [some (.int (n : Nat)), some (knD l m K), some (.lv (NI (busyL K))), some (.ref h.length), v4, v5, none]) (h ++ [.dct (gK (gAt n K n)) (gV (gAt n K n))])) (fun i s H => H = h ++ [.dct (gK (gAt n K i)) (gV (gAt n K i))] ∧ ∃ v4 v5, s = [some (.int (n : Nat)), some (knD l m K), some (.lv (NI (busyL K))), some (.ref h.length), v4, v5, none]) _ _ _ ⟨(by rw [gAt_zero] : _ = _), none, none, rfl⟩ ?_ ?_
  · rintro i d s H hd ⟨rfl, v4, v5, rfl⟩
    obtain ⟨hi, rfl⟩ := rangeL_at d hd
    refine ⟨[some (.int (n : Nat)), some (knD l m K), some (.lv (NI (busyL K))), some (.ref h.length), some (.int (i : Nat)), v5, none], rfl, .inl ?_⟩
    have tst : t_b (e_op (inP true) (e_var 4) (e_var 2)) [some (.int (n : Nat)), some (knD l m K), some (.lv (NI (busyL K))), some (.ref h.length), some (.int (i : Nat)), v5, none] (h ++ [.dct (gK (gAt n K i)) (gV (gAt n K i))]) = .ok (decide (i ∉ busyL K)) (h ++ [.dct (gK (gAt n K i)) (gV (gAt n K i))]) := b_ok (op_ok var_ok var_ok (notin_NI i (busyL K) _))
    by_cases b : i ∈ busyL K
    · rw [decide_eq_false (by simpa using b)] at tst
      exact ⟨_, _, if_no tst, by rw [gAt_busy (fun z => (mem_free.mp z).2 b)], _, _, rfl⟩
    · rw [decide_eq_true b] at tst
      have hf : i ∈ freeL n K := mem_free.mpr ⟨hi, b⟩
      have ho := home_ok l m (fun r hr => (k.lt r hr).1) i (h ++ [.dct (gK (gAt n K i)) (gV (gAt n K i))])
      generalize hG : gAt n K i = G at ho tst
      have gl : G.length ≤ n := hG ▸ gAt_len n K i
      have hb : ((((gix G (homeL K i)).bind fun j => (G[j]?).map (·.2)).getD []).length ≤ n) := by
        cases z : gix G (homeL K i) with
        | none => simp
        | some j =>
          have hj := gix_lt z
          simp only [Option.bind_some, List.getElem?_eq_getElem hj, Option.map_some, Option.getD_some]
          exact gAt_grp (K := K) (i := i) (by rw [hG]; exact List.getElem_mem hj)
      have dg : dgetP (.ref h.length) [optD (homeL K i), .tup []] (h ++ [.dct (gK G) (gV G)]) = some (.tup (NI (((gix G (homeL K i)).bind fun j => (G[j]?).map (·.2)).getD [])), h ++ [.dct (gK G) (gV G)]) := by
        simp only [dgetP, last_get, okK_optD, if_true, dget_g]
        congr 2
        cases z : gix G (homeL K i) with
        | none => rfl
        | some j =>
          have hj := gix_lt z
          simp only [Option.bind_some, List.getElem?_eq_getElem hj, Option.map_some, Option.getD_some]
      have ad : addP false (.tup (NI (((gix G (homeL K i)).bind fun j => (G[j]?).map (·.2)).getD []))) (.tup [.int (i : Nat)]) (h ++ [.dct (gK G) (gV G)]) = some (.tup (NI ((((gix G (homeL K i)).bind fun j => (G[j]?).map (·.2)).getD []) ++ [i])), h ++ [.dct (gK G) (gV G)]) := by
        rw [catT (by rw [NI_len]; simp; omega), NI_app]; rfl
      have pu : dputP (.ref h.length) (optD (homeL K i)) (.tup (NI ((((gix G (homeL K i)).bind fun j => (G[j]?).map (·.2)).getD []) ++ [i]))) (h ++ [.dct (gK G) (gV G)]) = some (h ++ [.dct (gK (gput G (homeL K i) i)) (gV (gput G (homeL K i) i))]) := by
        have nr : noRef (.tup (NI ((((gix G (homeL K i)).bind fun j => (G[j]?).map (·.2)).getD []) ++ [i]))) = true := by simp only [noRef]; exact noRefs_map (α := Nat) _
        have sz : (gK G).length < sizeLine := by
          rw [gK, List.length_map]
          exact Nat.lt_of_le_of_lt (show _ ≤ 1000 by omega) (by decide)
        simp only [dputP, last_get, okK_optD, noRef_optD, nr, decide_eq_true sz, Bool.and_self, if_true, set_last, dput_g]
      refine ⟨[some (.int (n : Nat)), some (knD l m K), some (.lv (NI (busyL K))), some (.ref h.length), some (.int (i : Nat)), some (optD (homeL K i)), none], h ++ [.dct (gK (gput G (homeL K i) i)) (gV (gput G (homeL K i) i))], ?_, ?_, _, _, rfl⟩
      · refine (if_t tst).trans (seq_then (set_ok (own_ok (acons_ok var_ok (acons_ok var_ok anil_ok)) ho)) (asgT_ok (op_ok (d1 := .tup (NI (((gix G (homeL K i)).bind fun j => (G[j]?).map (·.2)).getD []))) ?_ (tup_ok (acons_ok var_ok anil_ok) one_sz) ad) ?_))
        · have dt : dctTy (.ref h.length) (h ++ [.dct (gK G) (gV G)]) = true := by simp [dctTy]
          have v3 : e_var 3 [some (.int (n : Nat)), some (knD l m K), some (.lv (NI (busyL K))), some (.ref h.length), some (.int (i : Nat)), some (optD (homeL K i)), none] (h ++ [.dct (gK G) (gV G)]) = .ok (.ref h.length) (h ++ [.dct (gK G) (gV G)]) := var_ok
          have ar : a_cons (e_var 5) (a_cons (e_tup a_nil) a_nil) [some (.int (n : Nat)), some (knD l m K), some (.lv (NI (busyL K))), some (.ref h.length), some (.int (i : Nat)), some (optD (homeL K i)), none] (h ++ [.dct (gK G) (gV G)]) = .ok [optD (homeL K i), .tup []] (h ++ [.dct (gK G) (gV G)]) := acons_ok var_ok (acons_ok (tup_ok anil_ok (Nat.zero_le _)) anil_ok)
          show e_dm dgetP (e_var 3) (a_cons (e_var 5) (a_cons (e_tup a_nil) a_nil)) [some (.int (n : Nat)), some (knD l m K), some (.lv (NI (busyL K))), some (.ref h.length), some (.int (i : Nat)), some (optD (homeL K i)), none] (h ++ [.dct (gK G) (gV G)]) = _
          simp only [e_dm, v3, bind_ok, dt, if_true, ar, dg, lift_some]
        · have v3 : e_var 3 [some (.int (n : Nat)), some (knD l m K), some (.lv (NI (busyL K))), some (.ref h.length), some (.int (i : Nat)), some (optD (homeL K i)), none] (h ++ [.dct (gK G) (gV G)]) = .ok (.ref h.length) (h ++ [.dct (gK G) (gV G)]) := var_ok
          have v5 : e_var 5 [some (.int (n : Nat)), some (knD l m K), some (.lv (NI (busyL K))), some (.ref h.length), some (.int (i : Nat)), some (optD (homeL K i)), none] (h ++ [.dct (gK G) (gV G)]) = .ok (optD (homeL K i)) (h ++ [.dct (gK G) (gV G)]) := var_ok
          show g_sub dputP (e_var 3) (e_var 5) _ [some (.int (n : Nat)), some (knD l m K), some (.lv (NI (busyL K))), some (.ref h.length), some (.int (i : Nat)), some (optD (homeL K i)), none] (h ++ [.dct (gK G) (gV G)]) = _
          simp only [g_sub, v3, bind_ok, v5, pu]
      · rw [gAt_free k c hf, hG]
  · rintro s H ⟨rfl, v4, v5, rfl⟩
    rw [rangeL_len]
    exact ⟨v4, v5, rfl⟩
theorem gV_TT {n : Nat} {K : List (Nat × Nat)} : gV (gAt n K n) = TT (grpsL n K) := by
  rw [← gAt_all, gV, TT, List.map_map]; rfl
theorem grps_ne {n : Nat} {K : List (Nat × Nat)} : ∀ R ∈ grpsL n K, R ≠ [] := fun R hR e => by
  obtain ⟨p, hp, rfl⟩ := mem_grps.mp hR
  have : p ∈ grp n K p := mem_grp.mpr ⟨hp, .rfl⟩
  rw [e] at this
  simp at this
theorem grp_low {n : Nat} {K : List (Nat × Nat)} {a : Nat} (h : a ∈ lowsG n K) : ∃ r, grp n K a = a :: r := by
  have hl := mem_lows.mp h
  have hm : a ∈ grp n K a := mem_grp.mpr ⟨hl.1, .rfl⟩
  have so := grp_sorted (n := n) (K := K) a
  cases e : grp n K a with
  | nil => rw [e] at hm; simp at hm
  | cons x r =>
    rw [e] at hm so
    rcases List.mem_cons.mp hm with z | z
    · rw [z]; exact ⟨r, rfl⟩
    · have lt := (List.pairwise_cons.mp so).1 a z
      have hx : x ∈ grp n K a := by rw [e]; simp
      have hx := mem_grp.mp hx
      exact absurd hx.2.symm (hl.2 x hx.1 lt)
theorem grps_lex {n : Nat} {K : List (Nat × Nat)} : (grpsL n K).Pairwise (· < ·) := by
  rw [grpsL, List.pairwise_map]
  refine List.Pairwise.imp_of_mem (R := (· < ·)) ?_ (List.Pairwise.filter _ (free_sorted n K))
  intro a b ha hb lt
  obtain ⟨r, e1⟩ := grp_low ha
  obtain ⟨s, e2⟩ := grp_low hb
  rw [e1, e2]
  exact List.cons_lt_cons_iff.mpr (.inl lt)
theorem free_groups_ok {n : Nat} {K : List (Nat × Nat)} (k : Kn n K) (c : ncrB K = true) (hn : n ≤ 1000) (l m : Bool) (h : Hd) : m_free_groups [.int (n : Nat), knD l m K] h = .ok (.lv (TT (grpsL n K))) h := by
  obtain ⟨v4, v5, e⟩ := groups_loop k c hn l m h
  rw [gV_TT] at e
  have kl := k.len
  have sv : e_svals false (e_var 3) [some (.int (n : Nat)), some (knD l m K), some (.lv (NI (busyL K))), some (.ref h.length), v4, v5, none] (h ++ [.dct (gK (gAt n K n)) (TT (grpsL n K))]) = .ok (.lv (TT (grpsL n K))) (h ++ [.dct (gK (gAt n K n)) (TT (grpsL n K))]) := by
    have v3 : e_var 3 [some (.int (n : Nat)), some (knD l m K), some (.lv (NI (busyL K))), some (.ref h.length), v4, v5, none] (h ++ [.dct (gK (gAt n K n)) (TT (grpsL n K))]) = .ok (.ref h.length) (h ++ [.dct (gK (gAt n K n)) (TT (grpsL n K))]) := var_ok
    simp only [e_svals, v3, bind_ok, last_get]
    rw [sort_TT (.refl _) grps_lex grps_ne rfl, lift_some]
  refine fn_v (h' := [.dct (gK (gAt n K n)) (TT (grpsL n K))]) [some (.int (n : Nat)), some (knD l m K), none, none, none, none, none] ?_ (by simp only [noRef]; exact noRefs_TT _)
  refine seq_then (par_ok (acons_ok (busy_lc (by omega) rfl (ltb rfl) (ltb rfl)) (acons_ok (f1 := e_dnew) rfl anil_ok))) (seq_then ((for_ok (rng_ok (n := n) (a1_ok var_ok) (by omega))).trans e) (ret_ok sv))
end Mini
namespace Mini
section
variable {n : Nat} {K L : List (Nat × Nat)}
theorem busy_perm (h : K.Perm L) : (busyL K).Perm (busyL L) := by
  unfold busyL
  exact h.flatMap_right _
theorem Kn.perm (k : Kn n K) (h : K.Perm L) : Kn n L := ⟨fun r hr => k.lt r (h.mem_iff.mpr hr), (busy_perm h).nodup_iff.mp k.nd⟩
theorem free_perm (h : K.Perm L) : freeL n K = freeL n L := by
  unfold freeL
  apply List.filter_congr
  intro x _
  rw [decide_eq_decide.mpr (busy_perm h).mem_iff]
theorem sm_perm (h : K.Perm L) {p q : Nat} : Sm K p q ↔ Sm L p q := ⟨fun s r hr => s r (h.mem_iff.mpr hr), fun s r hr => s r (h.mem_iff.mp hr)⟩
theorem grp_perm (h : K.Perm L) (p : Nat) : grp n K p = grp n L p := by
  unfold grp
  rw [free_perm h]
  apply List.filter_congr
  intro x _
  rw [decide_eq_decide.mpr (sm_perm h)]
theorem grps_perm (h : K.Perm L) : grpsL n K = grpsL n L := by
  unfold grpsL lowsG
  rw [free_perm h, show grp n K = grp n L from funext (grp_perm h)]
  congr 1
  apply List.filter_congr
  intro x _
  rw [decide_eq_decide]
  simp only [sm_perm h]
theorem ncr_iff (k : Kn n K) : ncrB K = true ↔ ∀ r ∈ K, ∀ s ∈ K, r ≠ s → ((r.1 < s.1 ∧ s.1 < r.2) ↔ (r.1 < s.2 ∧ s.2 < r.2)) := by
  refine ⟨fun c r hr s hs ne => (ncr_two k c r hr s hs ne).1, fun h => ?_⟩
  unfold ncrB
  rw [decide_eq_true_eq]
  have nd : ∀ K : List (Nat × Nat), (busyL K).Nodup → K.Nodup := by
    intro K
    induction K with
    | nil => intro _; simp
    | cons t K ih =>
      intro nd
      have e : busyL (t :: K) = [t.1, t.2] ++ busyL K := by simp [busyL]
      rw [e, List.nodup_append] at nd
      rw [List.nodup_cons]
      exact ⟨fun h => nd.2.2 t.1 (by simp) t.1 (mem_busy.mpr ⟨t, h, .inl rfl⟩) rfl, ih nd.2.1⟩
  refine List.Pairwise.imp_of_mem (R := (· ≠ ·)) ?_ (nd K k.nd)
  intro r s hr hs ne
  exact (crs_sm (k.lt r hr).1).mpr (h r hr s hs ne)
theorem ncr_perm (k : Kn n K) (h : K.Perm L) : ncrB K = ncrB L := by
  rw [Bool.eq_iff_iff, ncr_iff k, ncr_iff (k.perm h)]
  constructor
  · intro z r hr s hs; exact z r (h.mem_iff.mpr hr) s (h.mem_iff.mpr hs)
  · intro z r hr s hs; exact z r (h.mem_iff.mp hr) s (h.mem_iff.mp hs)
theorem many_perm (k : Kn n K) (h : K.Perm L) : manyL n K = manyL n L := by
  unfold manyL
  rw [ncr_perm k h, grps_perm h]
def leP2 (p q : Nat × Nat) : Bool := decide (p.1 < q.1 ∨ (p.1 = q.1 ∧ p.2 ≤ q.2))
def srtP (L : List (Nat × Nat)) : List (Nat × Nat) := L.mergeSort leP2
theorem srtP_perm (L : List (Nat × Nat)) : (srtP L).Perm L := List.mergeSort_perm L _
theorem srtP_le (L : List (Nat × Nat)) : (srtP L).Pairwise fun p q => p.1 < q.1 ∨ (p.1 = q.1 ∧ p.2 ≤ q.2) := by
  have := List.pairwise_mergeSort (le := leP2) (fun a b c h1 h2 => by simp [leP2] at *; omega) (fun a b => by simp [leP2]; omega) L
  exact this.imp fun h => by simpa [leP2] using h
def wpL (K : List (Nat × Nat)) (a b : Nat) : List (Nat × Nat) := srtP (K ++ [(min a b, max a b)])
theorem lex_at {A B : List Nat} {p : Nat} (la : A.length = n) (lb : B.length = n) (hp : p < n) (eq : ∀ x, x < p → fn A x = fn B x) (lt : fn A p < fn B p) : A < B := by
  rw [List.lt_iff_exists]
  right
  refine ⟨p, by omega, by omega, fun j hj => ?_, ?_⟩
  · have := eq j hj
    simpa [fn, List.getD_eq_getElem?_getD, List.getElem?_eq_getElem (show j < A.length by omega), List.getElem?_eq_getElem (show j < B.length by omega)] using this
  · simpa [fn, List.getD_eq_getElem?_getD, List.getElem?_eq_getElem (show p < A.length by omega), List.getElem?_eq_getElem (show p < B.length by omega)] using lt
theorem compl_lex : ∀ (f : Nat) (K : List (Nat × Nat)), Kn n K → (freeL n K).length ≤ 2 * f → (complL n f K).Pairwise (· < ·)
  | 0, K, _, _ => by unfold complL; split <;> simp
  | f + 1, K, k, h => by
    unfold complL
    cases e : freeL n K with
    | nil => simp only; split <;> simp
    | cons p rest =>
      simp only
      have so := free_sorted n K
      rw [e] at so
      have so := List.pairwise_cons.mp so
      have hp : p ∈ freeL n K := by rw [e]; simp
      have kq : ∀ q ∈ rest, Kn n (K ++ [(p, q)]) ∧ (freeL n (K ++ [(p, q)])).length ≤ 2 * f := fun q hq => by
        have := free_less e hq
        exact ⟨k.add hp (by rw [e]; simp [hq]) (so.1 q hq), by omega⟩
      rw [List.pairwise_flatMap]
      refine ⟨fun q hq => compl_lex f _ (kq q hq).1 (kq q hq).2, ?_⟩
      refine List.Pairwise.imp_of_mem (R := (· < ·)) ?_ so.2
      intro q q' hq hq' lt A hA B hB
      have fa := (mem_compl f _ (kq q hq).1 (kq q hq).2 A).mp hA
      have fb := (mem_compl f _ (kq q' hq').1 (kq q' hq').2 B).mp hB
      have ea := fa.2 (p, q) (by simp)
      have eb := fb.2 (p, q') (by simp)
      have pf := mem_free.mp hp
      refine lex_at fa.1.len fb.1.len pf.1 (fun x hx => ?_) (by simp only at ea eb; rw [ea, eb]; exact lt)
      have bx : x ∈ busyL K := Classical.byContradiction fun z => by
        have : x ∈ freeL n K := mem_free.mpr ⟨by omega, z⟩
        rw [e] at this
        rcases List.mem_cons.mp this with z | z
        · omega
        · have := so.1 x z; omega
      have ga : Fit n K A := ⟨fa.1, fun r hr => fa.2 r (by simp [hr])⟩
      have gb : Fit n K B := ⟨fb.1, fun r hr => fb.2 r (by simp [hr])⟩
      rw [ga.pt k bx, gb.pt k bx]
/-- the fitting arrangements, ascending -/
def fitsL (n : Nat) (K : List (Nat × Nat)) : List (List Nat) := complL n n K
theorem free_le (n : Nat) (K : List (Nat × Nat)) : (freeL n K).length ≤ n := Nat.le_trans (List.length_filter_le _ _) (by simp)
theorem mem_fits (k : Kn n K) {A : List Nat} : A ∈ fitsL n K ↔ Fit n K A := mem_compl n K k (by have := free_le n K; omega) A
theorem fits_lex (k : Kn n K) : (fitsL n K).Pairwise (· < ·) := compl_lex n K k (by have := free_le n K; omega)
theorem fits_len (k : Kn n K) (hn : n ≤ 28) : (fitsL n K).length = manyL n K := compl_len hn n K k (by have := free_le n K; omega)
theorem lex_nodup' {L : List (List Nat)} (h : L.Pairwise (· < ·)) : L.Nodup := h.imp fun {a b} lt e => by rw [e] at lt; exact List.lt_irrefl _ lt
end
end Mini
namespace Mini
open PySem L2
local macro_rules | `(tactic| walk_at "prim") => `(tactic| first | with_reducible assumption | with_reducible exact addP_int _ _ _ _ | with_reducible exact subP_int _ _ _ | with_reducible exact negP_int _ _ | with_reducible exact ltP_nat _ _ _ | with_reducible exact leP_nat _ _ _ | with_reducible exact gtP_nat _ _ _ | with_reducible exact geP_nat _ _ _ | with_reducible exact ltP_int _ _ _ | with_reducible exact leP_int _ _ _ | with_reducible exact gtP_int _ _ _ | with_reducible exact geP_int _ _ _ | with_reducible exact eqT_int _ _ _ | with_reducible exact eqF_int _ _ _ | with_reducible exact tupleP_lv | with_reducible exact sl_from1 | with_reducible exact sl_to1 | with_reducible exact sl_from1T | with_reducible exact sl_to1T | with_reducible exact sl_from | with_reducible exact sl_to | with_reducible exact sl_fromT | with_reducible exact sl_toT | with_reducible exact lenP_ar _ _ _ | with_reducible exact lenP_lv _ _ | with_reducible exact ix_tup0 | with_reducible exact ix_tup1 | with_reducible exact ix_lv0 | with_reducible exact ix_lv1 | with_reducible exact all_true _ _ | with_reducible exact lenP_tup | with_reducible exact modL (by decide) _ | with_reducible exact divL (by decide) _ | exact szl rfl | with_reducible rfl)
local macro_rules | `(tactic| walk_at "st") => `(tactic| first | ((with_reducible apply var_st); exact rfl) | with_reducible exact c_ok | with_reducible exact anil_ok | with_reducible exact onone_ok | with_reducible exact nil_ok | with_reducible apply op_ok | with_reducible apply un_ok | with_reducible apply acons_ok | with_reducible apply call_ok | with_reducible apply own_ok | with_reducible apply set_ok | with_reducible apply ret_to | with_reducible apply seq_then | with_reducible apply b_ok | with_reducible apply tru_ok | with_reducible apply not_ok | with_reducible apply enot_ok | with_reducible apply expr_ok | with_reducible apply if_ok | with_reducible apply osome_ok | with_reducible apply slice_ok | with_reducible apply asg_ok | with_reducible apply asgT_ok | with_reducible apply or_u | with_reducible apply and_u | with_reducible apply eand_u | with_reducible apply eor_u | with_reducible apply par_ok | with_reducible apply par3_ok | with_reducible apply lst_ok | with_reducible apply lstM_ok | with_reducible apply tup_ok | with_reducible apply iteT | with_reducible apply iteF | walk_at "prim")
local macro_rules | `(tactic| walk_at "ev") => `(tactic| repeat walk_at "st")
local macro_rules | `(tactic| walk_at "b") => `(tactic| first | rfl | (rw [decide_eq_false (by omega)]; done) | (rw [decide_eq_true (by omega)]; done) | (rw [decide_eq_false (by omega)]; rfl) | (rw [decide_eq_true (by omega)]; rfl) | (simp; done))
local macro_rules | `(tactic| walk_at "p") => `(tactic| first | walk_at "prim" | (refine (ltP_nat _ _ _).trans ?_; walk_at "b") | (refine (leP_nat _ _ _).trans ?_; walk_at "b") | (refine (gtP_nat _ _ _).trans ?_; walk_at "b") | (refine (geP_nat _ _ _).trans ?_; walk_at "b") | (refine (eqP_ar _ _ _ _).trans ?_; walk_at "b") | (refine (eqT_int _ _ _).trans ?_; walk_at "b") | (refine (eqF_int _ _ _).trans ?_; walk_at "b") | (refine (ltP_int _ _ _).trans ?_; walk_at "b") | (refine (leP_int _ _ _).trans ?_; walk_at "b") | (refine (gtP_int _ _ _).trans ?_; walk_at "b") | (refine (geP_int _ _ _).trans ?_; walk_at "b") | exact modP_int (by omega) _ | rfl)
def oddB (g : List Nat) : Bool := decide (g.length % 2 = 1)
def evD (n : Nat) (K : List (Nat × Nat)) : D := match crossingL K with
  | some (r, s) => .tup [.str (Str.ofString "cross"), PR2 r, PR2 s]
  | none => match (grpsL n K).find? oddB with
    | some g => .tup [.str (Str.ofString "odd"), .tup (NI g)]
    | none => .non
theorem notN_crossD (K : List (Nat × Nat)) (h : Hd) : notNP (crossD K) .non h = some (.bl (!ncrB K), h) := by
  unfold crossD
  cases e : crossingL K with
  | none =>
    have : ncrB K = true := crossing_none.mp e
    simp [notNP, this]
  | some rt =>
    obtain ⟨r, t⟩ := rt
    have : ncrB K = false := by
      cases z : ncrB K with
      | false => rfl
      | true => rw [crossing_none.mpr z] at e; cases e
    simp [notNP, this]
theorem ev_loop (n : Nat) (s0 s1 s2 : Option D) (h : Hd) : ∀ (L : List (List Nat)) (v3 : Option D), (match L.find? oddB with
    | some g => forM (.nm 3) x_evidence_f0 (TT L) [s0, s1, s2, v3] h = .ok (.rt (.tup [.str (Str.ofString "odd"), .tup (NI g)])) h
    | none => ∃ v3', forM (.nm 3) x_evidence_f0 (TT L) [s0, s1, s2, v3] h = .ok (.nx [s0, s1, s2, v3']) h)
  | [], v3 => ⟨v3, rfl⟩
  | g :: L, v3 => by
    have ih := ev_loop n s0 s1 s2 h L (some (.tup (NI g)))
    have tst : t_b (e_op (eqP false) (e_op modP (e_call lenP (a_cons (e_var 3) a_nil)) (e_c (D.int 2))) (e_c (D.int 1))) [s0, s1, s2, some (.tup (NI g))] h = .ok (oddB g) h := by
      refine b_ok ((op_ok (op_ok (call_ok (a1_ok var_ok) lenP_tup) c_ok (modL (by decide) _)) c_ok (eqF_int _ _ _)).trans ?_)
      congr 2
      unfold oddB
      rw [decide_eq_decide, NI_len]
      omega
    rw [List.find?_cons]
    cases q : oddB g with
    | true =>
      rw [q] at tst
      exact for_rt (s1 := [s0, s1, s2, some (.tup (NI g))]) rfl ((if_t tst).trans (ret_ok (tup_ok (acons_ok c_ok (acons_ok var_ok anil_ok)) two_sz)))
    | false =>
      rw [q] at tst
      simp only
      cases z : L.find? oddB with
      | some g' => rw [z] at ih; exact for_cons (s1 := [s0, s1, s2, some (.tup (NI g))]) rfl (if_no tst) ih
      | none => rw [z] at ih; obtain ⟨v, e⟩ := ih; exact ⟨v, for_cons (s1 := [s0, s1, s2, some (.tup (NI g))]) rfl (if_no tst) e⟩
theorem noRef_evD (n : Nat) (K : List (Nat × Nat)) : noRef (evD n K) = true := by
  unfold evD
  split
  · rfl
  · split
    · simp only [noRef, noRefs, Bool.true_and, Bool.and_true]; exact noRefs_map (α := Nat) _
    · rfl
theorem evidence_ok {n : Nat} {K : List (Nat × Nat)} (k : Kn n K) (hn : n ≤ 1000) (l m : Bool) (h : Hd) : m_evidence [.int (n : Nat), knD l m K] h = .ok (evD n K) h := by
  have kl := k.len
  refine fn_rt' [some (.int (n : Nat)), some (knD l m K), none, none] ?_ (noRef_evD n K)
  have cr := crossing_ok l m K (by omega) h
  have nn := notN_crossD K h
  unfold evD
  cases e : crossingL K with
  | some rt =>
    obtain ⟨r, t⟩ := rt
    have nc : ncrB K = false := by
      cases z : ncrB K with
      | false => rfl
      | true => rw [crossing_none.mpr z] at e; cases e
    rw [nc] at nn
    have cd : crossD K = .tup [PR2 r, PR2 t] := by unfold crossD; rw [e]
    rw [cd] at cr nn
    exact seq_then (set_ok (own_ok (a1_ok var_ok) cr)) (seq_rt ((if_t (b_ok (op_ok var_ok c_ok nn))).trans (ret_ok (op_ok (tup_ok (acons_ok c_ok anil_ok) one_sz) var_ok (catT (by simp))))))
  | none =>
    have c := crossing_none.mp e
    rw [c] at nn
    have lp := ev_loop n (some (.int (n : Nat))) (some (knD l m K)) (some (crossD K)) h (grpsL n K) none
    have fg := free_groups_ok k c hn l m h
    have src : i_seq (e_own m_free_groups (a_cons (e_var 0) (a_cons (e_var 1) a_nil))) [some (.int (n : Nat)), some (knD l m K), some (crossD K), none] h = .ok (TT (grpsL n K)) h := seq_lv (own_ok (acons_ok var_ok (acons_ok var_ok anil_ok)) fg)
    simp only
    cases z : (grpsL n K).find? oddB with
    | some g =>
      rw [z] at lp
      exact seq_then (set_ok (own_ok (a1_ok var_ok) cr)) (seq_then (if_no (b_ok (op_ok var_ok c_ok nn))) (seq_rt ((for_ok src).trans lp)))
    | none =>
      rw [z] at lp
      obtain ⟨v, el⟩ := lp
      exact seq_then (set_ok (own_ok (a1_ok var_ok) cr)) (seq_then (if_no (b_ok (op_ok var_ok c_ok nn))) (seq_then ((for_ok src).trans el) (ret_ok c_ok)))
theorem ev_none {n : Nat} {K : List (Nat × Nat)} : evD n K = .non ↔ ncrB K = true ∧ ∀ g ∈ grpsL n K, g.length % 2 = 0 := by
  unfold evD
  cases e : crossingL K with
  | some rt =>
    obtain ⟨r, t⟩ := rt
    simp only
    constructor
    · intro h; cases h
    · intro h; rw [crossing_none.mpr h.1] at e; cases e
  | none =>
    have c := crossing_none.mp e
    simp only
    cases z : (grpsL n K).find? oddB with
    | some g =>
      have h1 := List.find?_some z
      have h2 := List.mem_of_find?_eq_some z
      simp only
      constructor
      · intro h; cases h
      · intro h
        have := h.2 g h2
        simp [oddB] at h1
        omega
    | none =>
      have := List.find?_eq_none.mp z
      simp only [true_iff]
      exact ⟨c, fun g hg => by have := this g hg; simp [oddB] at this; omega⟩
theorem cat_loop (k0 : Option D) (h : Hd) : ∀ (j i : Nat) (v2 : Option D), i + j ≤ 1000 → ∃ v2', forM (.nm 2) x_catalan_f0 (rangeL (i : Nat) j) [k0, some (.int (catL i : Nat)), v2] h = .ok (.nx [k0, some (.int (catL (i + j) : Nat)), v2']) h
  | 0, i, v2, _ => ⟨v2, rfl⟩
  | j + 1, i, v2, hj => by
    obtain ⟨v', e⟩ := cat_loop k0 h j (i + 1) (some (.int (i : Nat))) (by omega)
    refine ⟨v', ?_⟩
    rw [rangeL, show i + (j + 1) = i + 1 + j by omega]
    refine for_cons (s1 := [k0, some (.int (catL i : Nat)), some (.int (i : Nat))]) (s2 := [k0, some (.int (catL (i + 1) : Nat)), some (.int (i : Nat))]) (h2 := h) rfl ?_ (by rw [show ((i : Nat) : Int) + 1 = ((i + 1 : Nat) : Int) by omega]; exact e)
    have e2 : (((catL i : Nat) : Int) * 2 * (2 * ((i : Nat) : Int) + 1)) / (((i : Nat) : Int) + 2) = ((catL (i + 1) : Nat) : Int) := by
      show _ = ((catL i * 2 * (2 * i + 1) / (i + 2) : Nat) : Int)
      rw [Int.natCast_ediv, Int.natCast_mul, Int.natCast_mul]
      congr 1
    have i3 : in64 (2 * ((i : Nat) : Int) + 1) = true := in64_of (by omega) (by omega)
    have lg : (((i : Nat) : Int) + 2).natAbs.log2 < 9000 := by
      have : (((i : Nat) : Int) + 2).natAbs = i + 2 := by omega
      rw [this]
      exact Nat.lt_of_le_of_lt (Nat.log2_le_self _) (by omega)
    have st := op_ok (s := [k0, some (.int (catL i : Nat)), some (.int (i : Nat))]) (op_ok (op_ok (var_ok (i := 1)) c_ok (mulN (by rw [i2]; simp) false h)) (op_ok (op_ok c_ok (var_ok (i := 2)) (mulN (by rw [i2]; simp) false h)) c_ok (addP_int false _ _ _)) (mulN (by rw [i3]; simp) false h)) (op_ok (var_ok (i := 2)) c_ok (addP_int false _ _ _)) (divL ⟨by omega, lg⟩ h)
    exact (set_ok st).trans (by rw [e2]; rfl)
theorem catalan_ok {k : Nat} (hk : k ≤ 1000) (h : Hd) : m_catalan [.int (k : Nat)] h = .ok (.int (catL k : Nat)) h := by
  obtain ⟨v, e⟩ := cat_loop (some (.int (k : Nat))) h k 0 none (by omega)
  rw [Nat.zero_add] at e
  exact fn_rt' [some (.int (k : Nat)), none, none] (seq_then (set_ok c_ok) (seq_then ((for_ok (rng_ok (n := k) (a1_ok var_ok) (by omega))).trans e) (ret_ok var_ok))) rfl
theorem cat_small : ∀ k, k ≤ 14 → catL k < 10000000 := by decide
theorem many_loop (s0 s1 : Option D) (h : Hd) : ∀ (L : List (List Nat)) (a : Nat) (v3 : Option D), (∀ g ∈ L, g.length ≤ 28) → ∃ v3', forM (.nm 3) x_many_f0 (TT L) [s0, s1, some (.int (a : Nat)), v3] h = .ok (.nx [s0, s1, some (.int ((a * prodL (L.map fun g => catL (g.length / 2)) : Nat) : Int)), v3']) h
  | [], a, v3, _ => ⟨v3, by simp [prodL]; rfl⟩
  | g :: L, a, v3, hL => by
    obtain ⟨v', e⟩ := many_loop s0 s1 h L (a * catL (g.length / 2)) (some (.tup (NI g))) (fun g hg => hL g (by simp [hg]))
    refine ⟨v', for_cons (s1 := [s0, s1, some (.int (a : Nat)), some (.tup (NI g))]) (s2 := [s0, s1, some (.int ((a * catL (g.length / 2) : Nat) : Int)), some (.tup (NI g))]) (h2 := h) rfl ?_ (by rw [List.map_cons, prodL_cons, ← Nat.mul_assoc]; exact e)⟩
    have gl := hL g (by simp)
    have cs := cat_small (g.length / 2) (by omega)
    have ct := catalan_ok (k := g.length / 2) (by omega) h
    have ln : e_op fdivP (e_call lenP (a_cons (e_var 3) a_nil)) (e_c (D.int 2)) [s0, s1, some (.int (a : Nat)), some (.tup (NI g))] h = .ok (.int ((g.length / 2 : Nat) : Int)) h := by
      refine (op_ok (call_ok (a1_ok var_ok) lenP_tup) c_ok (divL (by decide) h)).trans ?_
      rw [NI_len, Int.natCast_ediv]
      rfl
    have i6 : in64 ((catL (g.length / 2) : Nat) : Int) = true := in64_of (by omega) (by omega)
    have mu : imulP (.int (a : Nat)) (.int (catL (g.length / 2) : Nat)) h = some (.int ((a * catL (g.length / 2) : Nat) : Int), h) := by
      simp only [imulP, i6, Bool.or_true, if_true, Int.natCast_mul]
    exact aug_ok rfl (own_ok (a1_ok ln) ct) mu
theorem even_w {n : Nat} {K : List (Nat × Nat)} (ev : ∀ g ∈ grpsL n K, g.length % 2 = 0) : ((grpsL n K).map fun g => catL (g.length / 2)) = (grpsL n K).map fun g => wL g.length := by
  apply List.map_congr_left
  intro g hg
  unfold wL
  rw [if_pos (ev g hg)]
theorem prodL_zero {L : List Nat} (h : 0 ∈ L) : prodL L = 0 := by
  induction L with
  | nil => simp at h
  | cons x L ih =>
    rw [prodL_cons]
    rcases List.mem_cons.mp h with e | e
    · rw [← e]; simp
    · rw [ih e]; simp
theorem prodL_pos {L : List Nat} (h : ∀ x ∈ L, 0 < x) : 0 < prodL L := by
  induction L with
  | nil => decide
  | cons x L ih =>
    rw [prodL_cons]
    exact Nat.mul_pos (h x (by simp)) (ih fun y hy => h y (by simp [hy]))
theorem cat_pos : ∀ k, k ≤ 14 → 0 < catL k := by decide
theorem grps_small {n : Nat} {K : List (Nat × Nat)} (hn : n ≤ 28) : ∀ g ∈ grpsL n K, g.length ≤ 28 := fun g hg => by
  obtain ⟨p, _, rfl⟩ := mem_grps.mp hg
  exact Nat.le_trans (grp_len n K p) hn
/-- evidence is None exactly if there are any -/
theorem ev_many {n : Nat} {K : List (Nat × Nat)} (hn : n ≤ 28) : evD n K = .non ↔ 0 < manyL n K := by
  rw [ev_none]
  unfold manyL
  constructor
  · rintro ⟨c, ev⟩
    rw [if_pos c]
    refine prodL_pos fun x hx => ?_
    obtain ⟨g, hg, rfl⟩ := List.mem_map.mp hx
    have := grps_small hn g hg
    unfold wL
    rw [if_pos (ev g hg)]
    exact cat_pos _ (by omega)
  · intro h
    by_cases c : ncrB K = true
    · rw [if_pos c] at h
      refine ⟨c, fun g hg => Classical.byContradiction fun z => ?_⟩
      have : prodL ((grpsL n K).map fun g => wL g.length) = 0 := prodL_zero (List.mem_map.mpr ⟨g, hg, by unfold wL; rw [if_neg z]⟩)
      omega
    · rw [if_neg c] at h; omega
def evdB (n : Nat) (K : List (Nat × Nat)) : Bool := decide (0 < manyL n K)
theorem notN_evD {n : Nat} (hn : n ≤ 28) (K : List (Nat × Nat)) (h : Hd) : notNP (evD n K) .non h = some (.bl (!evdB n K), h) := by
  by_cases c : 0 < manyL n K
  · have e := (ev_many hn).mpr c
    rw [e, evdB, decide_eq_true c]
    rfl
  · have e : evD n K ≠ .non := fun e => c ((ev_many hn).mp e)
    rw [evdB, decide_eq_false c]
    unfold evD at e ⊢
    split
    · simp [notNP]
    · rename_i z
      rw [z] at e
      simp only at e
      split
      · simp [notNP]
      · rename_i y; rw [y] at e; exact absurd rfl e
theorem many_ok {n : Nat} {K : List (Nat × Nat)} (k : Kn n K) (hn : n ≤ 28) (l m : Bool) (h : Hd) : m_many [.int (n : Nat), knD l m K] h = .ok (.int (manyL n K : Nat)) h := by
  have ev := evidence_ok k (by omega) l m h
  have nn := notN_evD hn K h
  refine fn_rt' [some (.int (n : Nat)), some (knD l m K), none, none] ?_ rfl
  by_cases c : 0 < manyL n K
  · rw [evdB, decide_eq_true c] at nn
    obtain ⟨c1, c2⟩ := ev_none.mp ((ev_many hn).mpr c)
    obtain ⟨v, e⟩ := many_loop (some (.int (n : Nat))) (some (knD l m K)) h (grpsL n K) 1 none (grps_small hn)
    rw [Nat.one_mul, even_w c2] at e
    have em : manyL n K = prodL ((grpsL n K).map fun g => wL g.length) := by unfold manyL; rw [if_pos c1]
    rw [em]
    exact seq_then (if_no (b_ok (op_ok (own_ok (acons_ok var_ok (acons_ok var_ok anil_ok)) ev) c_ok nn))) (seq_then (set_ok c_ok) (seq_then ((for_ok (seq_lv (own_ok (acons_ok var_ok (acons_ok var_ok anil_ok)) (free_groups_ok k c1 (by omega) l m h)))).trans e) (ret_ok var_ok)))
  · rw [evdB, decide_eq_false c] at nn
    have em : manyL n K = 0 := by omega
    rw [em]
    exact seq_rt ((if_t (b_ok (op_ok (own_ok (acons_ok var_ok (acons_ok var_ok anil_ok)) ev) c_ok nn))).trans (ret_ok c_ok))
end Mini
namespace Mini
open PySem L2
local macro_rules | `(tactic| walk_at "prim") => `(tactic| first | with_reducible assumption | with_reducible exact addP_int _ _ _ _ | with_reducible exact subP_int _ _ _ | with_reducible exact negP_int _ _ | with_reducible exact ltP_nat _ _ _ | with_reducible exact leP_nat _ _ _ | with_reducible exact gtP_nat _ _ _ | with_reducible exact geP_nat _ _ _ | with_reducible exact ltP_int _ _ _ | with_reducible exact leP_int _ _ _ | with_reducible exact gtP_int _ _ _ | with_reducible exact geP_int _ _ _ | with_reducible exact eqT_int _ _ _ | with_reducible exact eqF_int _ _ _ | with_reducible exact tupleP_lv | with_reducible exact sl_from1 | with_reducible exact sl_to1 | with_reducible exact sl_from1T | with_reducible exact sl_to1T | with_reducible exact sl_from | with_reducible exact sl_to | with_reducible exact sl_fromT | with_reducible exact sl_toT | with_reducible exact lenP_ar _ _ _ | with_reducible exact lenP_lv _ _ | with_reducible exact ix_tup0 | with_reducible exact ix_tup1 | with_reducible exact ix_lv0 | with_reducible exact ix_lv1 | with_reducible exact all_true _ _ | with_reducible exact lenP_tup | with_reducible exact modL (by decide) _ | with_reducible exact divL (by decide) _ | exact szl rfl | with_reducible rfl)
local macro_rules | `(tactic| walk_at "st") => `(tactic| first | ((with_reducible apply var_st); exact rfl) | with_reducible exact c_ok | with_reducible exact anil_ok | with_reducible exact onone_ok | with_reducible exact nil_ok | with_reducible apply op_ok | with_reducible apply un_ok | with_reducible apply acons_ok | with_reducible apply call_ok | with_reducible apply own_ok | with_reducible apply set_ok | with_reducible apply ret_to | with_reducible apply seq_then | with_reducible apply b_ok | with_reducible apply tru_ok | with_reducible apply not_ok | with_reducible apply enot_ok | with_reducible apply expr_ok | with_reducible apply if_ok | with_reducible apply osome_ok | with_reducible apply slice_ok | with_reducible apply asg_ok | with_reducible apply asgT_ok | with_reducible apply or_u | with_reducible apply and_u | with_reducible apply eand_u | with_reducible apply eor_u | with_reducible apply par_ok | with_reducible apply par3_ok | with_reducible apply lst_ok | with_reducible apply lstM_ok | with_reducible apply tup_ok | with_reducible apply iteT | with_reducible apply iteF | walk_at "prim")
local macro_rules | `(tactic| walk_at "ev") => `(tactic| repeat walk_at "st")
local macro_rules | `(tactic| walk_at "b") => `(tactic| first | rfl | (rw [decide_eq_false (by omega)]; done) | (rw [decide_eq_true (by omega)]; done) | (rw [decide_eq_false (by omega)]; rfl) | (rw [decide_eq_true (by omega)]; rfl) | (simp; done))
local macro_rules | `(tactic| walk_at "p") => `(tactic| first | walk_at "prim" | (refine (ltP_nat _ _ _).trans ?_; walk_at "b") | (refine (leP_nat _ _ _).trans ?_; walk_at "b") | (refine (gtP_nat _ _ _).trans ?_; walk_at "b") | (refine (geP_nat _ _ _).trans ?_; walk_at "b") | (refine (eqP_ar _ _ _ _).trans ?_; walk_at "b") | (refine (eqT_int _ _ _).trans ?_; walk_at "b") | (refine (eqF_int _ _ _).trans ?_; walk_at "b") | (refine (ltP_int _ _ _).trans ?_; walk_at "b") | (refine (leP_int _ _ _).trans ?_; walk_at "b") | (refine (gtP_int _ _ _).trans ?_; walk_at "b") | (refine (geP_int _ _ _).trans ?_; walk_at "b") | exact modP_int (by omega) _ | rfl)
theorem busy_people_ok (l m : Bool) {K : List (Nat × Nat)} (hK : K.length ≤ 1000) (h : Hd) : m_busy_people [knD l m K] h = .ok (.lv (NI (busyL K))) h :=
  fn_rt' [some (knD l m K), none, none] (ret_ok (busy_lc hK rfl (ltb rfl) (ltb rfl))) (by simp only [noRef]; exact noRefs_map (α := Nat) _)
theorem min2_nat (a b : Nat) (h : Hd) : min2P [.int (a : Nat), .int (b : Nat)] h = some (.int ((min a b : Nat) : Int), h) := by
  simp only [min2P]
  congr 3
  by_cases c : b < a
  · rw [if_pos (by omega)]; omega
  · rw [if_neg (by omega)]; omega
theorem max2_nat (a b : Nat) (h : Hd) : max2P [.int (a : Nat), .int (b : Nat)] h = some (.int ((max a b : Nat) : Int), h) := by
  simp only [max2P]
  congr 3
  by_cases c : a < b
  · rw [if_pos (by omega)]; omega
  · rw [if_neg (by omega)]; omega
theorem noRef_knf (K : List (Nat × Nat)) : noRef (knD false false K) = true := by
  simp only [knD, Bool.false_eq_true, if_false, noRef]
  exact noRefs_map (α := Nat × Nat) _
theorem tup_lc {l m : Bool} {K : List (Nat × Nat)} (hK : K.length ≤ 1000) {s : Ev} {h : Hd} {own : List Nat} {a i : Nat} (hs : s[i]? = some (some (knD l m K))) (ha : a < (wipeD s own).length) :
    e_lc own (i_seq (e_var i)) (.nm a) t_yes (e_call tupleP (a_cons (e_var a) a_nil)) s h = .ok (.lv (PS K)) h :=
  lc_y K (prD m) PR2 (seq_knD (var_ok hs)) (by omega) rfl fun r _ => ⟨_, rfl, call_ok (a1_ok (var_ok (List.getElem?_set_self ha))) (tuple_prD m r h)⟩
theorem with_pair_ok (l m : Bool) {K : List (Nat × Nat)} (hK : K.length ≤ 1000) (a b : Nat) (h : Hd) : m_with_pair [knD l m K, .int (a : Nat), .int (b : Nat)] h = .ok (knD false false (wpL K a b)) h := by
  refine fn_rt' [some (knD l m K), some (.int (a : Nat)), some (.int (b : Nat)), none] ?_ (noRef_knf _)
  have ad : addP false (.lv (PS K)) (.lv [PR2 (min a b, max a b)]) h = some (.lv (PS (K ++ [(min a b, max a b)])), h) := by
    rw [catP_lv (by rw [PS_len]; exact Nat.le_trans (show _ ≤ 2000 by simp; omega) (by decide))]
    simp [PS]
  have so : sortP false [.lv (PS (K ++ [(min a b, max a b)]))] h = some (.lv (PS (wpL K a b)), h) := (sort_pairs false (srtP_perm _) (srtP_le _) rfl).trans rfl
  exact ret_ok (call_ok (a1_ok (call_ok (a1_ok (op_ok (tup_lc hK rfl (ltb rfl)) (lst_ok (acons_ok (tup_ok (acons_ok (call_ok (acons_ok var_ok (acons_ok var_ok anil_ok)) (min2_nat a b h)) (acons_ok (call_ok (acons_ok var_ok (acons_ok var_ok anil_ok)) (max2_nat a b h)) anil_ok)) two_sz) anil_ok) one_sz) ad)) so)) tupleP_lv)
def frG (n : Nat) (K : List (Nat × Nat)) (p : Nat) : List Nat := (freeL n K).filter fun q => decide (p < q)
theorem rangeL_from (a : Nat) : ∀ k, rangeL ((a : Nat) : Int) k = (List.range' a k).map fun p => D.int ((p : Nat) : Int)
  | 0 => rfl
  | k + 1 => by
    have := rangeL_from (a + 1) k
    rw [rangeL, List.range'_succ, List.map_cons, ← this]
    rw [show ((a : Nat) : Int) + 1 = ((a + 1 : Nat) : Int) by omega]
theorem rng2_ok {a : AF} {s : Ev} {h h1 : Hd} {i j : Nat} (e : a s h = .ok [.int (i : Nat), .int (j : Nat)] h1) (hi : i ≤ 100000) (hj : j ≤ 100000) : i_rng2 a s h = .ok ((List.range' i (j - i)).map fun p => D.int ((p : Nat) : Int)) h1 := by
  simp only [i_rng2, e, bind_ok, in62_nat hi, in62_nat hj, Bool.and_self, if_true]
  rw [show (((j : Nat) : Int) - ((i : Nat) : Int)).toNat = j - i by omega, rangeL_from]
end Mini
namespace Mini
open PySem L2 Enc
theorem rangeL_off (a : Nat) : ∀ k, rangeL ((a : Nat) : Int) k = (List.range' a k).map fun p => D.int ((p : Nat) : Int)
  | 0 => rfl
  | k + 1 => by
    have := rangeL_off (a + 1) k
    rw [rangeL, List.range'_succ, List.map_cons, ← this]
    rw [show ((a : Nat) : Int) + 1 = ((a + 1 : Nat) : Int) by omega]
theorem rangeL_zero (n : Nat) : rangeL 0 n = (List.range n).map fun p => D.int ((p : Nat) : Int) := by rw [List.range_eq_range']; exact rangeL_off 0 n
end Mini
namespace Mini
theorem nodup_flat {α β : Type} {L : List α} {f : α → List β} (h1 : ∀ x ∈ L, (f x).Nodup) (h2 : L.Pairwise fun x y => ∀ a ∈ f x, ¬ a ∈ f y) : (L.flatMap f).Nodup := by
  unfold List.Nodup
  rw [List.pairwise_flatMap]
  refine ⟨h1, h2.imp ?_⟩
  intro x y h a ha b hb e
  subst e
  exact h a ha hb
theorem flat_sub {α β : Type} (f : α → List β) {L M : List α} (s : L.Sublist M) : (L.flatMap f).Sublist (M.flatMap f) := by
  induction s with
  | slnil => exact List.Sublist.refl _
  | cons a _ ih => rw [List.flatMap_cons]; exact ih.trans (List.sublist_append_right _ _)
  | cons_cons a _ ih => rw [List.flatMap_cons, List.flatMap_cons]; exact List.Sublist.append (List.Sublist.refl _) ih
section
variable {n : Nat} {K : List (Nat × Nat)}
/-- all the mates of a free person -/
def mtL (n : Nat) (K : List (Nat × Nat)) (p : Nat) : List Nat := (freeL n K).filter fun q => !decide (q = p)
theorem mem_mt {p q : Nat} : q ∈ mtL n K p ↔ q ∈ freeL n K ∧ q ≠ p := by simp [mtL, List.mem_filter]
theorem Kn.mm (k : Kn n K) {p q : Nat} (hp : p ∈ freeL n K) (hq : q ∈ mtL n K p) : Kn n (K ++ [(min p q, max p q)]) := by
  obtain ⟨h1, h2⟩ := mem_mt.mp hq
  rcases Nat.lt_or_gt_of_ne h2 with l | l
  · rw [Nat.min_eq_right (by omega), Nat.max_eq_left (by omega)]; exact k.add h1 hp l
  · rw [Nat.min_eq_left (by omega), Nat.max_eq_right (by omega)]; exact k.add hp h1 l
theorem fit_mm {p q : Nat} {A : List Nat} (x : q ≠ p) (hp : p < n) (hq : q < n) : Fit n (K ++ [(min p q, max p q)]) A ↔ Fit n K A ∧ fn A p = q := by
  constructor
  · intro f
    refine ⟨⟨f.1, fun r hr => f.2 r (List.mem_append_left _ hr)⟩, ?_⟩
    have := f.2 (min p q, max p q) (by simp)
    simp only at this
    rcases Nat.lt_or_gt_of_ne x with l | l
    · rw [Nat.min_eq_right (by omega), Nat.max_eq_left (by omega)] at this
      have i := f.1.inv q hq
      have this : A.getD q 0 = p := this
      rw [this] at i; exact i
    · rw [Nat.min_eq_left (by omega), Nat.max_eq_right (by omega)] at this; exact this
  · rintro ⟨f, e⟩
    refine ⟨f.1, fun r hr => ?_⟩
    rcases List.mem_append.mp hr with h | h
    · exact f.2 r h
    · simp only [List.mem_singleton] at h
      subst h
      simp only
      rcases Nat.lt_or_gt_of_ne x with l | l
      · rw [Nat.min_eq_right (by omega), Nat.max_eq_left (by omega)]
        have i := f.1.inv p hp
        have e : A.getD p 0 = q := e
        rw [e] at i; exact i
      · rw [Nat.min_eq_left (by omega), Nat.max_eq_right (by omega)]; exact e
theorem fits_any (k : Kn n K) {p : Nat} (hp : p ∈ freeL n K) : (fitsL n K).Perm ((mtL n K p).flatMap fun q => fitsL n (K ++ [(min p q, max p q)])) := by
  have hpn := (mem_free.mp hp).1
  refine permOf (lex_nodup' (fits_lex k)) ?_ fun A => ?_
  · refine nodup_flat (fun q hq => lex_nodup' (fits_lex (k.mm hp hq))) ?_
    refine List.Pairwise.imp_of_mem (R := (· ≠ ·)) ?_ (List.Pairwise.filter _ (free_nodup n K))
    intro a b ha hb ne A h1 h2
    have ma := mem_mt.mp ha
    have mb := mem_mt.mp hb
    rw [mem_fits (k.mm hp ha), fit_mm ma.2 hpn (mem_free.mp ma.1).1] at h1
    rw [mem_fits (k.mm hp hb), fit_mm mb.2 hpn (mem_free.mp mb.1).1] at h2
    exact ne (h1.2.symm.trans h2.2)
  · rw [mem_fits k, List.mem_flatMap]
    constructor
    · intro f
      have fr : fn A p ∈ freeL n K := by
        refine mem_free.mpr ⟨f.1.lt p hpn, fun hb => ?_⟩
        obtain ⟨r, hr, h⟩ := mem_busy.mp hb
        have e := f.2 r hr
        have e' : A.getD r.1 0 = r.2 := e
        have lr := k.lt r hr
        have i := f.1.inv p hpn
        have i1 := f.1.inv r.1 (by omega)
        rw [e'] at i1
        have pb := (mem_free.mp hp).2
        rcases h with h | h
        · have h : A.getD p 0 = r.1 := h
          rw [h, e'] at i
          exact pb (mem_busy.mpr ⟨r, hr, .inr i.symm⟩)
        · have h : A.getD p 0 = r.2 := h
          rw [h, i1] at i
          exact pb (mem_busy.mpr ⟨r, hr, .inl i.symm⟩)
      have hq : fn A p ∈ mtL n K p := mem_mt.mpr ⟨fr, f.1.ne p hpn⟩
      exact ⟨fn A p, hq, (mem_fits (k.mm hp hq)).mpr ((fit_mm (mem_mt.mp hq).2 hpn (mem_free.mp fr).1).mpr ⟨f, rfl⟩)⟩
    · rintro ⟨q, hq, h⟩
      have mq := mem_mt.mp hq
      exact ((fit_mm mq.2 hpn (mem_free.mp mq.1).1).mp ((mem_fits (k.mm hp hq)).mp h)).1
theorem many_any (k : Kn n K) (hn : n ≤ 28) {p : Nat} (hp : p ∈ freeL n K) : manyL n K = ((mtL n K p).map fun q => manyL n (K ++ [(min p q, max p q)])).sum := by
  rw [← fits_len k hn, (fits_any k hp).length_eq, List.length_flatMap]
  congr 1
  refine List.map_congr_left fun q hq => ?_
  exact fits_len (k.mm hp hq) hn
theorem Kn.sub {L : List (Nat × Nat)} (k : Kn n K) (s : L.Sublist K) : Kn n L := ⟨fun r hr => k.lt r (s.subset hr), k.nd.sublist (flat_sub _ s)⟩
theorem busy_arms {A : List Nat} (x : Arr n A) : (busyL (armsL A)).Nodup := by
  have N := x.Nc
  have hl := x.len
  unfold busyL armsL
  rw [List.flatMap_map]
  refine nodup_flat (fun p hp => ?_) ?_
  · have := mem_lessL.mp hp
    simp only [List.nodup_cons, List.mem_cons, List.not_mem_nil, or_false, not_false_eq_true, List.nodup_nil, and_true]; omega
  · refine List.Pairwise.imp_of_mem (R := (· < ·)) ?_ (lessL_lt A)
    intro p q hp hq lt
    have hp := mem_lessL.mp hp
    have hq := mem_lessL.mp hq
    have ip := N.inv p (by omega)
    have iq := N.inv q (by omega)
    intro y h1 h2
    simp only [List.mem_cons, List.not_mem_nil, or_false] at h1 h2
    rcases h1 with rfl | rfl <;> rcases h2 with e | e
    · omega
    · rw [← e] at iq; omega
    · rw [e] at ip; omega
    · rw [e, iq] at ip; omega
theorem Kn.arms {A : List Nat} (x : Arr n A) : Kn n (armsL A) := ⟨fun r hr => by
  obtain ⟨h1, h2, h3⟩ := mem_armsL.mp hr
  have := x.Nc.lt r.1 (by rw [← x.len]; exact h1)
  rw [h3]; exact ⟨h2, this⟩, busy_arms x⟩
theorem Fit.arms {A : List Nat} (x : Arr n A) : Fit n (armsL A) A := ⟨x, fun r hr => (mem_armsL.mp hr).2.2.symm⟩
theorem Fit.sub {A : List Nat} {L : List (Nat × Nat)} (f : Fit n K A) (s : L.Sublist K) : Fit n L A := ⟨f.1, fun r hr => f.2 r (s.subset hr)⟩
end
def prK (σ : List Nat) (k : Nat) : Nat × Nat := (min (σ.getD (2 * k) 0) (σ.getD (2 * k + 1) 0), max (σ.getD (2 * k) 0) (σ.getD (2 * k + 1) 0))
theorem busy_row {σ : List Nat} : ∀ m, 2 * m ≤ σ.length → (busyL ((List.range m).map (prK σ))).Perm (σ.take (2 * m))
  | 0, _ => by simp [busyL]
  | m + 1, h => by
    rw [List.range_succ, List.map_append, List.map_singleton, busy_app, show 2 * (m + 1) = 2 * m + 1 + 1 by omega, List.take_succ_eq_append_getElem (by omega), List.take_succ_eq_append_getElem (by omega), List.append_assoc]
    refine List.Perm.append (busy_row m (by omega)) ?_
    have g0 : σ.getD (2 * m) 0 = σ[2 * m] := by simp [List.getD_eq_getElem?_getD, show 2 * m < σ.length by omega]
    have g1 : σ.getD (2 * m + 1) 0 = σ[2 * m + 1] := by simp [List.getD_eq_getElem?_getD, show 2 * m + 1 < σ.length by omega]
    simp only [prK, g0, g1]
    rcases Nat.le_total σ[2 * m] σ[2 * m + 1] with q | q
    · rw [Nat.min_eq_left q, Nat.max_eq_right q]; exact List.Perm.refl _
    · rw [Nat.min_eq_right q, Nat.max_eq_left q]; exact List.Perm.swap _ _ _
theorem Kn.row {n m : Nat} {σ : List Nat} (p : σ.Perm (List.range n)) (h : 2 * m ≤ n) : Kn n ((List.range m).map (prK σ)) := by
  have hl : σ.length = n := by rw [p.length_eq, List.length_range]
  have b := busy_row (σ := σ) m (by omega)
  have nd : σ.Nodup := p.nodup_iff.mpr List.nodup_range
  have nd2 : (busyL ((List.range m).map (prK σ))).Nodup := b.nodup_iff.mpr (nd.sublist (List.take_sublist _ _))
  refine ⟨fun r hr => ?_, nd2⟩
  have hb : ∀ x, x = r.1 ∨ x = r.2 → x < n := fun x hx => by
    have : x ∈ busyL ((List.range m).map (prK σ)) := mem_busy.mpr ⟨r, hr, hx⟩
    have := List.mem_of_mem_take (b.mem_iff.mp this)
    exact List.mem_range.mp (p.mem_iff.mp this)
  obtain ⟨k, hk, rfl⟩ := List.mem_map.mp hr
  have hk := List.mem_range.mp hk
  have h2 := hb _ (.inr rfl)
  refine ⟨?_, h2⟩
  have g0 : σ.getD (2 * k) 0 = σ[2 * k] := by simp [List.getD_eq_getElem?_getD, show 2 * k < σ.length by omega]
  have g1 : σ.getD (2 * k + 1) 0 = σ[2 * k + 1] := by simp [List.getD_eq_getElem?_getD, show 2 * k + 1 < σ.length by omega]
  have ne : σ[2 * k]'(by omega) ≠ σ[2 * k + 1]'(by omega) := fun e => by
    have := (List.getElem_inj nd).mp e
    omega
  simp only [prK, g0, g1]
  omega
end Mini
namespace Mini
section
variable {n : Nat} {K : List (Nat × Nat)}
theorem grps_flat : (grpsL n K).flatten.length ≤ n := by
  have nd : (grpsL n K).flatten.Nodup := by
    rw [← List.flatMap_id]
    refine nodup_flat (fun R hR => ?_) ?_
    · obtain ⟨p, _, rfl⟩ := mem_grps.mp hR
      exact (grp_sorted p).imp fun h => Nat.ne_of_lt h
    · refine List.Pairwise.imp_of_mem (R := (· ≠ ·)) ?_ grps_nodup
      intro R S hR hS ne a ha hb
      obtain ⟨p, hp, rfl⟩ := mem_grps.mp hR
      obtain ⟨q, hq, rfl⟩ := mem_grps.mp hS
      exact ne (grp_congr ((mem_grp.mp ha).2.trans (mem_grp.mp hb).2.symm))
  have sub : (grpsL n K).flatten ⊆ List.range n := fun a ha => by
    obtain ⟨R, hR, h⟩ := List.mem_flatten.mp ha
    obtain ⟨p, hp, rfl⟩ := mem_grps.mp hR
    exact List.mem_range.mpr (mem_free.mp (mem_grp.mp h).1).1
  exact nodup_le n _ nd fun x hx => List.mem_range.mp (sub hx)
theorem wL_le : ∀ l, l ≤ 28 → wL l ≤ 2 ^ l := by decide
theorem prod_pow : ∀ (L : List (List Nat)), (∀ g ∈ L, g.length ≤ 28) → prodL (L.map fun g => wL g.length) ≤ 2 ^ L.flatten.length
  | [], _ => by simp [prodL]
  | g :: L, h => by
    rw [List.map_cons, prodL_cons, List.flatten_cons, List.length_append, Nat.pow_add]
    exact Nat.mul_le_mul (wL_le _ (h g (by simp))) (prod_pow L fun x hx => h x (by simp [hx]))
theorem many_le (hn : n ≤ 28) : manyL n K ≤ 2 ^ n := by
  unfold manyL
  split
  · refine Nat.le_trans (prod_pow _ fun g hg => ?_) (Nat.pow_le_pow_right (by omega) grps_flat)
    obtain ⟨p, _, rfl⟩ := mem_grps.mp hg
    exact Nat.le_trans (Nat.le_trans (List.length_filter_le _ _) (free_le n K)) hn
  · exact Nat.zero_le _
end
theorem sum_ge {α : Type} (f : α → Nat) : ∀ (L : List α), ∀ x ∈ L, f x ≤ (L.map f).sum
  | y :: L, x, h => by
    rw [List.map_cons, List.sum_cons]
    rcases List.mem_cons.mp h with rfl | h
    · omega
    · have := sum_ge f L x h; omega
end Mini
namespace Mini
section
variable {n : Nat} {L : List (Nat × Nat)} {g : Nat × Nat}
def nearK (L : List (Nat × Nat)) (g : Nat × Nat) : List (Nat × Nat) := L.filter fun r => !decide (r = g)
theorem near_sub : (nearK L g).Sublist L := List.filter_sublist
structure Near (n : Nat) (L : List (Nat × Nat)) (g : Nat × Nat) : Prop where
  kL : Kn n L
  kN : Kn n (nearK L g)
  f1 : g.1 ∈ freeL n (nearK L g)
  f2 : g.2 ∈ freeL n (nearK L g)
  lt : g.1 < g.2
  sm : Sm (nearK L g) g.1 g.2
  nc : ncrB L = true
  nN : ncrB (nearK L g) = true
  pm : L.Perm (nearK L g ++ [g])
theorem Near.free (x : Near n L g) {p : Nat} : p ∈ freeL n L ↔ p ∈ freeL n (nearK L g) ∧ p ≠ g.1 ∧ p ≠ g.2 := by
  rw [free_perm x.pm]; exact mem_free_add (p := g.1) (q := g.2)
theorem Near.home (x : Near n L g) : ((grpsL n (nearK L g)).filter fun R => decide (g.1 ∈ R) && decide (g.2 ∈ R)) = [grp n (nearK L g) g.1] := by
  have : (grpsL n (nearK L g)).filter (fun R => decide (g.1 ∈ R) && decide (g.2 ∈ R)) = (grpsL n (nearK L g)).filter fun R => decide (R = grp n (nearK L g) g.1) := by
    refine List.filter_congr fun R hR => ?_
    obtain ⟨p, hp, rfl⟩ := mem_grps.mp hR
    rw [← Bool.decide_and, decide_eq_decide, mem_grp, mem_grp, grp_iff x.f1]
    constructor
    · exact fun h => h.1.2
    · exact fun h => ⟨⟨x.f1, h⟩, x.f2, h.trans x.sm⟩
  rw [this]
  have nd := grps_nodup (n := n) (K := nearK L g)
  have mm : grp n (nearK L g) g.1 ∈ grpsL n (nearK L g) := mem_grps.mpr ⟨g.1, x.f1, rfl⟩
  have p : ((grpsL n (nearK L g)).filter fun R => decide (R = grp n (nearK L g) g.1)).Perm [grp n (nearK L g) g.1] := permOf (List.Pairwise.filter _ nd) (by simp) fun R => by
    rw [List.mem_filter, decide_eq_true_eq, List.mem_singleton]
    exact ⟨fun h => h.2, fun h => ⟨h ▸ mm, h⟩⟩
  exact List.perm_singleton.mp p
theorem Near.many (x : Near n L g) : manyL n L = manyL n (nearK L g ++ [g]) := many_perm x.kL x.pm
theorem Near.fit (x : Near n L g) {A : List Nat} (f : Fit n L A) : Fit n (nearK L g) A := ⟨f.1, fun r hr => f.2 r (near_sub.subset hr)⟩
end
theorem lex_le {L : List (List Nat)} (h : L.Pairwise (· < ·)) {i j : Nat} {A B : List Nat} (hi : L[i]? = some A) (hj : L[j]? = some B) : i ≤ j ↔ A ≤ B := by
  obtain ⟨i1, e1⟩ := List.getElem?_eq_some_iff.mp hi
  obtain ⟨j1, e2⟩ := List.getElem?_eq_some_iff.mp hj
  rw [List.pairwise_iff_getElem] at h
  constructor
  · intro le
    rcases Nat.lt_or_eq_of_le le with q | q
    · have := h i j i1 j1 q
      rw [e1, e2] at this
      exact fun z => List.lt_irrefl _ (List.lt_trans this z)
    · subst q
      rw [e1] at e2; subst e2
      exact fun z => List.lt_irrefl _ z
  · intro le
    rcases Nat.lt_or_ge j i with q | q
    · have := h j i j1 i1 q
      rw [e1, e2] at this
      exact absurd this le
    · exact q
theorem fit_many {n : Nat} {K : List (Nat × Nat)} {A : List Nat} (k : Kn n K) (hn : n ≤ 28) (f : Fit n K A) : 0 < manyL n K := by
  rw [← fits_len k hn]
  exact List.length_pos_of_mem ((mem_fits k).mpr f)
theorem Kn.none (n : Nat) : Kn n [] := ⟨fun r hr => by simp at hr, by simp [busyL]⟩
end Mini
namespace Mini
section
variable {n k : Nat} {K : List (Nat × Nat)} {A X : List Nat}
/-- what is known, and the pairs of the first k -/
def begL (K : List (Nat × Nat)) (A : List Nat) (k : Nat) : List (Nat × Nat) := (armsL A).filter fun r => decide (r ∈ K ∨ r.1 < k)
theorem beg_sub : (begL K A k).Sublist (armsL A) := List.filter_sublist
theorem mem_beg {r : Nat × Nat} : r ∈ begL K A k ↔ r ∈ armsL A ∧ (r ∈ K ∨ r.1 < k) := by simp [begL, List.mem_filter]
theorem Kn.beg (x : Arr n A) : Kn n (begL K A k) := (Kn.arms x).sub beg_sub
theorem arm_mem (kn : Kn n K) (f : Fit n K A) {r : Nat × Nat} (hr : r ∈ K) : r ∈ armsL A := by
  have lr := kn.lt r hr
  have e := f.2 r hr
  exact mem_armsL.mpr ⟨by rw [f.1.len]; omega, by omega, e.symm⟩
theorem beg_fit (kn : Kn n K) (f : Fit n K A) : Fit n (begL K A k) X ↔ Fit n K X ∧ ∀ y, y < k → y < n → fn X y = fn A y := by
  have N := f.1.Nc
  have la := f.1.len
  constructor
  · intro g
    have M := g.1.Nc
    refine ⟨⟨g.1, fun r hr => g.2 r (mem_beg.mpr ⟨arm_mem kn f hr, .inl hr⟩)⟩, fun y hy yn => ?_⟩
    have ly := N.lt y yn
    have iy := N.inv y yn
    have ny := f.1.ne y yn
    have ny : fn A y ≠ y := ny
    rcases Nat.lt_or_ge y (fn A y) with q | q
    · exact g.2 (y, fn A y) (mem_beg.mpr ⟨mem_armsL.mpr ⟨by simp only; omega, q, rfl⟩, .inr hy⟩)
    · have := g.2 (fn A y, y) (mem_beg.mpr ⟨mem_armsL.mpr ⟨by simp only; omega, by simp only; omega, iy.symm⟩, .inr (by simp only; omega)⟩)
      simp only at this
      have z := M.inv (fn A y) ly
      rw [this] at z
      exact z
  · rintro ⟨g, h⟩
    refine ⟨g.1, fun r hr => ?_⟩
    obtain ⟨ha, hk | hk⟩ := mem_beg.mp hr
    · exact g.2 r hk
    · obtain ⟨h1, h2, h3⟩ := mem_armsL.mp ha
      rw [h r.1 hk (by omega), h3]
theorem beg_self (kn : Kn n K) (f : Fit n K A) : Fit n (begL K A k) A := (beg_fit kn f).mpr ⟨f, fun _ _ _ => rfl⟩
theorem beg_busy (x : Arr n A) {y : Nat} (hy : y < k) (yn : y < n) : y ∈ busyL (begL K A k) := by
  have N := x.Nc
  have la := x.len
  have ly := N.lt y yn
  have iy := N.inv y yn
  have ny : fn A y ≠ y := x.ne y yn
  refine mem_busy.mpr ?_
  rcases Nat.lt_or_ge y (fn A y) with q | q
  · exact ⟨(y, fn A y), mem_beg.mpr ⟨mem_armsL.mpr ⟨by simp only; omega, q, rfl⟩, .inr hy⟩, .inl rfl⟩
  · exact ⟨(fn A y, y), mem_beg.mpr ⟨mem_armsL.mpr ⟨by simp only; omega, by simp only; omega, iy.symm⟩, .inr (by simp only; omega)⟩, .inr rfl⟩
/-- the mates -/
def mtA (n : Nat) (K : List (Nat × Nat)) (A : List Nat) (k : Nat) : List Nat :=
  if k ∈ busyL (begL K A k) then [fn A k] else ((freeL n (begL K A k)).filter fun q => decide (k < q)).filter fun q => decide (0 < manyL n (begL K A k ++ [(k, q)]))
theorem mtA_sorted : (mtA n K A k).Pairwise (· < ·) := by
  unfold mtA
  split
  · simp
  · exact List.Pairwise.filter _ (List.Pairwise.filter _ (free_sorted _ _))
theorem mem_mtA (hn : n ≤ 28) (kn : Kn n K) (f : Fit n K A) (hk : k < n) {q : Nat} : q ∈ mtA n K A k ↔ ∃ X, Fit n K X ∧ (∀ y, y < k → fn X y = fn A y) ∧ fn X k = q := by
  have kb : Kn n (begL K A k) := Kn.beg f.1
  have fit : ∀ X, Fit n (begL K A k) X ↔ Fit n K X ∧ ∀ y, y < k → fn X y = fn A y := fun X => by
    rw [beg_fit kn f]
    exact ⟨fun h => ⟨h.1, fun y hy => h.2 y hy (by omega)⟩, fun h => ⟨h.1, fun y hy _ => h.2 y hy⟩⟩
  unfold mtA
  by_cases c : k ∈ busyL (begL K A k)
  · rw [if_pos c, List.mem_singleton]
    have all : ∀ X, Fit n (begL K A k) X → fn X k = fn A k := fun X g => by rw [g.pt kb c, (beg_self kn f).pt kb c]
    constructor
    · rintro rfl; exact ⟨A, f, fun _ _ => rfl, rfl⟩
    · rintro ⟨X, h1, h2, rfl⟩; exact all X ((fit X).mpr ⟨h1, h2⟩)
  · rw [if_neg c, List.mem_filter, List.mem_filter, decide_eq_true_eq, decide_eq_true_eq]
    have kf : k ∈ freeL n (begL K A k) := mem_free.mpr ⟨hk, c⟩
    constructor
    · rintro ⟨⟨qf, lt⟩, pos⟩
      have ka := kb.add kf qf lt
      rw [← fits_len ka hn] at pos
      obtain ⟨X, hX⟩ := List.exists_mem_of_length_pos pos
      have g := (mem_fits ka).mp hX
      have g1 : Fit n (begL K A k) X := ⟨g.1, fun r hr => g.2 r (List.mem_append_left _ hr)⟩
      obtain ⟨h1, h2⟩ := (fit X).mp g1
      exact ⟨X, h1, h2, g.2 (k, q) (by simp)⟩
    · rintro ⟨X, h1, h2, rfl⟩
      have g := (fit X).mpr ⟨h1, h2⟩
      have M := g.1.Nc
      have lx := M.lt k hk
      have ix := M.inv k hk
      have nx : fn X k ≠ k := g.1.ne k hk
      have nb : fn X k ∉ busyL (begL K A k) := fun hb => by
        obtain ⟨r, hr, h⟩ := mem_busy.mp hb
        have lr := kb.lt r hr
        have e := g.2 r hr
        have i1 := M.inv r.1 (by omega)
        rw [e] at i1
        rcases h with h | h
        · rw [h, e] at ix; exact c (mem_busy.mpr ⟨r, hr, .inr ix.symm⟩)
        · rw [h, i1] at ix; exact c (mem_busy.mpr ⟨r, hr, .inl ix.symm⟩)
      have qf : fn X k ∈ freeL n (begL K A k) := mem_free.mpr ⟨lx, nb⟩
      have lt : k < fn X k := by
        rcases Nat.lt_or_ge k (fn X k) with z | z
        · exact z
        · exact absurd (beg_busy f.1 (show fn X k < k by omega) lx) nb
      refine ⟨⟨qf, lt⟩, fit_many (kb.add kf qf lt) hn ⟨g.1, fun r hr => ?_⟩⟩
      rcases List.mem_append.mp hr with z | z
      · exact g.2 r z
      · simp only [List.mem_singleton] at z; subst z; rfl
end
section
variable {n : Nat} {K : List (Nat × Nat)} {A B X : List Nat} {i : Nat}
theorem last_none {L : List (List Nat)} (h : L.Pairwise (· < ·)) {A X : List Nat} (h1 : L[i]? = some A) (hl : i + 1 = L.length) (hX : X ∈ L) (lt1 : A < X) : False := by
  obtain ⟨j, hj, rfl⟩ := List.getElem_of_mem hX
  have hx : L[j]? = some L[j] := List.getElem?_eq_getElem hj
  have a : ¬ j ≤ i := fun le => (lex_le h hx h1).mp le lt1
  omega
/-- the last of a sorted list -/
theorem last_of {L : List Nat} (so : L.Pairwise (· < ·)) {a : Nat} (ha : a ∈ L) (mx : ∀ q ∈ L, ¬ a < q) : L[L.length - 1]? = some a := by
  obtain ⟨j, hj, rfl⟩ := List.getElem_of_mem ha
  rw [List.pairwise_iff_getElem] at so
  have : j = L.length - 1 := by
    rcases Nat.lt_or_ge j (L.length - 1) with q | q
    · exact absurd (so j (L.length - 1) hj (by omega) q) (mx _ (List.getElem_mem _))
    · omega
  rw [← this, List.getElem?_eq_getElem hj]
theorem first_of {L : List Nat} (so : L.Pairwise (· < ·)) {a : Nat} (ha : a ∈ L) (mn : ∀ q ∈ L, ¬ q < a) : L[0]? = some a := by
  obtain ⟨j, hj, rfl⟩ := List.getElem_of_mem ha
  rw [List.pairwise_iff_getElem] at so
  have : j = 0 := by
    rcases Nat.eq_zero_or_pos j with q | q
    · exact q
    · exact absurd (so 0 j (by omega) hj q) (mn _ (List.getElem_mem _))
  subst this
  exact List.getElem?_eq_getElem hj
structure Nx (n : Nat) (K : List (Nat × Nat)) (i : Nat) (A : List Nat) : Prop where
  hn : n ≤ 28
  kn : Kn n K
  ha : (fitsL n K)[i]? = some A
theorem Nx.fit (x : Nx n K i A) : Fit n K A := (mem_fits x.kn).mp (List.mem_of_getElem? x.ha)
theorem Nx.mem (x : Nx n K i A) {k : Nat} (hk : k < n) : fn A k ∈ mtA n K A k := (mem_mtA x.hn x.kn x.fit hk).mpr ⟨A, x.fit, fun _ _ => rfl, rfl⟩
theorem Nx.last (x : Nx n K i A) (hl : i + 1 = (fitsL n K).length) {k : Nat} (hk : k < n) : (mtA n K A k)[(mtA n K A k).length - 1]? = some (fn A k) := by
  refine last_of mtA_sorted (x.mem hk) fun q hq lt => ?_
  obtain ⟨X, f, ag, e⟩ := (mem_mtA x.hn x.kn x.fit hk).mp hq
  exact last_none (fits_lex x.kn) x.ha hl ((mem_fits x.kn).mpr f) (lex_at x.fit.1.len f.1.len hk (fun y hy => (ag y hy).symm) (by omega))
structure Nx2 (n : Nat) (K : List (Nat × Nat)) (i : Nat) (A B : List Nat) (p : Nat) : Prop extends Nx n K i A where
  hb : Nx n K (i + 1) B
  hp : p < n
  eq : ∀ x, x < p → fn A x = fn B x
  lt : fn A p < fn B p
theorem Nx2.first (x : Nx2 n K i A B p) : ∃ r, ((List.range n).filter fun k => !decide (fn A k = fn B k)) = p :: r := by
  have so : ((List.range n).filter fun k => !decide (fn A k = fn B k)).Pairwise (· < ·) := List.Pairwise.filter _ List.pairwise_lt_range
  have := first_of so (a := p) (by rw [List.mem_filter, List.mem_range]; exact ⟨x.hp, by simp; have := x.lt; omega⟩) fun q hq lt => by
    rw [List.mem_filter] at hq
    have := x.eq q lt
    simp [this] at hq
  cases e : (List.range n).filter fun k => !decide (fn A k = fn B k) with
  | nil => rw [e] at this; simp at this
  | cons a r => rw [e] at this; simp at this; rw [this]; exact ⟨r, rfl⟩
end
end Mini
namespace Mini
section
variable {n : Nat} {K : List (Nat × Nat)}
def wwL (n : Nat) (K : List (Nat × Nat)) (p q : Nat) : Nat := if (min p q, max p q) ∈ K then manyL n K else if p ∈ busyL K ∨ q ∈ busyL K then 0 else manyL n (K ++ [(min p q, max p q)])
theorem ww_le (k : Kn n K) (hn : n ≤ 28) {p q : Nat} (hp : p < n) (hq : q < n) (ne : q ≠ p) : wwL n K p q ≤ manyL n K := by
  unfold wwL
  split
  · exact Nat.le_refl _
  · split
    · exact Nat.zero_le _
    · rename_i d
      have pf : p ∈ freeL n K := mem_free.mpr ⟨hp, fun z => d (.inl z)⟩
      have qf : q ∈ mtL n K p := mem_mt.mpr ⟨mem_free.mpr ⟨hq, fun z => d (.inr z)⟩, ne⟩
      rw [many_any k hn pf]
      exact sum_ge (fun q => manyL n (K ++ [(min p q, max p q)])) _ _ qf
end
end Mini
set_option exponentiation.threshold 700
namespace Mini
open PySem L2
local macro_rules | `(tactic| walk_at "prim") => `(tactic| first | with_reducible assumption | with_reducible exact addP_int _ _ _ _ | with_reducible exact subP_int _ _ _ | with_reducible exact negP_int _ _ | with_reducible exact ltP_nat _ _ _ | with_reducible exact leP_nat _ _ _ | with_reducible exact gtP_nat _ _ _ | with_reducible exact geP_nat _ _ _ | with_reducible exact ltP_int _ _ _ | with_reducible exact leP_int _ _ _ | with_reducible exact gtP_int _ _ _ | with_reducible exact geP_int _ _ _ | with_reducible exact eqT_int _ _ _ | with_reducible exact eqF_int _ _ _ | with_reducible exact tupleP_lv | with_reducible exact sl_from1 | with_reducible exact sl_to1 | with_reducible exact sl_from1T | with_reducible exact sl_to1T | with_reducible exact sl_from | with_reducible exact sl_to | with_reducible exact sl_fromT | with_reducible exact sl_toT | with_reducible exact lenP_ar _ _ _ | with_reducible exact lenP_lv _ _ | with_reducible exact ix_tup0 | with_reducible exact ix_tup1 | with_reducible exact ix_lv0 | with_reducible exact ix_lv1 | with_reducible exact all_true _ _ | with_reducible exact lenP_tup | with_reducible exact modL (by decide) _ | with_reducible exact divL (by decide) _ | exact szl rfl | with_reducible rfl)
local macro_rules | `(tactic| walk_at "st") => `(tactic| first | ((with_reducible apply var_st); exact rfl) | with_reducible exact c_ok | with_reducible exact anil_ok | with_reducible exact onone_ok | with_reducible exact nil_ok | with_reducible apply op_ok | with_reducible apply un_ok | with_reducible apply acons_ok | with_reducible apply call_ok | with_reducible apply own_ok | with_reducible apply set_ok | with_reducible apply ret_to | with_reducible apply seq_then | with_reducible apply b_ok | with_reducible apply tru_ok | with_reducible apply not_ok | with_reducible apply enot_ok | with_reducible apply expr_ok | with_reducible apply if_ok | with_reducible apply osome_ok | with_reducible apply slice_ok | with_reducible apply asg_ok | with_reducible apply asgT_ok | with_reducible apply or_u | with_reducible apply and_u | with_reducible apply eand_u | with_reducible apply eor_u | with_reducible apply par_ok | with_reducible apply par3_ok | with_reducible apply lst_ok | with_reducible apply lstM_ok | with_reducible apply tup_ok | with_reducible apply iteT | with_reducible apply iteF | walk_at "prim")
local macro_rules | `(tactic| walk_at "ev") => `(tactic| repeat walk_at "st")
local macro_rules | `(tactic| walk_at "b") => `(tactic| first | rfl | (rw [decide_eq_false (by omega)]; done) | (rw [decide_eq_true (by omega)]; done) | (rw [decide_eq_false (by omega)]; rfl) | (rw [decide_eq_true (by omega)]; rfl) | (simp; done))
local macro_rules | `(tactic| walk_at "p") => `(tactic| first | walk_at "prim" | (refine (ltP_nat _ _ _).trans ?_; walk_at "b") | (refine (leP_nat _ _ _).trans ?_; walk_at "b") | (refine (gtP_nat _ _ _).trans ?_; walk_at "b") | (refine (geP_nat _ _ _).trans ?_; walk_at "b") | (refine (eqP_ar _ _ _ _).trans ?_; walk_at "b") | (refine (eqT_int _ _ _).trans ?_; walk_at "b") | (refine (eqF_int _ _ _).trans ?_; walk_at "b") | (refine (ltP_int _ _ _).trans ?_; walk_at "b") | (refine (leP_int _ _ _).trans ?_; walk_at "b") | (refine (gtP_int _ _ _).trans ?_; walk_at "b") | (refine (geP_int _ _ _).trans ?_; walk_at "b") | exact modP_int (by omega) _ | rfl)
theorem gcd_loop (g : Nat) (h : Hd) : ∀ (a b k : Nat), k < 1000 → Nat.gcd a b = g → ((b ≤ a ∧ a * b < 2 ^ k) ∨ (a < b ∧ 1 ≤ k ∧ a * b < 2 ^ (k - 1))) → ∃ v, whileM x_gcd_t0 x_gcd_w0 1000 [some (.int (a : Nat)), some (.int (b : Nat))] h = .ok (.nx [some (.int (g : Nat)), v]) h := by
  intro a b k hk hg hi
  refine while_wp (Q := fun r => ∃ v, r = .ok (.nx [some (.int (g : Nat)), v]) h) (fun k s H => H = h ∧ ∃ a b : Nat, s = [some (.int (a : Nat)), some (.int (b : Nat))] ∧ Nat.gcd a b = g ∧ ((b ≤ a ∧ a * b < 2 ^ k) ∨ (a < b ∧ 1 ≤ k ∧ a * b < 2 ^ (k - 1)))) ?_ 1000 k _ _ hk ⟨rfl, a, b, rfl, hg, hi⟩
  rintro k s H ⟨rfl, a, b, rfl, hg, hi⟩
  have tst : x_gcd_t0 [some (.int (a : Nat)), some (.int (b : Nat))] H = .ok (decide (0 < b)) H := b_ok (op_ok var_ok c_ok (gtP_nat b 0 H))
  by_cases c : 0 < b
  · right
    rw [decide_eq_true c] at tst
    have k1 : 1 ≤ k := by
      rcases hi with ⟨h1, h2⟩ | ⟨_, h2, _⟩
      · have : 0 < a * b := Nat.mul_pos (by omega) c
        rcases Nat.eq_zero_or_pos k with z | z
        · subst z; omega
        · exact z
      · exact h2
    refine ⟨H, tst, .inl ⟨_, H, k - 1, par_ok (acons_ok var_ok (acons_ok (op_ok var_ok var_ok (modP_int (by omega) H)) anil_ok)), by omega, rfl, b, a % b, rfl, ?_, ?_⟩⟩
    · rw [← hg, Nat.gcd_comm b, ← Nat.gcd_rec, Nat.gcd_comm]
    · have lt := Nat.mod_lt a c
      left
      refine ⟨by omega, ?_⟩
      rcases hi with ⟨h1, h2⟩ | ⟨h1, _, h2⟩
      · have dv := Nat.div_add_mod a b
        have d1 : 1 ≤ a / b := (Nat.one_le_div_iff c).mpr h1
        have m1 : b * 1 ≤ b * (a / b) := Nat.mul_le_mul_left b d1
        have : 2 * (a % b) ≤ a := by omega
        have : b * (2 * (a % b)) ≤ b * a := Nat.mul_le_mul_left b this
        have e1 : b * (2 * (a % b)) = 2 * (b * (a % b)) := by rw [Nat.mul_left_comm]
        have e2 : b * a = a * b := Nat.mul_comm _ _
        have e3 : 2 ^ k = 2 * 2 ^ (k - 1) := by rw [show k = k - 1 + 1 by omega, Nat.pow_succ, Nat.mul_comm]; simp
        omega
      · rw [Nat.mod_eq_of_lt h1, Nat.mul_comm]; exact h2
  · left
    rw [decide_eq_false c] at tst
    have : b = 0 := by omega
    subst this
    rw [Nat.gcd_zero_right] at hg
    subst hg
    exact ⟨H, tst, _, rfl⟩
theorem gcd_ok {a b : Nat} (ha : a < 2 ^ 300) (hb : b < 2 ^ 300) (h : Hd) : m_gcd [.int (a : Nat), .int (b : Nat)] h = .ok (.int (Nat.gcd a b : Nat)) h := by
  have lim : a * b < 2 ^ 600 := by
    rw [show (600 : Nat) = 300 + 300 from rfl, Nat.pow_add]
    exact Nat.mul_lt_mul'' ha hb
  obtain ⟨v, e⟩ := gcd_loop (Nat.gcd a b) h a b 601 (by omega) rfl (by
    rcases Nat.lt_or_ge a b with q | q
    · exact .inr ⟨q, by omega, lim⟩
    · exact .inl ⟨q, Nat.lt_trans lim (Nat.pow_lt_pow_right (by omega) (by omega))⟩)
  exact fn_rt' [some (.int (a : Nat)), some (.int (b : Nat))] (seq_then e (ret_ok var_ok)) rfl
def redD (a b : Nat) : D := .tup [.int ((a / Nat.gcd a b : Nat) : Int), .int ((b / Nat.gcd a b : Nat) : Int)]
theorem reduced_ok {a b : Nat} (ha : a < 2 ^ 300) (hb : b < 2 ^ 300) (b0 : 0 < b) (h : Hd) : m_reduced [.int (a : Nat), .int (b : Nat)] h = .ok (redD a b) h := by
  have gp : 0 < Nat.gcd a b := Nat.gcd_pos_of_pos_right a b0
  have gl : Nat.gcd a b ≤ b := Nat.gcd_le_right a b0
  have lg : ((Nat.gcd a b : Nat) : Int).natAbs.log2 < 9000 := by
    rw [Int.natAbs_natCast]
    refine (Nat.log2_lt (by omega)).mpr (Nat.lt_of_le_of_lt gl (Nat.lt_trans hb (Nat.pow_lt_pow_right (by omega) (by omega))))
  refine fn_rt' [some (.int (a : Nat)), some (.int (b : Nat)), none] (seq_then (set_ok (own_ok (acons_ok var_ok (acons_ok var_ok anil_ok)) (gcd_ok ha hb h))) (ret_ok (tup_ok (acons_ok (op_ok var_ok var_ok (divL ⟨by omega, lg⟩ h)) (acons_ok (op_ok var_ok var_ok (divL ⟨by omega, lg⟩ h)) anil_ok)) two_sz))) rfl
section
variable {n : Nat} {K : List (Nat × Nat)}
theorem look_known_ok (k : Kn n K) (hn : n ≤ 28) (pos : 0 < manyL n K) (l m : Bool) (h : Hd) : m_look_known [.int (n : Nat), knD l m K] h = .ok .non h := by
  have ev := evidence_ok k (by omega) l m h
  have nn := notN_evD hn K h
  rw [show evdB n K = true from decide_eq_true pos] at nn
  exact fn_nx (np := 2) (n := 3) (b := b_look_known) (ds := [.int (n : Nat), knD l m K]) (h := h) [some (.int (n : Nat)), some (knD l m K), none] (seq_then (set_ok (own_ok (acons_ok var_ok (acons_ok var_ok anil_ok)) ev)) (if_no (b_ok (op_ok var_ok c_ok nn))))
theorem look_person_ok {p : Nat} (hp : p < n) (h : Hd) : m_look_person [.int (n : Nat), .int (p : Nat)] h = .ok .non h := by
  have c := chain_ok (s := [some (.int (n : Nat)), some (.int (p : Nat))]) (h := h) c_ok (var_ok (i := 1)) (var_ok (i := 0)) (zero_ge ((p : Nat) : Int) h) (ltP_nat p n h)
  rw [show (decide (0 ≤ ((p : Nat) : Int)) && decide (p < n)) = true by rw [decide_eq_true (by omega), decide_eq_true (by omega)]; rfl] at c
  exact fn_nx (np := 2) (n := 2) (b := b_look_person) (ds := [.int (n : Nat), .int (p : Nat)]) (h := h) [some (.int (n : Nat)), some (.int (p : Nat))] (if_no (not_t (b_ok c)))
theorem in_NI (x : Nat) (L : List Nat) (h : Hd) : inP false (.int (x : Nat)) (.lv (NI L)) h = some (.bl (decide (x ∈ L)), h) := (inP_NI false x L h).trans rfl
theorem ways_with_ok (k : Kn n K) (hn : n ≤ 28) {p q : Nat} (hp : p < n) (hq : q < n) (ne : q ≠ p) (l m : Bool) (h : Hd) : m_ways_with [.int (n : Nat), knD l m K, .int (p : Nat), .int (q : Nat)] h = .ok (.int (wwL n K p q : Nat)) h := by
  have kl := k.len
  have ma := many_ok k hn l m h
  have bu := busy_people_ok l m (K := K) (by omega) h
  have wp := with_pair_ok l m (K := K) (by omega) p q h
  have i1 := in_NI p (busyL K) h
  have i2 := in_NI q (busyL K) h
  have i0 : inP false (PR2 (min p q, max p q)) (.lv (PS K)) h = some (.bl (decide ((min p q, max p q) ∈ K)), h) := (inP_enc (α := Nat × Nat) false (by decide) (min p q, max p q) K h).trans (by simp)
  refine fn_rt' [some (.int (n : Nat)), some (knD l m K), some (.int (p : Nat)), some (.int (q : Nat)), none, none] ?_ rfl
  have t0 : t_b (e_op (inP false) (e_tup (a_cons (e_call min2P (a_cons (e_var 2) (a_cons (e_var 3) a_nil))) (a_cons (e_call max2P (a_cons (e_var 2) (a_cons (e_var 3) a_nil))) a_nil))) (e_var 4)) [some (.int (n : Nat)), some (knD l m K), some (.int (p : Nat)), some (.int (q : Nat)), some (.lv (PS K)), none] h = .ok (decide ((min p q, max p q) ∈ K)) h := b_ok (op_ok (tup_ok (acons_ok (call_ok (acons_ok var_ok (acons_ok var_ok anil_ok)) (min2_nat p q h)) (acons_ok (call_ok (acons_ok var_ok (acons_ok var_ok anil_ok)) (max2_nat p q h)) anil_ok)) two_sz) var_ok i0)
  refine seq_then (set_ok (tup_lc (by omega) rfl (ltb rfl))) ?_
  unfold wwL
  by_cases c : (min p q, max p q) ∈ K
  · rw [decide_eq_true c] at t0
    rw [if_pos c]
    exact seq_rt ((if_t t0).trans (ret_ok (own_ok (acons_ok var_ok (acons_ok var_ok anil_ok)) ma)))
  · rw [decide_eq_false c] at t0
    rw [if_neg c]
    refine seq_then (if_no t0) ?_
    have t1 : t_or (t_b (e_op (inP false) (e_var 2) (e_own m_busy_people (a_cons (e_var 1) a_nil)))) (t_b (e_op (inP false) (e_var 3) (e_own m_busy_people (a_cons (e_var 1) a_nil)))) [some (.int (n : Nat)), some (knD l m K), some (.int (p : Nat)), some (.int (q : Nat)), some (.lv (PS K)), none] h = .ok (decide (p ∈ busyL K) || decide (q ∈ busyL K)) h := or_u (b_ok (op_ok var_ok (own_ok (a1_ok var_ok) bu) i1)) (b_ok (op_ok var_ok (own_ok (a1_ok var_ok) bu) i2))
    rw [← Bool.decide_or] at t1
    by_cases d : p ∈ busyL K ∨ q ∈ busyL K
    · rw [decide_eq_true d] at t1
      rw [if_pos d]
      exact seq_rt ((if_t t1).trans (ret_ok c_ok))
    · rw [decide_eq_false d] at t1
      rw [if_neg d]
      have pf : p ∈ freeL n K := mem_free.mpr ⟨hp, fun z => d (.inl z)⟩
      have qf : q ∈ mtL n K p := mem_mt.mpr ⟨mem_free.mpr ⟨hq, fun z => d (.inr z)⟩, ne⟩
      have kq := k.mm pf qf
      have mw := many_ok (kq.perm (srtP_perm _).symm) hn false false h
      rw [← many_perm kq (srtP_perm _).symm] at mw
      exact seq_then (if_no t1) (ret_ok (own_ok (acons_ok var_ok (acons_ok (own_ok (acons_ok var_ok (acons_ok var_ok (acons_ok var_ok anil_ok))) wp) anil_ok)) mw))
theorem many_lim (hn : n ≤ 28) : manyL n K < 2 ^ 300 := Nat.lt_of_le_of_lt (many_le hn) (Nat.pow_lt_pow_right (by omega) (by omega))
def chaD (n : Nat) (K : List (Nat × Nat)) (p q : Nat) : D := redD (wwL n K p q) (manyL n K)
theorem chance_ok (k : Kn n K) (hn : n ≤ 28) (pos : 0 < manyL n K) {p q : Nat} (hp : p < n) (hq : q < n) (ne : q ≠ p) (l m : Bool) (h : Hd) : m_chance [.int (n : Nat), knD l m K, .int (p : Nat), .int (q : Nat)] h = .ok (chaD n K p q) h := by
  have lim := many_lim (n := n) (K := K) hn
  have le := ww_le k hn hp hq ne
  exact fn_rt' [some (.int (n : Nat)), some (knD l m K), some (.int (p : Nat)), some (.int (q : Nat))] (ret_ok (own_ok (acons_ok (own_ok (acons_ok var_ok (acons_ok var_ok (acons_ok var_ok (acons_ok var_ok anil_ok)))) (ways_with_ok k hn hp hq ne l m h)) (acons_ok (own_ok (acons_ok var_ok (acons_ok var_ok anil_ok)) (many_ok k hn l m h)) anil_ok)) (reduced_ok (by omega) lim pos h))) rfl
theorem pair_chance_ok (k : Kn n K) (hn : n ≤ 28) (pos : 0 < manyL n K) {p q : Nat} (hp : p < n) (hq : q < n) (ne : q ≠ p) (l m : Bool) (h : Hd) : m_pair_chance [.int (n : Nat), knD l m K, .int (p : Nat), .int (q : Nat)] h = .ok (chaD n K p q) h :=
  fn_rt' [some (.int (n : Nat)), some (knD l m K), some (.int (p : Nat)), some (.int (q : Nat))] (seq_then (expr_ok (own_ok (acons_ok var_ok (acons_ok var_ok anil_ok)) (look_known_ok k hn pos l m h))) (seq_then (expr_ok (own_ok (acons_ok var_ok (acons_ok var_ok anil_ok)) (look_person_ok hp h))) (seq_then (expr_ok (own_ok (acons_ok var_ok (acons_ok var_ok anil_ok)) (look_person_ok hq h))) (ret_ok (own_ok (acons_ok var_ok (acons_ok var_ok (acons_ok var_ok (acons_ok var_ok anil_ok)))) (chance_ok k hn pos hp hq ne l m h)))))) rfl
end
end Mini
namespace Mini
open PySem L2
section
variable {n : Nat} {K : List (Nat × Nat)}
def rowN (n i : Nat) : List (Nat × Nat) := (List.range' (i + 1) (n - (i + 1))).map fun j => (i, j)
def prsN (n : Nat) : List (Nat × Nat) := (List.range n).flatMap (rowN n)
def apD (n : Nat) (K : List (Nat × Nat)) (r : Nat × Nat) : D := .tup [PR2 r, chaD n K r.1 r.2]
def apL (n : Nat) (K : List (Nat × Nat)) : List (Nat × Nat) := (prsN n).filter fun r => decide (0 < wwL n K r.1 r.2)
theorem rows_len' (n : Nat) : ∀ i, ((List.range i).flatMap (rowN n)).length ≤ i * n
  | 0 => by simp
  | i + 1 => by
    have := rows_len' n i
    have e : (rowN n i).length ≤ n := by unfold rowN; simp
    rw [List.range_succ, List.flatMap_append, List.length_append, Nat.succ_mul]
    simp only [List.flatMap_cons, List.flatMap_nil, List.append_nil]
    omega
theorem pos_red {a b : Nat} (hb : 0 < b) : 0 < a / Nat.gcd a b ↔ 0 < a := by
  have gp : 0 < Nat.gcd a b := Nat.gcd_pos_of_pos_right a hb
  constructor
  · intro h
    rcases Nat.eq_zero_or_pos a with z | z
    · rw [z, Nat.zero_div] at h; omega
    · exact z
  · intro h
    exact Nat.div_pos (Nat.gcd_le_left b h) gp
theorem freeze_okA {i : Nat} {b : SF} {s : Ev} {h : Hd} {xs : List D} {r : Res Fl} (e : s[i]? = some (some (.ref h.length))) (k : b (s.set i (some (.lv xs))) (h ++ [.dead]) = r) : s_freeze i b s (h ++ [.lst xs]) = r := by
  simp only [s_freeze, e, last_get, set_last]
  exact k
theorem all_pairs_ok (k : Kn n K) (hn : n ≤ 28) (pos : 0 < manyL n K) (l m : Bool) (h : Hd) : m_all_pairs [.int (n : Nat), knD l m K] h = .ok (.lv ((apL n K).map (apD n K))) h := by
  have nrA : ∀ L : List (Nat × Nat), noRefs (L.map (apD n K)) = true := fun L => by
    rw [noRefs_iff]; intro d hd; obtain ⟨r, _, rfl⟩ := List.mem_map.mp hd; rfl
  have loop : ∃ v3, forM (.nm 3) x_all_pairs_f0 (rangeL 0 n) [some (.int (n : Nat)), some (knD l m K), some (.ref h.length), none, none, none, none] (h ++ [.lst []]) = .ok (.nx [some (.int (n : Nat)), some (knD l m K), some (.ref h.length), v3, none, none, none]) (h ++ [.lst ((prsN n).map (apD n K))]) := by
    refine for_wp (Q := fun r => ∃ v3, r = .ok (.nx [some (.int (n : Nat)), some (knD l m K), some (.ref h.length), v3, none, none, none]) (h ++ [.lst ((prsN n).map (apD n K))])) (fun i s H => (∃ v3, s = [some (.int (n : Nat)), some (knD l m K), some (.ref h.length), v3, none, none, none]) ∧ H = h ++ [.lst (((List.range i).flatMap (rowN n)).map (apD n K))]) _ _ _ ⟨⟨none, rfl⟩, rfl⟩ ?_ ?_
    · rintro i d s H hd ⟨⟨v3, rfl⟩, rfl⟩
      obtain ⟨hi, rfl⟩ := rangeL_at d hd
      generalize hH : h ++ [O.lst (((List.range i).flatMap (rowN n)).map (apD n K))] = H
      have al : H[h.length]? = some (.lst (((List.range i).flatMap (rowN n)).map (apD n K))) := by rw [← hH, last_get]
      have lc : e_lc [4] (i_rng2 (a_cons (e_op (addP false) (e_var 3) (e_c (D.int 1))) (a_cons (e_var 0) a_nil))) (.nm 4) t_yes (e_tup (a_cons (e_tup (a_cons (e_var 3) (a_cons (e_var 4) a_nil))) (a_cons (e_own m_chance (a_cons (e_var 0) (a_cons (e_var 1) (a_cons (e_var 3) (a_cons (e_var 4) a_nil))))) a_nil))) [some (.int (n : Nat)), some (knD l m K), some (.ref h.length), some (.int (i : Nat)), none, none, none] H = .ok (.lv ((rowN n i).map (apD n K))) H :=
        lc_y (List.range' (i + 1) (n - (i + 1))) (fun j => D.int (j : Nat)) (fun j => apD n K (i, j)) (rng2_ok (i := i + 1) (j := n) (acons_ok (op_ok var_ok c_ok (addP_int _ _ _ _)) (acons_ok var_ok anil_ok)) (by omega) (by omega)) (by simp; omega) (by rw [rowN, List.map_map]; rfl) fun j hj => ⟨_, rfl, by
          have hj := List.mem_range'_1.mp hj
          exact tup_ok (acons_ok (tup_ok (acons_ok var_ok (acons_ok var_ok anil_ok)) two_sz) (acons_ok (own_ok (acons_ok var_ok (acons_ok var_ok (acons_ok var_ok (acons_ok var_ok anil_ok)))) (chance_ok k hn pos (p := i) (q := j) (by omega) (by omega) (by omega) l m H)) anil_ok)) two_sz⟩
      refine ⟨_, rfl, .inl ⟨_, h ++ [.lst (((List.range (i + 1)).flatMap (rowN n)).map (apD n K))], expr_ok (lm_ok (d := .non) var_ok (by simp [lstTy, asL, al]) (a1_ok lc) ?_), ⟨_, rfl⟩, rfl⟩⟩
      have r1 := rows_len' n i
      have r2 : (rowN n i).length ≤ n := by unfold rowN; simp
      have im : i * n ≤ 28 * 28 := Nat.mul_le_mul (by omega) hn
      have hz : (((List.range i).flatMap (rowN n)).map (apD n K)).length + ((rowN n i).map (apD n K)).length ≤ sizeLine := by
        rw [List.length_map, List.length_map]; exact sz5 (by omega)
      rw [← hH]
      simp only [extP, asV, notFl, Bool.true_and, last_get, nrA, decide_eq_true hz, Bool.and_self, if_true, set_last]
      rw [List.range_succ, List.flatMap_append, List.map_append]
      simp
    · rintro s H ⟨⟨v3, rfl⟩, rfl⟩
      refine ⟨v3, ?_⟩
      rw [rangeL_len]; rfl
  obtain ⟨v3, e⟩ := loop
  have pl : (prsN n).length ≤ 100000 := by
    have := rows_len' n n
    have : n * n ≤ 28 * 28 := Nat.mul_le_mul hn hn
    unfold prsN; omega
  refine fn_v (np := 2) (n := 7) (b := b_all_pairs) (ds := [.int (n : Nat), knD l m K]) (h := h) (h' := [.dead]) [some (.int (n : Nat)), some (knD l m K), none, none, none, none, none] (seq_then (expr_ok (own_ok (acons_ok var_ok (acons_ok var_ok anil_ok)) (look_known_ok k hn pos l m h))) (seq_then (set_ok (lstM_ok anil_ok (Nat.zero_le _))) (seq_then ((for_ok (rng_ok (n := n) (a1_ok var_ok) (by omega))).trans e) (freeze_okA rfl (ret_ok ?_))))) (by simp only [noRef]; exact nrA _)
  refine lc_x (p := .tp [(.nm 5), (.nm 6)]) (tt := t_b (e_op gtP (e_op ixP (e_var 6) (e_c (D.int 0))) (e_c (D.int 0)))) (te := e_tup (a_cons (e_var 5) (a_cons (e_var 6) a_nil))) (prsN n) (apD n K) (fun r => decide (0 < wwL n K r.1 r.2)) (apD n K) (seq_lv var_ok) pl rfl fun r hr => ⟨_, patD_two 5 6 _ _ _, b_ok (op_ok (op_ok var_ok c_ok ix_tup0) c_ok ((gtP_nat _ 0 _).trans ?_)), fun _ => tup_ok (acons_ok var_ok (acons_ok var_ok anil_ok)) two_sz⟩
  rw [show decide (0 < wwL n K r.1 r.2 / Nat.gcd (wwL n K r.1 r.2) (manyL n K)) = decide (0 < wwL n K r.1 r.2) from decide_eq_decide.mpr (pos_red pos)]
theorem red_one {a b : Nat} (hb : 0 < b) : (a / Nat.gcd a b = 1 ∧ b / Nat.gcd a b = 1) ↔ a = b := by
  have gp : 0 < Nat.gcd a b := Nat.gcd_pos_of_pos_right a hb
  constructor
  · rintro ⟨h1, h2⟩
    have := Nat.div_mul_cancel (Nat.gcd_dvd_left a b)
    have := Nat.div_mul_cancel (Nat.gcd_dvd_right a b)
    rw [h1] at *
    rw [h2] at *
    omega
  · rintro rfl
    rw [Nat.gcd_self]
    exact ⟨Nat.div_self hb, Nat.div_self hb⟩
theorem eqP_one (a b : Nat) (hb : 0 < b) (h : Hd) : eqP false (redD a b) (.tup [.int 1, .int 1]) h = some (.bl (decide (a = b)), h) := by
  refine (eqP_tup false [((a / Nat.gcd a b : Nat) : Int), ((b / Nat.gcd a b : Nat) : Int)] [1, 1] h).trans ?_
  have : decide ([((a / Nat.gcd a b : Nat) : Int), ((b / Nat.gcd a b : Nat) : Int)] = [1, 1]) = decide (a = b) := by
    rw [decide_eq_decide, ← red_one hb]
    simp only [List.cons.injEq, and_true]
    omega
  simp only [Bool.false_eq_true, if_false, this]
end
end Mini
namespace Mini
open PySem L2
section
variable {n : Nat} {K : List (Nat × Nat)}
def surL (n : Nat) (K : List (Nat × Nat)) : List (Nat × Nat) := (apL n K).filter fun r => decide (wwL n K r.1 r.2 = manyL n K)
theorem sure_pairs_ok (k : Kn n K) (hn : n ≤ 28) (pos : 0 < manyL n K) (l m : Bool) (h : Hd) : m_sure_pairs [.int (n : Nat), knD l m K] h = .ok (.lv (PS (surL n K))) h := by
  have al : (apL n K).length ≤ 100000 := by
    have := rows_len' n n
    have : n * n ≤ 28 * 28 := Nat.mul_le_mul hn hn
    unfold apL
    exact Nat.le_trans (List.length_filter_le _ _) (by unfold prsN; omega)
  have se : i_seq (e_own m_all_pairs (a_cons (e_var 0) (a_cons (e_var 1) a_nil))) [some (.int (n : Nat)), some (knD l m K), none, none] h = .ok ((apL n K).map (apD n K)) h := seq_lv (own_ok (acons_ok var_ok (acons_ok var_ok anil_ok)) (all_pairs_ok k hn pos l m h))
  refine fn_rt' [some (.int (n : Nat)), some (knD l m K), none, none] (ret_ok (lc_x (p := .tp [(.nm 2), (.nm 3)]) (tt := t_b (e_op (eqP false) (e_var 3) (e_tup (a_cons (e_c (D.int 1)) (a_cons (e_c (D.int 1)) a_nil))))) (te := e_var 2) (apL n K) (apD n K) (fun r => decide (wwL n K r.1 r.2 = manyL n K)) PR2 (ys := PS (surL n K)) se al rfl fun r hr => ⟨_, patD_two 2 3 _ _ _, b_ok (op_ok var_ok (tup_ok (acons_ok c_ok (acons_ok c_ok anil_ok)) two_sz) (eqP_one _ _ pos h)), fun _ => var_ok⟩)) ?_
  simp only [noRef]; exact noRefs_map (α := Nat × Nat) _
end
end Mini
namespace Mini
open PySem L2
section
variable {n : Nat} {K : List (Nat × Nat)}
def pcL (n : Nat) (K : List (Nat × Nat)) (p : Nat) : List Nat := ((List.range n).filter fun o => !decide (o = p)).filter fun o => decide (0 < wwL n K p o)
def pcD (n : Nat) (K : List (Nat × Nat)) (p : Nat) (o : Nat) : D := .tup [.int (o : Nat), chaD n K p o]
theorem decN (a b : Nat) : decide (((a : Nat) : Int) = ((b : Nat) : Int)) = decide (a = b) := decide_eq_decide.mpr (by omega)
theorem red_pos {a b : Nat} (hb : 0 < b) : 0 < a / Nat.gcd a b ↔ 0 < a := by
  have gp : 0 < Nat.gcd a b := Nat.gcd_pos_of_pos_right a hb
  constructor
  · intro h
    rcases Nat.eq_zero_or_pos a with z | z
    · rw [z, Nat.zero_div] at h; omega
    · exact z
  · intro h
    exact Nat.div_pos (Nat.gcd_le_left b h) gp
theorem partner_chances_ok (k : Kn n K) (hn : n ≤ 28) (pos : 0 < manyL n K) {p : Nat} (hp : p < n) (l m : Bool) (h : Hd) : m_partner_chances [.int (n : Nat), knD l m K, .int (p : Nat)] h = .ok (.lv ((pcL n K p).map (pcD n K p))) h := by
  have fl : ((List.range n).filter fun o => !decide (o = p)).length ≤ n := Nat.le_trans (List.length_filter_le _ _) (by simp)
  refine fn_rt' [some (.int (n : Nat)), some (knD l m K), some (.int (p : Nat)), none, none, none] ?_ ?_
  · refine seq_then (expr_ok (own_ok (acons_ok var_ok (acons_ok var_ok anil_ok)) (look_known_ok k hn pos l m h))) (seq_then (expr_ok (own_ok (acons_ok var_ok (acons_ok var_ok anil_ok)) (look_person_ok hp h))) (seq_then (set_ok (lc_x (List.range n) (fun o => .int (o : Nat)) (fun o => !decide (o = p)) (pcD n K p) (ys := ((List.range n).filter fun o => !decide (o = p)).map (pcD n K p)) ((rng_ok (n := n) (a1_ok var_ok) (by omega)).trans (by rw [rangeL_zero])) (by simp; omega) rfl fun o ho => ⟨_, rfl, b_ok (op_ok var_ok var_ok ((eqT_int _ _ _).trans (by rw [decN]))), fun c => ?_⟩)) (ret_ok (lc_x ((List.range n).filter fun o => !decide (o = p)) (pcD n K p) (fun o => decide (0 < wwL n K p o)) (pcD n K p) (ys := (pcL n K p).map (pcD n K p)) (seq_lv var_ok) (by omega) rfl fun o ho => ⟨_, patD_two 4 5 _ _ _, b_ok (op_ok (op_ok var_ok c_ok ix_tup0) c_ok ((gtP_nat _ 0 h).trans ?_)), fun _ => tup_ok (acons_ok var_ok (acons_ok var_ok anil_ok)) two_sz⟩))))
    · have ho := List.mem_range.mp ho
      exact tup_ok (acons_ok var_ok (acons_ok (own_ok (acons_ok var_ok (acons_ok var_ok (acons_ok var_ok (acons_ok var_ok anil_ok)))) (chance_ok k hn pos hp ho (by simpa using c) l m h)) anil_ok)) two_sz
    · rw [show decide (0 < wwL n K p o / Nat.gcd (wwL n K p o) (manyL n K)) = decide (0 < wwL n K p o) from decide_eq_decide.mpr (red_pos pos)]
  · simp only [noRef]
    rw [noRefs_iff]
    intro d hd
    obtain ⟨o, _, rfl⟩ := List.mem_map.mp hd
    rfl
end
end Mini
namespace Mini
open PySem L2
def K0 (e : Nat) : List (Nat × Nat) := (List.range e).map fun k => (6 + 2 * k, 6 + 2 * k + 1)
def K1 (e : Nat) : List (Nat × Nat) := (0, 3) :: K0 e
theorem kn0 : ∀ e, e < 8 → Kn (6 + 2 * e) (K0 e) := fun e he => match e, he with
  | 0, _ => by exact ⟨by decide +kernel, by decide +kernel⟩
  | 1, _ => by exact ⟨by decide +kernel, by decide +kernel⟩
  | 2, _ => by exact ⟨by decide +kernel, by decide +kernel⟩
  | 3, _ => by exact ⟨by decide +kernel, by decide +kernel⟩
  | 4, _ => by exact ⟨by decide +kernel, by decide +kernel⟩
  | 5, _ => by exact ⟨by decide +kernel, by decide +kernel⟩
  | 6, _ => by exact ⟨by decide +kernel, by decide +kernel⟩
  | 7, _ => by exact ⟨by decide +kernel, by decide +kernel⟩
  | _ + 8, he => absurd he (by omega)
theorem kn1 : ∀ e, e < 8 → Kn (6 + 2 * e) (K1 e) := fun e he => match e, he with
  | 0, _ => by exact ⟨by decide +kernel, by decide +kernel⟩
  | 1, _ => by exact ⟨by decide +kernel, by decide +kernel⟩
  | 2, _ => by exact ⟨by decide +kernel, by decide +kernel⟩
  | 3, _ => by exact ⟨by decide +kernel, by decide +kernel⟩
  | 4, _ => by exact ⟨by decide +kernel, by decide +kernel⟩
  | 5, _ => by exact ⟨by decide +kernel, by decide +kernel⟩
  | 6, _ => by exact ⟨by decide +kernel, by decide +kernel⟩
  | 7, _ => by exact ⟨by decide +kernel, by decide +kernel⟩
  | _ + 8, he => absurd he (by omega)
theorem pos0 : ∀ e, e < 8 → 0 < manyL (6 + 2 * e) (K0 e) := fun e he => match e, he with
  | 0, _ => by decide +kernel
  | 1, _ => by decide +kernel
  | 2, _ => by decide +kernel
  | 3, _ => by decide +kernel
  | 4, _ => by decide +kernel
  | 5, _ => by decide +kernel
  | 6, _ => by decide +kernel
  | 7, _ => by decide +kernel
  | _ + 8, he => absurd he (by omega)
theorem pos1 : ∀ e, e < 8 → 0 < manyL (6 + 2 * e) (K1 e) := fun e he => match e, he with
  | 0, _ => by decide +kernel
  | 1, _ => by decide +kernel
  | 2, _ => by decide +kernel
  | 3, _ => by decide +kernel
  | 4, _ => by decide +kernel
  | 5, _ => by decide +kernel
  | 6, _ => by decide +kernel
  | 7, _ => by decide +kernel
  | _ + 8, he => absurd he (by omega)
theorem ap1 : ∀ e, e < 8 → apL (6 + 2 * e) (K1 e) = (0, 3) :: (1, 2) :: (4, 5) :: K0 e := fun e he => match e, he with
  | 0, _ => by decide +kernel
  | 1, _ => by decide +kernel
  | 2, _ => by decide +kernel
  | 3, _ => by decide +kernel
  | 4, _ => by decide +kernel
  | 5, _ => by decide +kernel
  | 6, _ => by decide +kernel
  | 7, _ => by decide +kernel
  | _ + 8, he => absurd he (by omega)
theorem su1 : ∀ e, e < 8 → surL (6 + 2 * e) (K1 e) = (0, 3) :: (1, 2) :: (4, 5) :: K0 e := fun e he => match e, he with
  | 0, _ => by decide +kernel
  | 1, _ => by decide +kernel
  | 2, _ => by decide +kernel
  | 3, _ => by decide +kernel
  | 4, _ => by decide +kernel
  | 5, _ => by decide +kernel
  | 6, _ => by decide +kernel
  | 7, _ => by decide +kernel
  | _ + 8, he => absurd he (by omega)
def told1 (e : Nat) : List D := [chaD (6 + 2 * e) (K0 e) 0 1, chaD (6 + 2 * e) (K0 e) 2 0, .lv ((pcL (6 + 2 * e) (K0 e) 0).map (pcD (6 + 2 * e) (K0 e) 0))]
def due1 : List D := [.tup [.int 2, .int 5], .tup [.int 0, .int 1], .lv [.tup [.int 1, .tup [.int 2, .int 5]], .tup [.int 3, .tup [.int 1, .int 5]], .tup [.int 5, .tup [.int 2, .int 5]]]]
theorem told_eq : ∀ e, e < 8 → told1 e = due1 := fun e he => match e, he with
  | 0, _ => by kernel_rfl
  | 1, _ => by kernel_rfl
  | 2, _ => by kernel_rfl
  | 3, _ => by kernel_rfl
  | 4, _ => by kernel_rfl
  | 5, _ => by kernel_rfl
  | 6, _ => by kernel_rfl
  | 7, _ => by kernel_rfl
  | _ + 8, he => absurd he (by omega)
end Mini
namespace Mini
open PySem L2
def restC : SF :=
  (s_seq (s_set 3 (e_lst true (a_cons (e_own m_possible_pairs (a_cons (e_c (D.int 4)) (a_cons (e_tup a_nil) a_nil))) (a_cons (e_own m_neighbour_mean (a_cons (e_c (D.int 6)) (a_cons (e_tup a_nil) a_nil))) (a_cons (e_own m_neighbour_mean (a_cons (e_c (D.int 2)) (a_cons (e_tup a_nil) a_nil))) (a_cons (e_own m_neighbour_mean (a_cons (e_c (D.int 4)) (a_cons (e_tup a_nil) a_nil))) a_nil))))))
    (s_seq (s_expr (e_lm appendP (e_var 3) (a_cons (e_own m_neighbour_mean (a_cons (e_c (D.int 0)) (a_cons (e_tup a_nil) a_nil))) a_nil)))
    (s_freeze 3 (s_ret (e_own m_law_same (a_cons (e_var 3) (a_cons (e_lst false (a_cons (e_lst false (a_cons (e_tup (a_cons (e_c (D.int 0)) (a_cons (e_c (D.int 1)) a_nil))) (a_cons (e_tup (a_cons (e_c (D.int 0)) (a_cons (e_c (D.int 3)) a_nil))) (a_cons (e_tup (a_cons (e_c (D.int 1)) (a_cons (e_c (D.int 2)) a_nil))) (a_cons (e_tup (a_cons (e_c (D.int 2)) (a_cons (e_c (D.int 3)) a_nil))) a_nil))))) (a_cons (e_tup (a_cons (e_c (D.int 12)) (a_cons (e_c (D.int 5)) a_nil))) (a_cons (e_tup (a_cons (e_c (D.int 1)) (a_cons (e_c (D.int 1)) a_nil))) (a_cons (e_tup (a_cons (e_c (D.int 2)) (a_cons (e_c (D.int 1)) a_nil))) (a_cons (e_tup (a_cons (e_c (D.int 0)) (a_cons (e_c (D.int 1)) a_nil))) a_nil)))))) a_nil)))))))
theorem rest_1 (v0 v1 v2 v3 v4 v5 : Option D) (x y : O) : restC [v0, v1, v2, v3, v4, v5] [x, y] = .ok (.rt (.bl true)) [x, y, .dead] := by kernel_rfl
theorem rest_2 (v0 v1 v2 v3 v4 v5 : Option D) (x y z : O) : restC [v0, v1, v2, v3, v4, v5] [x, y, z] = .ok (.rt (.bl true)) [x, y, z, .dead] := by kernel_rfl
theorem rest_3 (v0 v1 v2 v3 v4 v5 : Option D) (x y z u : O) : restC [v0, v1, v2, v3, v4, v5] [x, y, z, u] = .ok (.rt (.bl true)) [x, y, z, u, .dead] := by kernel_rfl
theorem rest_4 (v0 v1 v2 v3 v4 v5 : Option D) (x y z u w : O) : restC [v0, v1, v2, v3, v4, v5] [x, y, z, u, w] = .ok (.rt (.bl true)) [x, y, z, u, w, .dead] := by kernel_rfl
theorem rest_at (h : Hd) (h1 : 1 ≤ h.length) (h4 : h.length ≤ 4) (v0 v1 v2 v3 v4 v5 : Option D) : restC [v0, v1, v2, v3, v4, v5] (h ++ [.dead]) = .ok (.rt (.bl true)) (h ++ [.dead] ++ [.dead]) :=
  match h, h1, h4 with
  | [x], _, _ => rest_1 v0 v1 v2 v3 v4 v5 x .dead
  | [x, y], _, _ => rest_2 v0 v1 v2 v3 v4 v5 x y .dead
  | [x, y, z], _, _ => rest_3 v0 v1 v2 v3 v4 v5 x y z .dead
  | [x, y, z, u], _, _ => rest_4 v0 v1 v2 v3 v4 v5 x y z u .dead
  | [], h1, _ => by simp at h1
  | _ :: _ :: _ :: _ :: _ :: _, _, h4 => by simp at h4
end Mini
namespace Mini
open PySem L2
theorem same_seq {self : MF} {d : D} {l : Bool} {xs : List D} {h : Hd} (ha : asV d = some (l, xs)) (hs : asS d h = some xs) (hn : d = .tup xs ∨ d = .lv xs) (hl : xs.length ≤ 100000) (ih : ∀ x ∈ xs, self [x, x] h = .ok (.bl true) h) :
    fnM 2 4 (b_law_same self) [d, d] h = .ok (.bl true) h := by
  have hlc : lcM (.tp [.nm 2, .nm 3]) t_yes (e_own self (a_cons (e_var 2) (a_cons (e_var 3) a_nil))) (wipeD [some d, some d, none, none] [2, 3]) (zipL xs xs) [] h = some ([] ++ ((zipL xs xs).filter fun _ => true).map fun _ => D.bl true, h) := by
    apply lc_pure (fun _ => true) (fun _ => D.bl true)
    · intro p hp
      rw [zipL_self] at hp
      obtain ⟨x, hx, rfl⟩ := List.mem_map.mp hp
      refine ⟨_, rfl, rfl, fun _ => ?_⟩
      simp [e_own, a_cons, a_nil, e_var, wipeD, ih x hx]
    · rw [zipL_length]; simp; exact sz5 hl
  have hall : blsOf (((zipL xs xs).filter fun _ => true).map fun _ => D.bl true) = some (((zipL xs xs).filter fun _ => true).map fun _ => true) := by
    rw [show (((zipL xs xs).filter fun _ => true).map fun _ => D.bl true) = ((((zipL xs xs).filter fun _ => true).map fun _ => true).map D.bl) from by simp]
    exact blsOf_B _
  have hall2 : (((zipL xs xs).filter fun _ => true).map fun _ => true).all id = true := by simp
  simp only [List.nil_append] at hlc
  have hlen : eqP false (.int (xs.length : Int)) (.int (xs.length : Int)) h = some (.bl true, h) := by rw [eqP_int]; simp
  have hty : (tyS d = "tuple" ∨ tyS d = "list") := by rcases hn with rfl | rfl <;> simp [tyS]
  have hok : tyOk d h = true := by rcases hn with rfl | rfl <;> rfl
  have hlenP : lenP [d] h = some (.int xs.length, h) := by rcases hn with rfl | rfl <;> simp [lenP, asS, asL]
  have e1 : eqP true (.bl (isTy "list" (tyS d))) (.bl (isTy "list" (tyS d))) h = some (.bl false, h) := by rw [eqP_bl]; simp
  have e2 : eqP true (.bl (isTy "tuple" (tyS d))) (.bl (isTy "tuple" (tyS d))) h = some (.bl false, h) := by rw [eqP_bl]; simp
  have e0 : (isTy "list" (tyS d) || isTy "tuple" (tyS d)) = true := by rcases hn with rfl | rfl <;> simp [tyS, isTy]
  simp [fnM, runB, b_law_same, s_seq, s_if, t_tru, truD, t_or, t_b, e_op, e_isi, e_var, hok, e0, e1, e2, s_nil, s_ret, e_and, e_call, a_cons, a_nil, hlenP, hlen, e_lc, i_zip, ha, hlc, allP, asL, hall, hall2, sealR, sealD, noRef]
theorem law_same_ok : ∀ (n : Nat) (d : D) (h : Hd), good n d → r_law_same (n + 1) [d, d] h = .ok (.bl true) h := by
  intro n
  have scal : ∀ (m : Nat) (d : D) (h : Hd), good 0 d → r_law_same (m + 1) [d, d] h = .ok (.bl true) h := by
    intro m d h g
    cases d with
    | non =>
      have e1 : eqP false D.non D.non h = some (.bl true, h) := by simp [eqP, pyR, pyD, SeqAt.shaped, PyData.canLay0, PyData.depth, PyData.eqv]
      simp [r_law_same, fnM, runB, b_law_same, s_seq, s_if, t_tru, truD, t_or, t_b, e_op, e_isi, e_var, tyOk, isTy, tyS, s_nil, s_ret, e_and, e_c, isNP, e1, eqP_bl, sealR, sealD, noRef]
    | bl b =>
      simp [r_law_same, fnM, runB, b_law_same, s_seq, s_if, t_tru, truD, t_or, t_b, e_op, e_isi, e_var, tyOk, isTy, tyS, s_nil, s_ret, e_and, e_c, isNP, eqP_bl, sealR, sealD, noRef]
    | int i =>
      simp [r_law_same, fnM, runB, b_law_same, s_seq, s_if, t_tru, truD, t_or, t_b, e_op, e_isi, e_var, tyOk, isTy, tyS, s_nil, s_ret, e_and, e_not, e_c, isNP, eqP_bl, eqP_int, sealR, sealD, noRef]
    | str x =>
      have hs : PyData.strOk x = true := g
      have e1 : eqP false (.str x) (.str x) h = some (.bl true, h) := by simp [eqP, pyR, pyD, SeqAt.shaped, PyData.canLay0, PyData.depth, PyData.eqv, hs]
      simp [r_law_same, fnM, runB, b_law_same, s_seq, s_if, t_tru, truD, t_or, t_b, e_op, e_isi, e_var, tyOk, isTy, tyS, s_nil, s_ret, e_and, e_c, isNP, e1, eqP_bl, sealR, sealD, noRef]
    | tup _ => exact g.elim
    | lv _ => exact g.elim
    | fl _ => exact g.elim
    | ref _ => exact g.elim
    | exc _ _ _ => exact g.elim
    | obj _ _ _ => exact g.elim
    | fd _ _ => exact g.elim
  induction n with
  | zero => exact fun d h g => scal 0 d h g
  | succ n ih =>
    intro d h g
    cases d with
    | tup xs => exact same_seq (l := false) rfl rfl (.inl rfl) g.1 fun x hx => ih x h (g.2 x hx)
    | lv xs => exact same_seq (l := true) rfl rfl (.inr rfl) g.1 fun x hx => ih x h (g.2 x hx)
    | non => exact scal _ _ _ trivial
    | bl _ => exact scal _ _ _ trivial
    | int _ => exact scal _ _ _ trivial
    | str _ => exact scal _ _ _ g
    | fl _ => exact g.elim
    | ref _ => exact g.elim
    | exc _ _ _ => exact g.elim
    | obj _ _ _ => exact g.elim
    | fd _ _ => exact g.elim
theorem m_same4 {d : D} {h : Hd} (g : good 4 d) : m_law_same [d, d] h = .ok (.bl true) h := law_same_ok 4 d h g
end Mini
namespace Mini
open PySem L2
theorem more_ok (F : List (Nat × Nat)) (hF : F.length ≤ 1000) (e : Nat) (he : e ≤ 1000) (h : Hd) : m_law_more [.int 6, knD false false F, .int (e : Nat)] h = .ok (knD false false (F ++ K0 e)) h := by
  have lc : e_lc [3] (i_rng1 (a_cons (e_var 2) a_nil)) (.nm 3) t_yes (e_tup (a_cons (e_op (addP false) (e_var 0) (e_op (mulP false) (e_c (D.int 2)) (e_var 3))) (a_cons (e_op (addP false) (e_op (addP false) (e_var 0) (e_op (mulP false) (e_c (D.int 2)) (e_var 3))) (e_c (D.int 1))) a_nil))) [some (.int 6), some (knD false false F), some (.int (e : Nat)), none] h = .ok (.lv (PS (K0 e))) h :=
    lc_y (List.range e) (fun k => D.int (k : Nat)) (fun k => PR2 (6 + 2 * k, 6 + 2 * k + 1)) ((rng_ok (n := e) (a1_ok var_ok) (by omega)).trans (by rw [rangeL_zero])) (by simp; omega) (by rw [PS, K0, List.map_map]; rfl) fun k hk => ⟨_, rfl, by
      have ml : mulP false (.int 2) (.int (k : Nat)) h = some (.int ((2 * k : Nat) : Int), h) := (mulN (by
        have : in64 (2 : Int) = true := by decide
        rw [this, Bool.true_or]) false h).trans (by rw [show (2 : Int) * ((k : Nat) : Int) = ((2 * k : Nat) : Int) by omega])
      have ad : addP false (.int 6) (.int ((2 * k : Nat) : Int)) h = some (.int ((6 + 2 * k : Nat) : Int), h) := (addP_int _ _ _ _).trans (by rw [show (6 : Int) + ((2 * k : Nat) : Int) = ((6 + 2 * k : Nat) : Int) by omega])
      have ad1 : addP false (.int ((6 + 2 * k : Nat) : Int)) (.int 1) h = some (.int ((6 + 2 * k + 1 : Nat) : Int), h) := (addP_int _ _ _ _).trans (by rw [show ((6 + 2 * k : Nat) : Int) + 1 = ((6 + 2 * k + 1 : Nat) : Int) by omega])
      exact tup_ok (acons_ok (op_ok var_ok (op_ok c_ok var_ok ml) ad) (acons_ok (op_ok (op_ok var_ok (op_ok c_ok var_ok ml) ad) c_ok ad1) anil_ok)) two_sz⟩
  have nr : noRef (knD false false (F ++ K0 e)) = true := by
    show noRefs (PS (F ++ K0 e)) = true
    exact noRefs_map (α := Nat × Nat) _
  have k0 : (K0 e).length = e := by simp [K0]
  refine fn_rt' [some (.int 6), some (knD false false F), some (.int (e : Nat)), none] (ret_ok (op_ok (call_ok (a1_ok var_ok) (show tupleP [knD false false F] h = some (.tup (PS F), h) from rfl)) (call_ok (a1_ok lc) tupleP_lv) ?_)) nr
  rw [catT (by rw [PS_len, PS_len, k0]; omega)]
  show some (D.tup (PS F ++ PS (K0 e)), h) = some (.tup (PS (F ++ K0 e)), h)
  simp [PS]
theorem poss_ok {n : Nat} {K : List (Nat × Nat)} (k : Kn n K) (hn : n ≤ 28) (pos : 0 < manyL n K) (l m : Bool) (h : Hd) : m_possible_pairs [.int (n : Nat), knD l m K] h = .ok (.lv (PS (apL n K))) h := by
  have al : (apL n K).length ≤ 100000 := by
    have := rows_len' n n
    have : n * n ≤ 28 * 28 := Nat.mul_le_mul hn hn
    unfold apL
    exact Nat.le_trans (List.length_filter_le _ _) (by unfold prsN; omega)
  exact fn_rt' [some (.int (n : Nat)), some (knD l m K), none, none] (ret_ok (lc_y (apL n K) (apD n K) PR2 (seq_lv (own_ok (acons_ok var_ok (acons_ok var_ok anil_ok)) (all_pairs_ok k hn pos l m h))) al rfl fun r hr => ⟨_, patD_two 2 3 _ _ _, var_ok⟩)) (by simp only [noRef]; exact noRefs_map (α := Nat × Nat) _)
theorem good_due1 : good 4 (.lv due1) := by
  refine ⟨by simp [due1], fun d hd => ?_⟩
  have g2 : ∀ (k : Nat) (a b : Int), good (k + 1) (.tup [.int a, .int b]) := fun k a b => ⟨by simp, fun y hy => by
    simp only [List.mem_cons, List.not_mem_nil, or_false] at hy
    rcases hy with rfl | rfl <;> cases k <;> exact trivial⟩
  have g3 : ∀ (a b c : Int), good 2 (.tup [.int a, .tup [.int b, .int c]]) := fun a b c => ⟨by simp, fun y hy => by
    simp only [List.mem_cons, List.not_mem_nil, or_false] at hy
    rcases hy with rfl | rfl
    · exact trivial
    · exact g2 0 b c⟩
  simp only [due1, List.mem_cons, List.not_mem_nil, or_false] at hd
  rcases hd with rfl | rfl | rfl
  · exact g2 2 _ _
  · exact g2 2 _ _
  · refine ⟨by simp, fun y hy => ?_⟩
    simp only [List.mem_cons, List.not_mem_nil, or_false] at hy
    rcases hy with rfl | rfl | rfl <;> exact g3 _ _ _
theorem good_two2 {L : List (Nat × Nat)} (hl : L.length ≤ 100000) : good 4 (.lv [.lv (PS L), .lv (PS L)]) := ⟨by simp, fun d hd => by
  have g : good 3 (.lv (PS L)) := ⟨by rw [PS_len]; exact hl, fun d hd => by
    obtain ⟨r, _, rfl⟩ := List.mem_map.mp hd
    refine ⟨by simp, fun y hy => ?_⟩
    simp only [List.mem_cons, List.not_mem_nil, or_false] at hy
    rcases hy with rfl | rfl <;> exact trivial⟩
  simp only [List.mem_cons, List.not_mem_nil, or_false] at hd
  rcases hd with rfl | rfl <;> exact g⟩
theorem same4_no {f1 f2 : EF} {s : Ev} {h h1 : Hd} {d : D} (e1 : f1 s h = .ok d h1) (e2 : f2 s h1 = .ok d h1) (g : good 4 d) : t_not (t_tru (e_own m_law_same (a_cons f1 (a_cons f2 a_nil)))) s h = .ok false h1 :=
  not_t (tru_ok (own_ok (a2_ok e1 e2) (m_same4 g)))
theorem chances_at (h : Hd) (h1 : 1 ≤ h.length) (h4 : h.length ≤ 4) (e : Nat) (he : e < 8) : m_law_chances_right [.int (e : Nat)] h = .ok (.bl true) h := by
  have A2 := fun {f1 f2 : EF} {s : Ev} {h h1 h2 : Hd} {d1 d2 : D} (e1 : f1 s h = .ok d1 h1) (e2 : f2 s h1 = .ok d2 h2) => acons_ok e1 (acons_ok e2 (anil_ok (s := s) (h := h2)))
  have k0 := kn0 e he
  have k1 := kn1 e he
  have p0 := pos0 e he
  have p1 := pos1 e he
  let st : Option D → Option D → Option D → Option D → Option D → Ev := fun v1 v2 v3 v4 v5 => [some (.int (e : Nat)), v1, v2, v3, v4, v5]
  have ml : mulP false (.int 2) (.int (e : Nat)) h = some (.int ((2 * e : Nat) : Int), h) := (mulN (by
    have : in64 (2 : Int) = true := by decide
    rw [this, Bool.true_or]) false h).trans (by rw [show (2 : Int) * ((e : Nat) : Int) = ((2 * e : Nat) : Int) by omega])
  have ad : addP false (.int 6) (.int ((2 * e : Nat) : Int)) h = some (.int ((6 + 2 * e : Nat) : Int), h) := (addP_int _ _ _ _).trans (by rw [show (6 : Int) + ((2 * e : Nat) : Int) = ((6 + 2 * e : Nat) : Int) by omega])
  have f1 : s_par 1 2 (a_cons (e_own m_law_more (a_cons (e_c (D.int 6)) (a_cons (e_tup a_nil) (a_cons (e_var 0) a_nil)))) (a_cons (e_op (addP false) (e_c (D.int 6)) (e_op (mulP false) (e_c (D.int 2)) (e_var 0))) a_nil)) (st none none none none none) h = .ok (.nx (st (some (knD false false (K0 e))) (some (.int ((6 + 2 * e : Nat) : Int))) none none none)) h :=
    par_ok (A2 (own_ok (acons_ok c_ok (A2 (tup_ok anil_ok (Nat.zero_le _)) var_ok)) (more_ok [] (by simp) e (by omega) h)) (op_ok c_ok (op_ok c_ok var_ok ml) ad))
  let s1 := st (some (knD false false (K0 e))) (some (.int ((6 + 2 * e : Nat) : Int)))
  have f2 : s_set 3 (e_lst true (a_cons (e_own m_pair_chance (a_cons (e_var 2) (a_cons (e_var 1) (a_cons (e_c (D.int 0)) (a_cons (e_c (D.int 1)) a_nil))))) (a_cons (e_own m_pair_chance (a_cons (e_var 2) (a_cons (e_var 1) (a_cons (e_c (D.int 2)) (a_cons (e_c (D.int 0)) a_nil))))) (a_cons (e_own m_partner_chances (a_cons (e_var 2) (a_cons (e_var 1) (a_cons (e_c (D.int 0)) a_nil)))) a_nil)))) (s1 none none none) h = .ok (.nx (s1 (some (.ref h.length)) none none)) (h ++ [.lst (told1 e)]) :=
    set_ok (lstM_ok (acons_ok (own_ok (acons_ok var_ok (acons_ok var_ok (A2 c_ok c_ok))) (pair_chance_ok k0 (by omega) p0 (p := 0) (q := 1) (by omega) (by omega) (by omega) false false h)) (A2 (own_ok (acons_ok var_ok (acons_ok var_ok (A2 c_ok c_ok))) (pair_chance_ok k0 (by omega) p0 (p := 2) (q := 0) (by omega) (by omega) (by omega) false false h)) (own_ok (acons_ok var_ok (A2 var_ok c_ok)) (partner_chances_ok k0 (by omega) p0 (p := 0) (by omega) false false h)))) three_sz)
  let H := h ++ [O.dead]
  have one5 : ∀ (a b : Int) (s : Ev) (H : Hd), e_tup (a_cons (e_c (D.int a)) (a_cons (e_c (D.int b)) a_nil)) s H = .ok (.tup [.int a, .int b]) H := fun a b s H => tup_ok (A2 c_ok c_ok) two_sz
  have g3 : t_not (t_tru (e_own m_law_same (a_cons (e_var 3) (a_cons (e_lst false (a_cons (e_tup (a_cons (e_c (D.int 2)) (a_cons (e_c (D.int 5)) a_nil))) (a_cons (e_tup (a_cons (e_c (D.int 0)) (a_cons (e_c (D.int 1)) a_nil))) (a_cons (e_lst false (a_cons (e_tup (a_cons (e_c (D.int 1)) (a_cons (e_tup (a_cons (e_c (D.int 2)) (a_cons (e_c (D.int 5)) a_nil))) a_nil))) (a_cons (e_tup (a_cons (e_c (D.int 3)) (a_cons (e_tup (a_cons (e_c (D.int 1)) (a_cons (e_c (D.int 5)) a_nil))) a_nil))) (a_cons (e_tup (a_cons (e_c (D.int 5)) (a_cons (e_tup (a_cons (e_c (D.int 2)) (a_cons (e_c (D.int 5)) a_nil))) a_nil))) a_nil)))) a_nil)))) a_nil)))) (s1 (some (.lv due1)) none none) H = .ok false H :=
    same4_no var_ok (lst_ok (acons_ok (one5 _ _ _ _) (A2 (one5 _ _ _ _) (lst_ok (acons_ok (tup_ok (A2 c_ok (one5 _ _ _ _)) two_sz) (A2 (tup_ok (A2 c_ok (one5 _ _ _ _)) two_sz) (tup_ok (A2 c_ok (one5 _ _ _ _)) two_sz))) three_sz))) three_sz) good_due1
  let s4 := st (some (knD false false (K1 e))) (some (.int ((6 + 2 * e : Nat) : Int))) (some (.lv due1))
  have f4 : s_set 1 (e_own m_law_more (a_cons (e_c (D.int 6)) (a_cons (e_tup (a_cons (e_tup (a_cons (e_c (D.int 0)) (a_cons (e_c (D.int 3)) a_nil))) a_nil)) (a_cons (e_var 0) a_nil)))) (s1 (some (.lv due1)) none none) H = .ok (.nx (s4 none none)) H :=
    set_ok (own_ok (acons_ok c_ok (A2 (tup_ok (a1_ok (one5 _ _ _ _)) one_sz) var_ok)) (more_ok [(0, 3)] (by simp) e (by omega) H))
  have f5 : s_set 4 (e_call (listP false) (a_cons (e_slice false (e_var 1) (o_some (e_c (D.int 1))) o_none) a_nil)) (s4 none none) H = .ok (.nx (s4 (some (.lv (PS (K0 e)))) none)) H := by
    refine set_ok (call_ok (a1_ok (slice_ok var_ok (osome_ok c_ok) onone_ok (show slP false (knD false false (K1 e)) (some 1) none H = some (.tup (PS (K0 e)), H) from ?_))) (by simp only [listP, asS, mkL]; rfl))
    have := cut_from (xs := PS (K1 e)) (i := 1)
    show some (D.tup (cutD (PS (K1 e)) (some 1) none), H) = _
    rw [show (1 : Int) = ((1 : Nat) : Int) from rfl, this]
    rfl
  have lK : (K0 e).length = e := by simp [K0]
  let DL : List (Nat × Nat) := (0, 3) :: (1, 2) :: (4, 5) :: K0 e
  have f6 : s_set 5 (e_op (addP false) (e_lst false (a_cons (e_tup (a_cons (e_c (D.int 0)) (a_cons (e_c (D.int 3)) a_nil))) (a_cons (e_tup (a_cons (e_c (D.int 1)) (a_cons (e_c (D.int 2)) a_nil))) (a_cons (e_tup (a_cons (e_c (D.int 4)) (a_cons (e_c (D.int 5)) a_nil))) a_nil)))) (e_var 4)) (s4 (some (.lv (PS (K0 e)))) none) H = .ok (.nx (s4 (some (.lv (PS (K0 e)))) (some (.lv (PS DL))))) H :=
    set_ok (op_ok (lst_ok (acons_ok (one5 _ _ _ _) (A2 (one5 _ _ _ _) (one5 _ _ _ _))) three_sz) var_ok (by
      rw [catP_lv (Nat.le_trans (show _ ≤ 1000 by rw [PS_len, lK]; simp; omega) (by decide))]; rfl))
  have su := sure_pairs_ok k1 (by omega) p1 false false H
  rw [su1 e he] at su
  have ap := poss_ok k1 (by omega) p1 false false H
  rw [ap1 e he] at ap
  have g7 : t_not (t_tru (e_own m_law_same (a_cons (e_lst false (a_cons (e_own m_sure_pairs (a_cons (e_var 2) (a_cons (e_var 1) a_nil))) (a_cons (e_own m_possible_pairs (a_cons (e_var 2) (a_cons (e_var 1) a_nil))) a_nil))) (a_cons (e_lst false (a_cons (e_var 5) (a_cons (e_var 5) a_nil))) a_nil)))) (s4 (some (.lv (PS (K0 e)))) (some (.lv (PS DL)))) H = .ok false H :=
    same4_no (lst_ok (A2 (own_ok (A2 var_ok var_ok) su) (own_ok (A2 var_ok var_ok) ap)) two_sz) (lst_ok (A2 var_ok var_ok) two_sz) (good_two2 (L := DL) (by simp only [DL, List.length_cons]; omega))
  have f8 := rest_at h h1 h4 (some (.int (e : Nat))) (some (knD false false (K1 e))) (some (.int ((6 + 2 * e : Nat) : Int))) (some (.lv due1)) (some (.lv (PS (K0 e)))) (some (.lv (PS DL)))
  have te := told_eq e he
  rw [te] at f2
  have run := fn_d (np := 1) (n := 6) (b := b_law_chances_right) (ds := [.int (e : Nat)]) (h := h) (H := h ++ [O.dead] ++ [O.dead]) (d := .bl true) (st none none none none none)
    (seq_then f1 (seq_then f2 (freeze_okA rfl (seq_then (if_no g3) (seq_then f4 (seq_then f5 (seq_then f6 (seq_then (if_no g7) f8)))))))) rfl
  rw [show (h ++ [O.dead] ++ [O.dead]).take h.length = h by rw [List.append_assoc]; exact List.take_left] at run
  exact run
end Mini
namespace Mini
open PySem L2
theorem a0_ok {s : Ev} {h : Hd} : a_nil s h = .ok [] h := rfl
theorem c_at (h : Hd) (h1 : 1 ≤ h.length) (h4 : h.length ≤ 4) (f : Nat) (hf : f < 8) : m_law_counts_right [.int (f : Nat)] h = .ok (.bl true) h :=
  match h, h1, h4 with
  | [x], _, _ => c_at1 x f hf
  | [x, y], _, _ => c_at2 x y f hf
  | [x, y, z], _, _ => c_at3 x y z f hf
  | [x, y, z, u], _, _ => c_at4 x y z u f hf
  | [], h1, _ => by simp at h1
  | _ :: _ :: _ :: _ :: _ :: _, _, h4 => by simp at h4
theorem n_at (h : Hd) (h1 : 1 ≤ h.length) (h4 : h.length ≤ 4) (f : Nat) (hf : f < 8) : m_law_numbers_right [.int (f : Nat)] h = .ok (.bl true) h :=
  match h, h1, h4 with
  | [x], _, _ => n_at1 x f hf
  | [x, y], _, _ => n_at2 x y f hf
  | [x, y, z], _, _ => n_at3 x y z f hf
  | [x, y, z, u], _, _ => n_at4 x y z u f hf
  | [], h1, _ => by simp at h1
  | _ :: _ :: _ :: _ :: _ :: _, _, h4 => by simp at h4
theorem right_ok (h : Hd) (b : Nat) (hl : h.length = b + 1) (b4 : b < 4) (bx : BoxAt h b 0) : ∃ h', m_law_right [.ref b] h = .ok (.bl true) h' ∧ h'.length = h.length := by
  obtain ⟨w, h2, e2, w0, w1, d2⟩ := m_take_ok (k := 8) (by omega) (by omega) bx (by omega)
  have l2 : h2.length = h.length := d2.len
  obtain ⟨f, rfl⟩ : ∃ f : Nat, w = (f : Nat) := ⟨w.toNat, by omega⟩
  have e3 := c_at h2 (by omega) (by omega) f (by omega)
  have e4 := n_at h2 (by omega) (by omega) f (by omega)
  have e5 := chances_at h2 (by omega) (by omega) f (by omega)
  have e6 := small_at h2 (by omega) (by omega)
  have run : b_law_right [some (.ref b), none] h = .ok (.rt (.bl true)) h2 := seq_then (set_ok (own_ok (a2_ok var_ok c_ok) e2)) (seq_then (if_no ((or_f (not_t (tru_ok (own_ok (a1_ok var_ok) e3)))).trans (not_t (tru_ok (own_ok (a1_ok var_ok) e4))))) (ret_ok ((eand_t (own_ok (a1_ok var_ok) e5)).trans (own_ok a0_ok e6))))
  have := fn_rt (np := 1) (n := 2) (ds := [.ref b]) [some (.ref b), none] (.bl true) run rfl
  refine ⟨_, this, ?_⟩
  rw [List.length_take, l2]; omega
theorem spec_law : ∀ ns : List Int, ns.length ≤ 63 → ∃ h, m_law [.fl (ns.map D.int)] [] = .ok (.bl true) h := law_of_right right_ok
end Mini
namespace Mini
open PySem PySem.Spec PyProof.Rows L2
structure Txt (mg : Str → Option Value) : Prop where
  n_abs : mg "abs" = none
  n_all : mg "all" = none
  n_any : mg "any" = none
  n_bool : mg "bool" = none
  n_enumerate : mg "enumerate" = none
  n_int : mg "int" = none
  n_isinstance : mg "isinstance" = none
  n_len : mg "len" = none
  n_list : mg "list" = none
  n_max : mg "max" = none
  n_min : mg "min" = none
  n_range : mg "range" = none
  n_set : mg "set" = none
  n_sorted : mg "sorted" = none
  n_str : mg "str" = none
  n_sum : mg "sum" = none
  n_tuple : mg "tuple" = none
  n_zip : mg "zip" = none
  c_MOST : ∃ t, mg "MOST" = some (.int 300 t)
section
variable {P : Program} {w : World} {K : PySem.W.Frag} {mg : Str → Option Value} {base : Heap}
abbrev s_is_number : Stmt := top 8
theorem sc_is_number : FnScope n_is_number ["thing"] (defScope s_is_number) := ⟨rfl, rfl, rfl, by decide +kernel, rfl, by decide +kernel, by decide +kernel⟩
theorem ok_is_number {f : Addr} {fd : FuncData} (F : Fun K "is_number" "is_number" s_is_number f fd) (T : Txt mg) : FnOk P w K mg base (L2.CX P w) 1 f fd ["thing"] (spM ⟨K, w⟩ mg m_is_number) :=
  fn_ok (k := 0) F sc_is_number fun cdv A outer s H E hr => by
    have tk : Takes (cxOf (L2.CX P w) P w K mg base n_is_number "is_number" (defScope s_is_number) f cdv A outer s H E) (fun cls d _ H => E cls d H) := takes_of rfl rfl rfl rfl
    have sc := sc_is_number
    exact (r_last (r_ret (r_andV (r_isi T.n_isinstance (r_var 0) T.n_int (by decide +kernel) kit_int) (r_one (r_notV (r_isi T.n_isinstance (r_var 0) T.n_bool (by decide +kernel) kit_bool))))))
abbrev s_cross : Stmt := top 9
theorem sc_cross : FnScope n_cross ["one", "other"] (defScope s_cross) := ⟨rfl, rfl, rfl, by decide +kernel, rfl, by decide +kernel, by decide +kernel⟩
theorem ok_cross {f : Addr} {fd : FuncData} (F : Fun K "cross" "cross" s_cross f fd) (T : Txt mg) : FnOk P w K mg base (L2.CX P w) 1 f fd ["one", "other"] (spM ⟨K, w⟩ mg m_cross) :=
  fn_ok (k := 0) F sc_cross fun cdv A outer s H E hr => by
    have tk : Takes (cxOf (L2.CX P w) P w K mg base n_cross "cross" (defScope s_cross) f cdv A outer s H E) (fun cls d _ H => E cls d H) := takes_of rfl rfl rfl rfl
    have sc := sc_cross
    exact (r_last (r_ret (r_cmp (p_eq hr.units) (r_callB c_len T.n_len (by decide +kernel) (ra_cons (r_lc sc.nd rfl (ri_seq (r_var 1)) (blkOk_by (own := [("person", 2)]) (N := n_cross) (sc := defScope s_cross) (by decide +kernel)) ⟨fun _ _ _ _ _ => (g_nm sc.nd), fun _ _ _ _ _ => (rts_one (r_tchain p_lt p_lt (r_callB (c_min (room1 hr) rfl) T.n_min (by decide +kernel) (ra_cons (r_var 0) ra_nil)) (r_var 2) (r_callB (c_max (room1 hr) rfl) T.n_max (by decide +kernel) (ra_cons (r_var 0) ra_nil)))), fun _ _ _ _ _ => (r_var 2)⟩ (by decide)) ra_nil)) r_int)))
abbrev s_are_crossed : Stmt := top 10
theorem sc_are_crossed : FnScope n_are_crossed ["pairs"] (defScope s_are_crossed) := ⟨rfl, rfl, rfl, by decide +kernel, rfl, by decide +kernel, by decide +kernel⟩
theorem ok_are_crossed {f : Addr} {fd : FuncData} (F : Fun K "are_crossed" "are_crossed" s_are_crossed f fd) (T : Txt mg) {f_cross : Addr} {fd_cross : FuncData} (d_cross : Df P w K mg base 1 "cross" ["one", "other"] f_cross fd_cross m_cross) : FnOk P w K mg base (L2.CX P w) 2 f fd ["pairs"] (spM ⟨K, w⟩ mg m_are_crossed) :=
  fn_ok (k := 1) F sc_are_crossed fun cdv A outer s H E hr => by
    have tk : Takes (cxOf (L2.CX P w) P w K mg base n_are_crossed "are_crossed" (defScope s_are_crossed) f cdv A outer s H E) (fun cls d _ H => E cls d H) := takes_of rfl rfl rfl rfl
    have sc := sc_are_crossed
    exact (r_seq (r_for (passes_of rfl) rfl (ri_enum T.n_enumerate (ra_cons (r_var 0) ra_nil)) (g_tp rfl (gs_cons (g_nm sc.nd) (gs_cons (g_nm sc.nd) gs_nil)))
      (r_last (r_if (r_tru (r_callB (c_any rfl) T.n_any (by decide +kernel) (ra_cons (r_lc sc.nd rfl (ri_seq (r_slice false (r_var 0) (ro_some (r_op (p_add false) (r_var 1) r_int)) ro_none)) (blkOk_by (own := [("other", 3)]) (N := n_are_crossed) (sc := defScope s_are_crossed) (by decide +kernel)) ⟨fun _ _ _ _ _ => (g_nm sc.nd), fun _ _ _ _ _ => rts_nil, fun _ _ _ _ _ => (r_own d_cross hr takes0 (ra_cons (r_var 2) (ra_cons (r_var 3) ra_nil)))⟩ (by decide)) ra_nil)))
      (r_last (r_ret r_bl))
      r_nil)))
    (r_last (r_ret r_bl)))
abbrev s_arms : Stmt := top 11
theorem sc_arms : FnScope n_arms ["arrangement"] (defScope s_arms) := ⟨rfl, rfl, rfl, by decide +kernel, rfl, by decide +kernel, by decide +kernel⟩
theorem ok_arms {f : Addr} {fd : FuncData} (F : Fun K "arms" "arms" s_arms f fd) (T : Txt mg) : FnOk P w K mg base (L2.CX P w) 1 f fd ["arrangement"] (spM ⟨K, w⟩ mg m_arms) :=
  fn_ok (k := 0) F sc_arms fun cdv A outer s H E hr => by
    have tk : Takes (cxOf (L2.CX P w) P w K mg base n_arms "arms" (defScope s_arms) f cdv A outer s H E) (fun cls d _ H => E cls d H) := takes_of rfl rfl rfl rfl
    have sc := sc_arms
    exact (r_last (r_ret (r_lc sc.nd rfl (ri_enum T.n_enumerate (ra_cons (r_var 0) ra_nil)) (blkOk_by (own := [("person", 2), ("partner", 1)]) (N := n_arms) (sc := defScope s_arms) (by decide +kernel)) ⟨fun _ _ _ _ _ => (g_tp rfl (gs_cons (g_nm sc.nd) (gs_cons (g_nm sc.nd) gs_nil))), fun _ _ _ _ _ => (rts_one (r_tcmp p_lt (r_var 2) (r_var 1))), fun _ _ _ _ _ => (r_tup (ra_cons (r_var 2) (ra_cons (r_var 1) ra_nil)))⟩ (by decide))))
abbrev s_is_paired : Stmt := top 12
theorem sc_is_paired : FnScope n_is_paired ["thing"] (defScope s_is_paired) := ⟨rfl, rfl, rfl, by decide +kernel, rfl, by decide +kernel, by decide +kernel⟩
theorem ok_is_paired {f : Addr} {fd : FuncData} (F : Fun K "is_paired" "is_paired" s_is_paired f fd) (T : Txt mg) {f_is_number : Addr} {fd_is_number : FuncData} (d_is_number : Df P w K mg base 1 "is_number" ["thing"] f_is_number fd_is_number m_is_number) : FnOk P w K mg base (L2.CX P w) 2 f fd ["thing"] (spM ⟨K, w⟩ mg m_is_paired) :=
  fn_ok (k := 1) F sc_is_paired fun cdv A outer s H E hr => by
    have tk : Takes (cxOf (L2.CX P w) P w K mg base n_is_paired "is_paired" (defScope s_is_paired) f cdv A outer s H E) (fun cls d _ H => E cls d H) := takes_of rfl rfl rfl rfl
    have sc := sc_is_paired
    exact (r_seq (r_for (passes_of rfl) rfl (ri_enum T.n_enumerate (ra_cons (r_var 0) ra_nil)) (g_tp rfl (gs_cons (g_nm sc.nd) (gs_cons (g_nm sc.nd) gs_nil)))
      (r_last (r_if (r_bool (r_or (r_not (r_tru (r_own d_is_number hr tk (ra_cons (r_var 2) ra_nil)))) (r_or (r_not (r_tchain p_le p_lt r_int (r_var 2) (r_callB c_len T.n_len (by decide +kernel) (ra_cons (r_var 0) ra_nil)))) (r_or1 (r_tcmp (p_eq hr.units) (r_var 2) (r_var 1))))))
      (r_last (r_ret r_bl))
      r_nil)))
    (r_last (r_ret (r_callB (c_all rfl) T.n_all (by decide +kernel) (ra_cons (r_lc sc.nd rfl (ri_enum T.n_enumerate (ra_cons (r_var 0) ra_nil)) (blkOk_by (own := [("person", 1), ("partner", 2)]) (N := n_is_paired) (sc := defScope s_is_paired) (by decide +kernel)) ⟨fun _ _ _ _ _ => (g_tp rfl (gs_cons (g_nm sc.nd) (gs_cons (g_nm sc.nd) gs_nil))), fun _ _ _ _ _ => rts_nil, fun _ _ _ _ _ => (r_cmp (p_eq hr.units) (r_ix p_ix (r_var 0) (r_var 2)) (r_var 1))⟩ (by decide)) ra_nil)))))
abbrev s_is_arrangement : Stmt := top 13
theorem sc_is_arrangement : FnScope n_is_arrangement ["thing"] (defScope s_is_arrangement) := ⟨rfl, rfl, rfl, by decide +kernel, rfl, by decide +kernel, by decide +kernel⟩
theorem ok_is_arrangement {f : Addr} {fd : FuncData} (F : Fun K "is_arrangement" "is_arrangement" s_is_arrangement f fd) (T : Txt mg) {f_is_paired : Addr} {fd_is_paired : FuncData} (d_is_paired : Df P w K mg base 2 "is_paired" ["thing"] f_is_paired fd_is_paired m_is_paired) {f_are_crossed : Addr} {fd_are_crossed : FuncData} (d_are_crossed : Df P w K mg base 2 "are_crossed" ["pairs"] f_are_crossed fd_are_crossed m_are_crossed) {f_arms : Addr} {fd_arms : FuncData} (d_arms : Df P w K mg base 1 "arms" ["arrangement"] f_arms fd_arms m_arms) : FnOk P w K mg base (L2.CX P w) 3 f fd ["thing"] (spM ⟨K, w⟩ mg m_is_arrangement) :=
  fn_ok (k := 2) F sc_is_arrangement fun cdv A outer s H E hr => by
    have tk : Takes (cxOf (L2.CX P w) P w K mg base n_is_arrangement "is_arrangement" (defScope s_is_arrangement) f cdv A outer s H E) (fun cls d _ H => E cls d H) := takes_of rfl rfl rfl rfl
    have sc := sc_is_arrangement
    exact (r_last (r_ret (r_andV (r_isi T.n_isinstance (r_var 0) T.n_tuple (by decide +kernel) kit_tuple) (r_andV (r_own d_is_paired hr tk (ra_cons (r_var 0) ra_nil)) (r_one (r_notV (r_own d_are_crossed hr tk (ra_cons (r_own d_arms hr tk (ra_cons (r_var 0) ra_nil)) ra_nil))))))))
abbrev s_look_same : Stmt := top 14
theorem sc_look_same : FnScope n_look_same ["one", "other"] (defScope s_look_same) := ⟨rfl, rfl, rfl, by decide +kernel, rfl, by decide +kernel, by decide +kernel⟩
theorem ok_look_same {f : Addr} {fd : FuncData} (F : Fun K "look_same" "look_same" s_look_same f fd) (T : Txt mg) : FnOk P w K mg base (L2.CX P w) 1 f fd ["one", "other"] (spM ⟨K, w⟩ mg m_look_same) :=
  fn_ok (k := 0) F sc_look_same fun cdv A outer s H E hr => by
    have tk : Takes (cxOf (L2.CX P w) P w K mg base n_look_same "look_same" (defScope s_look_same) f cdv A outer s H E) (fun cls d _ H => E cls d H) := takes_of rfl rfl rfl rfl
    have sc := sc_look_same
    exact (r_last (r_if (r_tcmp (p_ne hr.units) (r_callB c_len T.n_len (by decide +kernel) (ra_cons (r_var 0) ra_nil)) (r_callB c_len T.n_len (by decide +kernel) (ra_cons (r_var 1) ra_nil)))
      (r_last r_never)
      r_nil))
abbrev s_fits : Stmt := top 17
theorem sc_fits : FnScope n_fits ["known", "thing"] (defScope s_fits) := ⟨rfl, rfl, rfl, by decide +kernel, rfl, by decide +kernel, by decide +kernel⟩
theorem ok_fits {f : Addr} {fd : FuncData} (F : Fun K "fits" "fits" s_fits f fd) (T : Txt mg) {f_arms : Addr} {fd_arms : FuncData} (d_arms : Df P w K mg base 1 "arms" ["arrangement"] f_arms fd_arms m_arms) {f_is_arrangement : Addr} {fd_is_arrangement : FuncData} (d_is_arrangement : Df P w K mg base 3 "is_arrangement" ["thing"] f_is_arrangement fd_is_arrangement m_is_arrangement) : FnOk P w K mg base (L2.CX P w) 4 f fd ["known", "thing"] (spM ⟨K, w⟩ mg m_fits) :=
  fn_ok (k := 3) F sc_fits fun cdv A outer s H E hr => by
    have tk : Takes (cxOf (L2.CX P w) P w K mg base n_fits "fits" (defScope s_fits) f cdv A outer s H E) (fun cls d _ H => E cls d H) := takes_of rfl rfl rfl rfl
    have sc := sc_fits
    exact (r_seq (r_if (r_not (r_tru (r_own d_is_arrangement hr tk (ra_cons (r_var 1) ra_nil))))
      (r_last (r_ret r_bl))
      r_nil)
    (r_seq (r_set sc.nd (r_own d_arms hr tk (ra_cons (r_var 1) ra_nil)))
    (r_last (r_ret (r_callB (c_all rfl) T.n_all (by decide +kernel) (ra_cons (r_lc sc.nd rfl (ri_seq (r_var 0)) (blkOk_by (own := [("pair", 3)]) (N := n_fits) (sc := defScope s_fits) (by decide +kernel)) ⟨fun _ _ _ _ _ => (g_nm sc.nd), fun _ _ _ _ _ => rts_nil, fun _ _ _ _ _ => (r_cmp (p_in (room65 hr)) (r_callTy c_tuple T.n_tuple (by decide +kernel) (ra_cons (r_var 3) ra_nil)) (r_var 2))⟩ (by decide)) ra_nil))))))
abbrev s_crossing : Stmt := top 18
theorem sc_crossing : FnScope n_crossing ["known"] (defScope s_crossing) := ⟨rfl, rfl, rfl, by decide +kernel, rfl, by decide +kernel, by decide +kernel⟩
theorem ok_crossing {f : Addr} {fd : FuncData} (F : Fun K "crossing" "crossing" s_crossing f fd) (T : Txt mg) {f_cross : Addr} {fd_cross : FuncData} (d_cross : Df P w K mg base 1 "cross" ["one", "other"] f_cross fd_cross m_cross) : FnOk P w K mg base (L2.CX P w) 2 f fd ["known"] (spM ⟨K, w⟩ mg m_crossing) :=
  fn_ok (k := 1) F sc_crossing fun cdv A outer s H E hr => by
    have tk : Takes (cxOf (L2.CX P w) P w K mg base n_crossing "crossing" (defScope s_crossing) f cdv A outer s H E) (fun cls d _ H => E cls d H) := takes_of rfl rfl rfl rfl
    have sc := sc_crossing
    exact (r_seq (r_for (passes_of rfl) rfl (ri_enum T.n_enumerate (ra_cons (r_var 0) ra_nil)) (g_tp rfl (gs_cons (g_nm sc.nd) (gs_cons (g_nm sc.nd) gs_nil)))
      (r_last (r_for (passes_of rfl) rfl (ri_seq (r_slice false (r_var 0) (ro_some (r_op (p_add false) (r_var 1) r_int)) ro_none)) (g_nm sc.nd)
      (r_last (r_if (r_tru (r_own d_cross hr tk (ra_cons (r_var 2) (ra_cons (r_var 3) ra_nil))))
      (r_last (r_ret (r_tup (ra_cons (r_callTy c_tuple T.n_tuple (by decide +kernel) (ra_cons (r_var 2) ra_nil)) (ra_cons (r_callTy c_tuple T.n_tuple (by decide +kernel) (ra_cons (r_var 3) ra_nil)) ra_nil)))))
      r_nil)))))
    (r_last (r_ret r_non)))
abbrev s_home : Stmt := top 19
theorem sc_home : FnScope n_home ["known", "person"] (defScope s_home) := ⟨rfl, rfl, rfl, by decide +kernel, rfl, by decide +kernel, by decide +kernel⟩
theorem ok_home {f : Addr} {fd : FuncData} (F : Fun K "home" "home" s_home f fd) (T : Txt mg) : FnOk P w K mg base (L2.CX P w) 1 f fd ["known", "person"] (spM ⟨K, w⟩ mg m_home) :=
  fn_ok (k := 0) F sc_home fun cdv A outer s H E hr => by
    have tk : Takes (cxOf (L2.CX P w) P w K mg base n_home "home" (defScope s_home) f cdv A outer s H E) (fun cls d _ H => E cls d H) := takes_of rfl rfl rfl rfl
    have sc := sc_home
    exact (r_seq (r_set sc.nd r_non)
    (r_seq (r_for (passes_of rfl) rfl (ri_seq (r_var 0)) (g_tp rfl (gs_cons (g_nm sc.nd) (gs_cons (g_nm sc.nd) gs_nil)))
      (r_last (r_if (r_bool (r_and (r_tchain p_lt p_lt (r_var 3) (r_var 1) (r_var 4)) (r_and1 (r_bool (r_or (r_tcmp p_isN (r_var 2) r_non) (r_or1 (r_tcmp p_lt (r_op p_sub (r_var 4) (r_var 3)) (r_op p_sub (r_ix p_ix (r_var 2) r_int) (r_ix p_ix (r_var 2) r_int)))))))))
      (r_last (r_set sc.nd (r_tup (ra_cons (r_var 3) (ra_cons (r_var 4) ra_nil)))))
      r_nil)))
    (r_last (r_ret (r_var 2)))))
abbrev s_free_groups : Stmt := top 20
theorem sc_free_groups : FnScope n_free_groups ["people", "known"] (defScope s_free_groups) := ⟨rfl, rfl, rfl, by decide +kernel, rfl, by decide +kernel, by decide +kernel⟩
theorem ok_free_groups {f : Addr} {fd : FuncData} (F : Fun K "free_groups" "free_groups" s_free_groups f fd) (T : Txt mg) {f_home : Addr} {fd_home : FuncData} (d_home : Df P w K mg base 1 "home" ["known", "person"] f_home fd_home m_home) : FnOk P w K mg base (L2.CX P w) 2 f fd ["people", "known"] (spM ⟨K, w⟩ mg m_free_groups) :=
  fn_ok (k := 1) F sc_free_groups fun cdv A outer s H E hr => by
    have tk : Takes (cxOf (L2.CX P w) P w K mg base n_free_groups "free_groups" (defScope s_free_groups) f cdv A outer s H E) (fun cls d _ H => E cls d H) := takes_of rfl rfl rfl rfl
    have sc := sc_free_groups
    exact (r_seq (r_par sc.nd rfl (ra_cons (r_lc2 sc.nd rfl (ri_seq (r_var 1)) (blkOk_by (own := [("pair", 6), ("person", 4)]) (N := n_free_groups) (sc := defScope s_free_groups) (by decide +kernel)) ⟨fun _ _ _ _ _ => (g_nm sc.nd), fun _ _ _ _ _ => rts_nil, fun _ _ _ _ _ => (r_var 4)⟩ ⟨fun _ _ _ _ _ => (ri_seq (r_var 6)), fun _ _ _ _ _ => (g_nm sc.nd), fun _ _ _ _ _ => rts_nil⟩ (by decide) (by decide) (by decide)) (ra_cons r_dnew ra_nil)))
    (r_seq (r_for (passes_of rfl) rfl (ri_range1 T.n_range (ra_cons (r_var 0) ra_nil)) (g_nm sc.nd)
      (r_last (r_if (r_tcmp (p_notIn (room65 hr)) (r_var 4) (r_var 2))
      (r_seq (r_set sc.nd (r_own d_home hr tk (ra_cons (r_var 1) (ra_cons (r_var 4) ra_nil))))
    (r_last (r_asgT (r_op (p_add false) (r_dm PySem.F.slot_dict_get PySem.F.type_dict_get (m_dget (room9 hr)) (r_var 3) (ra_cons (r_var 5) (ra_cons (r_tup ra_nil) ra_nil))) (r_tup (ra_cons (r_var 4) ra_nil))) (q_sub (W := W0) (p_dset (room9 hr)) (r_var 3) (r_var 5)))))
      r_nil)))
    (r_last (r_ret (r_svals false (room66 hr) rfl T.n_sorted (r_var 3))))))
abbrev s_evidence : Stmt := top 21
theorem sc_evidence : FnScope n_evidence ["people", "known"] (defScope s_evidence) := ⟨rfl, rfl, rfl, by decide +kernel, rfl, by decide +kernel, by decide +kernel⟩
theorem ok_evidence {f : Addr} {fd : FuncData} (F : Fun K "evidence" "evidence" s_evidence f fd) (T : Txt mg) {f_crossing : Addr} {fd_crossing : FuncData} (d_crossing : Df P w K mg base 2 "crossing" ["known"] f_crossing fd_crossing m_crossing) {f_free_groups : Addr} {fd_free_groups : FuncData} (d_free_groups : Df P w K mg base 2 "free_groups" ["people", "known"] f_free_groups fd_free_groups m_free_groups) : FnOk P w K mg base (L2.CX P w) 3 f fd ["people", "known"] (spM ⟨K, w⟩ mg m_evidence) :=
  fn_ok (k := 2) F sc_evidence fun cdv A outer s H E hr => by
    have tk : Takes (cxOf (L2.CX P w) P w K mg base n_evidence "evidence" (defScope s_evidence) f cdv A outer s H E) (fun cls d _ H => E cls d H) := takes_of rfl rfl rfl rfl
    have sc := sc_evidence
    exact (r_seq (r_set sc.nd (r_own d_crossing hr tk (ra_cons (r_var 1) ra_nil)))
    (r_seq (r_if (r_tcmp p_notN (r_var 2) r_non)
      (r_last (r_ret (r_op (p_add false) (r_tup (ra_cons r_str ra_nil)) (r_var 2))))
      r_nil)
    (r_seq (r_for (passes_of rfl) rfl (ri_seq (r_own d_free_groups hr tk (ra_cons (r_var 0) (ra_cons (r_var 1) ra_nil)))) (g_nm sc.nd)
      (r_last (r_if (r_tcmp (p_eq hr.units) (r_op p_mod (r_callB c_len T.n_len (by decide +kernel) (ra_cons (r_var 3) ra_nil)) r_int) r_int)
      (r_last (r_ret (r_tup (ra_cons r_str (ra_cons (r_var 3) ra_nil)))))
      r_nil)))
    (r_last (r_ret r_non)))))
abbrev s_regions : Stmt := top 22
theorem sc_regions : FnScope n_regions ["people", "known"] (defScope s_regions) := ⟨rfl, rfl, rfl, by decide +kernel, rfl, by decide +kernel, by decide +kernel⟩
theorem ok_regions {f : Addr} {fd : FuncData} (F : Fun K "regions" "regions" s_regions f fd) (T : Txt mg) {f_free_groups : Addr} {fd_free_groups : FuncData} (d_free_groups : Df P w K mg base 2 "free_groups" ["people", "known"] f_free_groups fd_free_groups m_free_groups) {f_crossing : Addr} {fd_crossing : FuncData} (d_crossing : Df P w K mg base 2 "crossing" ["known"] f_crossing fd_crossing m_crossing) {f_evidence : Addr} {fd_evidence : FuncData} (d_evidence : Df P w K mg base 3 "evidence" ["people", "known"] f_evidence fd_evidence m_evidence) : FnOk P w K mg base (L2.CX P w) 4 f fd ["people", "known"] (spM ⟨K, w⟩ mg m_regions) :=
  fn_ok (k := 3) F sc_regions fun cdv A outer s H E hr => by
    have tk : Takes (cxOf (L2.CX P w) P w K mg base n_regions "regions" (defScope s_regions) f cdv A outer s H E) (fun cls d _ H => E cls d H) := takes_of rfl rfl rfl rfl
    have sc := sc_regions
    exact (r_seq (r_if (r_tcmp p_notN (r_own d_crossing hr tk (ra_cons (r_var 1) ra_nil)) r_non)
      (r_last r_never)
      r_nil)
    (r_last (r_ret (r_own d_free_groups hr tk (ra_cons (r_var 0) (ra_cons (r_var 1) ra_nil))))))
abbrev s_catalan : Stmt := top 23
theorem sc_catalan : FnScope n_catalan ["pairs"] (defScope s_catalan) := ⟨rfl, rfl, rfl, by decide +kernel, rfl, by decide +kernel, by decide +kernel⟩
theorem ok_catalan {f : Addr} {fd : FuncData} (F : Fun K "catalan" "catalan" s_catalan f fd) (T : Txt mg) : FnOk P w K mg base (L2.CX P w) 1 f fd ["pairs"] (spM ⟨K, w⟩ mg m_catalan) :=
  fn_ok (k := 0) F sc_catalan fun cdv A outer s H E hr => by
    have tk : Takes (cxOf (L2.CX P w) P w K mg base n_catalan "catalan" (defScope s_catalan) f cdv A outer s H E) (fun cls d _ H => E cls d H) := takes_of rfl rfl rfl rfl
    have sc := sc_catalan
    exact (r_seq (r_set sc.nd r_int)
    (r_seq (r_for (passes_of rfl) rfl (ri_range1 T.n_range (ra_cons (r_var 0) ra_nil)) (g_nm sc.nd)
      (r_last (r_set sc.nd (r_op p_fdiv (r_op (p_mul false) (r_op (p_mul false) (r_var 1) r_int) (r_op (p_add false) (r_op (p_mul false) r_int (r_var 2)) r_int)) (r_op (p_add false) (r_var 2) r_int)))))
    (r_last (r_ret (r_var 1)))))
abbrev s_many : Stmt := top 24
theorem sc_many : FnScope n_many ["people", "known"] (defScope s_many) := ⟨rfl, rfl, rfl, by decide +kernel, rfl, by decide +kernel, by decide +kernel⟩
theorem ok_many {f : Addr} {fd : FuncData} (F : Fun K "many" "many" s_many f fd) (T : Txt mg) {f_free_groups : Addr} {fd_free_groups : FuncData} (d_free_groups : Df P w K mg base 2 "free_groups" ["people", "known"] f_free_groups fd_free_groups m_free_groups) {f_evidence : Addr} {fd_evidence : FuncData} (d_evidence : Df P w K mg base 3 "evidence" ["people", "known"] f_evidence fd_evidence m_evidence) {f_catalan : Addr} {fd_catalan : FuncData} (d_catalan : Df P w K mg base 1 "catalan" ["pairs"] f_catalan fd_catalan m_catalan) : FnOk P w K mg base (L2.CX P w) 4 f fd ["people", "known"] (spM ⟨K, w⟩ mg m_many) :=
  fn_ok (k := 3) F sc_many fun cdv A outer s H E hr => by
    have tk : Takes (cxOf (L2.CX P w) P w K mg base n_many "many" (defScope s_many) f cdv A outer s H E) (fun cls d _ H => E cls d H) := takes_of rfl rfl rfl rfl
    have sc := sc_many
    exact (r_seq (r_if (r_tcmp p_notN (r_own d_evidence hr tk (ra_cons (r_var 0) (ra_cons (r_var 1) ra_nil))) r_non)
      (r_last (r_ret r_int))
      r_nil)
    (r_seq (r_set sc.nd r_int)
    (r_seq (r_for (passes_of rfl) rfl (ri_seq (r_own d_free_groups hr tk (ra_cons (r_var 0) (ra_cons (r_var 1) ra_nil)))) (g_nm sc.nd)
      (r_last (r_aug sc.nd p_imul (r_own d_catalan hr tk (ra_cons (r_op p_fdiv (r_callB c_len T.n_len (by decide +kernel) (ra_cons (r_var 3) ra_nil)) r_int) ra_nil)))))
    (r_last (r_ret (r_var 2))))))
abbrev s_with_pair : Stmt := top 25
theorem sc_with_pair : FnScope n_with_pair ["known", "one", "other"] (defScope s_with_pair) := ⟨rfl, rfl, rfl, by decide +kernel, rfl, by decide +kernel, by decide +kernel⟩
theorem ok_with_pair {f : Addr} {fd : FuncData} (F : Fun K "with_pair" "with_pair" s_with_pair f fd) (T : Txt mg) : FnOk P w K mg base (L2.CX P w) 1 f fd ["known", "one", "other"] (spM ⟨K, w⟩ mg m_with_pair) :=
  fn_ok (k := 0) F sc_with_pair fun cdv A outer s H E hr => by
    have tk : Takes (cxOf (L2.CX P w) P w K mg base n_with_pair "with_pair" (defScope s_with_pair) f cdv A outer s H E) (fun cls d _ H => E cls d H) := takes_of rfl rfl rfl rfl
    have sc := sc_with_pair
    exact (r_last (r_ret (r_callTy c_tuple T.n_tuple (by decide +kernel) (ra_cons (r_callB (c_sort false (room65 hr)) T.n_sorted (by decide +kernel) (ra_cons (r_op (p_add false) (r_lc sc.nd rfl (ri_seq (r_var 0)) (blkOk_by (own := [("pair", 3)]) (N := n_with_pair) (sc := defScope s_with_pair) (by decide +kernel)) ⟨fun _ _ _ _ _ => (g_nm sc.nd), fun _ _ _ _ _ => rts_nil, fun _ _ _ _ _ => (r_callTy c_tuple T.n_tuple (by decide +kernel) (ra_cons (r_var 3) ra_nil))⟩ (by decide)) (r_lst false (ra_cons (r_tup (ra_cons (r_callB (c_min2 rfl) T.n_min (by decide +kernel) (ra_cons (r_var 1) (ra_cons (r_var 2) ra_nil))) (ra_cons (r_callB (c_max2 rfl) T.n_max (by decide +kernel) (ra_cons (r_var 1) (ra_cons (r_var 2) ra_nil))) ra_nil))) ra_nil))) ra_nil)) ra_nil))))
abbrev s_busy_people : Stmt := top 26
theorem sc_busy_people : FnScope n_busy_people ["known"] (defScope s_busy_people) := ⟨rfl, rfl, rfl, by decide +kernel, rfl, by decide +kernel, by decide +kernel⟩
theorem ok_busy_people {f : Addr} {fd : FuncData} (F : Fun K "busy_people" "busy_people" s_busy_people f fd) (T : Txt mg) : FnOk P w K mg base (L2.CX P w) 1 f fd ["known"] (spM ⟨K, w⟩ mg m_busy_people) :=
  fn_ok (k := 0) F sc_busy_people fun cdv A outer s H E hr => by
    have tk : Takes (cxOf (L2.CX P w) P w K mg base n_busy_people "busy_people" (defScope s_busy_people) f cdv A outer s H E) (fun cls d _ H => E cls d H) := takes_of rfl rfl rfl rfl
    have sc := sc_busy_people
    exact (r_last (r_ret (r_lc2 sc.nd rfl (ri_seq (r_var 0)) (blkOk_by (own := [("pair", 1), ("person", 2)]) (N := n_busy_people) (sc := defScope s_busy_people) (by decide +kernel)) ⟨fun _ _ _ _ _ => (g_nm sc.nd), fun _ _ _ _ _ => rts_nil, fun _ _ _ _ _ => (r_var 2)⟩ ⟨fun _ _ _ _ _ => (ri_seq (r_var 1)), fun _ _ _ _ _ => (g_nm sc.nd), fun _ _ _ _ _ => rts_nil⟩ (by decide) (by decide) (by decide))))
abbrev s_choices : Stmt := top 27
theorem sc_choices : FnScope n_choices ["people", "known", "person"] (defScope s_choices) := ⟨rfl, rfl, rfl, by decide +kernel, rfl, by decide +kernel, by decide +kernel⟩
theorem ok_choices {f : Addr} {fd : FuncData} (F : Fun K "choices" "choices" s_choices f fd) (T : Txt mg) {f_many : Addr} {fd_many : FuncData} (d_many : Df P w K mg base 4 "many" ["people", "known"] f_many fd_many m_many) {f_busy_people : Addr} {fd_busy_people : FuncData} (d_busy_people : Df P w K mg base 1 "busy_people" ["known"] f_busy_people fd_busy_people m_busy_people) {f_with_pair : Addr} {fd_with_pair : FuncData} (d_with_pair : Df P w K mg base 1 "with_pair" ["known", "one", "other"] f_with_pair fd_with_pair m_with_pair) : FnOk P w K mg base (L2.CX P w) 5 f fd ["people", "known", "person"] (spM ⟨K, w⟩ mg m_choices) :=
  fn_ok (k := 4) F sc_choices fun cdv A outer s H E hr => by
    have tk : Takes (cxOf (L2.CX P w) P w K mg base n_choices "choices" (defScope s_choices) f cdv A outer s H E) (fun cls d _ H => E cls d H) := takes_of rfl rfl rfl rfl
    have sc := sc_choices
    exact (r_seq (r_setLc sc.nd rfl (ri_range2 T.n_range (ra_cons (r_op (p_add false) (r_var 2) r_int) (ra_cons (r_var 0) ra_nil))) (blkOk_by (own := [("other", 4)]) (N := n_choices) (sc := defScope s_choices) (by decide +kernel)) ⟨fun _ _ _ _ _ => (g_nm sc.nd), fun _ _ _ _ _ => (rts_one (r_tcmp (p_notIn (room65 hr)) (r_var 4) (r_own d_busy_people hr takes0 (ra_cons (r_var 1) ra_nil)))), fun _ _ _ _ _ => (r_var 4)⟩ (by decide) (sw_true rfl rfl rfl (by decide +kernel)))
    (r_last (r_ret (r_lc sc.nd rfl (ri_seq (r_var 3)) (blkOk_by (own := [("other", 4)]) (N := n_choices) (sc := defScope s_choices) (by decide +kernel)) ⟨fun _ _ _ _ _ => (g_nm sc.nd), fun _ _ _ _ _ => rts_nil, fun _ _ _ _ _ => (r_tup (ra_cons (r_var 4) (ra_cons (r_own d_many hr takes0 (ra_cons (r_var 0) (ra_cons (r_own d_with_pair hr takes0 (ra_cons (r_var 1) (ra_cons (r_var 2) (ra_cons (r_var 4) ra_nil)))) ra_nil))) ra_nil)))⟩ (by decide)))))
abbrev s_arrangement_at : Stmt := top 28
theorem sc_arrangement_at : FnScope n_arrangement_at ["people", "known", "number"] (defScope s_arrangement_at) := ⟨rfl, rfl, rfl, by decide +kernel, rfl, by decide +kernel, by decide +kernel⟩
theorem ok_arrangement_at {f : Addr} {fd : FuncData} (F : Fun K "arrangement_at" "arrangement_at" s_arrangement_at f fd) (T : Txt mg) {f_many : Addr} {fd_many : FuncData} (d_many : Df P w K mg base 4 "many" ["people", "known"] f_many fd_many m_many) {f_busy_people : Addr} {fd_busy_people : FuncData} (d_busy_people : Df P w K mg base 1 "busy_people" ["known"] f_busy_people fd_busy_people m_busy_people) {f_choices : Addr} {fd_choices : FuncData} (d_choices : Df P w K mg base 5 "choices" ["people", "known", "person"] f_choices fd_choices m_choices) {f_with_pair : Addr} {fd_with_pair : FuncData} (d_with_pair : Df P w K mg base 1 "with_pair" ["known", "one", "other"] f_with_pair fd_with_pair m_with_pair) : FnOk P w K mg base (L2.CX P w) 6 f fd ["people", "known", "number"] (spM ⟨K, w⟩ mg m_arrangement_at) :=
  fn_ok (k := 5) F sc_arrangement_at fun cdv A outer s H E hr => by
    have tk : Takes (cxOf (L2.CX P w) P w K mg base n_arrangement_at "arrangement_at" (defScope s_arrangement_at) f cdv A outer s H E) (fun cls d _ H => E cls d H) := takes_of rfl rfl rfl rfl
    have sc := sc_arrangement_at
    exact (r_seq (r_if (r_not (r_tchain p_le p_lt r_int (r_var 2) (r_own d_many hr tk (ra_cons (r_var 0) (ra_cons (r_var 1) ra_nil)))))
      (r_last r_never)
      r_nil)
    (r_seq (r_par sc.nd rfl (ra_cons (r_callTy c_tuple T.n_tuple (by decide +kernel) (ra_cons (r_var 1) ra_nil)) (ra_cons (r_var 2) ra_nil)))
    (r_seq (r_for (passes_of rfl) rfl (ri_range1 T.n_range (ra_cons (r_var 0) ra_nil)) (g_nm sc.nd)
      (r_last (r_if (r_tcmp (p_notIn (room65 hr)) (r_var 5) (r_own d_busy_people hr tk (ra_cons (r_var 3) ra_nil)))
      (r_last (r_for (passes_of rfl) rfl (ri_seq (r_own d_choices hr tk (ra_cons (r_var 0) (ra_cons (r_var 3) (ra_cons (r_var 5) ra_nil))))) (g_tp rfl (gs_cons (g_nm sc.nd) (gs_cons (g_nm sc.nd) gs_nil)))
      (r_seq (r_if (r_tcmp p_lt (r_var 4) (r_var 7))
      (r_seq (r_set sc.nd (r_own d_with_pair hr tk (ra_cons (r_var 3) (ra_cons (r_var 5) (ra_cons (r_var 6) ra_nil)))))
    (r_last r_break))
      r_nil)
    (r_last (r_aug sc.nd p_isub (r_var 7))))))
      r_nil)))
    (r_seq (r_set sc.nd (r_op (p_mul true) (r_lst false (ra_cons r_int ra_nil)) (r_var 0)))
    (r_seq (r_for (passes_of rfl) rfl (ri_seq (r_var 3)) (g_tp rfl (gs_cons (g_nm sc.nd) (gs_cons (g_nm sc.nd) gs_nil)))
      (r_last (r_asgT (r_tup (ra_cons (r_var 6) (ra_cons (r_var 9) ra_nil))) (q_tup rfl (qs_cons (q_sub (W := W0) p_set (r_var 8) (r_var 9)) (qs_cons (q_sub (W := W0) p_set (r_var 8) (r_var 6)) qs_nil))))))
    (r_last (r_ret (r_callTy c_tuple T.n_tuple (by decide +kernel) (ra_cons (r_var 8) ra_nil)))))))))
abbrev s_number_of : Stmt := top 29
theorem sc_number_of : FnScope n_number_of ["people", "known", "arrangement"] (defScope s_number_of) := ⟨rfl, rfl, rfl, by decide +kernel, rfl, by decide +kernel, by decide +kernel⟩
theorem ok_number_of {f : Addr} {fd : FuncData} (F : Fun K "number_of" "number_of" s_number_of f fd) (T : Txt mg) {f_arms : Addr} {fd_arms : FuncData} (d_arms : Df P w K mg base 1 "arms" ["arrangement"] f_arms fd_arms m_arms) {f_busy_people : Addr} {fd_busy_people : FuncData} (d_busy_people : Df P w K mg base 1 "busy_people" ["known"] f_busy_people fd_busy_people m_busy_people) {f_with_pair : Addr} {fd_with_pair : FuncData} (d_with_pair : Df P w K mg base 1 "with_pair" ["known", "one", "other"] f_with_pair fd_with_pair m_with_pair) {f_choices : Addr} {fd_choices : FuncData} (d_choices : Df P w K mg base 5 "choices" ["people", "known", "person"] f_choices fd_choices m_choices) : FnOk P w K mg base (L2.CX P w) 6 f fd ["people", "known", "arrangement"] (spM ⟨K, w⟩ mg m_number_of) :=
  fn_ok (k := 5) F sc_number_of fun cdv A outer s H E hr => by
    have tk : Takes (cxOf (L2.CX P w) P w K mg base n_number_of "number_of" (defScope s_number_of) f cdv A outer s H E) (fun cls d _ H => E cls d H) := takes_of rfl rfl rfl rfl
    have sc := sc_number_of
    exact (r_seq (r_if (r_tcmp (p_ne hr.units) (r_callB c_len T.n_len (by decide +kernel) (ra_cons (r_var 2) ra_nil)) (r_var 0))
      (r_last r_never)
      r_nil)
    (r_seq (r_set sc.nd (r_own d_arms hr tk (ra_cons (r_var 2) ra_nil)))
    (r_seq (r_for (passes_of rfl) rfl (ri_seq (r_var 1)) (g_nm sc.nd)
      (r_last (r_if (r_tcmp (p_notIn (room65 hr)) (r_callTy c_tuple T.n_tuple (by decide +kernel) (ra_cons (r_var 4) ra_nil)) (r_var 3))
      (r_last r_never)
      r_nil)))
    (r_seq (r_par sc.nd rfl (ra_cons (r_callTy c_tuple T.n_tuple (by decide +kernel) (ra_cons (r_var 1) ra_nil)) (ra_cons r_int ra_nil)))
    (r_seq (r_for (passes_of rfl) rfl (ri_seq (r_var 3)) (g_tp rfl (gs_cons (g_nm sc.nd) (gs_cons (g_nm sc.nd) gs_nil)))
      (r_last (r_if (r_tcmp (p_notIn (room65 hr)) (r_var 7) (r_own d_busy_people hr tk (ra_cons (r_var 5) ra_nil)))
      (r_seq (r_aug sc.nd p_iadd (r_callB (c_sum rfl) T.n_sum (by decide +kernel) (ra_cons (r_lc sc.nd rfl (ri_seq (r_own d_choices hr tk (ra_cons (r_var 0) (ra_cons (r_var 5) (ra_cons (r_var 7) ra_nil))))) (blkOk_by (own := [("other", 9), ("ways", 10)]) (N := n_number_of) (sc := defScope s_number_of) (by decide +kernel)) ⟨fun _ _ _ _ _ => (g_tp rfl (gs_cons (g_nm sc.nd) (gs_cons (g_nm sc.nd) gs_nil))), fun _ _ _ _ _ => (rts_one (r_tcmp p_lt (r_var 9) (r_var 8))), fun _ _ _ _ _ => (r_var 10)⟩ (by decide)) ra_nil)))
    (r_last (r_set sc.nd (r_own d_with_pair hr tk (ra_cons (r_var 5) (ra_cons (r_var 7) (ra_cons (r_var 8) ra_nil)))))))
      r_nil)))
    (r_last (r_ret (r_var 6))))))))
abbrev s_all_arrangements : Stmt := top 30
theorem sc_all_arrangements : FnScope n_all_arrangements ["people", "known"] (defScope s_all_arrangements) := ⟨rfl, rfl, rfl, by decide +kernel, rfl, by decide +kernel, by decide +kernel⟩
theorem ok_all_arrangements {f : Addr} {fd : FuncData} (F : Fun K "all_arrangements" "all_arrangements" s_all_arrangements f fd) (T : Txt mg) {f_many : Addr} {fd_many : FuncData} (d_many : Df P w K mg base 4 "many" ["people", "known"] f_many fd_many m_many) {f_arrangement_at : Addr} {fd_arrangement_at : FuncData} (d_arrangement_at : Df P w K mg base 6 "arrangement_at" ["people", "known", "number"] f_arrangement_at fd_arrangement_at m_arrangement_at) : FnOk P w K mg base (L2.CX P w) 7 f fd ["people", "known"] (spM ⟨K, w⟩ mg m_all_arrangements) :=
  fn_ok (k := 6) F sc_all_arrangements fun cdv A outer s H E hr => by
    have tk : Takes (cxOf (L2.CX P w) P w K mg base n_all_arrangements "all_arrangements" (defScope s_all_arrangements) f cdv A outer s H E) (fun cls d _ H => E cls d H) := takes_of rfl rfl rfl rfl
    have sc := sc_all_arrangements
    exact (r_seq (r_set sc.nd (r_own d_many hr tk (ra_cons (r_var 0) (ra_cons (r_var 1) ra_nil))))
    (r_seq (r_if (r_tcmp p_gt (r_var 2) (r_gint T.c_MOST))
      (r_last r_never)
      r_nil)
    (r_last (r_ret (r_lc sc.nd rfl (ri_range1 T.n_range (ra_cons (r_var 2) ra_nil)) (blkOk_by (own := [("number", 3)]) (N := n_all_arrangements) (sc := defScope s_all_arrangements) (by decide +kernel)) ⟨fun _ _ _ _ _ => (g_nm sc.nd), fun _ _ _ _ _ => rts_nil, fun _ _ _ _ _ => (r_own d_arrangement_at hr takes0 (ra_cons (r_var 0) (ra_cons (r_var 1) (ra_cons (r_var 3) ra_nil))))⟩ (by decide))))))
abbrev s_gcd : Stmt := top 32
theorem sc_gcd : FnScope n_gcd ["one", "other"] (defScope s_gcd) := ⟨rfl, rfl, rfl, by decide +kernel, rfl, by decide +kernel, by decide +kernel⟩
theorem ok_gcd {f : Addr} {fd : FuncData} (F : Fun K "gcd" "gcd" s_gcd f fd) (T : Txt mg) : FnOk P w K mg base (L2.CX P w) 1 f fd ["one", "other"] (spM ⟨K, w⟩ mg m_gcd) :=
  fn_ok (k := 0) F sc_gcd fun cdv A outer s H E hr => by
    have tk : Takes (cxOf (L2.CX P w) P w K mg base n_gcd "gcd" (defScope s_gcd) f cdv A outer s H E) (fun cls d _ H => E cls d H) := takes_of rfl rfl rfl rfl
    have sc := sc_gcd
    exact (r_seq (r_while 1000 (passes_of rfl) (r_tcmp p_gt (r_var 1) r_int)
      (r_last (r_par sc.nd rfl (ra_cons (r_var 1) (ra_cons (r_op p_mod (r_var 0) (r_var 1)) ra_nil)))))
    (r_last (r_ret (r_var 0))))
abbrev s_reduced : Stmt := top 33
theorem sc_reduced : FnScope n_reduced ["numerator", "denominator"] (defScope s_reduced) := ⟨rfl, rfl, rfl, by decide +kernel, rfl, by decide +kernel, by decide +kernel⟩
theorem ok_reduced {f : Addr} {fd : FuncData} (F : Fun K "reduced" "reduced" s_reduced f fd) (T : Txt mg) {f_gcd : Addr} {fd_gcd : FuncData} (d_gcd : Df P w K mg base 1 "gcd" ["one", "other"] f_gcd fd_gcd m_gcd) : FnOk P w K mg base (L2.CX P w) 2 f fd ["numerator", "denominator"] (spM ⟨K, w⟩ mg m_reduced) :=
  fn_ok (k := 1) F sc_reduced fun cdv A outer s H E hr => by
    have tk : Takes (cxOf (L2.CX P w) P w K mg base n_reduced "reduced" (defScope s_reduced) f cdv A outer s H E) (fun cls d _ H => E cls d H) := takes_of rfl rfl rfl rfl
    have sc := sc_reduced
    exact (r_seq (r_set sc.nd (r_own d_gcd hr tk (ra_cons (r_var 0) (ra_cons (r_var 1) ra_nil))))
    (r_last (r_ret (r_tup (ra_cons (r_op p_fdiv (r_var 0) (r_var 2)) (ra_cons (r_op p_fdiv (r_var 1) (r_var 2)) ra_nil))))))
abbrev s_look_known : Stmt := top 34
theorem sc_look_known : FnScope n_look_known ["people", "known"] (defScope s_look_known) := ⟨rfl, rfl, rfl, by decide +kernel, rfl, by decide +kernel, by decide +kernel⟩
theorem ok_look_known {f : Addr} {fd : FuncData} (F : Fun K "look_known" "look_known" s_look_known f fd) (T : Txt mg) {f_evidence : Addr} {fd_evidence : FuncData} (d_evidence : Df P w K mg base 3 "evidence" ["people", "known"] f_evidence fd_evidence m_evidence) : FnOk P w K mg base (L2.CX P w) 4 f fd ["people", "known"] (spM ⟨K, w⟩ mg m_look_known) :=
  fn_ok (k := 3) F sc_look_known fun cdv A outer s H E hr => by
    have tk : Takes (cxOf (L2.CX P w) P w K mg base n_look_known "look_known" (defScope s_look_known) f cdv A outer s H E) (fun cls d _ H => E cls d H) := takes_of rfl rfl rfl rfl
    have sc := sc_look_known
    exact (r_seq (r_set sc.nd (r_own d_evidence hr tk (ra_cons (r_var 0) (ra_cons (r_var 1) ra_nil))))
    (r_last (r_if (r_tcmp p_notN (r_var 2) r_non)
      (r_last r_never)
      r_nil)))
abbrev s_look_person : Stmt := top 35
theorem sc_look_person : FnScope n_look_person ["people", "person"] (defScope s_look_person) := ⟨rfl, rfl, rfl, by decide +kernel, rfl, by decide +kernel, by decide +kernel⟩
theorem ok_look_person {f : Addr} {fd : FuncData} (F : Fun K "look_person" "look_person" s_look_person f fd) (T : Txt mg) : FnOk P w K mg base (L2.CX P w) 1 f fd ["people", "person"] (spM ⟨K, w⟩ mg m_look_person) :=
  fn_ok (k := 0) F sc_look_person fun cdv A outer s H E hr => by
    have tk : Takes (cxOf (L2.CX P w) P w K mg base n_look_person "look_person" (defScope s_look_person) f cdv A outer s H E) (fun cls d _ H => E cls d H) := takes_of rfl rfl rfl rfl
    have sc := sc_look_person
    exact (r_last (r_if (r_not (r_tchain p_le p_lt r_int (r_var 1) (r_var 0)))
      (r_last r_never)
      r_nil))
abbrev s_ways_with : Stmt := top 36
theorem sc_ways_with : FnScope n_ways_with ["people", "known", "one", "other"] (defScope s_ways_with) := ⟨rfl, rfl, rfl, by decide +kernel, rfl, by decide +kernel, by decide +kernel⟩
theorem ok_ways_with {f : Addr} {fd : FuncData} (F : Fun K "ways_with" "ways_with" s_ways_with f fd) (T : Txt mg) {f_many : Addr} {fd_many : FuncData} (d_many : Df P w K mg base 4 "many" ["people", "known"] f_many fd_many m_many) {f_with_pair : Addr} {fd_with_pair : FuncData} (d_with_pair : Df P w K mg base 1 "with_pair" ["known", "one", "other"] f_with_pair fd_with_pair m_with_pair) {f_busy_people : Addr} {fd_busy_people : FuncData} (d_busy_people : Df P w K mg base 1 "busy_people" ["known"] f_busy_people fd_busy_people m_busy_people) : FnOk P w K mg base (L2.CX P w) 5 f fd ["people", "known", "one", "other"] (spM ⟨K, w⟩ mg m_ways_with) :=
  fn_ok (k := 4) F sc_ways_with fun cdv A outer s H E hr => by
    have tk : Takes (cxOf (L2.CX P w) P w K mg base n_ways_with "ways_with" (defScope s_ways_with) f cdv A outer s H E) (fun cls d _ H => E cls d H) := takes_of rfl rfl rfl rfl
    have sc := sc_ways_with
    exact (r_seq (r_setLc sc.nd rfl (ri_seq (r_var 1)) (blkOk_by (own := [("pair", 5)]) (N := n_ways_with) (sc := defScope s_ways_with) (by decide +kernel)) ⟨fun _ _ _ _ _ => (g_nm sc.nd), fun _ _ _ _ _ => rts_nil, fun _ _ _ _ _ => (r_callTy c_tuple T.n_tuple (by decide +kernel) (ra_cons (r_var 5) ra_nil))⟩ (by decide) (sw_true rfl rfl rfl (by decide +kernel)))
    (r_seq (r_if (r_tcmp (p_in (room65 hr)) (r_tup (ra_cons (r_callB (c_min2 rfl) T.n_min (by decide +kernel) (ra_cons (r_var 2) (ra_cons (r_var 3) ra_nil))) (ra_cons (r_callB (c_max2 rfl) T.n_max (by decide +kernel) (ra_cons (r_var 2) (ra_cons (r_var 3) ra_nil))) ra_nil))) (r_var 4))
      (r_last (r_ret (r_own d_many hr tk (ra_cons (r_var 0) (ra_cons (r_var 1) ra_nil)))))
      r_nil)
    (r_seq (r_if (r_bool (r_or (r_tcmp (p_in (room65 hr)) (r_var 2) (r_own d_busy_people hr tk (ra_cons (r_var 1) ra_nil))) (r_or1 (r_tcmp (p_in (room65 hr)) (r_var 3) (r_own d_busy_people hr tk (ra_cons (r_var 1) ra_nil))))))
      (r_last (r_ret r_int))
      r_nil)
    (r_last (r_ret (r_own d_many hr tk (ra_cons (r_var 0) (ra_cons (r_own d_with_pair hr tk (ra_cons (r_var 1) (ra_cons (r_var 2) (ra_cons (r_var 3) ra_nil)))) ra_nil))))))))
abbrev s_chance : Stmt := top 37
theorem sc_chance : FnScope n_chance ["people", "known", "one", "other"] (defScope s_chance) := ⟨rfl, rfl, rfl, by decide +kernel, rfl, by decide +kernel, by decide +kernel⟩
theorem ok_chance {f : Addr} {fd : FuncData} (F : Fun K "chance" "chance" s_chance f fd) (T : Txt mg) {f_reduced : Addr} {fd_reduced : FuncData} (d_reduced : Df P w K mg base 2 "reduced" ["numerator", "denominator"] f_reduced fd_reduced m_reduced) {f_ways_with : Addr} {fd_ways_with : FuncData} (d_ways_with : Df P w K mg base 5 "ways_with" ["people", "known", "one", "other"] f_ways_with fd_ways_with m_ways_with) {f_many : Addr} {fd_many : FuncData} (d_many : Df P w K mg base 4 "many" ["people", "known"] f_many fd_many m_many) : FnOk P w K mg base (L2.CX P w) 6 f fd ["people", "known", "one", "other"] (spM ⟨K, w⟩ mg m_chance) :=
  fn_ok (k := 5) F sc_chance fun cdv A outer s H E hr => by
    have tk : Takes (cxOf (L2.CX P w) P w K mg base n_chance "chance" (defScope s_chance) f cdv A outer s H E) (fun cls d _ H => E cls d H) := takes_of rfl rfl rfl rfl
    have sc := sc_chance
    exact (r_last (r_ret (r_own d_reduced hr tk (ra_cons (r_own d_ways_with hr tk (ra_cons (r_var 0) (ra_cons (r_var 1) (ra_cons (r_var 2) (ra_cons (r_var 3) ra_nil))))) (ra_cons (r_own d_many hr tk (ra_cons (r_var 0) (ra_cons (r_var 1) ra_nil))) ra_nil)))))
abbrev s_pair_chance : Stmt := top 38
theorem sc_pair_chance : FnScope n_pair_chance ["people", "known", "one", "other"] (defScope s_pair_chance) := ⟨rfl, rfl, rfl, by decide +kernel, rfl, by decide +kernel, by decide +kernel⟩
theorem ok_pair_chance {f : Addr} {fd : FuncData} (F : Fun K "pair_chance" "pair_chance" s_pair_chance f fd) (T : Txt mg) {f_look_known : Addr} {fd_look_known : FuncData} (d_look_known : Df P w K mg base 4 "look_known" ["people", "known"] f_look_known fd_look_known m_look_known) {f_look_person : Addr} {fd_look_person : FuncData} (d_look_person : Df P w K mg base 1 "look_person" ["people", "person"] f_look_person fd_look_person m_look_person) {f_chance : Addr} {fd_chance : FuncData} (d_chance : Df P w K mg base 6 "chance" ["people", "known", "one", "other"] f_chance fd_chance m_chance) : FnOk P w K mg base (L2.CX P w) 7 f fd ["people", "known", "one", "other"] (spM ⟨K, w⟩ mg m_pair_chance) :=
  fn_ok (k := 6) F sc_pair_chance fun cdv A outer s H E hr => by
    have tk : Takes (cxOf (L2.CX P w) P w K mg base n_pair_chance "pair_chance" (defScope s_pair_chance) f cdv A outer s H E) (fun cls d _ H => E cls d H) := takes_of rfl rfl rfl rfl
    have sc := sc_pair_chance
    exact (r_seq (r_expr (r_own d_look_known hr tk (ra_cons (r_var 0) (ra_cons (r_var 1) ra_nil))))
    (r_seq (r_expr (r_own d_look_person hr tk (ra_cons (r_var 0) (ra_cons (r_var 2) ra_nil))))
    (r_seq (r_expr (r_own d_look_person hr tk (ra_cons (r_var 0) (ra_cons (r_var 3) ra_nil))))
    (r_last (r_ret (r_own d_chance hr tk (ra_cons (r_var 0) (ra_cons (r_var 1) (ra_cons (r_var 2) (ra_cons (r_var 3) ra_nil))))))))))
abbrev s_partner_chances : Stmt := top 39
theorem sc_partner_chances : FnScope n_partner_chances ["people", "known", "person"] (defScope s_partner_chances) := ⟨rfl, rfl, rfl, by decide +kernel, rfl, by decide +kernel, by decide +kernel⟩
theorem ok_partner_chances {f : Addr} {fd : FuncData} (F : Fun K "partner_chances" "partner_chances" s_partner_chances f fd) (T : Txt mg) {f_look_known : Addr} {fd_look_known : FuncData} (d_look_known : Df P w K mg base 4 "look_known" ["people", "known"] f_look_known fd_look_known m_look_known) {f_look_person : Addr} {fd_look_person : FuncData} (d_look_person : Df P w K mg base 1 "look_person" ["people", "person"] f_look_person fd_look_person m_look_person) {f_chance : Addr} {fd_chance : FuncData} (d_chance : Df P w K mg base 6 "chance" ["people", "known", "one", "other"] f_chance fd_chance m_chance) : FnOk P w K mg base (L2.CX P w) 7 f fd ["people", "known", "person"] (spM ⟨K, w⟩ mg m_partner_chances) :=
  fn_ok (k := 6) F sc_partner_chances fun cdv A outer s H E hr => by
    have tk : Takes (cxOf (L2.CX P w) P w K mg base n_partner_chances "partner_chances" (defScope s_partner_chances) f cdv A outer s H E) (fun cls d _ H => E cls d H) := takes_of rfl rfl rfl rfl
    have sc := sc_partner_chances
    exact (r_seq (r_expr (r_own d_look_known hr tk (ra_cons (r_var 0) (ra_cons (r_var 1) ra_nil))))
    (r_seq (r_expr (r_own d_look_person hr tk (ra_cons (r_var 0) (ra_cons (r_var 2) ra_nil))))
    (r_seq (r_setLc sc.nd rfl (ri_range1 T.n_range (ra_cons (r_var 0) ra_nil)) (blkOk_by (own := [("other", 4)]) (N := n_partner_chances) (sc := defScope s_partner_chances) (by decide +kernel)) ⟨fun _ _ _ _ _ => (g_nm sc.nd), fun _ _ _ _ _ => (rts_one (r_tcmp (p_ne hr.units) (r_var 4) (r_var 2))), fun _ _ _ _ _ => (r_tup (ra_cons (r_var 4) (ra_cons (r_own d_chance hr takes0 (ra_cons (r_var 0) (ra_cons (r_var 1) (ra_cons (r_var 2) (ra_cons (r_var 4) ra_nil))))) ra_nil)))⟩ (by decide) (sw_true rfl rfl rfl (by decide +kernel)))
    (r_last (r_ret (r_lc sc.nd rfl (ri_seq (r_var 3)) (blkOk_by (own := [("other", 4), ("part", 5)]) (N := n_partner_chances) (sc := defScope s_partner_chances) (by decide +kernel)) ⟨fun _ _ _ _ _ => (g_tp rfl (gs_cons (g_nm sc.nd) (gs_cons (g_nm sc.nd) gs_nil))), fun _ _ _ _ _ => (rts_one (r_tcmp p_gt (r_ix p_ix (r_var 5) r_int) r_int)), fun _ _ _ _ _ => (r_tup (ra_cons (r_var 4) (ra_cons (r_var 5) ra_nil)))⟩ (by decide)))))))
abbrev s_all_pairs : Stmt := top 40
theorem sc_all_pairs : FnScope n_all_pairs ["people", "known"] (defScope s_all_pairs) := ⟨rfl, rfl, rfl, by decide +kernel, rfl, by decide +kernel, by decide +kernel⟩
theorem ok_all_pairs {f : Addr} {fd : FuncData} (F : Fun K "all_pairs" "all_pairs" s_all_pairs f fd) (T : Txt mg) {f_look_known : Addr} {fd_look_known : FuncData} (d_look_known : Df P w K mg base 4 "look_known" ["people", "known"] f_look_known fd_look_known m_look_known) {f_chance : Addr} {fd_chance : FuncData} (d_chance : Df P w K mg base 6 "chance" ["people", "known", "one", "other"] f_chance fd_chance m_chance) : FnOk P w K mg base (L2.CX P w) 7 f fd ["people", "known"] (spM ⟨K, w⟩ mg m_all_pairs) :=
  fn_ok (k := 6) F sc_all_pairs fun cdv A outer s H E hr => by
    have tk : Takes (cxOf (L2.CX P w) P w K mg base n_all_pairs "all_pairs" (defScope s_all_pairs) f cdv A outer s H E) (fun cls d _ H => E cls d H) := takes_of rfl rfl rfl rfl
    have sc := sc_all_pairs
    exact (r_seq (r_expr (r_own d_look_known hr tk (ra_cons (r_var 0) (ra_cons (r_var 1) ra_nil))))
    (r_seq (r_set sc.nd (r_lst true ra_nil))
    (r_seq (r_for (passes_of rfl) rfl (ri_range1 T.n_range (ra_cons (r_var 0) ra_nil)) (g_nm sc.nd)
      (r_last (r_expr (r_lm PySem.F.slot_list_extend PySem.F.type_list_extend m_ext (r_var 2) (ra_cons (r_lc sc.nd rfl (ri_range2 T.n_range (ra_cons (r_op (p_add false) (r_var 3) r_int) (ra_cons (r_var 0) ra_nil))) (blkOk_by (own := [("other", 4)]) (N := n_all_pairs) (sc := defScope s_all_pairs) (by decide +kernel)) ⟨fun _ _ _ _ _ => (g_nm sc.nd), fun _ _ _ _ _ => rts_nil, fun _ _ _ _ _ => (r_tup (ra_cons (r_tup (ra_cons (r_var 3) (ra_cons (r_var 4) ra_nil))) (ra_cons (r_own d_chance hr takes0 (ra_cons (r_var 0) (ra_cons (r_var 1) (ra_cons (r_var 3) (ra_cons (r_var 4) ra_nil))))) ra_nil)))⟩ (by decide)) ra_nil)))))
    (r_freeze 2 (r_last (r_ret (r_lc sc.nd rfl (ri_seq (r_var 2)) (blkOk_by (own := [("pair", 5), ("part", 6)]) (N := n_all_pairs) (sc := defScope s_all_pairs) (by decide +kernel)) ⟨fun _ _ _ _ _ => (g_tp rfl (gs_cons (g_nm sc.nd) (gs_cons (g_nm sc.nd) gs_nil))), fun _ _ _ _ _ => (rts_one (r_tcmp p_gt (r_ix p_ix (r_var 6) r_int) r_int)), fun _ _ _ _ _ => (r_tup (ra_cons (r_var 5) (ra_cons (r_var 6) ra_nil)))⟩ (by decide))))))))
abbrev s_sure_pairs : Stmt := top 41
theorem sc_sure_pairs : FnScope n_sure_pairs ["people", "known"] (defScope s_sure_pairs) := ⟨rfl, rfl, rfl, by decide +kernel, rfl, by decide +kernel, by decide +kernel⟩
theorem ok_sure_pairs {f : Addr} {fd : FuncData} (F : Fun K "sure_pairs" "sure_pairs" s_sure_pairs f fd) (T : Txt mg) {f_all_pairs : Addr} {fd_all_pairs : FuncData} (d_all_pairs : Df P w K mg base 7 "all_pairs" ["people", "known"] f_all_pairs fd_all_pairs m_all_pairs) : FnOk P w K mg base (L2.CX P w) 8 f fd ["people", "known"] (spM ⟨K, w⟩ mg m_sure_pairs) :=
  fn_ok (k := 7) F sc_sure_pairs fun cdv A outer s H E hr => by
    have tk : Takes (cxOf (L2.CX P w) P w K mg base n_sure_pairs "sure_pairs" (defScope s_sure_pairs) f cdv A outer s H E) (fun cls d _ H => E cls d H) := takes_of rfl rfl rfl rfl
    have sc := sc_sure_pairs
    exact (r_last (r_ret (r_lc sc.nd rfl (ri_seq (r_own d_all_pairs hr tk (ra_cons (r_var 0) (ra_cons (r_var 1) ra_nil)))) (blkOk_by (own := [("pair", 2), ("part", 3)]) (N := n_sure_pairs) (sc := defScope s_sure_pairs) (by decide +kernel)) ⟨fun _ _ _ _ _ => (g_tp rfl (gs_cons (g_nm sc.nd) (gs_cons (g_nm sc.nd) gs_nil))), fun _ _ _ _ _ => (rts_one (r_tcmp (p_eq hr.units) (r_var 3) (r_tup (ra_cons r_int (ra_cons r_int ra_nil))))), fun _ _ _ _ _ => (r_var 2)⟩ (by decide))))
abbrev s_possible_pairs : Stmt := top 42
theorem sc_possible_pairs : FnScope n_possible_pairs ["people", "known"] (defScope s_possible_pairs) := ⟨rfl, rfl, rfl, by decide +kernel, rfl, by decide +kernel, by decide +kernel⟩
theorem ok_possible_pairs {f : Addr} {fd : FuncData} (F : Fun K "possible_pairs" "possible_pairs" s_possible_pairs f fd) (T : Txt mg) {f_all_pairs : Addr} {fd_all_pairs : FuncData} (d_all_pairs : Df P w K mg base 7 "all_pairs" ["people", "known"] f_all_pairs fd_all_pairs m_all_pairs) : FnOk P w K mg base (L2.CX P w) 8 f fd ["people", "known"] (spM ⟨K, w⟩ mg m_possible_pairs) :=
  fn_ok (k := 7) F sc_possible_pairs fun cdv A outer s H E hr => by
    have tk : Takes (cxOf (L2.CX P w) P w K mg base n_possible_pairs "possible_pairs" (defScope s_possible_pairs) f cdv A outer s H E) (fun cls d _ H => E cls d H) := takes_of rfl rfl rfl rfl
    have sc := sc_possible_pairs
    exact (r_last (r_ret (r_lc sc.nd rfl (ri_seq (r_own d_all_pairs hr tk (ra_cons (r_var 0) (ra_cons (r_var 1) ra_nil)))) (blkOk_by (own := [("pair", 2), ("part", 3)]) (N := n_possible_pairs) (sc := defScope s_possible_pairs) (by decide +kernel)) ⟨fun _ _ _ _ _ => (g_tp rfl (gs_cons (g_nm sc.nd) (gs_cons (g_nm sc.nd) gs_nil))), fun _ _ _ _ _ => rts_nil, fun _ _ _ _ _ => (r_var 2)⟩ (by decide))))
abbrev s_neighbour_mean : Stmt := top 43
theorem sc_neighbour_mean : FnScope n_neighbour_mean ["people", "known"] (defScope s_neighbour_mean) := ⟨rfl, rfl, rfl, by decide +kernel, rfl, by decide +kernel, by decide +kernel⟩
theorem ok_neighbour_mean {f : Addr} {fd : FuncData} (F : Fun K "neighbour_mean" "neighbour_mean" s_neighbour_mean f fd) (T : Txt mg) {f_look_known : Addr} {fd_look_known : FuncData} (d_look_known : Df P w K mg base 4 "look_known" ["people", "known"] f_look_known fd_look_known m_look_known) {f_reduced : Addr} {fd_reduced : FuncData} (d_reduced : Df P w K mg base 2 "reduced" ["numerator", "denominator"] f_reduced fd_reduced m_reduced) {f_many : Addr} {fd_many : FuncData} (d_many : Df P w K mg base 4 "many" ["people", "known"] f_many fd_many m_many) {f_ways_with : Addr} {fd_ways_with : FuncData} (d_ways_with : Df P w K mg base 5 "ways_with" ["people", "known", "one", "other"] f_ways_with fd_ways_with m_ways_with) : FnOk P w K mg base (L2.CX P w) 6 f fd ["people", "known"] (spM ⟨K, w⟩ mg m_neighbour_mean) :=
  fn_ok (k := 5) F sc_neighbour_mean fun cdv A outer s H E hr => by
    have tk : Takes (cxOf (L2.CX P w) P w K mg base n_neighbour_mean "neighbour_mean" (defScope s_neighbour_mean) f cdv A outer s H E) (fun cls d _ H => E cls d H) := takes_of rfl rfl rfl rfl
    have sc := sc_neighbour_mean
    exact (r_seq (r_expr (r_own d_look_known hr tk (ra_cons (r_var 0) (ra_cons (r_var 1) ra_nil))))
    (r_seq (r_set sc.nd (r_sset false (room65 hr) rfl T.n_sorted T.n_set (r_lc sc.nd rfl (ri_range1 T.n_range (ra_cons (r_var 0) ra_nil)) (blkOk_by (own := [("person", 3)]) (N := n_neighbour_mean) (sc := defScope s_neighbour_mean) (by decide +kernel)) ⟨fun _ _ _ _ _ => (g_nm sc.nd), fun _ _ _ _ _ => rts_nil, fun _ _ _ _ _ => (r_callTy c_tuple T.n_tuple (by decide +kernel) (ra_cons (r_callB (c_sort false (room65 hr)) T.n_sorted (by decide +kernel) (ra_cons (r_lst false (ra_cons (r_var 3) (ra_cons (r_op p_mod (r_op (p_add false) (r_var 3) r_int) (r_var 0)) ra_nil))) ra_nil)) ra_nil))⟩ (by decide))))
    (r_last (r_ret (r_own d_reduced hr tk (ra_cons (r_callB (c_sum rfl) T.n_sum (by decide +kernel) (ra_cons (r_lc sc.nd rfl (ri_seq (r_var 2)) (blkOk_by (own := [("one", 4), ("other", 5)]) (N := n_neighbour_mean) (sc := defScope s_neighbour_mean) (by decide +kernel)) ⟨fun _ _ _ _ _ => (g_tp rfl (gs_cons (g_nm sc.nd) (gs_cons (g_nm sc.nd) gs_nil))), fun _ _ _ _ _ => rts_nil, fun _ _ _ _ _ => (r_own d_ways_with hr takes0 (ra_cons (r_var 0) (ra_cons (r_var 1) (ra_cons (r_var 4) (ra_cons (r_var 5) ra_nil)))))⟩ (by decide)) ra_nil)) (ra_cons (r_own d_many hr tk (ra_cons (r_var 0) (ra_cons (r_var 1) ra_nil))) ra_nil)))))))
abbrev s_new_arms : Stmt := top 45
theorem sc_new_arms : FnScope n_new_arms ["arrangement", "exchange"] (defScope s_new_arms) := ⟨rfl, rfl, rfl, by decide +kernel, rfl, by decide +kernel, by decide +kernel⟩
theorem ok_new_arms {f : Addr} {fd : FuncData} (F : Fun K "new_arms" "new_arms" s_new_arms f fd) (T : Txt mg) : FnOk P w K mg base (L2.CX P w) 1 f fd ["arrangement", "exchange"] (spM ⟨K, w⟩ mg m_new_arms) :=
  fn_ok (k := 0) F sc_new_arms fun cdv A outer s H E hr => by
    have tk : Takes (cxOf (L2.CX P w) P w K mg base n_new_arms "new_arms" (defScope s_new_arms) f cdv A outer s H E) (fun cls d _ H => E cls d H) := takes_of rfl rfl rfl rfl
    have sc := sc_new_arms
    exact (r_seq (r_asg (r_var 1) (g_tp rfl (gs_cons (g_nm sc.nd) (gs_cons (g_nm sc.nd) gs_nil))))
    (r_seq (r_asg (r_callB (c_sort false (room65 hr)) T.n_sorted (by decide +kernel) (ra_cons (r_lst false (ra_cons (r_var 2) (ra_cons (r_var 3) (ra_cons (r_ix p_ix (r_var 0) (r_var 2)) (ra_cons (r_ix p_ix (r_var 0) (r_var 3)) ra_nil))))) ra_nil)) (g_tp rfl (gs_cons (g_nm sc.nd) (gs_cons (g_nm sc.nd) (gs_cons (g_nm sc.nd) (gs_cons (g_nm sc.nd) gs_nil))))))
    (r_seq (r_if (r_tcmp (p_eq hr.units) (r_ix p_ix (r_var 0) (r_var 4)) (r_var 5))
      (r_last (r_ret (r_lst false (ra_cons (r_tup (ra_cons (r_var 4) (ra_cons (r_var 7) ra_nil))) (ra_cons (r_tup (ra_cons (r_var 5) (ra_cons (r_var 6) ra_nil))) ra_nil)))))
      r_nil)
    (r_last (r_ret (r_lst false (ra_cons (r_tup (ra_cons (r_var 4) (ra_cons (r_var 5) ra_nil))) (ra_cons (r_tup (ra_cons (r_var 6) (ra_cons (r_var 7) ra_nil))) ra_nil))))))))
abbrev s_is_possible : Stmt := top 46
theorem sc_is_possible : FnScope n_is_possible ["arrangement", "exchange"] (defScope s_is_possible) := ⟨rfl, rfl, rfl, by decide +kernel, rfl, by decide +kernel, by decide +kernel⟩
theorem ok_is_possible {f : Addr} {fd : FuncData} (F : Fun K "is_possible" "is_possible" s_is_possible f fd) (T : Txt mg) {f_new_arms : Addr} {fd_new_arms : FuncData} (d_new_arms : Df P w K mg base 1 "new_arms" ["arrangement", "exchange"] f_new_arms fd_new_arms m_new_arms) {f_arms : Addr} {fd_arms : FuncData} (d_arms : Df P w K mg base 1 "arms" ["arrangement"] f_arms fd_arms m_arms) {f_cross : Addr} {fd_cross : FuncData} (d_cross : Df P w K mg base 1 "cross" ["one", "other"] f_cross fd_cross m_cross) : FnOk P w K mg base (L2.CX P w) 2 f fd ["arrangement", "exchange"] (spM ⟨K, w⟩ mg m_is_possible) :=
  fn_ok (k := 1) F sc_is_possible fun cdv A outer s H E hr => by
    have tk : Takes (cxOf (L2.CX P w) P w K mg base n_is_possible "is_possible" (defScope s_is_possible) f cdv A outer s H E) (fun cls d _ H => E cls d H) := takes_of rfl rfl rfl rfl
    have sc := sc_is_possible
    exact (r_seq (r_set sc.nd (r_own d_new_arms hr tk (ra_cons (r_var 0) (ra_cons (r_var 1) ra_nil))))
    (r_seq (r_set sc.nd (r_lc sc.nd rfl (ri_seq (r_own d_arms hr tk (ra_cons (r_var 0) ra_nil))) (blkOk_by (own := [("arm", 4)]) (N := n_is_possible) (sc := defScope s_is_possible) (by decide +kernel)) ⟨fun _ _ _ _ _ => (g_nm sc.nd), fun _ _ _ _ _ => (rts_one (r_tcmp (p_notIn (room65 hr)) (r_ix p_ix (r_var 4) r_int) (r_var 1))), fun _ _ _ _ _ => (r_var 4)⟩ (by decide)))
    (r_last (r_ret (r_notV (r_callB (c_any rfl) T.n_any (by decide +kernel) (ra_cons (r_lc2 sc.nd rfl (ri_seq (r_var 2)) (blkOk_by (own := [("arm", 4), ("other", 5)]) (N := n_is_possible) (sc := defScope s_is_possible) (by decide +kernel)) ⟨fun _ _ _ _ _ => (g_nm sc.nd), fun _ _ _ _ _ => rts_nil, fun _ _ _ _ _ => (r_own d_cross hr takes0 (ra_cons (r_var 4) (ra_cons (r_var 5) ra_nil)))⟩ ⟨fun _ _ _ _ _ => (ri_seq (r_var 3)), fun _ _ _ _ _ => (g_nm sc.nd), fun _ _ _ _ _ => rts_nil⟩ (by decide) (by decide) (by decide)) ra_nil)))))))
abbrev s_exchanges : Stmt := top 47
theorem sc_exchanges : FnScope n_exchanges ["arrangement"] (defScope s_exchanges) := ⟨rfl, rfl, rfl, by decide +kernel, rfl, by decide +kernel, by decide +kernel⟩
theorem ok_exchanges {f : Addr} {fd : FuncData} (F : Fun K "exchanges" "exchanges" s_exchanges f fd) (T : Txt mg) {f_arms : Addr} {fd_arms : FuncData} (d_arms : Df P w K mg base 1 "arms" ["arrangement"] f_arms fd_arms m_arms) {f_is_possible : Addr} {fd_is_possible : FuncData} (d_is_possible : Df P w K mg base 2 "is_possible" ["arrangement", "exchange"] f_is_possible fd_is_possible m_is_possible) : FnOk P w K mg base (L2.CX P w) 3 f fd ["arrangement"] (spM ⟨K, w⟩ mg m_exchanges) :=
  fn_ok (k := 2) F sc_exchanges fun cdv A outer s H E hr => by
    have tk : Takes (cxOf (L2.CX P w) P w K mg base n_exchanges "exchanges" (defScope s_exchanges) f cdv A outer s H E) (fun cls d _ H => E cls d H) := takes_of rfl rfl rfl rfl
    have sc := sc_exchanges
    exact (r_seq (r_par sc.nd rfl (ra_cons (r_lst true ra_nil) (ra_cons (r_lc sc.nd rfl (ri_seq (r_own d_arms hr tk (ra_cons (r_var 0) ra_nil))) (blkOk_by (own := [("arm", 5)]) (N := n_exchanges) (sc := defScope s_exchanges) (by decide +kernel)) ⟨fun _ _ _ _ _ => (g_nm sc.nd), fun _ _ _ _ _ => rts_nil, fun _ _ _ _ _ => (r_ix p_ix (r_var 5) r_int)⟩ (by decide)) ra_nil)))
    (r_seq (r_for (passes_of rfl) rfl (ri_enum T.n_enumerate (ra_cons (r_var 2) ra_nil)) (g_tp rfl (gs_cons (g_nm sc.nd) (gs_cons (g_nm sc.nd) gs_nil)))
      (r_last (r_expr (r_lm PySem.F.slot_list_extend PySem.F.type_list_extend m_ext (r_var 1) (ra_cons (r_lc sc.nd rfl (ri_seq (r_slice false (r_var 2) (ro_some (r_op (p_add false) (r_var 3) r_int)) ro_none)) (blkOk_by (own := [("other", 6)]) (N := n_exchanges) (sc := defScope s_exchanges) (by decide +kernel)) ⟨fun _ _ _ _ _ => (g_nm sc.nd), fun _ _ _ _ _ => (rts_one (r_tru (r_own d_is_possible hr takes0 (ra_cons (r_var 0) (ra_cons (r_tup (ra_cons (r_var 4) (ra_cons (r_var 6) ra_nil))) ra_nil))))), fun _ _ _ _ _ => (r_tup (ra_cons (r_var 4) (ra_cons (r_var 6) ra_nil)))⟩ (by decide)) ra_nil)))))
    (r_last (r_ret (r_var 1)))))
abbrev s_changed : Stmt := top 48
theorem sc_changed : FnScope n_changed ["arrangement", "exchange"] (defScope s_changed) := ⟨rfl, rfl, rfl, by decide +kernel, rfl, by decide +kernel, by decide +kernel⟩
theorem ok_changed {f : Addr} {fd : FuncData} (F : Fun K "changed" "changed" s_changed f fd) (T : Txt mg) {f_new_arms : Addr} {fd_new_arms : FuncData} (d_new_arms : Df P w K mg base 1 "new_arms" ["arrangement", "exchange"] f_new_arms fd_new_arms m_new_arms) : FnOk P w K mg base (L2.CX P w) 2 f fd ["arrangement", "exchange"] (spM ⟨K, w⟩ mg m_changed) :=
  fn_ok (k := 1) F sc_changed fun cdv A outer s H E hr => by
    have tk : Takes (cxOf (L2.CX P w) P w K mg base n_changed "changed" (defScope s_changed) f cdv A outer s H E) (fun cls d _ H => E cls d H) := takes_of rfl rfl rfl rfl
    have sc := sc_changed
    exact (r_seq (r_set sc.nd (r_callTy (c_list true) T.n_list (by decide +kernel) (ra_cons (r_var 0) ra_nil)))
    (r_seq (r_for (passes_of rfl) rfl (ri_seq (r_own d_new_arms hr tk (ra_cons (r_var 0) (ra_cons (r_var 1) ra_nil)))) (g_tp rfl (gs_cons (g_nm sc.nd) (gs_cons (g_nm sc.nd) gs_nil)))
      (r_last (r_asgT (r_tup (ra_cons (r_var 4) (ra_cons (r_var 3) ra_nil))) (q_tup rfl (qs_cons (q_sub (W := W0) p_set (r_var 2) (r_var 3)) (qs_cons (q_sub (W := W0) p_set (r_var 2) (r_var 4)) qs_nil))))))
    (r_last (r_ret (r_callTy c_tuple T.n_tuple (by decide +kernel) (ra_cons (r_var 2) ra_nil))))))
abbrev s_ring_of : Stmt := top 50
theorem sc_ring_of : FnScope n_ring_of ["one", "other", "person"] (defScope s_ring_of) := ⟨rfl, rfl, rfl, by decide +kernel, rfl, by decide +kernel, by decide +kernel⟩
theorem ok_ring_of {f : Addr} {fd : FuncData} (F : Fun K "ring_of" "ring_of" s_ring_of f fd) (T : Txt mg) : FnOk P w K mg base (L2.CX P w) 1 f fd ["one", "other", "person"] (spM ⟨K, w⟩ mg m_ring_of) :=
  fn_ok (k := 0) F sc_ring_of fun cdv A outer s H E hr => by
    have tk : Takes (cxOf (L2.CX P w) P w K mg base n_ring_of "ring_of" (defScope s_ring_of) f cdv A outer s H E) (fun cls d _ H => E cls d H) := takes_of rfl rfl rfl rfl
    have sc := sc_ring_of
    exact (r_seq (r_set sc.nd (r_lst true (ra_cons (r_var 2) (ra_cons (r_ix p_ix (r_var 0) (r_var 2)) ra_nil))))
    (r_seq (r_while 1000 (passes_of rfl) (r_tcmp (p_ne hr.units) (r_ix p_ix (r_var 1) (r_ix p_ix (r_var 3) (r_un p_neg r_int))) (r_var 2))
      (r_seq (r_expr (r_lm PySem.F.slot_list_append PySem.F.type_list_append m_append (r_var 3) (ra_cons (r_ix p_ix (r_var 1) (r_ix p_ix (r_var 3) (r_un p_neg r_int))) ra_nil)))
    (r_last (r_expr (r_lm PySem.F.slot_list_append PySem.F.type_list_append m_append (r_var 3) (ra_cons (r_ix p_ix (r_var 0) (r_ix p_ix (r_var 3) (r_un p_neg r_int))) ra_nil))))))
    (r_last (r_ret (r_callTy c_tuple T.n_tuple (by decide +kernel) (ra_cons (r_var 3) ra_nil))))))
abbrev s_rings : Stmt := top 51
theorem sc_rings : FnScope n_rings ["one", "other"] (defScope s_rings) := ⟨rfl, rfl, rfl, by decide +kernel, rfl, by decide +kernel, by decide +kernel⟩
theorem ok_rings {f : Addr} {fd : FuncData} (F : Fun K "rings" "rings" s_rings f fd) (T : Txt mg) {f_look_same : Addr} {fd_look_same : FuncData} (d_look_same : Df P w K mg base 1 "look_same" ["one", "other"] f_look_same fd_look_same m_look_same) {f_ring_of : Addr} {fd_ring_of : FuncData} (d_ring_of : Df P w K mg base 1 "ring_of" ["one", "other", "person"] f_ring_of fd_ring_of m_ring_of) : FnOk P w K mg base (L2.CX P w) 2 f fd ["one", "other"] (spM ⟨K, w⟩ mg m_rings) :=
  fn_ok (k := 1) F sc_rings fun cdv A outer s H E hr => by
    have tk : Takes (cxOf (L2.CX P w) P w K mg base n_rings "rings" (defScope s_rings) f cdv A outer s H E) (fun cls d _ H => E cls d H) := takes_of rfl rfl rfl rfl
    have sc := sc_rings
    exact (r_seq (r_expr (r_own d_look_same hr tk (ra_cons (r_var 0) (ra_cons (r_var 1) ra_nil))))
    (r_seq (r_par sc.nd rfl (ra_cons (r_lst true ra_nil) (ra_cons (r_lst true ra_nil) ra_nil)))
    (r_seq (r_for (passes_of rfl) rfl (ri_range1 T.n_range (ra_cons (r_callB c_len T.n_len (by decide +kernel) (ra_cons (r_var 0) ra_nil)) ra_nil)) (g_nm sc.nd)
      (r_last (r_if (r_tcmp (p_notIn (room65 hr)) (r_var 4) (r_var 3))
      (r_seq (r_expr (r_lm PySem.F.slot_list_append PySem.F.type_list_append m_append (r_var 2) (ra_cons (r_own d_ring_of hr tk (ra_cons (r_var 0) (ra_cons (r_var 1) (ra_cons (r_var 4) ra_nil)))) ra_nil)))
    (r_last (r_expr (r_lm PySem.F.slot_list_extend PySem.F.type_list_extend m_ext (r_var 3) (ra_cons (r_ix p_ix (r_var 2) (r_un p_neg r_int)) ra_nil)))))
      r_nil)))
    (r_last (r_ret (r_var 2))))))
abbrev s_distance : Stmt := top 52
theorem sc_distance : FnScope n_distance ["one", "other"] (defScope s_distance) := ⟨rfl, rfl, rfl, by decide +kernel, rfl, by decide +kernel, by decide +kernel⟩
theorem ok_distance {f : Addr} {fd : FuncData} (F : Fun K "distance" "distance" s_distance f fd) (T : Txt mg) {f_rings : Addr} {fd_rings : FuncData} (d_rings : Df P w K mg base 2 "rings" ["one", "other"] f_rings fd_rings m_rings) : FnOk P w K mg base (L2.CX P w) 3 f fd ["one", "other"] (spM ⟨K, w⟩ mg m_distance) :=
  fn_ok (k := 2) F sc_distance fun cdv A outer s H E hr => by
    have tk : Takes (cxOf (L2.CX P w) P w K mg base n_distance "distance" (defScope s_distance) f cdv A outer s H E) (fun cls d _ H => E cls d H) := takes_of rfl rfl rfl rfl
    have sc := sc_distance
    exact (r_last (r_ret (r_op p_sub (r_op p_fdiv (r_callB c_len T.n_len (by decide +kernel) (ra_cons (r_var 0) ra_nil)) r_int) (r_callB c_len T.n_len (by decide +kernel) (ra_cons (r_own d_rings hr tk (ra_cons (r_var 0) (ra_cons (r_var 1) ra_nil))) ra_nil)))))
abbrev s_nearer : Stmt := top 53
theorem sc_nearer : FnScope n_nearer ["one", "other"] (defScope s_nearer) := ⟨rfl, rfl, rfl, by decide +kernel, rfl, by decide +kernel, by decide +kernel⟩
theorem ok_nearer {f : Addr} {fd : FuncData} (F : Fun K "nearer" "nearer" s_nearer f fd) (T : Txt mg) {f_distance : Addr} {fd_distance : FuncData} (d_distance : Df P w K mg base 3 "distance" ["one", "other"] f_distance fd_distance m_distance) {f_exchanges : Addr} {fd_exchanges : FuncData} (d_exchanges : Df P w K mg base 3 "exchanges" ["arrangement"] f_exchanges fd_exchanges m_exchanges) {f_changed : Addr} {fd_changed : FuncData} (d_changed : Df P w K mg base 2 "changed" ["arrangement", "exchange"] f_changed fd_changed m_changed) : FnOk P w K mg base (L2.CX P w) 4 f fd ["one", "other"] (spM ⟨K, w⟩ mg m_nearer) :=
  fn_ok (k := 3) F sc_nearer fun cdv A outer s H E hr => by
    have tk : Takes (cxOf (L2.CX P w) P w K mg base n_nearer "nearer" (defScope s_nearer) f cdv A outer s H E) (fun cls d _ H => E cls d H) := takes_of rfl rfl rfl rfl
    have sc := sc_nearer
    exact (r_seq (r_set sc.nd (r_own d_distance hr tk (ra_cons (r_var 0) (ra_cons (r_var 1) ra_nil))))
    (r_last (r_ret (r_lc sc.nd rfl (ri_seq (r_own d_exchanges hr tk (ra_cons (r_var 0) ra_nil))) (blkOk_by (own := [("pair", 3)]) (N := n_nearer) (sc := defScope s_nearer) (by decide +kernel)) ⟨fun _ _ _ _ _ => (g_nm sc.nd), fun _ _ _ _ _ => (rts_one (r_tcmp p_lt (r_own d_distance hr takes0 (ra_cons (r_own d_changed hr takes0 (ra_cons (r_var 0) (ra_cons (r_var 3) ra_nil))) (ra_cons (r_var 1) ra_nil))) (r_var 2))), fun _ _ _ _ _ => (r_var 3)⟩ (by decide)))))
abbrev s_spheres : Stmt := top 55
theorem sc_spheres : FnScope n_spheres ["arrangement"] (defScope s_spheres) := ⟨rfl, rfl, rfl, by decide +kernel, rfl, by decide +kernel, by decide +kernel⟩
theorem ok_spheres {f : Addr} {fd : FuncData} (F : Fun K "spheres" "spheres" s_spheres f fd) (T : Txt mg) {f_distance : Addr} {fd_distance : FuncData} (d_distance : Df P w K mg base 3 "distance" ["one", "other"] f_distance fd_distance m_distance) {f_all_arrangements : Addr} {fd_all_arrangements : FuncData} (d_all_arrangements : Df P w K mg base 7 "all_arrangements" ["people", "known"] f_all_arrangements fd_all_arrangements m_all_arrangements) : FnOk P w K mg base (L2.CX P w) 8 f fd ["arrangement"] (spM ⟨K, w⟩ mg m_spheres) :=
  fn_ok (k := 7) F sc_spheres fun cdv A outer s H E hr => by
    have tk : Takes (cxOf (L2.CX P w) P w K mg base n_spheres "spheres" (defScope s_spheres) f cdv A outer s H E) (fun cls d _ H => E cls d H) := takes_of rfl rfl rfl rfl
    have sc := sc_spheres
    exact (r_seq (r_set sc.nd (r_lc sc.nd rfl (ri_seq (r_own d_all_arrangements hr tk (ra_cons (r_callB c_len T.n_len (by decide +kernel) (ra_cons (r_var 0) ra_nil)) (ra_cons (r_tup ra_nil) ra_nil)))) (blkOk_by (own := [("other", 2)]) (N := n_spheres) (sc := defScope s_spheres) (by decide +kernel)) ⟨fun _ _ _ _ _ => (g_nm sc.nd), fun _ _ _ _ _ => rts_nil, fun _ _ _ _ _ => (r_own d_distance hr takes0 (ra_cons (r_var 0) (ra_cons (r_var 2) ra_nil)))⟩ (by decide)))
    (r_last (r_ret (r_lc sc.nd rfl (ri_range1 T.n_range (ra_cons (r_op (p_add false) (r_callB (c_max (room1 hr) rfl) T.n_max (by decide +kernel) (ra_cons (r_var 1) ra_nil)) r_int) ra_nil)) (blkOk_by (own := [("step", 3)]) (N := n_spheres) (sc := defScope s_spheres) (by decide +kernel)) ⟨fun _ _ _ _ _ => (g_nm sc.nd), fun _ _ _ _ _ => rts_nil, fun _ _ _ _ _ => (r_lm PySem.F.slot_list_count PySem.F.type_list_count (m_count (room9 hr)) (r_var 1) (ra_cons (r_var 3) ra_nil))⟩ (by decide)))))
abbrev s_farthest : Stmt := top 56
theorem sc_farthest : FnScope n_farthest ["arrangement"] (defScope s_farthest) := ⟨rfl, rfl, rfl, by decide +kernel, rfl, by decide +kernel, by decide +kernel⟩
theorem ok_farthest {f : Addr} {fd : FuncData} (F : Fun K "farthest" "farthest" s_farthest f fd) (T : Txt mg) {f_all_arrangements : Addr} {fd_all_arrangements : FuncData} (d_all_arrangements : Df P w K mg base 7 "all_arrangements" ["people", "known"] f_all_arrangements fd_all_arrangements m_all_arrangements) {f_distance : Addr} {fd_distance : FuncData} (d_distance : Df P w K mg base 3 "distance" ["one", "other"] f_distance fd_distance m_distance) : FnOk P w K mg base (L2.CX P w) 8 f fd ["arrangement"] (spM ⟨K, w⟩ mg m_farthest) :=
  fn_ok (k := 7) F sc_farthest fun cdv A outer s H E hr => by
    have tk : Takes (cxOf (L2.CX P w) P w K mg base n_farthest "farthest" (defScope s_farthest) f cdv A outer s H E) (fun cls d _ H => E cls d H) := takes_of rfl rfl rfl rfl
    have sc := sc_farthest
    exact (r_seq (r_set sc.nd (r_own d_all_arrangements hr tk (ra_cons (r_callB c_len T.n_len (by decide +kernel) (ra_cons (r_var 0) ra_nil)) (ra_cons (r_tup ra_nil) ra_nil))))
    (r_seq (r_set sc.nd (r_lc sc.nd rfl (ri_seq (r_var 1)) (blkOk_by (own := [("other", 3)]) (N := n_farthest) (sc := defScope s_farthest) (by decide +kernel)) ⟨fun _ _ _ _ _ => (g_nm sc.nd), fun _ _ _ _ _ => rts_nil, fun _ _ _ _ _ => (r_own d_distance hr takes0 (ra_cons (r_var 0) (ra_cons (r_var 3) ra_nil)))⟩ (by decide)))
    (r_last (r_ret (r_lc sc.nd rfl (ri_zip T.n_zip (ra_cons (r_var 1) (ra_cons (r_var 2) ra_nil))) (blkOk_by (own := [("other", 3), ("step", 4)]) (N := n_farthest) (sc := defScope s_farthest) (by decide +kernel)) ⟨fun _ _ _ _ _ => (g_tp rfl (gs_cons (g_nm sc.nd) (gs_cons (g_nm sc.nd) gs_nil))), fun _ _ _ _ _ => (rts_one (r_tcmp (p_eq hr.units) (r_var 4) (r_callB (c_max (room1 hr) rfl) T.n_max (by decide +kernel) (ra_cons (r_var 2) ra_nil)))), fun _ _ _ _ _ => (r_var 3)⟩ (by decide))))))
abbrev s_ways_many : Stmt := top 57
theorem sc_ways_many : FnScope n_ways_many ["one", "other"] (defScope s_ways_many) := ⟨rfl, rfl, rfl, by decide +kernel, rfl, by decide +kernel, by decide +kernel⟩
theorem ok_ways_many {f : Addr} {fd : FuncData} (F : Fun K "ways_many" "ways_many" s_ways_many f fd) (T : Txt mg) {f_look_same : Addr} {fd_look_same : FuncData} (d_look_same : Df P w K mg base 1 "look_same" ["one", "other"] f_look_same fd_look_same m_look_same) {f_all_arrangements : Addr} {fd_all_arrangements : FuncData} (d_all_arrangements : Df P w K mg base 7 "all_arrangements" ["people", "known"] f_all_arrangements fd_all_arrangements m_all_arrangements) {f_distance : Addr} {fd_distance : FuncData} (d_distance : Df P w K mg base 3 "distance" ["one", "other"] f_distance fd_distance m_distance) {f_changed : Addr} {fd_changed : FuncData} (d_changed : Df P w K mg base 2 "changed" ["arrangement", "exchange"] f_changed fd_changed m_changed) {f_nearer : Addr} {fd_nearer : FuncData} (d_nearer : Df P w K mg base 4 "nearer" ["one", "other"] f_nearer fd_nearer m_nearer) : FnOk P w K mg base (L2.CX P w) 8 f fd ["one", "other"] (spM ⟨K, w⟩ mg m_ways_many) :=
  fn_ok (k := 7) F sc_ways_many fun cdv A outer s H E hr => by
    have tk : Takes (cxOf (L2.CX P w) P w K mg base n_ways_many "ways_many" (defScope s_ways_many) f cdv A outer s H E) (fun cls d _ H => E cls d H) := takes_of rfl rfl rfl rfl
    have sc := sc_ways_many
    exact (r_seq (r_expr (r_own d_look_same hr tk (ra_cons (r_var 0) (ra_cons (r_var 1) ra_nil))))
    (r_seq (r_set sc.nd (r_own d_all_arrangements hr tk (ra_cons (r_callB c_len T.n_len (by decide +kernel) (ra_cons (r_var 0) ra_nil)) (ra_cons (r_tup ra_nil) ra_nil))))
    (r_seq (r_set sc.nd (r_dsp (room9 hr) (r_callTy c_tuple T.n_tuple (by decide +kernel) (ra_cons (r_var 1) ra_nil)) r_int))
    (r_seq (r_for (passes_of rfl) rfl (ri_range2 T.n_range (ra_cons r_int (ra_cons (r_op (p_add false) (r_own d_distance hr tk (ra_cons (r_var 0) (ra_cons (r_var 1) ra_nil))) r_int) ra_nil))) (g_nm sc.nd)
      (r_last (r_for (passes_of rfl) rfl (ri_seq (r_var 2)) (g_nm sc.nd)
      (r_last (r_if (r_tcmp (p_eq hr.units) (r_own d_distance hr tk (ra_cons (r_var 5) (ra_cons (r_var 1) ra_nil))) (r_var 4))
      (r_last (r_asgT (r_callB (c_sum rfl) T.n_sum (by decide +kernel) (ra_cons (r_lc sc.nd rfl (ri_seq (r_own d_nearer hr tk (ra_cons (r_var 5) (ra_cons (r_var 1) ra_nil)))) (blkOk_by (own := [("pair", 6)]) (N := n_ways_many) (sc := defScope s_ways_many) (by decide +kernel)) ⟨fun _ _ _ _ _ => (g_nm sc.nd), fun _ _ _ _ _ => rts_nil, fun _ _ _ _ _ => (r_ix (p_dix (room9 hr)) (r_var 3) (r_own d_changed hr takes0 (ra_cons (r_var 5) (ra_cons (r_var 6) ra_nil))))⟩ (by decide)) ra_nil)) (q_sub (W := W0) (p_dset (room9 hr)) (r_var 3) (r_var 5))))
      r_nil)))))
    (r_last (r_ret (r_ix (p_dix (room9 hr)) (r_var 3) (r_callTy c_tuple T.n_tuple (by decide +kernel) (ra_cons (r_var 0) ra_nil)))))))))
abbrev s_law_cell_at : Stmt := top 59
theorem sc_law_cell_at : FnScope n_law_cell_at ["_law_script", "_law_k"] (defScope s_law_cell_at) := ⟨rfl, rfl, rfl, by decide +kernel, rfl, by decide +kernel, by decide +kernel⟩
theorem ok_law_cell_at {f : Addr} {fd : FuncData} (F : Fun K "_law_cell_at" "_law_cell_at" s_law_cell_at f fd) (T : Txt mg) : FnOk P w K mg base (L2.CX P w) 1 f fd ["_law_script", "_law_k"] (spM ⟨K, w⟩ mg m_law_cell_at) :=
  fn_ok (k := 0) F sc_law_cell_at fun cdv A outer s H E hr => by
    have tk : Takes (cxOf (L2.CX P w) P w K mg base n_law_cell_at "_law_cell_at" (defScope s_law_cell_at) f cdv A outer s H E) (fun cls d _ H => E cls d H) := takes_of rfl rfl rfl rfl
    have sc := sc_law_cell_at
    exact (r_seq (r_if (r_tcmp p_lt (r_var 1) (r_callB c_len T.n_len (by decide +kernel) (ra_cons (r_var 0) ra_nil)))
      (r_last (r_ret (r_ix p_ix (r_var 0) (r_var 1))))
      r_nil)
    (r_last (r_ret r_int)))
abbrev s_law_box : Stmt := top 60
theorem sc_law_box : FnScope n_law_box ["_law_script", "_law_k"] (defScope s_law_box) := ⟨rfl, rfl, rfl, by decide +kernel, rfl, by decide +kernel, by decide +kernel⟩
theorem ok_law_box {f : Addr} {fd : FuncData} (F : Fun K "_law_box" "_law_box" s_law_box f fd) (T : Txt mg) {f_law_cell_at : Addr} {fd_law_cell_at : FuncData} (d_law_cell_at : Df P w K mg base 1 "_law_cell_at" ["_law_script", "_law_k"] f_law_cell_at fd_law_cell_at m_law_cell_at) : FnOk P w K mg base (L2.CX P w) 2 f fd ["_law_script", "_law_k"] (spM ⟨K, w⟩ mg m_law_box) :=
  fn_okR (k := 1) F sc_law_box fun cdv A outer s H E hr => by
    have tk : Takes (cxOf (L2.CX P w) P w K mg base n_law_box "_law_box" (defScope s_law_box) f cdv A outer s H E) (fun cls d _ H => E cls d H) := takes_of rfl rfl rfl rfl
    have sc := sc_law_box
    exact (r_seq (r_set sc.nd (r_own d_law_cell_at hr tk (ra_cons (r_var 0) (ra_cons (r_var 1) ra_nil))))
    (r_last (r_ret (r_lst true (ra_cons (r_op (p_mul false) (r_callB c_abs T.n_abs (by decide +kernel) (ra_cons (r_var 2) ra_nil)) (r_callTy c_int T.n_int (by decide +kernel) (ra_cons (r_cmp p_ge (r_callB c_abs T.n_abs (by decide +kernel) (ra_cons (r_var 2) ra_nil)) (r_op p_pow r_int r_int)) ra_nil))) (ra_cons (r_op (p_add false) (r_op (p_add false) (r_op p_mod (r_var 2) r_int) (r_op (p_mul false) r_int (r_var 1))) r_int) (ra_cons r_int ra_nil)))))))
abbrev s_law_take : Stmt := top 61
theorem sc_law_take : FnScope n_law_take ["_law_box_here", "_law_below"] (defScope s_law_take) := ⟨rfl, rfl, rfl, by decide +kernel, rfl, by decide +kernel, by decide +kernel⟩
theorem ok_law_take {f : Addr} {fd : FuncData} (F : Fun K "_law_take" "_law_take" s_law_take f fd) (T : Txt mg) (gl : mg "_law_take" = some (.ref f)) (bd : Binds K fd ["_law_box_here", "_law_below"] []) : ∀ n : Nat, n ≤ 4 → FnOk P w K mg base (L2.CX P w) (0 + n) f fd ["_law_box_here", "_law_below"] (spM ⟨K, w⟩ mg (r_law_take n))
  | 0, _ => fn_zero
  | n + 1, hn => fn_ok (k := 0 + n) F sc_law_take fun cdv A outer s H E hr => by
    have tk : Takes (cxOf (L2.CX P w) P w K mg base n_law_take "_law_take" (defScope s_law_take) f cdv A outer s H E) (fun cls d _ H => E cls d H) := takes_of rfl rfl rfl rfl
    have sc := sc_law_take
    have d_law_take : Df P w K mg base (0 + n) "_law_take" ["_law_box_here", "_law_below"] f fd (r_law_take n) := ⟨ok_law_take F T gl bd  n (Nat.le_of_succ_le hn), gl, F.kp, bd⟩
    exact (r_seq (r_if (r_tcmp p_gt (r_ix p_ix (r_var 0) r_int) r_int)
      (r_seq (r_set sc.nd (r_op p_mod (r_ix p_ix (r_var 0) r_int) (r_var 1)))
    (r_seq (r_asgT (r_op p_fdiv (r_ix p_ix (r_var 0) r_int) (r_var 1)) (q_sub (W := W0) p_set (r_var 0) r_int))
    (r_last (r_ret (r_var 2)))))
      r_nil)
    (r_seq (r_if (r_tcmp p_gt (r_var 1) (r_op p_pow r_int r_int))
      (r_last (r_ret (r_op p_mod (r_op (p_add false) (r_own (hj := Nat.le_refl _) d_law_take hr tk (ra_cons (r_var 0) (ra_cons (r_op p_pow r_int r_int) ra_nil))) (r_op (p_mul false) (r_op p_pow r_int r_int) (r_own (hj := Nat.le_refl _) d_law_take hr tk (ra_cons (r_var 0) (ra_cons (r_op (p_add false) (r_op p_fdiv (r_var 1) (r_op p_pow r_int r_int)) r_int) ra_nil))))) (r_var 1))))
      r_nil)
    (r_seq (r_asgT (r_op (p_add false) (r_ix p_ix (r_var 0) r_int) r_int) (q_sub (W := W0) p_set (r_var 0) r_int))
    (r_seq (r_set sc.nd (r_op p_mod (r_op (p_mul false) (r_op (p_add false) (r_ix p_ix (r_var 0) r_int) (r_op (p_mul false) r_int (r_ix p_ix (r_var 0) r_int))) (r_op (p_add false) r_int (r_ix p_ix (r_var 0) r_int))) r_int))
    (r_seq (r_set sc.nd (r_op p_mod (r_op (p_mul false) (r_op (p_add false) (r_op (p_add false) (r_var 3) (r_ix p_ix (r_var 0) r_int)) (r_op p_fdiv (r_ix p_ix (r_var 0) r_int) r_int)) (r_op (p_add false) (r_op p_mod (r_var 3) r_int) r_int)) r_int))
    (r_last (r_ret (r_op p_mod (r_op p_fdiv (r_op p_mod (r_op (p_add false) (r_op (p_mul false) (r_var 4) r_int) (r_var 3)) r_int) r_int) (r_var 1)))))))))
abbrev s_law_same : Stmt := top 62
theorem sc_law_same : FnScope n_law_same ["_law_found", "_law_due"] (defScope s_law_same) := ⟨rfl, rfl, rfl, by decide +kernel, rfl, by decide +kernel, by decide +kernel⟩
theorem ok_law_same {f : Addr} {fd : FuncData} (F : Fun K "_law_same" "_law_same" s_law_same f fd) (T : Txt mg) (gl : mg "_law_same" = some (.ref f)) (bd : Binds K fd ["_law_found", "_law_due"] []) : ∀ n : Nat, n ≤ 5 → FnOk P w K mg base (L2.CX P w) (0 + n) f fd ["_law_found", "_law_due"] (spM ⟨K, w⟩ mg (r_law_same n))
  | 0, _ => fn_zero
  | n + 1, hn => fn_ok (k := 0 + n) F sc_law_same fun cdv A outer s H E hr => by
    have tk : Takes (cxOf (L2.CX P w) P w K mg base n_law_same "_law_same" (defScope s_law_same) f cdv A outer s H E) (fun cls d _ H => E cls d H) := takes_of rfl rfl rfl rfl
    have sc := sc_law_same
    have d_law_same : Df P w K mg base (0 + n) "_law_same" ["_law_found", "_law_due"] f fd (r_law_same n) := ⟨ok_law_same F T gl bd  n (Nat.le_of_succ_le hn), gl, F.kp, bd⟩
    exact (r_seq (r_if (r_tru (r_isi2 T.n_isinstance (r_var 1) T.n_list (by decide +kernel) kit_list T.n_tuple (by decide +kernel) kit_tuple))
      (r_seq (r_if (r_bool (r_or (r_tcmp (p_ne hr.units) (r_isi T.n_isinstance (r_var 0) T.n_list (by decide +kernel) kit_list) (r_isi T.n_isinstance (r_var 1) T.n_list (by decide +kernel) kit_list)) (r_or1 (r_tcmp (p_ne hr.units) (r_isi T.n_isinstance (r_var 0) T.n_tuple (by decide +kernel) kit_tuple) (r_isi T.n_isinstance (r_var 1) T.n_tuple (by decide +kernel) kit_tuple)))))
      (r_last (r_ret r_bl))
      r_nil)
    (r_last (r_ret (r_andV (r_cmp (p_eq hr.units) (r_callB c_len T.n_len (by decide +kernel) (ra_cons (r_var 0) ra_nil)) (r_callB c_len T.n_len (by decide +kernel) (ra_cons (r_var 1) ra_nil))) (r_one (r_callB (c_all rfl) T.n_all (by decide +kernel) (ra_cons (r_lc sc.nd rfl (ri_zip T.n_zip (ra_cons (r_var 0) (ra_cons (r_var 1) ra_nil))) (blkOk_by (own := [("_law_a", 2), ("_law_b", 3)]) (N := n_law_same) (sc := defScope s_law_same) (by decide +kernel)) ⟨fun _ _ _ _ _ => (g_tp rfl (gs_cons (g_nm sc.nd) (gs_cons (g_nm sc.nd) gs_nil))), fun _ _ _ _ _ => rts_nil, fun _ _ _ _ _ => (r_own (hj := Nat.le_refl _) d_law_same hr takes0 (ra_cons (r_var 2) (ra_cons (r_var 3) ra_nil)))⟩ (by decide)) ra_nil)))))))
      r_nil)
    (r_seq (r_if (r_bool (r_or (r_tcmp p_isN (r_var 1) r_non) (r_or1 (r_tru (r_isi2 T.n_isinstance (r_var 1) T.n_bool (by decide +kernel) kit_bool T.n_str (by decide +kernel) kit_str)))))
      (r_last (r_ret (r_andV (r_cmp (p_eq hr.units) (r_var 0) (r_var 1)) (r_andV (r_cmp (p_eq hr.units) (r_isi T.n_isinstance (r_var 0) T.n_bool (by decide +kernel) kit_bool) (r_isi T.n_isinstance (r_var 1) T.n_bool (by decide +kernel) kit_bool)) (r_one (r_cmp (p_eq hr.units) (r_cmp p_isN (r_var 0) r_non) (r_cmp p_isN (r_var 1) r_non)))))))
      r_nil)
    (r_last (r_ret (r_andV (r_isi T.n_isinstance (r_var 0) T.n_int (by decide +kernel) kit_int) (r_andV (r_notV (r_isi T.n_isinstance (r_var 0) T.n_bool (by decide +kernel) kit_bool)) (r_one (r_cmp (p_eq hr.units) (r_var 0) (r_var 1)))))))))
abbrev s_law_more : Stmt := top 63
theorem sc_law_more : FnScope n_law_more ["_law_size", "_law_facts", "_law_extra"] (defScope s_law_more) := ⟨rfl, rfl, rfl, by decide +kernel, rfl, by decide +kernel, by decide +kernel⟩
theorem ok_law_more {f : Addr} {fd : FuncData} (F : Fun K "_law_more" "_law_more" s_law_more f fd) (T : Txt mg) : FnOk P w K mg base (L2.CX P w) 1 f fd ["_law_size", "_law_facts", "_law_extra"] (spM ⟨K, w⟩ mg m_law_more) :=
  fn_ok (k := 0) F sc_law_more fun cdv A outer s H E hr => by
    have tk : Takes (cxOf (L2.CX P w) P w K mg base n_law_more "_law_more" (defScope s_law_more) f cdv A outer s H E) (fun cls d _ H => E cls d H) := takes_of rfl rfl rfl rfl
    have sc := sc_law_more
    exact (r_last (r_ret (r_op (p_add false) (r_callTy c_tuple T.n_tuple (by decide +kernel) (ra_cons (r_var 1) ra_nil)) (r_callTy c_tuple T.n_tuple (by decide +kernel) (ra_cons (r_lc sc.nd rfl (ri_range1 T.n_range (ra_cons (r_var 2) ra_nil)) (blkOk_by (own := [("_law_k", 3)]) (N := n_law_more) (sc := defScope s_law_more) (by decide +kernel)) ⟨fun _ _ _ _ _ => (g_nm sc.nd), fun _ _ _ _ _ => rts_nil, fun _ _ _ _ _ => (r_tup (ra_cons (r_op (p_add false) (r_var 0) (r_op (p_mul false) r_int (r_var 3))) (ra_cons (r_op (p_add false) (r_op (p_add false) (r_var 0) (r_op (p_mul false) r_int (r_var 3))) r_int) ra_nil)))⟩ (by decide)) ra_nil)))))
abbrev s_law_counts_right : Stmt := top 64
theorem sc_law_counts_right : FnScope n_law_counts_right ["_law_extra"] (defScope s_law_counts_right) := ⟨rfl, rfl, rfl, by decide +kernel, rfl, by decide +kernel, by decide +kernel⟩
theorem ok_law_counts_right {f : Addr} {fd : FuncData} (F : Fun K "_law_counts_right" "_law_counts_right" s_law_counts_right f fd) (T : Txt mg) {f_law_more : Addr} {fd_law_more : FuncData} (d_law_more : Df P w K mg base 1 "_law_more" ["_law_size", "_law_facts", "_law_extra"] f_law_more fd_law_more m_law_more) {f_law_same : Addr} {fd_law_same : FuncData} (d_law_same : Df P w K mg base 5 "_law_same" ["_law_found", "_law_due"] f_law_same fd_law_same m_law_same) {f_many : Addr} {fd_many : FuncData} (d_many : Df P w K mg base 4 "many" ["people", "known"] f_many fd_many m_many) {f_regions : Addr} {fd_regions : FuncData} (d_regions : Df P w K mg base 4 "regions" ["people", "known"] f_regions fd_regions m_regions) {f_evidence : Addr} {fd_evidence : FuncData} (d_evidence : Df P w K mg base 3 "evidence" ["people", "known"] f_evidence fd_evidence m_evidence) : FnOk P w K mg base (L2.CX P w) 6 f fd ["_law_extra"] (spM ⟨K, w⟩ mg m_law_counts_right) :=
  fn_ok (k := 5) F sc_law_counts_right fun cdv A outer s H E hr => by
    have tk : Takes (cxOf (L2.CX P w) P w K mg base n_law_counts_right "_law_counts_right" (defScope s_law_counts_right) f cdv A outer s H E) (fun cls d _ H => E cls d H) := takes_of rfl rfl rfl rfl
    have sc := sc_law_counts_right
    exact (r_seq (r_set sc.nd (r_tup (ra_cons (r_tup ra_nil) (ra_cons (r_tup (ra_cons (r_tup (ra_cons r_int (ra_cons r_int ra_nil))) ra_nil)) (ra_cons (r_tup (ra_cons (r_tup (ra_cons r_int (ra_cons r_int ra_nil))) ra_nil)) (ra_cons (r_tup (ra_cons (r_tup (ra_cons r_int (ra_cons r_int ra_nil))) ra_nil)) (ra_cons (r_tup (ra_cons (r_tup (ra_cons r_int (ra_cons r_int ra_nil))) ra_nil)) ra_nil)))))))
    (r_seq (r_setLcC sc.nd rfl (ri_seq (r_var 1)) (blkOk_by (own := [("_law_facts", 3)]) (N := n_law_counts_right) (sc := defScope s_law_counts_right) (by decide +kernel)) ⟨fun _ _ _ _ _ => (g_nm sc.nd), fun _ _ _ _ _ => rts_nil, fun _ _ _ _ _ => (r_own d_many hr takes0 (ra_cons (r_op (p_add false) r_int (r_op (p_mul false) r_int (r_var 0))) (ra_cons (r_own d_law_more hr takes0 (ra_cons r_int (ra_cons (r_var 3) (ra_cons (r_var 0) ra_nil)))) ra_nil)))⟩ (by decide) (sw_true rfl rfl rfl (by decide +kernel)))
    (r_freeze 2 (r_seq (r_if (r_not (r_tru (r_own d_law_same hr tk (ra_cons (r_var 2) (ra_cons (r_lst false (ra_cons r_int (ra_cons r_int (ra_cons r_int (ra_cons r_int (ra_cons r_int ra_nil)))))) ra_nil)))))
      (r_last (r_ret r_bl))
      r_nil)
    (r_seq (r_set sc.nd (r_own d_law_more hr tk (ra_cons r_int (ra_cons (r_tup (ra_cons (r_tup (ra_cons r_int (ra_cons r_int ra_nil))) ra_nil)) (ra_cons (r_var 0) ra_nil)))))
    (r_seq (r_set sc.nd (r_lst true (ra_cons (r_own d_regions hr tk (ra_cons (r_op (p_add false) r_int (r_op (p_mul false) r_int (r_var 0))) (ra_cons (r_var 3) ra_nil))) (ra_cons (r_own d_many hr tk (ra_cons (r_op (p_add false) r_int (r_op (p_mul false) r_int (r_var 0))) (ra_cons (r_var 3) ra_nil))) (ra_cons (r_own d_evidence hr tk (ra_cons (r_op (p_add false) r_int (r_op (p_mul false) r_int (r_var 0))) (ra_cons (r_var 3) ra_nil))) ra_nil)))))
    (r_freeze 2 (r_seq (r_if (r_not (r_tru (r_own d_law_same hr tk (ra_cons (r_var 2) (ra_cons (r_lst false (ra_cons (r_lst false (ra_cons (r_tup (ra_cons r_int (ra_cons r_int (ra_cons r_int (ra_cons r_int ra_nil))))) (ra_cons (r_tup (ra_cons r_int (ra_cons r_int ra_nil))) ra_nil))) (ra_cons r_int (ra_cons r_non ra_nil)))) ra_nil)))))
      (r_last (r_ret r_bl))
      r_nil)
    (r_seq (r_set sc.nd (r_lst true (ra_cons (r_own d_evidence hr tk (ra_cons (r_op (p_add false) r_int (r_op (p_mul false) r_int (r_var 0))) (ra_cons (r_own d_law_more hr tk (ra_cons r_int (ra_cons (r_tup (ra_cons (r_tup (ra_cons r_int (ra_cons r_int ra_nil))) (ra_cons (r_tup (ra_cons r_int (ra_cons r_int ra_nil))) ra_nil))) (ra_cons (r_var 0) ra_nil)))) ra_nil))) ra_nil)))
    (r_seq (r_expr (r_lm PySem.F.slot_list_append PySem.F.type_list_append m_append (r_var 2) (ra_cons (r_own d_evidence hr tk (ra_cons (r_op (p_add false) r_int (r_op (p_mul false) r_int (r_var 0))) (ra_cons (r_own d_law_more hr tk (ra_cons r_int (ra_cons (r_tup (ra_cons (r_tup (ra_cons r_int (ra_cons r_int ra_nil))) ra_nil)) (ra_cons (r_var 0) ra_nil)))) ra_nil))) ra_nil)))
    (r_seq (r_expr (r_lm PySem.F.slot_list_append PySem.F.type_list_append m_append (r_var 2) (ra_cons (r_own d_evidence hr tk (ra_cons (r_op (p_add false) r_int (r_op (p_mul false) r_int (r_var 0))) (ra_cons (r_own d_law_more hr tk (ra_cons r_int (ra_cons (r_tup (ra_cons (r_tup (ra_cons r_int (ra_cons r_int ra_nil))) (ra_cons (r_tup (ra_cons r_int (ra_cons r_int ra_nil))) ra_nil))) (ra_cons (r_var 0) ra_nil)))) ra_nil))) ra_nil)))
    (r_seq (r_expr (r_lm PySem.F.slot_list_append PySem.F.type_list_append m_append (r_var 2) (ra_cons (r_own d_evidence hr tk (ra_cons (r_op (p_add false) r_int (r_op (p_mul false) r_int (r_var 0))) (ra_cons (r_own d_law_more hr tk (ra_cons r_int (ra_cons (r_tup (ra_cons (r_tup (ra_cons r_int (ra_cons r_int ra_nil))) (ra_cons (r_tup (ra_cons r_int (ra_cons r_int ra_nil))) (ra_cons (r_tup (ra_cons r_int (ra_cons r_int ra_nil))) (ra_cons (r_tup (ra_cons r_int (ra_cons r_int ra_nil))) ra_nil))))) (ra_cons (r_var 0) ra_nil)))) ra_nil))) ra_nil)))
    (r_freeze 2 (r_last (r_ret (r_own d_law_same hr tk (ra_cons (r_var 2) (ra_cons (r_lst false (ra_cons (r_tup (ra_cons r_str (ra_cons (r_tup (ra_cons r_int (ra_cons r_int ra_nil))) (ra_cons (r_tup (ra_cons r_int (ra_cons r_int ra_nil))) ra_nil)))) (ra_cons (r_tup (ra_cons r_str (ra_cons (r_tup (ra_cons r_int ra_nil)) ra_nil))) (ra_cons r_non (ra_cons (r_tup (ra_cons r_str (ra_cons (r_tup (ra_cons r_int (ra_cons r_int ra_nil))) (ra_cons (r_tup (ra_cons r_int (ra_cons r_int ra_nil))) ra_nil)))) ra_nil))))) ra_nil))))))))))))))))))
abbrev s_law_numbers_right : Stmt := top 65
theorem sc_law_numbers_right : FnScope n_law_numbers_right ["_law_extra"] (defScope s_law_numbers_right) := ⟨rfl, rfl, rfl, by decide +kernel, rfl, by decide +kernel, by decide +kernel⟩
theorem ok_law_numbers_right {f : Addr} {fd : FuncData} (F : Fun K "_law_numbers_right" "_law_numbers_right" s_law_numbers_right f fd) (T : Txt mg) {f_law_same : Addr} {fd_law_same : FuncData} (d_law_same : Df P w K mg base 5 "_law_same" ["_law_found", "_law_due"] f_law_same fd_law_same m_law_same) {f_law_more : Addr} {fd_law_more : FuncData} (d_law_more : Df P w K mg base 1 "_law_more" ["_law_size", "_law_facts", "_law_extra"] f_law_more fd_law_more m_law_more) {f_arrangement_at : Addr} {fd_arrangement_at : FuncData} (d_arrangement_at : Df P w K mg base 6 "arrangement_at" ["people", "known", "number"] f_arrangement_at fd_arrangement_at m_arrangement_at) {f_number_of : Addr} {fd_number_of : FuncData} (d_number_of : Df P w K mg base 6 "number_of" ["people", "known", "arrangement"] f_number_of fd_number_of m_number_of) {f_fits : Addr} {fd_fits : FuncData} (d_fits : Df P w K mg base 4 "fits" ["known", "thing"] f_fits fd_fits m_fits) {f_many : Addr} {fd_many : FuncData} (d_many : Df P w K mg base 4 "many" ["people", "known"] f_many fd_many m_many) {f_all_arrangements : Addr} {fd_all_arrangements : FuncData} (d_all_arrangements : Df P w K mg base 7 "all_arrangements" ["people", "known"] f_all_arrangements fd_all_arrangements m_all_arrangements) {f_regions : Addr} {fd_regions : FuncData} (d_regions : Df P w K mg base 4 "regions" ["people", "known"] f_regions fd_regions m_regions) : FnOk P w K mg base (L2.CX P w) 8 f fd ["_law_extra"] (spM ⟨K, w⟩ mg m_law_numbers_right) :=
  fn_ok (k := 7) F sc_law_numbers_right fun cdv A outer s H E hr => by
    have tk : Takes (cxOf (L2.CX P w) P w K mg base n_law_numbers_right "_law_numbers_right" (defScope s_law_numbers_right) f cdv A outer s H E) (fun cls d _ H => E cls d H) := takes_of rfl rfl rfl rfl
    have sc := sc_law_numbers_right
    exact (r_seq (r_set sc.nd (r_lst false (ra_cons (r_tup (ra_cons r_int (ra_cons r_int (ra_cons r_int (ra_cons r_int (ra_cons r_int (ra_cons r_int ra_nil))))))) (ra_cons (r_tup (ra_cons r_int (ra_cons r_int (ra_cons r_int (ra_cons r_int (ra_cons r_int (ra_cons r_int ra_nil))))))) (ra_cons (r_tup (ra_cons r_int (ra_cons r_int (ra_cons r_int (ra_cons r_int (ra_cons r_int (ra_cons r_int ra_nil))))))) (ra_cons (r_tup (ra_cons r_int (ra_cons r_int (ra_cons r_int (ra_cons r_int (ra_cons r_int (ra_cons r_int ra_nil))))))) (ra_cons (r_tup (ra_cons r_int (ra_cons r_int (ra_cons r_int (ra_cons r_int (ra_cons r_int (ra_cons r_int ra_nil))))))) ra_nil)))))))
    (r_seq (r_set sc.nd (r_lst false ra_nil))
    (r_seq (r_for (passes_of rfl) rfl (ri_range1 T.n_range (ra_cons (r_var 0) ra_nil)) (g_nm sc.nd)
      (r_last (r_set sc.nd (r_op (p_add false) (r_var 2) (r_lst false (ra_cons (r_op (p_add false) r_int (r_op (p_mul false) r_int (r_var 3))) (ra_cons (r_op (p_add false) r_int (r_op (p_mul false) r_int (r_var 3))) ra_nil)))))))
    (r_seq (r_par sc.nd rfl (ra_cons (r_own d_law_more hr tk (ra_cons r_int (ra_cons (r_tup ra_nil) (ra_cons (r_var 0) ra_nil)))) (ra_cons (r_lc sc.nd rfl (ri_seq (r_var 1)) (blkOk_by (own := [("_law_hall", 7)]) (N := n_law_numbers_right) (sc := defScope s_law_numbers_right) (by decide +kernel)) ⟨fun _ _ _ _ _ => (g_nm sc.nd), fun _ _ _ _ _ => rts_nil, fun _ _ _ _ _ => (r_op (p_add false) (r_var 7) (r_callTy c_tuple T.n_tuple (by decide +kernel) (ra_cons (r_var 2) ra_nil)))⟩ (by decide)) ra_nil)))
    (r_seq (r_if (r_not (r_tru (r_own d_law_same hr tk (ra_cons (r_own d_all_arrangements hr tk (ra_cons (r_op (p_add false) r_int (r_op (p_mul false) r_int (r_var 0))) (ra_cons (r_var 4) ra_nil))) (ra_cons (r_var 5) ra_nil)))))
      (r_last (r_ret r_bl))
      r_nil)
    (r_seq (r_set sc.nd (r_lst true (ra_cons (r_own d_arrangement_at hr tk (ra_cons (r_op (p_add false) r_int (r_op (p_mul false) r_int (r_var 0))) (ra_cons (r_var 4) (ra_cons r_int ra_nil)))) (ra_cons (r_own d_number_of hr tk (ra_cons (r_op (p_add false) r_int (r_op (p_mul false) r_int (r_var 0))) (ra_cons (r_var 4) (ra_cons (r_ix p_ix (r_var 5) r_int) ra_nil)))) (ra_cons (r_own d_fits hr tk (ra_cons (r_var 4) (ra_cons (r_ix p_ix (r_var 5) r_int) ra_nil))) ra_nil)))))
    (r_seq (r_if (r_not (r_tru (r_own d_law_same hr tk (ra_cons (r_op (p_add false) (r_var 6) (r_lst false (ra_cons (r_own d_fits hr tk (ra_cons (r_tup (ra_cons (r_tup (ra_cons r_int (ra_cons r_int ra_nil))) ra_nil)) (ra_cons (r_ix p_ix (r_var 5) r_int) ra_nil))) (ra_cons (r_own d_fits hr tk (ra_cons (r_tup (ra_cons (r_tup (ra_cons r_int (ra_cons r_int ra_nil))) ra_nil)) (ra_cons (r_ix p_ix (r_var 5) r_int) ra_nil))) ra_nil)))) (ra_cons (r_lst false (ra_cons (r_ix p_ix (r_var 5) r_int) (ra_cons r_int (ra_cons r_bl (ra_cons r_bl (ra_cons r_bl ra_nil)))))) ra_nil)))))
      (r_last (r_ret r_bl))
      r_nil)
    (r_seq (r_set sc.nd (r_lst true (ra_cons (r_own d_many hr tk (ra_cons r_int (ra_cons (r_tup ra_nil) ra_nil))) (ra_cons (r_own d_many hr tk (ra_cons r_int (ra_cons (r_tup ra_nil) ra_nil))) (ra_cons (r_own d_many hr tk (ra_cons r_int (ra_cons (r_tup ra_nil) ra_nil))) (ra_cons (r_own d_all_arrangements hr tk (ra_cons r_int (ra_cons (r_tup ra_nil) ra_nil))) (ra_cons (r_own d_regions hr tk (ra_cons r_int (ra_cons (r_tup ra_nil) ra_nil))) ra_nil)))))))
    (r_seq (r_expr (r_lm PySem.F.slot_list_append PySem.F.type_list_append m_append (r_var 6) (ra_cons (r_own d_regions hr tk (ra_cons r_int (ra_cons (r_tup (ra_cons (r_tup (ra_cons r_int (ra_cons r_int ra_nil))) (ra_cons (r_tup (ra_cons r_int (ra_cons r_int ra_nil))) ra_nil))) ra_nil))) ra_nil)))
    (r_freeze 6 (r_last (r_ret (r_own d_law_same hr tk (ra_cons (r_var 6) (ra_cons (r_lst false (ra_cons r_int (ra_cons r_int (ra_cons r_int (ra_cons (r_lst false (ra_cons (r_tup ra_nil) ra_nil)) (ra_cons (r_lst false ra_nil) (ra_cons (r_lst false ra_nil) ra_nil))))))) ra_nil)))))))))))))))
abbrev s_law_chances_right : Stmt := top 66
theorem sc_law_chances_right : FnScope n_law_chances_right ["_law_extra"] (defScope s_law_chances_right) := ⟨rfl, rfl, rfl, by decide +kernel, rfl, by decide +kernel, by decide +kernel⟩
theorem ok_law_chances_right {f : Addr} {fd : FuncData} (F : Fun K "_law_chances_right" "_law_chances_right" s_law_chances_right f fd) (T : Txt mg) {f_law_more : Addr} {fd_law_more : FuncData} (d_law_more : Df P w K mg base 1 "_law_more" ["_law_size", "_law_facts", "_law_extra"] f_law_more fd_law_more m_law_more) {f_law_same : Addr} {fd_law_same : FuncData} (d_law_same : Df P w K mg base 5 "_law_same" ["_law_found", "_law_due"] f_law_same fd_law_same m_law_same) {f_pair_chance : Addr} {fd_pair_chance : FuncData} (d_pair_chance : Df P w K mg base 7 "pair_chance" ["people", "known", "one", "other"] f_pair_chance fd_pair_chance m_pair_chance) {f_partner_chances : Addr} {fd_partner_chances : FuncData} (d_partner_chances : Df P w K mg base 7 "partner_chances" ["people", "known", "person"] f_partner_chances fd_partner_chances m_partner_chances) {f_possible_pairs : Addr} {fd_possible_pairs : FuncData} (d_possible_pairs : Df P w K mg base 8 "possible_pairs" ["people", "known"] f_possible_pairs fd_possible_pairs m_possible_pairs) {f_neighbour_mean : Addr} {fd_neighbour_mean : FuncData} (d_neighbour_mean : Df P w K mg base 6 "neighbour_mean" ["people", "known"] f_neighbour_mean fd_neighbour_mean m_neighbour_mean) {f_sure_pairs : Addr} {fd_sure_pairs : FuncData} (d_sure_pairs : Df P w K mg base 8 "sure_pairs" ["people", "known"] f_sure_pairs fd_sure_pairs m_sure_pairs) : FnOk P w K mg base (L2.CX P w) 9 f fd ["_law_extra"] (spM ⟨K, w⟩ mg m_law_chances_right) :=
  fn_ok (k := 8) F sc_law_chances_right fun cdv A outer s H E hr => by
    have tk : Takes (cxOf (L2.CX P w) P w K mg base n_law_chances_right "_law_chances_right" (defScope s_law_chances_right) f cdv A outer s H E) (fun cls d _ H => E cls d H) := takes_of rfl rfl rfl rfl
    have sc := sc_law_chances_right
    exact (r_seq (r_par sc.nd rfl (ra_cons (r_own d_law_more hr tk (ra_cons r_int (ra_cons (r_tup ra_nil) (ra_cons (r_var 0) ra_nil)))) (ra_cons (r_op (p_add false) r_int (r_op (p_mul false) r_int (r_var 0))) ra_nil)))
    (r_seq (r_set sc.nd (r_lst true (ra_cons (r_own d_pair_chance hr tk (ra_cons (r_var 2) (ra_cons (r_var 1) (ra_cons r_int (ra_cons r_int ra_nil))))) (ra_cons (r_own d_pair_chance hr tk (ra_cons (r_var 2) (ra_cons (r_var 1) (ra_cons r_int (ra_cons r_int ra_nil))))) (ra_cons (r_own d_partner_chances hr tk (ra_cons (r_var 2) (ra_cons (r_var 1) (ra_cons r_int ra_nil)))) ra_nil)))))
    (r_freeze 3 (r_seq (r_if (r_not (r_tru (r_own d_law_same hr tk (ra_cons (r_var 3) (ra_cons (r_lst false (ra_cons (r_tup (ra_cons r_int (ra_cons r_int ra_nil))) (ra_cons (r_tup (ra_cons r_int (ra_cons r_int ra_nil))) (ra_cons (r_lst false (ra_cons (r_tup (ra_cons r_int (ra_cons (r_tup (ra_cons r_int (ra_cons r_int ra_nil))) ra_nil))) (ra_cons (r_tup (ra_cons r_int (ra_cons (r_tup (ra_cons r_int (ra_cons r_int ra_nil))) ra_nil))) (ra_cons (r_tup (ra_cons r_int (ra_cons (r_tup (ra_cons r_int (ra_cons r_int ra_nil))) ra_nil))) ra_nil)))) ra_nil)))) ra_nil)))))
      (r_last (r_ret r_bl))
      r_nil)
    (r_seq (r_set sc.nd (r_own d_law_more hr tk (ra_cons r_int (ra_cons (r_tup (ra_cons (r_tup (ra_cons r_int (ra_cons r_int ra_nil))) ra_nil)) (ra_cons (r_var 0) ra_nil)))))
    (r_seq (r_set sc.nd (r_callTy (c_list false) T.n_list (by decide +kernel) (ra_cons (r_slice false (r_var 1) (ro_some r_int) ro_none) ra_nil)))
    (r_seq (r_set sc.nd (r_op (p_add false) (r_lst false (ra_cons (r_tup (ra_cons r_int (ra_cons r_int ra_nil))) (ra_cons (r_tup (ra_cons r_int (ra_cons r_int ra_nil))) (ra_cons (r_tup (ra_cons r_int (ra_cons r_int ra_nil))) ra_nil)))) (r_var 4)))
    (r_seq (r_if (r_not (r_tru (r_own d_law_same hr tk (ra_cons (r_lst false (ra_cons (r_own d_sure_pairs hr tk (ra_cons (r_var 2) (ra_cons (r_var 1) ra_nil))) (ra_cons (r_own d_possible_pairs hr tk (ra_cons (r_var 2) (ra_cons (r_var 1) ra_nil))) ra_nil))) (ra_cons (r_lst false (ra_cons (r_var 5) (ra_cons (r_var 5) ra_nil))) ra_nil)))))
      (r_last (r_ret r_bl))
      r_nil)
    (r_seq (r_set sc.nd (r_lst true (ra_cons (r_own d_possible_pairs hr tk (ra_cons r_int (ra_cons (r_tup ra_nil) ra_nil))) (ra_cons (r_own d_neighbour_mean hr tk (ra_cons r_int (ra_cons (r_tup ra_nil) ra_nil))) (ra_cons (r_own d_neighbour_mean hr tk (ra_cons r_int (ra_cons (r_tup ra_nil) ra_nil))) (ra_cons (r_own d_neighbour_mean hr tk (ra_cons r_int (ra_cons (r_tup ra_nil) ra_nil))) ra_nil))))))
    (r_seq (r_expr (r_lm PySem.F.slot_list_append PySem.F.type_list_append m_append (r_var 3) (ra_cons (r_own d_neighbour_mean hr tk (ra_cons r_int (ra_cons (r_tup ra_nil) ra_nil))) ra_nil)))
    (r_freeze 3 (r_last (r_ret (r_own d_law_same hr tk (ra_cons (r_var 3) (ra_cons (r_lst false (ra_cons (r_lst false (ra_cons (r_tup (ra_cons r_int (ra_cons r_int ra_nil))) (ra_cons (r_tup (ra_cons r_int (ra_cons r_int ra_nil))) (ra_cons (r_tup (ra_cons r_int (ra_cons r_int ra_nil))) (ra_cons (r_tup (ra_cons r_int (ra_cons r_int ra_nil))) ra_nil))))) (ra_cons (r_tup (ra_cons r_int (ra_cons r_int ra_nil))) (ra_cons (r_tup (ra_cons r_int (ra_cons r_int ra_nil))) (ra_cons (r_tup (ra_cons r_int (ra_cons r_int ra_nil))) (ra_cons (r_tup (ra_cons r_int (ra_cons r_int ra_nil))) ra_nil)))))) ra_nil))))))))))))))))
abbrev s_law_small_right : Stmt := top 67
theorem sc_law_small_right : FnScope n_law_small_right [] (defScope s_law_small_right) := ⟨rfl, rfl, rfl, by decide +kernel, rfl, by decide +kernel, by decide +kernel⟩
theorem ok_law_small_right {f : Addr} {fd : FuncData} (F : Fun K "_law_small_right" "_law_small_right" s_law_small_right f fd) (T : Txt mg) {f_law_same : Addr} {fd_law_same : FuncData} (d_law_same : Df P w K mg base 5 "_law_same" ["_law_found", "_law_due"] f_law_same fd_law_same m_law_same) {f_spheres : Addr} {fd_spheres : FuncData} (d_spheres : Df P w K mg base 8 "spheres" ["arrangement"] f_spheres fd_spheres m_spheres) {f_farthest : Addr} {fd_farthest : FuncData} (d_farthest : Df P w K mg base 8 "farthest" ["arrangement"] f_farthest fd_farthest m_farthest) {f_ways_many : Addr} {fd_ways_many : FuncData} (d_ways_many : Df P w K mg base 8 "ways_many" ["one", "other"] f_ways_many fd_ways_many m_ways_many) : FnOk P w K mg base (L2.CX P w) 9 f fd [] (spM ⟨K, w⟩ mg m_law_small_right) :=
  fn_ok (k := 8) F sc_law_small_right fun cdv A outer s H E hr => by
    have tk : Takes (cxOf (L2.CX P w) P w K mg base n_law_small_right "_law_small_right" (defScope s_law_small_right) f cdv A outer s H E) (fun cls d _ H => E cls d H) := takes_of rfl rfl rfl rfl
    have sc := sc_law_small_right
    exact (r_seq (r_asgT (r_tup (ra_cons (r_tup (ra_cons r_int (ra_cons r_int (ra_cons r_int (ra_cons r_int (ra_cons r_int (ra_cons r_int ra_nil))))))) (ra_cons (r_tup (ra_cons r_int (ra_cons r_int (ra_cons r_int (ra_cons r_int (ra_cons r_int (ra_cons r_int ra_nil))))))) (ra_cons (r_tup (ra_cons r_int (ra_cons r_int (ra_cons r_int (ra_cons r_int (ra_cons r_int (ra_cons r_int ra_nil))))))) ra_nil)))) (q_tup rfl (qs_cons (q_name sc.nd) (qs_cons (q_name sc.nd) (qs_cons (q_name sc.nd) qs_nil)))))
    (r_seq (r_set sc.nd (r_lst false (ra_cons (r_own d_spheres hr tk (ra_cons (r_var 0) ra_nil)) (ra_cons (r_own d_spheres hr tk (ra_cons (r_var 1) ra_nil)) (ra_cons (r_own d_spheres hr tk (ra_cons (r_tup ra_nil) ra_nil)) (ra_cons (r_own d_spheres hr tk (ra_cons (r_tup (ra_cons r_int (ra_cons r_int ra_nil))) ra_nil)) (ra_cons (r_own d_spheres hr tk (ra_cons (r_tup (ra_cons r_int (ra_cons r_int (ra_cons r_int (ra_cons r_int ra_nil))))) ra_nil)) ra_nil)))))))
    (r_seq (r_if (r_not (r_tru (r_own d_law_same hr tk (ra_cons (r_var 3) (ra_cons (r_lst false (ra_cons (r_lst false (ra_cons r_int (ra_cons r_int (ra_cons r_int ra_nil)))) (ra_cons (r_lst false (ra_cons r_int (ra_cons r_int (ra_cons r_int ra_nil)))) (ra_cons (r_lst false (ra_cons r_int ra_nil)) (ra_cons (r_lst false (ra_cons r_int ra_nil)) (ra_cons (r_lst false (ra_cons r_int (ra_cons r_int ra_nil))) ra_nil)))))) ra_nil)))))
      (r_last (r_ret r_bl))
      r_nil)
    (r_seq (r_set sc.nd (r_lst false (ra_cons (r_own d_farthest hr tk (ra_cons (r_var 0) ra_nil)) (ra_cons (r_own d_farthest hr tk (ra_cons (r_var 1) ra_nil)) (ra_cons (r_own d_farthest hr tk (ra_cons (r_tup ra_nil) ra_nil)) (ra_cons (r_own d_ways_many hr tk (ra_cons (r_var 0) (ra_cons (r_var 2) ra_nil))) (ra_cons (r_own d_ways_many hr tk (ra_cons (r_var 0) (ra_cons (r_var 1) ra_nil))) ra_nil)))))))
    (r_seq (r_set sc.nd (r_op (p_add false) (r_var 3) (r_lst false (ra_cons (r_own d_ways_many hr tk (ra_cons (r_tup ra_nil) (ra_cons (r_tup ra_nil) ra_nil))) ra_nil))))
    (r_last (r_ret (r_own d_law_same hr tk (ra_cons (r_var 3) (ra_cons (r_lst false (ra_cons (r_lst false (ra_cons (r_var 2) ra_nil)) (ra_cons (r_lst false (ra_cons (r_tup (ra_cons r_int (ra_cons r_int (ra_cons r_int (ra_cons r_int (ra_cons r_int (ra_cons r_int ra_nil))))))) (ra_cons (r_tup (ra_cons r_int (ra_cons r_int (ra_cons r_int (ra_cons r_int (ra_cons r_int (ra_cons r_int ra_nil))))))) ra_nil))) (ra_cons (r_lst false (ra_cons (r_tup ra_nil) ra_nil)) (ra_cons r_int (ra_cons r_int (ra_cons r_int ra_nil))))))) ra_nil))))))))))
abbrev s_law_right : Stmt := top 68
theorem sc_law_right : FnScope n_law_right ["_law_box_here"] (defScope s_law_right) := ⟨rfl, rfl, rfl, by decide +kernel, rfl, by decide +kernel, by decide +kernel⟩
theorem ok_law_right {f : Addr} {fd : FuncData} (F : Fun K "_law_right" "_law_right" s_law_right f fd) (T : Txt mg) {f_law_take : Addr} {fd_law_take : FuncData} (d_law_take : Df P w K mg base 4 "_law_take" ["_law_box_here", "_law_below"] f_law_take fd_law_take m_law_take) {f_law_chances_right : Addr} {fd_law_chances_right : FuncData} (d_law_chances_right : Df P w K mg base 9 "_law_chances_right" ["_law_extra"] f_law_chances_right fd_law_chances_right m_law_chances_right) {f_law_small_right : Addr} {fd_law_small_right : FuncData} (d_law_small_right : Df P w K mg base 9 "_law_small_right" [] f_law_small_right fd_law_small_right m_law_small_right) {f_law_counts_right : Addr} {fd_law_counts_right : FuncData} (d_law_counts_right : Df P w K mg base 6 "_law_counts_right" ["_law_extra"] f_law_counts_right fd_law_counts_right m_law_counts_right) {f_law_numbers_right : Addr} {fd_law_numbers_right : FuncData} (d_law_numbers_right : Df P w K mg base 8 "_law_numbers_right" ["_law_extra"] f_law_numbers_right fd_law_numbers_right m_law_numbers_right) : FnOk P w K mg base (L2.CX P w) 10 f fd ["_law_box_here"] (spM ⟨K, w⟩ mg m_law_right) :=
  fn_ok (k := 9) F sc_law_right fun cdv A outer s H E hr => by
    have tk : Takes (cxOf (L2.CX P w) P w K mg base n_law_right "_law_right" (defScope s_law_right) f cdv A outer s H E) (fun cls d _ H => E cls d H) := takes_of rfl rfl rfl rfl
    have sc := sc_law_right
    exact (r_seq (r_set sc.nd (r_own d_law_take hr tk (ra_cons (r_var 0) (ra_cons r_int ra_nil))))
    (r_seq (r_if (r_bool (r_or (r_not (r_tru (r_own d_law_counts_right hr tk (ra_cons (r_var 1) ra_nil)))) (r_or1 (r_not (r_tru (r_own d_law_numbers_right hr tk (ra_cons (r_var 1) ra_nil)))))))
      (r_last (r_ret r_bl))
      r_nil)
    (r_last (r_ret (r_andV (r_own d_law_chances_right hr tk (ra_cons (r_var 1) ra_nil)) (r_one (r_own0 d_law_small_right hr tk)))))))
abbrev s_law : Stmt := top 69
theorem sc_law : FnScope n_law ["_law_script"] (defScope s_law) := ⟨rfl, rfl, rfl, by decide +kernel, rfl, by decide +kernel, by decide +kernel⟩
theorem ok_law {f : Addr} {fd : FuncData} (F : Fun K "law" "law" s_law f fd) (T : Txt mg) {f_law_right : Addr} {fd_law_right : FuncData} (d_law_right : Df P w K mg base 10 "_law_right" ["_law_box_here"] f_law_right fd_law_right m_law_right) {f_law_box : Addr} {fd_law_box : FuncData} (d_law_box : Df P w K mg base 2 "_law_box" ["_law_script", "_law_k"] f_law_box fd_law_box m_law_box) : FnOk P w K mg base (L2.CX P w) 11 f fd ["_law_script"] (spM ⟨K, w⟩ mg m_law) :=
  fn_ok (k := 10) F sc_law fun cdv A outer s H E hr => by
    have tk : Takes (cxOf (L2.CX P w) P w K mg base n_law "law" (defScope s_law) f cdv A outer s H E) (fun cls d _ H => E cls d H) := takes_of rfl rfl rfl rfl
    have sc := sc_law
    exact (r_last (r_ret (r_callB (c_all rfl) T.n_all (by decide +kernel) (ra_cons (r_lc sc.nd rfl (ri_range1 T.n_range (ra_cons (r_op (p_add false) r_int (r_callB (c_min2 rfl) T.n_min (by decide +kernel) (ra_cons r_int (ra_cons (r_callB c_len T.n_len (by decide +kernel) (ra_cons (r_var 0) ra_nil)) ra_nil)))) ra_nil)) (blkOk_by (own := [("_law_k", 1)]) (N := n_law) (sc := defScope s_law) (by decide +kernel)) ⟨fun _ _ _ _ _ => (g_nm sc.nd), fun _ _ _ _ _ => rts_nil, fun _ _ _ _ _ => (r_own d_law_right hr takes0 (ra_cons (r_own d_law_box hr takes0 (ra_cons (r_var 0) (ra_cons (r_var 1) ra_nil))) ra_nil))⟩ (by decide)) ra_nil))))
end
end Mini
namespace Mini
open PySem PySem.Spec PyProof.Rows L2
theorem walk_ex {l : PySem.W.OpenLaw} {n k : Nat} {q : Program} {loose : List Str} {XP : (Str → Option Value) → Heap → Prop} {YP : World → Heap → Prop} {d : DefRec} {CX : World → CXT} {x : Str}
    (hn : l.most = some n) (hn2 : n ≤ sizeLine) (hdf : d.params.defaults = []) (hr : Room k callerA)
    (F : ∀ (w : World) (mg : Str → Option Value) (fa : Addr) (h : Heap), YP w h → h.Ns mainGlobals mg → mg d.name = some (.ref fa) →
      ∃ (K : PySem.W.Frag) (sp : Sp) (fd : FuncData), K.In h ∧ (∀ (s : Shared) (u : Value), BindsTo s fd ⟨[u], []⟩ [(x, u)]) ∧
        (∀ base : Heap, K.In base → base.Ns mainGlobals mg → FnOk l.prog w K mg base (CX w) k fa fd [x] sp) ∧
        ∀ (H : Hp) (a : Addr) (ns : List Int), ns.length ≤ n → Only H → SqL K H a (ns.map V.int) → sp [.ref a] H (fun v _ => v = .bl true) fun _ _ _ => False)
    (hCX : ∀ (w : World) (H : Hp) (s : Shared) (e : Value) (s' : Shared), CX w [] H s (fun _ _ _ => False) e s' → False) :
    PySem.W.WalkO q loose XP YP l.row.toRowW d [] (fun f vs => PySem.call f vs) := by
  refine Att.attach_call hn hdf fun w s₀ s₁ mg mb fa o pm cd doc a vs ns G Y ho hd hcd hmg hobj hints hlen hg => ?_
  obtain ⟨K, sp, fd, KX, hb, hF, hsp⟩ := F w mg fa _ Y G.T.g hmg
  have rv := vals_ints hints
  have lv : ns.length = vs.length := by have := rv.length; simpa using this
  have run := fun {H : Hp} (hO : Only H) (hS : SqL K H a (ns.map V.int)) => call_at (H := H) KX G.T.g G.T.b G.T.builtins G.T.nolimit hg hobj hr hF hb hO (hsp H a ns hlen hO hS) (hCX w H s₁)
  have few : ns.length ≤ sizeLine := Nat.le_trans hlen hn2
  cases hk : K.lookup a with
  | some ob =>
    have e := KX a ob hk
    rw [hobj] at e
    cases e
    exact run (H := fun _ => none) (fun _ => .inl rfl) (.inr ⟨_, vs.toArray, _, hk, rfl, rfl, rfl, by rw [List.size_toArray, ← lv]; exact few, by simpa using rv⟩) (fun b u z => nomatch z) (fun b z => absurd rfl z) fun z => absurd rfl z
  | none =>
    have at' : ∀ {b : Addr}, (if b = a then some (HO.frz { cls := .type "list", data := .seq vs.toArray } (.lst (ns.map V.int))) else none) ≠ none → b = a := fun {b} h => by
      by_cases e : b = a
      · exact e
      · exact absurd (if_neg e) h
    refine run (H := fun b => if b = a then some (.frz { cls := .type "list", data := .seq vs.toArray } (.lst (ns.map V.int))) else none) (fun b => ?_) (.inl (.inr ⟨{ cls := .type "list", data := .seq vs.toArray }, if_pos rfl⟩)) (fun b u z => ?_) (fun b z => at' z) fun _ => hk
    · by_cases e : b = a
      · exact .inr ⟨_, _, if_pos e⟩
      · exact .inl (if_neg e)
    · have e : b = a := at' (fun y => by have y' := (show _ = some u from z).symm.trans y; cases y')
      have z' := (if_pos e).symm.trans z
      cases z'
      subst e
      exact ⟨hobj, by rw [List.length_map]; exact few, vs, _, rv, hobj⟩
end Mini
namespace Mini
open PySem PySem.Spec PyProof.Rows L2
theorem all_mk {l : PySem.W.OpenLaw} {w : World} {K : PySem.W.Frag} {h : Heap} {mg : Str → Option Value} {fa f0 f1 f2 f3 f4 f5 f6 f7 f8 f9 f10 f11 f12 f13 f14 f15 f16 f17 f18 f19 f20 f21 f22 f23 f24 f25 f26 f27 f28 f29 f30 f31 f32 f33 f34 f35 f36 f37 f38 f39 f40 f41 f42 f43 f44 f45 f46 f47 f48 f49 f50 f51 f52 f53 f54 : Addr} (X : K.In h) (G : h.Ns mainGlobals mg) (hfa : mg "law" = some (.ref fa))
    {od0 an0 od1 an1 od2 an2 od3 an3 od4 an4 od5 an5 od6 an6 od7 an7 od8 an8 od9 an9 od10 an10 od11 an11 od12 an12 od13 an13 od14 an14 od15 an15 od16 an16 od17 an17 od18 an18 od19 an19 od20 an20 od21 an21 od22 an22 od23 an23 od24 an24 od25 an25 od26 an26 od27 an27 od28 an28 od29 an29 od30 an30 od31 an31 od32 an32 od33 an33 od34 an34 od35 an35 od36 an36 od37 an37 od38 an38 od39 an39 od40 an40 od41 an41 od42 an42 od43 an43 od44 an44 od45 an45 od46 an46 od47 an47 od48 an48 od49 an49 od50 an50 od51 an51 od52 an52 od53 an53 od54 an54 : Option Addr} {sl0 sl1 sl2 sl3 sl4 sl5 sl6 sl7 sl8 sl9 sl10 sl11 sl12 sl13 sl14 sl15 sl16 sl17 sl18 sl19 sl20 sl21 sl22 sl23 sl24 sl25 sl26 sl27 sl28 sl29 sl30 sl31 sl32 sl33 sl34 sl35 sl36 sl37 sl38 sl39 sl40 sl41 sl42 sl43 sl44 sl45 sl46 sl47 sl48 sl49 sl50 sl51 sl52 sl53 sl54 : Array (Option Value)} {oc0 kV0 dc0 pm0 cd0 ct0 oc1 kV1 dc1 pm1 cd1 ct1 oc2 kV2 dc2 pm2 cd2 ct2 oc3 kV3 dc3 pm3 cd3 ct3 oc4 kV4 dc4 pm4 cd4 ct4 oc5 kV5 dc5 pm5 cd5 ct5 oc6 kV6 dc6 pm6 cd6 ct6 oc7 kV7 dc7 pm7 cd7 ct7 oc8 kV8 dc8 pm8 cd8 ct8 oc9 kV9 dc9 pm9 cd9 ct9 oc10 kV10 dc10 pm10 cd10 ct10 oc11 kV11 dc11 pm11 cd11 ct11 oc12 kV12 dc12 pm12 cd12 ct12 oc13 kV13 dc13 pm13 cd13 ct13 oc14 kV14 dc14 pm14 cd14 ct14 oc15 kV15 dc15 pm15 cd15 ct15 oc16 kV16 dc16 pm16 cd16 ct16 oc17 kV17 dc17 pm17 cd17 ct17 oc18 kV18 dc18 pm18 cd18 ct18 oc19 kV19 dc19 pm19 cd19 ct19 oc20 kV20 dc20 pm20 cd20 ct20 oc21 kV21 dc21 pm21 cd21 ct21 oc22 kV22 dc22 pm22 cd22 ct22 oc23 kV23 dc23 pm23 cd23 ct23 oc24 kV24 dc24 pm24 cd24 ct24 oc25 kV25 dc25 pm25 cd25 ct25 oc26 kV26 dc26 pm26 cd26 ct26 oc27 kV27 dc27 pm27 cd27 ct27 oc28 kV28 dc28 pm28 cd28 ct28 oc29 kV29 dc29 pm29 cd29 ct29 oc30 kV30 dc30 pm30 cd30 ct30 oc31 kV31 dc31 pm31 cd31 ct31 oc32 kV32 dc32 pm32 cd32 ct32 oc33 kV33 dc33 pm33 cd33 ct33 oc34 kV34 dc34 pm34 cd34 ct34 oc35 kV35 dc35 pm35 cd35 ct35 oc36 kV36 dc36 pm36 cd36 ct36 oc37 kV37 dc37 pm37 cd37 ct37 oc38 kV38 dc38 pm38 cd38 ct38 oc39 kV39 dc39 pm39 cd39 ct39 oc40 kV40 dc40 pm40 cd40 ct40 oc41 kV41 dc41 pm41 cd41 ct41 oc42 kV42 dc42 pm42 cd42 ct42 oc43 kV43 dc43 pm43 cd43 ct43 oc44 kV44 dc44 pm44 cd44 ct44 oc45 kV45 dc45 pm45 cd45 ct45 oc46 kV46 dc46 pm46 cd46 ct46 oc47 kV47 dc47 pm47 cd47 ct47 oc48 kV48 dc48 pm48 cd48 ct48 oc49 kV49 dc49 pm49 cd49 ct49 oc50 kV50 dc50 pm50 cd50 ct50 oc51 kV51 dc51 pm51 cd51 ct51 oc52 kV52 dc52 pm52 cd52 ct52 oc53 kV53 dc53 pm53 cd53 ct53 oc54 kV54 dc54 pm54 cd54 ct54 : Value}
    (a0 : PySem.W.nsIn K mainGlobals "is_number" = some (some (.ref f0))) (l0 : K.lookup f0 = some ⟨oc0, od0, .func (PySem.W.fnOf "is_number" "is_number" (defArgs s_is_number) (defBody s_is_number) (defScope s_is_number) .none kV0 dc0 pm0 an0 cd0 ct0), sl0⟩) (c0 : PySem.W.codeIn K cd0 "is_number" = true) (k0 : PySem.W.keepIn K (.ref f0) = true)
    (a1 : PySem.W.nsIn K mainGlobals "cross" = some (some (.ref f1))) (l1 : K.lookup f1 = some ⟨oc1, od1, .func (PySem.W.fnOf "cross" "cross" (defArgs s_cross) (defBody s_cross) (defScope s_cross) .none kV1 dc1 pm1 an1 cd1 ct1), sl1⟩) (c1 : PySem.W.codeIn K cd1 "cross" = true) (k1 : PySem.W.keepIn K (.ref f1) = true)
    (a2 : PySem.W.nsIn K mainGlobals "are_crossed" = some (some (.ref f2))) (l2 : K.lookup f2 = some ⟨oc2, od2, .func (PySem.W.fnOf "are_crossed" "are_crossed" (defArgs s_are_crossed) (defBody s_are_crossed) (defScope s_are_crossed) .none kV2 dc2 pm2 an2 cd2 ct2), sl2⟩) (c2 : PySem.W.codeIn K cd2 "are_crossed" = true) (k2 : PySem.W.keepIn K (.ref f2) = true)
    (a3 : PySem.W.nsIn K mainGlobals "arms" = some (some (.ref f3))) (l3 : K.lookup f3 = some ⟨oc3, od3, .func (PySem.W.fnOf "arms" "arms" (defArgs s_arms) (defBody s_arms) (defScope s_arms) .none kV3 dc3 pm3 an3 cd3 ct3), sl3⟩) (c3 : PySem.W.codeIn K cd3 "arms" = true) (k3 : PySem.W.keepIn K (.ref f3) = true)
    (a4 : PySem.W.nsIn K mainGlobals "is_paired" = some (some (.ref f4))) (l4 : K.lookup f4 = some ⟨oc4, od4, .func (PySem.W.fnOf "is_paired" "is_paired" (defArgs s_is_paired) (defBody s_is_paired) (defScope s_is_paired) .none kV4 dc4 pm4 an4 cd4 ct4), sl4⟩) (c4 : PySem.W.codeIn K cd4 "is_paired" = true) (k4 : PySem.W.keepIn K (.ref f4) = true)
    (a5 : PySem.W.nsIn K mainGlobals "is_arrangement" = some (some (.ref f5))) (l5 : K.lookup f5 = some ⟨oc5, od5, .func (PySem.W.fnOf "is_arrangement" "is_arrangement" (defArgs s_is_arrangement) (defBody s_is_arrangement) (defScope s_is_arrangement) .none kV5 dc5 pm5 an5 cd5 ct5), sl5⟩) (c5 : PySem.W.codeIn K cd5 "is_arrangement" = true) (k5 : PySem.W.keepIn K (.ref f5) = true)
    (a6 : PySem.W.nsIn K mainGlobals "look_same" = some (some (.ref f6))) (l6 : K.lookup f6 = some ⟨oc6, od6, .func (PySem.W.fnOf "look_same" "look_same" (defArgs s_look_same) (defBody s_look_same) (defScope s_look_same) .none kV6 dc6 pm6 an6 cd6 ct6), sl6⟩) (c6 : PySem.W.codeIn K cd6 "look_same" = true) (k6 : PySem.W.keepIn K (.ref f6) = true)
    (a7 : PySem.W.nsIn K mainGlobals "fits" = some (some (.ref f7))) (l7 : K.lookup f7 = some ⟨oc7, od7, .func (PySem.W.fnOf "fits" "fits" (defArgs s_fits) (defBody s_fits) (defScope s_fits) .none kV7 dc7 pm7 an7 cd7 ct7), sl7⟩) (c7 : PySem.W.codeIn K cd7 "fits" = true) (k7 : PySem.W.keepIn K (.ref f7) = true)
    (a8 : PySem.W.nsIn K mainGlobals "crossing" = some (some (.ref f8))) (l8 : K.lookup f8 = some ⟨oc8, od8, .func (PySem.W.fnOf "crossing" "crossing" (defArgs s_crossing) (defBody s_crossing) (defScope s_crossing) .none kV8 dc8 pm8 an8 cd8 ct8), sl8⟩) (c8 : PySem.W.codeIn K cd8 "crossing" = true) (k8 : PySem.W.keepIn K (.ref f8) = true)
    (a9 : PySem.W.nsIn K mainGlobals "home" = some (some (.ref f9))) (l9 : K.lookup f9 = some ⟨oc9, od9, .func (PySem.W.fnOf "home" "home" (defArgs s_home) (defBody s_home) (defScope s_home) .none kV9 dc9 pm9 an9 cd9 ct9), sl9⟩) (c9 : PySem.W.codeIn K cd9 "home" = true) (k9 : PySem.W.keepIn K (.ref f9) = true)
    (a10 : PySem.W.nsIn K mainGlobals "free_groups" = some (some (.ref f10))) (l10 : K.lookup f10 = some ⟨oc10, od10, .func (PySem.W.fnOf "free_groups" "free_groups" (defArgs s_free_groups) (defBody s_free_groups) (defScope s_free_groups) .none kV10 dc10 pm10 an10 cd10 ct10), sl10⟩) (c10 : PySem.W.codeIn K cd10 "free_groups" = true) (k10 : PySem.W.keepIn K (.ref f10) = true)
    (a11 : PySem.W.nsIn K mainGlobals "evidence" = some (some (.ref f11))) (l11 : K.lookup f11 = some ⟨oc11, od11, .func (PySem.W.fnOf "evidence" "evidence" (defArgs s_evidence) (defBody s_evidence) (defScope s_evidence) .none kV11 dc11 pm11 an11 cd11 ct11), sl11⟩) (c11 : PySem.W.codeIn K cd11 "evidence" = true) (k11 : PySem.W.keepIn K (.ref f11) = true)
    (a12 : PySem.W.nsIn K mainGlobals "regions" = some (some (.ref f12))) (l12 : K.lookup f12 = some ⟨oc12, od12, .func (PySem.W.fnOf "regions" "regions" (defArgs s_regions) (defBody s_regions) (defScope s_regions) .none kV12 dc12 pm12 an12 cd12 ct12), sl12⟩) (c12 : PySem.W.codeIn K cd12 "regions" = true) (k12 : PySem.W.keepIn K (.ref f12) = true)
    (a13 : PySem.W.nsIn K mainGlobals "catalan" = some (some (.ref f13))) (l13 : K.lookup f13 = some ⟨oc13, od13, .func (PySem.W.fnOf "catalan" "catalan" (defArgs s_catalan) (defBody s_catalan) (defScope s_catalan) .none kV13 dc13 pm13 an13 cd13 ct13), sl13⟩) (c13 : PySem.W.codeIn K cd13 "catalan" = true) (k13 : PySem.W.keepIn K (.ref f13) = true)
    (a14 : PySem.W.nsIn K mainGlobals "many" = some (some (.ref f14))) (l14 : K.lookup f14 = some ⟨oc14, od14, .func (PySem.W.fnOf "many" "many" (defArgs s_many) (defBody s_many) (defScope s_many) .none kV14 dc14 pm14 an14 cd14 ct14), sl14⟩) (c14 : PySem.W.codeIn K cd14 "many" = true) (k14 : PySem.W.keepIn K (.ref f14) = true)
    (a15 : PySem.W.nsIn K mainGlobals "with_pair" = some (some (.ref f15))) (l15 : K.lookup f15 = some ⟨oc15, od15, .func (PySem.W.fnOf "with_pair" "with_pair" (defArgs s_with_pair) (defBody s_with_pair) (defScope s_with_pair) .none kV15 dc15 pm15 an15 cd15 ct15), sl15⟩) (c15 : PySem.W.codeIn K cd15 "with_pair" = true) (k15 : PySem.W.keepIn K (.ref f15) = true)
    (a16 : PySem.W.nsIn K mainGlobals "busy_people" = some (some (.ref f16))) (l16 : K.lookup f16 = some ⟨oc16, od16, .func (PySem.W.fnOf "busy_people" "busy_people" (defArgs s_busy_people) (defBody s_busy_people) (defScope s_busy_people) .none kV16 dc16 pm16 an16 cd16 ct16), sl16⟩) (c16 : PySem.W.codeIn K cd16 "busy_people" = true) (k16 : PySem.W.keepIn K (.ref f16) = true)
    (a17 : PySem.W.nsIn K mainGlobals "choices" = some (some (.ref f17))) (l17 : K.lookup f17 = some ⟨oc17, od17, .func (PySem.W.fnOf "choices" "choices" (defArgs s_choices) (defBody s_choices) (defScope s_choices) .none kV17 dc17 pm17 an17 cd17 ct17), sl17⟩) (c17 : PySem.W.codeIn K cd17 "choices" = true) (k17 : PySem.W.keepIn K (.ref f17) = true)
    (a18 : PySem.W.nsIn K mainGlobals "arrangement_at" = some (some (.ref f18))) (l18 : K.lookup f18 = some ⟨oc18, od18, .func (PySem.W.fnOf "arrangement_at" "arrangement_at" (defArgs s_arrangement_at) (defBody s_arrangement_at) (defScope s_arrangement_at) .none kV18 dc18 pm18 an18 cd18 ct18), sl18⟩) (c18 : PySem.W.codeIn K cd18 "arrangement_at" = true) (k18 : PySem.W.keepIn K (.ref f18) = true)
    (a19 : PySem.W.nsIn K mainGlobals "number_of" = some (some (.ref f19))) (l19 : K.lookup f19 = some ⟨oc19, od19, .func (PySem.W.fnOf "number_of" "number_of" (defArgs s_number_of) (defBody s_number_of) (defScope s_number_of) .none kV19 dc19 pm19 an19 cd19 ct19), sl19⟩) (c19 : PySem.W.codeIn K cd19 "number_of" = true) (k19 : PySem.W.keepIn K (.ref f19) = true)
    (a20 : PySem.W.nsIn K mainGlobals "all_arrangements" = some (some (.ref f20))) (l20 : K.lookup f20 = some ⟨oc20, od20, .func (PySem.W.fnOf "all_arrangements" "all_arrangements" (defArgs s_all_arrangements) (defBody s_all_arrangements) (defScope s_all_arrangements) .none kV20 dc20 pm20 an20 cd20 ct20), sl20⟩) (c20 : PySem.W.codeIn K cd20 "all_arrangements" = true) (k20 : PySem.W.keepIn K (.ref f20) = true)
    (a21 : PySem.W.nsIn K mainGlobals "gcd" = some (some (.ref f21))) (l21 : K.lookup f21 = some ⟨oc21, od21, .func (PySem.W.fnOf "gcd" "gcd" (defArgs s_gcd) (defBody s_gcd) (defScope s_gcd) .none kV21 dc21 pm21 an21 cd21 ct21), sl21⟩) (c21 : PySem.W.codeIn K cd21 "gcd" = true) (k21 : PySem.W.keepIn K (.ref f21) = true)
    (a22 : PySem.W.nsIn K mainGlobals "reduced" = some (some (.ref f22))) (l22 : K.lookup f22 = some ⟨oc22, od22, .func (PySem.W.fnOf "reduced" "reduced" (defArgs s_reduced) (defBody s_reduced) (defScope s_reduced) .none kV22 dc22 pm22 an22 cd22 ct22), sl22⟩) (c22 : PySem.W.codeIn K cd22 "reduced" = true) (k22 : PySem.W.keepIn K (.ref f22) = true)
    (a23 : PySem.W.nsIn K mainGlobals "look_known" = some (some (.ref f23))) (l23 : K.lookup f23 = some ⟨oc23, od23, .func (PySem.W.fnOf "look_known" "look_known" (defArgs s_look_known) (defBody s_look_known) (defScope s_look_known) .none kV23 dc23 pm23 an23 cd23 ct23), sl23⟩) (c23 : PySem.W.codeIn K cd23 "look_known" = true) (k23 : PySem.W.keepIn K (.ref f23) = true)
    (a24 : PySem.W.nsIn K mainGlobals "look_person" = some (some (.ref f24))) (l24 : K.lookup f24 = some ⟨oc24, od24, .func (PySem.W.fnOf "look_person" "look_person" (defArgs s_look_person) (defBody s_look_person) (defScope s_look_person) .none kV24 dc24 pm24 an24 cd24 ct24), sl24⟩) (c24 : PySem.W.codeIn K cd24 "look_person" = true) (k24 : PySem.W.keepIn K (.ref f24) = true)
    (a25 : PySem.W.nsIn K mainGlobals "ways_with" = some (some (.ref f25))) (l25 : K.lookup f25 = some ⟨oc25, od25, .func (PySem.W.fnOf "ways_with" "ways_with" (defArgs s_ways_with) (defBody s_ways_with) (defScope s_ways_with) .none kV25 dc25 pm25 an25 cd25 ct25), sl25⟩) (c25 : PySem.W.codeIn K cd25 "ways_with" = true) (k25 : PySem.W.keepIn K (.ref f25) = true)
    (a26 : PySem.W.nsIn K mainGlobals "chance" = some (some (.ref f26))) (l26 : K.lookup f26 = some ⟨oc26, od26, .func (PySem.W.fnOf "chance" "chance" (defArgs s_chance) (defBody s_chance) (defScope s_chance) .none kV26 dc26 pm26 an26 cd26 ct26), sl26⟩) (c26 : PySem.W.codeIn K cd26 "chance" = true) (k26 : PySem.W.keepIn K (.ref f26) = true)
    (a27 : PySem.W.nsIn K mainGlobals "pair_chance" = some (some (.ref f27))) (l27 : K.lookup f27 = some ⟨oc27, od27, .func (PySem.W.fnOf "pair_chance" "pair_chance" (defArgs s_pair_chance) (defBody s_pair_chance) (defScope s_pair_chance) .none kV27 dc27 pm27 an27 cd27 ct27), sl27⟩) (c27 : PySem.W.codeIn K cd27 "pair_chance" = true) (k27 : PySem.W.keepIn K (.ref f27) = true)
    (a28 : PySem.W.nsIn K mainGlobals "partner_chances" = some (some (.ref f28))) (l28 : K.lookup f28 = some ⟨oc28, od28, .func (PySem.W.fnOf "partner_chances" "partner_chances" (defArgs s_partner_chances) (defBody s_partner_chances) (defScope s_partner_chances) .none kV28 dc28 pm28 an28 cd28 ct28), sl28⟩) (c28 : PySem.W.codeIn K cd28 "partner_chances" = true) (k28 : PySem.W.keepIn K (.ref f28) = true)
    (a29 : PySem.W.nsIn K mainGlobals "all_pairs" = some (some (.ref f29))) (l29 : K.lookup f29 = some ⟨oc29, od29, .func (PySem.W.fnOf "all_pairs" "all_pairs" (defArgs s_all_pairs) (defBody s_all_pairs) (defScope s_all_pairs) .none kV29 dc29 pm29 an29 cd29 ct29), sl29⟩) (c29 : PySem.W.codeIn K cd29 "all_pairs" = true) (k29 : PySem.W.keepIn K (.ref f29) = true)
    (a30 : PySem.W.nsIn K mainGlobals "sure_pairs" = some (some (.ref f30))) (l30 : K.lookup f30 = some ⟨oc30, od30, .func (PySem.W.fnOf "sure_pairs" "sure_pairs" (defArgs s_sure_pairs) (defBody s_sure_pairs) (defScope s_sure_pairs) .none kV30 dc30 pm30 an30 cd30 ct30), sl30⟩) (c30 : PySem.W.codeIn K cd30 "sure_pairs" = true) (k30 : PySem.W.keepIn K (.ref f30) = true)
    (a31 : PySem.W.nsIn K mainGlobals "possible_pairs" = some (some (.ref f31))) (l31 : K.lookup f31 = some ⟨oc31, od31, .func (PySem.W.fnOf "possible_pairs" "possible_pairs" (defArgs s_possible_pairs) (defBody s_possible_pairs) (defScope s_possible_pairs) .none kV31 dc31 pm31 an31 cd31 ct31), sl31⟩) (c31 : PySem.W.codeIn K cd31 "possible_pairs" = true) (k31 : PySem.W.keepIn K (.ref f31) = true)
    (a32 : PySem.W.nsIn K mainGlobals "neighbour_mean" = some (some (.ref f32))) (l32 : K.lookup f32 = some ⟨oc32, od32, .func (PySem.W.fnOf "neighbour_mean" "neighbour_mean" (defArgs s_neighbour_mean) (defBody s_neighbour_mean) (defScope s_neighbour_mean) .none kV32 dc32 pm32 an32 cd32 ct32), sl32⟩) (c32 : PySem.W.codeIn K cd32 "neighbour_mean" = true) (k32 : PySem.W.keepIn K (.ref f32) = true)
    (a33 : PySem.W.nsIn K mainGlobals "new_arms" = some (some (.ref f33))) (l33 : K.lookup f33 = some ⟨oc33, od33, .func (PySem.W.fnOf "new_arms" "new_arms" (defArgs s_new_arms) (defBody s_new_arms) (defScope s_new_arms) .none kV33 dc33 pm33 an33 cd33 ct33), sl33⟩) (c33 : PySem.W.codeIn K cd33 "new_arms" = true) (k33 : PySem.W.keepIn K (.ref f33) = true)
    (a34 : PySem.W.nsIn K mainGlobals "is_possible" = some (some (.ref f34))) (l34 : K.lookup f34 = some ⟨oc34, od34, .func (PySem.W.fnOf "is_possible" "is_possible" (defArgs s_is_possible) (defBody s_is_possible) (defScope s_is_possible) .none kV34 dc34 pm34 an34 cd34 ct34), sl34⟩) (c34 : PySem.W.codeIn K cd34 "is_possible" = true) (k34 : PySem.W.keepIn K (.ref f34) = true)
    (a35 : PySem.W.nsIn K mainGlobals "exchanges" = some (some (.ref f35))) (l35 : K.lookup f35 = some ⟨oc35, od35, .func (PySem.W.fnOf "exchanges" "exchanges" (defArgs s_exchanges) (defBody s_exchanges) (defScope s_exchanges) .none kV35 dc35 pm35 an35 cd35 ct35), sl35⟩) (c35 : PySem.W.codeIn K cd35 "exchanges" = true) (k35 : PySem.W.keepIn K (.ref f35) = true)
    (a36 : PySem.W.nsIn K mainGlobals "changed" = some (some (.ref f36))) (l36 : K.lookup f36 = some ⟨oc36, od36, .func (PySem.W.fnOf "changed" "changed" (defArgs s_changed) (defBody s_changed) (defScope s_changed) .none kV36 dc36 pm36 an36 cd36 ct36), sl36⟩) (c36 : PySem.W.codeIn K cd36 "changed" = true) (k36 : PySem.W.keepIn K (.ref f36) = true)
    (a37 : PySem.W.nsIn K mainGlobals "ring_of" = some (some (.ref f37))) (l37 : K.lookup f37 = some ⟨oc37, od37, .func (PySem.W.fnOf "ring_of" "ring_of" (defArgs s_ring_of) (defBody s_ring_of) (defScope s_ring_of) .none kV37 dc37 pm37 an37 cd37 ct37), sl37⟩) (c37 : PySem.W.codeIn K cd37 "ring_of" = true) (k37 : PySem.W.keepIn K (.ref f37) = true)
    (a38 : PySem.W.nsIn K mainGlobals "rings" = some (some (.ref f38))) (l38 : K.lookup f38 = some ⟨oc38, od38, .func (PySem.W.fnOf "rings" "rings" (defArgs s_rings) (defBody s_rings) (defScope s_rings) .none kV38 dc38 pm38 an38 cd38 ct38), sl38⟩) (c38 : PySem.W.codeIn K cd38 "rings" = true) (k38 : PySem.W.keepIn K (.ref f38) = true)
    (a39 : PySem.W.nsIn K mainGlobals "distance" = some (some (.ref f39))) (l39 : K.lookup f39 = some ⟨oc39, od39, .func (PySem.W.fnOf "distance" "distance" (defArgs s_distance) (defBody s_distance) (defScope s_distance) .none kV39 dc39 pm39 an39 cd39 ct39), sl39⟩) (c39 : PySem.W.codeIn K cd39 "distance" = true) (k39 : PySem.W.keepIn K (.ref f39) = true)
    (a40 : PySem.W.nsIn K mainGlobals "nearer" = some (some (.ref f40))) (l40 : K.lookup f40 = some ⟨oc40, od40, .func (PySem.W.fnOf "nearer" "nearer" (defArgs s_nearer) (defBody s_nearer) (defScope s_nearer) .none kV40 dc40 pm40 an40 cd40 ct40), sl40⟩) (c40 : PySem.W.codeIn K cd40 "nearer" = true) (k40 : PySem.W.keepIn K (.ref f40) = true)
    (a41 : PySem.W.nsIn K mainGlobals "spheres" = some (some (.ref f41))) (l41 : K.lookup f41 = some ⟨oc41, od41, .func (PySem.W.fnOf "spheres" "spheres" (defArgs s_spheres) (defBody s_spheres) (defScope s_spheres) .none kV41 dc41 pm41 an41 cd41 ct41), sl41⟩) (c41 : PySem.W.codeIn K cd41 "spheres" = true) (k41 : PySem.W.keepIn K (.ref f41) = true)
    (a42 : PySem.W.nsIn K mainGlobals "farthest" = some (some (.ref f42))) (l42 : K.lookup f42 = some ⟨oc42, od42, .func (PySem.W.fnOf "farthest" "farthest" (defArgs s_farthest) (defBody s_farthest) (defScope s_farthest) .none kV42 dc42 pm42 an42 cd42 ct42), sl42⟩) (c42 : PySem.W.codeIn K cd42 "farthest" = true) (k42 : PySem.W.keepIn K (.ref f42) = true)
    (a43 : PySem.W.nsIn K mainGlobals "ways_many" = some (some (.ref f43))) (l43 : K.lookup f43 = some ⟨oc43, od43, .func (PySem.W.fnOf "ways_many" "ways_many" (defArgs s_ways_many) (defBody s_ways_many) (defScope s_ways_many) .none kV43 dc43 pm43 an43 cd43 ct43), sl43⟩) (c43 : PySem.W.codeIn K cd43 "ways_many" = true) (k43 : PySem.W.keepIn K (.ref f43) = true)
    (a44 : PySem.W.nsIn K mainGlobals "_law_cell_at" = some (some (.ref f44))) (l44 : K.lookup f44 = some ⟨oc44, od44, .func (PySem.W.fnOf "_law_cell_at" "_law_cell_at" (defArgs s_law_cell_at) (defBody s_law_cell_at) (defScope s_law_cell_at) .none kV44 dc44 pm44 an44 cd44 ct44), sl44⟩) (c44 : PySem.W.codeIn K cd44 "_law_cell_at" = true) (k44 : PySem.W.keepIn K (.ref f44) = true)
    (a45 : PySem.W.nsIn K mainGlobals "_law_box" = some (some (.ref f45))) (l45 : K.lookup f45 = some ⟨oc45, od45, .func (PySem.W.fnOf "_law_box" "_law_box" (defArgs s_law_box) (defBody s_law_box) (defScope s_law_box) .none kV45 dc45 pm45 an45 cd45 ct45), sl45⟩) (c45 : PySem.W.codeIn K cd45 "_law_box" = true) (k45 : PySem.W.keepIn K (.ref f45) = true)
    (a46 : PySem.W.nsIn K mainGlobals "_law_take" = some (some (.ref f46))) (l46 : K.lookup f46 = some ⟨oc46, od46, .func (PySem.W.fnOf "_law_take" "_law_take" (defArgs s_law_take) (defBody s_law_take) (defScope s_law_take) .none kV46 dc46 pm46 an46 cd46 ct46), sl46⟩) (c46 : PySem.W.codeIn K cd46 "_law_take" = true) (k46 : PySem.W.keepIn K (.ref f46) = true)
    (a47 : PySem.W.nsIn K mainGlobals "_law_same" = some (some (.ref f47))) (l47 : K.lookup f47 = some ⟨oc47, od47, .func (PySem.W.fnOf "_law_same" "_law_same" (defArgs s_law_same) (defBody s_law_same) (defScope s_law_same) .none kV47 dc47 pm47 an47 cd47 ct47), sl47⟩) (c47 : PySem.W.codeIn K cd47 "_law_same" = true) (k47 : PySem.W.keepIn K (.ref f47) = true)
    (a48 : PySem.W.nsIn K mainGlobals "_law_more" = some (some (.ref f48))) (l48 : K.lookup f48 = some ⟨oc48, od48, .func (PySem.W.fnOf "_law_more" "_law_more" (defArgs s_law_more) (defBody s_law_more) (defScope s_law_more) .none kV48 dc48 pm48 an48 cd48 ct48), sl48⟩) (c48 : PySem.W.codeIn K cd48 "_law_more" = true) (k48 : PySem.W.keepIn K (.ref f48) = true)
    (a49 : PySem.W.nsIn K mainGlobals "_law_counts_right" = some (some (.ref f49))) (l49 : K.lookup f49 = some ⟨oc49, od49, .func (PySem.W.fnOf "_law_counts_right" "_law_counts_right" (defArgs s_law_counts_right) (defBody s_law_counts_right) (defScope s_law_counts_right) .none kV49 dc49 pm49 an49 cd49 ct49), sl49⟩) (c49 : PySem.W.codeIn K cd49 "_law_counts_right" = true) (k49 : PySem.W.keepIn K (.ref f49) = true)
    (a50 : PySem.W.nsIn K mainGlobals "_law_numbers_right" = some (some (.ref f50))) (l50 : K.lookup f50 = some ⟨oc50, od50, .func (PySem.W.fnOf "_law_numbers_right" "_law_numbers_right" (defArgs s_law_numbers_right) (defBody s_law_numbers_right) (defScope s_law_numbers_right) .none kV50 dc50 pm50 an50 cd50 ct50), sl50⟩) (c50 : PySem.W.codeIn K cd50 "_law_numbers_right" = true) (k50 : PySem.W.keepIn K (.ref f50) = true)
    (a51 : PySem.W.nsIn K mainGlobals "_law_chances_right" = some (some (.ref f51))) (l51 : K.lookup f51 = some ⟨oc51, od51, .func (PySem.W.fnOf "_law_chances_right" "_law_chances_right" (defArgs s_law_chances_right) (defBody s_law_chances_right) (defScope s_law_chances_right) .none kV51 dc51 pm51 an51 cd51 ct51), sl51⟩) (c51 : PySem.W.codeIn K cd51 "_law_chances_right" = true) (k51 : PySem.W.keepIn K (.ref f51) = true)
    (a52 : PySem.W.nsIn K mainGlobals "_law_small_right" = some (some (.ref f52))) (l52 : K.lookup f52 = some ⟨oc52, od52, .func (PySem.W.fnOf "_law_small_right" "_law_small_right" (defArgs s_law_small_right) (defBody s_law_small_right) (defScope s_law_small_right) .none kV52 dc52 pm52 an52 cd52 ct52), sl52⟩) (c52 : PySem.W.codeIn K cd52 "_law_small_right" = true) (k52 : PySem.W.keepIn K (.ref f52) = true)
    (a53 : PySem.W.nsIn K mainGlobals "_law_right" = some (some (.ref f53))) (l53 : K.lookup f53 = some ⟨oc53, od53, .func (PySem.W.fnOf "_law_right" "_law_right" (defArgs s_law_right) (defBody s_law_right) (defScope s_law_right) .none kV53 dc53 pm53 an53 cd53 ct53), sl53⟩) (c53 : PySem.W.codeIn K cd53 "_law_right" = true) (k53 : PySem.W.keepIn K (.ref f53) = true)
    (a54 : PySem.W.nsIn K mainGlobals "law" = some (some (.ref f54))) (l54 : K.lookup f54 = some ⟨oc54, od54, .func (PySem.W.fnOf "law" "law" (defArgs s_law) (defBody s_law) (defScope s_law) .none kV54 dc54 pm54 an54 cd54 ct54), sl54⟩) (c54 : PySem.W.codeIn K cd54 "law" = true) (k54 : PySem.W.keepIn K (.ref f54) = true)
    (z_abs : PySem.W.nsIn K mainGlobals "abs" = some none) (z_all : PySem.W.nsIn K mainGlobals "all" = some none) (z_any : PySem.W.nsIn K mainGlobals "any" = some none) (z_bool : PySem.W.nsIn K mainGlobals "bool" = some none) (z_enumerate : PySem.W.nsIn K mainGlobals "enumerate" = some none) (z_int : PySem.W.nsIn K mainGlobals "int" = some none) (z_isinstance : PySem.W.nsIn K mainGlobals "isinstance" = some none) (z_len : PySem.W.nsIn K mainGlobals "len" = some none) (z_list : PySem.W.nsIn K mainGlobals "list" = some none) (z_max : PySem.W.nsIn K mainGlobals "max" = some none) (z_min : PySem.W.nsIn K mainGlobals "min" = some none) (z_range : PySem.W.nsIn K mainGlobals "range" = some none) (z_set : PySem.W.nsIn K mainGlobals "set" = some none) (z_sorted : PySem.W.nsIn K mainGlobals "sorted" = some none) (z_str : PySem.W.nsIn K mainGlobals "str" = some none) (z_sum : PySem.W.nsIn K mainGlobals "sum" = some none) (z_tuple : PySem.W.nsIn K mainGlobals "tuple" = some none) (z_zip : PySem.W.nsIn K mainGlobals "zip" = some none)
    {t_MOST : Tok} (y_MOST : PySem.W.nsIn K mainGlobals "MOST" = some (some (.int 300 t_MOST)))
    (spec : ∀ ns : List Int, ns.length ≤ 63 → ∃ h, m_law [.fl (ns.map D.int)] [] = .ok (.bl true) h) :
    ∃ fd : FuncData, (∀ (s : Shared) (v : Value), BindsTo s fd ⟨[v], []⟩ [("_law_script", v)]) ∧ ∀ base : Heap, K.In base → base.Ns mainGlobals mg → FnOk l.prog w K mg base (L2.CX l.prog w) 11 fa fd ["_law_script"] (spLaw K) := by
  have e := hfa.symm.trans (PySem.W.mg_of X G a54)
  cases e
  have T : Txt mg := ⟨PySem.W.mg_none_of X G z_abs, PySem.W.mg_none_of X G z_all, PySem.W.mg_none_of X G z_any, PySem.W.mg_none_of X G z_bool, PySem.W.mg_none_of X G z_enumerate, PySem.W.mg_none_of X G z_int, PySem.W.mg_none_of X G z_isinstance, PySem.W.mg_none_of X G z_len, PySem.W.mg_none_of X G z_list, PySem.W.mg_none_of X G z_max, PySem.W.mg_none_of X G z_min, PySem.W.mg_none_of X G z_range, PySem.W.mg_none_of X G z_set, PySem.W.mg_none_of X G z_sorted, PySem.W.mg_none_of X G z_str, PySem.W.mg_none_of X G z_sum, PySem.W.mg_none_of X G z_tuple, PySem.W.mg_none_of X G z_zip, ⟨_, PySem.W.mg_of X G y_MOST⟩⟩
  have F0 := fun_mk (st := s_is_number) l0 c0 k0
  have b0 := F0.binds (ps := ["thing"]) fun _ _ _ _ _ _ us hl => match us, hl with | [_], _ => rfl
  have F1 := fun_mk (st := s_cross) l1 c1 k1
  have b1 := F1.binds (ps := ["one", "other"]) fun _ _ _ _ _ _ us hl => match us, hl with | [_, _], _ => rfl
  have F2 := fun_mk (st := s_are_crossed) l2 c2 k2
  have b2 := F2.binds (ps := ["pairs"]) fun _ _ _ _ _ _ us hl => match us, hl with | [_], _ => rfl
  have F3 := fun_mk (st := s_arms) l3 c3 k3
  have b3 := F3.binds (ps := ["arrangement"]) fun _ _ _ _ _ _ us hl => match us, hl with | [_], _ => rfl
  have F4 := fun_mk (st := s_is_paired) l4 c4 k4
  have b4 := F4.binds (ps := ["thing"]) fun _ _ _ _ _ _ us hl => match us, hl with | [_], _ => rfl
  have F5 := fun_mk (st := s_is_arrangement) l5 c5 k5
  have b5 := F5.binds (ps := ["thing"]) fun _ _ _ _ _ _ us hl => match us, hl with | [_], _ => rfl
  have F6 := fun_mk (st := s_look_same) l6 c6 k6
  have b6 := F6.binds (ps := ["one", "other"]) fun _ _ _ _ _ _ us hl => match us, hl with | [_, _], _ => rfl
  have F7 := fun_mk (st := s_fits) l7 c7 k7
  have b7 := F7.binds (ps := ["known", "thing"]) fun _ _ _ _ _ _ us hl => match us, hl with | [_, _], _ => rfl
  have F8 := fun_mk (st := s_crossing) l8 c8 k8
  have b8 := F8.binds (ps := ["known"]) fun _ _ _ _ _ _ us hl => match us, hl with | [_], _ => rfl
  have F9 := fun_mk (st := s_home) l9 c9 k9
  have b9 := F9.binds (ps := ["known", "person"]) fun _ _ _ _ _ _ us hl => match us, hl with | [_, _], _ => rfl
  have F10 := fun_mk (st := s_free_groups) l10 c10 k10
  have b10 := F10.binds (ps := ["people", "known"]) fun _ _ _ _ _ _ us hl => match us, hl with | [_, _], _ => rfl
  have F11 := fun_mk (st := s_evidence) l11 c11 k11
  have b11 := F11.binds (ps := ["people", "known"]) fun _ _ _ _ _ _ us hl => match us, hl with | [_, _], _ => rfl
  have F12 := fun_mk (st := s_regions) l12 c12 k12
  have b12 := F12.binds (ps := ["people", "known"]) fun _ _ _ _ _ _ us hl => match us, hl with | [_, _], _ => rfl
  have F13 := fun_mk (st := s_catalan) l13 c13 k13
  have b13 := F13.binds (ps := ["pairs"]) fun _ _ _ _ _ _ us hl => match us, hl with | [_], _ => rfl
  have F14 := fun_mk (st := s_many) l14 c14 k14
  have b14 := F14.binds (ps := ["people", "known"]) fun _ _ _ _ _ _ us hl => match us, hl with | [_, _], _ => rfl
  have F15 := fun_mk (st := s_with_pair) l15 c15 k15
  have b15 := F15.binds (ps := ["known", "one", "other"]) fun _ _ _ _ _ _ us hl => match us, hl with | [_, _, _], _ => rfl
  have F16 := fun_mk (st := s_busy_people) l16 c16 k16
  have b16 := F16.binds (ps := ["known"]) fun _ _ _ _ _ _ us hl => match us, hl with | [_], _ => rfl
  have F17 := fun_mk (st := s_choices) l17 c17 k17
  have b17 := F17.binds (ps := ["people", "known", "person"]) fun _ _ _ _ _ _ us hl => match us, hl with | [_, _, _], _ => rfl
  have F18 := fun_mk (st := s_arrangement_at) l18 c18 k18
  have b18 := F18.binds (ps := ["people", "known", "number"]) fun _ _ _ _ _ _ us hl => match us, hl with | [_, _, _], _ => rfl
  have F19 := fun_mk (st := s_number_of) l19 c19 k19
  have b19 := F19.binds (ps := ["people", "known", "arrangement"]) fun _ _ _ _ _ _ us hl => match us, hl with | [_, _, _], _ => rfl
  have F20 := fun_mk (st := s_all_arrangements) l20 c20 k20
  have b20 := F20.binds (ps := ["people", "known"]) fun _ _ _ _ _ _ us hl => match us, hl with | [_, _], _ => rfl
  have F21 := fun_mk (st := s_gcd) l21 c21 k21
  have b21 := F21.binds (ps := ["one", "other"]) fun _ _ _ _ _ _ us hl => match us, hl with | [_, _], _ => rfl
  have F22 := fun_mk (st := s_reduced) l22 c22 k22
  have b22 := F22.binds (ps := ["numerator", "denominator"]) fun _ _ _ _ _ _ us hl => match us, hl with | [_, _], _ => rfl
  have F23 := fun_mk (st := s_look_known) l23 c23 k23
  have b23 := F23.binds (ps := ["people", "known"]) fun _ _ _ _ _ _ us hl => match us, hl with | [_, _], _ => rfl
  have F24 := fun_mk (st := s_look_person) l24 c24 k24
  have b24 := F24.binds (ps := ["people", "person"]) fun _ _ _ _ _ _ us hl => match us, hl with | [_, _], _ => rfl
  have F25 := fun_mk (st := s_ways_with) l25 c25 k25
  have b25 := F25.binds (ps := ["people", "known", "one", "other"]) fun _ _ _ _ _ _ us hl => match us, hl with | [_, _, _, _], _ => rfl
  have F26 := fun_mk (st := s_chance) l26 c26 k26
  have b26 := F26.binds (ps := ["people", "known", "one", "other"]) fun _ _ _ _ _ _ us hl => match us, hl with | [_, _, _, _], _ => rfl
  have F27 := fun_mk (st := s_pair_chance) l27 c27 k27
  have b27 := F27.binds (ps := ["people", "known", "one", "other"]) fun _ _ _ _ _ _ us hl => match us, hl with | [_, _, _, _], _ => rfl
  have F28 := fun_mk (st := s_partner_chances) l28 c28 k28
  have b28 := F28.binds (ps := ["people", "known", "person"]) fun _ _ _ _ _ _ us hl => match us, hl with | [_, _, _], _ => rfl
  have F29 := fun_mk (st := s_all_pairs) l29 c29 k29
  have b29 := F29.binds (ps := ["people", "known"]) fun _ _ _ _ _ _ us hl => match us, hl with | [_, _], _ => rfl
  have F30 := fun_mk (st := s_sure_pairs) l30 c30 k30
  have b30 := F30.binds (ps := ["people", "known"]) fun _ _ _ _ _ _ us hl => match us, hl with | [_, _], _ => rfl
  have F31 := fun_mk (st := s_possible_pairs) l31 c31 k31
  have b31 := F31.binds (ps := ["people", "known"]) fun _ _ _ _ _ _ us hl => match us, hl with | [_, _], _ => rfl
  have F32 := fun_mk (st := s_neighbour_mean) l32 c32 k32
  have b32 := F32.binds (ps := ["people", "known"]) fun _ _ _ _ _ _ us hl => match us, hl with | [_, _], _ => rfl
  have F33 := fun_mk (st := s_new_arms) l33 c33 k33
  have b33 := F33.binds (ps := ["arrangement", "exchange"]) fun _ _ _ _ _ _ us hl => match us, hl with | [_, _], _ => rfl
  have F34 := fun_mk (st := s_is_possible) l34 c34 k34
  have b34 := F34.binds (ps := ["arrangement", "exchange"]) fun _ _ _ _ _ _ us hl => match us, hl with | [_, _], _ => rfl
  have F35 := fun_mk (st := s_exchanges) l35 c35 k35
  have b35 := F35.binds (ps := ["arrangement"]) fun _ _ _ _ _ _ us hl => match us, hl with | [_], _ => rfl
  have F36 := fun_mk (st := s_changed) l36 c36 k36
  have b36 := F36.binds (ps := ["arrangement", "exchange"]) fun _ _ _ _ _ _ us hl => match us, hl with | [_, _], _ => rfl
  have F37 := fun_mk (st := s_ring_of) l37 c37 k37
  have b37 := F37.binds (ps := ["one", "other", "person"]) fun _ _ _ _ _ _ us hl => match us, hl with | [_, _, _], _ => rfl
  have F38 := fun_mk (st := s_rings) l38 c38 k38
  have b38 := F38.binds (ps := ["one", "other"]) fun _ _ _ _ _ _ us hl => match us, hl with | [_, _], _ => rfl
  have F39 := fun_mk (st := s_distance) l39 c39 k39
  have b39 := F39.binds (ps := ["one", "other"]) fun _ _ _ _ _ _ us hl => match us, hl with | [_, _], _ => rfl
  have F40 := fun_mk (st := s_nearer) l40 c40 k40
  have b40 := F40.binds (ps := ["one", "other"]) fun _ _ _ _ _ _ us hl => match us, hl with | [_, _], _ => rfl
  have F41 := fun_mk (st := s_spheres) l41 c41 k41
  have b41 := F41.binds (ps := ["arrangement"]) fun _ _ _ _ _ _ us hl => match us, hl with | [_], _ => rfl
  have F42 := fun_mk (st := s_farthest) l42 c42 k42
  have b42 := F42.binds (ps := ["arrangement"]) fun _ _ _ _ _ _ us hl => match us, hl with | [_], _ => rfl
  have F43 := fun_mk (st := s_ways_many) l43 c43 k43
  have b43 := F43.binds (ps := ["one", "other"]) fun _ _ _ _ _ _ us hl => match us, hl with | [_, _], _ => rfl
  have F44 := fun_mk (st := s_law_cell_at) l44 c44 k44
  have b44 := F44.binds (ps := ["_law_script", "_law_k"]) fun _ _ _ _ _ _ us hl => match us, hl with | [_, _], _ => rfl
  have F45 := fun_mk (st := s_law_box) l45 c45 k45
  have b45 := F45.binds (ps := ["_law_script", "_law_k"]) fun _ _ _ _ _ _ us hl => match us, hl with | [_, _], _ => rfl
  have F46 := fun_mk (st := s_law_take) l46 c46 k46
  have b46 := F46.binds (ps := ["_law_box_here", "_law_below"]) fun _ _ _ _ _ _ us hl => match us, hl with | [_, _], _ => rfl
  have F47 := fun_mk (st := s_law_same) l47 c47 k47
  have b47 := F47.binds (ps := ["_law_found", "_law_due"]) fun _ _ _ _ _ _ us hl => match us, hl with | [_, _], _ => rfl
  have F48 := fun_mk (st := s_law_more) l48 c48 k48
  have b48 := F48.binds (ps := ["_law_size", "_law_facts", "_law_extra"]) fun _ _ _ _ _ _ us hl => match us, hl with | [_, _, _], _ => rfl
  have F49 := fun_mk (st := s_law_counts_right) l49 c49 k49
  have b49 := F49.binds (ps := ["_law_extra"]) fun _ _ _ _ _ _ us hl => match us, hl with | [_], _ => rfl
  have F50 := fun_mk (st := s_law_numbers_right) l50 c50 k50
  have b50 := F50.binds (ps := ["_law_extra"]) fun _ _ _ _ _ _ us hl => match us, hl with | [_], _ => rfl
  have F51 := fun_mk (st := s_law_chances_right) l51 c51 k51
  have b51 := F51.binds (ps := ["_law_extra"]) fun _ _ _ _ _ _ us hl => match us, hl with | [_], _ => rfl
  have F52 := fun_mk (st := s_law_small_right) l52 c52 k52
  have b52 := F52.binds (ps := []) fun _ _ _ _ _ _ us hl => match us, hl with | [], _ => rfl
  have F53 := fun_mk (st := s_law_right) l53 c53 k53
  have b53 := F53.binds (ps := ["_law_box_here"]) fun _ _ _ _ _ _ us hl => match us, hl with | [_], _ => rfl
  have F54 := fun_mk (st := s_law) l54 c54 k54
  have b54 := F54.binds (ps := ["_law_script"]) fun _ _ _ _ _ _ us hl => match us, hl with | [_], _ => rfl
  refine ⟨PySem.W.fnOf "law" "law" (defArgs s_law) (defBody s_law) (defScope s_law) .none kV54 dc54 pm54 an54 cd54 ct54, fun s v => .of_eq rfl, fun base _ _ => ?_⟩
  have d_law_take : Df l.prog w K mg base 4 "_law_take" ["_law_box_here", "_law_below"] f46 _ m_law_take := ⟨ok_law_take F46 T (PySem.W.mg_of X G a46) b46 4 (Nat.le_refl _), PySem.W.mg_of X G a46, F46.kp, b46⟩
  have d_law_more : Df l.prog w K mg base 1 "_law_more" ["_law_size", "_law_facts", "_law_extra"] f48 _ m_law_more := ⟨ok_law_more F48 T, PySem.W.mg_of X G a48, F48.kp, b48⟩
  have d_law_same : Df l.prog w K mg base 5 "_law_same" ["_law_found", "_law_due"] f47 _ m_law_same := ⟨ok_law_same F47 T (PySem.W.mg_of X G a47) b47 5 (Nat.le_refl _), PySem.W.mg_of X G a47, F47.kp, b47⟩
  have d_cross : Df l.prog w K mg base 1 "cross" ["one", "other"] f1 _ m_cross := ⟨ok_cross F1 T, PySem.W.mg_of X G a1, F1.kp, b1⟩
  have d_crossing : Df l.prog w K mg base 2 "crossing" ["known"] f8 _ m_crossing := ⟨ok_crossing F8 T d_cross, PySem.W.mg_of X G a8, F8.kp, b8⟩
  have d_home : Df l.prog w K mg base 1 "home" ["known", "person"] f9 _ m_home := ⟨ok_home F9 T, PySem.W.mg_of X G a9, F9.kp, b9⟩
  have d_free_groups : Df l.prog w K mg base 2 "free_groups" ["people", "known"] f10 _ m_free_groups := ⟨ok_free_groups F10 T d_home, PySem.W.mg_of X G a10, F10.kp, b10⟩
  have d_evidence : Df l.prog w K mg base 3 "evidence" ["people", "known"] f11 _ m_evidence := ⟨ok_evidence F11 T d_crossing d_free_groups, PySem.W.mg_of X G a11, F11.kp, b11⟩
  have d_look_known : Df l.prog w K mg base 4 "look_known" ["people", "known"] f23 _ m_look_known := ⟨ok_look_known F23 T d_evidence, PySem.W.mg_of X G a23, F23.kp, b23⟩
  have d_look_person : Df l.prog w K mg base 1 "look_person" ["people", "person"] f24 _ m_look_person := ⟨ok_look_person F24 T, PySem.W.mg_of X G a24, F24.kp, b24⟩
  have d_gcd : Df l.prog w K mg base 1 "gcd" ["one", "other"] f21 _ m_gcd := ⟨ok_gcd F21 T, PySem.W.mg_of X G a21, F21.kp, b21⟩
  have d_reduced : Df l.prog w K mg base 2 "reduced" ["numerator", "denominator"] f22 _ m_reduced := ⟨ok_reduced F22 T d_gcd, PySem.W.mg_of X G a22, F22.kp, b22⟩
  have d_catalan : Df l.prog w K mg base 1 "catalan" ["pairs"] f13 _ m_catalan := ⟨ok_catalan F13 T, PySem.W.mg_of X G a13, F13.kp, b13⟩
  have d_many : Df l.prog w K mg base 4 "many" ["people", "known"] f14 _ m_many := ⟨ok_many F14 T d_free_groups d_evidence d_catalan, PySem.W.mg_of X G a14, F14.kp, b14⟩
  have d_with_pair : Df l.prog w K mg base 1 "with_pair" ["known", "one", "other"] f15 _ m_with_pair := ⟨ok_with_pair F15 T, PySem.W.mg_of X G a15, F15.kp, b15⟩
  have d_busy_people : Df l.prog w K mg base 1 "busy_people" ["known"] f16 _ m_busy_people := ⟨ok_busy_people F16 T, PySem.W.mg_of X G a16, F16.kp, b16⟩
  have d_ways_with : Df l.prog w K mg base 5 "ways_with" ["people", "known", "one", "other"] f25 _ m_ways_with := ⟨ok_ways_with F25 T d_many d_with_pair d_busy_people, PySem.W.mg_of X G a25, F25.kp, b25⟩
  have d_chance : Df l.prog w K mg base 6 "chance" ["people", "known", "one", "other"] f26 _ m_chance := ⟨ok_chance F26 T d_reduced d_ways_with d_many, PySem.W.mg_of X G a26, F26.kp, b26⟩
  have d_pair_chance : Df l.prog w K mg base 7 "pair_chance" ["people", "known", "one", "other"] f27 _ m_pair_chance := ⟨ok_pair_chance F27 T d_look_known d_look_person d_chance, PySem.W.mg_of X G a27, F27.kp, b27⟩
  have d_partner_chances : Df l.prog w K mg base 7 "partner_chances" ["people", "known", "person"] f28 _ m_partner_chances := ⟨ok_partner_chances F28 T d_look_known d_look_person d_chance, PySem.W.mg_of X G a28, F28.kp, b28⟩
  have d_all_pairs : Df l.prog w K mg base 7 "all_pairs" ["people", "known"] f29 _ m_all_pairs := ⟨ok_all_pairs F29 T d_look_known d_chance, PySem.W.mg_of X G a29, F29.kp, b29⟩
  have d_possible_pairs : Df l.prog w K mg base 8 "possible_pairs" ["people", "known"] f31 _ m_possible_pairs := ⟨ok_possible_pairs F31 T d_all_pairs, PySem.W.mg_of X G a31, F31.kp, b31⟩
  have d_neighbour_mean : Df l.prog w K mg base 6 "neighbour_mean" ["people", "known"] f32 _ m_neighbour_mean := ⟨ok_neighbour_mean F32 T d_look_known d_reduced d_many d_ways_with, PySem.W.mg_of X G a32, F32.kp, b32⟩
  have d_sure_pairs : Df l.prog w K mg base 8 "sure_pairs" ["people", "known"] f30 _ m_sure_pairs := ⟨ok_sure_pairs F30 T d_all_pairs, PySem.W.mg_of X G a30, F30.kp, b30⟩
  have d_law_chances_right : Df l.prog w K mg base 9 "_law_chances_right" ["_law_extra"] f51 _ m_law_chances_right := ⟨ok_law_chances_right F51 T d_law_more d_law_same d_pair_chance d_partner_chances d_possible_pairs d_neighbour_mean d_sure_pairs, PySem.W.mg_of X G a51, F51.kp, b51⟩
  have d_look_same : Df l.prog w K mg base 1 "look_same" ["one", "other"] f6 _ m_look_same := ⟨ok_look_same F6 T, PySem.W.mg_of X G a6, F6.kp, b6⟩
  have d_ring_of : Df l.prog w K mg base 1 "ring_of" ["one", "other", "person"] f37 _ m_ring_of := ⟨ok_ring_of F37 T, PySem.W.mg_of X G a37, F37.kp, b37⟩
  have d_rings : Df l.prog w K mg base 2 "rings" ["one", "other"] f38 _ m_rings := ⟨ok_rings F38 T d_look_same d_ring_of, PySem.W.mg_of X G a38, F38.kp, b38⟩
  have d_distance : Df l.prog w K mg base 3 "distance" ["one", "other"] f39 _ m_distance := ⟨ok_distance F39 T d_rings, PySem.W.mg_of X G a39, F39.kp, b39⟩
  have d_choices : Df l.prog w K mg base 5 "choices" ["people", "known", "person"] f17 _ m_choices := ⟨ok_choices F17 T d_many d_busy_people d_with_pair, PySem.W.mg_of X G a17, F17.kp, b17⟩
  have d_arrangement_at : Df l.prog w K mg base 6 "arrangement_at" ["people", "known", "number"] f18 _ m_arrangement_at := ⟨ok_arrangement_at F18 T d_many d_busy_people d_choices d_with_pair, PySem.W.mg_of X G a18, F18.kp, b18⟩
  have d_all_arrangements : Df l.prog w K mg base 7 "all_arrangements" ["people", "known"] f20 _ m_all_arrangements := ⟨ok_all_arrangements F20 T d_many d_arrangement_at, PySem.W.mg_of X G a20, F20.kp, b20⟩
  have d_spheres : Df l.prog w K mg base 8 "spheres" ["arrangement"] f41 _ m_spheres := ⟨ok_spheres F41 T d_distance d_all_arrangements, PySem.W.mg_of X G a41, F41.kp, b41⟩
  have d_farthest : Df l.prog w K mg base 8 "farthest" ["arrangement"] f42 _ m_farthest := ⟨ok_farthest F42 T d_all_arrangements d_distance, PySem.W.mg_of X G a42, F42.kp, b42⟩
  have d_new_arms : Df l.prog w K mg base 1 "new_arms" ["arrangement", "exchange"] f33 _ m_new_arms := ⟨ok_new_arms F33 T, PySem.W.mg_of X G a33, F33.kp, b33⟩
  have d_changed : Df l.prog w K mg base 2 "changed" ["arrangement", "exchange"] f36 _ m_changed := ⟨ok_changed F36 T d_new_arms, PySem.W.mg_of X G a36, F36.kp, b36⟩
  have d_arms : Df l.prog w K mg base 1 "arms" ["arrangement"] f3 _ m_arms := ⟨ok_arms F3 T, PySem.W.mg_of X G a3, F3.kp, b3⟩
  have d_is_possible : Df l.prog w K mg base 2 "is_possible" ["arrangement", "exchange"] f34 _ m_is_possible := ⟨ok_is_possible F34 T d_new_arms d_arms d_cross, PySem.W.mg_of X G a34, F34.kp, b34⟩
  have d_exchanges : Df l.prog w K mg base 3 "exchanges" ["arrangement"] f35 _ m_exchanges := ⟨ok_exchanges F35 T d_arms d_is_possible, PySem.W.mg_of X G a35, F35.kp, b35⟩
  have d_nearer : Df l.prog w K mg base 4 "nearer" ["one", "other"] f40 _ m_nearer := ⟨ok_nearer F40 T d_distance d_exchanges d_changed, PySem.W.mg_of X G a40, F40.kp, b40⟩
  have d_ways_many : Df l.prog w K mg base 8 "ways_many" ["one", "other"] f43 _ m_ways_many := ⟨ok_ways_many F43 T d_look_same d_all_arrangements d_distance d_changed d_nearer, PySem.W.mg_of X G a43, F43.kp, b43⟩
  have d_law_small_right : Df l.prog w K mg base 9 "_law_small_right" [] f52 _ m_law_small_right := ⟨ok_law_small_right F52 T d_law_same d_spheres d_farthest d_ways_many, PySem.W.mg_of X G a52, F52.kp, b52⟩
  have d_regions : Df l.prog w K mg base 4 "regions" ["people", "known"] f12 _ m_regions := ⟨ok_regions F12 T d_free_groups d_crossing d_evidence, PySem.W.mg_of X G a12, F12.kp, b12⟩
  have d_law_counts_right : Df l.prog w K mg base 6 "_law_counts_right" ["_law_extra"] f49 _ m_law_counts_right := ⟨ok_law_counts_right F49 T d_law_more d_law_same d_many d_regions d_evidence, PySem.W.mg_of X G a49, F49.kp, b49⟩
  have d_number_of : Df l.prog w K mg base 6 "number_of" ["people", "known", "arrangement"] f19 _ m_number_of := ⟨ok_number_of F19 T d_arms d_busy_people d_with_pair d_choices, PySem.W.mg_of X G a19, F19.kp, b19⟩
  have d_is_number : Df l.prog w K mg base 1 "is_number" ["thing"] f0 _ m_is_number := ⟨ok_is_number F0 T, PySem.W.mg_of X G a0, F0.kp, b0⟩
  have d_is_paired : Df l.prog w K mg base 2 "is_paired" ["thing"] f4 _ m_is_paired := ⟨ok_is_paired F4 T d_is_number, PySem.W.mg_of X G a4, F4.kp, b4⟩
  have d_are_crossed : Df l.prog w K mg base 2 "are_crossed" ["pairs"] f2 _ m_are_crossed := ⟨ok_are_crossed F2 T d_cross, PySem.W.mg_of X G a2, F2.kp, b2⟩
  have d_is_arrangement : Df l.prog w K mg base 3 "is_arrangement" ["thing"] f5 _ m_is_arrangement := ⟨ok_is_arrangement F5 T d_is_paired d_are_crossed d_arms, PySem.W.mg_of X G a5, F5.kp, b5⟩
  have d_fits : Df l.prog w K mg base 4 "fits" ["known", "thing"] f7 _ m_fits := ⟨ok_fits F7 T d_arms d_is_arrangement, PySem.W.mg_of X G a7, F7.kp, b7⟩
  have d_law_numbers_right : Df l.prog w K mg base 8 "_law_numbers_right" ["_law_extra"] f50 _ m_law_numbers_right := ⟨ok_law_numbers_right F50 T d_law_same d_law_more d_arrangement_at d_number_of d_fits d_many d_all_arrangements d_regions, PySem.W.mg_of X G a50, F50.kp, b50⟩
  have d_law_right : Df l.prog w K mg base 10 "_law_right" ["_law_box_here"] f53 _ m_law_right := ⟨ok_law_right F53 T d_law_take d_law_chances_right d_law_small_right d_law_counts_right d_law_numbers_right, PySem.W.mg_of X G a53, F53.kp, b53⟩
  have d_law_cell_at : Df l.prog w K mg base 1 "_law_cell_at" ["_law_script", "_law_k"] f44 _ m_law_cell_at := ⟨ok_law_cell_at F44 T, PySem.W.mg_of X G a44, F44.kp, b44⟩
  have d_law_box : Df l.prog w K mg base 2 "_law_box" ["_law_script", "_law_k"] f45 _ m_law_box := ⟨ok_law_box F45 T d_law_cell_at, PySem.W.mg_of X G a45, F45.kp, b45⟩
  exact (ok_law F54 T d_law_right d_law_box).imp fun vs H Q E z => spLaw_ok spec z
theorem hd_end {l : PySem.W.OpenLaw} {w : World} {K : PySem.W.Frag} {h : Heap} {mg : Str → Option Value} {fa : Addr} (X : K.In h) (G : h.Ns mainGlobals mg) (hfa : mg "law" = some (.ref fa)) (hb : hd_b K = true) (hf : hd_fs K = hd_vs) :
    ∃ fd : FuncData, (∀ (s : Shared) (v : Value), BindsTo s fd ⟨[v], []⟩ [("_law_script", v)]) ∧ ∀ base : Heap, K.In base → base.Ns mainGlobals mg → FnOk l.prog w K mg base (L2.CX l.prog w) 11 fa fd ["_law_script"] (spLaw K) := by
  obtain ⟨c0, g0⟩ := He.ba hb
  obtain ⟨c1, g1⟩ := He.ba g0
  obtain ⟨c2, g2⟩ := He.ba g1
  obtain ⟨c3, g3⟩ := He.ba g2
  obtain ⟨c4, g4⟩ := He.ba g3
  obtain ⟨c5, g5⟩ := He.ba g4
  obtain ⟨c6, g6⟩ := He.ba g5
  have c7 := g6
  obtain ⟨p_a0, c0_0⟩ := He.ba c0
  obtain ⟨p_c0, c0_1⟩ := He.ba c0_0
  obtain ⟨p_k0, c0_2⟩ := He.ba c0_1
  obtain ⟨p_a1, c0_3⟩ := He.ba c0_2
  obtain ⟨p_c1, c0_4⟩ := He.ba c0_3
  obtain ⟨p_k1, c0_5⟩ := He.ba c0_4
  obtain ⟨p_a2, c0_6⟩ := He.ba c0_5
  obtain ⟨p_c2, c0_7⟩ := He.ba c0_6
  obtain ⟨p_k2, c0_8⟩ := He.ba c0_7
  obtain ⟨p_a3, c0_9⟩ := He.ba c0_8
  obtain ⟨p_c3, c0_10⟩ := He.ba c0_9
  obtain ⟨p_k3, c0_11⟩ := He.ba c0_10
  obtain ⟨p_a4, c0_12⟩ := He.ba c0_11
  obtain ⟨p_c4, c0_13⟩ := He.ba c0_12
  obtain ⟨p_k4, c0_14⟩ := He.ba c0_13
  obtain ⟨p_a5, c0_15⟩ := He.ba c0_14
  obtain ⟨p_c5, c0_16⟩ := He.ba c0_15
  obtain ⟨p_k5, c0_17⟩ := He.ba c0_16
  obtain ⟨p_a6, c0_18⟩ := He.ba c0_17
  obtain ⟨p_c6, c0_19⟩ := He.ba c0_18
  obtain ⟨p_k6, c0_20⟩ := He.ba c0_19
  obtain ⟨p_a7, c0_21⟩ := He.ba c0_20
  obtain ⟨p_c7, c0_22⟩ := He.ba c0_21
  obtain ⟨p_k7, c0_23⟩ := He.ba c0_22
  have p_a8 := c0_23
  obtain ⟨p_c8, c1_0⟩ := He.ba c1
  obtain ⟨p_k8, c1_1⟩ := He.ba c1_0
  obtain ⟨p_a9, c1_2⟩ := He.ba c1_1
  obtain ⟨p_c9, c1_3⟩ := He.ba c1_2
  obtain ⟨p_k9, c1_4⟩ := He.ba c1_3
  obtain ⟨p_a10, c1_5⟩ := He.ba c1_4
  obtain ⟨p_c10, c1_6⟩ := He.ba c1_5
  obtain ⟨p_k10, c1_7⟩ := He.ba c1_6
  obtain ⟨p_a11, c1_8⟩ := He.ba c1_7
  obtain ⟨p_c11, c1_9⟩ := He.ba c1_8
  obtain ⟨p_k11, c1_10⟩ := He.ba c1_9
  obtain ⟨p_a12, c1_11⟩ := He.ba c1_10
  obtain ⟨p_c12, c1_12⟩ := He.ba c1_11
  obtain ⟨p_k12, c1_13⟩ := He.ba c1_12
  obtain ⟨p_a13, c1_14⟩ := He.ba c1_13
  obtain ⟨p_c13, c1_15⟩ := He.ba c1_14
  obtain ⟨p_k13, c1_16⟩ := He.ba c1_15
  obtain ⟨p_a14, c1_17⟩ := He.ba c1_16
  obtain ⟨p_c14, c1_18⟩ := He.ba c1_17
  obtain ⟨p_k14, c1_19⟩ := He.ba c1_18
  obtain ⟨p_a15, c1_20⟩ := He.ba c1_19
  obtain ⟨p_c15, c1_21⟩ := He.ba c1_20
  obtain ⟨p_k15, c1_22⟩ := He.ba c1_21
  obtain ⟨p_a16, c1_23⟩ := He.ba c1_22
  have p_c16 := c1_23
  obtain ⟨p_k16, c2_0⟩ := He.ba c2
  obtain ⟨p_a17, c2_1⟩ := He.ba c2_0
  obtain ⟨p_c17, c2_2⟩ := He.ba c2_1
  obtain ⟨p_k17, c2_3⟩ := He.ba c2_2
  obtain ⟨p_a18, c2_4⟩ := He.ba c2_3
  obtain ⟨p_c18, c2_5⟩ := He.ba c2_4
  obtain ⟨p_k18, c2_6⟩ := He.ba c2_5
  obtain ⟨p_a19, c2_7⟩ := He.ba c2_6
  obtain ⟨p_c19, c2_8⟩ := He.ba c2_7
  obtain ⟨p_k19, c2_9⟩ := He.ba c2_8
  obtain ⟨p_a20, c2_10⟩ := He.ba c2_9
  obtain ⟨p_c20, c2_11⟩ := He.ba c2_10
  obtain ⟨p_k20, c2_12⟩ := He.ba c2_11
  obtain ⟨p_a21, c2_13⟩ := He.ba c2_12
  obtain ⟨p_c21, c2_14⟩ := He.ba c2_13
  obtain ⟨p_k21, c2_15⟩ := He.ba c2_14
  obtain ⟨p_a22, c2_16⟩ := He.ba c2_15
  obtain ⟨p_c22, c2_17⟩ := He.ba c2_16
  obtain ⟨p_k22, c2_18⟩ := He.ba c2_17
  obtain ⟨p_a23, c2_19⟩ := He.ba c2_18
  obtain ⟨p_c23, c2_20⟩ := He.ba c2_19
  obtain ⟨p_k23, c2_21⟩ := He.ba c2_20
  obtain ⟨p_a24, c2_22⟩ := He.ba c2_21
  obtain ⟨p_c24, c2_23⟩ := He.ba c2_22
  have p_k24 := c2_23
  obtain ⟨p_a25, c3_0⟩ := He.ba c3
  obtain ⟨p_c25, c3_1⟩ := He.ba c3_0
  obtain ⟨p_k25, c3_2⟩ := He.ba c3_1
  obtain ⟨p_a26, c3_3⟩ := He.ba c3_2
  obtain ⟨p_c26, c3_4⟩ := He.ba c3_3
  obtain ⟨p_k26, c3_5⟩ := He.ba c3_4
  obtain ⟨p_a27, c3_6⟩ := He.ba c3_5
  obtain ⟨p_c27, c3_7⟩ := He.ba c3_6
  obtain ⟨p_k27, c3_8⟩ := He.ba c3_7
  obtain ⟨p_a28, c3_9⟩ := He.ba c3_8
  obtain ⟨p_c28, c3_10⟩ := He.ba c3_9
  obtain ⟨p_k28, c3_11⟩ := He.ba c3_10
  obtain ⟨p_a29, c3_12⟩ := He.ba c3_11
  obtain ⟨p_c29, c3_13⟩ := He.ba c3_12
  obtain ⟨p_k29, c3_14⟩ := He.ba c3_13
  obtain ⟨p_a30, c3_15⟩ := He.ba c3_14
  obtain ⟨p_c30, c3_16⟩ := He.ba c3_15
  obtain ⟨p_k30, c3_17⟩ := He.ba c3_16
  obtain ⟨p_a31, c3_18⟩ := He.ba c3_17
  obtain ⟨p_c31, c3_19⟩ := He.ba c3_18
  obtain ⟨p_k31, c3_20⟩ := He.ba c3_19
  obtain ⟨p_a32, c3_21⟩ := He.ba c3_20
  obtain ⟨p_c32, c3_22⟩ := He.ba c3_21
  obtain ⟨p_k32, c3_23⟩ := He.ba c3_22
  have p_a33 := c3_23
  obtain ⟨p_c33, c4_0⟩ := He.ba c4
  obtain ⟨p_k33, c4_1⟩ := He.ba c4_0
  obtain ⟨p_a34, c4_2⟩ := He.ba c4_1
  obtain ⟨p_c34, c4_3⟩ := He.ba c4_2
  obtain ⟨p_k34, c4_4⟩ := He.ba c4_3
  obtain ⟨p_a35, c4_5⟩ := He.ba c4_4
  obtain ⟨p_c35, c4_6⟩ := He.ba c4_5
  obtain ⟨p_k35, c4_7⟩ := He.ba c4_6
  obtain ⟨p_a36, c4_8⟩ := He.ba c4_7
  obtain ⟨p_c36, c4_9⟩ := He.ba c4_8
  obtain ⟨p_k36, c4_10⟩ := He.ba c4_9
  obtain ⟨p_a37, c4_11⟩ := He.ba c4_10
  obtain ⟨p_c37, c4_12⟩ := He.ba c4_11
  obtain ⟨p_k37, c4_13⟩ := He.ba c4_12
  obtain ⟨p_a38, c4_14⟩ := He.ba c4_13
  obtain ⟨p_c38, c4_15⟩ := He.ba c4_14
  obtain ⟨p_k38, c4_16⟩ := He.ba c4_15
  obtain ⟨p_a39, c4_17⟩ := He.ba c4_16
  obtain ⟨p_c39, c4_18⟩ := He.ba c4_17
  obtain ⟨p_k39, c4_19⟩ := He.ba c4_18
  obtain ⟨p_a40, c4_20⟩ := He.ba c4_19
  obtain ⟨p_c40, c4_21⟩ := He.ba c4_20
  obtain ⟨p_k40, c4_22⟩ := He.ba c4_21
  obtain ⟨p_a41, c4_23⟩ := He.ba c4_22
  have p_c41 := c4_23
  obtain ⟨p_k41, c5_0⟩ := He.ba c5
  obtain ⟨p_a42, c5_1⟩ := He.ba c5_0
  obtain ⟨p_c42, c5_2⟩ := He.ba c5_1
  obtain ⟨p_k42, c5_3⟩ := He.ba c5_2
  obtain ⟨p_a43, c5_4⟩ := He.ba c5_3
  obtain ⟨p_c43, c5_5⟩ := He.ba c5_4
  obtain ⟨p_k43, c5_6⟩ := He.ba c5_5
  obtain ⟨p_a44, c5_7⟩ := He.ba c5_6
  obtain ⟨p_c44, c5_8⟩ := He.ba c5_7
  obtain ⟨p_k44, c5_9⟩ := He.ba c5_8
  obtain ⟨p_a45, c5_10⟩ := He.ba c5_9
  obtain ⟨p_c45, c5_11⟩ := He.ba c5_10
  obtain ⟨p_k45, c5_12⟩ := He.ba c5_11
  obtain ⟨p_a46, c5_13⟩ := He.ba c5_12
  obtain ⟨p_c46, c5_14⟩ := He.ba c5_13
  obtain ⟨p_k46, c5_15⟩ := He.ba c5_14
  obtain ⟨p_a47, c5_16⟩ := He.ba c5_15
  obtain ⟨p_c47, c5_17⟩ := He.ba c5_16
  obtain ⟨p_k47, c5_18⟩ := He.ba c5_17
  obtain ⟨p_a48, c5_19⟩ := He.ba c5_18
  obtain ⟨p_c48, c5_20⟩ := He.ba c5_19
  obtain ⟨p_k48, c5_21⟩ := He.ba c5_20
  obtain ⟨p_a49, c5_22⟩ := He.ba c5_21
  obtain ⟨p_c49, c5_23⟩ := He.ba c5_22
  have p_k49 := c5_23
  obtain ⟨p_a50, c6_0⟩ := He.ba c6
  obtain ⟨p_c50, c6_1⟩ := He.ba c6_0
  obtain ⟨p_k50, c6_2⟩ := He.ba c6_1
  obtain ⟨p_a51, c6_3⟩ := He.ba c6_2
  obtain ⟨p_c51, c6_4⟩ := He.ba c6_3
  obtain ⟨p_k51, c6_5⟩ := He.ba c6_4
  obtain ⟨p_a52, c6_6⟩ := He.ba c6_5
  obtain ⟨p_c52, c6_7⟩ := He.ba c6_6
  obtain ⟨p_k52, c6_8⟩ := He.ba c6_7
  obtain ⟨p_a53, c6_9⟩ := He.ba c6_8
  obtain ⟨p_c53, c6_10⟩ := He.ba c6_9
  obtain ⟨p_k53, c6_11⟩ := He.ba c6_10
  obtain ⟨p_a54, c6_12⟩ := He.ba c6_11
  obtain ⟨p_c54, c6_13⟩ := He.ba c6_12
  obtain ⟨p_k54, c6_14⟩ := He.ba c6_13
  obtain ⟨p_z_abs, c6_15⟩ := He.ba c6_14
  obtain ⟨p_z_all, c6_16⟩ := He.ba c6_15
  obtain ⟨p_z_any, c6_17⟩ := He.ba c6_16
  obtain ⟨p_z_bool, c6_18⟩ := He.ba c6_17
  obtain ⟨p_z_enumerate, c6_19⟩ := He.ba c6_18
  obtain ⟨p_z_int, c6_20⟩ := He.ba c6_19
  obtain ⟨p_z_isinstance, c6_21⟩ := He.ba c6_20
  obtain ⟨p_z_len, c6_22⟩ := He.ba c6_21
  obtain ⟨p_z_list, c6_23⟩ := He.ba c6_22
  have p_z_max := c6_23
  obtain ⟨p_z_min, c7_0⟩ := He.ba c7
  obtain ⟨p_z_range, c7_1⟩ := He.ba c7_0
  obtain ⟨p_z_set, c7_2⟩ := He.ba c7_1
  obtain ⟨p_z_sorted, c7_3⟩ := He.ba c7_2
  obtain ⟨p_z_str, c7_4⟩ := He.ba c7_3
  obtain ⟨p_z_sum, c7_5⟩ := He.ba c7_4
  obtain ⟨p_z_tuple, c7_6⟩ := He.ba c7_5
  obtain ⟨p_z_zip, c7_7⟩ := He.ba c7_6
  have p_y_MOST := c7_7
  obtain ⟨e0, r0⟩ := List.cons.inj hf
  obtain ⟨e1, r1⟩ := List.cons.inj r0
  obtain ⟨e2, r2⟩ := List.cons.inj r1
  obtain ⟨e3, r3⟩ := List.cons.inj r2
  obtain ⟨e4, r4⟩ := List.cons.inj r3
  obtain ⟨e5, r5⟩ := List.cons.inj r4
  obtain ⟨e6, r6⟩ := List.cons.inj r5
  obtain ⟨e7, r7⟩ := List.cons.inj r6
  obtain ⟨e8, r8⟩ := List.cons.inj r7
  obtain ⟨e9, r9⟩ := List.cons.inj r8
  obtain ⟨e10, r10⟩ := List.cons.inj r9
  obtain ⟨e11, r11⟩ := List.cons.inj r10
  obtain ⟨e12, r12⟩ := List.cons.inj r11
  obtain ⟨e13, r13⟩ := List.cons.inj r12
  obtain ⟨e14, r14⟩ := List.cons.inj r13
  obtain ⟨e15, r15⟩ := List.cons.inj r14
  obtain ⟨e16, r16⟩ := List.cons.inj r15
  obtain ⟨e17, r17⟩ := List.cons.inj r16
  obtain ⟨e18, r18⟩ := List.cons.inj r17
  obtain ⟨e19, r19⟩ := List.cons.inj r18
  obtain ⟨e20, r20⟩ := List.cons.inj r19
  obtain ⟨e21, r21⟩ := List.cons.inj r20
  obtain ⟨e22, r22⟩ := List.cons.inj r21
  obtain ⟨e23, r23⟩ := List.cons.inj r22
  obtain ⟨e24, r24⟩ := List.cons.inj r23
  obtain ⟨e25, r25⟩ := List.cons.inj r24
  obtain ⟨e26, r26⟩ := List.cons.inj r25
  obtain ⟨e27, r27⟩ := List.cons.inj r26
  obtain ⟨e28, r28⟩ := List.cons.inj r27
  obtain ⟨e29, r29⟩ := List.cons.inj r28
  obtain ⟨e30, r30⟩ := List.cons.inj r29
  obtain ⟨e31, r31⟩ := List.cons.inj r30
  obtain ⟨e32, r32⟩ := List.cons.inj r31
  obtain ⟨e33, r33⟩ := List.cons.inj r32
  obtain ⟨e34, r34⟩ := List.cons.inj r33
  obtain ⟨e35, r35⟩ := List.cons.inj r34
  obtain ⟨e36, r36⟩ := List.cons.inj r35
  obtain ⟨e37, r37⟩ := List.cons.inj r36
  obtain ⟨e38, r38⟩ := List.cons.inj r37
  obtain ⟨e39, r39⟩ := List.cons.inj r38
  obtain ⟨e40, r40⟩ := List.cons.inj r39
  obtain ⟨e41, r41⟩ := List.cons.inj r40
  obtain ⟨e42, r42⟩ := List.cons.inj r41
  obtain ⟨e43, r43⟩ := List.cons.inj r42
  obtain ⟨e44, r44⟩ := List.cons.inj r43
  obtain ⟨e45, r45⟩ := List.cons.inj r44
  obtain ⟨e46, r46⟩ := List.cons.inj r45
  obtain ⟨e47, r47⟩ := List.cons.inj r46
  obtain ⟨e48, r48⟩ := List.cons.inj r47
  obtain ⟨e49, r49⟩ := List.cons.inj r48
  obtain ⟨e50, r50⟩ := List.cons.inj r49
  obtain ⟨e51, r51⟩ := List.cons.inj r50
  obtain ⟨e52, r52⟩ := List.cons.inj r51
  obtain ⟨e53, r53⟩ := List.cons.inj r52
  obtain ⟨e54, r54⟩ := List.cons.inj r53
  exact all_mk X G hfa (of_decide_eq_true p_a0) (Hd.fn_0 e0) p_c0 p_k0 (of_decide_eq_true p_a1) (Hd.fn_0 e1) p_c1 p_k1 (of_decide_eq_true p_a2) (Hd.fn_0 e2) p_c2 p_k2 (of_decide_eq_true p_a3) (Hd.fn_0 e3) p_c3 p_k3 (of_decide_eq_true p_a4) (Hd.fn_0 e4) p_c4 p_k4 (of_decide_eq_true p_a5) (Hd.fn_0 e5) p_c5 p_k5 (of_decide_eq_true p_a6) (Hd.fn_0 e6) p_c6 p_k6 (of_decide_eq_true p_a7) (Hd.fn_0 e7) p_c7 p_k7 (of_decide_eq_true p_a8) (Hd.fn_0 e8) p_c8 p_k8 (of_decide_eq_true p_a9) (Hd.fn_0 e9) p_c9 p_k9 (of_decide_eq_true p_a10) (Hd.fn_0 e10) p_c10 p_k10 (of_decide_eq_true p_a11) (Hd.fn_0 e11) p_c11 p_k11 (of_decide_eq_true p_a12) (Hd.fn_0 e12) p_c12 p_k12 (of_decide_eq_true p_a13) (Hd.fn_0 e13) p_c13 p_k13 (of_decide_eq_true p_a14) (Hd.fn_0 e14) p_c14 p_k14 (of_decide_eq_true p_a15) (Hd.fn_0 e15) p_c15 p_k15 (of_decide_eq_true p_a16) (Hd.fn_0 e16) p_c16 p_k16 (of_decide_eq_true p_a17) (Hd.fn_0 e17) p_c17 p_k17 (of_decide_eq_true p_a18) (Hd.fn_0 e18) p_c18 p_k18 (of_decide_eq_true p_a19) (Hd.fn_0 e19) p_c19 p_k19 (of_decide_eq_true p_a20) (Hd.fn_0 e20) p_c20 p_k20 (of_decide_eq_true p_a21) (Hd.fn_0 e21) p_c21 p_k21 (of_decide_eq_true p_a22) (Hd.fn_0 e22) p_c22 p_k22 (of_decide_eq_true p_a23) (Hd.fn_0 e23) p_c23 p_k23 (of_decide_eq_true p_a24) (Hd.fn_0 e24) p_c24 p_k24 (of_decide_eq_true p_a25) (Hd.fn_0 e25) p_c25 p_k25 (of_decide_eq_true p_a26) (Hd.fn_0 e26) p_c26 p_k26 (of_decide_eq_true p_a27) (Hd.fn_0 e27) p_c27 p_k27 (of_decide_eq_true p_a28) (Hd.fn_0 e28) p_c28 p_k28 (of_decide_eq_true p_a29) (Hd.fn_0 e29) p_c29 p_k29 (of_decide_eq_true p_a30) (Hd.fn_0 e30) p_c30 p_k30 (of_decide_eq_true p_a31) (Hd.fn_0 e31) p_c31 p_k31 (of_decide_eq_true p_a32) (Hd.fn_0 e32) p_c32 p_k32 (of_decide_eq_true p_a33) (Hd.fn_0 e33) p_c33 p_k33 (of_decide_eq_true p_a34) (Hd.fn_0 e34) p_c34 p_k34 (of_decide_eq_true p_a35) (Hd.fn_0 e35) p_c35 p_k35 (of_decide_eq_true p_a36) (Hd.fn_0 e36) p_c36 p_k36 (of_decide_eq_true p_a37) (Hd.fn_0 e37) p_c37 p_k37 (of_decide_eq_true p_a38) (Hd.fn_0 e38) p_c38 p_k38 (of_decide_eq_true p_a39) (Hd.fn_0 e39) p_c39 p_k39 (of_decide_eq_true p_a40) (Hd.fn_0 e40) p_c40 p_k40 (of_decide_eq_true p_a41) (Hd.fn_0 e41) p_c41 p_k41 (of_decide_eq_true p_a42) (Hd.fn_0 e42) p_c42 p_k42 (of_decide_eq_true p_a43) (Hd.fn_0 e43) p_c43 p_k43 (of_decide_eq_true p_a44) (Hd.fn_0 e44) p_c44 p_k44 (of_decide_eq_true p_a45) (Hd.fn_0 e45) p_c45 p_k45 (of_decide_eq_true p_a46) (Hd.fn_0 e46) p_c46 p_k46 (of_decide_eq_true p_a47) (Hd.fn_0 e47) p_c47 p_k47 (of_decide_eq_true p_a48) (Hd.fn_0 e48) p_c48 p_k48 (of_decide_eq_true p_a49) (Hd.fn_0 e49) p_c49 p_k49 (of_decide_eq_true p_a50) (Hd.fn_0 e50) p_c50 p_k50 (of_decide_eq_true p_a51) (Hd.fn_0 e51) p_c51 p_k51 (of_decide_eq_true p_a52) (Hd.fn_0 e52) p_c52 p_k52 (of_decide_eq_true p_a53) (Hd.fn_0 e53) p_c53 p_k53 (of_decide_eq_true p_a54) (Hd.fn_0 e54) p_c54 p_k54 (of_decide_eq_true p_z_abs) (of_decide_eq_true p_z_all) (of_decide_eq_true p_z_any) (of_decide_eq_true p_z_bool) (of_decide_eq_true p_z_enumerate) (of_decide_eq_true p_z_int) (of_decide_eq_true p_z_isinstance) (of_decide_eq_true p_z_len) (of_decide_eq_true p_z_list) (of_decide_eq_true p_z_max) (of_decide_eq_true p_z_min) (of_decide_eq_true p_z_range) (of_decide_eq_true p_z_set) (of_decide_eq_true p_z_sorted) (of_decide_eq_true p_z_str) (of_decide_eq_true p_z_sum) (of_decide_eq_true p_z_tuple) (of_decide_eq_true p_z_zip) (Hd.int_ok p_y_MOST) spec_law
theorem walkX {l : PySem.W.OpenLaw} {q : Program} {loose : List Str} {XP : (Str → Option Value) → Heap → Prop} {d : DefRec} (hn : l.most = some 63) (hdf : d.params.defaults = []) (hd : d.name = "law") :
    PySem.W.WalkO q loose XP (Hd.hookH hd_b hd_fs hd_vs).says l.row.toRowW d [] (fun f vs => PySem.call f vs) :=
  walk_ex (n := 63) (k := 11) (x := "_law_script") (CX := fun w => L2.CX l.prog w) hn (by decide) hdf ⟨⟨rfl, by decide, by decide⟩, rfl⟩ (fun w mg fa h Y G hmg => by
    obtain ⟨K, KX, hb, hf⟩ := Y
    rw [hd] at hmg
    obtain ⟨fd, b, F⟩ := hd_end (l := l) (w := w) KX G hmg hb hf
    exact ⟨K, spLaw K, fd, KX, b, F, fun _ a ns hl hO hS => ⟨a, ns, rfl, hl, hO, hS, fun v H e => e⟩⟩) fun w H s e s' z => by
    obtain ⟨_, _, _, _, _, _, _, _, _, _, _, _, z⟩ := z
    exact z
end Mini
open PySem PySem.W PySem.Calls PyProof.Rows
set_option maxRecDepth 100000 in
set_option maxHeartbeats 0 in
theorem PySem.Challenge.cw_handshakes_k30_known_tables_holds : PySem.Challenge.rw_handshakes_k30_known_tables.Holds := by
  w_on; o_law
  refine HandSHeadRun.head_any (r := (PySem.W.OpenLaw.row PySem.Challenge.rw_handshakes_k30_known_tables)) (q := view (PySem.W.OpenLaw.row PySem.Challenge.rw_handshakes_k30_known_tables).prog [69]) (H := Mini.Hd.hookH Mini.hd_b Mini.hd_fs Mini.hd_vs) (ob := fun s => Mini.Hd.obsG Mini.hd_b Mini.hd_fs (HandSHeadRun.getT s)) (M := 60000) (loose := Mini.hd_names) (d := HandSHeadRun.topDef (PySem.W.OpenLaw.row PySem.Challenge.rw_handshakes_k30_known_tables).prog 69) (kwd := []) Mini.Hd.ob_eq (by kernel_rfl) (fun s => by kernel_rfl) Mini.hd_run (by kernel_rfl) (by kernel_rfl) (by kernel_rfl) (by rfl) (by first | assumption | decide +kernel) (by decide +kernel) ⟨rfl, rfl, rfl, rfl, rfl, by decide +kernel⟩ ?hw ?hc
  case hw => w_witness2
  case hc => exact Mini.walkX (l := PySem.Challenge.rw_handshakes_k30_known_tables) rfl (by kernel_rfl) (by kernel_rfl)
