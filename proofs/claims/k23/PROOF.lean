import PyProof.Rows.All
import Wide.All
import OpenK.AllK
import Wide.FinOn
import KE.KNest
import KE.KNestM
import KE.KExcInit
import HandS.Base
import HandS.Call
import HandS.Exc
import HandS.Defaults
import HandS.Words
import HandS.WordsExc
import HandS.HeadHook1
import HandS.Head0
import HandS.Head1
import HandS.Head2
import PySem.Challenge.RW_replaylog_k23_stores_changed
import HandS.ForMost
import HandS.ForExc
import HandS.IsInst
import HandS.Flow
import HandS.TupAny
import HandS.Style
import HandS.Lambda
import HandS.Slots
import HandS.ClsMeth
import HandS.Property
import KE.KExcSuper
import HandS.ExcInit
import HandS.TryMany
import HandS.SetTxt0
import HandS.SetTxtIn
import HandS.SetFor
import HandS.Strs
import HandS.StrMore
import HandS.Small
import KE.KSuper
import HandS.DictComp
import HandS.SetBool
import HandS.Codes
import HandS.CallSlots
import KE.GoesMore
import HandS.Wide
import HandS.WideBits
import PyProof.StrReplace2
import PyProof.StrCalls6
import PyProof.Rows.StrStrike
import PyProof.Ends
import HandS.Replace
import PyProof.FactsAll.list_3
import HandS.TupSets
import HandS.Deep
import HandS.Conv
import HandS.Star
import PyProof.ListStr
import HandS.FStrTup
import HandS.RaiseMore
import PyProof.ReprHeads
import PyProof.StrHeap
import HandS.TupMul
import PyProof.RulesMatch
import KE.KOpsOwn
import HandS.Iter
import HandS.More
import PyProof.Rows.SortShellAny
import HandS.SortInts
import HandS.Text
import HandS.FStr
import KE.KUnpackStar
import PyProof.StrLawsFirst
import HandS.SuiteRaise
import HandS.RaiseFrom
import HandS.ExcIs
import PyProof.Rows.RuleN_isinstance
import HandS.Dict
import HandS.EndTab
import HandS.HeadWalk
set_option Elab.async false
set_option linter.all false
set_option maxRecDepth 100000
set_option maxHeartbeats 2000000
namespace Hz
open PySem PySem.Spec PyProof.Rows L2 He
abbrev Fr := PySem.W.Frag
def oC (K : Fr) (a : Addr) : Value := match K.lookup a with | some o => o.cls | none => .none
def oD (K : Fr) (a : Addr) : Option Addr := match K.lookup a with | some o => o.dict | none => none
def oS (K : Fr) (a : Addr) : Array (Option Value) := match K.lookup a with | some o => o.slots | none => #[]
def oF (K : Fr) (a : Addr) : FuncData := match K.lookup a with | some ⟨_, _, .func fd, _⟩ => fd | _ => default
def oV (K : Fr) (a : Addr) : Array Value := match K.lookup a with | some ⟨_, _, .fields vs, _⟩ => vs | _ => #[]
def oK (K : Fr) (a : Addr) : ClassData := match K.lookup a with | some ⟨_, _, .cls cd, _⟩ => cd | _ => default
def rf : Value → Addr
  | .ref a => a
  | _ => 0
def sr (o : Option (Option Value)) : Addr := match o with
  | some (some (.ref a)) => a
  | _ => 0
def ccOf (fd : FuncData) : Addr := match fd.closure with
  | (_, a) :: _ => a
  | _ => 0
def tokI (o : Option (Option Value)) : Tok := match o with
  | some (some (.int _ t)) => t
  | some (some (.str _ t)) => t
  | _ => default
def tokV (v : Value) : Tok := match v with
  | .int _ t => t
  | .str _ t => t
  | _ => default
def strV (v : Value) : Str := match v with
  | .str x _ => x
  | _ => Str.empty
def vNone : Value → Bool
  | .none => true
  | _ => false
theorem vNone_ok {v : Value} (h : vNone v = true) : v = .none := by cases v <;> first | rfl | cases h
def vRef : Value → Bool
  | .ref _ => true
  | _ => false
theorem vRef_ok {v : Value} (h : vRef v = true) : v = .ref (rf v) := by cases v <;> first | rfl | cases h
def sRef (o : Option (Option Value)) : Bool := match o with
  | some (some (.ref _)) => true
  | _ => false
theorem sRef_ok {o : Option (Option Value)} (h : sRef o = true) : o = some (some (.ref (sr o))) := by
  rcases o with _ | _ | v <;> try cases h
  cases v <;> first | rfl | cases h
def sInt (i : Int) (o : Option (Option Value)) : Bool := match o with
  | some (some (.int j _)) => decide (j = i)
  | _ => false
theorem sInt_ok {i : Int} {o : Option (Option Value)} (h : sInt i o = true) : o = some (some (.int i (tokI o))) := by
  rcases o with _ | _ | v <;> try cases h
  cases v with
  | int j t =>
    have e : j = i := of_decide_eq_true h
    subst e
    rfl
  | _ => cases h
def sStr (x : Str) (o : Option (Option Value)) : Bool := match o with
  | some (some (.str y _)) => decide (y = x)
  | _ => false
theorem sStr_ok {x : Str} {o : Option (Option Value)} (h : sStr x o = true) : o = some (some (.str x (tokI o))) := by
  rcases o with _ | _ | v <;> try cases h
  cases v with
  | str y t =>
    have e : y = x := of_decide_eq_true h
    subst e
    rfl
  | _ => cases h
def sBlt (n : String) (o : Option (Option Value)) : Bool := match o with
  | some (some (.builtin m)) => decide (m = n)
  | _ => false
theorem sBlt_ok {n : String} {o : Option (Option Value)} (h : sBlt n o = true) : o = some (some (.builtin n)) := by
  rcases o with _ | _ | v <;> try cases h
  cases v with
  | builtin m =>
    have e : m = n := of_decide_eq_true h
    subst e
    rfl
  | _ => cases h
def sNone (o : Option (Option Value)) : Bool := match o with
  | some none => true
  | _ => false
theorem sNone_ok {o : Option (Option Value)} (h : sNone o = true) : o = some none := by
  rcases o with _ | _ | v <;> first | rfl | cases h
def oTyp (n : String) (o : Option Value) : Bool := match o with
  | some (.type m) => decide (m = n)
  | _ => false
theorem oTyp_ok {n : String} {o : Option Value} (h : oTyp n o = true) : o = some (.type n) := by
  rcases o with _ | v <;> try cases h
  cases v with
  | type m =>
    have e : m = n := of_decide_eq_true h
    subst e
    rfl
  | _ => cases h
def oBl (b : Bool) (o : Option Bool) : Bool := match o with
  | some c => c == b
  | none => false
theorem oBl_ok {b : Bool} {o : Option Bool} (h : oBl b o = true) : o = some b := by
  cases o with
  | none => cases h
  | some c => exact congrArg some (eq_of_beq h)
def isNo (o : Option Obj) : Bool := match o with
  | none => true
  | _ => false
theorem isNo_ok {o : Option Obj} (h : isNo o = true) : o = none := by cases o <;> first | rfl | cases h
abbrev FnZ : Type := Option (Str × Str × Arguments × FuncBody × Scope × Addr × Bool × Addr)
def clB (n : Nat) (l : List (Str × Addr)) : Bool := match n, l with
  | 0, [] => true
  | 1, [(x, _)] => decide (x = "__class__")
  | _, _ => false
/-- n: how many closure cells -/
def fnZ (K : Fr) (a : Addr) (n : Nat) : FnZ := match K.lookup a with
  | some ⟨_, _, .func fd, _⟩ => some (fd.name, fd.qualname, fd.params, fd.body, fd.scope, fd.globals, clB n fd.closure, fd.builtins)
  | _ => none
def fnW (nm qual : Str) (st : Stmt) : FnZ := some (nm, qual, defArgs st, .stmts (defBody st), defScope st, mainGlobals, true, builtinsNs)
section
variable {K : Fr} {a : Addr} {nm qual : Str} {st : Stmt}
theorem fnZ_some {n : Nat} (e : fnZ K a n = fnW nm qual st) : K.lookup a = some ⟨oC K a, oD K a, .func (oF K a), oS K a⟩ ∧ (oF K a).name = nm ∧ (oF K a).qualname = qual ∧ (oF K a).params = defArgs st ∧ (oF K a).body = .stmts (defBody st) ∧ (oF K a).scope = defScope st ∧
    (oF K a).globals = mainGlobals ∧ clB n (oF K a).closure = true ∧ (oF K a).builtins = builtinsNs := by
  unfold fnZ at e
  unfold oC oD oS oF
  cases q : K.lookup a with
  | none => rw [q] at e; cases e
  | some o =>
    obtain ⟨oc, od, dt, sl⟩ := o
    rw [q] at e
    cases dt with
    | func fd =>
      have e2 := Option.some.inj (show (some (fd.name, fd.qualname, fd.params, fd.body, fd.scope, fd.globals, clB n fd.closure, fd.builtins) : FnZ) = some (nm, qual, defArgs st, .stmts (defBody st), defScope st, mainGlobals, true, builtinsNs) from e)
      simp only [Prod.mk.injEq] at e2
      obtain ⟨h1, h2, h3, h4, h5, h6, h7, h8⟩ := e2
      exact ⟨rfl, h1, h2, h3, h4, h5, h6, h7, h8⟩
    | _ => cases e
theorem lk_any {dV kV cd : Value} (e : fnZ K a 0 = fnW nm qual st) (ed : (oF K a).defaults = dV) (ek : (oF K a).kwdefaults = kV) (ec : (oF K a).code = cd) :
    K.lookup a = some ⟨oC K a, oD K a, .func (PySem.W.fnOf nm qual (defArgs st) (defBody st) (defScope st) dV kV (oF K a).doc (oF K a).pyModule (oF K a).annotations cd (oF K a).closureTuple), oS K a⟩ := by
  obtain ⟨h0, h1, h2, h3, h4, h5, h6, h7, h8⟩ := fnZ_some e
  have hc : (oF K a).closure = [] := by
    cases q : (oF K a).closure with
    | nil => rfl
    | cons p r => rw [q] at h7; cases h7
  rw [h0]
  congr 3
  generalize oF K a = fd at *
  obtain ⟨n1, n2, n3, n4, n5, n6, n7, n8, n9, n10, n11, n12, n13, n14, n15⟩ := fd
  dsimp only at h1 h2 h3 h4 h5 h6 hc h8 ed ek ec
  subst h1 h2 h3 h4 h5 h6 hc h8 ed ek ec
  rfl
theorem lk_fn (e : fnZ K a 0 = fnW nm qual st) (d : vNone (oF K a).defaults = true) :
    K.lookup a = some ⟨oC K a, oD K a, .func (PySem.W.fnOf nm qual (defArgs st) (defBody st) (defScope st) .none (oF K a).kwdefaults (oF K a).doc (oF K a).pyModule (oF K a).annotations (oF K a).code (oF K a).closureTuple), oS K a⟩ :=
  lk_any e (vNone_ok d) rfl rfl
theorem lk_fnc (e : fnZ K a 0 = fnW nm qual st) (d : (vNone (oF K a).defaults && vRef (oF K a).code) = true) :
    K.lookup a = some ⟨oC K a, oD K a, .func (PySem.W.fnOf nm qual (defArgs st) (defBody st) (defScope st) .none (oF K a).kwdefaults (oF K a).doc (oF K a).pyModule (oF K a).annotations (.ref (rf (oF K a).code)) (oF K a).closureTuple), oS K a⟩ :=
  lk_any e (vNone_ok (ba d).1) rfl (vRef_ok (ba d).2)
theorem lk_anyk {dV kV cd : Value} (e : fnZ K a 1 = fnW nm qual st) (ed : (oF K a).defaults = dV) (ek : (oF K a).kwdefaults = kV) (ec : (oF K a).code = cd) :
    K.lookup a = some ⟨oC K a, oD K a, .func (PySem.W.ksFn nm qual (defArgs st) (defBody st) (defScope st) dV kV (oF K a).doc (oF K a).pyModule (oF K a).annotations cd (oF K a).closureTuple (ccOf (oF K a))), oS K a⟩ := by
  obtain ⟨h0, h1, h2, h3, h4, h5, h6, h7, h8⟩ := fnZ_some e
  have hc : (oF K a).closure = [(("__class__" : Str), ccOf (oF K a))] := by
    unfold ccOf
    rcases q : (oF K a).closure with _ | ⟨⟨x, c⟩, _ | ⟨p, r⟩⟩
    · rw [q] at h7; cases h7
    · rw [q] at h7
      rw [of_decide_eq_true (show decide (x = ("__class__" : Str)) = true from h7)]
    · rw [q] at h7; cases h7
  rw [h0]
  congr 3
  generalize ccOf (oF K a) = cc at *
  generalize oF K a = fd at *
  obtain ⟨n1, n2, n3, n4, n5, n6, n7, n8, n9, n10, n11, n12, n13, n14, n15⟩ := fd
  dsimp only at h1 h2 h3 h4 h5 h6 hc h8 ed ek ec
  subst h1 h2 h3 h4 h5 h6 hc h8 ed ek ec
  rfl
/-- no defaults, no keyword-only defaults -/
theorem lk_ks0 (e : fnZ K a 1 = fnW nm qual st) (d : (vNone (oF K a).defaults && (vNone (oF K a).kwdefaults && vRef (oF K a).code)) = true) :
    K.lookup a = some ⟨oC K a, oD K a, .func (PySem.W.ksFn nm qual (defArgs st) (defBody st) (defScope st) .none .none (oF K a).doc (oF K a).pyModule (oF K a).annotations (.ref (rf (oF K a).code)) (oF K a).closureTuple (ccOf (oF K a))), oS K a⟩ :=
  lk_anyk e (vNone_ok (ba d).1) (vNone_ok (ba (ba d).2).1) (vRef_ok (ba (ba d).2).2)
end
section
variable {K : Fr} {a : Addr}
def isFl (K : Fr) (a : Addr) : Bool := match K.lookup a with | some ⟨_, _, .fields _, _⟩ => true | _ => false
theorem lk_fl (h : isFl K a = true) : K.lookup a = some ⟨oC K a, oD K a, .fields (oV K a), oS K a⟩ := by
  unfold isFl at h
  unfold oC oD oV oS
  cases q : K.lookup a with
  | none => rw [q] at h; cases h
  | some o =>
    obtain ⟨oc, od, dt, sl⟩ := o
    rw [q] at h
    cases dt <;> first | rfl | cases h
def isCell (K : Fr) (a C : Addr) : Bool := match K.lookup a with | some ⟨_, _, .cell (some (.ref D)), _⟩ => D == C | _ => false
theorem lk_cell {C : Addr} (h : isCell K a C = true) : K.lookup a = some ⟨oC K a, oD K a, .cell (some (.ref C)), oS K a⟩ := by
  unfold isCell at h
  unfold oC oD oS
  split at h
  · rename_i D sl q
    rw [q, eq_of_beq h]
  · cases h
/-- the i-th field is a reference -/
def flR (vs : Array Value) (i : Nat) : Bool := match (vs[i]? : Option Value) with | some (.ref _) => true | _ => false
theorem flR_ok {vs : Array Value} {i : Nat} (h : flR vs i = true) : vs[i]? = some (.ref (rf (vs.getD i .none))) := by
  unfold flR at h
  split at h
  · rename_i b q
    rw [Array.getD_eq_getD_getElem?, q]
    rfl
  · cases h
def flS (vs : Array Value) (i : Nat) : Bool := match (vs[i]? : Option Value) with | some (.str _ _) => true | _ => false
theorem flS_ok {vs : Array Value} {i : Nat} (h : flS vs i = true) : vs[i]? = some (.str (strV (vs.getD i .none)) (tokV (vs.getD i .none))) := by
  unfold flS at h
  split at h
  · rename_i x t q
    rw [Array.getD_eq_getD_getElem?, q]
    rfl
  · cases h
def excB (K : Fr) (C : Addr) (newId : String) : Bool := match K.lookup C with
  | some ⟨.type c, _, .cls cd, ⟨[_, _, _, _, some (.builtin n), _]⟩⟩ => decide (c = "type") && (decide (n = newId) && (!cd.hasDel && (cd.hasDict && (match cd.mro with
    | .ref D :: _ => D == C
    | _ => false))))
  | _ => false
def slAt (K : Fr) (C : Addr) (i : Nat) : Option Value := (oS K C).getD i none
theorem lk_exc {C : Addr} {newId : String} (h : excB K C newId = true) :
    K.lookup C = some (excClassObj (oK K C).name (oK K C).qualname C (oK K C).ns (oK K C).bases ((oK K C).mro.drop 1) true (oK K C).slotNames (oK K C).subclasses (oK K C).abstract (oK K C).collection (oD K C)
      (slAt K C 0) (slAt K C 1) (slAt K C 2) (slAt K C 3) (slAt K C 5) newId) := by
  unfold excB at h
  unfold slAt oK oD oS
  split at h
  · rename_i c d cd k0 k1 k2 k3 n k5 q
    obtain ⟨h1, h⟩ := ba h
    obtain ⟨h2, h⟩ := ba h
    obtain ⟨h3, h⟩ := ba h
    obtain ⟨h4, h5⟩ := ba h
    rw [q, of_decide_eq_true h1, of_decide_eq_true h2]
    obtain ⟨m1, m2, m3, m4, m5, m6, m7, m8, m9, m10, m11⟩ := cd
    dsimp only at h3 h4 h5 ⊢
    have h3' : m11 = false := by cases m11 <;> first | rfl | cases h3
    subst h3'
    subst h4
    rcases m3 with _ | ⟨v, r⟩
    · cases h5
    · cases v with
      | ref D =>
        have e : D = C := eq_of_beq h5
        subst e
        rfl
      | _ => cases h5
  · cases h
end
def emptyTab : Obj → Bool
  | ⟨.none, none, .fields vs, sl⟩ => vs.isEmpty && sl.isEmpty
  | _ => false
theorem emptyTab_eq {o : Obj} (h : emptyTab o = true) : o = PySem.W.tabObj #[] := by
  obtain ⟨oc, od, dt, sl⟩ := o
  cases oc with
  | none =>
    cases od with
    | none =>
      cases dt with
      | fields vs =>
        obtain ⟨h1, h2⟩ := ba (show (vs.isEmpty && sl.isEmpty) = true from h)
        rw [Array.isEmpty_iff.mp h1, Array.isEmpty_iff.mp h2]
      | _ => cases h
    | some d => cases dt <;> cases h
  | _ => cases od <;> cases dt <;> cases h
/-- addresses n-1, .., lo -/
def adrs : Nat → Nat → List Addr
  | 0, _ => []
  | k + 1, lo => (lo + k) :: adrs k lo
def frZ (g : Addr → Option Obj) : List Addr → Fr
  | [] => []
  | a :: r => match g a with
    | some o => (match emptyTab o with
      | true => frZ g r
      | false => (a, o) :: frZ g r)
    | none => frZ g r
theorem frZ_at {g : Addr → Option Obj} {a : Addr} {o : Obj} : ∀ as : List Addr, (frZ g as).lookup a = some o → g a = some o
  | [], e => nomatch (show (none : Option Obj) = some o from e)
  | b :: r, e => by
    unfold frZ at e
    cases hb : g b with
    | none => rw [hb] at e; exact frZ_at r e
    | some ob =>
      rw [hb] at e
      dsimp only at e
      cases ht : emptyTab ob with
      | true => rw [ht] at e; exact frZ_at r e
      | false =>
        rw [ht] at e
        have e2 : (match a == b with | true => some ob | false => (frZ g r).lookup a) = some o := e
        cases q : (a == b) with
        | true =>
          rw [q] at e2
          rw [beq_iff_eq.mp q, hb, Option.some.inj e2]
        | false =>
          rw [q] at e2
          exact frZ_at r e2
/-- the addresses asked: some written ones, and all from lo on -/
def asZ (ws : List Addr) (lo n : Nat) : List Addr := ws ++ adrs (n - lo) lo
def kZ (ws : List Addr) (lo n : Nat) (g : Addr → Option Obj) : Fr := frZ g (asZ ws lo n)
theorem kZ_in {ws : List Addr} {lo n : Nat} {h : Heap} : (kZ ws lo n h.get?).In h := fun _ _ e => frZ_at _ e
abbrev AlZ : Type := Bool × List FnZ
def gOk (h : Option Obj) : Bool := match h with
  | some o => emptyTab o
  | none => false
def obsK (chk : Fr → List (List Bool)) (fs : Fr → List FnZ) (ts : Fr → List Addr) (g : Addr → Option Obj) (K : Fr) : AlZ := ((chk K).all (fun l => l.all id) && (ts K).all (fun P => gOk (g P)), fs K)
structure SaysZ (chk : Fr → List (List Bool)) (fs : Fr → List FnZ) (ws : List FnZ) (ts : Fr → List Addr) (h : Heap) (K : Fr) : Prop where
  c : (chk K).all (fun l => l.all id) = true
  f : fs K = ws
  t : ∀ P ∈ ts K, h.get? P = some (PySem.W.tabObj #[])
def hookZ (chk : Fr → List (List Bool)) (fs : Fr → List FnZ) (vs : List FnZ) (ts : Fr → List Addr) (ws : List Addr) (lo : Nat) : PySem.W.Hook where
  α := AlZ
  obs := fun s => obsK chk fs ts s.heap.get? (kZ ws lo s.heap.objs.size s.heap.get?)
  val := fun _ => (true, vs)
  says := fun _ h => ∃ K : Fr, K.In h ∧ SaysZ chk fs vs ts h K
  of := fun _ s e => ⟨kZ ws lo s.heap.objs.size s.heap.get?, kZ_in, by
    have e1 := congrArg (fun z : AlZ => z.1) e
    have e2 := congrArg (fun z : AlZ => z.2) e
    obtain ⟨h1, h2⟩ := ba (show ((chk (kZ ws lo s.heap.objs.size s.heap.get?)).all (fun l => l.all id) && (ts (kZ ws lo s.heap.objs.size s.heap.get?)).all (fun P => gOk (s.heap.get? P))) = true from e1)
    refine ⟨h1, e2, fun P hP => ?_⟩
    have h3 := List.all_eq_true.mp h2 P hP
    unfold gOk at h3
    cases q : s.heap.get? P with
    | none => rw [q] at h3; cases h3
    | some o => rw [q] at h3; rw [emptyTab_eq h3]⟩
  keeps := fun _ _ _ ⟨K, hK, c⟩ k => ⟨K, PySem.W.Frag.In.keeps hK k, c.c, c.f, fun P hP => k _ _ (c.t P hP)⟩
def obZ (chk : Fr → List (List Bool)) (fs : Fr → List FnZ) (ts : Fr → List Addr) (ws : List Addr) (lo : Nat) (s : PySem.W.SharedT) : AlZ := obsK chk fs ts (HandSHeadRun.getT s) (kZ ws lo s.n (HandSHeadRun.getT s))
theorem obZ_eq {chk : Fr → List (List Bool)} {fs : Fr → List FnZ} {vs : List FnZ} {ts : Fr → List Addr} {ws : List Addr} {lo : Nat} (s : PySem.W.SharedT) : obZ chk fs ts ws lo s = (hookZ chk fs vs ts ws lo).obs s.abs := by
  have e : HandSHeadRun.getT s = s.abs.heap.get? := funext (HandSHeadRun.getT_eq s)
  have n : s.n = s.abs.heap.objs.size := (PySem.W.absHeap_size s.tree s.n s.life).symm
  unfold obZ
  rw [e, n]
  rfl
section
variable {chk : Fr → List (List Bool)} {fs : Fr → List FnZ} {vs : List FnZ} {ts : Fr → List Addr} {h : Heap} {K : Fr}
theorem getD_all {l : List Bool} (h : l.all id = true) (j : Nat) : l.getD j true = true := by
  rw [List.getD_eq_getElem?_getD]
  cases r : l[j]? with
  | none => rfl
  | some b => exact List.all_eq_true.mp h b (List.mem_of_getElem? r)
theorem getD_all2 {l : List (List Bool)} (h : l.all (fun l => l.all id) = true) (i : Nat) : (l.getD i []).all id = true := by
  rw [List.getD_eq_getElem?_getD]
  cases q : l[i]? with
  | none => rfl
  | some m => exact List.all_eq_true.mp h m (List.mem_of_getElem? q)
theorem SaysZ.b (c : SaysZ chk fs vs ts h K) (i j : Nat) : ((chk K).getD i []).getD j true = true := getD_all (getD_all2 c.c i) j
theorem SaysZ.g (c : SaysZ chk fs vs ts h K) (i : Nat) : (fs K).getD i none = vs.getD i none := by rw [c.f]
theorem SaysZ.tb (c : SaysZ chk fs vs ts h K) (i : Nat) {P : Addr} (q : (ts K)[i]? = some P := by rfl) : h.get? P = some (PySem.W.tabObj #[]) := c.t P (List.mem_of_getElem? q)
end
theorem run3 {σ α β γ : Type} {e : Option σ} {f : σ → α} {g : σ → β} {h : σ → γ} {a : α} {b : β} {c : γ} (h1 : e.map f = some a) (h2 : e.map g = some b) (h3 : e.map h = some c) : e.map (fun s => (f s, g s, h s)) = some (a, b, c) := by
  cases e with
  | none => cases h1
  | some s =>
    have e1 := Option.some.inj h1
    have e2 := Option.some.inj h2
    have e3 := Option.some.inj h3
    subst e1 e2 e3
    rfl
theorem run2 {σ α β : Type} {e : Option σ} {f : σ → α} {g : σ → β} {a : α} {b : β} (h : e.map (fun s => (f s, g s)) = some (a, b)) : e.map f = some a ∧ e.map g = some b := by
  cases e with
  | none => cases h
  | some s =>
    have e1 := Option.some.inj h
    exact ⟨congrArg (fun z : α × β => some z.1) e1, congrArg (fun z : α × β => some z.2) e1⟩
end Hz
set_option Elab.async false
set_option linter.all false
set_option maxRecDepth 100000
set_option maxHeartbeats 0
namespace H23
open PySem
abbrev SS (l : List Nat) : PySem.Str := ⟨l.toArray⟩
def htop (i : Nat) : Stmt := PySem.Challenge.pw_replaylog_k23_stores_changed.main.body.getD i (.Pass ⟨0, 0, 0, 0⟩)
def hc0 (K : PySem.W.Frag) : List Bool := [Hz.sRef (PySem.W.nsIn K mainGlobals "Store"),
  PySem.W.plainGet K (Hz.sr (PySem.W.nsIn K mainGlobals "Store")) PySem.Str.empty,
  PySem.W.hasDictIn K (Hz.sr (PySem.W.nsIn K mainGlobals "Store")),
  PySem.W.plainOver K (Hz.sr (PySem.W.nsIn K mainGlobals "Store")),
  Hz.sBlt "object.__setattr__" (PySem.W.findIn K (.ref (Hz.sr (PySem.W.nsIn K mainGlobals "Store"))) "__setattr__"),
  Hz.sNone (PySem.W.findIn K (.ref (Hz.sr (PySem.W.nsIn K mainGlobals "Store"))) "own_deeds"),
  Hz.sNone (PySem.W.findIn K (.ref (Hz.sr (PySem.W.nsIn K mainGlobals "Store"))) "table"),
  Hz.sBlt "object.__class__" (PySem.W.findIn K (.ref (Hz.sr (PySem.W.nsIn K mainGlobals "Store"))) "__class__"),
  Hz.oBl true (PySem.W.mroIn K (Hz.sr (PySem.W.nsIn K mainGlobals "Store")) (.type "object")),
  Hz.oBl true (PySem.W.kitOne K (.ref (Hz.sr (PySem.W.nsIn K mainGlobals "Store"))) (.ref (Hz.sr (PySem.W.nsIn K mainGlobals "Store")))),
  Hz.sBlt "getset_descriptor.__get__" (PySem.W.specialIn K (.builtin "object.__class__") "__get__"),
  Hz.oBl true (PySem.W.takesIn K (.builtin "object.__class__")),
  ((PySem.W.clsIn K (Hz.sr (PySem.W.nsIn K mainGlobals "Store"))).isSome && PySem.W.typeIn K (.ref (Hz.sr (PySem.W.nsIn K mainGlobals "Store"))) == some (.type "type")),
  PySem.W.noSeq K (Hz.sr (PySem.W.nsIn K mainGlobals "Store")),
  Hz.sRef (PySem.W.findIn K (.ref (Hz.sr (PySem.W.nsIn K mainGlobals "Store"))) "__call__"),
  PySem.W.fnIn K (Hz.sr (PySem.W.findIn K (.ref (Hz.sr (PySem.W.nsIn K mainGlobals "Store"))) "__call__")),
  Hz.oBl true (PySem.W.subIn K (.ref (Hz.sr (PySem.W.nsIn K mainGlobals "Store"))) (.ref (Hz.sr (PySem.W.nsIn K mainGlobals "Store")))),
  Hz.sRef (PySem.W.findIn K (.ref (Hz.sr (PySem.W.nsIn K mainGlobals "Store"))) "need_stand"),
  PySem.W.isFn K (.ref (Hz.sr (PySem.W.findIn K (.ref (Hz.sr (PySem.W.nsIn K mainGlobals "Store"))) "need_stand"))),
  PySem.W.keepIn K (.ref (Hz.sr (PySem.W.findIn K (.ref (Hz.sr (PySem.W.nsIn K mainGlobals "Store"))) "need_stand"))),
  Hz.sRef (PySem.W.findIn K (.ref (Hz.sr (PySem.W.nsIn K mainGlobals "Store"))) "led"),
  PySem.W.isFn K (.ref (Hz.sr (PySem.W.findIn K (.ref (Hz.sr (PySem.W.nsIn K mainGlobals "Store"))) "led"))),
  PySem.W.keepIn K (.ref (Hz.sr (PySem.W.findIn K (.ref (Hz.sr (PySem.W.nsIn K mainGlobals "Store"))) "led"))),
  Hz.sRef (PySem.W.findIn K (.ref (Hz.sr (PySem.W.nsIn K mainGlobals "Store"))) "need_deed"),
  PySem.W.isFn K (.ref (Hz.sr (PySem.W.findIn K (.ref (Hz.sr (PySem.W.nsIn K mainGlobals "Store"))) "need_deed")))]
def hc1 (K : PySem.W.Frag) : List Bool := [PySem.W.keepIn K (.ref (Hz.sr (PySem.W.findIn K (.ref (Hz.sr (PySem.W.nsIn K mainGlobals "Store"))) "need_deed"))),
  Hz.sRef (PySem.W.findIn K (.ref (Hz.sr (PySem.W.nsIn K mainGlobals "Store"))) "change"),
  PySem.W.isFn K (.ref (Hz.sr (PySem.W.findIn K (.ref (Hz.sr (PySem.W.nsIn K mainGlobals "Store"))) "change"))),
  PySem.W.keepIn K (.ref (Hz.sr (PySem.W.findIn K (.ref (Hz.sr (PySem.W.nsIn K mainGlobals "Store"))) "change"))),
  PySem.W.makesIn K (Hz.sr (PySem.W.nsIn K mainGlobals "Store")),
  Hz.sRef (PySem.W.findIn K (.ref (Hz.sr (PySem.W.nsIn K mainGlobals "Store"))) "__init__"),
  PySem.W.isFn K (.ref (Hz.sr (PySem.W.findIn K (.ref (Hz.sr (PySem.W.nsIn K mainGlobals "Store"))) "__init__"))),
  PySem.W.keepIn K (.ref (Hz.sr (PySem.W.nsIn K mainGlobals "Store"))),
  Hz.sRef (PySem.W.findIn K (.ref (Hz.sr (PySem.W.nsIn K mainGlobals "Store"))) "rows"),
  PySem.W.isFn K (.ref (Hz.sr (PySem.W.findIn K (.ref (Hz.sr (PySem.W.nsIn K mainGlobals "Store"))) "rows"))),
  PySem.W.keepIn K (.ref (Hz.sr (PySem.W.findIn K (.ref (Hz.sr (PySem.W.nsIn K mainGlobals "Store"))) "rows"))),
  Hz.sRef (PySem.W.findIn K (.ref (Hz.sr (PySem.W.nsIn K mainGlobals "Store"))) "twin"),
  PySem.W.isFn K (.ref (Hz.sr (PySem.W.findIn K (.ref (Hz.sr (PySem.W.nsIn K mainGlobals "Store"))) "twin"))),
  PySem.W.keepIn K (.ref (Hz.sr (PySem.W.findIn K (.ref (Hz.sr (PySem.W.nsIn K mainGlobals "Store"))) "twin"))),
  Hz.sRef (PySem.W.findIn K (.ref (Hz.sr (PySem.W.nsIn K mainGlobals "Store"))) "__setitem__"),
  PySem.W.isFn K (.ref (Hz.sr (PySem.W.findIn K (.ref (Hz.sr (PySem.W.nsIn K mainGlobals "Store"))) "__setitem__"))),
  PySem.W.keepIn K (.ref (Hz.sr (PySem.W.findIn K (.ref (Hz.sr (PySem.W.nsIn K mainGlobals "Store"))) "__setitem__"))),
  Hz.sRef (PySem.W.findIn K (.ref (Hz.sr (PySem.W.nsIn K mainGlobals "Store"))) "__call__"),
  PySem.W.isFn K (.ref (Hz.sr (PySem.W.findIn K (.ref (Hz.sr (PySem.W.nsIn K mainGlobals "Store"))) "__call__"))),
  PySem.W.keepIn K (.ref (Hz.sr (PySem.W.findIn K (.ref (Hz.sr (PySem.W.nsIn K mainGlobals "Store"))) "__call__"))),
  Hz.sRef (PySem.W.findIn K (.ref (Hz.sr (PySem.W.nsIn K mainGlobals "Store"))) "__eq__"),
  PySem.W.isFn K (.ref (Hz.sr (PySem.W.findIn K (.ref (Hz.sr (PySem.W.nsIn K mainGlobals "Store"))) "__eq__"))),
  PySem.W.keepIn K (.ref (Hz.sr (PySem.W.findIn K (.ref (Hz.sr (PySem.W.nsIn K mainGlobals "Store"))) "__eq__"))),
  Hz.sRef (PySem.W.nsIn K mainGlobals "is_number"),
  Hz.vNone (Hz.oF K (Hz.sr (PySem.W.nsIn K mainGlobals "is_number"))).defaults]
def hc2 (K : PySem.W.Frag) : List Bool := [PySem.W.codeIn K (Hz.oF K (Hz.sr (PySem.W.nsIn K mainGlobals "is_number"))).code "is_number",
  PySem.W.keepIn K (.ref (Hz.sr (PySem.W.nsIn K mainGlobals "is_number"))),
  Hz.sRef (PySem.W.nsIn K mainGlobals "is_within"),
  Hz.vNone (Hz.oF K (Hz.sr (PySem.W.nsIn K mainGlobals "is_within"))).defaults,
  PySem.W.codeIn K (Hz.oF K (Hz.sr (PySem.W.nsIn K mainGlobals "is_within"))).code "is_within",
  PySem.W.keepIn K (.ref (Hz.sr (PySem.W.nsIn K mainGlobals "is_within"))),
  Hz.sRef (PySem.W.nsIn K mainGlobals "is_log"),
  Hz.vNone (Hz.oF K (Hz.sr (PySem.W.nsIn K mainGlobals "is_log"))).defaults,
  PySem.W.codeIn K (Hz.oF K (Hz.sr (PySem.W.nsIn K mainGlobals "is_log"))).code "is_log",
  PySem.W.keepIn K (.ref (Hz.sr (PySem.W.nsIn K mainGlobals "is_log"))),
  Hz.sRef (PySem.W.nsIn K mainGlobals "is_log_of"),
  Hz.vNone (Hz.oF K (Hz.sr (PySem.W.nsIn K mainGlobals "is_log_of"))).defaults,
  PySem.W.codeIn K (Hz.oF K (Hz.sr (PySem.W.nsIn K mainGlobals "is_log_of"))).code "is_log_of",
  PySem.W.keepIn K (.ref (Hz.sr (PySem.W.nsIn K mainGlobals "is_log_of"))),
  Hz.sRef (PySem.W.nsIn K mainGlobals "is_ascending"),
  Hz.vNone (Hz.oF K (Hz.sr (PySem.W.nsIn K mainGlobals "is_ascending"))).defaults,
  PySem.W.codeIn K (Hz.oF K (Hz.sr (PySem.W.nsIn K mainGlobals "is_ascending"))).code "is_ascending",
  PySem.W.keepIn K (.ref (Hz.sr (PySem.W.nsIn K mainGlobals "is_ascending"))),
  Hz.sRef (PySem.W.nsIn K mainGlobals "is_deeds"),
  Hz.vNone (Hz.oF K (Hz.sr (PySem.W.nsIn K mainGlobals "is_deeds"))).defaults,
  PySem.W.codeIn K (Hz.oF K (Hz.sr (PySem.W.nsIn K mainGlobals "is_deeds"))).code "is_deeds",
  PySem.W.keepIn K (.ref (Hz.sr (PySem.W.nsIn K mainGlobals "is_deeds"))),
  Hz.sRef (PySem.W.nsIn K mainGlobals "need_log_of"),
  Hz.vNone (Hz.oF K (Hz.sr (PySem.W.nsIn K mainGlobals "need_log_of"))).defaults,
  PySem.W.codeIn K (Hz.oF K (Hz.sr (PySem.W.nsIn K mainGlobals "need_log_of"))).code "need_log_of"]
def hc3 (K : PySem.W.Frag) : List Bool := [PySem.W.keepIn K (.ref (Hz.sr (PySem.W.nsIn K mainGlobals "need_log_of"))),
  Hz.sRef (PySem.W.nsIn K mainGlobals "need_deeds"),
  Hz.vNone (Hz.oF K (Hz.sr (PySem.W.nsIn K mainGlobals "need_deeds"))).defaults,
  PySem.W.codeIn K (Hz.oF K (Hz.sr (PySem.W.nsIn K mainGlobals "need_deeds"))).code "need_deeds",
  PySem.W.keepIn K (.ref (Hz.sr (PySem.W.nsIn K mainGlobals "need_deeds"))),
  Hz.sRef (PySem.W.nsIn K mainGlobals "need_rows"),
  Hz.vNone (Hz.oF K (Hz.sr (PySem.W.nsIn K mainGlobals "need_rows"))).defaults,
  PySem.W.codeIn K (Hz.oF K (Hz.sr (PySem.W.nsIn K mainGlobals "need_rows"))).code "need_rows",
  PySem.W.keepIn K (.ref (Hz.sr (PySem.W.nsIn K mainGlobals "need_rows"))),
  Hz.sRef (PySem.W.nsIn K mainGlobals "place_of"),
  Hz.vNone (Hz.oF K (Hz.sr (PySem.W.nsIn K mainGlobals "place_of"))).defaults,
  PySem.W.codeIn K (Hz.oF K (Hz.sr (PySem.W.nsIn K mainGlobals "place_of"))).code "place_of",
  PySem.W.keepIn K (.ref (Hz.sr (PySem.W.nsIn K mainGlobals "place_of"))),
  Hz.vNone (Hz.oF K (Hz.sr (PySem.W.findIn K (.ref (Hz.sr (PySem.W.nsIn K mainGlobals "Store"))) "__init__"))).defaults,
  PySem.W.codeIn K (Hz.oF K (Hz.sr (PySem.W.findIn K (.ref (Hz.sr (PySem.W.nsIn K mainGlobals "Store"))) "__init__"))).code "Store.__init__",
  PySem.W.keepIn K (.ref (Hz.sr (PySem.W.findIn K (.ref (Hz.sr (PySem.W.nsIn K mainGlobals "Store"))) "__init__"))),
  Hz.vNone (Hz.oF K (Hz.sr (PySem.W.findIn K (.ref (Hz.sr (PySem.W.nsIn K mainGlobals "Store"))) "rows"))).defaults,
  PySem.W.codeIn K (Hz.oF K (Hz.sr (PySem.W.findIn K (.ref (Hz.sr (PySem.W.nsIn K mainGlobals "Store"))) "rows"))).code "Store.rows",
  Hz.vNone (Hz.oF K (Hz.sr (PySem.W.findIn K (.ref (Hz.sr (PySem.W.nsIn K mainGlobals "Store"))) "need_stand"))).defaults,
  PySem.W.codeIn K (Hz.oF K (Hz.sr (PySem.W.findIn K (.ref (Hz.sr (PySem.W.nsIn K mainGlobals "Store"))) "need_stand"))).code "Store.need_stand",
  Hz.vNone (Hz.oF K (Hz.sr (PySem.W.findIn K (.ref (Hz.sr (PySem.W.nsIn K mainGlobals "Store"))) "need_deed"))).defaults,
  PySem.W.codeIn K (Hz.oF K (Hz.sr (PySem.W.findIn K (.ref (Hz.sr (PySem.W.nsIn K mainGlobals "Store"))) "need_deed"))).code "Store.need_deed",
  Hz.vNone (Hz.oF K (Hz.sr (PySem.W.findIn K (.ref (Hz.sr (PySem.W.nsIn K mainGlobals "Store"))) "led"))).defaults,
  PySem.W.codeIn K (Hz.oF K (Hz.sr (PySem.W.findIn K (.ref (Hz.sr (PySem.W.nsIn K mainGlobals "Store"))) "led"))).code "Store.led",
  Hz.vNone (Hz.oF K (Hz.sr (PySem.W.findIn K (.ref (Hz.sr (PySem.W.nsIn K mainGlobals "Store"))) "__call__"))).defaults]
def hc4 (K : PySem.W.Frag) : List Bool := [PySem.W.codeIn K (Hz.oF K (Hz.sr (PySem.W.findIn K (.ref (Hz.sr (PySem.W.nsIn K mainGlobals "Store"))) "__call__"))).code "Store.__call__",
  Hz.vNone (Hz.oF K (Hz.sr (PySem.W.findIn K (.ref (Hz.sr (PySem.W.nsIn K mainGlobals "Store"))) "change"))).defaults,
  PySem.W.codeIn K (Hz.oF K (Hz.sr (PySem.W.findIn K (.ref (Hz.sr (PySem.W.nsIn K mainGlobals "Store"))) "change"))).code "Store.change",
  Hz.vNone (Hz.oF K (Hz.sr (PySem.W.findIn K (.ref (Hz.sr (PySem.W.nsIn K mainGlobals "Store"))) "__setitem__"))).defaults,
  PySem.W.codeIn K (Hz.oF K (Hz.sr (PySem.W.findIn K (.ref (Hz.sr (PySem.W.nsIn K mainGlobals "Store"))) "__setitem__"))).code "Store.__setitem__",
  Hz.vNone (Hz.oF K (Hz.sr (PySem.W.findIn K (.ref (Hz.sr (PySem.W.nsIn K mainGlobals "Store"))) "twin"))).defaults,
  PySem.W.codeIn K (Hz.oF K (Hz.sr (PySem.W.findIn K (.ref (Hz.sr (PySem.W.nsIn K mainGlobals "Store"))) "twin"))).code "Store.twin",
  Hz.vNone (Hz.oF K (Hz.sr (PySem.W.findIn K (.ref (Hz.sr (PySem.W.nsIn K mainGlobals "Store"))) "__eq__"))).defaults,
  PySem.W.codeIn K (Hz.oF K (Hz.sr (PySem.W.findIn K (.ref (Hz.sr (PySem.W.nsIn K mainGlobals "Store"))) "__eq__"))).code "Store.__eq__",
  Hz.sRef (PySem.W.nsIn K mainGlobals "_law_pull"),
  Hz.vNone (Hz.oF K (Hz.sr (PySem.W.nsIn K mainGlobals "_law_pull"))).defaults,
  PySem.W.codeIn K (Hz.oF K (Hz.sr (PySem.W.nsIn K mainGlobals "_law_pull"))).code "_law_pull",
  PySem.W.keepIn K (.ref (Hz.sr (PySem.W.nsIn K mainGlobals "_law_pull"))),
  Hz.sRef (PySem.W.nsIn K mainGlobals "_law_pick"),
  Hz.vNone (Hz.oF K (Hz.sr (PySem.W.nsIn K mainGlobals "_law_pick"))).defaults,
  PySem.W.codeIn K (Hz.oF K (Hz.sr (PySem.W.nsIn K mainGlobals "_law_pick"))).code "_law_pick",
  PySem.W.keepIn K (.ref (Hz.sr (PySem.W.nsIn K mainGlobals "_law_pick"))),
  Hz.sRef (PySem.W.nsIn K mainGlobals "_law_letters"),
  Hz.vNone (Hz.oF K (Hz.sr (PySem.W.nsIn K mainGlobals "_law_letters"))).defaults,
  PySem.W.codeIn K (Hz.oF K (Hz.sr (PySem.W.nsIn K mainGlobals "_law_letters"))).code "_law_letters",
  PySem.W.keepIn K (.ref (Hz.sr (PySem.W.nsIn K mainGlobals "_law_letters"))),
  Hz.sRef (PySem.W.nsIn K mainGlobals "_law_alphabet"),
  Hz.vNone (Hz.oF K (Hz.sr (PySem.W.nsIn K mainGlobals "_law_alphabet"))).defaults,
  PySem.W.codeIn K (Hz.oF K (Hz.sr (PySem.W.nsIn K mainGlobals "_law_alphabet"))).code "_law_alphabet",
  PySem.W.keepIn K (.ref (Hz.sr (PySem.W.nsIn K mainGlobals "_law_alphabet")))]
def hc5 (K : PySem.W.Frag) : List Bool := [Hz.sRef (PySem.W.nsIn K mainGlobals "_law_rows"),
  Hz.vNone (Hz.oF K (Hz.sr (PySem.W.nsIn K mainGlobals "_law_rows"))).defaults,
  PySem.W.codeIn K (Hz.oF K (Hz.sr (PySem.W.nsIn K mainGlobals "_law_rows"))).code "_law_rows",
  PySem.W.keepIn K (.ref (Hz.sr (PySem.W.nsIn K mainGlobals "_law_rows"))),
  Hz.sRef (PySem.W.nsIn K mainGlobals "_law_ask"),
  Hz.vNone (Hz.oF K (Hz.sr (PySem.W.nsIn K mainGlobals "_law_ask"))).defaults,
  PySem.W.codeIn K (Hz.oF K (Hz.sr (PySem.W.nsIn K mainGlobals "_law_ask"))).code "_law_ask",
  PySem.W.keepIn K (.ref (Hz.sr (PySem.W.nsIn K mainGlobals "_law_ask"))),
  Hz.sRef (PySem.W.nsIn K mainGlobals "_law_drawn"),
  Hz.vNone (Hz.oF K (Hz.sr (PySem.W.nsIn K mainGlobals "_law_drawn"))).defaults,
  PySem.W.codeIn K (Hz.oF K (Hz.sr (PySem.W.nsIn K mainGlobals "_law_drawn"))).code "_law_drawn",
  PySem.W.keepIn K (.ref (Hz.sr (PySem.W.nsIn K mainGlobals "_law_drawn"))),
  Hz.sRef (PySem.W.nsIn K mainGlobals "_law_same"),
  Hz.vNone (Hz.oF K (Hz.sr (PySem.W.nsIn K mainGlobals "_law_same"))).defaults,
  PySem.W.codeIn K (Hz.oF K (Hz.sr (PySem.W.nsIn K mainGlobals "_law_same"))).code "_law_same",
  PySem.W.keepIn K (.ref (Hz.sr (PySem.W.nsIn K mainGlobals "_law_same"))),
  Hz.sRef (PySem.W.nsIn K mainGlobals "_law_led"),
  Hz.vNone (Hz.oF K (Hz.sr (PySem.W.nsIn K mainGlobals "_law_led"))).defaults,
  PySem.W.codeIn K (Hz.oF K (Hz.sr (PySem.W.nsIn K mainGlobals "_law_led"))).code "_law_led",
  PySem.W.keepIn K (.ref (Hz.sr (PySem.W.nsIn K mainGlobals "_law_led"))),
  Hz.sRef (PySem.W.nsIn K mainGlobals "law"),
  (Hz.vNone (Hz.oF K (Hz.sr (PySem.W.nsIn K mainGlobals "law"))).defaults && Hz.vRef (Hz.oF K (Hz.sr (PySem.W.nsIn K mainGlobals "law"))).code),
  PySem.W.codeIn K (.ref (Hz.rf (Hz.oF K (Hz.sr (PySem.W.nsIn K mainGlobals "law"))).code)) "law",
  PySem.W.keepIn K (.ref (Hz.sr (PySem.W.nsIn K mainGlobals "law"))),
  Hz.sRef (PySem.W.nsIn K mainGlobals "_law_start")]
def hc6 (K : PySem.W.Frag) : List Bool := [Hz.vNone (Hz.oF K (Hz.sr (PySem.W.nsIn K mainGlobals "_law_start"))).defaults,
  PySem.W.codeIn K (Hz.oF K (Hz.sr (PySem.W.nsIn K mainGlobals "_law_start"))).code "_law_start",
  PySem.W.keepIn K (.ref (Hz.sr (PySem.W.nsIn K mainGlobals "_law_start"))),
  Hz.isFl K (Hz.rf (Hz.oF K (Hz.sr (PySem.W.nsIn K mainGlobals "law"))).code),
  Hz.flR (Hz.oV K (Hz.rf (Hz.oF K (Hz.sr (PySem.W.nsIn K mainGlobals "law"))).code)) 11,
  PySem.W.codeHdIn K (Hz.rf (Hz.oF K (Hz.sr (PySem.W.nsIn K mainGlobals "law"))).code) (Hz.rf ((Hz.oV K (Hz.rf (Hz.oF K (Hz.sr (PySem.W.nsIn K mainGlobals "law"))).code)).getD 11 .none)),
  Hz.isNo (K.lookup (Hz.rf ((Hz.oV K (Hz.rf (Hz.oF K (Hz.sr (PySem.W.nsIn K mainGlobals "law"))).code)).getD 11 .none))),
  Hz.sNone (PySem.W.nsIn K mainGlobals "all"),
  Hz.sNone (PySem.W.nsIn K mainGlobals "bool"),
  Hz.sNone (PySem.W.nsIn K mainGlobals "enumerate"),
  Hz.sNone (PySem.W.nsIn K mainGlobals "int"),
  Hz.sNone (PySem.W.nsIn K mainGlobals "isinstance"),
  Hz.sNone (PySem.W.nsIn K mainGlobals "len"),
  Hz.sNone (PySem.W.nsIn K mainGlobals "list"),
  Hz.sNone (PySem.W.nsIn K mainGlobals "min"),
  Hz.sNone (PySem.W.nsIn K mainGlobals "range"),
  Hz.sNone (PySem.W.nsIn K mainGlobals "str"),
  Hz.sNone (PySem.W.nsIn K mainGlobals "tuple"),
  Hz.sStr (SS [97, 98, 99, 100, 101, 102, 103, 104, 105, 106, 107, 108, 109, 110, 111, 112, 113, 114, 115, 116, 117, 118, 119, 120, 121, 122]) (PySem.W.nsIn K mainGlobals "LETTERS"),
  Hz.sInt 8 (PySem.W.nsIn K mainGlobals "MOST_DEEDS"),
  Hz.sInt 120 (PySem.W.nsIn K mainGlobals "MOST_STANDS"),
  Hz.sRef (PySem.W.nsIn K mainGlobals "LogError"),
  Hz.sRef (PySem.W.nsIn K mainGlobals "Missing"),
  Hz.sRef (PySem.W.nsIn K mainGlobals "InvalidDeed"),
  Hz.sRef (PySem.W.nsIn K mainGlobals "InvalidDeeds")]
def hc7 (K : PySem.W.Frag) : List Bool := [Hz.sRef (PySem.W.nsIn K mainGlobals "InvalidLog"),
  Hz.sRef (PySem.W.nsIn K mainGlobals "InvalidStep"),
  Hz.sRef (PySem.W.nsIn K mainGlobals "InvalidStore"),
  Hz.sRef (PySem.W.nsIn K mainGlobals "InvalidStand"),
  Hz.sRef (PySem.W.nsIn K mainGlobals "InvalidNumber"),
  Hz.sRef (PySem.W.nsIn K mainGlobals "InvalidCount"),
  Hz.sRef (PySem.W.nsIn K mainGlobals "TooMany"),
  Hz.sRef (PySem.W.nsIn K mainGlobals "NothingLeft"),
  Hz.excB K (Hz.sr (PySem.W.nsIn K mainGlobals "InvalidDeed")) "ValueError.__new__",
  PySem.HandSPX.refsVE ((Hz.oK K (Hz.sr (PySem.W.nsIn K mainGlobals "InvalidDeed"))).mro.drop 1),
  Hz.sBlt "object.__setattr__" (PySem.W.findIn K (.ref (Hz.sr (PySem.W.nsIn K mainGlobals "InvalidDeed"))) "__setattr__"),
  Hz.sBlt "BaseException.__getattribute__" (PySem.W.findIn K (.ref (Hz.sr (PySem.W.nsIn K mainGlobals "InvalidDeed"))) "__getattribute__"),
  Hz.sNone (PySem.W.findIn K (.ref (Hz.sr (PySem.W.nsIn K mainGlobals "InvalidDeed"))) "__getattr__"),
  Hz.sNone (PySem.W.findIn K (.ref (Hz.sr (PySem.W.nsIn K mainGlobals "InvalidDeed"))) "given"),
  Hz.sNone (PySem.W.findIn K (.ref (Hz.sr (PySem.W.nsIn K mainGlobals "InvalidDeed"))) "tag"),
  PySem.W.keepIn K (.ref (Hz.sr (PySem.W.nsIn K mainGlobals "InvalidDeed"))),
  Hz.oBl true (PySem.W.subIn K (.ref (Hz.sr (PySem.W.nsIn K mainGlobals "InvalidDeed"))) (.type "BaseException")),
  Hz.oBl true (PySem.W.subIn K (.ref (Hz.sr (PySem.W.nsIn K mainGlobals "InvalidDeed"))) (.type "ValueError")),
  Hz.oTyp "type" (PySem.W.typeIn K (.ref (Hz.sr (PySem.W.nsIn K mainGlobals "InvalidDeed")))),
  PySem.W.hasDictIn K (Hz.sr (PySem.W.nsIn K mainGlobals "InvalidDeed")),
  Hz.sRef (PySem.W.findIn K (.ref (Hz.sr (PySem.W.nsIn K mainGlobals "InvalidDeed"))) "__init__"),
  Hz.oTyp "function" (PySem.W.typeIn K (.ref (Hz.sr (PySem.W.findIn K (.ref (Hz.sr (PySem.W.nsIn K mainGlobals "InvalidDeed"))) "__init__")))),
  (Hz.vNone (Hz.oF K (Hz.sr (PySem.W.findIn K (.ref (Hz.sr (PySem.W.nsIn K mainGlobals "InvalidDeed"))) "__init__"))).defaults && (Hz.vNone (Hz.oF K (Hz.sr (PySem.W.findIn K (.ref (Hz.sr (PySem.W.nsIn K mainGlobals "InvalidDeed"))) "__init__"))).kwdefaults && Hz.vRef (Hz.oF K (Hz.sr (PySem.W.findIn K (.ref (Hz.sr (PySem.W.nsIn K mainGlobals "InvalidDeed"))) "__init__"))).code)),
  PySem.W.codeIn K (.ref (Hz.rf (Hz.oF K (Hz.sr (PySem.W.findIn K (.ref (Hz.sr (PySem.W.nsIn K mainGlobals "InvalidDeed"))) "__init__"))).code)) "InvalidDeed.__init__",
  Hz.isFl K (Hz.rf (Hz.oF K (Hz.sr (PySem.W.findIn K (.ref (Hz.sr (PySem.W.nsIn K mainGlobals "InvalidDeed"))) "__init__"))).code)]
def hc8 (K : PySem.W.Frag) : List Bool := [Hz.flS (Hz.oV K (Hz.rf (Hz.oF K (Hz.sr (PySem.W.findIn K (.ref (Hz.sr (PySem.W.nsIn K mainGlobals "InvalidDeed"))) "__init__"))).code)) 2,
  ((PySem.Challenge.pw_replaylog_k23_stores_changed.main.file : PySem.Str) == (Hz.strV ((Hz.oV K (Hz.rf (Hz.oF K (Hz.sr (PySem.W.findIn K (.ref (Hz.sr (PySem.W.nsIn K mainGlobals "InvalidDeed"))) "__init__"))).code)).getD 2 .none))),
  Hz.isCell K (Hz.ccOf (Hz.oF K (Hz.sr (PySem.W.findIn K (.ref (Hz.sr (PySem.W.nsIn K mainGlobals "InvalidDeed"))) "__init__")))) (Hz.sr (PySem.W.nsIn K mainGlobals "InvalidDeed")),
  Hz.oBl true (PySem.W.mroIn K (Hz.sr (PySem.W.nsIn K mainGlobals "InvalidDeed")) (.ref (Hz.sr (PySem.W.nsIn K mainGlobals "InvalidDeed")))),
  Hz.sBlt "ValueError.__init__" (PySem.W.ks_superIn K (Hz.sr (PySem.W.nsIn K mainGlobals "InvalidDeed")) (Hz.sr (PySem.W.nsIn K mainGlobals "InvalidDeed")) "__init__"),
  Hz.excB K (Hz.sr (PySem.W.nsIn K mainGlobals "InvalidDeeds")) "ValueError.__new__",
  PySem.HandSPX.refsVE ((Hz.oK K (Hz.sr (PySem.W.nsIn K mainGlobals "InvalidDeeds"))).mro.drop 1),
  Hz.sBlt "object.__setattr__" (PySem.W.findIn K (.ref (Hz.sr (PySem.W.nsIn K mainGlobals "InvalidDeeds"))) "__setattr__"),
  Hz.sBlt "BaseException.__getattribute__" (PySem.W.findIn K (.ref (Hz.sr (PySem.W.nsIn K mainGlobals "InvalidDeeds"))) "__getattribute__"),
  Hz.sNone (PySem.W.findIn K (.ref (Hz.sr (PySem.W.nsIn K mainGlobals "InvalidDeeds"))) "__getattr__"),
  Hz.sNone (PySem.W.findIn K (.ref (Hz.sr (PySem.W.nsIn K mainGlobals "InvalidDeeds"))) "given"),
  Hz.sNone (PySem.W.findIn K (.ref (Hz.sr (PySem.W.nsIn K mainGlobals "InvalidDeeds"))) "tag"),
  PySem.W.keepIn K (.ref (Hz.sr (PySem.W.nsIn K mainGlobals "InvalidDeeds"))),
  Hz.oBl true (PySem.W.subIn K (.ref (Hz.sr (PySem.W.nsIn K mainGlobals "InvalidDeeds"))) (.type "BaseException")),
  Hz.oBl true (PySem.W.subIn K (.ref (Hz.sr (PySem.W.nsIn K mainGlobals "InvalidDeeds"))) (.type "ValueError")),
  Hz.oTyp "type" (PySem.W.typeIn K (.ref (Hz.sr (PySem.W.nsIn K mainGlobals "InvalidDeeds")))),
  PySem.W.hasDictIn K (Hz.sr (PySem.W.nsIn K mainGlobals "InvalidDeeds")),
  Hz.sRef (PySem.W.findIn K (.ref (Hz.sr (PySem.W.nsIn K mainGlobals "InvalidDeeds"))) "__init__"),
  Hz.oTyp "function" (PySem.W.typeIn K (.ref (Hz.sr (PySem.W.findIn K (.ref (Hz.sr (PySem.W.nsIn K mainGlobals "InvalidDeeds"))) "__init__")))),
  (Hz.vNone (Hz.oF K (Hz.sr (PySem.W.findIn K (.ref (Hz.sr (PySem.W.nsIn K mainGlobals "InvalidDeeds"))) "__init__"))).defaults && (Hz.vNone (Hz.oF K (Hz.sr (PySem.W.findIn K (.ref (Hz.sr (PySem.W.nsIn K mainGlobals "InvalidDeeds"))) "__init__"))).kwdefaults && Hz.vRef (Hz.oF K (Hz.sr (PySem.W.findIn K (.ref (Hz.sr (PySem.W.nsIn K mainGlobals "InvalidDeeds"))) "__init__"))).code)),
  PySem.W.codeIn K (.ref (Hz.rf (Hz.oF K (Hz.sr (PySem.W.findIn K (.ref (Hz.sr (PySem.W.nsIn K mainGlobals "InvalidDeeds"))) "__init__"))).code)) "InvalidDeeds.__init__",
  Hz.isFl K (Hz.rf (Hz.oF K (Hz.sr (PySem.W.findIn K (.ref (Hz.sr (PySem.W.nsIn K mainGlobals "InvalidDeeds"))) "__init__"))).code),
  Hz.flS (Hz.oV K (Hz.rf (Hz.oF K (Hz.sr (PySem.W.findIn K (.ref (Hz.sr (PySem.W.nsIn K mainGlobals "InvalidDeeds"))) "__init__"))).code)) 2,
  ((PySem.Challenge.pw_replaylog_k23_stores_changed.main.file : PySem.Str) == (Hz.strV ((Hz.oV K (Hz.rf (Hz.oF K (Hz.sr (PySem.W.findIn K (.ref (Hz.sr (PySem.W.nsIn K mainGlobals "InvalidDeeds"))) "__init__"))).code)).getD 2 .none))),
  Hz.isCell K (Hz.ccOf (Hz.oF K (Hz.sr (PySem.W.findIn K (.ref (Hz.sr (PySem.W.nsIn K mainGlobals "InvalidDeeds"))) "__init__")))) (Hz.sr (PySem.W.nsIn K mainGlobals "InvalidDeeds"))]
def hc9 (K : PySem.W.Frag) : List Bool := [Hz.oBl true (PySem.W.mroIn K (Hz.sr (PySem.W.nsIn K mainGlobals "InvalidDeeds")) (.ref (Hz.sr (PySem.W.nsIn K mainGlobals "InvalidDeeds")))),
  Hz.sBlt "ValueError.__init__" (PySem.W.ks_superIn K (Hz.sr (PySem.W.nsIn K mainGlobals "InvalidDeeds")) (Hz.sr (PySem.W.nsIn K mainGlobals "InvalidDeeds")) "__init__"),
  Hz.excB K (Hz.sr (PySem.W.nsIn K mainGlobals "InvalidLog")) "ValueError.__new__",
  PySem.HandSPX.refsVE ((Hz.oK K (Hz.sr (PySem.W.nsIn K mainGlobals "InvalidLog"))).mro.drop 1),
  Hz.sBlt "object.__setattr__" (PySem.W.findIn K (.ref (Hz.sr (PySem.W.nsIn K mainGlobals "InvalidLog"))) "__setattr__"),
  Hz.sBlt "BaseException.__getattribute__" (PySem.W.findIn K (.ref (Hz.sr (PySem.W.nsIn K mainGlobals "InvalidLog"))) "__getattribute__"),
  Hz.sNone (PySem.W.findIn K (.ref (Hz.sr (PySem.W.nsIn K mainGlobals "InvalidLog"))) "__getattr__"),
  Hz.sNone (PySem.W.findIn K (.ref (Hz.sr (PySem.W.nsIn K mainGlobals "InvalidLog"))) "given"),
  Hz.sNone (PySem.W.findIn K (.ref (Hz.sr (PySem.W.nsIn K mainGlobals "InvalidLog"))) "tag"),
  PySem.W.keepIn K (.ref (Hz.sr (PySem.W.nsIn K mainGlobals "InvalidLog"))),
  Hz.oBl true (PySem.W.subIn K (.ref (Hz.sr (PySem.W.nsIn K mainGlobals "InvalidLog"))) (.type "BaseException")),
  Hz.oBl true (PySem.W.subIn K (.ref (Hz.sr (PySem.W.nsIn K mainGlobals "InvalidLog"))) (.type "ValueError")),
  Hz.oTyp "type" (PySem.W.typeIn K (.ref (Hz.sr (PySem.W.nsIn K mainGlobals "InvalidLog")))),
  PySem.W.hasDictIn K (Hz.sr (PySem.W.nsIn K mainGlobals "InvalidLog")),
  Hz.sRef (PySem.W.findIn K (.ref (Hz.sr (PySem.W.nsIn K mainGlobals "InvalidLog"))) "__init__"),
  Hz.oTyp "function" (PySem.W.typeIn K (.ref (Hz.sr (PySem.W.findIn K (.ref (Hz.sr (PySem.W.nsIn K mainGlobals "InvalidLog"))) "__init__")))),
  (Hz.vNone (Hz.oF K (Hz.sr (PySem.W.findIn K (.ref (Hz.sr (PySem.W.nsIn K mainGlobals "InvalidLog"))) "__init__"))).defaults && (Hz.vNone (Hz.oF K (Hz.sr (PySem.W.findIn K (.ref (Hz.sr (PySem.W.nsIn K mainGlobals "InvalidLog"))) "__init__"))).kwdefaults && Hz.vRef (Hz.oF K (Hz.sr (PySem.W.findIn K (.ref (Hz.sr (PySem.W.nsIn K mainGlobals "InvalidLog"))) "__init__"))).code)),
  PySem.W.codeIn K (.ref (Hz.rf (Hz.oF K (Hz.sr (PySem.W.findIn K (.ref (Hz.sr (PySem.W.nsIn K mainGlobals "InvalidLog"))) "__init__"))).code)) "InvalidLog.__init__",
  Hz.isFl K (Hz.rf (Hz.oF K (Hz.sr (PySem.W.findIn K (.ref (Hz.sr (PySem.W.nsIn K mainGlobals "InvalidLog"))) "__init__"))).code),
  Hz.flS (Hz.oV K (Hz.rf (Hz.oF K (Hz.sr (PySem.W.findIn K (.ref (Hz.sr (PySem.W.nsIn K mainGlobals "InvalidLog"))) "__init__"))).code)) 2,
  ((PySem.Challenge.pw_replaylog_k23_stores_changed.main.file : PySem.Str) == (Hz.strV ((Hz.oV K (Hz.rf (Hz.oF K (Hz.sr (PySem.W.findIn K (.ref (Hz.sr (PySem.W.nsIn K mainGlobals "InvalidLog"))) "__init__"))).code)).getD 2 .none))),
  Hz.isCell K (Hz.ccOf (Hz.oF K (Hz.sr (PySem.W.findIn K (.ref (Hz.sr (PySem.W.nsIn K mainGlobals "InvalidLog"))) "__init__")))) (Hz.sr (PySem.W.nsIn K mainGlobals "InvalidLog")),
  Hz.oBl true (PySem.W.mroIn K (Hz.sr (PySem.W.nsIn K mainGlobals "InvalidLog")) (.ref (Hz.sr (PySem.W.nsIn K mainGlobals "InvalidLog")))),
  Hz.sBlt "ValueError.__init__" (PySem.W.ks_superIn K (Hz.sr (PySem.W.nsIn K mainGlobals "InvalidLog")) (Hz.sr (PySem.W.nsIn K mainGlobals "InvalidLog")) "__init__"),
  Hz.excB K (Hz.sr (PySem.W.nsIn K mainGlobals "InvalidStand")) "ValueError.__new__"]
def hc10 (K : PySem.W.Frag) : List Bool := [PySem.HandSPX.refsVE ((Hz.oK K (Hz.sr (PySem.W.nsIn K mainGlobals "InvalidStand"))).mro.drop 1),
  Hz.sBlt "object.__setattr__" (PySem.W.findIn K (.ref (Hz.sr (PySem.W.nsIn K mainGlobals "InvalidStand"))) "__setattr__"),
  Hz.sBlt "BaseException.__getattribute__" (PySem.W.findIn K (.ref (Hz.sr (PySem.W.nsIn K mainGlobals "InvalidStand"))) "__getattribute__"),
  Hz.sNone (PySem.W.findIn K (.ref (Hz.sr (PySem.W.nsIn K mainGlobals "InvalidStand"))) "__getattr__"),
  Hz.sNone (PySem.W.findIn K (.ref (Hz.sr (PySem.W.nsIn K mainGlobals "InvalidStand"))) "given"),
  Hz.sNone (PySem.W.findIn K (.ref (Hz.sr (PySem.W.nsIn K mainGlobals "InvalidStand"))) "tag"),
  PySem.W.keepIn K (.ref (Hz.sr (PySem.W.nsIn K mainGlobals "InvalidStand"))),
  Hz.oBl true (PySem.W.subIn K (.ref (Hz.sr (PySem.W.nsIn K mainGlobals "InvalidStand"))) (.type "BaseException")),
  Hz.oBl true (PySem.W.subIn K (.ref (Hz.sr (PySem.W.nsIn K mainGlobals "InvalidStand"))) (.type "ValueError")),
  Hz.oTyp "type" (PySem.W.typeIn K (.ref (Hz.sr (PySem.W.nsIn K mainGlobals "InvalidStand")))),
  PySem.W.hasDictIn K (Hz.sr (PySem.W.nsIn K mainGlobals "InvalidStand")),
  Hz.sRef (PySem.W.findIn K (.ref (Hz.sr (PySem.W.nsIn K mainGlobals "InvalidStand"))) "__init__"),
  Hz.oTyp "function" (PySem.W.typeIn K (.ref (Hz.sr (PySem.W.findIn K (.ref (Hz.sr (PySem.W.nsIn K mainGlobals "InvalidStand"))) "__init__")))),
  (Hz.vNone (Hz.oF K (Hz.sr (PySem.W.findIn K (.ref (Hz.sr (PySem.W.nsIn K mainGlobals "InvalidStand"))) "__init__"))).defaults && (Hz.vNone (Hz.oF K (Hz.sr (PySem.W.findIn K (.ref (Hz.sr (PySem.W.nsIn K mainGlobals "InvalidStand"))) "__init__"))).kwdefaults && Hz.vRef (Hz.oF K (Hz.sr (PySem.W.findIn K (.ref (Hz.sr (PySem.W.nsIn K mainGlobals "InvalidStand"))) "__init__"))).code)),
  PySem.W.codeIn K (.ref (Hz.rf (Hz.oF K (Hz.sr (PySem.W.findIn K (.ref (Hz.sr (PySem.W.nsIn K mainGlobals "InvalidStand"))) "__init__"))).code)) "InvalidStand.__init__",
  Hz.isFl K (Hz.rf (Hz.oF K (Hz.sr (PySem.W.findIn K (.ref (Hz.sr (PySem.W.nsIn K mainGlobals "InvalidStand"))) "__init__"))).code),
  Hz.flS (Hz.oV K (Hz.rf (Hz.oF K (Hz.sr (PySem.W.findIn K (.ref (Hz.sr (PySem.W.nsIn K mainGlobals "InvalidStand"))) "__init__"))).code)) 2,
  ((PySem.Challenge.pw_replaylog_k23_stores_changed.main.file : PySem.Str) == (Hz.strV ((Hz.oV K (Hz.rf (Hz.oF K (Hz.sr (PySem.W.findIn K (.ref (Hz.sr (PySem.W.nsIn K mainGlobals "InvalidStand"))) "__init__"))).code)).getD 2 .none))),
  Hz.isCell K (Hz.ccOf (Hz.oF K (Hz.sr (PySem.W.findIn K (.ref (Hz.sr (PySem.W.nsIn K mainGlobals "InvalidStand"))) "__init__")))) (Hz.sr (PySem.W.nsIn K mainGlobals "InvalidStand")),
  Hz.oBl true (PySem.W.mroIn K (Hz.sr (PySem.W.nsIn K mainGlobals "InvalidStand")) (.ref (Hz.sr (PySem.W.nsIn K mainGlobals "InvalidStand")))),
  Hz.sBlt "ValueError.__init__" (PySem.W.ks_superIn K (Hz.sr (PySem.W.nsIn K mainGlobals "InvalidStand")) (Hz.sr (PySem.W.nsIn K mainGlobals "InvalidStand")) "__init__"),
  Hz.excB K (Hz.sr (PySem.W.nsIn K mainGlobals "InvalidStore")) "ValueError.__new__",
  PySem.HandSPX.refsVE ((Hz.oK K (Hz.sr (PySem.W.nsIn K mainGlobals "InvalidStore"))).mro.drop 1),
  Hz.sBlt "object.__setattr__" (PySem.W.findIn K (.ref (Hz.sr (PySem.W.nsIn K mainGlobals "InvalidStore"))) "__setattr__"),
  Hz.sBlt "BaseException.__getattribute__" (PySem.W.findIn K (.ref (Hz.sr (PySem.W.nsIn K mainGlobals "InvalidStore"))) "__getattribute__")]
def hc11 (K : PySem.W.Frag) : List Bool := [Hz.sNone (PySem.W.findIn K (.ref (Hz.sr (PySem.W.nsIn K mainGlobals "InvalidStore"))) "__getattr__"),
  Hz.sNone (PySem.W.findIn K (.ref (Hz.sr (PySem.W.nsIn K mainGlobals "InvalidStore"))) "index"),
  Hz.sNone (PySem.W.findIn K (.ref (Hz.sr (PySem.W.nsIn K mainGlobals "InvalidStore"))) "tag"),
  PySem.W.keepIn K (.ref (Hz.sr (PySem.W.nsIn K mainGlobals "InvalidStore"))),
  Hz.oBl true (PySem.W.subIn K (.ref (Hz.sr (PySem.W.nsIn K mainGlobals "InvalidStore"))) (.type "BaseException")),
  Hz.oBl true (PySem.W.subIn K (.ref (Hz.sr (PySem.W.nsIn K mainGlobals "InvalidStore"))) (.type "ValueError")),
  Hz.oTyp "type" (PySem.W.typeIn K (.ref (Hz.sr (PySem.W.nsIn K mainGlobals "InvalidStore")))),
  PySem.W.hasDictIn K (Hz.sr (PySem.W.nsIn K mainGlobals "InvalidStore")),
  Hz.sRef (PySem.W.findIn K (.ref (Hz.sr (PySem.W.nsIn K mainGlobals "InvalidStore"))) "__init__"),
  Hz.oTyp "function" (PySem.W.typeIn K (.ref (Hz.sr (PySem.W.findIn K (.ref (Hz.sr (PySem.W.nsIn K mainGlobals "InvalidStore"))) "__init__")))),
  (Hz.vNone (Hz.oF K (Hz.sr (PySem.W.findIn K (.ref (Hz.sr (PySem.W.nsIn K mainGlobals "InvalidStore"))) "__init__"))).defaults && (Hz.vNone (Hz.oF K (Hz.sr (PySem.W.findIn K (.ref (Hz.sr (PySem.W.nsIn K mainGlobals "InvalidStore"))) "__init__"))).kwdefaults && Hz.vRef (Hz.oF K (Hz.sr (PySem.W.findIn K (.ref (Hz.sr (PySem.W.nsIn K mainGlobals "InvalidStore"))) "__init__"))).code)),
  PySem.W.codeIn K (.ref (Hz.rf (Hz.oF K (Hz.sr (PySem.W.findIn K (.ref (Hz.sr (PySem.W.nsIn K mainGlobals "InvalidStore"))) "__init__"))).code)) "InvalidStore.__init__",
  Hz.isFl K (Hz.rf (Hz.oF K (Hz.sr (PySem.W.findIn K (.ref (Hz.sr (PySem.W.nsIn K mainGlobals "InvalidStore"))) "__init__"))).code),
  Hz.flS (Hz.oV K (Hz.rf (Hz.oF K (Hz.sr (PySem.W.findIn K (.ref (Hz.sr (PySem.W.nsIn K mainGlobals "InvalidStore"))) "__init__"))).code)) 2,
  ((PySem.Challenge.pw_replaylog_k23_stores_changed.main.file : PySem.Str) == (Hz.strV ((Hz.oV K (Hz.rf (Hz.oF K (Hz.sr (PySem.W.findIn K (.ref (Hz.sr (PySem.W.nsIn K mainGlobals "InvalidStore"))) "__init__"))).code)).getD 2 .none))),
  Hz.isCell K (Hz.ccOf (Hz.oF K (Hz.sr (PySem.W.findIn K (.ref (Hz.sr (PySem.W.nsIn K mainGlobals "InvalidStore"))) "__init__")))) (Hz.sr (PySem.W.nsIn K mainGlobals "InvalidStore")),
  Hz.oBl true (PySem.W.mroIn K (Hz.sr (PySem.W.nsIn K mainGlobals "InvalidStore")) (.ref (Hz.sr (PySem.W.nsIn K mainGlobals "InvalidStore")))),
  Hz.sBlt "ValueError.__init__" (PySem.W.ks_superIn K (Hz.sr (PySem.W.nsIn K mainGlobals "InvalidStore")) (Hz.sr (PySem.W.nsIn K mainGlobals "InvalidStore")) "__init__"),
  Hz.excB K (Hz.sr (PySem.W.nsIn K mainGlobals "TooMany")) "ValueError.__new__",
  PySem.HandSPX.refsVE ((Hz.oK K (Hz.sr (PySem.W.nsIn K mainGlobals "TooMany"))).mro.drop 1),
  Hz.sBlt "object.__setattr__" (PySem.W.findIn K (.ref (Hz.sr (PySem.W.nsIn K mainGlobals "TooMany"))) "__setattr__"),
  Hz.sBlt "BaseException.__getattribute__" (PySem.W.findIn K (.ref (Hz.sr (PySem.W.nsIn K mainGlobals "TooMany"))) "__getattribute__"),
  Hz.sNone (PySem.W.findIn K (.ref (Hz.sr (PySem.W.nsIn K mainGlobals "TooMany"))) "__getattr__"),
  Hz.sNone (PySem.W.findIn K (.ref (Hz.sr (PySem.W.nsIn K mainGlobals "TooMany"))) "most"),
  Hz.sNone (PySem.W.findIn K (.ref (Hz.sr (PySem.W.nsIn K mainGlobals "TooMany"))) "tag")]
def hc12 (K : PySem.W.Frag) : List Bool := [PySem.W.keepIn K (.ref (Hz.sr (PySem.W.nsIn K mainGlobals "TooMany"))),
  Hz.oBl true (PySem.W.subIn K (.ref (Hz.sr (PySem.W.nsIn K mainGlobals "TooMany"))) (.type "BaseException")),
  Hz.oBl true (PySem.W.subIn K (.ref (Hz.sr (PySem.W.nsIn K mainGlobals "TooMany"))) (.type "ValueError")),
  Hz.oTyp "type" (PySem.W.typeIn K (.ref (Hz.sr (PySem.W.nsIn K mainGlobals "TooMany")))),
  PySem.W.hasDictIn K (Hz.sr (PySem.W.nsIn K mainGlobals "TooMany")),
  Hz.sRef (PySem.W.findIn K (.ref (Hz.sr (PySem.W.nsIn K mainGlobals "TooMany"))) "__init__"),
  Hz.oTyp "function" (PySem.W.typeIn K (.ref (Hz.sr (PySem.W.findIn K (.ref (Hz.sr (PySem.W.nsIn K mainGlobals "TooMany"))) "__init__")))),
  (Hz.vNone (Hz.oF K (Hz.sr (PySem.W.findIn K (.ref (Hz.sr (PySem.W.nsIn K mainGlobals "TooMany"))) "__init__"))).defaults && (Hz.vNone (Hz.oF K (Hz.sr (PySem.W.findIn K (.ref (Hz.sr (PySem.W.nsIn K mainGlobals "TooMany"))) "__init__"))).kwdefaults && Hz.vRef (Hz.oF K (Hz.sr (PySem.W.findIn K (.ref (Hz.sr (PySem.W.nsIn K mainGlobals "TooMany"))) "__init__"))).code)),
  PySem.W.codeIn K (.ref (Hz.rf (Hz.oF K (Hz.sr (PySem.W.findIn K (.ref (Hz.sr (PySem.W.nsIn K mainGlobals "TooMany"))) "__init__"))).code)) "TooMany.__init__",
  Hz.isFl K (Hz.rf (Hz.oF K (Hz.sr (PySem.W.findIn K (.ref (Hz.sr (PySem.W.nsIn K mainGlobals "TooMany"))) "__init__"))).code),
  Hz.flS (Hz.oV K (Hz.rf (Hz.oF K (Hz.sr (PySem.W.findIn K (.ref (Hz.sr (PySem.W.nsIn K mainGlobals "TooMany"))) "__init__"))).code)) 2,
  ((PySem.Challenge.pw_replaylog_k23_stores_changed.main.file : PySem.Str) == (Hz.strV ((Hz.oV K (Hz.rf (Hz.oF K (Hz.sr (PySem.W.findIn K (.ref (Hz.sr (PySem.W.nsIn K mainGlobals "TooMany"))) "__init__"))).code)).getD 2 .none))),
  Hz.isCell K (Hz.ccOf (Hz.oF K (Hz.sr (PySem.W.findIn K (.ref (Hz.sr (PySem.W.nsIn K mainGlobals "TooMany"))) "__init__")))) (Hz.sr (PySem.W.nsIn K mainGlobals "TooMany")),
  Hz.oBl true (PySem.W.mroIn K (Hz.sr (PySem.W.nsIn K mainGlobals "TooMany")) (.ref (Hz.sr (PySem.W.nsIn K mainGlobals "TooMany")))),
  Hz.sBlt "ValueError.__init__" (PySem.W.ks_superIn K (Hz.sr (PySem.W.nsIn K mainGlobals "TooMany")) (Hz.sr (PySem.W.nsIn K mainGlobals "TooMany")) "__init__"),
  Hz.sNone (PySem.W.nsIn K cStatics "thirdparty.any"),
  Hz.sNone (PySem.W.nsIn K mainGlobals "super"),
  Hz.oBl true (PySem.W.exmOne K (.ref (Hz.sr (PySem.W.nsIn K mainGlobals "InvalidDeed"))) (.ref (Hz.sr (PySem.W.nsIn K mainGlobals "InvalidDeed")))),
  Hz.oBl false (PySem.W.exmOne K (.ref (Hz.sr (PySem.W.nsIn K mainGlobals "InvalidDeed"))) (.ref (Hz.sr (PySem.W.nsIn K mainGlobals "InvalidDeeds")))),
  Hz.oBl false (PySem.W.exmOne K (.ref (Hz.sr (PySem.W.nsIn K mainGlobals "InvalidDeed"))) (.ref (Hz.sr (PySem.W.nsIn K mainGlobals "InvalidLog")))),
  Hz.oBl false (PySem.W.exmOne K (.ref (Hz.sr (PySem.W.nsIn K mainGlobals "InvalidDeed"))) (.ref (Hz.sr (PySem.W.nsIn K mainGlobals "InvalidStand")))),
  Hz.oBl false (PySem.W.exmOne K (.ref (Hz.sr (PySem.W.nsIn K mainGlobals "InvalidDeed"))) (.ref (Hz.sr (PySem.W.nsIn K mainGlobals "InvalidNumber")))),
  Hz.oBl false (PySem.W.exmOne K (.ref (Hz.sr (PySem.W.nsIn K mainGlobals "InvalidDeed"))) (.ref (Hz.sr (PySem.W.nsIn K mainGlobals "InvalidCount")))),
  Hz.oBl false (PySem.W.exmOne K (.ref (Hz.sr (PySem.W.nsIn K mainGlobals "InvalidDeeds"))) (.ref (Hz.sr (PySem.W.nsIn K mainGlobals "InvalidDeed")))),
  Hz.oBl true (PySem.W.exmOne K (.ref (Hz.sr (PySem.W.nsIn K mainGlobals "InvalidDeeds"))) (.ref (Hz.sr (PySem.W.nsIn K mainGlobals "InvalidDeeds"))))]
def hc13 (K : PySem.W.Frag) : List Bool := [Hz.oBl false (PySem.W.exmOne K (.ref (Hz.sr (PySem.W.nsIn K mainGlobals "InvalidDeeds"))) (.ref (Hz.sr (PySem.W.nsIn K mainGlobals "InvalidLog")))),
  Hz.oBl false (PySem.W.exmOne K (.ref (Hz.sr (PySem.W.nsIn K mainGlobals "InvalidDeeds"))) (.ref (Hz.sr (PySem.W.nsIn K mainGlobals "InvalidStand")))),
  Hz.oBl false (PySem.W.exmOne K (.ref (Hz.sr (PySem.W.nsIn K mainGlobals "InvalidDeeds"))) (.ref (Hz.sr (PySem.W.nsIn K mainGlobals "InvalidNumber")))),
  Hz.oBl false (PySem.W.exmOne K (.ref (Hz.sr (PySem.W.nsIn K mainGlobals "InvalidDeeds"))) (.ref (Hz.sr (PySem.W.nsIn K mainGlobals "InvalidCount")))),
  Hz.oBl false (PySem.W.exmOne K (.ref (Hz.sr (PySem.W.nsIn K mainGlobals "InvalidLog"))) (.ref (Hz.sr (PySem.W.nsIn K mainGlobals "InvalidDeed")))),
  Hz.oBl false (PySem.W.exmOne K (.ref (Hz.sr (PySem.W.nsIn K mainGlobals "InvalidLog"))) (.ref (Hz.sr (PySem.W.nsIn K mainGlobals "InvalidDeeds")))),
  Hz.oBl true (PySem.W.exmOne K (.ref (Hz.sr (PySem.W.nsIn K mainGlobals "InvalidLog"))) (.ref (Hz.sr (PySem.W.nsIn K mainGlobals "InvalidLog")))),
  Hz.oBl false (PySem.W.exmOne K (.ref (Hz.sr (PySem.W.nsIn K mainGlobals "InvalidLog"))) (.ref (Hz.sr (PySem.W.nsIn K mainGlobals "InvalidStand")))),
  Hz.oBl false (PySem.W.exmOne K (.ref (Hz.sr (PySem.W.nsIn K mainGlobals "InvalidLog"))) (.ref (Hz.sr (PySem.W.nsIn K mainGlobals "InvalidNumber")))),
  Hz.oBl false (PySem.W.exmOne K (.ref (Hz.sr (PySem.W.nsIn K mainGlobals "InvalidLog"))) (.ref (Hz.sr (PySem.W.nsIn K mainGlobals "InvalidCount")))),
  Hz.oBl false (PySem.W.exmOne K (.ref (Hz.sr (PySem.W.nsIn K mainGlobals "InvalidStand"))) (.ref (Hz.sr (PySem.W.nsIn K mainGlobals "InvalidDeed")))),
  Hz.oBl false (PySem.W.exmOne K (.ref (Hz.sr (PySem.W.nsIn K mainGlobals "InvalidStand"))) (.ref (Hz.sr (PySem.W.nsIn K mainGlobals "InvalidDeeds")))),
  Hz.oBl false (PySem.W.exmOne K (.ref (Hz.sr (PySem.W.nsIn K mainGlobals "InvalidStand"))) (.ref (Hz.sr (PySem.W.nsIn K mainGlobals "InvalidLog")))),
  Hz.oBl true (PySem.W.exmOne K (.ref (Hz.sr (PySem.W.nsIn K mainGlobals "InvalidStand"))) (.ref (Hz.sr (PySem.W.nsIn K mainGlobals "InvalidStand")))),
  Hz.oBl false (PySem.W.exmOne K (.ref (Hz.sr (PySem.W.nsIn K mainGlobals "InvalidStand"))) (.ref (Hz.sr (PySem.W.nsIn K mainGlobals "InvalidNumber")))),
  Hz.oBl false (PySem.W.exmOne K (.ref (Hz.sr (PySem.W.nsIn K mainGlobals "InvalidStand"))) (.ref (Hz.sr (PySem.W.nsIn K mainGlobals "InvalidCount")))),
  Hz.oBl false (PySem.W.exmOne K (.ref (Hz.sr (PySem.W.nsIn K mainGlobals "InvalidStore"))) (.ref (Hz.sr (PySem.W.nsIn K mainGlobals "InvalidDeed")))),
  Hz.oBl false (PySem.W.exmOne K (.ref (Hz.sr (PySem.W.nsIn K mainGlobals "InvalidStore"))) (.ref (Hz.sr (PySem.W.nsIn K mainGlobals "InvalidDeeds")))),
  Hz.oBl false (PySem.W.exmOne K (.ref (Hz.sr (PySem.W.nsIn K mainGlobals "InvalidStore"))) (.ref (Hz.sr (PySem.W.nsIn K mainGlobals "InvalidLog")))),
  Hz.oBl false (PySem.W.exmOne K (.ref (Hz.sr (PySem.W.nsIn K mainGlobals "InvalidStore"))) (.ref (Hz.sr (PySem.W.nsIn K mainGlobals "InvalidStand")))),
  Hz.oBl false (PySem.W.exmOne K (.ref (Hz.sr (PySem.W.nsIn K mainGlobals "InvalidStore"))) (.ref (Hz.sr (PySem.W.nsIn K mainGlobals "InvalidNumber")))),
  Hz.oBl false (PySem.W.exmOne K (.ref (Hz.sr (PySem.W.nsIn K mainGlobals "InvalidStore"))) (.ref (Hz.sr (PySem.W.nsIn K mainGlobals "InvalidCount")))),
  Hz.oBl false (PySem.W.exmOne K (.ref (Hz.sr (PySem.W.nsIn K mainGlobals "TooMany"))) (.ref (Hz.sr (PySem.W.nsIn K mainGlobals "InvalidDeed")))),
  Hz.oBl false (PySem.W.exmOne K (.ref (Hz.sr (PySem.W.nsIn K mainGlobals "TooMany"))) (.ref (Hz.sr (PySem.W.nsIn K mainGlobals "InvalidDeeds")))),
  Hz.oBl false (PySem.W.exmOne K (.ref (Hz.sr (PySem.W.nsIn K mainGlobals "TooMany"))) (.ref (Hz.sr (PySem.W.nsIn K mainGlobals "InvalidLog"))))]
def hc14 (K : PySem.W.Frag) : List Bool := [Hz.oBl false (PySem.W.exmOne K (.ref (Hz.sr (PySem.W.nsIn K mainGlobals "TooMany"))) (.ref (Hz.sr (PySem.W.nsIn K mainGlobals "InvalidStand")))),
  Hz.oBl false (PySem.W.exmOne K (.ref (Hz.sr (PySem.W.nsIn K mainGlobals "TooMany"))) (.ref (Hz.sr (PySem.W.nsIn K mainGlobals "InvalidNumber")))),
  Hz.oBl false (PySem.W.exmOne K (.ref (Hz.sr (PySem.W.nsIn K mainGlobals "TooMany"))) (.ref (Hz.sr (PySem.W.nsIn K mainGlobals "InvalidCount"))))]
def hchk (K : PySem.W.Frag) : List (List Bool) := (([hc0 K, hc1 K, hc2 K, hc3 K, hc4 K, hc5 K, hc6 K, hc7 K, hc8 K, hc9 K, hc10 K, hc11 K] : List (List Bool)) ++ ([hc12 K, hc13 K, hc14 K] : List (List Bool)))
def hf0 (K : PySem.W.Frag) : List Hz.FnZ := [Hz.fnZ K (Hz.sr (PySem.W.nsIn K mainGlobals "is_number")) 0,
  Hz.fnZ K (Hz.sr (PySem.W.nsIn K mainGlobals "is_within")) 0,
  Hz.fnZ K (Hz.sr (PySem.W.nsIn K mainGlobals "is_log")) 0,
  Hz.fnZ K (Hz.sr (PySem.W.nsIn K mainGlobals "is_log_of")) 0,
  Hz.fnZ K (Hz.sr (PySem.W.nsIn K mainGlobals "is_ascending")) 0,
  Hz.fnZ K (Hz.sr (PySem.W.nsIn K mainGlobals "is_deeds")) 0,
  Hz.fnZ K (Hz.sr (PySem.W.nsIn K mainGlobals "need_log_of")) 0,
  Hz.fnZ K (Hz.sr (PySem.W.nsIn K mainGlobals "need_deeds")) 0,
  Hz.fnZ K (Hz.sr (PySem.W.nsIn K mainGlobals "need_rows")) 0,
  Hz.fnZ K (Hz.sr (PySem.W.nsIn K mainGlobals "place_of")) 0,
  Hz.fnZ K (Hz.sr (PySem.W.findIn K (.ref (Hz.sr (PySem.W.nsIn K mainGlobals "Store"))) "__init__")) 0,
  Hz.fnZ K (Hz.sr (PySem.W.findIn K (.ref (Hz.sr (PySem.W.nsIn K mainGlobals "Store"))) "rows")) 0,
  Hz.fnZ K (Hz.sr (PySem.W.findIn K (.ref (Hz.sr (PySem.W.nsIn K mainGlobals "Store"))) "need_stand")) 0,
  Hz.fnZ K (Hz.sr (PySem.W.findIn K (.ref (Hz.sr (PySem.W.nsIn K mainGlobals "Store"))) "need_deed")) 0,
  Hz.fnZ K (Hz.sr (PySem.W.findIn K (.ref (Hz.sr (PySem.W.nsIn K mainGlobals "Store"))) "led")) 0,
  Hz.fnZ K (Hz.sr (PySem.W.findIn K (.ref (Hz.sr (PySem.W.nsIn K mainGlobals "Store"))) "__call__")) 0,
  Hz.fnZ K (Hz.sr (PySem.W.findIn K (.ref (Hz.sr (PySem.W.nsIn K mainGlobals "Store"))) "change")) 0,
  Hz.fnZ K (Hz.sr (PySem.W.findIn K (.ref (Hz.sr (PySem.W.nsIn K mainGlobals "Store"))) "__setitem__")) 0,
  Hz.fnZ K (Hz.sr (PySem.W.findIn K (.ref (Hz.sr (PySem.W.nsIn K mainGlobals "Store"))) "twin")) 0,
  Hz.fnZ K (Hz.sr (PySem.W.findIn K (.ref (Hz.sr (PySem.W.nsIn K mainGlobals "Store"))) "__eq__")) 0,
  Hz.fnZ K (Hz.sr (PySem.W.nsIn K mainGlobals "_law_pull")) 0,
  Hz.fnZ K (Hz.sr (PySem.W.nsIn K mainGlobals "_law_pick")) 0,
  Hz.fnZ K (Hz.sr (PySem.W.nsIn K mainGlobals "_law_letters")) 0,
  Hz.fnZ K (Hz.sr (PySem.W.nsIn K mainGlobals "_law_alphabet")) 0,
  Hz.fnZ K (Hz.sr (PySem.W.nsIn K mainGlobals "_law_rows")) 0]
def hv0 : List Hz.FnZ := [Hz.fnW "is_number" "is_number" (htop 17),
  Hz.fnW "is_within" "is_within" (htop 18),
  Hz.fnW "is_log" "is_log" (htop 19),
  Hz.fnW "is_log_of" "is_log_of" (htop 20),
  Hz.fnW "is_ascending" "is_ascending" (htop 21),
  Hz.fnW "is_deeds" "is_deeds" (htop 22),
  Hz.fnW "need_log_of" "need_log_of" (htop 23),
  Hz.fnW "need_deeds" "need_deeds" (htop 26),
  Hz.fnW "need_rows" "need_rows" (htop 27),
  Hz.fnW "place_of" "place_of" (htop 28),
  Hz.fnW "__init__" "Store.__init__" (L2.inClass (htop 29) 1),
  Hz.fnW "rows" "Store.rows" (L2.inClass (htop 29) 4),
  Hz.fnW "need_stand" "Store.need_stand" (L2.inClass (htop 29) 5),
  Hz.fnW "need_deed" "Store.need_deed" (L2.inClass (htop 29) 6),
  Hz.fnW "led" "Store.led" (L2.inClass (htop 29) 7),
  Hz.fnW "__call__" "Store.__call__" (L2.inClass (htop 29) 8),
  Hz.fnW "change" "Store.change" (L2.inClass (htop 29) 12),
  Hz.fnW "__setitem__" "Store.__setitem__" (L2.inClass (htop 29) 10),
  Hz.fnW "twin" "Store.twin" (L2.inClass (htop 29) 14),
  Hz.fnW "__eq__" "Store.__eq__" (L2.inClass (htop 29) 16),
  Hz.fnW "_law_pull" "_law_pull" (htop 32),
  Hz.fnW "_law_pick" "_law_pick" (htop 33),
  Hz.fnW "_law_letters" "_law_letters" (htop 34),
  Hz.fnW "_law_alphabet" "_law_alphabet" (htop 35),
  Hz.fnW "_law_rows" "_law_rows" (htop 36)]
def hf1 (K : PySem.W.Frag) : List Hz.FnZ := [Hz.fnZ K (Hz.sr (PySem.W.nsIn K mainGlobals "_law_ask")) 0,
  Hz.fnZ K (Hz.sr (PySem.W.nsIn K mainGlobals "_law_drawn")) 0,
  Hz.fnZ K (Hz.sr (PySem.W.nsIn K mainGlobals "_law_same")) 0,
  Hz.fnZ K (Hz.sr (PySem.W.nsIn K mainGlobals "_law_led")) 0,
  Hz.fnZ K (Hz.sr (PySem.W.nsIn K mainGlobals "law")) 0,
  Hz.fnZ K (Hz.sr (PySem.W.nsIn K mainGlobals "_law_start")) 0,
  Hz.fnZ K (Hz.sr (PySem.W.findIn K (.ref (Hz.sr (PySem.W.nsIn K mainGlobals "InvalidDeed"))) "__init__")) 1,
  Hz.fnZ K (Hz.sr (PySem.W.findIn K (.ref (Hz.sr (PySem.W.nsIn K mainGlobals "InvalidDeeds"))) "__init__")) 1,
  Hz.fnZ K (Hz.sr (PySem.W.findIn K (.ref (Hz.sr (PySem.W.nsIn K mainGlobals "InvalidLog"))) "__init__")) 1,
  Hz.fnZ K (Hz.sr (PySem.W.findIn K (.ref (Hz.sr (PySem.W.nsIn K mainGlobals "InvalidStand"))) "__init__")) 1,
  Hz.fnZ K (Hz.sr (PySem.W.findIn K (.ref (Hz.sr (PySem.W.nsIn K mainGlobals "InvalidStore"))) "__init__")) 1,
  Hz.fnZ K (Hz.sr (PySem.W.findIn K (.ref (Hz.sr (PySem.W.nsIn K mainGlobals "TooMany"))) "__init__")) 1]
def hv1 : List Hz.FnZ := [Hz.fnW "_law_ask" "_law_ask" (htop 37),
  Hz.fnW "_law_drawn" "_law_drawn" (htop 38),
  Hz.fnW "_law_same" "_law_same" (htop 39),
  Hz.fnW "_law_led" "_law_led" (htop 40),
  Hz.fnW "law" "law" (htop 41),
  Hz.fnW "_law_start" "_law_start" (htop 31),
  Hz.fnW "__init__" "InvalidDeed.__init__" (L2.inClass (htop 4) 0),
  Hz.fnW "__init__" "InvalidDeeds.__init__" (L2.inClass (htop 5) 0),
  Hz.fnW "__init__" "InvalidLog.__init__" (L2.inClass (htop 6) 0),
  Hz.fnW "__init__" "InvalidStand.__init__" (L2.inClass (htop 9) 0),
  Hz.fnW "__init__" "InvalidStore.__init__" (L2.inClass (htop 8) 0),
  Hz.fnW "__init__" "TooMany.__init__" (L2.inClass (htop 12) 0)]
def hfs (K : PySem.W.Frag) : List Hz.FnZ := hf0 K ++ hf1 K
def hvs : List Hz.FnZ := hv0 ++ hv1
def hts (K : PySem.W.Frag) : List Addr := (([(Hz.rf ((Hz.oV K (Hz.rf (Hz.oF K (Hz.sr (PySem.W.nsIn K mainGlobals "law"))).code)).getD 11 .none))] : List Addr))
abbrev hR : PySem.W.OpenRow := PySem.W.OpenLaw.row PySem.Challenge.rw_replaylog_k23_stores_changed
abbrev hq : Program := PySem.W.view hR.prog [41]
def hnames : List PySem.Str := ((["_wall", "LogError", "Missing", "InvalidDeed", "InvalidDeeds", "InvalidLog", "InvalidStep", "InvalidStore", "InvalidStand", "InvalidNumber", "InvalidCount", "TooMany"] : List PySem.Str) ++ (["NothingLeft", "LETTERS", "MOST_DEEDS", "is_number", "is_within", "is_log", "is_log_of", "is_ascending", "is_deeds", "need_log_of", "MOST_STANDS", "need_deeds"] : List PySem.Str) ++ (["need_rows", "place_of", "Store", "_law_start", "_law_pull", "_law_pick", "_law_letters", "_law_alphabet", "_law_rows", "_law_ask", "_law_drawn", "_law_same"] : List PySem.Str) ++ (["_law_led"] : List PySem.Str))
abbrev hws : List Addr := [mainGlobals, cStatics]
abbrev hhk : PySem.W.Hook := Hz.hookZ hchk hfs hvs hts hws 0
def hob (s : PySem.W.SharedT) : Hz.AlZ := Hz.obZ hchk hfs hts hws 0 s
theorem hob_eq (s : PySem.W.SharedT) : hob s = hhk.obs s.abs := Hz.obZ_eq s
theorem ra (w : World) (os : OsState) : (HandSHeadRun.endF (HandSHeadRun.stepQ (HandSHeadRun.denQ HandSHeadRun.tabQ) hR.prog w) 20000 hR.prog w os).map (fun s => ((fun s => HandSHeadRun.looksF hR.prog (PySem.W.boot_heap (PySem.World.params w)) s.abs) s, (fun s => HandSHeadRun.seenQ hq hnames (importedModules hR.prog.main.body) (fun s => PySem.W.xlAt hq [] s && PySem.W.recOk hR.toRowW.records s) s.abs) s)) = some (true, PySem.W.openGood hq hnames) := by kernel_rfl
theorem rb (w : World) (os : OsState) : (HandSHeadRun.endF (HandSHeadRun.stepQ (HandSHeadRun.denQ HandSHeadRun.tabQ) hR.prog w) 20000 hR.prog w os).map hob = some (hhk.val w) := by kernel_rfl
theorem run (w : World) : HandSHeadRun.RunEq hR hq hhk hob 20000 hnames w := fun os => Hz.run3 (Hz.run2 (ra w os)).1 (Hz.run2 (ra w os)).2 (rb w os)
theorem hrun (w : World) : HandSHeadRun.RunEq hR hq hhk hob 20000 hnames w := run w
end H23
set_option Elab.async false
set_option linter.all false
set_option maxRecDepth 100000
set_option maxHeartbeats 2000000
namespace PL
open PySem L2
abbrev SS (s : List Nat) : PySem.Str := ⟨s.toArray⟩
/-- pure data -/
inductive D where
  | non | bl (b : Bool) | int (i : Int) | str (s : List Nat)
  | lst (xs : List D) | tup (xs : List D) | dct (kvs : List (Key × D))
  | ins (C : Addr) (fs : List (PySem.Str × D))
  /-- an instance with slots -/
  | sl (C : Addr) (vs : List D)
  /-- an own class -/
  | cls (C : Addr)
  | ty (n : String) | bag
  /-- the script -/
  | scr
  /-- the cells of the bag, at l -/
  | cel (l : Addr) (ns : List Int)
  /-- a list that is known not to be changed (marked in the pure part) -/
  | frl (ds : List D)
/-- the mark of a list -/
def nob : Obj := { cls := .none, data := .seq #[] 0 }
/-- .. of one that may be changed once more -/
def nobF : Obj := { cls := .none, data := .seq #[] 1 }
/-- the state of the bag at b, its cells at l -/
def BagRaw (b l : Addr) (n : Nat) (h : Heap) : Prop :=
  ∃ (sz : Nat) (i : Nat) (g s : Int) (t1 t2 t3 : Tok), i ≤ n ∧ 0 ≤ g ∧ 0 ≤ s ∧ s < 2147483543 ∧
    h.get? b = some { cls := .type "list", data := .seq #[.ref l, .int i t1, .int g t2, .int s t3] sz }
def BagAt (G : Hp) (b : Addr) : Prop := ∃ (l : Addr) (ns : List Int), G b = some (.ext (BagRaw b l ns.length)) ∧ G l = some (.frz nob (.lst (ns.map V.int))) ∧ b ≠ l ∧ ns.length ≤ 63
mutual
/-- v stands for d over the heap G -/
inductive Den (K : PySem.W.Frag) (G : Hp) : V → D → Prop
  | non : Den K G .non .non
  | bl (b : Bool) : Den K G (.bl b) (.bl b)
  | int (i : Int) : Den K G (.int i) (.int i)
  | str (s : List Nat) : Den K G (.str (SS s)) (.str s)
  | ty (n : String) : Den K G (.ty n) (.ty n)
  | lst {a : Addr} {xs : List V} {ds : List D} : G a = some (.lst xs) → DenL K G xs ds → Den K G (.ref a) (.lst ds)
  | tup {a : Addr} {xs : List V} {ds : List D} : SqT K G a xs → DenL K G xs ds → Den K G (.ref a) (.tup ds)
  | dct {a : Addr} {kvs : List (Key × V)} {ds : List (Key × D)} : G a = some (.dK kvs) → DenK K G kvs ds → Den K G (.ref a) (.dct ds)
  | ins {a C dx : Addr} {fvs : List (PySem.Str × V)} {fs : List (PySem.Str × D)} : G a = some (.ins C dx fvs) → G dx = some (.own a) → DenF K G fvs fs → Den K G (.ref a) (.ins C fs)
  | sl {a C dx : Addr} {vs : List V} {ds : List D} : G a = some (SlX.SlO a C dx (vs.map some)) → G dx = some (.xd []) → DenL K G vs ds → Den K G (.ref a) (.sl C ds)
  | cls (C : Addr) : Den K G (.ref C) (.cls C)
  | bag {a : Addr} : BagAt G a → Den K G (.ref a) .bag
  | cel {l : Addr} {ns : List Int} : G l = some (.frz nob (.lst (ns.map V.int))) → Den K G (.ref l) (.cel l ns)
  | frl {a : Addr} {xs : List V} {ds : List D} : G a = some (.frz nobF (.lst xs)) → DenL K G xs ds → Den K G (.ref a) (.frl ds)
  | scr {a : Addr} {ns : List Int} : SqL K G a (ns.map V.int) → ns.length ≤ 63 → Den K G (.ref a) .scr
inductive DenL (K : PySem.W.Frag) (G : Hp) : List V → List D → Prop
  | nil : DenL K G [] []
  | cons {v : V} {vs : List V} {d : D} {ds : List D} : Den K G v d → DenL K G vs ds → DenL K G (v :: vs) (d :: ds)
inductive DenK (K : PySem.W.Frag) (G : Hp) : List (Key × V) → List (Key × D) → Prop
  | nil : DenK K G [] []
  | cons {k : Key} {v : V} {vs : List (Key × V)} {d : D} {ds : List (Key × D)} : Den K G v d → DenK K G vs ds → DenK K G ((k, v) :: vs) ((k, d) :: ds)
inductive DenF (K : PySem.W.Frag) (G : Hp) : List (PySem.Str × V) → List (PySem.Str × D) → Prop
  | nil : DenF K G [] []
  | cons {f : PySem.Str} {v : V} {vs : List (PySem.Str × V)} {d : D} {ds : List (PySem.Str × D)} : Den K G v d → DenF K G vs ds → DenF K G ((f, v) :: vs) ((f, d) :: ds)
end
theorem rd_same {H H' : Hp} {a : Addr} {u : HO} (e : Same H H') (h : Rd H a u) : Rd H' a u := by
  rcases h with h | ⟨o, h⟩
  · exact Or.inl (e a _ h)
  · exact Or.inr ⟨o, e a _ h⟩
theorem sqt_same {K : PySem.W.Frag} {H H' : Hp} {a : Addr} {xs : List V} (e : Same H H') (h : SqT K H a xs) : SqT K H' a xs := by
  rcases h with h | h
  · exact Or.inl (rd_same e h)
  · exact Or.inr h
theorem bag_same {H H' : Hp} {a : Addr} (e : Same H H') (h : BagAt H a) : BagAt H' a := by
  obtain ⟨l, ns, h1, h2, h3⟩ := h
  exact ⟨l, ns, e _ _ h1, e _ _ h2, h3⟩
section
variable {K : PySem.W.Frag} {G G' : Hp}
mutual
theorem Den.mono (e : Same G G') : ∀ (d : D) (v : V), Den K G v d → Den K G' v d
  | .non, _, h => by cases h; exact .non
  | .bl b, _, h => by cases h; exact .bl b
  | .int b, _, h => by cases h; exact .int b
  | .str b, _, h => by cases h; exact .str b
  | .ty b, _, h => by cases h; exact .ty b
  | .lst ds, _, h => by
    cases h with
    | lst h1 h2 => exact .lst (e _ _ h1) (DenL.mono e _ _ h2)
  | .tup ds, _, h => by
    cases h with
    | tup h1 h2 => exact .tup (sqt_same e h1) (DenL.mono e _ _ h2)
  | .dct ds, _, h => by
    cases h with
    | dct h1 h2 => exact .dct (e _ _ h1) (DenK.mono e _ _ h2)
  | .ins C fs, _, h => by
    cases h with
    | ins h1 h2 h3 => exact .ins (e _ _ h1) (e _ _ h2) (DenF.mono e _ _ h3)
  | .sl C ds, _, h => by
    cases h with
    | sl h1 h2 h3 => exact .sl (e _ _ h1) (e _ _ h2) (DenL.mono e _ _ h3)
  | .cls C, _, h => by cases h; exact .cls C
  | .bag, _, h => by
    cases h with
    | bag h1 => exact .bag (bag_same e h1)
  | .scr, _, h => by
    cases h with
    | scr h1 h2 => exact .scr (e.seq h1) h2
  | .cel l ns, _, h => by
    cases h with
    | cel h1 => exact .cel (e _ _ h1)
  | .frl ds, _, h => by
    cases h with
    | frl h1 h2 => exact .frl (e _ _ h1) (DenL.mono e _ _ h2)
theorem DenL.mono (e : Same G G') : ∀ (ds : List D) (vs : List V), DenL K G vs ds → DenL K G' vs ds
  | [], _, h => by cases h; exact .nil
  | d :: ds, _, h => by
    cases h with
    | cons h1 h2 => exact .cons (Den.mono e _ _ h1) (DenL.mono e _ _ h2)
theorem DenK.mono (e : Same G G') : ∀ (ds : List (Key × D)) (vs : List (Key × V)), DenK K G vs ds → DenK K G' vs ds
  | [], _, h => by cases h; exact .nil
  | (k, d) :: ds, _, h => by
    cases h with
    | cons h1 h2 => exact .cons (Den.mono e _ _ h1) (DenK.mono e _ _ h2)
theorem DenF.mono (e : Same G G') : ∀ (ds : List (PySem.Str × D)) (vs : List (PySem.Str × V)), DenF K G vs ds → DenF K G' vs ds
  | [], _, h => by cases h; exact .nil
  | (k, d) :: ds, _, h => by
    cases h with
    | cons h1 h2 => exact .cons (Den.mono e _ _ h1) (DenF.mono e _ _ h2)
end
theorem Den.up {v : V} {d : D} (h : Den K G v d) (e : Same G G') : Den K G' v d := Den.mono e d v h
theorem DenL.up {v : List V} {d : List D} (h : DenL K G v d) (e : Same G G') : DenL K G' v d := DenL.mono e d v h
theorem DenK.up {v : List (Key × V)} {d : List (Key × D)} (h : DenK K G v d) (e : Same G G') : DenK K G' v d := DenK.mono e d v h
theorem DenF.up {v : List (PySem.Str × V)} {d : List (PySem.Str × D)} (h : DenF K G v d) (e : Same G G') : DenF K G' v d := DenF.mono e d v h
theorem DenL.length : ∀ {vs : List V} {ds : List D}, DenL K G vs ds → vs.length = ds.length
  | _, _, .nil => rfl
  | _, _, .cons _ t => by rw [List.length_cons, List.length_cons, DenL.length t]
theorem DenL.get : ∀ {vs : List V} {ds : List D} {i : Nat} {d : D}, DenL K G vs ds → ds[i]? = some d → ∃ v, vs[i]? = some v ∧ Den K G v d
  | _, _, _, _, .nil, e => by simp at e
  | _, _, 0, _, .cons r _, e => by simp at e; subst e; exact ⟨_, rfl, r⟩
  | _, _, i + 1, x, .cons _ t, e => by
    obtain ⟨u, h1, h2⟩ := DenL.get (i := i) t (by simpa using e)
    exact ⟨u, by simpa using h1, h2⟩
theorem DenL.gv : ∀ {vs : List V} {ds : List D} {i : Nat} {v : V}, DenL K G vs ds → vs[i]? = some v → ∃ d, ds[i]? = some d ∧ Den K G v d
  | _, _, _, _, .nil, e => by simp at e
  | _, _, 0, _, .cons r _, e => by simp at e; subst e; exact ⟨_, rfl, r⟩
  | _, _, i + 1, x, .cons _ t, e => by
    obtain ⟨u, h1, h2⟩ := DenL.gv (i := i) t (by simpa using e)
    exact ⟨u, by simpa using h1, h2⟩
theorem DenL.append : ∀ {vs ws : List V} {ds es : List D}, DenL K G vs ds → DenL K G ws es → DenL K G (vs ++ ws) (ds ++ es)
  | _, _, _, _, .nil, t => t
  | _, _, _, _, .cons r s, t => .cons r (DenL.append s t)
theorem DenL.set {v : V} {d : D} (r : Den K G v d) : ∀ {vs : List V} {ds : List D} (i : Nat), DenL K G vs ds → DenL K G (vs.set i v) (ds.set i d)
  | _, _, _, .nil => .nil
  | _, _, 0, .cons _ t => .cons r t
  | _, _, i + 1, .cons q t => .cons q (DenL.set r i t)
theorem DenL.take : ∀ {vs : List V} {ds : List D} (n : Nat), DenL K G vs ds → DenL K G (vs.take n) (ds.take n)
  | _, _, 0, _ => .nil
  | _, _, _ + 1, .nil => .nil
  | _, _, n + 1, .cons r t => .cons r (DenL.take n t)
theorem DenL.drop : ∀ {vs : List V} {ds : List D} (n : Nat), DenL K G vs ds → DenL K G (vs.drop n) (ds.drop n)
  | _, _, 0, r => r
  | _, _, _ + 1, .nil => .nil
  | _, _, n + 1, .cons _ t => DenL.drop n t
theorem DenL.erase : ∀ {vs : List V} {ds : List D} (n : Nat), DenL K G vs ds → DenL K G (vs.eraseIdx n) (ds.eraseIdx n)
  | _, _, _, .nil => .nil
  | _, _, 0, .cons _ t => t
  | _, _, n + 1, .cons r t => .cons r (DenL.erase n t)
theorem DenF.get : ∀ {vs : List (PySem.Str × V)} {ds : List (PySem.Str × D)} {f : PySem.Str} {d : D}, DenF K G vs ds → ds.lookup f = some d → ∃ v, vs.lookup f = some v ∧ Den K G v d
  | _, _, _, _, .nil, e => by cases e
  | _, _, f, d, .cons (f := g) r t, e => by
    rw [List.lookup_cons] at e ⊢
    cases hb : f == g with
    | true =>
      rw [hb] at e
      cases e
      exact ⟨_, rfl, r⟩
    | false =>
      rw [hb] at e
      exact DenF.get t e
theorem DenF.no : ∀ {vs : List (PySem.Str × V)} {ds : List (PySem.Str × D)} {f : PySem.Str}, DenF K G vs ds → ds.lookup f = none → vs.lookup f = none
  | _, _, _, .nil, _ => rfl
  | _, _, f, .cons (f := g) r t, e => by
    rw [List.lookup_cons] at e ⊢
    cases hb : f == g with
    | true =>
      rw [hb] at e
      cases e
    | false =>
      rw [hb] at e
      exact DenF.no t e
theorem DenF.length : ∀ {vs : List (PySem.Str × V)} {ds : List (PySem.Str × D)}, DenF K G vs ds → vs.length = ds.length
  | _, _, .nil => rfl
  | _, _, .cons _ t => by rw [List.length_cons, List.length_cons, DenF.length t]
end
def LikeD : HO → Prop
  | .dK _ => True
  | .dT _ => True
  | .frz _ (.lst _) => True
  | _ => False
/-- how an object stands that is seen as o: a dict may be locked; a marked list is a list -/
def Tg (x : Option HO) : HO → Prop
  | .frz _ (.lst xs) => x = some (.lst xs)
  | o => ∃ ob, x = some (.frz ob o)
/-- the tables of code objects that are written (lambdas), and the name that each one's code bears -/
class Tabl where
  T : List (Addr × PySem.Str)
  uniq : ∀ p ∈ T, ∀ q ∈ T, p.1 = q.1 → p.2 = q.2
variable [Tabl]
/-- no table of code objects -/
abbrev NT (o : HO) : Prop := ∀ ps, o ≠ .tbl ps
/-- the pure part stands in H (a dict may be locked); no table of code objects is pure -/
structure Sub (G H : Hp) : Prop where
  m : ∀ a o, G a = some o → H a = some o ∨ (LikeD o ∧ Tg (H a) o)
  nt : ∀ a o, G a = some o → NT o
  tb : LamX.Tabs Tabl.T H
/-- what is tracked stays, but tables of code objects may grow -/
structure Up (H H' : Hp) : Prop where
  k : ∀ b o, H b = some o → NT o → H' b = some o
  t : ∀ b o, H b = some o → ∃ o', H' b = some o'
  tb : LamX.Tabs Tabl.T H → LamX.Tabs Tabl.T H'
theorem Up.of {H H' : Hp} (e : Same H H') : Up H H' := ⟨fun b o h _ => e b o h, fun b o h => ⟨o, e b o h⟩, fun t => t.ext e⟩
theorem Up.refl (H : Hp) : Up H H := .of (Same.refl H)
theorem Up.trans {H H1 H2 : Hp} (a : Up H H1) (b : Up H1 H2) : Up H H2 :=
  ⟨fun x o h n => b.k x o (a.k x o h n) n, fun x o h => let ⟨o1, h1⟩ := a.t x o h; b.t x o1 h1, fun t => b.tb (a.tb t)⟩
theorem Up.free {H H' : Hp} (a : Up H H') {p : Addr} (h : H' p = none) : H p = none := by
  cases e : H p with
  | none => rfl
  | some o =>
    obtain ⟨o', q⟩ := a.t p o e
    rw [q] at h
    cases h
theorem Up.lst {H H' : Hp} (a : Up H H') {p : Addr} {xs : List V} (h : H p = some (.lst xs)) : H' p = some (.lst xs) := a.k _ _ h fun _ z => nomatch z
theorem Up.dK {H H' : Hp} (a : Up H H') {p : Addr} {xs : List (Key × V)} (h : H p = some (.dK xs)) : H' p = some (.dK xs) := a.k _ _ h fun _ z => nomatch z
theorem Tg.cases {H : Hp} {a : Addr} {o : HO} (h : Tg (H a) o) : (∃ ob xs, o = .frz ob (.lst xs) ∧ H a = some (.lst xs)) ∨ ∃ ob, H a = some (.frz ob o) := by
  cases o with
  | frz ob u =>
    cases u with
    | lst xs => exact .inl ⟨ob, xs, rfl, h⟩
    | _ => exact .inr h
  | _ => exact .inr h
theorem Tg.of {H H' : Hp} {a : Addr} {o : HO} (h : Tg (H a) o) (e : ∀ u, H a = some u → (∀ ps, u ≠ .tbl ps) → H' a = some u) : Tg (H' a) o := by
  cases o with
  | frz ob u =>
    cases u with
    | lst xs => exact e _ h fun _ z => nomatch z
    | _ =>
      obtain ⟨ob, h⟩ := h
      exact ⟨ob, e _ h fun _ z => nomatch z⟩
  | _ =>
    obtain ⟨ob, h⟩ := h
    exact ⟨ob, e _ h fun _ z => nomatch z⟩
theorem Sub.there {G H : Hp} (s : Sub G H) {a : Addr} {o : HO} (h : G a = some o) : ∃ u, H a = some u := by
  rcases s.m a o h with h | ⟨_, h⟩
  · exact ⟨_, h⟩
  · rcases h.cases with ⟨_, _, _, h⟩ | ⟨_, h⟩ <;> exact ⟨_, h⟩
theorem Sub.at_ {G H : Hp} (s : Sub G H) {a : Addr} {o : HO} (h : G a = some o) (n : ¬ LikeD o) : H a = some o := by
  rcases s.m a o h with h | ⟨z, _⟩
  · exact h
  · exact absurd z n
theorem Sub.rd {G H : Hp} (s : Sub G H) {a : Addr} {o : HO} (h : G a = some o) (n : ∀ ob xs, o ≠ .frz ob (.lst xs) := by intro _ _ z; cases z) : Rd H a o := by
  rcases s.m a o h with h | ⟨_, h⟩
  · exact .inl h
  · rcases h.cases with ⟨ob, xs, e, _⟩ | ⟨ob, h⟩
    · exact absurd e (n ob xs)
    · exact .inr ⟨ob, h⟩
theorem Sub.tgl {G H : Hp} (s : Sub G H) {a : Addr} {ob : Obj} {xs : List V} (h : G a = some (.frz ob (.lst xs))) : Rd H a (.lst xs) := by
  rcases s.m a _ h with h | ⟨_, h⟩
  · exact .inr ⟨ob, h⟩
  · exact .inl h
theorem Sub.up' {G H H' : Hp} (s : Sub G H) (e : Up H H') : Sub G H' := ⟨fun a o h => by
  rcases s.m a o h with h2 | ⟨z, h2⟩
  · exact .inl (e.k _ _ h2 (s.nt a o h))
  · exact .inr ⟨z, h2.of fun u hu nt => e.k _ _ hu nt⟩, s.nt, e.tb s.tb⟩
theorem Sub.up {G H H' : Hp} (s : Sub G H) (e : Same H H') : Sub G H' := s.up' (.of e)
theorem Sub.sql {K : PySem.W.Frag} {G H : Hp} (s : Sub G H) {a : Addr} {xs : List V} (h : SqL K G a xs) : SqL K H a xs := by
  rcases h with (h | ⟨o, h⟩) | h
  · exact .inl (.inl (s.at_ h (fun z => z)))
  · exact .inl (s.tgl h)
  · exact .inr h
theorem Sub.sqt {K : PySem.W.Frag} {G H : Hp} (s : Sub G H) {a : Addr} {xs : List V} (h : SqT K G a xs) : SqT K H a xs := by
  rcases h with (h | ⟨o, h⟩) | h
  · exact .inl (.inl (s.at_ h (fun z => z)))
  · exact .inl (.inr ⟨o, s.at_ h (fun z => z)⟩)
  · exact .inr h
theorem Sub.none {G H : Hp} (s : Sub G H) {a : Addr} (h : H a = none) : G a = none := by
  cases e : G a with
  | none => rfl
  | some o =>
    obtain ⟨u, q⟩ := s.there e
    rw [q] at h
    cases h
/-- from (G, H) to (G', H') -/
structure Ext (G H G' H' : Hp) : Prop where
  h : Up H H'
  g : Same G G'
  nw : ∀ a, G a = none → (∃ o, H a = some o) → G' a = none
  sub : Sub G' H'
theorem Ext.refl {G H : Hp} (s : Sub G H) : Ext G H G H := ⟨Up.refl H, Same.refl G, fun _ h _ => h, s⟩
theorem Ext.trans {G H G1 H1 G2 H2 : Hp} (a : Ext G H G1 H1) (b : Ext G1 H1 G2 H2) : Ext G H G2 H2 :=
  ⟨a.h.trans b.h, a.g.trans b.g, fun x h ⟨o, q⟩ => b.nw x (a.nw x h ⟨o, q⟩) (a.h.t _ _ q), b.sub⟩
theorem same_upd {H : Hp} {p : Addr} {o : HO} (h : H p = none) : Same H (upd H p o) := fun a u e => by
  rw [upd_ne (ne_of_none e h)]
  exact e
/-- a new object that is not pure -/
theorem Ext.beside {G H : Hp} (s : Sub G H) {p : Addr} {o : HO} (h : H p = none) : Ext G H G (upd H p o) := ⟨.of (same_upd h), Same.refl G, fun _ z _ => z, s.up (same_upd h)⟩
/-- a new object, pure at once -/
theorem Ext.new {G H : Hp} (s : Sub G H) {p : Addr} {o : HO} (h : H p = none) (n : NT o := by intro _ z; cases z) : Ext G H (upd G p o) (upd H p o) := by
  have hg := s.none h
  refine ⟨.of (same_upd h), same_upd hg, fun a q ⟨u, e⟩ => ?_, ⟨fun a u e => ?_, fun a u e => ?_, s.tb.ext (same_upd h)⟩⟩
  · rw [upd_ne (ne_of_none e h)]
    exact q
  · by_cases z : a = p
    · subst z
      rw [upd_same] at e ⊢
      exact .inl e
    · rw [upd_ne z] at e ⊢
      exact s.m a u e
  · by_cases z : a = p
    · subst z
      rw [upd_same] at e
      cases e
      exact n
    · rw [upd_ne z] at e
      exact s.nt a u e
inductive Sl where
  | un | pu (d : D) | ow (d : D)
  /-- own, and walked just now: it stays as it is -/
  | lk (p : Addr) (o : HO) (d : D)
  /-- own: handed in by the caller, at p -/
  | pw (p : Addr) (d : D)
  /-- a value that is no data (a function ..): the object at c that stands for what it needs is never changed -/
  | kp (v : V) (c : Addr) (u : HO) (Gx : Hp)
  /-- a caught exception at a: its class, its own fields -/
  | xv (a : Addr) (cls : Value) (dA : Option Addr) (fs : List (PySem.Str × D))
  /-- pure data beside which some objects are known that are never changed; what was pure then -/
  | pf (d : D) (l : List (Addr × HO)) (Gx : Hp)
abbrev Ga := List Sl
/-- an object of the frame's own at p -/
def OwnAt (K : PySem.W.Frag) (H0 G H : Hp) (p : Addr) : D → Prop
  | .lst ds => ∃ xs, H p = some (.lst xs) ∧ DenL K G xs ds
  | .dct ks => ∃ kvs, H p = some (.dK kvs) ∧ DenK K G kvs ks
  | .ins C fs => ∃ dx fvs, H p = some (.ins C dx fvs) ∧ H dx = some (.own p) ∧ G dx = none ∧ H0 dx = none ∧ DenF K G fvs fs
  | _ => False
/-- an object that a frame may own and change -/
def MutO : HO → Prop
  | .lst _ => True
  | .dK _ => True
  | .ins _ _ _ => True
  | _ => False
/-- an object that nobody changes -/
def FixO (u : HO) : Prop := ¬ MutO u ∧ NT u ∧ ∀ a, u ≠ .own a
def SlOk (K : PySem.W.Frag) (H0 G H : Hp) (o : Option (Option V)) : Sl → Prop
  | .un => True
  | .pu d => ∃ v, o = some (some v) ∧ Den K G v d
  | .ow d => ∃ p, o = some (some (.ref p)) ∧ G p = none ∧ H0 p = none ∧ OwnAt K H0 G H p d
  | .lk p u d => o = some (some (.ref p)) ∧ G p = none ∧ H0 p = none ∧ H p = some u ∧ OwnAt K H0 G H p d
  | .pw p d => o = some (some (.ref p)) ∧ G p = none ∧ H0 p = none ∧ OwnAt K H0 G H p d
  | .kp v c u Gx => o = some (some v) ∧ H c = some u ∧ ¬ MutO u ∧ NT u ∧ Same Gx G
  | .xv a cls dA fs => o = some (some (.ref a)) ∧ ((dA = none ∧ fs = []) ∨ ∃ p fvs, dA = some p ∧ H p = some (.xd fvs) ∧ DenF K G fvs fs)
  | .pf d l Gx => (∃ v, o = some (some v) ∧ Den K G v d) ∧ (∀ q ∈ l, H q.1 = some q.2 ∧ FixO q.2) ∧ Same Gx G
/-- what an own object that may be changed holds -/
def Sl.og : Sl → Option D
  | .ow d => some d
  | .pw _ d => some d
  | _ => none
def Sl.op (s : Sl) (d : D) : Sl := match s with
  | .pw p _ => .pw p d
  | _ => .ow d
def Sl.owns : Sl → Prop
  | .pw _ _ => True
  | .ow _ => True
  | .lk _ _ _ => True
  | _ => False
/-- the frame: G0, H0 the heaps at its entry -/
structure Fr (K : PySem.W.Frag) (G0 H0 : Hp) (Γ : Ga) (σ : L2.St) (G H : Hp) : Prop where
  len : σ.length = Γ.length
  e : Ext G0 H0 G H
  at_ : ∀ (i : Nat) (s : Sl), Γ[i]? = some s → SlOk K H0 G H (σ[i]?) s
  dj : ∀ (i j : Nat) (p : Addr) (s t : Sl), Γ[i]? = some s → s.owns → Γ[j]? = some t → t.owns → σ[i]? = some (some (.ref p)) → σ[j]? = some (some (.ref p)) → i = j
section
variable {K : PySem.W.Frag} {G0 H0 G H G' H' : Hp} {Γ : Ga} {σ : L2.St}
theorem OwnAt.up {p : Addr} {d : D} (h : OwnAt K H0 G H p d) (x : Ext G H G' H') : OwnAt K H0 G' H' p d := by
  cases d with
  | lst ds => obtain ⟨xs, h1, h2⟩ := h; exact ⟨xs, x.h.lst h1, h2.up x.g⟩
  | dct ks => obtain ⟨xs, h1, h2⟩ := h; exact ⟨xs, x.h.dK h1, h2.up x.g⟩
  | ins C fs => obtain ⟨dx, fvs, h1, h2, h3, h4, h5⟩ := h; exact ⟨dx, fvs, x.h.k _ _ h1 (fun _ z => nomatch z), x.h.k _ _ h2 (fun _ z => nomatch z), x.nw _ h3 ⟨_, h2⟩, h4, h5.up x.g⟩
  | _ => exact h.elim
theorem OwnAt.there {p : Addr} {d : D} (h : OwnAt K H0 G H p d) : ∃ o, H p = some o := by
  cases d with
  | lst ds => obtain ⟨xs, h1, h2⟩ := h; exact ⟨_, h1⟩
  | dct ks => obtain ⟨xs, h1, h2⟩ := h; exact ⟨_, h1⟩
  | ins C fs => obtain ⟨dx, fvs, h1, h2, h3⟩ := h; exact ⟨_, h1⟩
  | _ => exact h.elim
theorem OwnAt.mutO {p : Addr} {d : D} {u : HO} (h : OwnAt K H0 G H p d) (e : H p = some u) : MutO u := by
  cases d with
  | lst ds => obtain ⟨xs, h1, h2⟩ := h; rw [e] at h1; cases h1; trivial
  | dct ks => obtain ⟨xs, h1, h2⟩ := h; rw [e] at h1; cases h1; trivial
  | ins C fs => obtain ⟨dx, fvs, h1, h2⟩ := h; rw [e] at h1; cases h1; trivial
  | _ => exact h.elim
theorem MutO.nt {u : HO} (h : MutO u) : NT u := fun ps z => by
  subst z
  exact h
theorem SlOk.up {o : Option (Option V)} {s : Sl} (h : SlOk K H0 G H o s) (x : Ext G H G' H') : SlOk K H0 G' H' o s := by
  cases s with
  | un => trivial
  | pu d => obtain ⟨v, e, r⟩ := h; exact ⟨v, e, r.up x.g⟩
  | ow d => obtain ⟨p, e, g, h0, r⟩ := h; exact ⟨p, e, x.nw _ g r.there, h0, r.up x⟩
  | lk p u d => obtain ⟨e, g, h0, q, r⟩ := h; exact ⟨e, x.nw _ g r.there, h0, x.h.k _ _ q (r.mutO q).nt, r.up x⟩
  | pw p d => obtain ⟨e, g, h0, r⟩ := h; exact ⟨e, x.nw _ g r.there, h0, r.up x⟩
  | kp v c u Gx => obtain ⟨e, h1, h2, h3, h4⟩ := h; exact ⟨e, x.h.k _ _ h1 h3, h2, h3, h4.trans x.g⟩
  | xv a cls dA fs =>
    obtain ⟨e, h1⟩ := h
    refine ⟨e, ?_⟩
    rcases h1 with h1 | ⟨p, fvs, h1, h2, h3⟩
    · exact .inl h1
    · exact .inr ⟨p, fvs, h1, x.h.k _ _ h2 (fun _ z => nomatch z), h3.up x.g⟩
  | pf d l Gx =>
    obtain ⟨⟨v, e, r⟩, h1, h2⟩ := h
    exact ⟨⟨v, e, r.up x.g⟩, fun q hq => ⟨x.h.k _ _ (h1 q hq).1 (h1 q hq).2.2.1, (h1 q hq).2⟩, h2.trans x.g⟩
theorem Fr.up (F : Fr K G0 H0 Γ σ G H) (x : Ext G H G' H') : Fr K G0 H0 Γ σ G' H' :=
  ⟨F.len, F.e.trans x, fun i s h => (F.at_ i s h).up x, F.dj⟩
theorem Fr.sub (F : Fr K G0 H0 Γ σ G H) : Sub G H := F.e.sub
end
end PL
set_option Elab.async false
set_option linter.all false
set_option maxRecDepth 100000
set_option maxHeartbeats 2000000
namespace PL
open PySem L2
variable [Tabl]
/-- an exception: its class, its own fields -/
structure XD where
  cls : Value
  fs : List (PySem.Str × D)
def XDen (K : PySem.W.Frag) (G H : Hp) (cls : Value) (dA : Option Addr) (x : XD) : Prop :=
  cls = x.cls ∧ ((dA = none ∧ x.fs = []) ∨ ∃ p fvs, dA = some p ∧ H p = some (.xd fvs) ∧ DenF K G fvs x.fs)
abbrev KD := D → Prop
abbrev KX := XD → Prop
abbrev TP := Ga → KD → KX → Prop
abbrev TB := Ga → (Bool → Prop) → KX → Prop
abbrev TL := Ga → (List D → Prop) → KX → Prop
/-- v stands for d, the topmost object may be the frame's own -/
def DenU (K : PySem.W.Frag) (H0 G H : Hp) (v : V) (d : D) : Prop := Den K G v d ∨ ∃ p, v = .ref p ∧ G p = none ∧ OwnAt K H0 G H p d
/-- what is wanted of exceptions -/
abbrev XOk (K : PySem.W.Frag) (W : WX) (G H : Hp) (σ : L2.St) (kx : KX) : Prop := ∀ x cls dA G' H', kx x → Ext G H G' H' → XDen K G' H' cls dA x → W cls dA σ H'
def RdP (K : PySem.W.Frag) (W : WX) (te : TE) (t : TP) : Prop := ∀ (G0 H0 : Hp) (Γ : Ga) (σ : L2.St) (G H : Hp) (k : KD) (kx : KX) (Q : VK), Fr K G0 H0 Γ σ G H → t Γ k kx →
  (∀ d v G' H', k d → Ext G H G' H' → Den K G' v d → Q v H') → XOk K W G H σ kx → te σ H Q
def RdU (K : PySem.W.Frag) (W : WX) (te : TE) (t : TP) : Prop := ∀ (G0 H0 : Hp) (Γ : Ga) (σ : L2.St) (G H : Hp) (k : KD) (kx : KX) (Q : VK), Fr K G0 H0 Γ σ G H → t Γ k kx →
  (∀ d v G' H', k d → Ext G H G' H' → DenU K H0 G' H' v d → Q v H') → XOk K W G H σ kx → te σ H Q
def RdT (K : PySem.W.Frag) (W : WX) (te : TT) (t : TB) : Prop := ∀ (G0 H0 : Hp) (Γ : Ga) (σ : L2.St) (G H : Hp) (k : Bool → Prop) (kx : KX) (Q : Bool → Hp → Prop), Fr K G0 H0 Γ σ G H → t Γ k kx →
  (∀ b G' H', k b → Ext G H G' H' → Q b H') → XOk K W G H σ kx → te σ H Q
def RdA (K : PySem.W.Frag) (W : WX) (ta : TA) (t : TL) : Prop := ∀ (G0 H0 : Hp) (Γ : Ga) (σ : L2.St) (G H : Hp) (k : List D → Prop) (kx : KX) (Q : List V → Hp → Prop), Fr K G0 H0 Γ σ G H → t Γ k kx →
  (∀ ds vs G' H', k ds → Ext G H G' H' → DenL K G' vs ds → Q vs H') → XOk K W G H σ kx → ta σ H Q
/-- an expression, its reading over pure data -/
structure PP (X : Cx) (W : WX) (e : Expr) (t : TP) : Prop where
  ex : ∃ te, PE X e te ∧ RdP X.K W te t
structure PU (X : Cx) (W : WX) (e : Expr) (t : TP) : Prop where
  ex : ∃ te, PE X e te ∧ RdU X.K W te t
structure PB (X : Cx) (W : WX) (e : Expr) (t : TB) : Prop where
  ex : ∃ te, PT X e te ∧ RdT X.K W te t
structure PL' (X : Cx) (W : WX) (es : List Expr) (t : TL) : Prop where
  ex : ∃ te, PA X es te ∧ RdA X.K W te t
section
variable {K : PySem.W.Frag} {W : WX} {G H G' H' : Hp} {σ : L2.St} {kx : KX}
theorem XOk.up (h : XOk K W G H σ kx) (x : Ext G H G' H') : XOk K W G' H' σ kx := fun y cls dA G2 H2 a b c => h y cls dA G2 H2 a (x.trans b) c
end
section
variable {X : Cx} {W : WX} {e a b c : Expr} {es : List Expr} {t ta tb tc : TP} {tl : TL} {tt tu : TB} {pos : Pos}
theorem PP.u (h : PP X W e t) : PU X W e t := by
  obtain ⟨te, pe, r⟩ := h.ex
  exact ⟨te, pe, fun G0 H0 Γ σ G H k kx Q F ht hk hx => r G0 H0 Γ σ G H k kx Q F ht (fun d v G' H' kd ex dn => hk d v G' H' kd ex (.inl dn)) hx⟩
def gat : Ga → Nat → Sl
  | [], _ => .un
  | s :: _, 0 => s
  | _ :: r, n + 1 => gat r n
def gset : Ga → Nat → Sl → Ga
  | [], _, _ => []
  | _ :: r, 0, s => s :: r
  | t :: r, n + 1, s => t :: gset r n s
theorem gat_get : ∀ (Γ : Ga) (i : Nat) (s : Sl), gat Γ i = s → s ≠ .un → Γ[i]? = some s
  | [], i, s, h, n => absurd h.symm n
  | t :: r, 0, s, h, _ => by rw [List.getElem?_cons_zero]; exact congrArg some h
  | t :: r, i + 1, s, h, n => by rw [List.getElem?_cons_succ]; exact gat_get r i s h n
theorem gset_eq : ∀ (Γ : Ga) (i : Nat) (s : Sl), gset Γ i s = Γ.set i s
  | [], _, _ => rfl
  | _ :: _, 0, _ => rfl
  | t :: r, i + 1, s => congrArg (t :: ·) (gset_eq r i s)
def tpVar (i : Nat) : TP := fun Γ k _ => match gat Γ i with
  | .pu d => k d
  | _ => False
def tpVarU (i : Nat) : TP := fun Γ k _ => match gat Γ i with
  | .pu d => k d
  | .ow d => k d
  | .lk _ _ d => k d
  | .pw _ d => k d
  | _ => False
theorem p_var (i : Nat) {x : PySem.Str} (hN : X.N[i]? = some x := by rfl) (hv : Vis X.env.scope x := by first | exact Or.inl rfl | exact Or.inr (Or.inl rfl) | exact Or.inr (Or.inr rfl)) (hd : (x == ("__debug__" : PySem.Str)) = false := by decide)
    (hcd : (x == ("__classdict__" : PySem.Str)) = false := by decide) : PP X W (.Name x pos) (tpVar i) := by
  refine ⟨_, pe_var hN hv hd hcd, fun G0 H0 Γ σ G H k kx Q F ht hk hx => ?_⟩
  unfold tpVar at ht
  cases hs : gat Γ i with
  | un => rw [hs] at ht; exact ht.elim
  | ow d => rw [hs] at ht; exact ht.elim
  | lk p u d => rw [hs] at ht; exact ht.elim
  | pw p d => rw [hs] at ht; exact ht.elim
  | kp v c w Gx => rw [hs] at ht; exact ht.elim
  | xv a cls dA fs => rw [hs] at ht; exact ht.elim
  | pf d l Gx => rw [hs] at ht; exact ht.elim
  | pu d =>
    rw [hs] at ht
    obtain ⟨v, e, r⟩ := F.at_ i _ (gat_get Γ i _ hs (by simp))
    exact ⟨v, e, hk d v G H ht (Ext.refl F.sub) r⟩
theorem u_var (i : Nat) {x : PySem.Str} (hN : X.N[i]? = some x := by rfl) (hv : Vis X.env.scope x := by first | exact Or.inl rfl | exact Or.inr (Or.inl rfl) | exact Or.inr (Or.inr rfl)) (hd : (x == ("__debug__" : PySem.Str)) = false := by decide)
    (hcd : (x == ("__classdict__" : PySem.Str)) = false := by decide) : PU X W (.Name x pos) (tpVarU i) := by
  refine ⟨_, pe_var hN hv hd hcd, fun G0 H0 Γ σ G H k kx Q F ht hk hx => ?_⟩
  unfold tpVarU at ht
  cases hs : gat Γ i with
  | un => rw [hs] at ht; exact ht.elim
  | kp v c w Gx => rw [hs] at ht; exact ht.elim
  | xv a cls dA fs => rw [hs] at ht; exact ht.elim
  | pf d l Gx => rw [hs] at ht; exact ht.elim
  | ow d =>
    rw [hs] at ht
    obtain ⟨p, e, g, h0, r⟩ := F.at_ i _ (gat_get Γ i _ hs (by simp))
    exact ⟨.ref p, e, hk d _ G H ht (Ext.refl F.sub) (.inr ⟨p, rfl, g, r⟩)⟩
  | pw p d =>
    rw [hs] at ht
    obtain ⟨e, g, h0, r⟩ := F.at_ i _ (gat_get Γ i _ hs (by simp))
    exact ⟨.ref p, e, hk d _ G H ht (Ext.refl F.sub) (.inr ⟨p, rfl, g, r⟩)⟩
  | lk p u d =>
    rw [hs] at ht
    obtain ⟨e, g, h0, q, r⟩ := F.at_ i _ (gat_get Γ i _ hs (by simp))
    exact ⟨.ref p, e, hk d _ G H ht (Ext.refl F.sub) (.inr ⟨p, rfl, g, r⟩)⟩
  | pu d =>
    rw [hs] at ht
    obtain ⟨v, e, r⟩ := F.at_ i _ (gat_get Γ i _ hs (by simp))
    exact ⟨v, e, hk d v G H ht (Ext.refl F.sub) (.inl r)⟩
def tpC (d : D) : TP := fun _ k _ => k d
theorem p_int {i : Int} {j} : PP X W (.Constant (.int i) j pos) (tpC (.int i)) := ⟨_, pe_int, fun G0 H0 Γ σ G H k kx Q F ht hk hx => hk _ _ G H ht (Ext.refl F.sub) (.int i)⟩
theorem p_bl {i : Bool} {j} : PP X W (.Constant (.bool i) j pos) (tpC (.bl i)) := ⟨_, pe_bl, fun G0 H0 Γ σ G H k kx Q F ht hk hx => hk _ _ G H ht (Ext.refl F.sub) (.bl i)⟩
theorem p_non {j} : PP X W (.Constant .none j pos) (tpC .non) := ⟨_, pe_non, fun G0 H0 Γ σ G H k kx Q F ht hk hx => hk _ _ G H ht (Ext.refl F.sub) .non⟩
theorem str_den {G : Hp} (x : PySem.Str) : Den X.K G (.str x) (.str x.cps.toList) := by
  have e : V.str x = .str (SS x.cps.toList) := by
    obtain ⟨a⟩ := x
    simp [SS]
  rw [e]
  exact .str _
theorem p_str (s : List Nat) {x : PySem.Str} {j} (h : x.cps.toList = s := by decide) : PP X W (.Constant (.str x) j pos) (tpC (.str s)) := by
  subst h
  exact ⟨_, pe_str, fun G0 H0 Γ σ G H k kx Q F ht hk hx => hk _ _ G H ht (Ext.refl F.sub) (str_den x)⟩
/-- a module's constant -/
theorem p_glob {x : PySem.Str} {v : V} {u : Value} {d : D} (hg : Gl X x) (hm : X.mg x = some u) (r : RelV v u) (dn : ∀ G, Den X.K G v d) (hd : (x == ("__debug__" : PySem.Str)) = false := by decide) : PP X W (.Name x pos) (tpC d) :=
  ⟨_, pe_glob hg hm r hd, fun G0 H0 Γ σ G H k kx Q F ht hk hx => hk _ _ G H ht (Ext.refl F.sub) (dn G)⟩
theorem p_globI {x : PySem.Str} {i : Int} (hg : Gl X x) (hm : ∃ t, X.mg x = some (.int i t)) (hd : (x == ("__debug__" : PySem.Str)) = false := by decide) : PP X W (.Name x pos) (tpC (.int i)) := by
  obtain ⟨t, hm⟩ := hm
  exact p_glob hg hm (v := .int i) ⟨t, rfl⟩ (fun G => .int i) hd
theorem p_globS {x : PySem.Str} {s : List Nat} (hg : Gl X x) (hm : ∃ t, X.mg x = some (.str (SS s) t)) (hd : (x == ("__debug__" : PySem.Str)) = false := by decide) : PP X W (.Name x pos) (tpC (.str s)) := by
  obtain ⟨t, hm⟩ := hm
  exact p_glob hg hm (v := .str (SS s)) ⟨t, rfl⟩ (fun G => .str s) hd
abbrev F2 := D → D → KD → Prop
/-- an operator's rule over data -/
def RdO (K : PySem.W.Frag) (r : R2) (f : F2) : Prop := ∀ (H0 G H : Hp) (v1 v2 : V) (d1 d2 : D) (k : KD) (Q : VK), Sub G H → DenU K H0 G H v1 d1 → DenU K H0 G H v2 d2 → f d1 d2 k →
  (∀ d v G' H', k d → Ext G H G' H' → Den K G' v d → Q v H') → r v1 v2 H Q
def tpOp (f : F2) (ta tb : TP) : TP := fun Γ k kx => ta Γ (fun x => tb Γ (fun y => f x y k) kx) kx
theorem DenU.up {K : PySem.W.Frag} {H0 G H G' H' : Hp} {v : V} {d : D} (h : DenU K H0 G H v d) (x : Ext G H G' H') : DenU K H0 G' H' v d := by
  rcases h with h | ⟨p, e, g, r⟩
  · exact .inl (h.up x.g)
  · exact .inr ⟨p, e, x.nw _ g r.there, r.up x⟩
theorem rd_op {r : R2} {f : F2} {ea eb : TE} (ha : RdU X.K W ea ta) (hb : RdU X.K W eb tb) (hr : RdO X.K r f) : RdP X.K W (tOp r ea eb) (tpOp f ta tb) := by
  intro G0 H0 Γ σ G H k kx Q F ht hk hx
  refine ha G0 H0 Γ σ G H _ kx _ F ht (fun d1 v1 G1 H1 k1 x1 n1 => ?_) hx
  refine hb G0 H0 Γ σ G1 H1 _ kx _ (F.up x1) k1 (fun d2 v2 G2 H2 k2 x2 n2 => ?_) (hx.up x1)
  exact hr H0 G2 H2 v1 v2 d1 d2 k Q x2.sub (n1.up x2) n2 k2 fun d v G' H' kd ex dn => hk d v G' H' kd ((x1.trans x2).trans ex) dn
theorem p_op {op : Operator} {r : R2} {f : F2} (ho : OpR X (binaryOp op) r ∧ RdO X.K r f) (ha : PU X W a ta) (hb : PU X W b tb) : PP X W (.BinOp a op b pos) (tpOp f ta tb) := by
  obtain ⟨ea, pa, ra⟩ := ha.ex
  obtain ⟨eb, pb, rb⟩ := hb.ex
  exact ⟨_, pe_op ho.1 pa pb, rd_op ra rb ho.2⟩
theorem p_cmp {op : CmpOp} {r : R2} {f : F2} (ho : OpR X (compareOp op) r ∧ RdO X.K r f) (ha : PU X W a ta) (hb : PU X W b tb) (hm : behindInMarks op b = false := by first | exact nobehind _ (by decide) (by decide) | rfl) : PP X W (.Compare a [op] [b] pos) (tpOp f ta tb) := by
  obtain ⟨ea, pa, ra⟩ := ha.ex
  obtain ⟨eb, pb, rb⟩ := hb.ex
  exact ⟨_, pe_cmpR ho.1 pa pb hm, rd_op ra rb ho.2⟩
theorem RdO.or {K : PySem.W.Frag} {r1 r2 : R2} {f : F2} (h : ∀ d1 d2, (∃ f1, RdO K r1 f1 ∧ ∀ k, f d1 d2 k → f1 d1 d2 k) ∨ (∃ f1, RdO K r2 f1 ∧ ∀ k, f d1 d2 k → f1 d1 d2 k)) : RdO K (fun x y H Q => r1 x y H Q ∨ r2 x y H Q) f := by
  intro H0 G H v1 v2 d1 d2 k Q s n1 n2 hf hk
  rcases h d1 d2 with ⟨f1, q, z⟩ | ⟨f1, q, z⟩
  · exact .inl (q H0 G H v1 v2 d1 d2 k Q s n1 n2 (z k hf) hk)
  · exact .inr (q H0 G H v1 v2 d1 d2 k Q s n1 n2 (z k hf) hk)
theorem DenU.int {K : PySem.W.Frag} {H0 G H : Hp} {v : V} {i : Int} (h : DenU K H0 G H v (.int i)) : v = .int i := by
  rcases h with h | ⟨p, e, g, r⟩
  · cases h; rfl
  · exact r.elim
theorem DenU.bl {K : PySem.W.Frag} {H0 G H : Hp} {v : V} {i : Bool} (h : DenU K H0 G H v (.bl i)) : v = .bl i := by
  rcases h with h | ⟨p, e, g, r⟩
  · cases h; rfl
  · exact r.elim
theorem DenU.str {K : PySem.W.Frag} {H0 G H : Hp} {v : V} {s : List Nat} (h : DenU K H0 G H v (.str s)) : v = .str (SS s) := by
  rcases h with h | ⟨p, e, g, r⟩
  · cases h; rfl
  · exact r.elim
theorem DenU.non {K : PySem.W.Frag} {H0 G H : Hp} {v : V} (h : DenU K H0 G H v .non) : v = .non := by
  rcases h with h | ⟨p, e, g, r⟩
  · cases h; rfl
  · exact r.elim
theorem DenU.lst {K : PySem.W.Frag} {H0 G H : Hp} {v : V} {ds : List D} (s : Sub G H) (h : DenU K H0 G H v (.lst ds)) : ∃ a xs, v = .ref a ∧ H a = some (.lst xs) ∧ DenL K G xs ds := by
  rcases h with h | ⟨p, e, g, xs, r1, r2⟩
  · cases h with
    | lst h1 h2 => exact ⟨_, _, rfl, s.at_ h1 (fun z => z), h2⟩
  · exact ⟨p, xs, e, r1, r2⟩
theorem DenU.tup {K : PySem.W.Frag} {H0 G H : Hp} {v : V} {ds : List D} (s : Sub G H) (h : DenU K H0 G H v (.tup ds)) : ∃ a xs, v = .ref a ∧ SqT K H a xs ∧ DenL K G xs ds := by
  rcases h with h | ⟨p, e, g, r⟩
  · cases h with
    | tup h1 h2 => exact ⟨_, _, rfl, s.sqt h1, h2⟩
  · exact r.elim
def fAdd : F2
  | .int i, .int j, k => k (.int (i + j))
  | .str s, .str t, k => s.length + t.length ≤ sizeLine ∧ k (.str (s ++ t))
  | .lst s, .lst t, k => s.length + t.length ≤ sizeLine ∧ k (.lst (s ++ t))
  | _, _, _ => False
theorem ss_append (s t : List Nat) : SS s ++ SS t = SS (s ++ t) := by
  show PySem.Str.mk _ = _
  simp [SS]
theorem ss_length (s : List Nat) : (SS s).length = s.length := by
  show (SS s).cps.size = _
  simp [SS]
def rAdd3 : R2 := fun x y H Q => rI0 (fun i j => .int (i + j)) x y H Q ∨ ((∃ i j, x = .str i ∧ y = .str j ∧ i.length + j.length ≤ sizeLine ∧ Q (.str (i ++ j)) H) ∨ rCat x y H Q)
theorem o_add : OpR X (binaryOp .Add) rAdd3 ∧ RdO X.K rAdd3 fAdd := by
  refine ⟨OpR.or op_add (OpR.or op_add_str op_cat), ?_⟩
  intro H0 G H v1 v2 d1 d2 k Q s n1 n2 hf hk
  cases d1 with
  | int i =>
    cases d2 with
    | int j => exact .inl ⟨i, j, n1.int, n2.int, hk _ _ G H hf (Ext.refl s) (.int _)⟩
    | _ => exact hf.elim
  | str i =>
    cases d2 with
    | str j =>
      obtain ⟨hl, hf⟩ := hf
      exact .inr (.inl ⟨_, _, n1.str, n2.str, by rw [ss_length, ss_length]; exact hl, by rw [ss_append]; exact hk _ _ G H hf (Ext.refl s) (.str _)⟩)
    | _ => exact hf.elim
  | lst i =>
    cases d2 with
    | lst j =>
      obtain ⟨hl, hf⟩ := hf
      obtain ⟨a, xs, e1, h1, r1⟩ := n1.lst s
      obtain ⟨b, ys, e2, h2, r2⟩ := n2.lst s
      refine .inr (.inr ⟨a, b, xs, ys, e1, e2, h1, h2, by rw [r1.length, r2.length]; exact hl, fun p hp => ?_⟩)
      exact hk _ _ _ _ hf (Ext.new s hp) (.lst upd_same ((r1.append r2).up (same_upd (s.none hp))))
    | _ => exact hf.elim
  | _ => exact hf.elim
def fSub : F2
  | .int i, .int j, k => k (.int (i - j))
  | _, _, _ => False
theorem o_int {g : Int → Int → V} {f : F2} {op : Value → Value → Sem Value} (ho : OpR X op (rI0 g)) (hf : ∀ d1 d2 k, f d1 d2 k → ∃ i j d, d1 = .int i ∧ d2 = .int j ∧ k d ∧ ∀ G, Den X.K G (g i j) d) : OpR X op (rI0 g) ∧ RdO X.K (rI0 g) f := by
  refine ⟨ho, fun H0 G H v1 v2 d1 d2 k Q s n1 n2 h hk => ?_⟩
  obtain ⟨i, j, d, rfl, rfl, kd, dn⟩ := hf _ _ _ h
  exact ⟨i, j, n1.int, n2.int, hk _ _ G H kd (Ext.refl s) (dn G)⟩
theorem o_intC {C : Int → Int → Prop} {g : Int → Int → V} {f : F2} {op : Value → Value → Sem Value} (ho : OpR X op (rI C g)) (hf : ∀ d1 d2 k, f d1 d2 k → ∃ i j d, d1 = .int i ∧ d2 = .int j ∧ C i j ∧ k d ∧ ∀ G, Den X.K G (g i j) d) : OpR X op (rI C g) ∧ RdO X.K (rI C g) f := by
  refine ⟨ho, fun H0 G H v1 v2 d1 d2 k Q s n1 n2 h hk => ?_⟩
  obtain ⟨i, j, d, rfl, rfl, c, kd, dn⟩ := hf _ _ _ h
  exact ⟨i, j, n1.int, n2.int, c, hk _ _ G H kd (Ext.refl s) (dn G)⟩
theorem o_sub : OpR X (binaryOp .Sub) (rI0 fun i j => .int (i - j)) ∧ RdO X.K (rI0 fun i j => .int (i - j)) fSub := o_int op_sub fun d1 d2 k h => by
  cases d1 with
  | int i =>
    cases d2 with
    | int j => exact ⟨i, j, _, rfl, rfl, h, fun _ => .int _⟩
    | _ => exact h.elim
  | _ => exact h.elim
def fMul : F2
  | .int i, .int j, k => CMul i j ∧ k (.int (i * j))
  | .lst xs, .int n, k => n < 2 ^ 60 ∧ -(2 ^ 60) < n ∧ xs.length * n.toNat ≤ sizeLine ∧ k (.lst (List.replicate n.toNat xs).flatten)
  | _, _, _ => False
def rMul2 : R2 := fun x y H Q => rI CMul (fun i j => .int (i * j)) x y H Q ∨ rRep x y H Q
theorem denL_rep {K : PySem.W.Frag} {G : Hp} {xs : List V} {ds : List D} (h : DenL K G xs ds) : ∀ n, DenL K G (List.replicate n xs).flatten (List.replicate n ds).flatten
  | 0 => .nil
  | n + 1 => by
    rw [List.replicate_succ, List.replicate_succ, List.flatten_cons, List.flatten_cons]
    exact h.append (denL_rep h n)
theorem o_mul : OpR X (binaryOp .Mult) rMul2 ∧ RdO X.K rMul2 fMul := by
  refine ⟨OpR.or op_mul op_rep, ?_⟩
  intro H0 G H v1 v2 d1 d2 k Q s n1 n2 hf hk
  cases d1 with
  | int i =>
    cases d2 with
    | int j => exact .inl ⟨i, j, n1.int, n2.int, hf.1, hk _ _ G H hf.2 (Ext.refl s) (.int _)⟩
    | _ => exact hf.elim
  | lst i =>
    cases d2 with
    | int j =>
      obtain ⟨hl, hl2, hz, hf⟩ := hf
      obtain ⟨a, xs, e1, h1, r1⟩ := n1.lst s
      refine .inr ⟨a, j, xs, e1, n2.int, h1, ?_, ?_, by rw [r1.length]; exact hz, fun p hp => ?_⟩
      · have : (2 : Int) ^ 60 ≤ 2 ^ 63 := by decide
        omega
      · have : (2 : Int) ^ 60 ≤ 2 ^ 63 := by decide
        omega
      · exact hk _ _ _ _ hf (Ext.new s hp) (.lst upd_same ((denL_rep r1 _).up (same_upd (s.none hp))))
    | _ => exact hf.elim
  | _ => exact hf.elim
/-- // by a positive number below 2 ^ 30 -/
def fFdiv : F2
  | .int i, .int j, k => (0 < j ∧ j < 1073741824) ∧ k (.int (i / j))
  | _, _, _ => False
theorem o_fdiv : OpR X (binaryOp .FloorDiv) (rI CDiv fun i j => .int (i / j)) ∧ RdO X.K (rI CDiv fun i j => .int (i / j)) fFdiv := o_intC op_fdiv fun d1 d2 k h => by
  cases d1 with
  | int i =>
    cases d2 with
    | int j => exact ⟨i, j, _, rfl, rfl, h.1, h.2, fun _ => .int _⟩
    | _ => exact h.elim
  | _ => exact h.elim
def fMod : F2
  | .int i, .int j, k => 0 < j ∧ k (.int (i % j))
  | _, _, _ => False
theorem o_mod : OpR X (binaryOp .Mod) (rI (fun _ j => 0 < j) fun i j => .int (i % j)) ∧ RdO X.K (rI (fun _ j => 0 < j) fun i j => .int (i % j)) fMod := o_intC op_mod fun d1 d2 k h => by
  cases d1 with
  | int i =>
    cases d2 with
    | int j => exact ⟨i, j, _, rfl, rfl, h.1, h.2, fun _ => .int _⟩
    | _ => exact h.elim
  | _ => exact h.elim
def fPow : F2
  | .int i, .int j, k => (0 ≤ j ∧ j ≤ 1000000 ∧ i.natAbs < 2 ^ 64) ∧ k (.int (i ^ j.toNat))
  | _, _, _ => False
theorem o_pow : OpR X (binaryOp .Pow) (rI CPow fun i j => .int (i ^ j.toNat)) ∧ RdO X.K (rI CPow fun i j => .int (i ^ j.toNat)) fPow := o_intC op_pow fun d1 d2 k h => by
  cases d1 with
  | int i =>
    cases d2 with
    | int j => exact ⟨i, j, _, rfl, rfl, h.1, h.2, fun _ => .int _⟩
    | _ => exact h.elim
  | _ => exact h.elim
def fLt : F2
  | .int i, .int j, k => k (.bl (decide (i < j)))
  | .str s, .str t, k => k (.bl (decide (s < t)))
  | _, _, _ => False
def fLe : F2
  | .int i, .int j, k => k (.bl (decide (i ≤ j)))
  | _, _, _ => False
def fGt : F2
  | .int i, .int j, k => k (.bl (decide (j < i)))
  | _, _, _ => False
def fGe : F2
  | .int i, .int j, k => k (.bl (decide (j ≤ i)))
  | _, _, _ => False
def rLt2 : R2 := fun x y H Q => rI0 (fun i j => .bl (decide (i < j))) x y H Q ∨ ∃ i j, x = .str i ∧ y = .str j ∧ Q (.bl (decide (i.cps.toList < j.cps.toList))) H
theorem o_lt : OpR X (compareOp .Lt) rLt2 ∧ RdO X.K rLt2 fLt := by
  refine ⟨OpR.or op_lt op_lt_str, ?_⟩
  intro H0 G H v1 v2 d1 d2 k Q s n1 n2 hf hk
  cases d1 with
  | int i =>
    cases d2 with
    | int j => exact .inl ⟨i, j, n1.int, n2.int, hk _ _ G H hf (Ext.refl s) (.bl _)⟩
    | _ => exact hf.elim
  | str i =>
    cases d2 with
    | str j => exact .inr ⟨_, _, n1.str, n2.str, hk _ _ G H hf (Ext.refl s) (.bl _)⟩
    | _ => exact hf.elim
  | _ => exact hf.elim
theorem o_le : OpR X (compareOp .LtE) (rI0 fun i j => .bl (decide (i ≤ j))) ∧ RdO X.K (rI0 fun i j => .bl (decide (i ≤ j))) fLe := o_int op_le fun d1 d2 k h => by
  cases d1 with
  | int i =>
    cases d2 with
    | int j => exact ⟨i, j, _, rfl, rfl, h, fun _ => .bl _⟩
    | _ => exact h.elim
  | _ => exact h.elim
theorem o_gt : OpR X (compareOp .Gt) (rI0 fun i j => .bl (decide (j < i))) ∧ RdO X.K (rI0 fun i j => .bl (decide (j < i))) fGt := o_int op_gt fun d1 d2 k h => by
  cases d1 with
  | int i =>
    cases d2 with
    | int j => exact ⟨i, j, _, rfl, rfl, h, fun _ => .bl _⟩
    | _ => exact h.elim
  | _ => exact h.elim
theorem o_ge : OpR X (compareOp .GtE) (rI0 fun i j => .bl (decide (j ≤ i))) ∧ RdO X.K (rI0 fun i j => .bl (decide (j ≤ i))) fGe := o_int op_ge fun d1 d2 k h => by
  cases d1 with
  | int i =>
    cases d2 with
    | int j => exact ⟨i, j, _, rfl, rfl, h, fun _ => .bl _⟩
    | _ => exact h.elim
  | _ => exact h.elim
theorem DenU.notNon {K : PySem.W.Frag} {H0 G H : Hp} {v : V} {d : D} (h : DenU K H0 G H v d) (n : d ≠ .non) : decide (v = .non) = false := by
  apply decide_eq_false
  intro e
  subst e
  rcases h with h | ⟨p, e, _⟩
  · cases h
    exact n rfl
  · cases e
end
end PL
set_option Elab.async false
set_option linter.all false
set_option maxRecDepth 100000
set_option maxHeartbeats 2000000
namespace PL
open PySem L2
variable [Tabl]
mutual
def D.py : D → PyData
  | .non => .none
  | .bl b => .bool b
  | .int i => .int i
  | .str s => .str (SS s)
  | .lst xs => .list (D.pyL xs)
  | .tup xs => .tuple (D.pyL xs)
  | .dct _ => .none
  | .ins _ _ => .none
  | .sl _ _ => .none
  | .cls _ => .none
  | .ty _ => .none
  | .bag => .none
  | .scr => .none
  | .cel _ _ => .none
  | .frl _ => .none
def D.pyL : List D → List PyData
  | [] => []
  | d :: r => D.py d :: D.pyL r
end
mutual
/-- none, bools, ints, texts, lists and tuples of such -/
def D.plain : D → Bool
  | .non => true
  | .bl _ => true
  | .int _ => true
  | .str s => s.all fun c => decide (c < 1114112)
  | .lst xs => D.plainL xs
  | .tup xs => D.plainL xs
  | _ => false
def D.plainL : List D → Bool
  | [] => true
  | d :: r => D.plain d && D.plainL r
end
mutual
def D.dep : D → Nat
  | .lst xs => D.depL xs + 1
  | .tup xs => D.depL xs + 1
  | _ => 0
def D.depL : List D → Nat
  | [] => 0
  | d :: r => max (D.dep d) (D.depL r)
end
mutual
theorem D.lay : ∀ d : D, d.plain = true → d.py.canLay0 = true
  | .non, _ => rfl
  | .bl _, _ => rfl
  | .int _, _ => rfl
  | .str s, h => by
    show (SS s).cps.all (· < 0x110000) = true
    unfold D.plain at h
    rw [Array.all_eq_true']
    intro c hc
    have := List.all_eq_true.mp h c (by simpa [SS] using hc)
    simpa using this
  | .lst xs, h => by
    show PyData.canLayAll0 _ = true
    exact D.layL xs h
  | .tup xs, h => by
    show PyData.canLayAll0 _ = true
    exact D.layL xs h
  | .dct _, h => by cases h
  | .ins _ _, h => by cases h
  | .sl _ _, h => by cases h
  | .cls _, h => by cases h
  | .ty _, h => by cases h
  | .bag, h => by cases h
  | .scr, h => by cases h
  | .cel _ _, h => by cases h
  | .frl _, h => by cases h
theorem D.layL : ∀ ds : List D, D.plainL ds = true → PyData.canLayAll0 (D.pyL ds) = true
  | [], _ => rfl
  | d :: r, h => by
    have h : (d.plain && D.plainL r) = true := h
    obtain ⟨h1, h2⟩ := Bool.and_eq_true_iff.mp h
    show (PyData.canLay0 d.py && PyData.canLayAll0 (D.pyL r)) = true
    rw [D.lay d h1, D.layL r h2]
    rfl
end
mutual
theorem D.dep_py : ∀ d : D, d.py.depth = d.dep
  | .non => rfl
  | .bl _ => rfl
  | .int _ => rfl
  | .str s => rfl
  | .lst xs => congrArg (· + 1) (D.dep_pyL xs)
  | .tup xs => congrArg (· + 1) (D.dep_pyL xs)
  | .dct _ => rfl
  | .ins _ _ => rfl
  | .sl _ _ => rfl
  | .cls _ => rfl
  | .ty _ => rfl
  | .bag => rfl
  | .scr => rfl
  | .cel _ _ => rfl
  | .frl _ => rfl
theorem D.dep_pyL : ∀ ds : List D, PyData.depthAll (D.pyL ds) = D.depL ds
  | [] => rfl
  | d :: r => by
    show max (PyData.depth d.py) (PyData.depthAll (D.pyL r)) = max d.dep (D.depL r)
    rw [D.dep_py d, D.dep_pyL r]
end
theorem D.shaped {d : D} (h : d.plain = true) (hd : d.dep ≤ 64) : SeqAt.shaped d.py = true := by
  unfold SeqAt.shaped
  rw [D.lay d h, D.dep_py d, decide_eq_true hd]
  rfl
def eqD (d e : D) : Bool := PyData.eqv d.py e.py
section
variable {K : PySem.W.Frag} {G H H0 : Hp}
mutual
theorem Den.dp (s : Sub G H) : ∀ (d : D) (v : V), Den K G v d → d.plain = true → Dp K H v d.py
  | .non, _, h, _ => by cases h; exact .non
  | .bl _, _, h, _ => by cases h; exact .bl _
  | .int _, _, h, _ => by cases h; exact .int _
  | .str _, _, h, _ => by cases h; exact .str _
  | .lst xs, _, h, z => by
    cases h with
    | lst h1 h2 => exact .lst (SqL.of (s.at_ h1 (fun z => z))) (DenL.dp s xs _ h2 z)
  | .tup xs, _, h, z => by
    cases h with
    | tup h1 h2 => exact .tup (s.sqt h1) (DenL.dp s xs _ h2 z)
  | .dct _, _, _, z => by cases z
  | .ins _ _, _, _, z => by cases z
  | .sl _ _, _, _, z => by cases z
  | .cls _, _, _, z => by cases z
  | .ty _, _, _, z => by cases z
  | .bag, _, _, z => by cases z
  | .scr, _, _, z => by cases z
  | .cel _ _, _, _, z => by cases z
  | .frl _, _, _, z => by cases z
theorem DenL.dp (s : Sub G H) : ∀ (ds : List D) (vs : List V), DenL K G vs ds → D.plainL ds = true → DpAll K H vs (D.pyL ds)
  | [], _, h, _ => by cases h; exact .nil
  | d :: r, _, h, z => by
    have z : (d.plain && D.plainL r) = true := z
    obtain ⟨z1, z2⟩ := Bool.and_eq_true_iff.mp z
    cases h with
    | cons h1 h2 => exact .cons (Den.dp s d _ h1 z1) (DenL.dp s r _ h2 z2)
end
theorem DenU.dp (s : Sub G H) {d : D} {v : V} (h : DenU K H0 G H v d) (z : d.plain = true) : Dp K H v d.py := by
  rcases h with h | ⟨p, e, g, r⟩
  · exact Den.dp s d v h z
  · cases d with
    | lst xs =>
      obtain ⟨ys, h1, h2⟩ := r
      subst e
      exact .lst (SqL.of h1) (DenL.dp s xs _ h2 z)
    | dct _ => cases z
    | ins _ _ => cases z
    | _ => exact r.elim
end
def fEq : F2 := fun d e k => (d.plain = true ∧ e.plain = true ∧ d.dep ≤ 64 ∧ e.dep ≤ 64) ∧ k (.bl (eqD d e))
def fNe : F2 := fun d e k => (d.plain = true ∧ e.plain = true ∧ d.dep ≤ 64 ∧ e.dep ≤ 64) ∧ k (.bl (!eqD d e))
section
variable {X : Cx} {W : WX} {e a b c : Expr} {es : List Expr} {t ta tb tc : TP} {tl : TL} {tt tu : TB} {pos : Pos}
theorem o_eq (hu : X.A.units + 64 < cLine) : OpR X (compareOp .Eq) (rEqD X.K) ∧ RdO X.K (rEqD X.K) fEq :=
  ⟨op_eqD hu, fun H0 G H v1 v2 d1 d2 k Q s n1 n2 ⟨⟨p1, p2, l1, l2⟩, hf⟩ hk => ⟨d1.py, d2.py, n1.dp s p1, n2.dp s p2, D.shaped p1 l1, D.shaped p2 l2, hk _ _ G H hf (Ext.refl s) (.bl _)⟩⟩
theorem o_ne (hu : X.A.units + 64 < cLine) : OpR X (compareOp .NotEq) (rNeD X.K) ∧ RdO X.K (rNeD X.K) fNe :=
  ⟨op_neD hu, fun H0 G H v1 v2 d1 d2 k Q s n1 n2 ⟨⟨p1, p2, l1, l2⟩, hf⟩ hk => ⟨d1.py, d2.py, n1.dp s p1, n2.dp s p2, D.shaped p1 l1, D.shaped p2 l2, hk _ _ G H hf (Ext.refl s) (.bl _)⟩⟩
/-- a sign in a text -/
def fInS : F2
  | .str [c], .str t, k => k (.bl (decide (c ∈ t)))
  | _, _, _ => False
def fNotInS : F2
  | .str [c], .str t, k => k (.bl (!decide (c ∈ t)))
  | _, _, _ => False
def rInSg : R2 := fun x y H Q => ∃ (c : Nat) (z : PySem.Str), x = .str ⟨#[c]⟩ ∧ y = .str z ∧ Q (.bl (decide (c ∈ z.cps.toList))) H
def rNotInSg : R2 := fun x y H Q => ∃ (c : Nat) (z : PySem.Str), x = .str ⟨#[c]⟩ ∧ y = .str z ∧ Q (.bl (!decide (c ∈ z.cps.toList))) H
theorem o_inS : OpR X (compareOp .In) rInSg ∧ RdO X.K rInSg fInS := by
  refine ⟨op_in_sign, fun H0 G H v1 v2 d1 d2 k Q s n1 n2 hf hk => ?_⟩
  cases d1 with
  | str x =>
    match x, hf with
    | [c], hf =>
      cases d2 with
      | str y => exact ⟨c, _, n1.str, n2.str, hk _ _ G H hf (Ext.refl s) (.bl _)⟩
      | _ => exact hf.elim
  | _ => exact hf.elim
theorem o_notInS : OpR X (compareOp .NotIn) rNotInSg ∧ RdO X.K rNotInSg fNotInS := by
  refine ⟨op_notIn_sign, fun H0 G H v1 v2 d1 d2 k Q s n1 n2 hf hk => ?_⟩
  cases d1 with
  | str x =>
    match x, hf with
    | [c], hf =>
      cases d2 with
      | str y => exact ⟨c, _, n1.str, n2.str, hk _ _ G H hf (Ext.refl s) (.bl _)⟩
      | _ => exact hf.elim
  | _ => exact hf.elim
def isNon : D → Bool
  | .non => true
  | _ => false
theorem DenU.isNon {K : PySem.W.Frag} {H0 G H : Hp} {v : V} {d : D} (h : DenU K H0 G H v d) : decide (v = .non) = isNon d := by
  cases d with
  | non => rw [h.non]; rfl
  | _ => exact h.notNon (by simp)
def tpIsN (t : TP) : TP := fun Γ k kx => t Γ (fun d => k (.bl (isNon d))) kx
theorem p_isN {j p2} (ha : PU X W a ta) : PP X W (.Compare a [.Is] [.Constant .none j p2] pos) (tpIsN ta) := by
  obtain ⟨ea, pa, ra⟩ := ha.ex
  refine ⟨_, pe_cmp (pc_isN pa), fun G0 H0 Γ σ G H k kx Q F ht hk hx => ?_⟩
  refine ra G0 H0 Γ σ G H _ kx _ F ht (fun d1 v1 G1 H1 k1 x1 n1 => ?_) hx
  rw [n1.isNon]
  exact hk _ _ G1 H1 k1 x1 (.bl _)
def onB (d : D) (k : Bool → Prop) : Prop := match d with
  | .bl b => k b
  | _ => False
theorem onB_elim {d : D} {k : Bool → Prop} (h : onB d k) : ∃ b, d = .bl b ∧ k b := by
  cases d with
  | bl b => exact ⟨b, rfl, h⟩
  | _ => exact h.elim
def tpAnd (ta tb : TP) : TP := fun Γ k kx => ta Γ (fun d => onB d fun c => if c = true then tb Γ k kx else k (.bl false)) kx
def tpNot (ta : TP) : TP := fun Γ k kx => ta Γ (fun d => onB d fun c => k (.bl (!c))) kx
theorem p_and {r : List Expr} (ha : PP X W a ta) (hb : PP X W (.BoolOp .And (b :: r) pos) tb) : PP X W (.BoolOp .And (a :: b :: r) pos) (tpAnd ta tb) := by
  obtain ⟨ea, pa, ra⟩ := ha.ex
  obtain ⟨eb, pb, rb⟩ := hb.ex
  refine ⟨_, pe_and pa pb, fun G0 H0 Γ σ G H k kx Q F ht hk hx => ?_⟩
  refine ra G0 H0 Γ σ G H _ kx _ F ht (fun d1 v1 G1 H1 k1 x1 n1 => ?_) hx
  obtain ⟨c, rfl, k1⟩ := onB_elim k1
  refine ⟨c, DenU.bl (.inl n1) (H0 := H0) (H := H1), ?_⟩
  cases c with
  | true => exact rb G0 H0 Γ σ G1 H1 k kx Q (F.up x1) k1 (fun d v G' H' kd ex dn => hk d v G' H' kd (x1.trans ex) dn) (hx.up x1)
  | false => exact hk _ _ G1 H1 k1 x1 (.bl _)
theorem p_one {op} (ha : PP X W a ta) : PP X W (.BoolOp op [a] pos) ta := by
  obtain ⟨ea, pa, ra⟩ := ha.ex
  exact ⟨_, pe_one pa, ra⟩
theorem p_not (ha : PP X W a ta) : PP X W (.UnaryOp .Not a pos) (tpNot ta) := by
  obtain ⟨ea, pa, ra⟩ := ha.ex
  refine ⟨_, pe_not pa, fun G0 H0 Γ σ G H k kx Q F ht hk hx => ?_⟩
  refine ra G0 H0 Γ σ G H _ kx _ F ht (fun d1 v1 G1 H1 k1 x1 n1 => ?_) hx
  obtain ⟨c, rfl, k1⟩ := onB_elim k1
  exact ⟨c, DenU.bl (.inl n1) (H0 := H0) (H := H1), hk _ _ G1 H1 k1 x1 (.bl _)⟩
def tpNeg (ta : TP) : TP := fun Γ k kx => ta Γ (fun d => match d with | .int i => k (.int (-i)) | _ => False) kx
theorem p_neg (ha : PP X W a ta) : PP X W (.UnaryOp .USub a pos) (tpNeg ta) := by
  obtain ⟨ea, pa, ra⟩ := ha.ex
  refine ⟨_, pe_un un_neg pa, fun G0 H0 Γ σ G H k kx Q F ht hk hx => ?_⟩
  refine ra G0 H0 Γ σ G H _ kx _ F ht (fun d1 v1 G1 H1 k1 x1 n1 => ?_) hx
  cases d1 with
  | int i => exact ⟨i, DenU.int (.inl n1) (H0 := H0) (H := H1), hk _ _ G1 H1 k1 x1 (.int _)⟩
  | _ => exact k1.elim
def tbV (t : TP) : TB := fun Γ k kx => t Γ (fun d => onB d k) kx
theorem b_val (h : PP X W e t) (he : ∀ whole, isTrue e X.env whole = (do let v ← whole; standAt e.pos; holding [v] (truthy v)) := by intro _; rfl) : PB X W e (tbV t) := by
  obtain ⟨ea, pa, ra⟩ := h.ex
  refine ⟨_, pt_val pa he, fun G0 H0 Γ σ G H k kx Q F ht hk hx => ?_⟩
  refine ra G0 H0 Γ σ G H _ kx _ F ht (fun d1 v1 G1 H1 k1 x1 n1 => ?_) hx
  obtain ⟨c, rfl, k1⟩ := onB_elim k1
  exact ⟨c, DenU.bl (.inl n1) (H0 := H0) (H := H1), hk _ G1 H1 k1 x1⟩
theorem b_cmp {op : CmpOp} {r : R2} {f : F2} (ho : OpR X (compareOp op) r ∧ RdO X.K r f) (ha : PU X W a ta) (hb : PU X W b tb) (hm : behindInMarks op b = false := by first | exact nobehind _ (by decide) (by decide) | rfl) : PB X W (.Compare a [op] [b] pos) (tbV (tpOp f ta tb)) := by
  obtain ⟨ea, pa, ra⟩ := ha.ex
  obtain ⟨eb, pb, rb⟩ := hb.ex
  refine ⟨_, pt_cmpR ho.1 pa pb hm, fun G0 H0 Γ σ G H k kx Q F ht hk hx => ?_⟩
  refine rd_op ra rb ho.2 G0 H0 Γ σ G H _ kx _ F ht (fun d1 v1 G1 H1 k1 x1 n1 => ?_) hx
  obtain ⟨c, rfl, k1⟩ := onB_elim k1
  exact ⟨c, DenU.bl (.inl n1) (H0 := H0) (H := H1), hk _ G1 H1 k1 x1⟩
theorem b_isN {j p2} (ha : PU X W a ta) : PB X W (.Compare a [.Is] [.Constant .none j p2] pos) (tbV (tpIsN ta)) := by
  obtain ⟨ea, pa, ra⟩ := ha.ex
  refine ⟨_, pt_cmp (pc_isN pa), fun G0 H0 Γ σ G H k kx Q F ht hk hx => ?_⟩
  refine ra G0 H0 Γ σ G H _ kx _ F ht (fun d1 v1 G1 H1 k1 x1 n1 => ?_) hx
  exact ⟨_, congrArg V.bl n1.isNon, hk _ G1 H1 k1 x1⟩
def tbAnd (t u : TB) : TB := fun Γ k kx => t Γ (fun c => if c = true then u Γ k kx else k false) kx
def tbOr (t u : TB) : TB := fun Γ k kx => t Γ (fun c => if c = true then k true else u Γ k kx) kx
def tbNot (t : TB) : TB := fun Γ k kx => t Γ (fun c => k (!c)) kx
structure PBw (X : Cx) (W : WX) (e : Expr) (t : TB) : Prop where
  ex : ∃ te, PW X e te ∧ RdT X.K W te t
theorem PBw.to (h : PBw X W e tt) : PB X W e tt := by
  obtain ⟨ea, pa, ra⟩ := h.ex
  exact ⟨_, pa.pt, ra⟩
theorem b_and1 (ha : PB X W a tt) : PBw X W (.BoolOp .And [a] pos) tt := by
  obtain ⟨ea, pa, ra⟩ := ha.ex
  exact ⟨_, pw_and1 pa, ra⟩
theorem b_or1 (ha : PB X W a tt) : PBw X W (.BoolOp .Or [a] pos) tt := by
  obtain ⟨ea, pa, ra⟩ := ha.ex
  exact ⟨_, pw_or1 pa, ra⟩
theorem b_and {r : List Expr} (ha : PB X W a tt) (hb : PBw X W (.BoolOp .And (b :: r) pos) tu) : PBw X W (.BoolOp .And (a :: b :: r) pos) (tbAnd tt tu) := by
  obtain ⟨ea, pa, ra⟩ := ha.ex
  obtain ⟨eb, pb, rb⟩ := hb.ex
  refine ⟨_, pw_and pa pb, fun G0 H0 Γ σ G H k kx Q F ht hk hx => ?_⟩
  refine ra G0 H0 Γ σ G H _ kx _ F ht (fun c G1 H1 k1 x1 => ?_) hx
  cases c with
  | true => exact rb G0 H0 Γ σ G1 H1 k kx Q (F.up x1) k1 (fun d G' H' kd ex => hk d G' H' kd (x1.trans ex)) (hx.up x1)
  | false => exact hk _ G1 H1 k1 x1
theorem b_or {r : List Expr} (ha : PB X W a tt) (hb : PBw X W (.BoolOp .Or (b :: r) pos) tu) : PBw X W (.BoolOp .Or (a :: b :: r) pos) (tbOr tt tu) := by
  obtain ⟨ea, pa, ra⟩ := ha.ex
  obtain ⟨eb, pb, rb⟩ := hb.ex
  refine ⟨_, pw_or pa pb, fun G0 H0 Γ σ G H k kx Q F ht hk hx => ?_⟩
  refine ra G0 H0 Γ σ G H _ kx _ F ht (fun c G1 H1 k1 x1 => ?_) hx
  cases c with
  | false => exact rb G0 H0 Γ σ G1 H1 k kx Q (F.up x1) k1 (fun d G' H' kd ex => hk d G' H' kd (x1.trans ex)) (hx.up x1)
  | true => exact hk _ G1 H1 k1 x1
theorem b_not (ha : PB X W a tt) : PB X W (.UnaryOp .Not a pos) (tbNot tt) := by
  obtain ⟨ea, pa, ra⟩ := ha.ex
  refine ⟨_, pt_not pa, fun G0 H0 Γ σ G H k kx Q F ht hk hx => ?_⟩
  exact ra G0 H0 Γ σ G H _ kx _ F ht (fun c G1 H1 k1 x1 => hk _ G1 H1 k1 x1) hx
def tpIf (t : TB) (ta tb : TP) : TP := fun Γ k kx => t Γ (fun c => if c = true then ta Γ k kx else tb Γ k kx) kx
theorem p_ifExp (hc : PB X W c tt) (ha : PP X W a ta) (hb : PP X W b tb) : PP X W (.IfExp c a b pos) (tpIf tt ta tb) := by
  obtain ⟨ec, pc, rc⟩ := hc.ex
  obtain ⟨ea, pa, ra⟩ := ha.ex
  obtain ⟨eb, pb, rb⟩ := hb.ex
  refine ⟨_, pe_ifExp pc pa pb, fun G0 H0 Γ σ G H k kx Q F ht hk hx => ?_⟩
  refine rc G0 H0 Γ σ G H _ kx _ F ht (fun c G1 H1 k1 x1 => ?_) hx
  cases c with
  | true => exact ra G0 H0 Γ σ G1 H1 k kx Q (F.up x1) k1 (fun d v G' H' kd ex dn => hk d v G' H' kd (x1.trans ex) dn) (hx.up x1)
  | false => exact rb G0 H0 Γ σ G1 H1 k kx Q (F.up x1) k1 (fun d v G' H' kd ex dn => hk d v G' H' kd (x1.trans ex) dn) (hx.up x1)
def tlNil : TL := fun _ k _ => k []
def tlCons (t : TP) (r : TL) : TL := fun Γ k kx => t Γ (fun d => r Γ (fun ds => k (d :: ds)) kx) kx
theorem l_nil : PL' X W [] tlNil := ⟨_, pa_nil, fun G0 H0 Γ σ G H k kx Q F ht hk hx => hk [] [] G H ht (Ext.refl F.sub) .nil⟩
theorem l_cons (ha : PP X W e t) (hr : PL' X W es tl) (hs : starEach (e :: es) X.env = (false, eval e X.env) :: starEach es X.env := by rfl) : PL' X W (e :: es) (tlCons t tl) := by
  obtain ⟨ea, pa, ra⟩ := ha.ex
  obtain ⟨eb, pb, rb⟩ := hr.ex
  refine ⟨_, pa_cons pa pb hs, fun G0 H0 Γ σ G H k kx Q F ht hk hx => ?_⟩
  refine ra G0 H0 Γ σ G H _ kx _ F ht (fun d1 v1 G1 H1 k1 x1 n1 => ?_) hx
  exact rb G0 H0 Γ σ G1 H1 _ kx _ (F.up x1) k1 (fun ds vs G' H' kd ex dn => hk (d1 :: ds) (v1 :: vs) G' H' kd (x1.trans ex) (.cons (n1.up ex.g) dn)) (hx.up x1)
def tpTup (t : TL) : TP := fun Γ k kx => t Γ (fun ds => ds.length ≤ 100000 ∧ k (.tup ds)) kx
def tpLst (t : TL) : TP := fun Γ k kx => t Γ (fun ds => ds.length ≤ 100000 ∧ k (.lst ds)) kx
theorem sz5 {n : Nat} (h : n ≤ 100000) : n ≤ sizeLine := Nat.le_trans h (by decide)
theorem p_tup {x1 : Nat} (h : PL' X W es tl) : PP X W (.Tuple es x1 pos) (tpTup tl) := by
  obtain ⟨ea, pa, ra⟩ := h.ex
  refine ⟨_, pe_tup pa, fun G0 H0 Γ σ G H k kx Q F ht hk hx => ?_⟩
  refine ra G0 H0 Γ σ G H _ kx _ F ht (fun ds vs G1 H1 k1 x1 n1 => ?_) hx
  refine ⟨by rw [n1.length]; exact sz5 k1.1, fun p hp => ?_⟩
  exact hk _ _ _ _ k1.2 (x1.trans (Ext.new x1.sub hp)) (.tup (SqT.of upd_same) (n1.up (same_upd (x1.sub.none hp))))
theorem p_lst (h : PL' X W es tl) : PP X W (.List es pos) (tpLst tl) := by
  obtain ⟨ea, pa, ra⟩ := h.ex
  refine ⟨_, pe_lst pa, fun G0 H0 Γ σ G H k kx Q F ht hk hx => ?_⟩
  refine ra G0 H0 Γ σ G H _ kx _ F ht (fun ds vs G1 H1 k1 x1 n1 => ?_) hx
  refine ⟨by rw [n1.length]; exact sz5 k1.1, fun p hp => ?_⟩
  exact hk _ _ _ _ k1.2 (x1.trans (Ext.new x1.sub hp)) (.lst upd_same (n1.up (same_upd (x1.sub.none hp))))
def fIx : F2
  | .lst xs, .int i, k => match atI xs i with
    | some d => k d
    | none => False
  | .tup xs, .int i, k => match atI xs i with
    | some d => k d
    | none => False
  | .str s, .int i, k => s.length ≤ sizeLine ∧ match atI s i with
    | some c => k (.str [c])
    | none => False
  | .cel _ ns, .int i, k => match atI ns i with
    | some n => k (.int n)
    | none => False
  | _, _, _ => False
theorem atI_map {α β : Type} (f : α → β) (xs : List α) (i : Int) : atI (xs.map f) i = (atI xs i).map f := by
  unfold atI
  rw [List.length_map]
  cases ixN xs.length i with
  | none => rfl
  | some j =>
    show (xs.map f)[j]? = (xs[j]?).map f
    rw [List.getElem?_map]
theorem DenU.cel {K : PySem.W.Frag} {H0 G H : Hp} {v : V} {l : Addr} {ns : List Int} (s : Sub G H) (h : DenU K H0 G H v (.cel l ns)) : v = .ref l ∧ SqL K H l (ns.map V.int) := by
  rcases h with h | ⟨p, e, g, r⟩
  · cases h with
    | cel h1 => exact ⟨rfl, .inl (s.tgl h1)⟩
  · exact r.elim
theorem ix_get {K : PySem.W.Frag} {G : Hp} {vs : List V} {ds : List D} {i : Int} {d : D} (r : DenL K G vs ds) (h : atI ds i = some d) : ∃ v, atI vs i = some v ∧ Den K G v d := by
  unfold atI at h ⊢
  rw [r.length]
  cases e : ixN ds.length i with
  | none => rw [e] at h; cases h
  | some j =>
    rw [e] at h
    exact r.get (i := j) h
theorem o_ix : IxR X (rIx X.K) ∧ RdO X.K (rIx X.K) fIx := by
  refine ⟨ix_seq, fun H0 G H v1 v2 d1 d2 k Q s n1 n2 hf hk => ?_⟩
  cases d1 with
  | lst xs =>
    cases d2 with
    | int i =>
      obtain ⟨a, ys, e1, h1, r1⟩ := n1.lst s
      unfold fIx at hf
      cases e : atI xs i with
      | none => simp only [e] at hf
      | some d =>
        simp only [e] at hf
        obtain ⟨v, hv, dn⟩ := ix_get r1 e
        exact .inl ⟨a, ys, i, v, e1, n2.int, SqL.of h1, hv, hk _ _ G H hf (Ext.refl s) dn⟩
    | _ => exact hf.elim
  | tup xs =>
    cases d2 with
    | int i =>
      obtain ⟨a, ys, e1, h1, r1⟩ := n1.tup s
      unfold fIx at hf
      cases e : atI xs i with
      | none => simp only [e] at hf
      | some d =>
        simp only [e] at hf
        obtain ⟨v, hv, dn⟩ := ix_get r1 e
        exact .inr (.inl ⟨a, ys, i, v, e1, n2.int, h1, hv, hk _ _ G H hf (Ext.refl s) dn⟩)
    | _ => exact hf.elim
  | str xs =>
    cases d2 with
    | int i =>
      unfold fIx at hf
      obtain ⟨hz, hf⟩ := hf
      cases e : atI xs i with
      | none => simp only [e] at hf
      | some c =>
        simp only [e] at hf
        exact .inr (.inr ⟨_, i, c, n1.str, n2.int, by rw [ss_length]; exact hz, e, hk _ _ G H hf (Ext.refl s) (.str [c])⟩)
    | _ => exact hf.elim
  | cel l ns =>
    cases d2 with
    | int i =>
      obtain ⟨e1, h1⟩ := n1.cel s
      unfold fIx at hf
      cases e : atI ns i with
      | none => simp only [e] at hf
      | some n =>
        simp only [e] at hf
        exact .inl ⟨l, _, i, .int n, e1, n2.int, h1, by rw [atI_map, e]; rfl, hk _ _ G H hf (Ext.refl s) (.int n)⟩
    | _ => exact hf.elim
  | _ => exact hf.elim
theorem p_ix (ha : PU X W a ta) (hb : PU X W b tb) (hs : PlainIx b := by exact fun _ _ => rfl) : PP X W (.Subscript a b pos) (tpOp fIx ta tb) := by
  obtain ⟨ea, pa, ra⟩ := ha.ex
  obtain ⟨eb, pb, rb⟩ := hb.ex
  exact ⟨_, pe_ix o_ix.1 pa pb hs, rd_op ra rb o_ix.2⟩
abbrev TO' := Ga → (Option Int → Prop) → KX → Prop
def RdPart (K : PySem.W.Frag) (W : WX) (te : TO) (t : TO') : Prop := ∀ (G0 H0 : Hp) (Γ : Ga) (σ : L2.St) (G H : Hp) (k : Option Int → Prop) (kx : KX) (Q : Option Int → Hp → Prop), Fr K G0 H0 Γ σ G H → t Γ k kx →
  (∀ b G' H', k b → Ext G H G' H' → Q b H') → XOk K W G H σ kx → te σ H Q
structure PPart (X : Cx) (W : WX) (e : Option Expr) (t : TO') : Prop where
  ex : ∃ te, PO X e te ∧ RdPart X.K W te t
def toNo : TO' := fun _ k _ => k none
def toSome (t : TP) : TO' := fun Γ k kx => t Γ (fun d => match d with | .int i => k (some i) | _ => False) kx
theorem s_none : PPart X W none toNo := ⟨_, po_none, fun G0 H0 Γ σ G H k kx Q F ht hk hx => hk none G H ht (Ext.refl F.sub)⟩
theorem s_some (ha : PP X W a ta) : PPart X W (some a) (toSome ta) := by
  obtain ⟨ea, pa, ra⟩ := ha.ex
  refine ⟨_, po_some pa, fun G0 H0 Γ σ G H k kx Q F ht hk hx => ?_⟩
  refine ra G0 H0 Γ σ G H _ kx _ F ht (fun d1 v1 G1 H1 k1 x1 n1 => ?_) hx
  cases d1 with
  | int i => exact ⟨i, DenU.int (.inl n1) (H0 := H0) (H := H1), hk _ G1 H1 k1 x1⟩
  | _ => exact k1.elim
def cutL {α : Type} (xs : List α) (lo hi : Option Int) : List α := (xs.drop (HT.sIx xs.length 0 lo)).take (HT.sIx xs.length xs.length hi - HT.sIx xs.length 0 lo)
/-- a tuple's slice that is a part of it -/
def fSl : D → Option Int → Option Int → KD → Prop
  | .lst xs, lo, hi, k => k (.lst (cutL xs lo hi))
  | .tup xs, lo, hi, k => k (.tup (cutL xs lo hi))
  | .str s, lo, hi, k => s.length ≤ sizeLine ∧ k (.str (cutL s lo hi))
  | _, _, _, _ => False
theorem cutV_den {K : PySem.W.Frag} {G : Hp} {vs : List V} {ds : List D} (r : DenL K G vs ds) (lo hi : Option Int) : DenL K G (cutV vs lo hi) (cutL ds lo hi) := by
  unfold cutV cutL
  rw [r.length]
  exact (r.drop _).take _
theorem cutS_ss (s : List Nat) (lo hi : Option Int) : cutS (SS s) lo hi = SS (cutL s lo hi) := by
  unfold cutS cutL
  rw [ss_length]
theorem cutL_whole {α : Type} {xs : List α} {lo hi : Option Int} (h : HT.sIx xs.length 0 lo = 0 ∧ HT.sIx xs.length xs.length hi = xs.length) : cutL xs lo hi = xs := by
  unfold cutL
  rw [h.1, h.2]
  simp
def tpSl (t : TP) (tl th : TO') : TP := fun Γ k kx => t Γ (fun d => tl Γ (fun lo => th Γ (fun hi => fSl d lo hi k) kx) kx) kx
theorem p_slice {lo hi : Option Expr} {tlo thi : TO'} {p2 : Pos} (ha : PU X W a ta) (hl : PPart X W lo tlo) (hh : PPart X W hi thi) : PP X W (.Subscript a (.Slice lo hi none p2) pos) (tpSl ta tlo thi) := by
  obtain ⟨ea, pa, ra⟩ := ha.ex
  obtain ⟨el, pl, rl⟩ := hl.ex
  obtain ⟨eh, ph, rh⟩ := hh.ex
  refine ⟨_, pe_slice (SlR.or sl_list (SlR.or sl_str sl_tupA)) pa pl ph, fun G0 H0 Γ σ G H k kx Q F ht hk hx => ?_⟩
  refine ra G0 H0 Γ σ G H _ kx _ F ht (fun d1 v1 G1 H1 k1 x1 n1 => ?_) hx
  refine rl G0 H0 Γ σ G1 H1 _ kx _ (F.up x1) k1 (fun l G2 H2 k2 x2 => ?_) (hx.up x1)
  refine rh G0 H0 Γ σ G2 H2 _ kx _ (F.up (x1.trans x2)) k2 (fun u G3 H3 k3 x3 => ?_) (hx.up (x1.trans x2))
  have x := (x1.trans x2).trans x3
  have n := n1.up (x2.trans x3)
  cases d1 with
  | lst xs =>
    obtain ⟨a, ys, e1, h1, r1⟩ := n.lst x.sub
    refine .inl ⟨a, ys, e1, SqL.of h1, fun p hp => ?_⟩
    exact hk _ _ _ _ k3 (x.trans (Ext.new x.sub hp)) (.lst upd_same ((cutV_den r1 l u).up (same_upd (x.sub.none hp))))
  | tup xs =>
    obtain ⟨a, ys, e1, h1, r1⟩ := n.tup x.sub
    refine .inr (.inr ⟨a, ys, e1, h1, fun hw => ?_, fun hw p hp => ?_⟩)
    · have e2 : cutL xs l u = xs := cutL_whole (by rw [r1.length] at hw; exact hw)
      have k3 : k (.tup (cutL xs l u)) := k3
      rw [e2] at k3
      subst e1
      rcases n with n | ⟨_, _, _, z⟩
      · exact hk _ _ _ _ k3 x n
      · exact z.elim
    · exact hk _ _ _ _ k3 (x.trans (Ext.new x.sub hp)) (.tup (SqT.of upd_same) ((cutV_den r1 l u).up (same_upd (x.sub.none hp))))
  | str s =>
    obtain ⟨hz, k3⟩ := (show s.length ≤ sizeLine ∧ k (.str (cutL s l u)) from k3)
    refine .inr (.inl ⟨_, n.str, by rw [ss_length]; exact hz, ?_⟩)
    rw [cutS_ss]
    exact hk _ _ _ _ k3 x (.str _)
  | _ => exact k3.elim
end
end PL
set_option Elab.async false
set_option linter.all false
set_option maxRecDepth 100000
set_option maxHeartbeats 2000000
namespace PL
open PySem L2
variable [Tabl]
structure PEn where
  nx : Ga → Prop
  bk : Ga → Prop := fun _ => False
  ct : Ga → Prop := fun _ => False
  rt : D → Ga → Prop
  xx : XD → Ga → Prop
abbrev TSp := PEn → Ga → Prop
structure EOk (K : PySem.W.Frag) (W : WX) (G0 H0 : Hp) (P : PEn) (E : Ends) : Prop where
  nx : ∀ Γ σ G H, P.nx Γ → Fr K G0 H0 Γ σ G H → E.nx σ H
  bk : ∀ Γ σ G H, P.bk Γ → Fr K G0 H0 Γ σ G H → E.bk σ H
  ct : ∀ Γ σ G H, P.ct Γ → Fr K G0 H0 Γ σ G H → E.ct σ H
  rt : ∀ d v Γ σ G H, P.rt d Γ → Fr K G0 H0 Γ σ G H → Den K G v d → E.rt v H
  xx : ∀ x cls dA Γ σ G H, P.xx x Γ → Fr K G0 H0 Γ σ G H → XDen K G H cls dA x → W cls dA σ H
def RdS (K : PySem.W.Frag) (W : WX) (ts : TS) (t : TSp) : Prop := ∀ (G0 H0 : Hp) (Γ : Ga) (σ : L2.St) (G H : Hp) (P : PEn) (E : Ends), Fr K G0 H0 Γ σ G H → t P Γ → EOk K W G0 H0 P E → ts E σ H
structure PS1 (X : Cx) (W : WX) (s : Stmt) (t : TSp) : Prop where
  ex : ∃ ts, PS X s ts ∧ RdS X.K W ts t
structure PSS (X : Cx) (W : WX) (s : List Stmt) (t : TSp) : Prop where
  ex : ∃ ts, PSs X s ts ∧ RdS X.K W ts t
theorem EOk.x {K : PySem.W.Frag} {W : WX} {G0 H0 : Hp} {P : PEn} {E : Ends} (e : EOk K W G0 H0 P E) {Γ : Ga} {σ : L2.St} {G H : Hp} (F : Fr K G0 H0 Γ σ G H) : XOk K W G H σ (fun x => P.xx x Γ) :=
  fun x cls dA G' H' a b c => e.xx x cls dA Γ σ G' H' a (F.up b) c
theorem EOk.withNx {K : PySem.W.Frag} {W : WX} {G0 H0 : Hp} {P : PEn} {E : Ends} (e : EOk K W G0 H0 P E) {n : Ga → Prop} {m : L2.St → Hp → Prop} (h : ∀ Γ σ G H, n Γ → Fr K G0 H0 Γ σ G H → m σ H) :
    EOk K W G0 H0 { P with nx := n } { E with nx := m } := ⟨h, e.bk, e.ct, e.rt, e.xx⟩
theorem EOk.loop {K : PySem.W.Frag} {W : WX} {G0 H0 : Hp} {P : PEn} {E : Ends} (e : EOk K W G0 H0 P E) {n : Ga → Prop} {m : L2.St → Hp → Prop} (h : ∀ Γ σ G H, n Γ → Fr K G0 H0 Γ σ G H → m σ H) :
    EOk K W G0 H0 { P with nx := n, ct := n, bk := P.nx } { E with nx := m, ct := m, bk := E.nx } := ⟨h, e.nx, h, e.rt, e.xx⟩
section
variable {K : PySem.W.Frag} {G0 H0 G H : Hp} {Γ : Ga} {σ : L2.St}
theorem Fr.set (F : Fr K G0 H0 Γ σ G H) {v : V} {d : D} (i : Nat) (r : Den K G v d) : Fr K G0 H0 (gset Γ i (.pu d)) (σ.set i (some v)) G H := by
  rw [gset_eq]
  refine ⟨by rw [List.length_set, List.length_set]; exact F.len, F.e, fun j s h => ?_, fun a b p s t h1 h2 h3 h4 h5 h6 => ?_⟩
  · by_cases hj : i = j
    · subst hj
      have hl : i < Γ.length := by
        have := (List.getElem?_eq_some_iff.mp h).1
        rw [List.length_set] at this
        exact this
      rw [List.getElem?_set_self hl] at h
      cases h
      exact ⟨v, by rw [List.getElem?_set_self (by rw [F.len]; exact hl)], r⟩
    · rw [List.getElem?_set_ne hj] at h ⊢
      exact F.at_ j s h
  · have ha : a ≠ i := fun z => by
      subst z
      have hl : a < Γ.length := by
        have := (List.getElem?_eq_some_iff.mp h1).1
        rw [List.length_set] at this
        exact this
      rw [List.getElem?_set_self hl] at h1
      cases h1
      exact h2
    have hb : b ≠ i := fun z => by
      subst z
      have hl : b < Γ.length := by
        have := (List.getElem?_eq_some_iff.mp h3).1
        rw [List.length_set] at this
        exact this
      rw [List.getElem?_set_self hl] at h3
      cases h3
      exact h4
    rw [List.getElem?_set_ne (Ne.symm ha)] at h1 h5
    rw [List.getElem?_set_ne (Ne.symm hb)] at h3 h6
    exact F.dj a b p s t h1 h2 h3 h4 h5 h6
theorem OwnAt.upd {K : PySem.W.Frag} {H0 G H : Hp} {p q : Addr} {d : D} {o u : HO} (h : OwnAt K H0 G H q d) (n : q ≠ p) (hp : H p = some u) (hu : MutO u) : OwnAt K H0 G (upd H p o) q d := by
  cases d with
  | lst ds => obtain ⟨xs, h1, h2⟩ := h; exact ⟨xs, by rw [upd_ne n]; exact h1, h2⟩
  | dct ks => obtain ⟨xs, h1, h2⟩ := h; exact ⟨xs, by rw [upd_ne n]; exact h1, h2⟩
  | ins C fs =>
    obtain ⟨dx, fvs, h1, h2, h3⟩ := h
    have nd : dx ≠ p := fun z => by
      subst z
      rw [hp] at h2
      cases h2
      exact hu
    exact ⟨dx, fvs, by rw [upd_ne n]; exact h1, by rw [upd_ne nd]; exact h2, h3⟩
  | _ => exact h.elim
theorem tab_upd {p P : Addr} {q : PySem.Str} {o u : HO} (t : LamX.TabS H P q) (hp : H p = some u) (hu : MutO u) : LamX.TabS (L2.upd H p o) P q := by
  obtain ⟨ps, h1, h2, h3⟩ := t
  have ne : ∀ {a : Addr} {v : HO}, H a = some v → ¬ MutO v → a ≠ p := fun {a v} e n z => by
    rw [z, hp] at e
    cases e
    exact n hu
  refine ⟨ps, by rw [upd_ne (ne h1 fun z => z)]; exact h1, h2, fun pos cv hc => ?_⟩
  obtain ⟨c, e1, e2⟩ := h3 pos cv hc
  exact ⟨c, e1, by rw [upd_ne (ne e2 fun z => z)]; exact e2⟩
theorem SlOk.upd {p : Addr} {o u : HO} {ov : Option (Option V)} {s : Sl} (h : SlOk K H0 G H ov s) (n : s.owns → ov ≠ some (some (.ref p))) (hp : H p = some u) (hu : MutO u) : SlOk K H0 G (L2.upd H p o) ov s := by
  cases s with
  | un => trivial
  | pu d => exact h
  | ow d =>
    obtain ⟨q, e, g, h0, r⟩ := h
    have nq : q ≠ p := fun z => n trivial (by rw [e, z])
    exact ⟨q, e, g, h0, r.upd nq hp hu⟩
  | lk q v d =>
    obtain ⟨e, g, h0, hq, r⟩ := h
    have nq : q ≠ p := fun z => n trivial (by rw [e, z])
    exact ⟨e, g, h0, by rw [upd_ne nq]; exact hq, r.upd nq hp hu⟩
  | pw q d =>
    obtain ⟨e, g, h0, r⟩ := h
    have nq : q ≠ p := fun z => n trivial (by rw [e, z])
    exact ⟨e, g, h0, r.upd nq hp hu⟩
  | kp v c w Gx =>
    obtain ⟨e, h1, h2, h3⟩ := h
    have nc : c ≠ p := fun z => by
      rw [z, hp] at h1
      cases h1
      exact h2 hu
    exact ⟨e, by rw [upd_ne nc]; exact h1, h2, h3⟩
  | xv a cls dA fs =>
    obtain ⟨e, h1⟩ := h
    refine ⟨e, ?_⟩
    rcases h1 with h1 | ⟨q, fvs, h1, h2, h3⟩
    · exact .inl h1
    · refine .inr ⟨q, fvs, h1, ?_, h3⟩
      rw [upd_ne (fun z => by
        rw [z, hp] at h2
        cases h2
        exact hu)]
      exact h2
  | pf d l Gx =>
    obtain ⟨h0, h1, h2⟩ := h
    refine ⟨h0, fun q hq => ⟨?_, (h1 q hq).2⟩, h2⟩
    rw [upd_ne (fun z => by
      have e := (h1 q hq).1
      rw [z, hp] at e
      exact (h1 q hq).2.1 (Option.some.inj e ▸ hu))]
    exact (h1 q hq).1
theorem gset_gat {Γ : Ga} {i : Nat} {s t : Sl} (h : Γ[i]? = some s) : (gset Γ i t)[i]? = some t := by
  rw [gset_eq]
  exact List.getElem?_set_self (List.getElem?_eq_some_iff.mp h).1
/-- an own object is changed -/
theorem Fr.mut (F : Fr K G0 H0 Γ σ G H) {i : Nat} {sl : Sl} {d d' : D} {p : Addr} {o u : HO} (hs : Γ[i]? = some sl) (ht : sl.og = some d) (e : σ[i]? = some (some (.ref p))) (g : G p = none) (h0 : H0 p = none) (hp : H p = some u) (hu : MutO u)
    (new : OwnAt K H0 G (upd H p o) p d') : Fr K G0 H0 (gset Γ i (sl.op d')) σ G (upd H p o) := by
  have tow : sl.owns := by
    cases sl <;> first | trivial | cases ht
  have len := F.len
  refine ⟨by rw [gset_eq, List.length_set]; exact len, ⟨⟨fun a x q n => ?_, fun a x q => ?_, fun t q hq => tab_upd (F.sub.tb q hq) hp hu⟩, F.e.g, fun a h ⟨x, q⟩ => F.e.nw a h ⟨x, q⟩, ⟨fun a x q => ?_, F.sub.nt, fun q hq => tab_upd (F.sub.tb q hq) hp hu⟩⟩, fun j s h => ?_, fun a b q s t h1 h2 h3 h4 h5 h6 => ?_⟩
  · rw [upd_ne (ne_of_none q h0)]
    exact F.e.h.k _ _ q n
  · rw [upd_ne (ne_of_none q h0)]
    exact F.e.h.t _ _ q
  · rw [upd_ne (ne_of_none q g)]
    exact F.sub.m a x q
  · by_cases hj : i = j
    · subst hj
      rw [gset_gat hs] at h
      cases h
      cases sl with
      | pw q d2 =>
        have q2 := F.at_ i _ hs
        obtain ⟨e2, _⟩ := q2
        rw [e] at e2
        cases e2
        exact ⟨e, g, h0, new⟩
      | _ => exact ⟨p, e, g, h0, new⟩
    · rw [gset_eq, List.getElem?_set_ne hj] at h
      refine (F.at_ j s h).upd (fun ow z => hj ?_) hp hu
      exact F.dj i j p sl s hs tow h ow e z
  · have f : ∀ (a : Nat) (s : Sl), (gset Γ i (sl.op d'))[a]? = some s → s.owns → ∃ s', Γ[a]? = some s' ∧ s'.owns := fun a s h1 h2 => by
      by_cases ha : i = a
      · subst ha
        exact ⟨_, hs, tow⟩
      · rw [gset_eq, List.getElem?_set_ne ha] at h1
        exact ⟨s, h1, h2⟩
    obtain ⟨s', g1, g2⟩ := f a s h1 h2
    obtain ⟨t', g3, g4⟩ := f b t h3 h4
    exact F.dj a b q s' t' g1 g2 g3 g4 h5 h6
/-- a new own object -/
theorem Fr.own (F : Fr K G0 H0 Γ σ G H) {d : D} {p : Addr} {o : HO} (i : Nat) (hn : H p = none) (new : OwnAt K H0 G (upd H p o) p d) : Fr K G0 H0 (gset Γ i (.ow d)) (σ.set i (some (.ref p))) G (upd H p o) := by
  have hg := F.sub.none hn
  have h0 : H0 p = none := F.e.h.free hn
  have so : ∀ (j : Nat) (s : Sl), Γ[j]? = some s → SlOk K H0 G (L2.upd H p o) (σ[j]?) s := fun j s h => by
    have q := F.at_ j s h
    cases s with
    | un => trivial
    | pu d => exact q
    | ow e =>
      obtain ⟨a, e1, g1, h1, r⟩ := q
      refine ⟨a, e1, g1, h1, ?_⟩
      exact r.up (Ext.beside F.sub hn)
    | lk a v e =>
      obtain ⟨e1, g1, h1, q1, r⟩ := q
      refine ⟨e1, g1, h1, by rw [upd_ne (ne_of_none q1 hn)]; exact q1, ?_⟩
      exact r.up (Ext.beside F.sub hn)
    | pw a e =>
      obtain ⟨e1, g1, h1, r⟩ := q
      refine ⟨e1, g1, h1, ?_⟩
      exact r.up (Ext.beside F.sub hn)
    | kp v c w Gx => exact SlOk.up (G := G) (s := .kp v c w Gx) q (Ext.beside F.sub hn)
    | xv a cls dA fs => exact SlOk.up (G := G) (s := .xv a cls dA fs) q (Ext.beside F.sub hn)
    | pf d l Gx => exact SlOk.up (G := G) (s := .pf d l Gx) q (Ext.beside F.sub hn)
  have apart : ∀ (j : Nat) (s : Sl), Γ[j]? = some s → s.owns → σ[j]? ≠ some (some (.ref p)) := fun j s h ow z => by
    have q := F.at_ j s h
    cases s with
    | un => exact ow
    | pu d => exact ow
    | kp v c w Gx => exact ow
    | xv a cls dA fs => exact ow
    | pf d l Gx => exact ow
    | ow e =>
      obtain ⟨a, e1, g1, h1, r⟩ := q
      rw [e1] at z
      cases z
      obtain ⟨_, y⟩ := r.there
      rw [hn] at y
      cases y
    | lk a v e =>
      obtain ⟨e1, g1, h1, q1, r⟩ := q
      rw [e1] at z
      cases z
      rw [hn] at q1
      cases q1
    | pw a e =>
      obtain ⟨e1, g1, h1, r⟩ := q
      rw [e1] at z
      cases z
      obtain ⟨_, y⟩ := r.there
      rw [hn] at y
      cases y
  refine ⟨by rw [gset_eq, List.length_set, List.length_set]; exact F.len, ⟨F.e.h.trans (.of (same_upd hn)), F.e.g, F.e.nw, F.sub.up (same_upd hn)⟩, fun j s h => ?_, fun a b q s t h1 h2 h3 h4 h5 h6 => ?_⟩
  · rw [gset_eq] at h
    by_cases hj : i = j
    · subst hj
      have hl : i < Γ.length := by
        have := (List.getElem?_eq_some_iff.mp h).1
        rw [List.length_set] at this
        exact this
      rw [List.getElem?_set_self hl] at h
      cases h
      exact ⟨p, by rw [List.getElem?_set_self (by rw [F.len]; exact hl)], hg, h0, new⟩
    · rw [List.getElem?_set_ne hj] at h ⊢
      exact so j s h
  · rw [gset_eq] at h1 h3
    by_cases ha : i = a
    · by_cases hb : i = b
      · exact ha.symm.trans hb
      · exfalso
        subst ha
        rw [List.getElem?_set_ne hb] at h3 h6
        have hl : i < σ.length := by
          have := (List.getElem?_eq_some_iff.mp h5).1
          rw [List.length_set] at this
          exact this
        rw [List.getElem?_set_self hl] at h5
        cases h5
        exact apart b t h3 h4 h6
    · by_cases hb : i = b
      · exfalso
        subst hb
        rw [List.getElem?_set_ne ha] at h1 h5
        have hl : i < σ.length := by
          have := (List.getElem?_eq_some_iff.mp h6).1
          rw [List.length_set] at this
          exact this
        rw [List.getElem?_set_self hl] at h6
        cases h6
        exact apart a s h1 h2 h5
      · rw [List.getElem?_set_ne ha] at h1 h5
        rw [List.getElem?_set_ne hb] at h3 h6
        exact F.dj a b q s t h1 h2 h3 h4 h5 h6
end
section
variable {X : Cx} {W : WX} {e a b c : Expr} {es : List Expr} {t ta tb tc : TP} {tl : TL} {tt tu : TB} {pos : Pos} {st : Stmt} {rest body els : List Stmt} {s u v : TSp}
def tsNext : TSp := fun P Γ => P.nx Γ
def tsSeq (s u : TSp) : TSp := fun P Γ => s { P with nx := u P } Γ
theorem ss_nil : PSS X W [] tsNext := ⟨_, pss_nil, fun G0 H0 Γ σ G H P E F ht ok => ok.nx Γ σ G H ht F⟩
theorem ss_cons (h1 : PS1 X W st s) (h2 : PSS X W rest u) : PSS X W (st :: rest) (tsSeq s u) := by
  obtain ⟨t1, p1, r1⟩ := h1.ex
  obtain ⟨t2, p2, r2⟩ := h2.ex
  refine ⟨_, pss_cons p1 p2, fun G0 H0 Γ σ G H P E F ht ok => ?_⟩
  exact r1 G0 H0 Γ σ G H { P with nx := u P } { E with nx := t2 E } F ht (ok.withNx fun Γ' σ' G' H' n F' => r2 G0 H0 Γ' σ' G' H' P E F' n ok)
theorem ss_one (h1 : PS1 X W st s) : PSS X W [st] s := by
  obtain ⟨t1, p1, r1⟩ := h1.ex
  exact ⟨_, pss_one p1, r1⟩
def tsDrop (t : TP) : TSp := fun P Γ => t Γ (fun _ => P.nx Γ) (fun x => P.xx x Γ)
theorem s_expr (h : PU X W e t) (hs : swapsWith e none pos.line X.env = pure false := by rfl) : PS1 X W (.Expr e pos) (tsDrop t) := by
  obtain ⟨ea, pa, ra⟩ := h.ex
  refine ⟨_, ps_expr pa hs, fun G0 H0 Γ σ G H P E F ht ok => ?_⟩
  exact ra G0 H0 Γ σ G H _ _ _ F ht (fun d v G' H' k x n => ok.nx Γ σ G' H' k (F.up x)) (ok.x F)
def tsRet (t : TP) : TSp := fun P Γ => t Γ (fun d => P.rt d Γ) (fun x => P.xx x Γ)
theorem s_ret (h : PP X W e t) : PS1 X W (.Return (some e) pos) (tsRet t) := by
  obtain ⟨ea, pa, ra⟩ := h.ex
  refine ⟨_, ps_ret pa, fun G0 H0 Γ σ G H P E F ht ok => ?_⟩
  exact ra G0 H0 Γ σ G H _ _ _ F ht (fun d v G' H' k x n => ok.rt d v Γ σ G' H' k (F.up x) n) (ok.x F)
theorem Ext.thaw {G H : Hp} (s : Sub G H) {G0 H0 : Hp} {p : Addr} {o : HO} (e : Ext G0 H0 G H) (h0 : H0 p = none) (g : G p = none) (hp : H p = some o) (n : NT o := by intro _ z; cases z) : Ext G0 H0 (upd G p o) H := by
  refine ⟨e.h, e.g.trans (same_upd g), fun a q ⟨u, z⟩ => ?_, ⟨fun a u q => ?_, fun a u q => ?_, s.tb⟩⟩
  · rw [upd_ne (ne_of_none z h0)]
    exact e.nw a q ⟨u, z⟩
  · by_cases z : a = p
    · subst z
      rw [upd_same] at q
      cases q
      exact .inl hp
    · rw [upd_ne z] at q
      exact s.m a u q
  · by_cases z : a = p
    · subst z
      rw [upd_same] at q
      cases q
      exact n
    · rw [upd_ne z] at q
      exact s.nt a u q
/-- an own object is pure from now on -/
theorem Fr.thaw {K : PySem.W.Frag} {G0 H0 G H : Hp} {Γ : Ga} {σ : L2.St} (F : Fr K G0 H0 Γ σ G H) {i : Nat} {d : D} {p : Addr} {o : HO} (hs : Γ[i]? = some (.ow d)) (e : σ[i]? = some (some (.ref p))) (g : G p = none) (h0 : H0 p = none) (hp : H p = some o) (ho : MutO o) : Fr K G0 H0 (gset Γ i .un) σ (upd G p o) H := by
  have other : ∀ (j : Nat) (s : Sl), (gset Γ i .un)[j]? = some s → s ≠ .un → i ≠ j ∧ Γ[j]? = some s := fun j s h n => by
    rw [gset_eq] at h
    by_cases hj : i = j
    · subst hj
      rw [List.getElem?_set_self (List.getElem?_eq_some_iff.mp hs).1] at h
      exact absurd (Option.some.inj h).symm n
    · rw [List.getElem?_set_ne hj] at h
      exact ⟨hj, h⟩
  refine ⟨by rw [gset_eq, List.length_set]; exact F.len, Ext.thaw F.sub F.e h0 g hp ho.nt, fun j s h => ?_, fun a b q s t h1 h2 h3 h4 h5 h6 => ?_⟩
  · by_cases n : s = .un
    · subst n
      trivial
    · obtain ⟨hj, h⟩ := other j s h n
      have q := F.at_ j s h
      have ne : s.owns → ∀ r, σ[j]? = some (some (.ref r)) → r ≠ p := fun ow r e2 z => by
        subst z
        exact hj (F.dj i j r (.ow d) s hs trivial h ow e e2)
      cases s with
      | un => trivial
      | pu d => obtain ⟨v, e1, r⟩ := q; exact ⟨v, e1, r.up (same_upd g)⟩
      | kp v c w Gx => obtain ⟨q1, q2, q3, q4, q5⟩ := q; exact ⟨q1, q2, q3, q4, q5.trans (same_upd g)⟩
      | xv a cls dA fs =>
        obtain ⟨e1, q⟩ := q
        refine ⟨e1, ?_⟩
        rcases q with q | ⟨r, fvs, q1, q2, q3⟩
        · exact .inl q
        · exact .inr ⟨r, fvs, q1, q2, q3.up (same_upd g)⟩
      | pf d l Gx =>
        obtain ⟨⟨v, e1, r⟩, q1, q2⟩ := q
        exact ⟨⟨v, e1, r.up (same_upd g)⟩, q1, q2.trans (same_upd g)⟩
      | ow d2 =>
        obtain ⟨r, e1, g1, h1, o1⟩ := q
        have nr := ne trivial r e1
        refine ⟨r, e1, by rw [upd_ne nr]; exact g1, h1, ?_⟩
        cases d2 with
        | lst ds => obtain ⟨xs, a1, a2⟩ := o1; exact ⟨xs, a1, a2.up (same_upd g)⟩
        | dct ks => obtain ⟨xs, a1, a2⟩ := o1; exact ⟨xs, a1, a2.up (same_upd g)⟩
        | ins C fs =>
          obtain ⟨dx, fvs, a1, a2, a3, a4, a5⟩ := o1
          have nd : dx ≠ p := fun z => by
            subst z
            rw [hp] at a2
            cases a2
            exact ho
          exact ⟨dx, fvs, a1, a2, by rw [upd_ne nd]; exact a3, a4, a5.up (same_upd g)⟩
        | _ => exact o1.elim
      | lk r u d2 =>
        obtain ⟨e1, g1, h1, hq, o1⟩ := q
        have nr := ne trivial r e1
        refine ⟨e1, by rw [upd_ne nr]; exact g1, h1, hq, ?_⟩
        cases d2 with
        | lst ds => obtain ⟨xs, a1, a2⟩ := o1; exact ⟨xs, a1, a2.up (same_upd g)⟩
        | dct ks => obtain ⟨xs, a1, a2⟩ := o1; exact ⟨xs, a1, a2.up (same_upd g)⟩
        | ins C fs =>
          obtain ⟨dx, fvs, a1, a2, a3, a4, a5⟩ := o1
          have nd : dx ≠ p := fun z => by
            subst z
            rw [hp] at a2
            cases a2
            exact ho
          exact ⟨dx, fvs, a1, a2, by rw [upd_ne nd]; exact a3, a4, a5.up (same_upd g)⟩
        | _ => exact o1.elim
      | pw r d2 =>
        obtain ⟨e1, g1, h1, o1⟩ := q
        have nr := ne trivial r e1
        refine ⟨e1, by rw [upd_ne nr]; exact g1, h1, ?_⟩
        cases d2 with
        | lst ds => obtain ⟨xs, a1, a2⟩ := o1; exact ⟨xs, a1, a2.up (same_upd g)⟩
        | dct ks => obtain ⟨xs, a1, a2⟩ := o1; exact ⟨xs, a1, a2.up (same_upd g)⟩
        | ins C fs =>
          obtain ⟨dx, fvs, a1, a2, a3, a4, a5⟩ := o1
          have nd : dx ≠ p := fun z => by
            subst z
            rw [hp] at a2
            cases a2
            exact ho
          exact ⟨dx, fvs, a1, a2, by rw [upd_ne nd]; exact a3, a4, a5.up (same_upd g)⟩
        | _ => exact o1.elim
  · obtain ⟨_, k1⟩ := other a s h1 (fun z => by subst z; exact h2)
    obtain ⟨_, k3⟩ := other b t h3 (fun z => by subst z; exact h4)
    exact F.dj a b q s t k1 h2 k3 h4 h5 h6
def tsIf (c : TB) (s u : TSp) : TSp := fun P Γ => c Γ (fun b => if b = true then s P Γ else u P Γ) (fun x => P.xx x Γ)
theorem s_if (hc : PB X W c tt) (ha : PSS X W body s) (hb : PSS X W els u) : PS1 X W (.If c body els pos) (tsIf tt s u) := by
  obtain ⟨ec, pc, rc⟩ := hc.ex
  obtain ⟨ea, pa, ra⟩ := ha.ex
  obtain ⟨eb, pb, rb⟩ := hb.ex
  refine ⟨_, ps_if pc pa pb, fun G0 H0 Γ σ G H P E F ht ok => ?_⟩
  refine rc G0 H0 Γ σ G H _ _ _ F ht (fun c G1 H1 k1 x1 => ?_) (ok.x F)
  cases c with
  | true => exact ra G0 H0 Γ σ G1 H1 P E (F.up x1) k1 ok
  | false => exact rb G0 H0 Γ σ G1 H1 P E (F.up x1) k1 ok
def tsSet (i : Nat) (t : TP) : TSp := fun P Γ => t Γ (fun d => P.nx (gset Γ i (.pu d))) (fun x => P.xx x Γ)
theorem rd_set {te : TE} (i : Nat) (h : RdP X.K W te t) : RdS X.K W (tAsg te (gName i)) (tsSet i t) := by
  intro G0 H0 Γ σ G H P E F ht ok
  exact h G0 H0 Γ σ G H _ _ _ F ht (fun d v G' H' k x n => ok.nx _ _ G' H' k ((F.up x).set i n)) (ok.x F)
theorem s_set (i : Nat) {x : PySem.Str} {p2 : Pos} (h : PP X W e t) (nd : X.N.Nodup) (hi : X.N[i]? = some x := by rfl) (hx : Loc X.env.scope x := by first | exact Or.inl rfl | exact Or.inr rfl)
    (hf : X.fn x = true ∨ X.env.scope.names.lookup x = some .local := by first | exact .inl rfl | exact .inr rfl) (hs : swapsWith e (some (.Name x p2)) pos.line X.env = pure false := by rfl) : PS1 X W (.Assign [.Name x p2] e pos) (tsSet i t) := by
  obtain ⟨ea, pa, ra⟩ := h.ex
  exact ⟨_, ps_set nd hi hx pa hs hf, rd_set i ra⟩
/-- a new list (dict) that is the frame's own from now on -/
def RdNew (K : PySem.W.Frag) (W : WX) (te : TE) (t : TP) : Prop := ∀ (G0 H0 : Hp) (Γ : Ga) (σ : L2.St) (G H : Hp) (k : KD) (kx : KX) (Q : VK), Fr K G0 H0 Γ σ G H → t Γ k kx →
  (∀ d G' H' p o, k d → Ext G H G' H' → H' p = none → OwnAt K H0 G' (upd H' p o) p d → Q (.ref p) (upd H' p o)) → XOk K W G H σ kx → te σ H Q
structure PN (X : Cx) (W : WX) (e : Expr) (t : TP) : Prop where
  ex : ∃ te, PE X e te ∧ RdNew X.K W te t
def tsOwn (i : Nat) (t : TP) : TSp := fun P Γ => t Γ (fun d => P.nx (gset Γ i (.ow d))) (fun x => P.xx x Γ)
theorem rd_own {te : TE} (i : Nat) (h : RdNew X.K W te t) : RdS X.K W (tAsg te (gName i)) (tsOwn i t) := by
  intro G0 H0 Γ σ G H P E F ht ok
  exact h G0 H0 Γ σ G H _ _ _ F ht (fun d G' H' p o k x hn r => ok.nx _ _ G' _ k ((F.up x).own i hn r)) (ok.x F)
theorem s_own (i : Nat) {x : PySem.Str} {p2 : Pos} (h : PN X W e t) (nd : X.N.Nodup) (hi : X.N[i]? = some x := by rfl) (hx : Loc X.env.scope x := by first | exact Or.inl rfl | exact Or.inr rfl)
    (hf : X.fn x = true ∨ X.env.scope.names.lookup x = some .local := by first | exact .inl rfl | exact .inr rfl) (hs : swapsWith e (some (.Name x p2)) pos.line X.env = pure false := by rfl) : PS1 X W (.Assign [.Name x p2] e pos) (tsOwn i t) := by
  obtain ⟨ea, pa, ra⟩ := h.ex
  exact ⟨_, ps_set nd hi hx pa hs hf, rd_own i ra⟩
theorem n_lst (h : PL' X W es tl) : PN X W (.List es pos) (tpLst tl) := by
  obtain ⟨ea, pa, ra⟩ := h.ex
  refine ⟨_, pe_lst pa, fun G0 H0 Γ σ G H k kx Q F ht hk hx => ?_⟩
  refine ra G0 H0 Γ σ G H _ kx _ F ht (fun ds vs G1 H1 k1 x1 n1 => ?_) hx
  refine ⟨by rw [n1.length]; exact sz5 k1.1, fun p hp => ?_⟩
  exact hk _ G1 H1 p _ k1.2 x1 hp ⟨vs, upd_same, n1⟩
/-- an own list, what is done with it -/
def onOL (Γ : Ga) (i : Nat) (k : List D → Prop) : Prop := match (gat Γ i).og with
  | some (.lst ds) => k ds
  | _ => False
def oput (Γ : Ga) (i : Nat) (d : D) : Ga := gset Γ i ((gat Γ i).op d)
def tsApp (i : Nat) (t : TP) : TSp := fun P Γ => onOL Γ i fun ds => t Γ (fun d => ds.length < 100000 ∧ P.nx (oput Γ i (.lst (ds ++ [d])))) (fun x => P.xx x Γ)
theorem sz5' {n : Nat} (h : n < 100000) : n < sizeLine := Nat.lt_of_lt_of_le h (by decide)
theorem onOL_elim {Γ : Ga} {i : Nat} {k : List D → Prop} (h : onOL Γ i k) : ∃ ds, (gat Γ i).og = some (.lst ds) ∧ k ds := by
  unfold onOL at h
  cases e : (gat Γ i).og with
  | none => simp only [e] at h
  | some d =>
    cases d with
    | lst ds =>
      simp only [e] at h
      exact ⟨ds, rfl, h⟩
    | _ => simp only [e] at h
theorem own_at {K : PySem.W.Frag} {G0 H0 G H : Hp} {Γ : Ga} {σ : L2.St} (F : Fr K G0 H0 Γ σ G H) {i : Nat} {d : D} (h : (gat Γ i).og = some d) : Γ[i]? = some (gat Γ i) ∧ ∃ p, σ[i]? = some (some (.ref p)) ∧ G p = none ∧ H0 p = none ∧ OwnAt K H0 G H p d := by
  cases e : gat Γ i with
  | ow d2 =>
    rw [e] at h
    cases h
    have k := gat_get Γ i _ e (by simp)
    exact ⟨k, F.at_ i _ k⟩
  | pw p d2 =>
    rw [e] at h
    cases h
    have k := gat_get Γ i _ e (by simp)
    exact ⟨k, p, F.at_ i _ k⟩
  | _ =>
    rw [e] at h
    cases h
theorem rd_append {te : TE} (i : Nat) (ra : RdP X.K W te t) : RdS X.K W (tDrop (tBM X.K "list" rAppend (tVar i) (tCons te tNil))) (tsApp i t) := by
  intro G0 H0 Γ σ G H P E F ht ok
  obtain ⟨ds, hs, ht⟩ := onOL_elim ht
  obtain ⟨key, p, e1, g1, h01, xs0, q1, q2⟩ := own_at F hs
  refine ⟨.ref p, e1, .inl ⟨rfl, xs0, SqL.of q1⟩, ?_⟩
  refine ra G0 H0 Γ σ G H _ _ _ F ht (fun d v G' H' k x n => ?_) (ok.x F)
  have F1 := F.up x
  obtain ⟨_, p', e2, g2, h02, xs, q3, q4⟩ := own_at F1 hs
  rw [e1] at e2
  cases e2
  refine ⟨p, xs, v, rfl, rfl, q3, by rw [q4.length]; exact sz5' k.1, ?_⟩
  exact ok.nx _ _ _ _ k.2 (F1.mut key hs e1 g2 h02 q3 trivial ⟨_, upd_same, q4.append (.cons n .nil)⟩)
theorem s_append (i : Nat) {call : Expr} (h : PP X W e t) (hp : ∀ ea, PE X e ea → PE X call (tBM X.K "list" rAppend (tVar i) (tCons ea tNil))) (hs : swapsWith call none pos.line X.env = pure false := by rfl) : PS1 X W (.Expr call pos) (tsApp i t) := by
  obtain ⟨ea, pa, ra⟩ := h.ex
  exact ⟨_, ps_expr (hp _ pa) hs, rd_append i ra⟩
theorem Ext.back {G0 H0 G H G' H' : Hp} (a : Ext G0 H0 G H) (b : Ext G H0 G' H') : Ext G0 H0 G' H' :=
  ⟨b.h, a.g.trans b.g, fun x h q => b.nw x (a.nw x h q) q, b.sub⟩
theorem Fr.rebase {K : PySem.W.Frag} {G0 H0 G H : Hp} {Γ : Ga} {σ : L2.St} (F : Fr K G0 H0 Γ σ G H) : Fr K G H0 Γ σ G H :=
  ⟨F.len, ⟨F.e.h, Same.refl G, fun _ h _ => h, F.sub⟩, F.at_, F.dj⟩
theorem Fr.back {K : PySem.W.Frag} {G0 H0 G H G' H' : Hp} {Γ : Ga} {σ : L2.St} (a : Ext G0 H0 G H) (F : Fr K G H0 Γ σ G' H') : Fr K G0 H0 Γ σ G' H' :=
  ⟨F.len, a.back F.e, F.at_, F.dj⟩
theorem EOk.rebase {K : PySem.W.Frag} {W : WX} {G0 H0 G H : Hp} {P : PEn} {E : Ends} (ok : EOk K W G0 H0 P E) (a : Ext G0 H0 G H) : EOk K W G H0 P E :=
  ⟨fun Γ σ G' H' p F => ok.nx Γ σ G' H' p (F.back a), fun Γ σ G' H' p F => ok.bk Γ σ G' H' p (F.back a), fun Γ σ G' H' p F => ok.ct Γ σ G' H' p (F.back a), fun d v Γ σ G' H' p F n => ok.rt d v Γ σ G' H' p (F.back a) n,
    fun x cls dA Γ σ G' H' p F n => ok.xx x cls dA Γ σ G' H' p (F.back a) n⟩
/-- J yields the items ds as long as ok holds -/
structure Wk (K : PySem.W.Frag) (J : It) (ds : List D) (ok : Hp → Hp → Prop) : Prop where
  go : ∀ i G H, i < ds.length → ok G H → Sub G H → J.go i H
  yl : ∀ i G H x H', i < ds.length → ok G H → Sub G H → J.yld i H x H' → ∃ d G', ds[i]? = some d ∧ Ext G H G' H' ∧ Den K G' x d
  st : ∀ G H, ok G H → Sub G H → J.stop ds.length H
def RdI (K : PySem.W.Frag) (W : WX) (wi : TI) (t : TL) : Prop := ∀ (G0 H0 : Hp) (Γ : Ga) (σ : L2.St) (G H : Hp) (k : List D → Prop) (kx : KX) (R : It → Hp → Prop), Fr K G0 H0 Γ σ G H → t Γ k kx →
  (∀ ds J G' H', k ds → Ext G H G' H' → Wk K J ds (fun G2 _ => Same G' G2) → R J H') → XOk K W G H σ kx → wi σ H R
structure PIt (X : Cx) (W : WX) (tg iter : Expr) (t : TL) : Prop where
  ex : ∃ wi, PI X tg iter wi ∧ RdI X.K W wi t
abbrev TGp := D → Ga → (Ga → Prop) → Prop
def RdG (K : PySem.W.Frag) (is : List Nat) (g : TG) (t : TGp) : Prop := ∀ (G0 H0 : Hp) (Γ : Ga) (σ : L2.St) (G H : Hp) (d : D) (v : V) (k : Ga → Prop) (Q : L2.St → Hp → Prop), Fr K G0 H0 Γ σ G H → Den K G v d → t d Γ k →
  (∀ Γ' σ', k Γ' → Fr K G0 H0 Γ' σ' G H → wipe σ' is = wipe σ is → Q σ' H) → g v σ H Q
/-- is: the slots that the target stores -/
structure PGt (X : Cx) (tg : Expr) (is : List Nat) (t : TGp) : Prop where
  ex : ∃ g, PG X tg g ∧ RdG X.K is g t
theorem wipe_comm (σ : L2.St) (i : Nat) (v : Option V) : ∀ vs : List Nat, i ∈ vs → wipe (σ.set i v) vs = wipe σ vs
  | j :: r, h => by
    show (wipe (σ.set i v) r).set j none = (wipe σ r).set j none
    by_cases hr : i ∈ r
    · rw [wipe_comm σ i v r hr]
    · have e : i = j := by
        rcases List.mem_cons.mp h with h | h
        · exact h
        · exact absurd h hr
      subst e
      have q : ∀ r : List Nat, i ∉ r → wipe (σ.set i v) r = (wipe σ r).set i v := fun r => by
        induction r with
        | nil => intro _; rfl
        | cons k r ih =>
          intro h
          show (wipe (σ.set i v) r).set k none = ((wipe σ r).set k none).set i v
          rw [ih (fun z => h (List.mem_cons_of_mem _ z)), List.set_comm _ _ (fun z => h (by rw [z]; exact List.mem_cons_self))]
      rw [q r hr, List.set_set]
def tgName (i : Nat) : TGp := fun d Γ k => k (gset Γ i (.pu d))
theorem g_name (i : Nat) {x : PySem.Str} (nd : X.N.Nodup) (hi : X.N[i]? = some x := by rfl) (hx : Loc X.env.scope x := by first | exact Or.inl rfl | exact Or.inr rfl)
    (hf : X.fn x = true ∨ X.env.scope.names.lookup x = some .local := by first | exact .inl rfl | exact .inr rfl) : PGt X (.Name x pos) [i] (tgName i) :=
  ⟨_, pg_name nd hi hx hf, fun G0 H0 Γ σ G H d v k Q F n ht hk => hk _ _ ht (F.set i n) (wipe_comm σ i _ [i] List.mem_cons_self)⟩
def forW (g : TGp) (b : TSp) (P : PEn) : List D → Ga → Prop
  | [], Γ => P.nx Γ
  | d :: r, Γ => g d Γ fun Γ1 => b { P with nx := forW g b P r, ct := forW g b P r, bk := P.nx } Γ1
def tsFor (ti : TL) (g : TGp) (b : TSp) : TSp := fun P Γ => ti Γ (fun ds => forW g b P ds Γ) (fun x => P.xx x Γ)
theorem rd_for {wi : TI} {g : TG} {tb : TS} {ti : TL} {gp : TGp} {bp : TSp} {is : List Nat} (hi : RdI X.K W wi ti) (hg : RdG X.K is g gp) (hb : RdS X.K W tb bp) : RdS X.K W (tFor wi g tb) (tsFor ti gp bp) := by
  intro G0 H0 Γ σ G H P E F ht ok
  refine hi G0 H0 Γ σ G H _ _ _ F ht (fun ds J G1 H1 k x w => ?_) (ok.x F)
  refine ⟨fun i m σ' H' => ∃ Γ' G', m = ds.length - i ∧ i ≤ ds.length ∧ Fr X.K G0 H0 Γ' σ' G' H' ∧ Same G1 G' ∧ forW gp bp P (ds.drop i) Γ', ⟨ds.length, Γ, G1, by simp, Nat.zero_le _, F.up x, Same.refl _, k⟩, ?_⟩
  rintro i m σ2 H2 ⟨Γ2, G2, rfl, hi, F2, s2, k2⟩
  by_cases hlt : i < ds.length
  · refine .inr ⟨w.go i G2 H2 hlt s2 F2.sub, fun σ' H' => ∃ Γ' G', Fr X.K G0 H0 Γ' σ' G' H' ∧ Same G1 G' ∧ forW gp bp P (ds.drop (i + 1)) Γ', fun σ' H' ⟨Γ', G', a, b, c⟩ => ⟨ds.length - (i + 1), by omega, Γ', G', rfl, hlt, a, b, c⟩, fun v H3 y => ?_⟩
    obtain ⟨d, G3, hd, x3, n3⟩ := w.yl i G2 H2 v H3 hlt s2 F2.sub y
    have F3 := F2.up x3
    have e : ds.drop i = d :: ds.drop (i + 1) := by
      rw [List.drop_eq_getElem_cons hlt]
      congr 1
      have := List.getElem?_eq_getElem hlt
      rw [hd] at this
      exact (Option.some.inj this).symm
    rw [e] at k2
    refine hg G0 H0 Γ2 σ2 G3 H3 d v _ _ F3 n3 k2 fun Γ4 σ4 k4 F4 _ => ?_
    refine hb G3 H0 Γ4 σ4 G3 H3 _ _ F4.rebase k4 ((ok.rebase F3.e).loop fun Γ5 σ5 G5 H5 n5 F5 => ?_)
    exact ⟨Γ5, G5, F5.back F3.e, (s2.trans x3.g).trans F5.e.g, n5⟩
  · have e : i = ds.length := by omega
    subst e
    refine .inl ⟨w.st G2 H2 s2 F2.sub, ?_⟩
    rw [List.drop_length] at k2
    exact ok.nx _ _ _ _ k2 F2
theorem s_for {tg iter : Expr} {ti : TL} {gp : TGp} {is : List Nat} (hp : PassesOwn (model X.prog X.w) X.A X.env X.xe) (hc : X.calm = true) (hi : PIt X W tg iter ti) (hg : PGt X tg is gp) (hb : PSS X W body s) (hs : ∀ x, foldedSetIterable iter X.env x = pure x := by intro _; rfl) : PS1 X W (.For tg iter body [] pos) (tsFor ti gp s) := by
  obtain ⟨wi, pi, ri⟩ := hi.ex
  obtain ⟨g, pg, rg⟩ := hg.ex
  obtain ⟨tb, pb, rb⟩ := hb.ex
  exact ⟨_, ps_for hp hc pi pg pb (hs := hs), rd_for ri rg rb⟩
/-- the items of a list, a tuple, the signs of a text -/
def items : D → Option (List D)
  | .lst xs => some xs
  | .tup xs => some xs
  | .str s => some (s.map fun c => .str [c])
  | _ => none
def tiLst (t : TP) : TL := fun Γ k kx => t Γ (fun d => match d with | .lst xs => k xs | _ => False) kx
def tiTup (t : TP) : TL := fun Γ k kx => t Γ (fun d => match d with | .tup xs => k xs | _ => False) kx
def tiStr (t : TP) : TL := fun Γ k kx => t Γ (fun d => match d with | .str s => k (s.map fun c => .str [c]) | _ => False) kx
theorem i_lst {tg : Expr} (h : PP X W e t) : PIt X W tg e (tiLst t) := by
  obtain ⟨ea, pa, ra⟩ := h.ex
  refine ⟨_, pi_list pa, fun G0 H0 Γ σ G H k kx R F ht hk hx => ?_⟩
  refine ra G0 H0 Γ σ G H _ kx _ F ht (fun d v G1 H1 k1 x1 n1 => ?_) hx
  cases d with
  | lst xs =>
    cases n1 with
    | @lst a vs _ h1 h2 =>
      refine ⟨a, rfl, ⟨vs, SqL.of (x1.sub.at_ h1 (fun z => z))⟩, hk xs _ G1 H1 k1 x1 ⟨fun i G2 H2 hi s2 sb => ?_, fun i G2 H2 v H3 hi s2 sb y => ?_, fun G2 H2 s2 sb => ?_⟩⟩
      · have q := sb.at_ (s2 _ _ h1) (fun z => z)
        obtain ⟨v, hv, _⟩ := h2.get (List.getElem?_eq_getElem hi)
        exact ⟨vs, v, SqL.of q, hv⟩
      · have q := sb.at_ (s2 _ _ h1) (fun z => z)
        obtain ⟨rfl, y⟩ := y
        obtain ⟨d, hd, n⟩ := h2.gv (y vs (SqL.of q))
        exact ⟨d, G2, hd, Ext.refl sb, n.up s2⟩
      · have q := sb.at_ (s2 _ _ h1) (fun z => z)
        exact ⟨vs, SqL.of q, by rw [h2.length]; exact Nat.le_refl _⟩
  | _ => exact k1.elim
theorem i_tup {tg : Expr} (h : PP X W e t) : PIt X W tg e (tiTup t) := by
  obtain ⟨ea, pa, ra⟩ := h.ex
  refine ⟨_, pi_tup pa, fun G0 H0 Γ σ G H k kx R F ht hk hx => ?_⟩
  refine ra G0 H0 Γ σ G H _ kx _ F ht (fun d v G1 H1 k1 x1 n1 => ?_) hx
  cases d with
  | tup xs =>
    cases n1 with
    | @tup a vs _ h1 h2 =>
      refine ⟨a, rfl, ⟨vs, x1.sub.sqt h1⟩, hk xs _ G1 H1 k1 x1 ⟨fun i G2 H2 hi s2 sb => ?_, fun i G2 H2 v H3 hi s2 sb y => ?_, fun G2 H2 s2 sb => ?_⟩⟩
      · have q := sb.sqt (sqt_same s2 h1)
        obtain ⟨v, hv, _⟩ := h2.get (List.getElem?_eq_getElem hi)
        exact ⟨vs, v, q, hv⟩
      · have q := sb.sqt (sqt_same s2 h1)
        obtain ⟨rfl, y⟩ := y
        obtain ⟨d, hd, n⟩ := h2.gv (y vs q)
        exact ⟨d, G2, hd, Ext.refl sb, n.up s2⟩
      · have q := sb.sqt (sqt_same s2 h1)
        exact ⟨vs, q, by rw [h2.length]; exact Nat.le_refl _⟩
  | _ => exact k1.elim
theorem i_str {tg : Expr} (h : PP X W e t) : PIt X W tg e (tiStr t) := by
  obtain ⟨ea, pa, ra⟩ := h.ex
  refine ⟨_, pi_str pa, fun G0 H0 Γ σ G H k kx R F ht hk hx => ?_⟩
  refine ra G0 H0 Γ σ G H _ kx _ F ht (fun d v G1 H1 k1 x1 n1 => ?_) hx
  cases d with
  | str s =>
    cases n1
    refine ⟨SS s, rfl, hk _ _ G1 H1 k1 x1 ⟨fun i G2 H2 hi s2 sb => ?_, fun i G2 H2 v H3 hi s2 sb y => ?_, fun G2 H2 s2 sb => ?_⟩⟩
    · show i < (SS s).cps.size
      rw [List.length_map] at hi
      simpa [SS] using hi
    · obtain ⟨rfl, c, hc, rfl⟩ := y
      have hc : s[i]? = some c := by simpa [SS] using hc
      exact ⟨.str [c], G2, by rw [List.getElem?_map, hc]; rfl, Ext.refl sb, .str [c]⟩
    · show (SS s).cps.size ≤ _
      rw [List.length_map]
      simp [SS]
  | _ => exact k1.elim
/-- range(n), range(a, b) -/
def tiRng1 (t : TL) : TL := fun Γ k kx => t Γ (fun ds => match ds with
  | [.int n] => (-(2 ^ 62) ≤ n ∧ n < 2 ^ 62) ∧ k ((List.range n.toNat).map fun i => .int (i : Nat))
  | _ => False) kx
def tiRng2 (t : TL) : TL := fun Γ k kx => t Γ (fun ds => match ds with
  | [.int a, .int b] => (-(2 ^ 62) ≤ a ∧ a < 2 ^ 62 ∧ -(2 ^ 62) ≤ b ∧ b < 2 ^ 62) ∧ k ((List.range (b - a).toNat).map fun i => .int (a + (i : Nat)))
  | _ => False) kx
theorem wk_rng {K : PySem.W.Frag} {a : Int} {n : Nat} {ok : Hp → Hp → Prop} : Wk K (Itr a n) ((List.range n).map fun i => D.int (a + (i : Nat))) ok := by
  refine ⟨fun i G2 H2 hi s2 sb => ?_, fun i G2 H2 v H3 hi s2 sb y => ?_, fun G2 H2 s2 sb => ?_⟩
  · rw [List.length_map, List.length_range] at hi
    exact hi
  · obtain ⟨rfl, rfl⟩ := y
    rw [List.length_map, List.length_range] at hi
    exact ⟨.int (a + (i : Nat)), G2, by rw [List.getElem?_map, List.getElem?_range hi]; rfl, Ext.refl sb, .int _⟩
  · show n ≤ _
    rw [List.length_map, List.length_range]
    exact Nat.le_refl _
theorem den_ints {K : PySem.W.Frag} {G : Hp} {vs : List V} {a : Int} (h : DenL K G vs [.int a]) : vs = [.int a] := by
  cases h with
  | cons h1 h2 =>
    cases h1
    cases h2
    rfl
theorem den_ints2 {K : PySem.W.Frag} {G : Hp} {vs : List V} {a b : Int} (h : DenL K G vs [.int a, .int b]) : vs = [.int a, .int b] := by
  cases h with
  | cons h1 h2 =>
    cases h1
    rw [den_ints h2]
theorem i_rng1 {tg : Expr} {p : Pos} (hm : X.mg "range" = none) (h : PL' X W [a] tl) (hg : Gl X "range" := by rfl) (hs : starEach [a] X.env = [(false, eval a X.env)] := by rfl) : PIt X W tg (.Call (.Name "range" p) [a] [] pos) (tiRng1 tl) := by
  obtain ⟨ea, pa, ra⟩ := h.ex
  refine ⟨_, pi_range1 hg hm pa hs, fun G0 H0 Γ σ G H k kx R F ht hk hx => ?_⟩
  refine ra G0 H0 Γ σ G H _ kx _ F ht (fun ds vs G1 H1 k1 x1 n1 => ?_) hx
  match ds, k1, n1 with
  | [.int n], k1, n1 =>
    refine ⟨n, den_ints n1, k1.1.1, k1.1.2, hk _ _ G1 H1 k1.2 x1 ?_⟩
    have e : (fun i : Nat => D.int (i : Nat)) = fun i : Nat => D.int (0 + (i : Nat)) := by
      funext i
      rw [Int.zero_add]
    rw [e]
    exact wk_rng
theorem i_rng2 {tg : Expr} {p : Pos} (hm : X.mg "range" = none) (h : PL' X W [a, b] tl) (hg : Gl X "range" := by rfl) (hs : starEach [a, b] X.env = [(false, eval a X.env), (false, eval b X.env)] := by rfl) (hs2 : starEach [b] X.env = [(false, eval b X.env)] := by rfl) : PIt X W tg (.Call (.Name "range" p) [a, b] [] pos) (tiRng2 tl) := by
  obtain ⟨ea, pa, ra⟩ := h.ex
  refine ⟨_, pi_range2 hg hm pa hs hs2, fun G0 H0 Γ σ G H k kx R F ht hk hx => ?_⟩
  refine ra G0 H0 Γ σ G H _ kx _ F ht (fun ds vs G1 H1 k1 x1 n1 => ?_) hx
  match ds, k1, n1 with
  | [.int n, .int m], k1, n1 => exact ⟨n, m, den_ints2 n1, k1.1, hk _ _ G1 H1 k1.2 x1 wk_rng⟩
end
end PL
set_option Elab.async false
set_option linter.all false
set_option maxRecDepth 100000
set_option maxHeartbeats 2000000
namespace PL
open PySem L2
variable [Tabl]
abbrev FS := List D → KD → KX → Prop
def spOf (K : PySem.W.Frag) (n : Nat) (fs : FS) : Sp := fun vs H Q E => ∃ G ds k kx, Sub G H ∧ DenL K G vs ds ∧ ds.length = n ∧ fs ds k kx ∧ (∀ d v G' H', k d → Ext G H G' H' → Den K G' v d → Q v H') ∧
  (∀ x cls dA G' H', kx x → Ext G H G' H' → XDen K G' H' cls dA x → E cls dA H')
/-- the global name x holds a def that keeps fs, at level k -/
structure Df (P : Program) (w : World) (K : PySem.W.Frag) (mg : PySem.Str → Option Value) (base : Heap) (x : PySem.Str) (k n : Nat) (fs : FS) : Prop where
  ex : ∃ f fd ps, FnOk P w K mg base (L2.CX P w) k f fd ps (spOf K n fs) ∧ mg x = some (.ref f) ∧ PySem.W.keepIn K (.ref f) = true ∧ Binds K fd ps [] ∧ ps.length = n
theorem Df.imp {P : Program} {w : World} {K : PySem.W.Frag} {mg : PySem.Str → Option Value} {base : Heap} {x : PySem.Str} {k n : Nat} {fs fs' : FS} (F : Df P w K mg base x k n fs) (h : ∀ ds kd kx, ds.length = n → fs' ds kd kx → fs ds kd kx) : Df P w K mg base x k n fs' := by
  obtain ⟨f, fd, ps, h1, h2, h3, h4, h5⟩ := F.ex
  refine ⟨f, fd, ps, h1.imp fun vs H Q E q => ?_, h2, h3, h4, h5⟩
  obtain ⟨G, ds, kd, kx, a, b, c, d, e⟩ := q
  exact ⟨G, ds, kd, kx, a, b, c, h ds kd kx c d, e⟩
theorem Df.mono {P : Program} {w : World} {K : PySem.W.Frag} {mg : PySem.Str → Option Value} {base : Heap} {x : PySem.Str} {j k n : Nat} {fs : FS} (F : Df P w K mg base x j n fs) (h : j ≤ k) : Df P w K mg base x k n fs := by
  obtain ⟨f, fd, ps, h1, h2⟩ := F.ex
  exact ⟨f, fd, ps, h1.mono h, h2⟩
def ga0 (m : Nat) (ds : List D) : Ga := ds.map Sl.pu ++ List.replicate (m - ds.length) Sl.un
theorem fr0 {K : PySem.W.Frag} {G H : Hp} {N : List PySem.Str} {vs : List V} {ds : List D} (s : Sub G H) (r : DenL K G vs ds) : Fr K G H (ga0 N.length ds) (L2.start N vs) G H := by
  have hl := r.length
  have key : ∀ i, (∃ d, ds[i]? = some d ∧ (ga0 N.length ds)[i]? = some (.pu d)) ∨ (ds.length ≤ i ∧ ∀ s, (ga0 N.length ds)[i]? = some s → s = .un) := fun i => by
    by_cases h : i < ds.length
    · refine .inl ⟨ds[i], List.getElem?_eq_getElem h, ?_⟩
      unfold ga0
      rw [List.getElem?_append_left (by rw [List.length_map]; exact h), List.getElem?_map, List.getElem?_eq_getElem h]
      rfl
    · refine .inr ⟨Nat.le_of_not_lt h, fun s e => ?_⟩
      unfold ga0 at e
      rw [List.getElem?_append_right (by rw [List.length_map]; omega)] at e
      have := List.mem_of_getElem? e
      exact (List.mem_replicate.mp this).2
  refine ⟨by unfold L2.start ga0; simp [hl], Ext.refl s, fun i t h => ?_, fun i j p t u h1 h2 h3 h4 h5 h6 => ?_⟩
  · rcases key i with ⟨d, e, q⟩ | ⟨_, q⟩
    · rw [q] at h
      cases h
      obtain ⟨v, hv, n⟩ := r.get e
      refine ⟨v, ?_, n⟩
      have hi : i < vs.length := (List.getElem?_eq_some_iff.mp hv).1
      unfold L2.start
      rw [List.getElem?_append_left (by rw [List.length_map]; exact hi), List.getElem?_map, hv]
      rfl
    · rw [q t h]
      trivial
  · rcases key i with ⟨d, e, q⟩ | ⟨_, q⟩
    · rw [q] at h1
      cases h1
      exact h2.elim
    · rw [q t h1] at h2
      exact h2.elim
/-- the ends of a def -/
def fEnds (k : KD) (kx : KX) : PEn := ⟨fun _ => k .non, fun _ => False, fun _ => False, fun d _ => k d, fun x _ => kx x⟩
section
variable {P : Program} {w : World} {K : PySem.W.Frag} {mg : PySem.Str → Option Value} {base : Heap}
theorem fn_ok {x qual : PySem.Str} {st : Stmt} {f : Addr} {fd : FuncData} {N ps : List PySem.Str} {k n : Nat} {fs : FS} (F : Fun K x qual st f fd) (S : FnScope N ps (defScope st)) (hn : ps.length = n)
    (body : ∀ (cdv : Value) (A : Around) (outer : List Env) (s : Shared) (H : Hp) (E : XK), Room k (A.deeper (PyProof.Rows.envOfC qual (defScope st) s.heap.objs.size f cdv)) →
      ∃ t, PSS (cxOf (L2.CX P w) P w K mg base N qual (defScope st) f cdv A outer s H E) (fun cls d _ H => E cls d H) (defBody st) t ∧ ∀ ds kd kx, ds.length = n → fs ds kd kx → t (fEnds kd kx) (ga0 N.length ds)) :
    FnOk P w K mg base (L2.CX P w) (k + 1) f fd ps (spOf K n fs) := by
  refine F.okX S (fun vs H Q E h => ?_) (fun cdv A outer s H vs Q E hr h => ?_)
  · obtain ⟨G, ds, kd, kx, _, b, c, _⟩ := h
    rw [b.length, c, hn]
  · obtain ⟨G, ds, kd, kx, sb, r, hl, hf, hk, hx⟩ := h
    obtain ⟨t, ⟨ts, ps, rd⟩, ht⟩ := body cdv A outer s H E hr
    refine ⟨ts, ps, rd G H (ga0 N.length ds) (L2.start N vs) G H (fEnds kd kx) _ (fr0 sb r) (ht ds kd kx hl hf) ⟨?_, ?_, ?_, ?_, ?_⟩⟩
    · intro Γ σ G' H' q F'
      exact hk .non .non G' H' q F'.e .non
    · intro Γ σ G' H' q
      exact q.elim
    · intro Γ σ G' H' q
      exact q.elim
    · intro d v Γ σ G' H' q F' n
      exact hk d v G' H' q F'.e n
    · intro x cls dA Γ σ G' H' q F' n
      exact hx x cls dA G' H' q F'.e n
theorem df_mk {x qual : PySem.Str} {st : Stmt} {f : Addr} {fd : FuncData} {ps : List PySem.Str} {k n : Nat} {fs : FS} (F : Fun K x qual st f fd) (hm : mg x = some (.ref f)) (hb : Binds K fd ps []) (hn : ps.length = n) (h : FnOk P w K mg base (L2.CX P w) k f fd ps (spOf K n fs)) :
    Df P w K mg base x k n fs := ⟨f, fd, ps, h, hm, F.kp, hb, hn⟩
end
section
variable {X : Cx} {W : WX} {e a b c : Expr} {es : List Expr} {t ta tb tc : TP} {tl tk : TL} {tt tu : TB} {pos p : Pos} {st : Stmt} {rest body els : List Stmt} {s u v : TSp} {x : PySem.Str} {k n j : Nat} {fs : FS} {kws : List Keyword}
def tpCall (n : Nat) (fs : FS) (tl : TL) : TP := fun Γ k kx => tl Γ (fun ds => ds.length = n ∧ fs ds k kx) kx
theorem rd_call {ta : TA} (h : RdA X.K W ta tl) : RdP X.K W (tCallS (spOf X.K n fs) (WE W) ta) (tpCall n fs tl) := by
  intro G0 H0 Γ σ G H k kx Q F ht hk hx
  refine h G0 H0 Γ σ G H _ kx _ F ht (fun ds vs G1 H1 k1 x1 n1 => ?_) hx
  exact ⟨G1, ds, k, kx, x1.sub, n1, k1.1, k1.2, fun d v G' H' kd ex dn => hk d v G' H' kd (x1.trans ex) dn, fun y cls dA G' H' kd ex dn => hx y cls dA G' H' kd (x1.trans ex) dn⟩
theorem p_call (D : Df X.prog X.w X.K X.mg X.base x k n fs) (hr : Room j X.A) (hj : k ≤ j) (tk : Takes X W) (ha : PL' X W (e :: es) tl) (hg : Gl X x := by rfl) (hdb : (x == ("__debug__" : PySem.Str)) = false := by decide)
    (he : starEach (e :: es) X.env = (false, eval e X.env) :: starEach es X.env := by rfl) (hpl : (backTo pos (starEach es X.env)).any (·.1) = false := by rfl) : PP X W (.Call (.Name x p) (e :: es) [] pos) (tpCall n fs tl) := by
  obtain ⟨f, fd, ps, h1, h2, h3, h4, h5⟩ := D.ex
  obtain ⟨ea, pa, ra⟩ := ha.ex
  exact ⟨_, pe_callS h1 (hr.mono hj) hg h2 h3 h4 (fun σ => passAt tk σ) pa hdb he hpl, rd_call ra⟩
theorem pe_call0S {CX : CXT} {f : Addr} {fd : FuncData} {ps : List PySem.Str} {sp : Sp} {E : L2.St → XK} (F : FnOk X.prog X.w X.K X.mg X.base CX k f fd ps sp) (hr : Room k X.A) (hg : Gl X x) (hm : X.mg x = some (.ref f)) (hk : PySem.W.keepIn X.K (.ref f) = true) (hb : Binds X.K fd ps []) (hx : ∀ σ, PassesAt CX X σ (E σ))
    (hdb : (x == ("__debug__" : PySem.Str)) = false := by decide) : PE X (.Call (.Name x p) [] [] pos) (tCallS sp E tNil) := by
  refine ⟨fun pins s σ H Q I h => ?_⟩
  refine wpAny_Call_Name_kw (ld_glob I hg hm ?_ hdb)
  exact PySem.W.callWith_K0 I.kIn hk (run_fnS (us := []) F hr hb (hx σ) I .nil h)
theorem p_call0 (D : Df X.prog X.w X.K X.mg X.base x k n fs) (hr : Room j X.A) (hj : k ≤ j) (tk : Takes X W) (hg : Gl X x := by rfl) (hdb : (x == ("__debug__" : PySem.Str)) = false := by decide) : PP X W (.Call (.Name x p) [] [] pos) (tpCall n fs tlNil) := by
  obtain ⟨f, fd, ps, h1, h2, h3, h4, h5⟩ := D.ex
  exact ⟨_, pe_call0S h1 (hr.mono hj) hg h2 h3 h4 (fun σ => passAt tk σ) hdb, rd_call (fun G0 H0 Γ σ G H k kx Q F ht hk hx => hk [] [] G H ht (Ext.refl F.sub) .nil)⟩
abbrev F1 := D → KD → Prop
abbrev FN := List D → KD → Prop
def RdC (K : PySem.W.Frag) (r : List V → Hp → VK → Prop) (f : FN) : Prop := ∀ (H0 G H : Hp) (vs : List V) (ds : List D) (k : KD) (Q : VK), Sub G H → DenL K G vs ds → f ds k → (∀ d v G' H', k d → Ext G H G' H' → Den K G' v d → Q v H') → r vs H Q
def RdC1 (K : PySem.W.Frag) (r : List V → Hp → VK → Prop) (f : F1) : Prop := ∀ (H0 G H : Hp) (v : V) (d : D) (k : KD) (Q : VK), Sub G H → DenU K H0 G H v d → f d k → (∀ d v G' H', k d → Ext G H G' H' → Den K G' v d → Q v H') → r [v] H Q
def tpN (f : FN) (tl : TL) : TP := fun Γ k kx => tl Γ (fun ds => f ds k) kx
def tp1 (f : F1) (t : TP) : TP := fun Γ k kx => t Γ (fun d => f d k) kx
theorem rd_cn {r : List V → Hp → VK → Prop} {f : FN} {ta : TA} (hr : RdC X.K r f) (h : RdA X.K W ta tl) : RdP X.K W (tCB r ta) (tpN f tl) := by
  intro G0 H0 Γ σ G H k kx Q F ht hk hx
  refine h G0 H0 Γ σ G H _ kx _ F ht (fun ds vs G1 H1 k1 x1 n1 => ?_) hx
  exact hr H0 G1 H1 vs ds k Q x1.sub n1 k1 fun d v G' H' kd ex dn => hk d v G' H' kd (x1.trans ex) dn
theorem rd_c1 {r : List V → Hp → VK → Prop} {f : F1} {te : TE} (hr : RdC1 X.K r f) (h : RdU X.K W te t) : RdP X.K W (tCB r (tCons te tNil)) (tp1 f t) := by
  intro G0 H0 Γ σ G H k kx Q F ht hk hx
  refine h G0 H0 Γ σ G H _ kx _ F ht (fun d v G1 H1 k1 x1 n1 => ?_) hx
  exact hr H0 G1 H1 v d k Q x1.sub n1 k1 fun d v G' H' kd ex dn => hk d v G' H' kd (x1.trans ex) dn
/-- a built-in function, a built-in type called -/
theorem p_b1 {id : String} {r : List V → Hp → VK → Prop} {f : F1} (hc : CallR X (.builtin id) r ∧ RdC1 X.K r f) (hm : X.mg x = none) (hv : bootBuiltins x = some (.builtin id)) (ha : PU X W a t) (hg : Gl X x := by rfl) (hn : x ≠ "__name__" := by decide) (hdb : (x == ("__debug__" : PySem.Str)) = false := by decide)
    (h1 : starEach (a :: []) X.env = (false, eval a X.env) :: starEach [] X.env := by rfl) (h2 : (backTo pos (starEach [] X.env)).any (·.1) = false := by rfl) : PP X W (.Call (.Name x p) [a] [] pos) (tp1 f t) := by
  obtain ⟨ea, pa, ra⟩ := ha.ex
  exact ⟨_, pe_callB hc.1 hg hm hv (pa_cons pa pa_nil h1) hn hdb h1 h2, rd_c1 hc.2 ra⟩
theorem p_t1 {T : String} {r : List V → Hp → VK → Prop} {f : F1} (hc : CallR X (.type T) r ∧ RdC1 X.K r f) (hm : X.mg x = none) (hv : bootBuiltins x = some (.type T)) (ha : PU X W a t) (hg : Gl X x := by rfl) (hn : x ≠ "__name__" := by decide) (hdb : (x == ("__debug__" : PySem.Str)) = false := by decide)
    (h1 : starEach (a :: []) X.env = (false, eval a X.env) :: starEach [] X.env := by rfl) (h2 : (backTo pos (starEach [] X.env)).any (·.1) = false := by rfl) : PP X W (.Call (.Name x p) [a] [] pos) (tp1 f t) := by
  obtain ⟨ea, pa, ra⟩ := ha.ex
  exact ⟨_, pe_callTy hc.1 hg hm hv (pa_cons pa pa_nil h1) hn hdb h1 h2, rd_c1 hc.2 ra⟩
theorem p_bn {id : String} {r : List V → Hp → VK → Prop} {f : FN} (hc : CallR X (.builtin id) r ∧ RdC X.K r f) (hm : X.mg x = none) (hv : bootBuiltins x = some (.builtin id)) (ha : PL' X W (e :: es) tl) (hg : Gl X x := by rfl) (hn : x ≠ "__name__" := by decide) (hdb : (x == ("__debug__" : PySem.Str)) = false := by decide)
    (h1 : starEach (e :: es) X.env = (false, eval e X.env) :: starEach es X.env := by rfl) (h2 : (backTo pos (starEach es X.env)).any (·.1) = false := by rfl) : PP X W (.Call (.Name x p) (e :: es) [] pos) (tpN f tl) := by
  obtain ⟨ea, pa, ra⟩ := ha.ex
  exact ⟨_, pe_callB hc.1 hg hm hv pa hn hdb h1 h2, rd_cn hc.2 ra⟩
theorem DenK.length {K : PySem.W.Frag} {G : Hp} : ∀ {vs : List (Key × V)} {ds : List (Key × D)}, DenK K G vs ds → vs.length = ds.length
  | _, _, .nil => rfl
  | _, _, .cons _ t => by rw [List.length_cons, List.length_cons, DenK.length t]
theorem DenU.dct {K : PySem.W.Frag} {H0 G H : Hp} {v : V} {ds : List (Key × D)} (s : Sub G H) (h : DenU K H0 G H v (.dct ds)) : ∃ a xs, v = .ref a ∧ Rd H a (.dK xs) ∧ DenK K G xs ds := by
  rcases h with h | ⟨p, e, g, xs, r1, r2⟩
  · cases h with
    | dct h1 h2 => exact ⟨_, _, rfl, s.rd h1, h2⟩
  · exact ⟨p, xs, e, .inl r1, r2⟩
/-- len of a text, a list, a tuple; of a dict that isn't locked -/
def fLenS : F1
  | .str s, k => s.length ≤ sizeLine ∧ k (.int s.length)
  | .lst xs, k => k (.int xs.length)
  | .tup xs, k => k (.int xs.length)
  | .cel _ ns, k => k (.int ns.length)
  | .scr, k => ∀ n : Nat, n ≤ 63 → k (.int n)
  | _, _ => False
theorem c_len : CallR X (.builtin "len") (fun xs H Q => ∃ x n, xs = [x] ∧ LenV X.K x H n ∧ Q (.int n) H) ∧ RdC1 X.K (fun xs H Q => ∃ x n, xs = [x] ∧ LenV X.K x H n ∧ Q (.int n) H) fLenS := by
  refine ⟨call_len, fun H0 G H v d k Q s n h hk => ?_⟩
  cases d with
  | str t => exact ⟨v, t.length, rfl, by rw [n.str]; exact ⟨by rw [ss_length]; exact h.1, (ss_length t).symm⟩, hk _ _ G H h.2 (Ext.refl s) (.int _)⟩
  | lst xs =>
    obtain ⟨a, ys, rfl, h1, r1⟩ := n.lst s
    exact ⟨_, xs.length, rfl, .inl ⟨ys, SqL.of h1, r1.length.symm⟩, hk _ _ G H h (Ext.refl s) (.int _)⟩
  | tup xs =>
    obtain ⟨a, ys, rfl, h1, r1⟩ := n.tup s
    exact ⟨_, xs.length, rfl, .inr ⟨ys, h1, r1.length.symm⟩, hk _ _ G H h (Ext.refl s) (.int _)⟩
  | cel l ns =>
    obtain ⟨rfl, h1⟩ := n.cel s
    exact ⟨_, ns.length, rfl, .inl ⟨_, h1, by rw [List.length_map]⟩, hk _ _ G H h (Ext.refl s) (.int _)⟩
  | scr =>
    rcases n with n | ⟨p, e, g, r⟩
    · cases n with
      | @scr a ns h1 h2 => exact ⟨_, ns.length, rfl, .inl ⟨_, s.sql h1, by rw [List.length_map]⟩, hk _ _ G H (h ns.length h2) (Ext.refl s) (.int _)⟩
    · exact r.elim
  | _ => exact h.elim
/-- int(n), int(b) -/
def fInt : F1
  | .int i, k => k (.int i)
  | .bl b, k => k (.int (if b then 1 else 0))
  | _, _ => False
theorem c_int : CallR X (.type "int") (fun xs H Q => (∃ i, xs = [.int i] ∧ Q (.int i) H) ∨ ∃ k, xs = [.bl k] ∧ Q (.int (if k then 1 else 0)) H) ∧ RdC1 X.K (fun xs H Q => (∃ i, xs = [.int i] ∧ Q (.int i) H) ∨ ∃ k, xs = [.bl k] ∧ Q (.int (if k then 1 else 0)) H) fInt := by
  refine ⟨call_int1, fun H0 G H v d k Q s n h hk => ?_⟩
  cases d with
  | int i => exact .inl ⟨i, by rw [n.int], hk _ _ G H h (Ext.refl s) (.int _)⟩
  | bl i => exact .inr ⟨i, by rw [n.bl], hk _ _ G H h (Ext.refl s) (.int _)⟩
  | _ => exact h.elim
/-- min(a, b), max(a, b) of ints -/
def fMin2 : FN
  | [.int i, .int j], k => k (.int (if j < i then j else i))
  | _, _ => False
def rMin2' : List V → Hp → VK → Prop := fun xs H Q => ∃ i j, xs = [.int i, .int j] ∧ Q (.int (if j < i then j else i)) H
theorem c_min2 (hc : X.calm = true) : CallR X (.builtin "min") rMin2' ∧ RdC X.K rMin2' fMin2 := by
  refine ⟨call_min2 hc, fun H0 G H vs ds k Q s n h hk => ?_⟩
  match ds, h, n with
  | [.int i, .int j], h, n => exact ⟨i, j, den_ints2 n, hk _ _ G H h (Ext.refl s) (.int _)⟩
/-- all(..), any(..) of a list of truth values -/
def bools : List D → Option (List Bool)
  | [] => some []
  | .bl b :: r => (bools r).map (b :: ·)
  | _ :: _ => none
theorem bools_eq : ∀ {ds : List D} {bs : List Bool}, bools ds = some bs → ds = bs.map D.bl
  | [], bs, h => by cases h; rfl
  | d :: r, bs, h => by
    cases d with
    | bl b =>
      unfold bools at h
      cases e : bools r with
      | none => rw [e] at h; cases h
      | some cs =>
        rw [e] at h
        cases h
        rw [List.map_cons, ← bools_eq e]
    | _ => cases h
theorem bools_map : ∀ bs : List Bool, bools (bs.map D.bl) = some bs
  | [] => rfl
  | b :: r => by
    show (bools (r.map D.bl)).map (b :: ·) = _
    rw [bools_map r]
    rfl
theorem denL_bl {K : PySem.W.Frag} {G : Hp} : ∀ {bs : List Bool} {vs : List V}, DenL K G vs (bs.map D.bl) → vs = bs.map V.bl
  | [], _, h => by cases h; rfl
  | b :: r, _, h => by
    cases h with
    | cons h1 h2 =>
      cases h1
      rw [denL_bl h2]
      rfl
def onBs (ds : List D) (k : List Bool → Prop) : Prop := match bools ds with
  | some bs => k bs
  | none => False
theorem onBs_map {bs : List Bool} {k : List Bool → Prop} : onBs (bs.map D.bl) k = k bs := by
  unfold onBs
  rw [bools_map]
theorem onBs_elim {ds : List D} {k : List Bool → Prop} (h : onBs ds k) : ∃ bs, ds = bs.map D.bl ∧ k bs := by
  unfold onBs at h
  cases e : bools ds with
  | none => simp only [e] at h
  | some bs =>
    simp only [e] at h
    exact ⟨bs, bools_eq e, h⟩
def fAll : F1
  | .lst xs, k => onBs xs fun bs => k (.bl (bs.all id))
  | _, _ => False
theorem c_all (hc : X.calm = true) : CallR X (.builtin "all") (rAll X.K) ∧ RdC1 X.K (rAll X.K) fAll := by
  refine ⟨cr_all hc, fun H0 G H v d k Q s n h hk => ?_⟩
  cases d with
  | lst xs =>
    obtain ⟨bs, rfl, h2⟩ := onBs_elim (show onBs xs fun bs => k (.bl (bs.all id)) from h)
    obtain ⟨a, ys, rfl, h1, r1⟩ := n.lst s
    rw [denL_bl r1] at h1
    exact ⟨a, bs, rfl, SqL.of h1, hk _ _ G H h2 (Ext.refl s) (.bl _)⟩
  | _ => exact h.elim
def tyD : D → Option String
  | .non => some "NoneType"
  | .bl _ => some "bool"
  | .int _ => some "int"
  | .str _ => some "str"
  | .lst _ => some "list"
  | .tup _ => some "tuple"
  | .dct _ => some "dict"
  | _ => none
/-- .. of a marked list too -/
def tyE : D → Option String
  | .frl _ => some "list"
  | d => tyD d
def subTy (a b : String) : Bool := a == b || (a == "bool" && b == "int")
theorem kit_all : (["NoneType", "bool", "int", "str", "list", "tuple", "dict"].all fun a => ["bool", "int", "str", "list", "tuple"].all fun b => kitB a b == some (subTy a b)) = true := by decide +kernel
theorem kit_tab {a b : String} (ha : a ∈ ["NoneType", "bool", "int", "str", "list", "tuple", "dict"]) (hb : b ∈ ["bool", "int", "str", "list", "tuple"]) : kitB a b = some (subTy a b) := by
  have := List.all_eq_true.mp kit_all a ha
  have := List.all_eq_true.mp this b hb
  simpa using this
theorem tyD_mem {d : D} {T : String} (h : tyD d = some T) : T ∈ ["NoneType", "bool", "int", "str", "list", "tuple", "dict"] := by
  cases d <;> (first | (cases h; simp) | cases h)
/-- no list is locked by the mark -/
def NoTg (H : Hp) : Prop := ∀ a xs, H a ≠ some (.frz nobF (.lst xs))
theorem notg {X : Cx} {pins : List (Addr × Obj)} {σ : L2.St} {H : Hp} {s : Shared} (I : Inv X pins σ H s) : NoTg H := fun a xs e => by
  obtain ⟨h1, _, its, n, _, h2⟩ := (show ObjOk X.prog X.w H s.heap a (.frz nobF (.lst xs)) from I.hok a _ e)
  rw [h1] at h2
  cases h2
theorem pe_notg {X : Cx} {e : Expr} {te : TE} (h : PE X e te) : PE X e (fun σ H Q => te σ H fun v H1 => NoTg H1 → Q v H1) :=
  ⟨fun pins s σ H Q I q => thn (h.run pins s σ H _ I q) fun u s1 ⟨x, H1, I1, r1, q1⟩ => ⟨x, H1, I1, r1, q1 (notg I1)⟩⟩
theorem Sub.frl {G H : Hp} (s : Sub G H) (n : NoTg H) {a : Addr} {xs : List V} (h : G a = some (.frz nobF (.lst xs))) : H a = some (.lst xs) := by
  rcases s.m a _ h with h | ⟨_, h⟩
  · exact absurd h (n a xs)
  · exact h
theorem tyE_mem {d : D} {T : String} (h : tyE d = some T) : T ∈ ["NoneType", "bool", "int", "str", "list", "tuple", "dict"] := by
  cases d <;> (first | (cases h; simp) | cases h)
theorem DenU.ty {K : PySem.W.Frag} {H0 G H : Hp} {v : V} {d : D} {T : String} (s : Sub G H) (h : DenU K H0 G H v d) (e : tyD d = some T) : TyX K H v (.type T) := by
  cases d with
  | non => cases e; rw [h.non]; exact .base .non
  | bl b => cases e; rw [h.bl]; exact .base (.bl b)
  | int b => cases e; rw [h.int]; exact .base (.int b)
  | str b => cases e; rw [h.str]; exact .base (.str _)
  | lst xs =>
    cases e
    obtain ⟨a, ys, rfl, h1, r1⟩ := h.lst s
    exact .base (.lst h1)
  | tup xs =>
    cases e
    obtain ⟨a, ys, rfl, h1, r1⟩ := h.tup s
    rcases h1 with (h1 | ⟨o, h1⟩) | ⟨o, its, n, k1, k2, k3, k4⟩
    · exact .base (.tup h1)
    · exact .fTuple h1
    · exact .kTuple k1 (by assumption)
  | dct xs =>
    cases e
    obtain ⟨a, ys, rfl, h1, r1⟩ := h.dct s
    rcases h1 with h1 | ⟨o, h1⟩
    · exact .base (.dK h1)
    · exact .fDict h1
  | _ => cases e
theorem DenU.tyN {K : PySem.W.Frag} {H0 G H : Hp} {v : V} {d : D} {T : String} (s : Sub G H) (nt : NoTg H) (h : DenU K H0 G H v d) (e : tyE d = some T) : TyX K H v (.type T) := by
  cases d with
  | frl xs =>
    cases e
    rcases h with h | ⟨p, e, g, r⟩
    · cases h with
      | frl h1 h2 => exact .base (.lst (s.frl nt h1))
    · exact r.elim
  | _ => exact h.ty s e
end
end PL
set_option Elab.async false
set_option linter.all false
set_option maxRecDepth 100000
set_option maxHeartbeats 2000000
namespace PL
open PySem L2
variable [Tabl]
section
variable {X : Cx} {W : WX} {e a b c : Expr} {es : List Expr} {t ta tb tc : TP} {tl tk : TL} {tt tu : TB} {pos p : Pos} {x : PySem.Str}
def fIsi (T : String) : F1 := fun d k => match tyE d with
  | some n => k (.bl (subTy n T))
  | none => False
theorem p_isi (T : String) (ha : PU X W a t) (hb : PE X b (tC (.ty T))) (hm : X.mg "isinstance" = none) (hT : T ∈ ["bool", "int", "str", "list", "tuple"] := by simp) (hv : bootBuiltins "isinstance" = some (.builtin "isinstance") := by decide +kernel) (hg : Gl X "isinstance" := by rfl)
    (h1 : starEach (a :: [b]) X.env = (false, eval a X.env) :: starEach [b] X.env := by rfl) (h2 : (backTo pos (starEach [b] X.env)).any (·.1) = false := by rfl) (h3 : starEach (b :: []) X.env = (false, eval b X.env) :: starEach [] X.env := by rfl) :
    PP X W (.Call (.Name "isinstance" p) [a, b] [] pos) (tp1 (fIsi T) t) := by
  obtain ⟨ea, pa, ra⟩ := ha.ex
  refine ⟨_, pe_callB call_isi hg hm hv (pa_cons (pe_notg pa) (pa_cons hb pa_nil h3) h1) (by decide) (by decide) h1 h2, fun G0 H0 Γ σ G H k kx Q F ht hk hx => ?_⟩
  refine ra G0 H0 Γ σ G H _ kx _ F ht (fun d v G1 H1 k1 x1 n1 ntg => ?_) hx
  unfold fIsi at k1
  cases e : tyE d with
  | none => simp only [e] at k1
  | some n =>
    simp only [e] at k1
    exact ⟨v, .ty T, .type n, .type T, subTy n T, rfl, .ty T, n1.tyN x1.sub ntg e, kit_ty (kit_tab (tyE_mem e) hT), hk _ _ G1 H1 k1 x1 (.bl _)⟩
/-- isinstance(x, (T, U)) -/
def fIsi2 (T U : String) : F1 := fun d k => match tyE d with
  | some n => k (.bl (subTy n T || subTy n U))
  | none => False
theorem p_isi2 (T U : String) {c : Expr} {x1 : Nat} {tpos : Pos} (ha : PU X W a t) (hb : PE X b (tC (.ty T))) (hc : PE X c (tC (.ty U))) (hm : X.mg "isinstance" = none) (hT : T ∈ ["bool", "int", "str", "list", "tuple"] := by simp) (hU : U ∈ ["bool", "int", "str", "list", "tuple"] := by simp)
    (hv : bootBuiltins "isinstance" = some (.builtin "isinstance") := by decide +kernel) (hg : Gl X "isinstance" := by rfl)
    (h1 : starEach (a :: [.Tuple [b, c] x1 tpos]) X.env = (false, eval a X.env) :: starEach [.Tuple [b, c] x1 tpos] X.env := by rfl) (h2 : (backTo pos (starEach [.Tuple [b, c] x1 tpos] X.env)).any (·.1) = false := by rfl)
    (h3 : starEach (.Tuple [b, c] x1 tpos :: []) X.env = (false, eval (.Tuple [b, c] x1 tpos) X.env) :: starEach [] X.env := by rfl) (h4 : starEach (b :: [c]) X.env = (false, eval b X.env) :: starEach [c] X.env := by rfl) (h5 : starEach (c :: []) X.env = (false, eval c X.env) :: starEach [] X.env := by rfl) :
    PP X W (.Call (.Name "isinstance" p) [a, .Tuple [b, c] x1 tpos] [] pos) (tp1 (fIsi2 T U) t) := by
  obtain ⟨ea, pa, ra⟩ := ha.ex
  refine ⟨_, pe_callB call_isiT hg hm hv (pa_cons (pe_notg pa) (pa_cons (pe_tup (pa_cons hb (pa_cons hc pa_nil h5) h4)) pa_nil h3) h1) (by decide) (by decide) h1 h2, fun G0 H0 Γ σ G H k kx Q F ht hk hx => ?_⟩
  refine ra G0 H0 Γ σ G H _ kx _ F ht (fun d v G1 H1 k1 x1 n1 ntg => ?_) hx
  unfold fIsi2 at k1
  cases e : tyE d with
  | none => simp only [e] at k1
  | some n =>
    simp only [e] at k1
    refine ⟨by show 2 ≤ sizeLine; decide, fun q hq => ?_⟩
    have x2 : Ext G1 H1 G1 (upd H1 q (.tup [.ty T, .ty U])) := Ext.beside x1.sub hq
    have ntg2 : NoTg (upd H1 q (.tup [.ty T, .ty U])) := fun a xs z => by
      by_cases h : a = q
      · rw [h, upd_same] at z; cases z
      · rw [upd_ne h] at z; exact ntg a xs z
    have n2 : TyX X.K (upd H1 q (.tup [.ty T, .ty U])) v (.type n) := (n1.up x2).tyN x2.sub ntg2 e
    refine ⟨v, q, [.ty T, .ty U], .type n, [.type T, .type U], _, rfl, upd_same, .cons (.ty T) (.cons (.ty U) .nil), n2, ?_, hk _ _ _ _ k1 (x1.trans x2) (.bl _)⟩
    have h1 := kit_ty (K := X.K) (kit_tab (tyE_mem e) hT)
    have h2 := kit_ty (K := X.K) (kit_tab (tyE_mem e) hU)
    refine kitAny_cons h1 (fun z => ?_) (fun z => by rw [z]; rfl)
    rw [z]
    exact kitAny_cons h2 (fun z => by rw [z]; exact kitAny_nil) (fun z => by rw [z]; rfl)
abbrev Bi := Shared × Hp × Addr × List (PySem.Str × Addr) × List Addr
abbrev Cx.bl (X : Cx) (scope : Scope) (i : Bi) : Cx := X.blk i.1 i.2.1 scope (compEnvC scope i.2.2.2.1 i.2.2.1 X.env) i.2.2.2.2
abbrev W0 : WX := fun _ _ _ _ => False
theorem pp_unif {ι : Type} {Xf : ι → Cx} {K : PySem.W.Frag} (hK : ∀ i, (Xf i).K = K) (h : ∀ i, PP (Xf i) W e t) (i₀ : ι) : ∃ te, (∀ i, PE (Xf i) e te) ∧ RdP K W te t := by
  have h' : ∀ i, ∃ te, PE (Xf i) e te ∧ RdP K W te t := fun i => by
    obtain ⟨te, h1, h2⟩ := (h i).ex
    rw [hK i] at h2
    exact ⟨te, h1, h2⟩
  refine ⟨fun σ H Q => ∀ i, Classical.choose (h' i) σ H Q, fun i => ⟨fun pins s σ H Q I q => (Classical.choose_spec (h' i)).1.run pins s σ H Q I (q i)⟩, ?_⟩
  intro G0 H0 Γ σ G H k kx Q F ht hk hx i
  exact (Classical.choose_spec (h' i)).2 G0 H0 Γ σ G H k kx Q F ht hk hx
theorem pg_unif {ι : Type} {Xf : ι → Cx} {K : PySem.W.Frag} {is : List Nat} {gt : TGp} (hK : ∀ i, (Xf i).K = K) (h : ∀ i, PGt (Xf i) e is gt) : ∃ g, (∀ i, PG (Xf i) e g) ∧ RdG K is g gt := by
  have h' : ∀ i, ∃ te, PG (Xf i) e te ∧ RdG K is te gt := fun i => by
    obtain ⟨te, h1, h2⟩ := (h i).ex
    rw [hK i] at h2
    exact ⟨te, h1, h2⟩
  refine ⟨fun v σ H Q => ∀ i, Classical.choose (h' i) v σ H Q, fun i => ⟨fun pins s σ H v u Q I r q => ?_⟩, ?_⟩
  · exact (Classical.choose_spec (h' i)).1.run pins s σ H v u Q I r (q i)
  · intro G0 H0 Γ σ G H d v k Q F n ht hk i
    exact (Classical.choose_spec (h' i)).2 G0 H0 Γ σ G H d v k Q F n ht hk
/-- the tests of a comprehension -/
structure PBs (X : Cx) (W : WX) (es : List Expr) (t : TB) : Prop where
  ex : ∃ te, PTs X es te ∧ RdT X.K W te t
def tbYes : TB := fun _ k _ => k true
theorem bs_unif {ι : Type} {Xf : ι → Cx} {K : PySem.W.Frag} (hK : ∀ i, (Xf i).K = K) (h : ∀ i, PBs (Xf i) W es tt) : ∃ te, (∀ i, PTs (Xf i) es te) ∧ RdT K W te tt := by
  have h' : ∀ i, ∃ te, PTs (Xf i) es te ∧ RdT K W te tt := fun i => by
    obtain ⟨te, h1, h2⟩ := (h i).ex
    rw [hK i] at h2
    exact ⟨te, h1, h2⟩
  refine ⟨fun σ H Q => ∀ i, Classical.choose (h' i) σ H Q, fun i => ⟨fun pins s σ H Q I q => (Classical.choose_spec (h' i)).1.run pins s σ H Q I (q i)⟩, ?_⟩
  intro G0 H0 Γ σ G H k kx Q F ht hk hx i
  exact (Classical.choose_spec (h' i)).2 G0 H0 Γ σ G H k kx Q F ht hk hx
theorem bs_nil : PBs X W [] tbYes := ⟨_, pts_nil, fun G0 H0 Γ σ G H k kx Q F ht hk hx => hk true G H ht (Ext.refl F.sub)⟩
theorem bs_one (h : PB X W e tt) : PBs X W [e] tt := by
  obtain ⟨ea, pa, ra⟩ := h.ex
  exact ⟨_, pts_one pa, ra⟩
def wipeG (Γ : Ga) : List Nat → Ga
  | [] => Γ
  | v :: vs => gset (wipeG Γ vs) v .un
theorem Fr.unset {K : PySem.W.Frag} {G0 H0 G H : Hp} {Γ : Ga} {σ : L2.St} (F : Fr K G0 H0 Γ σ G H) (i : Nat) : Fr K G0 H0 (gset Γ i .un) (σ.set i none) G H := by
  rw [gset_eq]
  have hne : ∀ (j : Nat) (s : Sl), (Γ.set i .un)[j]? = some s → s ≠ .un → j ≠ i ∧ Γ[j]? = some s := fun j s h n => by
    by_cases hj : i = j
    · subst hj
      have hl : i < Γ.length := by
        have := (List.getElem?_eq_some_iff.mp h).1
        rw [List.length_set] at this
        exact this
      rw [List.getElem?_set_self hl] at h
      exact absurd (Option.some.inj h).symm n
    · rw [List.getElem?_set_ne hj] at h
      exact ⟨Ne.symm hj, h⟩
  refine ⟨by rw [List.length_set, List.length_set]; exact F.len, F.e, fun j s h => ?_, fun a b p s t h1 h2 h3 h4 h5 h6 => ?_⟩
  · by_cases n : s = .un
    · subst n
      trivial
    · obtain ⟨z, q⟩ := hne j s h n
      rw [List.getElem?_set_ne (Ne.symm z)]
      exact F.at_ j s q
  · obtain ⟨z1, q1⟩ := hne a s h1 (fun z => by subst z; exact h2)
    obtain ⟨z2, q2⟩ := hne b t h3 (fun z => by subst z; exact h4)
    rw [List.getElem?_set_ne (Ne.symm z1)] at h5
    rw [List.getElem?_set_ne (Ne.symm z2)] at h6
    exact F.dj a b p s t q1 h2 q2 h4 h5 h6
theorem Fr.wipe {K : PySem.W.Frag} {G0 H0 G H : Hp} {Γ : Ga} {σ : L2.St} (F : Fr K G0 H0 Γ σ G H) : ∀ is : List Nat, Fr K G0 H0 (wipeG Γ is) (L2.wipe σ is) G H
  | [] => F
  | v :: vs => (F.wipe vs).unset v
theorem wipe_none (σ : L2.St) (v : Nat) : ∀ vs : List Nat, v ∈ vs → (L2.wipe σ vs).set v none = L2.wipe σ vs
  | j :: r, h => by
    show ((L2.wipe σ r).set j none).set v none = (L2.wipe σ r).set j none
    by_cases e : v = j
    · subst e
      rw [List.set_set]
    · have hr : v ∈ r := by
        rcases List.mem_cons.mp h with h | h
        · exact absurd h e
        · exact h
      rw [List.set_comm _ _ (Ne.symm e), wipe_none σ v r hr]
theorem wipe_sub (σ : L2.St) (vs : List Nat) : ∀ ws : List Nat, (∀ v ∈ ws, v ∈ vs) → L2.wipe (L2.wipe σ vs) ws = L2.wipe σ vs
  | [], _ => rfl
  | v :: ws, h => by
    show (L2.wipe (L2.wipe σ vs) ws).set v none = _
    rw [wipe_sub σ vs ws (fun u hu => h u (List.mem_cons_of_mem _ hu)), wipe_none σ v vs (h v List.mem_cons_self)]
/-- the items one by one -/
def lcW (g : TGp) (tt : TB) (te : TP) (Γ : Ga) : List D → (List D → Prop) → Prop
  | [], k => k []
  | d :: r, k => g d Γ fun Γ1 => tt Γ1 (fun b => if b = true then te Γ1 (fun y => lcW g tt te Γ r fun ys => k (y :: ys)) (fun _ => False) else lcW g tt te Γ r k) (fun _ => False)
def tpLc (is : List Nat) (ti : TL) (g : TGp) (tt : TB) (te : TP) : TP := fun Γ k kx => ti Γ (fun ds => ds.length ≤ 100000 ∧ lcW g tt te (wipeG Γ is) ds fun ys => k (.lst ys)) kx
theorem tabs_upd {H : Hp} {p : Addr} {o : HO} (t : LamX.Tabs Tabl.T H) (m : H p = none ∨ ∃ u, H p = some u ∧ MutO u) : LamX.Tabs Tabl.T (upd H p o) := by
  rcases m with m | ⟨u, m, mu⟩
  · exact t.ext (same_upd m)
  · exact fun q hq => tab_upd (t q hq) m mu
/-- what was not there at first is laid or changed -/
theorem Up.upNew {H H2 : Hp} (x : Up H H2) {p : Addr} (h : H p = none) (m : H2 p = none ∨ ∃ u, H2 p = some u ∧ MutO u) (o : HO) : Up H (upd H2 p o) := by
  refine ⟨fun a u e n => by rw [upd_ne (ne_of_none e h)]; exact x.k _ _ e n, fun a u e => by rw [upd_ne (ne_of_none e h)]; exact x.t _ _ e, fun t => ?_⟩
  exact tabs_upd (x.tb t) m
theorem Ext.at_new {G H G2 H2 : Hp} (x : Ext G H G2 H2) {p : Addr} {o : HO} (h : H p = none) (g : G2 p = none) (m : H2 p = none ∨ ∃ u, H2 p = some u ∧ MutO u) : Ext G H G2 (upd H2 p o) :=
  ⟨x.h.upNew h m o, x.g, x.nw, ⟨fun a u e => by rw [upd_ne (ne_of_none e g)]; exact x.sub.m a u e, x.sub.nt, tabs_upd x.sub.tb m⟩⟩
theorem rd_lc {wi : TI} {g : TG} {eb : TT} {ee : TE} {ti : TL} {gp : TGp} {is vs : List Nat} {te : TP} (hi : RdI X.K W wi ti) (hg : RdG X.K is g gp) (hb : RdT X.K W0 eb tt) (he : RdP X.K W0 ee te) (hv : is = vs) :
    ∀ (G0 H0 : Hp) (Γ : Ga) (σ : L2.St) (G H : Hp) (k : KD) (kx : KX) (Q : VK), Fr X.K G0 H0 Γ σ G H → tpLc is ti gp tt te Γ k kx →
      (∀ ds G' H' D, k (.lst ds) → Ext G H G' H' → H D = none → G' D = none → (∃ xs, H' D = some (.lst xs) ∧ DenL X.K G' xs ds) → Q (.ref D) H') → XOk X.K W G H σ kx → tLc wi g eb ee vs σ H Q := by
  subst hv
  intro G0 H0 Γ σ G H k kx Q F ht hk hx
  refine hi G0 H0 Γ σ G H _ kx _ F ht (fun ds J G1 H1 k1 x1 w => ?_) hx
  intro D hD
  have hD0 : H D = none := x1.h.free hD
  refine ⟨fun i m H' => ∃ G' acc ys, m = ds.length - i ∧ i ≤ ds.length ∧ Ext G H G' H' ∧ Same G1 G' ∧ G' D = none ∧ H' D = some (.lst acc) ∧ acc.length ≤ i ∧ DenL X.K G' acc ys ∧ lcW gp tt te (wipeG Γ is) (ds.drop i) (fun zs => k (.lst (ys ++ zs))),
    ⟨ds.length, G1, [], [], by simp, Nat.zero_le _, x1.at_new hD0 (x1.sub.none hD) (.inl hD), Same.refl _, x1.sub.none hD, upd_same, Nat.le_refl _, .nil, k1.2⟩, ?_⟩
  rintro i m H2 ⟨G2, acc, ys, rfl, hi, x2, s2, g2, h2, la, ra, k2⟩
  by_cases hlt : i < ds.length
  · refine .inr ⟨w.go i G2 H2 hlt s2 x2.sub, fun H' => ∃ G' acc ys, i + 1 ≤ ds.length ∧ Ext G H G' H' ∧ Same G1 G' ∧ G' D = none ∧ H' D = some (.lst acc) ∧ acc.length ≤ i + 1 ∧ DenL X.K G' acc ys ∧ lcW gp tt te (wipeG Γ is) (ds.drop (i + 1)) (fun zs => k (.lst (ys ++ zs))),
      fun H' ⟨G', acc, ys, a1, a2, a3, a4, a5, a6, a7, a8⟩ => ⟨ds.length - (i + 1), by omega, G', acc, ys, rfl, a1, a2, a3, a4, a5, a6, a7, a8⟩, fun v H3 y => ?_⟩
    obtain ⟨d, G3, hd, x3, n3⟩ := w.yl i G2 H2 v H3 hlt s2 x2.sub y
    have e : ds.drop i = d :: ds.drop (i + 1) := by
      rw [List.drop_eq_getElem_cons hlt]
      congr 1
      have := List.getElem?_eq_getElem hlt
      rw [hd] at this
      exact (Option.some.inj this).symm
    rw [e] at k2
    have F3 : Fr X.K G0 H0 (wipeG Γ is) (L2.wipe σ is) G3 H3 := (F.up (x2.trans x3)).wipe is
    refine hg G0 H0 _ _ G3 H3 d v _ _ F3 n3 k2 fun Γ4 σ4 k4 F4 hw => ⟨by rw [hw, wipe_sub σ is is (fun _ z => z)], ?_⟩
    refine hb G0 H0 Γ4 σ4 G3 H3 _ _ _ F4 k4 (fun b G5 H5 k5 x5 => ?_) (fun _ _ _ _ _ z => z.elim)
    have hD5 : H5 D = some (.lst acc) := x5.h.lst (x3.h.lst h2)
    have g5 : G5 D = none := x5.nw _ (x3.nw _ g2 ⟨_, h2⟩) ⟨_, x3.h.lst h2⟩
    cases b with
    | true =>
      rw [if_pos rfl]
      refine he G0 H0 Γ4 σ4 G5 H5 _ _ _ (F4.up x5) k5 (fun yd yv G6 H6 k6 x6 n6 => ?_) (fun _ _ _ _ _ z => z.elim)
      have hD6 : H6 D = some (.lst acc) := x6.h.lst hD5
      have g6 : G6 D = none := x6.nw _ g5 ⟨_, hD5⟩
      have hz : ds.length ≤ 100000 := k1.1
      refine ⟨acc, hD6, sz5' (by omega), G6, acc ++ [yv], ys ++ [yd], hlt, ((x2.trans x3).trans (x5.trans x6)).at_new hD0 g6 (.inr ⟨_, hD6, trivial⟩), ((s2.trans x3.g).trans x5.g).trans x6.g, g6, upd_same, by rw [List.length_append, List.length_singleton]; omega,
        (ra.up ((x3.g.trans x5.g).trans x6.g)).append (.cons n6 .nil), ?_⟩
      have e2 : (fun zs => k (.lst (ys ++ [yd] ++ zs))) = fun zs => k (.lst (ys ++ yd :: zs)) := by
        funext zs
        rw [List.append_assoc]
        rfl
      rw [e2]
      exact k6
    | false =>
      rw [if_neg Bool.false_ne_true]
      exact ⟨G5, acc, ys, hlt, (x2.trans x3).trans x5, (s2.trans x3.g).trans x5.g, g5, hD5, by omega, ra.up (x3.g.trans x5.g), k5⟩
  · have e : i = ds.length := by omega
    subst e
    refine .inl ⟨w.st G2 H2 s2 x2.sub, ?_⟩
    rw [List.drop_length] at k2
    have k2 : k (.lst (ys ++ [])) := k2
    rw [List.append_nil] at k2
    exact hk ys G2 H2 D k2 x2 hD0 g2 ⟨acc, h2, ra⟩
theorem lc_parts {elt tg iter : Expr} {ifs : List Expr} {scope : Scope} {own : List (PySem.Str × Nat)} {ti : TL} {gp : TGp} {is : List Nat} {te : TP} (hc : X.calm = true) (hN : X.N.Nodup) (hi : PIt X W tg iter ti) (ok : BlkOk X.N X.env.scope scope own)
    (hg : ∀ i : Bi, PGt (Cx.bl X scope i) tg is gp) (ht : ∀ i : Bi, PBs (Cx.bl X scope i) W0 ifs tt) (he : ∀ i : Bi, PP (Cx.bl X scope i) W0 elt te) (hv : is = own.map (·.2)) (hs : ∀ x, foldedSetIterable iter X.env x = pure x := by intro _; rfl) :
    ∃ ta, PE X (.ListComp elt [⟨tg, iter, ifs, 0⟩] scope pos) ta ∧ ∀ (G0 H0 : Hp) (Γ : Ga) (σ : L2.St) (G H : Hp) (k : KD) (kx : KX) (Q : VK), Fr X.K G0 H0 Γ σ G H → tpLc is ti gp tt te Γ k kx →
      (∀ ds G' H' D, k (.lst ds) → Ext G H G' H' → H D = none → G' D = none → (∃ xs, H' D = some (.lst xs) ∧ DenL X.K G' xs ds) → Q (.ref D) H') → XOk X.K W G H σ kx → ta σ H Q := by
  obtain ⟨wi, pi, ri⟩ := hi.ex
  obtain ⟨g, pg, rg⟩ := pg_unif (Xf := fun i : Bi => Cx.bl X scope i) (K := X.K) (fun _ => rfl) hg
  obtain ⟨eb, pb, rb⟩ := bs_unif (Xf := fun i : Bi => Cx.bl X scope i) (K := X.K) (fun _ => rfl) ht
  obtain ⟨ee, pe, re⟩ := pp_unif (Xf := fun i : Bi => Cx.bl X scope i) (K := X.K) (fun _ => rfl) he ⟨X.s_0, X.H_0, 0, [], []⟩
  exact ⟨_, pe_lc hc hN pi ok (fun s H C cl fp => pg (s, H, C, cl, fp)) (fun s H C cl fp => pb (s, H, C, cl, fp)) (fun s H C cl fp => pe (s, H, C, cl, fp)) hs, rd_lc ri rg rb re hv⟩
theorem p_lc {elt tg iter : Expr} {ifs : List Expr} {scope : Scope} (own : List (PySem.Str × Nat)) {ti : TL} {gp : TGp} {is : List Nat} {te : TP} (hc : X.calm = true) (hN : X.N.Nodup) (hi : PIt X W tg iter ti) (ok : BlkOk X.N X.env.scope scope own)
    (hg : ∀ i : Bi, PGt (Cx.bl X scope i) tg is gp) (ht : ∀ i : Bi, PBs (Cx.bl X scope i) W0 ifs tt) (he : ∀ i : Bi, PP (Cx.bl X scope i) W0 elt te) (hv : is = own.map (·.2) := by rfl) (hs : ∀ x, foldedSetIterable iter X.env x = pure x := by intro _; rfl) :
    PP X W (.ListComp elt [⟨tg, iter, ifs, 0⟩] scope pos) (tpLc is ti gp tt te) := by
  obtain ⟨ta, pa, ra⟩ := lc_parts (pos := pos) hc hN hi ok hg ht he hv hs
  refine ⟨ta, pa, fun G0 H0 Γ σ G H k kx Q F h hk hx => ra G0 H0 Γ σ G H k kx Q F h (fun ds G' H' D kd x hD gD ⟨xs, h1, h2⟩ => ?_) hx⟩
  exact hk _ _ _ H' kd (Ext.thaw x.sub x hD gD h1) (.lst upd_same (h2.up (same_upd gD)))
end
end PL
set_option Elab.async false
set_option linter.all false
set_option maxRecDepth 100000
set_option maxHeartbeats 2000000
namespace PL
open PySem L2 TL
variable [Tabl]
section
variable {X : Cx} {W : WX} {e a b c : Expr} {es : List Expr} {t ta tb tc : TP} {tl tk : TL} {tt tu : TB} {pos p : Pos} {x y z : PySem.Str}
def stores : List Nat → List D → Ga → Option Ga
  | [], [], Γ => some Γ
  | i :: r, d :: s, Γ => stores r s (gset Γ i (.pu d))
  | _, _, _ => none
def tsPar (is : List Nat) (tl : TL) : TSp := fun P Γ => tl Γ (fun ds => match stores is ds Γ with
  | some Γ' => P.nx Γ'
  | none => False) (fun x => P.xx x Γ)
theorem s_par2 (i j : Nat) {px py pt : Pos} {kt k2 pt2} (hc : X.calm = true) (hN : X.N.Nodup) (h : PL' X W [a, b] tl) (hij : i ≠ j := by decide) (hi : X.N[i]? = some x := by rfl) (hj : X.N[j]? = some y := by rfl)
    (hx : X.env.scope.names.lookup x = some .local := by rfl) (hy : X.env.scope.names.lookup y = some .local := by rfl)
    (hw : swappedStores [.Tuple [.Name x px, .Name y py] kt pt] (.Tuple [a, b] k2 pt2) X.env = pure (some [x, y]) := by rfl)
    (hs : swapsWithSole [.Tuple [.Name x px, .Name y py] kt pt] (.Tuple [a, b] k2 pt2) pos.line X.env = pure false := by rfl) :
    PS1 X W (.Assign [.Tuple [.Name x px, .Name y py] kt pt] (.Tuple [a, b] k2 pt2) pos) (tsPar [i, j] tl) := by
  obtain ⟨ea, pa, ra⟩ := h.ex
  refine ⟨_, ps_par hc hN hi hj hij hx hy pa hw hs, fun G0 H0 Γ σ G H P E F ht ok => ?_⟩
  refine ra G0 H0 Γ σ G H _ _ _ F ht (fun ds vs G' H' k xt n => ?_) (ok.x F)
  match ds, k, n with
  | [d1, d2], k, .cons n1 (.cons n2 .nil) => exact ⟨_, _, rfl, ok.nx _ _ G' H' k (((F.up xt).set i n1).set j n2)⟩
theorem s_par3 (i j l : Nat) {px py pz pt : Pos} {kt k2 pt2} (hc : X.calm = true) (hN : X.N.Nodup) (h : PL' X W [a, b, c] tl) (hij : i ≠ j := by decide) (hil : i ≠ l := by decide) (hjl : j ≠ l := by decide) (hi : X.N[i]? = some x := by rfl) (hj : X.N[j]? = some y := by rfl) (hl : X.N[l]? = some z := by rfl)
    (hx : X.env.scope.names.lookup x = some .local := by rfl) (hy : X.env.scope.names.lookup y = some .local := by rfl) (hz : X.env.scope.names.lookup z = some .local := by rfl)
    (hw : swappedStores [.Tuple [.Name x px, .Name y py, .Name z pz] kt pt] (.Tuple [a, b, c] k2 pt2) X.env = pure (some [x, y, z]) := by rfl)
    (hs : swapsWithSole [.Tuple [.Name x px, .Name y py, .Name z pz] kt pt] (.Tuple [a, b, c] k2 pt2) pos.line X.env = pure false := by rfl) :
    PS1 X W (.Assign [.Tuple [.Name x px, .Name y py, .Name z pz] kt pt] (.Tuple [a, b, c] k2 pt2) pos) (tsPar [i, j, l] tl) := by
  obtain ⟨ea, pa, ra⟩ := h.ex
  refine ⟨_, ps_par3 hc hN hi hj hl hij hil hjl hx hy hz pa hw hs, fun G0 H0 Γ σ G H P E F ht ok => ?_⟩
  refine ra G0 H0 Γ σ G H _ _ _ F ht (fun ds vs G' H' k xt n => ?_) (ok.x F)
  match ds, k, n with
  | [d1, d2, d3], k, .cons n1 (.cons n2 (.cons n3 .nil)) => exact ⟨_, _, _, rfl, ok.nx _ _ G' H' k ((((F.up xt).set i n1).set j n2).set l n3)⟩
def tpChain (f g : F2) (ta tb tc : TP) : TP := fun Γ k kx => ta Γ (fun d1 => tb Γ (fun d2 => f d1 d2 fun r => onB r fun q => if q = true then tc Γ (fun d3 => g d2 d3 k) kx else k (.bl false)) kx) kx
theorem p_chain {op op2 : CmpOp} {r r2 : R2} {f g : F2} (ho : OpR X (compareOp op) r ∧ RdO X.K r f) (ho2 : OpR X (compareOp op2) r2 ∧ RdO X.K r2 g) (ha : PU X W a ta) (hb : PU X W b tb) (hc : PU X W c tc) (hpe : ∀ {ea eb ec}, PE X a ea → PE X b eb → PE X c ec → PE X e (tChain r r2 ea eb ec)) :
    PP X W e (tpChain f g ta tb tc) := by
  obtain ⟨ea, pa, ra⟩ := ha.ex
  obtain ⟨eb, pb, rb⟩ := hb.ex
  obtain ⟨ec, pc, rc⟩ := hc.ex
  refine ⟨_, hpe pa pb pc, fun G0 H0 Γ σ G H k kx Q F ht hk hx => ?_⟩
  refine ra G0 H0 Γ σ G H _ kx _ F ht (fun d1 v1 G1 H1 k1 x1 n1 => ?_) hx
  refine rb G0 H0 Γ σ G1 H1 _ kx _ (F.up x1) k1 (fun d2 v2 G2 H2 k2 x2 n2 => ?_) (hx.up x1)
  refine ho.2 H0 G2 H2 v1 v2 d1 d2 _ _ x2.sub (n1.up x2) n2 k2 fun d v G3 H3 k3 x3 n3 => ?_
  obtain ⟨q, rfl, k3⟩ := onB_elim k3
  refine ⟨q, DenU.bl (.inl n3) (H0 := H0) (H := H3), ?_⟩
  have x13 := (x1.trans x2).trans x3
  cases q with
  | true =>
    refine rc G0 H0 Γ σ G3 H3 _ kx _ (F.up x13) k3 (fun d3 v3 G4 H4 k4 x4 n4 => ?_) (hx.up x13)
    exact ho2.2 H0 G4 H4 v2 v3 d2 d3 k Q x4.sub (n2.up (x3.trans x4)) n4 k4 fun d v G' H' kd ex dn => hk d v G' H' kd ((x13.trans x4).trans ex) dn
  | false => exact hk _ _ G3 H3 k3 x13 (.bl _)
end
end PL
set_option Elab.async false
set_option linter.all false
set_option maxRecDepth 100000
set_option maxHeartbeats 2000000
namespace PL
open PySem L2
variable [Tabl]
def hole (H : Hp) (p : Addr) : Hp := fun a => if a = p then none else H a
theorem hole_at {H : Hp} {p : Addr} : hole H p p = none := by unfold hole; rw [if_pos rfl]
theorem hole_ne {H : Hp} {p a : Addr} (h : a ≠ p) : hole H p a = H a := by unfold hole; rw [if_neg h]
theorem hole_same {H : Hp} {p : Addr} : Same (hole H p) H := fun a o e => by
  by_cases h : a = p
  · subst h
    rw [hole_at] at e
    cases e
  · rwa [hole_ne h] at e
/-- the j-th argument is an object of the caller's that the def changes: what it holds behind the call is handed on too -/
abbrev FSo := List D → (D → D → Prop) → KX → Prop
def spOw (K : PySem.W.Frag) (n j : Nat) (fs : FSo) : Sp := fun vs H Q E => ∃ G ds k kx p, vs.length = n ∧ ds.length = n ∧ Sub G H ∧ G p = none ∧ vs[j]? = some (.ref p) ∧ (∃ d, ds[j]? = some d ∧ OwnAt K (hole H p) G H p d) ∧
  (∀ (i : Nat) v d, i ≠ j → vs[i]? = some v → ds[i]? = some d → Den K G v d) ∧ fs ds k kx ∧
  (∀ d e v G' H', k d e → Ext G (hole H p) G' H' → G' p = none → OwnAt K (hole H p) G' H' p e → Den K G' v d → Q v H') ∧
  (∀ x cls dA G' H', kx x → Ext G (hole H p) G' H' → G' p = none → XDen K G' H' cls dA x → E cls dA H')
def oEnds (j : Nat) (p : Addr) (k : D → D → Prop) (kx : KX) : PEn := ⟨fun Γ => match gat Γ j with | .pw q e => q = p ∧ k .non e | _ => False, fun _ => False, fun _ => False, fun d Γ => match gat Γ j with | .pw q e => q = p ∧ k d e | _ => False,
  fun x Γ => match gat Γ j with | .pw q _ => q = p ∧ kx x | _ => False⟩
def gaO (m j : Nat) (p : Addr) (ds : List D) : Ga := gset (ga0 m ds) j (.pw p (ds.getD j .non))
theorem frO {K : PySem.W.Frag} {G H : Hp} {N : List PySem.Str} {vs : List V} {ds : List D} {p : Addr} {j : Nat} {d : D} (s : Sub G H) (hl : vs.length = ds.length) (g : G p = none) (hv : vs[j]? = some (.ref p)) (hd : ds[j]? = some d) (ho : OwnAt K (hole H p) G H p d)
    (hr : ∀ (i : Nat) v d, i ≠ j → vs[i]? = some v → ds[i]? = some d → Den K G v d) : Fr K G (hole H p) (gaO N.length j p ds) (L2.start N vs) G H := by
  have hj : j < ds.length := (List.getElem?_eq_some_iff.mp hd).1
  have hjd : ds.getD j .non = d := by rw [List.getD_eq_getElem?_getD, hd]; rfl
  have la : (ga0 N.length ds).length = (L2.start N vs).length := by unfold L2.start ga0; simp [hl]
  have lj : j < (ga0 N.length ds).length := by unfold ga0; rw [List.length_append, List.length_map]; omega
  have key : ∀ i, i ≠ j → (∃ d, ds[i]? = some d ∧ (ga0 N.length ds)[i]? = some (.pu d)) ∨ (ds.length ≤ i ∧ ∀ s, (ga0 N.length ds)[i]? = some s → s = .un) := fun i _ => by
    by_cases h : i < ds.length
    · refine .inl ⟨ds[i], List.getElem?_eq_getElem h, ?_⟩
      unfold ga0
      rw [List.getElem?_append_left (by rw [List.length_map]; exact h), List.getElem?_map, List.getElem?_eq_getElem h]
      rfl
    · refine .inr ⟨Nat.le_of_not_lt h, fun s e => ?_⟩
      unfold ga0 at e
      rw [List.getElem?_append_right (by rw [List.length_map]; omega)] at e
      have := List.mem_of_getElem? e
      exact (List.mem_replicate.mp this).2
  have pw_only : ∀ (i : Nat) (s : Sl), (gaO N.length j p ds)[i]? = some s → s.owns → i = j := fun i s h ow => by
    by_cases hi : i = j
    · exact hi
    · exfalso
      unfold gaO at h
      rw [gset_eq, List.getElem?_set_ne (Ne.symm hi)] at h
      rcases key i hi with ⟨d, e, q⟩ | ⟨_, q⟩
      · rw [q] at h
        cases h
        exact ow
      · rw [q s h] at ow
        exact ow
  refine ⟨by unfold gaO; rw [gset_eq, List.length_set]; exact la.symm, ⟨.of hole_same, Same.refl G, fun _ h _ => h, s⟩, fun i t h => ?_, fun a b q t u h1 h2 h3 h4 _ _ => (pw_only a t h1 h2).trans (pw_only b u h3 h4).symm⟩
  by_cases hi : i = j
  · subst hi
    unfold gaO at h
    rw [gset_eq, List.getElem?_set_self lj] at h
    cases h
    rw [hjd]
    refine ⟨?_, g, hole_at, ho⟩
    unfold L2.start
    rw [List.getElem?_append_left (by rw [List.length_map, hl]; exact hj), List.getElem?_map, hv]
    rfl
  · unfold gaO at h
    rw [gset_eq, List.getElem?_set_ne (Ne.symm hi)] at h
    rcases key i hi with ⟨d, e, q⟩ | ⟨_, q⟩
    · rw [q] at h
      cases h
      have hi2 : i < vs.length := by rw [hl]; exact (List.getElem?_eq_some_iff.mp e).1
      refine ⟨vs[i], ?_, hr i _ d hi (List.getElem?_eq_getElem hi2) e⟩
      unfold L2.start
      rw [List.getElem?_append_left (by rw [List.length_map]; exact hi2), List.getElem?_map, List.getElem?_eq_getElem hi2]
      rfl
    · rw [q t h]
      trivial
section
variable {P : Program} {w : World} {K : PySem.W.Frag} {mg : PySem.Str → Option Value} {base : Heap}
theorem fn_okO {x qual : PySem.Str} {st : Stmt} {f : Addr} {fd : FuncData} {N ps : List PySem.Str} {k n j : Nat} {fs : FSo} (F : Fun K x qual st f fd) (S : FnScope N ps (defScope st)) (hn : ps.length = n)
    (body : ∀ (cdv : Value) (A : Around) (outer : List Env) (s : Shared) (H : Hp) (E : XK), Room k (A.deeper (PyProof.Rows.envOfC qual (defScope st) s.heap.objs.size f cdv)) →
      ∃ t, PSS (cxOf (L2.CX P w) P w K mg base N qual (defScope st) f cdv A outer s H E) (fun cls d _ H => E cls d H) (defBody st) t ∧ ∀ ds kd kx p, ds.length = n → fs ds kd kx → t (oEnds j p kd kx) (gaO N.length j p ds)) :
    FnOk P w K mg base (L2.CX P w) (k + 1) f fd ps (spOw K n j fs) := by
  refine F.okX S (fun vs H Q E h => ?_) (fun cdv A outer s H vs Q E hr h => ?_)
  · obtain ⟨G, ds, kd, kx, p, b, _⟩ := h
    rw [b, hn]
  · obtain ⟨G, ds, kd, kx, p, hlv, hl, sb, g, hv, ⟨d, hd, ho⟩, r, hf, hk, hx⟩ := h
    obtain ⟨t, ⟨ts, ps, rd⟩, ht⟩ := body cdv A outer s H E hr
    have F0 := frO (N := N) sb (hlv.trans hl.symm) g hv hd ho r
    have fin : ∀ {Γ σ G' H'} {k0 : D → Prop}, (match gat Γ j with | .pw q e => q = p ∧ k0 e | _ => False) → Fr K G (hole H p) Γ σ G' H' → ∃ e, k0 e ∧ G' p = none ∧ OwnAt K (hole H p) G' H' p e := fun {Γ σ G' H' k0} q F' => by
      cases e : gat Γ j with
      | pw q2 e2 =>
        rw [e] at q
        obtain ⟨rfl, q⟩ := q
        obtain ⟨_, g2, _, o2⟩ := F'.at_ j _ (gat_get Γ j _ e (by simp))
        exact ⟨e2, q, g2, o2⟩
      | _ => rw [e] at q; exact q.elim
    refine ⟨ts, ps, rd G (hole H p) _ (L2.start N vs) G H (oEnds j p kd kx) _ F0 (ht ds kd kx p hl hf) ⟨?_, ?_, ?_, ?_, ?_⟩⟩
    · intro Γ σ G' H' q F'
      obtain ⟨e, q, g2, o2⟩ := fin q F'
      exact hk .non e .non G' H' q F'.e g2 o2 .non
    · intro Γ σ G' H' q
      exact q.elim
    · intro Γ σ G' H' q
      exact q.elim
    · intro d v Γ σ G' H' q F' n
      obtain ⟨e, q, g2, o2⟩ := fin q F'
      exact hk d e v G' H' q F'.e g2 o2 n
    · intro x cls dA Γ σ G' H' q F' n
      obtain ⟨e, q, g2, o2⟩ := fin (k0 := fun _ => kx x) q F'
      exact hx x cls dA G' H' q F'.e g2 n
end
section
variable {X : Cx} {W : WX} {e a b c : Expr} {es : List Expr} {t ta tb tc : TP} {tl tk : TL} {tt tu : TB} {pos p : Pos} {x y z : PySem.Str}
def tsSetIx (i : Nat) (ti te : TP) : TSp := fun P Γ => te Γ (fun d => onOL Γ i fun ds => ti Γ (fun j => match j with
  | .int n => match ixN ds.length n with
    | some m => P.nx (oput Γ i (.lst (ds.set m d)))
    | none => False
  | _ => False) (fun x => P.xx x Γ)) (fun x => P.xx x Γ)
theorem rd_setIx {ei ee : TE} {ti te : TP} (i : Nat) (ri : RdP X.K W ei ti) (re : RdP X.K W ee te) : RdS X.K W (tAsg ee (gSub (tVar i) ei rSetL)) (tsSetIx i ti te) := by
  intro G0 H0 Γ σ G H P E F ht ok
  refine re G0 H0 Γ σ G H _ _ _ F ht (fun d v G1 H1 k1 x1 n1 => ?_) (ok.x F)
  obtain ⟨ds, hs, k1⟩ := onOL_elim k1
  have F1 := F.up x1
  obtain ⟨key, p, e1, g1, h01, xs0, q1, q2⟩ := own_at F1 hs
  refine ⟨.ref p, e1, ?_⟩
  refine ri G0 H0 Γ σ G1 H1 _ _ _ F1 k1 (fun d2 v2 G2 H2 k2 x2 n2 => ?_) ((ok.x F).up x1)
  cases d2 with
  | int n =>
    cases n2
    cases e : ixN ds.length n with
    | none => simp only [e] at k2
    | some m =>
      simp only [e] at k2
      have F2 := F1.up x2
      obtain ⟨_, p', e2, g2, h02, xs, q3, q4⟩ := own_at F2 hs
      rw [e1] at e2
      cases e2
      refine ⟨p, xs, n, m, rfl, rfl, q3, by rw [q4.length]; exact e, ?_⟩
      exact ok.nx _ _ _ _ k2 (F2.mut key hs e1 g2 h02 q3 trivial ⟨_, upd_same, q4.set (n1.up x2.g) m⟩)
  | _ => exact k2.elim
theorem s_setIx (i : Nat) {o ix : Expr} {ti te : TP} {p2 : Pos} (ho : PE X o (tVar i)) (hi : PP X W ix ti) (he : PP X W e te) (hps : ∀ {ei ee}, PE X ix ei → PE X e ee → PS X (.Assign [.Subscript o ix p2] e pos) (tAsg ee (gSub (tVar i) ei rSetL))) :
    PS1 X W (.Assign [.Subscript o ix p2] e pos) (tsSetIx i ti te) := by
  obtain ⟨ei, pi, ri⟩ := hi.ex
  obtain ⟨ee, pe, re⟩ := he.ex
  exact ⟨_, hps pi pe, rd_setIx i ri re⟩
end
section
variable {P : Program} {w : World}
theorem bag_vals {l : Addr} {i g s : Int} {its : List Value} (h : Vals [.ref l, .int i, .int g, .int s] its) : ∃ t1 t2 t3, its = [.ref l, .int i t1, .int g t2, .int s t3] := by
  cases h with
  | cons h1 h =>
    cases h with
    | cons h2 h =>
      cases h with
      | cons h3 h =>
        cases h with
        | cons h4 h =>
          cases h
          cases h1
          obtain ⟨t1, rfl⟩ := h2
          obtain ⟨t2, rfl⟩ := h3
          obtain ⟨t3, rfl⟩ := h4
          exact ⟨t1, t2, t3, rfl⟩
/-- the list is hidden -/
theorem bag_close {H : Hp} {h : Heap} {b l : Addr} {i n : Nat} {g s : Int} (ok : HOk P w H h) (hb : H b = some (.lst [.ref l, .int i, .int g, .int s])) (hi : i ≤ n) (hg : 0 ≤ g) (h0 : 0 ≤ s) (h1 : s < 2147483543) : HOk P w (upd H b (.ext (BagRaw b l n))) h := by
  intro c o e
  by_cases hc : c = b
  · subst hc
    rw [upd_same] at e
    cases e
    obtain ⟨_, its, m, r, q⟩ := (show ObjOk P w H h c (.lst [.ref l, .int i, .int g, .int s]) from ok c _ hb)
    obtain ⟨t1, t2, t3, rfl⟩ := bag_vals r
    exact ⟨⟨m, i, g, s, t1, t2, t3, hi, hg, h0, h1, q⟩, ⟨_, q⟩, fun h1 h2 ⟨m, i, g, s, t1, t2, t3, a1, a2, a3, a4, a5⟩ k => ⟨m, i, g, s, t1, t2, t3, a1, a2, a3, a4, k _ a5⟩⟩
  · rw [upd_ne hc] at e
    refine (ok c o e).stay (fun _ _ _ q => q) (fun d q => ?_) (fun d xs q => ?_)
    · rw [upd_ne (fun z => by rw [z, hb] at q; cases q)]
      exact q
    · rw [upd_ne (fun z => by rw [z, hb] at q; cases q)]
      exact q
/-- .. is seen -/
theorem bag_open {H : Hp} {h : Heap} {b l : Addr} {n : Nat} (ok : HOk P w H h) (hb : H b = some (.ext (BagRaw b l n))) : ∃ (i : Nat) (g s : Int), i ≤ n ∧ 0 ≤ g ∧ 0 ≤ s ∧ s < 2147483543 ∧ HOk P w (upd H b (.lst [.ref l, .int i, .int g, .int s])) h := by
  obtain ⟨⟨m, i, g, s, t1, t2, t3, a1, a2, a3, a4, a5⟩, _, _⟩ := (show ObjOk P w H h b (.ext (BagRaw b l n)) from ok b _ hb)
  refine ⟨i, g, s, a1, a2, a3, a4, fun c o e => ?_⟩
  by_cases hc : c = b
  · subst hc
    rw [upd_same] at e
    cases e
    exact ⟨by show 4 ≤ sizeLine; decide, [.ref l, .int i t1, .int g t2, .int s t3], m, .cons rfl (.cons ⟨t1, rfl⟩ (.cons ⟨t2, rfl⟩ (.cons ⟨t3, rfl⟩ .nil))), a5⟩
  · rw [upd_ne hc] at e
    refine (ok c o e).stay (fun _ _ _ q => q) (fun d q => ?_) (fun d xs q => ?_)
    · rw [upd_ne (fun z => by rw [z, hb] at q; cases q)]
      exact q
    · rw [upd_ne (fun z => by rw [z, hb] at q; cases q)]
      exact q
theorem un_close {fs : List Addr} {H H' : Hp} {h h' : Heap} {b l : Addr} {n : Nat} {xs : List V} (u : Un fs [] H H' h h') (hb : H' b = some (.lst xs)) (h0 : H b = none ∨ ∃ φ, H b = some (.ext φ)) : Un fs [] H (upd H' b (.ext (BagRaw b l n))) h h' where
  keep := u.keep
  slot := u.slot
  free := fun c o q z hx => by
    have e := u.free c o q z hx
    rw [upd_ne (fun z => by rw [z, hb] at e; cases e)]
    exact e
  there := u.there
  tups := fun c ys z => by
    have e := u.tups c ys z
    rw [upd_ne (fun z => by rw [z, hb] at e; cases e)]
    exact e
  frzs := fun c o v z => by
    have e := u.frzs c o v z
    rw [upd_ne (fun z => by rw [z, hb] at e; cases e)]
    exact e
  tbls := fun c ps z => by
    obtain ⟨more, e⟩ := u.tbls c ps z
    exact ⟨more, by rw [upd_ne (fun z => by rw [z, hb] at e; cases e)]; exact e⟩
theorem un_open {fs : List Addr} {H H' : Hp} {h h' : Heap} {b : Addr} {φ : Heap → Prop} {o : HO} (u : Un fs [] (upd H b o) H' h h') (hb : H b = some (.ext φ)) : Un fs [] H H' h h' where
  keep := fun c o q z hf hx => u.keep c o q (by rw [upd_ne (fun y => by rw [y, hb] at z; cases z)]; exact z) hf hx
  slot := fun c o q z hf hx => u.slot c o q (by rw [upd_ne (fun y => by rw [y, hb] at z; cases z)]; exact z) hf hx
  free := fun c o q z hx => u.free c o q (by rw [upd_ne (fun y => by rw [y, hb] at z; cases z)]; exact z) hx
  there := u.there
  tups := fun c ys z => u.tups c ys (by rw [upd_ne (fun y => by rw [y, hb] at z; cases z)]; exact z)
  frzs := fun c o v z => u.frzs c o v (by rw [upd_ne (fun y => by rw [y, hb] at z; cases z)]; exact z)
  tbls := fun c ps z => u.tbls c ps (by rw [upd_ne (fun y => by rw [y, hb] at z; cases z)]; exact z)
variable {K : PySem.W.Frag} {mg : PySem.Str → Option Value} {base : Heap}
/-- a number below n is drawn -/
def fsPull : FS := fun ds k _ => match ds with
  | [.bag, .int n] => (1 ≤ n ∧ n < 1073741824) ∧ ∀ r : Int, 0 ≤ r → r < n → k (.int r)
  | _ => False
/-- what the body of the drawing must do -/
def PullOk (fs : FSo) : Prop := ∀ (l : Addr) (ns : List Int) (i : Nat) (g s n : Int) (k : D → D → Prop), ns.length ≤ 63 → i ≤ ns.length → 0 ≤ g → 0 ≤ s → s < 2147483543 → 1 ≤ n → n < 1073741824 →
  (∀ (r : Int) (i' : Nat) (g' s' : Int), 0 ≤ r → r < n → i' ≤ ns.length → 0 ≤ g' → 0 ≤ s' → s' < 2147483543 → k (.int r) (.lst [.cel l ns, .int i', .int g', .int s'])) →
  fs [.lst [.cel l ns, .int i, .int g, .int s], .int n] k (fun _ => False)
theorem denL_bag {K : PySem.W.Frag} {G : Hp} {l : Addr} {ns : List Int} {i g s : Int} {xs : List V} (h : DenL K G xs [.cel l ns, .int i, .int g, .int s]) : xs = [.ref l, .int i, .int g, .int s] := by
  cases h with
  | cons h1 h =>
    cases h with
    | cons h2 h =>
      cases h with
      | cons h3 h =>
        cases h with
        | cons h4 h =>
          cases h
          cases h1
          cases h2
          cases h3
          cases h4
          rfl
theorem pull_conv {f : Addr} {fd : FuncData} {ps : List PySem.Str} {k : Nat} {fs : FSo} (F : FnOk P w K mg base (L2.CX P w) k f fd ps (spOw K 2 0 fs)) (hn : ps.length = 2) (hp : PullOk fs) : FnOk P w K mg base (L2.CX P w) k f fd ps (spOf K 2 fsPull) := by
  refine ⟨fun vs H Q E h => ?_, fun A outer s H args us vs Q E hr he hb hv h => ?_⟩
  · obtain ⟨G, ds, kd, kx, _, b, c, _⟩ := h
    rw [b.length, c, hn]
  · obtain ⟨G, ds, kd, kx, sb, r, hl, hf, hk, hx⟩ := h
    match ds, r, hf with
    | [.bag, .int n], .cons (.bag (a := b) ⟨l, ns, gb, gl, nbl, n63⟩) (.cons (.int _) .nil), ⟨⟨hn1, hn2⟩, hf⟩ =>
      have Hb : H b = some (.ext (BagRaw b l ns.length)) := sb.at_ gb (fun z => z)
      obtain ⟨i, g, sd, a1, a2, a3, a4, ok1⟩ := bag_open he.hok Hb
      have nb : ∀ {c}, H c = none → c ≠ b := fun {c} z y => by rw [y, Hb] at z; cases z
      have e1 : Env0 P w K mg base A outer s (upd H b (.lst [.ref l, .int i, .int g, .int sd])) :=
        ⟨he.frames, he.mod, fun c o q => ⟨(he.bs c o q).1, by rw [upd_ne (nb (he.bs c o q).2)]; exact (he.bs c o q).2⟩, he.bsz, he.funs, fun c q => by rw [upd_ne (nb (he.frf c q))]; exact he.frf c q, ok1, he.bare⟩
      have g1 : hole G b b = none := hole_at
      have gl1 : hole G b l = some (.frz nob (.lst (ns.map V.int))) := by rw [hole_ne (Ne.symm nbl)]; exact gl
      have nco : ∀ {c : Addr} {q : PySem.Str}, H c = some (LamX.CodeO c q) → c ≠ b := fun {c q} e z => by
        subst z
        have e2 := Option.some.inj (e.symm.trans Hb)
        obtain ⟨⟨_, _, _, _, _, _, _, _, _, _, _, a5⟩, _⟩ := (show ObjOk P w H s.heap c (.ext (BagRaw c l ns.length)) from he.hok c _ Hb)
        obtain ⟨⟨oc, vs, t, b1, b2, b3⟩, _⟩ := (show ObjOk P w H s.heap c (LamX.CodeO c q) from he.hok c _ e)
        rw [a5] at b1
        cases b1
        cases b2
      have tb1 : LamX.Tabs Tabl.T (upd H b (.lst [.ref l, .int i, .int g, .int sd])) := fun q hq => by
        obtain ⟨ps, h1, h2, h3⟩ := sb.tb q hq
        have nT : q.1 ≠ b := fun z => by rw [z, Hb] at h1; cases h1
        refine ⟨ps, by rw [upd_ne nT]; exact h1, h2, fun pos cv hc => ?_⟩
        obtain ⟨c, e1, e2⟩ := h3 pos cv hc
        exact ⟨c, e1, by rw [upd_ne (nco e2)]; exact e2⟩
      have sb1 : Sub (hole G b) (upd H b (.lst [.ref l, .int i, .int g, .int sd])) := ⟨fun c o q => by
        have hc : c ≠ b := fun z => by rw [z, g1] at q; cases q
        rw [hole_ne hc] at q
        rw [upd_ne hc]
        exact sb.m c o q, fun c o q => by
        have hc : c ≠ b := fun z => by rw [z, g1] at q; cases q
        rw [hole_ne hc] at q
        exact sb.nt c o q, tb1⟩
      refine codeAny_mono (F.run A outer s (upd H b (.lst [.ref l, .int i, .int g, .int sd])) args us _ (fun v H' => ∃ (d : D) (i' : Nat) (g' s' : Int) (G' : Hp), kd d ∧ i' ≤ ns.length ∧ 0 ≤ g' ∧ 0 ≤ s' ∧ s' < 2147483543 ∧
          Ext (hole G b) (hole (upd H b (.lst [.ref l, .int i, .int g, .int sd])) b) G' H' ∧ G' b = none ∧ H' b = some (.lst [.ref l, .int i', .int g', .int s']) ∧ Den K G' v d) E0 hr e1 hb hv ?_) (fun rs s' hq => ?_)
      · refine ⟨hole G b, [.lst [.cel l ns, .int i, .int g, .int sd], .int n], fun d e => ∃ (r : Int) (i' : Nat) (g' s' : Int), d = .int r ∧ kd d ∧ i' ≤ ns.length ∧ 0 ≤ g' ∧ 0 ≤ s' ∧ s' < 2147483543 ∧ e = .lst [.cel l ns, .int i', .int g', .int s'], fun _ => False, b, rfl, rfl, sb1, g1, rfl, ⟨_, rfl, ?_⟩, ?_, ?_, ?_, ?_⟩
        · exact ⟨_, upd_same, .cons (.cel gl1) (.cons (.int _) (.cons (.int _) (.cons (.int _) .nil)))⟩
        · intro j v d hj hv hd
          match j, hj with
          | 0, hj => exact absurd rfl hj
          | 1, _ =>
            cases hv
            cases hd
            exact .int _
          | j + 2, _ => simp at hv
        · exact hp l ns i g sd n _ n63 a1 a2 a3 a4 hn1 hn2 fun r i' g' s' b1 b2 b3 b4 b5 b6 => ⟨r, i', g', s', rfl, hf r b1 b2, b3, b4, b5, b6, rfl⟩
        · rintro d e v G' H' ⟨r, i', g', s', _, kk, b3, b4, b5, b6, rfl⟩ x gp ⟨xs, o1, o2⟩ dn
          rw [denL_bag o2] at o1
          exact ⟨d, i', g', s', G', kk, b3, b4, b5, b6, x, gp, o1, dn⟩
        · intro x cls dA G' H' z
          exact z.elim
      · cases rs with
        | error e => exact (by obtain ⟨_, _, _, _, _, _, _, _, _, _, _, _, z⟩ := hq; exact z.elim)
        | ok fl =>
          cases fl with
          | ret u =>
            obtain ⟨v, H', os, bare, un, hok, rv, d, i', g', z', G', kk, b3, b4, b5, b6, x, gp, hb', dn⟩ := hq
            have un1 : Un (frs outer) [] H H' s.heap s'.heap := un_open un Hb
            refine ⟨v, upd H' b (.ext (BagRaw b l ns.length)), os, bare, un_close un1 hb' (.inr ⟨_, Hb⟩), bag_close hok hb' b3 b4 b5 b6, rv, ?_⟩
            have same' : Same G' (upd G' b (.ext (BagRaw b l ns.length))) := same_upd gp
            refine hk d v (upd G' b (.ext (BagRaw b l ns.length))) _ kk ⟨⟨fun c o q nt => ?_, fun c o q => ?_, fun t q hq => tab_upd (x.sub.tb q hq) hb' trivial⟩, fun c o q => ?_, fun c q ⟨o, z⟩ => ?_, ⟨fun c o q => ?_, fun c o q => ?_, fun q hq => tab_upd (x.sub.tb q hq) hb' trivial⟩⟩ (dn.up same')
            · by_cases hc : c = b
              · subst hc
                rw [Hb] at q
                cases q
                exact upd_same
              · rw [upd_ne hc]
                exact x.h.k c o (by rw [hole_ne hc, upd_ne hc]; exact q) nt
            · by_cases hc : c = b
              · subst hc
                exact ⟨_, upd_same⟩
              · rw [upd_ne hc]
                exact x.h.t c o (by rw [hole_ne hc, upd_ne hc]; exact q)
            · by_cases hc : c = b
              · subst hc
                rw [gb] at q
                cases q
                exact upd_same
              · rw [upd_ne hc]
                exact x.g c o (by rw [hole_ne hc]; exact q)
            · have hc : c ≠ b := fun y => by rw [y, gb] at q; cases q
              rw [upd_ne hc]
              exact x.nw c (by rw [hole_ne hc]; exact q) ⟨o, by rw [hole_ne hc, upd_ne hc]; exact z⟩
            · by_cases hc : c = b
              · subst hc
                rw [upd_same] at q ⊢
                exact .inl q
              · rw [upd_ne hc] at q ⊢
                exact x.sub.m c o q
            · by_cases hc : c = b
              · subst hc
                rw [upd_same] at q
                cases q
                intro ps z
                cases z
              · rw [upd_ne hc] at q
                exact x.sub.nt c o q
          | next => exact False.elim hq
          | brk => exact False.elim hq
          | cont => exact False.elim hq
end
end PL
set_option Elab.async false
set_option linter.all false
set_option maxRecDepth 100000
set_option maxHeartbeats 4000000
namespace PySem
namespace ExcX
open PySem.W PySem.Calls PyProof.Rows PySem.HandSPX
/-- __init__(self, f) -/
def xA (f : Str) (p1 p2 : Pos) : Arguments := { posonlyargs := [], args := [{ arg := "self", annotation := none, pos := p1 }, { arg := f, annotation := none, pos := p2 }], vararg := none, kwonlyargs := [], kw_defaults := [], kwarg := none, defaults := [] }
def xHead (cn : Str) (q0 q1 q2 q3 q4 q5 q6 q7 q8 q9 : Pos) (rest : List Stmt) : List Stmt :=
  .Expr (.Call (.Attribute (.Call (.Name "super" q0) [] [] q1) "__init__" q2) [.Constant (.str cn) 0 q3] [] q4) q5 ::
  .Assign [.Attribute (.Name "self" q6) "tag" q7] (.Constant (.str cn) 0 q8) q9 :: rest
def xF (f : Str) (r0 r1 r2 r3 : Pos) : List Stmt := [.Assign [.Attribute (.Name "self" r0) f r1] (.Name f r2) r3]
def xS (f : Str) : Scope := { kind := .function, names := [("self", .local), (f, .local), ("__class__", .free), ("super", .globalImplicit)], isGenerator := false, isCoroutine := false }
/-- super().__init__('..') on one line -/
def SupEv (cn : Str) (q0 q1 q2 q3 q4 : Pos) : Prop := ∀ env : Env, ∃ pl : Sem Bool, eval (.Call (.Attribute (.Call (.Name "super" q0) [] [] q1) "__init__" q2) [.Constant (.str cn) 0 q3] [] q4) env = (do
  let ov ← attributeBase (.Call (.Name "super" q0) [] [] q1) "__init__" env (eval (.Call (.Name "super" q0) [] [] q1) env)
  standAt q2.atName
  let (f, first) ← holding [ov] (getMethod ov "__init__" pl)
  callWith q4 f first (backTo q4 (starEach [.Constant (.str cn) 0 q3] env)) [])
/-- the text of the class's __init__ -/
structure XText (st : Stmt) (cn f : Str) : Prop where
  args : ∃ p1 p2, L2.defArgs st = xA f p1 p2
  body : ∃ q0 q1 q2 q3 q4 q5 q6 q7 q8 q9 r0 r1 r2 r3, L2.defBody st = xHead cn q0 q1 q2 q3 q4 q5 q6 q7 q8 q9 (xF f r0 r1 r2 r3) ∧ SupEv cn q0 q1 q2 q3 q4
  scope : L2.defScope st = xS f
  ne1 : ("self" : Str) ≠ f
  ne2 : ("super" : Str) ≠ f
  ne3 : ("__class__" : Str) ≠ f
  ne4 : ("tag" : Str) ≠ f
  ne5 : (f == ("__debug__" : Str)) = false
  ne6 : (f == ("__classdict__" : Str)) = false
  bind : ∀ (qual : Str) (body : List Stmt) (sc : Scope) (doc pm : Value) (an : Option Addr) (cdv ct : Value) (cc : Addr) (u v : Value), bindArgs (ksFn "__init__" qual (L2.defArgs st) body sc .none .none doc pm an cdv ct cc) ⟨[u, v], []⟩ = pure [(("self" : Str), u), (f, v)]
/-- the class cn at C, its __init__ at fI, its cell at cc, the code of __init__ at cda -/
structure XC (P : Program) (K : Frag) (mg : Str → Option Value) (cn f : Str) (C : Addr) : Prop where
  gC : mg cn = some (.ref C)
  cls : ∃ nm q N bs bm sn sub ab col dd k0 k1 k2 k3 k5, K.lookup C = some (excClassObj nm q C N bs bm true sn sub ab col dd k0 k1 k2 k3 k5 "ValueError.__new__") ∧ refsVE bm = true
  sa : findIn K (.ref C) "__setattr__" = some (some (.builtin "object.__setattr__"))
  ga : findIn K (.ref C) "__getattribute__" = some (some (.builtin "BaseException.__getattribute__"))
  gg : findIn K (.ref C) "__getattr__" = some none
  noF : findIn K (.ref C) f = some none
  noT : findIn K (.ref C) "tag" = some none
  kC : keepIn K (.ref C) = true
  exC : subIn K (.ref C) (.type "BaseException") = some true
  veC : subIn K (.ref C) (.type "ValueError") = some true
  tyC : typeIn K (.ref C) = some (.type "type")
  hdC : hasDictIn K C = true
  sub : mroIn K C (.ref C) = some true
  sup : mg "super" = none
  supI : ks_superIn K C C "__init__" = some (some (.builtin "ValueError.__init__"))
  opq : nsIn K cStatics "thirdparty.any" = some none
  fn : ∃ (st : Stmt) (fI cda cc : Addr) (oc : Value) (od : Option Addr) (qual : Str) (doc pm : Value) (an : Option Addr) (ct : Value) (osl : Array (Option Value)) (ccl : Value) (cdd : Option Addr) (vs : Array Value) (ccs : Array (Option Value)) (file : Str) (tf : Tok) (cl : Value) (cld : Option Addr) (csl : Array (Option Value)),
    findIn K (.ref C) "__init__" = some (some (.ref fI)) ∧ typeIn K (.ref fI) = some (.type "function") ∧
    K.lookup fI = some ⟨oc, od, .func (ksFn "__init__" qual (L2.defArgs st) (L2.defBody st) (L2.defScope st) .none .none doc pm an (.ref cda) ct cc), osl⟩ ∧ codeIn K (.ref cda) qual = true ∧
    K.lookup cda = some ⟨ccl, cdd, .fields vs, ccs⟩ ∧ vs[2]? = some (.str file tf) ∧ ((P.main.file : Str) == file) = true ∧
    K.lookup cc = some ⟨cl, cld, .cell (some (.ref C)), csl⟩ ∧ XText st cn f
  htop : (P.main.scope.names.lookup ("super" : Str)).isSome = false
theorem xS_self {f : Str} : (xS f).names.lookup ("self" : Str) = some .local := rfl
theorem xS_f {f : Str} (h : ("self" : Str) ≠ f) : (xS f).names.lookup f = some .local := by
  have e : (f == ("self" : Str)) = false := by simpa using fun z : f = "self" => h z.symm
  show List.lookup f [(("self" : Str), NameKind.local), (f, .local), ("__class__", .free), ("super", .globalImplicit)] = _
  rw [List.lookup_cons, e]
  simp [List.lookup]
theorem xS_c {f : Str} (h : ("__class__" : Str) ≠ f) : (xS f).names.lookup ("__class__" : Str) = some .free := by
  have e : (("__class__" : Str) == f) = false := by simpa using h
  show List.lookup ("__class__" : Str) [(("self" : Str), NameKind.local), (f, .local), ("__class__", .free), ("super", .globalImplicit)] = _
  rw [List.lookup_cons, show (("__class__" : Str) == "self") = false by decide]
  show List.lookup ("__class__" : Str) [(f, NameKind.local), ("__class__", .free), ("super", .globalImplicit)] = _
  rw [List.lookup_cons, e]
  rfl
theorem xS_s {f : Str} (h : ("super" : Str) ≠ f) : (xS f).names.lookup ("super" : Str) = some .globalImplicit := by
  have e : (("super" : Str) == f) = false := by simpa using h
  show List.lookup ("super" : Str) [(("self" : Str), NameKind.local), (f, .local), ("__class__", .free), ("super", .globalImplicit)] = _
  rw [List.lookup_cons, show (("super" : Str) == "self") = false by decide]
  show List.lookup ("super" : Str) [(f, NameKind.local), ("__class__", .free), ("super", .globalImplicit)] = _
  rw [List.lookup_cons, e]
  rfl
/-- what __init__ leaves of a fresh exception at x -/
structure IEnd (h h' : Heap) (x C dx t1 : Addr) (cn f : Str) (v : Value) : Prop where
  keep : ∀ b o, b ≠ x → h.get? b = some o → h'.get? b = some o
  obj : h'.get? x = some { cls := .ref C, dict := some dx, data := .fields #[.ref t1, .none, .none, .none, .bool false, .none] }
  dbig : h.objs.size ≤ dx
  dne : dx ≠ x
  ns : ∃ tk : Tok, h'.Ns1 dx (fun y => if y = f then some v else if y = "tag" then some (.str cn tk) else none)
section
variable {prog : Program} {w : World} {A : Around} {R : Result → Shared → Prop} {s : Shared} {K : Frag} {mg : Str → Option Value} {cn f : Str} {C fI : Addr}
theorem x_init (T : XC prog K mg cn f C) (iC : findIn K (.ref C) "__init__" = some (some (.ref fI))) {x t0 : Addr} {v : Value} (X : K.In s.heap) (G : s.heap.Ns mainGlobals mg) (B : ∃ mb, s.heap.Ns builtinsNs mb ∧ ∀ x : Str, x ≠ "__name__" → mb x = bootBuiltins x) (hlim : s.heap.NoLimit)
    (hx : s.heap.get? x = some (excO C t0)) (hnx : K.lookup x = none) (hroom : A.depth < recursionLimit) (hcn : cn.length ≤ sizeLine)
    (hq : ∀ h' tk dx t1, IEnd s.heap h' x C dx t1 cn f v → R (.ok (.ret .none)) { s with heap := h', toks := tk }) :
    codeAny (model prog w) A (.call (.ref fI) ⟨[.ref x, v], []⟩) R s := by
  obtain ⟨st, fI', cda, cc, oc, od, qual, doc, pm, an, ct, osl, ccl, cdd, vs, ccs, file, tf, cl, cld, csl, iC', tI, ho, hcd, hcode, hvs, hfile, hcell, TX⟩ := T.fn
  rw [iC] at iC'
  cases iC'
  obtain ⟨p1, p2, ea⟩ := TX.args
  obtain ⟨q0, q1, q2, q3, q4, q5, q6, q7, q8, q9, r0, r1, r2, r3, eb, sev⟩ := TX.body
  have es := TX.scope
  rw [ea, eb, es] at ho
  obtain ⟨nm, q, N, bs, bm, sn, sub, ab, col, dd, k0, k1, k2, k3, k5, hC, hbm⟩ := T.cls
  have hcl : clsIn K C = some { name := nm, bases := bs, mro := .ref C :: bm, ns := N, qualname := q, hasDict := true, slotNames := sn, subclasses := sub, abstract := ab, collection := col, hasDel := false } := by unfold clsIn; rw [hC] <;> rfl
  have nS : (f == ("self" : Str)) = false := by simpa using fun z : f = "self" => TX.ne1 z.symm
  have nS' : (("self" : Str) == f) = false := by simpa using TX.ne1
  refine ks_codeAny_call_defAt (fd := ksFn "__init__" qual (xA f p1 p2) (xHead cn q0 q1 q2 q3 q4 q5 q6 q7 q8 q9 (xF f r0 r1 r2 r3)) (xS f) .none .none doc pm an (.ref cda) ct cc) (body := xHead cn q0 q1 q2 q3 q4 q5 q6 q7 q8 q9 (xF f r0 r1 r2 r3)) (binds := [("self", .ref x), (f, v)])
    hroom (X _ _ ho) rfl hlim (codeRec_of X hcd) rfl (BindsTo.of_eq (by rw [← ea]; exact TX.bind _ _ _ _ _ _ _ _ _ _ _)) (fun y hy => ?_) (fun y hy => ?_) (fun h₁ hns k => ?_)
  · have hy : y ∈ [(("self" : Str), NameKind.local), (f, .local), ("__class__", .free), ("super", .globalImplicit)] := hy
    simp at hy
    rcases hy with rfl | rfl | rfl | rfl <;> simp
  · simp at hy
    rcases hy with rfl | rfl
    · exact xS_self
    · exact xS_f TX.ne1
  · have eS : ([(("self" : Str), Value.ref x), (f, v)] : List (Str × Value)).reverse.lookup ("self" : Str) = some (.ref x) := by
      show List.lookup ("self" : Str) [(f, v), ("self", .ref x)] = _
      rw [List.lookup_cons, nS']
      rfl
    have eF : ([(("self" : Str), Value.ref x), (f, v)] : List (Str × Value)).reverse.lookup f = some v := by
      show List.lookup f [(f, v), ("self", .ref x)] = _
      simp [List.lookup]
    have X₁ : K.In h₁ := X.keeps k
    have hx₁ := k _ _ hx
    have hxL : s.heap.objs.size ≠ x := Nat.ne_of_gt (Heap.lt_size hx)
    obtain ⟨oD, hD1, hD2⟩ : ∃ oD, h₁.get? C = some oD ∧ ∃ cd, oD.data = .cls cd := ⟨_, X₁ _ _ hC, _, rfl⟩
    obtain ⟨cdD, hD2⟩ := hD2
    obtain ⟨mb, B1, B2⟩ := B
    obtain ⟨pl, sev⟩ := sev (callEnv (ksFn "__init__" qual (xA f p1 p2) (xHead cn q0 q1 q2 q3 q4 q5 q6 q7 q8 q9 (xF f r0 r1 r2 r3)) (xS f) .none .none doc pm an (.ref cda) ct cc) s.heap.objs.size fI)
    refine ks_wpAt_execs_cons (ks_wpAt_Expr_any (ks_wpAt_MethodCall (pl := pl) ?_ sev))
    refine ks_wpAt_super_base (env := ksEnv qual (xS f) s.heap.objs.size fI (.ref cda) cc) (xS_s TX.ne2) (xS_c TX.ne3) (by decide) rfl (X₁ _ _ ho) rfl rfl rfl (X₁ _ _ hcode) rfl hvs hfile T.htop ?_
    refine ks_loadName_global rfl (xS_s TX.ne2) (loadGlobal_builtin (env := ksEnv qual (xS f) s.heap.objs.size fI (.ref cda) cc) (G.keeps k) T.sup (B1.keeps k) ((B2 _ (by decide +kernel)).trans (by decide +kernel : bootBuiltins "super" = some (.type "super"))) ⟨rfl, ?_⟩)
    refine wpAny_loadName_free rfl (xS_c TX.ne3) rfl ⟨_, X₁ _ _ hcell, rfl⟩ ?_
    refine wpAny_loadName_local rfl xS_self hns eS ?_
    refine ks_wpAny_isType_cls hD1 hD2 ⟨rfl, ?_⟩
    refine ks_wpAny_call_super hD1 hD2 hx₁ rfl (fun c e => by cases e) (looks_mroIn X₁ T.sub) (fun h₂ e₂ k₂ => ?_)
    have X₂ : K.In h₂ := X₁.keeps k₂
    have hx₂ := k₂ _ _ hx₁
    have hm := T.supI
    unfold ks_superIn at hm
    rw [hcl] at hm
    have ne : x ≠ C := fun z => by
      have q := X _ _ hC
      rw [← z, hx] at q
      cases q
    have IX : InstAt h₂ x (excO C t0) C none := ⟨hx₂, rfl, rfl, trivial⟩
    refine kxs_getMethod kxs_ValueError e₂ (looks_opaque X₂ T.opq) (l₀ := .ref C :: bm) (fun A Q E s k q => wpAny_bind ((looks_clsIn X₂ hcl) A _ E s k (wpAny_pure q))) rfl X₂ hm (IX.type.andThen (looks_subIn X₂ T.veC)) ne (by decide) ?_
    have e₃ : (h₂.push (kxs_mw "ValueError.__init__" x)).get? h₂.objs.size = some (kxs_mw "ValueError.__init__" x) := Heap.get?_push_at rfl rfl
    have hx₃ : (h₂.push (kxs_mw "ValueError.__init__" x)).get? x = some (excO C t0) := Heap.get?_push_of_some _ hx₂
    refine kxs_callWith (i := "ValueError.__init__") (x := x) rfl (evalArgs_plain (spliced_cons (Constant_str (k := 0) (pos := q3) (spliced_nil ⟨e₃, ?_⟩))))
    refine wpAny_call (codeAny_of_tree ?_)
    show wpAny _ _ (callAny (.ref h₂.objs.size) ⟨[.str cn _], []⟩) _ _ _
    simp only [callAny]
    refine wpAny_bind (wpAny_load e₃ ?_)
    simp only [kxs_mw, show (Value.type "method-wrapper" == Value.type "method" || Value.type "method-wrapper" == Value.type "builtin_function_or_method" || Value.type "method-wrapper" == Value.type "method-wrapper") = true by decide, if_true]
    refine KFB.if_so (by decide) ?_
    have hC₃ : (h₂.push (kxs_mw "ValueError.__init__" x)).get? C = some _ := Heap.get?_push_of_some _ (X₂ _ _ hC)
    refine wpAny_bind (check_bound_init F.excBase_ValueError.toExcCallFacts hC₃ hx₃ rfl ?_)
    refine wpAny_bind (wpAny_pure (wpAny_pure ?_))
    refine ⟨plainId_quiet F.excBase_ValueError.init.plain _, codeAny_builtin F.excBase_ValueError.initEntry ?_⟩
    refine exc_init_tree (cls := .ref C) (t0 := t0) (dv := none) (c2 := .none) (c3 := .none) (b4 := .bool false) hx₃ (by show 1 ≤ sizeLine; decide) (fun h₄ k₄ hx₄ _ => ?_)
    have K₄ : ∀ b o, b ≠ x → h₁.get? b = some o → h₄.get? b = some o := fun b o hb e => k₄ b o hb (Heap.get?_push_of_some _ (k₂ _ _ e))
    have X₄ : K.In h₄ := fun b o e => K₄ b o (fun z => by rw [z, hnx] at e; cases e) (X₁ b o e)
    have n₄ : h₄.Ns s.heap.objs.size (fun y => ([(("self" : Str), Value.ref x), (f, v)] : List (Str × Value)).reverse.lookup y) := by
      obtain ⟨o, es, ep, e, r⟩ := hns
      exact ⟨o, es, ep, K₄ _ _ hxL e, r⟩
    have l4 : s.heap.objs.size < h₄.objs.size := by
      obtain ⟨o, es, ep, e, r⟩ := n₄
      exact Heap.lt_size e
    refine wpAt_of_wpAny ?_
    refine wpAny_execs_cons (plainObj_wpAny_Assign_Attribute (Constant_str ?_))
    refine wpAny_Name (wpAny_loadName_local rfl xS_self n₄ eS ?_) (by decide)
    refine set_plain X₄ (ox := excO C _) (od := none) ⟨hx₄, rfl, rfl, trivial⟩ T.sa ?_
    refine exc_osa X₄ hx₄ hcl (show refsVE (.ref C :: bm) = true from hbm) rfl T.noT (fun h₅ tk₅ dx k₅ dn dne hx₅ hn₅ => ?_)
    have X₅ : K.In h₅ := fun b o e => k₅ b o (fun z => by rw [z, hnx] at e; cases e) (X₄ b o e)
    have n₅ : h₅.Ns s.heap.objs.size (fun y => ([(("self" : Str), Value.ref x), (f, v)] : List (Str × Value)).reverse.lookup y) := by
      obtain ⟨o, es, ep, e, r⟩ := n₄
      exact ⟨o, es, ep, k₅ _ _ hxL e, r⟩
    refine wpAny_execs_cons (plainObj_wpAny_Assign_Attribute ?_)
    refine wpAny_Name (wpAny_loadName_local rfl (xS_f TX.ne1) n₅ eF ?_) TX.ne5
    refine wpAny_Name (wpAny_loadName_local rfl xS_self n₅ eS ?_) (by decide)
    obtain ⟨oD5, es5, ep5, hoD5, hdD5, hcD5⟩ := hn₅.count (Within.cons "tag" _ Within.nil)
    refine set_plain X₅ (ox := { cls := .ref C, dict := some dx, data := .fields #[.ref _, .none, .none, .none, .bool false, .none] }) (od := some oD5) ⟨hx₅, rfl, rfl, hoD5⟩ T.sa ?_
    refine PySem.OEX.osa_old X₅ hx₅ hn₅ (Within.cons "tag" _ Within.nil) (by simp) hcl (show refsVE (.ref C :: bm) = true from hbm) rfl T.noF (fun h₆ tk₆ k₆ hn₆ => ?_)
    refine wpAny_execs_nil ?_
    have l1 : ∀ b o, s.heap.get? b = some o → b ≠ dx := fun b o e => Nat.ne_of_lt (Nat.lt_of_lt_of_le (Nat.lt_trans (Heap.lt_size e) l4) dn)
    refine hq h₆ tk₆ dx _ ⟨fun b o hb e => k₆ b o (l1 b o e) (k₅ b o hb (K₄ b o hb (k b o e))), k₆ _ _ (Ne.symm dne) hx₅, Nat.le_of_lt (Nat.lt_of_lt_of_le l4 dn), dne, _, hn₆⟩
/-- a made exception -/
structure XMade (h h' : Heap) (e C d : Addr) (cn f : Str) (v : Value) : Prop where
  keep : ∀ b o, h.get? b = some o → h'.get? b = some o
  new : h.objs.size ≤ e
  obj : ∃ oe vs, h'.get? e = some oe ∧ oe.cls = .ref C ∧ oe.dict = some d ∧ oe.data = .fields vs ∧ vs[1]? = some .none
  dbig : h.objs.size ≤ d
  dne : d ≠ e
  ns : ∃ tk : Tok, h'.Ns1 d (fun y => if y = f then some v else if y = "tag" then some (.str cn tk) else none)
theorem x_made (T : XC prog K mg cn f C) {v : Value} (X : K.In s.heap) (G : s.heap.Ns mainGlobals mg) (B : ∃ mb, s.heap.Ns builtinsNs mb ∧ ∀ x : Str, x ≠ "__name__" → mb x = bootBuiltins x) (hlim : s.heap.NoLimit) (hroom : A.depth + 1 < recursionLimit) (hcn : cn.length ≤ sizeLine)
    (hq : ∀ h' tk e d, XMade s.heap h' e C d cn f v → R (.ok (.ret (.ref e))) { s with heap := h', toks := tk }) :
    codeAny (model prog w) A (.call (.ref C) ⟨[v], []⟩) R s := by
  obtain ⟨_, fI, _, _, _, _, _, _, _, _, _, _, _, _, _, _, _, _, _, _, _, iC, tI, _⟩ := T.fn
  obtain ⟨nm, q, N, bs, bm, sn, sub, ab, col, dd, k0, k1, k2, k3, k5, hC, hbm⟩ := T.cls
  obtain ⟨hp, g, dr, tk, os⟩ := s
  have k : ∀ b o, hp.get? b = some o → ((hp.push (kdv_tup [v])).push (excO C hp.objs.size)).get? b = some o := fun b o e => Heap.get?_push_of_some _ (Heap.get?_push_of_some _ e)
  have hget : ((hp.push (kdv_tup [v])).push (excO C hp.objs.size)).get? (hp.objs.size + 1) = some (excO C hp.objs.size) := by heap_get
  have hnx : K.lookup (hp.objs.size + 1) = none := by
    cases e : K.lookup (hp.objs.size + 1) with
    | none => rfl
    | some o =>
      have z : hp.get? (hp.objs.size + 1) = some o := X _ _ e
      exact absurd (Nat.lt_of_succ_lt (Heap.lt_size z)) (Nat.lt_irrefl _)
  obtain ⟨mb, B1, B2⟩ := B
  refine call_own F.excBase_ValueError (fun X => refsVE_contains X bm hbm) (X _ _ hC) (looks_findIn X iC) (fun self => bind_fn X self tI) (by show 1 ≤ sizeLine; decide) ?_
  refine x_init (s := ⟨(hp.push (kdv_tup [v])).push (excO C hp.objs.size), g, dr, tk, os⟩) T iC (X.keeps k) (G.keeps k) ⟨mb, B1.keeps k, B2⟩ (hlim.keeps k) hget hnx ?_ hcn fun h' tk' dx t1 ⟨k', hx, dn, dne, hns⟩ => ?_
  · show A.depth + 1 < recursionLimit
    exact hroom
  · have old : ∀ b o, hp.get? b = some o → h'.get? b = some o := fun b o e => k' b o (Nat.ne_of_lt (Nat.lt_succ_of_lt (Heap.lt_size e))) (k b o e)
    have z : hp.objs.size + 1 + 1 ≤ dx := by
      have q := dn
      rw [Heap.size_push, Heap.size_push] at q
      exact q
    exact ⟨rfl, hq h' tk' (hp.objs.size + 1) dx ⟨old, Nat.le_succ _, ⟨_, _, hx, rfl, rfl, rfl, rfl⟩, Nat.le_trans (Nat.le_trans (Nat.le_succ _) (Nat.le_succ _)) z, dne, hns⟩⟩
end
end ExcX
end PySem
namespace L2
open PySem PySem.Spec PyProof.Rows
theorem relO_x {cn f : Str} {v : V} {v' : Value} {tk : Tok} (r : RelV v v') (g : Str) : RelO (List.lookup g [(f, v), (("tag" : Str), V.str cn)]) (if g = f then some v' else if g = "tag" then some (.str cn tk) else none) := by
  rw [lookup_put]
  by_cases h : g = f
  · rw [if_pos h, if_pos h]
    exact r
  · rw [if_neg h, if_neg h, lookup_put]
    by_cases h2 : g = "tag"
    · rw [if_pos h2, if_pos h2]
      exact ⟨tk, rfl⟩
    · rw [if_neg h2, if_neg h2]
      trivial
section
variable {X : Cx} {C : Addr} {cn f : Str}
/-- C(e): its own dict d is new -/
def tMkX (C : Addr) (cn f : Str) (ta : TA) : St → Hp → XK → Prop := fun σ H Q => ta σ H fun vs H1 => ∃ v, vs = [v] ∧ ∀ d, H1 d = none → Q (.ref C) (some d) (upd H1 d (.xd [(f, v), (("tag" : Str), V.str cn)]))
theorem pmk_x {a : Expr} {ta : TA} {p pos : Pos} {k : Nat} (T : PySem.ExcX.XC X.prog X.K X.mg cn f C) (hcn : cn.length ≤ sizeLine) (hr : Room (k + 1) X.A) (ha : PA X [a] ta) (hg : Gl X cn) (hdb : (cn == ("__debug__" : Str)) = false)
    (he : starEach (a :: []) X.env = (false, eval a X.env) :: starEach [] X.env := by rfl) (hpl : (backTo pos (starEach [] X.env)).any (·.1) = false := by rfl) :
    PMk X (.Call (.Name cn p) [a] [] pos) (tMkX C cn f ta) := by
  intro pins s σ H Q I h
  refine wpAny_Call_Name_kw (ld_glob I hg T.gC ?_ hdb)
  refine PySem.W.callWith_K (h₀ := X.base) I.ok.mod.kin T.kC (thn (ha.run pos pins s σ H _ I h) fun us s1 hh => ?_) he hpl
  obtain ⟨vs, H1, I1, r1, v, ev, q1⟩ := hh
  subst ev
  refine ⟨I1.kIn, ?_⟩
  cases r1 with
  | cons rv rn =>
    rename_i v' us'
    cases rn
    show wpAny _ _ (call (.ref C) [v']) _ _ _
    have hlim := I1.nolimit
    have hG := I1.mod.glob.keeps I1.bk
    obtain ⟨mb, B1, B2⟩ := I1.mod.blt
    have hB := B1.keeps I1.bk
    obtain ⟨hp, g, dr, tk, os⟩ := s1
    refine wpAny_call (PySem.ExcX.x_made T I1.kIn hG ⟨mb, hB, B2⟩ hlim (by have := hr.dp; omega) hcn fun h' tk' e d M => ?_)
    show MkP X pins σ Q (.ref e) ⟨h', g, dr, tk', os⟩
    obtain ⟨oe, fv, hoe, hc, hd, hdat, h1⟩ := M.obj
    obtain ⟨tkn, hns⟩ := M.ns
    obtain ⟨G', g1, g2⟩ := restrict h' fun b => decide (b ≠ e)
    have gk : ∀ b, b ≠ e → G'.get? b = h'.get? b := fun b hb => g1 b (decide_eq_true hb)
    have ge : G'.get? e = none := g2 e (by simp)
    have old : ∀ b o, hp.get? b = some o → G'.get? b = some o := fun b o q => (gk b (Nat.ne_of_lt (Nat.lt_of_lt_of_le (Heap.lt_size q) M.new))).trans (M.keep b o q)
    have ob : ObjOk X.prog X.w (upd H1 d (.xd [(f, v), (("tag" : Str), V.str cn)])) G' d (.xd [(f, v), (("tag" : Str), V.str cn)]) :=
      ⟨_, hns.at (fun o q => (gk d M.dne).trans q), fun f => relO_x rv f⟩
    have J : Inv X pins σ (upd H1 d (.xd [(f, v), (("tag" : Str), V.str cn)])) ⟨G', g, dr, tk', os⟩ := I1.laid (t' := tk') old M.dbig ob
    refine ⟨e, oe, fv, ⟨G', g, dr, tk', os⟩, _, .ref C, some d, rfl, J, fun b o q => ?_, ge, hoe, ⟨hc, hd⟩, hdat, h1, ?_, rfl, I1.bare, raises_own T.exC T.tyC, q1 d (I1.hok.fresh M.dbig)⟩
    · by_cases hb : b = e
      · have q' : G'.get? b = some o := q
        rw [hb, ge] at q'
        cases q'
      · exact (gk b hb).symm.trans q
    · rw [upd_ne (Ne.symm M.dne)]
      exact I1.hok.fresh M.new
end
end L2
namespace PL
open PySem L2
variable [Tabl]
section
variable {X : Cx} {W : WX} {C : Addr} {cn f : PySem.Str} {a : Expr} {t : TP} {p pos pos2 : Pos} {k j : Nat}
/-- raise cn(e) -/
def tsRaise (C : Addr) (cn f : PySem.Str) (t : TP) : TSp := fun P Γ => t Γ (fun d => P.xx ⟨.ref C, [(f, d), (("tag" : PySem.Str), .str cn.cps.toList)]⟩ Γ) (fun x => P.xx x Γ)
theorem s_raise (hc : X.calm = true) (T : PySem.ExcX.XC X.prog X.K X.mg cn f C) (hcn : cn.length ≤ sizeLine) (hr : Room (k + 1) X.A) (tk : Takes X W) (ha : PP X W a t) (hg : Gl X cn := by rfl) (hdb : (cn == ("__debug__" : PySem.Str)) = false := by decide)
    (he : starEach (a :: []) X.env = (false, eval a X.env) :: starEach [] X.env := by rfl) (hpl : (backTo pos (starEach [] X.env)).any (·.1) = false := by rfl) :
    PS1 X W (.Raise (some (.Call (.Name cn p) [a] [] pos)) none pos2) (tsRaise C cn f t) := by
  obtain ⟨ea, pa, ra⟩ := ha.ex
  refine ⟨_, ps_raise hc tk (pmk_x T hcn hr (pa_cons pa pa_nil he) hg hdb he hpl), ?_⟩
  intro G0 H0 Γ σ G H P E F ht ok
  refine ra G0 H0 Γ σ G H _ _ _ F ht (fun d v G1 H1 k1 x1 n1 => ?_) (ok.x F)
  refine ⟨v, rfl, fun q hq => ?_⟩
  have hg := x1.sub.none hq
  have x2 : Ext G1 H1 G1 (upd H1 q (.xd [(f, v), (("tag" : PySem.Str), V.str cn)])) := Ext.beside x1.sub hq
  exact ok.xx _ _ _ _ _ _ _ k1 ((F.up x1).up x2) ⟨rfl, .inr ⟨q, _, rfl, upd_same, .cons n1 (.cons (str_den (X := X) cn) .nil)⟩⟩
end
end PL
set_option Elab.async false
set_option linter.all false
set_option maxRecDepth 100000
set_option maxHeartbeats 4000000
namespace PySem.W
open PySem PySem.Calls PyProof.Rows
section
variable {M : Model} {K : Frag} {h : Heap}
theorem looks_yield {β : Type} {body : Value → β → Sem (ForInStep β)} {init : β} : ∀ {l : List Value}, (∀ c ∈ l, Looks M h (body c init) (.yield init)) → Looks M h (forIn l init body) init
  | [], _ => fun A Q E s k q => by
    rw [List.forIn_nil]
    exact wpAny_pure q
  | c :: l, hb => fun A Q E s k q => by
    rw [List.forIn_cons]
    exact wpAny_bind (hb c List.mem_cons_self A _ E s k (looks_yield (fun d hd => hb d (List.mem_cons_of_mem _ hd)) A _ E s k q))
theorem looks_any {β : Type} {body : Value → β → Sem (ForInStep β)} {init x1 : β} {f : Value → Bool} : ∀ {l : List Value}, (∀ c ∈ l, Looks M h (body c init) (if f c = true then .done x1 else .yield init)) → Looks M h (forIn l init body) (if l.any f = true then x1 else init)
  | [], _ => fun A Q E s k q => by
    rw [List.forIn_nil]
    exact wpAny_pure q
  | c :: l, hb => fun A Q E s k q => by
    rw [List.forIn_cons]
    refine wpAny_bind (hb c List.mem_cons_self A _ E s k ?_)
    rw [List.any_cons] at q
    cases hc : f c with
    | true =>
      rw [hc] at q
      exact wpAny_pure q
    | false =>
      rw [hc] at q
      exact looks_any (fun d hd => hb d (List.mem_cons_of_mem _ hd)) A _ E s k q
theorem exmAny_all : ∀ {cls : Value} {cs : List Value} {b : Bool}, exmAny K cls cs = some b → (∀ c ∈ cs, exmOne K cls c = some ((exmOne K cls c).getD false)) ∧ b = cs.any fun c => (exmOne K cls c).getD false
  | cls, [], b, h => ⟨fun c hc => absurd hc (by simp), by cases h; rfl⟩
  | cls, c :: r, b, h => by
    obtain ⟨b1, d1, h1, h2, rfl⟩ := exmAny_cons h
    obtain ⟨h3, rfl⟩ := exmAny_all h2
    refine ⟨fun d hd => ?_, ?_⟩
    · rcases List.mem_cons.mp hd with rfl | hd
      · rw [h1]
        rfl
      · exact h3 d hd
    · rw [List.any_cons, h1]
      rfl
theorem exm_tupN {cs : List Value} {cls : Value} {tp e : Addr} {b : Bool} (X : K.In h) (LT : Looks M h (typeOf (.ref e)) cls) (hp : h.get? tp = some { cls := .type "tuple", data := .seq cs.toArray }) (hx : exmAny K cls cs = some b) :
    Looks M h (excMatches (.ref e) (.ref tp)) b := by
  intro A Q E s k₀ q
  obtain ⟨hh, g, d, tk, os⟩ := s
  have k : ∀ b o, h.get? b = some o → hh.get? b = some o := k₀
  have LT0 : Looks M h (isInstance (.ref tp) (.type "tuple")) true := ((Looks.ld hp).andThen .now).andThen (Looks.of_pure isSubtype_tuple_tuple)
  obtain ⟨hx2, e2⟩ := exmAny_all hx
  subst e2
  have LT := LT.keeps k
  have LT0 := LT0.keeps k
  have hp' := k _ _ hp
  unfold excMatches
  refine wpAny_bind (LT0.at ?_)
  dsimp only
  rw [if_pos rfl]
  first
    | refine wpAny_bind (wpAny_seqItems hp' rfl ?_)
    | refine wpAny_bind (wpAny_bind (wpAny_seqItems hp' rfl (wpAny_pure ?_)))
  dsimp only [Option.getD_some, Option.getD]
  refine wpAny_bind (wpAny_pure ?_)
  refine wpAny_bind ((looks_yield (M := M) (h := hh) (fun c hc => ?_)).at ?_)
  · obtain ⟨e1, _⟩ := exm_cls (M := M) X (hx2 c hc)
    exact (e1.keeps k).andThen (by
      simp only [Bool.not_true, Bool.false_eq_true, if_false]
      exact .now)
  · refine wpAny_bind (LT.at ?_)
    refine wpAny_bind ((looks_any (M := M) (h := hh) (f := fun c => (exmOne K cls c).getD false) (x1 := (some true, ())) (fun c hc => ?_)).at ?_)
    · obtain ⟨_, S1⟩ := exm_cls (M := M) X (hx2 c hc)
      refine (S1.keeps k).andThen ?_
      cases hb : (exmOne K cls c).getD false with
      | true => exact .now
      | false => exact .now
    · cases hb : cs.any (fun c => (exmOne K cls c).getD false) with
      | true =>
        rw [hb] at q
        exact wpAny_pure q
      | false =>
        rw [hb] at q
        exact wpAny_pure q
end
end PySem.W
namespace L2
open PySem PySem.Spec PyProof.Rows
/-- flying on in a heap that keeps all -/
theorem fly_keeps {B : Heap} {l : List Env} {a : Addr} {Z : Obj → Prop} {h h' : Heap} (k : ∀ b o, h.get? b = some o → h'.get? b = some o) (fl : HandSPX.FlyingZ B l a Z h) : HandSPX.FlyingZ B l a Z h' := by
  obtain ⟨h1, h2, h3, oe, vs, T, oT, ts, a1, a2, a3, a4, a5, a6, a7, a8, a9⟩ := fl
  exact ⟨fun b o e => k b o (h1 b o e), h2, h3.of_keeps fun b o e _ => ⟨o, k b o e, rfl⟩, oe, vs, T, oT, ts, k _ _ a1, a2, a3, a4, a5, a6, k _ _ a7, a8, a9⟩
/-- the names of classes in a tuple of them -/
inductive NamesOk (X : Cx) : List Expr → List Value → Prop
  | nil : NamesOk X [] []
  | cons {x : Str} {np : Pos} {c : Value} {es : List Expr} {cs : List Value} : Names X x c → NamesOk X es cs → NamesOk X (.Name x np :: es) (c :: cs)
theorem names_spliced {X : Cx} {a : Addr} {pn : List (Addr × Obj)} {pins : List (Addr × Obj)} {σ : St} {H : Hp} {s : Shared} {pos : Pos} {E : Value → Shared → Prop} (S : Inv (X.suite a pn) pins σ H s) : ∀ {es : List Expr} {cs : List Value}, NamesOk X es cs → ∀ {Q : List Value → Shared → Prop}, Q cs s →
    wpAny (model X.prog X.w) (X.suite a pn).A (spliced (backTo pos (starEach es X.env))) Q E s
  | _, _, .nil, Q, q => Calls.spliced_nil q
  | _, _, .cons (x := x) (np := np) (c := c) (es := es) (cs := cs) hc r, Q, q => by
    show wpAny _ _ (spliced ((false, eval (.Name x np) X.env) :: backTo pos (starEach es X.env))) _ _ _
    refine Calls.spliced_cons ?_
    have z := names_spliced (pos := pos) (E := E) S r (Q := fun vs s₂ => Q (c :: vs) s₂) q
    obtain ⟨hg, hdbg, hm | ⟨hm, hv, hnn⟩⟩ := hc
    · exact ld_glob (X := X.suite a pn) S hg hm z hdbg
    · exact ld_blt (X := X.suite a pn) S hg hm hv z hnn hdbg
theorem NamesOk.len {X : Cx} : ∀ {es : List Expr} {cs : List Value}, NamesOk X es cs → es.length = cs.length
  | _, _, .nil => rfl
  | _, _, .cons _ r => by rw [List.length_cons, List.length_cons, r.len]
/-- what is matched: one class, a tuple of classes -/
inductive TestOk (X : Cx) : Expr → (Value → Option Bool) → Prop
  | one {x : Str} {np : Pos} {c : Value} : Names X x c → TestOk X (.Name x np) fun cls => PySem.W.exmOne X.K cls c
  | tup {es : List Expr} {k : Nat} {tp : Pos} {cs : List Value} : NamesOk X es cs → cs.length ≤ 100 → TestOk X (.Tuple es k tp) fun cls => PySem.W.exmAny X.K cls cs
theorem test_ok {X : Cx} {te : Expr} {m : Value → Option Bool} (T : TestOk X te m) {a : Addr} {oe : Obj} {pn : List (Addr × Obj)} {pins : List (Addr × Obj)} {σ : St} {H : Hp} {s : Shared} {cls : Value} {b : Bool} (S : Inv (X.suite a pn) pins σ H s) (he : s.heap.get? a = some oe) (hc : oe.cls = cls)
    (hb : m cls = some b) {Q : Bool → Shared → Prop} {E1 E2 : Value → Shared → Prop} (h : ∀ h', (∀ b o, s.heap.get? b = some o → h'.get? b = some o) → Q b { s with heap := h' }) :
    wpAny (model X.prog X.w) (X.suite a pn).A (eval te X.env) (fun c s₁ => wpAny (model X.prog X.w) (X.suite a pn).A (excMatches (.ref a) c) Q E1 s₁) E2 s := by
  have LT : ∀ {h' : Heap}, (∀ b o, s.heap.get? b = some o → h'.get? b = some o) → PySem.W.Looks (model X.prog X.w) h' (typeOf (.ref a)) cls := fun k A Q E s k' q => wpAny_typeOf_ref (k' _ _ (k _ _ he)) (by rw [hc]; exact q)
  cases T with
  | one hn =>
    have LM := PySem.W.exm_one (M := model X.prog X.w) S.kIn (LT fun _ _ e => e) hb
    have z : wpAny (model X.prog X.w) (X.suite a pn).A (excMatches (.ref a) _) Q E1 s := LM.here (h s.heap fun _ _ e => e)
    obtain ⟨hg, hdbg, hm | ⟨hm, hv, hnn⟩⟩ := hn
    · exact ld_glob (X := X.suite a pn) S hg hm z hdbg
    · exact ld_blt (X := X.suite a pn) S hg hm hv z hnn hdbg
  | @tup es k tp cs hn hl =>
    refine wpAny_Tuple (names_spliced S hn ⟨?_, ?_⟩)
    · rw [PySem.sizeLine_eq]
      omega
    · have kk : ∀ b o, s.heap.get? b = some o → (s.heap.push { cls := .type "tuple", data := .seq cs.toArray }).get? b = some o := fun b o e => Heap.get?_push_of_some _ e
      have LM := PySem.W.exm_tupN (M := model X.prog X.w) (S.kIn.keeps kk) (LT kk) (Heap.get?_push_size _ rfl) hb
      exact LM.here (h _ kk)
/-- an exception of the class cls (its dict d) stands caught in the heap h; J tells of the state sI as it was without it -/
structure Caught (X : Cx) (B : Heap) (pins : List (Addr × Obj)) (σ : St) (H : Hp) (sI s : Shared) (a : Addr) (cls : Value) (d : Option Addr) (h : Heap) : Prop where
  inv : Inv X pins σ H sI
  ground : ∀ b o, sI.heap.get? b = some o → b ∉ frs X.stack → B.get? b = some o
  stack : X.stack = X.env :: X.outer
  frame : X.env.frame = some X.env.locals
  fly : HandSPX.FlyingZ B (X.env :: X.outer) a (Zc cls d) h
  up : sI.heap.UpToSlots h
  free : H a = none
  os : s.os = sI.os
  bare : AllBare s.gens
section
variable {X : Cx} {B : Heap} {pins : List (Addr × Obj)} {σ : St} {H : Hp} {sI s : Shared} {a : Addr} {cls : Value} {d : Option Addr} {h h' : Heap}
theorem Caught.grow (c : Caught X B pins σ H sI s a cls d h) (k : ∀ b o, h.get? b = some o → h'.get? b = some o) : Caught X B pins σ H sI s a cls d h' :=
  { c with fly := fly_keeps k c.fly, up := c.up.trans (.of_keeps k) }
theorem Caught.now (c : Caught X B pins σ H sI s a cls d h) : Inv X pins σ H { s with heap := h } := c.inv.landed c.ground c.fly.1 c.up c.os c.bare
/-- its own object is no frame -/
theorem Caught.apart (c : Caught X B pins σ H sI s a cls d h) : a ∉ frs (X.env :: X.outer) := fun m => by
  obtain ⟨o, vs, e, _, dt⟩ := c.fly.there
  obtain ⟨_, o', e', no⟩ := c.fly.2.2.1.mem m
  cases e.symm.trans e'
  exact no vs dt
theorem Caught.inSuite (c : Caught X B pins σ H sI s a cls d h) : ∃ oe, h.get? a = some oe ∧ Zc cls d oe ∧ (∃ vs, oe.data = .fields vs) ∧ Inv (X.suite a ((a, oe) :: (X.pn ++ pins))) [] σ H { s with heap := h } := by
  obtain ⟨oe, vs, e, z, dt⟩ := c.fly.there
  have n1 : a ≠ X.env.locals := fun y => c.apart (List.mem_filterMap.mpr ⟨X.env, List.mem_cons_self, by rw [c.frame, y]⟩)
  have n2 : a ∉ X.fs := fun m => by
    obtain ⟨v, hv, q⟩ := List.mem_filterMap.mp m
    exact c.apart (List.mem_filterMap.mpr ⟨v, List.mem_cons_of_mem _ hv, q⟩)
  exact ⟨oe, e, z, ⟨vs, dt⟩, c.now.suite e dt c.free n1 n2⟩
/-- no clause is left: it goes on -/
theorem Caught.goes (c : Caught X B pins σ H sI s a cls d h) {W : WX} {Q : Flow → Shared → Prop} (tk : Takes X W) (w : W cls d σ H) : wpAny (model X.prog X.w) X.A (handleBy (.ref a) X.env []) Q X.xe { s with heap := h } := by
  refine wpAny_handleBy_nil ?_
  obtain ⟨_, _, _, oe, vs, T, _, _, e, _, dt, e1, _⟩ := id c.fly
  have off : wpAny (model X.prog X.w) X.A (setFlight (.ref a) X.env.frame) (fun _ s2 => wpAny (model X.prog X.w) X.A (throw (.ref a) : Sem Flow) Q X.xe s2) X.xe { s with heap := h } := by
    rw [c.frame]
    refine HandSPX.setFlight_upZ c.fly fun h2 held up2 => wpAny_throw (tk _ _ ⟨a, B, sI, pins, σ, H, cls, d, rfl, c.inv, c.ground, c.up.trans up2, .inr (.inr ?_), c.free, c.os, c.bare, w⟩)
    rw [c.stack]
    exact held
  unfold PySem.passOn
  refine wpAny_bind (wpAny_field e dt e1 ?_)
  rw [if_neg (by simp)]
  first
    | exact wpAny_bind (wpAny_pure (wpAny_bind off))
    | exact wpAny_bind off
end
/-- the name of a clause: none, or the name of slot i -/
inductive AsOk (X : Cx) : Option Str → Option Nat → Prop
  | no : AsOk X none none
  | as {n : Str} {i : Nat} (hN : X.N.Nodup) (hi : X.N[i]? = some n) (hl : X.env.kindOf n = some .local) : AsOk X (some n) (some i)
/-- the slot of the clause's name -/
def asSet : Option Nat → St → Option V → St
  | none, σ, _ => σ
  | some i, σ, v => σ.set i v
/-- the ends of a clause's suite: its name is gone behind it -/
def asEnds (j : Option Nat) (D : Ends) : Ends := { nx := fun σ H => D.nx (asSet j σ none) H, rt := D.rt, bk := fun σ H => D.bk (asSet j σ none) H, ct := fun σ H => D.ct (asSet j σ none) H }
/-- what the clauses wish of an exception of the body -/
def wManyA (Wout : WX) (D : Ends) : List ((Value → Option Bool) × Option Nat × (Addr → Value → Option Addr → TS)) → WX
  | [] => Wout
  | (m, j, ts) :: r => fun cls d σ H => ∃ b, m cls = some b ∧ (b = true → ∀ a, H a = none → ts a cls d (asEnds j D) (asSet j σ (some (.ref a))) H) ∧ (b = false → wManyA Wout D r cls d σ H)
inductive HdsA (X : Cx) : List ExceptHandler → List ((Value → Option Bool) × Option Nat × (Addr → Value → Option Addr → TS)) → Prop
  | nil : HdsA X [] []
  | cons {te : Expr} {m : Value → Option Bool} {nm : Option Str} {j : Option Nat} {ts : Addr → Value → Option Addr → TS} {b₀ : Stmt} {suite : List Stmt} {pos' : Pos} {hds : List ExceptHandler} {l : List ((Value → Option Bool) × Option Nat × (Addr → Value → Option Addr → TS))} (hc : TestOk X te m) (hn : AsOk X nm j)
      (hsu : ∀ (a : Addr) (oe : Obj) (cls : Value) (d : Option Addr) (pn : List (Addr × Obj)), Zc cls d oe → (∃ vs, oe.data = .fields vs) → PSs (X.suite a ((a, oe) :: pn)) (b₀ :: suite) (ts a cls d)) (r : HdsA X hds l) :
      HdsA X (.ExceptHandler (some te) nm (b₀ :: suite) pos' :: hds) ((m, j, ts) :: l)
section
variable {X : Cx} {B : Heap} {pins : List (Addr × Obj)} {σ : St} {H : Hp} {sI s : Shared} {a : Addr} {cls : Value} {d : Option Addr} {h : Heap} {D : Ends} {Wout : WX}
/-- the suite of the clause that took it -/
theorem Caught.taken (c : Caught X B pins σ H sI s a cls d h) {nm : Option Str} {j : Option Nat} {ts : Addr → Value → Option Addr → TS} {b₀ : Stmt} {suite : List Stmt} {pos' : Pos} (hn : AsOk X nm j)
    (hsu : ∀ (a : Addr) (oe : Obj) (cls : Value) (d : Option Addr) (pn : List (Addr × Obj)), Zc cls d oe → (∃ vs, oe.data = .fields vs) → PSs (X.suite a ((a, oe) :: pn)) (b₀ :: suite) (ts a cls d))
    (w : ts a cls d (asEnds j D) (asSet j σ (some (.ref a))) H) :
    codeAny (model X.prog X.w) (X.A.mark (some (.ref a))) (.handlers (.ref a) [.ExceptHandler none nm (b₀ :: suite) pos'] X.env)
      (fun r s2 => match (generalizing := false) r with
        | .ok f => (match (generalizing := false) nm with
          | none => SP X pins D f s2
          | some n => wpAny (model X.prog X.w) X.A (do bindName X.env n .none; unbindBehindTheSuite X.env n pos') (fun _ s3 => SP X pins D f s3) X.xe s2)
        | .error x => cameBackBy (model X.prog X.w) X.A X.env X.xe x s2) { s with heap := h } := by
  have ok := c.inv.ok
  cases hn with
  | no =>
    refine codeAny_handlers_suite (HandSPX.lands_againZ c.fly fun h2 fly2 up2 => ?_)
    obtain ⟨oe, _, z, dt, J⟩ := ({ c with fly := fly2, up := c.up.trans up2 } : Caught X B pins σ H sI s a cls d h2).inSuite
    refine wpAny_mono ((hsu a oe cls d _ z dt).run [] _ σ H _ J w) (fun f s2 q => ?_) fun _ _ q => q.elim
    cases f with
    | ret u =>
      obtain ⟨v, σ2, H2, J2, rv, q⟩ := q
      exact ⟨v, σ2, H2, J2.unsuite ok, rv, q⟩
    | next => exact let ⟨σ2, H2, J2, q⟩ := q; ⟨σ2, H2, J2.unsuite ok, q⟩
    | brk => exact let ⟨σ2, H2, J2, q⟩ := q; ⟨σ2, H2, J2.unsuite ok, q⟩
    | cont => exact let ⟨σ2, H2, J2, q⟩ := q; ⟨σ2, H2, J2.unsuite ok, q⟩
  | @as n i hN hi hl =>
    refine codeAny_handlers_suite_as (HandSPX.lands_againZ c.fly fun h2 fly2 up2 => ?_)
    obtain ⟨oe, _, z, dt, J⟩ := ({ c with fly := fly2, up := c.up.trans up2 } : Caught X B pins σ H sI s a cls d h2).inSuite
    refine store_ok (X := X.suite a ((a, oe) :: (X.pn ++ pins))) (v := .ref a) J hN hi (.inl hl) rfl (fun s1 J1 => ?_) (.inr hl)
    refine wpAny_mono ((hsu a oe cls d _ z dt).run [] s1 _ H _ J1 w) (fun f s2 q => ?_) fun _ _ q => q.elim
    cases f with
    | ret u =>
      obtain ⟨v, σ2, H2, J2, rv, q⟩ := q
      exact gone_ok (J2.unsuite ok) hN hi hl fun s3 J3 => ⟨v, _, H2, J3, rv, q⟩
    | next =>
      obtain ⟨σ2, H2, J2, q⟩ := q
      exact gone_ok (J2.unsuite ok) hN hi hl fun s3 J3 => ⟨_, H2, J3, q⟩
    | brk =>
      obtain ⟨σ2, H2, J2, q⟩ := q
      exact gone_ok (J2.unsuite ok) hN hi hl fun s3 J3 => ⟨_, H2, J3, q⟩
    | cont =>
      obtain ⟨σ2, H2, J2, q⟩ := q
      exact gone_ok (J2.unsuite ok) hN hi hl fun s3 J3 => ⟨_, H2, J3, q⟩
/-- the clauses, one after the other -/
theorem Caught.clauses (tk : Takes X Wout) {hds : List ExceptHandler} {l : List ((Value → Option Bool) × Option Nat × (Addr → Value → Option Addr → TS))} (hk : HdsA X hds l) :
    ∀ {h : Heap}, Caught X B pins σ H sI s a cls d h → wManyA Wout D l cls d σ H → wpAny (model X.prog X.w) X.A (handleBy (.ref a) X.env hds) (SP X pins D) X.xe { s with heap := h } := by
  induction hk with
  | nil => exact fun c w => c.goes tk w
  | cons hc hn hsu r ih =>
    rintro h c ⟨b, hb, yes, no⟩
    obtain ⟨oe, e, z, _, J⟩ := c.inSuite
    refine wpAny_handleBy_cons (codeAny_handlers_test (test_ok hc J e z.1 hb fun h2 k => ?_)) fun q => nomatch q
    cases b with
    | true => exact (c.grow k).taken hn hsu (yes rfl a c.free)
    | false => exact ih (c.grow k) (no rfl)
end
section
variable {X : Cx} {body : List Stmt} {h₀ : ExceptHandler} {hds : List ExceptHandler} {l : List ((Value → Option Bool) × Option Nat × (Addr → Value → Option Addr → TS))} {pos : Pos} {tb : WX → TS} {Wout : WX}
/-- try: body, any clauses -/
theorem ps_tryA (hs : X.stack = X.env :: X.outer) (hf : X.env.frame = some X.env.locals) (tk : Takes X Wout)
    (hb : ∀ (W : WX) (pn : List (Addr × Obj)) (xe : Value → Shared → Prop), Takes (X.tr pn xe) W → PassesOwn (model X.prog X.w) X.A X.env xe → PSs (X.tr pn xe) body (tb W))
    (hh : HdsA X (h₀ :: hds) l) : PS X (.Try body (h₀ :: hds) [] [] pos) (fun D σ H => tb (wManyA Wout D l) D σ H) := by
  refine ⟨fun pins s σ H D I h => wpAny_Try_except ?_⟩
  have ok := I.ok
  have fr : X.A.frames = some (X.env :: X.outer) := ok.frames.trans (congrArg some hs)
  have run := hb (wManyA Wout D l) (X.pn ++ pins) (fun e s1 => wpAny (model X.prog X.w) X.A (noteFrame e X.env) (fun _ s2 => wpAny (model X.prog X.w) X.A (setFlight e none) (fun _ s3 => wpAny (model X.prog X.w) X.A (handleBy e X.env (h₀ :: hds)) (SP X pins D) X.xe s3) X.xe s2) X.xe s1)
    (fun u s1 z => by
      obtain ⟨a, B, sI, pins1, σ1, H1, cls, d, rfl, J, gr, up, sky, na, os, ag, w⟩ := z
      rw [show (X.tr (X.pn ++ pins) _).stack = X.env :: X.outer from hs] at sky
      exact Sky.land Zc.steady fr hf sky fun h2 fly up2 => Caught.clauses tk hh ⟨J.ofTry ok, gr, hs, hf, fly, up.trans up2, na, os, ag⟩ w) PassesOwn.looking
  refine wpAny_mono (run.run [] s σ H D (I.toTry _) h) (fun f s1 q => ?_) fun _ _ q => q
  cases f with
  | ret u =>
    obtain ⟨v, σ1, H1, J, rv, q⟩ := q
    exact ⟨v, σ1, H1, J.ofTry ok, rv, q⟩
  | next => exact let ⟨σ1, H1, J, q⟩ := q; wpAny_execs_nil ⟨σ1, H1, J.ofTry ok, q⟩
  | brk => exact let ⟨σ1, H1, J, q⟩ := q; ⟨σ1, H1, J.ofTry ok, q⟩
  | cont => exact let ⟨σ1, H1, J, q⟩ := q; ⟨σ1, H1, J.ofTry ok, q⟩
end
end L2
set_option Elab.async false
set_option linter.all false
set_option maxRecDepth 100000
set_option maxHeartbeats 4000000
namespace PL
open PySem L2
variable [Tabl]
def teOf (K : PySem.W.Frag) (W : WX) (t : TP) : TE := fun σ H Q => ∃ G0 H0 Γ G k kx, Fr K G0 H0 Γ σ G H ∧ t Γ k kx ∧ (∀ d v G' H', k d → Ext G H G' H' → Den K G' v d → Q v H') ∧ XOk K W G H σ kx
def tsOf (K : PySem.W.Frag) (W : WX) (t : TSp) : TS := fun E σ H => ∃ G0 H0 Γ G P, Fr K G0 H0 Γ σ G H ∧ t P Γ ∧ EOk K W G0 H0 P E
section
variable {X : Cx} {W : WX} {e : Expr} {b : List Stmt} {t : TP} {s : TSp}
theorem PP.w (h : PP X W e t) : PE X e (teOf X.K W t) := by
  obtain ⟨te, p, r⟩ := h.ex
  exact ⟨fun pins s σ H Q I ⟨G0, H0, Γ, G, k, kx, F, ht, hk, hx⟩ => p.run pins s σ H Q I (r G0 H0 Γ σ G H k kx Q F ht hk hx)⟩
theorem PSS.w (h : PSS X W b s) : PSs X b (tsOf X.K W s) := by
  obtain ⟨ts, p, r⟩ := h.ex
  exact ⟨fun pins s σ H D I ⟨G0, H0, Γ, G, P, F, ht, ok⟩ => p.run pins s σ H D I (r G0 H0 Γ σ G H P D F ht ok)⟩
end
theorem Fr.put {K : PySem.W.Frag} {G0 H0 G H : Hp} {Γ : Ga} {σ : L2.St} (F : Fr K G0 H0 Γ σ G H) {ov : Option V} {t : Sl} (i : Nat) (n : ¬ t.owns) (r : SlOk K H0 G H (some ov) t) : Fr K G0 H0 (gset Γ i t) (σ.set i ov) G H := by
  have old : ∀ {j : Nat} {s : Sl}, (Γ.set i t)[j]? = some s → s.owns → Γ[j]? = some s ∧ j ≠ i := fun {j s} h o => by
    have hj : i ≠ j := fun z => by
      subst z
      rw [List.getElem?_set_self (by rw [← List.length_set (i := i) (a := t)]; exact (List.getElem?_eq_some_iff.mp h).1)] at h
      cases h
      exact n o
    rw [List.getElem?_set_ne hj] at h
    exact ⟨h, Ne.symm hj⟩
  rw [gset_eq]
  refine ⟨by rw [List.length_set, List.length_set]; exact F.len, F.e, fun j s h => ?_, fun a b p s u h1 h2 h3 h4 h5 h6 => ?_⟩
  · by_cases hj : i = j
    · subst hj
      have hl : i < Γ.length := by
        rw [← List.length_set (i := i) (a := t)]
        exact (List.getElem?_eq_some_iff.mp h).1
      rw [List.getElem?_set_self hl] at h
      cases h
      rw [List.getElem?_set_self (by rw [F.len]; exact hl)]
      exact r
    · rw [List.getElem?_set_ne hj] at h ⊢
      exact F.at_ j s h
  · obtain ⟨q1, n1⟩ := old h1 h2
    obtain ⟨q3, n3⟩ := old h3 h4
    rw [List.getElem?_set_ne (Ne.symm n1)] at h5
    rw [List.getElem?_set_ne (Ne.symm n3)] at h6
    exact F.dj a b p s u q1 h2 q3 h4 h5 h6
def gaSet : Option Nat → Ga → Sl → Ga
  | none, Γ, _ => Γ
  | some i, Γ, s => gset Γ i s
abbrev CL := (Value → Option Bool) × Option Nat × (Addr → Value → Option Addr → TSp)
inductive HdsP (X : Cx) : List ExceptHandler → List CL → Prop
  | nil : HdsP X [] []
  | cons {te : Expr} {m : Value → Option Bool} {nm : Option PySem.Str} {j : Option Nat} {ts : Addr → Value → Option Addr → TSp} {b₀ : Stmt} {suite : List Stmt} {pos' : Pos} {hds : List ExceptHandler} {l : List CL} (hc : TestOk X te m) (hn : AsOk X nm j)
      (hsu : ∀ (a : Addr) (oe : Obj) (cls : Value) (d : Option Addr) (pn : List (Addr × Obj)), Zc cls d oe → (∃ vs, oe.data = .fields vs) → PSS (X.suite a ((a, oe) :: pn)) (fun _ _ _ _ => False) (b₀ :: suite) (ts a cls d)) (r : HdsP X hds l) :
      HdsP X (.ExceptHandler (some te) nm (b₀ :: suite) pos' :: hds) ((m, j, ts) :: l)
section
variable {X : Cx} {W : WX} {body : List Stmt} {h₀ : ExceptHandler} {hds : List ExceptHandler} {l : List CL} {tb : TSp} {pos : Pos}
def lowCl (K : PySem.W.Frag) (l : List CL) : List ((Value → Option Bool) × Option Nat × (Addr → Value → Option Addr → TS)) := l.map fun c => (c.1, c.2.1, fun a cls d => tsOf K (fun _ _ _ _ => False) (c.2.2 a cls d))
theorem HdsP.low (h : HdsP X hds l) : HdsA X hds (lowCl X.K l) := by
  induction h with
  | nil => exact .nil
  | cons hc hn hsu r ih => exact .cons hc hn (fun a oe cls d pn z dt => (hsu a oe cls d pn z dt).w) ih
theorem Fr.asPut {K : PySem.W.Frag} {G0 H0 G H : Hp} {Γ : Ga} {σ : L2.St} (F : Fr K G0 H0 Γ σ G H) {ov : Option V} {t : Sl} (j : Option Nat) (n : ¬ t.owns) (r : SlOk K H0 G H (some ov) t) : Fr K G0 H0 (gaSet j Γ t) (asSet j σ ov) G H := by
  cases j with
  | none => exact F
  | some i => exact F.put i n r
end
/-- the class cls lets its field f be read -/
def XFld (K : PySem.W.Frag) (cls : Value) (f : PySem.Str) : Prop := ∃ C, cls = .ref C ∧ PySem.W.findIn K (.ref C) "__getattribute__" = some (some (.builtin "BaseException.__getattribute__")) ∧ PySem.W.findIn K (.ref C) "__getattr__" = some none ∧
  PySem.W.subIn K (.ref C) (.type "BaseException") = some true ∧ PySem.W.hasDictIn K C = true ∧ PySem.W.findIn K (.ref C) f = some none
def onSome (o : Option D) (k : KD) : Prop := match o with
  | some d => k d
  | none => False
def tpXat (K : PySem.W.Frag) (a : Addr) (cls : Value) (d : Option Addr) (i : Nat) (f : PySem.Str) : TP := fun Γ k _ => match gat Γ i with
  | .xv a' _ d' fs => a' = a ∧ d' = d ∧ XFld K cls f ∧ onSome (fs.lookup f) k
  | _ => False
section
variable {X : Cx} {W : WX} {a : Addr} {oe : Obj} {cls : Value} {d : Option Addr} {pn : List (Addr × Obj)} {n f : PySem.Str} {p pos : Pos}
def teXat (K : PySem.W.Frag) (a : Addr) (cls : Value) (d : Option Addr) (i : Nat) (f : PySem.Str) : TE := fun σ H Q => σ[i]? = some (some (.ref a)) ∧ XFld K cls f ∧ ∃ dd fs v, d = some dd ∧ H dd = some (.xd fs) ∧ fs.lookup f = some v ∧ Q v H
theorem pe_xat (i : Nat) (hz : Zc cls d oe) (hf : ∃ vs, oe.data = .fields vs) (hN : X.N[i]? = some n) (hv : Vis X.env.scope n) (hd : (n == ("__debug__" : PySem.Str)) = false) (hcd : (n == ("__classdict__" : PySem.Str)) = false)
    (hb : attributeBase (.Name n p) f X.env (eval (.Name n p) X.env) = eval (.Name n p) X.env) : PE (X.suite a ((a, oe) :: pn)) (.Attribute (.Name n p) f pos) (teXat X.K a cls d i f) := by
  refine ⟨fun pins s σ H Q I h => ?_⟩
  obtain ⟨hs, ⟨C, rfl, ga, gg, ex, hdC, no⟩, dd, fs, v, rfl, ed, lk, q⟩ := h
  refine attr_of hb (thn ((pe_var (X := X.suite a ((a, oe) :: pn)) (pos := p) (i := i) hN hv hd hcd).run pins s σ H (fun v H1 => v = .ref a ∧ H1 = H) I ⟨.ref a, hs, rfl, rfl⟩) fun u s1 hh => ?_)
  obtain ⟨x, H1, I1, rx, rfl, rfl⟩ := hh
  obtain rfl : u = Value.ref a := rx
  obtain ⟨ha, _⟩ := I1.pin (a, oe) (List.mem_append_left _ List.mem_cons_self)
  obtain ⟨vs, dt⟩ := hf
  obtain ⟨mA, hns, hr⟩ := (show ObjOk X.prog X.w H1 s1.heap dd (.xd fs) from I1.hok dd _ ed)
  obtain ⟨od, ho, hl⟩ := lookIn_ns hns
  obtain ⟨u, hu, ru⟩ := RelO.some_of (v := v) (o := mA f) (by rw [← lk]; exact hr f)
  have J : PySem.W.InstAt s1.heap a oe C (some od) := ⟨ha, hz.1, by unfold PySem.W.notCls; rw [dt] <;> rfl, by rw [hz.2]; exact ho⟩
  exact HandSPX.exc_get I1.kIn J ga gg ex (PySem.W.findObj_own hdC no rfl (by rw [hl, hu])) (handed_of ru) ⟨v, H1, I1.tok _, ru, q⟩
theorem p_xat (i : Nat) (hz : Zc cls d oe) (hf : ∃ vs, oe.data = .fields vs) (hN : X.N[i]? = some n := by rfl) (hv : Vis X.env.scope n := by first | exact Or.inl rfl | exact Or.inr (Or.inl rfl) | exact Or.inr (Or.inr rfl)) (hd : (n == ("__debug__" : PySem.Str)) = false := by decide) (hcd : (n == ("__classdict__" : PySem.Str)) = false := by decide)
    (hb : attributeBase (.Name n p) f X.env (eval (.Name n p) X.env) = eval (.Name n p) X.env := by rfl) : PP (X.suite a ((a, oe) :: pn)) W (.Attribute (.Name n p) f pos) (tpXat X.K a cls d i f) := by
  refine ⟨_, pe_xat i hz hf hN hv hd hcd hb, fun G0 H0 Γ σ G H k kx Q F ht hk hx => ?_⟩
  unfold tpXat at ht
  cases hs : gat Γ i with
  | xv a' cls' d' fs =>
    simp only [hs] at ht
    obtain ⟨rfl, rfl, xf, ht⟩ := ht
    obtain ⟨e, r⟩ := F.at_ i _ (gat_get Γ i _ hs (by simp))
    cases lk : fs.lookup f with
    | none => rw [lk] at ht; exact ht.elim
    | some y =>
      rw [lk] at ht
      rcases r with ⟨_, rfl⟩ | ⟨dd, fvs, rfl, e2, df⟩
      · cases lk
      · obtain ⟨v, lv, dn⟩ := df.get lk
        exact ⟨e, xf, dd, fvs, v, rfl, e2, lv, hk y v G H ht (Ext.refl F.sub) dn⟩
  | _ => simp only [hs] at ht
end
end PL
set_option Elab.async false
set_option linter.all false
set_option maxRecDepth 100000
set_option maxHeartbeats 4000000
namespace PL
open PySem L2 PyProof.Rows
variable [Tabl]
/-- the heap with the new code object c' in the table P -/
def tabbed (H : Hp) (P c' : Addr) (ps : Array Value) (pos : Pos) (q : PySem.Str) : Hp := upd (upd H P (.tbl (ps ++ #[rawInt pos.line, rawInt pos.col, .ref c']))) c' (LamX.CodeO c' q)
theorem up_tabbed {H : Hp} {P c' : Addr} {ps : Array Value} {pos : Pos} {q : PySem.Str} (hm : (P, q) ∈ Tabl.T) (hP : H P = some (.tbl ps)) (hc : H c' = none) : Up H (tabbed H P c' ps pos q) := by
  have at_ : ∀ b o, H b = some o → b ≠ P → tabbed H P c' ps pos q b = some o := fun b o e n => by
    unfold tabbed
    rw [upd_ne (ne_of_none e hc), upd_ne n]
    exact e
  have notP : ∀ b o, H b = some o → NT o → b ≠ P := fun b o e n z => by
    rw [z, hP] at e
    cases e
    exact n _ rfl
  have atP : tabbed H P c' ps pos q P = some (.tbl (ps ++ #[rawInt pos.line, rawInt pos.col, .ref c'])) := by
    unfold tabbed
    rw [upd_ne (ne_of_none hP hc), upd_same]
  refine ⟨fun b o e n => at_ b o e (notP b o e n), fun b o e => ?_, fun t r hr => ?_⟩
  · by_cases hb : b = P
    · exact ⟨_, by rw [hb]; exact atP⟩
    · exact ⟨o, at_ b o e hb⟩
  · obtain ⟨ps2, h1, h2, h3⟩ := t r hr
    have code : ∀ {c : Addr} {n : PySem.Str}, H c = some (LamX.CodeO c n) → tabbed H P c' ps pos q c = some (LamX.CodeO c n) := fun {c n} e => at_ c _ e (notP c _ e fun _ z => nomatch z)
    by_cases hb : r.1 = P
    · rw [hb, hP] at h1
      cases h1
      have en : r.2 = q := Tabl.uniq r hr (P, q) hm hb
      rw [hb, en]
      refine ⟨_, atP, ?_, fun p' cv hcv => ?_⟩
      · rw [show (ps ++ #[rawInt pos.line, rawInt pos.col, .ref c']).toList = ps.toList ++ [rawInt pos.line, rawInt pos.col, .ref c'] by simp]
        exact PySem.TriplesOk_snoc _ _ _ _ h2
      · rw [show (ps ++ #[rawInt pos.line, rawInt pos.col, .ref c']).toList = ps.toList ++ [rawInt pos.line, rawInt pos.col, .ref c'] by simp] at hcv
        rcases LamX.among_app _ h2 hcv with z | z
        · obtain ⟨c0, e1, e2⟩ := h3 p' cv z
          exact ⟨c0, e1, by rw [en] at e2; exact code e2⟩
        · exact ⟨c', z, by unfold tabbed; exact upd_same⟩
    · refine ⟨ps2, at_ _ _ h1 hb, h2, fun p' cv hcv => ?_⟩
      obtain ⟨c0, e1, e2⟩ := h3 p' cv hcv
      exact ⟨c0, e1, code e2⟩
section
variable {X : Cx} {pins : List (Addr × Obj)} {σ : L2.St} {H : Hp} {s : Shared}
/-- what the made lambda is, at f; its code object at c' -/
structure LamAt (X : Cx) (params : Arguments) (body : Expr) (scope : Scope) (f c' : Addr) (H : Hp) (s : Shared) : Prop where
  obj : ∃ pm ctv, s.heap.get? f = some (PySem.W.kla_obj "<lambda>" (X.env.qual ++ "<lambda>") params body scope (cloFrom X.env.cells scope.names []) pm c' ctv)
  free : H f = none
  fr : f ∉ frs X.stack
  code : H c' = some (LamX.CodeO c' (X.env.qual ++ "<lambda>"))
theorem lam_made {c P : Addr} {params : Arguments} {body : Expr} {scope : Scope} {pos : Pos} {E : Value → Shared → Prop} {Q : Value → Shared → Prop} (I : Inv X pins σ H s) (TB : LamX.TabB X.base X.mg c P) (hcode : X.env.code = .ref c)
    (hm : (P, X.env.qual ++ "<lambda>") ∈ Tabl.T) (hT : LamX.Tabs Tabl.T H) (hdef : defaultsOf params X.env = ([], [])) (hfree : ∀ y ∈ scope.names, y.2 = .free → ∃ c, X.env.cells.lookup y.1 = some c)
    (h : ∀ (f c' : Addr) (H1 : Hp) (s' : Shared), Inv X pins σ H1 s' → Up H H1 → LamAt X params body scope f c' H1 s' → Q (.ref f) s') : wpAny (model X.prog X.w) X.A (eval (.Lambda params body scope pos) X.env) Q E s := by
  obtain ⟨ps, hP, ht, ha⟩ := hT _ hm
  have gP : s.heap.get? P = some { cls := .none, data := .fields ps } := I.hok P _ hP
  have nofr : ∀ f, s.heap.objs.size ≤ f → f ∉ frs X.stack := fun f hf z => by
    rcases List.mem_cons.mp (I.stkSub _ z) with e | e
    · exact absurd (Nat.lt_of_lt_of_le I.lt hf) (by rw [e]; exact Nat.lt_irrefl _)
    · exact I.nofs hf e
  refine PySem.W.kla_eval hdef ?_
  cases hc : codeAmong pos ps.toList with
  | some cv =>
    obtain ⟨c', rfl, hco⟩ := ha pos cv hc
    refine PySem.W.kla_makeFunctionHit (mg := X.mg) (c := c) (P := P) (ps := ps) (closure_ok hfree) I.ok.glob (I.mod.glob.keeps I.bk) hcode (TB.code.keeps I.bk) gP ht hc (TB.bm.keeps I.bk) fun ctv h' tk hx hsz => ?_
    exact h h'.objs.size c' H _ (I.kept fun b o e => Heap.get?_push_of_some _ (hx b o e)) (Up.refl H) ⟨⟨_, ctv, Heap.get?_push_size _ rfl⟩, I.hok.fresh hsz, nofr _ hsz, hco⟩
  | none =>
    refine PySem.W.kla_makeFunction (mg := X.mg) (c := c) (P := P) (ps := ps) (closure_ok hfree) I.ok.glob (I.mod.glob.keeps I.bk) hcode (TB.code.keeps I.bk) gP ht hc TB.gP (TB.bm.keeps I.bk) fun c' ctv h' tk hx hge hlt hrec htb => ?_
    obtain ⟨_, oc, vs, t, e2, hoc, hd, hv⟩ := hrec
    cases e2
    have hsz : s.heap.objs.size ≤ h'.objs.size := Nat.le_trans hge (Nat.le_of_lt hlt)
    have nC : H c' = none := I.hok.fresh hge
    have J : Inv X pins σ (tabbed H P c' ps pos (X.env.qual ++ "<lambda>")) _ := LamX.inv_table (t' := tk) I hP (fun b o hb e => Heap.get?_push_of_some (h := h') (PySem.W.kla_obj "<lambda>" (X.env.qual ++ "<lambda>") params body scope (cloFrom X.env.cells scope.names []) ((X.mg "__name__").getD .none) c' ctv) (hx b o hb e))
      (Heap.get?_push_of_some _ htb) hge ⟨oc, vs, t, Heap.get?_push_of_some _ hoc, hd, hv⟩
    refine h h'.objs.size c' _ _ J (up_tabbed hm hP nC) ⟨⟨_, ctv, Heap.get?_push_size _ rfl⟩, ?_, nofr _ hsz, by unfold tabbed; exact upd_same⟩
    unfold tabbed
    rw [upd_ne (Nat.ne_of_gt hlt), upd_ne (Nat.ne_of_gt (Nat.lt_of_lt_of_le (Heap.lt_size gP) hsz))]
    exact I.hok.fresh hsz
end
end PL
set_option Elab.async false
set_option linter.all false
set_option maxRecDepth 100000
set_option maxHeartbeats 4000000
namespace PL
open PySem L2 PyProof.Rows
variable [Tabl]
/-- the frame of a def g that got the lambda -/
abbrev cxG (X : Cx) (CXg : CXT) (Ng : List PySem.Str) (qg : PySem.Str) (sg : Scope) (g : Addr) (cdg : Value) (s : Shared) (H : Hp) (Eg : XK) : Cx := cxOf CXg X.prog X.w X.K X.mg X.base Ng qg sg g cdg X.A X.stack s H Eg
/-- the lambda, called by its name a in that frame: tb E, its body's reading where E is wanted of an exception -/
theorem pe_lamact {X : Cx} {pins : List (Addr × Obj)} {σ : L2.St} {H : Hp} {s : Shared} {CXg : CXT} {Eg : XK} {Ng : List PySem.Str} {qg : PySem.Str} {sg : Scope} {g f c' : Addr} {cdg : Value} {params : Arguments} {body : Expr} {scope : Scope} {k i : Nat} {a : PySem.Str} {pn : List (Addr × Obj)}
    {xe : Value → Shared → Prop} {W : WX} {tb : XK → TE} {p1 p2 : Pos} (I : Inv X pins σ H s) (L : LamX.LamS X.env.scope scope) (M : LamAt X params body scope f c' H s)
    (hbind : ∀ (pm ctv : Value), bindArgs (PySem.W.kla_fn "<lambda>" (X.env.qual ++ "<lambda>") params body scope (cloFrom X.env.cells scope.names []) pm (.ref c') ctv) ⟨[], []⟩ = pure [])
    (tk : Takes ((cxG X CXg Ng qg sg g cdg s H Eg).tr pn xe) W) (hr : Room (k + 1) (X.A.deeper (envOfC qg sg s.heap.objs.size g cdg)))
    (hbody : ∀ (E : XK) (A : Around) (outer : List Env) (s : Shared) (H : Hp), Room k (A.deeper (LamX.lamEnv X scope s.heap.objs.size f c')) → PE (LamX.lamCx X A outer s H E scope f c') body (tb E))
    (hN : Ng[i]? = some a) (hv : Vis sg a) (hd : (a == ("__debug__" : PySem.Str)) = false) (hcd : (a == ("__classdict__" : PySem.Str)) = false) :
    PE ((cxG X CXg Ng qg sg g cdg s H Eg).tr pn xe) (.Call (.Name a p1) [] [] p2) (fun τ J Q => τ[i]? = some (some (.ref f)) ∧ J c' = some (LamX.CodeO c' (X.env.qual ++ "<lambda>")) ∧ tb (fun cls d J' => W cls d τ J') σ J Q) := by
  refine ⟨fun pinsZ sZ τ J Q IZ ⟨hs, hc, ht⟩ => wpAny_Call_Name_kw (thn ((pe_var (pos := p1) (i := i) hN hv hd hcd).run pinsZ sZ τ J (fun v J1 => v = .ref f ∧ J1 = J) IZ ⟨.ref f, hs, rfl, rfl⟩) fun u s1 ⟨v, J1, I1, r1, ev, eJ⟩ => ?_)⟩
  subst ev
  subst eJ
  obtain rfl : u = Value.ref f := r1
  obtain ⟨pm, ctv, of0⟩ := M.obj
  have of1 := I1.base.keep f _ of0 M.free M.fr (fun z => nomatch (show f ∈ ([] : List Addr) from z))
  obtain ⟨⟨oc, vs, t, hoc, hdc, hvc⟩, _, _⟩ := I1.hok c' _ hc
  have un : Un (frs X.stack) [] H J1 s.heap s1.heap := I1.base
  have rc : codeAny (model X.prog X.w) (X.A.deeper (envOfC qg sg s.heap.objs.size g cdg)) (.call (.ref f) ⟨[], []⟩) (CR (L2.CX X.prog X.w) (envOfC qg sg s.heap.objs.size g cdg :: X.stack) X.prog X.w J1 s1 Q (fun cls d J' => W cls d τ J')) s1 := by
    refine PySem.W.kla_callFunE hr.depth of1 rfl L.co L.gen rfl ⟨c', oc, vs, t, rfl, hoc, hdc, hvc⟩ ?_
    rw [hbind]
    refine wpAny_pure (wpAny_newFunctionEnv (fun y hy => (L.own y hy).2) (fun y hy => absurd hy (by simp)) (fun h2 hns hsb => ⟨I1.nolimit.fresh _ hsb, ?_⟩) L.kind)
    have kp : ∀ b o, s1.heap.get? b = some o → h2.get? b = some o := fun b o e => hsb.extBut b o (Nat.ne_of_lt (Heap.lt_size e)) (Heap.get?_push_of_some _ e)
    have J2 := LamX.lam_start2 (E := fun cls d J' => W cls d τ J') (f := f) (c' := c') (tk := s1.toks + ([] : List (PySem.Str × Value)).length) I L I1.env0 hr.hd un hns kp
    refine PySem.W.kla_codeExpr (wpAny_mono ((hbody _ _ _ s1 J1 (hr.deeper _)).run [] _ _ J1 Q J2 ht) (fun v s2 q => ?_) fun _ _ q => q)
    obtain ⟨w, H2, K2, rv, q⟩ := q
    exact ⟨w, H2, K2.os, K2.bare, K2.base, K2.hok, rv, q⟩
  refine PySem.W.callWith_F0 ⟨_, _, _, _, of1⟩ (wpAny_call (codeAny_mono rc fun r s2 q => ?_))
  cases r with
  | error e => exact passAt tk τ pinsZ J1 s1 e s2 I1 q
  | ok fl =>
    cases fl with
    | ret u => exact I1.after q
    | next => exact False.elim q
    | brk => exact False.elim q
    | cont => exact False.elim q
/-- what is pure of the slots -/
def purS : Sl → Sl
  | .pu d => .pu d
  | _ => .un
def purify (Γ : Ga) : Ga := Γ.map purS
theorem fr_pure {K : PySem.W.Frag} {G0 H0 G H G' H' : Hp} {Γ : Ga} {σ : L2.St} (F : Fr K G0 H0 Γ σ G H) (e : Same G G') (s : Sub G' H') : Fr K G' H' (purify Γ) σ G' H' := by
  have key : ∀ (i : Nat) (t : Sl), (purify Γ)[i]? = some t → t = .un ∨ ∃ d, t = .pu d ∧ Γ[i]? = some (.pu d) := fun i t h => by
    unfold purify at h
    rw [List.getElem?_map] at h
    cases e : Γ[i]? with
    | none => rw [e] at h; cases h
    | some u =>
      rw [e] at h
      cases h
      cases u with
      | pu d => exact .inr ⟨d, rfl, rfl⟩
      | _ => exact .inl rfl
  refine ⟨by rw [F.len]; unfold purify; rw [List.length_map], Ext.refl s, fun i t h => ?_, fun a b p t u h1 h2 => ?_⟩
  · rcases key i t h with rfl | ⟨d, rfl, q⟩
    · trivial
    · obtain ⟨v, e1, r⟩ := F.at_ i _ q
      exact ⟨v, e1, r.up e⟩
  · rcases key a t h1 with rfl | ⟨d, rfl, q⟩
    · exact h2.elim
    · exact h2.elim
theorem fr_lam {K : PySem.W.Frag} {G H : Hp} {N : List PySem.Str} {f c : Addr} {q : PySem.Str} (s : Sub G H) (hN : 1 ≤ N.length) (hc : H c = some (LamX.CodeO c q)) : Fr K G H (.kp (.ref f) c (LamX.CodeO c q) G :: List.replicate (N.length - 1) .un) (L2.start N [.ref f]) G H := by
  have key : ∀ (i : Nat) (t : Sl), (Sl.kp (.ref f) c (LamX.CodeO c q) G :: List.replicate (N.length - 1) .un)[i]? = some t → (i = 0 ∧ t = .kp (.ref f) c (LamX.CodeO c q) G) ∨ t = .un := fun i t h => by
    cases i with
    | zero => exact .inl ⟨rfl, (Option.some.inj h).symm⟩
    | succ i =>
      rw [List.getElem?_cons_succ] at h
      exact .inr (List.mem_replicate.mp (List.mem_of_getElem? h)).2
  refine ⟨by unfold L2.start; simp, Ext.refl s, fun i t h => ?_, fun a b p t u h1 h2 => ?_⟩
  · rcases key i t h with ⟨rfl, rfl⟩ | rfl
    · exact ⟨rfl, hc, fun z => z, (fun _ z => nomatch z), Same.refl G⟩
    · trivial
  · rcases key a t h1 with ⟨_, rfl⟩ | rfl
    · exact h2.elim
    · exact h2.elim
end PL
set_option Elab.async false
set_option linter.all false
set_option maxRecDepth 100000
set_option maxHeartbeats 4000000
namespace PL
open PySem PySem.Froz L2 PyProof.Rows
/-- the set at a holds the texts l; its table can be walked -/
def SetT (P : Program) (w : World) (h : Heap) (a : Addr) (l : List PySem.Str) : Prop :=
  ∃ D, h.get? a = some (sObj "set" D) ∧ TxOk P w D l ∧ l.Nodup ∧ Ris D.2.2.place.toList ∧ (w.params.followText "set-order" = true ∨ D.2.2.led = true)
theorem SetT.at {P : Program} {w : World} {h h' : Heap} {a : Addr} {l : List PySem.Str} (R : SetT P w h a l) (k : ∀ o, h.get? a = some o → h'.get? a = some o) : SetT P w h' a l := by
  obtain ⟨D, h1, h2⟩ := R
  exact ⟨D, k _ h1, h2⟩
end PL
set_option Elab.async false
set_option linter.all false
set_option maxRecDepth 100000
set_option maxHeartbeats 4000000
namespace PL
open PySem PySem.Froz L2 PyProof.Rows
end PL
set_option Elab.async false
set_option linter.all false
set_option maxRecDepth 100000
set_option maxHeartbeats 4000000
namespace PL
open PySem L2 PyProof.Rows
end PL
set_option Elab.async false
set_option linter.all false
set_option maxRecDepth 100000
set_option maxHeartbeats 4000000
namespace PL
open PySem L2 PyProof.Rows
variable [Tabl]
def rLs (K : PySem.W.Frag) : List V → Hp → VK → Prop := fun xs H Q => ∃ p ys, xs = [.ref p] ∧ (SqL K H p ys ∨ SqT K H p ys) ∧ ∀ l, H l = none → Q (.ref l) (upd H l (.lst ys))
def rLn (K : PySem.W.Frag) : List V → Hp → VK → Prop := fun xs H Q => ∃ x n, xs = [x] ∧ LenV K x H n ∧ Q (.int n) H
def tStart (K : PySem.W.Frag) : TE :=
  tLst (tCons (tCB (rLs K) (tCons (tSl (rSlL K) (tVar 0) tNoPart (tPart (tC (.int 63)))) tNil)) (tCons (tC (.int 0)) (tCons (tC (.int 0)) (tCons (tOp (rI0 fun i j => .int (i + j)) (tC (.int 5642)) (tCB (rLn K) (tCons (tVar 0) tNil))) tNil))))
theorem cut63 (ns : List Int) (h : ns.length ≤ 63) : cutV (ns.map V.int) none (some 63) = ns.map V.int := by
  have e : HT.sIx (ns.map V.int).length (ns.map V.int).length (some 63) = min 63 (ns.map V.int).length := HT.sIx_nat _ _ 63
  unfold cutV
  rw [e, HT.sIx_none, List.drop_zero]
  exact List.take_of_length_le (by rw [List.length_map]; omega)
theorem start_te {K : PySem.W.Frag} {σ : L2.St} {H : Hp} {Q : VK} {a : Addr} {ns : List Int} (e : σ[0]? = some (some (.ref a))) (hS : SqL K H a (ns.map V.int)) (h63 : ns.length ≤ 63)
    (h : ∀ l p H', Same H H' → H l = none → H p = none → p ≠ l → H' l = some (.lst (ns.map V.int)) → H' p = some (.lst [.ref l, .int 0, .int 0, .int (5642 + ns.length)]) → Q (.ref p) H') : tStart K σ H Q := by
  refine ⟨.ref a, e, 63, rfl, a, _, rfl, hS, fun q hq => ?_⟩
  rw [cut63 ns h63]
  refine ⟨q, _, rfl, .inl (SqL.of upd_same), fun l hl => ?_⟩
  have s1 : Same H (upd H q (.lst (ns.map V.int))) := same_upd hq
  have s2 : Same (upd H q (.lst (ns.map V.int))) (upd (upd H q (.lst (ns.map V.int))) l (.lst (ns.map V.int))) := same_upd hl
  have hS2 := (s1.trans s2).seq hS
  refine ⟨.ref a, e, .ref a, ns.length, rfl, .inl ⟨_, hS2, by rw [List.length_map]⟩, 5642, ns.length, rfl, rfl, by show 4 ≤ sizeLine; decide, fun p hp => ?_⟩
  have hl0 : H l = none := by
    rw [upd_ne (ne_of_none (show upd H q (.lst (ns.map V.int)) q = _ from upd_same) hl).symm] at hl
    exact hl
  have pl : p ≠ l := fun z => by rw [z, upd_same] at hp; cases hp
  have pq : p ≠ q := fun z => by
    rw [z] at hp
    rw [upd_ne (ne_of_none (show upd H q (.lst (ns.map V.int)) q = _ from upd_same) hl), upd_same] at hp
    cases hp
  have hp0 : H p = none := by
    rw [upd_ne pl, upd_ne pq] at hp
    exact hp
  exact h l p _ ((s1.trans s2).trans (same_upd hp)) hl0 hp0 pl (by rw [upd_ne (Ne.symm pl), upd_same]) upd_same
/-- the bag, of the script -/
def fsStart : FS := fun ds k _ => match ds with
  | [.scr] => k .bag
  | _ => False
def spStart (K : PySem.W.Frag) : Sp := fun vs H Q _ => ∃ (a : Addr) (ns : List Int), vs = [.ref a] ∧ SqL K H a (ns.map V.int) ∧ ns.length ≤ 63 ∧
  ∀ l p H', Same H H' → H l = none → H p = none → p ≠ l → H' l = some (.lst (ns.map V.int)) → H' p = some (.lst [.ref l, .int 0, .int 0, .int (5642 + ns.length)]) → Q (.ref p) H'
section
variable {P : Program} {w : World} {K : PySem.W.Frag} {mg : PySem.Str → Option Value} {base : Heap}
theorem start_ok {x qual : PySem.Str} {st : Stmt} {f : Addr} {fd : FuncData} {N ps : List PySem.Str} {k : Nat} (F : Fun K x qual st f fd) (S : FnScope N ps (defScope st)) (hn : ps.length = 1)
    (body : ∀ (cdv : Value) (A : Around) (outer : List Env) (s : Shared) (H : Hp) (E : XK), PSs (cxOf (L2.CX P w) P w K mg base N qual (defScope st) f cdv A outer s H E) (defBody st) (tRet (tStart K))) :
    FnOk P w K mg base (L2.CX P w) (k + 1) f fd ps (spOf K 1 fsStart) := by
  have raw : FnOk P w K mg base (L2.CX P w) (k + 1) f fd ps (spStart K) := by
    refine F.okX S (fun vs H Q E ⟨a, ns, e, _⟩ => by rw [e, hn]; rfl) (fun cdv A outer s H vs Q E hr h => ⟨_, body cdv A outer s H E, ?_⟩)
    obtain ⟨a, ns, rfl, hS, h63, q⟩ := h
    exact start_te (by unfold L2.start; rfl) hS h63 q
  refine ⟨fun vs H Q E h => ?_, fun A outer s H args us vs Q E hr he hb hv h => ?_⟩
  · obtain ⟨G, ds, kd, kx, _, b, c, _⟩ := h
    rw [b.length, c, hn]
  · obtain ⟨G, ds, kd, kx, sb, r, hl, hf, hk, hx⟩ := h
    match ds, r, hf with
    | [.scr], .cons (.scr (a := a) (ns := ns) hS h63) .nil, hf =>
      refine codeAny_mono (raw.run A outer s H args us _ (fun v H' => ∃ l p, v = .ref p ∧ Same H H' ∧ H l = none ∧ H p = none ∧ p ≠ l ∧ H' l = some (.lst (ns.map V.int)) ∧ H' p = some (.lst [.ref l, .int 0, .int 0, .int (5642 + ns.length)])) E hr he hb hv
        ⟨a, ns, rfl, sb.sql hS, h63, fun l p H' a1 a2 a3 a4 a5 a6 => ⟨l, p, rfl, a1, a2, a3, a4, a5, a6⟩⟩) fun rs s' hq => ?_
      cases rs with
      | error e => exact hq
      | ok fl =>
        cases fl with
        | ret u =>
          obtain ⟨v, H', os, bare, un, hok, rv, l, p, rfl, sm, hl0, hp0, pl, hl', hp'⟩ := hq
          have gl := sb.none hl0
          have gp := sb.none hp0
          have un2 : Un (frs outer) [] H (upd H' p (.ext (BagRaw p l ns.length))) s.heap s'.heap := un_close un hp' (.inl hp0)
          have hok2 := bag_close (n := ns.length) (i := 0) hok hp' (Nat.zero_le _) (by decide) (by omega) (by omega)
          refine ⟨.ref p, _, os, bare, un2, hok2, rv, ?_⟩
          have sH : Same H (upd H' p (.ext (BagRaw p l ns.length))) := fun b o e => by
            rw [upd_ne (ne_of_none e hp0)]
            exact sm b o e
          have sG : Same G (upd (upd G l (.frz nob (.lst (ns.map V.int)))) p (.ext (BagRaw p l ns.length))) := fun b o e => by
            rw [upd_ne (ne_of_none e gp), upd_ne (ne_of_none e gl)]
            exact e
          refine hk .bag _ (upd (upd G l (.frz nob (.lst (ns.map V.int)))) p (.ext (BagRaw p l ns.length))) _ hf ⟨.of sH, sG, fun b n ⟨o, e⟩ => ?_, ⟨fun b o e => ?_, fun b o e => ?_, sb.tb.ext sH⟩⟩ (.bag ⟨l, ns, upd_same, by rw [upd_ne (Ne.symm pl), upd_same], pl, h63⟩)
          · rw [upd_ne (ne_of_none e hp0), upd_ne (ne_of_none e hl0)]
            exact n
          · by_cases hb : b = p
            · subst hb
              rw [upd_same] at e ⊢
              exact .inl e
            · rw [upd_ne hb] at e ⊢
              by_cases hb2 : b = l
              · subst hb2
                rw [upd_same] at e
                cases e
                exact .inr ⟨trivial, hl'⟩
              · rw [upd_ne hb2] at e
                rcases sb.m b o e with z | ⟨z, z2⟩
                · exact .inl (sm _ _ z)
                · exact .inr ⟨z, z2.of fun u hu _ => sm _ _ hu⟩
          · by_cases hb : b = p
            · subst hb
              rw [upd_same] at e
              cases e
              intro ps z
              cases z
            · rw [upd_ne hb] at e
              by_cases hb2 : b = l
              · subst hb2
                rw [upd_same] at e
                cases e
                intro ps z
                cases z
              · rw [upd_ne hb2] at e
                exact sb.nt b o e
        | next => exact hq
        | brk => exact hq
        | cont => exact hq
end
end PL
set_option Elab.async false
set_option linter.all false
set_option maxRecDepth 100000
set_option maxHeartbeats 2000000
namespace L2
open PySem PySem.Spec PyProof.Rows
end L2
namespace PL
open PySem L2
end PL
set_option Elab.async false
set_option linter.all false
set_option maxRecDepth 100000
set_option maxHeartbeats 2000000
namespace PL
open PySem L2
variable [Tabl]
section
variable {X : Cx}
theorem denL_int {K : PySem.W.Frag} {G : Hp} : ∀ {bs : List Int} {vs : List V}, DenL K G vs (bs.map D.int) → vs = bs.map V.int
  | [], _, h => by cases h; rfl
  | b :: r, _, h => by
    cases h with
    | cons h1 h2 =>
      cases h1
      rw [denL_int h2]
      rfl
end
end PL
set_option Elab.async false
set_option linter.all false
set_option maxRecDepth 100000
set_option maxHeartbeats 2000000
namespace L2
open PySem PySem.Spec PyProof.Rows
/-- the signs of x, each in a new pair behind its place -/
def Ites (x : Str) : It :=
  ⟨fun i _ => i < x.cps.size, fun i H v H' => ∃ T c, v = .ref T ∧ H T = none ∧ H' = upd H T (.tup [.int (i : Nat), .str ⟨#[c]⟩]) ∧ x.cps[i]? = some c, fun i _ => x.cps.size ≤ i⟩
theorem drawsS {P : Program} {w : World} {A : Around} (hh : A.handled = none) (it : Addr) (x : Str) (t : Tok) :
    Draws P w A it [it] x.cps.size (fun i v => ∃ c u, x.cps[i]? = some c ∧ v = .str ⟨#[c]⟩ u) (fun i h => h.IsStrIter it (strIterType x) x t i) := by
  unfold strIterType
  split
  · exact Draws.strAscii hh it x t
  · exact Draws.strWide hh it x t
theorem turn_enumS {P : Program} {w : World} {K : PySem.W.Frag} {elts : List Expr} {kk : Nat} {tpos : Pos} (x : Str) (t : Tok) (e it : Addr) :
    Turn P w K (.Tuple elts kk tpos) (Ites x) [e, it] e (fun i h => (∃ old, IsEnum h e it ((i : Nat) : Int) old) ∧ h.IsStrIter it (strIterType x) x t i ∧ e ≠ it ∧ i ≤ x.cps.size) where
  mem := by simp
  obj := fun i h st b hb => by
    obtain ⟨⟨old, he⟩, ⟨o, ho, hc, hd⟩, _⟩ := st
    have e' : b = e ∨ b = it := by simpa using hb
    rcases e' with z | z
    · rw [z]; exact ⟨_, he, fun v q => nomatch q⟩
    · rw [z]; exact ⟨o, ho, fun v q => by rw [hd] at q; cases q⟩
  keep := fun i h h' st k => let ⟨⟨old, he⟩, ⟨o, ho, r⟩, hne⟩ := st; ⟨⟨old, k e (by simp) _ he⟩, ⟨o, k it (by simp) o ho, r⟩, hne⟩
  item := by
    intro X hP hw hK hc i pins s σ H E I hf st hg
    subst hP hw hK
    obtain ⟨⟨old, he⟩, hit, hne, hle⟩ := st
    have hg : i < x.cps.size := hg
    have D : Draws X.prog X.w X.A.in1 it [it] x.cps.size (fun i v => ∃ c u, x.cps[i]? = some c ∧ v = .str ⟨#[c]⟩ u) (fun i h => h.IsStrIter it (strIterType x) x t i) := drawsS (A := X.A.in1) (show X.A.in1.handled = none from I.ok.hd hc) it x t
    have hel : e < s.heap.objs.size := Heap.lt_size he
    have hil : it < s.heap.objs.size := by obtain ⟨_, q, _⟩ := hit; exact Heap.lt_size q
    refine wpAny_pyNext_enum_itemD D he hit hg hne (by simpa using hne) fun u h' tk hP ho hit' hT hsz hk => ?_
    obtain ⟨c, ut, hcx, rfl⟩ := hP
    refine ⟨_, rfl, wpAny_letOwnedTupleGo_enum (s := { s with heap := h', toks := tk + 1 }) ho fun h'' he' sb => ?_⟩
    have hT2 : h''.get? s.heap.objs.size = some { cls := .type "tuple", data := .seq #[.int i tk, .str ⟨#[c]⟩ ut] } := (sb.2 _ (Nat.ne_of_gt hel)).trans hT
    have new : ObjOk X.prog X.w (upd H s.heap.objs.size (.tup [.int (i : Nat), .str ⟨#[c]⟩])) h'' s.heap.objs.size (.tup [.int (i : Nat), .str ⟨#[c]⟩]) :=
      ⟨by show 2 ≤ sizeLine; decide, [.int i tk, .str ⟨#[c]⟩ ut], .cons ⟨_, rfl⟩ (.cons ⟨_, rfl⟩ .nil), ⟨_, hT2, rfl, _, rfl⟩⟩
    have I1 : Inv X pins σ (upd H s.heap.objs.size (.tup [.int (i : Nat), .str ⟨#[c]⟩])) { s with heap := h'', toks := tk + 1 } :=
      I.turnedNew (ch := [e, it]) (fun b ob hb q => (sb.2 b (fun z => hb (by simp [z]))).trans (hk b ob (fun z => hb (by simp [z])) (fun z => hb (by simp [z])) q)) hf (Nat.le_refl _) new
    refine ⟨.ref s.heap.objs.size, _, I1, rfl, ⟨_, c, rfl, I.hok.fresh (Nat.le_refl _), rfl, hcx⟩, ⟨⟨.str ⟨#[c]⟩ ut, ?_⟩, ?_, hne, hg⟩, fun b hb => ?_⟩
    · have e1 : ((i + 1 : Nat) : Int) = (i : Int) + 1 := by omega
      rw [e1]; exact he'
    · obtain ⟨o, ho, r⟩ := hit'
      exact ⟨o, (sb.2 it (Ne.symm hne)).trans ho, r⟩
    · have hb' : b < s.heap.objs.size := by
        have e' : b = e ∨ b = it := by simpa using hb
        rcases e' with z | z
        · rw [z]; exact hel
        · rw [z]; exact hil
      rw [upd_ne (Nat.ne_of_lt hb')]
      exact (hf b hb).1
  done := by
    intro X hP hw hK hc i pins s σ H E I hf st hg
    subst hP hw hK
    obtain ⟨⟨old, he⟩, hit, hne, hle⟩ := st
    have hg : x.cps.size ≤ i := hg
    have e : i = x.cps.size := by omega
    subst e
    have D : Draws X.prog X.w X.A.in1 it [it] x.cps.size (fun i v => ∃ c u, x.cps[i]? = some c ∧ v = .str ⟨#[c]⟩ u) (fun i h => h.IsStrIter it (strIterType x) x t i) := drawsS (A := X.A.in1) (show X.A.in1.handled = none from I.ok.hd hc) it x t
    obtain ⟨f0, f1, f2, f3, f4, f5⟩ := hf it (by simp)
    exact wpAny_pyNext_enum_endD D he hit fun h' eb => ⟨rfl, I.turned (t' := s.toks) (fun b o hb q => eb b o hb q) f0 f1 f3 f4 f5⟩
  self := fun A i s Q E st h => let ⟨⟨_, he⟩, _⟩ := st; wpAny_pyIter_enum he h
def iEnumS (ta : TA) : TI := fun σ H R => ta σ H fun vs H1 => ∃ x, vs = [.str x] ∧ R (Ites x) H1
theorem pi_enumS {X : Cx} {e : Expr} {ta : TA} {p pos tpos : Pos} {elts : List Expr} {kk : Nat} (hg : Gl X "enumerate") (hm : X.mg "enumerate" = none) (ha : PA X [e] ta) (hs : starEach [e] X.env = [(false, eval e X.env)] := by rfl) :
    PI X (.Tuple elts kk tpos) (.Call (.Name "enumerate" p) [e] [] pos) (iEnumS ta) := by
  refine ⟨fun pins s σ H R I h => ?_⟩
  refine Call_ (ld_blt I hg hm boot_enumerate (PyProof.Rows.callWith_type1 (thn (ha.run pos pins s σ H _ I h) fun us s1 ⟨vs, H1, I1, r1, q1⟩ => ?_) hs rfl))
  obtain ⟨x, ex, q⟩ := q1
  subst ex
  cases r1 with
  | cons r rr =>
    cases rr
    obtain ⟨t, rfl⟩ := r
    refine call_enumerate_str fun h' he hit hsz hk => wpAny_pyIter_enum he ?_
    have I2 : Inv X pins σ H1 { s1 with heap := h' } := I1.kept (t' := s1.toks) hk
    refine ⟨s1.heap.objs.size + 1, [s1.heap.objs.size + 1, s1.heap.objs.size], _, _, H1, rfl, I2, turn_enumS x t (s1.heap.objs.size + 1) s1.heap.objs.size, ⟨⟨.none, he⟩, hit, Nat.succ_ne_self _, Nat.zero_le _⟩, fun b hb => ?_, q⟩
    have e' : b = s1.heap.objs.size + 1 ∨ b = s1.heap.objs.size := by simpa using hb
    have hle : s1.heap.objs.size ≤ b := by
      rcases e' with z | z
      · rw [z]; exact Nat.le_add_right _ _
      · rw [z]; exact Nat.le_refl _
    exact I1.fpOk hle (I1.hok.fresh hle)
end L2
namespace PL
open PySem L2
variable [Tabl]
def pairs : Nat → List Nat → List D
  | _, [] => []
  | i, c :: r => .tup [.int (i : Nat), .str [c]] :: pairs (i + 1) r
theorem pairs_length : ∀ (i : Nat) (s : List Nat), (pairs i s).length = s.length
  | _, [] => rfl
  | i, c :: r => congrArg (· + 1) (pairs_length (i + 1) r)
theorem pairs_get : ∀ (s : List Nat) (i k : Nat) (c : Nat), s[k]? = some c → (pairs i s)[k]? = some (.tup [.int ((i + k : Nat)), .str [c]])
  | [], _, _, _, h => by simp at h
  | a :: r, i, 0, c, h => by
    have : a = c := by simpa using h
    subst this
    rfl
  | a :: r, i, k + 1, c, h => by
    have h : r[k]? = some c := by simpa using h
    have := pairs_get r (i + 1) k c h
    show (pairs (i + 1) r)[k]? = _
    rw [this, show i + 1 + k = i + (k + 1) by omega]
section
variable {X : Cx} {W : WX} {e : Expr} {t : TP} {tl : TL} {pos : Pos}
theorem wk_enumS {K : PySem.W.Frag} (s : List Nat) (ok : Hp → Hp → Prop) : Wk K (Ites (SS s)) (pairs 0 s) ok where
  go := fun i G H hi _ _ => by
    rw [pairs_length] at hi
    show i < (SS s).cps.size
    simpa [SS] using hi
  yl := fun i G H x H' hi _ sb y => by
    obtain ⟨T, c, rfl, hT, rfl, hc⟩ := y
    have hc : s[i]? = some c := by simpa [SS] using hc
    have := pairs_get s 0 i c hc
    rw [Nat.zero_add] at this
    exact ⟨_, _, this, Ext.new sb hT, .tup (SqT.of upd_same) (.cons (.int _) (.cons (.str _) .nil))⟩
  st := fun G H _ _ => by
    show (SS s).cps.size ≤ (pairs 0 s).length
    rw [pairs_length]
    simp [SS]
def tiEnumS (t : TP) : TL := fun Γ k kx => t Γ (fun d => match d with | .str s => k (pairs 0 s) | _ => False) kx
theorem i_enumS {p pos tpos : Pos} {elts : List Expr} {kk : Nat} (hm : X.mg "enumerate" = none) (h : PP X W e t) (hg : Gl X "enumerate" := by rfl) (hs : starEach [e] X.env = [(false, eval e X.env)] := by rfl) :
    PIt X W (.Tuple elts kk tpos) (.Call (.Name "enumerate" p) [e] [] pos) (tiEnumS t) := by
  obtain ⟨ea, pa, ra⟩ := h.ex
  refine ⟨_, pi_enumS hg hm (pa_cons pa pa_nil hs) hs, fun G0 H0 Γ σ G H k kx R F ht hk hx => ?_⟩
  refine ra G0 H0 Γ σ G H _ kx _ F ht (fun d v G1 H1 k1 x1 n1 => ?_) hx
  cases d with
  | str s =>
    cases n1
    exact ⟨_, rfl, hk _ _ _ _ k1 x1 (wk_enumS s _)⟩
  | _ => exact k1.elim
/-- a, b = a pair -/
def tgTup2 (i j : Nat) : TGp := fun d Γ k => match d with
  | .tup [a, b] => k (gset (gset Γ i (.pu a)) j (.pu b))
  | _ => False
theorem g_tup2 (i j : Nat) {x y : PySem.Str} {p q pos : Pos} {kk : Nat} (hc : X.calm = true) (nd : X.N.Nodup) (hi : X.N[i]? = some x := by rfl) (hj : X.N[j]? = some y := by rfl)
    (hx : Loc X.env.scope x := by first | exact Or.inl rfl | exact Or.inr rfl) (hy : Loc X.env.scope y := by first | exact Or.inl rfl | exact Or.inr rfl)
    (hf : X.fn x = true ∨ X.env.scope.names.lookup x = some .local := by first | exact .inl rfl | exact .inr rfl) (hf2 : X.fn y = true ∨ X.env.scope.names.lookup y = some .local := by first | exact .inl rfl | exact .inr rfl) :
    PGt X (.Tuple [.Name x p, .Name y q] kk pos) [i, j] (tgTup2 i j) := by
  refine ⟨_, pg_tup hc (pgs_cons (pg_name nd hi hx hf) (pgs_cons (pg_name nd hj hy hf2) pgs_nil)), fun G0 H0 Γ σ G H d v k Q F n ht hk => ?_⟩
  cases d with
  | tup xs =>
    match xs, ht, n with
    | [a, b], ht, n =>
      cases n with
      | @tup ad vs _ h1 h2 =>
        cases h2 with
        | @cons va _ _ _ n1 h2 =>
          cases h2 with
          | @cons vb _ _ _ n2 h2 =>
            cases h2
            refine ⟨ad, _, rfl, F.sub.sqt h1, rfl, va, _, rfl, vb, _, rfl, rfl, ?_⟩
            refine hk _ _ ht ((F.set i n1).set j n2) ?_
            rw [wipe_comm _ j _ [i, j] (by simp), wipe_comm _ i _ [i, j] (by simp)]
  | _ => exact ht.elim
end
end PL
set_option Elab.async false
set_option linter.all false
set_option maxRecDepth 100000
set_option maxHeartbeats 2000000
namespace L2
open PySem PySem.Spec PyProof.Rows
end L2
namespace PL
open PySem L2
variable [Tabl]
def hasK (ds : List (Key × D)) (k : Key) : Bool := ds.any fun p => decide (p.1 = k)
section
variable {X : Cx} {W : WX} {a : Expr} {ta : TP} {pos p2 : Pos}
def putD (ds : List (Key × D)) (k : Key) (v : D) : List (Key × D) :=
  if hasK ds k = true then ds.map (fun kv => if kv.1 = k then (kv.1, v) else kv) else ds ++ [(k, v)]
end
end PL
set_option Elab.async false
set_option linter.all false
set_option maxRecDepth 100000
set_option maxHeartbeats 4000000
namespace PL
open PySem L2 PyProof.Rows
abbrev lamFd (q : PySem.Str) (params : Arguments) (body : Expr) (scope : Scope) (cl : List (PySem.Str × Addr)) (pm cv ctv dV : Value) : FuncData :=
  { PySem.W.kla_fn "<lambda>" q params body scope cl pm cv ctv with defaults := dV }
variable [Tabl]
/-- no name of its own but those that the frame does not have -/
structure LamSD (N : List PySem.Str) (sc scope : Scope) : Prop where
  kind : scope.kind = .function
  co : scope.isCoroutine = false
  gen : scope.isGenerator = false
  cell : ∀ y ∈ scope.names, y.2 ≠ .cell
  own : ∀ y ∈ scope.names, y.2 = .local → y.1 ∉ N
  free : ∀ y ∈ scope.names, y.2 = .free → sc.names.lookup y.1 = some .cell ∨ sc.names.lookup y.1 = some .free
theorem LamSD.has {X : Cx} {scope : Scope} (L : LamSD X.N X.env.scope scope) (ok : X.Ok) : ∀ y ∈ scope.names, y.2 = .free → ∃ c, X.env.cells.lookup y.1 = some c :=
  fun y hy e => ok.has _ (L.free y hy e)
end PL
set_option Elab.async false
set_option linter.all false
set_option maxRecDepth 100000
set_option maxHeartbeats 4000000
namespace PL
open PySem L2
variable [Tabl]
mutual
theorem eqD_refl : ∀ d : D, d.plain = true → eqD d d = true
  | .non, _ => rfl
  | .bl b, _ => by show (b == b) = true; exact beq_self_eq_true b
  | .int i, _ => by show (i == i) = true; exact beq_self_eq_true i
  | .str s, _ => by show (SS s == SS s) = true; simp
  | .lst xs, h => eqDL_refl xs h
  | .tup xs, h => eqDL_refl xs h
  | .dct _, h => nomatch h
  | .ins _ _, h => nomatch h
  | .sl _ _, h => nomatch h
  | .cls _, h => nomatch h
  | .ty _, h => nomatch h
  | .bag, h => nomatch h
  | .scr, h => nomatch h
  | .cel _ _, h => nomatch h
  | .frl _, h => nomatch h
theorem eqDL_refl : ∀ ds : List D, D.plainL ds = true → PyData.eqvAll (D.pyL ds) (D.pyL ds) = true
  | [], _ => rfl
  | d :: r, h => by
    obtain ⟨h1, h2⟩ := Bool.and_eq_true_iff.mp (show (d.plain && D.plainL r) = true from h)
    show (eqD d d && PyData.eqvAll (D.pyL r) (D.pyL r)) = true
    rw [eqD_refl d h1, eqDL_refl r h2]
    rfl
end
end PL
set_option Elab.async false
set_option linter.all false
set_option maxRecDepth 100000
set_option maxHeartbeats 4000000
namespace PL
open PySem L2
def m_is_log : FS := fun ds k kx =>
  (tsRet (tpAnd (tp1 (fIsi "str") (tpVar 0)) (tp1 fAll (tpLc [1] (tiStr (tpVar 0)) (tgName 1) tbYes (tpOp fInS (tpVar 1) (tpC (.str [97, 98, 99, 100, 101, 102, 103, 104, 105, 106, 107, 108, 109, 110, 111, 112, 113, 114, 115, 116, 117, 118, 119, 120, 121, 122])))))))
  (fEnds k kx) (ga0 2 ds)
def m_law_pull : FSo := fun ds k kx => ∀ p,
  (tsSeq (tsIf (tbAnd (tbV (tpOp fEq (tpOp fIx (tpVarU 0) (tpC (.int 2))) (tpC (.int 0)))) (tbV (tpOp fLt (tpOp fIx (tpVarU 0) (tpC (.int 1))) (tp1 fLenS (tpOp fIx (tpVarU 0) (tpC (.int 0)))))))
    (tsSeq (tsSet 2 (tpOp fIx (tpOp fIx (tpVarU 0) (tpC (.int 0))) (tpOp fIx (tpVarU 0) (tpC (.int 1)))))
    (tsSeq (tsSetIx 0 (tpC (.int 1)) (tpOp fAdd (tpOp fIx (tpVarU 0) (tpC (.int 1))) (tpC (.int 1))))
    (tsIf (tbV (tpOp fGe (tpVar 2) (tpOp fPow (tpC (.int 10)) (tpC (.int 18)))))
    (tsSetIx 0 (tpC (.int 2)) (tpVar 2))
    (tsSetIx 0 (tpC (.int 3)) (tpOp fMod (tp1 fInt (tpOp fAdd (tpOp fAdd (tpOp fMul (tpOp fIx (tpVarU 0) (tpC (.int 3))) (tpC (.int 52361))) (tpOp fMul (tpOp fMod (tp1 fInt (tpVar 2)) (tpC (.int 2147483399))) (tpC (.int 6121)))) (tpC (.int 43)))) (tpC (.int 2147483543)))))))
    tsNext)
    (tsSeq (tsIf (tbV (tpOp fGt (tpOp fIx (tpVarU 0) (tpC (.int 2))) (tpC (.int 0))))
    (tsSeq (tsSet 3 (tpOp fMod (tp1 fInt (tpOp fIx (tpVarU 0) (tpC (.int 2)))) (tpVar 1)))
    (tsSeq (tsSetIx 0 (tpC (.int 2)) (tpOp fFdiv (tpOp fIx (tpVarU 0) (tpC (.int 2))) (tpVar 1)))
    (tsRet (tpVar 3))))
    tsNext)
    (tsSeq (tsSet 4 (tpOp fIx (tpVarU 0) (tpC (.int 3))))
    (tsSeq (tsSetIx 0 (tpC (.int 3)) (tpOp fMod (tp1 fInt (tpOp fAdd (tpOp fAdd (tpOp fMul (tpVar 4) (tpVar 4)) (tpOp fMul (tpVar 4) (tpC (.int 21577)))) (tpC (.int 1406111)))) (tpC (.int 2147483543))))
    (tsRet (tpOp fMod (tp1 fInt (tpOp fAdd (tpOp fFdiv (tpOp fIx (tpVarU 0) (tpC (.int 3))) (tpC (.int 61))) (tpOp fMul (tpOp fMod (tp1 fInt (tpOp fIx (tpVarU 0) (tpC (.int 3)))) (tpC (.int 7919))) (tpC (.int 47))))) (tpVar 1)))))))
  (oEnds 0 p k kx) (gaO 5 0 p ds)
def m_law_pick (fs_law_pull : FS) : FS := fun ds k kx =>
  (tsRet (tpOp fIx (tpVar 1) (tpCall 2 fs_law_pull (tlCons (tpVar 0) (tlCons (tp1 fLenS (tpVar 1)) tlNil)))))
  (fEnds k kx) (ga0 2 ds)
def m_law_letters : FS := fun ds k kx =>
  (tsRet (tpC (.str [97, 98, 99, 100, 101, 102, 103, 104, 105, 106, 107, 108, 109, 110, 111, 112, 113, 114, 115, 116, 117, 118, 119, 120, 121, 122])))
  (fEnds k kx) (ga0 0 ds)
def m_law_alphabet (fs_law_pull fs_law_pick fs_law_letters : FS) : FS := fun ds k kx =>
  (tsSeq (tsSet 2 (tpOp fAdd (tpC (.int 1)) (tpCall 2 fs_law_pull (tlCons (tpVar 0) (tlCons (tpVar 1) tlNil)))))
    (tsSeq (tsPar [3, 4, 5] (tlCons (tpC (.str [])) (tlCons (tpC (.int 0)) (tlCons (tpOp fSub (tpC (.int 26)) (tpVar 2)) tlNil))))
    (tsSeq (tsFor (tiRng1 (tlCons (tpVar 2) tlNil)) (tgName 6)
    (tsSeq (tsSet 7 (tpCall 2 fs_law_pick (tlCons (tpVar 0) (tlCons (tpLst (tlCons (tpC (.int 0)) (tlCons (tpCall 2 fs_law_pull (tlCons (tpVar 0) (tlCons (tpOp fAdd (tpVar 5) (tpC (.int 1))) tlNil))) (tlCons (tpN fMin2 (tlCons (tpVar 5) (tlCons (tpCall 2 fs_law_pull (tlCons (tpVar 0) (tlCons (tpC (.int 4)) tlNil))) tlNil))) tlNil)))) tlNil))))
    (tsSeq (tsPar [4, 5] (tlCons (tpOp fAdd (tpVar 4) (tpVar 7)) (tlCons (tpOp fSub (tpVar 5) (tpVar 7)) tlNil)))
    (tsSeq (tsSet 3 (tpOp fAdd (tpVar 3) (tpOp fIx (tpCall 0 fs_law_letters tlNil) (tpVar 4))))
    (tsSet 4 (tpOp fAdd (tpVar 4) (tpC (.int 1))))))))
    (tsRet (tpVar 3)))))
  (fEnds k kx) (ga0 8 ds)
def m_law_drawn (fs_law_pick fs_law_pull : FS) : FS := fun ds k kx =>
  (tsSeq (tsPar [3, 4] (tlCons (tpCall 2 fs_law_pick (tlCons (tpVar 0) (tlCons (tpLst (tlCons (tpCall 2 fs_law_pull (tlCons (tpVar 0) (tlCons (tpOp fAdd (tpVar 2) (tpC (.int 1))) tlNil))) (tlCons (tpCall 2 fs_law_pull (tlCons (tpVar 0) (tlCons (tpOp fAdd (tpN fMin2 (tlCons (tpVar 2) (tlCons (tpC (.int 5)) tlNil))) (tpC (.int 1))) tlNil))) tlNil))) tlNil))) (tlCons (tpC (.str [])) tlNil)))
    (tsSeq (tsFor (tiRng1 (tlCons (tpVar 3) tlNil)) (tgName 5)
    (tsSeq (tsSet 6 (tpCall 2 fs_law_pull (tlCons (tpVar 0) (tlCons (tpC (.int 5)) tlNil))))
    (tsSeq (tsIf (tbAnd (tbV (tpOp fEq (tpVar 6) (tpC (.int 0)))) (tbV (tpOp fNe (tpVar 4) (tpC (.str [])))))
    (tsSet 4 (tpOp fAdd (tpVar 4) (tpSl (tpVar 4) (toSome (tpOp fSub (tpOp fSub (tp1 fLenS (tpVar 4)) (tpC (.int 1))) (tpCall 2 fs_law_pull (tlCons (tpVar 0) (tlCons (tp1 fLenS (tpVar 4)) tlNil))))) toNo)))
    (tsIf (tbAnd (tbV (tpOp fEq (tpVar 6) (tpC (.int 1)))) (tbV (tpOp fGt (tp1 fLenS (tpVar 4)) (tpC (.int 1)))))
    (tsSet 4 (tpOp fAdd (tpVar 4) (tpOp fIx (tpVar 4) (tpCall 2 fs_law_pull (tlCons (tpVar 0) (tlCons (tp1 fLenS (tpVar 4)) tlNil))))))
    (tsSet 4 (tpOp fAdd (tpVar 4) (tpCall 2 fs_law_pick (tlCons (tpVar 0) (tlCons (tpVar 1) tlNil)))))))
    (tsSet 4 (tpSl (tpVar 4) toNo (toSome (tpVar 2)))))))
    (tsRet (tpSl (tpVar 4) toNo (toSome (tpVar 3))))))
  (fEnds k kx) (ga0 7 ds)
def m_law_same (fs_law_same : FS) : FS := fun ds k kx =>
  (tsSeq (tsIf (tbOr (tbV (tpIsN (tpVar 1))) (tbV (tpIsN (tpVar 0))))
    (tsRet (tpAnd (tpIsN (tpVar 1)) (tpIsN (tpVar 0))))
    tsNext)
    (tsSeq (tsIf (tbOr (tbV (tp1 (fIsi "bool") (tpVar 1))) (tbV (tp1 (fIsi "bool") (tpVar 0))))
    (tsRet (tpAnd (tp1 (fIsi "bool") (tpVar 1)) (tpAnd (tp1 (fIsi "bool") (tpVar 0)) (tpOp fEq (tpVar 0) (tpVar 1)))))
    tsNext)
    (tsSeq (tsIf (tbV (tp1 (fIsi "int") (tpVar 1)))
    (tsRet (tpAnd (tp1 (fIsi "int") (tpVar 0)) (tpOp fEq (tpVar 0) (tpVar 1))))
    tsNext)
    (tsSeq (tsIf (tbV (tp1 (fIsi "str") (tpVar 1)))
    (tsRet (tpAnd (tp1 (fIsi "str") (tpVar 0)) (tpOp fEq (tpVar 0) (tpVar 1))))
    tsNext)
    (tsSeq (tsIf (tbOr (tbV (tpOp fNe (tp1 (fIsi "list") (tpVar 1)) (tp1 (fIsi "list") (tpVar 0)))) (tbV (tpOp fNe (tp1 (fIsi "tuple") (tpVar 1)) (tp1 (fIsi "tuple") (tpVar 0)))))
    (tsRet (tpC (.bl false)))
    tsNext)
    (tsRet (tpAnd (tpOp fEq (tp1 fLenS (tpVar 0)) (tp1 fLenS (tpVar 1))) (tp1 fAll (tpLc [2] (tiRng1 (tlCons (tp1 fLenS (tpVar 1)) tlNil)) (tgName 2) tbYes (tpCall 2 fs_law_same (tlCons (tpOp fIx (tpVar 0) (tpVar 2)) (tlCons (tpOp fIx (tpVar 1) (tpVar 2)) tlNil))))))))))))
  (fEnds k kx) (ga0 3 ds)
def LET : List Nat := [97, 98, 99, 100, 101, 102, 103, 104, 105, 106, 107, 108, 109, 110, 111, 112, 113, 114, 115, 116, 117, 118, 119, 120, 121, 122]
def isLog : D → Bool
  | .str s => s.all fun c => decide (c ∈ LET)
  | _ => false
def goodL (d : D) : Prop := (tyD d).isSome = true ∧ ∀ s, d = .str s → s.length ≤ 3000
def fsIsLog : FS := fun ds k _ => match ds with
  | [d] => goodL d ∧ k (.bl (isLog d))
  | _ => False
def deeds (s : List Nat) : List Nat := LET.filter fun c => decide (c ∈ s)
def fsPick : FS := fun ds k _ => match ds with
  | [.bag, .str s] => (s ≠ [] ∧ s.length ≤ 100000) ∧ ∀ c ∈ s, k (.str [c])
  | [.bag, .lst xs] => (xs ≠ [] ∧ xs.length ≤ 100000) ∧ ∀ x ∈ xs, k x
  | _ => False
def fsLetters : FS := fun _ k _ => k (.str LET)
def fsDrawn : FS := fun ds k _ => match ds with
  | [.bag, .str s, .int m] => (s ≠ [] ∧ s.length ≤ 100000 ∧ D.plain (.str s) = true ∧ 0 ≤ m ∧ m ≤ 3000) ∧ ∀ t : List Nat, t.length ≤ m.toNat → (∀ c ∈ t, c ∈ s) → k (.str t)
  | _ => False
mutual
/-- values that _law_same takes, n deep -/
def okS : Nat → D → Prop
  | _, .non => True
  | _, .bl _ => True
  | _, .int _ => True
  | _, .str s => s.length ≤ 100000 ∧ D.plain (.str s) = true
  | n + 1, .lst xs => xs.length ≤ 100000 ∧ okSL n xs
  | n + 1, .tup xs => xs.length ≤ 100000 ∧ okSL n xs
  | _, _ => False
def okSL : Nat → List D → Prop
  | _, [] => True
  | n, d :: r => okS n d ∧ okSL n r
end
/-- two equal values are the same -/
def fsSame : Nat → FS
  | 0 => fun _ _ _ => False
  | n + 1 => fun ds k _ => match ds with
    | [a, b] => a = b ∧ okS n a ∧ k (.bl true)
    | _ => False
def fsLaw : FS := fun ds k _ => match ds with
  | [.scr] => k (.bl true)
  | _ => False
theorem same_zero [Tabl] {P : Program} {w : World} {K : PySem.W.Frag} {mg : PySem.Str → Option Value} {base : Heap} {CX : CXT} {f : Addr} {fd : FuncData} {ps : List PySem.Str} : FnOk P w K mg base CX 0 f fd ps (spOf K 2 (fsSame 0)) :=
  ⟨fun vs H Q E ⟨G, ds, k, kx, _, _, _, h, _⟩ => h.elim, fun A outer s H args us vs Q E _ _ _ _ ⟨G, ds, k, kx, _, _, _, h, _⟩ => h.elim⟩
theorem law_entry [Tabl] {K : PySem.W.Frag} {H : Hp} {a : Addr} {ns : List Int} (tb : LamX.Tabs Tabl.T H) (hS : SqL K H a (ns.map V.int)) (hn : ns.length ≤ 63) : spOf K 1 fsLaw [.ref a] H (fun v _ => v = .bl true) fun _ _ _ => False := by
  let G : Hp := fun b => if b = a then (match H b with | some (.tbl _) => none | x => x) else none
  have gm : ∀ b o, G b = some o → H b = some o ∧ NT o := fun b o e => by
    show _ ∧ _
    by_cases hb : b = a
    · have e : (match H b with | some (.tbl _) => none | x => x) = some o := by
        have z : (if b = a then (match H b with | some (.tbl _) => none | x => x) else none) = some o := e
        rw [if_pos hb] at z
        exact z
      cases hH : H b with
      | none => rw [hH] at e; cases e
      | some u =>
        rw [hH] at e
        cases u with
        | tbl ps => cases e
        | _ => exact ⟨e, by cases e; intro ps z; cases z⟩
    · have z : (if b = a then (match H b with | some (.tbl _) => none | x => x) else none) = some o := e
      rw [if_neg hb] at z
      cases z
  have gs : SqL K G a (ns.map V.int) := by
    rcases hS with (h | ⟨o, h⟩) | h
    · exact .inl (.inl (by show (if a = a then (match H a with | some (.tbl _) => none | x => x) else none) = _; rw [if_pos rfl, h]))
    · exact .inl (.inr ⟨o, by show (if a = a then (match H a with | some (.tbl _) => none | x => x) else none) = _; rw [if_pos rfl, h]⟩)
    · exact .inr h
  exact ⟨G, [.scr], fun d => d = .bl true, fun _ => False, ⟨fun b o e => .inl (gm b o e).1, fun b o e => (gm b o e).2, tb⟩, .cons (.scr gs hn) .nil, rfl, rfl, fun d v G' H' e _ n => by subst e; cases n; rfl, fun _ _ _ _ _ z => z.elim⟩
theorem ite_of {c : Bool} {A B : Prop} (h1 : c = true → A) (h2 : c = false → B) : if c = true then A else B := by
  cases c with
  | true => exact h1 rfl
  | false => exact h2 rfl
theorem eqInt {i j : Int} : eqD (.int i) (.int j) = decide (i = j) := rfl
/-- a comprehension over a text, all of it -/
theorem lc_all {te : TP} {i : Nat} {Γ : Ga} {f : Nat → D} : ∀ (s : List Nat) {k : List D → Prop}, (∀ c ∈ s, ∀ k' : KD, k' (f c) → te (gset Γ i (.pu (.str [c]))) k' (fun _ => False)) → k (s.map f) → lcW (tgName i) tbYes te Γ (s.map fun c => .str [c]) k
  | [], k, _, h => h
  | c :: s, k, hs, h => by
    exact hs c List.mem_cons_self _ (lc_all s (fun d hd => hs d (List.mem_cons_of_mem _ hd)) h)
/-- .. over a range -/
theorem lc_rng {te : TP} {i : Nat} {Γ : Ga} {f : Nat → D} : ∀ (s : List Nat) {k : List D → Prop}, (∀ c ∈ s, ∀ k' : KD, k' (f c) → te (gset Γ i (.pu (.int (c : Nat)))) k' (fun _ => False)) → k (s.map f) → lcW (tgName i) tbYes te Γ (s.map fun c => .int (c : Nat)) k
  | [], k, _, h => h
  | c :: s, k, hs, h => by
    exact hs c List.mem_cons_self _ (lc_rng s (fun d hd => hs d (List.mem_cons_of_mem _ hd)) h)
theorem at_nat {α : Type} (xs : List α) (i : Nat) (h : i < xs.length) : atI xs (i : Int) = some xs[i] := by
  unfold atI ixN
  rw [if_pos (Int.natCast_nonneg i), if_pos (by exact_mod_cast h)]
  exact List.getElem?_eq_getElem h
section
local instance noTab : Tabl := ⟨[], fun p hp => absurd hp (by simp)⟩
variable {ds : List D} {kd : KD} {kx : KX} {C : Addr}
theorem is_log_ok' : fsIsLog ds kd kx → m_is_log ds kd kx := by
  intro h
  match ds, h with
  | [d], ⟨⟨g1, g2⟩, h⟩ =>
    cases d with
    | str s =>
      have hl := g2 s rfl
      refine ⟨by rw [List.length_map]; omega, lc_all (f := fun c => .bl (decide (c ∈ LET))) s (fun c _ k' h' => h') ?_⟩
      have e : (s.map fun c => D.bl (decide (c ∈ LET))) = (s.map fun c => decide (c ∈ LET)).map D.bl := by rw [List.map_map]; rfl
      show onBs (s.map fun c => D.bl (decide (c ∈ LET))) _
      rw [e, onBs_map, List.all_map]
      exact h
    | non => exact h
    | bl b => exact h
    | int b => exact h
    | lst b => exact h
    | tup b => exact h
    | dct b => exact h
    | _ => cases g1
theorem letters_ok' (h : ds.length = 0) : fsLetters ds kd kx → m_law_letters ds kd kx := fun h => h
theorem pick_ok' : fsPick ds kd kx → m_law_pick fsPull ds kd kx := by
  intro h
  match ds, h with
  | [.bag, .str s], ⟨⟨h1, h2⟩, h⟩ =>
    have hp : 0 < s.length := List.length_pos_iff.mpr h1
    refine ⟨Nat.le_trans h2 (by decide), rfl, ⟨by omega, by omega⟩, fun r r0 r1 => ⟨Nat.le_trans h2 (by decide), ?_⟩⟩
    obtain ⟨n, rfl⟩ := Int.eq_ofNat_of_zero_le r0
    have hn : n < s.length := by omega
    rw [at_nat s n hn]
    exact h _ (List.getElem_mem hn)
  | [.bag, .lst s], ⟨⟨h1, h2⟩, h⟩ =>
    have hp : 0 < s.length := List.length_pos_iff.mpr h1
    refine ⟨rfl, ⟨by omega, by omega⟩, fun r r0 r1 => ?_⟩
    obtain ⟨n, rfl⟩ := Int.eq_ofNat_of_zero_le r0
    have hn : n < s.length := by omega
    show (match atI s (n : Int) with | some d => kd d | none => False)
    rw [at_nat s n hn]
    exact h _ (List.getElem_mem hn)
theorem nodup_le : ∀ (a b : List Nat), a.Nodup → (∀ c ∈ a, c ∈ b) → a.length ≤ b.length
  | [], _, _, _ => Nat.zero_le _
  | x :: a, b, nd, h => by
    obtain ⟨nx, nd⟩ := List.nodup_cons.mp nd
    have hx := h x List.mem_cons_self
    have := nodup_le a (b.erase x) nd fun c hc => (List.mem_erase_of_ne (fun z => nx (by rw [← z]; exact hc))).mpr (h c (List.mem_cons_of_mem _ hc))
    rw [List.length_erase_of_mem hx] at this
    have : 0 < b.length := List.length_pos_of_mem hx
    rw [List.length_cons]
    omega
end
def pull2 : TSp :=
    (tsSeq (tsIf (tbV (tpOp fGt (tpOp fIx (tpVarU 0) (tpC (.int 2))) (tpC (.int 0))))
    (tsSeq (tsSet 3 (tpOp fMod (tp1 fInt (tpOp fIx (tpVarU 0) (tpC (.int 2)))) (tpVar 1)))
    (tsSeq (tsSetIx 0 (tpC (.int 2)) (tpOp fFdiv (tpOp fIx (tpVarU 0) (tpC (.int 2))) (tpVar 1)))
    (tsRet (tpVar 3))))
    tsNext)
    (tsSeq (tsSet 4 (tpOp fIx (tpVarU 0) (tpC (.int 3))))
    (tsSeq (tsSetIx 0 (tpC (.int 3)) (tpOp fMod (tp1 fInt (tpOp fAdd (tpOp fAdd (tpOp fMul (tpVar 4) (tpVar 4)) (tpOp fMul (tpVar 4) (tpC (.int 21577)))) (tpC (.int 1406111)))) (tpC (.int 2147483543))))
    (tsRet (tpOp fMod (tp1 fInt (tpOp fAdd (tpOp fFdiv (tpOp fIx (tpVarU 0) (tpC (.int 3))) (tpC (.int 61))) (tpOp fMul (tpOp fMod (tp1 fInt (tpOp fIx (tpVarU 0) (tpC (.int 3)))) (tpC (.int 7919))) (tpC (.int 47))))) (tpVar 1))))))
theorem pull2_ok {l p : Addr} {ns : List Int} {i : Nat} {g s n : Int} {k : D → D → Prop} {sl : Sl} (hi : i ≤ ns.length) (hg : 0 ≤ g) (hs : 0 ≤ s) (hs2 : s < 2147483543) (hn : 1 ≤ n) (hn2 : n < 1073741824)
    (hk : ∀ (r : Int) (i' : Nat) (g' s' : Int), 0 ≤ r → r < n → i' ≤ ns.length → 0 ≤ g' → 0 ≤ s' → s' < 2147483543 → k (.int r) (.lst [.cel l ns, .int i', .int g', .int s'])) :
    pull2 (oEnds 0 p k (fun _ => False)) [.pw p (.lst [.cel l ns, .int i, .int g, .int s]), .pu (.int n), sl, .un, .un] := by
  refine ite_of (fun h => ?_) (fun h => ?_)
  · refine ⟨by omega, ⟨by omega, hn2⟩, rfl, hk _ i (g / n) s (Int.emod_nonneg _ (by omega)) (Int.emod_lt_of_pos _ (by omega)) hi (Int.ediv_nonneg hg (by omega)) hs hs2⟩
  · have z0 := Int.emod_nonneg (s * s + s * 21577 + 1406111) (show (2147483543 : Int) ≠ 0 by decide)
    have z1 := Int.emod_lt_of_pos (s * s + s * 21577 + 1406111) (show (0 : Int) < 2147483543 by decide)
    refine ⟨?_, ?_, by decide, ⟨by decide, by decide⟩, by decide, ?_, by omega, rfl, hk _ i g _ (Int.emod_nonneg _ (by omega)) (Int.emod_lt_of_pos _ (by omega)) hi hg z0 z1⟩
    · exact .inl ⟨by omega, by omega⟩
    · exact .inl ⟨by omega, by omega⟩
    · exact .inr ⟨by decide, by decide⟩
def pull1 : TSp :=
  (tsIf (tbAnd (tbV (tpOp fEq (tpOp fIx (tpVarU 0) (tpC (.int 2))) (tpC (.int 0)))) (tbV (tpOp fLt (tpOp fIx (tpVarU 0) (tpC (.int 1))) (tp1 fLenS (tpOp fIx (tpVarU 0) (tpC (.int 0)))))))
    (tsSeq (tsSet 2 (tpOp fIx (tpOp fIx (tpVarU 0) (tpC (.int 0))) (tpOp fIx (tpVarU 0) (tpC (.int 1)))))
    (tsSeq (tsSetIx 0 (tpC (.int 1)) (tpOp fAdd (tpOp fIx (tpVarU 0) (tpC (.int 1))) (tpC (.int 1))))
    (tsIf (tbV (tpOp fGe (tpVar 2) (tpOp fPow (tpC (.int 10)) (tpC (.int 18)))))
    (tsSetIx 0 (tpC (.int 2)) (tpVar 2))
    (tsSetIx 0 (tpC (.int 3)) (tpOp fMod (tp1 fInt (tpOp fAdd (tpOp fAdd (tpOp fMul (tpOp fIx (tpVarU 0) (tpC (.int 3))) (tpC (.int 52361))) (tpOp fMul (tpOp fMod (tp1 fInt (tpVar 2)) (tpC (.int 2147483399))) (tpC (.int 6121)))) (tpC (.int 43)))) (tpC (.int 2147483543)))))))
    tsNext)
theorem pull1_ok {l p : Addr} {ns : List Int} {i : Nat} {g s n : Int} {P : PEn} (hi : i ≤ ns.length) (hg : 0 ≤ g) (hs : 0 ≤ s) (hs2 : s < 2147483543)
    (hk : ∀ (i' : Nat) (g' s' : Int) (sl : Sl), i' ≤ ns.length → 0 ≤ g' → 0 ≤ s' → s' < 2147483543 → P.nx [.pw p (.lst [.cel l ns, .int i', .int g', .int s']), .pu (.int n), sl, .un, .un]) :
    pull1 P [.pw p (.lst [.cel l ns, .int i, .int g, .int s]), .pu (.int n), .un, .un, .un] := by
  refine ⟨⟨rfl, rfl, Nat.zero_le _, Nat.zero_le _⟩, ite_of (fun h => ?_) (fun h => hk i g s _ hi hg hs hs2)⟩
  refine ite_of (fun h2 => ?_) (fun h2 => hk i g s _ hi hg hs hs2)
  have h2 : decide ((i : Int) < (ns.length : Int)) = true := h2
  have hl : i < ns.length := by
    have := of_decide_eq_true h2
    omega
  show (match atI ns (i : Int) with | some n => _ | none => False)
  rw [at_nat ns i hl]
  refine ⟨⟨by decide, by decide, by decide⟩, ite_of (fun h3 => ?_) (fun h3 => ?_)⟩
  · have h3 : decide ((10 : Int) ^ (18 : Int).toNat ≤ ns[i]) = true := h3
    have h4 : (10 : Int) ^ 18 ≤ ns[i] := of_decide_eq_true h3
    exact hk (i + 1) ns[i] s _ hl (by omega) hs hs2
  · have z0 := Int.emod_nonneg (s * 52361 + ns[i] % 2147483399 * 6121 + 43) (show (2147483543 : Int) ≠ 0 by decide)
    have z1 := Int.emod_lt_of_pos (s * 52361 + ns[i] % 2147483399 * 6121 + 43) (show (0 : Int) < 2147483543 by decide)
    exact ⟨.inl ⟨by omega, by omega⟩, by decide, .inr ⟨by decide, by decide⟩, by decide, hk (i + 1) g _ _ hl hg z0 z1⟩
theorem pull_ok' : PullOk m_law_pull := by
  intro l ns i g s n k h63 hi hg hs hs2 hn hn2 hk p
  exact pull1_ok (P := { oEnds 0 p k (fun _ => False) with nx := pull2 (oEnds 0 p k (fun _ => False)) }) hi hg hs hs2 fun i' g' s' sl a b c d => pull2_ok a b c d hn hn2 hk
section
variable {ds : List D} {kd : KD} {kx : KX} {C : Addr}
local instance : Tabl := ⟨[], fun p hp => absurd hp (by simp)⟩
theorem eqS (s : List Nat) : eqD (.str s) (.str s) = true := by
  show (SS s == SS s) = true
  simp
theorem okSL_mem {n : Nat} : ∀ {xs : List D} {x : D}, okSL n xs → x ∈ xs → okS n x
  | [], x, _, h => absurd h (by simp)
  | y :: ys, x, h, hx => by
    rcases List.mem_cons.mp hx with rfl | hx
    · exact h.1
    · exact okSL_mem h.2 hx
theorem same_ok' {n : Nat} : fsSame (n + 1) ds kd kx → m_law_same (fsSame n) ds kd kx := by
  intro h0
  match ds, h0 with
  | [a, b], ⟨e, ok, h⟩ =>
    subst e
    cases a with
    | non => exact h
    | bl b =>
      refine ⟨⟨rfl, rfl, Nat.zero_le _, Nat.zero_le _⟩, ?_⟩
      cases b <;> exact h
    | int i =>
      refine ⟨⟨rfl, rfl, Nat.zero_le _, Nat.zero_le _⟩, ?_⟩
      rw [eqInt, decide_eq_true rfl]
      exact h
    | str s =>
      have ok : s.length ≤ 100000 ∧ D.plain (.str s) = true := by cases n <;> exact ok
      refine ⟨⟨ok.2, ok.2, Nat.zero_le _, Nat.zero_le _⟩, ?_⟩
      rw [eqS]
      exact h
    | lst xs =>
      cases n with
      | zero => exact ok.elim
      | succ m =>
        obtain ⟨hl, ok⟩ := ok
        refine ⟨⟨rfl, rfl, Nat.zero_le _, Nat.zero_le _⟩, ⟨rfl, rfl, Nat.zero_le _, Nat.zero_le _⟩, ⟨rfl, rfl, Nat.zero_le _, Nat.zero_le _⟩, ?_⟩
        rw [eqInt, decide_eq_true rfl]
        refine ⟨⟨by omega, by omega⟩, by rw [List.length_map, List.length_range]; omega, lc_rng (f := fun _ => .bl true) _ (fun c hc k' hk' => ?_) ?_⟩
        · have hc : c < xs.length := by simpa using hc
          show (match atI xs (c : Int) with | some d => _ | none => False)
          rw [at_nat xs c hc]
          show (match atI xs (c : Int) with | some d => _ | none => False)
          rw [at_nat xs c hc]
          exact ⟨rfl, rfl, okSL_mem ok (List.getElem_mem hc), hk'⟩
        · have e : ((List.range ((xs.length : Int)).toNat).map fun _ => D.bl true) = ((List.range ((xs.length : Int)).toNat).map fun _ => true).map D.bl := by rw [List.map_map]; rfl
          show onBs ((List.range ((xs.length : Int)).toNat).map fun _ => D.bl true) _
          rw [e, onBs_map]
          have e2 : ((List.range ((xs.length : Int)).toNat).map fun _ => true).all id = true := by simp
          rw [e2]
          exact h
    | tup xs =>
      cases n with
      | zero => exact ok.elim
      | succ m =>
        obtain ⟨hl, ok⟩ := ok
        refine ⟨⟨rfl, rfl, Nat.zero_le _, Nat.zero_le _⟩, ⟨rfl, rfl, Nat.zero_le _, Nat.zero_le _⟩, ⟨rfl, rfl, Nat.zero_le _, Nat.zero_le _⟩, ?_⟩
        rw [eqInt, decide_eq_true rfl]
        refine ⟨⟨by omega, by omega⟩, by rw [List.length_map, List.length_range]; omega, lc_rng (f := fun _ => .bl true) _ (fun c hc k' hk' => ?_) ?_⟩
        · have hc : c < xs.length := by simpa using hc
          show (match atI xs (c : Int) with | some d => _ | none => False)
          rw [at_nat xs c hc]
          show (match atI xs (c : Int) with | some d => _ | none => False)
          rw [at_nat xs c hc]
          exact ⟨rfl, rfl, okSL_mem ok (List.getElem_mem hc), hk'⟩
        · have e : ((List.range ((xs.length : Int)).toNat).map fun _ => D.bl true) = ((List.range ((xs.length : Int)).toNat).map fun _ => true).map D.bl := by rw [List.map_map]; rfl
          show onBs ((List.range ((xs.length : Int)).toNat).map fun _ => D.bl true) _
          rw [e, onBs_map]
          have e2 : ((List.range ((xs.length : Int)).toNat).map fun _ => true).all id = true := by simp
          rw [e2]
          exact h
    | _ => exact ok.elim
theorem cut_mem {t : List Nat} {lo hi : Option Int} {c : Nat} (h : c ∈ cutL t lo hi) : c ∈ t := by
  unfold cutL at h
  exact List.mem_of_mem_drop (List.mem_of_mem_take h)
theorem cut_len {t : List Nat} {lo hi : Option Int} : (cutL t lo hi).length ≤ t.length := by
  unfold cutL
  rw [List.length_take, List.length_drop]
  omega
theorem cut_hi {t : List Nat} {m : Int} (h : 0 ≤ m) : (cutL t none (some m)).length ≤ m.toNat := by
  obtain ⟨n, rfl⟩ := Int.eq_ofNat_of_zero_le h
  unfold cutL
  rw [List.length_take, HT.sIx_none, HT.sIx_nat]
  show min (min n t.length - 0) _ ≤ n
  omega
def drawn_body : TSp :=
    (tsSeq (tsSet 6 (tpCall 2 fsPull (tlCons (tpVar 0) (tlCons (tpC (.int 5)) tlNil))))
    (tsSeq (tsIf (tbAnd (tbV (tpOp fEq (tpVar 6) (tpC (.int 0)))) (tbV (tpOp fNe (tpVar 4) (tpC (.str [])))))
    (tsSet 4 (tpOp fAdd (tpVar 4) (tpSl (tpVar 4) (toSome (tpOp fSub (tpOp fSub (tp1 fLenS (tpVar 4)) (tpC (.int 1))) (tpCall 2 fsPull (tlCons (tpVar 0) (tlCons (tp1 fLenS (tpVar 4)) tlNil))))) toNo)))
    (tsIf (tbAnd (tbV (tpOp fEq (tpVar 6) (tpC (.int 1)))) (tbV (tpOp fGt (tp1 fLenS (tpVar 4)) (tpC (.int 1)))))
    (tsSet 4 (tpOp fAdd (tpVar 4) (tpOp fIx (tpVar 4) (tpCall 2 fsPull (tlCons (tpVar 0) (tlCons (tp1 fLenS (tpVar 4)) tlNil))))))
    (tsSet 4 (tpOp fAdd (tpVar 4) (tpCall 2 fsPick (tlCons (tpVar 0) (tlCons (tpVar 1) tlNil)))))))
    (tsSet 4 (tpSl (tpVar 4) toNo (toSome (tpVar 2))))))
theorem drawn_step {s t : List Nat} {m z : Int} {s5 s6 : Sl} {P : PEn} (hs : s ≠ []) (hsl : s.length ≤ 100000) (hpl : D.plain (.str s) = true) (hm : 0 ≤ m) (hm2 : m ≤ 3000) (ht : t.length ≤ m.toNat) (hts : ∀ c ∈ t, c ∈ s)
    (hk : ∀ (t' : List Nat) (s6' : Sl), t'.length ≤ m.toNat → (∀ c ∈ t', c ∈ s) → P.nx [.pu .bag, .pu (.str s), .pu (.int m), .pu (.int z), .pu (.str t'), s5, s6']) :
    drawn_body P [.pu .bag, .pu (.str s), .pu (.int m), .pu (.int z), .pu (.str t), s5, s6] := by
  have tp : D.plain (.str t) = true := by
    show t.all _ = true
    rw [List.all_eq_true]
    exact fun c hc => List.all_eq_true.mp hpl c (hts c hc)
  have big : t.length ≤ sizeLine := Nat.le_trans (show t.length ≤ 3000 by omega) (by decide)
  -- behind the piece that is put on
  have fin : ∀ (u : List Nat) (s6' : Sl), u.length ≤ 7000 → (∀ c ∈ u, c ∈ s) → (tsSet 4 (tpSl (tpVar 4) toNo (toSome (tpVar 2)))) P [.pu .bag, .pu (.str s), .pu (.int m), .pu (.int z), .pu (.str u), s5, s6'] := fun u s6' hu hus =>
    ⟨Nat.le_trans hu (by decide), hk _ _ (cut_hi hm) fun c hc => hus c (cut_mem hc)⟩
  refine ⟨rfl, ⟨by decide, by decide⟩, fun r r0 r1 => ?_⟩
  have second : (tsIf (tbAnd (tbV (tpOp fEq (tpVar 6) (tpC (.int 1)))) (tbV (tpOp fGt (tp1 fLenS (tpVar 4)) (tpC (.int 1)))))
    (tsSet 4 (tpOp fAdd (tpVar 4) (tpOp fIx (tpVar 4) (tpCall 2 fsPull (tlCons (tpVar 0) (tlCons (tp1 fLenS (tpVar 4)) tlNil))))))
    (tsSet 4 (tpOp fAdd (tpVar 4) (tpCall 2 fsPick (tlCons (tpVar 0) (tlCons (tpVar 1) tlNil)))))) { P with nx := (tsSet 4 (tpSl (tpVar 4) toNo (toSome (tpVar 2)))) P } [.pu .bag, .pu (.str s), .pu (.int m), .pu (.int z), .pu (.str t), s5, .pu (.int r)] := by
    have pick : (tsSet 4 (tpOp fAdd (tpVar 4) (tpCall 2 fsPick (tlCons (tpVar 0) (tlCons (tpVar 1) tlNil))))) { P with nx := (tsSet 4 (tpSl (tpVar 4) toNo (toSome (tpVar 2)))) P } [.pu .bag, .pu (.str s), .pu (.int m), .pu (.int z), .pu (.str t), s5, .pu (.int r)] := by
      refine ⟨rfl, ⟨hs, hsl⟩, fun c hc => ⟨Nat.le_trans (show t.length + 1 ≤ 3001 by omega) (by decide), fin _ _ (by rw [List.length_append, List.length_singleton]; omega) fun d hd => ?_⟩⟩
      rcases List.mem_append.mp hd with hd | hd
      · exact hts d hd
      · rw [List.mem_singleton.mp hd]
        exact hc
    refine ⟨⟨rfl, rfl, Nat.zero_le _, Nat.zero_le _⟩, ite_of (fun h1 => ⟨big, ite_of (fun h2 => ?_) (fun _ => pick)⟩) (fun _ => pick)⟩
    have h2 : decide ((1 : Int) < (t.length : Int)) = true := h2
    have hp := of_decide_eq_true h2
    refine ⟨big, rfl, ⟨by omega, by omega⟩, fun q q0 q1 => ⟨big, ?_⟩⟩
    obtain ⟨n, rfl⟩ := Int.eq_ofNat_of_zero_le q0
    have hn : n < t.length := by omega
    rw [at_nat t n hn]
    refine ⟨Nat.le_trans (show t.length + 1 ≤ 3001 by omega) (by decide), fin _ _ (by rw [List.length_append, List.length_singleton]; omega) fun d hd => ?_⟩
    rcases List.mem_append.mp hd with hd | hd
    · exact hts d hd
    · rw [List.mem_singleton.mp hd]
      exact hts _ (List.getElem_mem hn)
  refine ⟨⟨rfl, rfl, Nat.zero_le _, Nat.zero_le _⟩, ite_of (fun h1 => ?_) (fun h1 => second)⟩
  refine ⟨⟨tp, rfl, Nat.zero_le _, Nat.zero_le _⟩, ite_of (fun h2 => ?_) (fun h2 => second)⟩
  have ne : t ≠ [] := fun z => by
    subst z
    exact absurd h2 (by decide)
  have hp : 0 < t.length := List.length_pos_iff.mpr ne
  refine ⟨big, big, rfl, ⟨by omega, by omega⟩, fun q q0 q1 => ⟨big, ?_, fin _ _ ?_ fun d hd => ?_⟩⟩
  · have := cut_len (t := t) (lo := some ((t.length : Int) - 1 - q)) (hi := none)
    exact Nat.le_trans (show _ ≤ 6000 by omega) (by decide)
  · have := cut_len (t := t) (lo := some ((t.length : Int) - 1 - q)) (hi := none)
    rw [List.length_append]
    omega
  · rcases List.mem_append.mp hd with hd | hd
    · exact hts d hd
    · exact hts d (cut_mem hd)
theorem drawn_loop {s : List Nat} {m z : Int} {P : PEn} (hs : s ≠ []) (hsl : s.length ≤ 100000) (hpl : D.plain (.str s) = true) (hm : 0 ≤ m) (hm2 : m ≤ 3000)
    (hk : ∀ (t : List Nat) (s5 s6 : Sl), t.length ≤ m.toNat → (∀ c ∈ t, c ∈ s) → P.nx [.pu .bag, .pu (.str s), .pu (.int m), .pu (.int z), .pu (.str t), s5, s6]) :
    ∀ (r : List Nat) (t : List Nat) (s5 s6 : Sl), t.length ≤ m.toNat → (∀ c ∈ t, c ∈ s) → forW (tgName 5) drawn_body P (r.map fun i => .int (i : Nat)) [.pu .bag, .pu (.str s), .pu (.int m), .pu (.int z), .pu (.str t), s5, s6]
  | [], t, s5, s6, h1, h2 => hk t s5 s6 h1 h2
  | i :: r, t, s5, s6, h1, h2 => drawn_step (P := { P with nx := forW (tgName 5) drawn_body P (r.map fun i => .int (i : Nat)), ct := forW (tgName 5) drawn_body P (r.map fun i => .int (i : Nat)), bk := P.nx }) (s5 := .pu (.int (i : Nat))) hs hsl hpl hm hm2 h1 h2
      fun t' s6' a b => drawn_loop hs hsl hpl hm hm2 hk r t' _ s6' a b
theorem drawn_ok' : fsDrawn ds kd kx → m_law_drawn fsPick fsPull ds kd kx := by
  intro h0
  match ds, h0 with
  | [.bag, .str s, .int m], ⟨⟨hs, hsl, hpl, hm, hm2⟩, h⟩ =>
    have main : ∀ z : Int, 0 ≤ z → z ≤ m → (tsSeq (tsFor (tiRng1 (tlCons (tpVar 3) tlNil)) (tgName 5) drawn_body) (tsRet (tpSl (tpVar 4) toNo (toSome (tpVar 3))))) (fEnds kd kx) [.pu .bag, .pu (.str s), .pu (.int m), .pu (.int z), .pu (.str []), .un, .un] := fun z z0 z1 => by
      refine ⟨⟨by omega, by omega⟩, drawn_loop (z := z) (P := { fEnds kd kx with nx := (tsRet (tpSl (tpVar 4) toNo (toSome (tpVar 3)))) (fEnds kd kx) }) hs hsl hpl hm hm2 (fun t s5 s6 h1 h2 => ⟨Nat.le_trans (show t.length ≤ 3000 by omega) (by decide), h _ ?_ fun c hc => h2 c (cut_mem hc)⟩) _ [] _ _ (Nat.zero_le _) (by simp)⟩
      have := cut_hi (t := t) z0
      omega
    refine ⟨rfl, ⟨by omega, by omega⟩, fun a a0 a1 => ⟨rfl, ⟨?_, ?_⟩, fun b b0 b1 => ⟨by show 2 ≤ 100000; decide, rfl, ⟨by simp, by show 2 ≤ 100000; decide⟩, fun x hx => ?_⟩⟩⟩
    · show (1 : Int) ≤ (if 5 < m then 5 else m) + 1
      split <;> omega
    · show (if 5 < m then 5 else m) + 1 < 1073741824
      split <;> omega
    · have hb : b ≤ m := by
        have b1 : b < (if 5 < m then 5 else m) + 1 := b1
        split at b1 <;> omega
      rcases List.mem_cons.mp hx with rfl | hx
      · exact main a a0 (by omega)
      · rw [List.mem_singleton.mp hx]
        exact main b b0 hb
end
end PL
set_option Elab.async false
set_option linter.all false
set_option maxRecDepth 100000
set_option maxHeartbeats 4000000
namespace PL
open PySem
def IsFront (s : List Nat) (p : Nat) : Prop := ∃ c, s[p]? = some c ∧ (∀ k, k < p → s[k]? ≠ some c) ∧ ∀ d ∈ s, ∃ k, k ≤ p ∧ s[k]? = some d
def IsRear (s : List Nat) (p : Nat) : Prop := ∃ c, s[p]? = some c ∧ (∀ k, p < k → s[k]? ≠ some c) ∧ ∀ d ∈ s, ∃ k, p ≤ k ∧ s[k]? = some d
theorem IsFront.lt {s : List Nat} {p : Nat} (h : IsFront s p) : p < s.length := by
  obtain ⟨c, h, _⟩ := h
  exact (List.getElem?_eq_some_iff.mp h).1
theorem IsRear.lt {s : List Nat} {p : Nat} (h : IsRear s p) : p < s.length := by
  obtain ⟨c, h, _⟩ := h
  exact (List.getElem?_eq_some_iff.mp h).1
theorem rev_get {s : List Nat} {k : Nat} (h : k < s.length) : s.reverse[k]? = s[s.length - 1 - k]? := List.getElem?_reverse h
theorem front_rev {s : List Nat} {q : Nat} (h : IsFront s.reverse q) : q < s.length ∧ IsRear s (s.length - 1 - q) := by
  have hq := h.lt
  rw [List.length_reverse] at hq
  obtain ⟨c, h1, h2, h3⟩ := h
  refine ⟨hq, c, by rw [← rev_get hq]; exact h1, fun k hk e => ?_, fun d hd => ?_⟩
  · have hl := (List.getElem?_eq_some_iff.mp e).1
    refine h2 (s.length - 1 - k) (by omega) ?_
    rw [rev_get (by omega), show s.length - 1 - (s.length - 1 - k) = k by omega]
    exact e
  · obtain ⟨k, k1, k2⟩ := h3 d (List.mem_reverse.mpr hd)
    rw [rev_get (by omega)] at k2
    exact ⟨_, by omega, k2⟩
/-- the walk over the signs: pre what is behind, pl the place so far -/
def frontGo : List Nat → Nat → List Nat → Nat
  | _, pl, [] => pl
  | pre, pl, c :: r => frontGo (pre ++ [c]) (if c ∈ pre then pl else pre.length) r
theorem front_step {pre : List Nat} {pl c : Nat} (h : pre ≠ [] → IsFront pre pl) : IsFront (pre ++ [c]) (if c ∈ pre then pl else pre.length) := by
  by_cases hc : c ∈ pre
  · rw [if_pos hc]
    have hf := h fun z => by rw [z] at hc; cases hc
    have hl := hf.lt
    obtain ⟨d, h1, h2, h3⟩ := hf
    refine ⟨d, by rw [List.getElem?_append_left hl]; exact h1, fun k hk => by rw [List.getElem?_append_left (by omega)]; exact h2 k hk, fun x hx => ?_⟩
    have hx : x ∈ pre := by
      rcases List.mem_append.mp hx with z | z
      · exact z
      · rw [List.mem_singleton.mp z]; exact hc
    obtain ⟨k, k1, k2⟩ := h3 x hx
    exact ⟨k, k1, by rw [List.getElem?_append_left (by omega)]; exact k2⟩
  · rw [if_neg hc]
    refine ⟨c, by rw [List.getElem?_append_right (Nat.le_refl _)]; simp, fun k hk e => ?_, fun x hx => ?_⟩
    · rw [List.getElem?_append_left hk] at e
      exact hc (List.mem_of_getElem? e)
    · obtain ⟨k, hk, e⟩ := List.getElem_of_mem hx
      rw [List.length_append, List.length_singleton] at hk
      exact ⟨k, by omega, by rw [← e]; exact List.getElem?_eq_getElem _⟩
theorem frontGo_ok : ∀ (r pre : List Nat) (pl : Nat), (pre ≠ [] → IsFront pre pl) → pre ++ r ≠ [] → IsFront (pre ++ r) (frontGo pre pl r)
  | [], pre, pl, h, n => by
    rw [List.append_nil] at n ⊢
    exact h n
  | c :: r, pre, pl, h, n => by
    have := frontGo_ok r (pre ++ [c]) (if c ∈ pre then pl else pre.length) (fun _ => front_step h) (by simp)
    rw [List.append_assoc] at this
    exact this
end PL
set_option Elab.async false
set_option linter.all false
set_option maxRecDepth 100000
set_option maxHeartbeats 4000000
namespace PL
open PySem L2
theorem cut_take {α : Type} (s : List α) (n : Nat) : cutL s none (some (n : Int)) = s.take n := by
  unfold cutL
  rw [HT.sIx_none, HT.sIx_nat, List.drop_zero, Nat.sub_zero]
  rcases Nat.le_total n s.length with h | h
  · rw [Nat.min_eq_left h]
  · rw [Nat.min_eq_right h, List.take_of_length_le (Nat.le_refl _), List.take_of_length_le h]
theorem cut_drop {α : Type} (s : List α) (n : Nat) : cutL s (some (n : Int)) none = s.drop n := by
  unfold cutL
  rw [HT.sIx_none, HT.sIx_nat]
  rcases Nat.le_total n s.length with h | h
  · rw [Nat.min_eq_left h, List.take_of_length_le (by rw [List.length_drop]; exact Nat.le_refl _)]
  · rw [Nat.min_eq_right h, List.drop_of_length_le (Nat.le_refl _), List.drop_of_length_le h, List.take_nil]
def fsAlpha : FS := fun ds k _ => match ds with
  | [.bag, .int m] => (1 ≤ m ∧ m ≤ 26) ∧ ∀ s : List Nat, s ≠ [] → (s.length : Int) ≤ m → s.Pairwise (· < ·) → (∀ c ∈ s, c ∈ LET) → k (.str s)
  | _ => False
theorem let_at {n : Nat} (h : n < 26) : LET[n]? = some (97 + n) := by
  have : ∀ n, n < 26 → LET[n]? = some (97 + n) := by decide
  exact this n h
theorem let_mem {c : Nat} (h1 : 97 ≤ c) (h2 : c < 123) : c ∈ LET := by
  have := let_at (n := c - 97) (by omega)
  rw [show 97 + (c - 97) = c by omega] at this
  exact List.mem_of_getElem? this
theorem let_iff {c : Nat} : c ∈ LET ↔ 97 ≤ c ∧ c < 123 := by
  refine ⟨fun h => ?_, fun h => let_mem h.1 h.2⟩
  have : ∀ c ∈ LET, 97 ≤ c ∧ c < 123 := by decide
  exact this c h
def alpha_body : TSp :=
    (tsSeq (tsSet 7 (tpCall 2 fsPick (tlCons (tpVar 0) (tlCons (tpLst (tlCons (tpC (.int 0)) (tlCons (tpCall 2 fsPull (tlCons (tpVar 0) (tlCons (tpOp fAdd (tpVar 5) (tpC (.int 1))) tlNil))) (tlCons (tpN fMin2 (tlCons (tpVar 5) (tlCons (tpCall 2 fsPull (tlCons (tpVar 0) (tlCons (tpC (.int 4)) tlNil))) tlNil))) tlNil)))) tlNil))))
    (tsSeq (tsPar [4, 5] (tlCons (tpOp fAdd (tpVar 4) (tpVar 7)) (tlCons (tpOp fSub (tpVar 5) (tpVar 7)) tlNil)))
    (tsSeq (tsSet 3 (tpOp fAdd (tpVar 3) (tpOp fIx (tpCall 0 fsLetters tlNil) (tpVar 4))))
    (tsSet 4 (tpOp fAdd (tpVar 4) (tpC (.int 1)))))))
section
variable {ds : List D} {kd : KD} {kx : KX}
local instance : Tabl := ⟨[], fun p hp => absurd hp (by simp)⟩
theorem alpha_step {P : PEn} {m z a room : Int} {f : List Nat} {s6 s7 : Sl} (h0 : 0 ≤ a) (h1 : 0 ≤ room) (h2 : a + room < 26) (hf : f.length ≤ 26) (hlt : ∀ c ∈ f, (c : Int) < 97 + a)
    (hk : ∀ (g : Int) (n : Nat) (s7' : Sl), 0 ≤ g → g ≤ room → a + g = n → P.nx [.pu .bag, .pu (.int m), .pu (.int z), .pu (.str (f ++ [97 + n])), .pu (.int (n + 1)), .pu (.int (room - g)), s6, s7']) :
    alpha_body P [.pu .bag, .pu (.int m), .pu (.int z), .pu (.str f), .pu (.int a), .pu (.int room), s6, s7] := by
  have go : ∀ g : Int, 0 ≤ g → g ≤ room → (tsSeq (tsPar [4, 5] (tlCons (tpOp fAdd (tpVar 4) (tpVar 7)) (tlCons (tpOp fSub (tpVar 5) (tpVar 7)) tlNil)))
    (tsSeq (tsSet 3 (tpOp fAdd (tpVar 3) (tpOp fIx (tpCall 0 fsLetters tlNil) (tpVar 4))))
    (tsSet 4 (tpOp fAdd (tpVar 4) (tpC (.int 1)))))) P [.pu .bag, .pu (.int m), .pu (.int z), .pu (.str f), .pu (.int a), .pu (.int room), s6, .pu (.int g)] := fun g g0 g1 => by
    obtain ⟨n, hn⟩ := Int.eq_ofNat_of_zero_le (show 0 ≤ a + g by omega)
    have hn26 : n < 26 := by omega
    refine ⟨rfl, by show 26 ≤ sizeLine; decide, ?_⟩
    show (match atI LET (a + g) with | some c => _ | none => False)
    rw [hn, at_nat LET n (by show n < 26; exact hn26)]
    have e : LET[n]'(by show n < 26; exact hn26) = 97 + n := by
      have := let_at hn26
      rw [List.getElem?_eq_getElem (by show n < 26; exact hn26)] at this
      exact Option.some.inj this
    rw [e]
    refine ⟨Nat.le_trans (show f.length + 1 ≤ 27 by omega) (by decide), ?_⟩
    exact hk g n _ g0 g1 hn
  refine ⟨rfl, ⟨by omega, by omega⟩, fun r r0 r1 => ⟨rfl, ⟨by decide, by decide⟩, fun q q0 q1 => ⟨by show 3 ≤ 100000; decide, rfl, ⟨by simp, by show 3 ≤ 100000; decide⟩, fun x hx => ?_⟩⟩⟩
  simp only [List.mem_cons, List.not_mem_nil, or_false] at hx
  rcases hx with rfl | rfl | rfl
  · exact go 0 (by decide) h1
  · exact go r r0 (by omega)
  · refine go _ ?_ ?_
    · split <;> omega
    · split <;> omega
theorem alpha_loop {P : PEn} {m z : Int} (hz : z ≤ 26)
    (hk : ∀ (f : List Nat) (a room : Int) (s6 s7 : Sl), (f.length : Int) = z → f.Pairwise (· < ·) → (∀ c ∈ f, c ∈ LET) → P.nx [.pu .bag, .pu (.int m), .pu (.int z), .pu (.str f), .pu (.int a), .pu (.int room), s6, s7]) :
    ∀ (r : List Nat) (f : List Nat) (a room : Int) (s6 s7 : Sl), 0 ≤ a → 0 ≤ room → a + room + r.length ≤ 26 → (f.length : Int) + r.length = z → f.Pairwise (· < ·) → (∀ c ∈ f, 97 ≤ c ∧ (c : Int) < 97 + a ∧ c < 123) →
      forW (tgName 6) alpha_body P (r.map fun i => .int (i : Nat)) [.pu .bag, .pu (.int m), .pu (.int z), .pu (.str f), .pu (.int a), .pu (.int room), s6, s7]
  | [], f, a, room, s6, s7, h0, h1, h2, h3, h4, h5 => hk f a room s6 s7 (by simpa using h3) h4 fun c hc => let_mem (h5 c hc).1 (h5 c hc).2.2
  | i :: r, f, a, room, s6, s7, h0, h1, h2, h3, h4, h5 => by
    rw [List.length_cons] at h2 h3
    refine alpha_step (P := { P with nx := forW (tgName 6) alpha_body P (r.map fun i => .int (i : Nat)), ct := forW (tgName 6) alpha_body P (r.map fun i => .int (i : Nat)), bk := P.nx }) (s6 := .pu (.int (i : Nat))) h0 h1 (by omega) (by omega) (fun c hc => (h5 c hc).2.1) fun g n s7' g0 g1 hn => ?_
    refine alpha_loop hz hk r (f ++ [97 + n]) (n + 1) (room - g) _ _ (by omega) (by omega) (by omega) (by rw [List.length_append, List.length_singleton]; omega) ?_ ?_
    · refine List.pairwise_append.mpr ⟨h4, List.pairwise_singleton _ _, fun c hc d hd => ?_⟩
      rw [List.mem_singleton.mp hd]
      have := (h5 c hc).2.1
      omega
    · intro c hc
      rcases List.mem_append.mp hc with hc | hc
      · have := h5 c hc
        omega
      · rw [List.mem_singleton.mp hc]
        omega
theorem alpha_ok' : fsAlpha ds kd kx → m_law_alphabet fsPull fsPick fsLetters ds kd kx := by
  intro h0
  match ds, h0 with
  | [.bag, .int m], ⟨⟨m1, m2⟩, h⟩ =>
    refine ⟨rfl, ⟨m1, by omega⟩, fun r r0 r1 => ?_⟩
    refine ⟨⟨by omega, by omega⟩, ?_⟩
    have hl : ((List.range (1 + r).toNat).length : Int) = 1 + r := by rw [List.length_range]; omega
    refine alpha_loop (z := 1 + r) (P := { fEnds kd kx with nx := (tsRet (tpVar 3)) (fEnds kd kx) }) (by omega) (fun f a room s6 s7 e p l => ?_) _ [] 0 (26 - (1 + r)) _ _ (by decide) (by omega) (by rw [hl]; omega) (by rw [hl]; exact Int.zero_add _) .nil (by simp)
    exact h f (fun z => by rw [z] at e; simp at e; omega) (by omega) p l
end
end PL
set_option Elab.async false
set_option linter.all false
set_option maxRecDepth 100000
set_option maxHeartbeats 4000000
namespace PL
open PySem L2
variable [Tabl]
theorem DenU.ins {K : PySem.W.Frag} {H0 G H : Hp} {v : V} {C : Addr} {fs : List (PySem.Str × D)} (s : Sub G H) (h : DenU K H0 G H v (.ins C fs)) : ∃ a dx fvs, v = .ref a ∧ H a = some (.ins C dx fvs) ∧ DenF K G fvs fs := by
  rcases h with h | ⟨p, e, g, dx, fvs, h1, h2, h3, h4, h5⟩
  · cases h with
    | ins h1 h2 h3 => exact ⟨_, _, _, rfl, s.at_ h1 (fun z => z), h3⟩
  · exact ⟨p, dx, fvs, e, h1, h5⟩
theorem DenU.sl {K : PySem.W.Frag} {H0 G H : Hp} {v : V} {C : Addr} {ds : List D} (s : Sub G H) (h : DenU K H0 G H v (.sl C ds)) : ∃ (a dx : Addr) (vs : List V), v = .ref a ∧ SlX.Slt H a C dx (vs.map some) ∧ DenL K G vs ds := by
  rcases h with h | ⟨p, e, g, r⟩
  · cases h with
    | @sl a _ dx vs _ h1 h2 h3 => exact ⟨a, dx, vs, rfl, .inr ⟨s.at_ h1 (fun z => by unfold SlX.SlO at z; exact z), s.at_ h2 (fun z => z)⟩, h3⟩
  · exact r.elim
theorem DenU.cls {K : PySem.W.Frag} {H0 G H : Hp} {v : V} {C : Addr} (h : DenU K H0 G H v (.cls C)) : v = .ref C := by
  rcases h with h | ⟨p, e, g, r⟩
  · cases h; rfl
  · exact r.elim
def tpFld (cs : List Addr) (f : PySem.Str) (t : TP) : TP := fun Γ k kx => t Γ (fun d => match d with
  | .ins C fs => C ∈ cs ∧ match fs.lookup f with
    | some v => k v
    | none => False
  | _ => False) kx
section
variable {X : Cx} {W : WX} {e o : Expr} {es : List Expr} {t ta : TP} {tl : TL} {f m : PySem.Str} {pos apos p : Pos} {cs : List Addr}
theorem p_fld (hc : ∀ C ∈ cs, Cls X.K C ∧ NoAttr X.K C f) (ha : PU X W e t) (hb : attributeBase e f X.env (eval e X.env) = eval e X.env := by rfl) : PP X W (.Attribute e f pos) (tpFld cs f t) := by
  obtain ⟨ea, pa, ra⟩ := ha.ex
  refine ⟨_, pe_fld pa hb, fun G0 H0 Γ σ G H k kx Q F ht hk hx => ?_⟩
  refine ra G0 H0 Γ σ G H _ kx _ F ht (fun d v G1 H1 k1 x1 n1 => ?_) hx
  cases d with
  | ins C fs =>
    obtain ⟨hC, k2⟩ := k1
    cases e : fs.lookup f with
    | none => rw [e] at k2; exact k2.elim
    | some y =>
      rw [e] at k2
      obtain ⟨a, dx, fvs, rfl, h1, h2⟩ := n1.ins x1.sub
      obtain ⟨u, hu, nu⟩ := h2.get e
      exact ⟨a, C, dx, fvs, u, rfl, h1, (hc C hC).1, (hc C hC).2, hu, hk y u G1 H1 k2 x1 nu⟩
  | _ => exact k1.elim
theorem run_fnRS {CX : CXT} {k : Nat} {f : Addr} {sp : Sp} {E : XK} {Q : VK} {us : List Value} {vs : List V} {pins : List (Addr × Obj)} {σ : L2.St} {H : Hp} {s : Shared} (F : FnR X.prog X.w X.K X.mg X.base CX k f sp) (hr : Room k X.A) (hx : PassesAt CX X σ E) (I : Inv X pins σ H s) (r : Vals vs us) (h : sp vs H Q E) :
    codeAny (model X.prog X.w) X.A (.call (.ref f) ⟨us, []⟩) (fun r s' => match r with | .ok (.ret v) => EP X pins σ Q v s' | .ok _ => False | .error e => X.xe e s') s := by
  refine codeAny_mono (F X.A X.stack s H us vs Q E hr I.env0 r h) fun r s' hq => ?_
  cases r with
  | error e => exact hx pins H s e s' I hq
  | ok fl =>
    cases fl with
    | ret u => exact I.after hq
    | next => exact False.elim hq
    | brk => exact False.elim hq
    | cont => exact False.elim hq
/-- a method of a class with dicts -/
structure Mt (P : Program) (w : World) (K : PySem.W.Frag) (mg : PySem.Str → Option Value) (base : Heap) (C : Addr) (m : PySem.Str) (k n : Nat) (fs : FS) : Prop where
  c : Cls K C
  ex : ∃ f, Meth K C m f ∧ FnR P w K mg base (L2.CX P w) k f (spOf K (n + 1) fs)
/-- o.m(..) by o's class: ms the classes and what their method does -/
def tpMeth (ms : List (Addr × FS)) (m : PySem.Str) (n : Nat) (t : TP) (tl : TL) : TP := fun Γ k kx => t Γ (fun d => match d with
  | .ins C fs => fs.lookup m = none ∧ ∃ f, (C, f) ∈ ms ∧ tl Γ (fun ds => ds.length = n ∧ f (d :: ds) k kx) kx
  | _ => False) kx
end
section
variable {X : Cx} {W : WX} {e o : Expr} {es : List Expr} {t ta : TP} {tl : TL} {f m : PySem.Str} {pos apos p : Pos} {k n j : Nat} {fs : FS} {ms : List (Addr × FS)}
theorem rd_after {G0 H0 : Hp} {Γ : Ga} {σ : L2.St} {G H G1 H1 : Hp} {kd : KD} {kx : KX} {Q : VK} (x1 : Ext G H G1 H1) {vs : List V} {ds : List D} {K : PySem.W.Frag} (n1 : DenL K G1 vs ds) (hl : ds.length = n) (hf : fs ds kd kx)
    (hk : ∀ d v G' H', kd d → Ext G H G' H' → Den K G' v d → Q v H') (hx : XOk K W G H σ kx) : spOf K n fs vs H1 Q (WE W σ) :=
  ⟨G1, ds, kd, kx, x1.sub, n1, hl, hf, fun d v G' H' kk ex dn => hk d v G' H' kk (x1.trans ex) dn, fun y cls dA G' H' kk ex dn => hx y cls dA G' H' kk (x1.trans ex) dn⟩
/-- the receiver as it is among the arguments: pure -/
theorem p_meth (hm : ∀ q ∈ ms, Mt X.prog X.w X.K X.mg X.base q.1 m k n q.2) (hr : Room j X.A) (hj : k ≤ j) (tk : Takes X W) (ho : PP X W o t) (ha : PL' X W (e :: es) tl) {pl : Sem Bool}
    (hst : starEach (e :: es) X.env = (false, eval e X.env) :: starEach es X.env := by rfl) (hpl : (backTo pos (starEach es X.env)).any (·.1) = false := by rfl)
    (ht : eval (.Call (.Attribute o m apos) (e :: es) [] pos) X.env = (do
      let ov ← eval o X.env
      standAt apos.atName
      let (f, first) ← holding [ov] (getMethod ov m pl)
      callWith pos f first (backTo pos (starEach (e :: es) X.env)) (backToKw pos (keywordEach [] X.env))) := by rfl) : PP X W (.Call (.Attribute o m apos) (e :: es) [] pos) (tpMeth ms m n t tl) := by
  obtain ⟨eo, po, ro⟩ := ho.ex
  obtain ⟨ea, pa, ra⟩ := ha.ex
  refine ⟨fun σ H Q => eo σ H fun x H1 => ∃ a C dx fvs fn fs, x = .ref a ∧ H1 a = some (.ins C dx fvs) ∧ fvs.lookup m = none ∧ Cls X.K C ∧ Meth X.K C m fn ∧ FnR X.prog X.w X.K X.mg X.base (L2.CX X.prog X.w) k fn (spOf X.K (n + 1) fs) ∧ ea σ H1 fun vs H2 => spOf X.K (n + 1) fs (x :: vs) H2 Q (WE W σ), ⟨fun pins s σ H Q I h => ?_⟩, fun G0 H0 Γ σ G H kd kx Q F ht hk hx => ?_⟩
  · refine PySem.W.methodCall_KW (pl := pl) (thn (po.run pins s σ H _ I h) fun u s1 ⟨x, H1, I1, rx, a, C, dx, fvs, fn, fs, ex, ea, l, c, mt, R, q⟩ => ?_) ht
    subst ex
    obtain rfl : u = Value.ref a := rx
    refine getmeth_ok I1 ea c mt l ?_
    refine PySem.W.callWith_K (first := [.ref a]) (h₀ := X.base) I.ok.mod.kin mt.kp (thn (pa.run pos pins s1 σ H1 _ I1 q) fun us s2 ⟨vs, H2, I2, r, q2⟩ => ⟨I2.kIn, ?_⟩) hst hpl
    exact wpAny_call (run_fnRS (us := .ref a :: us) (vs := .ref a :: vs) R (hr.mono hj) (passAt tk σ) I2 (.cons rfl r) q2)
  · refine ro G0 H0 Γ σ G H _ kx _ F ht (fun d v G1 H1 k1 x1 n1 => ?_) hx
    cases d with
    | ins C fs =>
      obtain ⟨hl, f, hf, k2⟩ := k1
      have M := hm _ hf
      obtain ⟨fn, mt, R⟩ := M.ex
      obtain ⟨a, dx, fvs, rfl, h1, h2⟩ := (show DenU X.K H0 G1 H1 v (.ins C fs) from .inl n1).ins x1.sub
      refine ⟨a, C, dx, fvs, fn, f, rfl, h1, h2.no hl, M.c, mt, R, ?_⟩
      refine ra G0 H0 Γ σ G1 H1 _ kx _ (F.up x1) k2 (fun ds vs G2 H2 k3 x2 n2 => ?_) (hx.up x1)
      exact rd_after (G0 := G0) (H0 := H0) (Γ := Γ) (x1.trans x2) (.cons (n1.up x2.g) n2) (by rw [List.length_cons, k3.1]) k3.2 hk hx
    | _ => exact k1.elim
theorem p_meth0 (hm : ∀ q ∈ ms, Mt X.prog X.w X.K X.mg X.base q.1 m k 0 q.2) (hr : Room j X.A) (hj : k ≤ j) (tk : Takes X W) (ho : PP X W o t) {pl : Sem Bool}
    (ht : eval (.Call (.Attribute o m apos) [] [] pos) X.env = (do
      let ov ← eval o X.env
      standAt apos.atName
      let (f, first) ← holding [ov] (getMethod ov m pl)
      callWith pos f first (backTo pos (starEach [] X.env)) (backToKw pos (keywordEach [] X.env))) := by rfl) : PP X W (.Call (.Attribute o m apos) [] [] pos) (tpMeth ms m 0 t tlNil) := by
  obtain ⟨eo, po, ro⟩ := ho.ex
  refine ⟨fun σ H Q => eo σ H fun x H1 => ∃ a C dx fvs fn fs, x = .ref a ∧ H1 a = some (.ins C dx fvs) ∧ fvs.lookup m = none ∧ Cls X.K C ∧ Meth X.K C m fn ∧ FnR X.prog X.w X.K X.mg X.base (L2.CX X.prog X.w) k fn (spOf X.K (0 + 1) fs) ∧ spOf X.K (0 + 1) fs [x] H1 Q (WE W σ), ⟨fun pins s σ H Q I h => ?_⟩, fun G0 H0 Γ σ G H kd kx Q F ht hk hx => ?_⟩
  · refine PySem.W.methodCall_KW (pl := pl) (thn (po.run pins s σ H _ I h) fun u s1 ⟨x, H1, I1, rx, a, C, dx, fvs, fn, fs, ex, ea, l, c, mt, R, q⟩ => ?_) ht
    subst ex
    obtain rfl : u = Value.ref a := rx
    refine getmeth_ok I1 ea c mt l ?_
    exact PySem.W.callWith_K0 (first := [.ref a]) I1.kIn mt.kp (wpAny_call (run_fnRS (us := [.ref a]) (vs := [.ref a]) R (hr.mono hj) (passAt tk σ) I1 (.cons rfl .nil) q))
  · refine ro G0 H0 Γ σ G H _ kx _ F ht (fun d v G1 H1 k1 x1 n1 => ?_) hx
    cases d with
    | ins C fs =>
      obtain ⟨hl, f, hf, _, k3⟩ := k1
      have M := hm _ hf
      obtain ⟨fn, mt, R⟩ := M.ex
      obtain ⟨a, dx, fvs, rfl, h1, h2⟩ := (show DenU X.K H0 G1 H1 v (.ins C fs) from .inl n1).ins x1.sub
      exact ⟨a, C, dx, fvs, fn, f, rfl, h1, h2.no hl, M.c, mt, R, rd_after (G0 := G0) (H0 := H0) (Γ := Γ) x1 (.cons n1 .nil) rfl k3 hk hx⟩
    | _ => exact k1.elim
end
end PL
set_option Elab.async false
set_option linter.all false
set_option maxRecDepth 100000
set_option maxHeartbeats 4000000
namespace PL
open PySem L2 PyProof.Rows PySem.W
/-- a block within the body b of a def -/
structure PSb (X : Cx) (b : List Stmt) (st : List Stmt) (t : TS) : Prop where
  run : ∀ (pins : List (Addr × Obj)) (s : Shared) (σ : L2.St) (H : Hp) (D : Ends), Inv X pins σ H s → t D σ H → PySem.wpAt (model X.prog X.w) X.A (.func b X.env) (execs st X.env) (SP X pins D) X.xe s
structure PS1b (X : Cx) (b : List Stmt) (st : Stmt) (t : TS) : Prop where
  run : ∀ (pins : List (Addr × Obj)) (s : Shared) (σ : L2.St) (H : Hp) (D : Ends), Inv X pins σ H s → t D σ H → PySem.wpAt (model X.prog X.w) X.A (.func b X.env) (exec st X.env) (SP X pins D) X.xe s
section
variable {X : Cx} {bo : List Stmt} {st : Stmt} {rest : List Stmt} {t u : TS}
theorem PSs.bl (h : PSs X rest t) : PSb X bo rest t := ⟨fun pins s σ H D I q => PySem.wpAt_of_wpAny (h.run pins s σ H D I q)⟩
theorem PS.bl (h : PS X st t) : PS1b X bo st t := ⟨fun pins s σ H D I q => PySem.wpAt_of_wpAny (h.run pins s σ H D I q)⟩
end
end PL
set_option Elab.async false
set_option linter.all false
set_option maxRecDepth 100000
set_option maxHeartbeats 4000000
namespace PL
open PySem L2 PyProof.Rows PySem.W PySem.Calls
end PL
set_option Elab.async false
set_option linter.all false
set_option maxRecDepth 100000
set_option maxHeartbeats 4000000
namespace PL
open PySem L2 PyProof.Rows
variable [Tabl]
def hole2 (H : Hp) (p d : Addr) : Hp := fun a => if a = p ∨ a = d then none else H a
theorem hole2_p {H : Hp} {p d : Addr} : hole2 H p d p = none := by unfold hole2; rw [if_pos (.inl rfl)]
theorem hole2_d {H : Hp} {p d : Addr} : hole2 H p d d = none := by unfold hole2; rw [if_pos (.inr rfl)]
theorem hole2_ne {H : Hp} {p d a : Addr} (h1 : a ≠ p) (h2 : a ≠ d) : hole2 H p d a = H a := by unfold hole2; rw [if_neg (fun z => z.elim h1 h2)]
theorem hole2_same {H : Hp} {p d : Addr} : Same (hole2 H p d) H := fun a o e => by
  by_cases h : a = p ∨ a = d
  · unfold hole2 at e
    rw [if_pos h] at e
    cases e
  · unfold hole2 at e
    rwa [if_neg h] at e
/-- the object handed in is the def's own: an instance -/
def spOi (K : PySem.W.Frag) (n : Nat) (fs : FSo) : Sp := fun vs H Q E => ∃ G ds k kx p dx C fs0 fvs, vs.length = n ∧ ds.length = n ∧ Sub G H ∧ G p = none ∧ G dx = none ∧ vs[0]? = some (.ref p) ∧ ds[0]? = some (.ins C fs0) ∧ H p = some (.ins C dx fvs) ∧ H dx = some (.own p) ∧ DenF K G fvs fs0 ∧
  (∀ (i : Nat) v d, i ≠ 0 → vs[i]? = some v → ds[i]? = some d → Den K G v d) ∧ fs ds k kx ∧
  (∀ d e v G' H', k d e → Ext G (hole2 H p dx) G' H' → G' p = none → OwnAt K (hole2 H p dx) G' H' p e → Den K G' v d → Q v H') ∧
  (∀ x cls dA G' H', kx x → Ext G (hole2 H p dx) G' H' → XDen K G' H' cls dA x → E cls dA H')
def iEnds (p : Addr) (k : D → D → Prop) (kx : KX) : PEn := ⟨fun Γ => match gat Γ 0 with | .pw q e => q = p ∧ k .non e | _ => False, fun _ => False, fun _ => False, fun d Γ => match gat Γ 0 with | .pw q e => q = p ∧ k d e | _ => False, fun x _ => kx x⟩
theorem fr_own0 {K : PySem.W.Frag} {G H H0 : Hp} {N : List PySem.Str} {vs : List V} {ds : List D} {p : Addr} {d : D} (x : Ext G H0 G H) (hl : vs.length = ds.length) (g : G p = none) (h0 : H0 p = none) (hv : vs[0]? = some (.ref p)) (hd : ds[0]? = some d) (ho : OwnAt K H0 G H p d)
    (hr : ∀ (i : Nat) v d, i ≠ 0 → vs[i]? = some v → ds[i]? = some d → Den K G v d) : Fr K G H0 (gaO N.length 0 p ds) (L2.start N vs) G H := by
  match ds, vs, hl, hv, hd, hr with
  | [], _, _, _, hd, _ => cases hd
  | d0 :: dr, [], hl, _, _, _ => cases hl
  | d0 :: dr, v0 :: vr, hl, hv, hd, hr =>
    cases hv
    cases hd
    have hl : vr.length = dr.length := by simpa using hl
    have eg : gaO N.length 0 p (d :: dr) = .pw p d :: (dr.map Sl.pu ++ List.replicate (N.length - (dr.length + 1)) Sl.un) := rfl
    have es : L2.start N (.ref p :: vr) = some (.ref p) :: (vr.map some ++ List.replicate (N.length - (vr.length + 1)) none) := rfl
    have rest : ∀ (i : Nat) (s : Sl), (dr.map Sl.pu ++ List.replicate (N.length - (dr.length + 1)) Sl.un)[i]? = some s → s = .un ∨ ∃ d, dr[i]? = some d ∧ s = .pu d := fun i s h => by
      by_cases hi : i < dr.length
      · rw [List.getElem?_append_left (by rw [List.length_map]; exact hi), List.getElem?_map, List.getElem?_eq_getElem hi] at h
        cases h
        exact .inr ⟨_, List.getElem?_eq_getElem hi, rfl⟩
      · rw [List.getElem?_append_right (by rw [List.length_map]; omega)] at h
        exact .inl (List.mem_replicate.mp (List.mem_of_getElem? h)).2
    have own0 : ∀ (i : Nat) (s : Sl), (gaO N.length 0 p (d :: dr))[i]? = some s → s.owns → i = 0 := fun i s h ow => by
      rw [eg] at h
      cases i with
      | zero => rfl
      | succ i =>
        rw [List.getElem?_cons_succ] at h
        rcases rest i s h with rfl | ⟨_, _, rfl⟩ <;> exact ow.elim
    refine ⟨by rw [eg, es]; simp [hl], x, fun i s h => ?_, fun a b q s t h1 h2 h3 h4 _ _ => (own0 a s h1 h2).trans (own0 b t h3 h4).symm⟩
    rw [eg] at h
    cases i with
    | zero =>
      cases h
      exact ⟨by rw [es]; rfl, g, h0, ho⟩
    | succ i =>
      rw [List.getElem?_cons_succ] at h
      rcases rest i s h with rfl | ⟨d1, e1, rfl⟩
      · trivial
      · have hi := (List.getElem?_eq_some_iff.mp e1).1
        have ev : vr[i]? = some (vr[i]'(by omega)) := List.getElem?_eq_getElem (by omega)
        refine ⟨_, ?_, hr (i + 1) _ d1 (Nat.succ_ne_zero i) (by rw [List.getElem?_cons_succ]; exact ev) (by rw [List.getElem?_cons_succ]; exact e1)⟩
        rw [es, List.getElem?_cons_succ, List.getElem?_append_left (by rw [List.length_map]; omega), List.getElem?_map, ev]
        rfl
theorem spOi_len {K : PySem.W.Frag} {n : Nat} {fs : FSo} {vs : List V} {H : Hp} {Q : VK} {E : XK} (h : spOi K n fs vs H Q E) : vs.length = n := by
  obtain ⟨G, ds, k, kx, p, dx, C, fs0, fvs, a, _⟩ := h
  exact a
/-- the reading of such a def's body -/
theorem read_own {K : PySem.W.Frag} {n : Nat} {fs : FSo} {N : List PySem.Str} {vs : List V} {H : Hp} {Q : VK} {E : XK} {ts : TS} {t : TSp} (h : spOi K n fs vs H Q E) (rd : RdS K (fun cls d _ H => E cls d H) ts t) (ht : ∀ ds kd kx p, ds.length = n → fs ds kd kx → t (iEnds p kd kx) (gaO N.length 0 p ds)) :
    ts { nx := fun _ H' => Q .non H', rt := Q } (L2.start N vs) H := by
  obtain ⟨G, ds, kd, kx, p, dx, C, fs0, fvs, hlv, hl, sb, gp, gd, hv, hd, hp, hdx, df, r, hf, hk, hx⟩ := h
  have x0 : Ext G (hole2 H p dx) G H := ⟨.of hole2_same, Same.refl G, fun _ h _ => h, sb⟩
  have F0 := fr_own0 (N := N) x0 (hlv.trans hl.symm) gp hole2_p hv hd ⟨dx, fvs, hp, hdx, gd, hole2_d, df⟩ r
  have fin : ∀ {Γ σ G' H'} {k0 : D → Prop}, (match gat Γ 0 with | .pw q e => q = p ∧ k0 e | _ => False) → Fr K G (hole2 H p dx) Γ σ G' H' → ∃ e, k0 e ∧ G' p = none ∧ OwnAt K (hole2 H p dx) G' H' p e := fun {Γ σ G' H' k0} q F' => by
    cases e : gat Γ 0 with
    | pw q2 e2 =>
      rw [e] at q
      obtain ⟨rfl, q⟩ := q
      obtain ⟨_, g2, _, o2⟩ := F'.at_ 0 _ (gat_get Γ 0 _ e (by simp))
      exact ⟨e2, q, g2, o2⟩
    | _ => rw [e] at q; exact q.elim
  refine rd G (hole2 H p dx) _ (L2.start N vs) G H (iEnds p kd kx) _ F0 (ht ds kd kx p hl hf) ⟨?_, ?_, ?_, ?_, ?_⟩
  · intro Γ σ G' H' q F'
    obtain ⟨e, q, g2, o2⟩ := fin q F'
    exact hk .non e .non G' H' q F'.e g2 o2 .non
  · intro Γ σ G' H' q
    exact q.elim
  · intro Γ σ G' H' q
    exact q.elim
  · intro d v Γ σ G' H' q F' nn
    obtain ⟨e, q, g2, o2⟩ := fin q F'
    exact hk d e v G' H' q F'.e g2 o2 nn
  · intro y cls dA Γ σ G' H' q F' nn
    exact hx y cls dA G' H' q F'.e nn
section
variable {P : Program} {w : World} {K : PySem.W.Frag} {mg : PySem.Str → Option Value} {base : Heap}
theorem fn_okI {x qual : PySem.Str} {st : Stmt} {f : Addr} {fd : FuncData} {N ps : List PySem.Str} {k n : Nat} {fs : FSo} (F : Fun K x qual st f fd) (S : FnScope N ps (defScope st)) (hn : ps.length = n)
    (body : ∀ (cdv : Value) (A : Around) (outer : List Env) (s : Shared) (H : Hp) (E : XK), Room k (A.deeper (envOfC qual (defScope st) s.heap.objs.size f cdv)) →
      ∃ t, PSS (cxOf (L2.CX P w) P w K mg base N qual (defScope st) f cdv A outer s H E) (fun cls d _ H => E cls d H) (defBody st) t ∧ ∀ ds kd kx p, ds.length = n → fs ds kd kx → t (iEnds p kd kx) (gaO N.length 0 p ds)) :
    FnOk P w K mg base (L2.CX P w) (k + 1) f fd ps (spOi K n fs) := by
  refine F.okX S (fun vs H Q E h => by rw [spOi_len h, hn]) (fun cdv A outer s H vs Q E hr h => ?_)
  obtain ⟨t, ⟨ts, ps, rd⟩, ht⟩ := body cdv A outer s H E hr
  exact ⟨ts, ps, read_own h rd ht⟩
end
end PL
set_option Elab.async false
set_option linter.all false
set_option maxRecDepth 100000
set_option maxHeartbeats 4000000
namespace PL
open PySem L2 PyProof.Rows
variable [Tabl]
section
variable {K : PySem.W.Frag} {G0 H0 G H G' H' : Hp} {Γ : Ga} {σ : L2.St}
theorem Fr.ret (F : Fr K G0 H0 Γ σ G H) {i : Nat} {sl : Sl} {p : Addr} {y y0 : D} (hs : Γ[i]? = some sl) (ht : sl.og = some y0) (e : σ[i]? = some (some (.ref p))) (h0 : H0 p = none) (F1 : Fr K G0 H0 (gset Γ i .un) σ G' H') (gp : G' p = none) (o : OwnAt K H0 G' H' p y) :
    Fr K G0 H0 (gset Γ i (sl.op y)) σ G' H' := by
  have tow : sl.owns := by cases sl <;> first | trivial | cases ht
  have hi := (List.getElem?_eq_some_iff.mp hs).1
  refine ⟨by rw [gset_eq, List.length_set]; exact F.len, F1.e, fun j s h => ?_, fun a b q s t h1 h2 h3 h4 h5 h6 => ?_⟩
  · by_cases hj : i = j
    · subst hj
      rw [gset_eq, List.getElem?_set_self hi] at h
      cases h
      cases sl with
      | pw r d2 =>
        obtain ⟨e2, _⟩ := F.at_ i _ hs
        rw [e] at e2
        cases e2
        exact ⟨e, gp, h0, o⟩
      | _ => exact ⟨p, e, gp, h0, o⟩
    · rw [gset_eq, List.getElem?_set_ne hj] at h
      exact F1.at_ j s (by rw [gset_eq, List.getElem?_set_ne hj]; exact h)
  · have f : ∀ (a : Nat) (s : Sl), (gset Γ i (sl.op y))[a]? = some s → s.owns → ∃ s', Γ[a]? = some s' ∧ s'.owns := fun a s h1 h2 => by
      by_cases ha : i = a
      · subst ha
        exact ⟨_, hs, tow⟩
      · rw [gset_eq, List.getElem?_set_ne ha] at h1
        exact ⟨s, h1, h2⟩
    obtain ⟨s', g1, g2⟩ := f a s h1 h2
    obtain ⟨t', g3, g4⟩ := f b t h3 h4
    exact F.dj a b q s' t' g1 g2 g3 g4 h5 h6
theorem OwnAt.base {p d q : Addr} {y : D} (h : OwnAt K (hole2 H p d) G' H' q y) (k : ∀ a, H a = none → H0 a = none) (h0 : H0 p = none) (hd0 : H0 d = none) : OwnAt K H0 G' H' q y := by
  cases y with
  | lst ds => exact h
  | dct ks => exact h
  | ins C2 fs =>
    obtain ⟨dx, fv, h1, h2, h3, h4, h5⟩ := h
    refine ⟨dx, fv, h1, h2, h3, ?_, h5⟩
    by_cases a : dx = p
    · rw [a]; exact h0
    · by_cases b : dx = d
      · rw [b]; exact hd0
      · rw [hole2_ne a b] at h4
        exact k dx h4
  | _ => exact h.elim
end
def putFD (f : PySem.Str) (v : D) : List (PySem.Str × D) → List (PySem.Str × D)
  | [] => [(f, v)]
  | (g, x) :: r => if g = f then (g, v) :: r else (g, x) :: putFD f v r
theorem denF_put {K : PySem.W.Frag} {G : Hp} {f : PySem.Str} {v : V} {d : D} (n : Den K G v d) : ∀ {vs : List (PySem.Str × V)} {ds : List (PySem.Str × D)}, DenF K G vs ds → DenF K G (putF f v vs) (putFD f d ds)
  | _, _, .nil => .cons n .nil
  | _, _, .cons (f := g) h t => by
    unfold putF putFD
    by_cases e : g = f
    · rw [if_pos e, if_pos e]
      exact .cons n t
    · rw [if_neg e, if_neg e]
      exact .cons h (denF_put n t)
def onOI (Γ : Ga) (i : Nat) (k : Addr → List (PySem.Str × D) → Prop) : Prop := match (gat Γ i).og with
  | some (.ins C fs) => k C fs
  | _ => False
theorem onOI_elim {Γ : Ga} {i : Nat} {k : Addr → List (PySem.Str × D) → Prop} (h : onOI Γ i k) : ∃ C fs, (gat Γ i).og = some (.ins C fs) ∧ k C fs := by
  unfold onOI at h
  cases e : (gat Γ i).og with
  | none => simp only [e] at h
  | some d =>
    cases d with
    | ins C fs =>
      simp only [e] at h
      exact ⟨C, fs, rfl, h⟩
    | _ => simp only [e] at h
def tsSetF (cs : List Addr) (i : Nat) (f : PySem.Str) (t : TP) : TSp := fun P Γ => t Γ (fun d => onOI Γ i fun C fs => C ∈ cs ∧ fs.length < 900 ∧ P.nx (oput Γ i (.ins C (putFD f d fs)))) (fun x => P.xx x Γ)
section
variable {X : Cx} {W : WX} {e o : Expr} {es : List Expr} {t ta : TP} {tl : TL} {f m x : PySem.Str} {pos pos' apos p px : Pos} {cs : List Addr}
theorem s_setF (i : Nat) (hc : ∀ C ∈ cs, Cls X.K C ∧ NoAttr X.K C f) (he : PP X W e t) (hN : X.N[i]? = some x := by rfl) (hv : Vis X.env.scope x := by first | exact Or.inl rfl | exact Or.inr (Or.inl rfl) | exact Or.inr (Or.inr rfl))
    (hd : (x == ("__debug__" : PySem.Str)) = false := by decide) (hcd : (x == ("__classdict__" : PySem.Str)) = false := by decide) (hs : swapsWith e (some (.Attribute (.Name x px) f pos')) pos.line X.env = pure false := by rfl) :
    PS1 X W (.Assign [.Attribute (.Name x px) f pos'] e pos) (tsSetF cs i f t) := by
  obtain ⟨ee, pe, re⟩ := he.ex
  refine ⟨_, ps_fld (pe_var hN hv hd hcd) pe hs, fun G0 H0 Γ σ G H P E F ht ok => ?_⟩
  refine re G0 H0 Γ σ G H _ _ _ F ht (fun d v G1 H1 k1 x1 n1 => ?_) (ok.x F)
  obtain ⟨C, fs, hg, hC, hlen, k2⟩ := onOI_elim k1
  have F1 := F.up x1
  obtain ⟨hsl, q, e1, g1, h01, dx, fvs, q1, q2, q3, q4, q5⟩ := own_at F1 hg
  refine ⟨.ref q, e1, q, C, dx, fvs, rfl, q1, (hc C hC).1, (hc C hC).2, by rw [q5.length]; omega, ?_⟩
  have dq : dx ≠ q := fun z => by rw [z, q1] at q2; cases q2
  exact ok.nx _ _ _ _ k2 (F1.mut hsl hg e1 g1 h01 q1 trivial ⟨dx, _, upd_same, by rw [upd_ne dq]; exact q2, q3, q4, denF_put n1 q5⟩)
end
/-- what __init__ of C does -/
structure MkI (P : Program) (w : World) (K : PySem.W.Frag) (mg : PySem.Str → Option Value) (base : Heap) (C : Addr) (k n : Nat) (g : FSo) : Prop where
  ex : ∃ f, Mk K C f ∧ FnR P w K mg base (L2.CX P w) k f (spOi K (n + 1) g)
def onIns (y : D) (k : KD) : Prop := match y with
  | .ins C fs => k (.ins C fs)
  | _ => False
def tpMake (C : Addr) (g : FSo) (n : Nat) (tl : TL) : TP := fun Γ k kx => tl Γ (fun ds => ds.length = n ∧ g (.ins C [] :: ds) (fun d y => d = .non ∧ onIns y k) kx) kx
theorem run_makeS {X : Cx} {C f : Addr} {k : Nat} {sp : Sp} {E : XK} {pins : List (Addr × Obj)} {σ : L2.St} {H : Hp} {s : Shared} {Q : VK} {us : List Value} {vs : List V} (M : Mk X.K C f) (F : FnR X.prog X.w X.K X.mg X.base (L2.CX X.prog X.w) k f sp) (hr : Room (k + 1) X.A) (hx : PassesAt (L2.CX X.prog X.w) X σ E) (I : Inv X pins σ H s) (r : Vals vs us)
    (h : ∀ x dx, H x = none → H dx = none → dx ≠ x → sp (.ref x :: vs) (upd (upd H dx (.own x)) x (.ins C dx [])) (fun v H2 => v = .non ∧ Q (.ref x) H2) E) :
    wpAny (model X.prog X.w) X.A (call (.ref C) us) (EP X pins σ Q) X.xe s := by
  have f1 := I.hok.fresh (Nat.le_succ s.heap.objs.size)
  have f2 := I.hok.fresh (Nat.le_refl s.heap.objs.size)
  have hq := h (s.heap.objs.size + 1) s.heap.objs.size f1 f2 (Nat.ne_of_lt (Nat.lt_succ_self _))
  have I2 := Inv.made (C := C) I
  refine wpAny_call (make_map (f := f) I.kIn M.makes M.init (beq_iff_eq.mp M.fn) (codeAny_mono (F _ X.stack _ _ (Value.ref (s.heap.objs.size + 1) :: us) (.ref (s.heap.objs.size + 1) :: vs) _ E (hr.make C us []) (I2.env0.make C us []) (.cons rfl r) hq) fun rs s' hq' => ?_))
  cases rs with
  | error e => exact hx pins _ _ e s' I2 hq'
  | ok fl =>
    cases fl with
    | ret u =>
      obtain ⟨v, H2, J, rv, q1, q2⟩ := I2.after hq'
      subst q1
      exact ⟨rv, .ref (s.heap.objs.size + 1), H2, J, rfl, q2⟩
    | next => exact False.elim hq'
    | brk => exact False.elim hq'
    | cont => exact False.elim hq'
/-- the promise of __init__ at the new instance -/
theorem made_spec {K : PySem.W.Frag} {C : Addr} {g : FSo} {n : Nat} {G H : Hp} {vs : List V} {ds : List D} {k : KD} {kx : KX} {Q : VK} {E : XK} (s : Sub G H) (nd : DenL K G vs ds) (hl : ds.length = n) (hg : g (.ins C [] :: ds) (fun d y => d = .non ∧ onIns y k) kx)
    (hk : ∀ d v G' H', k d → Ext G H G' H' → Den K G' v d → Q v H') (hx : ∀ x cls dA G' H', kx x → Ext G H G' H' → XDen K G' H' cls dA x → E cls dA H') :
    ∀ x dx, H x = none → H dx = none → dx ≠ x → spOi K (n + 1) g (.ref x :: vs) (upd (upd H dx (.own x)) x (.ins C dx [])) (fun v H2 => v = .non ∧ Q (.ref x) H2) E := by
  intro x dx hx0 hd0 ne
  have gx := s.none hx0
  have gd := s.none hd0
  have eh : hole2 (upd (upd H dx (.own x)) x (.ins C dx [])) x dx = H := by
    funext a
    by_cases a1 : a = x
    · rw [a1, hole2_p, hx0]
    · by_cases a2 : a = dx
      · rw [a2, hole2_d, hd0]
      · rw [hole2_ne a1 a2, upd_ne a1, upd_ne a2]
  have s2 : Same H (upd (upd H dx (.own x)) x (.ins C dx [])) := fun a o e => by
    rw [upd_ne (ne_of_none e hx0), upd_ne (ne_of_none e hd0)]
    exact e
  refine ⟨G, .ins C [] :: ds, _, kx, x, dx, C, [], [], by rw [List.length_cons, nd.length, hl], by rw [List.length_cons, hl], s.up s2, gx, gd, rfl, rfl, upd_same, by rw [upd_ne ne, upd_same], .nil, fun i v d hi hv hd => ?_, hg, fun d y v G' H' kk ex gp o dn => ?_, fun z cls dA G' H' kk ex nz => ?_⟩
  · match i, hi with
    | i + 1, _ =>
      rw [List.getElem?_cons_succ] at hv hd
      obtain ⟨d', e', n'⟩ := nd.gv hv
      rw [hd] at e'
      cases e'
      exact n'
  · rw [eh] at ex o
    obtain ⟨rfl, ky⟩ := kk
    cases dn
    refine ⟨rfl, ?_⟩
    cases y with
    | ins C' fs =>
      obtain ⟨dx', fvs, o1, o2, o3, o4, o5⟩ := o
      have ne' : dx' ≠ x := fun z => by rw [z, o1] at o2; cases o2
      have g'x : G x = none := gx
      have g'd : G dx' = none := s.none o4
      have sm : Same G' (upd (upd G' dx' (.own x)) x (.ins C' dx' fvs)) := fun a o e => by
        rw [upd_ne (fun z => by rw [z, gp] at e; cases e), upd_ne (fun z => by rw [z, o3] at e; cases e)]
        exact e
      refine hk _ _ (upd (upd G' dx' (.own x)) x (.ins C' dx' fvs)) H' ky ⟨ex.h, ex.g.trans sm, fun a q ⟨u, e⟩ => ?_, ⟨fun a u e => ?_, fun a u e => ?_, ex.sub.tb⟩⟩ (.ins upd_same (by rw [upd_ne ne', upd_same]) (o5.up sm))
      · rw [upd_ne (ne_of_none e hx0), upd_ne (ne_of_none e o4)]
        exact ex.nw a q ⟨u, e⟩
      · by_cases a1 : a = x
        · rw [a1, upd_same] at e
          cases e
          rw [a1]
          exact .inl o1
        · rw [upd_ne a1] at e
          by_cases a2 : a = dx'
          · rw [a2, upd_same] at e
            cases e
            rw [a2]
            exact .inl o2
          · rw [upd_ne a2] at e
            exact ex.sub.m a u e
      · by_cases a1 : a = x
        · rw [a1, upd_same] at e
          cases e
          intro ps z
          cases z
        · rw [upd_ne a1] at e
          by_cases a2 : a = dx'
          · rw [a2, upd_same] at e
            cases e
            intro ps z
            cases z
          · rw [upd_ne a2] at e
            exact ex.sub.nt a u e
    | _ => exact ky.elim
  · rw [eh] at ex
    exact hx z cls dA G' H' kk ex nz
section
variable {X : Cx} {W : WX} {e : Expr} {es : List Expr} {tl : TL} {x : PySem.Str} {pos p : Pos} {k n j : Nat} {C : Addr} {g : FSo}
theorem p_make (M : MkI X.prog X.w X.K X.mg X.base C k n g) (hr : Room j X.A) (hj : k + 1 ≤ j) (tk : Takes X W) (hm : X.mg x = some (.ref C)) (ha : PL' X W (e :: es) tl) (hg : Gl X x := by rfl) (hdb : (x == ("__debug__" : PySem.Str)) = false := by decide)
    (hst : starEach (e :: es) X.env = (false, eval e X.env) :: starEach es X.env := by rfl) (hpl : (backTo pos (starEach es X.env)).any (·.1) = false := by rfl) : PP X W (.Call (.Name x p) (e :: es) [] pos) (tpMake C g n tl) := by
  obtain ⟨ea, pa, ra⟩ := ha.ex
  obtain ⟨f, mk, R⟩ := M.ex
  refine ⟨fun σ H Q => ea σ H fun vs H1 => ∀ x dx, H1 x = none → H1 dx = none → dx ≠ x → spOi X.K (n + 1) g (.ref x :: vs) (upd (upd H1 dx (.own x)) x (.ins C dx [])) (fun v H2 => v = .non ∧ Q (.ref x) H2) (WE W σ), ⟨fun pins s σ H Q I h => ?_⟩, fun G0 H0 Γ σ G H kd kx Q F ht hk hx => ?_⟩
  · refine wpAny_Call_Name_kw (ld_glob I hg hm ?_ hdb)
    refine PySem.W.callWith_K (h₀ := X.base) I.ok.mod.kin mk.kp (thn (pa.run pos pins s σ H _ I h) fun us s1 ⟨vs, H1, I1, r, q⟩ => ⟨I1.kIn, ?_⟩) hst hpl
    exact run_makeS mk R (hr.mono hj) (passAt tk σ) I1 r q
  · refine ra G0 H0 Γ σ G H _ kx _ F ht (fun ds vs G1 H1 k1 x1 n1 => ?_) hx
    exact made_spec x1.sub n1 k1.1 k1.2 (fun d v G' H' kk ex dn => hk d v G' H' kk (x1.trans ex) dn) (fun y cls dA G' H' kk ex dn => hx y cls dA G' H' kk (x1.trans ex) dn)
end
end PL
set_option Elab.async false
set_option linter.all false
set_option maxRecDepth 100000
set_option maxHeartbeats 4000000
namespace PL
open PySem L2 PyProof.Rows
variable [Tabl]
def flatD : D → Bool
  | .non => true
  | .bl _ => true
  | .int _ => true
  | .str _ => true
  | _ => false
theorem flat_den {K : PySem.W.Frag} {G G' : Hp} {v : V} {d : D} (h : Den K G v d) (f : flatD d = true) : Den K G' v d := by
  cases d with
  | non => cases h; exact .non
  | bl b => cases h; exact .bl b
  | int b => cases h; exact .int b
  | str b => cases h; exact .str b
  | _ => cases f
theorem flat_denF {K : PySem.W.Frag} {G G' : Hp} : ∀ {fvs : List (PySem.Str × V)} {fs : List (PySem.Str × D)}, DenF K G fvs fs → (fs.all fun q => flatD q.2) = true → DenF K G' fvs fs
  | _, _, .nil, _ => .nil
  | _, _, .cons h t, f => by
    obtain ⟨f1, f2⟩ := Bool.and_eq_true_iff.mp (show (flatD _ && _) = true from f)
    exact .cons (flat_den h f1) (flat_denF t f2)
theorem fr_put {K : PySem.W.Frag} {G0 H0 G H : Hp} {Γ : Ga} {σ : L2.St} (F : Fr K G0 H0 Γ σ G H) {i : Nat} {v : V} {d : D} (e : σ[i]? = some (some v)) (n : Den K G v d) : Fr K G0 H0 (gset Γ i (.pu d)) σ G H := by
  refine ⟨by rw [gset_eq, List.length_set]; exact F.len, F.e, fun j s h => ?_, fun a b q s t h1 h2 h3 h4 h5 h6 => ?_⟩
  · by_cases hj : i = j
    · subst hj
      rw [gset_eq, List.getElem?_set] at h
      rw [if_pos rfl] at h
      split at h
      · cases h
        exact ⟨v, e, n⟩
      · cases h
    · rw [gset_eq, List.getElem?_set_ne hj] at h
      exact F.at_ j s h
  · have f : ∀ (a : Nat) (s : Sl), (gset Γ i (.pu d))[a]? = some s → s.owns → Γ[a]? = some s := fun a s h1 h2 => by
      by_cases ha : i = a
      · subst ha
        rw [gset_eq, List.getElem?_set, if_pos rfl] at h1
        split at h1
        · cases h1
          exact h2.elim
        · cases h1
      · rw [gset_eq, List.getElem?_set_ne ha] at h1
        exact h1
    exact F.dj a b q s t (f a s h1 h2) h2 (f b t h3 h4) h4 h5 h6
section
variable {X : Cx} {W : WX} {e : Expr} {t : TP} {st : Stmt} {s : TSp}
theorem gset2 (Γ : Ga) (i : Nat) (a b : Sl) : gset (gset Γ i a) i b = gset Γ i b := by rw [gset_eq, gset_eq, gset_eq, List.set_set]
end
end PL
set_option Elab.async false
set_option linter.all false
set_option maxRecDepth 100000
set_option maxHeartbeats 4000000
namespace CmX
open PySem PySem.Spec PyProof.Rows L2
end CmX
set_option Elab.async false
set_option linter.all false
set_option maxRecDepth 100000
set_option maxHeartbeats 4000000
namespace CmX
open PySem PySem.Spec PyProof.Rows L2
end CmX
set_option Elab.async false
set_option linter.all false
set_option maxRecDepth 100000
set_option maxHeartbeats 4000000
namespace PL
open PySem PySem.Froz L2 PyProof.Rows PpSet
variable [Tabl]
section
variable {X : Cx} {W : WX} {e elt tg iter : Expr} {t : TP} {p q pos : Pos}
def fTup : F1
  | .lst xs, k => k (.tup xs)
  | .tup xs, k => k (.tup xs)
  | _, _ => False
theorem c_tup : CallR X (.type "tuple") (fun xs H Q => ∃ p ys, xs = [.ref p] ∧ ((SqL X.K H p ys ∧ ∀ l, H l = none → Q (.ref l) (upd H l (.tup ys))) ∨ (SqT X.K H p ys ∧ Q (.ref p) H))) ∧ RdC1 X.K (fun xs H Q => ∃ p ys, xs = [.ref p] ∧ ((SqL X.K H p ys ∧ ∀ l, H l = none → Q (.ref l) (upd H l (.tup ys))) ∨ (SqT X.K H p ys ∧ Q (.ref p) H))) fTup := by
  refine ⟨call_tuple_of, fun H0 G H v d k Q s n h hk => ?_⟩
  cases d with
  | lst xs =>
    obtain ⟨a, ys, rfl, h1, r1⟩ := n.lst s
    refine ⟨a, ys, rfl, .inl ⟨SqL.of h1, fun l hl => ?_⟩⟩
    have ex := Ext.new (o := .tup ys) s hl
    exact hk _ _ _ _ h ex (.tup (.inl (.inl upd_same)) (r1.up ex.g))
  | tup xs =>
    rcases n with n | ⟨p, e, g, r⟩
    · cases n with
      | @tup a vs _ h1 h2 => exact ⟨a, vs, rfl, .inr ⟨s.sqt h1, hk _ _ G H h (Ext.refl s) (.tup h1 h2)⟩⟩
    · exact r.elim
  | _ => exact h.elim
end
end PL
set_option Elab.async false
set_option linter.all false
set_option maxRecDepth 100000
set_option maxHeartbeats 4000000
namespace PL
open PySem L2 PyProof.Rows
variable [Tabl]
section
variable {K : PySem.W.Frag} {G0 H0 G H : Hp} {Γ : Ga} {σ : L2.St}
theorem Fr.slot (F : Fr K G0 H0 Γ σ G H) {i : Nat} {a b : Sl} (hs : Γ[i]? = some a) (ho : a.owns) (hb : b.owns → a.owns) (n : SlOk K H0 G H (σ[i]?) b) : Fr K G0 H0 (gset Γ i b) σ G H := by
  refine ⟨by rw [gset_eq, List.length_set]; exact F.len, F.e, fun j s h => ?_, fun x y q s t h1 h2 h3 h4 h5 h6 => ?_⟩
  · by_cases hj : i = j
    · subst hj
      rw [gset_gat hs] at h
      cases h
      exact n
    · rw [gset_eq, List.getElem?_set_ne hj] at h
      exact F.at_ j s h
  · have f : ∀ (x : Nat) (s : Sl), (gset Γ i b)[x]? = some s → s.owns → ∃ s', Γ[x]? = some s' ∧ s'.owns := fun x s h1 h2 => by
      by_cases hx : i = x
      · subst hx
        exact ⟨a, hs, ho⟩
      · rw [gset_eq, List.getElem?_set_ne hx] at h1
        exact ⟨s, h1, h2⟩
    obtain ⟨s', g1, g2⟩ := f x s h1 h2
    obtain ⟨t', g3, g4⟩ := f y t h3 h4
    exact F.dj x y q s' t' g1 g2 g3 g4 h5 h6
end
end PL
set_option Elab.async false
set_option linter.all false
set_option maxRecDepth 100000
set_option maxHeartbeats 4000000
namespace PL
open PySem L2 PyProof.Rows
variable [Tabl]
def fInI (neg : Bool) : F2
  | .int i, .lst ds, k => ∃ ns : List Int, ds = ns.map D.int ∧ k (.bl (if neg then !ns.contains i else ns.contains i))
  | _, _, _ => False
theorem inV_ints (i : Int) : ∀ ns : List Int, inV (.int i) (ns.map V.int) = ns.contains i
  | [] => rfl
  | n :: r => by
    have ih := inV_ints i r
    show (eqV (.int n) (.int i) || inV (.int i) (r.map V.int)) = _
    rw [ih, List.contains_cons]
    congr 1
    show (n == i) = (i == n)
    exact Bool.beq_comm
theorem rd_inI {K : PySem.W.Frag} {neg : Bool} : RdO K (rIn K neg) (fInI neg) := by
  intro H0 G H v1 v2 d1 d2 k Q s n1 n2 hf hk
  cases d1 with
  | int i =>
    cases d2 with
    | lst ds =>
      obtain ⟨ns, rfl, hf⟩ := hf
      obtain ⟨a, xs, e, h1, r1⟩ := n2.lst s
      rw [denL_int r1] at h1
      refine ⟨a, ns.map V.int, e, .inl (SqL.of h1), by rw [n1.int]; rfl, ?_, ?_⟩
      · rw [List.all_eq_true]
        intro y hy
        obtain ⟨z, _, rfl⟩ := List.mem_map.mp hy
        rfl
      · rw [n1.int, inV_ints]
        exact hk _ _ G H hf (Ext.refl s) (.bl _)
    | _ => exact hf.elim
  | _ => exact hf.elim
section
variable {X : Cx} {W : WX} {e a b c o : Expr} {es : List Expr} {t ta tb tc to : TP} {tl : TL} {tt tu : TB} {pos apos p q : Pos} {x : PySem.Str} {k n j : Nat} {fs : FS}
theorem o_inI : OpR X (compareOp .In) (rIn X.K false) ∧ RdO X.K (rIn X.K false) (fInI false) := ⟨op_in_seq, rd_inI⟩
structure InsB (K : PySem.W.Frag) (C B : Addr) (b : Bool) : Prop where
  cl : Cls K C
  ha : PySem.W.findIn K (.ref C) "__class__" = some (some (.builtin "object.__class__"))
  hn : PySem.W.specialIn K (.builtin "object.__class__") "__get__" = some (some (.builtin "getset_descriptor.__get__"))
  htk : PySem.W.takesIn K (.builtin "object.__class__") = some true
  hm : PySem.W.mroIn K C (.type "object") = some true
  me : PySem.W.kitOne K (.ref C) (.ref B) = some b
end
end PL
set_option Elab.async false
set_option linter.all false
set_option maxRecDepth 100000
set_option maxHeartbeats 4000000
namespace L2
open PySem PySem.Spec PyProof.Rows
section
variable {prog : Program} {w : World} {A : Around} {E : Value → Shared → Prop} {s : Shared}
abbrev tupIt (t : Addr) : Obj := { cls := .type "tuple_iterator", data := .fields #[.ref t, .int 0 0] }
abbrev enumAt (i : Addr) : Obj := { cls := .type "enumerate", data := .fields #[.none, .bool false, .ref i, rawInt 0, .none, .none] }
theorem enum_over (t : Addr) (items : Array Value) :
    Meets (Builtin.«enumerate.__new__» ⟨[.type "enumerate", .ref t], []⟩) (fun _ R s => s.heap.IsTuple t items ∧ R (.ok (.ret (.ref (s.heap.push (tupIt t)).objs.size))) { s with heap := (s.heap.push (tupIt t)).push (enumAt s.heap.objs.size) }) :=
  .of_wp fun prog w A R s ⟨ht, h⟩ => by
    obtain ⟨hp, g, d, tk, os⟩ := s
    have hsub := sub_enumerate
    wp_walk
    refine wpAny_stack_any fun st => wpAny_pure ?_
    have it := fun {A : Around} {Q : Value → Shared → Prop} {E : Value → Shared → Prop} q => wpAny_pyIter_tuple (prog := prog) (w := w) (A := A) (E := E) (s := ⟨hp, g, d, tk, os⟩) (Q := Q) ht q
    split
    · rename_i c _ _ _ _ _
      cases (c == Value.type "enumerate")
      · wp_walk using it
        exact ⟨_, rfl, h⟩
      · wp_walk using it
        exact ⟨_, rfl, h⟩
    · wp_walk using it
      exact ⟨_, rfl, h⟩
theorem call_enum_tup {t : Addr} {items : Array Value} {Q : Value → Shared → Prop} (ht : s.heap.IsTuple t items)
    (h : ∀ h', IsEnum h' (s.heap.objs.size + 1) s.heap.objs.size 0 .none → h'.IsTupleIter s.heap.objs.size t 0 → (∀ b o, s.heap.get? b = some o → h'.get? b = some o) → Q (.ref (s.heap.objs.size + 1)) { s with heap := h' }) :
    wpAny (model prog w) A (call (.type "enumerate") [.ref t]) Q E s := by
  refine callType_new F.called_enumerate (by decide) (F.typeCall_enumerate_1 _) (F.newCall_enumerate_1 _) (fun x => F.args_object_init_2 x _) F.entry_enumerate_new (enum_over t items) ⟨ht, ?_⟩
  have z1 : (s.heap.push (tupIt t)).objs.size = s.heap.objs.size + 1 := Heap.size_push ..
  have g2 := Heap.get?_push_size (s.heap.push (tupIt t)) (o := enumAt s.heap.objs.size) rfl
  rw [z1] at g2
  show _ ∧ _
  rw [z1]
  exact ⟨⟨_, g2, rfl⟩, h _ g2 ⟨_, Heap.get?_push_of_some _ (Heap.get?_push_size _ rfl), rfl, rfl⟩ fun b o e => Heap.get?_push_of_some _ (Heap.get?_push_of_some _ e)⟩
end
/-- the items of the tuple at a, each in a new pair behind its place -/
def Iet (K : PySem.W.Frag) (a : Addr) (xs : List V) : It :=
  ⟨fun i H => i < xs.length ∧ SqT K H a xs, fun i H v H' => ∃ T x, v = .ref T ∧ H T = none ∧ H' = upd H T (.tup [.int (i : Nat), x]) ∧ xs[i]? = some x, fun i H => xs.length ≤ i ∧ SqT K H a xs⟩
theorem turn_enumT {P : Program} {w : World} {K : PySem.W.Frag} {elts : List Expr} {kk : Nat} {tpos : Pos} (a : Addr) (xs : List V) (e it : Addr) :
    Turn P w K (.Tuple elts kk tpos) (Iet K a xs) [e, it] e (fun i h => (∃ old, IsEnum h e it ((i : Nat) : Int) old) ∧ h.IsTupleIter it a i ∧ e ≠ it ∧ e ≠ a ∧ it ≠ a ∧ i ≤ xs.length) where
  mem := List.mem_cons_self
  obj := fun i h st b hb => by
    obtain ⟨⟨old, he⟩, ⟨o, ho, hc, hd⟩, _⟩ := st
    rcases (show b = e ∨ b = it by simpa using hb) with rfl | rfl
    · exact ⟨_, he, fun v q => nomatch q⟩
    · exact ⟨o, ho, fun v q => by rw [hd] at q; cases q⟩
  keep := fun i h h' ⟨⟨old, he⟩, hi, hne⟩ k => ⟨⟨old, k e (by simp) _ he⟩, hi.at fun o q => k it (by simp) o q, hne⟩
  item := by
    intro X hP hw hK hc i pins s σ H E I hf st hg
    subst hP hw hK
    obtain ⟨⟨old, he⟩, hit, ne1, ne2, ne3, hle⟩ := st
    obtain ⟨hlt, hq⟩ := hg
    have hx : xs[i]? = some xs[i] := List.getElem?_eq_getElem hlt
    obtain ⟨its, rv, tp, hz⟩ := I.tuple hq
    obtain ⟨u, hu, ru⟩ := rv.get hx
    have hui : its.toArray[i]? = some u := by simpa using hu
    have ilt : i < its.toArray.size := (Array.getElem?_eq_some_iff.mp hui).1
    have D := Draws.tuple (prog := X.prog) (w := X.w) (A := X.A.in1) (show X.A.in1.handled = none from I.ok.hd hc) it a (Ne.symm ne3) its.toArray
    have lt1 : e < s.heap.objs.size := Heap.lt_size he
    have lt2 : it < s.heap.objs.size := by obtain ⟨_, q, _⟩ := hit; exact Heap.lt_size q
    refine wpAny_pyNext_enum_itemD D he ⟨hit, tp⟩ ilt ne1 (by simp [ne1, ne2]) fun v h' tk hP ho hs hT hsz hk => ?_
    have hP : its.toArray[i]? = some v := hP
    rw [hui] at hP
    cases hP
    refine ⟨_, rfl, wpAny_letOwnedTupleGo_enum (s := { s with heap := h', toks := tk + 1 }) ho fun h2 he2 sb => ?_⟩
    have hT2 : h2.get? s.heap.objs.size = some { cls := .type "tuple", data := .seq #[.int i tk, u] } := (sb.2 _ (Nat.ne_of_gt lt1)).trans hT
    have I1 : Inv X pins σ (upd H s.heap.objs.size (.tup [.int (i : Nat), xs[i]])) { s with heap := h2, toks := tk + 1 } :=
      I.turnedNew (ch := [e, it]) (fun b ob hb q => (sb.2 b (fun z => hb (by simp [z]))).trans (hk b ob (fun z => hb (by simp [z])) (fun z => hb (by simp [z])) q)) hf (Nat.le_refl _)
        ⟨by show 2 ≤ sizeLine; decide, [.int i tk, u], .cons ⟨_, rfl⟩ (.cons ru .nil), ⟨_, hT2, rfl, _, rfl⟩⟩
    refine ⟨.ref s.heap.objs.size, _, I1, rfl, ⟨_, xs[i], rfl, I.hok.fresh (Nat.le_refl _), rfl, hx⟩, ⟨⟨u, by rw [Int.natCast_add]; exact he2⟩, hs.1.at fun o q => (sb.2 it (Ne.symm ne1)).trans q, ne1, ne2, ne3, hlt⟩, fun b hb => ?_⟩
    have lt : b < s.heap.objs.size := by
      rcases (show b = e ∨ b = it by simpa using hb) with rfl | rfl
      · exact lt1
      · exact lt2
    rw [upd_ne (Nat.ne_of_lt lt)]
    exact (hf b hb).1
  done := by
    intro X hP hw hK hc i pins s σ H E I hf st hg
    subst hP hw hK
    obtain ⟨⟨old, he⟩, hit, ne1, ne2, ne3, hle⟩ := st
    obtain ⟨hge, hq⟩ := hg
    obtain ⟨its, rv, tp, hz⟩ := I.tuple hq
    have e1 : i = its.toArray.size := by rw [List.size_toArray, ← rv.length]; omega
    rw [e1] at he hit
    have D := Draws.tuple (prog := X.prog) (w := X.w) (A := X.A.in1) (show X.A.in1.handled = none from I.ok.hd hc) it a (Ne.symm ne3) its.toArray
    obtain ⟨f0, f1, f2, f3, f4, f5⟩ := hf it (by simp)
    exact wpAny_pyNext_enum_endD D he ⟨hit, tp⟩ fun h' eb => ⟨rfl, I.turned (t' := s.toks) (fun b o hb q => eb b o hb q) f0 f1 f3 f4 f5⟩
  self := fun A i s Q E ⟨⟨_, he⟩, _⟩ h => wpAny_pyIter_enum he h
def iEnumT (K : PySem.W.Frag) (ta : TA) : TI := fun σ H R => ta σ H fun vs H1 => ∃ a xs, vs = [.ref a] ∧ SqT K H1 a xs ∧ R (Iet K a xs) H1
theorem pi_enumT {X : Cx} {e : Expr} {ta : TA} {p pos tpos : Pos} {elts : List Expr} {kk : Nat} (hg : Gl X "enumerate") (hm : X.mg "enumerate" = none) (ha : PA X [e] ta) (hs : starEach [e] X.env = [(false, eval e X.env)] := by rfl) :
    PI X (.Tuple elts kk tpos) (.Call (.Name "enumerate" p) [e] [] pos) (iEnumT X.K ta) := by
  refine ⟨fun pins s σ H R I h => ?_⟩
  refine Call_ (ld_blt I hg hm boot_enumerate (PyProof.Rows.callWith_type1 (thn (ha.run pos pins s σ H _ I h) fun us s1 ⟨vs, H1, I1, r1, q1⟩ => ?_) hs rfl))
  obtain ⟨a, xs, rfl, hq, q⟩ := q1
  cases r1 with
  | cons r rr =>
    cases rr
    cases r
    obtain ⟨its, rv, tp, hz⟩ := I1.tuple hq
    have la : a < s1.heap.objs.size := by obtain ⟨o, ho, _⟩ := id tp; exact Heap.lt_size ho
    refine call_enum_tup tp fun h' he hit hk => wpAny_pyIter_enum he ?_
    have fr : ∀ b ∈ [s1.heap.objs.size + 1, s1.heap.objs.size], FpOk X pins H1 b := fun b hb => by
      have hle : s1.heap.objs.size ≤ b := by
        rcases (show b = s1.heap.objs.size + 1 ∨ b = s1.heap.objs.size by simpa using hb) with rfl | rfl
        · exact Nat.le_succ _
        · exact Nat.le_refl _
      exact I1.fpOk hle (I1.hok.fresh hle)
    exact ⟨s1.heap.objs.size + 1, [s1.heap.objs.size + 1, s1.heap.objs.size], _, _, H1, rfl, I1.kept (t' := s1.toks) hk, turn_enumT a xs (s1.heap.objs.size + 1) s1.heap.objs.size, ⟨⟨.none, he⟩, hit, Nat.succ_ne_self _, Ne.symm (Nat.ne_of_lt (Nat.lt_succ_of_lt la)), Ne.symm (Nat.ne_of_lt la), Nat.zero_le _⟩, fr, q⟩
end L2
namespace PL
open PySem L2
variable [Tabl]
def pairsD : Nat → List D → List D
  | _, [] => []
  | i, c :: r => .tup [.int (i : Nat), c] :: pairsD (i + 1) r
theorem pairsD_length : ∀ (i : Nat) (s : List D), (pairsD i s).length = s.length
  | _, [] => rfl
  | i, c :: r => congrArg (· + 1) (pairsD_length (i + 1) r)
theorem pairsD_get : ∀ (s : List D) (i k : Nat) (c : D), s[k]? = some c → (pairsD i s)[k]? = some (.tup [.int ((i + k : Nat)), c])
  | [], _, _, _, h => by simp at h
  | a :: r, i, 0, c, h => by
    have : a = c := by simpa using h
    subst this
    rfl
  | a :: r, i, k + 1, c, h => by
    have h : r[k]? = some c := by simpa using h
    have := pairsD_get r (i + 1) k c h
    show (pairsD (i + 1) r)[k]? = _
    rw [this, show i + 1 + k = i + (k + 1) by omega]
section
variable {X : Cx} {W : WX} {e : Expr} {t : TP} {tl : TL} {pos : Pos}
def tiEnumT (t : TP) : TL := fun Γ k kx => t Γ (fun d => match d with | .tup s => k (pairsD 0 s) | _ => False) kx
theorem i_enumT {p pos tpos : Pos} {elts : List Expr} {kk : Nat} (hm : X.mg "enumerate" = none) (h : PP X W e t) (hg : Gl X "enumerate" := by rfl) (hs : starEach [e] X.env = [(false, eval e X.env)] := by rfl) :
    PIt X W (.Tuple elts kk tpos) (.Call (.Name "enumerate" p) [e] [] pos) (tiEnumT t) := by
  obtain ⟨ea, pa, ra⟩ := h.ex
  refine ⟨_, pi_enumT hg hm (pa_cons pa pa_nil hs) hs, fun G0 H0 Γ σ G H k kx R F ht hk hx => ?_⟩
  refine ra G0 H0 Γ σ G H _ kx _ F ht (fun d v G1 H1 k1 x1 n1 => ?_) hx
  cases d with
  | tup ds =>
    cases n1 with
    | @tup a xs _ h1 h2 =>
      refine ⟨a, xs, rfl, x1.sub.sqt h1, hk _ _ _ _ k1 x1 ⟨fun i G2 H2 hi s2 sb => ?_, fun i G2 H2 v H3 hi s2 sb y => ?_, fun G2 H2 s2 sb => ?_⟩⟩
      · rw [pairsD_length] at hi
        exact ⟨by rw [h2.length]; exact hi, sb.sqt (sqt_same s2 h1)⟩
      · obtain ⟨T, x, rfl, hT, rfl, hx⟩ := y
        obtain ⟨d, hd, n⟩ := h2.gv hx
        have := pairsD_get ds 0 i d hd
        rw [Nat.zero_add] at this
        have ex := Ext.new (o := .tup [.int (i : Nat), x]) sb hT
        exact ⟨_, _, this, ex, .tup (SqT.of upd_same) (.cons (.int _) (.cons ((n.up s2).up ex.g) .nil))⟩
      · show xs.length ≤ _ ∧ _
        rw [pairsD_length, h2.length]
        exact ⟨Nat.le_refl _, sb.sqt (sqt_same s2 h1)⟩
  | _ => exact k1.elim
end
end PL
set_option Elab.async false
set_option linter.all false
set_option maxRecDepth 100000
set_option maxHeartbeats 4000000
namespace CmX
open PySem PySem.Spec PyProof.Rows L2
end CmX
set_option Elab.async false
set_option linter.all false
set_option maxRecDepth 100000
set_option maxHeartbeats 4000000
namespace PL
open PySem L2 PyProof.Rows CmX
variable [Tabl]
def noOwn (Γ : Ga) : Bool := Γ.all fun s => match s with
  | .un => true
  | .pu _ => true
  | _ => false
theorem noOwn_at {Γ : Ga} (h : noOwn Γ = true) {i : Nat} {s : Sl} (e : Γ[i]? = some s) : s = .un ∨ ∃ d, s = .pu d := by
  have := List.all_eq_true.mp h _ (List.mem_of_getElem? e)
  cases s with
  | un => exact .inl rfl
  | pu d => exact .inr ⟨d, rfl⟩
  | _ => cases this
section
variable {X : Cx} {W : WX} {w0 w1 : TI} {g0 : TG} {q0 : TT} {ek ev : TE} {t0 t1 : TL} {gp : TGp} {tk tv : TP} {is own : List Nat} {j : Nat}
theorem Fr.base {K : PySem.W.Frag} {G0 H0 G1 H1 G H : Hp} {Γ : Ga} {σ : L2.St} (F : Fr K G0 H0 Γ σ G H) (n : noOwn Γ = true) (x : Ext G1 H1 G H) : Fr K G1 H1 Γ σ G H := by
  refine ⟨F.len, x, fun i t h => ?_, F.dj⟩
  have q := F.at_ i t h
  rcases noOwn_at n h with rfl | ⟨d, rfl⟩
  · trivial
  · exact q
end
end PL
set_option Elab.async false
set_option linter.all false
set_option maxRecDepth 100000
set_option maxHeartbeats 4000000
namespace PL
open PySem L2 PyProof.Rows
variable [Tabl]
theorem fnR_def {P : Program} {w : World} {K : PySem.W.Frag} {mg : PySem.Str → Option Value} {base : Heap} {k : Nat} {f : Addr} {fd : FuncData} {ps : List PySem.Str} {sp : Sp} {dvs : List V} {ds : List Value} (F : FnOk P w K mg base (L2.CX P w) k f fd ps sp) (hb : Binds K fd ps ds) (hd : Vals dvs ds) :
    FnR P w K mg base (L2.CX P w) k f (fun vs H Q E => sp (vs ++ dvs) H Q E) := by
  intro A outer s H us vs Q E hr e0 r h
  have r2 : Vals (vs ++ dvs) (us ++ ds) := r.append hd
  have hl : (us ++ ds).length = ps.length := by rw [← r2.length]; exact F.len _ _ _ _ h
  exact F.run A outer s H ⟨us, []⟩ (us ++ ds) (vs ++ dvs) Q E hr e0 (hb s us (e0.mod.kin.keeps fun b o q => (e0.bs b o q).1) hl) r2 h
end PL
set_option Elab.async false
set_option linter.all false
set_option maxRecDepth 100000
set_option maxHeartbeats 4000000
namespace PL
open PySem L2 PyProof.Rows
end PL
set_option Elab.async false
set_option linter.all false
set_option maxRecDepth 100000
set_option maxHeartbeats 4000000
namespace PL
open PySem L2 PyProof.Rows
variable [Tabl]
section
variable {P : Program} {w : World} {K : PySem.W.Frag} {mg : PySem.Str → Option Value} {base : Heap} {k n : Nat} {f : Addr} {fd : FuncData} {ps : List PySem.Str} {sp : Sp}
theorem fnR_of (F : FnOk P w K mg base (L2.CX P w) k f fd ps sp) (hb : Binds K fd ps []) : FnR P w K mg base (L2.CX P w) k f sp :=
  (fnR_def F hb .nil).imp fun vs H Q E h => by rw [List.append_nil]; exact h
theorem imp_spOf {fs fs' : FS} (F : FnR P w K mg base (L2.CX P w) k f (spOf K n fs)) (h : ∀ ds kd kx, fs' ds kd kx → fs ds kd kx) : FnR P w K mg base (L2.CX P w) k f (spOf K n fs') :=
  F.imp fun vs H Q E ⟨G, ds, kd, kx, a, b, c, d, e⟩ => ⟨G, ds, kd, kx, a, b, c, h _ _ _ d, e⟩
theorem imp_spOi {fs fs' : FSo} (F : FnR P w K mg base (L2.CX P w) k f (spOi K n fs)) (h : ∀ ds kd kx, fs' ds kd kx → fs ds kd kx) : FnR P w K mg base (L2.CX P w) k f (spOi K n fs') :=
  F.imp fun vs H Q E ⟨G, ds, kd, kx, p, dx, C, fs0, fvs, a1, a2, a3, a4, a5, a6, a7, a8, a9, a10, a11, a12, a13⟩ => ⟨G, ds, kd, kx, p, dx, C, fs0, fvs, a1, a2, a3, a4, a5, a6, a7, a8, a9, a10, a11, h _ _ _ a12, a13⟩
end
end PL
set_option Elab.async false
set_option linter.all false
set_option maxRecDepth 100000
set_option maxHeartbeats 4000000
namespace PL
open PySem L2 PyProof.Rows
variable [Tabl]
def tsAsgG (t : TP) (g : TGp) : TSp := fun P Γ => t Γ (fun d => g d Γ fun Γ' => P.nx Γ') (fun x => P.xx x Γ)
section
variable {X : Cx} {W : WX} {e tg : Expr} {t : TP} {gp : TGp} {is : List Nat} {pos : Pos}
theorem s_asgG (h : PP X W e t) (hg : PGt X tg is gp) (hs : swapsWithSole [tg] e pos.line X.env = pure false := by rfl) (hw : swappedStores [tg] e X.env = pure none := by rfl)
    (h1 : (assignEach [tg] X.env).map (·.2) = [assign tg X.env] := by rfl) : PS1 X W (.Assign [tg] e pos) (tsAsgG t gp) := by
  obtain ⟨ea, pa, ra⟩ := h.ex
  obtain ⟨g, pg, rg⟩ := hg.ex
  refine ⟨_, ps_asg pa pg hs hw h1, fun G0 H0 Γ σ G H P E F ht ok => ?_⟩
  refine ra G0 H0 Γ σ G H _ _ _ F ht (fun d v G1 H1 k1 x1 n1 => ?_) (ok.x F)
  exact rg G0 H0 Γ σ G1 H1 d v _ _ (F.up x1) n1 k1 fun Γ' σ' k' F' _ => ok.nx Γ' σ' G1 H1 k' F'
end
end PL
set_option Elab.async false
set_option linter.all false
set_option maxRecDepth 100000
set_option maxHeartbeats 4000000
namespace PL
open PySem L2 PyProof.Rows
end PL
set_option Elab.async false
set_option linter.all false
set_option maxRecDepth 100000
set_option maxHeartbeats 4000000
namespace PL
open PySem PySem.Spec L2 PyProof.Rows
end PL
set_option Elab.async false
set_option linter.all false
set_option maxRecDepth 100000
set_option maxHeartbeats 4000000
namespace PL
open PySem L2 PyProof.Rows
end PL
set_option Elab.async false
set_option linter.all false
set_option maxRecDepth 100000
set_option maxHeartbeats 4000000
namespace PL
open PySem L2 PyProof.Rows
end PL
set_option Elab.async false
set_option linter.all false
set_option maxRecDepth 100000
set_option maxHeartbeats 4000000
namespace PL
open PySem L2
end PL
set_option Elab.async false
set_option linter.all false
set_option maxRecDepth 100000
set_option maxHeartbeats 4000000
namespace PL
open PySem L2
variable [Tabl]
/-- a pair as data -/
def pd (p : Int × Int) : D := .tup [.int p.1, .int p.2]
def up2 (l : List Int) : Int × Int := (l.getD 0 0, l.getD 1 0)
end PL
set_option Elab.async false
set_option linter.all false
set_option maxRecDepth 100000
set_option maxHeartbeats 4000000
namespace PL
open PySem L2 PySem.W PySem.Calls
end PL
set_option Elab.async false
set_option linter.all false
set_option maxRecDepth 100000
set_option maxHeartbeats 4000000
namespace PL
open PySem L2 PyProof.Rows
variable [Tabl]
section
variable {X : Cx} {W : WX}
def tgTup3 (i j l : Nat) : TGp := fun d Γ k => match d with
  | .tup [a, b, c] => k (gset (gset (gset Γ i (.pu a)) j (.pu b)) l (.pu c))
  | _ => False
theorem g_tup3 (i j l : Nat) {x y z : PySem.Str} {p q r pos : Pos} {kk : Nat} (hc : X.calm = true) (nd : X.N.Nodup) (hi : X.N[i]? = some x := by rfl) (hj : X.N[j]? = some y := by rfl) (hl : X.N[l]? = some z := by rfl)
    (hx : Loc X.env.scope x := by first | exact Or.inl rfl | exact Or.inr rfl) (hy : Loc X.env.scope y := by first | exact Or.inl rfl | exact Or.inr rfl) (hz : Loc X.env.scope z := by first | exact Or.inl rfl | exact Or.inr rfl)
    (hf : X.fn x = true ∨ X.env.scope.names.lookup x = some .local := by first | exact .inl rfl | exact .inr rfl) (hf2 : X.fn y = true ∨ X.env.scope.names.lookup y = some .local := by first | exact .inl rfl | exact .inr rfl) (hf3 : X.fn z = true ∨ X.env.scope.names.lookup z = some .local := by first | exact .inl rfl | exact .inr rfl) :
    PGt X (.Tuple [.Name x p, .Name y q, .Name z r] kk pos) [i, j, l] (tgTup3 i j l) := by
  refine ⟨_, pg_tup hc (pgs_cons (pg_name nd hi hx hf) (pgs_cons (pg_name nd hj hy hf2) (pgs_cons (pg_name nd hl hz hf3) pgs_nil))), fun G0 H0 Γ σ G H d v k Q F n ht hk => ?_⟩
  cases d with
  | tup xs =>
    match xs, ht, n with
    | [a, b, c], ht, n =>
      cases n with
      | @tup ad vs _ h1 h2 =>
        cases h2 with
        | @cons va _ _ _ n1 h2 =>
          cases h2 with
          | @cons vb _ _ _ n2 h2 =>
            cases h2 with
            | @cons vc _ _ _ n3 h2 =>
              cases h2
              refine ⟨ad, _, rfl, F.sub.sqt h1, rfl, va, _, rfl, vb, _, rfl, vc, _, rfl, rfl, ?_⟩
              refine hk _ _ ht (((F.set i n1).set j n2).set l n3) ?_
              rw [wipe_comm _ l _ [i, j, l] (by simp), wipe_comm _ j _ [i, j, l] (by simp), wipe_comm _ i _ [i, j, l] (by simp)]
  | _ => exact ht.elim
end
def fList : F1
  | .lst xs, k => k (.lst xs)
  | .tup xs, k => k (.lst xs)
  | _, _ => False
def rListOf (K : PySem.W.Frag) : List V → Hp → VK → Prop := fun xs H Q => ∃ p ys, xs = [.ref p] ∧ (SqL K H p ys ∨ SqT K H p ys) ∧ ∀ l, H l = none → Q (.ref l) (upd H l (.lst ys))
section
variable {X : Cx} {W : WX} {a e : Expr} {t : TP} {pos p q : Pos} {x : PySem.Str}
theorem c_list : CallR X (.type "list") (rListOf X.K) ∧ RdC1 X.K (rListOf X.K) fList := by
  refine ⟨call_list_of, fun H0 G H v d k Q s n h hk => ?_⟩
  cases d with
  | lst xs =>
    obtain ⟨a, ys, rfl, h1, r1⟩ := n.lst s
    refine ⟨a, ys, rfl, .inl (SqL.of h1), fun l hl => ?_⟩
    have ex := Ext.new (o := .lst ys) s hl
    exact hk _ _ _ _ h ex (.lst upd_same (r1.up ex.g))
  | tup xs =>
    rcases n with n | ⟨p, e, g, r⟩
    · cases n with
      | @tup a vs _ h1 h2 =>
        refine ⟨a, vs, rfl, .inr (s.sqt h1), fun l hl => ?_⟩
        have ex := Ext.new (o := .lst vs) s hl
        exact hk _ _ _ _ h ex (.lst upd_same (h2.up ex.g))
    · exact r.elim
  | _ => exact h.elim
end
end PL
set_option Elab.async false
set_option linter.all false
set_option maxRecDepth 100000
set_option maxHeartbeats 4000000
namespace PL
open PySem L2 PyProof.Rows
end PL
set_option Elab.async false
set_option linter.all false
set_option maxRecDepth 100000
set_option maxHeartbeats 4000000
namespace PL
open PySem L2 PyProof.Rows
variable [Tabl]
/-- any number of values -/
def spOfV (K : PySem.W.Frag) (fs : FS) : Sp := fun vs H Q E => ∃ G ds k kx, Sub G H ∧ DenL K G vs ds ∧ fs ds k kx ∧ (∀ d v G' H', k d → Ext G H G' H' → Den K G' v d → Q v H') ∧
  (∀ x cls dA G' H', kx x → Ext G H G' H' → XDen K G' H' cls dA x → E cls dA H')
section
variable {P : Program} {w : World} {K : PySem.W.Frag} {mg : PySem.Str → Option Value} {base : Heap}
/-- a method that takes any number of values -/
structure MtV (P : Program) (w : World) (K : PySem.W.Frag) (mg : PySem.Str → Option Value) (base : Heap) (C : Addr) (m : PySem.Str) (k : Nat) (fs : FS) : Prop where
  c : Cls K C
  ex : ∃ f, Meth K C m f ∧ FnR P w K mg base (L2.CX P w) k f (spOfV K fs)
theorem MtV.at {C : Addr} {m : PySem.Str} {k : Nat} {fs : FS} (M : MtV P w K mg base C m k fs) (n : Nat) : Mt P w K mg base C m k n fs := by
  obtain ⟨f, h1, h2⟩ := M.ex
  exact ⟨M.c, f, h1, h2.imp fun vs H Q E ⟨G, ds, kd, kx, a, b, _, d, e⟩ => ⟨G, ds, kd, kx, a, b, d, e⟩⟩
end
end PL
set_option Elab.async false
set_option linter.all false
set_option maxRecDepth 100000
set_option maxHeartbeats 4000000
namespace PL
open PySem L2 PyProof.Rows
def iSq (K : PySem.W.Frag) (te : TE) : TI := fun σ H R => te σ H fun v H1 => (∃ a, v = .ref a ∧ (∃ xs, SqL K H1 a xs) ∧ R (Itl K a) H1) ∨ (∃ a, v = .ref a ∧ (∃ xs, SqT K H1 a xs) ∧ R (Itt K a) H1) ∨ (∃ x, v = .str x ∧ R (Its x) H1)
theorem pi_sq {X : Cx} {tg e : Expr} {te : TE} (he : PE X e te) : PI X tg e (iSq X.K te) := by
  refine ⟨fun pins s σ H R I h => ?_⟩
  refine thn (he.run pins s σ H _ I h) fun v s1 ⟨x, H1, I1, r1, q1⟩ => ?_
  rcases q1 with ⟨a, e, ⟨xs, hq⟩, q⟩ | ⟨a, e, ⟨xs, hq⟩, q⟩ | ⟨x, e, q⟩
  · subst e
    cases r1
    obtain ⟨its, rv, p, hz⟩ := I1.list hq
    refine wpAny_pyIter_list p.isList ?_
    exact pi_one (tk := s1.toks) I1 _ (turn_list a _) ⟨_, Heap.get?_push_size _ rfl, rfl, rfl⟩ q
  · subst e
    cases r1
    obtain ⟨its, rv, p, hz⟩ := I1.tuple hq
    refine wpAny_pyIter_tuple (show s1.heap.IsTuple a its.toArray from p) ?_
    exact pi_one (tk := s1.toks) I1 _ (turn_tuple a _) ⟨_, Heap.get?_push_size _ rfl, rfl, rfl⟩ q
  · subst e
    obtain ⟨t, rfl⟩ := r1
    cases ha : x.cps.all (· < 128)
    · exact wpAny_pyIter_wide ha (pi_one (tk := s1.toks) I1 _ (turn_str _ x t "str_iterator" (.inr rfl)) ⟨_, Heap.get?_push_size _ rfl, rfl, rfl⟩ q)
    · exact wpAny_pyIter_ascii ha (pi_one (tk := s1.toks) I1 _ (turn_str _ x t "str_ascii_iterator" (.inl rfl)) ⟨_, Heap.get?_push_size _ rfl, rfl, rfl⟩ q)
variable [Tabl]
section
variable {X : Cx} {W : WX} {e a : Expr} {t : TP} {p pos : Pos} {x : PySem.Str}
def tiSq (t : TP) : TL := fun Γ k kx => t Γ (fun d => match d with | .lst xs => k xs | .frl xs => k xs | .tup xs => k xs | .str s => k (s.map fun c => .str [c]) | _ => False) kx
theorem i_sq {tg : Expr} (h : PP X W e t) : PIt X W tg e (tiSq t) := by
  obtain ⟨ea, pa, ra⟩ := h.ex
  refine ⟨_, pi_sq pa, fun G0 H0 Γ σ G H k kx R F ht hk hx => ?_⟩
  refine ra G0 H0 Γ σ G H _ kx _ F ht (fun d v G1 H1 k1 x1 n1 => ?_) hx
  cases d with
  | lst xs =>
    cases n1 with
    | @lst a vs _ h1 h2 =>
      refine .inl ⟨a, rfl, ⟨vs, SqL.of (x1.sub.at_ h1 (fun z => z))⟩, hk xs _ G1 H1 k1 x1 ⟨fun i G2 H2 hi s2 sb => ?_, fun i G2 H2 v H3 hi s2 sb y => ?_, fun G2 H2 s2 sb => ?_⟩⟩
      · have q := sb.at_ (s2 _ _ h1) (fun z => z)
        obtain ⟨v, hv, _⟩ := h2.get (List.getElem?_eq_getElem hi)
        exact ⟨vs, v, SqL.of q, hv⟩
      · have q := sb.at_ (s2 _ _ h1) (fun z => z)
        obtain ⟨rfl, y⟩ := y
        obtain ⟨d, hd, n⟩ := h2.gv (y vs (SqL.of q))
        exact ⟨d, G2, hd, Ext.refl sb, n.up s2⟩
      · have q := sb.at_ (s2 _ _ h1) (fun z => z)
        exact ⟨vs, SqL.of q, by rw [h2.length]; exact Nat.le_refl _⟩
  | frl xs =>
    cases n1 with
    | @frl a vs _ h1 h2 =>
      refine .inl ⟨a, rfl, ⟨vs, .inl (x1.sub.tgl h1)⟩, hk xs _ G1 H1 k1 x1 ⟨fun i G2 H2 hi s2 sb => ?_, fun i G2 H2 v H3 hi s2 sb y => ?_, fun G2 H2 s2 sb => ?_⟩⟩
      · have q := sb.tgl (s2 _ _ h1)
        obtain ⟨v, hv, _⟩ := h2.get (List.getElem?_eq_getElem hi)
        exact ⟨vs, v, .inl q, hv⟩
      · have q := sb.tgl (s2 _ _ h1)
        obtain ⟨rfl, y⟩ := y
        obtain ⟨d, hd, n⟩ := h2.gv (y vs (.inl q))
        exact ⟨d, G2, hd, Ext.refl sb, n.up s2⟩
      · have q := sb.tgl (s2 _ _ h1)
        exact ⟨vs, .inl q, by rw [h2.length]; exact Nat.le_refl _⟩
  | tup xs =>
    cases n1 with
    | @tup a vs _ h1 h2 =>
      refine .inr (.inl ⟨a, rfl, ⟨vs, x1.sub.sqt h1⟩, hk xs _ G1 H1 k1 x1 ⟨fun i G2 H2 hi s2 sb => ?_, fun i G2 H2 v H3 hi s2 sb y => ?_, fun G2 H2 s2 sb => ?_⟩⟩)
      · have q := sb.sqt (sqt_same s2 h1)
        obtain ⟨v, hv, _⟩ := h2.get (List.getElem?_eq_getElem hi)
        exact ⟨vs, v, q, hv⟩
      · have q := sb.sqt (sqt_same s2 h1)
        obtain ⟨rfl, y⟩ := y
        obtain ⟨d, hd, n⟩ := h2.gv (y vs q)
        exact ⟨d, G2, hd, Ext.refl sb, n.up s2⟩
      · have q := sb.sqt (sqt_same s2 h1)
        exact ⟨vs, q, by rw [h2.length]; exact Nat.le_refl _⟩
  | str s =>
    cases n1
    refine .inr (.inr ⟨SS s, rfl, hk _ _ G1 H1 k1 x1 ⟨fun i G2 H2 hi s2 sb => ?_, fun i G2 H2 v H3 hi s2 sb y => ?_, fun G2 H2 s2 sb => ?_⟩⟩)
    · show i < (SS s).cps.size
      rw [List.length_map] at hi
      simpa [SS] using hi
    · obtain ⟨rfl, c, hc, rfl⟩ := y
      have hc : s[i]? = some c := by simpa [SS] using hc
      exact ⟨.str [c], G2, by rw [List.getElem?_map, hc]; rfl, Ext.refl sb, .str [c]⟩
    · show (SS s).cps.size ≤ _
      rw [List.length_map]
      simp [SS]
  | _ => exact k1.elim
end
end PL
set_option Elab.async false
set_option linter.all false
set_option maxRecDepth 100000
set_option maxHeartbeats 4000000
namespace PySem
open Builtin PySem.Spec PyProof.Rows
end PySem
namespace PL
open PySem PySem.Spec PyProof.Rows L2
end PL
set_option Elab.async false
set_option linter.all false
set_option maxRecDepth 100000
set_option maxHeartbeats 4000000
namespace PL
open PySem PySem.Spec PyProof.Rows L2
variable [Tabl]
def fAddT : F2
  | .tup xs, .tup ys, k => xs.length + ys.length ≤ sizeLine ∧ k (.tup (xs ++ ys))
  | _, _, _ => False
theorem o_addT {X : Cx} : OpR X (binaryOp .Add) (rCatA X.K) ∧ RdO X.K (rCatA X.K) fAddT := by
  refine ⟨op_catA, ?_⟩
  intro H0 G H v1 v2 d1 d2 k Q s n1 n2 hf hk
  cases d1 with
  | tup i =>
    cases d2 with
    | tup j =>
      rcases n1 with n1 | ⟨p, e, g, r⟩
      · rcases n2 with n2 | ⟨p, e, g, r⟩
        · cases n1 with
          | @tup a vs _ t1 t2 =>
            cases n2 with
            | @tup b us _ t3 t4 =>
              refine ⟨a, b, vs, us, rfl, rfl, s.sqt t1, s.sqt t3, by rw [t2.length, t4.length]; exact hf.1, fun e => ?_, fun _ e => ?_, fun _ _ p hp => ?_⟩
              · subst e
                cases t2
                exact hk _ _ G H hf.2 (Ext.refl s) (.tup t3 t4)
              · subst e
                cases t4
                have h2 := hf.2
                rw [List.append_nil] at h2
                exact hk _ _ G H h2 (Ext.refl s) (.tup t1 t2)
              · exact hk _ _ _ _ hf.2 (Ext.new s hp) (.tup (.inl (.inl upd_same)) ((t2.append t4).up (same_upd (s.none hp))))
        · exact r.elim
      · exact r.elim
    | _ => exact hf.elim
  | _ => exact hf.elim
end PL
set_option Elab.async false
set_option linter.all false
set_option maxRecDepth 100000
set_option maxHeartbeats 4000000
namespace PL
open PySem L2 PyProof.Rows
end PL
set_option Elab.async false
set_option linter.all false
set_option maxRecDepth 100000
set_option maxHeartbeats 4000000
namespace MU
open PySem L2 PL PyProof.Rows
variable [Tabl]
/-- what a located object holds: data (a list, a dict, an instance), or a dict whose keys are tuples -/
inductive Lo where
  | d (x : D) | kt (kvs : List (List Key × D))
abbrev Mu := List (Addr × Lo)
inductive DenT (K : PySem.W.Frag) (G : Hp) : List (List Key × V) → List (List Key × D) → Prop
  | nil : DenT K G [] []
  | cons {k : List Key} {v : V} {vs : List (List Key × V)} {d : D} {ds : List (List Key × D)} : Den K G v d → DenT K G vs ds → DenT K G ((k, v) :: vs) ((k, d) :: ds)
theorem DenT.up {K : PySem.W.Frag} {G G' : Hp} (e : Same G G') : ∀ {vs : List (List Key × V)} {ds : List (List Key × D)}, DenT K G vs ds → DenT K G' vs ds
  | _, _, .nil => .nil
  | _, _, .cons h t => .cons (h.up e) (t.up e)
def LoAt (K : PySem.W.Frag) (H0 G H : Hp) (q : Addr) : Lo → Prop
  | .d x => OwnAt K H0 G H q x
  | .kt ks => ∃ kvs, H q = some (.dT kvs) ∧ DenT K G kvs ks
/-- objects of a store -/
def SO (o : HO) : Prop := MutO o ∨ (∃ x, o = .own x) ∨ ∃ k, o = .dT k
theorem SO.nt {o : HO} (h : SO o) : NT o := by
  rcases h with h | ⟨x, rfl⟩ | ⟨k, rfl⟩
  · exact h.nt
  · exact fun _ z => nomatch z
  · exact fun _ z => nomatch z
open Classical in
noncomputable def ovr (S : Addr → Prop) (H H0 : Hp) : Hp := fun a => if S a then H a else H0 a
theorem ovr_in {S : Addr → Prop} {H H0 : Hp} {a : Addr} (h : S a) : ovr S H H0 a = H a := if_pos h
theorem ovr_out {S : Addr → Prop} {H H0 : Hp} {a : Addr} (h : ¬ S a) : ovr S H H0 a = H0 a := if_neg h
/-- the store stands: S its addresses -/
structure StoS (K : PySem.W.Frag) (S : Addr → Prop) (H0 G H : Hp) (μ : Mu) : Prop where
  a : ∀ a, S a → (∃ o, H a = some o ∧ SO o) ∧ G a = none ∧ H0 a = none
  e : ∀ e ∈ μ, S e.1 ∧ LoAt K H0 G H e.1 e.2 ∧ ∀ C dx fvs, H e.1 = some (.ins C dx fvs) → S dx
  n : (μ.map (·.1)).Nodup
/-- a frame with a store -/
structure FrM (K : PySem.W.Frag) (G0 H0 : Hp) (Γ : Ga) (σ : L2.St) (G H : Hp) (μ : Mu) : Prop where
  ex : ∃ S : Addr → Prop, StoS K S H0 G H μ ∧ Fr K G0 (ovr S H H0) Γ σ G H
section
variable {K : PySem.W.Frag} {G0 H0 G H G' H' : Hp} {Γ Γ' : Ga} {σ σ' : L2.St} {μ : Mu} {S : Addr → Prop}
theorem FrM.e (M : FrM K G0 H0 Γ σ G H μ) : Ext G0 H0 G H := by
  obtain ⟨S, s, F⟩ := M.ex
  have out : ∀ {b o}, H0 b = some o → ¬ S b := fun {b o} e h => by rw [(s.a b h).2.2] at e; cases e
  refine ⟨⟨fun b o e nt => ?_, fun b o e => ?_, fun _ => F.sub.tb⟩, F.e.g, fun a h ⟨o, q⟩ => F.e.nw a h ⟨o, by rw [ovr_out (out q)]; exact q⟩, F.sub⟩
  · exact F.e.h.k b o (by rw [ovr_out (out e)]; exact e) nt
  · exact F.e.h.t b o (by rw [ovr_out (out e)]; exact e)
theorem LoAt.keep {q : Addr} {l : Lo} (h : LoAt K H0 G H q l) (g : Same G G') (hq : H' q = H q) (hd : ∀ C dx fvs, H q = some (.ins C dx fvs) → H' dx = H dx ∧ G' dx = none) : LoAt K H0 G' H' q l := by
  cases l with
  | kt ks => obtain ⟨kvs, h1, h2⟩ := h; exact ⟨kvs, hq.trans h1, h2.up g⟩
  | d x =>
    cases x with
    | lst ds => obtain ⟨xs, h1, h2⟩ := h; exact ⟨xs, hq.trans h1, h2.up g⟩
    | dct ds => obtain ⟨xs, h1, h2⟩ := h; exact ⟨xs, hq.trans h1, h2.up g⟩
    | ins C fs =>
      obtain ⟨dx, fvs, h1, h2, h3, h4, h5⟩ := h
      obtain ⟨e1, e2⟩ := hd _ _ _ h1
      exact ⟨dx, fvs, hq.trans h1, e1.trans h2, e2, h4, h5.up g⟩
    | _ => exact h.elim
/-- the store is left alone for a while -/
theorem FrM.use (M : FrM K G0 H0 Γ σ G H μ) : ∃ B, Fr K G B Γ σ G H ∧ ∀ Γ' σ' G' H', Fr K G B Γ' σ' G' H' → FrM K G0 H0 Γ' σ' G' H' μ ∧ Same G G' := by
  obtain ⟨S, s, F⟩ := M.ex
  refine ⟨ovr S H H0, F.rebase, fun Γ' σ' G' H' F' => ⟨⟨S, ?_, ?_⟩, F'.e.g⟩⟩
  · have kp : ∀ a, S a → H' a = H a ∧ G' a = none := fun a h => by
      obtain ⟨⟨o, e, so⟩, g, _⟩ := s.a a h
      have b : ovr S H H0 a = some o := by rw [ovr_in h]; exact e
      exact ⟨(F'.e.h.k a o b so.nt).trans e.symm, F'.e.nw a g ⟨o, b⟩⟩
    refine ⟨fun a h => ?_, fun e he => ?_, s.n⟩
    · obtain ⟨⟨o, e, so⟩, _, h0⟩ := s.a a h
      exact ⟨⟨o, (kp a h).1.trans e, so⟩, (kp a h).2, h0⟩
    · obtain ⟨h1, h2, h3⟩ := s.e e he
      refine ⟨h1, h2.keep F'.e.g (kp _ h1).1 (fun C dx fvs q => ⟨(kp _ (h3 _ _ _ q)).1, (kp _ (h3 _ _ _ q)).2⟩), fun C dx fvs q => h3 C dx fvs ?_⟩
      rw [← (kp _ h1).1]
      exact q
  · have eq : ovr S H' H0 = ovr S H H0 := by
      funext a
      by_cases h : S a
      · obtain ⟨⟨o, e, so⟩, g, _⟩ := s.a a h
        have b : ovr S H H0 a = some o := by rw [ovr_in h]; exact e
        rw [ovr_in h, ovr_in h]
        exact (F'.e.h.k a o b so.nt).trans e.symm
      · rw [ovr_out h, ovr_out h]
    rw [eq]
    exact F'.back F.e
theorem FrM.up (M : FrM K G0 H0 Γ σ G H μ) (x : Ext G H G' H') : FrM K G0 H0 Γ σ G' H' μ := by
  obtain ⟨B, F, back⟩ := M.use
  exact (back _ _ _ _ (F.up x)).1
theorem FrM.sub (M : FrM K G0 H0 Γ σ G H μ) : Sub G H := M.e.sub
theorem FrM.rebase (M : FrM K G0 H0 Γ σ G H μ) : FrM K G H0 Γ σ G H μ := by
  obtain ⟨S, s, F⟩ := M.ex
  exact ⟨S, s, F.rebase⟩
theorem FrM.back (a : Ext G0 H0 G H) (M : FrM K G H0 Γ σ G' H' μ) : FrM K G0 H0 Γ σ G' H' μ := by
  obtain ⟨S, s, F⟩ := M.ex
  refine ⟨S, s, F.len, ⟨F.e.h, a.g.trans F.e.g, fun b hb q => ?_, F.e.sub⟩, F.at_, F.dj⟩
  by_cases h : S b
  · exact (s.a b h).2.1
  · obtain ⟨o, q⟩ := q
    rw [ovr_out h] at q
    exact F.e.nw b (a.nw b hb ⟨o, q⟩) ⟨o, by rw [ovr_out h]; exact q⟩
end
abbrev KDM := D → Mu → Prop
abbrev KXM := XD → Mu → Prop
abbrev TM := Ga → Mu → KDM → KXM → Prop
abbrev TBM := Ga → Mu → (Bool → Mu → Prop) → KXM → Prop
abbrev TLM := Ga → Mu → (List D → Mu → Prop) → KXM → Prop
abbrev XOkM (K : PySem.W.Frag) (W : WX) (G0 H0 : Hp) (Γ : Ga) (σ : L2.St) (G : Hp) (kx : KXM) : Prop := ∀ x cls dA G' H' μ', kx x μ' → Same G G' → FrM K G0 H0 Γ σ G' H' μ' → XDen K G' H' cls dA x → W cls dA σ H'
def RdM (K : PySem.W.Frag) (W : WX) (te : TE) (t : TM) : Prop := ∀ (G0 H0 : Hp) (Γ : Ga) (σ : L2.St) (G H : Hp) (μ : Mu) (k : KDM) (kx : KXM) (Q : VK), FrM K G0 H0 Γ σ G H μ → t Γ μ k kx →
  (∀ d v G' H' μ', k d μ' → Same G G' → FrM K G0 H0 Γ σ G' H' μ' → Den K G' v d → Q v H') → XOkM K W G0 H0 Γ σ G kx → te σ H Q
def RdTM (K : PySem.W.Frag) (W : WX) (te : TT) (t : TBM) : Prop := ∀ (G0 H0 : Hp) (Γ : Ga) (σ : L2.St) (G H : Hp) (μ : Mu) (k : Bool → Mu → Prop) (kx : KXM) (Q : Bool → Hp → Prop), FrM K G0 H0 Γ σ G H μ → t Γ μ k kx →
  (∀ b G' H' μ', k b μ' → Same G G' → FrM K G0 H0 Γ σ G' H' μ' → Q b H') → XOkM K W G0 H0 Γ σ G kx → te σ H Q
def RdAM (K : PySem.W.Frag) (W : WX) (ta : TA) (t : TLM) : Prop := ∀ (G0 H0 : Hp) (Γ : Ga) (σ : L2.St) (G H : Hp) (μ : Mu) (k : List D → Mu → Prop) (kx : KXM) (Q : List V → Hp → Prop), FrM K G0 H0 Γ σ G H μ → t Γ μ k kx →
  (∀ ds vs G' H' μ', k ds μ' → Same G G' → FrM K G0 H0 Γ σ G' H' μ' → DenL K G' vs ds → Q vs H') → XOkM K W G0 H0 Γ σ G kx → ta σ H Q
structure PM (X : Cx) (W : WX) (e : Expr) (t : TM) : Prop where
  ex : ∃ te, PE X e te ∧ RdM X.K W te t
structure PBM (X : Cx) (W : WX) (e : Expr) (t : TBM) : Prop where
  ex : ∃ te, PT X e te ∧ RdTM X.K W te t
structure PLM (X : Cx) (W : WX) (es : List Expr) (t : TLM) : Prop where
  ex : ∃ te, PA X es te ∧ RdAM X.K W te t
structure PEnM where
  nx : Ga → Mu → Prop
  bk : Ga → Mu → Prop
  ct : Ga → Mu → Prop
  rt : D → Ga → Mu → Prop
  xx : XD → Ga → Mu → Prop
abbrev TSM := PEnM → Ga → Mu → Prop
structure EOkM (K : PySem.W.Frag) (W : WX) (G0 H0 : Hp) (P : PEnM) (E : Ends) : Prop where
  nx : ∀ Γ σ G H μ, P.nx Γ μ → FrM K G0 H0 Γ σ G H μ → E.nx σ H
  bk : ∀ Γ σ G H μ, P.bk Γ μ → FrM K G0 H0 Γ σ G H μ → E.bk σ H
  ct : ∀ Γ σ G H μ, P.ct Γ μ → FrM K G0 H0 Γ σ G H μ → E.ct σ H
  rt : ∀ d v Γ σ G H μ, P.rt d Γ μ → FrM K G0 H0 Γ σ G H μ → Den K G v d → E.rt v H
  xx : ∀ x cls dA Γ σ G H μ, P.xx x Γ μ → FrM K G0 H0 Γ σ G H μ → XDen K G H cls dA x → W cls dA σ H
def RdSM (K : PySem.W.Frag) (W : WX) (ts : TS) (t : TSM) : Prop := ∀ (G0 H0 : Hp) (Γ : Ga) (σ : L2.St) (G H : Hp) (μ : Mu) (P : PEnM) (E : Ends), FrM K G0 H0 Γ σ G H μ → t P Γ μ → EOkM K W G0 H0 P E → ts E σ H
structure PS1M (X : Cx) (W : WX) (s : Stmt) (t : TSM) : Prop where
  ex : ∃ ts, PS X s ts ∧ RdSM X.K W ts t
structure PSSM (X : Cx) (W : WX) (s : List Stmt) (t : TSM) : Prop where
  ex : ∃ ts, PSs X s ts ∧ RdSM X.K W ts t
def tmOf (t : TP) : TM := fun Γ μ k kx => t Γ (fun d => k d μ) (fun x => kx x μ)
def tbmOf (t : TB) : TBM := fun Γ μ k kx => t Γ (fun d => k d μ) (fun x => kx x μ)
def tlmOf (t : TL) : TLM := fun Γ μ k kx => t Γ (fun d => k d μ) (fun x => kx x μ)
def tsmOf (t : TSp) : TSM := fun P Γ μ => t ⟨fun Γ => P.nx Γ μ, fun Γ => P.bk Γ μ, fun Γ => P.ct Γ μ, fun d Γ => P.rt d Γ μ, fun x Γ => P.xx x Γ μ⟩ Γ
section
variable {X : Cx} {W : WX} {e a b : Expr} {es : List Expr} {t : TP} {tb : TB} {tl : TL} {st : Stmt} {rest sts body els : List Stmt} {s : TSp} {tm ta : TM} {tbm tbn : TBM} {tlm : TLM} {sm um : TSM} {pos p : Pos}
theorem m_of (h : PP X W e t) : PM X W e (tmOf t) := by
  obtain ⟨te, pe, re⟩ := h.ex
  refine ⟨te, pe, fun G0 H0 Γ σ G H μ k kx Q M ht hk hx => ?_⟩
  obtain ⟨B, F, back⟩ := M.use
  exact re G B Γ σ G H _ _ Q F ht (fun d v G' H' kd x n => hk d v G' H' μ kd x.g (back _ _ _ _ (F.up x)).1 n) (fun y cls dA G' H' ky x n => hx y cls dA G' H' μ ky x.g (back _ _ _ _ (F.up x)).1 n)
theorem bm_of (h : PB X W e tb) : PBM X W e (tbmOf tb) := by
  obtain ⟨te, pe, re⟩ := h.ex
  refine ⟨te, pe, fun G0 H0 Γ σ G H μ k kx Q M ht hk hx => ?_⟩
  obtain ⟨B, F, back⟩ := M.use
  exact re G B Γ σ G H _ _ Q F ht (fun d G' H' kd x => hk d G' H' μ kd x.g (back _ _ _ _ (F.up x)).1) (fun y cls dA G' H' ky x n => hx y cls dA G' H' μ ky x.g (back _ _ _ _ (F.up x)).1 n)
theorem lm_of (h : PL' X W es tl) : PLM X W es (tlmOf tl) := by
  obtain ⟨te, pe, re⟩ := h.ex
  refine ⟨te, pe, fun G0 H0 Γ σ G H μ k kx Q M ht hk hx => ?_⟩
  obtain ⟨B, F, back⟩ := M.use
  exact re G B Γ σ G H _ _ Q F ht (fun d v G' H' kd x n => hk d v G' H' μ kd x.g (back _ _ _ _ (F.up x)).1 n) (fun y cls dA G' H' ky x n => hx y cls dA G' H' μ ky x.g (back _ _ _ _ (F.up x)).1 n)
theorem sm_of (h : PS1 X W st s) : PS1M X W st (tsmOf s) := by
  obtain ⟨ts, ps, rs⟩ := h.ex
  refine ⟨ts, ps, fun G0 H0 Γ σ G H μ P E M ht ok => ?_⟩
  obtain ⟨B, F, back⟩ := M.use
  exact rs G B Γ σ G H _ E F ht ⟨fun Γ σ G' H' q F' => ok.nx Γ σ G' H' μ q (back _ _ _ _ F').1, fun Γ σ G' H' q F' => ok.bk Γ σ G' H' μ q (back _ _ _ _ F').1, fun Γ σ G' H' q F' => ok.ct Γ σ G' H' μ q (back _ _ _ _ F').1,
    fun d v Γ σ G' H' q F' n => ok.rt d v Γ σ G' H' μ q (back _ _ _ _ F').1 n, fun x cls dA Γ σ G' H' q F' n => ok.xx x cls dA Γ σ G' H' μ q (back _ _ _ _ F').1 n⟩
theorem ssm_of (h : PSS X W sts s) : PSSM X W sts (tsmOf s) := by
  obtain ⟨ts, ps, rs⟩ := h.ex
  refine ⟨ts, ps, fun G0 H0 Γ σ G H μ P E M ht ok => ?_⟩
  obtain ⟨B, F, back⟩ := M.use
  exact rs G B Γ σ G H _ E F ht ⟨fun Γ σ G' H' q F' => ok.nx Γ σ G' H' μ q (back _ _ _ _ F').1, fun Γ σ G' H' q F' => ok.bk Γ σ G' H' μ q (back _ _ _ _ F').1, fun Γ σ G' H' q F' => ok.ct Γ σ G' H' μ q (back _ _ _ _ F').1,
    fun d v Γ σ G' H' q F' n => ok.rt d v Γ σ G' H' μ q (back _ _ _ _ F').1 n, fun x cls dA Γ σ G' H' q F' n => ok.xx x cls dA Γ σ G' H' μ q (back _ _ _ _ F').1 n⟩
def tsmNext : TSM := fun P Γ μ => P.nx Γ μ
def tsmSeq (s u : TSM) : TSM := fun P Γ μ => s { P with nx := u P } Γ μ
theorem ssm_nil : PSSM X W [] tsmNext := ⟨_, pss_nil, fun G0 H0 Γ σ G H μ P E M ht ok => ok.nx Γ σ G H μ ht M⟩
theorem ssm_cons (h1 : PS1M X W st sm) (h2 : PSSM X W rest um) : PSSM X W (st :: rest) (tsmSeq sm um) := by
  obtain ⟨t1, p1, r1⟩ := h1.ex
  obtain ⟨t2, p2, r2⟩ := h2.ex
  refine ⟨_, pss_cons p1 p2, fun G0 H0 Γ σ G H μ P E M ht ok => ?_⟩
  exact r1 G0 H0 Γ σ G H μ { P with nx := um P } { E with nx := t2 E } M ht ⟨fun Γ' σ' G' H' μ' n M' => r2 G0 H0 Γ' σ' G' H' μ' P E M' n ok, ok.bk, ok.ct, ok.rt, ok.xx⟩
theorem ssm_one (h1 : PS1M X W st sm) : PSSM X W [st] sm := by
  obtain ⟨t1, p1, r1⟩ := h1.ex
  exact ⟨_, pss_one p1, r1⟩
theorem EOkM.x {K : PySem.W.Frag} {W : WX} {G0 H0 G : Hp} {P : PEnM} {E : Ends} (ok : EOkM K W G0 H0 P E) (Γ : Ga) (σ : L2.St) : XOkM K W G0 H0 Γ σ G (fun x μ => P.xx x Γ μ) :=
  fun x cls dA G' H' μ' a _ M n => ok.xx x cls dA Γ σ G' H' μ' a M n
def tsmIf (c : TBM) (s u : TSM) : TSM := fun P Γ μ => c Γ μ (fun b μ' => if b = true then s P Γ μ' else u P Γ μ') (fun x μ => P.xx x Γ μ)
theorem sm_if (hc : PBM X W e tbm) (ha : PSSM X W body sm) (hb : PSSM X W els um) : PS1M X W (.If e body els pos) (tsmIf tbm sm um) := by
  obtain ⟨tc, pc, rc⟩ := hc.ex
  obtain ⟨t1, p1, r1⟩ := ha.ex
  obtain ⟨t2, p2, r2⟩ := hb.ex
  refine ⟨_, ps_if pc p1 p2, fun G0 H0 Γ σ G H μ P E M ht ok => ?_⟩
  refine rc G0 H0 Γ σ G H μ _ _ _ M ht (fun b G' H' μ' kb _ M' => ?_) (ok.x Γ σ)
  cases b with
  | true => rw [if_pos rfl] at kb ⊢; exact r1 G0 H0 Γ σ G' H' μ' P E M' kb ok
  | false => rw [if_neg Bool.false_ne_true] at kb ⊢; exact r2 G0 H0 Γ σ G' H' μ' P E M' kb ok
def tsmDrop (t : TM) : TSM := fun P Γ μ => t Γ μ (fun _ μ' => P.nx Γ μ') (fun x μ => P.xx x Γ μ)
theorem sm_expr (h : PM X W e tm) (hs : swapsWith e none pos.line X.env = pure false := by rfl) : PS1M X W (.Expr e pos) (tsmDrop tm) := by
  obtain ⟨te, pe, re⟩ := h.ex
  exact ⟨_, ps_expr pe hs, fun G0 H0 Γ σ G H μ P E M ht ok => re G0 H0 Γ σ G H μ _ _ _ M ht (fun d v G' H' μ' kd _ M' _ => ok.nx Γ σ G' H' μ' kd M') (ok.x Γ σ)⟩
def tsmRet (t : TM) : TSM := fun P Γ μ => t Γ μ (fun d μ' => P.rt d Γ μ') (fun x μ => P.xx x Γ μ)
theorem sm_ret (h : PM X W e tm) : PS1M X W (.Return (some e) pos) (tsmRet tm) := by
  obtain ⟨te, pe, re⟩ := h.ex
  exact ⟨_, ps_ret pe, fun G0 H0 Γ σ G H μ P E M ht ok => re G0 H0 Γ σ G H μ _ _ _ M ht (fun d v G' H' μ' kd _ M' n => ok.rt d v Γ σ G' H' μ' kd M' n) (ok.x Γ σ)⟩
def tsmSet (i : Nat) (t : TM) : TSM := fun P Γ μ => t Γ μ (fun d μ' => P.nx (gset Γ i (.pu d)) μ') (fun x μ => P.xx x Γ μ)
theorem FrM.set {K : PySem.W.Frag} {G0 H0 G H : Hp} {Γ : Ga} {σ : L2.St} {μ : Mu} (M : FrM K G0 H0 Γ σ G H μ) {v : V} {d : D} (i : Nat) (r : Den K G v d) : FrM K G0 H0 (gset Γ i (.pu d)) (σ.set i (some v)) G H μ := by
  obtain ⟨S, s, F⟩ := M.ex
  exact ⟨S, s, F.set i r⟩
theorem sm_set (i : Nat) {x : PySem.Str} (h : PM X W e tm) (nd : X.N.Nodup) (hi : X.N[i]? = some x := by rfl) (hx : Loc X.env.scope x := by first | exact Or.inl rfl | exact Or.inr rfl)
    (hf : X.fn x = true ∨ X.env.scope.names.lookup x = some .local := by first | exact .inl rfl | exact .inr rfl) (hs : swapsWith e (some (.Name x p)) pos.line X.env = pure false := by rfl) : PS1M X W (.Assign [.Name x p] e pos) (tsmSet i tm) := by
  obtain ⟨te, pe, re⟩ := h.ex
  exact ⟨_, ps_set nd hi hx pe hs hf, fun G0 H0 Γ σ G H μ P E M ht ok => re G0 H0 Γ σ G H μ _ _ _ M ht (fun d v G' H' μ' kd _ M' n => ok.nx _ _ G' H' μ' kd (M'.set i n)) (ok.x Γ σ)⟩
def tlmNil : TLM := fun _ μ k _ => k [] μ
def tlmCons (t : TM) (tl : TLM) : TLM := fun Γ μ k kx => t Γ μ (fun d μ' => tl Γ μ' (fun ds μ'' => k (d :: ds) μ'') kx) kx
end
end MU
set_option Elab.async false
set_option linter.all false
set_option maxRecDepth 100000
set_option maxHeartbeats 4000000
namespace MU
open PySem L2 PL PyProof.Rows
variable [Tabl]
section
variable {X : Cx} {W : WX} {e a b c o : Expr} {es : List Expr} {tm ta tb : TM} {tbm tbn : TBM} {tlm : TLM} {pos p apos : Pos} {m x : PySem.Str}
theorem XOkM.up {K : PySem.W.Frag} {W : WX} {G0 H0 G G' : Hp} {Γ : Ga} {σ : L2.St} {kx : KXM} (h : XOkM K W G0 H0 Γ σ G kx) (s : Same G G') : XOkM K W G0 H0 Γ σ G' kx := fun y cls dA G2 H2 μ2 a b c d => h y cls dA G2 H2 μ2 a (s.trans b) c d
theorem lm_nil : PLM X W [] tlmNil := ⟨_, pa_nil, fun G0 H0 Γ σ G H μ k kx Q M ht hk hx => hk [] [] G H μ ht (Same.refl G) M .nil⟩
theorem lm_cons (ha : PM X W e tm) (hr : PLM X W es tlm) (hs : starEach (e :: es) X.env = (false, eval e X.env) :: starEach es X.env := by rfl) : PLM X W (e :: es) (tlmCons tm tlm) := by
  obtain ⟨ea, pa, ra⟩ := ha.ex
  obtain ⟨eb, pb, rb⟩ := hr.ex
  refine ⟨_, pa_cons pa pb hs, fun G0 H0 Γ σ G H μ k kx Q M ht hk hx => ?_⟩
  refine ra G0 H0 Γ σ G H μ _ kx _ M ht (fun d1 v1 G1 H1 μ1 k1 s1 M1 n1 => ?_) hx
  exact rb G0 H0 Γ σ G1 H1 μ1 _ kx _ M1 k1 (fun ds vs G' H' μ' kd s' M' dn => hk (d1 :: ds) (v1 :: vs) G' H' μ' kd (s1.trans s') M' (.cons (n1.up s') dn)) (hx.up s1)
def tmTup (t : TLM) : TM := fun Γ μ k kx => t Γ μ (fun ds μ' => ds.length ≤ 100000 ∧ k (.tup ds) μ') kx
theorem pm_tup {x1 : Nat} (h : PLM X W es tlm) : PM X W (.Tuple es x1 pos) (tmTup tlm) := by
  obtain ⟨ea, pa, ra⟩ := h.ex
  refine ⟨_, pe_tup pa, fun G0 H0 Γ σ G H μ k kx Q M ht hk hx => ?_⟩
  refine ra G0 H0 Γ σ G H μ _ kx _ M ht (fun ds vs G1 H1 μ1 k1 s1 M1 n1 => ?_) hx
  refine ⟨by rw [n1.length]; exact sz5 k1.1, fun p hp => ?_⟩
  have x := Ext.new (o := .tup vs) M1.sub hp
  exact hk _ _ _ _ μ1 k1.2 (s1.trans x.g) (M1.up x) (.tup (.inl (.inl upd_same)) (n1.up x.g))
/-- a def that leaves the store alone, its arguments may change it -/
def tmCall (n : Nat) (fs : FS) (tl : TLM) : TM := fun Γ μ k kx => tl Γ μ (fun ds μ' => ds.length = n ∧ fs ds (fun d => k d μ') (fun x => kx x μ')) kx
theorem pm_call {k n j : Nat} {fs : FS} (D : Df X.prog X.w X.K X.mg X.base x k n fs) (hr : Room j X.A) (hj : k ≤ j) (tk : Takes X W) (ha : PLM X W (e :: es) tlm) (hg : Gl X x := by rfl) (hdb : (x == ("__debug__" : PySem.Str)) = false := by decide)
    (he : starEach (e :: es) X.env = (false, eval e X.env) :: starEach es X.env := by rfl) (hpl : (backTo pos (starEach es X.env)).any (·.1) = false := by rfl) : PM X W (.Call (.Name x p) (e :: es) [] pos) (tmCall n fs tlm) := by
  obtain ⟨f, fd, ps, h1, h2, h3, h4, h5⟩ := D.ex
  obtain ⟨ea, pa, ra⟩ := ha.ex
  refine ⟨_, pe_callS h1 (hr.mono hj) hg h2 h3 h4 (fun σ => passAt tk σ) pa hdb he hpl, fun G0 H0 Γ σ G H μ k kx Q M ht hk hx => ?_⟩
  refine ra G0 H0 Γ σ G H μ _ kx _ M ht (fun ds vs G1 H1 μ1 k1 s1 M1 n1 => ?_) hx
  exact ⟨G1, ds, _, _, M1.sub, n1, k1.1, k1.2, fun d v G' H' kd x dn => hk d v G' H' μ1 kd (s1.trans x.g) (M1.up x) dn, fun y cls dA G' H' kd x dn => hx y cls dA G' H' μ1 kd (s1.trans x.g) (M1.up x) dn⟩
end
abbrev FSM := List D → Mu → KDM → KXM → Prop
open Classical in
noncomputable def cutS (S : Addr → Prop) (H : Hp) : Hp := fun a => if S a then none else H a
theorem cut_in {S : Addr → Prop} {H : Hp} {a : Addr} (h : S a) : cutS S H a = none := if_pos h
theorem cut_out {S : Addr → Prop} {H : Hp} {a : Addr} (h : ¬ S a) : cutS S H a = H a := if_neg h
/-- what a call leaves behind -/
structure RetM (K : PySem.W.Frag) (S : Addr → Prop) (G H G' H' : Hp) (μ' : Mu) : Prop where
  x : Ext G (cutS S H) G' H'
  s : ∃ S', StoS K S' (cutS S H) G' H' μ'
def spM (K : PySem.W.Frag) (n : Nat) (fs : FSM) : Sp := fun vs H Q E => ∃ G ds μ k kx S, Sub G H ∧ DenL K G vs ds ∧ ds.length = n ∧ StoS K S (cutS S H) G H μ ∧ fs ds μ k kx ∧
  (∀ d v G' H' μ', k d μ' → RetM K S G H G' H' μ' → Den K G' v d → Q v H') ∧ (∀ x cls dA G' H' μ', kx x μ' → RetM K S G H G' H' μ' → XDen K G' H' cls dA x → E cls dA H')
/-- slots that speak of no object that is known by itself -/
def quiet (Γ : Ga) : Bool := Γ.all fun s => match s with | .kp _ _ _ _ => false | .pf _ _ _ => false | _ => true
/-- .. but a lambda may be there -/
def QuietP (Γ : Ga) : Prop := ∀ s ∈ Γ, match s with | .kp _ _ u _ => ¬ SO u | .pf _ _ _ => False | _ => True
theorem quiet_p {Γ : Ga} (h : quiet Γ = true) : QuietP Γ := fun s hs => by
  have := List.all_eq_true.mp h s hs
  cases s with
  | kp _ _ _ _ => cases this
  | pf _ _ _ => cases this
  | _ => trivial
section
variable {K : PySem.W.Frag} {G0 H0 G H G' H' : Hp} {Γ : Ga} {σ : L2.St} {μ μ' : Mu} {S : Addr → Prop}
theorem OwnAt.re {H1 : Hp} {q : Addr} {d : D} (h : OwnAt K H0 G H q d) (e : ∀ C dx fvs, H q = some (.ins C dx fvs) → H1 dx = none) : OwnAt K H1 G H q d := by
  cases d with
  | lst ds => exact h
  | dct ds => exact h
  | ins C fs => obtain ⟨dx, fvs, h1, h2, h3, h4, h5⟩ := h; exact ⟨dx, fvs, h1, h2, h3, e _ _ _ h1, h5⟩
  | _ => exact h.elim
theorem LoAt.re {H1 : Hp} {q : Addr} {l : Lo} (h : LoAt K H0 G H q l) (e : ∀ C dx fvs, H q = some (.ins C dx fvs) → H1 dx = none) : LoAt K H1 G H q l := by
  cases l with
  | kt ks => exact h
  | d x => exact OwnAt.re h e
theorem StoS.cut (s : StoS K S H0 G H μ) : StoS K S (cutS S H) G H μ :=
  ⟨fun a h => ⟨(s.a a h).1, (s.a a h).2.1, cut_in h⟩, fun e he => ⟨(s.e e he).1, (s.e e he).2.1.re (fun C dx fvs q => cut_in ((s.e e he).2.2 C dx fvs q)), (s.e e he).2.2⟩, s.n⟩
theorem fr_ret (s : StoS K S H0 G H μ) (F : Fr K G0 (ovr S H H0) Γ σ G H) (q : QuietP Γ) (r : RetM K S G H G' H' μ') : FrM K G0 H0 Γ σ G' H' μ' ∧ Same G G' := by
  obtain ⟨x, S', s'⟩ := r
  have keep : ∀ {b o}, H b = some o → ¬ S b → NT o → H' b = some o := fun {b o} e n nt => x.h.k b o (by rw [cut_out n]; exact e) nt
  have free : ∀ {b}, S' b → H0 b = none := fun {b} h => by
    have h1 := (s'.a b h).2.2
    by_cases z : S b
    · exact (s.a b z).2.2
    · rw [cut_out z] at h1
      have := F.e.h.free h1
      rw [ovr_out z] at this
      exact this
  have outS : ∀ {b o}, H b = some o → ovr S H H0 b = none → ¬ S b := fun {b o} e h z => by
    rw [ovr_in z, e] at h
    cases h
  have outS' : ∀ {b o}, H b = some o → ¬ S b → ¬ S' b := fun {b o} e n z => by
    have h1 := (s'.a b z).2.2
    rw [cut_out n, e] at h1
    cases h1
  have at_p : ∀ {p o}, H p = some o → MutO o → G p = none → ovr S H H0 p = none → H' p = some o ∧ G' p = none ∧ ovr S' H' H0 p = none := fun {p o} e m g h0 => by
    have n := outS e h0
    have n' := outS' e n
    refine ⟨keep e n m.nt, x.nw p g ⟨o, by rw [cut_out n]; exact e⟩, ?_⟩
    rw [ovr_out n'] 
    rw [ovr_out n] at h0
    exact h0
  have own : ∀ {p d}, OwnAt K (ovr S H H0) G H p d → G p = none → ovr S H H0 p = none → OwnAt K (ovr S' H' H0) G' H' p d := fun {p d} r g h0 => by
    cases d with
    | lst ds => obtain ⟨xs, h1, h2⟩ := r; exact ⟨xs, (at_p h1 trivial g h0).1, h2.up x.g⟩
    | dct ds => obtain ⟨xs, h1, h2⟩ := r; exact ⟨xs, (at_p h1 trivial g h0).1, h2.up x.g⟩
    | ins C fs =>
      obtain ⟨dx, fvs, h1, h2, h3, h4, h5⟩ := r
      have n := outS h2 h4
      have n' := outS' h2 n
      refine ⟨dx, fvs, (at_p h1 trivial g h0).1, keep h2 n (fun _ z => nomatch z), x.nw dx h3 ⟨_, by rw [cut_out n]; exact h2⟩, ?_, h5.up x.g⟩
      rw [ovr_out n']
      rw [ovr_out n] at h4
      exact h4
    | _ => exact r.elim
  have ownT : ∀ {p d}, OwnAt K (ovr S H H0) G H p d → G p = none → ovr S H H0 p = none → G' p = none ∧ ovr S' H' H0 p = none ∧ ∀ o, H p = some o → H' p = some o := fun {p d} r g h0 => by
    obtain ⟨o, e⟩ := r.there
    have m := r.mutO e
    have t := at_p e m g h0
    exact ⟨t.2.1, t.2.2, fun o' e' => by rw [e] at e'; cases e'; exact t.1⟩
  have base : ∀ {b o}, H0 b = some o → ¬ S b := fun {b o} e z => by rw [(s.a b z).2.2] at e; cases e
  refine ⟨⟨S', ⟨fun a h => ⟨(s'.a a h).1, (s'.a a h).2.1, free h⟩, fun e he => ⟨(s'.e e he).1, (s'.e e he).2.1.re (fun C dx fvs z => free ((s'.e e he).2.2 C dx fvs z)), (s'.e e he).2.2⟩, s'.n⟩, ?_⟩, x.g⟩
  refine ⟨F.len, ⟨⟨fun b o e nt => ?_, fun b o e => ?_, fun _ => x.sub.tb⟩, F.e.g.trans x.g, fun b hb e => ?_, x.sub⟩, fun i sl h => ?_, F.dj⟩
  · by_cases z : S' b
    · rw [ovr_in z] at e; exact e
    · rw [ovr_out z] at e
      exact keep (F.e.h.k b o (by rw [ovr_out (base e)]; exact e) nt) (base e) nt
  · by_cases z : S' b
    · rw [ovr_in z] at e; exact ⟨o, e⟩
    · rw [ovr_out z] at e
      obtain ⟨o1, e1⟩ := F.e.h.t b o (by rw [ovr_out (base e)]; exact e)
      exact x.h.t b o1 (by rw [cut_out (base e)]; exact e1)
  · obtain ⟨o, e⟩ := e
    by_cases z : S' b
    · exact (s'.a b z).2.1
    · rw [ovr_out z] at e
      obtain ⟨o1, e1⟩ := F.e.h.t b o (by rw [ovr_out (base e)]; exact e)
      exact x.nw b (F.e.nw b hb ⟨o, by rw [ovr_out (base e)]; exact e⟩) ⟨o1, by rw [cut_out (base e)]; exact e1⟩
  · have w := F.at_ i sl h
    have qs := q sl (List.mem_of_getElem? h)
    cases sl with
    | un => trivial
    | pu d => obtain ⟨v, e, r⟩ := w; exact ⟨v, e, r.up x.g⟩
    | ow d => obtain ⟨p, e, g, h0, r⟩ := w; exact ⟨p, e, (ownT r g h0).1, (ownT r g h0).2.1, own r g h0⟩
    | lk p u d => obtain ⟨e, g, h0, hu, r⟩ := w; exact ⟨e, (ownT r g h0).1, (ownT r g h0).2.1, (ownT r g h0).2.2 _ hu, own r g h0⟩
    | pw p d => obtain ⟨e, g, h0, r⟩ := w; exact ⟨e, (ownT r g h0).1, (ownT r g h0).2.1, own r g h0⟩
    | kp v c u Gx =>
      obtain ⟨e, h1, h2, h3, h4⟩ := w
      refine ⟨e, keep h1 (fun z => ?_) h3, h2, h3, h4.trans x.g⟩
      obtain ⟨⟨o, e', so⟩, _⟩ := s.a c z
      rw [h1] at e'
      cases e'
      exact qs so
    | xv a cls dA fs =>
      obtain ⟨e, h1⟩ := w
      refine ⟨e, ?_⟩
      rcases h1 with h1 | ⟨p, fvs, h1, h2, h3⟩
      · exact .inl h1
      · refine .inr ⟨p, fvs, h1, keep h2 (fun z => ?_) (fun _ z => nomatch z), h3.up x.g⟩
        obtain ⟨⟨o, e, so⟩, _⟩ := s.a p z
        rw [h2] at e
        cases e
        rcases so with so | ⟨_, so⟩ | ⟨_, so⟩
        · exact so
        · cases so
        · cases so
    | pf d l Gx => exact qs.elim
/-- a method that changes the store -/
structure MtM (P : Program) (w : World) (K : PySem.W.Frag) (mg : PySem.Str → Option Value) (base : Heap) (C : Addr) (m : PySem.Str) (k n : Nat) (fs : FSM) : Prop where
  c : Cls K C
  ex : ∃ f, Meth K C m f ∧ FnR P w K mg base (L2.CX P w) k f (spM K (n + 1) fs)
def tmMeth (ms : List (Addr × FSM)) (m : PySem.Str) (n : Nat) (t : TM) (tl : TLM) : TM := fun Γ μ k kx => quiet Γ = true ∧ t Γ μ (fun d μ1 => ∃ p C fs, d = .cls p ∧ (p, Lo.d (.ins C fs)) ∈ μ1 ∧ fs.lookup m = none ∧ ∃ f, (C, f) ∈ ms ∧
  tl Γ μ1 (fun ds μ2 => ds.length = n ∧ f (.cls p :: ds) μ2 k kx) kx) kx
/-- the call itself -/
theorem sp_call {n : Nat} {fs : FSM} {p : Addr} {vs : List V} {ds : List D} {k : KDM} {kx : KXM} {Q : VK} {W : WX} (q : quiet Γ = true) (M : FrM K G0 H0 Γ σ G H μ) (nn : DenL K G vs ds) (hl : ds.length = n) (hf : fs (.cls p :: ds) μ k kx)
    (hk : ∀ d v G' H' μ', k d μ' → Same G G' → FrM K G0 H0 Γ σ G' H' μ' → Den K G' v d → Q v H') (hx : XOkM K W G0 H0 Γ σ G kx) : spM K (n + 1) fs (.ref p :: vs) H Q (WE W σ) := by
  obtain ⟨S, s, F⟩ := M.ex
  refine ⟨G, .cls p :: ds, μ, k, kx, S, M.sub, .cons (.cls p) nn, by rw [List.length_cons, hl], s.cut, hf, fun d v G' H' μ' kd r n' => ?_, fun x cls dA G' H' μ' kd r n' => ?_⟩
  · obtain ⟨a, b⟩ := fr_ret s F (quiet_p q) r
    exact hk d v G' H' μ' kd b a n'
  · obtain ⟨a, b⟩ := fr_ret s F (quiet_p q) r
    exact hx x cls dA G' H' μ' kd b a n'
end
section
variable {X : Cx} {W : WX} {e o : Expr} {es : List Expr} {tm : TM} {tlm : TLM} {pos apos : Pos} {m : PySem.Str} {k n j : Nat} {ms : List (Addr × FSM)}
theorem pm_meth (hm : ∀ q ∈ ms, MtM X.prog X.w X.K X.mg X.base q.1 m k n q.2) (hr : Room j X.A) (hj : k ≤ j) (tk : Takes X W) (ho : PM X W o tm) (ha : PLM X W (e :: es) tlm) {pl : Sem Bool}
    (hst : starEach (e :: es) X.env = (false, eval e X.env) :: starEach es X.env := by rfl) (hpl : (backTo pos (starEach es X.env)).any (·.1) = false := by rfl)
    (ht : eval (.Call (.Attribute o m apos) (e :: es) [] pos) X.env = (do
      let ov ← eval o X.env
      standAt apos.atName
      let (f, first) ← holding [ov] (getMethod ov m pl)
      callWith pos f first (backTo pos (starEach (e :: es) X.env)) (backToKw pos (keywordEach [] X.env))) := by rfl) : PM X W (.Call (.Attribute o m apos) (e :: es) [] pos) (tmMeth ms m n tm tlm) := by
  obtain ⟨eo, po, ro⟩ := ho.ex
  obtain ⟨ea, pa, ra⟩ := ha.ex
  refine ⟨fun σ H Q => eo σ H fun x H1 => ∃ a C dx fvs fn fs, x = .ref a ∧ H1 a = some (.ins C dx fvs) ∧ fvs.lookup m = none ∧ Cls X.K C ∧ Meth X.K C m fn ∧ FnR X.prog X.w X.K X.mg X.base (L2.CX X.prog X.w) k fn (spM X.K (n + 1) fs) ∧ ea σ H1 fun vs H2 => spM X.K (n + 1) fs (x :: vs) H2 Q (WE W σ), ⟨fun pins s σ H Q I h => ?_⟩, fun G0 H0 Γ σ G H μ kd kx Q M ht hk hx => ?_⟩
  · refine PySem.W.methodCall_KW (pl := pl) (thn (po.run pins s σ H _ I h) fun u s1 ⟨x, H1, I1, rx, a, C, dx, fvs, fn, fs, ex, ea, l, c, mt, R, q⟩ => ?_) ht
    subst ex
    obtain rfl : u = Value.ref a := rx
    refine getmeth_ok I1 ea c mt l ?_
    refine PySem.W.callWith_K (first := [.ref a]) (h₀ := X.base) I.ok.mod.kin mt.kp (thn (pa.run pos pins s1 σ H1 _ I1 q) fun us s2 ⟨vs, H2, I2, r, q2⟩ => ⟨I2.kIn, ?_⟩) hst hpl
    exact wpAny_call (run_fnRS (us := .ref a :: us) (vs := .ref a :: vs) R (hr.mono hj) (passAt tk σ) I2 (.cons rfl r) q2)
  · obtain ⟨qt, ht⟩ := ht
    refine ro G0 H0 Γ σ G H μ _ kx _ M ht (fun d v G1 H1 μ1 k1 s1 M1 n1 => ?_) hx
    obtain ⟨p, C, fs, rfl, hmem, hl, f, hf, k2⟩ := k1
    cases n1
    have Mt := hm _ hf
    obtain ⟨fn, mt, R⟩ := Mt.ex
    obtain ⟨S, s, F⟩ := M1.ex
    obtain ⟨_, ⟨dx, fvs, q1, q2, q3, q4, q5⟩, _⟩ := s.e _ hmem
    refine ⟨p, C, dx, fvs, fn, f, rfl, q1, q5.no hl, Mt.c, mt, R, ?_⟩
    refine ra G0 H0 Γ σ G1 H1 μ1 _ kx _ M1 k2 (fun ds vs G2 H2 μ2 k3 s2 M2 n2 => ?_) (hx.up s1)
    exact sp_call qt M2 n2 k3.1 k3.2 (fun d v G' H' μ' kd s' M' n' => hk d v G' H' μ' kd ((s1.trans s2).trans s') M' n') ((hx.up s1).up s2)
end
def fEndsM (k : KDM) (kx : KXM) : PEnM := ⟨fun _ μ => k .non μ, fun _ _ => False, fun _ _ => False, fun d _ μ => k d μ, fun x _ μ => kx x μ⟩
section
variable {P : Program} {w : World} {K : PySem.W.Frag} {mg : PySem.Str → Option Value} {base : Heap}
theorem fn_okM {x qual : PySem.Str} {st : Stmt} {f : Addr} {fd : FuncData} {N ps : List PySem.Str} {k n : Nat} {fs : FSM} (F : Fun K x qual st f fd) (S : FnScope N ps (defScope st)) (hn : ps.length = n)
    (body : ∀ (cdv : Value) (A : Around) (outer : List PySem.Env) (s : Shared) (H : Hp) (E : XK), Room k (A.deeper (PyProof.Rows.envOfC qual (defScope st) s.heap.objs.size f cdv)) →
      ∃ t, PSSM (cxOf (L2.CX P w) P w K mg base N qual (defScope st) f cdv A outer s H E) (fun cls d _ H => E cls d H) (defBody st) t ∧ ∀ ds μ kd kx, ds.length = n → fs ds μ kd kx → t (fEndsM kd kx) (ga0 N.length ds) μ) :
    FnOk P w K mg base (L2.CX P w) (k + 1) f fd ps (spM K n fs) := by
  refine F.okX S (fun vs H Q E h => ?_) (fun cdv A outer s H vs Q E hr h => ?_)
  · obtain ⟨G, ds, μ, kd, kx, S, _, b, c, _⟩ := h
    rw [b.length, c, hn]
  · obtain ⟨G, ds, μ, kd, kx, S, sb, r, hl, sto, hf, hk, hx⟩ := h
    obtain ⟨t, ⟨ts, ps, rd⟩, ht⟩ := body cdv A outer s H E hr
    have eq : ovr S H (cutS S H) = H := by
      funext a
      by_cases z : S a
      · exact ovr_in z
      · rw [ovr_out z, cut_out z]
    have M0 : FrM K G (cutS S H) (ga0 N.length ds) (L2.start N vs) G H μ := ⟨S, sto, by rw [eq]; exact fr0 sb r⟩
    have fin : ∀ {Γ σ G' H' μ'}, FrM K G (cutS S H) Γ σ G' H' μ' → RetM K S G H G' H' μ' := fun {Γ σ G' H' μ'} M => by
      obtain ⟨S', s', F'⟩ := M.ex
      exact ⟨M.e, S', s'⟩
    refine ⟨ts, ps, rd G (cutS S H) (ga0 N.length ds) (L2.start N vs) G H μ (fEndsM kd kx) _ M0 (ht ds μ kd kx hl hf) ⟨?_, ?_, ?_, ?_, ?_⟩⟩
    · intro Γ σ G' H' μ' q M'
      exact hk .non .non G' H' μ' q (fin M') .non
    · intro Γ σ G' H' μ' q
      exact q.elim
    · intro Γ σ G' H' μ' q
      exact q.elim
    · intro d v Γ σ G' H' μ' q M' n
      exact hk d v G' H' μ' q (fin M') n
    · intro x cls dA Γ σ G' H' μ' q M' n
      exact hx x cls dA G' H' μ' q (fin M') n
end
end MU
set_option Elab.async false
set_option linter.all false
set_option maxRecDepth 100000
set_option maxHeartbeats 4000000
namespace MU
open PySem L2 PL PyProof.Rows
variable [Tabl]
def mset (μ : Mu) (q : Addr) (l : Lo) : Mu := μ.map fun e => if e.1 = q then (q, l) else e
theorem mset_fst (μ : Mu) (q : Addr) (l : Lo) : (mset μ q l).map (·.1) = μ.map (·.1) := by
  unfold mset
  rw [List.map_map]
  refine List.map_congr_left fun e _ => ?_
  show (if e.1 = q then (q, l) else e).1 = e.1
  by_cases h : e.1 = q
  · rw [if_pos h]; exact h.symm
  · rw [if_neg h]
theorem mset_mem {μ : Mu} {q : Addr} {l : Lo} {e : Addr × Lo} (h : e ∈ mset μ q l) : (e = (q, l) ∧ ∃ l0, (q, l0) ∈ μ) ∨ (e ∈ μ ∧ e.1 ≠ q) := by
  obtain ⟨e0, h0, h1⟩ := List.mem_map.mp h
  by_cases z : e0.1 = q
  · rw [if_pos z] at h1
    exact .inl ⟨h1.symm, e0.2, by rw [← z]; exact h0⟩
  · rw [if_neg z] at h1
    rw [← h1]
    exact .inr ⟨h0, z⟩
theorem mset_get {μ : Mu} {q : Addr} {l l0 : Lo} (h : (q, l0) ∈ μ) : (q, l) ∈ mset μ q l := List.mem_map.mpr ⟨_, h, if_pos rfl⟩
theorem mset_other {μ : Mu} {q : Addr} {l : Lo} {e : Addr × Lo} (h : e ∈ μ) (n : e.1 ≠ q) : e ∈ mset μ q l := List.mem_map.mpr ⟨_, h, if_neg n⟩
section
variable {K : PySem.W.Frag} {G0 H0 G H : Hp} {Γ : Ga} {σ : L2.St} {μ : Mu}
theorem tabs_so {p : Addr} {o u : HO} (t : LamX.Tabs Tabl.T H) (hp : H p = some u) (so : SO u) : LamX.Tabs Tabl.T (upd H p o) := by
  have ne : ∀ {a : Addr} {v : HO}, H a = some v → ¬ SO v → a ≠ p := fun {a v} e n z => by
    rw [z, hp] at e
    cases e
    exact n so
  intro q hq
  obtain ⟨ps, h1, h2, h3⟩ := t q hq
  have n1 : ¬ SO (.tbl ps) := fun z => by
    rcases z with z | ⟨_, z⟩ | ⟨_, z⟩
    · exact z
    · cases z
    · cases z
  have n2 : ∀ c s, ¬ SO (LamX.CodeO c s) := fun c s z => by
    rcases z with z | ⟨_, z⟩ | ⟨_, z⟩
    · exact z
    · cases z
    · cases z
  refine ⟨ps, by rw [upd_ne (ne h1 n1)]; exact h1, h2, fun pos cv hc => ?_⟩
  obtain ⟨c, e1, e2⟩ := h3 pos cv hc
  exact ⟨c, e1, by rw [upd_ne (ne e2 (n2 _ _))]; exact e2⟩
theorem LoAt.so {q : Addr} {l : Lo} (h : LoAt K H0 G H q l) : ∃ u, H q = some u ∧ SO u ∧ ∀ x, u ≠ .own x := by
  cases l with
  | kt ks => obtain ⟨kvs, h1, _⟩ := h; exact ⟨_, h1, .inr (.inr ⟨_, rfl⟩), fun _ z => nomatch z⟩
  | d x =>
    cases x with
    | lst ds => obtain ⟨xs, h1, _⟩ := h; exact ⟨_, h1, .inl trivial, fun _ z => nomatch z⟩
    | dct ds => obtain ⟨xs, h1, _⟩ := h; exact ⟨_, h1, .inl trivial, fun _ z => nomatch z⟩
    | ins C fs => obtain ⟨dx, fvs, h1, _⟩ := h; exact ⟨_, h1, .inl trivial, fun _ z => nomatch z⟩
    | _ => exact h.elim
theorem LoAt.dx {q : Addr} {l : Lo} (h : LoAt K H0 G H q l) {C dx : Addr} {fvs : List (PySem.Str × V)} (e : H q = some (.ins C dx fvs)) : H dx = some (.own q) := by
  cases l with
  | kt ks => obtain ⟨kvs, h1, _⟩ := h; rw [e] at h1; cases h1
  | d x =>
    cases x with
    | lst ds => obtain ⟨xs, h1, _⟩ := h; rw [e] at h1; cases h1
    | dct ds => obtain ⟨xs, h1, _⟩ := h; rw [e] at h1; cases h1
    | ins C fs => obtain ⟨dx, fvs, h1, h2, _⟩ := h; rw [e] at h1; cases h1; exact h2
    | _ => exact h.elim
/-- the slots stay when an object of the store is laid or changed -/
theorem slots_upd {S S' : Addr → Prop} {q : Addr} {o : HO} (qt : quiet Γ = true) (F : Fr K G0 (ovr S H H0) Γ σ G H) (hq : ∀ p u, H p = some u → ovr S H H0 p = none → p ≠ q ∧ ovr S' (upd H q o) H0 p = none) (hx : ∀ p fvs, H p = some (.xd fvs) → p ≠ q) :
    ∀ (i : Nat) (s : Sl), Γ[i]? = some s → SlOk K (ovr S' (upd H q o) H0) G (upd H q o) (σ[i]?) s := fun i s h => by
  have w := F.at_ i s h
  have qs := List.all_eq_true.mp qt s (List.mem_of_getElem? h)
  have own : ∀ {p d}, OwnAt K (ovr S H H0) G H p d → ovr S H H0 p = none → p ≠ q ∧ ovr S' (upd H q o) H0 p = none ∧ OwnAt K (ovr S' (upd H q o) H0) G (upd H q o) p d := fun {p d} r h0 => by
    obtain ⟨u, e⟩ := r.there
    obtain ⟨n, z⟩ := hq p u e h0
    refine ⟨n, z, ?_⟩
    cases d with
    | lst ds => obtain ⟨xs, h1, h2⟩ := r; exact ⟨xs, by rw [upd_ne n]; exact h1, h2⟩
    | dct ds => obtain ⟨xs, h1, h2⟩ := r; exact ⟨xs, by rw [upd_ne n]; exact h1, h2⟩
    | ins C fs =>
      obtain ⟨dx, fvs, h1, h2, h3, h4, h5⟩ := r
      obtain ⟨n2, z2⟩ := hq dx _ h2 h4
      exact ⟨dx, fvs, by rw [upd_ne n]; exact h1, by rw [upd_ne n2]; exact h2, h3, z2, h5⟩
    | _ => exact r.elim
  cases s with
  | un => trivial
  | pu d => exact w
  | ow d => obtain ⟨p, e, g, h0, r⟩ := w; exact ⟨p, e, g, (own r h0).2.1, (own r h0).2.2⟩
  | lk p u d => obtain ⟨e, g, h0, hu, r⟩ := w; exact ⟨e, g, (own r h0).2.1, by rw [upd_ne (own r h0).1]; exact hu, (own r h0).2.2⟩
  | pw p d => obtain ⟨e, g, h0, r⟩ := w; exact ⟨e, g, (own r h0).2.1, (own r h0).2.2⟩
  | kp v c u Gx => cases qs
  | xv a cls dA fs =>
    obtain ⟨e, h1⟩ := w
    refine ⟨e, ?_⟩
    rcases h1 with h1 | ⟨p, fvs, h1, h2, h3⟩
    · exact .inl h1
    · exact .inr ⟨p, fvs, h1, by rw [upd_ne (hx p _ h2)]; exact h2, h3⟩
  | pf d l Gx => cases qs
/-- a located object is changed -/
theorem FrM.mut (M : FrM K G0 H0 Γ σ G H μ) (qt : quiet Γ = true) {q : Addr} {l l' : Lo} {o : HO} (hm : (q, l) ∈ μ) (so : SO o) (new : LoAt K H0 G (upd H q o) q l') (hdx : ∀ C dx fvs, o = .ins C dx fvs → ∃ C0 fvs0, H q = some (.ins C0 dx fvs0)) :
    FrM K G0 H0 Γ σ G (upd H q o) (mset μ q l') := by
  obtain ⟨S, s, F⟩ := M.ex
  obtain ⟨sq, lq, dq⟩ := s.e _ hm
  obtain ⟨u, hu, su, nu⟩ := lq.so
  have gq : G q = none := (s.a q sq).2.1
  have keepB : ∀ b o', ovr S H H0 b = some o' → ¬ S b → ovr S (upd H q o) H0 b = some o' := fun b o' e z => by
    rw [ovr_out z] at e ⊢
    exact e
  refine ⟨S, ⟨fun a h => ?_, fun e he => ?_, by rw [mset_fst]; exact s.n⟩, F.len, ⟨⟨fun b o' e nt => ?_, fun b o' e => ?_, fun _ => tabs_so F.sub.tb hu su⟩, F.e.g, fun b hb e => ?_, ⟨fun a o' e => ?_, F.sub.nt, tabs_so F.sub.tb hu su⟩⟩, ?_, F.dj⟩
  · by_cases z : a = q
    · subst z
      exact ⟨⟨o, upd_same, so⟩, (s.a a h).2⟩
    · rw [upd_ne z]
      exact s.a a h
  · rcases mset_mem he with ⟨rfl, _⟩ | ⟨he, n⟩
    · refine ⟨sq, new, fun C dx fvs e => ?_⟩
      rw [upd_same] at e
      cases e
      obtain ⟨C0, fvs0, e0⟩ := hdx _ _ _ rfl
      exact dq C0 dx fvs0 e0
    · obtain ⟨h1, h2, h3⟩ := s.e e he
      refine ⟨h1, h2.keep (Same.refl G) (upd_ne n) (fun C dx fvs z => ?_), fun C dx fvs z => h3 C dx fvs (by rw [upd_ne n] at z; exact z)⟩
      have nd : dx ≠ q := fun y => by
        have := h2.dx z
        rw [y, hu] at this
        exact nu _ (Option.some.inj this)
      exact ⟨upd_ne nd, (s.a dx (h3 C dx fvs z)).2.1⟩
  · by_cases z : S b
    · rw [ovr_in z] at e
      exact e
    · have nq : b ≠ q := fun y => z (by rw [y]; exact sq)
      rw [ovr_out z] at e
      rw [upd_ne nq]
      exact F.e.h.k b o' (by rw [ovr_out z]; exact e) nt
  · by_cases z : S b
    · rw [ovr_in z] at e
      exact ⟨o', e⟩
    · have nq : b ≠ q := fun y => z (by rw [y]; exact sq)
      rw [ovr_out z] at e
      rw [upd_ne nq]
      exact F.e.h.t b o' (by rw [ovr_out z]; exact e)
  · obtain ⟨o', e⟩ := e
    by_cases z : S b
    · exact (s.a b z).2.1
    · rw [ovr_out z] at e
      exact F.e.nw b hb ⟨o', by rw [ovr_out z]; exact e⟩
  · have n : a ≠ q := fun y => by rw [y, gq] at e; cases e
    rw [upd_ne n]
    exact F.sub.m a o' e
  · refine slots_upd (S' := S) qt F (fun p u' e h0 => ?_) (fun p fvs e z => ?_)
    · have z : ¬ S p := fun z => by rw [ovr_in z, e] at h0; cases h0
      rw [ovr_out z] at h0
      exact ⟨fun y => z (by rw [y]; exact sq), by rw [ovr_out z]; exact h0⟩
    · rw [z, hu] at e
      cases e
      rcases su with su | ⟨_, su⟩ | ⟨_, su⟩
      · exact su
      · cases su
      · cases su
/-- a new located object (no instance) -/
theorem FrM.new (M : FrM K G0 H0 Γ σ G H μ) (qt : quiet Γ = true) {p : Addr} {l : Lo} {o : HO} (hp : H p = none) (so : SO o) (ni : ∀ C dx fvs, o ≠ .ins C dx fvs) (new : LoAt K H0 G (upd H p o) p l) : FrM K G0 H0 Γ σ G (upd H p o) ((p, l) :: μ) := by
  obtain ⟨S, s, F⟩ := M.ex
  have gp := F.sub.none hp
  have sp : ¬ S p := fun z => by
    obtain ⟨⟨o', e, _⟩, _⟩ := s.a p z
    rw [hp] at e
    cases e
  have bp : ovr S H H0 p = none := F.e.h.free hp
  have h0p : H0 p = none := by rw [ovr_out sp] at bp; exact bp
  let S' : Addr → Prop := fun a => S a ∨ a = p
  have inS : ∀ {a}, S a → a ≠ p := fun {a} z y => sp (by rw [← y]; exact z)
  have tb : LamX.Tabs Tabl.T (upd H p o) := F.sub.tb.ext (same_upd hp)
  refine ⟨S', ⟨fun a h => ?_, fun e he => ?_, ?_⟩, F.len, ⟨⟨fun b o' e nt => ?_, fun b o' e => ?_, fun _ => tb⟩, F.e.g, fun b hb e => ?_, F.sub.up (same_upd hp)⟩, ?_, F.dj⟩
  · rcases h with h | rfl
    · rw [upd_ne (inS h)]
      exact s.a a h
    · exact ⟨⟨o, upd_same, so⟩, gp, h0p⟩
  · rcases List.mem_cons.mp he with rfl | he
    · exact ⟨.inr rfl, new, fun C dx fvs e => by rw [upd_same] at e; cases e; exact absurd rfl (ni _ _ _)⟩
    · obtain ⟨h1, h2, h3⟩ := s.e e he
      refine ⟨.inl h1, h2.keep (Same.refl G) (upd_ne (inS h1)) (fun C dx fvs z => ⟨upd_ne (inS (h3 _ _ _ z)), (s.a dx (h3 C dx fvs z)).2.1⟩), fun C dx fvs z => .inl (h3 C dx fvs (by rw [upd_ne (inS h1)] at z; exact z))⟩
  · rw [List.map_cons, List.nodup_cons]
    refine ⟨fun z => ?_, s.n⟩
    obtain ⟨e, he, z⟩ := List.mem_map.mp z
    exact inS (s.e e he).1 z
  · by_cases z : S' b
    · rw [ovr_in z] at e
      exact e
    · have nq : b ≠ p := fun y => z (.inr y)
      have z2 : ¬ S b := fun y => z (.inl y)
      rw [ovr_out z] at e
      rw [upd_ne nq]
      exact F.e.h.k b o' (by rw [ovr_out z2]; exact e) nt
  · by_cases z : S' b
    · rw [ovr_in z] at e
      exact ⟨o', e⟩
    · have nq : b ≠ p := fun y => z (.inr y)
      have z2 : ¬ S b := fun y => z (.inl y)
      rw [ovr_out z] at e
      rw [upd_ne nq]
      exact F.e.h.t b o' (by rw [ovr_out z2]; exact e)
  · obtain ⟨o', e⟩ := e
    by_cases z : S' b
    · rcases z with z | rfl
      · exact (s.a b z).2.1
      · exact gp
    · have z2 : ¬ S b := fun y => z (.inl y)
      rw [ovr_out z] at e
      exact F.e.nw b hb ⟨o', by rw [ovr_out z2]; exact e⟩
  · refine slots_upd (S' := S') qt F (fun b u' e h0 => ?_) (fun b fvs e z => by rw [z, hp] at e; cases e)
    have nb : b ≠ p := fun y => by rw [y, hp] at e; cases e
    have z : ¬ S b := fun z => by rw [ovr_in z, e] at h0; cases h0
    have z' : ¬ S' b := fun y => y.elim z nb
    rw [ovr_out z] at h0
    exact ⟨nb, by rw [ovr_out z']; exact h0⟩
theorem FrM.at_ (M : FrM K G0 H0 Γ σ G H μ) {q : Addr} {l : Lo} (h : (q, l) ∈ μ) : LoAt K H0 G H q l ∧ G q = none ∧ H0 q = none := by
  obtain ⟨S, s, F⟩ := M.ex
  obtain ⟨a, b, _⟩ := s.e _ h
  exact ⟨b, (s.a q a).2⟩
end
def tmFld (cs : List Addr) (f : PySem.Str) (t : TM) : TM := fun Γ μ k kx => t Γ μ (fun d μ1 => ∃ p C fs x, d = .cls p ∧ (p, Lo.d (.ins C fs)) ∈ μ1 ∧ C ∈ cs ∧ fs.lookup f = some x ∧ k x μ1) kx
/-- x.f = e, x a located instance -/
def tsmSetF (cs : List Addr) (i : Nat) (f : PySem.Str) (t : TM) : TSM := fun P Γ μ => t Γ μ (fun d μ1 => quiet Γ = true ∧ ∃ p C fs, gat Γ i = .pu (.cls p) ∧ (p, Lo.d (.ins C fs)) ∈ μ1 ∧ C ∈ cs ∧ fs.length < 900 ∧ P.nx Γ (mset μ1 p (.d (.ins C (putFD f d fs))))) (fun x μ => P.xx x Γ μ)
section
variable {X : Cx} {W : WX} {e o call : Expr} {es : List Expr} {tm ta : TM} {tlm : TLM} {pos pos' apos px p : Pos} {f m x : PySem.Str} {cs : List Addr}
theorem pm_fld (hc : ∀ C ∈ cs, Cls X.K C ∧ NoAttr X.K C f) (ha : PM X W e tm) (hb : attributeBase e f X.env (eval e X.env) = eval e X.env := by rfl) : PM X W (.Attribute e f pos) (tmFld cs f tm) := by
  obtain ⟨ea, pa, ra⟩ := ha.ex
  refine ⟨_, pe_fld pa hb, fun G0 H0 Γ σ G H μ k kx Q M ht hk hx => ?_⟩
  refine ra G0 H0 Γ σ G H μ _ kx _ M ht (fun d v G1 H1 μ1 k1 s1 M1 n1 => ?_) hx
  obtain ⟨p, C, fs, y, rfl, hm, hC, hl, k2⟩ := k1
  cases n1
  obtain ⟨⟨dx, fvs, q1, q2, q3, q4, q5⟩, _⟩ := M1.at_ hm
  obtain ⟨u, hu, nu⟩ := q5.get hl
  exact ⟨p, C, dx, fvs, u, rfl, q1, (hc C hC).1, (hc C hC).2, hu, hk y u G1 H1 μ1 k2 s1 M1 nu⟩
theorem sm_setF (i : Nat) (hc : ∀ C ∈ cs, Cls X.K C ∧ NoAttr X.K C f) (he : PM X W e tm) (hN : X.N[i]? = some x := by rfl) (hv : Vis X.env.scope x := by first | exact Or.inl rfl | exact Or.inr (Or.inl rfl) | exact Or.inr (Or.inr rfl))
    (hd : (x == ("__debug__" : PySem.Str)) = false := by decide) (hcd : (x == ("__classdict__" : PySem.Str)) = false := by decide) (hs : swapsWith e (some (.Attribute (.Name x px) f pos')) pos.line X.env = pure false := by rfl) :
    PS1M X W (.Assign [.Attribute (.Name x px) f pos'] e pos) (tsmSetF cs i f tm) := by
  obtain ⟨ee, pe, re⟩ := he.ex
  refine ⟨_, ps_fld (pe_var hN hv hd hcd) pe hs, fun G0 H0 Γ σ G H μ P E M ht ok => ?_⟩
  refine re G0 H0 Γ σ G H μ _ _ _ M ht (fun d v G1 H1 μ1 k1 s1 M1 n1 => ?_) (ok.x Γ σ)
  obtain ⟨qt, p, C, fs, hg, hm, hC, hlen, k2⟩ := k1
  obtain ⟨⟨dx, fvs, q1, q2, q3, q4, q5⟩, gp, h0p⟩ := M1.at_ hm
  obtain ⟨S, s, F⟩ := M1.ex
  obtain ⟨v', e1, n'⟩ := F.at_ i _ (gat_get Γ i _ hg (by simp))
  cases n'
  refine ⟨.ref p, e1, p, C, dx, fvs, rfl, q1, (hc C hC).1, (hc C hC).2, by rw [q5.length]; omega, ?_⟩
  have dq : dx ≠ p := fun z => by rw [z, q1] at q2; cases q2
  exact ok.nx Γ σ _ _ _ k2 (M1.mut qt hm (.inl trivial) ⟨dx, _, upd_same, by rw [upd_ne dq]; exact q2, q3, q4, denF_put n1 q5⟩ (fun C' dx' fvs' z => by cases z; exact ⟨C, fvs, q1⟩))
/-- e.append(x) -/
def tsmApp (t ta : TM) : TSM := fun P Γ μ => t Γ μ (fun d μ1 => ∃ q, d = .cls q ∧ (∃ l ds, l = Lo.d (.lst ds) ∧ (q, l) ∈ μ1) ∧ ta Γ μ1 (fun y μ2 => quiet Γ = true ∧ ∃ ds, (q, Lo.d (.lst ds)) ∈ μ2 ∧ ds.length < 100000 ∧ P.nx Γ (mset μ2 q (.d (.lst (ds ++ [y]))))) (fun x μ => P.xx x Γ μ)) (fun x μ => P.xx x Γ μ)
theorem sm_app (ho : PM X W o tm) (he : PM X W e ta) (hp : ∀ to te, PE X o to → PE X e te → PE X call (tBM X.K "list" rAppend to (tCons te tNil))) (hs : swapsWith call none pos.line X.env = pure false := by rfl) : PS1M X W (.Expr call pos) (tsmApp tm ta) := by
  obtain ⟨eo, po, ro⟩ := ho.ex
  obtain ⟨ee, pe, re⟩ := he.ex
  refine ⟨_, ps_expr (hp _ _ po pe) hs, fun G0 H0 Γ σ G H μ P E M ht ok => ?_⟩
  refine ro G0 H0 Γ σ G H μ _ _ _ M ht (fun d v G1 H1 μ1 k1 s1 M1 n1 => ?_) (ok.x Γ σ)
  obtain ⟨q, rfl, ⟨l, ds, rfl, hm⟩, k2⟩ := k1
  cases n1
  obtain ⟨⟨xs, q1, q2⟩, _⟩ := M1.at_ hm
  refine ⟨.inl ⟨rfl, _, SqL.of q1⟩, ?_⟩
  refine re G0 H0 Γ σ G1 H1 μ1 _ _ _ M1 k2 (fun y w G2 H2 μ2 k3 s2 M2 n2 => ?_) (ok.x Γ σ)
  obtain ⟨qt, ds2, hm2, hl, k3⟩ := k3
  obtain ⟨⟨xs2, r1, r2⟩, _⟩ := M2.at_ hm2
  refine ⟨q, xs2, w, rfl, rfl, r1, by rw [r2.length]; exact sz5' hl, ?_⟩
  exact ok.nx Γ σ _ _ _ k3 (M2.mut qt hm2 (.inl trivial) ⟨_, upd_same, r2.append (.cons n2 .nil)⟩ (fun _ _ _ z => nomatch z))
/-- a new located list -/
def tmNewL (tl : TLM) : TM := fun Γ μ k kx => tl Γ μ (fun ds μ1 => quiet Γ = true ∧ ds.length ≤ 100000 ∧ ∀ q, (∀ e ∈ μ1, e.1 ≠ q) → k (.cls q) ((q, .d (.lst ds)) :: μ1)) kx
theorem pm_newL (h : PLM X W es tlm) : PM X W (.List es pos) (tmNewL tlm) := by
  obtain ⟨ea, pa, ra⟩ := h.ex
  refine ⟨_, pe_lst pa, fun G0 H0 Γ σ G H μ k kx Q M ht hk hx => ?_⟩
  refine ra G0 H0 Γ σ G H μ _ kx _ M ht (fun ds vs G1 H1 μ1 k1 s1 M1 n1 => ?_) hx
  obtain ⟨qt, hl, k1⟩ := k1
  refine ⟨by rw [n1.length]; exact sz5 hl, fun p hp => ?_⟩
  have M2 := M1.new (o := .lst vs) (l := .d (.lst ds)) qt hp (.inl trivial) (fun _ _ _ z => nomatch z) ⟨vs, upd_same, n1⟩
  refine hk (.cls p) _ G1 _ _ (k1 p fun e he z => ?_) s1 M2 (.cls p)
  obtain ⟨S, s, F⟩ := M1.ex
  obtain ⟨⟨o, e', _⟩, _⟩ := s.a e.1 (s.e e he).1
  rw [z, hp] at e'
  cases e'
/-- len of a located list -/
def tmLen (t : TM) : TM := fun Γ μ k kx => t Γ μ (fun d μ1 => ∃ q ds, d = .cls q ∧ (q, Lo.d (.lst ds)) ∈ μ1 ∧ k (.int (ds.length : Nat)) μ1) kx
theorem pm_len (hm : X.mg "len" = none) (ha : PM X W e tm) (hg : Gl X "len" := by rfl) (h1 : starEach (e :: []) X.env = (false, eval e X.env) :: starEach [] X.env := by rfl) (h2 : (backTo pos (starEach [] X.env)).any (·.1) = false := by rfl) : PM X W (.Call (.Name "len" p) [e] [] pos) (tmLen tm) := by
  obtain ⟨ea, pa, ra⟩ := ha.ex
  refine ⟨_, pe_callB call_len hg hm (by decide +kernel) (pa_cons pa pa_nil h1) (by decide) (by decide) h1 h2, fun G0 H0 Γ σ G H μ k kx Q M ht hk hx => ?_⟩
  refine ra G0 H0 Γ σ G H μ _ kx _ M ht (fun d v G1 H1 μ1 k1 s1 M1 n1 => ?_) hx
  obtain ⟨q, ds, rfl, hm', k1⟩ := k1
  cases n1
  obtain ⟨⟨xs, q1, q2⟩, _⟩ := M1.at_ hm'
  exact ⟨.ref q, ds.length, rfl, .inl ⟨xs, SqL.of q1, q2.length.symm⟩, hk _ _ G1 H1 μ1 k1 s1 M1 (.int _)⟩
end
end MU
set_option Elab.async false
set_option linter.all false
set_option maxRecDepth 100000
set_option maxHeartbeats 4000000
namespace MU
open PySem L2 PL PyProof.Rows
variable [Tabl]
def forWM (g : TGp) (b : TSM) (P : PEnM) : List D → Ga → Mu → Prop
  | [], Γ, μ => P.nx Γ μ
  | d :: r, Γ, μ => g d Γ fun Γ1 => b { P with nx := forWM g b P r, ct := forWM g b P r, bk := P.nx } Γ1 μ
def tsmFor (ti : TL) (g : TGp) (b : TSM) : TSM := fun P Γ μ => ti Γ (fun ds => forWM g b P ds Γ μ) (fun x => P.xx x Γ μ)
theorem EOkM.rebase {K : PySem.W.Frag} {W : WX} {G0 H0 G H : Hp} {P : PEnM} {E : Ends} (ok : EOkM K W G0 H0 P E) (a : Ext G0 H0 G H) : EOkM K W G H0 P E :=
  ⟨fun Γ σ G' H' μ p M => ok.nx Γ σ G' H' μ p (M.back a), fun Γ σ G' H' μ p M => ok.bk Γ σ G' H' μ p (M.back a), fun Γ σ G' H' μ p M => ok.ct Γ σ G' H' μ p (M.back a), fun d v Γ σ G' H' μ p M n => ok.rt d v Γ σ G' H' μ p (M.back a) n,
    fun x cls dA Γ σ G' H' μ p M n => ok.xx x cls dA Γ σ G' H' μ p (M.back a) n⟩
section
variable {X : Cx} {W : WX} {e tg iter : Expr} {ti : TL} {gp : TGp} {is : List Nat} {body rest fin : List Stmt} {sm um : TSM} {pos : Pos}
theorem rdm_for {wi : TI} {g : TG} {tb : TS} {bp : TSM} (hi : RdI X.K W wi ti) (hg : RdG X.K is g gp) (hb : RdSM X.K W tb bp) : RdSM X.K W (tFor wi g tb) (tsmFor ti gp bp) := by
  intro G0 H0 Γ σ G H μ P E M ht ok
  obtain ⟨B, F, back⟩ := M.use
  refine hi G B Γ σ G H _ _ _ F ht (fun ds J G1 H1 k x w => ?_) (fun y cls dA G' H' ky x n => ok.xx y cls dA Γ σ G' H' μ ky (back _ _ _ _ (F.up x)).1 n)
  have M1 := (back _ _ _ _ (F.up x)).1
  refine ⟨fun i m σ' H' => ∃ Γ' G' μ', m = ds.length - i ∧ i ≤ ds.length ∧ FrM X.K G0 H0 Γ' σ' G' H' μ' ∧ Same G1 G' ∧ forWM gp bp P (ds.drop i) Γ' μ', ⟨ds.length, Γ, G1, μ, by simp, Nat.zero_le _, M1, Same.refl _, k⟩, ?_⟩
  rintro i m σ2 H2 ⟨Γ2, G2, μ2, rfl, hi, M2, s2, k2⟩
  by_cases hlt : i < ds.length
  · refine .inr ⟨w.go i G2 H2 hlt s2 M2.sub, fun σ' H' => ∃ Γ' G' μ', FrM X.K G0 H0 Γ' σ' G' H' μ' ∧ Same G1 G' ∧ forWM gp bp P (ds.drop (i + 1)) Γ' μ', fun σ' H' ⟨Γ', G', μ', a, b, c⟩ => ⟨ds.length - (i + 1), by omega, Γ', G', μ', rfl, hlt, a, b, c⟩, fun v H3 y => ?_⟩
    obtain ⟨d, G3, hd, x3, n3⟩ := w.yl i G2 H2 v H3 hlt s2 M2.sub y
    have M3 := M2.up x3
    have e : ds.drop i = d :: ds.drop (i + 1) := by
      rw [List.drop_eq_getElem_cons hlt]
      congr 1
      have := List.getElem?_eq_getElem hlt
      rw [hd] at this
      exact (Option.some.inj this).symm
    rw [e] at k2
    obtain ⟨S, s, F3⟩ := M3.ex
    refine hg G0 (ovr S H3 H0) Γ2 σ2 G3 H3 d v _ _ F3 n3 k2 fun Γ4 σ4 k4 F4 _ => ?_
    have M4 : FrM X.K G0 H0 Γ4 σ4 G3 H3 μ2 := ⟨S, s, F4⟩
    refine hb G3 H0 Γ4 σ4 G3 H3 μ2 _ _ M4.rebase k4 ?_
    have okr := ok.rebase M3.e
    refine ⟨fun Γ5 σ5 G5 H5 μ5 n5 M5 => ?_, fun Γ5 σ5 G5 H5 μ5 n5 M5 => ?_, fun Γ5 σ5 G5 H5 μ5 n5 M5 => ?_, okr.rt, okr.xx⟩
    · exact ⟨Γ5, G5, μ5, M5.back M3.e, (s2.trans x3.g).trans M5.e.g, n5⟩
    · exact okr.nx Γ5 σ5 G5 H5 μ5 n5 M5
    · exact ⟨Γ5, G5, μ5, M5.back M3.e, (s2.trans x3.g).trans M5.e.g, n5⟩
  · have e : i = ds.length := by omega
    subst e
    refine .inl ⟨w.st G2 H2 s2 M2.sub, ?_⟩
    rw [List.drop_length] at k2
    exact ok.nx _ _ _ _ _ k2 M2
theorem sm_for (hp : PassesOwn (model X.prog X.w) X.A X.env X.xe) (hc : X.calm = true) (hi : PIt X W tg iter ti) (hg : PGt X tg is gp) (hb : PSSM X W body sm) (hs : ∀ x, foldedSetIterable iter X.env x = pure x := by intro _; rfl) : PS1M X W (.For tg iter body [] pos) (tsmFor ti gp sm) := by
  obtain ⟨wi, pi, ri⟩ := hi.ex
  obtain ⟨g, pg, rg⟩ := hg.ex
  obtain ⟨tb, pb, rb⟩ := hb.ex
  exact ⟨_, ps_for hp hc pi pg pb (hs := hs), rdm_for ri rg rb⟩
end
end MU
set_option Elab.async false
set_option linter.all false
set_option maxRecDepth 100000
set_option maxHeartbeats 4000000
namespace MU
open PySem L2 PL PyProof.Rows
variable [Tabl]
mutual
/-- d, the located objects that it names put in -/
inductive Pur (μ : Mu) : D → D → Prop
  | keep (d : D) : Pur μ d d
  | lst {q : Addr} {ds es : List D} : (q, Lo.d (.lst ds)) ∈ μ → PurL μ ds es → Pur μ (.cls q) (.lst es)
  | ins {q C : Addr} {fs gs : List (PySem.Str × D)} : (q, Lo.d (.ins C fs)) ∈ μ → PurF μ fs gs → Pur μ (.cls q) (.ins C gs)
  | inL {ds es : List D} : PurL μ ds es → Pur μ (.lst ds) (.lst es)
  | inT {ds es : List D} : PurL μ ds es → Pur μ (.tup ds) (.tup es)
inductive PurL (μ : Mu) : List D → List D → Prop
  | nil : PurL μ [] []
  | cons {d e : D} {ds es : List D} : Pur μ d e → PurL μ ds es → PurL μ (d :: ds) (e :: es)
inductive PurF (μ : Mu) : List (PySem.Str × D) → List (PySem.Str × D) → Prop
  | nil : PurF μ [] []
  | cons {f : PySem.Str} {d e : D} {ds es : List (PySem.Str × D)} : Pur μ d e → PurF μ ds es → PurF μ ((f, d) :: ds) ((f, e) :: es)
end
section
variable {K : PySem.W.Frag} {G0 H0 G H : Hp} {Γ : Ga} {σ : L2.St} {μ : Mu} {S : Addr → Prop}
theorem same_ovr (s : StoS K S H0 G H μ) : Same G (ovr S H G) := fun a o e => by
  rw [ovr_out fun z => by rw [(s.a a z).2.1] at e; cases e]
  exact e
mutual
theorem den_pur (s : StoS K S H0 G H μ) : ∀ {d e : D} {v : V}, Pur μ d e → Den K G v d → Den K (ovr S H G) v e
  | _, _, _, .keep d, n => n.up (same_ovr s)
  | _, _, _, .lst hm p, n => by
    cases n
    obtain ⟨sq, ⟨xs, h1, h2⟩, _⟩ := s.e _ hm
    exact .lst (by rw [ovr_in sq]; exact h1) (denL_pur s p h2)
  | _, _, _, .ins hm p, n => by
    cases n
    obtain ⟨sq, ⟨dx, fvs, h1, h2, _, _, h5⟩, h3⟩ := s.e _ hm
    exact .ins (by rw [ovr_in sq]; exact h1) (by rw [ovr_in (h3 _ _ _ h1)]; exact h2) (denF_pur s p h5)
  | _, _, _, .inL p, n => by
    cases n with
    | lst h1 h2 => exact .lst (same_ovr s _ _ h1) (denL_pur s p h2)
  | _, _, _, .inT p, n => by
    cases n with
    | tup h1 h2 => exact .tup (sqt_same (same_ovr s) h1) (denL_pur s p h2)
theorem denL_pur (s : StoS K S H0 G H μ) : ∀ {ds es : List D} {vs : List V}, PurL μ ds es → DenL K G vs ds → DenL K (ovr S H G) vs es
  | _, _, _, .nil, n => by cases n; exact .nil
  | _, _, _, .cons p q, n => by
    cases n with
    | cons h1 h2 => exact .cons (den_pur s p h1) (denL_pur s q h2)
theorem denF_pur (s : StoS K S H0 G H μ) : ∀ {ds es : List (PySem.Str × D)} {vs : List (PySem.Str × V)}, PurF μ ds es → DenF K G vs ds → DenF K (ovr S H G) vs es
  | _, _, _, .nil, n => by cases n; exact .nil
  | _, _, _, .cons p q, n => by
    cases n with
    | cons h1 h2 => exact .cons (den_pur s p h1) (denF_pur s q h2)
end
/-- the slots, the located objects put in; what is not asked for is forgotten -/
inductive PurG (μ : Mu) : Ga → Ga → Prop
  | nil : PurG μ [] []
  | un {s : Sl} {a b : Ga} : PurG μ a b → PurG μ (s :: a) (.un :: b)
  | pu {d e : D} {a b : Ga} : Pur μ d e → PurG μ a b → PurG μ (.pu d :: a) (.pu e :: b)
  | ow {ds es : List D} {a b : Ga} : PurL μ ds es → PurG μ a b → PurG μ (.ow (.lst ds) :: a) (.pu (.lst es) :: b)
theorem PurG.len : ∀ {a b : Ga}, PurG μ a b → b.length = a.length
  | _, _, .nil => rfl
  | _, _, .un t => congrArg (· + 1) t.len
  | _, _, .pu _ t => congrArg (· + 1) t.len
  | _, _, .ow _ t => congrArg (· + 1) t.len
theorem PurG.at_ : ∀ {a b : Ga} {i : Nat} {s : Sl}, PurG μ a b → b[i]? = some s → s = Sl.un ∨ (∃ d e, s = Sl.pu e ∧ a[i]? = some (Sl.pu d) ∧ Pur μ d e) ∨ ∃ ds es, s = Sl.pu (D.lst es) ∧ a[i]? = some (Sl.ow (D.lst ds)) ∧ PurL μ ds es
  | _, _, _, _, .nil, h => by simp at h
  | _, _, 0, _, .un t, h => by simp at h; exact .inl h.symm
  | _, _, 0, _, .pu p t, h => by simp at h; exact .inr (.inl ⟨_, _, h.symm, rfl, p⟩)
  | _, _, 0, _, .ow p t, h => by simp at h; exact .inr (.inr ⟨_, _, h.symm, rfl, p⟩)
  | _, _, i + 1, _, .un t, h => by simpa using t.at_ (by simpa using h)
  | _, _, i + 1, _, .pu p t, h => by simpa using t.at_ (by simpa using h)
  | _, _, i + 1, _, .ow p t, h => by simpa using t.at_ (by simpa using h)
/-- the objects that own slots hold -/
def owP (Γ : Ga) (σ : L2.St) (a : Addr) : Prop := ∃ (i : Nat) (ds : List D), Γ[i]? = some (Sl.ow (D.lst ds)) ∧ σ[i]? = some (some (V.ref a))
theorem fr_pur {Γ' : Ga} (M : FrM K G0 H0 Γ σ G H μ) (p : PurG μ Γ Γ') : ∃ G1, Fr K G1 H Γ' σ G1 H ∧ Same G G1 := by
  obtain ⟨S, s, F⟩ := M.ex
  -- the located objects and the own lists, seen as pure
  let S2 : Addr → Prop := fun a => S a ∨ owP Γ σ a
  have ow : ∀ {a : Addr}, owP Γ σ a → ∃ (xs : List V) (ds : List D) (i : Nat), H a = some (HO.lst xs) ∧ DenL K G xs ds ∧ G a = none ∧ Γ[i]? = some (Sl.ow (D.lst ds)) ∧ σ[i]? = some (some (V.ref a)) := fun {a} ⟨i, ds, h1, h2⟩ => by
    obtain ⟨q, e, g, h0, xs, r1, r2⟩ := F.at_ i _ h1
    rw [e] at h2
    cases h2
    exact ⟨xs, ds, i, r1, r2, g, h1, e⟩
  have sm1 : Same (ovr S H G) (ovr S2 H G) := fun a o e => by
    by_cases z : S2 a
    · rw [ovr_in z]
      by_cases y : S a
      · rw [ovr_in y] at e; exact e
      · rw [ovr_out y] at e
        rcases z with z | z
        · exact absurd z y
        · obtain ⟨_, _, _, _, _, g, _⟩ := ow z
          rw [g] at e
          cases e
    · rw [ovr_out z]
      rw [ovr_out (fun y => z (.inl y))] at e
      exact e
  have sm : Same G (ovr S2 H G) := (same_ovr s).trans sm1
  have sb : Sub (ovr S2 H G) H := by
    refine ⟨fun a o e => ?_, fun a o e => ?_, F.sub.tb⟩
    · by_cases z : S2 a
      · rw [ovr_in z] at e; exact .inl e
      · rw [ovr_out z] at e; exact F.sub.m a o e
    · by_cases z : S2 a
      · rw [ovr_in z] at e
        rcases z with z | z
        · obtain ⟨⟨o', e', so⟩, _⟩ := s.a a z
          rw [e] at e'
          cases e'
          exact so.nt
        · obtain ⟨xs, _, _, h, _⟩ := ow z
          rw [e] at h
          cases h
          exact fun _ z => nomatch z
      · rw [ovr_out z] at e; exact F.sub.nt a o e
  refine ⟨ovr S2 H G, ⟨by rw [p.len]; exact F.len, Ext.refl sb, fun i sl h => ?_, fun i j q a b h1 h2 h3 h4 _ _ => ?_⟩, sm⟩
  · rcases p.at_ h with rfl | ⟨d, e, rfl, h2, pd⟩ | ⟨ds, es, rfl, h2, pd⟩
    · trivial
    · obtain ⟨v, ev, n⟩ := F.at_ i _ h2
      exact ⟨v, ev, (den_pur s pd n).up sm1⟩
    · obtain ⟨q, ev, g, h0, xs, r1, r2⟩ := F.at_ i _ h2
      exact ⟨.ref q, ev, .lst (by rw [ovr_in (show S2 q from .inr ⟨i, ds, h2, ev⟩)]; exact r1) ((denL_pur s pd r2).up sm1)⟩
  · exfalso
    rcases p.at_ h1 with rfl | ⟨d, e, rfl, _⟩ | ⟨ds, es, rfl, _⟩
    · exact h2
    · exact h2
    · exact h2
end
/-- a test that only reads -/
def tbmPur (t : TB) : TBM := fun Γ μ k _ => ∃ Γ', PurG μ Γ Γ' ∧ t Γ' (fun b => k b μ) (fun _ => False)
section
variable {X : Cx} {W : WX} {e : Expr} {t : TB} {tp : TP}
theorem no_xk' {K : PySem.W.Frag} {W : WX} {G H : Hp} {σ : L2.St} : XOk K W G H σ fun _ => False := fun _ _ _ _ _ z _ _ => z.elim
theorem bm_pur (h : PB X W e t) : PBM X W e (tbmPur t) := by
  obtain ⟨te, pe, re⟩ := h.ex
  refine ⟨te, pe, fun G0 H0 Γ σ G H μ k kx Q M ⟨Γ', p, ht⟩ hk hx => ?_⟩
  obtain ⟨G1, F, sm⟩ := fr_pur M p
  refine re G1 H Γ' σ G1 H _ (fun _ => False) Q F ht (fun b G' H' kb x => ?_) no_xk'
  have ex : Ext G H G H' := ⟨x.h, Same.refl G, fun _ z _ => z, M.sub.up' x.h⟩
  exact hk b G H' μ kb (Same.refl G) (M.up ex)
end
end MU
set_option Elab.async false
set_option linter.all false
set_option maxRecDepth 100000
set_option maxHeartbeats 4000000
namespace MU
open PySem L2 PL PyProof.Rows
variable [Tabl]
def teOfM (K : PySem.W.Frag) (W : WX) (t : TM) : TE := fun σ H Q => ∃ G0 H0 Γ G μ k kx, FrM K G0 H0 Γ σ G H μ ∧ t Γ μ k kx ∧ (∀ d v G' H' μ', k d μ' → Same G G' → FrM K G0 H0 Γ σ G' H' μ' → Den K G' v d → Q v H') ∧ XOkM K W G0 H0 Γ σ G kx
def tsOfM (K : PySem.W.Frag) (W : WX) (t : TSM) : TS := fun E σ H => ∃ G0 H0 Γ G μ P, FrM K G0 H0 Γ σ G H μ ∧ t P Γ μ ∧ EOkM K W G0 H0 P E
section
variable {X : Cx} {W : WX} {e : Expr} {b : List Stmt} {t : TM} {s : TSM}
theorem PM.w (h : PM X W e t) : PE X e (teOfM X.K W t) := by
  obtain ⟨te, p, r⟩ := h.ex
  exact ⟨fun pins s σ H Q I ⟨G0, H0, Γ, G, μ, k, kx, F, ht, hk, hx⟩ => p.run pins s σ H Q I (r G0 H0 Γ σ G H μ k kx Q F ht hk hx)⟩
theorem PSSM.w (h : PSSM X W b s) : PSs X b (tsOfM X.K W s) := by
  obtain ⟨ts, p, r⟩ := h.ex
  exact ⟨fun pins s σ H D I ⟨G0, H0, Γ, G, μ, P, F, ht, ok⟩ => p.run pins s σ H D I (r G0 H0 Γ σ G H μ P D F ht ok)⟩
end
theorem FrM.asPut {K : PySem.W.Frag} {G0 H0 G H : Hp} {Γ : Ga} {σ : L2.St} {μ : Mu} (M : FrM K G0 H0 Γ σ G H μ) {ov : Option V} {t : Sl} (j : Option Nat) (n : ¬ t.owns) (r : ∀ B, SlOk K B G H (some ov) t) : FrM K G0 H0 (gaSet j Γ t) (asSet j σ ov) G H μ := by
  obtain ⟨S, s, F⟩ := M.ex
  exact ⟨S, s, F.asPut j n (r _)⟩
abbrev CLM := (Value → Option Bool) × Option Nat × (Addr → Value → Option Addr → TSM)
def catchEnM (j : Option Nat) (P : PEnM) : PEnM := ⟨fun Γ => P.nx (gaSet j Γ .un), fun Γ => P.bk (gaSet j Γ .un), fun Γ => P.ct (gaSet j Γ .un), P.rt, fun _ _ _ => False⟩
def catchWM (P : PEnM) : List CLM → XD → Ga → Mu → Prop
  | [], x, Γ, μ => P.xx x Γ μ
  | (m, j, ts) :: r, x, Γ, μ => ∃ b, m x.cls = some b ∧ (b = true → ∀ a dA, ts a x.cls dA { catchEnM j P with rt := fun d Γ μ => P.rt d (gaSet j Γ .un) μ } (gaSet j Γ (.xv a x.cls dA x.fs)) μ) ∧ (b = false → catchWM P r x Γ μ)
def tsmTry (tb : TSM) (l : List CLM) : TSM := fun P Γ μ => tb { P with xx := catchWM P l } Γ μ
inductive HdsM (X : Cx) : List ExceptHandler → List CLM → Prop
  | nil : HdsM X [] []
  | cons {te : Expr} {m : Value → Option Bool} {nm : Option PySem.Str} {j : Option Nat} {ts : Addr → Value → Option Addr → TSM} {b₀ : Stmt} {suite : List Stmt} {pos' : Pos} {hds : List ExceptHandler} {l : List CLM} (hc : TestOk X te m) (hn : AsOk X nm j)
      (hsu : ∀ (a : Addr) (oe : Obj) (cls : Value) (d : Option Addr) (pn : List (Addr × Obj)), Zc cls d oe → (∃ vs, oe.data = .fields vs) → PSSM (X.suite a ((a, oe) :: pn)) (fun _ _ _ _ => False) (b₀ :: suite) (ts a cls d)) (r : HdsM X hds l) :
      HdsM X (.ExceptHandler (some te) nm (b₀ :: suite) pos' :: hds) ((m, j, ts) :: l)
theorem HdsM.of {X : Cx} {hds : List ExceptHandler} {l : List CL} (h : HdsP X hds l) : HdsM X hds (l.map fun c => (c.1, c.2.1, fun a cls d => tsmOf (c.2.2 a cls d))) := by
  induction h with
  | nil => exact .nil
  | cons hc hn hsu r ih => exact .cons hc hn (fun a oe cls d pn z dt => ssm_of (hsu a oe cls d pn z dt)) ih
section
variable {X : Cx} {W : WX} {body : List Stmt} {h₀ : ExceptHandler} {hds : List ExceptHandler} {l : List CLM} {tb : TSM} {pos : Pos}
def lowClM (K : PySem.W.Frag) (l : List CLM) : List ((Value → Option Bool) × Option Nat × (Addr → Value → Option Addr → TS)) := l.map fun c => (c.1, c.2.1, fun a cls d => tsOfM K (fun _ _ _ _ => False) (c.2.2 a cls d))
theorem HdsM.low (h : HdsM X hds l) : HdsA X hds (lowClM X.K l) := by
  induction h with
  | nil => exact .nil
  | cons hc hn hsu r ih => exact .cons hc hn (fun a oe cls d pn z dt => (hsu a oe cls d pn z dt).w) ih
theorem catch_okM {K : PySem.W.Frag} {G0 H0 : Hp} {P : PEnM} {E : Ends} (ok : EOkM K W G0 H0 P E) : ∀ (l : List CLM) (x : XD) (cls : Value) (dA : Option Addr) (Γ : Ga) (σ : L2.St) (G H : Hp) (μ : Mu), catchWM P l x Γ μ → FrM K G0 H0 Γ σ G H μ → XDen K G H cls dA x →
    wManyA W E (lowClM K l) cls dA σ H
  | [], x, cls, dA, Γ, σ, G, H, μ, h, F, dn => ok.xx x cls dA Γ σ G H μ h F dn
  | (m, j, ts) :: r, x, cls, dA, Γ, σ, G, H, μ, ⟨b, hb, yes, no⟩, F, dn => by
    obtain ⟨rfl, dn2⟩ := dn
    refine ⟨b, hb, fun q a ha => ?_, fun q => catch_okM ok r x _ dA Γ σ G H μ (no q) F ⟨rfl, dn2⟩⟩
    refine ⟨G0, H0, _, G, μ, _, F.asPut (t := .xv a x.cls dA x.fs) j (fun z => z) (fun _ => ⟨rfl, dn2⟩), yes q a dA, ?_⟩
    refine ⟨fun Γ2 σ2 G2 H2 μ2 p F2 => ok.nx _ _ _ _ _ p (F2.asPut j (fun z => z) fun _ => trivial), fun Γ2 σ2 G2 H2 μ2 p F2 => ok.bk _ _ _ _ _ p (F2.asPut j (fun z => z) fun _ => trivial), fun Γ2 σ2 G2 H2 μ2 p F2 => ok.ct _ _ _ _ _ p (F2.asPut j (fun z => z) fun _ => trivial),
      fun d v Γ2 σ2 G2 H2 μ2 p F2 n => ok.rt d v _ _ _ _ _ p (F2.asPut (ov := none) j (fun z => z) fun _ => trivial) n, fun _ _ _ _ _ _ _ _ p => p.elim⟩
theorem sm_try (hs : X.stack = X.env :: X.outer) (hf : X.env.frame = some X.env.locals) (tk : Takes X W)
    (hb : ∀ (W : WX) (pn : List (Addr × Obj)) (xe : Value → Shared → Prop), Takes (X.tr pn xe) W → PassesOwn (model X.prog X.w) X.A X.env xe → PSSM (X.tr pn xe) W body tb) (hh : HdsM X (h₀ :: hds) l) : PS1M X W (.Try body (h₀ :: hds) [] [] pos) (tsmTry tb l) := by
  refine ⟨_, ps_tryA (tb := fun W => tsOfM X.K W tb) hs hf tk (fun W pn xe t p => (hb W pn xe t p).w) hh.low, fun G0 H0 Γ σ G H μ P E F ht ok => ?_⟩
  exact ⟨G0, H0, Γ, G, μ, _, F, ht, ⟨ok.nx, ok.bk, ok.ct, ok.rt, fun x cls dA Γ σ G H μ => catch_okM ok l x cls dA Γ σ G H μ⟩⟩
end
def tmAct (i : Nat) (v : V) (c : Addr) (u : HO) (Gx : Hp) (th : Mu → KDM → KXM → Prop) : TM := fun Γ μ k kx => QuietP Γ ∧ (match gat Γ i with
  | .kp v' c' u' G' => v' = v ∧ c' = c ∧ u' = u ∧ G' = Gx
  | _ => False) ∧ th μ k kx
theorem pm_lamact {X : Cx} {pins : List (Addr × Obj)} {σ : L2.St} {H : Hp} {s : Shared} {CXg : CXT} {Eg : XK} {Ng : List PySem.Str} {qg : PySem.Str} {sg : Scope} {g f c' : Addr} {cdg : Value} {params : Arguments} {body : Expr} {scope : Scope} {k i : Nat} {a : PySem.Str} {pn : List (Addr × Obj)}
    {xe : Value → Shared → Prop} {W : WX} {tE : TM} {p1 p2 : Pos} {G0 H0 G : Hp} {Γ : Ga} (F0 : Fr X.K G0 H0 Γ σ G H) (I : Inv X pins σ H s) (L : LamX.LamS X.env.scope scope) (M : LamAt X params body scope f c' H s)
    (hbind : ∀ (pm ctv : Value), bindArgs (PySem.W.kla_fn "<lambda>" (X.env.qual ++ "<lambda>") params body scope (cloFrom X.env.cells scope.names []) pm (.ref c') ctv) ⟨[], []⟩ = pure [])
    (tk : Takes ((cxG X CXg Ng qg sg g cdg s H Eg).tr pn xe) W) (hr : Room (k + 1) (X.A.deeper (envOfC qg sg s.heap.objs.size g cdg)))
    (hbody : ∀ (E : XK) (A : Around) (outer : List Env) (s : Shared) (H : Hp), Room k (A.deeper (LamX.lamEnv X scope s.heap.objs.size f c')) → PM (LamX.lamCx X A outer s H E scope f c') (fun cls d _ H => E cls d H) body tE)
    (hN : Ng[i]? = some a) (hv : Vis sg a) (hd : (a == ("__debug__" : PySem.Str)) = false) (hcd : (a == ("__classdict__" : PySem.Str)) = false) :
    PM ((cxG X CXg Ng qg sg g cdg s H Eg).tr pn xe) W (.Call (.Name a p1) [] [] p2) (tmAct i (.ref f) c' (LamX.CodeO c' (X.env.qual ++ "<lambda>")) G fun μ k kx => tE (purify Γ) μ k kx) := by
  refine ⟨_, pe_lamact (tb := fun E => teOfM X.K (fun cls d _ H => E cls d H) tE) I L M hbind tk hr (fun E A outer s H hr => (hbody E A outer s H hr).w) hN hv hd hcd, fun G2 H2 Γ2 τ G3 H3 μ k kx Q M3 ht hk hx => ?_⟩
  obtain ⟨qt, hs, th⟩ := ht
  cases e : gat Γ2 i with
  | kp v' c2 u' G' =>
    rw [e] at hs
    obtain ⟨rfl, rfl, rfl, rfl⟩ := hs
    obtain ⟨S, st, F⟩ := M3.ex
    obtain ⟨e1, e2, _, _, e3⟩ := F.at_ i _ (gat_get Γ2 i _ e (by simp))
    have eq : ovr S H3 (cutS S H3) = H3 := by
      funext a
      by_cases z : S a
      · exact ovr_in z
      · rw [ovr_out z, cut_out z]
    have ML : FrM X.K G3 (cutS S H3) (purify Γ) σ G3 H3 μ := ⟨S, st.cut, by rw [eq]; exact fr_pure F0 e3 F.sub⟩
    have fin : ∀ {G' H' μ'}, FrM X.K G3 (cutS S H3) (purify Γ) σ G' H' μ' → FrM X.K G2 H2 Γ2 τ G' H' μ' ∧ Same G3 G' := fun {G' H' μ'} M' => by
      obtain ⟨S', s', F'⟩ := M'.ex
      exact fr_ret st F qt ⟨M'.e, S', s'⟩
    refine ⟨e1, e2, _, _, purify Γ, G3, μ, k, kx, ML, th, fun d v G' H' μ' kd sm M' n => hk d v G' H' μ' kd sm (fin M').1 n, fun x cls dA G4 H4 μ4 a sm M' c => ?_⟩
    exact hx x cls dA G4 H4 μ4 a sm (fin M').1 c
  | _ => rw [e] at hs; exact hs.elim
def AskOkM (P : Program) (w : World) (K : PySem.W.Frag) (mg : PySem.Str → Option Value) (base : Heap) (x a : PySem.Str) (st : Stmt) (N : List PySem.Str) (k : Nat) (m : TM → TSM) : Prop :=
  ∀ (g : Addr) (cdg : Value) (A : Around) (outer : List Env) (s : Shared) (H : Hp) (E : XK) (tact : TM), Room k (A.deeper (envOfC x (defScope st) s.heap.objs.size g cdg)) →
    (∀ (W : WX) (pn : List (Addr × Obj)) (xe : Value → Shared → Prop) (p1 p2 : Pos), Takes ((cxOf (L2.CX P w) P w K mg base N x (defScope st) g cdg A outer s H E).tr pn xe) W → PM ((cxOf (L2.CX P w) P w K mg base N x (defScope st) g cdg A outer s H E).tr pn xe) W (.Call (.Name a p1) [] [] p2) tact) →
    PSSM (cxOf (L2.CX P w) P w K mg base N x (defScope st) g cdg A outer s H E) (fun cls d _ H => E cls d H) (defBody st) (m tact)
def tmLam (n : Nat) (m : TM → TSM) (tE : TM) : TM := fun Γ μ k kx => QuietP Γ ∧ ∀ v c u Gx, ¬ SO u → m (tmAct 0 v c u Gx fun μ' k' kx' => tE (purify Γ) μ' k' kx') (fEndsM k kx) (.kp v c u Gx :: List.replicate (n - 1) .un) μ
theorem code_so {c : Addr} {q : PySem.Str} : ¬ SO (LamX.CodeO c q) := fun z => by
  rcases z with z | ⟨_, z⟩ | ⟨_, z⟩
  · exact z
  · cases z
  · cases z
theorem pm_lamcall {X : Cx} {W : WX} {x a : PySem.Str} {st : Stmt} {N : List PySem.Str} {g c P : Addr} {fd : FuncData} {k kl : Nat} {m : TM → TSM} {params : Arguments} {body : Expr} {scope : Scope} {tE : TM} {p lpos pos : Pos} (F : Fun X.K x x st g fd) (S : FnScope N [a] (defScope st)) (hm : X.mg x = some (.ref g))
    (hb : Binds X.K fd [a] []) (ask : AskOkM X.prog X.w X.K X.mg X.base x a st N k m) (TB : LamX.TabB X.base X.mg c P) (hcode : X.env.code = .ref c) (hT : (P, X.env.qual ++ "<lambda>") ∈ Tabl.T) (hr : Room (k + 1) X.A) (hkl : kl + 1 ≤ k) (tk : Takes X W)
    (L : LamX.lamSB X.env.scope scope = true) (hbody : ∀ (f c' : Addr) (E : XK) (A : Around) (outer : List Env) (s : Shared) (H : Hp), Room kl (A.deeper (LamX.lamEnv X scope s.heap.objs.size f c')) → PM (LamX.lamCx X A outer s H E scope f c') (fun cls d _ H => E cls d H) body tE)
    (hbind : ∀ (q : PySem.Str) (cl : List (PySem.Str × Addr)) (pm cv ctv : Value), bindArgs (PySem.W.kla_fn "<lambda>" q params body scope cl pm cv ctv) ⟨[], []⟩ = pure [] := by intros; rfl) (hdef : defaultsOf params X.env = ([], []) := by rfl) (hN : N[0]? = some a := by rfl) (hva : Vis (defScope st) a := by first | exact Or.inl rfl | exact Or.inr (Or.inl rfl) | exact Or.inr (Or.inr rfl))
    (hg : Gl X x := by rfl) (hdb : (x == ("__debug__" : PySem.Str)) = false := by decide) (hd : (a == ("__debug__" : PySem.Str)) = false := by decide) (hcd : (a == ("__classdict__" : PySem.Str)) = false := by decide) :
    PM X W (.Call (.Name x p) [.Lambda params body scope lpos] [] pos) (tmLam N.length m tE) := by
  have L := LamX.lamS_by L
  refine ⟨teOfM X.K W (tmLam N.length m tE), ⟨fun pins s σ H Q I ⟨G0, H0, Γ, G, μ, kd, kx, F0, ht, hk, hx⟩ => ?_⟩, fun G0 H0 Γ σ G H μ k kx Q F ht hk hx => ⟨G0, H0, Γ, G, μ, k, kx, F, ht, hk, hx⟩⟩
  refine wpAny_Call_Name_kw (ld_glob I hg hm ?_ hdb)
  refine PySem.W.callWith_K (h₀ := X.base) I.ok.mod.kin F.kp ?_ (by rfl) (by rfl)
  show wpAny _ _ (spliced ((false, eval (.Lambda params body scope lpos) X.env) :: backTo pos (starEach [] X.env))) _ _ s
  refine Calls.spliced_cons (lam_made I TB hcode hT F0.sub.tb hdef (L.has I.ok) fun f c' H1 s1 I1 up M => ?_)
  refine Calls.spliced_nil ⟨I1.kIn, ?_⟩
  have x1 : Ext G H G H1 := ⟨up, Same.refl G, fun _ z _ => z, F0.sub.up' up⟩
  obtain ⟨qt, ht⟩ := ht
  have M1 := F0.up x1
  obtain ⟨S1, st1, F1⟩ := M1.ex
  have eq : ovr S1 H1 (cutS S1 H1) = H1 := by
    funext a
    by_cases z : S1 a
    · exact ovr_in z
    · rw [ovr_out z, cut_out z]
  obtain ⟨oc, od, kV, doc, pm, an, cdv, ct, osl, rfl, lk, hcg⟩ := F.ex
  have rc : codeAny (model X.prog X.w) X.A (.call (.ref g) ⟨[.ref f], []⟩) (CR (L2.CX X.prog X.w) X.stack X.prog X.w H1 s1 Q fun cls d H' => W cls d σ H') s1 := by
    refine LamX.run_ofS (N := N) (ps := [a]) (us := [.ref f]) (vs := [.ref f]) lk hcg S hr I1.env0 (hb s1 [.ref f] I1.kIn rfl) (.cons rfl .nil) rfl fun hr' => ?_
    obtain ⟨ts, ps, rd⟩ := (ask g cdv X.A X.stack s1 H1 (fun cls d H' => W cls d σ H') _ hr' fun W2 pn xe p1 p2 tk2 => pm_lamact (i := 0) F1 I1 L M (fun _ _ => hbind _ _ _ _ _) tk2 (hr'.mono hkl) (fun E A outer s H hr => hbody f c' E A outer s H hr) hN hva hd hcd).ex
    have M0 : FrM X.K G (cutS S1 H1) (.kp (.ref f) c' (LamX.CodeO c' (X.env.qual ++ "<lambda>")) G :: List.replicate (N.length - 1) .un) (L2.start N [.ref f]) G H1 μ := ⟨S1, st1.cut, by
      rw [eq]
      exact fr_lam x1.sub (by
        have := (List.getElem?_eq_some_iff.mp hN).1
        omega) M.code⟩
    have fin : ∀ {Γ' σ' G' H' μ'}, FrM X.K G (cutS S1 H1) Γ' σ' G' H' μ' → FrM X.K G0 H0 Γ σ G' H' μ' ∧ Same G G' := fun {Γ' σ' G' H' μ'} M' => by
      obtain ⟨S', s', F'⟩ := M'.ex
      exact fr_ret st1 F1 qt ⟨M'.e, S', s'⟩
    refine ⟨ts, ps, rd G (cutS S1 H1) _ _ G H1 μ (fEndsM kd kx) _ M0 (ht _ _ _ _ code_so) ⟨?_, ?_, ?_, ?_, ?_⟩⟩
    · exact fun Γ' σ' G' H' μ' q F' => hk .non .non G' H' μ' q (fin F').2 (fin F').1 .non
    · exact fun _ _ _ _ _ q => q.elim
    · exact fun _ _ _ _ _ q => q.elim
    · exact fun d v Γ' σ' G' H' μ' q F' n => hk d v G' H' μ' q (fin F').2 (fin F').1 n
    · exact fun y cls dA Γ' τ G' H' μ' q F' n => hx y cls dA G' H' μ' q (fin F').2 (fin F').1 n
  refine wpAny_call (codeAny_mono rc fun r s2 q => ?_)
  cases r with
  | error e => exact passAt tk σ pins H1 s1 e s2 I1 q
  | ok fl =>
    cases fl with
    | ret u => exact I1.after q
    | next => exact False.elim q
    | brk => exact False.elim q
    | cont => exact False.elim q
end MU
set_option Elab.async false
set_option linter.all false
set_option maxRecDepth 100000
set_option maxHeartbeats 4000000
namespace PL
open PySem L2 PyProof.Rows
/-- a lambda: without parameters, or with one that has a default (never given, never read) -/
inductive LS where
  | n (params : Arguments) (body : Expr) (scope : Scope)
  | d (params : Arguments) (body : Expr) (scope : Scope) (y : PySem.Str)
def FunO (q : PySem.Str) (params : Arguments) (body : Expr) (scope : Scope) (cl : List (PySem.Str × Addr)) (f c : Addr) : HO :=
  .ext fun h => ∃ pm ctv, h.get? f = some (PySem.W.kla_obj "<lambda>" q params body scope cl pm c ctv)
def FunD (q : PySem.Str) (params : Arguments) (body : Expr) (scope : Scope) (cl : List (PySem.Str × Addr)) (f c T : Addr) : HO :=
  .ext fun h => ∃ pm ctv, h.get? f = some { cls := .type "function", data := .func (lamFd q params body scope cl pm (.ref c) ctv (.ref T)) }
def TupO (T : Addr) : HO := .ext fun h => ∃ u, h.get? T = some { cls := .type "tuple", data := .seq #[u] }
def FunAt (X : Cx) (G : Hp) (f c : Addr) : LS → Prop
  | .n params body scope => G f = some (FunO (X.env.qual ++ "<lambda>") params body scope (cloFrom X.env.cells scope.names []) f c)
  | .d params body scope y => ∃ T, G f = some (FunD (X.env.qual ++ "<lambda>") params body scope (cloFrom X.env.cells scope.names []) f c T) ∧ G T = some (TupO T)
theorem FunAt.up {X : Cx} {G G' : Hp} {f c : Addr} {sp : LS} (h : FunAt X G f c sp) (e : Same G G') : FunAt X G' f c sp := by
  cases sp with
  | n params body scope => exact e _ _ h
  | d params body scope y => obtain ⟨T, h1, h2⟩ := h; exact ⟨T, e _ _ h1, e _ _ h2⟩
theorem fix_code (c : Addr) (q : PySem.Str) : FixO (LamX.CodeO c q) := ⟨fun z => z, fun _ z => (by unfold LamX.CodeO at z; cases z), fun _ z => (by unfold LamX.CodeO at z; cases z)⟩
variable [Tabl]
def FunsAt (X : Cx) (G H : Hp) : List LS → List Addr → List Addr → Prop
  | [], [], [] => True
  | sp :: sps, f :: fs, c :: cs => (FunAt X G f c sp ∧ H c = some (LamX.CodeO c (X.env.qual ++ "<lambda>"))) ∧ FunsAt X G H sps fs cs
  | _, _, _ => False
/-- what is known stays known -/
structure Keep (G H G' H' : Hp) : Prop where
  g : Same G G'
  h : ∀ b o, H b = some o → FixO o → H' b = some o
theorem Keep.of {G H G' H' : Hp} (x : Ext G H G' H') : Keep G H G' H' := ⟨x.g, fun b o e f => x.h.k b o e f.2.1⟩
theorem Keep.trans {G H G1 H1 G2 H2 : Hp} (a : Keep G H G1 H1) (b : Keep G1 H1 G2 H2) : Keep G H G2 H2 := ⟨a.g.trans b.g, fun x o e f => b.h x o (a.h x o e f) f⟩
theorem FunsAt.keep {X : Cx} {G H G' H' : Hp} (k : Keep G H G' H') : ∀ {sps : List LS} {fs cs : List Addr}, FunsAt X G H sps fs cs → FunsAt X G' H' sps fs cs
  | [], [], [], _ => trivial
  | sp :: sps, f :: fs, c :: cs, ⟨⟨h1, h2⟩, h3⟩ => ⟨⟨h1.up k.g, k.h _ _ h2 (fix_code _ _)⟩, FunsAt.keep k h3⟩
theorem FunsAt.len {X : Cx} {G H : Hp} : ∀ {sps : List LS} {fs cs : List Addr}, FunsAt X G H sps fs cs → fs.length = sps.length ∧ cs.length = sps.length
  | [], [], [], _ => ⟨rfl, rfl⟩
  | sp :: sps, f :: fs, c :: cs, ⟨_, h3⟩ => by
    obtain ⟨a, b⟩ := FunsAt.len h3
    exact ⟨by rw [List.length_cons, a]; rfl, by rw [List.length_cons, b]; rfl⟩
theorem FunsAt.get {X : Cx} {G H : Hp} : ∀ {sps : List LS} {fs cs : List Addr} {j : Nat} {sp : LS}, FunsAt X G H sps fs cs → sps[j]? = some sp → ∃ f c, fs[j]? = some f ∧ cs[j]? = some c ∧ FunAt X G f c sp ∧ H c = some (LamX.CodeO c (X.env.qual ++ "<lambda>"))
  | sp0 :: sps, f :: fs, c :: cs, 0, sp, ⟨⟨h1, h2⟩, _⟩, e => by
    cases e
    exact ⟨f, c, rfl, rfl, h1, h2⟩
  | sp0 :: sps, f :: fs, c :: cs, j + 1, sp, ⟨_, h3⟩, e => FunsAt.get (j := j) h3 e
end PL
set_option Elab.async false
set_option linter.all false
set_option maxRecDepth 100000
set_option maxHeartbeats 4000000
namespace PL
open PySem L2 PyProof.Rows
variable [Tabl]
/-- t: what g(lambda) answers, seen from the maker's frame -/
def AskRun (X : Cx) (g : Addr) (sp : LS) (t : TP) : Prop := ∀ (pins : List (Addr × Obj)) (σ : L2.St) (H : Hp) (s : Shared) (Γ : Ga) (G0 H0 G : Hp) (f c : Addr) (W : WX) (kd : KD) (kx : KX) (Q : VK),
  Inv X pins σ H s → Fr X.K G0 H0 Γ σ G H → FunAt X G f c sp → H c = some (LamX.CodeO c (X.env.qual ++ "<lambda>")) → t Γ kd kx →
  (∀ d v G' H', kd d → Ext G H G' H' → Den X.K G' v d → Q v H') → XOk X.K W G H σ kx →
  codeAny (model X.prog X.w) X.A (.call (.ref g) ⟨[.ref f], []⟩) (CR (L2.CX X.prog X.w) X.stack X.prog X.w H s Q fun cls d H' => W cls d σ H') s
end PL
set_option Elab.async false
set_option linter.all false
set_option maxRecDepth 100000
set_option maxHeartbeats 4000000
namespace PL
open PySem L2
end PL
set_option Elab.async false
set_option linter.all false
set_option maxRecDepth 100000
set_option maxHeartbeats 4000000
namespace PL
open PySem PySem.Froz L2 PyProof.Rows
section
variable {P : Program} {w : World} {A : Around} {E : Value → Shared → Prop} {s : Shared}
/-- a text of the set -/
def inS (l : List PySem.Str) (e : Int × Value) : Bool := match e.2 with
  | .str k _ => decide (k ∈ l)
  | _ => true
end
variable [Tabl]
end PL
set_option Elab.async false
set_option linter.all false
set_option maxRecDepth 100000
set_option maxHeartbeats 4000000
namespace PL
open PySem L2
end PL
set_option Elab.async false
set_option linter.all false
set_option maxRecDepth 100000
set_option maxHeartbeats 4000000
namespace PL
open PySem L2 PyProof.Rows
end PL
set_option Elab.async false
set_option linter.all false
set_option maxRecDepth 100000
set_option maxHeartbeats 4000000
namespace PL
open PySem L2 PyProof.Rows
variable [Tabl]
section
variable {X : Cx} {W : WX} {i : Nat} {x : PySem.Str} {es : List Expr} {sps : List LS} {pos p2 p3 p4 : Pos}
inductive AskAll (X : Cx) (g : Addr) : List LS → List TP → Prop
  | nil : AskAll X g [] []
  | cons {sp : LS} {t : TP} {sps : List LS} {T : List TP} : AskRun X g sp t → AskAll X g sps T → AskAll X g (sp :: sps) (t :: T)
theorem AskAll.len {g : Addr} : ∀ {sps : List LS} {T : List TP}, AskAll X g sps T → T.length = sps.length
  | _, _, .nil => rfl
  | _, _, .cons _ h => by rw [List.length_cons, List.length_cons, h.len]
theorem AskAll.at {g : Addr} : ∀ {sps : List LS} {T : List TP}, AskAll X g sps T → ∀ (j : Nat) (sp : LS) (t : TP), sps[j]? = some sp → T[j]? = some t → AskRun X g sp t
  | _, _, .nil, _, _, _, h, _ => by simp at h
  | _, _, .cons a h, 0, _, _, h1, h2 => by cases h1; cases h2; exact a
  | _, _, .cons a h, j + 1, _, _, h1, h2 => h.at j _ _ h1 h2
end
end PL
set_option Elab.async false
set_option linter.all false
set_option maxRecDepth 100000
set_option maxHeartbeats 1000000
namespace PL
open PySem L2 PyProof.Rows
end PL
set_option Elab.async false
set_option linter.all false
set_option maxRecDepth 100000
set_option maxHeartbeats 4000000
namespace PL
open PySem L2 PyProof.Rows
variable [Tabl]
/-- a value's type -/
inductive TyZ (K : PySem.W.Frag) (H : Hp) : V → Value → Prop where
  | x {v : V} {t : Value} (h : TyX K H v t) : TyZ K H v t
  | ins {a C dx : Addr} {fs : List (PySem.Str × V)} (e : H a = some (.ins C dx fs)) : TyZ K H (.ref a) (.ref C)
section
variable {X : Cx} {W : WX} {pins : List (Addr × Obj)} {σ : L2.St} {H : Hp} {s : Shared}
theorem ins_at (I : Inv X pins σ H s) {a C dx : Addr} {fs : List (PySem.Str × V)} (e : H a = some (.ins C dx fs)) : ∃ od, PySem.W.InstAt s.heap a (PySem.W.instObj C dx) C (some od) :=
  let ⟨_, J, _⟩ := ins_get I.hok e
  let ⟨od, J, _⟩ := J.look
  ⟨od, J⟩
theorem tyz_looks (I : Inv X pins σ H s) {v : V} {u t : Value} (r : RelV v u) (h : TyZ X.K H v t) : PySem.W.Looks (model X.prog X.w) s.heap (typeOf u) t := by
  cases h with
  | x h =>
    obtain ⟨P, Z, p, _⟩ := kit_of I r h
    exact Z.ty _ _ I.kIn p
  | ins e =>
    cases r
    obtain ⟨od, J⟩ := ins_at I e
    exact J.type
theorem sub_no (K : PySem.W.Frag) (C : Addr) {n : String} (h : n ∈ ["NoneType", "bool", "int", "str", "list", "tuple", "dict"]) : PySem.W.subIn K (.type n) (.ref C) = some false := by
  simp only [List.mem_cons, List.not_mem_nil, or_false] at h
  rcases h with rfl | rfl | rfl | rfl | rfl | rfl | rfl <;> rfl
abbrev NX : XK := fun _ _ _ => False
/-- f with these values gives a truth value -/
def BCall (X : Cx) (k : Nat) (C : Addr) (m : PySem.Str) (vs : List V) (H : Hp) (Q : VK) : Prop := ∃ fn fs, Meth X.K C m fn ∧ FnR X.prog X.w X.K X.mg X.base (L2.CX X.prog X.w) k fn (spOf X.K 2 fs) ∧ spOf X.K 2 fs vs H (fun v H' => (∃ b, v = .bl b) ∧ Q v H') NX
theorem cmpR_K {prog : Program} {w : World} {A : Around} {E : Value → Shared → Prop} {s : Shared} {K : PySem.W.Frag} {x y C C' f : Addr} {ox oy : Obj} {od od' : Option Obj} {op : CmpOp} {Q : Value → Shared → Prop} (hu : A.units < cLine) (X : K.In s.heap) (I : PySem.W.InstAt s.heap x ox C od) (J : PySem.W.InstAt s.heap y oy C' od')
    (ne : C ≠ C') (hsub : PySem.W.subIn K (.ref C') (.ref C) = some true) (hs : PySem.W.findIn K (.ref C') (cmpInfo op).2.2 = some (some (.ref f))) (hf : PySem.W.isFn K (.ref f) = true)
    (h : wpAny (model prog w) A (call (.ref f) [.ref y, .ref x]) (PySem.W.CmpBack Q) E s) : wpAny (model prog w) A (richCompare op (.ref x) (.ref y)) Q E s := by
  have one : wpAny (model prog w) A (tryCompare (.ref y) (cmpInfo op).2.2 (.ref x)) (fun r s' => ∃ v, r = some v ∧ Q v s') E s := by
    unfold tryCompare
    refine wpAny_bind (PySem.W.ifBound_K X J hs hf (wpAny_mono h (fun v s' hv => ?_) fun _ _ e => e))
    cases v <;> first | exact hv.elim | exact wpAny_pure ⟨_, rfl, hv⟩
  unfold richCompare
  simp only [oneThing_ref]
  refine wpAny_holding (wpAny_bind (wpAny_cRoomFor hu ?_))
  refine wpAny_bind (I.type.here (wpAny_bind (J.type.here ?_)))
  rw [if_pos (by simp [ne])]
  refine wpAny_bind ((PySem.W.looks_subIn X hsub).here ?_)
  simp only [if_true]
  refine wpAny_bind (wpAny_mono one (fun r s' z => ?_) fun _ _ e => e)
  obtain ⟨v, rfl, hq⟩ := z
  dsimp only
  repeat (first | exact hq | wp_step)
theorem back_bool {Q : Value → Shared → Prop} {v : Value} {s' : Shared} (h : ∃ b, v = .bool b ∧ Q v s') : PySem.W.CmpBack Q v s' := by
  obtain ⟨b, rfl, q⟩ := h
  exact q
/-- the call gives a truth value -/
theorem bcall_run {k : Nat} {fn : Addr} {fs : FS} {us : List Value} {vs : List V} {Q : VK} (hr : Room k X.A) (I : Inv X pins σ H s) (r : Vals vs us) (R : FnR X.prog X.w X.K X.mg X.base (L2.CX X.prog X.w) k fn (spOf X.K 2 fs))
    (q : spOf X.K 2 fs vs H (fun v H' => (∃ b, v = .bl b) ∧ Q v H') NX) : wpAny (model X.prog X.w) X.A (call (.ref fn) us) (fun v s' => ∃ b, v = .bool b ∧ EP X pins σ Q v s') X.xe s := by
  refine wpAny_mono (wpAny_call (run_fnRS R hr (show PassesAt _ X σ NX from passAt takes0 σ) I r q)) (fun v s' z => ?_) fun _ _ e => e
  obtain ⟨w, H', I', rw', ⟨b, eb⟩, q'⟩ := z
  subst eb
  exact ⟨b, rw', .bl b, H', I', rw', q'⟩
def rEqI (X : Cx) (k : Nat) : R2 := fun x y H Q => ∃ a C dx fvs, x = .ref a ∧ H a = some (.ins C dx fvs) ∧ BCall X k C "__eq__" [x, y] H Q ∧ ∃ t b, TyZ X.K H y t ∧ PySem.W.subIn X.K t (.ref C) = some b ∧ (b = true → ∃ a' C' dx' fvs', y = .ref a' ∧ H a' = some (.ins C' dx' fvs') ∧ t = .ref C' ∧ BCall X k C' "__eq__" [y, x] H Q)
theorem op_eqI {k : Nat} (hr : Room k X.A) : OpR X (compareOp .Eq) (rEqI X k) := by
  intro pins s σ H x y v u Q I rx ry h
  obtain ⟨a, C, dx, fvs, rfl, ea, ⟨fn, fs, mt, R, q⟩, t, b, ty, sb, hb⟩ := h
  cases rx
  obtain ⟨od, J⟩ := ins_at I ea
  obtain ⟨m, hF⟩ := I.fr
  have lk := tyz_looks I ry ty
  have first : PySem.W.notFirst X.K C t = true → wpAny (model X.prog X.w) X.A (richCompare .Eq (.ref a) u) (EP X pins σ Q) X.xe s := fun nf =>
    PySem.W.cmp_K (op := .Eq) (tb := t) hr.units0 hF I.ok.mod.kin J lk nf mt.at_ mt.fn (wpAny_mono (bcall_run hr I (.cons (show L2.RelV (.ref a) (Value.ref a) from rfl) (.cons ry .nil)) R q) (fun v s' z => back_bool z) fun _ _ e => e)
  show wpAny _ _ (richCompare .Eq _ _) _ _ _
  by_cases e : t = .ref C
  · exact first (by unfold PySem.W.notFirst; rw [e]; simp)
  · cases b with
    | false => exact first (by unfold PySem.W.notFirst; rw [sb]; simp)
    | true =>
      obtain ⟨a', C', dx', fvs', rfl, ea', rfl, fn', fs', mt', R', q'⟩ := hb rfl
      cases ry
      obtain ⟨od', J'⟩ := ins_at I ea'
      exact cmpR_K (op := .Eq) hr.units0 I.kIn J J' (fun z => e (by rw [z])) sb mt'.at_ mt'.fn (wpAny_mono (bcall_run hr I (.cons (show L2.RelV (.ref a') (Value.ref a') from rfl) (.cons (show L2.RelV (.ref a) (Value.ref a) from rfl) .nil)) R' q') (fun v s' z => back_bool z) fun _ _ e => e)
end
/-- a == b, a an instance with an own __eq__: ms the classes and what it does -/
def fEqI (ms : List (Addr × FS)) : F2 := fun d e k => match d with
  | .ins C fs => (∃ f, (C, f) ∈ ms ∧ f [.ins C fs, e] (fun r => (∃ b, r = .bl b) ∧ k r) (fun _ => False)) ∧ (match e with
    | .ins C' gs => ∃ f, (C', f) ∈ ms ∧ f [.ins C' gs, .ins C fs] (fun r => (∃ b, r = .bl b) ∧ k r) (fun _ => False)
    | e => (tyD e).isSome = true)
  | _ => False
section
variable {X : Cx} {W : WX} {a b : Expr} {ta tb : TP} {pos : Pos} {k j : Nat} {ms : List (Addr × FS)}
theorem bcall_of {C : Addr} {f : FS} {m : PySem.Str} {H G : Hp} {vs : List V} {ds : List D} {kd : KD} {Q : VK} (M : Mt X.prog X.w X.K X.mg X.base C m k 1 f) (s : Sub G H) (n : DenL X.K G vs ds) (hl : ds.length = 2) (hf : f ds (fun r => (∃ b, r = .bl b) ∧ kd r) (fun _ => False))
    (hk : ∀ d v G' H', kd d → Ext G H G' H' → Den X.K G' v d → Q v H') : BCall X k C m vs H Q := by
  obtain ⟨fn, mt, R⟩ := M.ex
  refine ⟨fn, f, mt, R, G, ds, _, _, s, n, hl, hf, fun d v G' H' ⟨⟨b, eb⟩, kk⟩ ex dn => ?_, fun x cls dA G' H' z _ _ => z.elim⟩
  subst eb
  refine ⟨⟨b, ?_⟩, hk _ v G' H' kk ex dn⟩
  cases dn
  rfl
/-- two operands, both pure -/
theorem rdp_op2 {K : PySem.W.Frag} {r : R2} {f : F2} {ea eb : TE} (ha : RdP K W ea ta) (hb : RdP K W eb tb) (hr : ∀ (H G : Hp) (v1 v2 : V) (d1 d2 : D) (k : KD) (Q : VK), Sub G H → Den K G v1 d1 → Den K G v2 d2 → f d1 d2 k → (∀ d v G' H', k d → Ext G H G' H' → Den K G' v d → Q v H') → r v1 v2 H Q) : RdP K W (tOp r ea eb) (tpOp f ta tb) := by
  intro G0 H0 Γ σ G H k kx Q F ht hk hx
  refine ha G0 H0 Γ σ G H _ kx _ F ht (fun d1 v1 G1 H1 k1 x1 n1 => ?_) hx
  refine hb G0 H0 Γ σ G1 H1 _ kx _ (F.up x1) k1 (fun d2 v2 G2 H2 k2 x2 n2 => ?_) (hx.up x1)
  exact hr H2 G2 v1 v2 d1 d2 k Q x2.sub (n1.up x2.g) n2 k2 fun d v G' H' kd ex dn => hk d v G' H' kd ((x1.trans x2).trans ex) dn
theorem rd_eqI (hm : ∀ q ∈ ms, Mt X.prog X.w X.K X.mg X.base q.1 "__eq__" k 1 q.2) (hs : ∀ q ∈ ms, ∀ q' ∈ ms, ∃ b, PySem.W.subIn X.K (.ref q'.1) (.ref q.1) = some b) {H G : Hp} {v1 v2 : V} {d1 d2 : D} {kd : KD} {Q : VK} (s : Sub G H) (n1 : Den X.K G v1 d1) (n2 : Den X.K G v2 d2) (hf : fEqI ms d1 d2 kd)
    (hk : ∀ d v G' H', kd d → Ext G H G' H' → Den X.K G' v d → Q v H') : rEqI X k v1 v2 H Q := by
  cases d1 with
  | ins C fs =>
    obtain ⟨⟨f, hC, h1⟩, h2⟩ := hf
    obtain ⟨a, dx, fvs, rfl, h3, h4⟩ := (show DenU X.K H G H v1 (.ins C fs) from .inl n1).ins s
    refine ⟨a, C, dx, fvs, rfl, h3, bcall_of (hm _ hC) s (.cons n1 (.cons n2 .nil)) rfl h1 hk, ?_⟩
    cases d2 with
    | ins C' gs =>
      obtain ⟨f', hC', h5⟩ := h2
      obtain ⟨a', dx', fvs', rfl, h6, h7⟩ := (show DenU X.K H G H v2 (.ins C' gs) from .inl n2).ins s
      obtain ⟨b, hb⟩ := hs _ hC _ hC'
      exact ⟨.ref C', b, .ins h6, hb, fun _ => ⟨a', C', dx', fvs', rfl, h6, rfl, bcall_of (hm _ hC') s (.cons n2 (.cons n1 .nil)) rfl h5 hk⟩⟩
    | non => exact ⟨_, false, .x (DenU.ty (H0 := H) s (.inl n2) rfl), sub_no _ _ (tyD_mem (d := .non) rfl), fun z => Bool.noConfusion z⟩
    | bl b => exact ⟨_, false, .x (DenU.ty (H0 := H) s (.inl n2) rfl), sub_no _ _ (tyD_mem (d := .bl b) rfl), fun z => Bool.noConfusion z⟩
    | int b => exact ⟨_, false, .x (DenU.ty (H0 := H) s (.inl n2) rfl), sub_no _ _ (tyD_mem (d := .int b) rfl), fun z => Bool.noConfusion z⟩
    | str b => exact ⟨_, false, .x (DenU.ty (H0 := H) s (.inl n2) rfl), sub_no _ _ (tyD_mem (d := .str b) rfl), fun z => Bool.noConfusion z⟩
    | lst b => exact ⟨_, false, .x (DenU.ty (H0 := H) s (.inl n2) rfl), sub_no _ _ (tyD_mem (d := .lst b) rfl), fun z => Bool.noConfusion z⟩
    | tup b => exact ⟨_, false, .x (DenU.ty (H0 := H) s (.inl n2) rfl), sub_no _ _ (tyD_mem (d := .tup b) rfl), fun z => Bool.noConfusion z⟩
    | dct b => exact ⟨_, false, .x (DenU.ty (H0 := H) s (.inl n2) rfl), sub_no _ _ (tyD_mem (d := .dct b) rfl), fun z => Bool.noConfusion z⟩
    | _ => exact Bool.noConfusion h2
  | _ => exact hf.elim
theorem p_eqI (hm : ∀ q ∈ ms, Mt X.prog X.w X.K X.mg X.base q.1 "__eq__" k 1 q.2) (hs : ∀ q ∈ ms, ∀ q' ∈ ms, ∃ b, PySem.W.subIn X.K (.ref q'.1) (.ref q.1) = some b) (hr : Room j X.A) (hj : k ≤ j) (ha : PP X W a ta) (hb : PP X W b tb) (hbm : behindInMarks .Eq b = false := by first | exact nobehind _ (by decide) (by decide) | rfl) :
    PP X W (.Compare a [.Eq] [b] pos) (tpOp (fEqI ms) ta tb) := by
  obtain ⟨ea, pa, ra⟩ := ha.ex
  obtain ⟨eb, pb, rb⟩ := hb.ex
  exact ⟨_, pe_cmpR (op_eqI (hr.mono hj)) pa pb hbm, rdp_op2 ra rb fun H G v1 v2 d1 d2 kd Q s n1 n2 hf hk => rd_eqI hm hs s n1 n2 hf hk⟩
end
end PL
set_option Elab.async false
set_option linter.all false
set_option maxRecDepth 100000
set_option maxHeartbeats 4000000
namespace PL
open PySem L2 PyProof.Rows
end PL
set_option Elab.async false
set_option linter.all false
set_option maxRecDepth 100000
set_option maxHeartbeats 4000000
namespace PL
open PySem L2 PyProof.Rows
variable [Tabl]
section
variable {X : Cx} {W : WX} {pins : List (Addr × Obj)} {σ : L2.St} {H : Hp} {s : Shared} {a b : Expr} {ea eb : TE} {ta tb : TP} {pos p : Pos} {k j : Nat} {ms : List (Addr × FS)} {op : Operator}
def MCall (X : Cx) (W : WX) (k : Nat) (C : Addr) (m : PySem.Str) (vs : List V) (σ : L2.St) (H : Hp) (Q : VK) : Prop := ∃ fn fs, Meth X.K C m fn ∧ FnR X.prog X.w X.K X.mg X.base (L2.CX X.prog X.w) k fn (spOf X.K vs.length fs) ∧ spOf X.K vs.length fs vs H Q (WE W σ)
end
end PL
set_option Elab.async false
set_option linter.all false
set_option maxRecDepth 100000
set_option maxHeartbeats 4000000
namespace PL
open PySem L2 PyProof.Rows
variable [Tabl]
section
variable {X : Cx} {W : WX} {pins : List (Addr × Obj)} {σ : L2.St} {H : Hp} {s : Shared} {a b fe e : Expr} {es : List Expr} {ta tb tf : TP} {tl : TL} {pos : Pos} {k j n : Nat} {ms : List (Addr × FS)}
/-- the method that stands under a dunder is a function of the program, its object kept -/
def FnAt (K : PySem.W.Frag) (C : Addr) (m : PySem.Str) : Prop := ∃ f, PySem.W.findIn K (.ref C) m = some (some (.ref f)) ∧ PySem.W.fnIn K f = true
theorem FnAt.fi {K : PySem.W.Frag} {C f : Addr} {m : PySem.Str} (h : FnAt K C m) (mt : Meth K C m f) : PySem.W.fnIn K f = true := by
  obtain ⟨g, h1, h2⟩ := h
  have := mt.at_
  rw [h1] at this
  cases this
  exact h2
def tpCallI (ms : List (Addr × FS)) (n : Nat) (tf : TP) (tl : TL) : TP := fun Γ k kx => tf Γ (fun d => match d with
  | .ins C fs => ∃ f, (C, f) ∈ ms ∧ tl Γ (fun es => es.length = n ∧ f (.ins C fs :: es) k kx) kx
  | _ => False) kx
theorem p_callI (hm : ∀ q ∈ ms, Mt X.prog X.w X.K X.mg X.base q.1 "__call__" k n q.2) (hfi : ∀ q ∈ ms, FnAt X.K q.1 "__call__") (hr : Room j X.A) (hj : k ≤ j) (tk : Takes X W) (hf : PP X W fe tf) (ha : PL' X W (e :: es) tl)
    (ht : eval (.Call fe (e :: es) [] pos) X.env = (do callWith pos (← eval fe X.env) [] (backTo pos (starEach (e :: es) X.env)) (backToKw pos (keywordEach [] X.env))) := by rfl)
    (he : starEach (e :: es) X.env = (false, eval e X.env) :: starEach es X.env := by rfl) (hpl : (backTo pos (starEach es X.env)).any (·.1) = false := by rfl) : PP X W (.Call fe (e :: es) [] pos) (tpCallI ms n tf tl) := by
  obtain ⟨ef, pf, rf⟩ := hf.ex
  obtain ⟨ea, pa, ra⟩ := ha.ex
  refine ⟨fun σ H Q => ef σ H fun y H1 => ∃ a C, y = V.ref a ∧ ea σ H1 fun vs H2 => StX.InsC X H2 a C ∧ FnAt X.K C "__call__" ∧ MCall X W k C "__call__" (V.ref a :: vs) σ H2 Q, ⟨fun pins s σ H Q I h => ?_⟩, fun G0 H0 Γ σ G H kd kx Q F ht hk hx => ?_⟩
  · refine Call_ (thn (pf.run pins s σ H _ I h) fun u s1 ⟨y, H1, I1, ry, a, C, ey, q⟩ => ?_) ht
    subst ey
    obtain rfl : u = Value.ref a := ry
    refine StX.callO_with (thn (pa.run pos pins s1 σ H1 _ I1 q) fun us s2 ⟨vs, H2, I2, r, hi, hfn, fn, fs, mt, R, q2⟩ => ?_) he hpl
    obtain ⟨ox, od, J, hd⟩ := StX.insC_at I2 hi
    refine ⟨⟨C, ox, od, J, hd⟩, wpAny_call (PySem.W.kco_code I2.kIn J hd mt.at_ mt.fn (hfn.fi mt) ?_)⟩
    exact run_fnRS (us := .ref a :: us) (vs := .ref a :: vs) R (hr.mono hj) (passAt tk σ) I2 (.cons rfl r) q2
  · refine rf G0 H0 Γ σ G H _ kx _ F ht (fun d v G1 H1 k1 x1 n1 => ?_) hx
    cases d with
    | ins C fs =>
      obtain ⟨f, hC, k2⟩ := k1
      obtain ⟨r, dx, fvs, rfl, h3, h4⟩ := (show DenU X.K H1 G1 H1 v (.ins C fs) from .inl n1).ins x1.sub
      refine ⟨r, C, rfl, ra G0 H0 Γ σ G1 H1 _ kx _ (F.up x1) k2 (fun ds vs G2 H2 k3 x2 n2 => ?_) (hx.up x1)⟩
      have n1' := n1.up x2.g
      obtain ⟨r', dx', fvs', e', h3', h4'⟩ := (show DenU X.K H2 G2 H2 (V.ref r) (.ins C fs) from .inl n1').ins x2.sub
      cases e'
      obtain ⟨fn, mt, R⟩ := (hm _ hC).ex
      have hl : (V.ref r :: vs).length = n + 1 := by rw [List.length_cons, n2.length, k3.1]
      exact ⟨.inr ⟨_, _, h3'⟩, hfi _ hC, fn, f, mt, by rw [hl]; exact R, rd_after (G0 := G0) (H0 := H0) (Γ := Γ) (x1.trans x2) (.cons n1' n2) (by simp [n2.length]) k3.2 hk hx⟩
    | _ => exact k1.elim
end
end PL
set_option Elab.async false
set_option linter.all false
set_option maxRecDepth 100000
set_option maxHeartbeats 4000000
namespace PL
open PySem L2 PyProof.Rows
end PL
set_option Elab.async false
set_option linter.all false
set_option maxRecDepth 100000
set_option maxHeartbeats 4000000
namespace MU
open PySem L2 PL PyProof.Rows
variable [Tabl]
def flatD : D → Bool
  | .non => true
  | .bl _ => true
  | .int _ => true
  | .str _ => true
  | .ty _ => true
  | .cls _ => true
  | _ => false
def flatLo : Lo → Bool
  | .d (.lst ds) => ds.all flatD
  | .d (.ins _ fs) => fs.all fun f => flatD f.2
  | _ => false
section
variable {K : PySem.W.Frag} {G0 H0 G H G' H' : Hp} {Γ Γ' : Ga} {σ σ' : L2.St} {μ μ' : Mu} {S : Addr → Prop}
theorem flat_den {d : D} {v : V} (h : flatD d = true) (n : Den K G v d) : Den K G' v d := by
  cases d with
  | non => cases n; exact .non
  | bl b => cases n; exact .bl b
  | int b => cases n; exact .int b
  | str b => cases n; exact .str b
  | ty b => cases n; exact .ty b
  | cls b => cases n; exact .cls b
  | _ => cases h
theorem flat_denL : ∀ {ds : List D} {vs : List V}, ds.all flatD = true → DenL K G vs ds → DenL K G' vs ds
  | [], _, _, n => by cases n; exact .nil
  | d :: ds, _, h, n => by
    rw [List.all_cons, Bool.and_eq_true] at h
    cases n with
    | cons n1 n2 => exact .cons (flat_den h.1 n1) (flat_denL h.2 n2)
theorem flat_denF : ∀ {ds : List (PySem.Str × D)} {vs : List (PySem.Str × V)}, (ds.all fun f => flatD f.2) = true → DenF K G vs ds → DenF K G' vs ds
  | [], _, _, n => by cases n; exact .nil
  | d :: ds, _, h, n => by
    rw [List.all_cons, Bool.and_eq_true] at h
    cases n with
    | cons n1 n2 => exact .cons (flat_den h.1 n1) (flat_denF h.2 n2)
theorem sp_callG {n : Nat} {fs : FSM} {vs : List V} {ds : List D} {k : KDM} {kx : KXM} {Q : VK} {W : WX} (q : QuietP Γ) (M : FrM K G0 H0 Γ σ G H μ) (nn : DenL K G vs ds) (hl : ds.length = n) (hf : fs ds μ k kx)
    (hk : ∀ d v G' H' μ', k d μ' → Same G G' → FrM K G0 H0 Γ σ G' H' μ' → Den K G' v d → Q v H') (hx : XOkM K W G0 H0 Γ σ G kx) : spM K n fs vs H Q (WE W σ) := by
  obtain ⟨S, s, F⟩ := M.ex
  refine ⟨G, ds, μ, k, kx, S, M.sub, nn, hl, s.cut, hf, fun d v G' H' μ' kd r n' => ?_, fun x cls dA G' H' μ' kd r n' => ?_⟩
  · obtain ⟨a, b⟩ := fr_ret s F q r
    exact hk d v G' H' μ' kd b a n'
  · obtain ⟨a, b⟩ := fr_ret s F q r
    exact hx x cls dA G' H' μ' kd b a n'
/-- no store at all: what is there is left alone -/
theorem frm_empty (F : Fr K G0 H Γ σ G H) : FrM K G0 H Γ σ G H [] := by
  have eq : ovr (fun _ => False) H H = H := by
    funext a
    exact ovr_out fun z => z
  exact ⟨fun _ => False, ⟨fun _ h => h.elim, fun _ h => (nomatch h), List.nodup_nil⟩, by rw [eq]; exact F⟩
/-- the end of such a part -/
theorem sub_end (s : StoS K S H0 G H μ) (F : Fr K G0 (ovr S H H0) Γ σ G H) (q : QuietP Γ) {G1 : Hp} (M : FrM K G1 H Γ' σ' G' H' μ') (hfl : (μ'.all fun e => flatLo e.2) = true) : FrM K G0 H0 Γ σ G H' (μ' ++ μ) ∧ (∀ e ∈ μ', ∀ e0 ∈ μ, e.1 ≠ e0.1) ∧ FrM K G0 H0 Γ σ G H' μ := by
  obtain ⟨S', s', F'⟩ := M.ex
  have up := M.e.h
  have inS : ∀ {a}, S a → ∃ o, H a = some o ∧ SO o := fun {a} h => (s.a a h).1
  have keep : ∀ {a}, S a → H' a = H a := fun {a} h => by
    obtain ⟨o, e, so⟩ := inS h
    rw [e]
    exact up.k a o e so.nt
  have newS : ∀ {a}, S' a → H a = none := fun {a} h => (s'.a a h).2.2
  have dis : ∀ {a}, S' a → ¬ S a := fun {a} h z => by
    obtain ⟨o, e, _⟩ := inS z
    rw [newS h] at e
    cases e
  have gfree : ∀ {a}, H a = none → G a = none := fun {a} h => F.sub.none h
  have sub' : Sub G H' := F.sub.up' up
  have cutUp : Up (cutS S H) H' := by
    refine ⟨fun b o e nt => ?_, fun b o e => ?_, fun _ => sub'.tb⟩
    · by_cases z : S b
      · rw [cut_in z] at e; cases e
      · rw [cut_out z] at e; exact up.k b o e nt
    · by_cases z : S b
      · rw [cut_in z] at e; cases e
      · rw [cut_out z] at e; exact up.t b o e
  have x : Ext G (cutS S H) G H' := ⟨cutUp, Same.refl G, fun _ h _ => h, sub'⟩
  have oldSt : StoS K S (cutS S H) G H' μ := by
    refine ⟨fun a h => ?_, fun e he => ?_, s.n⟩
    · rw [keep h]
      exact ⟨inS h, (s.a a h).2.1, cut_in h⟩
    · obtain ⟨h1, h2, h3⟩ := s.e e he
      refine ⟨h1, ?_, fun C dx fvs z => h3 C dx fvs (by rw [← keep h1]; exact z)⟩
      have h2' : LoAt K H0 G H' e.1 e.2 := h2.keep (Same.refl G) (keep h1) fun C dx fvs z => ⟨keep (h3 C dx fvs z), (s.a dx (h3 C dx fvs z)).2.1⟩
      exact h2'.re fun C dx fvs z => cut_in (h3 C dx fvs (by rw [← keep h1]; exact z))
  have newSt : StoS K (fun a => S a ∨ S' a) (cutS S H) G H' (μ' ++ μ) := by
    refine ⟨fun a h => ?_, fun e he => ?_, ?_⟩
    · rcases h with h | h
      · exact oldSt.a a h
      · exact ⟨(s'.a a h).1, gfree (newS h), by rw [cut_out (dis h)]; exact newS h⟩
    · rcases List.mem_append.mp he with he | he
      · obtain ⟨h1, h2, h3⟩ := s'.e e he
        have fl := List.all_eq_true.mp hfl e he
        refine ⟨.inr h1, ?_, fun C dx fvs z => .inr (h3 C dx fvs z)⟩
        obtain ⟨q0, l⟩ := e
        cases l with
        | kt ks => cases fl
        | d y =>
          cases y with
          | lst ds => obtain ⟨xs, a1, a2⟩ := h2; exact ⟨xs, a1, flat_denL fl a2⟩
          | ins C fs =>
            obtain ⟨dx, fvs, a1, a2, a3, a4, a5⟩ := h2
            have sd := h3 C dx fvs a1
            exact ⟨dx, fvs, a1, a2, gfree (newS sd), by rw [cut_out (dis sd)]; exact newS sd, flat_denF fl a5⟩
          | _ => cases fl
      · obtain ⟨h1, h2, h3⟩ := oldSt.e e he
        exact ⟨.inl h1, h2, fun C dx fvs z => .inl (h3 C dx fvs z)⟩
    · rw [List.map_append, List.nodup_append]
      refine ⟨s'.n, s.n, fun a h b hb z => ?_⟩
      obtain ⟨e1, q1, rfl⟩ := List.mem_map.mp h
      obtain ⟨e2, q2, rfl⟩ := List.mem_map.mp hb
      exact dis (s'.e e1 q1).1 (by rw [z]; exact (s.e e2 q2).1)
  refine ⟨(fr_ret s F q ⟨x, _, newSt⟩).1, fun e he e0 h0 z => dis (s'.e e he).1 (by rw [z]; exact (s.e e0 h0).1), (fr_ret s F q ⟨x, _, oldSt⟩).1⟩
end
def flatX (x : XD) : Bool := x.fs.all fun f => flatD f.2
/-- the store is read as pure data; new objects with flat contents may be made -/
def tmSub (t : TM) : TM := fun Γ μ k kx => quiet Γ = true ∧ ∃ Γ', PurG μ Γ Γ' ∧ t Γ' [] (fun d μ' => flatD d = true ∧ (μ'.all fun e => flatLo e.2) = true ∧ ((∀ e ∈ μ', ∀ e0 ∈ μ, e.1 ≠ e0.1) → k d (μ' ++ μ))) (fun x _ => flatX x = true ∧ kx x μ)
/-- only reads -/
def tmPur (t : TP) : TM := fun Γ μ k kx => quiet Γ = true ∧ ∃ Γ', PurG μ Γ Γ' ∧ t Γ' (fun d => flatD d = true ∧ k d μ) (fun x => flatX x = true ∧ kx x μ)
section
variable {X : Cx} {W : WX} {e a b o : Expr} {es : List Expr} {t tm ta tb te : TM} {tp : TP} {tlm : TLM} {pos p p2 apos : Pos} {x m : PySem.Str} {k n j : Nat}
theorem pm_sub (h : PM X W e t) : PM X W e (tmSub t) := by
  obtain ⟨te, pe, re⟩ := h.ex
  refine ⟨te, pe, fun G0 H0 Γ σ G H μ k kx Q M ht hk hx => ?_⟩
  obtain ⟨qt, Γ', pg, ht⟩ := ht
  obtain ⟨G1, F1, sm⟩ := fr_pur M pg
  obtain ⟨S, s, F⟩ := M.ex
  have done : ∀ {G' H' μ'}, FrM X.K G1 H Γ' σ G' H' μ' → (μ'.all fun e => flatLo e.2) = true → _ := fun {G' H' μ'} M' fl => sub_end s F (quiet_p qt) M' fl
  refine re G1 H Γ' σ G1 H [] _ _ Q (frm_empty F1) ht (fun d v G' H' μ' kd sm' M' n => ?_) (fun y cls dA G' H' μ' kd sm' M' n => ?_)
  · obtain ⟨fd, fl, kd⟩ := kd
    obtain ⟨M2, dj, _⟩ := done M' fl
    exact hk d v G H' _ (kd dj) (Same.refl G) M2 (flat_den fd n)
  · obtain ⟨fx, kd⟩ := kd
    obtain ⟨n1, n2⟩ := n
    -- the made objects are forgotten
    obtain ⟨S', s', F'⟩ := M'.ex
    have M'' : FrM X.K G1 H Γ' σ G' H' [] := ⟨S', ⟨s'.a, fun _ h => (by cases h), List.nodup_nil⟩, F'⟩
    obtain ⟨_, _, M3⟩ := done M'' (by rfl)
    refine hx y cls dA G H' μ kd (Same.refl G) M3 ⟨n1, ?_⟩
    rcases n2 with n2 | ⟨p, fvs, h1, h2, h3⟩
    · exact .inl n2
    · exact .inr ⟨p, fvs, h1, h2, flat_denF fx h3⟩
theorem pm_pur (h : PP X W e tp) : PM X W e (tmPur tp) := by
  obtain ⟨te, pe, re⟩ := (pm_sub (m_of h)).ex
  refine ⟨te, pe, fun G0 H0 Γ σ G H μ k kx Q M ht hk hx => ?_⟩
  obtain ⟨qt, Γ', pg, ht⟩ := ht
  obtain ⟨te', pe', re'⟩ := h.ex
  refine re G0 H0 Γ σ G H μ k kx Q M ⟨qt, Γ', pg, ?_⟩ hk hx
  show tp Γ' _ _
  have e1 : (fun d => flatD d = true ∧ k d μ) = fun d => flatD d = true ∧ (([] : Mu).all fun e => flatLo e.2) = true ∧ ((∀ e ∈ ([] : Mu), ∀ e0 ∈ μ, e.1 ≠ e0.1) → k d ([] ++ μ)) := by
    funext d
    refine propext ⟨fun h => ⟨h.1, rfl, fun _ => h.2⟩, fun h => ⟨h.1, h.2.2 fun _ z => by cases z⟩⟩
  rw [e1] at ht
  exact ht
def tmIx (ta tb : TM) : TM := fun Γ μ k kx => ta Γ μ (fun d μ1 => ∃ q, d = .cls q ∧ tb Γ μ1 (fun i μ2 => ∃ z ds y, i = .int z ∧ (q, Lo.d (.lst ds)) ∈ μ2 ∧ atI ds z = some y ∧ k y μ2) kx) kx
theorem pm_ix (ha : PM X W a ta) (hb : PM X W b tb) (hs : PlainIx b := by exact fun _ _ => rfl) : PM X W (.Subscript a b pos) (tmIx ta tb) := by
  obtain ⟨ea, pa, ra⟩ := ha.ex
  obtain ⟨eb, pb, rb⟩ := hb.ex
  refine ⟨_, pe_ix (o_ix (X := X)).1 pa pb hs, fun G0 H0 Γ σ G H μ k kx Q M ht hk hx => ?_⟩
  refine ra G0 H0 Γ σ G H μ _ kx _ M ht (fun d v G1 H1 μ1 k1 s1 M1 n1 => ?_) hx
  obtain ⟨q, rfl, k1⟩ := k1
  cases n1
  refine rb G0 H0 Γ σ G1 H1 μ1 _ kx _ M1 k1 (fun d2 v2 G2 H2 μ2 k2 s2 M2 n2 => ?_) (hx.up s1)
  obtain ⟨z, ds, y, rfl, hm, hy, k2⟩ := k2
  cases n2
  obtain ⟨⟨xs, h1, r1⟩, _⟩ := M2.at_ hm
  obtain ⟨u, hu, nu⟩ := ix_get r1 hy
  exact .inl ⟨q, xs, z, u, rfl, rfl, SqL.of h1, hu, hk y u G2 H2 μ2 k2 (s1.trans s2) M2 nu⟩
def tsmSetIx (ta tb te : TM) : TSM := fun P Γ μ => te Γ μ (fun d μ1 => ta Γ μ1 (fun o μ2 => ∃ q, o = .cls q ∧ tb Γ μ2 (fun i μ3 => ∃ (z : Nat) (ds : List D), i = .int (z : Nat) ∧ (q, Lo.d (.lst ds)) ∈ μ3 ∧ z < ds.length ∧ quiet Γ = true ∧ P.nx Γ (mset μ3 q (.d (.lst (ds.set z d))))) (fun x μ => P.xx x Γ μ)) (fun x μ => P.xx x Γ μ)) (fun x μ => P.xx x Γ μ)
theorem ixN_ltM {n j : Nat} (h : j < n) : ixN n ((j : Nat) : Int) = some j := by
  unfold ixN
  rw [if_pos (by omega), if_pos (by omega), Int.toNat_natCast]
theorem sm_setIx (ha : PM X W a ta) (hb : PM X W b tb) (he : PM X W e te) (hps : ∀ {eo ei ee}, PE X a eo → PE X b ei → PE X e ee → PS X (.Assign [.Subscript a b p2] e pos) (tAsg ee (gSub eo ei rSetL))) : PS1M X W (.Assign [.Subscript a b p2] e pos) (tsmSetIx ta tb te) := by
  obtain ⟨ea, pa, ra⟩ := ha.ex
  obtain ⟨eb, pb, rb⟩ := hb.ex
  obtain ⟨ee, pe, re⟩ := he.ex
  refine ⟨_, hps pa pb pe, fun G0 H0 Γ σ G H μ P E M ht ok => ?_⟩
  have okx := ok.x (K := X.K) (G := G) Γ σ
  refine re G0 H0 Γ σ G H μ _ _ _ M ht (fun d v G1 H1 μ1 k1 s1 M1 n1 => ?_) (ok.x Γ σ)
  refine ra G0 H0 Γ σ G1 H1 μ1 _ _ _ M1 k1 (fun d2 v2 G2 H2 μ2 k2 s2 M2 n2 => ?_) (ok.x Γ σ)
  obtain ⟨q, rfl, k2⟩ := k2
  cases n2
  refine rb G0 H0 Γ σ G2 H2 μ2 _ _ _ M2 k2 (fun d3 v3 G3 H3 μ3 k3 s3 M3 n3 => ?_) (ok.x Γ σ)
  obtain ⟨z, ds, rfl, hm, hz, qt, k3⟩ := k3
  cases n3
  obtain ⟨⟨xs, h1, r1⟩, _⟩ := M3.at_ hm
  refine ⟨q, xs, _, z, rfl, rfl, h1, ixN_ltM (by rw [r1.length]; exact hz), ?_⟩
  exact ok.nx Γ σ _ _ _ k3 (M3.mut qt hm (.inl trivial) ⟨_, upd_same, r1.set (n1.up (s2.trans s3)) z⟩ (fun _ _ _ z => nomatch z))
def tsmSetO (ms : List (Addr × FSM)) (ta tb te : TM) : TSM := fun P Γ μ => te Γ μ (fun w μ1 => ta Γ μ1 (fun o μ2 => ∃ q, o = .cls q ∧ tb Γ μ2 (fun i μ3 => ∃ C fs f, (q, Lo.d (.ins C fs)) ∈ μ3 ∧ (C, f) ∈ ms ∧ quiet Γ = true ∧ f [.cls q, i, w] μ3 (fun _ μ4 => P.nx Γ μ4) (fun x μ => P.xx x Γ μ)) (fun x μ => P.xx x Γ μ)) (fun x μ => P.xx x Γ μ)) (fun x μ => P.xx x Γ μ)
def gSetOM (X : Cx) (W : WX) (k : Nat) (ea eb : TE) : TG := fun v σ H Q => ea σ H fun x H1 => eb σ H1 fun y H2 => ∃ p C dx fvs, x = V.ref p ∧ H2 p = some (.ins C dx fvs) ∧ PySem.W.noSeq X.K C = true ∧ ∃ fn fs, Meth X.K C "__setitem__" fn ∧ FnR X.prog X.w X.K X.mg X.base (L2.CX X.prog X.w) k fn (spM X.K 3 fs) ∧ spM X.K 3 fs [x, y, v] H2 (fun _ H3 => Q σ H3) (WE W σ)
theorem pg_setOM {ea eb : TE} (hr : Room j X.A) (hj : k ≤ j) (tk : Takes X W) (pa : PE X a ea) (pb : PE X b eb)
    (ha : ∀ v, assign (.Subscript a b p2) X.env v = (do
      let ov ← holding [v] (eval a X.env)
      let iv ← holding [v, ov] (eval b X.env)
      standAt p2
      holding [v, ov, iv] (setItem ov iv v)
      release [v, ov, iv] []) := by intro _; rfl) : PG X (.Subscript a b p2) (gSetOM X W k ea eb) := by
  refine ⟨fun pins s σ H v u Q I r h => ?_⟩
  rw [ha]
  refine wpAny_bind (wpAny_holding (thn (pa.run pins s σ H _ I h) fun ov s1 ⟨x, H1, I1, r1, q1⟩ => ?_))
  refine wpAny_bind (wpAny_holding (thn (pb.run pins s1 σ H1 _ I1 q1) fun iv s2 ⟨y, H2, I2, r2, q2⟩ => ?_))
  obtain ⟨p, C, dx, fvs, rfl, ep, hq, fn, fs, mt, R, q⟩ := q2
  cases r1
  obtain ⟨od, J⟩ := ins_at I2 ep
  obtain ⟨m, hF⟩ := I2.fr
  refine wpAny_bind (wpAny_standAt (wpAny_bind (wpAny_holding ?_)))
  refine PySem.W.ksp_setItem (Q := fun _ s' => wpAny (model X.prog X.w) X.A (release [u, Value.ref p, iv] []) (fun _ s' => ∃ σ' H', Inv X pins σ' H' s' ∧ Q σ' H') X.xe s') hF I2.ok.mod.kin J hq mt.at_ mt.fn ?_
  refine wpAny_mono (wpAny_call (run_fnRS (us := [.ref p, iv, u]) (vs := [.ref p, y, v]) R (hr.mono hj) (passAt tk σ) I2 (.cons rfl (.cons r2 (.cons r .nil))) q)) (fun w s' z => ?_) fun _ _ e => e
  obtain ⟨w', H3, I3, rw', q3⟩ := z
  exact wpAny_release ⟨σ, H3, I3, q3⟩
theorem sm_setO {ms : List (Addr × FSM)} (hm : ∀ q ∈ ms, MtM X.prog X.w X.K X.mg X.base q.1 "__setitem__" k 2 q.2) (hq : ∀ q ∈ ms, PySem.W.noSeq X.K q.1 = true) (hr : Room j X.A) (hj : k ≤ j) (tk : Takes X W) (ha : PM X W a ta) (hb : PM X W b tb) (he : PM X W e te)
    (hg : ∀ v, assign (.Subscript a b p2) X.env v = (do
      let ov ← holding [v] (eval a X.env)
      let iv ← holding [v, ov] (eval b X.env)
      standAt p2
      holding [v, ov, iv] (setItem ov iv v)
      release [v, ov, iv] []) := by intro _; rfl)
    (hs : swapsWithSole [.Subscript a b p2] e pos.line X.env = pure false := by rfl) (hw : swappedStores [.Subscript a b p2] e X.env = pure none := by rfl)
    (h1 : (assignEach [.Subscript a b p2] X.env).map (·.2) = [assign (.Subscript a b p2) X.env] := by rfl) : PS1M X W (.Assign [.Subscript a b p2] e pos) (tsmSetO ms ta tb te) := by
  obtain ⟨ea, pa, ra⟩ := ha.ex
  obtain ⟨eb, pb, rb⟩ := hb.ex
  obtain ⟨ee, pe, re⟩ := he.ex
  refine ⟨_, ps_asg pe (pg_setOM hr hj tk pa pb hg) hs hw h1, fun G0 H0 Γ σ G H μ P E M ht ok => ?_⟩
  refine re G0 H0 Γ σ G H μ _ _ _ M ht (fun w0 v0 G1 H1 μ1 k1 s1 M1 n1 => ?_) (ok.x Γ σ)
  refine ra G0 H0 Γ σ G1 H1 μ1 _ _ _ M1 k1 (fun d v G2 H2 μ2 k2 s2 M2 n2 => ?_) (ok.x Γ σ)
  obtain ⟨q, rfl, k2⟩ := k2
  cases n2
  refine rb G0 H0 Γ σ G2 H2 μ2 _ _ _ M2 k2 (fun i u G3 H3 μ3 k3 s3 M3 n3 => ?_) (ok.x Γ σ)
  obtain ⟨C, fs, f, hmem, hC, qt, k3⟩ := k3
  obtain ⟨⟨dx, fvs, q1, _⟩, _⟩ := M3.at_ hmem
  obtain ⟨fn, mt, R⟩ := (hm _ hC).ex
  exact ⟨q, C, dx, fvs, rfl, q1, hq _ hC, fn, _, mt, R, sp_callG (quiet_p qt) M3 (.cons (.cls q) (.cons n3 (.cons (n1.up (s2.trans s3)) .nil))) rfl k3 (fun d v G' H' μ' kd _ M' _ => ok.nx Γ σ G' H' μ' kd M') (ok.x Γ σ)⟩
def tmList (t : TM) : TM := fun Γ μ k kx => t Γ μ (fun d μ1 => quiet Γ = true ∧ ∃ ds, ((∃ q, d = .cls q ∧ (q, Lo.d (.lst ds)) ∈ μ1) ∨ d = .lst ds ∨ d = .tup ds) ∧ ∀ q, (∀ e ∈ μ1, e.1 ≠ q) → k (.cls q) ((q, .d (.lst ds)) :: μ1)) kx
theorem fresh_mu {K : PySem.W.Frag} {G0 H0 G H : Hp} {Γ : Ga} {σ : L2.St} {μ : Mu} (M : FrM K G0 H0 Γ σ G H μ) {p : Addr} (hp : H p = none) : ∀ e ∈ μ, e.1 ≠ p := fun e he z => by
  obtain ⟨S, s, F⟩ := M.ex
  obtain ⟨⟨o, e', _⟩, _⟩ := s.a e.1 (s.e e he).1
  rw [z, hp] at e'
  cases e'
theorem pm_list (hm : X.mg x = none) (hv : bootBuiltins x = some (.type "list")) (ha : PM X W a t) (hg : Gl X x := by rfl) (hn : x ≠ "__name__" := by decide) (hdb : (x == ("__debug__" : PySem.Str)) = false := by decide)
    (h1 : starEach (a :: []) X.env = (false, eval a X.env) :: starEach [] X.env := by rfl) (h2 : (backTo pos (starEach [] X.env)).any (·.1) = false := by rfl) : PM X W (.Call (.Name x p) [a] [] pos) (tmList t) := by
  obtain ⟨ea, pa, ra⟩ := ha.ex
  refine ⟨_, pe_callTy (c_list (X := X)).1 hg hm hv (pa_cons pa pa_nil h1) hn hdb h1 h2, fun G0 H0 Γ σ G H μ k kx Q M ht hk hx => ?_⟩
  refine ra G0 H0 Γ σ G H μ _ kx _ M ht (fun d v G1 H1 μ1 k1 s1 M1 n1 => ?_) hx
  obtain ⟨qt, ds, hd, k1⟩ := k1
  have : ∃ p ys, v = .ref p ∧ (SqL X.K H1 p ys ∨ SqT X.K H1 p ys) ∧ DenL X.K G1 ys ds := by
    rcases hd with ⟨q, rfl, hm⟩ | rfl | rfl
    · cases n1
      obtain ⟨⟨xs, h1, r1⟩, _⟩ := M1.at_ hm
      exact ⟨q, xs, rfl, .inl (SqL.of h1), r1⟩
    · cases n1 with
      | lst h1 h2 => exact ⟨_, _, rfl, .inl (M1.sub.sql (SqL.of h1)), h2⟩
    · cases n1 with
      | tup h1 h2 => exact ⟨_, _, rfl, .inr (M1.sub.sqt h1), h2⟩
  obtain ⟨p0, ys, rfl, hs, r1⟩ := this
  refine ⟨p0, ys, rfl, hs, fun l hl => ?_⟩
  have M2 := M1.new (o := .lst ys) (l := .d (.lst ds)) qt hl (.inl trivial) (fun _ _ _ z => nomatch z) ⟨ys, upd_same, r1⟩
  exact hk (.cls l) _ G1 _ _ (k1 l (fresh_mu M1 hl)) s1 M2 (.cls l)
structure MkM (P : Program) (w : World) (K : PySem.W.Frag) (mg : PySem.Str → Option Value) (base : Heap) (C : Addr) (k n : Nat) (fs : FSM) : Prop where
  ex : ∃ f, Mk K C f ∧ FnR P w K mg base (L2.CX P w) k f (spM K (n + 1) fs)
def tmMake (C : Addr) (fs : FSM) (n : Nat) (tl : TLM) : TM := fun Γ μ k kx => tl Γ μ (fun ds μ1 => quiet Γ = true ∧ ds.length = n ∧ ∀ q, (∀ e ∈ μ1, e.1 ≠ q) → fs (.cls q :: ds) ((q, .d (.ins C [])) :: μ1) (fun d μ2 => d = .non ∧ k (.cls q) μ2) kx) kx
theorem FrM.newI {K : PySem.W.Frag} {G0 H0 G H : Hp} {Γ : Ga} {σ : L2.St} {μ : Mu} (M : FrM K G0 H0 Γ σ G H μ) (qt : QuietP Γ) {p dx C : Addr} (hp : H p = none) (hd : H dx = none) (ne : dx ≠ p) : FrM K G0 H0 Γ σ G (upd (upd H dx (.own p)) p (.ins C dx [])) ((p, .d (.ins C [])) :: μ) := by
  obtain ⟨S, s, F⟩ := M.ex
  have s2 : Same H (upd (upd H dx (.own p)) p (.ins C dx [])) := fun a o e => by
    rw [upd_ne (ne_of_none e hp), upd_ne (ne_of_none e hd)]
    exact e
  have inS : ∀ {a}, S a → ∃ o, H a = some o ∧ SO o := fun {a} h => (s.a a h).1
  have keep : ∀ {a}, S a → upd (upd H dx (.own p)) p (.ins C dx []) a = H a := fun {a} h => by
    obtain ⟨o, e, so⟩ := inS h
    rw [e]
    exact s2 a o e
  have np : ¬ S p := fun z => by obtain ⟨o, e, _⟩ := inS z; rw [hp] at e; cases e
  have nd : ¬ S dx := fun z => by obtain ⟨o, e, _⟩ := inS z; rw [hd] at e; cases e
  have sub' := F.sub.up s2
  have cutUp : Up (cutS S H) (upd (upd H dx (.own p)) p (.ins C dx [])) := by
    refine ⟨fun b o e nt => ?_, fun b o e => ?_, fun _ => sub'.tb⟩
    · by_cases z : S b
      · rw [cut_in z] at e; cases e
      · rw [cut_out z] at e; exact s2 b o e
    · by_cases z : S b
      · rw [cut_in z] at e; cases e
      · rw [cut_out z] at e; exact ⟨o, s2 b o e⟩
  have x : Ext G (cutS S H) G (upd (upd H dx (.own p)) p (.ins C dx [])) := ⟨cutUp, Same.refl G, fun _ h _ => h, sub'⟩
  have st : StoS K (fun a => S a ∨ a = p ∨ a = dx) (cutS S H) G (upd (upd H dx (.own p)) p (.ins C dx [])) ((p, .d (.ins C [])) :: μ) := by
    refine ⟨fun a h => ?_, fun e he => ?_, ?_⟩
    · rcases h with h | rfl | rfl
      · rw [keep h]
        exact ⟨inS h, (s.a a h).2.1, cut_in h⟩
      · exact ⟨⟨_, upd_same, .inl trivial⟩, F.sub.none hp, by rw [cut_out np]; exact hp⟩
      · exact ⟨⟨_, by rw [upd_ne ne, upd_same], .inr (.inl ⟨_, rfl⟩)⟩, F.sub.none hd, by rw [cut_out nd]; exact hd⟩
    · rcases List.mem_cons.mp he with rfl | he
      · refine ⟨.inr (.inl rfl), ⟨dx, [], upd_same, by rw [upd_ne ne, upd_same], F.sub.none hd, by rw [cut_out nd]; exact hd, .nil⟩, fun C' dx' fvs z => ?_⟩
        rw [upd_same] at z
        cases z
        exact .inr (.inr rfl)
      · obtain ⟨h1, h2, h3⟩ := s.e e he
        refine ⟨.inl h1, ?_, fun C' dx' fvs z => .inl (h3 C' dx' fvs (by rw [← keep h1]; exact z))⟩
        have h2' : LoAt K H0 G (upd (upd H dx (.own p)) p (.ins C dx [])) e.1 e.2 := h2.keep (Same.refl G) (keep h1) fun C' dx' fvs z => ⟨keep (h3 C' dx' fvs z), (s.a dx' (h3 C' dx' fvs z)).2.1⟩
        exact h2'.re fun C' dx' fvs z => cut_in (h3 C' dx' fvs (by rw [← keep h1]; exact z))
    · rw [List.map_cons, List.nodup_cons]
      refine ⟨fun z => ?_, s.n⟩
      obtain ⟨e, he, z⟩ := List.mem_map.mp z
      have z' : e.1 = p := z
      exact np (by rw [← z']; exact (s.e e he).1)
  exact (fr_ret s F qt ⟨x, _, st⟩).1
theorem pm_make {fs : FSM} {C : Addr} (M : MkM X.prog X.w X.K X.mg X.base C k n fs) (hr : Room j X.A) (hj : k + 1 ≤ j) (tk : Takes X W) (hm : X.mg x = some (.ref C)) (ha : PLM X W (e :: es) tlm) (hg : Gl X x := by rfl) (hdb : (x == ("__debug__" : PySem.Str)) = false := by decide)
    (hst : starEach (e :: es) X.env = (false, eval e X.env) :: starEach es X.env := by rfl) (hpl : (backTo pos (starEach es X.env)).any (·.1) = false := by rfl) : PM X W (.Call (.Name x p) (e :: es) [] pos) (tmMake C fs n tlm) := by
  obtain ⟨ea, pa, ra⟩ := ha.ex
  obtain ⟨f, mk, R⟩ := M.ex
  refine ⟨fun σ H Q => ea σ H fun vs H1 => ∀ x dx, H1 x = none → H1 dx = none → dx ≠ x → spM X.K (n + 1) fs (.ref x :: vs) (upd (upd H1 dx (.own x)) x (.ins C dx [])) (fun v H2 => v = .non ∧ Q (.ref x) H2) (WE W σ), ⟨fun pins s σ H Q I h => ?_⟩, fun G0 H0 Γ σ G H μ kd kx Q F ht hk hx => ?_⟩
  · refine wpAny_Call_Name_kw (ld_glob I hg hm ?_ hdb)
    refine PySem.W.callWith_K (h₀ := X.base) I.ok.mod.kin mk.kp (thn (pa.run pos pins s σ H _ I h) fun us s1 ⟨vs, H1, I1, r, q⟩ => ⟨I1.kIn, ?_⟩) hst hpl
    exact run_makeS mk R (hr.mono hj) (passAt tk σ) I1 r q
  · refine ra G0 H0 Γ σ G H μ _ kx _ F ht (fun ds vs G1 H1 μ1 k1 s1 M1 n1 => ?_) hx
    obtain ⟨qt, hl, k1⟩ := k1
    intro q dx hq hd ne
    refine sp_callG (quiet_p qt) (M1.newI (quiet_p qt) hq hd ne) (.cons (.cls q) n1) (by rw [List.length_cons, hl]) (k1 q (fresh_mu M1 hq)) (fun d v G' H' μ' kk s' M' n' => ?_) (hx.up s1)
    obtain ⟨rfl, kk⟩ := kk
    cases n'
    exact ⟨rfl, hk (.cls q) _ G' H' μ' kk (s1.trans s') M' (.cls q)⟩
def tmMethP0 (ms : List (Addr × FSM)) (m : PySem.Str) (t : TM) : TM := fun Γ μ k kx => quiet Γ = true ∧ t Γ μ (fun d μ1 => ∃ C fs, d = .ins C fs ∧ fs.lookup m = none ∧ ∃ f, (C, f) ∈ ms ∧ f [.ins C fs] μ1 k kx) kx
theorem pm_methP0 {ms : List (Addr × FSM)} (hm : ∀ q ∈ ms, MtM X.prog X.w X.K X.mg X.base q.1 m k 0 q.2) (hr : Room j X.A) (hj : k ≤ j) (tk : Takes X W) (ho : PM X W o tm) {pl : Sem Bool}
    (ht : eval (.Call (.Attribute o m apos) [] [] pos) X.env = (do
      let ov ← eval o X.env
      standAt apos.atName
      let (f, first) ← holding [ov] (getMethod ov m pl)
      callWith pos f first (backTo pos (starEach [] X.env)) (backToKw pos (keywordEach [] X.env))) := by rfl) : PM X W (.Call (.Attribute o m apos) [] [] pos) (tmMethP0 ms m tm) := by
  obtain ⟨eo, po, ro⟩ := ho.ex
  refine ⟨fun σ H Q => eo σ H fun x H1 => ∃ a C dx fvs fn fs, x = .ref a ∧ H1 a = some (.ins C dx fvs) ∧ fvs.lookup m = none ∧ Cls X.K C ∧ Meth X.K C m fn ∧ FnR X.prog X.w X.K X.mg X.base (L2.CX X.prog X.w) k fn (spM X.K (0 + 1) fs) ∧ spM X.K (0 + 1) fs [x] H1 Q (WE W σ), ⟨fun pins s σ H Q I h => ?_⟩, fun G0 H0 Γ σ G H μ kd kx Q M ht hk hx => ?_⟩
  · refine PySem.W.methodCall_KW (pl := pl) (thn (po.run pins s σ H _ I h) fun u s1 ⟨x, H1, I1, rx, a, C, dx, fvs, fn, fs, ex, ea, l, c, mt, R, q⟩ => ?_) ht
    subst ex
    obtain rfl : u = Value.ref a := rx
    refine getmeth_ok I1 ea c mt l ?_
    exact PySem.W.callWith_K0 (first := [.ref a]) I1.kIn mt.kp (wpAny_call (run_fnRS (us := [.ref a]) (vs := [.ref a]) R (hr.mono hj) (passAt tk σ) I1 (.cons rfl .nil) q))
  · obtain ⟨qt, ht⟩ := ht
    refine ro G0 H0 Γ σ G H μ _ kx _ M ht (fun d v G1 H1 μ1 k1 s1 M1 n1 => ?_) hx
    obtain ⟨C, fs, rfl, hl, f, hf, k2⟩ := k1
    have Mt := hm _ hf
    obtain ⟨fn, mt, R⟩ := Mt.ex
    have n0 := n1
    cases n1 with
    | ins h1 h2 h3 => exact ⟨_, C, _, _, fn, f, rfl, M1.sub.at_ h1 (fun z => z), h3.no hl, Mt.c, mt, R, sp_callG (quiet_p qt) M1 (.cons n0 .nil) rfl k2 (fun d v G' H' μ' kd s' M' n' => hk d v G' H' μ' kd (s1.trans s') M' n') (hx.up s1)⟩
def tsmPar (is : List Nat) (tl : TLM) : TSM := fun P Γ μ => tl Γ μ (fun ds μ' => match stores is ds Γ with
  | some Γ' => P.nx Γ' μ'
  | none => False) (fun x μ => P.xx x Γ μ)
theorem sm_par2 {y : PySem.Str} (i j : Nat) {px py pt : Pos} {kt k2 pt2} (hc : X.calm = true) (hN : X.N.Nodup) (h : PLM X W [a, b] tlm) (hij : i ≠ j := by decide) (hi : X.N[i]? = some x := by rfl) (hj : X.N[j]? = some y := by rfl)
    (hx : X.env.scope.names.lookup x = some .local := by rfl) (hy : X.env.scope.names.lookup y = some .local := by rfl)
    (hw : swappedStores [.Tuple [.Name x px, .Name y py] kt pt] (.Tuple [a, b] k2 pt2) X.env = pure (some [x, y]) := by rfl)
    (hs : swapsWithSole [.Tuple [.Name x px, .Name y py] kt pt] (.Tuple [a, b] k2 pt2) pos.line X.env = pure false := by rfl) :
    PS1M X W (.Assign [.Tuple [.Name x px, .Name y py] kt pt] (.Tuple [a, b] k2 pt2) pos) (tsmPar [i, j] tlm) := by
  obtain ⟨ea, pa, ra⟩ := h.ex
  refine ⟨_, ps_par hc hN hi hj hij hx hy pa hw hs, fun G0 H0 Γ σ G H μ P E F ht ok => ?_⟩
  refine ra G0 H0 Γ σ G H μ _ _ _ F ht (fun ds vs G' H' μ' k s M n => ?_) (ok.x Γ σ)
  match ds, k, n with
  | [d1, d2], k, .cons n1 (.cons n2 .nil) => exact ⟨_, _, rfl, ok.nx _ _ G' H' μ' k ((M.set i n1).set j n2)⟩
end
end MU
set_option Elab.async false
set_option linter.all false
set_option maxRecDepth 100000
set_option maxHeartbeats 4000000
namespace MU
open PySem L2 PL PyProof.Rows
variable [Tabl]
/-- slots with pure data alone -/
def plainG (Γ : Ga) : Bool := Γ.all fun s => match s with | .un => true | .pu _ => true | _ => false
theorem plain_at {Γ : Ga} (h : plainG Γ = true) {i : Nat} {s : Sl} (e : Γ[i]? = some s) : s = .un ∨ ∃ d, s = .pu d := by
  have := List.all_eq_true.mp h s (List.mem_of_getElem? e)
  cases s with
  | un => exact .inl rfl
  | pu d => exact .inr ⟨d, rfl⟩
  | _ => cases this
section
variable {K : PySem.W.Frag} {G0 H0 G H G' H' : Hp} {Γ Γ' : Ga} {σ σ' : L2.St} {μ μ' : Mu} {S : Addr → Prop}
/-- back to the slots as they were -/
theorem FrM.replain (M : FrM K G0 H0 Γ' σ' G' H' μ') {G0' H0' : Hp} (M0 : FrM K G0' H0' Γ σ G H μ) (hp : plainG Γ = true) (s : Same G G') : FrM K G0 H0 Γ σ G' H' μ' := by
  obtain ⟨S', st', F'⟩ := M'_ex M
  obtain ⟨S0, _, F0⟩ := M0.ex
  refine ⟨S', st', F0.len, F'.e, fun i t h => ?_, fun a b p t u h1 h2 => ?_⟩
  · rcases plain_at hp h with rfl | ⟨d, rfl⟩
    · trivial
    · obtain ⟨v, e, n⟩ := F0.at_ i _ h
      exact ⟨v, e, n.up s⟩
  · rcases plain_at hp h1 with rfl | ⟨d, rfl⟩
    · exact h2.elim
    · exact h2.elim
where M'_ex (M : FrM K G0 H0 Γ' σ' G' H' μ') : ∃ S : Addr → Prop, StoS K S H0 G' H' μ' ∧ Fr K G0 (ovr S H' H0) Γ' σ' G' H' := M.ex
theorem FrM.wipe (M : FrM K G0 H0 Γ σ G H μ) (is : List Nat) : FrM K G0 H0 (wipeG Γ is) (L2.wipe σ is) G H μ := by
  obtain ⟨S, s, F⟩ := M.ex
  exact ⟨S, s, F.wipe is⟩
end
/-- the items one by one; Dd: the new list -/
def lcN (g : TGp) (tt : TB) (te : TM) (Dd : Addr) (Γ : Ga) : List D → Mu → (Mu → Prop) → Prop
  | [], μ, k => k μ
  | d :: r, μ, k => g d Γ fun Γ1 => tt Γ1 (fun b => if b = true then te Γ1 μ (fun y μ1 => quiet Γ1 = true ∧ ∃ ys, (Dd, Lo.d (.lst ys)) ∈ μ1 ∧ ys.length < 100000 ∧ lcN g tt te Dd Γ r (mset μ1 Dd (.d (.lst (ys ++ [y])))) k) (fun _ _ => False) else lcN g tt te Dd Γ r μ k) (fun _ => False)
def tmLcN (is : List Nat) (ti : TL) (g : TGp) (tt : TB) (te : TM) : TM := fun Γ μ k kx => plainG Γ = true ∧ quiet Γ = true ∧ ti Γ (fun ds => ∀ q, (∀ e ∈ μ, e.1 ≠ q) → lcN g tt te q (wipeG Γ is) ds ((q, .d (.lst [])) :: μ) fun μ' => k (.cls q) μ') (fun x => kx x μ)
theorem pm_unif {ι : Type} {Xf : ι → Cx} {K : PySem.W.Frag} {W : WX} {e : Expr} {t : TM} (hK : ∀ i, (Xf i).K = K) (h : ∀ i, PM (Xf i) W e t) (i₀ : ι) : ∃ te, (∀ i, PE (Xf i) e te) ∧ RdM K W te t := by
  have h' : ∀ i, ∃ te, PE (Xf i) e te ∧ RdM K W te t := fun i => by
    obtain ⟨te, h1, h2⟩ := (h i).ex
    rw [hK i] at h2
    exact ⟨te, h1, h2⟩
  refine ⟨fun σ H Q => ∀ i, Classical.choose (h' i) σ H Q, fun i => ⟨fun pins s σ H Q I q => (Classical.choose_spec (h' i)).1.run pins s σ H Q I (q i)⟩, ?_⟩
  intro G0 H0 Γ σ G H μ k kx Q F ht hk hx i
  exact (Classical.choose_spec (h' i)).2 G0 H0 Γ σ G H μ k kx Q F ht hk hx
section
variable {X : Cx} {W : WX} {tt : TB} {pos : Pos}
theorem rdm_lc {wi : TI} {g : TG} {eb : TT} {ee : TE} {ti : TL} {gp : TGp} {is vs : List Nat} {te : TM} (hi : RdI X.K W wi ti) (hg : RdG X.K is g gp) (hb : RdT X.K W0 eb tt) (he : RdM X.K W0 ee te) (hv : is = vs) : RdM X.K W (tLc wi g eb ee vs) (tmLcN is ti gp tt te) := by
  subst hv
  intro G0 H0 Γ σ G H μ k kx Q M ht hk hx
  obtain ⟨pl, qt, ht⟩ := ht
  obtain ⟨B, F, back⟩ := M.use
  refine hi G B Γ σ G H _ _ _ F ht (fun ds J G1 H1 k1 x1 w => ?_) (fun y cls dA G' H' ky x n => hx y cls dA G' H' μ ky x.g (back _ _ _ _ (F.up x)).1 n)
  have M1 := (back _ _ _ _ (F.up x1)).1
  intro Dd hD
  have M2 := M1.new (o := .lst []) (l := .d (.lst [])) qt hD (.inl trivial) (fun _ _ _ z => nomatch z) ⟨[], upd_same, .nil⟩
  have k1 := k1 Dd (fresh_mu M1 hD)
  refine ⟨fun i m H' => ∃ G' μ', m = ds.length - i ∧ i ≤ ds.length ∧ FrM X.K G0 H0 Γ σ G' H' μ' ∧ Same G1 G' ∧ lcN gp tt te Dd (wipeG Γ is) (ds.drop i) μ' (fun μ' => k (.cls Dd) μ'), ⟨ds.length, G1, _, by simp, Nat.zero_le _, M2, Same.refl _, k1⟩, ?_⟩
  rintro i m H2 ⟨G2, μ2, rfl, hi, M2, s2, k2⟩
  by_cases hlt : i < ds.length
  · refine .inr ⟨w.go i G2 H2 hlt s2 M2.sub, fun H' => ∃ G' μ', i + 1 ≤ ds.length ∧ FrM X.K G0 H0 Γ σ G' H' μ' ∧ Same G1 G' ∧ lcN gp tt te Dd (wipeG Γ is) (ds.drop (i + 1)) μ' (fun μ' => k (.cls Dd) μ'), fun H' ⟨G', μ', a1, a2, a3, a4⟩ => ⟨ds.length - (i + 1), by omega, G', μ', rfl, a1, a2, a3, a4⟩, fun v H3 y => ?_⟩
    obtain ⟨d, G3, hd, x3, n3⟩ := w.yl i G2 H2 v H3 hlt s2 M2.sub y
    have e : ds.drop i = d :: ds.drop (i + 1) := by
      rw [List.drop_eq_getElem_cons hlt]
      congr 1
      have := List.getElem?_eq_getElem hlt
      rw [hd] at this
      exact (Option.some.inj this).symm
    rw [e] at k2
    have M3 := M2.up x3
    have Mw := M3.wipe is
    obtain ⟨S, s, F3⟩ := Mw.ex
    refine hg G0 (ovr S H3 H0) _ _ G3 H3 d v _ _ F3 n3 k2 fun Γ4 σ4 k4 F4 hw => ⟨by rw [hw, wipe_sub σ is is (fun _ z => z)], ?_⟩
    have M4 : FrM X.K G0 H0 Γ4 σ4 G3 H3 μ2 := ⟨S, s, F4⟩
    obtain ⟨B4, F4', back4⟩ := M4.use
    refine hb G3 B4 Γ4 σ4 G3 H3 _ _ _ F4' k4 (fun b G5 H5 k5 x5 => ?_) (fun _ _ _ _ _ z => z.elim)
    have M5 := (back4 _ _ _ _ (F4'.up x5)).1
    cases b with
    | true =>
      rw [if_pos rfl]
      refine he G0 H0 Γ4 σ4 G5 H5 μ2 _ _ _ M5 k5 (fun yd yv G6 H6 μ6 k6 s6 M6 n6 => ?_) (fun _ _ _ _ _ _ z => z.elim)
      obtain ⟨q6, ys, hm, hl, k6⟩ := k6
      obtain ⟨⟨acc, h6, r6⟩, _⟩ := M6.at_ hm
      refine ⟨acc, h6, sz5' (by rw [r6.length]; exact hl), G6, _, hlt, ?_, ((s2.trans x3.g).trans x5.g).trans s6, k6⟩
      have M7 := M6.mut (o := .lst (acc ++ [yv])) q6 hm (.inl trivial) (l' := .d (.lst (ys ++ [yd]))) ⟨acc ++ [yv], upd_same, r6.append (.cons n6 .nil)⟩ (fun _ _ _ z => nomatch z)
      exact M7.replain M3 pl (x5.g.trans s6)
    | false =>
      rw [if_neg Bool.false_ne_true]
      exact ⟨G5, μ2, hlt, M5.replain M3 pl x5.g, (s2.trans x3.g).trans x5.g, k5⟩
  · have e : i = ds.length := by omega
    subst e
    refine .inl ⟨w.st G2 H2 s2 M2.sub, ?_⟩
    rw [List.drop_length] at k2
    exact hk (.cls Dd) _ G2 H2 μ2 k2 (x1.g.trans s2) M2 (.cls Dd)
theorem pm_lcN {elt tg iter : Expr} {ifs : List Expr} {scope : Scope} (own : List (PySem.Str × Nat)) {ti : TL} {gp : TGp} {is : List Nat} {te : TM} (hc : X.calm = true) (hN : X.N.Nodup) (hi : PIt X W tg iter ti) (ok : BlkOk X.N X.env.scope scope own)
    (hg : ∀ i : Bi, PGt (Cx.bl X scope i) tg is gp) (ht : ∀ i : Bi, PBs (Cx.bl X scope i) W0 ifs tt) (he : ∀ i : Bi, PM (Cx.bl X scope i) W0 elt te) (hv : is = own.map (·.2) := by rfl) (hs : ∀ x, foldedSetIterable iter X.env x = pure x := by intro _; rfl) :
    PM X W (.ListComp elt [⟨tg, iter, ifs, 0⟩] scope pos) (tmLcN is ti gp tt te) := by
  obtain ⟨wi, pi, ri⟩ := hi.ex
  obtain ⟨g, pg, rg⟩ := pg_unif (Xf := fun i : Bi => Cx.bl X scope i) (K := X.K) (fun _ => rfl) hg
  obtain ⟨eb, pb, rb⟩ := bs_unif (Xf := fun i : Bi => Cx.bl X scope i) (K := X.K) (fun _ => rfl) ht
  obtain ⟨ee, pe, re⟩ := pm_unif (Xf := fun i : Bi => Cx.bl X scope i) (K := X.K) (fun _ => rfl) he ⟨X.s_0, X.H_0, 0, [], []⟩
  exact ⟨_, pe_lc hc hN pi ok (fun s H C cl fp => pg (s, H, C, cl, fp)) (fun s H C cl fp => pb (s, H, C, cl, fp)) (fun s H C cl fp => pe (s, H, C, cl, fp)) hs, rdm_lc ri rg rb re hv⟩
end
end MU
set_option Elab.async false
set_option linter.all false
set_option maxRecDepth 100000
set_option maxHeartbeats 4000000
namespace MU
open PySem L2 PL PyProof.Rows
variable [Tabl]
def tsmFrz (i : Nat) (s : TSM) : TSM := fun P Γ μ => match gat Γ i with
  | .ow (.lst ds) => s P (gset Γ i (.pu (.lst ds))) μ
  | .ow (.dct ds) => s P (gset Γ i (.pu (.dct ds))) μ
  | .pu d => s P Γ μ
  | _ => False
def mapCl (l : List CL) : List CLM := l.map fun c => (c.1, c.2.1, fun a cls d => tsmOf (c.2.2 a cls d))
structure DfM (P : Program) (w : World) (K : PySem.W.Frag) (mg : PySem.Str → Option Value) (base : Heap) (x : PySem.Str) (k n : Nat) (fs : FSM) : Prop where
  ex : ∃ f fd ps, FnOk P w K mg base (L2.CX P w) k f fd ps (spM K n fs) ∧ mg x = some (.ref f) ∧ PySem.W.keepIn K (.ref f) = true ∧ Binds K fd ps [] ∧ ps.length = n
def tmCallM (n : Nat) (fs : FSM) (tl : TLM) : TM := fun Γ μ k kx => quiet Γ = true ∧ tl Γ μ (fun ds μ1 => ds.length = n ∧ fs ds μ1 k kx) kx
def RdIM (K : PySem.W.Frag) (W : WX) (wi : TI) (t : TLM) : Prop := ∀ (G0 H0 : Hp) (Γ : Ga) (σ : L2.St) (G H : Hp) (μ : Mu) (k : List D → Mu → Prop) (kx : KXM) (R : It → Hp → Prop), FrM K G0 H0 Γ σ G H μ → t Γ μ k kx →
  (∀ ds J G' H' μ', k ds μ' → Same G G' → FrM K G0 H0 Γ σ G' H' μ' → Wk K J ds (fun G2 _ => Same G' G2) → R J H') → XOkM K W G0 H0 Γ σ G kx → wi σ H R
structure PItM (X : Cx) (W : WX) (tg iter : Expr) (t : TLM) : Prop where
  ex : ∃ wi, PI X tg iter wi ∧ RdIM X.K W wi t
def timRng1 (tl : TLM) : TLM := fun Γ μ k kx => tl Γ μ (fun ds μ' => match ds with
  | [.int n] => (-(2 ^ 62) ≤ n ∧ n < 2 ^ 62) ∧ k ((List.range n.toNat).map fun i => .int (i : Nat)) μ'
  | _ => False) kx
def tsmForM (ti : TLM) (g : TGp) (b : TSM) : TSM := fun P Γ μ => ti Γ μ (fun ds μ' => forWM g b P ds Γ μ') (fun x μ => P.xx x Γ μ)
section
variable {X : Cx} {W : WX} {e a tg iter : Expr} {es : List Expr} {tlm : TLM} {ti : TL} {gp : TGp} {is : List Nat} {body : List Stmt} {sm : TSM} {st : Stmt} {pos p : Pos} {x : PySem.Str} {k n j : Nat} {fs : FSM}
theorem sm_frz (i : Nat) (h : PS1M X W st sm) : PS1M X W st (tsmFrz i sm) := by
  obtain ⟨ts, ps, rs⟩ := h.ex
  refine ⟨ts, ps, fun G0 H0 Γ σ G H μ P E M ht ok => ?_⟩
  unfold tsmFrz at ht
  cases e : gat Γ i with
  | ow d =>
    rw [e] at ht
    have hs := gat_get Γ i _ e (by simp)
    obtain ⟨B, F, back⟩ := M.use
    obtain ⟨p, e1, g, h0, r⟩ := F.at_ i _ hs
    cases d with
    | lst ds =>
      obtain ⟨xs, h1, h2⟩ := r
      have F1 := F.thaw hs e1 g h0 h1 trivial
      have F2 := fr_put F1 e1 (Den.lst upd_same (h2.up (same_upd g)))
      rw [gset2] at F2
      exact rs G0 H0 _ σ _ H μ P E (back _ _ _ _ F2).1 ht ok
    | dct ds =>
      obtain ⟨xs, h1, h2⟩ := r
      have F1 := F.thaw hs e1 g h0 h1 trivial
      have F2 := fr_put F1 e1 (Den.dct upd_same (h2.up (same_upd g)))
      rw [gset2] at F2
      exact rs G0 H0 _ σ _ H μ P E (back _ _ _ _ F2).1 ht ok
    | _ => exact ht.elim
  | pu d => rw [e] at ht; exact rs G0 H0 _ σ _ H μ P E M ht ok
  | _ => rw [e] at ht; exact ht.elim
theorem pm_callM (D : DfM X.prog X.w X.K X.mg X.base x k n fs) (hr : Room j X.A) (hj : k ≤ j) (tk : Takes X W) (ha : PLM X W (e :: es) tlm) (hg : Gl X x := by rfl) (hdb : (x == ("__debug__" : PySem.Str)) = false := by decide)
    (he : starEach (e :: es) X.env = (false, eval e X.env) :: starEach es X.env := by rfl) (hpl : (backTo pos (starEach es X.env)).any (·.1) = false := by rfl) : PM X W (.Call (.Name x p) (e :: es) [] pos) (tmCallM n fs tlm) := by
  obtain ⟨f, fd, ps, h1, h2, h3, h4, h5⟩ := D.ex
  obtain ⟨ea, pa, ra⟩ := ha.ex
  refine ⟨_, pe_callS h1 (hr.mono hj) hg h2 h3 h4 (fun σ => passAt tk σ) pa hdb he hpl, fun G0 H0 Γ σ G H μ k kx Q M ht hk hx => ?_⟩
  obtain ⟨qt, ht⟩ := ht
  refine ra G0 H0 Γ σ G H μ _ kx _ M ht (fun ds vs G1 H1 μ1 k1 s1 M1 n1 => ?_) hx
  exact sp_callG (quiet_p qt) M1 n1 k1.1 k1.2 (fun d v G' H' μ' kd s' M' n' => hk d v G' H' μ' kd (s1.trans s') M' n') (hx.up s1)
theorem im_rng1 (hm : X.mg "range" = none) (h : PLM X W [a] tlm) (hg : Gl X "range" := by rfl) (hs : starEach [a] X.env = [(false, eval a X.env)] := by rfl) : PItM X W tg (.Call (.Name "range" p) [a] [] pos) (timRng1 tlm) := by
  obtain ⟨ea, pa, ra⟩ := h.ex
  refine ⟨_, pi_range1 hg hm pa hs, fun G0 H0 Γ σ G H μ k kx R M ht hk hx => ?_⟩
  refine ra G0 H0 Γ σ G H μ _ kx _ M ht (fun ds vs G1 H1 μ1 k1 s1 M1 n1 => ?_) hx
  match ds, k1, n1 with
  | [.int n], k1, n1 =>
    refine ⟨n, den_ints n1, k1.1.1, k1.1.2, hk _ _ G1 H1 μ1 k1.2 s1 M1 ?_⟩
    have e : (fun i : Nat => D.int (i : Nat)) = fun i : Nat => D.int (0 + (i : Nat)) := by
      funext i
      rw [Int.zero_add]
    rw [e]
    exact wk_rng
theorem rdm_forM {wi : TI} {g : TG} {tb : TS} {ti : TLM} {bp : TSM} (hi : RdIM X.K W wi ti) (hg : RdG X.K is g gp) (hb : RdSM X.K W tb bp) : RdSM X.K W (tFor wi g tb) (tsmForM ti gp bp) := by
  intro G0 H0 Γ σ G H μ P E M ht ok
  refine hi G0 H0 Γ σ G H μ _ _ _ M ht (fun ds J G1 H1 μ1 k s1 M1 w => ?_) (ok.x Γ σ)
  refine ⟨fun i m σ' H' => ∃ Γ' G' μ', m = ds.length - i ∧ i ≤ ds.length ∧ FrM X.K G0 H0 Γ' σ' G' H' μ' ∧ Same G1 G' ∧ forWM gp bp P (ds.drop i) Γ' μ', ⟨ds.length, Γ, G1, μ1, by simp, Nat.zero_le _, M1, Same.refl _, k⟩, ?_⟩
  rintro i m σ2 H2 ⟨Γ2, G2, μ2, rfl, hi, M2, s2, k2⟩
  by_cases hlt : i < ds.length
  · refine .inr ⟨w.go i G2 H2 hlt s2 M2.sub, fun σ' H' => ∃ Γ' G' μ', FrM X.K G0 H0 Γ' σ' G' H' μ' ∧ Same G1 G' ∧ forWM gp bp P (ds.drop (i + 1)) Γ' μ', fun σ' H' ⟨Γ', G', μ', a, b, c⟩ => ⟨ds.length - (i + 1), by omega, Γ', G', μ', rfl, hlt, a, b, c⟩, fun v H3 y => ?_⟩
    obtain ⟨d, G3, hd, x3, n3⟩ := w.yl i G2 H2 v H3 hlt s2 M2.sub y
    have M3 := M2.up x3
    have e : ds.drop i = d :: ds.drop (i + 1) := by
      rw [List.drop_eq_getElem_cons hlt]
      congr 1
      have := List.getElem?_eq_getElem hlt
      rw [hd] at this
      exact (Option.some.inj this).symm
    rw [e] at k2
    obtain ⟨S, s, F3⟩ := M3.ex
    refine hg G0 (ovr S H3 H0) Γ2 σ2 G3 H3 d v _ _ F3 n3 k2 fun Γ4 σ4 k4 F4 _ => ?_
    have M4 : FrM X.K G0 H0 Γ4 σ4 G3 H3 μ2 := ⟨S, s, F4⟩
    refine hb G3 H0 Γ4 σ4 G3 H3 μ2 _ _ M4.rebase k4 ?_
    have okr := ok.rebase M3.e
    refine ⟨fun Γ5 σ5 G5 H5 μ5 n5 M5 => ?_, fun Γ5 σ5 G5 H5 μ5 n5 M5 => ?_, fun Γ5 σ5 G5 H5 μ5 n5 M5 => ?_, okr.rt, okr.xx⟩
    · exact ⟨Γ5, G5, μ5, M5.back M3.e, (s2.trans x3.g).trans M5.e.g, n5⟩
    · exact okr.nx Γ5 σ5 G5 H5 μ5 n5 M5
    · exact ⟨Γ5, G5, μ5, M5.back M3.e, (s2.trans x3.g).trans M5.e.g, n5⟩
  · have e : i = ds.length := by omega
    subst e
    refine .inl ⟨w.st G2 H2 s2 M2.sub, ?_⟩
    rw [List.drop_length] at k2
    exact ok.nx _ _ _ _ _ k2 M2
theorem sm_forM {ti : TLM} (hp : PassesOwn (model X.prog X.w) X.A X.env X.xe) (hc : X.calm = true) (hi : PItM X W tg iter ti) (hg : PGt X tg is gp) (hb : PSSM X W body sm) (hs : ∀ x, foldedSetIterable iter X.env x = pure x := by intro _; rfl) : PS1M X W (.For tg iter body [] pos) (tsmForM ti gp sm) := by
  obtain ⟨wi, pi, ri⟩ := hi.ex
  obtain ⟨g, pg, rg⟩ := hg.ex
  obtain ⟨tb, pb, rb⟩ := hb.ex
  exact ⟨_, ps_for hp hc pi pg pb (hs := hs), rdm_forM ri rg rb⟩
def tsmAsgG (t : TM) (g : TGp) : TSM := fun P Γ μ => t Γ μ (fun d μ' => g d Γ fun Γ' => P.nx Γ' μ') (fun x μ => P.xx x Γ μ)
theorem sm_asgG {t : TM} (h : PM X W e t) (hg : PGt X tg is gp) (hs : swapsWithSole [tg] e pos.line X.env = pure false := by rfl) (hw : swappedStores [tg] e X.env = pure none := by rfl)
    (h1 : (assignEach [tg] X.env).map (·.2) = [assign tg X.env] := by rfl) : PS1M X W (.Assign [tg] e pos) (tsmAsgG t gp) := by
  obtain ⟨te, pe, re⟩ := h.ex
  obtain ⟨g, pg, rg⟩ := hg.ex
  refine ⟨_, ps_asg pe pg hs hw h1, fun G0 H0 Γ σ G H μ P E M ht ok => ?_⟩
  refine re G0 H0 Γ σ G H μ _ _ _ M ht (fun d v G1 H1 μ1 k1 s1 M1 n1 => ?_) (ok.x Γ σ)
  obtain ⟨S, s, F⟩ := M1.ex
  exact rg G0 (ovr S H1 H0) Γ σ G1 H1 d v _ _ F n1 k1 fun Γ' σ' k' F' _ => ok.nx Γ' σ' G1 H1 μ1 k' ⟨S, s, F'⟩
end
def tsmFgt (is : List Nat) (s : TSM) : TSM := fun P Γ μ => s P (wipeG Γ is) μ
theorem fr_forget {K : PySem.W.Frag} {G0 H0 G H : Hp} {Γ : Ga} {σ : L2.St} (F : Fr K G0 H0 Γ σ G H) (i : Nat) : Fr K G0 H0 (gset Γ i .un) σ G H := by
  rw [gset_eq]
  have hne : ∀ (j : Nat) (s : Sl), (Γ.set i .un)[j]? = some s → s = .un ∨ Γ[j]? = some s := fun j s h => by
    by_cases hj : i = j
    · subst hj
      have hl : i < Γ.length := by
        have := (List.getElem?_eq_some_iff.mp h).1
        rw [List.length_set] at this
        exact this
      rw [List.getElem?_set_self hl] at h
      exact .inl (Option.some.inj h).symm
    · rw [List.getElem?_set_ne hj] at h
      exact .inr h
  refine ⟨by rw [List.length_set]; exact F.len, F.e, fun j s h => ?_, fun a b p s t h1 h2 h3 h4 h5 h6 => ?_⟩
  · rcases hne j s h with rfl | q
    · trivial
    · exact F.at_ j s q
  · rcases hne a s h1 with rfl | q1
    · exact h2.elim
    · rcases hne b t h3 with rfl | q3
      · exact h4.elim
      · exact F.dj a b p s t q1 h2 q3 h4 h5 h6
theorem fr_forgets {K : PySem.W.Frag} {G0 H0 G H : Hp} {Γ : Ga} {σ : L2.St} (F : Fr K G0 H0 Γ σ G H) : ∀ is : List Nat, Fr K G0 H0 (wipeG Γ is) σ G H
  | [] => F
  | i :: is => fr_forget (fr_forgets F is) i
theorem sm_fgt {X : Cx} {W : WX} {st : Stmt} {sm : TSM} (is : List Nat) (h : PS1M X W st sm) : PS1M X W st (tsmFgt is sm) := by
  obtain ⟨ts, ps, rs⟩ := h.ex
  refine ⟨ts, ps, fun G0 H0 Γ σ G H μ P E M ht ok => ?_⟩
  obtain ⟨S, s, F⟩ := M.ex
  exact rs G0 H0 _ σ G H μ P E ⟨S, s, fr_forgets F is⟩ ht ok
def pureF (fs : FSM) : FS := fun ds k kx => fs ds [] (fun d _ => k d) (fun x _ => kx x)
theorem spM_of {K : PySem.W.Frag} {n : Nat} {fs : FSM} {vs : List V} {H : Hp} {Q : VK} {E : XK} (h : spOf K n (pureF fs) vs H Q E) : spM K n fs vs H Q E := by
  obtain ⟨G, ds, k, kx, sb, r, hl, hf, hk, hx⟩ := h
  have eq : cutS (fun _ => False) H = H := by
    funext a
    exact cut_out fun z => z
  refine ⟨G, ds, [], _, _, fun _ => False, sb, r, hl, ⟨fun _ h => h.elim, fun _ h => (nomatch h), List.nodup_nil⟩, hf, fun d v G' H' μ' kd rt n => ?_, fun x cls dA G' H' μ' kd rt n => ?_⟩
  · have x := rt.x
    rw [eq] at x
    exact hk d v G' H' kd x n
  · have x' := rt.x
    rw [eq] at x'
    exact hx x cls dA G' H' kd x' n
section
variable {P : Program} {w : World} {K : PySem.W.Frag} {mg : PySem.Str → Option Value} {base : Heap}
theorem fn_okMC {x qual : PySem.Str} {st : Stmt} {f c : Addr} {N ps : List PySem.Str} {k n : Nat} {fs : FSM} {kV doc pm ct oc : Value} {an od : Option Addr} {osl : Array (Option Value)}
    (lk : K.lookup f = some ⟨oc, od, .func (PySem.W.fnOf x qual (defArgs st) (defBody st) (defScope st) .none kV doc pm an (.ref c) ct), osl⟩) (hcd : PySem.W.codeIn K (.ref c) qual = true) (S : FnScope N ps (defScope st)) (hn : ps.length = n)
    (body : ∀ (A : Around) (outer : List PySem.Env) (s : Shared) (H : Hp) (E : XK), Room k (A.deeper (PyProof.Rows.envOfC qual (defScope st) s.heap.objs.size f (.ref c))) →
      ∃ t, PSSM (cxOf (L2.CX P w) P w K mg base N qual (defScope st) f (.ref c) A outer s H E) (fun cls d _ H => E cls d H) (defBody st) t ∧ ∀ ds μ kd kx, ds.length = n → fs ds μ kd kx → t (fEndsM kd kx) (ga0 N.length ds) μ) :
    FnOk P w K mg base (L2.CX P w) (k + 1) f (PySem.W.fnOf x qual (defArgs st) (defBody st) (defScope st) .none kV doc pm an (.ref c) ct) ps (spM K n fs) := by
  refine fn_of lk hcd S (fun vs H Q E h => ?_) (fun A outer s H vs Q E hr h => ?_)
  · obtain ⟨G, ds, μ, kd, kx, S, _, b, c, _⟩ := h
    rw [b.length, c, hn]
  · obtain ⟨G, ds, μ, kd, kx, S, sb, r, hl, sto, hf, hk, hx⟩ := h
    obtain ⟨t, ⟨ts, ps, rd⟩, ht⟩ := body A outer s H E hr
    have eq : ovr S H (cutS S H) = H := by
      funext a
      by_cases z : S a
      · exact ovr_in z
      · rw [ovr_out z, cut_out z]
    have M0 : FrM K G (cutS S H) (ga0 N.length ds) (L2.start N vs) G H μ := ⟨S, sto, by rw [eq]; exact fr0 sb r⟩
    have fin : ∀ {Γ σ G' H' μ'}, FrM K G (cutS S H) Γ σ G' H' μ' → RetM K S G H G' H' μ' := fun {Γ σ G' H' μ'} M => by
      obtain ⟨S', s', F'⟩ := M.ex
      exact ⟨M.e, S', s'⟩
    refine ⟨ts, ps, rd G (cutS S H) (ga0 N.length ds) (L2.start N vs) G H μ (fEndsM kd kx) _ M0 (ht ds μ kd kx hl hf) ⟨?_, ?_, ?_, ?_, ?_⟩⟩
    · intro Γ σ G' H' μ' q M'
      exact hk .non .non G' H' μ' q (fin M') .non
    · intro Γ σ G' H' μ' q
      exact q.elim
    · intro Γ σ G' H' μ' q
      exact q.elim
    · intro d v Γ σ G' H' μ' q M' n
      exact hk d v G' H' μ' q (fin M') n
    · intro x cls dA Γ σ G' H' μ' q M' n
      exact hx x cls dA G' H' μ' q (fin M') n
theorem imp_spM {n : Nat} {fs fs' : FSM} {k : Nat} {f : Addr} {fd : FuncData} {ps : List PySem.Str} (F : FnOk P w K mg base (L2.CX P w) k f fd ps (spM K n fs)) (h : ∀ ds μ kd kx, fs' ds μ kd kx → fs ds μ kd kx) : FnOk P w K mg base (L2.CX P w) k f fd ps (spM K n fs') :=
  F.imp fun vs H Q E ⟨G, ds, μ, kd, kx, S, a, b, c, d, e, r⟩ => ⟨G, ds, μ, kd, kx, S, a, b, c, d, h ds μ kd kx e, r⟩
theorem dfM_mk {x qual : PySem.Str} {st : Stmt} {f : Addr} {fd : FuncData} {ps : List PySem.Str} {k n : Nat} {fs : FSM} (F : Fun K x qual st f fd) (hm : mg x = some (.ref f)) (hb : Binds K fd ps []) (hn : ps.length = n) (h : FnOk P w K mg base (L2.CX P w) k f fd ps (spM K n fs)) :
    DfM P w K mg base x k n fs := ⟨f, fd, ps, h, hm, F.kp, hb, hn⟩
end
end MU
set_option Elab.async false
set_option linter.all false
set_option maxRecDepth 100000
set_option maxHeartbeats 4000000
namespace PL
open PySem L2 MU
variable [Tabl]
noncomputable def mM_Store___init__ (C_Store : Addr) (fs_need_deeds fs_need_rows : FS) : FSM := fun ds μ k kx =>
  (tsmSeq (tsmOf (tsDrop (tpCall 1 fs_need_deeds (tlCons (tpVar 1) tlNil))))
    (tsmSeq (tsmOf (tsDrop (tpCall 2 fs_need_rows (tlCons (tpVar 2) (tlCons (tp1 fLenS (tpVar 1)) tlNil)))))
    (tsmSeq (tsmSetF [C_Store] 0 "own_deeds" (tmOf (tpVar 1)))
    (tsmSetF [C_Store] 0 "table" (tmLcN [3] (tiSq (tpVar 2)) (tgName 3) tbYes (tmList (tmOf (tpVar 3))))))))
  (fEndsM k kx) (ga0 4 ds) μ
noncomputable def mM_Store_change (C_Store : Addr) (fs_place_of fs_Store_need_stand fs_Store_need_deed : FS) : FSM := fun ds μ k kx =>
  (tsmSeq (tsmDrop (tmPur (tpMeth [(C_Store, fs_Store_need_stand)] "need_stand" 1 (tpVar 0) (tlCons (tpVar 1) tlNil))))
    (tsmSeq (tsmDrop (tmPur (tpMeth [(C_Store, fs_Store_need_deed)] "need_deed" 1 (tpVar 0) (tlCons (tpVar 2) tlNil))))
    (tsmSeq (tsmDrop (tmPur (tpMeth [(C_Store, fs_Store_need_stand)] "need_stand" 1 (tpVar 0) (tlCons (tpVar 3) tlNil))))
    (tsmSetIx (tmIx (tmFld [C_Store] "table" (tmOf (tpVar 0))) (tmOf (tpVar 1))) (tmCall 2 fs_place_of (tlmCons (tmFld [C_Store] "own_deeds" (tmOf (tpVar 0))) (tlmCons (tmOf (tpVar 2)) tlmNil))) (tmOf (tpVar 3))))))
  (fEndsM k kx) (ga0 4 ds) μ
noncomputable def mM_Store___setitem__ (C_Store : Addr) (fm_Store_change : FSM) : FSM := fun ds μ k kx =>
  (tsmSeq (tsmOf (tsAsgG (tpVar 1) (tgTup2 3 4)))
    (tsmDrop (tmMeth [(C_Store, fm_Store_change)] "change" 3 (tmOf (tpVar 0)) (tlmOf (tlCons (tpVar 3) (tlCons (tpVar 4) (tlCons (tpVar 2) tlNil)))))))
  (fEndsM k kx) (ga0 5 ds) μ
def m_Store_twin (C_Store : Addr) (fs_Store_rows : FS) (g_Store : FSo) : FS := fun ds k kx =>
  (tsRet (tpMake C_Store g_Store 2 (tlCons (tpFld [C_Store] "own_deeds" (tpVar 0)) (tlCons (tpMeth [(C_Store, fs_Store_rows)] "rows" 0 (tpVar 0) tlNil) tlNil))))
  (fEnds k kx) (ga0 1 ds)
noncomputable def mM_Store_twin (C_Store : Addr) (fs_Store_rows : FS) (fm_Store : FSM) : FSM := fun ds μ k kx =>
  (tsmRet (tmMake C_Store fm_Store 2 (tlmOf (tlCons (tpFld [C_Store] "own_deeds" (tpVar 0)) (tlCons (tpMeth [(C_Store, fs_Store_rows)] "rows" 0 (tpVar 0) tlNil) tlNil)))))
  (fEndsM k kx) (ga0 1 ds) μ
noncomputable def mM_law_rows (fs_law_pull : FS) : FSM := fun ds μ k kx =>
  (tsmSeq (tsmOf (tsOwn 3 (tpLst tlNil)))
    (tsmSeq (tsmOf (tsFor (tiRng1 (tlCons (tpVar 2) tlNil)) (tgName 4)
    (tsSeq (tsSet 5 (tpCall 2 fs_law_pull (tlCons (tpVar 0) (tlCons (tpC (.int 4)) tlNil))))
    (tsSeq (tsSet 6 (tpLc [7] (tiRng1 (tlCons (tpVar 1) tlNil)) (tgName 7) tbYes (tpCall 2 fs_law_pull (tlCons (tpVar 0) (tlCons (tpVar 1) tlNil)))))
    (tsSeq (tsIf (tbV (tpOp fEq (tpVar 5) (tpC (.int 0))))
    (tsSet 6 (tpOp fMul (tpLst (tlCons (tpOp fIx (tpVar 6) (tpC (.int 0))) tlNil)) (tpVar 1)))
    (tsIf (tbV (tpOp fEq (tpVar 5) (tpC (.int 1))))
    (tsSet 6 (tpLc [7] (tiRng1 (tlCons (tpVar 1) tlNil)) (tgName 7) tbYes (tpIf (tbV (tpOp (fInI false) (tpVar 7) (tpSl (tpVar 6) toNo (toSome (tpOp fAdd (tpC (.int 1)) (tpOp fFdiv (tpVar 1) (tpC (.int 2)))))))) (tpVar 7) (tpOp fIx (tpVar 6) (tpC (.int 0))))))
    (tsIf (tbV (tpOp fEq (tpVar 5) (tpC (.int 2))))
    (tsSet 6 (tpLc [7] (tiRng1 (tlCons (tpVar 1) tlNil)) (tgName 7) tbYes (tpIf (tbV (tpOp fEq (tpCall 2 fs_law_pull (tlCons (tpVar 0) (tlCons (tpC (.int 2)) tlNil))) (tpC (.int 0)))) (tpVar 7) (tpOp fIx (tpVar 6) (tpVar 7)))))
    tsNext)))
    (tsApp 3 (tpVar 6)))))))
    (tsmFgt [4, 5, 6, 7] (tsmFrz 3 (tsmRet (tmLcN [7] (tiRng1 (tlCons (tpVar 1) tlNil)) (tgName 7) tbYes (tmOf (tp1 fTup (tpLc [6] (tiLst (tpVar 3)) (tgName 6) tbYes (tpOp fIx (tpVar 6) (tpVar 7)))))))))))
  (fEndsM k kx) (ga0 8 ds) μ
noncomputable def mM_law_ask (K : PySem.W.Frag) (C_LogError C_Missing C_InvalidDeed C_InvalidDeeds C_InvalidLog C_InvalidStep C_InvalidStore C_InvalidStand C_InvalidNumber C_InvalidCount C_TooMany C_NothingLeft : Addr) (act : TM) : TSM :=
  (tsmTry (tsmRet (tmTup (tlmCons (tmOf (tpC (.str []))) (tlmCons act tlmNil))))
    (mapCl [(fun cls => PySem.W.exmAny K cls [.ref C_InvalidDeed, .ref C_InvalidDeeds, .ref C_InvalidLog, .ref C_InvalidStand, .ref C_InvalidNumber, .ref C_InvalidCount], some 1, fun a cls d => (tsRet (tpTup (tlCons (tpXat K a cls d 1 "tag") (tlCons (tpXat K a cls d 1 "given") tlNil))))),
    (fun cls => PySem.W.exmOne K cls (.ref C_InvalidStep), some 1, fun a cls d => (tsRet (tpTup (tlCons (tpXat K a cls d 1 "tag") (tlCons (tpXat K a cls d 1 "step") tlNil))))),
    (fun cls => PySem.W.exmOne K cls (.ref C_InvalidStore), some 1, fun a cls d => (tsRet (tpTup (tlCons (tpXat K a cls d 1 "tag") (tlCons (tpXat K a cls d 1 "index") tlNil))))),
    (fun cls => PySem.W.exmOne K cls (.ref C_TooMany), some 1, fun a cls d => (tsRet (tpTup (tlCons (tpXat K a cls d 1 "tag") (tlCons (tpXat K a cls d 1 "most") tlNil))))),
    (fun cls => PySem.W.exmAny K cls [.ref C_LogError, .ref C_Missing, .ref C_NothingLeft], some 1, fun a cls d => (tsRet (tpTup (tlCons (tpXat K a cls d 1 "tag") (tlCons (tpC .non) tlNil)))))]))
noncomputable def mM_law (K : PySem.W.Frag) (C_LogError C_Missing C_InvalidDeed C_InvalidDeeds C_InvalidLog C_InvalidStep C_InvalidStore C_InvalidStand C_InvalidNumber C_InvalidCount C_TooMany C_NothingLeft C_Store : Addr) (fs_law_start fs_law_alphabet fs_law_pull fs_law_drawn fs_law_same fs_law_led fs_Store_rows fs_Store___call__ fs_Store___eq__ fs_Store_twin : FS) (fm_Store fm_Store_twin fm_Store___setitem__ fm_Store_change : FSM) (fm_law_rows : FSM) : FSM := fun ds μ k kx =>
  (tsmSeq (tsmOf (tsSet 1 (tpCall 1 fs_law_start (tlCons (tpVar 0) tlNil))))
    (tsmSeq (tsmOf (tsAsgG (tpTup (tlCons (tpCall 2 fs_law_alphabet (tlCons (tpVar 1) (tlCons (tpC (.int 8)) tlNil))) (tlCons (tpOp fAdd (tpC (.int 1)) (tpCall 2 fs_law_pull (tlCons (tpVar 1) (tlCons (tpC (.int 9)) tlNil)))) tlNil))) (tgTup2 2 3)))
    (tsmSeq (tsmSet 4 (tmNewL (tlmCons (tmCallM 3 fm_law_rows (tlmOf (tlCons (tpVar 1) (tlCons (tpVar 3) (tlCons (tp1 fLenS (tpVar 2)) tlNil))))) tlmNil)))
    (tsmSeq (tsmPar [5, 6] (tlmCons (tmNewL (tlmCons (tmSub (tmMake C_Store fm_Store 2 (tlmOf (tlCons (tpVar 2) (tlCons (tpOp fIx (tpVar 4) (tpC (.int 0))) tlNil))))) tlmNil)) (tlmCons (tmOf (tpCall 2 fs_law_pull (tlCons (tpVar 1) (tlCons (tpC (.int 10)) tlNil)))) tlmNil)))
    (tsmSeq (tsmFor (tiRng1 (tlCons (tpC (.int 20)) tlNil)) (tgName 7)
    (tsmSeq (tsmFgt [8, 9, 10, 11, 12, 13, 14, 15, 16, 17] (tsmIf (tbmOf (tbV (tpOp fEq (tpVar 7) (tpVar 6))))
    (tsmSeq (tsmApp (tmOf (tpVar 5)) (tmSub (tmMethP0 [(C_Store, fm_Store_twin)] "twin" (tmOf (tpOp fIx (tpVar 5) (tpC (.int 0)))))))
    (tsmApp (tmOf (tpVar 4)) (tmList (tmIx (tmOf (tpVar 4)) (tmOf (tpC (.int 0)))))))
    tsmNext))
    (tsmSeq (tsmSet 8 (tmCall 2 fs_law_pull (tlmCons (tmOf (tpVar 1)) (tlmCons (tmLen (tmOf (tpVar 5))) tlmNil))))
    (tsmSeq (tsmOf (tsAsgG (tpTup (tlCons (tpCall 2 fs_law_pull (tlCons (tpVar 1) (tlCons (tpOp fAdd (tpVar 3) (tpC (.int 1))) tlNil))) (tlCons (tpCall 2 fs_law_pull (tlCons (tpVar 1) (tlCons (tpOp fAdd (tpVar 3) (tpC (.int 1))) tlNil))) (tlCons (tpCall 2 fs_law_pull (tlCons (tpVar 1) (tlCons (tp1 fLenS (tpVar 2)) tlNil))) tlNil)))) (tgTup3 9 10 11)))
    (tsmSeq (tsmAsgG (tmTup (tlmCons (tmIx (tmOf (tpVar 5)) (tmOf (tpVar 8))) (tlmCons (tmOf (tpAnd (tpOp fLt (tpVar 9) (tpVar 3)) (tpOp fLt (tpVar 10) (tpVar 3)))) tlmNil))) (tgTup2 12 13))
    (tsmSeq (tsmIf (tbmOf (tbAnd (tbV (tpVar 13)) (tbV (tpOp fEq (tpCall 2 fs_law_pull (tlCons (tpVar 1) (tlCons (tpC (.int 2)) tlNil))) (tpC (.int 0))))))
    (tsmSetO [(C_Store, fm_Store___setitem__)] (tmOf (tpVar 12)) (tmOf (tpTup (tlCons (tpVar 9) (tlCons (tpOp fIx (tpVar 2) (tpVar 11)) tlNil)))) (tmOf (tpVar 10)))
    (tsmSeq (tsmSet 14 (tmLam 2 (mM_law_ask K C_LogError C_Missing C_InvalidDeed C_InvalidDeeds C_InvalidLog C_InvalidStep C_InvalidStore C_InvalidStand C_InvalidNumber C_InvalidCount C_TooMany C_NothingLeft) (tmMeth [(C_Store, fm_Store_change)] "change" 3 (tmOf (tpVar 12)) (tlmOf (tlCons (tpVar 9) (tlCons (tpOp fIx (tpVar 2) (tpVar 11)) (tlCons (tpVar 10) tlNil)))))))
    (tsmOf (tsIf (tbV (tpOp fNe (tpVar 14) (tpIf (tbV (tpVar 13)) (tpTup (tlCons (tpC (.str [])) (tlCons (tpC .non) tlNil))) (tpTup (tlCons (tpC (.str [73, 110, 118, 97, 108, 105, 100, 83, 116, 97, 110, 100])) (tlCons (tpVar 3) tlNil))))))
    (tsRet (tpC (.bl false)))
    tsNext))))
    (tsmSeq (tsmFgt [14] (tsmIf (tbmOf (tbV (tpVar 13)))
    (tsmSeq (tsmSet 15 (tmIx (tmIx (tmOf (tpVar 4)) (tmOf (tpVar 8))) (tmOf (tpVar 9))))
    (tsmSetIx (tmIx (tmOf (tpVar 4)) (tmOf (tpVar 8))) (tmOf (tpVar 9)) (tmOf (tpOp fAddT (tpOp fAddT (tpSl (tpVar 15) toNo (toSome (tpVar 11))) (tpTup (tlCons (tpVar 10) tlNil))) (tpSl (tpVar 15) (toSome (tpOp fAdd (tpVar 11) (tpC (.int 1)))) toNo)))))
    tsmNext))
    (tsmSeq (tsmOf (tsSet 16 (tpCall 3 fs_law_drawn (tlCons (tpVar 1) (tlCons (tpVar 2) (tlCons (tpC (.int 12)) tlNil))))))
    (tsmSeq (tsmFgt [15] (tsmForM (timRng1 (tlmCons (tmLen (tmOf (tpVar 5))) tlmNil)) (tgName 17)
    (tsmIf (tbmPur (tbNot (tbV (tpCall 2 fs_law_same (tlCons (tpLst (tlCons (tpMeth [(C_Store, fs_Store_rows)] "rows" 0 (tpOp fIx (tpVar 5) (tpVar 17)) tlNil) (tlCons (tpCallI [(C_Store, fs_Store___call__)] 2 (tpOp fIx (tpVar 5) (tpVar 17)) (tlCons (tpC (.int 0)) (tlCons (tpVar 16) tlNil))) tlNil))) (tlCons (tpLst (tlCons (tpOp fIx (tpVar 4) (tpVar 17)) (tlCons (tpCall 4 fs_law_led (tlCons (tpOp fIx (tpVar 4) (tpVar 17)) (tlCons (tpVar 2) (tlCons (tpC (.int 0)) (tlCons (tpVar 16) tlNil))))) tlNil))) tlNil))))))
    (tsmOf (tsRet (tpC (.bl false))))
    tsmNext)))
    (tsmFgt [17] (tsmIf (tbmPur (tbV (tpOp fNe (tpOp (fEqI [(C_Store, fs_Store___eq__)]) (tpOp fIx (tpVar 5) (tpC (.int 0))) (tpOp fIx (tpVar 5) (tpNeg (tpC (.int 1))))) (tpOp fEq (tpOp fIx (tpVar 4) (tpC (.int 0))) (tpOp fIx (tpVar 4) (tpNeg (tpC (.int 1))))))))
    (tsmOf (tsRet (tpC (.bl false))))
    tsmNext)))))))))))
    (tsmFgt [7, 8, 9, 10, 11, 12, 13, 14, 15, 16, 17] (tsmRet (tmPur (tpOp (fEqI [(C_Store, fs_Store___eq__)]) (tpMeth [(C_Store, fs_Store_twin)] "twin" 0 (tpOp fIx (tpVar 5) (tpC (.int 0))) tlNil) (tpOp fIx (tpVar 5) (tpC (.int 0))))))))))))
  (fEndsM k kx) (ga0 18 ds) μ
noncomputable def m_law (K : PySem.W.Frag) (C_LogError C_Missing C_InvalidDeed C_InvalidDeeds C_InvalidLog C_InvalidStep C_InvalidStore C_InvalidStand C_InvalidNumber C_InvalidCount C_TooMany C_NothingLeft C_Store : Addr) (fs_law_start fs_law_alphabet fs_law_pull fs_law_drawn fs_law_same fs_law_led fs_Store_rows fs_Store___call__ fs_Store___eq__ fs_Store_twin : FS) (fm_Store fm_Store_twin fm_Store___setitem__ fm_Store_change : FSM) (fm_law_rows : FSM) : FS := pureF (mM_law K C_LogError C_Missing C_InvalidDeed C_InvalidDeeds C_InvalidLog C_InvalidStep C_InvalidStore C_InvalidStand C_InvalidNumber C_InvalidCount C_TooMany C_NothingLeft C_Store fs_law_start fs_law_alphabet fs_law_pull fs_law_drawn fs_law_same fs_law_led fs_Store_rows fs_Store___call__ fs_Store___eq__ fs_Store_twin fm_Store fm_Store_twin fm_Store___setitem__ fm_Store_change fm_law_rows)
end PL
set_option Elab.async false
set_option linter.all false
set_option maxRecDepth 100000
set_option maxHeartbeats 4000000
namespace PL
open PySem L2 PyProof.Rows
variable [Tabl]
section
variable {X : Cx} {W : WX} {e : Expr} {t : TP} {tl : TL} {pos : Pos}
def tiEnumL (t : TP) : TL := fun Γ k kx => t Γ (fun d => match d with | .lst s => k (pairsD 0 s) | _ => False) kx
theorem i_enumL {p pos tpos : Pos} {elts : List Expr} {kk : Nat} (hm : X.mg "enumerate" = none) (h : PP X W e t) (hg : Gl X "enumerate" := by rfl) (hs : starEach [e] X.env = [(false, eval e X.env)] := by rfl) :
    PIt X W (.Tuple elts kk tpos) (.Call (.Name "enumerate" p) [e] [] pos) (tiEnumL t) := by
  obtain ⟨ea, pa, ra⟩ := h.ex
  refine ⟨_, pi_enum hg hm (pa_cons pa pa_nil hs) hs, fun G0 H0 Γ σ G H k kx R F ht hk hx => ?_⟩
  refine ra G0 H0 Γ σ G H _ kx _ F ht (fun d v G1 H1 k1 x1 n1 => ?_) hx
  cases d with
  | lst ds =>
    cases n1 with
    | @lst a vs _ h1 h2 =>
      refine ⟨a, vs, rfl, SqL.of (x1.sub.at_ h1 (fun z => z)), hk _ _ _ _ k1 x1 ⟨fun i G2 H2 hi s2 sb => ?_, fun i G2 H2 v H3 hi s2 sb y => ?_, fun G2 H2 s2 sb => ?_⟩⟩
      · rw [pairsD_length] at hi
        have q := sb.at_ (s2 _ _ h1) (fun z => z)
        obtain ⟨v, hv, _⟩ := h2.get (List.getElem?_eq_getElem hi)
        exact ⟨vs, v, SqL.of q, hv⟩
      · obtain ⟨T, x, rfl, hT, rfl, hx⟩ := y
        have q := sb.at_ (s2 _ _ h1) (fun z => z)
        obtain ⟨d, hd, n⟩ := h2.gv (hx vs (SqL.of q))
        have := pairsD_get ds 0 i d hd
        rw [Nat.zero_add] at this
        have ex := Ext.new (o := .tup [.int (i : Nat), x]) sb hT
        exact ⟨_, _, this, ex, .tup (SqT.of upd_same) (.cons (.int _) (.cons ((n.up s2).up ex.g) .nil))⟩
      · have q := sb.at_ (s2 _ _ h1) (fun z => z)
        refine ⟨vs, SqL.of q, ?_⟩
        rw [pairsD_length, h2.length]
        exact Nat.le_refl _
  | _ => exact k1.elim
end
end PL
set_option Elab.async false
set_option linter.all false
set_option maxRecDepth 100000
set_option maxHeartbeats 4000000
namespace PL
open PySem L2
variable [Tabl]
def tiEnumV (i : Nat) : TL := fun Γ k _ => match gat Γ i with
  | .pu (.lst s) => k (pairsD 0 s)
  | .pu (.tup s) => k (pairsD 0 s)
  | _ => False
section
variable {X : Cx} {W : WX} {e : Expr}
theorem i_enumV {p pos tpos : Pos} {elts : List Expr} {kk : Nat} (i : Nat) (hm : X.mg "enumerate" = none) (h : PP X W e (tpVar i)) (hg : Gl X "enumerate" := by rfl) (hs : starEach [e] X.env = [(false, eval e X.env)] := by rfl) :
    PIt X W (.Tuple elts kk tpos) (.Call (.Name "enumerate" p) [e] [] pos) (tiEnumV i) := by
  obtain ⟨w1, p1, r1⟩ := (i_enumL (elts := elts) (kk := kk) (tpos := tpos) (p := p) (pos := pos) hm h hg hs).ex
  obtain ⟨w2, p2, r2⟩ := (i_enumT (elts := elts) (kk := kk) (tpos := tpos) (p := p) (pos := pos) hm h hg hs).ex
  refine ⟨fun σ H R => w1 σ H R ∨ w2 σ H R, ⟨fun pins s σ H R I q => q.elim (p1.run pins s σ H R I) (p2.run pins s σ H R I)⟩, fun G0 H0 Γ σ G H k kx R F ht hk hx => ?_⟩
  unfold tiEnumV at ht
  split at ht
  · rename_i s e
    refine .inl (r1 G0 H0 Γ σ G H k kx R F ?_ hk hx)
    show (match gat Γ i with | .pu d => _ | _ => False)
    rw [e]
    exact ht
  · rename_i s e
    refine .inr (r2 G0 H0 Γ σ G H k kx R F ?_ hk hx)
    show (match gat Γ i with | .pu d => _ | _ => False)
    rw [e]
    exact ht
  · exact ht.elim
end
end PL
set_option Elab.async false
set_option linter.all false
set_option maxRecDepth 100000
set_option maxHeartbeats 4000000
namespace PL
open PySem L2 PyProof.Rows
end PL
set_option Elab.async false
set_option linter.all false
set_option maxRecDepth 100000
set_option maxHeartbeats 4000000
namespace PL
open PySem L2
variable [Tabl]
def spQ (K : PySem.W.Frag) (n j : Nat) (fs : FSo) : Sp := fun vs H Q E => ∃ G ds k kx p, vs.length = n ∧ ds.length = n ∧ Sub G H ∧ G p = none ∧ vs[j]? = some (.ref p) ∧ (∃ d, ds[j]? = some d ∧ OwnAt K (hole H p) G H p d) ∧
  (∀ (i : Nat) v d, i ≠ j → vs[i]? = some v → ds[i]? = some d → Den K G v d) ∧ fs ds k kx ∧
  (∀ d e v G' H', k d e → Ext G (hole H p) G' H' → G' p = none → OwnAt K (hole H p) G' H' p e → Den K G' v d → Q v H') ∧
  (∀ x e cls dA G' H', kx x → Ext G (hole H p) G' H' → G' p = none → OwnAt K (hole H p) G' H' p e → XDen K G' H' cls dA x → E cls dA H')
section
variable {P : Program} {w : World} {K : PySem.W.Frag} {mg : PySem.Str → Option Value} {base : Heap}
/-- the global name x holds a def that keeps fs and changes its j-th argument -/
structure DfO (P : Program) (w : World) (K : PySem.W.Frag) (mg : PySem.Str → Option Value) (base : Heap) (x : PySem.Str) (k n j : Nat) (fs : FSo) : Prop where
  ex : ∃ f fd ps, FnOk P w K mg base (L2.CX P w) k f fd ps (spQ K n j fs) ∧ mg x = some (.ref f) ∧ PySem.W.keepIn K (.ref f) = true ∧ Binds K fd ps [] ∧ ps.length = n
theorem spQ_imp {n j : Nat} {fs fs' : FSo} (h : ∀ ds kd kx, ds.length = n → fs' ds kd kx → fs ds kd kx) {vs : List V} {H : Hp} {Q : VK} {E : XK} (z : spQ K n j fs' vs H Q E) : spQ K n j fs vs H Q E := by
  obtain ⟨G, ds, k, kx, p, a1, a2, a3, a4, a5, a6, a7, a8, a9⟩ := z
  exact ⟨G, ds, k, kx, p, a1, a2, a3, a4, a5, a6, a7, h _ _ _ a2 a8, a9⟩
theorem DfO.imp {x : PySem.Str} {k n j : Nat} {fs fs' : FSo} (F : DfO P w K mg base x k n j fs) (h : ∀ ds kd kx, ds.length = n → fs' ds kd kx → fs ds kd kx) : DfO P w K mg base x k n j fs' := by
  obtain ⟨f, fd, ps, a, b⟩ := F.ex
  exact ⟨f, fd, ps, a.imp fun vs H Q E z => spQ_imp h z, b⟩
theorem DfO.mono {x : PySem.Str} {k k' n j : Nat} {fs : FSo} (F : DfO P w K mg base x k n j fs) (h : k ≤ k') : DfO P w K mg base x k' n j fs := by
  obtain ⟨f, fd, ps, a, b⟩ := F.ex
  exact ⟨f, fd, ps, a.mono h, b⟩
end
structure Eff (K : PySem.W.Frag) (G H : Hp) (p : Addr) (c : D) (G' H' : Hp) : Prop where
  x : Ext G (hole H p) G' H'
  g : G' p = none
  o : OwnAt K (hole H p) G' H' p c
def boxD : D → Prop
  | .lst _ => True
  | .dct _ => True
  | _ => False
section
variable {K : PySem.W.Frag} {G0 H0 H00 G H G1 H1 G2 H2 G' H' : Hp} {Γ : Ga} {σ : L2.St} {p q : Addr} {c c1 c2 d : D} {u : HO} {i : Nat}
theorem OwnAt.box (h : OwnAt K H0 G H p d) (b : boxD d) : OwnAt K H00 G H p d := by
  cases d with
  | lst ds => exact h
  | dct ds => exact h
  | _ => exact b.elim
theorem OwnAt.low (h : OwnAt K H0 G H p d) (m : ∀ a, H0 a = none → H00 a = none) : OwnAt K H00 G H p d := by
  cases d with
  | lst ds => exact h
  | dct ds => exact h
  | ins C fs =>
    obtain ⟨dx, fvs, h1, h2, h3, h4, h5⟩ := h
    exact ⟨dx, fvs, h1, h2, h3, m _ h4, h5⟩
  | _ => exact h.elim
theorem Eff.trans (a : Eff K G H p c1 G1 H1) (b : Eff K G1 H1 p c2 G2 H2) : Eff K G H p c2 G2 H2 := by
  have up : ∀ {x : Addr} {o : HO}, hole H p x = some o → x ≠ p := fun {x o} e z => by
    rw [z, hole_at] at e
    cases e
  refine ⟨⟨⟨fun x o e n => ?_, fun x o e => ?_, fun _ => b.x.sub.tb⟩, a.x.g.trans b.x.g, fun x h ⟨o, e⟩ => ?_, b.x.sub⟩, b.g, b.o.low fun x e => ?_⟩
  · exact b.x.h.k _ _ (by rw [hole_ne (up e)]; exact a.x.h.k _ _ e n) n
  · obtain ⟨o1, e1⟩ := a.x.h.t _ _ e
    exact b.x.h.t x o1 (by rw [hole_ne (up e)]; exact e1)
  · obtain ⟨o1, e1⟩ := a.x.h.t _ _ e
    exact b.x.nw x (a.x.nw x h ⟨o, e⟩) ⟨o1, by rw [hole_ne (up e)]; exact e1⟩
  · cases z : hole H p x with
    | none => rfl
    | some o =>
      obtain ⟨o1, e1⟩ := a.x.h.t _ _ z
      rw [hole_ne (up z), e1] at e
      cases e
theorem Eff.of (r : OwnAt K H0 G H p c) (b : boxD c) (g : G p = none) (x : Ext G H G' H') : Eff K G H p c G' H' :=
  ⟨⟨(Up.of hole_same).trans x.h, x.g, fun a h ⟨o, e⟩ => x.nw a h ⟨o, hole_same _ _ e⟩, x.sub⟩, x.nw p g r.there, (r.up x).box b⟩
end
abbrev TX := Ga → (D → D → Prop) → KX → Prop
end PL
set_option Elab.async false
set_option linter.all false
set_option maxRecDepth 100000
set_option maxHeartbeats 4000000
namespace PL
open PySem L2
end PL
set_option Elab.async false
set_option linter.all false
set_option maxRecDepth 100000
set_option maxHeartbeats 4000000
namespace PL
open PySem L2 PyProof.Rows
variable [Tabl]
section
variable {K : PySem.W.Frag} {G0 H0 G H G1 H1 G' H' : Hp} {Γ Γ0 : Ga} {σ σ0 : L2.St} {d : Addr} {o : Obj} {kvs : List (Key × V)} {u v0 : HO}
theorem tabs_frz (t : LamX.Tabs Tabl.T H) (h : H d = some (.dK kvs) ∨ H d = some (.frz o (.dK kvs))) (u : HO) : LamX.Tabs Tabl.T (upd H d u) := by
  intro q hq
  obtain ⟨ps, h1, h2, h3⟩ := t q hq
  have ne : ∀ {a : Addr} {v : HO}, H a = some v → v ≠ .dK kvs → v ≠ .frz o (.dK kvs) → a ≠ d := fun {a v} e n1 n2 z => by
    rw [z] at e
    rcases h with h | h
    · rw [h] at e
      cases e
      exact n1 rfl
    · rw [h] at e
      cases e
      exact n2 rfl
  refine ⟨ps, by rw [upd_ne (ne h1 (by intro z; cases z) (by intro z; cases z))]; exact h1, h2, fun pos cv hc => ?_⟩
  obtain ⟨c, e1, e2⟩ := h3 pos cv hc
  exact ⟨c, e1, by rw [upd_ne (ne e2 (by intro z; cases z) (by intro z; cases z))]; exact e2⟩
theorem Sub.frz (s : Sub G H) (gd : G d = some (.dK kvs)) (hd : H d = some (.dK kvs)) : Sub G (upd H d (.frz o (.dK kvs))) := by
  refine ⟨fun a v q => ?_, s.nt, tabs_frz s.tb (o := o) (.inl hd) _⟩
  by_cases z : a = d
  · subst z
    rw [gd] at q
    cases q
    exact .inr ⟨trivial, o, upd_same⟩
  · rw [upd_ne z]
    exact s.m a v q
end
end PL
set_option Elab.async false
set_option linter.all false
set_option maxRecDepth 100000
set_option maxHeartbeats 4000000
namespace PL
open PySem L2 PyProof.Rows
end PL
set_option Elab.async false
set_option linter.all false
set_option maxRecDepth 100000
set_option maxHeartbeats 4000000
namespace PL
open PySem PySem.Froz L2 PyProof.Rows
end PL
set_option Elab.async false
set_option linter.all false
set_option maxRecDepth 100000
set_option maxHeartbeats 4000000
namespace PL
open PySem L2 PyProof.Rows
end PL
set_option Elab.async false
set_option linter.all false
set_option maxRecDepth 100000
set_option maxHeartbeats 4000000
namespace PL
open PySem L2
variable [Tabl]
theorem OwnAt.h0 {K : PySem.W.Frag} {H0 H1 G H : Hp} {p : Addr} {l : List D} (h : OwnAt K H0 G H p (.lst l)) : OwnAt K H1 G H p (.lst l) := h
end PL
set_option Elab.async false
set_option linter.all false
set_option maxRecDepth 100000
set_option maxHeartbeats 4000000
namespace PL
open PySem L2 PyProof.Rows
end PL
set_option Elab.async false
set_option linter.all false
set_option maxRecDepth 100000
set_option maxHeartbeats 4000000
namespace PL
open PySem L2 PyProof.Rows
end PL
set_option Elab.async false
set_option linter.all false
set_option maxRecDepth 100000
set_option maxHeartbeats 4000000
namespace PL
open PySem L2 PyProof.Rows
end PL
set_option Elab.async false
set_option linter.all false
set_option maxRecDepth 100000
set_option maxHeartbeats 4000000
namespace PL
open PySem L2 PyProof.Rows
end PL
set_option Elab.async false
set_option linter.all false
set_option maxRecDepth 100000
set_option maxHeartbeats 4000000
namespace PL
open PySem L2 PyProof.Rows
end PL
set_option Elab.async false
set_option linter.all false
set_option maxRecDepth 100000
set_option maxHeartbeats 4000000
namespace PL
open PySem L2 PyProof.Rows
end PL
set_option Elab.async false
set_option linter.all false
set_option maxRecDepth 100000
set_option maxHeartbeats 4000000
namespace PL
open PySem L2 PyProof.Rows
end PL
set_option Elab.async false
set_option linter.all false
set_option maxRecDepth 100000
set_option maxHeartbeats 4000000
namespace PL
open PySem L2 PyProof.Rows
end PL
set_option Elab.async false
set_option linter.all false
set_option maxRecDepth 100000
set_option maxHeartbeats 4000000
namespace PL
def frontAt (s : List Nat) : Nat := frontGo [] 0 s
def rearAt (s : List Nat) : Nat := s.length - 1 - frontAt s.reverse
theorem front_is {s : List Nat} (h : s ≠ []) : IsFront s (frontAt s) := frontGo_ok s [] 0 (fun z => absurd rfl z) h
theorem rear_is {s : List Nat} (h : s ≠ []) : IsRear s (rearAt s) := (front_rev (front_is (by simpa using h))).2
def laidGo (l r : List Nat) : Nat → List Nat
  | 0 => l ++ r
  | n + 1 => if (r.take (n + 1)).isSuffixOf l = true then l ++ r.drop (n + 1) else laidGo l r n
def laid (l r : List Nat) : List Nat := laidGo l r (min l.length r.length)
def sb (s : List Nat) : List Nat :=
  if h : s = [] then [] else laid (sb (s.take (frontAt s)) ++ [s.getD (frontAt s) 0]) (s.getD (rearAt s) 0 :: sb (s.drop (rearAt s + 1)))
termination_by s.length
decreasing_by
  · have := (front_is h).lt
    rw [List.length_take]
    omega
  · have := (rear_is h).lt
    rw [List.length_drop]
    omega
/-- the parts of a log -/
structure Parts (s : List Nat) (i j a b : Nat) (p q : List Nat) : Prop where
  f : IsFront s i
  r : IsRear s j
  ea : s[i]? = some a
  eb : s[j]? = some b
  ep : p = s.take i
  eq : q = s.drop (j + 1)
  na : a ∉ p
  nb : b ∉ q
  cp : ∀ d ∈ s, d ∈ p ∨ d = a
  cq : ∀ d ∈ s, d = b ∨ d ∈ q
  sbe : sb s = laid (sb p ++ [a]) (b :: sb q)
end PL
set_option Elab.async false
set_option linter.all false
set_option maxRecDepth 100000
set_option maxHeartbeats 4000000
namespace PL
open PySem L2
def m_is_log_of : FS := fun ds k kx =>
  (tsRet (tpAnd (tp1 (fIsi "str") (tpVar 0)) (tp1 fAll (tpLc [2] (tiStr (tpVar 0)) (tgName 2) tbYes (tpOp fInS (tpVar 2) (tpVar 1))))))
  (fEnds k kx) (ga0 3 ds)
def m_is_ascending : FS := fun ds k kx =>
  (tsRet (tp1 fAll (tpLc [1] (tiRng2 (tlCons (tpC (.int 1)) (tlCons (tp1 fLenS (tpVar 0)) tlNil))) (tgName 1) tbYes (tpOp fLt (tpOp fIx (tpVar 0) (tpOp fSub (tpVar 1) (tpC (.int 1)))) (tpOp fIx (tpVar 0) (tpVar 1))))))
  (fEnds k kx) (ga0 2 ds)
def m_is_deeds (fs_is_log fs_is_ascending : FS) : FS := fun ds k kx =>
  (tsRet (tpAnd (tpCall 1 fs_is_log (tlCons (tpVar 0) tlNil)) (tpAnd (tpChain fLe fLe (tpC (.int 1)) (tp1 fLenS (tpVar 0)) (tpC (.int 8))) (tpCall 1 fs_is_ascending (tlCons (tpVar 0) tlNil)))))
  (fEnds k kx) (ga0 1 ds)
section
variable {ds : List D} {kd : KD} {kx : KX} {C : Addr}
local instance : Tabl := ⟨[], fun p hp => absurd hp (by simp)⟩
end
end PL
set_option Elab.async false
set_option linter.all false
set_option maxRecDepth 100000
set_option maxHeartbeats 4000000
namespace PL
open PySem L2
def fsIsLogOf : FS := fun ds k _ => match ds with
  | [.str v, .str s] => v.length ≤ 3000 ∧ k (.bl (v.all fun c => decide (c ∈ s)))
  | _ => False
section
variable {ds : List D} {kd : KD} {kx : KX} {C : Addr}
local instance : Tabl := ⟨[], fun p hp => absurd hp (by simp)⟩
theorem is_log_of_ok' : fsIsLogOf ds kd kx → m_is_log_of ds kd kx := by
  intro h
  match ds, h with
  | [.str v, .str s], ⟨hl, h⟩ =>
    refine ⟨by rw [List.length_map]; omega, lc_all (f := fun c => .bl (decide (c ∈ s))) v (fun c _ k' h' => h') ?_⟩
    have e : (v.map fun c => D.bl (decide (c ∈ s))) = (v.map fun c => decide (c ∈ s)).map D.bl := by rw [List.map_map]; rfl
    show onBs (v.map fun c => D.bl (decide (c ∈ s))) _
    rw [e, onBs_map, List.all_map]
    exact h
section
variable {s p q : List Nat} {i j a b : Nat}
theorem Parts.mp (P : Parts s i j a b p q) : ∀ c ∈ p, c ∈ s := fun c hc => by
  rw [P.ep] at hc
  exact List.mem_of_mem_take hc
end
end
end PL
set_option Elab.async false
set_option linter.all false
set_option maxRecDepth 100000
set_option maxHeartbeats 4000000
namespace PL
open PySem L2
def m_is_number : FS := fun ds k kx =>
  (tsRet (tpAnd (tp1 (fIsi "int") (tpVar 0)) (tpNot (tp1 (fIsi "bool") (tpVar 0)))))
  (fEnds k kx) (ga0 1 ds)
def m_is_within (fs_is_number : FS) : FS := fun ds k kx =>
  (tsRet (tpAnd (tpCall 1 fs_is_number (tlCons (tpVar 0) tlNil)) (tpChain fLe fLe (tpVar 1) (tpVar 0) (tpVar 2))))
  (fEnds k kx) (ga0 3 ds)
end PL
set_option Elab.async false
set_option linter.all false
set_option maxRecDepth 100000
set_option maxHeartbeats 4000000
namespace PL
open PySem L2
abbrev okA (s : List Nat) : Prop := 1 ≤ s.length ∧ s.length ≤ 8 ∧ s.Pairwise (· < ·) ∧ ∀ c ∈ s, c ∈ LET
theorem plain_of {t : List Nat} (h : ∀ c ∈ t, c ∈ LET) : D.plain (.str t) = true := by
  show t.all _ = true
  rw [List.all_eq_true]
  exact fun c hc => decide_eq_true (by have := (let_iff (c := c)).mp (h c hc); omega)
theorem eqD_str (a b : List Nat) : eqD (.str a) (.str b) = decide (a = b) := by
  show (SS a == SS b) = _
  by_cases h : a = b
  · rw [h, decide_eq_true rfl]
    exact beq_iff_eq.mpr rfl
  · rw [decide_eq_false h]
    refine beq_eq_false_iff_ne.mpr fun z => h ?_
    have := congrArg (fun x : PySem.Str => x.cps.toList) z
    simpa [SS] using this
def fsIsNum : FS := fun ds k _ => match ds with
  | [d] => (tyD d).isSome = true ∧ k (.bl (match d with | .int _ => true | _ => false))
  | _ => False
def within (lo hi : Int) : D → Bool
  | .int i => decide (lo ≤ i) && decide (i ≤ hi)
  | _ => false
def fsWithin : FS := fun ds k _ => match ds with
  | [d, .int lo, .int hi] => (tyD d).isSome = true ∧ k (.bl (within lo hi d))
  | _ => False
section
variable {ds : List D} {kd : KD} {kx : KX}
local instance : Tabl := ⟨[], fun p hp => absurd hp (by simp)⟩
theorem is_num_ok' : fsIsNum ds kd kx → m_is_number ds kd kx := by
  intro h
  match ds, h with
  | [d], ⟨g, h⟩ =>
    cases d <;> first | exact h | cases g
theorem within_ok' : fsWithin ds kd kx → m_is_within fsIsNum ds kd kx := by
  intro h
  match ds, h with
  | [d, .int lo, .int hi], ⟨g, h⟩ =>
    refine ⟨rfl, g, ?_⟩
    cases d with
    | int i =>
      show (if true = true then (if decide (lo ≤ i) = true then kd (.bl (decide (i ≤ hi))) else kd (.bl false)) else kd (.bl false))
      rw [if_pos rfl]
      have h : kd (.bl (decide (lo ≤ i) && decide (i ≤ hi))) := h
      by_cases z : lo ≤ i
      · rw [decide_eq_true z] at h ⊢
        rw [if_pos rfl]
        exact h
      · rw [decide_eq_false z] at h ⊢
        rw [if_neg Bool.false_ne_true]
        exact h
    | _ => exact h
end
end PL
set_option Elab.async false
set_option linter.all false
set_option maxRecDepth 100000
set_option maxHeartbeats 4000000
namespace PL
open PySem L2
def Ev (t : TP) (Γ : Ga) (d : D) : Prop := ∀ (k : KD) (kx : KX), k d → t Γ k kx
def EvL (t : TL) (Γ : Ga) (ds : List D) : Prop := ∀ (k : List D → Prop) (kx : KX), k ds → t Γ k kx
def EvB (t : TB) (Γ : Ga) (b : Bool) : Prop := ∀ (k : Bool → Prop) (kx : KX), k b → t Γ k kx
section
local instance : Tabl := ⟨[], fun p hp => absurd hp (by simp)⟩
variable {Γ Γ' : Ga} {t ta tb : TP} {tl : TL} {d x y : D} {ds : List D} {i j n : Nat} {P : PEn} {u s r : TSp} {b c : Bool} {cb cc : TB}
theorem ev_var (e : gat Γ i = .pu d) : Ev (tpVar i) Γ d := fun k kx h => by
  show (match gat Γ i with | .pu d => k d | _ => False)
  rw [e]
  exact h
theorem ev_c (d : D) : Ev (tpC d) Γ d := fun _ _ h => h
theorem evl_nil : EvL tlNil Γ [] := fun _ _ h => h
theorem evl_cons (h : Ev t Γ d) (g : EvL tl Γ ds) : EvL (tlCons t tl) Γ (d :: ds) := fun k kx z => h _ _ (g _ _ z)
theorem evl_1 (h : Ev t Γ d) : EvL (tlCons t tlNil) Γ [d] := evl_cons h evl_nil
theorem evl_2 (h : Ev ta Γ x) (g : Ev tb Γ y) : EvL (tlCons ta (tlCons tb tlNil)) Γ [x, y] := evl_cons h (evl_1 g)
theorem evl_3 {tc : TP} {z : D} (h : Ev ta Γ x) (g : Ev tb Γ y) (f : Ev tc Γ z) : EvL (tlCons ta (tlCons tb (tlCons tc tlNil))) Γ [x, y, z] := evl_cons h (evl_2 g f)
theorem ev_lst (h : EvL tl Γ ds) (hl : ds.length ≤ 100000) : Ev (tpLst tl) Γ (.lst ds) := fun k kx z => h _ _ ⟨hl, z⟩
theorem ev_tup (h : EvL tl Γ ds) (hl : ds.length ≤ 100000) : Ev (tpTup tl) Γ (.tup ds) := fun k kx z => h _ _ ⟨hl, z⟩
theorem ev_call {f : FS} (h : EvL tl Γ ds) (hn : ds.length = n) (hf : ∀ k kx, k d → f ds k kx) : Ev (tpCall n f tl) Γ d := fun k kx z => h _ _ ⟨hn, hf k kx z⟩
theorem ev_op {f : F2} (h : Ev ta Γ x) (g : Ev tb Γ y) (hf : ∀ k : KD, k d → f x y k) : Ev (tpOp f ta tb) Γ d := fun k kx z => h _ _ (g _ _ (hf k z))
theorem ev_1 {f : F1} (h : Ev t Γ x) (hf : ∀ k : KD, k d → f x k) : Ev (tp1 f t) Γ d := fun k kx z => h _ _ (hf k z)
theorem ev_addI {a b : Int} (h : Ev ta Γ (.int a)) (g : Ev tb Γ (.int b)) : Ev (tpOp fAdd ta tb) Γ (.int (a + b)) := ev_op h g fun k z => z
theorem ev_subI {a b : Int} (h : Ev ta Γ (.int a)) (g : Ev tb Γ (.int b)) : Ev (tpOp fSub ta tb) Γ (.int (a - b)) := ev_op h g fun k z => z
theorem ev_ixL {l : List D} {z : Int} (h : Ev ta Γ (.lst l)) (g : Ev tb Γ (.int z)) (e : atI l z = some d) : Ev (tpOp fIx ta tb) Γ d := ev_op h g fun k w => by
  show (match atI l z with | some d => k d | none => False)
  rw [e]
  exact w
theorem ev_ixT {l : List D} {z : Int} (h : Ev ta Γ (.tup l)) (g : Ev tb Γ (.int z)) (e : atI l z = some d) : Ev (tpOp fIx ta tb) Γ d := ev_op h g fun k w => by
  show (match atI l z with | some d => k d | none => False)
  rw [e]
  exact w
theorem ev_ixS {l : List Nat} {z : Int} {q : Nat} (h : Ev ta Γ (.str l)) (g : Ev tb Γ (.int z)) (hl : l.length ≤ sizeLine) (e : atI l z = some q) : Ev (tpOp fIx ta tb) Γ (.str [q]) := ev_op h g fun k w => by
  refine ⟨hl, ?_⟩
  show (match atI l z with | some c => k (.str [c]) | none => False)
  rw [e]
  exact w
theorem ev_lenS {l : List Nat} (h : Ev t Γ (.str l)) (hl : l.length ≤ sizeLine) : Ev (tp1 fLenS t) Γ (.int (l.length : Nat)) := ev_1 h fun k z => ⟨hl, z⟩
theorem ev_lenL {l : List D} (h : Ev t Γ (.lst l)) : Ev (tp1 fLenS t) Γ (.int (l.length : Nat)) := ev_1 h fun k z => z
theorem ev_lenT {l : List D} (h : Ev t Γ (.tup l)) : Ev (tp1 fLenS t) Γ (.int (l.length : Nat)) := ev_1 h fun k z => z
theorem ev_eqS {a b : List Nat} (h : Ev ta Γ (.str a)) (g : Ev tb Γ (.str b)) (pa : D.plain (.str a) = true) (pb : D.plain (.str b) = true) : Ev (tpOp fEq ta tb) Γ (.bl (decide (a = b))) := ev_op h g fun k z => ⟨⟨pa, pb, Nat.zero_le _, Nat.zero_le _⟩, by rw [eqD_str]; exact z⟩
theorem ev_eqI {a b : Int} (h : Ev ta Γ (.int a)) (g : Ev tb Γ (.int b)) : Ev (tpOp fEq ta tb) Γ (.bl (decide (a = b))) := ev_op h g fun k z => ⟨⟨rfl, rfl, Nat.zero_le _, Nat.zero_le _⟩, by
  have e : eqD (.int a) (.int b) = decide (a = b) := by
    by_cases q : a = b
    · rw [q, decide_eq_true rfl]
      exact beq_iff_eq.mpr rfl
    · rw [decide_eq_false q]
      exact beq_eq_false_iff_ne.mpr q
  rw [e]
  exact z⟩
theorem ev_ifT (h : EvB cb Γ true) (g : Ev ta Γ d) : Ev (tpIf cb ta tb) Γ d := fun k kx z => h _ _ (g k kx z)
theorem ev_ifF (h : EvB cb Γ false) (g : Ev tb Γ d) : Ev (tpIf cb ta tb) Γ d := fun k kx z => h _ _ (show (if false = true then ta Γ k kx else tb Γ k kx) from g k kx z)
theorem evb_v (h : Ev t Γ (.bl b)) : EvB (tbV t) Γ b := fun k kx z => h _ _ z
theorem evb_not (h : EvB cb Γ b) : EvB (tbNot cb) Γ (!b) := fun k kx z => h _ _ z
theorem evb_andF (h : EvB cb Γ false) : EvB (tbAnd cb cc) Γ false := fun k kx z => h _ _ (show (if false = true then cc Γ k kx else k false) from z)
theorem evb_orT (h : EvB cb Γ true) : EvB (tbOr cb cc) Γ true := fun k kx z => h _ _ z
theorem evb_orF (h : EvB cb Γ false) (g : EvB cc Γ b) : EvB (tbOr cb cc) Γ b := fun k kx z => h _ _ (show (if false = true then k true else cc Γ k kx) from g k kx z)
theorem ev_lc {is : List Nat} {ti : TL} {te : TP} {items : List D} {f : D → D} (h : EvL ti Γ items) (hl : items.length ≤ 100000) (he : ∀ x ∈ items, Ev te (gset (wipeG Γ is) i (.pu x)) (f x)) : Ev (tpLc is ti (tgName i) tbYes te) Γ (.lst (items.map f)) := fun k kx z => h _ _ (by
  refine ⟨hl, ?_⟩
  have go : ∀ (items : List D) {k : List D → Prop}, (∀ x ∈ items, Ev te (gset (wipeG Γ is) i (.pu x)) (f x)) → k (items.map f) → lcW (tgName i) tbYes te (wipeG Γ is) items k := fun items => by
    induction items with
    | nil => exact fun _ h => h
    | cons x r ih => exact fun hx h => hx x List.mem_cons_self _ _ (ih (fun y hy => hx y (List.mem_cons_of_mem _ hy)) h)
  exact go items he z)
theorem evl_tiLst (h : Ev t Γ (.lst ds)) : EvL (tiLst t) Γ ds := fun k kx z => h _ _ z
theorem evl_tiTup (h : Ev t Γ (.tup ds)) : EvL (tiTup t) Γ ds := fun k kx z => h _ _ z
theorem evl_tiStr {l : List Nat} (h : Ev t Γ (.str l)) : EvL (tiStr t) Γ (l.map fun c => .str [c]) := fun k kx z => h _ _ z
theorem evl_rng1 {z : Nat} (h : Ev t Γ (.int (z : Nat))) (hz : z < 2 ^ 62) : EvL (tiRng1 (tlCons t tlNil)) Γ ((List.range z).map fun i => .int (i : Nat)) := fun k kx w => h _ _ ⟨⟨by omega, by omega⟩, by
  rw [show ((z : Nat) : Int).toNat = z by omega]
  exact w⟩
theorem st_set1 (h : Ev t Γ d) (g : P.nx (gset Γ i (.pu d))) : tsSet i t P Γ := h _ _ g
theorem st_ifF (h : EvB cb Γ false) (g : r { P with nx := u P } Γ) : tsSeq (tsIf cb s r) u P Γ := h _ _ (show (if false = true then s { P with nx := u P } Γ else r { P with nx := u P } Γ) from g)
theorem st_ifN (h : EvB cb Γ false) (g : u P Γ) : tsSeq (tsIf cb s tsNext) u P Γ := st_ifF h g
theorem st_if1T (h : EvB cb Γ true) (g : s P Γ) : tsIf cb s r P Γ := h _ _ g
theorem st_if1F (h : EvB cb Γ false) (g : r P Γ) : tsIf cb s r P Γ := h _ _ (show (if false = true then s P Γ else r P Γ) from g)
theorem st_drop (h : Ev t Γ d) (g : u P Γ) : tsSeq (tsDrop t) u P Γ := h _ _ g
theorem st_ret (h : Ev t Γ d) (g : P.rt d Γ) : tsRet t P Γ := h _ _ g
theorem st_for {ti : TL} {tg : TGp} (h : EvL ti Γ ds) (g : forW tg s { P with nx := u P } ds Γ) : tsSeq (tsFor ti tg s) u P Γ := h _ _ g
theorem st_for1 {ti : TL} {tg : TGp} (h : EvL ti Γ ds) (g : forW tg s P ds Γ) : tsFor ti tg s P Γ := h _ _ g
theorem for_cons (h : s { P with nx := forW (tgName i) s P ds, ct := forW (tgName i) s P ds, bk := P.nx } (gset Γ i (.pu d))) : forW (tgName i) s P (d :: ds) Γ := h
theorem ev_meth {C : Addr} {fs : List (PySem.Str × D)} {ms : List (Addr × FS)} {nm : PySem.Str} {f : FS} (h : Ev t Γ (.ins C fs)) (hno : fs.lookup nm = none) (hm : (C, f) ∈ ms) (hl : EvL tl Γ ds) (hn : ds.length = n) (hf : ∀ k kx, k d → f (.ins C fs :: ds) k kx) : Ev (tpMeth ms nm n t tl) Γ d := fun k kx z => h _ _ (by
  show fs.lookup nm = none ∧ ∃ f, (C, f) ∈ ms ∧ tl Γ (fun ds => ds.length = n ∧ f (.ins C fs :: ds) k kx) kx
  exact ⟨hno, f, hm, hl _ _ ⟨hn, hf k kx z⟩⟩)
theorem ev_fld {C : Addr} {fs : List (PySem.Str × D)} {cs : List Addr} {f : PySem.Str} (h : Ev t Γ (.ins C fs)) (hm : C ∈ cs) (e : fs.lookup f = some d) : Ev (tpFld cs f t) Γ d := fun k kx z => h _ _ (by
  show C ∈ cs ∧ match fs.lookup f with | some v => k v | none => False
  refine ⟨hm, ?_⟩
  rw [e]
  exact z)
end
end PL
set_option Elab.async false
set_option linter.all false
set_option maxRecDepth 100000
set_option maxHeartbeats 4000000
namespace PL
open PySem L2
def EvN (t : TP) (Γ : Ga) (A : D → Prop) : Prop := ∀ (k : KD) (kx : KX), (∀ d, A d → k d) → t Γ k kx
def EvNL (t : TL) (Γ : Ga) (A : List D → Prop) : Prop := ∀ (k : List D → Prop) (kx : KX), (∀ d, A d → k d) → t Γ k kx
def EvNB (t : TB) (Γ : Ga) (A : Bool → Prop) : Prop := ∀ (k : Bool → Prop) (kx : KX), (∀ d, A d → k d) → t Γ k kx
section
local instance : Tabl := ⟨[], fun p hp => absurd hp (by simp)⟩
variable {Γ Γ' : Ga} {t ta tb : TP} {tl : TL} {d x y : D} {ds : List D} {i j n : Nat} {P : PEn} {u s r : TSp} {b c : Bool} {cb cc : TB} {A B C : D → Prop} {L M : List D → Prop}
theorem evn (h : Ev t Γ d) : EvN t Γ (· = d) := fun k kx z => h k kx (z d rfl)
theorem evn_imp (h : EvN t Γ A) (g : ∀ d, A d → B d) : EvN t Γ B := fun k kx z => h k kx fun d q => z d (g d q)
theorem evnl (h : EvL tl Γ ds) : EvNL tl Γ (· = ds) := fun k kx z => h k kx (z ds rfl)
theorem evnl_nil : EvNL tlNil Γ (· = []) := fun k kx z => z [] rfl
theorem evnl_cons (h : EvN t Γ A) (g : EvNL tl Γ L) : EvNL (tlCons t tl) Γ (fun l => ∃ d ds, A d ∧ L ds ∧ l = d :: ds) := fun k kx z => h _ _ fun d hd => g _ _ fun ds hs => z _ ⟨d, ds, hd, hs, rfl⟩
theorem evn_call {f : FS} (h : EvNL tl Γ L) (hf : ∀ ds, L ds → ds.length = n ∧ ∀ (k : KD) (kx : KX), (∀ d, A d → k d) → f ds k kx) : EvN (tpCall n f tl) Γ A := fun k kx z => h _ _ fun ds hs => ⟨(hf ds hs).1, (hf ds hs).2 k kx z⟩
theorem evn_op {f : F2} (h : EvN ta Γ A) (g : EvN tb Γ B) (hf : ∀ x y, A x → B y → ∀ k : KD, (∀ d, C d → k d) → f x y k) : EvN (tpOp f ta tb) Γ C := fun k kx z => h _ _ fun x hx => g _ _ fun y hy => hf x y hx hy k z
theorem evn_ifT (h : EvB cb Γ true) (g : EvN ta Γ A) : EvN (tpIf cb ta tb) Γ A := fun k kx z => h _ _ (g k kx z)
theorem evn_ifF (h : EvB cb Γ false) (g : EvN tb Γ A) : EvN (tpIf cb ta tb) Γ A := fun k kx z => h _ _ (show (if false = true then ta Γ k kx else tb Γ k kx) from g k kx z)
theorem st_setN (h : EvN t Γ A) (g : ∀ d, A d → u P (gset Γ i (.pu d))) : tsSeq (tsSet i t) u P Γ := h _ _ g
theorem st_set1N (h : EvN t Γ A) (g : ∀ d, A d → P.nx (gset Γ i (.pu d))) : tsSet i t P Γ := h _ _ g
theorem evn_pull {m : Int} (h : Ev tb Γ .bag) (g : Ev t Γ (.int m)) (m1 : 1 ≤ m) (m2 : m < 1073741824) : EvN (tpCall 2 fsPull (tlCons tb (tlCons t tlNil))) Γ (fun d => ∃ r : Int, 0 ≤ r ∧ r < m ∧ d = .int r) := evn_call (evnl (evl_2 h g)) fun ds e => by
  subst e
  exact ⟨rfl, fun k kx z => ⟨⟨m1, m2⟩, fun r r1 r2 => z _ ⟨r, r1, r2, rfl⟩⟩⟩
end
end PL
set_option Elab.async false
set_option linter.all false
set_option maxRecDepth 100000
set_option maxHeartbeats 4000000
namespace PL
open PySem L2
end PL
set_option Elab.async false
set_option linter.all false
set_option maxRecDepth 100000
set_option maxHeartbeats 4000000
namespace PL
open PySem L2 PyProof.Rows
variable [Tabl]
section
variable {X : Cx} {W : WX} {i : Nat} {pos : Pos} {st : Stmt} {rest : List Stmt}
theorem AskAll.snoc {g : Addr} {sp : LS} {t : TP} (h : AskRun X g sp t) : ∀ {sps : List LS} {T : List TP}, AskAll X g sps T → AskAll X g (sps ++ [sp]) (T ++ [t])
  | _, _, .nil => .cons h .nil
  | _, _, .cons a r => .cons a (AskAll.snoc h r)
end
end PL
set_option Elab.async false
set_option linter.all false
set_option maxRecDepth 100000
set_option maxHeartbeats 4000000
namespace PL
open PySem L2
def mx_need_deeds (C_InvalidDeeds : Addr) (fs_is_deeds : FS) : FS := fun ds k kx =>
  (tsIf (tbNot (tbV (tpCall 1 fs_is_deeds (tlCons (tpVar 0) tlNil))))
    (tsRaise C_InvalidDeeds "InvalidDeeds" "given" (tpVar 0))
    tsNext)
  (fEnds k kx) (ga0 1 ds)
def m_place_of : FS := fun ds k kx =>
  (tsRet (tpOp fIx (tpLc [2, 3] (tiEnumS (tpVar 0)) (tgTup2 2 3) (tbV (tpOp fEq (tpVar 3) (tpVar 1))) (tpVar 2)) (tpC (.int 0))))
  (fEnds k kx) (ga0 4 ds)
def m_Store___init__ (C_Store : Addr) (fs_need_deeds fs_need_rows : FS) : FSo := fun ds k kx => ∀ p,
  (tsSeq (tsDrop (tpCall 1 fs_need_deeds (tlCons (tpVar 1) tlNil)))
    (tsSeq (tsDrop (tpCall 2 fs_need_rows (tlCons (tpVar 2) (tlCons (tp1 fLenS (tpVar 1)) tlNil))))
    (tsSeq (tsSetF [C_Store] 0 "own_deeds" (tpVar 1))
    (tsSetF [C_Store] 0 "table" (tpLc [3] (tiSq (tpVar 2)) (tgName 3) tbYes (tp1 fList (tpVar 3)))))))
  (iEnds p k kx) (gaO 4 0 p ds)
def m_Store_rows (C_Store : Addr) : FS := fun ds k kx =>
  (tsRet (tpLc [1] (tiLst (tpFld [C_Store] "table" (tpVar 0))) (tgName 1) tbYes (tp1 fTup (tpVar 1))))
  (fEnds k kx) (ga0 2 ds)
def m_Store_need_stand (C_InvalidStand C_Store : Addr) (fs_is_within : FS) : FS := fun ds k kx =>
  (tsIf (tbNot (tbV (tpCall 3 fs_is_within (tlCons (tpVar 1) (tlCons (tpC (.int 0)) (tlCons (tpOp fSub (tp1 fLenS (tpFld [C_Store] "table" (tpVar 0))) (tpC (.int 1))) tlNil))))))
    (tsRaise C_InvalidStand "InvalidStand" "given" (tpVar 1))
    tsNext)
  (fEnds k kx) (ga0 2 ds)
def m_Store_need_deed (C_InvalidDeed C_Store : Addr) : FS := fun ds k kx =>
  (tsIf (tbOr (tbNot (tbV (tp1 (fIsi "str") (tpVar 1)))) (tbOr (tbV (tpOp fNe (tp1 fLenS (tpVar 1)) (tpC (.int 1)))) (tbV (tpOp fNotInS (tpVar 1) (tpFld [C_Store] "own_deeds" (tpVar 0))))))
    (tsRaise C_InvalidDeed "InvalidDeed" "given" (tpVar 1))
    tsNext)
  (fEnds k kx) (ga0 2 ds)
def m_Store_led (C_Store : Addr) (fs_place_of : FS) : FS := fun ds k kx =>
  (tsSeq (tsFor (tiStr (tpVar 2)) (tgName 3)
    (tsSet 1 (tpOp fIx (tpOp fIx (tpFld [C_Store] "table" (tpVar 0)) (tpVar 1)) (tpCall 2 fs_place_of (tlCons (tpFld [C_Store] "own_deeds" (tpVar 0)) (tlCons (tpVar 3) tlNil))))))
    (tsRet (tpVar 1)))
  (fEnds k kx) (ga0 4 ds)
end PL
set_option Elab.async false
set_option linter.all false
set_option maxRecDepth 100000
set_option maxHeartbeats 4000000
namespace PL
open PySem L2
end PL
set_option Elab.async false
set_option linter.all false
set_option maxRecDepth 100000
set_option maxHeartbeats 4000000
namespace PL
open PySem L2
end PL
set_option Elab.async false
set_option linter.all false
set_option maxRecDepth 100000
set_option maxHeartbeats 4000000
namespace PL
open PySem L2
end PL
set_option Elab.async false
set_option linter.all false
set_option maxRecDepth 100000
set_option maxHeartbeats 4000000
namespace PL
open PySem L2 PyProof.Rows
variable [Tabl]
section
variable {X : Cx} {W : WX} {e a : Expr} {es : List Expr} {t ta : TP} {ts : List TP} {pos p q : Pos} {x : PySem.Str} {k j : Nat}
def tpIsX (cs : List (Addr × Bool)) (t : TP) : TP := fun Γ k kx => t Γ (fun d => match d with
  | .ins C _ => ∃ b, (C, b) ∈ cs ∧ k (.bl b)
  | d => (tyD d).isSome = true ∧ k (.bl false)) kx
structure OwnC (K : PySem.W.Frag) (B : Addr) : Prop where
  ok : ((PySem.W.clsIn K B).isSome && PySem.W.typeIn K (.ref B) == some (.type "type")) = true
theorem kit_no {K : PySem.W.Frag} {B : Addr} (o : OwnC K B) {n : String} (h : n ∈ ["NoneType", "bool", "int", "str", "list", "tuple", "dict"]) : PySem.W.kitOne K (.type n) (.ref B) = some false := by
  unfold PySem.W.kitOne
  rw [if_neg (by simp)]
  unfold PySem.W.kitCls
  dsimp only
  rw [if_pos o.ok]
  exact sub_no K B h
theorem p_isX {B : Addr} {cs : List (Addr × Bool)} (h : ∀ q ∈ cs, InsB X.K q.1 B q.2) (o : OwnC X.K B) (ha : PP X W a ta) (hB : X.mg x = some (.ref B)) (hm : X.mg "isinstance" = none) (hgB : Gl X x := by rfl) (hdB : (x == ("__debug__" : PySem.Str)) = false := by decide) (hg : Gl X "isinstance" := by rfl)
    (h1 : starEach (a :: [.Name x q]) X.env = (false, eval a X.env) :: starEach [.Name x q] X.env := by rfl) (h2 : (backTo pos (starEach [.Name x q] X.env)).any (·.1) = false := by rfl) (h3 : starEach (.Name x q :: []) X.env = (false, eval (.Name x q) X.env) :: starEach [] X.env := by rfl) :
    PP X W (.Call (.Name "isinstance" p) [a, .Name x q] [] pos) (tpIsX cs ta) := by
  obtain ⟨ea, pa, ra⟩ := ha.ex
  refine ⟨_, pe_callB call_isi hg hm (by decide +kernel) (pa_cons pa (pa_cons (pe_glob hgB hB (v := .ref B) rfl hdB) pa_nil h3) h1) (by decide) (by decide) h1 h2, fun G0 H0 Γ σ G H k kx Q F ht hk hx => ?_⟩
  refine ra G0 H0 Γ σ G H _ kx _ F ht (fun d v G1 H1 k1 x1 n1 => ?_) hx
  cases d with
  | ins C fs =>
    obtain ⟨b, hb, k2⟩ := k1
    have c := h _ hb
    obtain ⟨r, dx, fvs, rfl, h1, h2⟩ := (show DenU X.K H1 G1 H1 v (.ins C fs) from .inl n1).ins x1.sub
    exact ⟨_, .ref B, .ref C, .ref B, b, rfl, .own B, .base (TyOf.ins h1 c.cl c.ha c.hn c.htk c.hm), c.me, hk _ _ G1 H1 k2 x1 (.bl b)⟩
  | non => exact ⟨_, .ref B, _, .ref B, false, rfl, .own B, DenU.ty (H0 := H1) x1.sub (.inl n1) rfl, kit_no o (tyD_mem (d := .non) rfl), hk _ _ G1 H1 k1.2 x1 (.bl _)⟩
  | bl b => exact ⟨_, .ref B, _, .ref B, false, rfl, .own B, DenU.ty (H0 := H1) x1.sub (.inl n1) rfl, kit_no o (tyD_mem (d := .bl b) rfl), hk _ _ G1 H1 k1.2 x1 (.bl _)⟩
  | int b => exact ⟨_, .ref B, _, .ref B, false, rfl, .own B, DenU.ty (H0 := H1) x1.sub (.inl n1) rfl, kit_no o (tyD_mem (d := .int b) rfl), hk _ _ G1 H1 k1.2 x1 (.bl _)⟩
  | str b => exact ⟨_, .ref B, _, .ref B, false, rfl, .own B, DenU.ty (H0 := H1) x1.sub (.inl n1) rfl, kit_no o (tyD_mem (d := .str b) rfl), hk _ _ G1 H1 k1.2 x1 (.bl _)⟩
  | lst b => exact ⟨_, .ref B, _, .ref B, false, rfl, .own B, DenU.ty (H0 := H1) x1.sub (.inl n1) rfl, kit_no o (tyD_mem (d := .lst b) rfl), hk _ _ G1 H1 k1.2 x1 (.bl _)⟩
  | tup b => exact ⟨_, .ref B, _, .ref B, false, rfl, .own B, DenU.ty (H0 := H1) x1.sub (.inl n1) rfl, kit_no o (tyD_mem (d := .tup b) rfl), hk _ _ G1 H1 k1.2 x1 (.bl _)⟩
  | dct b => exact ⟨_, .ref B, _, .ref B, false, rfl, .own B, DenU.ty (H0 := H1) x1.sub (.inl n1) rfl, kit_no o (tyD_mem (d := .dct b) rfl), hk _ _ G1 H1 k1.2 x1 (.bl _)⟩
  | _ => exact Bool.noConfusion k1.1
end
end PL
set_option Elab.async false
set_option linter.all false
set_option maxRecDepth 100000
set_option maxHeartbeats 4000000
namespace PL
open PySem L2 PyProof.Rows
end PL
set_option Elab.async false
set_option linter.all false
set_option maxRecDepth 100000
set_option maxHeartbeats 4000000
namespace PL
open PySem L2
end PL
set_option Elab.async false
set_option linter.all false
set_option maxRecDepth 100000
set_option maxHeartbeats 4000000
namespace PySem
end PySem
namespace L2
open PySem PySem.Spec PyProof.Rows
end L2
namespace PL
open PySem L2
end PL
set_option Elab.async false
set_option linter.all false
set_option maxRecDepth 100000
set_option maxHeartbeats 4000000
namespace PL
open PySem L2
def mx_need_log_of (C_InvalidLog : Addr) (fs_is_log_of : FS) : FS := fun ds k kx =>
  (tsIf (tbNot (tbV (tpCall 2 fs_is_log_of (tlCons (tpVar 0) (tlCons (tpVar 1) tlNil)))))
    (tsRaise C_InvalidLog "InvalidLog" "given" (tpVar 0))
    tsNext)
  (fEnds k kx) (ga0 2 ds)
end PL
set_option Elab.async false
set_option linter.all false
set_option maxRecDepth 100000
set_option maxHeartbeats 4000000
namespace PL
open PySem L2
end PL
set_option Elab.async false
set_option linter.all false
set_option maxRecDepth 100000
set_option maxHeartbeats 4000000
namespace PL
end PL
set_option Elab.async false
set_option linter.all false
set_option maxRecDepth 100000
set_option maxHeartbeats 4000000
namespace PL
end PL
set_option Elab.async false
set_option linter.all false
set_option maxRecDepth 100000
set_option maxHeartbeats 4000000
namespace PL
abbrev Blk := Nat × List Nat
section
variable (ap : Nat → Nat → Bool)
/-- w goes to the last block of its sender, if all blocks behind it are apart -/
def putL (s : Nat) (w : List Nat) : List Blk → Option (List Blk)
  | [] => none
  | b :: r => if b.1 = s then some ((s, b.2 ++ w) :: r) else if ap b.1 s = true then (putL s w r).map (b :: ·) else none
def addL (s : Nat) (w : List Nat) (R : List Blk) : List Blk := match putL ap s w R with
  | some x => x
  | none => (s, w) :: R
inductive BE : List Blk → List Blk → Prop
  | refl (R : List Blk) : BE R R
  | symm {R R' : List Blk} : BE R R' → BE R' R
  | trans {R R' R'' : List Blk} : BE R R' → BE R' R'' → BE R R''
  | con (s : Nat) {u v : List Nat} (r : List Blk) : sb u = sb v → BE ((s, u) :: r) ((s, v) :: r)
  | sw (a b : Blk) (r : List Blk) : ap a.1 b.1 = true → BE (a :: b :: r) (b :: a :: r)
  | cons (a : Blk) {r r' : List Blk} : BE r r' → BE (a :: r) (a :: r')
def OE : Option (List Blk) → Option (List Blk) → Prop
  | some x, some y => BE ap x y
  | none, none => True
  | _, _ => False
/-- the logs that come to the same -/
inductive Sim (own : Nat → Nat) : List Nat → List Nat → Prop
  | refl (x : List Nat) : Sim own x x
  | symm {x y : List Nat} : Sim own x y → Sim own y x
  | trans {x y z : List Nat} : Sim own x y → Sim own y z → Sim own x z
  | sw (x : List Nat) (c d : Nat) (y : List Nat) : ap (own c) (own d) = true → Sim own (x ++ c :: d :: y) (x ++ d :: c :: y)
  | st (x : List Nat) {v v' : List Nat} (y : List Nat) (s : Nat) : v ≠ [] → v' ≠ [] → (∀ c ∈ v, own c = s) → (∀ c ∈ v', own c = s) → sb v = sb v' → Sim own (x ++ (v ++ y)) (x ++ (v' ++ y))
/-- a block ahead of which no block must stand; the others -/
inductive Mn : List Blk → Blk → List Blk → Prop
  | here {b : Blk} {r : List Blk} : (∀ a ∈ r, ap a.1 b.1 = true) → Mn (b :: r) b r
  | there {a b : Blk} {r r' : List Blk} : Mn r b r' → Mn (a :: r) b (a :: r')
/-- the blocks in the least order -/
inductive Em : List Blk → List Blk → Prop
  | nil : Em [] []
  | cons {R r o : List Blk} {b : Blk} : Mn ap R b r → (∀ b' r', Mn ap R b' r' → b.1 ≤ b'.1) → Em r o → Em R (b :: o)
def runB (own : Nat → Nat) (y : List Nat) (R : List Blk) : List Blk := y.foldl (fun R c => addL ap (own c) [c] R) R
end
section
variable {ap : Nat → Nat → Bool} {own : Nat → Nat} {s t : Nat} {w z v v' : List Nat} {R R' : List Blk}
theorem OE.refl (x : Option (List Blk)) : OE ap x x := by
  cases x
  · trivial
  · exact BE.refl _
theorem OE.symm {x y : Option (List Blk)} (h : OE ap x y) : OE ap y x := by
  cases x <;> cases y
  · trivial
  · exact h
  · exact h
  · exact BE.symm h
theorem OE.trans {x y z : Option (List Blk)} (h : OE ap x y) (g : OE ap y z) : OE ap x z := by
  cases x <;> cases y <;> cases z
  · trivial
  · exact g
  · exact h.elim
  · exact h.elim
  · exact h.elim
  · exact h.elim
  · exact g.elim
  · exact BE.trans h g
theorem OE.map {x y : Option (List Blk)} (a : Blk) (h : OE ap x y) : OE ap (x.map (a :: ·)) (y.map (a :: ·)) := by
  cases x <;> cases y
  · trivial
  · exact h
  · exact h
  · exact BE.cons a h
end
end PL
set_option Elab.async false
set_option linter.all false
set_option maxRecDepth 100000
set_option maxHeartbeats 4000000
namespace PL
section
variable {ap : Nat → Nat → Bool} {own : Nat → Nat} {s t : Nat} {w z v v' : List Nat} {R R' r r' o o' : List Blk} {b b' : Blk}
theorem mn_ex : ∀ R : List Blk, R ≠ [] → ∃ b r, Mn ap R b r
  | [], h => absurd rfl h
  | [b], _ => ⟨b, [], .here fun a z => nomatch z⟩
  | a :: c :: R, _ => by
    obtain ⟨b, r, h⟩ := mn_ex (c :: R) (by simp)
    exact ⟨b, a :: r, .there h⟩
theorem mn_len (h : Mn ap R b r) : R.length = r.length + 1 := by
  induction h with
  | here _ => rfl
  | there _ ih => rw [List.length_cons, List.length_cons, ih]
theorem mn_in (h : Mn ap R b r) : b ∈ R ∧ ∀ a ∈ r, a ∈ R := by
  induction h with
  | here _ => exact ⟨List.mem_cons_self, fun a ha => List.mem_cons_of_mem _ ha⟩
  | there _ ih => exact ⟨List.mem_cons_of_mem _ ih.1, fun a ha => (List.mem_cons.mp ha).elim (fun z => by rw [z]; exact List.mem_cons_self) fun z => List.mem_cons_of_mem _ (ih.2 a z)⟩
theorem em_ex : ∀ (n : Nat) (R : List Blk), R.length = n → ∃ o, Em ap R o := by
  intro n
  induction n with
  | zero =>
    intro R h
    rw [List.length_eq_zero_iff.mp h]
    exact ⟨[], .nil⟩
  | succ n ih =>
    intro R h
    have least : ∀ m, (∃ b r, Mn ap R b r ∧ b.1 ≤ m) → ∃ b r, Mn ap R b r ∧ ∀ b' r', Mn ap R b' r' → b.1 ≤ b'.1 := by
      intro m
      induction m with
      | zero => exact fun ⟨b, r, h1, h2⟩ => ⟨b, r, h1, fun b' r' _ => by omega⟩
      | succ m ihm =>
        rintro ⟨b, r, h1, h2⟩
        by_cases c : ∃ b r, Mn ap R b r ∧ b.1 ≤ m
        · exact ihm c
        · exact ⟨b, r, h1, fun b' r' h' => Nat.le_of_not_lt fun z => c ⟨b', r', h', by omega⟩⟩
    obtain ⟨b0, r0, h0⟩ := mn_ex (ap := ap) R (fun z => by rw [z] at h; cases h)
    obtain ⟨b, r, h1, h2⟩ := least b0.1 ⟨b0, r0, h0, Nat.le_refl _⟩
    have l := mn_len h1
    obtain ⟨o, ho⟩ := ih r (by omega)
    exact ⟨b :: o, .cons h1 h2 ho⟩
noncomputable def em (ap : Nat → Nat → Bool) (R : List Blk) : List Blk := Classical.choose (em_ex (ap := ap) R.length R rfl)
theorem Sim.of_eq {x y : List Nat} (h : x = y) : Sim ap own x y := h ▸ .refl _
end
end PL
set_option Elab.async false
set_option linter.all false
set_option maxRecDepth 100000
set_option maxHeartbeats 4000000
namespace PL
open PySem L2
abbrev Prs := List (Nat × Nat)
def apP (ps : Prs) (a b : Nat) : Bool := decide ((min a b, max a b) ∈ ps)
def pdN (p : Nat × Nat) : D := pd ((p.1 : Int), (p.2 : Int))
/-- a kind's senders and pairs -/
structure Cst (ss : List (List Nat)) (ps : Prs) : Prop where
  l1 : 1 ≤ ss.length
  l4 : ss.length ≤ 4
  ok : ∀ s ∈ ss, okA s
  nd : ss.flatten.Nodup
  pr : ∀ p ∈ ps, p.1 < p.2 ∧ p.2 < ss.length
  so : ps.Pairwise fun p q => p.1 < q.1 ∨ (p.1 = q.1 ∧ p.2 < q.2)
def ow0 : Nat → List (List Nat) → List (Nat × Nat)
  | _, [] => []
  | i, s :: r => s.map (fun c => (c, i)) ++ ow0 (i + 1) r
def owK (l : List (Nat × Nat)) : List (Key × D) := l.map fun p => (Sum.inr (SS [p.1]), D.int (p.2 : Nat))
/-- the sender of a deed -/
def ownF (ss : List (List Nat)) (c : Nat) : Nat := ss.findIdx fun s => decide (c ∈ s)
def castK (CC : Addr) (ss : List (List Nat)) (ps : Prs) : D := .sl CC [.dct (owK (ow0 0 ss)), .tup (ps.map pdN), .tup (ss.map .str)]
def freeK (CF CC : Addr) (ss : List (List Nat)) (ps : Prs) : D := .ins CF [("own_deeds", .str (deeds ss.flatten)), ("cast", castK CC ss ps)]
def oneK (C : Addr) (s : List Nat) : D := .ins C [("own_deeds", .str s)]
section
variable {ds : List D} {kd : KD} {kx : KX} {C CF CC : Addr}
local instance : Tabl := ⟨[], fun p hp => absurd hp (by simp)⟩
end
end PL
set_option Elab.async false
set_option linter.all false
set_option maxRecDepth 100000
set_option maxHeartbeats 4000000
namespace PL
open PySem L2
section
variable {ds : List D} {kd : KD} {kx : KX} {C CF CC : Addr} {ss : List (List Nat)} {ps : Prs} {os : List Nat}
local instance : Tabl := ⟨[], fun p hp => absurd hp (by simp)⟩
end
end PL
set_option Elab.async false
set_option linter.all false
set_option maxRecDepth 100000
set_option maxHeartbeats 4000000
namespace PL
open PySem L2
def blkD (b : Blk) : D := .tup [.int (b.1 : Nat), .str b.2]
section
variable {ds : List D} {kd : KD} {kx : KX} {C CF CC : Addr} {ss : List (List Nat)} {ps : Prs} {os : List Nat}
local instance : Tabl := ⟨[], fun p hp => absurd hp (by simp)⟩
end
end PL
set_option Elab.async false
set_option linter.all false
set_option maxRecDepth 100000
set_option maxHeartbeats 4000000
namespace PL
open PySem L2
theorem dL_mem {s : List Nat} (h : ∀ c ∈ s, c ∈ LET) (c : Nat) : c ∈ deeds s ↔ c ∈ s := by
  unfold deeds
  rw [List.mem_filter, decide_eq_true_eq]
  exact ⟨fun z => z.2, fun z => ⟨h c z, z⟩⟩
theorem Cst.letr {ss : List (List Nat)} {ps : Prs} (h : Cst ss ps) : ∀ c ∈ ss.flatten, c ∈ LET := fun c hc => by
  obtain ⟨s, h1, h2⟩ := List.mem_flatten.mp hc
  exact (h.ok s h1).2.2.2 c h2
theorem Cst.size {ss : List (List Nat)} {ps : Prs} (h : Cst ss ps) : ss.flatten.length ≤ 26 := nodup_le ss.flatten LET h.nd h.letr
structure Ks where
  (F C1 C2 C3 : Addr)
def Ks.all (K : Ks) : List Addr := [K.F, K.C1, K.C2, K.C3]
section
variable {ds : List D} {kd : KD} {kx : KX} {C CF CC : Addr} {ss : List (List Nat)} {ps : Prs} {K : Ks}
local instance : Tabl := ⟨[], fun p hp => absurd hp (by simp)⟩
end
end PL
set_option Elab.async false
set_option linter.all false
set_option maxRecDepth 100000
set_option maxHeartbeats 4000000
namespace PL
open PySem L2
/-- the kinds -/
inductive KindM where
  | free (ss : List (List Nat)) (ps : Prs)
  | first (s : List Nat)
  | last (s : List Nat)
  | lot (s : List Nat)
def KindM.al : KindM → List Nat
  | .free ss _ => deeds ss.flatten
  | .first s => s
  | .last s => s
  | .lot s => s
def KindM.ok : KindM → Prop
  | .free ss ps => Cst ss ps ∧ ss.flatten.length ≤ 8
  | .first s => 1 ≤ s.length ∧ s.length ≤ 8 ∧ s.Pairwise (· < ·) ∧ ∀ c ∈ s, c ∈ LET
  | .last s => 1 ≤ s.length ∧ s.length ≤ 8 ∧ s.Pairwise (· < ·) ∧ ∀ c ∈ s, c ∈ LET
  | .lot s => 1 ≤ s.length ∧ s.length ≤ 8 ∧ s.Pairwise (· < ·) ∧ ∀ c ∈ s, c ∈ LET
def KindM.dat (K : Ks) (CC : Addr) : KindM → D
  | .free ss ps => freeK K.F CC ss ps
  | .first s => oneK K.C1 s
  | .last s => oneK K.C2 s
  | .lot s => oneK K.C3 s
theorem KindM.letr {m : KindM} (h : m.ok) : ∀ c ∈ m.al, c ∈ LET := by
  cases m with
  | free ss ps => exact fun c hc => h.1.letr c ((dL_mem h.1.letr c).mp hc)
  | _ => exact h.2.2.2
theorem em_in {ap : Nat → Nat → Bool} {R o : List Blk} (h : Em ap R o) : o.length = R.length ∧ ∀ b ∈ o, b ∈ R := by
  induction h with
  | nil => exact ⟨rfl, fun _ z => nomatch z⟩
  | cons m _ _ ih =>
    obtain ⟨m1, m2⟩ := mn_in m
    refine ⟨by rw [List.length_cons, ih.1, mn_len m], fun b hb => ?_⟩
    rcases List.mem_cons.mp hb with rfl | hb
    · exact m1
    · exact m2 _ (ih.2 b hb)
section
variable {ds : List D} {kd : KD} {kx : KX} {C CF CC : Addr} {ss : List (List Nat)} {ps : Prs} {K : Ks}
local instance : Tabl := ⟨[], fun p hp => absurd hp (by simp)⟩
end
end PL
set_option Elab.async false
set_option linter.all false
set_option maxRecDepth 100000
set_option maxHeartbeats 4000000
namespace PL
open PySem L2
section
variable {ds : List D} {kd : KD} {kx : KX} {C CF CC : Addr} {ss : List (List Nat)} {ps : Prs} {K : Ks}
local instance : Tabl := ⟨[], fun p hp => absurd hp (by simp)⟩
end
end PL
set_option Elab.async false
set_option linter.all false
set_option maxRecDepth 100000
set_option maxHeartbeats 4000000
namespace PL
open PySem L2
abbrev FREE : List Nat := [102, 114, 101, 101]
abbrev FIRST : List Nat := [102, 105, 114, 115, 116]
abbrev LAST : List Nat := [108, 97, 115, 116]
abbrev LOT : List Nat := [108, 111, 116]
def modT (w : List Nat) (ss : List (List Nat)) (ps : Prs) : D := .tup [.str w, .lst (ss.map .str), .lst (ps.map pdN)]
def modD : KindM → D
  | .free ss ps => modT FREE ss ps
  | .first s => modT FIRST [s] []
  | .last s => modT LAST [s] []
  | .lot s => modT LOT [s] []
section
variable {ds : List D} {kd : KD} {kx : KX} {C CF CC : Addr} {ss : List (List Nat)} {ps : Prs} {K : Ks}
local instance : Tabl := ⟨[], fun p hp => absurd hp (by simp)⟩
end
end PL
set_option Elab.async false
set_option linter.all false
set_option maxRecDepth 100000
set_option maxHeartbeats 4000000
namespace PL
open PySem L2
section
variable {ds : List D} {kd : KD} {kx : KX} {C CF CC : Addr} {ss : List (List Nat)} {ps : Prs} {K : Ks}
local instance : Tabl := ⟨[], fun p hp => absurd hp (by simp)⟩
end
end PL
set_option Elab.async false
set_option linter.all false
set_option maxRecDepth 100000
set_option maxHeartbeats 4000000
namespace PL
open PySem L2
end PL
set_option Elab.async false
set_option linter.all false
set_option maxRecDepth 100000
set_option maxHeartbeats 4000000
namespace PL
open PySem L2
end PL
set_option Elab.async false
set_option linter.all false
set_option maxRecDepth 100000
set_option maxHeartbeats 4000000
namespace PL
open PySem L2
section
variable {ds : List D} {kd : KD} {kx : KX} {C CF CC : Addr} {ss : List (List Nat)} {ps : Prs} {K : Ks} {m : KindM} {Γ : Ga} {tl : TL} {d : D} {i n : Nat} {nm : PySem.Str}
local instance : Tabl := ⟨[], fun p hp => absurd hp (by simp)⟩
end
end PL
set_option Elab.async false
set_option linter.all false
set_option maxRecDepth 100000
set_option maxHeartbeats 4000000
namespace PL
open PySem L2
end PL
set_option Elab.async false
set_option linter.all false
set_option maxRecDepth 100000
set_option maxHeartbeats 4000000
namespace PL
open PySem L2
def isSq (d : D) (l : List D) : Prop := d = .lst l ∨ d = .tup l
theorem isSq_len {d : D} {l : List D} (h : isSq d l) : fLenS d = fun k => k (.int (l.length : Nat)) := by
  rcases h with rfl | rfl <;> rfl
/-- whether a deed and the one behind it are of senders apart -/
def loose (ss : List (List Nat)) (ps : Prs) (v : List Nat) (i : Nat) : Bool := match v[i]?, v[i + 1]? with
  | some c, some d => decide (ownF ss c ≠ ownF ss d) && apP ps (ownF ss c) (ownF ss d)
  | _, _ => false
section
variable {ds : List D} {kd : KD} {kx : KX} {C CF CC : Addr} {ss : List (List Nat)} {ps : Prs} {K : Ks} {Γ : Ga} {t : TP}
local instance : Tabl := ⟨[], fun p hp => absurd hp (by simp)⟩
theorem evl_tiSq {l : List D} {d : D} (h : Ev t Γ d) (hd : isSq d l) : EvL (tiSq t) Γ l := fun k kx z => h _ _ (by rcases hd with rfl | rfl <;> exact z)
end
end PL
set_option Elab.async false
set_option linter.all false
set_option maxRecDepth 100000
set_option maxHeartbeats 4000000
namespace PL
open PySem L2
section
variable {Γ : Ga} {t ta tb : TP} {tl tk : TL} {ds es : List D} {n m l : Nat} {C C' : Addr} {fs : List (PySem.Str × D)} {g : FSo} {is : List Nat} {cb cc : TB} {b c : Bool}
local instance : Tabl := ⟨[], fun p hp => absurd hp (by simp)⟩
theorem ev_make (h : EvL tl Γ ds) (hn : ds.length = n) (hg : ∀ (k : D → D → Prop) kx, k .non (.ins C' fs) → g (.ins C [] :: ds) k kx) : Ev (tpMake C g n tl) Γ (.ins C' fs) := fun k kx z => h _ _ ⟨hn, hg _ _ ⟨rfl, z⟩⟩
theorem evb_or (h : EvB cb Γ b) (g : EvB cc Γ c) : EvB (tbOr cb cc) Γ (b || c) := by
  cases b
  · exact evb_orF h g
  · exact evb_orT h
end
end PL
set_option Elab.async false
set_option linter.all false
set_option maxRecDepth 100000
set_option maxHeartbeats 4000000
namespace PL
def Sq (x : List Nat) : Prop := ∃ p u q, u ≠ [] ∧ x = p ++ (u ++ (u ++ q))
def Md (x : List Nat) : Prop := ∃ p u m w q, m ≠ [] ∧ x = p ++ (u ++ (m ++ (w ++ q))) ∧ (∀ c, c ∈ u ↔ c ∈ w) ∧ ∀ c ∈ m, c ∈ u
theorem Sq.sub {x : List Nat} (p q : List Nat) (h : Sq x) : Sq (p ++ (x ++ q)) := by
  obtain ⟨p', u, q', hu, e⟩ := h
  exact ⟨p ++ p', u, q' ++ q, hu, by rw [e]; simp⟩
theorem Md.sub {x : List Nat} (p q : List Nat) (h : Md x) : Md (p ++ (x ++ q)) := by
  obtain ⟨p', u, m, w, q', hm0, e, h1, h2⟩ := h
  exact ⟨p ++ p', u, m, w, q' ++ q, hm0, by rw [e]; simp, h1, h2⟩
end PL
set_option Elab.async false
set_option linter.all false
set_option maxRecDepth 100000
set_option maxHeartbeats 4000000
namespace PL
open PySem L2
end PL
set_option Elab.async false
set_option linter.all false
set_option maxRecDepth 100000
set_option maxHeartbeats 4000000
namespace PL
open PySem L2
section
variable {ds : List D} {kd : KD} {kx : KX} {Γ : Ga} {ta tb : TP}
local instance : Tabl := ⟨[], fun p hp => absurd hp (by simp)⟩
end
end PL
set_option Elab.async false
set_option linter.all false
set_option maxRecDepth 100000
set_option maxHeartbeats 4000000
namespace PL
open PySem L2
section
variable {ds : List D} {kd : KD} {kx : KX} {ss : List (List Nat)} {ps : Prs} {v : List Nat} {Γ : Ga} {ta tb : TP}
local instance : Tabl := ⟨[], fun p hp => absurd hp (by simp)⟩
theorem ev_neI {a b : Int} (h : Ev ta Γ (.int a)) (g : Ev tb Γ (.int b)) : Ev (tpOp fNe ta tb) Γ (.bl (!decide (a = b))) := ev_op h g fun k z => ⟨⟨rfl, rfl, Nat.zero_le _, Nat.zero_le _⟩, by
  have e : eqD (.int a) (.int b) = decide (a = b) := by
    by_cases q : a = b
    · rw [q, decide_eq_true rfl]
      exact beq_iff_eq.mpr rfl
    · rw [decide_eq_false q]
      exact beq_eq_false_iff_ne.mpr q
  rw [e]
  exact z⟩
theorem ev_all {bs : List Bool} {t : TP} (h : Ev t Γ (.lst (bs.map .bl))) : Ev (tp1 fAll t) Γ (.bl (bs.all id)) := ev_1 h fun k z => by
  show onBs (bs.map D.bl) _
  rw [onBs_map]
  exact z
abbrev hG (ss : List (List Nat)) (ps : Prs) (v : List Nat) (W : List Blk) (fo : List D) (s4 s5 s6 s7 s8 s9 : Sl) : Ga := [.pu (modD (.free ss ps)), .pu (.str v), .ow (.lst (W.map blkD)), .ow (.lst fo), s4, s5, s6, s7, s8, s9]
end
end PL
set_option Elab.async false
set_option linter.all false
set_option maxRecDepth 100000
set_option maxHeartbeats 4000000
namespace PL
open PySem L2
section
variable {ds : List D} {kd : KD} {kx : KX} {Γ : Ga} {t : TP} {tl : TL} {es : List D} {d : D} {l i n : Nat} {nm : PySem.Str} {K : Ks} {CC : Addr} {m : KindM}
local instance : Tabl := ⟨[], fun p hp => absurd hp (by simp)⟩
end
end PL
set_option Elab.async false
set_option linter.all false
set_option maxRecDepth 100000
set_option maxHeartbeats 4000000
namespace PL
open PySem L2 PyProof.Rows
end PL
set_option Elab.async false
set_option linter.all false
set_option maxRecDepth 100000
set_option maxHeartbeats 4000000
namespace PL
open PySem L2
end PL
set_option Elab.async false
set_option linter.all false
set_option maxRecDepth 100000
set_option maxHeartbeats 4000000
namespace PL
open PySem L2
section
variable {ds : List D} {kd : KD} {kx : KX} {C CF CC CX : Addr} {ss : List (List Nat)} {ps : Prs} {Γ : Ga} {t ta tb : TP} {tl : TL} {d x y : D} {n : Nat}
local instance : Tabl := ⟨[], fun p hp => absurd hp (by simp)⟩
theorem ev_and {b c : Bool} (h : Ev ta Γ (.bl b)) (g : b = true → Ev tb Γ (.bl c)) (e : b = false → c = false) : Ev (tpAnd ta tb) Γ (.bl c) := fun k kx z => h _ _ (by
  cases b
  · rw [e rfl] at z
    exact z
  · exact g rfl _ _ z)
end
end PL
set_option Elab.async false
set_option linter.all false
set_option maxRecDepth 100000
set_option maxHeartbeats 4000000
set_option Elab.async false
set_option linter.all false
set_option maxRecDepth 100000
set_option maxHeartbeats 4000000
namespace PL
open PySem L2
abbrev REP : List Nat := [114, 101, 112, 101, 97, 116]
abbrev MID : List Nat := [109, 105, 100, 100, 108, 101]
abbrev AGN : List Nat := [97, 103, 97, 105, 110]
abbrev LAT : List Nat := [108, 97, 116, 101, 114]
abbrev nD (n : Nat) : D := .int (n : Nat)
section
variable {ds : List D} {kd : KD} {kx : KX} {C CF CC CX : Addr} {ss : List (List Nat)} {ps : Prs} {Γ : Ga} {t ta tb : TP} {tl : TL} {d x y : D} {n : Nat}
local instance : Tabl := ⟨[], fun p hp => absurd hp (by simp)⟩
/-- a step that cuts, and the log behind it -/
inductive Way : KindM → List Nat → D → List Nat → Prop
  | rep {ss : List (List Nat)} {ps : Prs} {p u q : List Nat} {s : Nat} : u ≠ [] → (∀ c ∈ u, ownF ss c = s) → Way (.free ss ps) (p ++ (u ++ (u ++ q))) (.tup [.str REP, nD p.length, nD u.length]) (p ++ (u ++ q))
  | mid {ss : List (List Nat)} {ps : Prs} {p u m w q : List Nat} {s : Nat} : u ≠ [] → m ≠ [] → w ≠ [] → (∀ c, c ∈ u ↔ c ∈ w) → (∀ c ∈ m, c ∈ u) → (∀ c ∈ u, ownF ss c = s) →
      Way (.free ss ps) (p ++ (u ++ (m ++ (w ++ q)))) (.tup [.str MID, nD p.length, nD u.length, nD m.length, nD w.length]) (p ++ (u ++ (w ++ q)))
  | agn {s p q : List Nat} {c : Nat} : c ∈ p → Way (.first s) (p ++ (c :: q)) (.tup [.str AGN, nD p.length]) (p ++ q)
  | lat {s p q : List Nat} {c : Nat} : c ∈ q → Way (.last s) (p ++ (c :: q)) (.tup [.str LAT, nD p.length]) (p ++ q)
theorem Way.tup {m : KindM} {v w : List Nat} {st : D} (h : Way m v st w) : ∃ a b r, st = .tup (a :: b :: r) := by
  cases h <;> exact ⟨_, _, _, rfl⟩
end
end PL
set_option Elab.async false
set_option linter.all false
set_option maxRecDepth 100000
set_option maxHeartbeats 4000000
namespace PL
open PySem L2
section
variable {ds : List D} {kd : KD} {kx : KX} {Γ : Ga} {t ta tb : TP} {d x y : D} {n : Nat}
local instance : Tabl := ⟨[], fun p hp => absurd hp (by simp)⟩
end
end PL
set_option Elab.async false
set_option linter.all false
set_option maxRecDepth 100000
set_option maxHeartbeats 4000000
namespace PL
open PySem L2
section
variable {ds : List D} {kd : KD} {kx : KX} {Γ : Ga} {t ta tb : TP} {d x y : D} {n : Nat}
local instance : Tabl := ⟨[], fun p hp => absurd hp (by simp)⟩
end
end PL
set_option Elab.async false
set_option linter.all false
set_option maxRecDepth 100000
set_option maxHeartbeats 4000000
namespace PL
open PySem L2
end PL
set_option Elab.async false
set_option linter.all false
set_option maxRecDepth 100000
set_option maxHeartbeats 4000000
namespace PL
open PySem L2
section
variable {ap : Nat → Nat → Bool} {own : Nat → Nat}
theorem em_len {R o : List Blk} (h : Em ap R o) : o.length = R.length := (em_in h).1
end
end PL
set_option Elab.async false
set_option linter.all false
set_option maxRecDepth 100000
set_option maxHeartbeats 4000000
namespace PL
open PySem L2
def one (ss : List (List Nat)) (u : List Nat) : Bool := decide (∀ d ∈ u, ∀ e ∈ u, ownF ss d = ownF ss e)
abbrev sub' (v : List Nat) (i n : Nat) : List Nat := (v.drop i).take n
section
variable {ds : List D} {kd : KD} {kx : KX} {C CF CC CX : Addr} {ss : List (List Nat)} {ps : Prs} {Γ : Ga} {t ta tb tc : TP} {tl : TL} {d x y : D} {n : Nat} {cb : TB} {P : PEn} {u s r : TSp} {b : Bool}
local instance : Tabl := ⟨[], fun p hp => absurd hp (by simp)⟩
theorem st_if1B (h : EvB cb Γ b) (ht : b = true → s P Γ) (hf : b = false → r P Γ) : tsIf cb s r P Γ := by
  cases b
  · exact st_if1F h (hf rfl)
  · exact st_if1T h (ht rfl)
theorem ev_gtI {a b : Int} (h : Ev ta Γ (.int a)) (g : Ev tb Γ (.int b)) : Ev (tpOp fGt ta tb) Γ (.bl (decide (b < a))) := ev_op h g fun k z => z
theorem ev_ltI {a b : Int} (h : Ev ta Γ (.int a)) (g : Ev tb Γ (.int b)) : Ev (tpOp fLt ta tb) Γ (.bl (decide (a < b))) := ev_op h g fun k z => z
end
end PL
set_option Elab.async false
set_option linter.all false
set_option maxRecDepth 100000
set_option maxHeartbeats 4000000
namespace PL
open PySem L2
section
variable {ds : List D} {kd : KD} {kx : KX} {C CF CC CX : Addr} {ss : List (List Nat)} {ps : Prs} {Γ : Ga} {t ta tb tc : TP} {tl : TL} {d x y : D} {n : Nat} {cb : TB} {P : PEn} {u s r : TSp} {b : Bool} {K : Ks}
local instance : Tabl := ⟨[], fun p hp => absurd hp (by simp)⟩
end
end PL
set_option Elab.async false
set_option linter.all false
set_option maxRecDepth 100000
set_option maxHeartbeats 4000000
namespace PL
open PySem L2
section
variable {ds : List D} {kd : KD} {kx : KX} {C CF CC CX : Addr} {ss : List (List Nat)} {ps : Prs} {Γ : Ga} {t ta tb tc : TP} {tl : TL} {d x y : D} {n : Nat} {cb : TB} {P : PEn} {u s r : TSp} {b : Bool} {K : Ks}
local instance : Tabl := ⟨[], fun p hp => absurd hp (by simp)⟩
end
end PL
set_option Elab.async false
set_option linter.all false
set_option maxRecDepth 100000
set_option maxHeartbeats 4000000
namespace PL
open PySem L2
section
variable {ds : List D} {kd : KD} {kx : KX} {C CF CC CX : Addr} {ss : List (List Nat)} {ps : Prs} {Γ : Ga} {t ta tb tc : TP} {tl : TL} {d x y : D} {n : Nat} {cb : TB} {P : PEn} {u s r : TSp} {b : Bool} {K : Ks}
local instance : Tabl := ⟨[], fun p hp => absurd hp (by simp)⟩
end
end PL
set_option Elab.async false
set_option linter.all false
set_option maxRecDepth 100000
set_option maxHeartbeats 4000000
namespace PL
open PySem L2
/-- the expression raises x -/
def EvX (t : TP) (Γ : Ga) (x : XD) : Prop := ∀ (k : KD) (kx : KX), kx x → t Γ k kx
section
local instance : Tabl := ⟨[], fun p hp => absurd hp (by simp)⟩
variable {Γ : Ga} {t ta tb : TP} {tl : TL} {d : D} {ds : List D} {i n : Nat} {KK : PySem.W.Frag} {C0 C1 C2 C3 C4 C5 C6 C7 C8 C9 C10 C11 : Addr} {CX : Addr} {T : List Nat} {x : XD} {nm : PySem.Str}
theorem evx_meth {C : Addr} {fs : List (PySem.Str × D)} {ms : List (Addr × FS)} {f : FS} (h : Ev t Γ (.ins C fs)) (hno : fs.lookup nm = none) (hm : (C, f) ∈ ms) (hl : EvL tl Γ ds) (hn : ds.length = n) (hf : ∀ (k : KD) (kx : KX), kx x → f (.ins C fs :: ds) k kx) : EvX (tpMeth ms nm n t tl) Γ x := fun k kx z => h _ _ (by
  show fs.lookup nm = none ∧ ∃ f, (C, f) ∈ ms ∧ tl Γ (fun ds => ds.length = n ∧ f (.ins C fs :: ds) k kx) kx
  exact ⟨hno, f, hm, hl _ _ ⟨hn, hf k kx z⟩⟩)
end
end PL
set_option Elab.async false
set_option linter.all false
set_option maxRecDepth 100000
set_option maxHeartbeats 4000000
namespace PL
open PySem L2
end PL
set_option Elab.async false
set_option linter.all false
set_option maxRecDepth 100000
set_option maxHeartbeats 4000000
namespace PL
open PySem L2
section
variable {ds : List D} {kd : KD} {kx : KX} {Γ : Ga} {t ta tb : TP} {d x y : D} {n : Nat}
local instance : Tabl := ⟨[], fun p hp => absurd hp (by simp)⟩
variable {P : PEn} {s r : TSp}
end
end PL
set_option Elab.async false
set_option linter.all false
set_option maxRecDepth 100000
set_option maxHeartbeats 4000000
namespace PL
open PySem L2
section
variable {ds : List D} {kd : KD} {kx : KX} {C CF CC CX : Addr} {ss : List (List Nat)} {ps : Prs} {Γ : Ga} {t ta tb tc : TP} {tl : TL} {d x y : D} {n : Nat} {cb : TB} {P : PEn} {u s r : TSp} {b : Bool} {K : Ks}
local instance : Tabl := ⟨[], fun p hp => absurd hp (by simp)⟩
end
end PL
set_option Elab.async false
set_option linter.all false
set_option maxRecDepth 100000
set_option maxHeartbeats 4000000
namespace PL
open PySem L2
section
variable {Γ : Ga} {t ta tb : TP} {ts : List TP} {s : List Nat} {ss : List (List Nat)} {i : Int} {d : D} {cs : List (Addr × Bool)} {C : Addr} {fs : List (PySem.Str × D)} {b : Bool}
local instance : Tabl := ⟨[], fun p hp => absurd hp (by simp)⟩
theorem ev_isX (h : Ev t Γ (.ins C fs)) (hm : (C, b) ∈ cs) : Ev (tpIsX cs t) Γ (.bl b) := fun k kx z => h _ _ (show ∃ b, (C, b) ∈ cs ∧ k (.bl b) from ⟨b, hm, z⟩)
theorem ev_isXn (h : Ev t Γ d) (hd : (tyD d).isSome = true) : Ev (tpIsX cs t) Γ (.bl false) := fun k kx z => h _ _ (by
  cases d with
  | ins C fs => cases hd
  | _ => exact ⟨hd, z⟩)
end
section
variable {ds : List D} {kd : KD} {kx : KX} {C CF CC CX CG : Addr} {ss : List (List Nat)} {ps : Prs} {Γ : Ga} {t ta tb tc : TP} {tl : TL} {d x y : D} {n : Nat} {cb : TB} {P : PEn} {u s r : TSp} {b : Bool} {K : Ks} {m : KindM}
local instance : Tabl := ⟨[], fun p hp => absurd hp (by simp)⟩
end
end PL
set_option Elab.async false
set_option linter.all false
set_option maxRecDepth 100000
set_option maxHeartbeats 4000000
namespace PL
open PySem L2
section
variable {ds : List D} {kd : KD} {kx : KX} {C CF CC CX CG : Addr} {ss : List (List Nat)} {ps : Prs} {Γ : Ga} {t ta tb tc tj : TP} {tl : TL} {d e x y : D} {n i : Nat} {cb : TB} {P : PEn} {s r : TSp} {b : Bool} {K : Ks} {m : KindM} {u v w : List Nat}
local instance : Tabl := ⟨[], fun p hp => absurd hp (by simp)⟩
end
end PL
set_option Elab.async false
set_option linter.all false
set_option maxRecDepth 100000
set_option maxHeartbeats 4000000
namespace PL
open PySem L2
end PL
set_option Elab.async false
set_option linter.all false
set_option maxRecDepth 100000
set_option maxHeartbeats 4000000
namespace PL
open PySem L2
end PL
set_option Elab.async false
set_option linter.all false
set_option maxRecDepth 100000
set_option maxHeartbeats 4000000
namespace PL
open PySem L2
section
variable {ds : List D} {kd : KD} {kx : KX} {C CF CC : Addr}
local instance : Tabl := ⟨[], fun p hp => absurd hp (by simp)⟩
end
end PL
set_option Elab.async false
set_option linter.all false
set_option maxRecDepth 100000
set_option maxHeartbeats 4000000
namespace PL
open PySem L2
section
variable {ds : List D} {kd : KD} {kx : KX} {C CF CC : Addr}
local instance : Tabl := ⟨[], fun p hp => absurd hp (by simp)⟩
end
end PL
set_option Elab.async false
set_option linter.all false
set_option maxRecDepth 100000
set_option maxHeartbeats 4000000
namespace PL
open PySem L2
section
variable {ds : List D} {kd : KD} {kx : KX} {C CF CC : Addr}
local instance : Tabl := ⟨[], fun p hp => absurd hp (by simp)⟩
end
end PL
set_option Elab.async false
set_option linter.all false
set_option maxRecDepth 100000
set_option maxHeartbeats 4000000
namespace PL
open PySem L2
section
variable {ds : List D} {kd : KD} {kx : KX} {C CF CC : Addr}
local instance : Tabl := ⟨[], fun p hp => absurd hp (by simp)⟩
end
end PL
set_option Elab.async false
set_option linter.all false
set_option maxRecDepth 100000
set_option maxHeartbeats 4000000
namespace PL
open PySem L2
section
variable {ds : List D} {kd : KD} {kx : KX} {Γ : Ga} {t : TP} {tl : TL} {i n : Nat} {d : D} {P : PEn} {u : TSp}
local instance : Tabl := ⟨[], fun p hp => absurd hp (by simp)⟩
theorem ev_slL {l : List D} {lo hi : Option Int} {tlo thi : TO'} (h : Ev t Γ (.lst l)) (hlo : ∀ (k : Option Int → Prop) kx, k lo → tlo Γ k kx) (hhi : ∀ (k : Option Int → Prop) kx, k hi → thi Γ k kx) : Ev (tpSl t tlo thi) Γ (.lst (cutL l lo hi)) := fun k kx z => h _ _ (hlo _ _ (hhi _ _ z))
variable {ss : List (List Nat)} {ps : Prs}
end
end PL
set_option Elab.async false
set_option linter.all false
set_option maxRecDepth 100000
set_option maxHeartbeats 4000000
namespace PL
open PySem L2
def rl (ss : List (List Nat)) (ps : Prs) (v : List Nat) : Nat := (runB (apP ps) (ownF ss) v []).length
/-- a log of a free kind -/
def lgF (ss : List (List Nat)) (ps : Prs) (v : List Nat) : Prop := (KindM.free ss ps).ok ∧ v.length ≤ 3000 ∧ ∀ c ∈ v, c ∈ ss.flatten
section
variable {ds : List D} {kd : KD} {kx : KX} {C CF CC CT : Addr} {ss : List (List Nat)} {ps : Prs} {os : List Nat}
local instance : Tabl := ⟨[], fun p hp => absurd hp (by simp)⟩
variable {Γ : Ga} {tl : TL}
theorem lgF.own {v : List Nat} (h : lgF ss ps v) : ∀ c ∈ v, c ∈ deeds ss.flatten := fun c hc => (dL_mem h.1.1.letr c).mpr (h.2.2 c hc)
end
end PL
set_option Elab.async false
set_option linter.all false
set_option maxRecDepth 100000
set_option maxHeartbeats 4000000
namespace PL
open PySem L2
abbrev ILOG : List Nat := [73, 110, 118, 97, 108, 105, 100, 76, 111, 103]
def ilX (CL : Addr) (d : D) : XD := ⟨.ref CL, [(("given" : PySem.Str), d), (("tag" : PySem.Str), .str ILOG)]⟩
/-- more than two hundred blocks -/
def bigL : KindM → List Nat → Prop
  | .free ss ps, v => v.length ≤ 3000 ∧ (∀ c ∈ v, c ∈ ss.flatten) ∧ 200 < rl ss ps v
  | _, _ => False
section
variable {ds : List D} {kd : KD} {kx : KX} {C CF CC CX CG CT CL CN CD : Addr} {ss : List (List Nat)} {ps : Prs} {Γ : Ga} {t ta tb tc tj : TP} {tl : TL} {d e y : D} {x : XD} {n i : Nat} {cb : TB} {P : PEn} {r : TSp} {b : Bool} {K : Ks} {m : KindM} {u v w : List Nat}
local instance : Tabl := ⟨[], fun p hp => absurd hp (by simp)⟩
theorem bigL.al {m : KindM} (hm : m.ok) (h : bigL m v) : v.length ≤ 3000 ∧ ∀ c ∈ v, c ∈ m.al := by
  cases m with
  | free ss ps => exact ⟨h.1, fun c hc => (dL_mem hm.1.letr c).mpr (h.2.1 c hc)⟩
  | _ => exact h.elim
end
end PL
set_option Elab.async false
set_option linter.all false
set_option maxRecDepth 100000
set_option maxHeartbeats 4000000
namespace PL
open PySem L2
section
variable {ds : List D} {kd : KD} {kx : KX} {Γ : Ga} {tl : TL} {i n : Nat} {ta tb : TP}
local instance : Tabl := ⟨[], fun p hp => absurd hp (by simp)⟩
theorem ev_mulL {xs : List D} {n : Int} (h : Ev ta Γ (.lst xs)) (g : Ev tb Γ (.int n)) (h1 : n < 2 ^ 60) (h2 : -(2 ^ 60) < n) (h3 : xs.length * n.toNat ≤ sizeLine) : Ev (tpOp fMul ta tb) Γ (.lst (List.replicate n.toNat xs).flatten) := ev_op h g fun k z => ⟨h1, h2, h3, z⟩
end
end PL
set_option Elab.async false
set_option linter.all false
set_option maxRecDepth 100000
set_option maxHeartbeats 4000000
namespace PL
open PySem L2
abbrev REPW : List Nat := [114, 101, 112, 101, 97, 116]
/-- values that are asked whether they are logs -/
def okV2 (d : D) : Prop := (tyD d).isSome = true ∧ ∀ v, d = .str v → v.length ≤ 3000
def goodV (s : List Nat) : D → Bool
  | .str v => v.all fun c => decide (c ∈ s)
  | _ => false
def fsIsLogV : FS := fun ds k _ => match ds with
  | [d, .str s] => okV2 d ∧ k (.bl (goodV s d))
  | _ => False
def fsNeedV (CL : Addr) : FS := fun ds k kx => match ds with
  | [d, .str s] => okV2 d ∧ (goodV s d = true → k .non) ∧ (goodV s d = false → kx (ilX CL d))
  | _ => False
def plB (n : Int) : D → Bool
  | .int i => decide (0 ≤ i) && decide (i < n)
  | _ => false
/-- no step of any kind -/
structure Odd (w p : D) (zs : List D) : Prop where
  pw : D.plain w = true
  dw : D.dep w ≤ 64
  pz : D.plainL zs = true
  dz : D.depL zs ≤ 60
  tp : (tyD p).isSome = true
  tz : ∀ z ∈ zs, (tyD z).isSome = true
  lz : zs.length ≤ 1
  odd : (∀ s, w ≠ .str s) ∨ (∀ i, p ≠ .int i) ∨ (w = .str REPW ∧ ∃ z, zs = [z] ∧ ∀ i, z ≠ .int i)
section
variable {ds : List D} {kd : KD} {kx : KX} {C CF CC CX CG CT CL CN CD : Addr} {ss : List (List Nat)} {ps : Prs} {Γ : Ga} {t ta tb tc tj : TP} {tl : TL} {d e y w p : D} {zs : List D} {x : XD} {n i : Nat} {cb : TB} {P : PEn} {r : TSp} {b : Bool} {K : Ks} {m : KindM} {u v : List Nat}
local instance : Tabl := ⟨[], fun p hp => absurd hp (by simp)⟩
theorem isLogV_ok' : fsIsLogV ds kd kx → m_is_log_of ds kd kx := by
  intro h0
  match ds, h0 with
  | [d, .str s], ⟨⟨ht, hz⟩, h⟩ =>
    cases d with
    | str v => exact is_log_of_ok' ⟨hz v rfl, h⟩
    | non => exact h
    | bl _ => exact h
    | int _ => exact h
    | lst _ => exact h
    | tup _ => exact h
    | dct _ => exact h
    | _ => cases ht
theorem needV_ok' : fsNeedV CL ds kd kx → mx_need_log_of CL fsIsLogV ds kd kx := by
  intro h0
  match ds, h0 with
  | [d, .str s], ⟨h1, h2, h3⟩ =>
    let G : Ga := [.pu d, .pu (.str s)]
    have c : Ev (tpCall 2 fsIsLogV (tlCons (tpVar 0) (tlCons (tpVar 1) tlNil))) G (.bl (goodV s d)) := ev_call (evl_2 (ev_var rfl) (ev_var rfl)) rfl fun k kx z => ⟨h1, z⟩
    refine st_if1B (Γ := G) (evb_not (evb_v c)) (fun e => ?_) (fun e => ?_)
    · exact h3 (by simpa using e)
    · exact h2 (by simpa using e)
theorem goodV_str {s v : List Nat} (h : ∀ c ∈ v, c ∈ s) : goodV s (.str v) = true := List.all_eq_true.mpr fun c hc => decide_eq_true (h c hc)
theorem eq_ns {s : List Nat} (h : ∀ s, w ≠ .str s) : eqD w (.str s) = false := by
  cases w with
  | str s => exact absurd rfl (h s)
  | _ => rfl
theorem pl_ni {n : Int} (h : ∀ i, p ≠ .int i) : plB n p = false := by
  cases p with
  | int i => exact absurd rfl (h i)
  | _ => rfl
theorem Odd.one {s : List Nat} {n : Int} (o : Odd w p zs) (hs : REPW ≠ s) : eqD w (.str s) = false ∨ plB n p = false := by
  rcases o.odd with h | h | ⟨rfl, _⟩
  · exact .inl (eq_ns h)
  · exact .inr (pl_ni h)
  · exact .inl (by rw [eqD_str]; exact decide_eq_false hs)
end
end PL
set_option Elab.async false
set_option linter.all false
set_option maxRecDepth 100000
set_option maxHeartbeats 4000000
namespace PL
open PySem L2
abbrev IDDS : List Nat := [73, 110, 118, 97, 108, 105, 100, 68, 101, 101, 100, 115]
abbrev idX (CD : Addr) (d : D) : XD := ⟨.ref CD, [(("given" : PySem.Str), d), (("tag" : PySem.Str), .str IDDS)]⟩
/-- whether the signs ascend -/
def ltB (s : List Nat) (i : Nat) : Bool := decide ([s.getD (i - 1) 0] < [s.getD i 0])
def ascB (s : List Nat) : Bool := ((List.range (s.length - 1)).map (· + 1)).all fun i => ltB s i
def goodDs : D → Bool
  | .str s => isLog (.str s) && (decide (1 ≤ s.length) && (decide (s.length ≤ 8) && ascB s))
  | _ => false
def fsAscX : FS := fun ds k _ => match ds with
  | [.str s] => s.length ≤ 3000 ∧ k (.bl (ascB s))
  | _ => False
def fsIsDeedsX : FS := fun ds k _ => match ds with
  | [d] => goodL d ∧ k (.bl (goodDs d))
  | _ => False
def fsNeedDsX (CD : Addr) : FS := fun ds k kx => match ds with
  | [d] => goodL d ∧ ((∃ al, d = .str al ∧ okA al ∧ k .non) ∨ (goodDs d = false ∧ kx (idX CD d)))
  | _ => False
section
variable {ds : List D} {kd : KD} {kx : KX} {CD : Addr} {Γ : Ga} {tl : TL} {i n : Nat} {ta tb : TP}
local instance : Tabl := ⟨[], fun p hp => absurd hp (by simp)⟩
theorem gd {s : List Nat} {j : Nat} (h : j < s.length) : s.getD j 0 = s[j] := by
  rw [List.getD_eq_getElem?_getD, List.getElem?_eq_getElem h]
  rfl
theorem asc_of {s : List Nat} (h : s.Pairwise (· < ·)) : ascB s = true := by
  unfold ascB
  rw [List.all_eq_true]
  intro i hi
  obtain ⟨j, hj, rfl⟩ := List.mem_map.mp hi
  have hj := List.mem_range.mp hj
  have a1 : j < s.length := by omega
  have a2 : j + 1 < s.length := by omega
  have lt : s[j] < s[j + 1] := List.pairwise_iff_getElem.mp h j (j + 1) a1 a2 (Nat.lt_succ_self j)
  refine decide_eq_true ?_
  rw [Nat.add_sub_cancel, gd a1, gd a2, List.cons_lt_cons_iff]
  exact .inl lt
theorem ascX_ok' : fsAscX ds kd kx → m_is_ascending ds kd kx := by
  intro h0
  match ds, h0 with
  | [.str s], ⟨hl, h⟩ =>
    have big : s.length ≤ sizeLine := Nat.le_trans hl (by decide)
    refine ⟨big, ⟨by decide, by decide, by omega, by omega⟩, ?_⟩
    have e : (List.range (((s.length : Nat) : Int) - 1).toNat).map (fun i => D.int (1 + (i : Nat))) = ((List.range (s.length - 1)).map (· + 1)).map fun i => D.int (i : Nat) := by
      rw [List.map_map, show (((s.length : Nat) : Int) - 1).toNat = s.length - 1 by omega]
      refine List.map_congr_left fun i _ => ?_
      show D.int _ = D.int _
      congr 1
      show (1 : Int) + (i : Nat) = ((i + 1 : Nat) : Int)
      omega
    show (List.map _ (List.range (((s.length : Nat) : Int) - 1).toNat)).length ≤ 100000 ∧ lcW _ _ _ _ (List.map _ (List.range (((s.length : Nat) : Int) - 1).toNat)) _
    rw [e]
    refine ⟨by rw [List.length_map, List.length_map, List.length_range]; omega, ?_⟩
    refine lc_rng (f := fun i => .bl (ltB s i)) _ (fun i hi k' h' => ?_) ?_
    · obtain ⟨j, hj, rfl⟩ := List.mem_map.mp hi
      have hj := List.mem_range.mp hj
      have a1 : j < s.length := by omega
      have a2 : j + 1 < s.length := by omega
      refine ⟨big, ?_⟩
      show (match atI s (((j + 1 : Nat) : Int) - 1) with | some c => _ | none => False)
      rw [show (((j + 1 : Nat) : Int) - 1) = (j : Nat) by omega, at_nat s j a1]
      refine ⟨big, ?_⟩
      show (match atI s ((j + 1 : Nat) : Int) with | some c => _ | none => False)
      rw [at_nat s (j + 1) a2]
      show k' (.bl (decide ([s[j]] < [s[j + 1]])))
      have e : ltB s (j + 1) = decide ([s[j]] < [s[j + 1]]) := by
        unfold ltB
        rw [Nat.add_sub_cancel, gd a1, gd a2]
      rw [← e]
      exact h'
    · have e2 : (((List.range (s.length - 1)).map (· + 1)).map fun i => D.bl (ltB s i)) = (((List.range (s.length - 1)).map (· + 1)).map fun i => ltB s i).map D.bl := by rw [List.map_map (g := D.bl)]; rfl
      show onBs (((List.range (s.length - 1)).map (· + 1)).map fun i => D.bl (ltB s i)) _
      rw [e2, onBs_map]
      have : ((((List.range (s.length - 1)).map (· + 1)).map fun i => ltB s i).all id) = ascB s := by
        unfold ascB
        rw [List.all_map]
        rfl
      rw [this]
      exact h
theorem is_deedsX_ok' : fsIsDeedsX ds kd kx → m_is_deeds fsIsLog fsAscX ds kd kx := by
  intro h0
  match ds, h0 with
  | [d], ⟨g, h⟩ =>
    let G : Ga := [.pu d]
    have il : Ev (tpCall 1 fsIsLog (tlCons (tpVar 0) tlNil)) G (.bl (isLog d)) := ev_call (evl_1 (ev_var rfl)) rfl fun k kx z => ⟨g, z⟩
    cases hd : isLog d with
    | false =>
      rw [hd] at il
      have e : goodDs d = false := by
        cases d with
        | str s =>
          show (isLog (.str s) && _) = false
          rw [hd, Bool.false_and]
        | _ => rfl
      rw [e] at h
      exact st_ret (Γ := G) (ev_and (c := false) il (fun z => by cases z) fun _ => rfl) h
    | true =>
      rw [hd] at il
      obtain ⟨s, rfl⟩ : ∃ s, d = .str s := by
        cases d with
        | str s => exact ⟨s, rfl⟩
        | _ => cases hd
      have ls := g.2 s rfl
      have big : s.length ≤ sizeLine := Nat.le_trans ls (by decide)
      have e : goodDs (.str s) = (decide (1 ≤ s.length) && (decide (s.length ≤ 8) && ascB s)) := by
        show (isLog (.str s) && _) = _
        rw [hd, Bool.true_and]
      have ch : Ev (tpChain fLe fLe (tpC (.int 1)) (tp1 fLenS (tpVar 0)) (tpC (.int 8))) G (.bl (decide (1 ≤ s.length) && decide (s.length ≤ 8))) := fun k kx z => by
        refine ⟨big, ?_⟩
        show (if decide ((1 : Int) ≤ (s.length : Nat)) = true then _ else _)
        by_cases h1 : 1 ≤ s.length
        · rw [decide_eq_true h1, Bool.true_and] at z
          rw [decide_eq_true (show (1 : Int) ≤ (s.length : Nat) by omega), if_pos rfl]
          show k (.bl (decide (((s.length : Nat) : Int) ≤ 8)))
          rw [show decide (((s.length : Nat) : Int) ≤ 8) = decide (s.length ≤ 8) from decide_eq_decide.mpr (by omega)]
          exact z
        · rw [decide_eq_false h1, Bool.false_and] at z
          rw [decide_eq_false (show ¬ (1 : Int) ≤ (s.length : Nat) by omega), if_neg Bool.false_ne_true]
          exact z
      have as : Ev (tpCall 1 fsAscX (tlCons (tpVar 0) tlNil)) G (.bl (ascB s)) := ev_call (evl_1 (ev_var rfl)) rfl fun k kx z => ⟨ls, z⟩
      rw [e] at h
      refine st_ret (Γ := G) (ev_and (c := decide (1 ≤ s.length) && (decide (s.length ≤ 8) && ascB s)) il (fun _ => ev_and ch (fun q => ?_) (fun q => ?_)) (fun z => by cases z)) h
      · rw [Bool.and_eq_true] at q
        rw [q.1, q.2, Bool.true_and, Bool.true_and]
        exact as
      · rw [← Bool.and_assoc, q, Bool.false_and]
theorem good_of {al : List Nat} (h : okA al) : goodDs (.str al) = true := by
  obtain ⟨a1, a2, a3, a4⟩ := h
  show (al.all _ && (decide (1 ≤ al.length) && (decide (al.length ≤ 8) && ascB al))) = true
  rw [decide_eq_true a1, decide_eq_true a2, asc_of a3, Bool.and_true, Bool.and_true, Bool.and_true]
  exact List.all_eq_true.mpr fun c hc => decide_eq_true (a4 c hc)
theorem goodL_of {al : List Nat} (h : okA al) : goodL (.str al) := ⟨rfl, fun s e => by cases e; have := h.2.1; omega⟩
theorem need_deedsX_ok' : fsNeedDsX CD ds kd kx → mx_need_deeds CD fsIsDeedsX ds kd kx := by
  intro h0
  match ds, h0 with
  | [d], ⟨g, h⟩ =>
    let G : Ga := [.pu d]
    have c : Ev (tpCall 1 fsIsDeedsX (tlCons (tpVar 0) tlNil)) G (.bl (goodDs d)) := ev_call (evl_1 (ev_var rfl)) rfl fun k kx z => ⟨g, z⟩
    have b := evb_not (evb_v c)
    rcases h with ⟨al, rfl, ha, h⟩ | ⟨e, h⟩
    · rw [good_of ha] at b
      exact st_if1F (Γ := G) b h
    · rw [e] at b
      exact st_if1T (Γ := G) b h
end
end PL
set_option Elab.async false
set_option linter.all false
set_option maxRecDepth 100000
set_option maxHeartbeats 4000000
namespace PL
open PySem L2
abbrev ISTA : List Nat := [73, 110, 118, 97, 108, 105, 100, 83, 116, 97, 110, 100]
abbrev IDEE : List Nat := [73, 110, 118, 97, 108, 105, 100, 68, 101, 101, 100]
def inX (CN : Addr) (d : D) : XD := ⟨.ref CN, [(("given" : PySem.Str), d), (("tag" : PySem.Str), .str ISTA)]⟩
def ieX (CE : Addr) (d : D) : XD := ⟨.ref CE, [(("given" : PySem.Str), d), (("tag" : PySem.Str), .str IDEE)]⟩
abbrev lstI (r : List Int) : List D := r.map D.int
def tabD (rs : List (List Int)) : D := .lst (rs.map fun r => .lst (lstI r))
def stoD (CS : Addr) (al : List Nat) (rs : List (List Int)) : D := .ins CS [(("own_deeds" : PySem.Str), .str al), (("table" : PySem.Str), tabD rs)]
def rowsD (rs : List (List Int)) : D := .lst (rs.map fun r => .tup (lstI r))
def fsRows (CS : Addr) : FS := fun ds k _ => match ds with
  | [s] => ∃ al rs, (s = stoD CS al rs ∧ rs.length ≤ 100000) ∧ k (rowsD rs)
  | _ => False
def fsNeedSt (CS CN : Addr) : FS := fun ds k kx => match ds with
  | [s, d] => ∃ al rs, (s = stoD CS al rs ∧ (tyD d).isSome = true) ∧ (within 0 ((rs.length : Nat) - 1) d = true → k .non) ∧ (within 0 ((rs.length : Nat) - 1) d = false → kx (inX CN d))
  | _ => False
def deedB (al : List Nat) : D → Bool
  | .str [c] => decide (c ∈ al)
  | _ => false
def fsNeedDe (CS CE : Addr) : FS := fun ds k kx => match ds with
  | [s, d] => ∃ al rs, (s = stoD CS al rs ∧ goodL d) ∧ (deedB al d = true → k .non) ∧ (deedB al d = false → kx (ieX CE d))
  | _ => False
section
variable {ds : List D} {kd : KD} {kx : KX} {C CS CD CI CT CC CN CE CL : Addr} {Γ : Ga} {tl : TL} {i n : Nat} {ta tb t : TP} {d : D} {P : PEn} {s u r : TSp} {al : List Nat} {rs : List (List Int)} {x : XD} {cb : TB}
local instance : Tabl := ⟨[], fun p hp => absurd hp (by simp)⟩
theorem ev_within {d : D} {lo hi : Int} (h : Ev t Γ d) (g : Ev ta Γ (.int lo)) (f : Ev tb Γ (.int hi)) (ht : (tyD d).isSome = true) : Ev (tpCall 3 fsWithin (tlCons t (tlCons ta (tlCons tb tlNil)))) Γ (.bl (within lo hi d)) := ev_call (evl_3 h g f) rfl fun k kx z => ⟨ht, z⟩
theorem stx_raise {cn f : PySem.Str} (h : Ev t Γ d) (g : P.xx ⟨.ref C, [(f, d), (("tag" : PySem.Str), .str cn.cps.toList)]⟩ Γ) : tsRaise C cn f t P Γ := h _ _ g
theorem ev_ownd (h : Ev t Γ (stoD CS al rs)) : Ev (tpFld [CS] "own_deeds" t) Γ (.str al) := ev_fld h List.mem_cons_self rfl
theorem ev_tab (h : Ev t Γ (stoD CS al rs)) : Ev (tpFld [CS] "table" t) Γ (tabD rs) := ev_fld h List.mem_cons_self rfl
theorem ev_many (h : Ev t Γ (stoD CS al rs)) : Ev (tpOp fSub (tp1 fLenS (tpFld [CS] "table" t)) (tpC (.int 1))) Γ (.int ((rs.length : Nat) - 1)) := by
  have := ev_lenL (ev_tab h)
  rw [List.length_map] at this
  exact ev_subI this (ev_c _)
theorem needSt_ok' : fsNeedSt CS CN ds kd kx → m_Store_need_stand CN CS fsWithin ds kd kx := by
  intro h0
  match ds, h0 with
  | [s, d], h0 =>
    obtain ⟨al, rs, ⟨rfl, ht⟩, h1, h2⟩ := h0
    let G : Ga := [.pu (stoD CS al rs), .pu d]
    exact st_if1B (Γ := G) (evb_not (evb_v (ev_within (ev_var (i := 1) rfl) (ev_c _) (ev_many (ev_var (i := 0) rfl)) ht))) (fun e => stx_raise (ev_var (d := d) rfl) (h2 (by simpa using e))) (fun e => h1 (by simpa using e))
theorem ev_needSt {ms : List (Addr × FS)} (h : Ev t Γ (stoD CS al rs)) (g : Ev ta Γ d) (hm : (CS, fsNeedSt CS CN) ∈ ms) (ht : (tyD d).isSome = true) (e : within 0 ((rs.length : Nat) - 1) d = true) : Ev (tpMeth ms "need_stand" 1 t (tlCons ta tlNil)) Γ .non :=
  ev_meth h rfl hm (evl_1 g) rfl fun k kx z => ⟨al, rs, ⟨rfl, ht⟩, fun _ => z, fun q => by rw [e] at q; cases q⟩
theorem evx_needSt {ms : List (Addr × FS)} (h : Ev t Γ (stoD CS al rs)) (g : Ev ta Γ d) (hm : (CS, fsNeedSt CS CN) ∈ ms) (ht : (tyD d).isSome = true) (e : within 0 ((rs.length : Nat) - 1) d = false) : EvX (tpMeth ms "need_stand" 1 t (tlCons ta tlNil)) Γ (inX CN d) :=
  evx_meth h rfl hm (evl_1 g) rfl fun k kx z => ⟨al, rs, ⟨rfl, ht⟩, fun q => (by rw [e] at q; cases q), fun _ => z⟩
theorem needDe_ok' : fsNeedDe CS CE ds kd kx → m_Store_need_deed CE CS ds kd kx := by
  intro h0
  match ds, h0 with
  | [s, d], h0 =>
    obtain ⟨al, rs, ⟨rfl, hg⟩, h1, h2⟩ := h0
    let G : Ga := [.pu (stoD CS al rs), .pu d]
    have bad : ∀ {b : Bool} {cb : TB}, EvB cb G b → b = true → deedB al d = false → tsIf cb (tsRaise CE "InvalidDeed" "given" (tpVar 1)) tsNext (fEnds kd kx) G := fun h e q => by
      rw [e] at h
      exact st_if1T h (stx_raise (ev_var (d := d) rfl) (h2 q))
    have isi : ∀ b, (tyD d).isSome = true → ((match tyD d with | some n => subTy n "str" | none => true) = b) → Ev (tp1 (fIsi "str") (tpVar 1)) G (.bl b) := fun b h e => ev_1 (ev_var rfl) fun k z => by
      unfold fIsi
      cases q : tyD d with
      | none => rw [q] at h; cases h
      | some n =>
        rw [q] at e
        subst e
        have tE : tyE d = some n := by cases d <;> first | exact q | cases q
        rw [tE]
        exact z
    cases d with
    | str v =>
      have z := hg.2 v rfl
      have big : v.length ≤ sizeLine := Nat.le_trans z (by decide)
      have c1 := isi true rfl rfl
      have c2 : Ev (tpOp fNe (tp1 fLenS (tpVar 1)) (tpC (.int 1))) G (.bl (!decide (((v.length : Nat) : Int) = 1))) := by
        have := ev_lenS (Γ := G) (t := tpVar 1) (l := v) (ev_var rfl) big
        refine ev_op this (ev_c _) fun k z => ⟨⟨rfl, rfl, Nat.zero_le _, Nat.zero_le _⟩, ?_⟩
        have e : eqD (.int (v.length : Nat)) (.int 1) = decide (((v.length : Nat) : Int) = 1) := by
          by_cases q : ((v.length : Nat) : Int) = 1
          · rw [q]; rfl
          · rw [decide_eq_false q]
            exact beq_eq_false_iff_ne.mpr q
        rw [e]
        exact z
      by_cases hl : v.length = 1
      · obtain ⟨c, rfl⟩ := List.length_eq_one_iff.mp hl
        have c3 : Ev (tpOp fNotInS (tpVar 1) (tpFld [CS] "own_deeds" (tpVar 0))) G (.bl (!decide (c ∈ al))) := ev_op (ev_var (d := .str [c]) rfl) (ev_ownd (ev_var rfl)) fun k z => z
        refine st_if1B (Γ := G) (evb_or (evb_not (evb_v c1)) (evb_or (evb_v c2) (evb_v c3))) (fun e => stx_raise (ev_var (d := .str [c]) rfl) (h2 ?_)) (fun e => h1 ?_)
        · show decide (c ∈ al) = false
          simpa using e
        · show decide (c ∈ al) = true
          simpa using e
      · refine bad (evb_orF (cc := tbOr _ _) (by have := evb_not (evb_v c1); exact this) (evb_orT (by have := evb_v c2; rwa [decide_eq_false (by omega)] at this))) rfl ?_
        match v, hl with
        | [], _ => rfl
        | _ :: _ :: _, _ => rfl
        | [_], hl => exact absurd rfl hl
    | non => exact bad (evb_orT (evb_not (evb_v (isi false rfl rfl)))) rfl rfl
    | bl _ => exact bad (evb_orT (evb_not (evb_v (isi false rfl rfl)))) rfl rfl
    | int _ => exact bad (evb_orT (evb_not (evb_v (isi false rfl rfl)))) rfl rfl
    | lst _ => exact bad (evb_orT (evb_not (evb_v (isi false rfl rfl)))) rfl rfl
    | tup _ => exact bad (evb_orT (evb_not (evb_v (isi false rfl rfl)))) rfl rfl
    | dct _ => exact bad (evb_orT (evb_not (evb_v (isi false rfl rfl)))) rfl rfl
    | _ => cases hg.1
theorem ev_needDe {ms : List (Addr × FS)} (h : Ev t Γ (stoD CS al rs)) (g : Ev ta Γ d) (hm : (CS, fsNeedDe CS CE) ∈ ms) (hg : goodL d) (e : deedB al d = true) : Ev (tpMeth ms "need_deed" 1 t (tlCons ta tlNil)) Γ .non :=
  ev_meth h rfl hm (evl_1 g) rfl fun k kx z => ⟨al, rs, ⟨rfl, hg⟩, fun _ => z, fun q => by rw [e] at q; cases q⟩
theorem rows_ok' : fsRows CS ds kd kx → m_Store_rows CS ds kd kx := by
  intro h0
  match ds, h0 with
  | [s], h0 =>
    obtain ⟨al, rs, ⟨rfl, hz⟩, h⟩ := h0
    let G : Ga := [.pu (stoD CS al rs), .un]
    have lc := ev_lc (Γ := G) (is := [1]) (i := 1) (te := tp1 fTup (tpVar 1)) (f := fun d => match d with | .lst l => .tup l | d => d) (evl_tiLst (ev_tab (ev_var (i := 0) (d := stoD CS al rs) rfl))) (by rw [List.length_map]; exact hz) (fun x hx => by
      obtain ⟨r, _, rfl⟩ := List.mem_map.mp hx
      exact ev_1 (ev_var (d := .lst (lstI r)) rfl) fun k z => z)
    rw [List.map_map] at lc
    exact st_ret (Γ := G) lc h
end
end PL
set_option Elab.async false
set_option linter.all false
set_option maxRecDepth 100000
set_option maxHeartbeats 4000000
namespace PL
open PySem L2 PyProof.Rows
end PL
set_option Elab.async false
set_option linter.all false
set_option maxRecDepth 100000
set_option maxHeartbeats 4000000
namespace PL
open PySem L2 PyProof.Rows
end PL
set_option Elab.async false
set_option linter.all false
set_option maxRecDepth 100000
set_option maxHeartbeats 4000000
namespace PL
open PySem L2 PyProof.Rows
variable [Tabl]
def tpSIdx (to t : TP) : TP := fun Γ k kx => to Γ (fun d => match d with
  | .str a => t Γ (fun y => match y with
    | .str b => ∃ c i, b = [c] ∧ a[i]? = some c ∧ (∀ j, j < i → a[j]? ≠ some c) ∧ k (.int (i : Nat))
    | _ => False) kx
  | _ => False) kx
theorem at_one (s : List Nat) (c i : Nat) : StrLaws.At (SS s) (SS [c]) (SS s).length i ↔ s[i]? = some c := by
  have := StrLaws.subAt_one (SS s) c i
  have e : (SS s).cps.toList = s := by simp [SS]
  rw [e] at this
  exact this
theorem occ_idx {s : List Nat} {c i : Nat} (h : s[i]? = some c) (hm : ∀ j, j < i → s[j]? ≠ some c) : ∃ r, Builtin.Str.occurrences (SS s) (SS [c]) 0 (SS s).length 1 = i :: r := by
  rcases StrLaws.occ_head (SS s) (SS [c]) 1 (Nat.le_refl 1) with ⟨_, hn⟩ | ⟨j, r, e, hj, hk⟩
  · exact absurd ((at_one s c i).mpr h) (hn i)
  · have hj := (at_one s c j).mp hj
    have : j = i := by
      rcases Nat.lt_trichotomy j i with q | q | q
      · exact absurd hj (hm j q)
      · exact q
      · exact absurd ((at_one s c i).mpr h) (hk i q)
    subst this
    exact ⟨r, e⟩
section
variable {X : Cx} {W : WX} {o e : Expr} {to t : TP} {pos apos : Pos}
theorem p_sindex (ho : PU X W o to) (he : PU X W e t)
    (hs : starEach [e] X.env = [(false, eval e X.env)] := by rfl) (hbase : attributeBase o "index" X.env (eval o X.env) = eval o X.env := by rfl) (hline : (apos.endLine == pos.line) = true := by rfl) :
    PP X W (.Call (.Attribute o "index" apos) [e] [] pos) (tpSIdx to t) := by
  obtain ⟨eo, po, ro⟩ := ho.ex
  obtain ⟨ee, pe, re⟩ := he.ex
  refine ⟨_, pe_m1 PySem.F.slot_str_index PySem.F.type_str_index mt_sindex po pe hs hbase hline, fun G0 H0 Γ σ G H k kx Q F ht hk hx => ?_⟩
  refine ro G0 H0 Γ σ G H _ kx _ F ht (fun d1 v1 G1 H1 k1 x1 n1 => ?_) hx
  cases d1 with
  | str a =>
    refine ⟨⟨_, n1.str⟩, ?_⟩
    refine re G0 H0 Γ σ G1 H1 _ kx _ (F.up x1) k1 (fun d2 v2 G2 H2 k2 x2 n2 => ?_) (hx.up x1)
    cases d2 with
    | str b =>
      obtain ⟨c, i, rfl, h1, h2, k3⟩ := k2
      obtain ⟨r, e⟩ := occ_idx h1 h2
      exact ⟨_, _, i, r, n1.str, by rw [n2.str], e, hk _ _ _ _ k3 (x1.trans x2) (.int _)⟩
    | _ => exact k2.elim
  | _ => exact k1.elim
end
end PL
set_option Elab.async false
set_option linter.all false
set_option maxRecDepth 100000
set_option maxHeartbeats 4000000
namespace PL
open PySem L2
def mv_need_rows (C_InvalidStore C_TooMany : Addr) (fs_is_within : FS) : FS := fun ds k kx =>
  (tsSeq (tsIf (tbOr (tbNot (tbV (tp1 (fIsi2 "list" "tuple") (tpVar 0)))) (tbV (tpOp fEq (tp1 fLenS (tpVar 0)) (tpC (.int 0)))))
    (tsRaise C_InvalidStore "InvalidStore" "index" (tpC (.int 0)))
    tsNext)
    (tsSeq (tsIf (tbV (tpOp fGt (tp1 fLenS (tpVar 0)) (tpC (.int 120))))
    (tsRaise C_TooMany "TooMany" "most" (tpC (.int 120)))
    tsNext)
    (tsFor (tiEnumV 0) (tgTup2 2 3)
    (tsSeq (tsIf (tbOr (tbNot (tbV (tp1 (fIsi "tuple") (tpVar 3)))) (tbV (tpOp fNe (tp1 fLenS (tpVar 3)) (tpVar 1))))
    (tsRaise C_InvalidStore "InvalidStore" "index" (tpVar 2))
    tsNext)
    (tsIf (tbNot (tbV (tp1 fAll (tpLc [4] (tiTup (tpVar 3)) (tgName 4) tbYes (tpCall 3 fs_is_within (tlCons (tpVar 4) (tlCons (tpC (.int 0)) (tlCons (tpOp fSub (tp1 fLenS (tpVar 0)) (tpC (.int 1))) tlNil))))))))
    (tsRaise C_InvalidStore "InvalidStore" "index" (tpVar 2))
    tsNext)))))
  (fEnds k kx) (ga0 5 ds)
def mh_Store___call__ (C_Store : Addr) (fs_need_log_of fs_Store_need_stand fs_Store_led : FS) : FS := fun ds k kx =>
  (tsSeq (tsDrop (tpMeth [(C_Store, fs_Store_need_stand)] "need_stand" 1 (tpVar 0) (tlCons (tpVar 1) tlNil)))
    (tsSeq (tsDrop (tpCall 2 fs_need_log_of (tlCons (tpVar 2) (tlCons (tpFld [C_Store] "own_deeds" (tpVar 0)) tlNil))))
    (tsRet (tpMeth [(C_Store, fs_Store_led)] "led" 2 (tpVar 0) (tlCons (tpVar 1) (tlCons (tpVar 2) tlNil))))))
  (fEnds k kx) (ga0 3 ds)
def m_Store___eq__ (C_Store : Addr) : FS := fun ds k kx =>
  (tsRet (tpAnd (tpIsX [(C_Store, true)] (tpVar 1)) (tpAnd (tpOp fEq (tpFld [C_Store] "own_deeds" (tpVar 0)) (tpFld [C_Store] "own_deeds" (tpVar 1))) (tpOp fEq (tpFld [C_Store] "table" (tpVar 0)) (tpFld [C_Store] "table" (tpVar 1))))))
  (fEnds k kx) (ga0 2 ds)
def m_law_led : FS := fun ds k kx =>
  (tsSeq (tsFor (tiStr (tpVar 3)) (tgName 4)
    (tsSet 2 (tpOp fIx (tpOp fIx (tpVar 0) (tpVar 2)) (tpSIdx (tpVar 1) (tpVar 4)))))
    (tsRet (tpVar 2)))
  (fEnds k kx) (ga0 5 ds)
end PL
set_option Elab.async false
set_option linter.all false
set_option maxRecDepth 100000
set_option maxHeartbeats 4000000
namespace PL
open PySem L2
/-- tables of stands -/
structure Tab (n w : Nat) (rs : List (List Int)) : Prop where
  hn : rs.length = n
  hw : ∀ r ∈ rs, r.length = w
  hb : ∀ r ∈ rs, ∀ x ∈ r, 0 ≤ x ∧ x < (n : Int)
section
variable {ds : List D} {kd : KD} {kx : KX} {C CS CD CI CT CC CN CE CL : Addr} {Γ : Ga} {tl : TL} {i n : Nat} {ta tb t : TP} {d : D} {P : PEn} {s u r : TSp} {al : List Nat} {rs : List (List Int)} {x : XD} {cb : TB} {A B M : D → Prop} {L : List D → Prop} {KK : PySem.W.Frag}
local instance : Tabl := ⟨[], fun p hp => absurd hp (by simp)⟩
theorem evn_lcM {is : List Nat} {ti : TL} {te : TP} (h : EvNL ti Γ L) (hl : ∀ ds, L ds → ds.length ≤ 100000) (hM : ∀ ds, L ds → ∀ x ∈ ds, M x) (he : ∀ x, M x → EvN te (gset (wipeG Γ is) i (.pu x)) B) : EvN (tpLc is ti (tgName i) tbYes te) Γ (fun d => ∃ items ys, L items ∧ ys.length = items.length ∧ (∀ y ∈ ys, B y) ∧ d = .lst ys) := fun k kx z => h _ _ fun ds hs => by
  refine ⟨hl ds hs, ?_⟩
  have go : ∀ (items : List D) {k : List D → Prop}, (∀ x ∈ items, M x) → (∀ ys : List D, ys.length = items.length → (∀ y ∈ ys, B y) → k ys) → lcW (tgName i) tbYes te (wipeG Γ is) items k := by
    intro items
    induction items with
    | nil => exact fun _ h => h [] rfl fun _ z => nomatch z
    | cons x r ih =>
      intro k hm hx
      refine he x (hm x List.mem_cons_self) _ _ fun d hd => ih (fun y hy => hm y (List.mem_cons_of_mem _ hy)) fun ys h1 h2 => hx (d :: ys) (by simp [h1]) fun y hy => ?_
      rcases List.mem_cons.mp hy with rfl | hy
      · exact hd
      · exact h2 y hy
  exact go ds (hM ds hs) fun ys h1 h2 => z _ ⟨ds, ys, hs, h1, h2, rfl⟩
theorem evn_ifB {b : Bool} (h : EvB cb Γ b) (g : b = true → EvN ta Γ A) (f : b = false → EvN tb Γ A) : EvN (tpIf cb ta tb) Γ A := by
  cases b with
  | true => exact evn_ifT h (g rfl)
  | false => exact evn_ifF h (f rfl)
theorem evn_ifN {Bb : Bool → Prop} (h : EvNB cb Γ Bb) (g : EvN ta Γ A) (f : EvN tb Γ A) : EvN (tpIf cb ta tb) Γ A := fun k kx z => h _ _ fun b _ => by
  cases b with
  | true => exact g k kx z
  | false => exact (show (if false = true then ta Γ k kx else tb Γ k kx) from f k kx z)
theorem evnb_v (h : EvN t Γ (fun d => ∃ b : Bool, d = .bl b)) : EvNB (tbV t) Γ fun _ => True := fun k kx z => h _ _ fun d ⟨b, e⟩ => by
  subst e
  exact z b trivial
theorem ints_of {Q : Int → Prop} : ∀ {ys : List D}, (∀ y ∈ ys, ∃ z : Int, Q z ∧ y = .int z) → ∃ c : List Int, ys = lstI c ∧ ∀ z ∈ c, Q z
  | [], _ => ⟨[], rfl, fun _ z => nomatch z⟩
  | y :: ys, h => by
    obtain ⟨z, hz, rfl⟩ := h y List.mem_cons_self
    obtain ⟨c, rfl, hc⟩ := ints_of fun y hy => h y (List.mem_cons_of_mem _ hy)
    exact ⟨z :: c, rfl, fun w hw => (List.mem_cons.mp hw).elim (fun e => e ▸ hz) (hc w)⟩
theorem st_setF1 {cs : List Addr} {f : PySem.Str} (h : Ev t Γ d) (g : onOI Γ i fun C fs => C ∈ cs ∧ fs.length < 900 ∧ P.nx (oput Γ i (.ins C (putFD f d fs)))) : tsSetF cs i f t P Γ := h _ _ g
abbrev nrBody (CI : Addr) : TSp := (tsSeq (tsIf (tbOr (tbNot (tbV (tp1 (fIsi "tuple") (tpVar 3)))) (tbV (tpOp fNe (tp1 fLenS (tpVar 3)) (tpVar 1))))
    (tsRaise CI "InvalidStore" "index" (tpVar 2))
    tsNext)
    (tsIf (tbNot (tbV (tp1 fAll (tpLc [4] (tiTup (tpVar 3)) (tgName 4) tbYes (tpCall 3 fsWithin (tlCons (tpVar 4) (tlCons (tpC (.int 0)) (tlCons (tpOp fSub (tp1 fLenS (tpVar 0)) (tpC (.int 1))) tlNil))))))))
    (tsRaise CI "InvalidStore" "index" (tpVar 2))
    tsNext))
end
end PL
set_option Elab.async false
set_option linter.all false
set_option maxRecDepth 100000
set_option maxHeartbeats 4000000
namespace PL
open PySem L2
def Col (n : Nat) (c : List Int) : Prop := c.length = n ∧ ∀ x ∈ c, 0 ≤ x ∧ x < (n : Int)
abbrev colD (c : List Int) : D := .lst (lstI c)
abbrev lrIf : TSp := (tsIf (tbV (tpOp fEq (tpVar 5) (tpC (.int 0))))
    (tsSet 6 (tpOp fMul (tpLst (tlCons (tpOp fIx (tpVar 6) (tpC (.int 0))) tlNil)) (tpVar 1)))
    (tsIf (tbV (tpOp fEq (tpVar 5) (tpC (.int 1))))
    (tsSet 6 (tpLc [7] (tiRng1 (tlCons (tpVar 1) tlNil)) (tgName 7) tbYes (tpIf (tbV (tpOp (fInI false) (tpVar 7) (tpSl (tpVar 6) toNo (toSome (tpOp fAdd (tpC (.int 1)) (tpOp fFdiv (tpVar 1) (tpC (.int 2)))))))) (tpVar 7) (tpOp fIx (tpVar 6) (tpC (.int 0))))))
    (tsIf (tbV (tpOp fEq (tpVar 5) (tpC (.int 2))))
    (tsSet 6 (tpLc [7] (tiRng1 (tlCons (tpVar 1) tlNil)) (tgName 7) tbYes (tpIf (tbV (tpOp fEq (tpCall 2 fsPull (tlCons (tpVar 0) (tlCons (tpC (.int 2)) tlNil))) (tpC (.int 0)))) (tpVar 7) (tpOp fIx (tpVar 6) (tpVar 7)))))
    tsNext)))
abbrev lrBody : TSp := (tsSeq (tsSet 5 (tpCall 2 fsPull (tlCons (tpVar 0) (tlCons (tpC (.int 4)) tlNil))))
    (tsSeq (tsSet 6 (tpLc [7] (tiRng1 (tlCons (tpVar 1) tlNil)) (tgName 7) tbYes (tpCall 2 fsPull (tlCons (tpVar 0) (tlCons (tpVar 1) tlNil)))))
    (tsSeq lrIf
    (tsApp 3 (tpVar 6)))))
section
variable {ds : List D} {kd : KD} {kx : KX} {Γ : Ga} {t ta tb : TP} {d : D} {P : PEn} {s u r : TSp} {n : Nat} {c : List Int}
local instance : Tabl := ⟨[], fun p hp => absurd hp (by simp)⟩
theorem rep1 (x : Int) : ∀ n, (List.replicate n [D.int x]).flatten = lstI (List.replicate n x)
  | 0 => rfl
  | n + 1 => by
    rw [List.replicate_succ, List.replicate_succ, List.flatten_cons, rep1 x n]
    rfl
theorem lst_get {i : Nat} (h : i < c.length) : atI (lstI c) (i : Nat) = some (.int c[i]) := by
  have h2 : i < (lstI c).length := by rw [List.length_map]; exact h
  rw [at_nat _ _ h2, List.getElem_map]
theorem ev_ixC {i : Nat} (h : Ev ta Γ (colD c)) (g : Ev tb Γ (.int (i : Nat))) (hi : i < c.length) : Ev (tpOp fIx ta tb) Γ (.int c[i]) := ev_ixL h g (lst_get hi)
theorem rng_mem : ∀ x ∈ ((List.range n).map fun i => D.int (i : Nat)), ∃ i : Nat, i < n ∧ x = .int (i : Nat) := fun x hx => by
  obtain ⟨i, hi, rfl⟩ := List.mem_map.mp hx
  exact ⟨i, List.mem_range.mp hi, rfl⟩
theorem rng_len : ((List.range n).map fun i => D.int (i : Nat)).length = n := by rw [List.length_map, List.length_range]
def inC (n : Nat) (d : D) : Prop := ∃ z : Int, (0 ≤ z ∧ z < (n : Int)) ∧ d = .int z
theorem Col.at_ {n : Nat} {c : List Int} (h : Col n c) {i : Nat} (hi : i < c.length) : inC n (.int c[i]) := ⟨_, h.2 _ (List.getElem_mem hi), rfl⟩
theorem col_of {items ys : List D} (hi : items = (List.range n).map fun i => D.int (i : Nat)) (hl : ys.length = items.length) (h : ∀ y ∈ ys, inC n y) : ∃ c, Col n c ∧ D.lst ys = colD c := by
  obtain ⟨c, rfl, hc⟩ := ints_of h
  refine ⟨c, ⟨?_, hc⟩, rfl⟩
  rw [hi, rng_len, List.length_map] at hl
  exact hl
theorem lr_if {sw s3 s4 s7 : Sl} {way : Int} (hc : Col n c) (n1 : 1 ≤ n) (n2 : n ≤ 120) (hk : ∀ c' s7, Col n c' → P.nx [.pu .bag, .pu (.int (n : Nat)), sw, s3, s4, .pu (.int way), .pu (colD c'), s7]) :
    lrIf P [.pu .bag, .pu (.int (n : Nat)), sw, s3, s4, .pu (.int way), .pu (colD c), s7] := by
  let G : Ga := [.pu .bag, .pu (.int (n : Nat)), sw, s3, s4, .pu (.int way), .pu (colD c), s7]
  have lc := hc.1
  have eq : ∀ z : Int, Ev (tpOp fEq (tpVar 5) (tpC (.int z))) G (.bl (decide (way = z))) := fun z => ev_eqI (ev_var rfl) (ev_c _)
  have rg : EvL (tiRng1 (tlCons (tpVar 1) tlNil)) G ((List.range n).map fun i => D.int (i : Nat)) := evl_rng1 (ev_var rfl) (by omega)
  have c0 : ∀ {G : Ga}, gat G 6 = .pu (colD c) → Ev (tpOp fIx (tpVar 6) (tpC (.int 0))) G (.int c[0]) := fun e => ev_ixC (i := 0) (ev_var e) (ev_c _) (by omega)
  refine st_if1B (Γ := G) (evb_v (eq 0)) (fun _ => ?_) (fun _ => st_if1B (Γ := G) (evb_v (eq 1)) (fun _ => ?_) (fun _ => st_if1B (Γ := G) (evb_v (eq 2)) (fun _ => ?_) (fun _ => hk c s7 hc)))
  · have m := ev_mulL (Γ := G) (ev_lst (evl_1 (c0 rfl)) (by show 1 ≤ 100000; decide)) (ev_var (i := 1) (d := .int (n : Nat)) rfl) (by omega) (by omega) (by
      show 1 * ((n : Nat) : Int).toNat ≤ sizeLine
      have : 200 ≤ sizeLine := by decide
      omega)
    have e : (List.replicate ((n : Nat) : Int).toNat [D.int c[0]]).flatten = lstI (List.replicate n c[0]) := by rw [Int.toNat_natCast, rep1]
    rw [e] at m
    refine st_set1 m (hk _ _ ⟨List.length_replicate, fun x hx => ?_⟩)
    rw [(List.mem_replicate.mp hx).2]
    exact hc.2 _ (List.getElem_mem _)
  · refine st_set1N (evn_lcM (Γ := G) (M := fun x => ∃ i : Nat, i < n ∧ x = .int (i : Nat)) (B := inC n) (evnl rg) (fun ds e => by rw [e, rng_len]; omega) (fun ds e => by rw [e]; exact rng_mem) ?_) fun d hd => ?_
    · rintro x ⟨i, hi, rfl⟩
      have sl : Ev (tpSl (tpVar 6) toNo (toSome (tpOp fAdd (tpC (.int 1)) (tpOp fFdiv (tpVar 1) (tpC (.int 2)))))) (gset (wipeG G [7]) 7 (.pu (.int (i : Nat)))) (.lst (lstI (c.take (1 + n / 2)))) := by
        have hh : Ev (tpOp fAdd (tpC (.int 1)) (tpOp fFdiv (tpVar 1) (tpC (.int 2)))) (gset (wipeG G [7]) 7 (.pu (.int (i : Nat)))) (.int ((1 + n / 2 : Nat) : Int)) := by
          have := ev_addI (Γ := gset (wipeG G [7]) 7 (.pu (.int (i : Nat)))) (ev_c (.int 1)) (ev_op (f := fFdiv) (d := .int ((n : Nat) / 2)) (ev_var (i := 1) (d := .int (n : Nat)) rfl) (ev_c (.int 2)) fun k z => ⟨⟨by decide, by decide⟩, z⟩)
          rwa [show (1 : Int) + ((n : Nat) : Int) / 2 = ((1 + n / 2 : Nat) : Int) by omega] at this
        have := ev_slL (lo := none) (hi := some ((1 + n / 2 : Nat) : Int)) (tlo := toNo) (thi := toSome (tpOp fAdd (tpC (.int 1)) (tpOp fFdiv (tpVar 1) (tpC (.int 2))))) (ev_var (Γ := gset (wipeG G [7]) 7 (.pu (.int (i : Nat)))) (i := 6) (d := colD c) rfl) (fun k kx z => z) (fun k kx z => hh _ _ z)
        rwa [cut_take, ← List.map_take] at this
      refine evn_ifB (b := (c.take (1 + n / 2)).contains (i : Int)) (evb_v (ev_op (ev_var (d := .int (i : Nat)) rfl) sl fun k z => ⟨_, rfl, z⟩)) (fun _ => evn_imp (evn (ev_var (d := .int (i : Nat)) rfl)) fun d e => ⟨i, by omega, e⟩) (fun _ => evn_imp (evn (c0 rfl)) fun d e => by rw [e]; exact hc.at_ _)
    · obtain ⟨items, ys, e, hl, hy, rfl⟩ := hd
      obtain ⟨c', h', e'⟩ := col_of e hl hy
      rw [e']
      exact hk _ _ h'
  · refine st_set1N (evn_lcM (Γ := G) (M := fun x => ∃ i : Nat, i < n ∧ x = .int (i : Nat)) (B := inC n) (evnl rg) (fun ds e => by rw [e, rng_len]; omega) (fun ds e => by rw [e]; exact rng_mem) ?_) fun d hd => ?_
    · rintro x ⟨i, hi, rfl⟩
      refine evn_ifN (Bb := fun _ => True) (evnb_v (evn_op (evn_pull (m := 2) (ev_var (d := .bag) rfl) (ev_c _) (by decide) (by decide)) (evn (ev_c (.int 0))) fun x y hx hy k hk => ?_)) (evn_imp (evn (ev_var (d := .int (i : Nat)) rfl)) fun d e => ⟨i, by omega, e⟩) (evn_imp (evn (ev_ixC (i := i) (ev_var (d := colD c) rfl) (ev_var rfl) (by omega))) fun d e => by rw [e]; exact hc.at_ _)
      obtain ⟨r, _, _, rfl⟩ := hx
      subst hy
      exact ⟨⟨rfl, rfl, Nat.zero_le _, Nat.zero_le _⟩, hk _ ⟨_, rfl⟩⟩
    · obtain ⟨items, ys, e, hl, hy, rfl⟩ := hd
      obtain ⟨c', h', e'⟩ := col_of e hl hy
      rw [e']
      exact hk _ _ h'
theorem lr_loop (n1 : 1 ≤ n) (n2 : n ≤ 120) {sw : Sl} : ∀ (ks : List D) (cols : List (List Int)) (s4 s5 s6 s7 : Sl), (∀ c ∈ cols, Col n c) → cols.length + ks.length ≤ 100 →
    (∀ (cols' : List (List Int)) (s4 s5 s6 s7 : Sl), (∀ c ∈ cols', Col n c) → cols'.length = cols.length + ks.length → P.nx [.pu .bag, .pu (.int (n : Nat)), sw, .ow (.lst (cols'.map colD)), s4, s5, s6, s7]) →
    forW (tgName 4) lrBody P ks [.pu .bag, .pu (.int (n : Nat)), sw, .ow (.lst (cols.map colD)), s4, s5, s6, s7]
  | [], cols, s4, s5, s6, s7, h, _, g => g cols s4 s5 s6 s7 h rfl
  | k0 :: ks, cols, s4, s5, s6, s7, h, hz, g => by
    rw [List.length_cons] at hz
    refine for_cons (i := 4) ?_
    let G : Ga := [.pu .bag, .pu (.int (n : Nat)), sw, .ow (.lst (cols.map colD)), .pu k0, s5, s6, s7]
    refine st_setN (Γ := G) (evn_pull (m := 4) (ev_var (d := .bag) rfl) (ev_c _) (by decide) (by decide)) fun d ⟨way, _, _, e⟩ => ?_
    subst e
    let G1 : Ga := [.pu .bag, .pu (.int (n : Nat)), sw, .ow (.lst (cols.map colD)), .pu k0, .pu (.int way), s6, s7]
    have rg : EvL (tiRng1 (tlCons (tpVar 1) tlNil)) G1 ((List.range n).map fun i => D.int (i : Nat)) := evl_rng1 (ev_var rfl) (by omega)
    refine st_setN (Γ := G1) (evn_lcM (Γ := G1) (M := fun _ => True) (B := inC n) (evnl rg) (fun ds e => by rw [e, rng_len]; omega) (fun ds e x _ => trivial) fun x _ => evn_imp (evn_pull (m := (n : Nat)) (ev_var (d := .bag) rfl) (ev_var rfl) (by omega) (by omega)) fun d ⟨r, r0, r1, e⟩ => ⟨r, ⟨r0, r1⟩, e⟩) fun d hd => ?_
    obtain ⟨items, ys, e, hl, hy, rfl⟩ := hd
    obtain ⟨c, hc, e'⟩ := col_of e hl hy
    rw [e']
    refine lr_if (P := { nx := tsApp 3 (tpVar 6) _, bk := _, ct := _, rt := _, xx := _ }) (n := n) (c := c) hc n1 n2 fun c' s7' hc' => ?_
    refine ⟨by rw [List.length_map]; omega, ?_⟩
    have ih := lr_loop n1 n2 (sw := sw) ks (cols ++ [c']) (.pu k0) (.pu (.int way)) (.pu (colD c')) s7' (fun x hx => by
      rcases List.mem_append.mp hx with hx | hx
      · exact h x hx
      · rw [List.mem_singleton.mp hx]; exact hc') (by rw [List.length_append]; show cols.length + 1 + ks.length ≤ 100; omega) (fun cols' a b c d hc hl => g cols' a b c d hc (by rw [hl]; simp only [List.length_append, List.length_cons, List.length_nil]; omega))
    rw [List.map_append] at ih
    exact ih
end
end PL
set_option Elab.async false
set_option linter.all false
set_option maxRecDepth 100000
set_option maxHeartbeats 4000000
namespace PL
open PySem L2 PyProof.Rows
end PL
set_option Elab.async false
set_option linter.all false
set_option maxRecDepth 100000
set_option maxHeartbeats 4000000
namespace PySem
end PySem
namespace L2
open PySem PySem.Spec PyProof.Rows
end L2
namespace PL
open PySem L2
end PL
set_option Elab.async false
set_option linter.all false
set_option maxRecDepth 100000
set_option maxHeartbeats 4000000
namespace PySem
end PySem
namespace L2
open PySem PySem.Spec PyProof.Rows
end L2
namespace PL
open PySem L2 PyProof.Rows
variable [Tabl]
section
variable {X : Cx} {W : WX} {C : Addr} {cn : PySem.Str} {p pos pos2 : Pos} {k j n : Nat} {e : Expr} {t : TP} {es : List Expr} {tl tk : TL} {x m : PySem.Str} {fs : FS} {kws : List Keyword} {g : FSo} {ks : List PySem.Str} {is : List Nat}
structure DfN (P : Program) (w : World) (K : PySem.W.Frag) (mg : PySem.Str → Option Value) (base : Heap) (x : PySem.Str) (k n : Nat) (fs : FS) : Prop where
  ex : ∃ f fd ps, FnOk P w K mg base (L2N.CX P w) k f fd ps (spOf K n fs) ∧ mg x = some (.ref f) ∧ PySem.W.keepIn K (.ref f) = true ∧ Binds K fd ps [] ∧ ps.length = n
theorem DfN.imp {P : Program} {w : World} {K : PySem.W.Frag} {mg : PySem.Str → Option Value} {base : Heap} {fs' : FS} (F : DfN P w K mg base x k n fs) (h : ∀ ds kd kx, ds.length = n → fs' ds kd kx → fs ds kd kx) : DfN P w K mg base x k n fs' := by
  obtain ⟨f, fd, ps, h1, h2, h3, h4, h5⟩ := F.ex
  refine ⟨f, fd, ps, h1.imp fun vs H Q E q => ?_, h2, h3, h4, h5⟩
  obtain ⟨G, ds, kd, kx, a, b, c, d, e⟩ := q
  exact ⟨G, ds, kd, kx, a, b, c, h ds kd kx c d, e⟩
end
end PL
set_option Elab.async false
set_option linter.all false
set_option maxRecDepth 100000
set_option maxHeartbeats 4000000
namespace PL
open PySem L2
end PL
set_option Elab.async false
set_option linter.all false
set_option maxRecDepth 100000
set_option maxHeartbeats 4000000
namespace PySem.W
open PySem PySem.Spec PySem.Calls PyProof.Rows
end PySem.W
namespace PL
open PySem L2
end PL
set_option Elab.async false
set_option linter.all false
set_option maxRecDepth 100000
set_option maxHeartbeats 4000000
namespace L2
open PySem PySem.Spec PyProof.Rows
end L2
namespace PL
open PySem L2
end PL
set_option Elab.async false
set_option linter.all false
set_option maxRecDepth 100000
set_option maxHeartbeats 4000000
namespace PL
open PySem L2
end PL
set_option Elab.async false
set_option linter.all false
set_option maxRecDepth 100000
set_option maxHeartbeats 4000000
namespace PL
open PySem L2
end PL
set_option Elab.async false
set_option linter.all false
set_option maxRecDepth 100000
set_option maxHeartbeats 4000000
namespace PL
open PySem L2 PyProof.Rows
end PL
set_option Elab.async false
set_option linter.all false
set_option maxRecDepth 100000
set_option maxHeartbeats 4000000
namespace PL
open PySem L2
end PL
set_option Elab.async false
set_option linter.all false
set_option maxRecDepth 100000
set_option maxHeartbeats 4000000
namespace PL
open PySem L2 PyProof.Rows
end PL
set_option Elab.async false
set_option linter.all false
set_option maxRecDepth 100000
set_option maxHeartbeats 4000000
namespace PL
open PySem L2 PyProof.Rows
end PL
set_option Elab.async false
set_option linter.all false
set_option maxRecDepth 100000
set_option maxHeartbeats 4000000
namespace PL
open PySem L2
end PL
set_option Elab.async false
set_option linter.all false
set_option maxRecDepth 100000
set_option maxHeartbeats 4000000
namespace PL
open PySem L2
abbrev DDS : List Nat := [100, 101, 101, 100, 115]
abbrev tD (v : List Nat) : D := .tup [.str DDS, .str v]
section
variable {ds : List D} {kd : KD} {kx : KX} {CC CG : Addr} {Γ : Ga} {t ta tb : TP} {tl : TL} {d e : D} {n i : Nat} {P : PEn} {K : Ks} {m : KindM} {u v w : List Nat}
local instance : Tabl := ⟨[], fun p hp => absurd hp (by simp)⟩
end
end PL
set_option Elab.async false
set_option linter.all false
set_option maxRecDepth 100000
set_option maxHeartbeats 4000000
namespace PL
open PySem L2
/-- trees -/
inductive Tr where
  | dd (v : List Nat)
  | nm (s : List Nat)
  | th (ps : List Tr)
  | ei (ps : List Tr)
  | ti (t : Tr) (n : Nat)
  | ag (t : Tr)
abbrev wNAM : List Nat := [110, 97, 109, 101]
abbrev wTHE : List Nat := [116, 104, 101, 110]
abbrev wEIT : List Nat := [101, 105, 116, 104, 101, 114]
abbrev wTIM : List Nat := [116, 105, 109, 101, 115]
abbrev wAGA : List Nat := [97, 103, 97, 105, 110]
def Tr.w : Tr → List Nat
  | .dd _ => DDS
  | .nm _ => wNAM
  | .th _ => wTHE
  | .ei _ => wEIT
  | .ti _ _ => wTIM
  | .ag _ => wAGA
mutual
def Tr.dat : Tr → D
  | .dd v => tD v
  | .nm s => .tup [.str wNAM, .str s]
  | .th ps => .tup (.str wTHE :: Tr.datL ps)
  | .ei ps => .tup (.str wEIT :: Tr.datL ps)
  | .ti t n => .tup [.str wTIM, Tr.dat t, .int (n : Nat)]
  | .ag t => .tup [.str wAGA, Tr.dat t]
def Tr.datL : List Tr → List D
  | [] => []
  | t :: r => Tr.dat t :: Tr.datL r
end
theorem datL_map : ∀ ps : List Tr, Tr.datL ps = ps.map Tr.dat
  | [] => rfl
  | t :: r => by
    rw [Tr.datL, datL_map r]
    rfl
def Tr.args : Tr → List D
  | .dd v => [.str v]
  | .nm s => [.str s]
  | .th ps => ps.map Tr.dat
  | .ei ps => ps.map Tr.dat
  | .ti t n => [t.dat, .int (n : Nat)]
  | .ag t => [t.dat]
theorem dat_eq (t : Tr) : t.dat = .tup (.str t.w :: t.args) := by
  cases t with
  | dd v => simp only [Tr.dat, Tr.w, Tr.args]
  | nm v => simp only [Tr.dat, Tr.w, Tr.args]
  | th ps => simp only [Tr.dat, Tr.w, Tr.args, datL_map]
  | ei ps => simp only [Tr.dat, Tr.w, Tr.args, datL_map]
  | ti t n => simp only [Tr.dat, Tr.w, Tr.args]
  | ag t => simp only [Tr.dat, Tr.w, Tr.args]
abbrev Env := List (List Nat × Tr)
abbrev kS (s : List Nat) : Key := .inr (SS s)
def Env.dat (env : Env) : D := .dct (env.map fun q => (kS q.1, q.2.dat))
def Env.ok (env : Env) : Prop := env.length ≤ 1000 ∧ ∀ q ∈ env, D.plain (.str q.1) = true
def NsOk (env : Env) (ns : List (List Nat)) : Prop := ns.Nodup ∧ ∀ s ∈ ns, ∃ t, env.lookup s = some t
/-- t is walked with so many calls -/
def Rk (env : Env) : Nat → Tr → Prop
  | 0, _ => False
  | _ + 1, .dd _ => True
  | n + 1, .nm s => ∃ t, env.lookup s = some t ∧ Rk env n t
  | n + 1, .th ps => ps.length ≤ 1000 ∧ ∀ p ∈ ps, Rk env n p
  | n + 1, .ei ps => ps.length ≤ 1000 ∧ ∀ p ∈ ps, Rk env n p
  | n + 1, .ti t _ => Rk env n t
  | n + 1, .ag t => Rk env n t
theorem Rk.mono {env : Env} : ∀ {n m : Nat} {t : Tr}, Rk env n t → n ≤ m → Rk env m t
  | n + 1, 0, _, h, e => by omega
  | n + 1, m + 1, .dd _, h, e => trivial
  | n + 1, m + 1, .nm s, ⟨t, h1, h2⟩, e => ⟨t, h1, h2.mono (by omega)⟩
  | n + 1, m + 1, .th ps, ⟨h1, h2⟩, e => ⟨h1, fun p hp => (h2 p hp).mono (by omega)⟩
  | n + 1, m + 1, .ei ps, ⟨h1, h2⟩, e => ⟨h1, fun p hp => (h2 p hp).mono (by omega)⟩
  | n + 1, m + 1, .ti t _, h, e => Rk.mono (t := t) h (by omega)
  | n + 1, m + 1, .ag t, h, e => Rk.mono (t := t) h (by omega)
theorem env_in : ∀ {env : Env} {s : List Nat} {t : Tr}, env.lookup s = some t → (s, t) ∈ env
  | [], _, _, h => by cases h
  | (a, u) :: r, s, t, h => by
    rw [List.lookup_cons] at h
    by_cases e : s = a
    · subst e
      rw [show (s == s) = true from beq_self_eq_true s] at h
      cases h
      exact List.mem_cons_self
    · rw [show (s == a) = false from beq_eq_false_iff_ne.mpr e] at h
      exact List.mem_cons_of_mem _ (env_in h)
theorem nodup_leL {α : Type} [DecidableEq α] : ∀ (a b : List α), a.Nodup → (∀ c ∈ a, c ∈ b) → a.length ≤ b.length
  | [], _, _, _ => Nat.zero_le _
  | x :: a, b, h, hs => by
    have hx := hs x List.mem_cons_self
    have h' := List.nodup_cons.mp h
    have := nodup_leL a (b.erase x) h'.2 fun c hc => (List.mem_erase_of_ne (fun z => h'.1 (by rw [← z]; exact hc))).mpr (hs c (List.mem_cons_of_mem _ hc))
    rw [List.length_erase_of_mem hx] at this
    have : 0 < b.length := List.length_pos_of_mem hx
    simp only [List.length_cons]
    omega
theorem NsOk.len {env : Env} {ns : List (List Nat)} (h : NsOk env ns) (he : env.ok) : ns.length ≤ 1000 := by
  have := nodup_leL ns (env.map (·.1)) h.1 fun s hs => by
    obtain ⟨t, ht⟩ := h.2 s hs
    exact List.mem_map.mpr ⟨_, env_in ht, rfl⟩
  rw [List.length_map] at this
  exact Nat.le_trans this he.1
theorem NsOk.snoc {env : Env} {ns : List (List Nat)} (h : NsOk env ns) {s : List Nat} {t : Tr} (n : s ∉ ns) (e : env.lookup s = some t) : NsOk env (ns ++ [s]) := by
  refine ⟨?_, fun u hu => ?_⟩
  · rw [List.nodup_append]
    refine ⟨h.1, by simp, fun a ha b hb z => ?_⟩
    obtain rfl : b = s := by simpa using hb
    exact n (by rw [← z]; exact ha)
  · rcases List.mem_append.mp hu with hu | hu
    · exact h.2 u hu
    · obtain rfl : u = s := by simpa using hu
      exact ⟨t, e⟩
theorem NsOk.nil {env : Env} : NsOk env [] := ⟨List.nodup_nil, fun _ z => nomatch z⟩
section
variable {ds : List D} {kd : KD} {ko : D → D → Prop} {kx : KX} {CC CG : Addr} {Γ : Ga} {t ta tb tc : TP} {tl : TL} {d e c c0 : D} {n i j : Nat} {P : PEn} {K : Ks} {m : KindM} {u v : List Nat} {tx ty : TX} {R S T : D → D → Prop} {s r : TSp} {cb : TB} {env : Env} {q : Tr} {b : Bool}
local instance : Tabl := ⟨[], fun p hp => absurd hp (by simp)⟩
theorem at0 {x : D} {l : List D} : atI (x :: l) 0 = some x := at_nat (x :: l) 0 (Nat.succ_pos _)
end
end PL
set_option Elab.async false
set_option linter.all false
set_option maxRecDepth 100000
set_option maxHeartbeats 4000000
namespace PL
open PySem L2
def TM : Nat := 20
/-- no choices in the tree itself -/
def Pn : Nat → Tr → Prop
  | 0, _ => False
  | _ + 1, .dd _ => True
  | _ + 1, .nm _ => True
  | n + 1, .th ps => ps.length ≤ 1000 ∧ ∀ p ∈ ps, Pn n p
  | n + 1, .ti t _ => Pn n t
  | _ + 1, _ => False
theorem Pn.mono : ∀ {n m : Nat} {t : Tr}, Pn n t → n ≤ m → Pn m t
  | n + 1, 0, _, h, e => by omega
  | n + 1, m + 1, .dd _, h, e => trivial
  | n + 1, m + 1, .nm s, h, e => trivial
  | n + 1, m + 1, .th ps, ⟨h1, h2⟩, e => ⟨h1, fun p hp => (h2 p hp).mono (by omega)⟩
  | n + 1, m + 1, .ei ps, h, e => h.elim
  | n + 1, m + 1, .ti t _, h, e => Pn.mono (t := t) h (by omega)
  | n + 1, m + 1, .ag t, h, e => h.elim
section
variable {ds : List D} {kd : KD} {ko : D → D → Prop} {kx : KX} {CC CG : Addr} {Γ : Ga} {t ta tb tc : TP} {tl : TL} {d e c c0 : D} {n i j : Nat} {P : PEn} {K : Ks} {m : KindM} {u v : List Nat} {tx ty : TX} {R S T : D → D → Prop} {s r : TSp} {cb : TB} {env : Env} {q : Tr} {b : Bool}
local instance : Tabl := ⟨[], fun p hp => absurd hp (by simp)⟩
end
end PL
set_option Elab.async false
set_option linter.all false
set_option maxRecDepth 100000
set_option maxHeartbeats 4000000
namespace PL
open PySem L2
section
variable {ds : List D} {kd : KD} {ko : D → D → Prop} {kx : KX} {CC CG : Addr} {Γ : Ga} {t ta tb tc : TP} {tl : TL} {d e c c0 : D} {n i j : Nat} {P : PEn} {K : Ks} {m : KindM} {u v w : List Nat} {tx ty : TX} {R S T : D → D → Prop} {s r : TSp} {cb : TB} {env : Env} {q : Tr} {b : Bool}
local instance : Tabl := ⟨[], fun p hp => absurd hp (by simp)⟩
end
end PL
set_option Elab.async false
set_option linter.all false
set_option maxRecDepth 100000
set_option maxHeartbeats 4000000
namespace PL
open PySem L2 PyProof.Rows
end PL
set_option Elab.async false
set_option linter.all false
set_option maxRecDepth 100000
set_option maxHeartbeats 4000000
namespace PL
open PySem L2
end PL
set_option Elab.async false
set_option linter.all false
set_option maxRecDepth 100000
set_option maxHeartbeats 4000000
namespace PL
open PySem L2
end PL
set_option Elab.async false
set_option linter.all false
set_option maxRecDepth 100000
set_option maxHeartbeats 4000000
namespace PL
open PySem L2
end PL
set_option Elab.async false
set_option linter.all false
set_option maxRecDepth 100000
set_option maxHeartbeats 4000000
set_option exponentiation.threshold 4000
namespace PL
open PySem L2
section
variable {ds : List D} {kd : KD} {kx : KX} {C : Addr}
local instance : Tabl := ⟨[], fun p hp => absurd hp (by simp)⟩
end
end PL
set_option Elab.async false
set_option linter.all false
set_option maxRecDepth 100000
set_option maxHeartbeats 4000000
set_option exponentiation.threshold 4000
namespace PL
open PySem L2
section
variable {ds : List D} {kd : KD} {kx : KX} {C : Addr}
local instance : Tabl := ⟨[], fun p hp => absurd hp (by simp)⟩
end
end PL
set_option Elab.async false
set_option linter.all false
set_option maxRecDepth 100000
set_option maxHeartbeats 4000000
set_option exponentiation.threshold 4000
namespace PL
open PySem L2
section
variable {ds : List D} {kd : KD} {kx : KX} {C : Addr}
local instance : Tabl := ⟨[], fun p hp => absurd hp (by simp)⟩
end
end PL
set_option Elab.async false
set_option linter.all false
set_option maxRecDepth 100000
set_option maxHeartbeats 4000000
set_option exponentiation.threshold 4000
namespace PL
open PySem L2
section
variable {ds : List D} {kd : KD} {kx : KX} {C : Addr}
local instance : Tabl := ⟨[], fun p hp => absurd hp (by simp)⟩
end
end PL
set_option Elab.async false
set_option linter.all false
set_option maxRecDepth 100000
set_option maxHeartbeats 4000000
set_option exponentiation.threshold 4000
namespace PL
open PySem L2
end PL
set_option Elab.async false
set_option linter.all false
set_option maxRecDepth 100000
set_option maxHeartbeats 4000000
namespace PL
open PySem L2
section
variable {ds : List D} {kd : KD} {kx : KX} {CC CN CL : Addr} {K : Ks} {m : KindM} {Γ : Ga} {tl : TL} {i n : Nat} {ta tb : TP}
local instance : Tabl := ⟨[], fun p hp => absurd hp (by simp)⟩
end
end PL
set_option Elab.async false
set_option linter.all false
set_option maxRecDepth 100000
set_option maxHeartbeats 4000000
namespace PL
open PySem L2
end PL
set_option Elab.async false
set_option linter.all false
set_option maxRecDepth 100000
set_option maxHeartbeats 4000000
namespace PL
open PySem L2 PyProof.Rows
end PL
set_option Elab.async false
set_option linter.all false
set_option maxRecDepth 100000
set_option maxHeartbeats 4000000
namespace PL
open PySem L2
end PL
set_option Elab.async false
set_option linter.all false
set_option maxRecDepth 100000
set_option maxHeartbeats 4000000
namespace PL
open PySem L2
section
variable {ds : List D} {kd : KD} {kx : KX} {K : Ks} {m : KindM} {Γ : Ga} {t ta tb : TP} {tl : TL} {es : List D} {d : D} {l i n : Nat}
local instance : Tabl := ⟨[], fun p hp => absurd hp (by simp)⟩
end
end PL
set_option Elab.async false
set_option linter.all false
set_option maxRecDepth 100000
set_option maxHeartbeats 4000000
namespace PL
open PySem L2
end PL
set_option Elab.async false
set_option linter.all false
set_option maxRecDepth 100000
set_option maxHeartbeats 4000000
namespace PL
open PySem L2
/-- a drawn tree, its deeds, its names, its counts -/
def TrD (al : List Nat) (ns : List (List Nat)) (cb : Nat) : Nat → Tr → Prop
  | 0, _ => False
  | _ + 1, .dd v => ∀ c ∈ v, c ∈ al
  | _ + 1, .nm s => s ∈ ns
  | n + 1, .th ps => ps.length ≤ 20 ∧ ∀ p ∈ ps, TrD al ns cb n p
  | n + 1, .ti t c => c ≤ cb ∧ TrD al ns cb n t
  | _ + 1, _ => False
section
variable {al : List Nat} {ns ns' : List (List Nat)} {cb : Nat}
theorem TrD.mono : ∀ {n m : Nat} {t : Tr}, TrD al ns cb n t → n ≤ m → TrD al ns cb m t
  | n + 1, 0, _, h, e => by omega
  | n + 1, m + 1, .dd _, h, e => h
  | n + 1, m + 1, .nm s, h, e => h
  | n + 1, m + 1, .th ps, ⟨h1, h2⟩, e => ⟨h1, fun p hp => (h2 p hp).mono (by omega)⟩
  | n + 1, m + 1, .ti t _, ⟨h1, h2⟩, e => ⟨h1, h2.mono (by omega)⟩
  | n + 1, m + 1, .ei ps, h, e => h.elim
  | n + 1, m + 1, .ag t, h, e => h.elim
theorem TrD.names (hn : ∀ s ∈ ns, s ∈ ns') : ∀ {n : Nat} {t : Tr}, TrD al ns cb n t → TrD al ns' cb n t
  | n + 1, .dd _, h => h
  | n + 1, .nm s, h => hn s h
  | n + 1, .th ps, ⟨h1, h2⟩ => ⟨h1, fun p hp => (h2 p hp).names hn⟩
  | n + 1, .ti t _, ⟨h1, h2⟩ => ⟨h1, h2.names hn⟩
  | n + 1, .ei ps, h => h.elim
  | n + 1, .ag t, h => h.elim
theorem plainL_map {ts : List Tr} : (∀ t ∈ ts, (Tr.dat t).plain = true) → D.plainL (ts.map Tr.dat) = true := by
  induction ts with
  | nil => exact fun _ => rfl
  | cons t r ih =>
    intro h
    show ((Tr.dat t).plain && D.plainL (r.map Tr.dat)) = true
    rw [h t List.mem_cons_self, ih fun x hx => h x (List.mem_cons_of_mem _ hx)]
    rfl
theorem depL_map {ts : List Tr} {n : Nat} : (∀ t ∈ ts, (Tr.dat t).dep ≤ n) → D.depL (ts.map Tr.dat) ≤ n := by
  induction ts with
  | nil => exact fun _ => Nat.zero_le _
  | cons t r ih =>
    intro h
    show max (Tr.dat t).dep (D.depL (r.map Tr.dat)) ≤ n
    have := h t List.mem_cons_self
    have := ih fun x hx => h x (List.mem_cons_of_mem _ hx)
    omega
theorem TrD.plain (hal : ∀ c ∈ al, c ∈ LET) (hns : ∀ s ∈ ns, D.plain (.str s) = true) : ∀ {n : Nat} {t : Tr}, TrD al ns cb n t → t.dat.plain = true ∧ t.dat.dep ≤ n
  | n + 1, .dd v, h => by
    rw [dat_eq]
    refine ⟨?_, by show 1 ≤ n + 1; omega⟩
    show (D.plain (.str DDS) && (D.plain (.str v) && true)) = true
    rw [plain_of fun c hc => hal c (h c hc)]
    rfl
  | n + 1, .nm s, h => by
    rw [dat_eq]
    refine ⟨?_, by show 1 ≤ n + 1; omega⟩
    show (D.plain (.str wNAM) && (D.plain (.str s) && true)) = true
    rw [hns s h]
    rfl
  | n + 1, .th ps, ⟨h1, h2⟩ => by
    rw [dat_eq]
    refine ⟨?_, ?_⟩
    · show (D.plain (.str wTHE) && D.plainL (ps.map Tr.dat)) = true
      rw [plainL_map fun t ht => ((h2 t ht).plain hal hns).1]
      rfl
    · show max 0 (D.depL (ps.map Tr.dat)) + 1 ≤ n + 1
      have := depL_map fun t ht => ((h2 t ht).plain hal hns).2
      omega
  | n + 1, .ti t c, ⟨h1, h2⟩ => by
    obtain ⟨a, b⟩ := h2.plain hal hns
    rw [dat_eq]
    refine ⟨?_, ?_⟩
    · show (D.plain (.str wTIM) && ((Tr.dat t).plain && true)) = true
      rw [a]
      rfl
    · show max 0 (max (Tr.dat t).dep 0) + 1 ≤ n + 1
      omega
end
theorem at_last (l : List D) (x : D) : atI (l ++ [x]) (-1) = some x := by
  unfold atI ixN
  rw [List.length_append, List.length_singleton]
  have e1 : ¬ (0 : Int) ≤ -1 := by decide
  have e2 : -((l.length + 1 : Nat) : Int) ≤ -1 := by omega
  have e4 : (-1 + ((l.length : Int) + 1)).toNat = l.length := by omega
  have e5 : (1 : Int) ≤ (l.length : Int) + 1 := by omega
  simp [e1, e4, e5]
section
variable {ds : List D} {kd : KD} {ko : D → D → Prop} {kx : KX} {Γ : Ga} {t ta tb tc : TP} {tl : TL} {d e c c0 : D} {n i j : Nat} {P : PEn} {u v : List Nat} {s r : TSp} {cb : TB} {env : Env} {q : Tr} {b : Bool}
local instance : Tabl := ⟨[], fun p hp => absurd hp (by simp)⟩
end
end PL
set_option Elab.async false
set_option linter.all false
set_option maxRecDepth 100000
set_option maxHeartbeats 4000000
namespace PL
open PySem L2
section
variable {ds : List D} {kd : KD} {ko : D → D → Prop} {kx : KX} {Γ : Ga} {t ta tb tc : TP} {tl : TL} {d e c c0 : D} {n i j : Nat} {P : PEn} {u v : List Nat} {s r : TSp} {cb : TB} {env : Env} {q : Tr} {b : Bool} {al : List Nat} {ns : List (List Nat)}
local instance : Tabl := ⟨[], fun p hp => absurd hp (by simp)⟩
end
end PL
set_option Elab.async false
set_option linter.all false
set_option maxRecDepth 100000
set_option maxHeartbeats 4000000
namespace PL
open PySem L2
mutual
def Tr.dp : Tr → Nat
  | .dd _ => 1
  | .nm _ => 1
  | .th ps => dpL ps + 1
  | .ei ps => dpL ps + 1
  | .ti t _ => Tr.dp t + 1
  | .ag t => Tr.dp t + 1
def dpL : List Tr → Nat
  | [] => 0
  | t :: r => max (Tr.dp t) (dpL r)
end
def Tr.bs : Tr → Tr
  | .ti t _ => t.bs
  | .ag t => t.bs
  | t => t
def Tr.pw : Tr → List (Option Nat)
  | .ti t n => t.pw ++ [some n]
  | .ag t => t.pw ++ [none]
  | _ => []
end PL
set_option Elab.async false
set_option linter.all false
set_option maxRecDepth 100000
set_option maxHeartbeats 4000000
namespace PL
open PySem L2
structure TxOk (s : List Nat) : Prop where
  hz : s.length ≤ 20000
  hc : ∀ c ∈ s, c < 128
theorem TxOk.hd {a : Nat} {b : List Nat} (h : TxOk (a :: b)) : a < 128 := h.hc a List.mem_cons_self
theorem TxOk.ln {a : List Nat} (h : TxOk a) : a.length ≤ sizeLine := Nat.le_trans h.hz (by decide)
section
variable {ds : List D} {kd : KD} {ko : D → D → Prop} {kx : KX} {Γ : Ga} {t ta tb tc : TP} {tl : TL} {d e c c0 : D} {n i j : Nat} {P : PEn} {u v : List Nat} {s r : TSp} {cb : TB} {q : Tr} {b : Bool} {CR CX : Addr} {p : Addr}
local instance : Tabl := ⟨[], fun p hp => absurd hp (by simp)⟩
end
end PL
set_option Elab.async false
set_option linter.all false
set_option maxRecDepth 100000
set_option maxHeartbeats 4000000
namespace PL
open PySem L2
def StopA (r : List Nat) : Prop := ∀ c, r.head? = some c → c = 46 ∨ c = 124 ∨ c = 41 ∨ c = 94
def StopP (r : List Nat) : Prop := ∀ c, r.head? = some c → c = 46 ∨ c = 124 ∨ c = 41
def StopR (r : List Nat) : Prop := ∀ c, r.head? = some c → c = 124 ∨ c = 41
theorem StopR.p {r : List Nat} (h : StopR r) : StopP r := fun c e => (h c e).elim (fun z => .inr (.inl z)) fun z => .inr (.inr z)
theorem StopP.a {r : List Nat} (h : StopP r) : StopA r := fun c e => (h c e).elim .inl fun z => z.elim (fun z => .inr (.inl z)) fun z => .inr (.inr (.inl z))
section
variable {ds : List D} {kd : KD} {ko : D → D → Prop} {kx : KX} {Γ T : Ga} {t ta tb tc : TP} {tl : TL} {d e c0 : D} {n i j c : Nat} {P : PEn} {u v s g : List Nat} {cb : TB} {q : Tr} {b : Bool} {CR CX : Addr} {p : Addr} {gq : FSo} {nm : PySem.Str} {k : D → Ga → Prop} {kb : Bool → Ga → Prop} {kxx : XD → Ga → Prop}
local instance : Tabl := ⟨[], fun p hp => absurd hp (by simp)⟩
end
end PL
set_option Elab.async false
set_option linter.all false
set_option maxRecDepth 100000
set_option maxHeartbeats 4000000
namespace PL
open PySem L2
section
variable {ds : List D} {kd : KD} {ko : D → D → Prop} {kx : KX} {Γ T : Ga} {t ta tb tc : TP} {tl : TL} {d e c0 : D} {n i j c : Nat} {P : PEn} {u v s g : List Nat} {cb : TB} {q : Tr} {b : Bool} {CR CX : Addr} {p : Addr} {gq : FSo} {nm : PySem.Str} {k : D → Ga → Prop} {kb : Bool → Ga → Prop} {kxx : XD → Ga → Prop}
local instance : Tabl := ⟨[], fun p hp => absurd hp (by simp)⟩
end
end PL
set_option Elab.async false
set_option linter.all false
set_option maxRecDepth 100000
set_option maxHeartbeats 4000000
namespace PL
open PySem L2
section
variable {ds : List D} {kd : KD} {ko : D → D → Prop} {kx : KX} {Γ T : Ga} {t ta tb tc : TP} {tl : TL} {d e c0 : D} {n i j c : Nat} {P : PEn} {u v s g : List Nat} {cb : TB} {q : Tr} {b : Bool} {CR CX : Addr}
local instance : Tabl := ⟨[], fun p hp => absurd hp (by simp)⟩
theorem ev_lcA {is : List Nat} {ti : TL} {te : TP} {α : Type} {items : List α} {pa : α → D} {f : α → D} (h : EvL ti Γ (items.map pa)) (hl : items.length ≤ 100000) (he : ∀ x ∈ items, Ev te (gset (wipeG Γ is) i (.pu (pa x))) (f x)) : Ev (tpLc is ti (tgName i) tbYes te) Γ (.lst (items.map f)) := fun k kx z => h _ _ (by
  refine ⟨by rw [List.length_map]; exact hl, ?_⟩
  have go : ∀ (items : List α) {k : List D → Prop}, (∀ x ∈ items, Ev te (gset (wipeG Γ is) i (.pu (pa x))) (f x)) → k (items.map f) → lcW (tgName i) tbYes te (wipeG Γ is) (items.map pa) k := fun items => by
    induction items with
    | nil => exact fun _ h => h
    | cons x r ih => exact fun hx h => hx x List.mem_cons_self _ _ (ih (fun y hy => hx y (List.mem_cons_of_mem _ hy)) h)
  exact go items he z)
theorem ev_allB {α : Type} {items : List α} {f : α → Bool} (h : Ev t Γ (.lst (items.map fun x => .bl (f x)))) : Ev (tp1 fAll t) Γ (.bl (items.all f)) := by
  have e : (items.map fun x => D.bl (f x)) = (items.map f).map .bl := by rw [List.map_map]; rfl
  rw [e] at h
  have := ev_all h
  rwa [List.all_map] at this
theorem ev_an {b c : Bool} (h : Ev ta Γ (.bl b)) (g : b = true → Ev tb Γ (.bl c)) : Ev (tpAnd ta tb) Γ (.bl (b && c)) := by
  cases b with
  | false => exact ev_and h (fun z => nomatch z) (fun _ => rfl)
  | true => exact ev_and h g (fun z => nomatch z)
end
end PL
set_option Elab.async false
set_option linter.all false
set_option maxRecDepth 100000
set_option maxHeartbeats 4000000
namespace PL
open PySem L2
section
variable {ds : List D} {kd : KD} {kx : KX} {C CF CC CX CB : Addr} {ss : List (List Nat)} {ps : Prs} {K : Ks} {Γ : Ga} {t : TP} {d : D}
local instance : Tabl := ⟨[], fun p hp => absurd hp (by simp)⟩
end
end PL
set_option Elab.async false
set_option linter.all false
set_option maxRecDepth 100000
set_option maxHeartbeats 4000000
namespace PL
open PySem L2
section
variable {ds : List D} {kd : KD} {kx : KX} {C CF CC CX CB : Addr} {ss : List (List Nat)} {ps : Prs} {K : Ks} {Γ : Ga} {t : TP} {d : D}
local instance : Tabl := ⟨[], fun p hp => absurd hp (by simp)⟩
end
end PL
set_option Elab.async false
set_option linter.all false
set_option maxRecDepth 100000
set_option maxHeartbeats 4000000
namespace PL
open PySem L2
section
variable {ds : List D} {kd : KD} {kx : KX} {C CF CC CX CB : Addr} {ss : List (List Nat)} {ps : Prs} {Γ : Ga} {t ta tb tc : TP} {tl : TL} {d x y : D} {n : Nat} {cb : TB} {P : PEn} {u s r : TSp} {b : Bool} {K : Ks} {m : KindM} {KK : PySem.W.Frag}
local instance : Tabl := ⟨[], fun p hp => absurd hp (by simp)⟩
end
end PL
set_option Elab.async false
set_option linter.all false
set_option maxRecDepth 100000
set_option maxHeartbeats 4000000
namespace PL
open PySem L2
def idxR : List Nat → Nat → Nat
  | [], _ => 0
  | a :: r, c => if a = c then 0 else idxR r c + 1
theorem idx_at {c : Nat} : ∀ {al : List Nat}, c ∈ al → al[idxR al c]? = some c ∧ ∀ j, j < idxR al c → al[j]? ≠ some c
  | a :: r, h => by
    unfold idxR
    by_cases e : a = c
    · rw [if_pos e, e]
      exact ⟨rfl, fun j hj => absurd hj (Nat.not_lt_zero _)⟩
    · rw [if_neg e]
      obtain ⟨h1, h2⟩ := idx_at ((List.mem_cons.mp h).resolve_left fun z => e z.symm)
      refine ⟨by rw [List.getElem?_cons_succ]; exact h1, fun j hj => ?_⟩
      cases j with
      | zero => rw [List.getElem?_cons_zero]; exact fun z => e (Option.some.inj z)
      | succ j => rw [List.getElem?_cons_succ]; exact h2 j (by omega)
theorem idx_lt {c : Nat} {al : List Nat} (h : c ∈ al) : idxR al c < al.length := (List.getElem?_eq_some_iff.mp (idx_at h).1).1
def cellR (rs : List (List Int)) (s j : Nat) : Int := (rs.getD s []).getD j 0
/-- rows as a store has them -/
structure StG (al : List Nat) (rs : List (List Int)) : Prop where
  ok : okA al
  tab : Tab rs.length al.length rs
  l1 : 1 ≤ rs.length
  l2 : rs.length ≤ 120
theorem cell_at {al : List Nat} {rs : List (List Int)} (h : StG al rs) {s j : Nat} (hs : s < rs.length) (hj : j < al.length) : ∃ row, rs[s]? = some row ∧ row[j]? = some (cellR rs s j) ∧ ∃ t : Nat, cellR rs s j = (t : Int) ∧ t < rs.length := by
  have hr := List.getElem_mem hs
  have hw := h.tab.hw _ hr
  have hjr : j < (rs[s]).length := by rw [hw]; exact hj
  have e : cellR rs s j = (rs[s])[j] := by
    unfold cellR
    have e0 : rs.getD s [] = rs[s] := by rw [List.getD_eq_getElem?_getD, List.getElem?_eq_getElem hs]; rfl
    rw [e0, List.getD_eq_getElem?_getD, List.getElem?_eq_getElem hjr]
    rfl
  obtain ⟨b1, b2⟩ := h.tab.hb _ hr _ (List.getElem_mem hjr)
  refine ⟨rs[s], List.getElem?_eq_getElem hs, by rw [e]; exact List.getElem?_eq_getElem hjr, (cellR rs s j).toNat, ?_, ?_⟩
  · rw [e]; omega
  · rw [e]; omega
def ledR (al : List Nat) (rs : List (List Int)) : Nat → List Nat → Nat
  | s, [] => s
  | s, c :: r => ledR al rs (cellR rs s (idxR al c)).toNat r
def fsPlaceG : FS := fun ds k _ => match ds with
  | [.str al, .str [c]] => (okA al ∧ c ∈ al) ∧ k (.int (idxR al c : Nat))
  | _ => False
def fsNeedRowsG : FS := fun ds k _ => match ds with
  | [d, .int w] => ∃ (rs : List (List Int)) (v : Nat), (isSq d (rs.map fun r => .tup (lstI r)) ∧ w = (v : Int) ∧ Tab rs.length v rs ∧ 1 ≤ rs.length ∧ rs.length ≤ 120 ∧ v ≤ 100) ∧ k .non
  | _ => False
def fsStoG (CS : Addr) : FSo := fun ds k _ => match ds with
  | [.ins C [], .str al, d] => ∃ rs : List (List Int), (C = CS ∧ isSq d (rs.map fun r => .tup (lstI r)) ∧ StG al rs) ∧ k .non (stoD CS al rs)
  | _ => False
def fsLedS (CS : Addr) : FS := fun ds k _ => match ds with
  | [d, .int a, .str v] => ∃ al rs, ∃ s : Nat, (d = stoD CS al rs ∧ StG al rs ∧ a = (s : Int) ∧ s < rs.length ∧ ∀ c ∈ v, c ∈ al) ∧ k (.int (ledR al rs s v : Nat))
  | _ => False
def fsCallG (CS : Addr) : FS := fun ds k kx => v3 ds (fsLedS CS ds k kx)
where v3 : List D → Prop → Prop := fun ds p => p ∧ ∀ v, ds[2]? = some (.str v) → v.length ≤ 3000
def fsLedL : FS := fun ds k _ => match ds with
  | [d, .str al, .int a, .str v] => ∃ rs, ∃ s : Nat, (d = rowsD rs ∧ StG al rs ∧ a = (s : Int) ∧ s < rs.length ∧ ∀ c ∈ v, c ∈ al) ∧ k (.int (ledR al rs s v : Nat))
  | _ => False
section
variable {ds : List D} {kd : KD} {kx : KX} {CS CN CE CL : Addr} {Γ : Ga} {t ta tb : TP} {d : D} {al : List Nat} {rs : List (List Int)} {P : PEn}
local instance : Tabl := ⟨[], fun p hp => absurd hp (by simp)⟩
theorem pl_one {al : List Nat} (h : okA al) {c : Nat} (hc : c ∈ al) : D.plain (.str [c]) = true := plain_of fun x hx => by rw [List.mem_singleton.mp hx]; exact h.2.2.2 c hc
theorem plc_go {G : Ga} {c : Nat} (g2 : ∀ x y, gat (gset (gset G 2 x) 3 y) 2 = x) (g3 : ∀ x y, gat (gset (gset G 2 x) 3 y) 3 = y) (g1 : ∀ x y, gat (gset (gset G 2 x) 3 y) 1 = .pu (.str [c])) (hc : D.plain (.str [c]) = true) : ∀ (l : List Nat) (i : Nat) {k : List D → Prop}, (∀ x ∈ l, D.plain (.str [x]) = true) → (∀ ys : List D, (c ∈ l → ys.head? = some (.int ((i + idxR l c : Nat) : Int))) → k ys) →
    lcW (tgTup2 2 3) (tbV (tpOp fEq (tpVar 3) (tpVar 1))) (tpVar 2) G (pairs i l) k
  | [], i, k, _, h => h [] fun z => nomatch z
  | x :: l, i, k, hp, h => by
    show tbV (tpOp fEq (tpVar 3) (tpVar 1)) (gset (gset G 2 (.pu (.int (i : Nat)))) 3 (.pu (.str [x]))) _ _
    have e := ev_eqS (Γ := gset (gset G 2 (.pu (.int (i : Nat)))) 3 (.pu (.str [x]))) (ev_var (i := 3) (d := .str [x]) (g3 _ _)) (ev_var (i := 1) (d := .str [c]) (g1 _ _)) (hp x List.mem_cons_self) hc
    refine (evb_v e) _ _ ?_
    by_cases q : x = c
    · subst q
      rw [if_pos (decide_eq_true rfl)]
      refine (ev_var (i := 2) (d := .int (i : Nat)) (g2 _ _)) (fun y => lcW (tgTup2 2 3) (tbV (tpOp fEq (tpVar 3) (tpVar 1))) (tpVar 2) G (pairs (i + 1) l) fun ys => k (y :: ys)) (fun _ => False) ?_
      refine plc_go g2 g3 g1 hc l (i + 1) (fun y hy => hp y (List.mem_cons_of_mem _ hy)) fun ys _ => h _ fun _ => ?_
      show some _ = some _
      unfold idxR
      rw [if_pos rfl]
      rfl
    · rw [if_neg (by rw [decide_eq_false (fun z => q (List.cons.inj z).1)]; exact Bool.false_ne_true)]
      refine plc_go g2 g3 g1 hc l (i + 1) (fun y hy => hp y (List.mem_cons_of_mem _ hy)) fun ys hys => h _ fun hm => ?_
      rw [hys ((List.mem_cons.mp hm).resolve_left fun z => q z.symm)]
      show some (D.int ((i + 1 + idxR l c : Nat) : Int)) = some (D.int ((i + idxR (x :: l) c : Nat) : Int))
      have : idxR (x :: l) c = idxR l c + 1 := by show (if x = c then 0 else idxR l c + 1) = _; rw [if_neg q]
      rw [this]
      congr 2
      omega
theorem plcG_ok' : fsPlaceG ds kd kx → m_place_of ds kd kx := by
  intro h0
  match ds, h0 with
  | [.str al, .str [c]], ⟨⟨ok, hc⟩, h⟩ =>
    have l8 := ok.2.1
    show (pairs 0 al).length ≤ 100000 ∧ lcW _ _ _ _ _ _
    refine ⟨by rw [pairs_length]; omega, ?_⟩
    refine plc_go (G := [.pu (.str al), .pu (.str [c]), .un, .un]) (fun _ _ => rfl) (fun _ _ => rfl) (fun _ _ => rfl) (pl_one ok hc) al 0 (fun x hx => pl_one ok hx) fun ys hys => ?_
    have e := hys hc
    rw [Nat.zero_add] at e
    match ys, e with
    | y :: ys, e =>
      cases Option.some.inj e
      exact (ev_ixL (Γ := [.pu (.str al), .pu (.str [c]), .un, .un]) (ev_c (.lst (D.int (idxR al c : Nat) :: ys))) (ev_c (.int 0)) at0) kd (fun _ => True) h
theorem ev_stand {ms : List (Addr × FS)} {s : Nat} (h : Ev t Γ (stoD CS al rs)) (g : Ev ta Γ (.int (s : Nat))) (hm : (CS, fsNeedSt CS CN) ∈ ms) (hs : s < rs.length) : Ev (tpMeth ms "need_stand" 1 t (tlCons ta tlNil)) Γ .non :=
  ev_needSt h g hm rfl (by
    show (decide ((0 : Int) ≤ (s : Nat)) && decide (((s : Nat) : Int) ≤ (rs.length : Nat) - 1)) = true
    rw [decide_eq_true (by omega), decide_eq_true (by omega)]
    rfl)
theorem ev_deed {ms : List (Addr × FS)} {c : Nat} (h : Ev t Γ (stoD CS al rs)) (g : Ev ta Γ (.str [c])) (hm : (CS, fsNeedDe CS CE) ∈ ms) (hc : c ∈ al) : Ev (tpMeth ms "need_deed" 1 t (tlCons ta tlNil)) Γ .non :=
  ev_needDe h g hm ⟨rfl, fun s e => by cases e; show 1 ≤ 3000; decide⟩ (decide_eq_true hc)
theorem ev_plc {c : Nat} (h : Ev ta Γ (.str al)) (g : Ev tb Γ (.str [c])) (ok : okA al) (hc : c ∈ al) : Ev (tpCall 2 fsPlaceG (tlCons ta (tlCons tb tlNil))) Γ (.int (idxR al c : Nat)) := ev_call (evl_2 h g) rfl fun k kx z => ⟨⟨ok, hc⟩, z⟩
theorem at_map {α : Type} {l : List α} {f : α → D} {i : Nat} {x : α} (h : l[i]? = some x) : atI (l.map f) ((i : Nat) : Int) = some (f x) := by
  have hl := (List.getElem?_eq_some_iff.mp h).1
  rw [at_nat (l.map f) i (by rw [List.length_map]; exact hl), List.getElem_map]
  rw [List.getElem?_eq_getElem hl] at h
  rw [Option.some.inj h]
/-- the cell of a store -/
theorem ev_cell {tc : TP} {s c : Nat} (g : StG al rs) (h : Ev t Γ (stoD CS al rs)) (hs : s < rs.length) (hc : c ∈ al) (h1 : Ev ta Γ (.int (s : Nat))) (h2 : Ev tc Γ (.str [c])) :
    Ev (tpOp fIx (tpOp fIx (tpFld [CS] "table" t) ta) (tpCall 2 fsPlaceG (tlCons (tpFld [CS] "own_deeds" t) (tlCons tc tlNil)))) Γ (.int (cellR rs s (idxR al c))) := by
  obtain ⟨row, r1, r2, _⟩ := cell_at g hs (idx_lt hc)
  exact ev_ixL (ev_ixL (ev_tab h) h1 (at_map (f := fun r => D.lst (lstI r)) r1)) (ev_plc (ev_ownd h) h2 g.ok hc) (at_map r2)
theorem led_go {P : PEn} (g : StG al rs) (hk : ∀ (s : Nat) s3, s < rs.length → P.nx [.pu (stoD CS al rs), .pu (.int (s : Nat)), .pu d, s3] = (P.nx [.pu (stoD CS al rs), .pu (.int (s : Nat)), .pu d, s3])) : ∀ (v : List Nat) (s : Nat) (s3 : Sl), s < rs.length → (∀ c ∈ v, c ∈ al) → (∀ s3, P.nx [.pu (stoD CS al rs), .pu (.int (ledR al rs s v : Nat)), .pu d, s3]) →
    forW (tgName 3) (tsSet 1 (tpOp fIx (tpOp fIx (tpFld [CS] "table" (tpVar 0)) (tpVar 1)) (tpCall 2 fsPlaceG (tlCons (tpFld [CS] "own_deeds" (tpVar 0)) (tlCons (tpVar 3) tlNil))))) P (v.map fun c => .str [c]) [.pu (stoD CS al rs), .pu (.int (s : Nat)), .pu d, s3]
  | [], s, s3, hs, _, h => h s3
  | c :: v, s, s3, hs, hv, h => by
    have hc := hv c List.mem_cons_self
    obtain ⟨row, r1, r2, t, et, ht⟩ := cell_at g hs (idx_lt hc)
    let G : Ga := [.pu (stoD CS al rs), .pu (.int (s : Nat)), .pu d, .pu (.str [c])]
    have e := ev_cell (Γ := G) g (ev_var (i := 0) rfl) hs hc (ev_var (i := 1) rfl) (ev_var (i := 3) rfl)
    rw [et] at e
    refine st_set1 (Γ := G) (P := { P with nx := forW (tgName 3) (tsSet 1 (tpOp fIx (tpOp fIx (tpFld [CS] "table" (tpVar 0)) (tpVar 1)) (tpCall 2 fsPlaceG (tlCons (tpFld [CS] "own_deeds" (tpVar 0)) (tlCons (tpVar 3) tlNil))))) P (v.map fun c => .str [c]), ct := forW (tgName 3) (tsSet 1 (tpOp fIx (tpOp fIx (tpFld [CS] "table" (tpVar 0)) (tpVar 1)) (tpCall 2 fsPlaceG (tlCons (tpFld [CS] "own_deeds" (tpVar 0)) (tlCons (tpVar 3) tlNil))))) P (v.map fun c => .str [c]), bk := P.nx }) e ?_
    refine led_go g hk v t _ ht (fun x hx => hv x (List.mem_cons_of_mem _ hx)) ?_
    have : ledR al rs s (c :: v) = ledR al rs t v := by show ledR al rs (cellR rs s (idxR al c)).toNat v = _; rw [et, Int.toNat_natCast]
    rw [this] at h
    exact h
theorem ledS_ok' : fsLedS CS ds kd kx → m_Store_led CS fsPlaceG ds kd kx := by
  intro h0
  match ds, h0 with
  | [d, .int a, .str v], ⟨al, rs, s, ⟨e1, g, e2, hs, hv⟩, h⟩ =>
    subst e1 e2
    refine st_for (Γ := [.pu (stoD CS al rs), .pu (.int (s : Nat)), .pu (.str v), .un]) (P := fEnds kd kx) (evl_tiStr (ev_var (i := 2) rfl)) ?_
    exact led_go g (fun _ _ _ => rfl) v s _ hs hv fun s3 => h
end
end PL
set_option Elab.async false
set_option linter.all false
set_option maxRecDepth 100000
set_option maxHeartbeats 4000000
namespace PL
open PySem L2
def fsEqG (CS : Addr) : FS := fun ds k _ => match ds with
  | [d, e] => ∃ al rs, (d = stoD CS al rs ∧ okA al ∧ rs.length ≤ 120) ∧ ((∃ al2 rs2, (e = stoD CS al2 rs2 ∧ okA al2 ∧ rs2.length ≤ 120) ∧ k (.bl (decide (al = al2 ∧ rs = rs2)))) ∨ ((∃ l, e = .lst l) ∧ k (.bl false)))
  | _ => False
section
variable {ds : List D} {kd : KD} {kx : KX} {CS CN CE CL CI CT CD CC : Addr} {Γ : Ga} {t ta tb : TP} {d : D} {al : List Nat} {rs : List (List Int)} {P : PEn} {w : Int} {v : Nat}
local instance : Tabl := ⟨[], fun p hp => absurd hp (by simp)⟩
theorem nrG_loop {n : Nat} (hd : isSq d (rs.map fun r => .tup (lstI r))) (hn : rs.length = n) : ∀ (l : List (List Int)) (j : Nat) (s2 s3 s4 : Sl), (∀ r ∈ l, r.length = v ∧ ∀ x ∈ r, 0 ≤ x ∧ x < (n : Int)) → v ≤ 100 → (∀ s2 s3 s4, P.nx [.pu d, .pu (.int (v : Nat)), s2, s3, s4]) →
    forW (tgTup2 2 3) (nrBody CI) P (pairsD j (l.map fun r => .tup (lstI r))) [.pu d, .pu (.int (v : Nat)), s2, s3, s4]
  | [], j, s2, s3, s4, _, _, hk => hk _ _ _
  | r :: l, j, s2, s3, s4, h, hv, hk => by
    obtain ⟨h1, h2⟩ := h r List.mem_cons_self
    let Q : PEn := { P with nx := forW (tgTup2 2 3) (nrBody CI) P (pairsD (j + 1) (l.map fun r => .tup (lstI r))), ct := forW (tgTup2 2 3) (nrBody CI) P (pairsD (j + 1) (l.map fun r => .tup (lstI r))), bk := P.nx }
    show nrBody CI Q [.pu d, .pu (.int (v : Nat)), .pu (.int (j : Nat)), .pu (.tup (lstI r)), s4]
    let G : Ga := [.pu d, .pu (.int (v : Nat)), .pu (.int (j : Nat)), .pu (.tup (lstI r)), s4]
    have v3 : Ev (tpVar 3) G (.tup (lstI r)) := ev_var rfl
    have is : Ev (tp1 (fIsi "tuple") (tpVar 3)) G (.bl true) := ev_1 v3 fun k z => z
    have ln := ev_neI (ev_lenT v3) (ev_var (Γ := G) (i := 1) (d := .int (v : Nat)) rfl)
    rw [decide_eq_true (by rw [List.length_map, h1])] at ln
    have lnd : Ev (tp1 fLenS (tpVar 0)) G (.int (n : Nat)) := ev_1 (ev_var (d := d) rfl) fun k z => by rw [isSq_len hd, List.length_map, hn]; exact z
    have it : EvL (tiTup (tpVar 3)) G ((lstI r).map id) := by rw [List.map_id]; exact evl_tiTup v3
    have lc : Ev (tpLc [4] (tiTup (tpVar 3)) (tgName 4) tbYes (tpCall 3 fsWithin (tlCons (tpVar 4) (tlCons (tpC (.int 0)) (tlCons (tpOp fSub (tp1 fLenS (tpVar 0)) (tpC (.int 1))) tlNil))))) G (.lst ((lstI r).map fun y => .bl (within 0 ((n : Int) - 1) y))) :=
      ev_lcA (items := lstI r) (pa := id) it (by rw [List.length_map]; omega) fun y hm => by
        have lnd2 : Ev (tp1 fLenS (tpVar 0)) (gset (wipeG G [4]) 4 (.pu (id y))) (.int (n : Nat)) := ev_1 (ev_var (d := d) rfl) fun k z => by rw [isSq_len hd, List.length_map, hn]; exact z
        exact ev_within (ev_var rfl) (ev_c (.int 0)) (ev_subI lnd2 (ev_c (.int 1))) (by obtain ⟨x, _, rfl⟩ := List.mem_map.mp hm; rfl)
    have al := ev_allB lc
    have ta : ((lstI r).all fun y => within 0 ((n : Int) - 1) y) = true := List.all_eq_true.mpr fun y hy => by
      obtain ⟨x, hx, rfl⟩ := List.mem_map.mp hy
      obtain ⟨b1, b2⟩ := h2 x hx
      show (decide (0 ≤ x) && decide (x ≤ (n : Int) - 1)) = true
      rw [decide_eq_true b1, decide_eq_true (by omega)]
      rfl
    rw [ta] at al
    refine st_ifN (P := Q) (Γ := G) (evb_orF (evb_not (b := true) (evb_v is)) (evb_v ln)) ?_
    exact st_if1F (P := Q) (Γ := G) (evb_not (b := true) (evb_v al)) (nrG_loop hd hn l (j + 1) _ _ _ (fun x hx => h x (List.mem_cons_of_mem _ hx)) hv hk)
theorem needRowsG_ok' : fsNeedRowsG ds kd kx → mv_need_rows CI CT fsWithin ds kd kx := by
  intro h0
  match ds, h0 with
  | [d, .int w], ⟨rs, v, ⟨hd, e, hT, l1, l2, hv⟩, h⟩ =>
    subst e
    let G : Ga := [.pu d, .pu (.int (v : Nat)), .un, .un, .un]
    have c : Ev (tp1 (fIsi2 "list" "tuple") (tpVar 0)) G (.bl true) := ev_1 (ev_var (d := d) rfl) fun k z => by rcases hd with rfl | rfl <;> exact z
    have ln : Ev (tp1 fLenS (tpVar 0)) G (.int (rs.length : Nat)) := ev_1 (ev_var (d := d) rfl) fun k z => by rw [isSq_len hd, List.length_map]; exact z
    have c2 := ev_eqI ln (ev_c (.int 0))
    rw [decide_eq_false (by omega)] at c2
    have c3 := ev_gtI ln (ev_c (.int 120))
    rw [decide_eq_false (by omega)] at c3
    refine st_ifN (P := fEnds kd kx) (Γ := G) (evb_orF (evb_not (b := true) (evb_v c)) (evb_v c2)) (st_ifN (P := fEnds kd kx) (Γ := G) (evb_v c3) ?_)
    have en : EvL (tiEnumV 0) G (pairsD 0 (rs.map fun r => .tup (lstI r))) := fun k kx z => by rcases hd with rfl | rfl <;> exact z
    exact st_for1 (P := fEnds kd kx) (Γ := G) (tg := tgTup2 2 3) (s := nrBody CI) en (nrG_loop hd rfl rs 0 _ _ _ (fun r hr => ⟨hT.hw r hr, hT.hb r hr⟩) hv fun _ _ _ => h)
theorem stoG_ok' {ko : D → D → Prop} : fsStoG CS ds ko kx → m_Store___init__ CS (fsNeedDsX CD) fsNeedRowsG ds ko kx := by
  intro h0
  match ds, h0 with
  | [.ins C [], .str al, d], ⟨rs, ⟨e, hd, g⟩, h⟩ =>
    subst e
    intro p
    have a8 := g.ok.2.1
    have l2 := g.l2
    let G : Ga := [.pw p (.ins C []), .pu (.str al), .pu d, .un]
    refine st_drop (P := iEnds p ko kx) (Γ := G) (ev_call (evl_1 (ev_var (d := .str al) rfl)) rfl fun k kx z => ⟨goodL_of g.ok, .inl ⟨al, rfl, g.ok, z⟩⟩) ?_
    refine st_drop (P := iEnds p ko kx) (Γ := G) (ev_call (evl_2 (ev_var (i := 2) (d := d) rfl) (ev_lenS (ev_var (i := 1) (d := .str al) rfl) (Nat.le_trans a8 (by decide)))) rfl fun k kx z => ⟨rs, al.length, ⟨hd, rfl, g.tab, g.l1, l2, by omega⟩, z⟩) ?_
    refine ⟨List.mem_cons_self, by show 0 < 900; decide, ?_⟩
    let G1 : Ga := [.pw p (.ins C [("own_deeds", .str al)]), .pu (.str al), .pu d, .un]
    have sq : EvL (tiSq (tpVar 2)) G1 (rs.map fun r => .tup (lstI r)) := evl_tiSq (ev_var (d := d) rfl) hd
    have lc := ev_lcA (Γ := G1) (is := [3]) (i := 3) (te := tp1 fList (tpVar 3)) (items := rs) (pa := fun r => .tup (lstI r)) (f := fun r => .lst (lstI r)) sq (by omega) (fun r _ => ev_1 (ev_var (d := .tup (lstI r)) rfl) fun k z => z)
    exact st_setF1 (P := iEnds p ko kx) (Γ := G1) lc ⟨List.mem_cons_self, by show 1 < 900; decide, rfl, h⟩
theorem callG_ok' : fsCallG CS ds kd kx → mh_Store___call__ CS (fsNeedV CL) (fsNeedSt CS CN) (fsLedS CS) ds kd kx := by
  intro h0
  obtain ⟨h0, hz⟩ := h0
  match ds, h0, hz with
  | [d, .int a, .str v], ⟨al, rs, s, ⟨e1, g, e2, hs, hv⟩, h⟩, hz =>
    subst e1 e2
    let G : Ga := [.pu (stoD CS al rs), .pu (.int (s : Nat)), .pu (.str v)]
    have v0 : Ev (tpVar 0) G (stoD CS al rs) := ev_var rfl
    have hl := hz v rfl
    refine st_drop (P := fEnds kd kx) (Γ := G) (ev_stand v0 (ev_var rfl) List.mem_cons_self hs) ?_
    refine st_drop (P := fEnds kd kx) (Γ := G) (ev_call (evl_2 (ev_var (i := 2) (d := .str v) rfl) (ev_ownd v0)) rfl fun k kx z => ⟨⟨rfl, fun w e => by cases e; exact hl⟩, fun _ => z, fun q => by rw [goodV_str hv] at q; cases q⟩) ?_
    exact st_ret (P := fEnds kd kx) (Γ := G) (ev_meth v0 rfl List.mem_cons_self (evl_2 (ev_var (i := 1) (d := .int (s : Nat)) rfl) (ev_var (i := 2) (d := .str v) rfl)) rfl fun k kx z => ⟨al, rs, s, ⟨rfl, g, rfl, hs, hv⟩, z⟩) h
theorem tab_eq : ∀ {a b : List (List Int)}, eqD (tabD a) (tabD b) = decide (a = b) := by
  have itz : ∀ (a b : List Int), eqD (.lst (lstI a)) (.lst (lstI b)) = decide (a = b) := fun a => by
    induction a with
    | nil => intro b; cases b <;> rfl
    | cons x a ih =>
      intro b
      cases b with
      | nil => rfl
      | cons y b =>
        show (eqD (.int x) (.int y) && eqD (.lst (lstI a)) (.lst (lstI b))) = _
        rw [ih]
        show (decide (x = y) && decide (a = b)) = decide (x :: a = y :: b)
        by_cases h : x = y <;> by_cases g : a = b <;> simp [h, g]
  intro a
  induction a with
  | nil => intro b; cases b <;> rfl
  | cons x a ih =>
    intro b
    cases b with
    | nil => rfl
    | cons y b =>
      show (eqD (.lst (lstI x)) (.lst (lstI y)) && eqD (tabD a) (tabD b)) = _
      rw [itz, ih]
      by_cases h : x = y <;> by_cases g : a = b <;> simp [h, g]
theorem plain_tab : ∀ rs : List (List Int), (tabD rs).plain = true := fun rs => by
  have itz : ∀ l : List Int, D.plainL (lstI l) = true := fun l => by
    induction l with
    | nil => rfl
    | cons x l ih => exact ih
  have : ∀ rs : List (List Int), D.plainL (rs.map fun r => .lst (lstI r)) = true := fun rs => by
    induction rs with
    | nil => rfl
    | cons r rs ih =>
      show (D.plainL (lstI r) && D.plainL (rs.map fun r => .lst (lstI r))) = true
      rw [itz, ih]
      rfl
  exact this rs
theorem dep_tab : ∀ rs : List (List Int), (tabD rs).dep ≤ 3 := fun rs => by
  have itz : ∀ l : List Int, D.depL (lstI l) ≤ 0 := fun l => by
    induction l with
    | nil => exact Nat.le_refl _
    | cons x l ih => exact Nat.max_le.mpr ⟨Nat.le_refl _, ih⟩
  have : ∀ rs : List (List Int), D.depL (rs.map fun r => .lst (lstI r)) ≤ 1 := fun rs => by
    induction rs with
    | nil => exact Nat.zero_le _
    | cons r rs ih => exact Nat.max_le.mpr ⟨Nat.succ_le_succ (itz r), ih⟩
  exact Nat.le_trans (Nat.succ_le_succ (this rs)) (by decide)
theorem eqG_ok' : fsEqG CS ds kd kx → m_Store___eq__ CS ds kd kx := by
  intro h0
  match ds, h0 with
  | [d, e], ⟨al, rs, ⟨e1, ok, hl⟩, h⟩ =>
    subst e1
    let G : Ga := [.pu (stoD CS al rs), .pu e]
    have v0 : Ev (tpVar 0) G (stoD CS al rs) := ev_var rfl
    rcases h with ⟨al2, rs2, ⟨e2, ok2, hl2⟩, h⟩ | ⟨⟨l, e2⟩, h⟩
    · subst e2
      have v1 : Ev (tpVar 1) G (stoD CS al2 rs2) := ev_var rfl
      have is : Ev (tpIsX [(CS, true)] (tpVar 1)) G (.bl true) := ev_isX v1 List.mem_cons_self
      have a := ev_eqS (ev_ownd v0) (ev_ownd v1) (plain_of ok.2.2.2) (plain_of ok2.2.2.2)
      have b : Ev (tpOp fEq (tpFld [CS] "table" (tpVar 0)) (tpFld [CS] "table" (tpVar 1))) G (.bl (decide (rs = rs2))) := ev_op (ev_tab v0) (ev_tab v1) fun k z => ⟨⟨plain_tab rs, plain_tab rs2, Nat.le_trans (dep_tab rs) (by decide), Nat.le_trans (dep_tab rs2) (by decide)⟩, by rw [tab_eq]; exact z⟩
      have c := ev_an is fun _ => ev_an a fun _ => b
      have e : (true && (decide (al = al2) && decide (rs = rs2))) = decide (al = al2 ∧ rs = rs2) := by
        by_cases x : al = al2 <;> by_cases y : rs = rs2 <;> simp [x, y]
      rw [e] at c
      exact st_ret (P := fEnds kd kx) (Γ := G) c h
    · subst e2
      have is : Ev (tpIsX [(CS, true)] (tpVar 1)) G (.bl false) := ev_isXn (ev_var rfl) rfl
      exact st_ret (P := fEnds kd kx) (Γ := G) (ev_and (c := false) is (fun z => by cases z) fun _ => rfl) h
end
end PL
set_option Elab.async false
set_option linter.all false
set_option maxRecDepth 100000
set_option maxHeartbeats 4000000
namespace PL
open PySem L2
section
variable {ds : List D} {kd : KD} {kx : KX} {CS CN CE CL CI CT CD CC : Addr} {Γ : Ga} {t ta tb : TP} {d : D} {al : List Nat} {rs : List (List Int)} {P : PEn} {w : Int} {v : Nat}
local instance : Tabl := ⟨[], fun p hp => absurd hp (by simp)⟩
theorem ev_row {s c : Nat} {tr tc : TP} (g : StG al rs) (h : Ev t Γ (rowsD rs)) (hs : s < rs.length) (hc : c ∈ al) (h1 : Ev ta Γ (.int (s : Nat))) (h2 : Ev tb Γ (.str al)) (h3 : Ev tc Γ (.str [c])) : Ev (tpOp fIx (tpOp fIx t ta) (tpSIdx tb tc)) Γ (.int (cellR rs s (idxR al c))) := by
  obtain ⟨row, r1, r2, _⟩ := cell_at g hs (idx_lt hc)
  have ix : Ev (tpSIdx tb tc) Γ (.int (idxR al c : Nat)) := fun k kx z => h2 _ _ (h3 _ _ ⟨c, idxR al c, rfl, (idx_at hc).1, (idx_at hc).2, z⟩)
  exact ev_ixT (ev_ixL h h1 (at_map (f := fun r => D.tup (lstI r)) r1)) ix (at_map r2)
theorem ledL_go {P : PEn} (g : StG al rs) : ∀ (v : List Nat) (s : Nat) (s4 : Sl), s < rs.length → (∀ c ∈ v, c ∈ al) → (∀ s4, P.nx [.pu (rowsD rs), .pu (.str al), .pu (.int (ledR al rs s v : Nat)), .pu d, s4]) →
    forW (tgName 4) (tsSet 2 (tpOp fIx (tpOp fIx (tpVar 0) (tpVar 2)) (tpSIdx (tpVar 1) (tpVar 4)))) P (v.map fun c => .str [c]) [.pu (rowsD rs), .pu (.str al), .pu (.int (s : Nat)), .pu d, s4]
  | [], s, s4, hs, _, h => h s4
  | c :: v, s, s4, hs, hv, h => by
    have hc := hv c List.mem_cons_self
    obtain ⟨row, r1, r2, t, et, ht⟩ := cell_at g hs (idx_lt hc)
    let G : Ga := [.pu (rowsD rs), .pu (.str al), .pu (.int (s : Nat)), .pu d, .pu (.str [c])]
    have e := ev_row (tr := tpVar 0) (Γ := G) g (ev_var (i := 0) (d := rowsD rs) rfl) hs hc (ev_var (i := 2) rfl) (ev_var (i := 1) rfl) (ev_var (i := 4) rfl)
    rw [et] at e
    refine st_set1 (Γ := G) (P := { P with nx := forW (tgName 4) (tsSet 2 (tpOp fIx (tpOp fIx (tpVar 0) (tpVar 2)) (tpSIdx (tpVar 1) (tpVar 4)))) P (v.map fun c => .str [c]), ct := forW (tgName 4) (tsSet 2 (tpOp fIx (tpOp fIx (tpVar 0) (tpVar 2)) (tpSIdx (tpVar 1) (tpVar 4)))) P (v.map fun c => .str [c]), bk := P.nx }) e ?_
    refine ledL_go g v t _ ht (fun x hx => hv x (List.mem_cons_of_mem _ hx)) ?_
    have : ledR al rs s (c :: v) = ledR al rs t v := by show ledR al rs (cellR rs s (idxR al c)).toNat v = _; rw [et, Int.toNat_natCast]
    rw [this] at h
    exact h
theorem ledL_ok' : fsLedL ds kd kx → m_law_led ds kd kx := by
  intro h0
  match ds, h0 with
  | [d, .str al, .int a, .str v], ⟨rs, s, ⟨e1, g, e2, hs, hv⟩, h⟩ =>
    subst e1 e2
    refine st_for (Γ := [.pu (rowsD rs), .pu (.str al), .pu (.int (s : Nat)), .pu (.str v), .un]) (P := fEnds kd kx) (evl_tiStr (ev_var (i := 3) rfl)) ?_
    exact ledL_go g v s _ hs hv fun s4 => h
end
end PL
set_option Elab.async false
set_option linter.all false
set_option maxRecDepth 100000
set_option maxHeartbeats 4000000
namespace PL
open PySem L2
section
variable {ds : List D} {kd : KD} {kx : KX} {CS CN : Addr} {d : D} {al : List Nat} {rs : List (List Int)} {P : PEn} {s : Nat} {F W : List Nat}
local instance : Tabl := ⟨[], fun p hp => absurd hp (by simp)⟩
def dF (F : List Nat) : List (Key × D) := F.map fun (x : Nat) => (.inl (x : Int), .bl true)
theorem hasF (F : List Nat) (t : Nat) : hasK (dF F) (.inl (t : Int)) = decide (t ∈ F) := by
  unfold hasK dF
  induction F with
  | nil => rfl
  | cons x F ih =>
    rw [List.map_cons, List.any_cons, ih]
    by_cases h : x = t
    · subst h; simp
    · have : decide ((Sum.inl (x : Int) : Key) = .inl (t : Int)) = false := decide_eq_false fun z => h (by have := Sum.inl.inj z; omega)
      show (decide ((Sum.inl (x : Int) : Key) = .inl (t : Int)) || _) = _
      rw [this, Bool.false_or]
      by_cases q : t ∈ F
      · rw [decide_eq_true q, decide_eq_true (List.mem_cons_of_mem _ q)]
      · rw [decide_eq_false q, decide_eq_false (fun z => (List.mem_cons.mp z).elim (fun e => h e.symm) q)]
theorem putF {F : List Nat} {t : Nat} (h : t ∉ F) : putD (dF F) (.inl (t : Int)) (.bl true) = dF (F ++ [t]) := by
  unfold putD
  rw [hasF, decide_eq_false h, if_neg Bool.false_ne_true]
  unfold dF
  rw [List.map_append]
  rfl
theorem plL (l : List Int) : D.plainL (lstI l) = true := by
  induction l with
  | nil => rfl
  | cons x l ih => exact ih
theorem dpLI (l : List Int) : D.depL (lstI l) ≤ 60 := by
  have : D.depL (lstI l) ≤ 0 := by
    induction l with
    | nil => exact Nat.le_refl _
    | cons x l ih => exact Nat.max_le.mpr ⟨Nat.le_refl _, ih⟩
  omega
end
end PL
set_option Elab.async false
set_option linter.all false
set_option maxRecDepth 100000
set_option maxHeartbeats 4000000
namespace PL
open PySem L2 PyProof.Rows
end PL
set_option Elab.async false
set_option linter.all false
set_option maxRecDepth 100000
set_option maxHeartbeats 4000000
namespace PL
open PySem L2 PyProof.Rows
variable [Tabl]
structure LamSS (N : List PySem.Str) (sc scope : Scope) (i0 : Nat) : Prop where
  kind : scope.kind = .function
  co : scope.isCoroutine = false
  gen : scope.isGenerator = false
  cell : ∀ y ∈ scope.names, y.2 ≠ .cell
  own : ∀ y ∈ scope.names, y.2 = .local → N[i0]? = some y.1 ∨ y.1 ∉ N
  free : ∀ y ∈ scope.names, y.2 = .free → sc.names.lookup y.1 = some .cell ∨ sc.names.lookup y.1 = some .free
  nd : N.Nodup
theorem LamSS.has {X : Cx} {scope : Scope} {i0 : Nat} (L : LamSS X.N X.env.scope scope i0) (ok : X.Ok) : ∀ y ∈ scope.names, y.2 = .free → ∃ c, X.env.cells.lookup y.1 = some c :=
  fun y hy e => ok.has _ (L.free y hy e)
end PL
set_option Elab.async false
set_option linter.all false
set_option maxRecDepth 100000
set_option maxHeartbeats 8000000
namespace K23
open PySem L2 PL MU
def top (i : Nat) : Stmt := PySem.Challenge.pw_replaylog_k23_stores_changed.main.body.getD i (.Pass ⟨0, 0, 0, 0⟩)
abbrev s_is_number : Stmt := top 17
abbrev s_is_within : Stmt := top 18
abbrev s_is_log : Stmt := top 19
abbrev s_is_log_of : Stmt := top 20
abbrev s_is_ascending : Stmt := top 21
abbrev s_is_deeds : Stmt := top 22
abbrev s_need_log_of : Stmt := top 23
abbrev s_need_deeds : Stmt := top 26
abbrev s_need_rows : Stmt := top 27
abbrev s_place_of : Stmt := top 28
abbrev s_Store___init__ : Stmt := (inClass (top 29) 1)
abbrev s_Store_rows : Stmt := (inClass (top 29) 4)
abbrev s_Store_need_stand : Stmt := (inClass (top 29) 5)
abbrev s_Store_need_deed : Stmt := (inClass (top 29) 6)
abbrev s_Store_led : Stmt := (inClass (top 29) 7)
abbrev s_Store___call__ : Stmt := (inClass (top 29) 8)
abbrev s_Store_change : Stmt := (inClass (top 29) 12)
abbrev s_Store___setitem__ : Stmt := (inClass (top 29) 10)
abbrev s_Store_twin : Stmt := (inClass (top 29) 14)
abbrev s_Store___eq__ : Stmt := (inClass (top 29) 16)
abbrev s_law_pull : Stmt := top 32
abbrev s_law_pick : Stmt := top 33
abbrev s_law_letters : Stmt := top 34
abbrev s_law_alphabet : Stmt := top 35
abbrev s_law_rows : Stmt := top 36
abbrev s_law_ask : Stmt := top 37
abbrev s_law_drawn : Stmt := top 38
abbrev s_law_same : Stmt := top 39
abbrev s_law_led : Stmt := top 40
abbrev s_law : Stmt := top 41
structure Cls where
  LogError : Addr
  Missing : Addr
  InvalidDeed : Addr
  InvalidDeeds : Addr
  InvalidLog : Addr
  InvalidStep : Addr
  InvalidStore : Addr
  InvalidStand : Addr
  InvalidNumber : Addr
  InvalidCount : Addr
  TooMany : Addr
  NothingLeft : Addr
  Store : Addr
structure Txt (P : Program) (K : PySem.W.Frag) (mg : PySem.Str → Option Value) (C : Cls) : Prop where
  LETTERS : ∃ t, mg "LETTERS" = some (.str (SS [97, 98, 99, 100, 101, 102, 103, 104, 105, 106, 107, 108, 109, 110, 111, 112, 113, 114, 115, 116, 117, 118, 119, 120, 121, 122]) t)
  MOST_DEEDS : ∃ t, mg "MOST_DEEDS" = some (.int 8 t)
  MOST_STANDS : ∃ t, mg "MOST_STANDS" = some (.int 120 t)
  b_all : mg "all" = none
  b_bool : mg "bool" = none
  b_enumerate : mg "enumerate" = none
  b_int : mg "int" = none
  b_isinstance : mg "isinstance" = none
  b_len : mg "len" = none
  b_list : mg "list" = none
  b_min : mg "min" = none
  b_range : mg "range" = none
  b_str : mg "str" = none
  b_tuple : mg "tuple" = none
  g_LogError : mg "LogError" = some (.ref C.LogError)
  g_Missing : mg "Missing" = some (.ref C.Missing)
  g_InvalidDeed : mg "InvalidDeed" = some (.ref C.InvalidDeed)
  g_InvalidDeeds : mg "InvalidDeeds" = some (.ref C.InvalidDeeds)
  g_InvalidLog : mg "InvalidLog" = some (.ref C.InvalidLog)
  g_InvalidStep : mg "InvalidStep" = some (.ref C.InvalidStep)
  g_InvalidStore : mg "InvalidStore" = some (.ref C.InvalidStore)
  g_InvalidStand : mg "InvalidStand" = some (.ref C.InvalidStand)
  g_InvalidNumber : mg "InvalidNumber" = some (.ref C.InvalidNumber)
  g_InvalidCount : mg "InvalidCount" = some (.ref C.InvalidCount)
  g_TooMany : mg "TooMany" = some (.ref C.TooMany)
  g_NothingLeft : mg "NothingLeft" = some (.ref C.NothingLeft)
  n_Store_own_deeds : L2.Cls K C.Store ∧ NoAttr K C.Store "own_deeds"
  n_Store_table : L2.Cls K C.Store ∧ NoAttr K C.Store "table"
  g_Store : mg "Store" = some (.ref C.Store)
  i_Store_Store : InsB K C.Store C.Store true
  oc_Store : OwnC K C.Store
  ns_Store : PySem.W.noSeq K C.Store = true
  fa_Store___call__ : FnAt K C.Store "__call__"
  sub_Store_Store : ∃ b, PySem.W.subIn K (.ref C.Store) (.ref C.Store) = some b
  x_InvalidDeed : PySem.ExcX.XC P K mg "InvalidDeed" "given" C.InvalidDeed
  x_InvalidDeeds : PySem.ExcX.XC P K mg "InvalidDeeds" "given" C.InvalidDeeds
  x_InvalidLog : PySem.ExcX.XC P K mg "InvalidLog" "given" C.InvalidLog
  x_InvalidStand : PySem.ExcX.XC P K mg "InvalidStand" "given" C.InvalidStand
  x_InvalidStore : PySem.ExcX.XC P K mg "InvalidStore" "index" C.InvalidStore
  x_TooMany : PySem.ExcX.XC P K mg "TooMany" "most" C.TooMany
section
variable [Tabl] {P : Program} {w : World} {K : PySem.W.Frag} {mg : PySem.Str → Option Value} {base : Heap} {C : Cls}
theorem sc_is_number : FnScope ["value"] ["value"] (defScope s_is_number) := ⟨rfl, rfl, rfl, by decide +kernel, rfl, by decide +kernel, by decide +kernel⟩
theorem ok_is_number {f : Addr} {fd : FuncData} (F : Fun K "is_number" "is_number" s_is_number f fd) (T : Txt P K mg C)  : FnOk P w K mg base (L2.CX P w) (0 + 1) f fd ["value"] (spOf K 1 (m_is_number   )) := by
  refine fn_ok F sc_is_number rfl (fun cdv A outer s H E hr => ⟨_, ?_, fun ds kd kx _ hf => hf⟩)
  have tk := takes_of (X := (cxOf (L2.CX P w) P w K mg base ["value"] "is_number" (defScope s_is_number) f cdv A outer s H E)) rfl rfl rfl rfl
  have po : PassesOwn (model P w) (cxOf (L2.CX P w) P w K mg base ["value"] "is_number" (defScope s_is_number) f cdv A outer s H E).A (cxOf (L2.CX P w) P w K mg base ["value"] "is_number" (defScope s_is_number) f cdv A outer s H E).env (cxOf (L2.CX P w) P w K mg base ["value"] "is_number" (defScope s_is_number) f cdv A outer s H E).xe := passes_of rfl
  exact (ss_one (s_ret (p_and (p_isi "int" (PP.u (p_var 0)) (pe_bltn (v := .ty "int") (by rfl) T.b_int (by decide +kernel) rfl) T.b_isinstance) (p_one (p_not (p_isi "bool" (PP.u (p_var 0)) (pe_bltn (v := .ty "bool") (by rfl) T.b_bool (by decide +kernel) rfl) T.b_isinstance))))))
theorem sc_is_within : FnScope ["value", "low", "high"] ["value", "low", "high"] (defScope s_is_within) := ⟨rfl, rfl, rfl, by decide +kernel, rfl, by decide +kernel, by decide +kernel⟩
theorem ok_is_within {f : Addr} {fd : FuncData} {fs_is_number : FS} (F : Fun K "is_within" "is_within" s_is_within f fd) (T : Txt P K mg C) (D_is_number : Df P w K mg base "is_number" 1 1 fs_is_number) : FnOk P w K mg base (L2.CX P w) (1 + 1) f fd ["value", "low", "high"] (spOf K 3 (m_is_within  fs_is_number )) := by
  refine fn_ok F sc_is_within rfl (fun cdv A outer s H E hr => ⟨_, ?_, fun ds kd kx _ hf => hf⟩)
  have tk := takes_of (X := (cxOf (L2.CX P w) P w K mg base ["value", "low", "high"] "is_within" (defScope s_is_within) f cdv A outer s H E)) rfl rfl rfl rfl
  have po : PassesOwn (model P w) (cxOf (L2.CX P w) P w K mg base ["value", "low", "high"] "is_within" (defScope s_is_within) f cdv A outer s H E).A (cxOf (L2.CX P w) P w K mg base ["value", "low", "high"] "is_within" (defScope s_is_within) f cdv A outer s H E).env (cxOf (L2.CX P w) P w K mg base ["value", "low", "high"] "is_within" (defScope s_is_within) f cdv A outer s H E).xe := passes_of rfl
  exact (ss_one (s_ret (p_and (p_call D_is_number hr (by decide) tk (l_cons (p_var 0) l_nil)) (p_one (p_chain o_le o_le (PP.u (p_var 1)) (PP.u (p_var 0)) (PP.u (p_var 2)) (fun pa pb pc => pe_chain o_le.1 o_le.1 pa pb pc))))))
theorem sc_is_log : FnScope ["value", "sign"] ["value"] (defScope s_is_log) := ⟨rfl, rfl, rfl, by decide +kernel, rfl, by decide +kernel, by decide +kernel⟩
theorem ok_is_log {f : Addr} {fd : FuncData} (F : Fun K "is_log" "is_log" s_is_log f fd) (T : Txt P K mg C)  : FnOk P w K mg base (L2.CX P w) (0 + 1) f fd ["value"] (spOf K 1 (m_is_log   )) := by
  refine fn_ok F sc_is_log rfl (fun cdv A outer s H E hr => ⟨_, ?_, fun ds kd kx _ hf => hf⟩)
  have tk := takes_of (X := (cxOf (L2.CX P w) P w K mg base ["value", "sign"] "is_log" (defScope s_is_log) f cdv A outer s H E)) rfl rfl rfl rfl
  have po : PassesOwn (model P w) (cxOf (L2.CX P w) P w K mg base ["value", "sign"] "is_log" (defScope s_is_log) f cdv A outer s H E).A (cxOf (L2.CX P w) P w K mg base ["value", "sign"] "is_log" (defScope s_is_log) f cdv A outer s H E).env (cxOf (L2.CX P w) P w K mg base ["value", "sign"] "is_log" (defScope s_is_log) f cdv A outer s H E).xe := passes_of rfl
  exact (ss_one (s_ret (p_and (p_isi "str" (PP.u (p_var 0)) (pe_bltn (v := .ty "str") (by rfl) T.b_str (by decide +kernel) rfl) T.b_isinstance) (p_one (p_b1 (c_all rfl) T.b_all (by decide +kernel) (PP.u (p_lc [("sign", 1)] rfl sc_is_log.nd (i_str (p_var 0)) (blkOk_by (N := ["value", "sign"]) (sc := defScope s_is_log) (by decide +kernel)) (fun _ => (g_name 1 sc_is_log.nd)) (fun _ => bs_nil) (fun _ => (p_cmp o_inS (PP.u (p_var 1)) (PP.u (p_globS (s := [97, 98, 99, 100, 101, 102, 103, 104, 105, 106, 107, 108, 109, 110, 111, 112, 113, 114, 115, 116, 117, 118, 119, 120, 121, 122]) (by rfl) T.LETTERS)))))))))))
theorem sc_is_log_of : FnScope ["value", "deeds", "sign"] ["value", "deeds"] (defScope s_is_log_of) := ⟨rfl, rfl, rfl, by decide +kernel, rfl, by decide +kernel, by decide +kernel⟩
theorem ok_is_log_of {f : Addr} {fd : FuncData} (F : Fun K "is_log_of" "is_log_of" s_is_log_of f fd) (T : Txt P K mg C)  : FnOk P w K mg base (L2.CX P w) (0 + 1) f fd ["value", "deeds"] (spOf K 2 (m_is_log_of   )) := by
  refine fn_ok F sc_is_log_of rfl (fun cdv A outer s H E hr => ⟨_, ?_, fun ds kd kx _ hf => hf⟩)
  have tk := takes_of (X := (cxOf (L2.CX P w) P w K mg base ["value", "deeds", "sign"] "is_log_of" (defScope s_is_log_of) f cdv A outer s H E)) rfl rfl rfl rfl
  have po : PassesOwn (model P w) (cxOf (L2.CX P w) P w K mg base ["value", "deeds", "sign"] "is_log_of" (defScope s_is_log_of) f cdv A outer s H E).A (cxOf (L2.CX P w) P w K mg base ["value", "deeds", "sign"] "is_log_of" (defScope s_is_log_of) f cdv A outer s H E).env (cxOf (L2.CX P w) P w K mg base ["value", "deeds", "sign"] "is_log_of" (defScope s_is_log_of) f cdv A outer s H E).xe := passes_of rfl
  exact (ss_one (s_ret (p_and (p_isi "str" (PP.u (p_var 0)) (pe_bltn (v := .ty "str") (by rfl) T.b_str (by decide +kernel) rfl) T.b_isinstance) (p_one (p_b1 (c_all rfl) T.b_all (by decide +kernel) (PP.u (p_lc [("sign", 2)] rfl sc_is_log_of.nd (i_str (p_var 0)) (blkOk_by (N := ["value", "deeds", "sign"]) (sc := defScope s_is_log_of) (by decide +kernel)) (fun _ => (g_name 2 sc_is_log_of.nd)) (fun _ => bs_nil) (fun _ => (p_cmp o_inS (PP.u (p_var 2)) (PP.u (p_var 1)))))))))))
theorem sc_is_ascending : FnScope ["text", "at"] ["text"] (defScope s_is_ascending) := ⟨rfl, rfl, rfl, by decide +kernel, rfl, by decide +kernel, by decide +kernel⟩
theorem ok_is_ascending {f : Addr} {fd : FuncData} (F : Fun K "is_ascending" "is_ascending" s_is_ascending f fd) (T : Txt P K mg C)  : FnOk P w K mg base (L2.CX P w) (0 + 1) f fd ["text"] (spOf K 1 (m_is_ascending   )) := by
  refine fn_ok F sc_is_ascending rfl (fun cdv A outer s H E hr => ⟨_, ?_, fun ds kd kx _ hf => hf⟩)
  have tk := takes_of (X := (cxOf (L2.CX P w) P w K mg base ["text", "at"] "is_ascending" (defScope s_is_ascending) f cdv A outer s H E)) rfl rfl rfl rfl
  have po : PassesOwn (model P w) (cxOf (L2.CX P w) P w K mg base ["text", "at"] "is_ascending" (defScope s_is_ascending) f cdv A outer s H E).A (cxOf (L2.CX P w) P w K mg base ["text", "at"] "is_ascending" (defScope s_is_ascending) f cdv A outer s H E).env (cxOf (L2.CX P w) P w K mg base ["text", "at"] "is_ascending" (defScope s_is_ascending) f cdv A outer s H E).xe := passes_of rfl
  exact (ss_one (s_ret (p_b1 (c_all rfl) T.b_all (by decide +kernel) (PP.u (p_lc [("at", 1)] rfl sc_is_ascending.nd (i_rng2 T.b_range (l_cons p_int (l_cons (p_b1 c_len T.b_len (by decide +kernel) (PP.u (p_var 0))) l_nil))) (blkOk_by (N := ["text", "at"]) (sc := defScope s_is_ascending) (by decide +kernel)) (fun _ => (g_name 1 sc_is_ascending.nd)) (fun _ => bs_nil) (fun _ => (p_cmp o_lt (PP.u (p_ix (PP.u (p_var 0)) (PP.u (p_op o_sub (PP.u (p_var 1)) (PP.u p_int))))) (PP.u (p_ix (PP.u (p_var 0)) (PP.u (p_var 1)))))))))))
theorem sc_is_deeds : FnScope ["value"] ["value"] (defScope s_is_deeds) := ⟨rfl, rfl, rfl, by decide +kernel, rfl, by decide +kernel, by decide +kernel⟩
theorem ok_is_deeds {f : Addr} {fd : FuncData} {fs_is_log fs_is_ascending : FS} (F : Fun K "is_deeds" "is_deeds" s_is_deeds f fd) (T : Txt P K mg C) (D_is_log : Df P w K mg base "is_log" 1 1 fs_is_log) (D_is_ascending : Df P w K mg base "is_ascending" 1 1 fs_is_ascending) : FnOk P w K mg base (L2.CX P w) (1 + 1) f fd ["value"] (spOf K 1 (m_is_deeds  fs_is_log fs_is_ascending )) := by
  refine fn_ok F sc_is_deeds rfl (fun cdv A outer s H E hr => ⟨_, ?_, fun ds kd kx _ hf => hf⟩)
  have tk := takes_of (X := (cxOf (L2.CX P w) P w K mg base ["value"] "is_deeds" (defScope s_is_deeds) f cdv A outer s H E)) rfl rfl rfl rfl
  have po : PassesOwn (model P w) (cxOf (L2.CX P w) P w K mg base ["value"] "is_deeds" (defScope s_is_deeds) f cdv A outer s H E).A (cxOf (L2.CX P w) P w K mg base ["value"] "is_deeds" (defScope s_is_deeds) f cdv A outer s H E).env (cxOf (L2.CX P w) P w K mg base ["value"] "is_deeds" (defScope s_is_deeds) f cdv A outer s H E).xe := passes_of rfl
  exact (ss_one (s_ret (p_and (p_call D_is_log hr (by decide) tk (l_cons (p_var 0) l_nil)) (p_and (p_chain o_le o_le (PP.u p_int) (PP.u (p_b1 c_len T.b_len (by decide +kernel) (PP.u (p_var 0)))) (PP.u (p_globI (by rfl) T.MOST_DEEDS)) (fun pa pb pc => pe_chain o_le.1 o_le.1 pa pb pc)) (p_one (p_call D_is_ascending hr (by decide) tk (l_cons (p_var 0) l_nil)))))))
theorem sc_need_log_of : FnScope ["value", "deeds"] ["value", "deeds"] (defScope s_need_log_of) := ⟨rfl, rfl, rfl, by decide +kernel, rfl, by decide +kernel, by decide +kernel⟩
theorem ok_need_log_of {f : Addr} {fd : FuncData} {fs_is_log_of : FS} (F : Fun K "need_log_of" "need_log_of" s_need_log_of f fd) (T : Txt P K mg C) (D_is_log_of : Df P w K mg base "is_log_of" 1 2 fs_is_log_of) : FnOk P w K mg base (L2.CX P w) (1 + 1) f fd ["value", "deeds"] (spOf K 2 (mx_need_log_of C.InvalidLog fs_is_log_of )) := by
  refine fn_ok F sc_need_log_of rfl (fun cdv A outer s H E hr => ⟨_, ?_, fun ds kd kx _ hf => hf⟩)
  have tk := takes_of (X := (cxOf (L2.CX P w) P w K mg base ["value", "deeds"] "need_log_of" (defScope s_need_log_of) f cdv A outer s H E)) rfl rfl rfl rfl
  have po : PassesOwn (model P w) (cxOf (L2.CX P w) P w K mg base ["value", "deeds"] "need_log_of" (defScope s_need_log_of) f cdv A outer s H E).A (cxOf (L2.CX P w) P w K mg base ["value", "deeds"] "need_log_of" (defScope s_need_log_of) f cdv A outer s H E).env (cxOf (L2.CX P w) P w K mg base ["value", "deeds"] "need_log_of" (defScope s_need_log_of) f cdv A outer s H E).xe := passes_of rfl
  exact (ss_one (s_if (b_not (b_val (p_call D_is_log_of hr (by decide) tk (l_cons (p_var 0) (l_cons (p_var 1) l_nil)))))
    (ss_one (s_raise rfl T.x_InvalidLog (by decide) hr tk (p_var 0)))
    ss_nil))
theorem sc_need_deeds : FnScope ["value"] ["value"] (defScope s_need_deeds) := ⟨rfl, rfl, rfl, by decide +kernel, rfl, by decide +kernel, by decide +kernel⟩
theorem ok_need_deeds {f : Addr} {fd : FuncData} {fs_is_deeds : FS} (F : Fun K "need_deeds" "need_deeds" s_need_deeds f fd) (T : Txt P K mg C) (D_is_deeds : Df P w K mg base "is_deeds" 2 1 fs_is_deeds) : FnOk P w K mg base (L2.CX P w) (2 + 1) f fd ["value"] (spOf K 1 (mx_need_deeds C.InvalidDeeds fs_is_deeds )) := by
  refine fn_ok F sc_need_deeds rfl (fun cdv A outer s H E hr => ⟨_, ?_, fun ds kd kx _ hf => hf⟩)
  have tk := takes_of (X := (cxOf (L2.CX P w) P w K mg base ["value"] "need_deeds" (defScope s_need_deeds) f cdv A outer s H E)) rfl rfl rfl rfl
  have po : PassesOwn (model P w) (cxOf (L2.CX P w) P w K mg base ["value"] "need_deeds" (defScope s_need_deeds) f cdv A outer s H E).A (cxOf (L2.CX P w) P w K mg base ["value"] "need_deeds" (defScope s_need_deeds) f cdv A outer s H E).env (cxOf (L2.CX P w) P w K mg base ["value"] "need_deeds" (defScope s_need_deeds) f cdv A outer s H E).xe := passes_of rfl
  exact (ss_one (s_if (b_not (b_val (p_call D_is_deeds hr (by decide) tk (l_cons (p_var 0) l_nil))))
    (ss_one (s_raise rfl T.x_InvalidDeeds (by decide) hr tk (p_var 0)))
    ss_nil))
theorem sc_need_rows : FnScope ["rows", "width", "index", "row", "target"] ["rows", "width"] (defScope s_need_rows) := ⟨rfl, rfl, rfl, by decide +kernel, rfl, by decide +kernel, by decide +kernel⟩
theorem ok_need_rows {f : Addr} {fd : FuncData} {fs_is_within : FS} (F : Fun K "need_rows" "need_rows" s_need_rows f fd) (T : Txt P K mg C) (D_is_within : Df P w K mg base "is_within" 2 3 fs_is_within) : FnOk P w K mg base (L2.CX P w) (2 + 1) f fd ["rows", "width"] (spOf K 2 (mv_need_rows C.InvalidStore C.TooMany fs_is_within )) := by
  refine fn_ok F sc_need_rows rfl (fun cdv A outer s H E hr => ⟨_, ?_, fun ds kd kx _ hf => hf⟩)
  have tk := takes_of (X := (cxOf (L2.CX P w) P w K mg base ["rows", "width", "index", "row", "target"] "need_rows" (defScope s_need_rows) f cdv A outer s H E)) rfl rfl rfl rfl
  have po : PassesOwn (model P w) (cxOf (L2.CX P w) P w K mg base ["rows", "width", "index", "row", "target"] "need_rows" (defScope s_need_rows) f cdv A outer s H E).A (cxOf (L2.CX P w) P w K mg base ["rows", "width", "index", "row", "target"] "need_rows" (defScope s_need_rows) f cdv A outer s H E).env (cxOf (L2.CX P w) P w K mg base ["rows", "width", "index", "row", "target"] "need_rows" (defScope s_need_rows) f cdv A outer s H E).xe := passes_of rfl
  exact (ss_cons (s_if (PBw.to (b_or (b_not (b_val (p_isi2 "list" "tuple" (PP.u (p_var 0)) (pe_bltn (v := .ty "list") (by rfl) T.b_list (by decide +kernel) rfl) (pe_bltn (v := .ty "tuple") (by rfl) T.b_tuple (by decide +kernel) rfl) T.b_isinstance))) (b_or1 (b_cmp (o_eq hr.units) (PP.u (p_b1 c_len T.b_len (by decide +kernel) (PP.u (p_var 0)))) (PP.u p_int)))))
    (ss_one (s_raise rfl T.x_InvalidStore (by decide) hr tk p_int))
    ss_nil)
    (ss_cons (s_if (b_cmp o_gt (PP.u (p_b1 c_len T.b_len (by decide +kernel) (PP.u (p_var 0)))) (PP.u (p_globI (by rfl) T.MOST_STANDS)))
    (ss_one (s_raise rfl T.x_TooMany (by decide) hr tk (p_globI (by rfl) T.MOST_STANDS)))
    ss_nil)
    (ss_one (s_for po rfl (i_enumV 0 T.b_enumerate (p_var 0)) (g_tup2 2 3 rfl sc_need_rows.nd)
    (ss_cons (s_if (PBw.to (b_or (b_not (b_val (p_isi "tuple" (PP.u (p_var 3)) (pe_bltn (v := .ty "tuple") (by rfl) T.b_tuple (by decide +kernel) rfl) T.b_isinstance))) (b_or1 (b_cmp (o_ne hr.units) (PP.u (p_b1 c_len T.b_len (by decide +kernel) (PP.u (p_var 3)))) (PP.u (p_var 1))))))
    (ss_one (s_raise rfl T.x_InvalidStore (by decide) hr tk (p_var 2)))
    ss_nil)
    (ss_one (s_if (b_not (b_val (p_b1 (c_all rfl) T.b_all (by decide +kernel) (PP.u (p_lc [("target", 4)] rfl sc_need_rows.nd (i_tup (p_var 3)) (blkOk_by (N := ["rows", "width", "index", "row", "target"]) (sc := defScope s_need_rows) (by decide +kernel)) (fun _ => (g_name 4 sc_need_rows.nd)) (fun _ => bs_nil) (fun _ => (p_call D_is_within hr (by decide) takes0 (l_cons (p_var 4) (l_cons p_int (l_cons (p_op o_sub (PP.u (p_b1 c_len T.b_len (by decide +kernel) (PP.u (p_var 0)))) (PP.u p_int)) l_nil))))))))))
    (ss_one (s_raise rfl T.x_InvalidStore (by decide) hr tk (p_var 2)))
    ss_nil)))))))
theorem sc_place_of : FnScope ["deeds", "deed", "at", "sign"] ["deeds", "deed"] (defScope s_place_of) := ⟨rfl, rfl, rfl, by decide +kernel, rfl, by decide +kernel, by decide +kernel⟩
theorem ok_place_of {f : Addr} {fd : FuncData} (F : Fun K "place_of" "place_of" s_place_of f fd) (T : Txt P K mg C)  : FnOk P w K mg base (L2.CX P w) (0 + 1) f fd ["deeds", "deed"] (spOf K 2 (m_place_of   )) := by
  refine fn_ok F sc_place_of rfl (fun cdv A outer s H E hr => ⟨_, ?_, fun ds kd kx _ hf => hf⟩)
  have tk := takes_of (X := (cxOf (L2.CX P w) P w K mg base ["deeds", "deed", "at", "sign"] "place_of" (defScope s_place_of) f cdv A outer s H E)) rfl rfl rfl rfl
  have po : PassesOwn (model P w) (cxOf (L2.CX P w) P w K mg base ["deeds", "deed", "at", "sign"] "place_of" (defScope s_place_of) f cdv A outer s H E).A (cxOf (L2.CX P w) P w K mg base ["deeds", "deed", "at", "sign"] "place_of" (defScope s_place_of) f cdv A outer s H E).env (cxOf (L2.CX P w) P w K mg base ["deeds", "deed", "at", "sign"] "place_of" (defScope s_place_of) f cdv A outer s H E).xe := passes_of rfl
  exact (ss_one (s_ret (p_ix (PP.u (p_lc [("at", 2), ("sign", 3)] rfl sc_place_of.nd (i_enumS T.b_enumerate (p_var 0)) (blkOk_by (N := ["deeds", "deed", "at", "sign"]) (sc := defScope s_place_of) (by decide +kernel)) (fun _ => (g_tup2 2 3 rfl sc_place_of.nd)) (fun _ => (bs_one (b_cmp (o_eq hr.units) (PP.u (p_var 3)) (PP.u (p_var 1))))) (fun _ => (p_var 2)))) (PP.u p_int))))
theorem sc_Store___init__ : FnScope ["self", "deeds", "rows", "row"] ["self", "deeds", "rows"] (defScope s_Store___init__) := ⟨rfl, rfl, rfl, by decide +kernel, rfl, by decide +kernel, by decide +kernel⟩
theorem ok_Store___init__ {f : Addr} {fd : FuncData} {fs_need_deeds fs_need_rows : FS} (F : Fun K "__init__" "Store.__init__" s_Store___init__ f fd) (T : Txt P K mg C) (D_need_deeds : Df P w K mg base "need_deeds" 3 1 fs_need_deeds) (D_need_rows : Df P w K mg base "need_rows" 3 2 fs_need_rows) : FnOk P w K mg base (L2.CX P w) (3 + 1) f fd ["self", "deeds", "rows"] (spOi K 3 (m_Store___init__ C.Store fs_need_deeds fs_need_rows )) := by
  refine fn_okI F sc_Store___init__ rfl (fun cdv A outer s H E hr => ⟨_, ?_, fun ds kd kx p _ hf => hf p⟩)
  have tk := takes_of (X := (cxOf (L2.CX P w) P w K mg base ["self", "deeds", "rows", "row"] "Store.__init__" (defScope s_Store___init__) f cdv A outer s H E)) rfl rfl rfl rfl
  have po : PassesOwn (model P w) (cxOf (L2.CX P w) P w K mg base ["self", "deeds", "rows", "row"] "Store.__init__" (defScope s_Store___init__) f cdv A outer s H E).A (cxOf (L2.CX P w) P w K mg base ["self", "deeds", "rows", "row"] "Store.__init__" (defScope s_Store___init__) f cdv A outer s H E).env (cxOf (L2.CX P w) P w K mg base ["self", "deeds", "rows", "row"] "Store.__init__" (defScope s_Store___init__) f cdv A outer s H E).xe := passes_of rfl
  exact (ss_cons (s_expr (PP.u (p_call D_need_deeds hr (by decide) tk (l_cons (p_var 1) l_nil))))
    (ss_cons (s_expr (PP.u (p_call D_need_rows hr (by decide) tk (l_cons (p_var 2) (l_cons (p_b1 c_len T.b_len (by decide +kernel) (PP.u (p_var 1))) l_nil)))))
    (ss_cons (s_setF (cs := [C.Store]) 0 (fun c hc => by (rcases List.mem_cons.mp hc with rfl | hc; exact T.n_Store_own_deeds; cases hc)) (p_var 1))
    (ss_one (s_setF (cs := [C.Store]) 0 (fun c hc => by (rcases List.mem_cons.mp hc with rfl | hc; exact T.n_Store_table; cases hc)) (p_lc [("row", 3)] rfl sc_Store___init__.nd (i_sq (p_var 2)) (blkOk_by (N := ["self", "deeds", "rows", "row"]) (sc := defScope s_Store___init__) (by decide +kernel)) (fun _ => (g_name 3 sc_Store___init__.nd)) (fun _ => bs_nil) (fun _ => (p_t1 c_list T.b_list (by decide +kernel) (PP.u (p_var 3))))))))))
theorem scM_Store___init__ : FnScope ["self", "deeds", "rows", "row"] ["self", "deeds", "rows"] (defScope s_Store___init__) := ⟨rfl, rfl, rfl, by decide +kernel, rfl, by decide +kernel, by decide +kernel⟩
theorem okM_Store___init__ {f : Addr} {fd : FuncData} {fs_need_deeds fs_need_rows : FS} (F : Fun K "__init__" "Store.__init__" s_Store___init__ f fd) (T : Txt P K mg C) (D_need_deeds : Df P w K mg base "need_deeds" 3 1 fs_need_deeds) (D_need_rows : Df P w K mg base "need_rows" 3 2 fs_need_rows) : FnOk P w K mg base (L2.CX P w) (3 + 1) f fd ["self", "deeds", "rows"] (spM K 3 (mM_Store___init__ C.Store fs_need_deeds fs_need_rows )) := by
  refine fn_okM F scM_Store___init__ rfl (fun cdv A outer s H E hr => ⟨_, ?_, fun ds μ kd kx _ hf => hf⟩)
  have tk := takes_of (X := (cxOf (L2.CX P w) P w K mg base ["self", "deeds", "rows", "row"] "Store.__init__" (defScope s_Store___init__) f cdv A outer s H E)) rfl rfl rfl rfl
  have po : PassesOwn (model P w) (cxOf (L2.CX P w) P w K mg base ["self", "deeds", "rows", "row"] "Store.__init__" (defScope s_Store___init__) f cdv A outer s H E).A (cxOf (L2.CX P w) P w K mg base ["self", "deeds", "rows", "row"] "Store.__init__" (defScope s_Store___init__) f cdv A outer s H E).env (cxOf (L2.CX P w) P w K mg base ["self", "deeds", "rows", "row"] "Store.__init__" (defScope s_Store___init__) f cdv A outer s H E).xe := passes_of rfl
  exact (ssm_cons (sm_of (s_expr (PP.u (p_call D_need_deeds hr (by decide) tk (l_cons (p_var 1) l_nil)))))
    (ssm_cons (sm_of (s_expr (PP.u (p_call D_need_rows hr (by decide) tk (l_cons (p_var 2) (l_cons (p_b1 c_len T.b_len (by decide +kernel) (PP.u (p_var 1))) l_nil))))))
    (ssm_cons (sm_setF (cs := [C.Store]) 0 (fun c hc => by (rcases List.mem_cons.mp hc with rfl | hc; exact T.n_Store_own_deeds; cases hc)) (m_of (p_var 1)))
    (ssm_one (sm_setF (cs := [C.Store]) 0 (fun c hc => by (rcases List.mem_cons.mp hc with rfl | hc; exact T.n_Store_table; cases hc)) (pm_lcN [("row", 3)] rfl scM_Store___init__.nd (i_sq (p_var 2)) (blkOk_by (N := ["self", "deeds", "rows", "row"]) (sc := defScope s_Store___init__) (by decide +kernel)) (fun _ => (g_name 3 scM_Store___init__.nd)) (fun _ => bs_nil) (fun _ => (pm_list T.b_list (by decide +kernel) (m_of (p_var 3))))))))))
theorem sc_Store_rows : FnScope ["self", "row"] ["self"] (defScope s_Store_rows) := ⟨rfl, rfl, rfl, by decide +kernel, rfl, by decide +kernel, by decide +kernel⟩
theorem ok_Store_rows {f : Addr} {fd : FuncData} (F : Fun K "rows" "Store.rows" s_Store_rows f fd) (T : Txt P K mg C)  : FnOk P w K mg base (L2.CX P w) (0 + 1) f fd ["self"] (spOf K 1 (m_Store_rows C.Store  )) := by
  refine fn_ok F sc_Store_rows rfl (fun cdv A outer s H E hr => ⟨_, ?_, fun ds kd kx _ hf => hf⟩)
  have tk := takes_of (X := (cxOf (L2.CX P w) P w K mg base ["self", "row"] "Store.rows" (defScope s_Store_rows) f cdv A outer s H E)) rfl rfl rfl rfl
  have po : PassesOwn (model P w) (cxOf (L2.CX P w) P w K mg base ["self", "row"] "Store.rows" (defScope s_Store_rows) f cdv A outer s H E).A (cxOf (L2.CX P w) P w K mg base ["self", "row"] "Store.rows" (defScope s_Store_rows) f cdv A outer s H E).env (cxOf (L2.CX P w) P w K mg base ["self", "row"] "Store.rows" (defScope s_Store_rows) f cdv A outer s H E).xe := passes_of rfl
  exact (ss_one (s_ret (p_lc [("row", 1)] rfl sc_Store_rows.nd (i_lst (p_fld (cs := [C.Store]) (fun c hc => by (rcases List.mem_cons.mp hc with rfl | hc; exact T.n_Store_table; cases hc)) (PP.u (p_var 0)))) (blkOk_by (N := ["self", "row"]) (sc := defScope s_Store_rows) (by decide +kernel)) (fun _ => (g_name 1 sc_Store_rows.nd)) (fun _ => bs_nil) (fun _ => (p_t1 c_tup T.b_tuple (by decide +kernel) (PP.u (p_var 1)))))))
theorem sc_Store_need_stand : FnScope ["self", "stand"] ["self", "stand"] (defScope s_Store_need_stand) := ⟨rfl, rfl, rfl, by decide +kernel, rfl, by decide +kernel, by decide +kernel⟩
theorem ok_Store_need_stand {f : Addr} {fd : FuncData} {fs_is_within : FS} (F : Fun K "need_stand" "Store.need_stand" s_Store_need_stand f fd) (T : Txt P K mg C) (D_is_within : Df P w K mg base "is_within" 2 3 fs_is_within) : FnOk P w K mg base (L2.CX P w) (2 + 1) f fd ["self", "stand"] (spOf K 2 (m_Store_need_stand C.InvalidStand C.Store fs_is_within )) := by
  refine fn_ok F sc_Store_need_stand rfl (fun cdv A outer s H E hr => ⟨_, ?_, fun ds kd kx _ hf => hf⟩)
  have tk := takes_of (X := (cxOf (L2.CX P w) P w K mg base ["self", "stand"] "Store.need_stand" (defScope s_Store_need_stand) f cdv A outer s H E)) rfl rfl rfl rfl
  have po : PassesOwn (model P w) (cxOf (L2.CX P w) P w K mg base ["self", "stand"] "Store.need_stand" (defScope s_Store_need_stand) f cdv A outer s H E).A (cxOf (L2.CX P w) P w K mg base ["self", "stand"] "Store.need_stand" (defScope s_Store_need_stand) f cdv A outer s H E).env (cxOf (L2.CX P w) P w K mg base ["self", "stand"] "Store.need_stand" (defScope s_Store_need_stand) f cdv A outer s H E).xe := passes_of rfl
  exact (ss_one (s_if (b_not (b_val (p_call D_is_within hr (by decide) tk (l_cons (p_var 1) (l_cons p_int (l_cons (p_op o_sub (PP.u (p_b1 c_len T.b_len (by decide +kernel) (PP.u (p_fld (cs := [C.Store]) (fun c hc => by (rcases List.mem_cons.mp hc with rfl | hc; exact T.n_Store_table; cases hc)) (PP.u (p_var 0)))))) (PP.u p_int)) l_nil))))))
    (ss_one (s_raise rfl T.x_InvalidStand (by decide) hr tk (p_var 1)))
    ss_nil))
theorem sc_Store_need_deed : FnScope ["self", "deed"] ["self", "deed"] (defScope s_Store_need_deed) := ⟨rfl, rfl, rfl, by decide +kernel, rfl, by decide +kernel, by decide +kernel⟩
theorem ok_Store_need_deed {f : Addr} {fd : FuncData} (F : Fun K "need_deed" "Store.need_deed" s_Store_need_deed f fd) (T : Txt P K mg C)  : FnOk P w K mg base (L2.CX P w) (1 + 1) f fd ["self", "deed"] (spOf K 2 (m_Store_need_deed C.InvalidDeed C.Store  )) := by
  refine fn_ok F sc_Store_need_deed rfl (fun cdv A outer s H E hr => ⟨_, ?_, fun ds kd kx _ hf => hf⟩)
  have tk := takes_of (X := (cxOf (L2.CX P w) P w K mg base ["self", "deed"] "Store.need_deed" (defScope s_Store_need_deed) f cdv A outer s H E)) rfl rfl rfl rfl
  have po : PassesOwn (model P w) (cxOf (L2.CX P w) P w K mg base ["self", "deed"] "Store.need_deed" (defScope s_Store_need_deed) f cdv A outer s H E).A (cxOf (L2.CX P w) P w K mg base ["self", "deed"] "Store.need_deed" (defScope s_Store_need_deed) f cdv A outer s H E).env (cxOf (L2.CX P w) P w K mg base ["self", "deed"] "Store.need_deed" (defScope s_Store_need_deed) f cdv A outer s H E).xe := passes_of rfl
  exact (ss_one (s_if (PBw.to (b_or (b_not (b_val (p_isi "str" (PP.u (p_var 1)) (pe_bltn (v := .ty "str") (by rfl) T.b_str (by decide +kernel) rfl) T.b_isinstance))) (b_or (b_cmp (o_ne hr.units) (PP.u (p_b1 c_len T.b_len (by decide +kernel) (PP.u (p_var 1)))) (PP.u p_int)) (b_or1 (b_cmp o_notInS (PP.u (p_var 1)) (PP.u (p_fld (cs := [C.Store]) (fun c hc => by (rcases List.mem_cons.mp hc with rfl | hc; exact T.n_Store_own_deeds; cases hc)) (PP.u (p_var 0)))))))))
    (ss_one (s_raise rfl T.x_InvalidDeed (by decide) hr tk (p_var 1)))
    ss_nil))
theorem sc_Store_led : FnScope ["self", "stand", "log", "deed"] ["self", "stand", "log"] (defScope s_Store_led) := ⟨rfl, rfl, rfl, by decide +kernel, rfl, by decide +kernel, by decide +kernel⟩
theorem ok_Store_led {f : Addr} {fd : FuncData} {fs_place_of : FS} (F : Fun K "led" "Store.led" s_Store_led f fd) (T : Txt P K mg C) (D_place_of : Df P w K mg base "place_of" 1 2 fs_place_of) : FnOk P w K mg base (L2.CX P w) (1 + 1) f fd ["self", "stand", "log"] (spOf K 3 (m_Store_led C.Store fs_place_of )) := by
  refine fn_ok F sc_Store_led rfl (fun cdv A outer s H E hr => ⟨_, ?_, fun ds kd kx _ hf => hf⟩)
  have tk := takes_of (X := (cxOf (L2.CX P w) P w K mg base ["self", "stand", "log", "deed"] "Store.led" (defScope s_Store_led) f cdv A outer s H E)) rfl rfl rfl rfl
  have po : PassesOwn (model P w) (cxOf (L2.CX P w) P w K mg base ["self", "stand", "log", "deed"] "Store.led" (defScope s_Store_led) f cdv A outer s H E).A (cxOf (L2.CX P w) P w K mg base ["self", "stand", "log", "deed"] "Store.led" (defScope s_Store_led) f cdv A outer s H E).env (cxOf (L2.CX P w) P w K mg base ["self", "stand", "log", "deed"] "Store.led" (defScope s_Store_led) f cdv A outer s H E).xe := passes_of rfl
  exact (ss_cons (s_for po rfl (i_str (p_var 2)) (g_name 3 sc_Store_led.nd)
    (ss_one (s_set 1 (p_ix (PP.u (p_ix (PP.u (p_fld (cs := [C.Store]) (fun c hc => by (rcases List.mem_cons.mp hc with rfl | hc; exact T.n_Store_table; cases hc)) (PP.u (p_var 0)))) (PP.u (p_var 1)))) (PP.u (p_call D_place_of hr (by decide) tk (l_cons (p_fld (cs := [C.Store]) (fun c hc => by (rcases List.mem_cons.mp hc with rfl | hc; exact T.n_Store_own_deeds; cases hc)) (PP.u (p_var 0))) (l_cons (p_var 3) l_nil))))) sc_Store_led.nd)))
    (ss_one (s_ret (p_var 1))))
theorem sc_Store___call__ : FnScope ["self", "stand", "log"] ["self", "stand", "log"] (defScope s_Store___call__) := ⟨rfl, rfl, rfl, by decide +kernel, rfl, by decide +kernel, by decide +kernel⟩
theorem ok_Store___call__ {f : Addr} {fd : FuncData} {fs_need_log_of fs_Store_need_stand fs_Store_led : FS} (F : Fun K "__call__" "Store.__call__" s_Store___call__ f fd) (T : Txt P K mg C) (D_need_log_of : Df P w K mg base "need_log_of" 2 2 fs_need_log_of) (M_Store_need_stand : Mt P w K mg base C.Store "need_stand" 3 1 fs_Store_need_stand) (M_Store_led : Mt P w K mg base C.Store "led" 2 2 fs_Store_led) : FnOk P w K mg base (L2.CX P w) (3 + 1) f fd ["self", "stand", "log"] (spOf K 3 (mh_Store___call__ C.Store fs_need_log_of fs_Store_need_stand fs_Store_led )) := by
  refine fn_ok F sc_Store___call__ rfl (fun cdv A outer s H E hr => ⟨_, ?_, fun ds kd kx _ hf => hf⟩)
  have tk := takes_of (X := (cxOf (L2.CX P w) P w K mg base ["self", "stand", "log"] "Store.__call__" (defScope s_Store___call__) f cdv A outer s H E)) rfl rfl rfl rfl
  have po : PassesOwn (model P w) (cxOf (L2.CX P w) P w K mg base ["self", "stand", "log"] "Store.__call__" (defScope s_Store___call__) f cdv A outer s H E).A (cxOf (L2.CX P w) P w K mg base ["self", "stand", "log"] "Store.__call__" (defScope s_Store___call__) f cdv A outer s H E).env (cxOf (L2.CX P w) P w K mg base ["self", "stand", "log"] "Store.__call__" (defScope s_Store___call__) f cdv A outer s H E).xe := passes_of rfl
  exact (ss_cons (s_expr (PP.u (p_meth (ms := [(C.Store, fs_Store_need_stand)]) (fun c hc => by (rcases List.mem_cons.mp hc with rfl | hc; exact M_Store_need_stand; cases hc)) hr (by decide) tk (p_var 0) (l_cons (p_var 1) l_nil))))
    (ss_cons (s_expr (PP.u (p_call D_need_log_of hr (by decide) tk (l_cons (p_var 2) (l_cons (p_fld (cs := [C.Store]) (fun c hc => by (rcases List.mem_cons.mp hc with rfl | hc; exact T.n_Store_own_deeds; cases hc)) (PP.u (p_var 0))) l_nil)))))
    (ss_one (s_ret (p_meth (ms := [(C.Store, fs_Store_led)]) (fun c hc => by (rcases List.mem_cons.mp hc with rfl | hc; exact M_Store_led; cases hc)) hr (by decide) tk (p_var 0) (l_cons (p_var 1) (l_cons (p_var 2) l_nil)))))))
theorem scM_Store_change : FnScope ["self", "stand", "deed", "target"] ["self", "stand", "deed", "target"] (defScope s_Store_change) := ⟨rfl, rfl, rfl, by decide +kernel, rfl, by decide +kernel, by decide +kernel⟩
theorem okM_Store_change {f : Addr} {fd : FuncData} {fs_place_of fs_Store_need_stand fs_Store_need_deed : FS} (F : Fun K "change" "Store.change" s_Store_change f fd) (T : Txt P K mg C) (D_place_of : Df P w K mg base "place_of" 1 2 fs_place_of) (M_Store_need_stand : Mt P w K mg base C.Store "need_stand" 3 1 fs_Store_need_stand) (M_Store_need_deed : Mt P w K mg base C.Store "need_deed" 2 1 fs_Store_need_deed) : FnOk P w K mg base (L2.CX P w) (3 + 1) f fd ["self", "stand", "deed", "target"] (spM K 4 (mM_Store_change C.Store fs_place_of fs_Store_need_stand fs_Store_need_deed )) := by
  refine fn_okM F scM_Store_change rfl (fun cdv A outer s H E hr => ⟨_, ?_, fun ds μ kd kx _ hf => hf⟩)
  have tk := takes_of (X := (cxOf (L2.CX P w) P w K mg base ["self", "stand", "deed", "target"] "Store.change" (defScope s_Store_change) f cdv A outer s H E)) rfl rfl rfl rfl
  have po : PassesOwn (model P w) (cxOf (L2.CX P w) P w K mg base ["self", "stand", "deed", "target"] "Store.change" (defScope s_Store_change) f cdv A outer s H E).A (cxOf (L2.CX P w) P w K mg base ["self", "stand", "deed", "target"] "Store.change" (defScope s_Store_change) f cdv A outer s H E).env (cxOf (L2.CX P w) P w K mg base ["self", "stand", "deed", "target"] "Store.change" (defScope s_Store_change) f cdv A outer s H E).xe := passes_of rfl
  exact (ssm_cons (sm_expr (pm_pur (p_meth (ms := [(C.Store, fs_Store_need_stand)]) (fun c hc => by (rcases List.mem_cons.mp hc with rfl | hc; exact M_Store_need_stand; cases hc)) hr (by decide) tk (p_var 0) (l_cons (p_var 1) l_nil))))
    (ssm_cons (sm_expr (pm_pur (p_meth (ms := [(C.Store, fs_Store_need_deed)]) (fun c hc => by (rcases List.mem_cons.mp hc with rfl | hc; exact M_Store_need_deed; cases hc)) hr (by decide) tk (p_var 0) (l_cons (p_var 2) l_nil))))
    (ssm_cons (sm_expr (pm_pur (p_meth (ms := [(C.Store, fs_Store_need_stand)]) (fun c hc => by (rcases List.mem_cons.mp hc with rfl | hc; exact M_Store_need_stand; cases hc)) hr (by decide) tk (p_var 0) (l_cons (p_var 3) l_nil))))
    (ssm_one (sm_setIx (pm_ix (pm_fld (cs := [C.Store]) (fun c hc => by (rcases List.mem_cons.mp hc with rfl | hc; exact T.n_Store_table; cases hc)) (m_of (p_var 0))) (m_of (p_var 1))) (pm_call D_place_of hr (by decide) tk (lm_cons (pm_fld (cs := [C.Store]) (fun c hc => by (rcases List.mem_cons.mp hc with rfl | hc; exact T.n_Store_own_deeds; cases hc)) (m_of (p_var 0))) (lm_cons (m_of (p_var 2)) lm_nil))) (m_of (p_var 3)) (fun po pi pe => ps_asg pe (pg_sub po pi set_list)))))))
theorem scM_Store___setitem__ : FnScope ["self", "at", "worth", "stand", "deed"] ["self", "at", "worth"] (defScope s_Store___setitem__) := ⟨rfl, rfl, rfl, by decide +kernel, rfl, by decide +kernel, by decide +kernel⟩
theorem okM_Store___setitem__ {f : Addr} {fd : FuncData} {fm_Store_change : FSM} (F : Fun K "__setitem__" "Store.__setitem__" s_Store___setitem__ f fd) (T : Txt P K mg C) (MM_Store_change : MtM P w K mg base C.Store "change" 4 3 fm_Store_change) : FnOk P w K mg base (L2.CX P w) (4 + 1) f fd ["self", "at", "worth"] (spM K 3 (mM_Store___setitem__ C.Store  fm_Store_change)) := by
  refine fn_okM F scM_Store___setitem__ rfl (fun cdv A outer s H E hr => ⟨_, ?_, fun ds μ kd kx _ hf => hf⟩)
  have tk := takes_of (X := (cxOf (L2.CX P w) P w K mg base ["self", "at", "worth", "stand", "deed"] "Store.__setitem__" (defScope s_Store___setitem__) f cdv A outer s H E)) rfl rfl rfl rfl
  have po : PassesOwn (model P w) (cxOf (L2.CX P w) P w K mg base ["self", "at", "worth", "stand", "deed"] "Store.__setitem__" (defScope s_Store___setitem__) f cdv A outer s H E).A (cxOf (L2.CX P w) P w K mg base ["self", "at", "worth", "stand", "deed"] "Store.__setitem__" (defScope s_Store___setitem__) f cdv A outer s H E).env (cxOf (L2.CX P w) P w K mg base ["self", "at", "worth", "stand", "deed"] "Store.__setitem__" (defScope s_Store___setitem__) f cdv A outer s H E).xe := passes_of rfl
  exact (ssm_cons (sm_of (s_asgG (p_var 1) (g_tup2 3 4 rfl scM_Store___setitem__.nd)))
    (ssm_one (sm_expr (pm_meth (ms := [(C.Store, fm_Store_change)]) (fun c hc => by (rcases List.mem_cons.mp hc with rfl | hc; exact MM_Store_change; cases hc)) hr (by decide) tk (m_of (p_var 0)) (lm_of (l_cons (p_var 3) (l_cons (p_var 4) (l_cons (p_var 2) l_nil))))))))
theorem sc_Store_twin : FnScope ["self"] ["self"] (defScope s_Store_twin) := ⟨rfl, rfl, rfl, by decide +kernel, rfl, by decide +kernel, by decide +kernel⟩
theorem ok_Store_twin {f : Addr} {fd : FuncData} {fs_Store_rows : FS} {g_Store : FSo} (F : Fun K "twin" "Store.twin" s_Store_twin f fd) (T : Txt P K mg C) (Mk_Store : MkI P w K mg base C.Store 4 2 g_Store) (M_Store_rows : Mt P w K mg base C.Store "rows" 1 0 fs_Store_rows) : FnOk P w K mg base (L2.CX P w) (5 + 1) f fd ["self"] (spOf K 1 (m_Store_twin C.Store fs_Store_rows g_Store)) := by
  refine fn_ok F sc_Store_twin rfl (fun cdv A outer s H E hr => ⟨_, ?_, fun ds kd kx _ hf => hf⟩)
  have tk := takes_of (X := (cxOf (L2.CX P w) P w K mg base ["self"] "Store.twin" (defScope s_Store_twin) f cdv A outer s H E)) rfl rfl rfl rfl
  have po : PassesOwn (model P w) (cxOf (L2.CX P w) P w K mg base ["self"] "Store.twin" (defScope s_Store_twin) f cdv A outer s H E).A (cxOf (L2.CX P w) P w K mg base ["self"] "Store.twin" (defScope s_Store_twin) f cdv A outer s H E).env (cxOf (L2.CX P w) P w K mg base ["self"] "Store.twin" (defScope s_Store_twin) f cdv A outer s H E).xe := passes_of rfl
  exact (ss_one (s_ret (p_make Mk_Store hr (by decide) tk T.g_Store (l_cons (p_fld (cs := [C.Store]) (fun c hc => by (rcases List.mem_cons.mp hc with rfl | hc; exact T.n_Store_own_deeds; cases hc)) (PP.u (p_var 0))) (l_cons (p_meth0 (ms := [(C.Store, fs_Store_rows)]) (fun c hc => by (rcases List.mem_cons.mp hc with rfl | hc; exact M_Store_rows; cases hc)) hr (by decide) tk (p_var 0)) l_nil)))))
theorem scM_Store_twin : FnScope ["self"] ["self"] (defScope s_Store_twin) := ⟨rfl, rfl, rfl, by decide +kernel, rfl, by decide +kernel, by decide +kernel⟩
theorem okM_Store_twin {f : Addr} {fd : FuncData} {fs_Store_rows : FS} {fm_Store : FSM} (F : Fun K "twin" "Store.twin" s_Store_twin f fd) (T : Txt P K mg C) (MkM_Store : MkM P w K mg base C.Store 4 2 fm_Store) (M_Store_rows : Mt P w K mg base C.Store "rows" 1 0 fs_Store_rows) : FnOk P w K mg base (L2.CX P w) (5 + 1) f fd ["self"] (spM K 1 (mM_Store_twin C.Store fs_Store_rows fm_Store)) := by
  refine fn_okM F scM_Store_twin rfl (fun cdv A outer s H E hr => ⟨_, ?_, fun ds μ kd kx _ hf => hf⟩)
  have tk := takes_of (X := (cxOf (L2.CX P w) P w K mg base ["self"] "Store.twin" (defScope s_Store_twin) f cdv A outer s H E)) rfl rfl rfl rfl
  have po : PassesOwn (model P w) (cxOf (L2.CX P w) P w K mg base ["self"] "Store.twin" (defScope s_Store_twin) f cdv A outer s H E).A (cxOf (L2.CX P w) P w K mg base ["self"] "Store.twin" (defScope s_Store_twin) f cdv A outer s H E).env (cxOf (L2.CX P w) P w K mg base ["self"] "Store.twin" (defScope s_Store_twin) f cdv A outer s H E).xe := passes_of rfl
  exact (ssm_one (sm_ret (pm_make MkM_Store hr (by decide) tk T.g_Store (lm_of (l_cons (p_fld (cs := [C.Store]) (fun c hc => by (rcases List.mem_cons.mp hc with rfl | hc; exact T.n_Store_own_deeds; cases hc)) (PP.u (p_var 0))) (l_cons (p_meth0 (ms := [(C.Store, fs_Store_rows)]) (fun c hc => by (rcases List.mem_cons.mp hc with rfl | hc; exact M_Store_rows; cases hc)) hr (by decide) tk (p_var 0)) l_nil))))))
theorem sc_Store___eq__ : FnScope ["self", "other"] ["self", "other"] (defScope s_Store___eq__) := ⟨rfl, rfl, rfl, by decide +kernel, rfl, by decide +kernel, by decide +kernel⟩
theorem ok_Store___eq__ {f : Addr} {fd : FuncData} (F : Fun K "__eq__" "Store.__eq__" s_Store___eq__ f fd) (T : Txt P K mg C)  : FnOk P w K mg base (L2.CX P w) (0 + 1) f fd ["self", "other"] (spOf K 2 (m_Store___eq__ C.Store  )) := by
  refine fn_ok F sc_Store___eq__ rfl (fun cdv A outer s H E hr => ⟨_, ?_, fun ds kd kx _ hf => hf⟩)
  have tk := takes_of (X := (cxOf (L2.CX P w) P w K mg base ["self", "other"] "Store.__eq__" (defScope s_Store___eq__) f cdv A outer s H E)) rfl rfl rfl rfl
  have po : PassesOwn (model P w) (cxOf (L2.CX P w) P w K mg base ["self", "other"] "Store.__eq__" (defScope s_Store___eq__) f cdv A outer s H E).A (cxOf (L2.CX P w) P w K mg base ["self", "other"] "Store.__eq__" (defScope s_Store___eq__) f cdv A outer s H E).env (cxOf (L2.CX P w) P w K mg base ["self", "other"] "Store.__eq__" (defScope s_Store___eq__) f cdv A outer s H E).xe := passes_of rfl
  exact (ss_one (s_ret (p_and (p_isX (cs := [(C.Store, true)]) (fun c hc => by (rcases List.mem_cons.mp hc with rfl | hc; exact T.i_Store_Store; cases hc)) T.oc_Store (p_var 1) T.g_Store T.b_isinstance) (p_and (p_cmp (o_eq hr.units) (PP.u (p_fld (cs := [C.Store]) (fun c hc => by (rcases List.mem_cons.mp hc with rfl | hc; exact T.n_Store_own_deeds; cases hc)) (PP.u (p_var 0)))) (PP.u (p_fld (cs := [C.Store]) (fun c hc => by (rcases List.mem_cons.mp hc with rfl | hc; exact T.n_Store_own_deeds; cases hc)) (PP.u (p_var 1))))) (p_one (p_cmp (o_eq hr.units) (PP.u (p_fld (cs := [C.Store]) (fun c hc => by (rcases List.mem_cons.mp hc with rfl | hc; exact T.n_Store_table; cases hc)) (PP.u (p_var 0)))) (PP.u (p_fld (cs := [C.Store]) (fun c hc => by (rcases List.mem_cons.mp hc with rfl | hc; exact T.n_Store_table; cases hc)) (PP.u (p_var 1))))))))))
theorem sc_law_pull : FnScope ["_law_bag", "_law_many", "_law_cell", "_law_got", "_law_seed"] ["_law_bag", "_law_many"] (defScope s_law_pull) := ⟨rfl, rfl, rfl, by decide +kernel, rfl, by decide +kernel, by decide +kernel⟩
theorem ok_law_pull {f : Addr} {fd : FuncData} (F : Fun K "_law_pull" "_law_pull" s_law_pull f fd) (T : Txt P K mg C)  : FnOk P w K mg base (L2.CX P w) (0 + 1) f fd ["_law_bag", "_law_many"] (spOw K 2 0 (m_law_pull   )) := by
  refine fn_okO F sc_law_pull rfl (fun cdv A outer s H E hr => ⟨_, ?_, fun ds kd kx p _ hf => hf p⟩)
  have tk := takes_of (X := (cxOf (L2.CX P w) P w K mg base ["_law_bag", "_law_many", "_law_cell", "_law_got", "_law_seed"] "_law_pull" (defScope s_law_pull) f cdv A outer s H E)) rfl rfl rfl rfl
  have po : PassesOwn (model P w) (cxOf (L2.CX P w) P w K mg base ["_law_bag", "_law_many", "_law_cell", "_law_got", "_law_seed"] "_law_pull" (defScope s_law_pull) f cdv A outer s H E).A (cxOf (L2.CX P w) P w K mg base ["_law_bag", "_law_many", "_law_cell", "_law_got", "_law_seed"] "_law_pull" (defScope s_law_pull) f cdv A outer s H E).env (cxOf (L2.CX P w) P w K mg base ["_law_bag", "_law_many", "_law_cell", "_law_got", "_law_seed"] "_law_pull" (defScope s_law_pull) f cdv A outer s H E).xe := passes_of rfl
  exact (ss_cons (s_if (PBw.to (b_and (b_cmp (o_eq hr.units) (PP.u (p_ix (u_var 0) (PP.u p_int))) (PP.u p_int)) (b_and1 (b_cmp o_lt (PP.u (p_ix (u_var 0) (PP.u p_int))) (PP.u (p_b1 c_len T.b_len (by decide +kernel) (PP.u (p_ix (u_var 0) (PP.u p_int)))))))))
    (ss_cons (s_set 2 (p_ix (PP.u (p_ix (u_var 0) (PP.u p_int))) (PP.u (p_ix (u_var 0) (PP.u p_int)))) sc_law_pull.nd)
    (ss_cons (s_setIx 0 (pv 0) p_int (p_op o_add (PP.u (p_ix (u_var 0) (PP.u p_int))) (PP.u p_int)) (fun pi pe => ps_asg pe (pg_sub (pv 0) pi set_list)))
    (ss_one (s_if (b_cmp o_ge (PP.u (p_var 2)) (PP.u (p_op o_pow (PP.u p_int) (PP.u p_int))))
    (ss_one (s_setIx 0 (pv 0) p_int (p_var 2) (fun pi pe => ps_asg pe (pg_sub (pv 0) pi set_list))))
    (ss_one (s_setIx 0 (pv 0) p_int (p_op o_mod (PP.u (p_t1 c_int T.b_int (by decide +kernel) (PP.u (p_op o_add (PP.u (p_op o_add (PP.u (p_op o_mul (PP.u (p_ix (u_var 0) (PP.u p_int))) (PP.u p_int))) (PP.u (p_op o_mul (PP.u (p_op o_mod (PP.u (p_t1 c_int T.b_int (by decide +kernel) (PP.u (p_var 2)))) (PP.u p_int))) (PP.u p_int))))) (PP.u p_int))))) (PP.u p_int)) (fun pi pe => ps_asg pe (pg_sub (pv 0) pi set_list))))))))
    ss_nil)
    (ss_cons (s_if (b_cmp o_gt (PP.u (p_ix (u_var 0) (PP.u p_int))) (PP.u p_int))
    (ss_cons (s_set 3 (p_op o_mod (PP.u (p_t1 c_int T.b_int (by decide +kernel) (PP.u (p_ix (u_var 0) (PP.u p_int))))) (PP.u (p_var 1))) sc_law_pull.nd)
    (ss_cons (s_setIx 0 (pv 0) p_int (p_op o_fdiv (PP.u (p_ix (u_var 0) (PP.u p_int))) (PP.u (p_var 1))) (fun pi pe => ps_asg pe (pg_sub (pv 0) pi set_list)))
    (ss_one (s_ret (p_var 3)))))
    ss_nil)
    (ss_cons (s_set 4 (p_ix (u_var 0) (PP.u p_int)) sc_law_pull.nd)
    (ss_cons (s_setIx 0 (pv 0) p_int (p_op o_mod (PP.u (p_t1 c_int T.b_int (by decide +kernel) (PP.u (p_op o_add (PP.u (p_op o_add (PP.u (p_op o_mul (PP.u (p_var 4)) (PP.u (p_var 4)))) (PP.u (p_op o_mul (PP.u (p_var 4)) (PP.u p_int))))) (PP.u p_int))))) (PP.u p_int)) (fun pi pe => ps_asg pe (pg_sub (pv 0) pi set_list)))
    (ss_one (s_ret (p_op o_mod (PP.u (p_t1 c_int T.b_int (by decide +kernel) (PP.u (p_op o_add (PP.u (p_op o_fdiv (PP.u (p_ix (u_var 0) (PP.u p_int))) (PP.u p_int))) (PP.u (p_op o_mul (PP.u (p_op o_mod (PP.u (p_t1 c_int T.b_int (by decide +kernel) (PP.u (p_ix (u_var 0) (PP.u p_int))))) (PP.u p_int))) (PP.u p_int))))))) (PP.u (p_var 1)))))))))
theorem sc_law_pick : FnScope ["_law_bag", "_law_some"] ["_law_bag", "_law_some"] (defScope s_law_pick) := ⟨rfl, rfl, rfl, by decide +kernel, rfl, by decide +kernel, by decide +kernel⟩
theorem ok_law_pick {f : Addr} {fd : FuncData} {fs_law_pull : FS} (F : Fun K "_law_pick" "_law_pick" s_law_pick f fd) (T : Txt P K mg C) (D_law_pull : Df P w K mg base "_law_pull" 1 2 fs_law_pull) : FnOk P w K mg base (L2.CX P w) (1 + 1) f fd ["_law_bag", "_law_some"] (spOf K 2 (m_law_pick  fs_law_pull )) := by
  refine fn_ok F sc_law_pick rfl (fun cdv A outer s H E hr => ⟨_, ?_, fun ds kd kx _ hf => hf⟩)
  have tk := takes_of (X := (cxOf (L2.CX P w) P w K mg base ["_law_bag", "_law_some"] "_law_pick" (defScope s_law_pick) f cdv A outer s H E)) rfl rfl rfl rfl
  have po : PassesOwn (model P w) (cxOf (L2.CX P w) P w K mg base ["_law_bag", "_law_some"] "_law_pick" (defScope s_law_pick) f cdv A outer s H E).A (cxOf (L2.CX P w) P w K mg base ["_law_bag", "_law_some"] "_law_pick" (defScope s_law_pick) f cdv A outer s H E).env (cxOf (L2.CX P w) P w K mg base ["_law_bag", "_law_some"] "_law_pick" (defScope s_law_pick) f cdv A outer s H E).xe := passes_of rfl
  exact (ss_one (s_ret (p_ix (PP.u (p_var 1)) (PP.u (p_call D_law_pull hr (by decide) tk (l_cons (p_var 0) (l_cons (p_b1 c_len T.b_len (by decide +kernel) (PP.u (p_var 1))) l_nil)))))))
theorem sc_law_letters : FnScope [] [] (defScope s_law_letters) := ⟨rfl, rfl, rfl, by decide +kernel, rfl, by decide +kernel, by decide +kernel⟩
theorem ok_law_letters {f : Addr} {fd : FuncData} (F : Fun K "_law_letters" "_law_letters" s_law_letters f fd) (T : Txt P K mg C)  : FnOk P w K mg base (L2.CX P w) (0 + 1) f fd [] (spOf K 0 (m_law_letters   )) := by
  refine fn_ok F sc_law_letters rfl (fun cdv A outer s H E hr => ⟨_, ?_, fun ds kd kx _ hf => hf⟩)
  have tk := takes_of (X := (cxOf (L2.CX P w) P w K mg base [] "_law_letters" (defScope s_law_letters) f cdv A outer s H E)) rfl rfl rfl rfl
  have po : PassesOwn (model P w) (cxOf (L2.CX P w) P w K mg base [] "_law_letters" (defScope s_law_letters) f cdv A outer s H E).A (cxOf (L2.CX P w) P w K mg base [] "_law_letters" (defScope s_law_letters) f cdv A outer s H E).env (cxOf (L2.CX P w) P w K mg base [] "_law_letters" (defScope s_law_letters) f cdv A outer s H E).xe := passes_of rfl
  exact (ss_one (s_ret (p_str [97, 98, 99, 100, 101, 102, 103, 104, 105, 106, 107, 108, 109, 110, 111, 112, 113, 114, 115, 116, 117, 118, 119, 120, 121, 122])))
theorem sc_law_alphabet : FnScope ["_law_bag", "_law_most", "_law_many", "_law_found", "_law_at", "_law_room", "_law_k", "_law_gap"] ["_law_bag", "_law_most"] (defScope s_law_alphabet) := ⟨rfl, rfl, rfl, by decide +kernel, rfl, by decide +kernel, by decide +kernel⟩
theorem ok_law_alphabet {f : Addr} {fd : FuncData} {fs_law_pull fs_law_pick fs_law_letters : FS} (F : Fun K "_law_alphabet" "_law_alphabet" s_law_alphabet f fd) (T : Txt P K mg C) (D_law_pull : Df P w K mg base "_law_pull" 1 2 fs_law_pull) (D_law_pick : Df P w K mg base "_law_pick" 2 2 fs_law_pick) (D_law_letters : Df P w K mg base "_law_letters" 1 0 fs_law_letters) : FnOk P w K mg base (L2.CX P w) (2 + 1) f fd ["_law_bag", "_law_most"] (spOf K 2 (m_law_alphabet  fs_law_pull fs_law_pick fs_law_letters )) := by
  refine fn_ok F sc_law_alphabet rfl (fun cdv A outer s H E hr => ⟨_, ?_, fun ds kd kx _ hf => hf⟩)
  have tk := takes_of (X := (cxOf (L2.CX P w) P w K mg base ["_law_bag", "_law_most", "_law_many", "_law_found", "_law_at", "_law_room", "_law_k", "_law_gap"] "_law_alphabet" (defScope s_law_alphabet) f cdv A outer s H E)) rfl rfl rfl rfl
  have po : PassesOwn (model P w) (cxOf (L2.CX P w) P w K mg base ["_law_bag", "_law_most", "_law_many", "_law_found", "_law_at", "_law_room", "_law_k", "_law_gap"] "_law_alphabet" (defScope s_law_alphabet) f cdv A outer s H E).A (cxOf (L2.CX P w) P w K mg base ["_law_bag", "_law_most", "_law_many", "_law_found", "_law_at", "_law_room", "_law_k", "_law_gap"] "_law_alphabet" (defScope s_law_alphabet) f cdv A outer s H E).env (cxOf (L2.CX P w) P w K mg base ["_law_bag", "_law_most", "_law_many", "_law_found", "_law_at", "_law_room", "_law_k", "_law_gap"] "_law_alphabet" (defScope s_law_alphabet) f cdv A outer s H E).xe := passes_of rfl
  exact (ss_cons (s_set 2 (p_op o_add (PP.u p_int) (PP.u (p_call D_law_pull hr (by decide) tk (l_cons (p_var 0) (l_cons (p_var 1) l_nil))))) sc_law_alphabet.nd)
    (ss_cons (s_par3 3 4 5 rfl sc_law_alphabet.nd (l_cons (p_str []) (l_cons p_int (l_cons (p_op o_sub (PP.u p_int) (PP.u (p_var 2))) l_nil))))
    (ss_cons (s_for po rfl (i_rng1 T.b_range (l_cons (p_var 2) l_nil)) (g_name 6 sc_law_alphabet.nd)
    (ss_cons (s_set 7 (p_call D_law_pick hr (by decide) tk (l_cons (p_var 0) (l_cons (p_lst (l_cons p_int (l_cons (p_call D_law_pull hr (by decide) tk (l_cons (p_var 0) (l_cons (p_op o_add (PP.u (p_var 5)) (PP.u p_int)) l_nil))) (l_cons (p_bn (c_min2 rfl) T.b_min (by decide +kernel) (l_cons (p_var 5) (l_cons (p_call D_law_pull hr (by decide) tk (l_cons (p_var 0) (l_cons p_int l_nil))) l_nil))) l_nil)))) l_nil))) sc_law_alphabet.nd)
    (ss_cons (s_par2 4 5 rfl sc_law_alphabet.nd (l_cons (p_op o_add (PP.u (p_var 4)) (PP.u (p_var 7))) (l_cons (p_op o_sub (PP.u (p_var 5)) (PP.u (p_var 7))) l_nil)))
    (ss_cons (s_set 3 (p_op o_add (PP.u (p_var 3)) (PP.u (p_ix (PP.u (p_call0 D_law_letters hr (by decide) tk)) (PP.u (p_var 4))))) sc_law_alphabet.nd)
    (ss_one (s_set 4 (p_op o_add (PP.u (p_var 4)) (PP.u p_int)) sc_law_alphabet.nd))))))
    (ss_one (s_ret (p_var 3))))))
theorem scM_law_rows : FnScope ["_law_bag", "_law_many", "_law_width", "_law_columns", "_law_k", "_law_way", "_law_column", "_law_stand"] ["_law_bag", "_law_many", "_law_width"] (defScope s_law_rows) := ⟨rfl, rfl, rfl, by decide +kernel, rfl, by decide +kernel, by decide +kernel⟩
theorem okM_law_rows {f : Addr} {fd : FuncData} {fs_law_pull : FS} (F : Fun K "_law_rows" "_law_rows" s_law_rows f fd) (T : Txt P K mg C) (D_law_pull : Df P w K mg base "_law_pull" 1 2 fs_law_pull) : FnOk P w K mg base (L2.CX P w) (1 + 1) f fd ["_law_bag", "_law_many", "_law_width"] (spM K 3 (mM_law_rows  fs_law_pull )) := by
  refine fn_okM F scM_law_rows rfl (fun cdv A outer s H E hr => ⟨_, ?_, fun ds μ kd kx _ hf => hf⟩)
  have tk := takes_of (X := (cxOf (L2.CX P w) P w K mg base ["_law_bag", "_law_many", "_law_width", "_law_columns", "_law_k", "_law_way", "_law_column", "_law_stand"] "_law_rows" (defScope s_law_rows) f cdv A outer s H E)) rfl rfl rfl rfl
  have po : PassesOwn (model P w) (cxOf (L2.CX P w) P w K mg base ["_law_bag", "_law_many", "_law_width", "_law_columns", "_law_k", "_law_way", "_law_column", "_law_stand"] "_law_rows" (defScope s_law_rows) f cdv A outer s H E).A (cxOf (L2.CX P w) P w K mg base ["_law_bag", "_law_many", "_law_width", "_law_columns", "_law_k", "_law_way", "_law_column", "_law_stand"] "_law_rows" (defScope s_law_rows) f cdv A outer s H E).env (cxOf (L2.CX P w) P w K mg base ["_law_bag", "_law_many", "_law_width", "_law_columns", "_law_k", "_law_way", "_law_column", "_law_stand"] "_law_rows" (defScope s_law_rows) f cdv A outer s H E).xe := passes_of rfl
  exact (ssm_cons (sm_of (s_own 3 (n_lst l_nil) scM_law_rows.nd))
    (ssm_cons (sm_of (s_for po rfl (i_rng1 T.b_range (l_cons (p_var 2) l_nil)) (g_name 4 scM_law_rows.nd)
    (ss_cons (s_set 5 (p_call D_law_pull hr (by decide) tk (l_cons (p_var 0) (l_cons p_int l_nil))) scM_law_rows.nd)
    (ss_cons (s_set 6 (p_lc [("_law_stand", 7)] rfl scM_law_rows.nd (i_rng1 T.b_range (l_cons (p_var 1) l_nil)) (blkOk_by (N := ["_law_bag", "_law_many", "_law_width", "_law_columns", "_law_k", "_law_way", "_law_column", "_law_stand"]) (sc := defScope s_law_rows) (by decide +kernel)) (fun _ => (g_name 7 scM_law_rows.nd)) (fun _ => bs_nil) (fun _ => (p_call D_law_pull hr (by decide) takes0 (l_cons (p_var 0) (l_cons (p_var 1) l_nil))))) scM_law_rows.nd)
    (ss_cons (s_if (b_cmp (o_eq hr.units) (PP.u (p_var 5)) (PP.u p_int))
    (ss_one (s_set 6 (p_op o_mul (PP.u (p_lst (l_cons (p_ix (PP.u (p_var 6)) (PP.u p_int)) l_nil))) (PP.u (p_var 1))) scM_law_rows.nd))
    (ss_one (s_if (b_cmp (o_eq hr.units) (PP.u (p_var 5)) (PP.u p_int))
    (ss_one (s_set 6 (p_lc [("_law_stand", 7)] rfl scM_law_rows.nd (i_rng1 T.b_range (l_cons (p_var 1) l_nil)) (blkOk_by (N := ["_law_bag", "_law_many", "_law_width", "_law_columns", "_law_k", "_law_way", "_law_column", "_law_stand"]) (sc := defScope s_law_rows) (by decide +kernel)) (fun _ => (g_name 7 scM_law_rows.nd)) (fun _ => bs_nil) (fun _ => (p_ifExp (b_cmp o_inI (PP.u (p_var 7)) (PP.u (p_slice (PP.u (p_var 6)) s_none (s_some (p_op o_add (PP.u p_int) (PP.u (p_op o_fdiv (PP.u (p_var 1)) (PP.u p_int)))))))) (p_var 7) (p_ix (PP.u (p_var 6)) (PP.u p_int))))) scM_law_rows.nd))
    (ss_one (s_if (b_cmp (o_eq hr.units) (PP.u (p_var 5)) (PP.u p_int))
    (ss_one (s_set 6 (p_lc [("_law_stand", 7)] rfl scM_law_rows.nd (i_rng1 T.b_range (l_cons (p_var 1) l_nil)) (blkOk_by (N := ["_law_bag", "_law_many", "_law_width", "_law_columns", "_law_k", "_law_way", "_law_column", "_law_stand"]) (sc := defScope s_law_rows) (by decide +kernel)) (fun _ => (g_name 7 scM_law_rows.nd)) (fun _ => bs_nil) (fun _ => (p_ifExp (b_cmp (o_eq hr.units) (PP.u (p_call D_law_pull hr (by decide) takes0 (l_cons (p_var 0) (l_cons p_int l_nil)))) (PP.u p_int)) (p_var 7) (p_ix (PP.u (p_var 6)) (PP.u (p_var 7)))))) scM_law_rows.nd))
    ss_nil)))))
    (ss_one (s_append 3 (p_var 6) (fun _ pa => pe_bm PySem.F.plainAttrs_list PySem.F.slot_list_append PySem.F.type_list_append mt_append (pv 3) (pa_cons pa pa_nil)))))))))
    (ssm_one (sm_fgt [4, 5, 6, 7] (sm_frz 3 (sm_ret (pm_lcN [("_law_stand", 7)] rfl scM_law_rows.nd (i_rng1 T.b_range (l_cons (p_var 1) l_nil)) (blkOk_by (N := ["_law_bag", "_law_many", "_law_width", "_law_columns", "_law_k", "_law_way", "_law_column", "_law_stand"]) (sc := defScope s_law_rows) (by decide +kernel)) (fun _ => (g_name 7 scM_law_rows.nd)) (fun _ => bs_nil) (fun _ => (m_of (p_t1 c_tup T.b_tuple (by decide +kernel) (PP.u (p_lc [("_law_column", 6)] rfl scM_law_rows.nd (i_lst (p_var 3)) (blkOk_by (N := ["_law_bag", "_law_many", "_law_width", "_law_columns", "_law_k", "_law_way", "_law_column", "_law_stand"]) (by rfl)) (fun _ => (g_name 6 scM_law_rows.nd)) (fun _ => bs_nil) (fun _ => (p_ix (PP.u (p_var 6)) (PP.u (p_var 7))))))))))))))))
theorem sc_law_ask : FnScope ["_law_f", "e"] ["_law_f"] (defScope s_law_ask) := ⟨rfl, rfl, rfl, by decide +kernel, rfl, by decide +kernel, by decide +kernel⟩
theorem ask_law_ask (T : Txt P K mg C) (k : Nat) : AskOkM P w K mg base "_law_ask" "_law_f" s_law_ask ["_law_f", "e"] k (mM_law_ask K C.LogError C.Missing C.InvalidDeed C.InvalidDeeds C.InvalidLog C.InvalidStep C.InvalidStore C.InvalidStand C.InvalidNumber C.InvalidCount C.TooMany C.NothingLeft) := by
  intro g cdv A outer s H E tact hr act
  have tk := takes_of (X := (cxOf (L2.CX P w) P w K mg base ["_law_f", "e"] "_law_ask" (defScope s_law_ask) g cdv A outer s H E)) rfl rfl rfl rfl
  exact (ssm_one (sm_try rfl rfl tk (fun W pn xe tkb _ => (ssm_one (sm_ret (pm_tup (lm_cons (m_of (p_str [])) (lm_cons (act _ _ _ _ _ tkb) lm_nil))))))
    (HdsM.of (.cons (.tup (.cons ⟨by rfl, by decide, .inl T.g_InvalidDeed⟩ (.cons ⟨by rfl, by decide, .inl T.g_InvalidDeeds⟩ (.cons ⟨by rfl, by decide, .inl T.g_InvalidLog⟩ (.cons ⟨by rfl, by decide, .inl T.g_InvalidStand⟩ (.cons ⟨by rfl, by decide, .inl T.g_InvalidNumber⟩ (.cons ⟨by rfl, by decide, .inl T.g_InvalidCount⟩ .nil)))))) (by simp)) (.as sc_law_ask.nd rfl rfl) (fun a oe cls d pn hz hf => (ss_one (s_ret (p_tup (l_cons (p_xat 1 hz hf) (l_cons (p_xat 1 hz hf) l_nil))))))
    (.cons (.one ⟨by rfl, by decide, .inl T.g_InvalidStep⟩) (.as sc_law_ask.nd rfl rfl) (fun a oe cls d pn hz hf => (ss_one (s_ret (p_tup (l_cons (p_xat 1 hz hf) (l_cons (p_xat 1 hz hf) l_nil))))))
    (.cons (.one ⟨by rfl, by decide, .inl T.g_InvalidStore⟩) (.as sc_law_ask.nd rfl rfl) (fun a oe cls d pn hz hf => (ss_one (s_ret (p_tup (l_cons (p_xat 1 hz hf) (l_cons (p_xat 1 hz hf) l_nil))))))
    (.cons (.one ⟨by rfl, by decide, .inl T.g_TooMany⟩) (.as sc_law_ask.nd rfl rfl) (fun a oe cls d pn hz hf => (ss_one (s_ret (p_tup (l_cons (p_xat 1 hz hf) (l_cons (p_xat 1 hz hf) l_nil))))))
    (.cons (.tup (.cons ⟨by rfl, by decide, .inl T.g_LogError⟩ (.cons ⟨by rfl, by decide, .inl T.g_Missing⟩ (.cons ⟨by rfl, by decide, .inl T.g_NothingLeft⟩ .nil))) (by simp)) (.as sc_law_ask.nd rfl rfl) (fun a oe cls d pn hz hf => (ss_one (s_ret (p_tup (l_cons (p_xat 1 hz hf) (l_cons p_non l_nil))))))
    .nil))))))))
theorem sc_law_drawn : FnScope ["_law_bag", "_law_deeds", "_law_most", "_law_size", "_law_found", "_law_k", "_law_way"] ["_law_bag", "_law_deeds", "_law_most"] (defScope s_law_drawn) := ⟨rfl, rfl, rfl, by decide +kernel, rfl, by decide +kernel, by decide +kernel⟩
theorem ok_law_drawn {f : Addr} {fd : FuncData} {fs_law_pick fs_law_pull : FS} (F : Fun K "_law_drawn" "_law_drawn" s_law_drawn f fd) (T : Txt P K mg C) (D_law_pick : Df P w K mg base "_law_pick" 2 2 fs_law_pick) (D_law_pull : Df P w K mg base "_law_pull" 1 2 fs_law_pull) : FnOk P w K mg base (L2.CX P w) (2 + 1) f fd ["_law_bag", "_law_deeds", "_law_most"] (spOf K 3 (m_law_drawn  fs_law_pick fs_law_pull )) := by
  refine fn_ok F sc_law_drawn rfl (fun cdv A outer s H E hr => ⟨_, ?_, fun ds kd kx _ hf => hf⟩)
  have tk := takes_of (X := (cxOf (L2.CX P w) P w K mg base ["_law_bag", "_law_deeds", "_law_most", "_law_size", "_law_found", "_law_k", "_law_way"] "_law_drawn" (defScope s_law_drawn) f cdv A outer s H E)) rfl rfl rfl rfl
  have po : PassesOwn (model P w) (cxOf (L2.CX P w) P w K mg base ["_law_bag", "_law_deeds", "_law_most", "_law_size", "_law_found", "_law_k", "_law_way"] "_law_drawn" (defScope s_law_drawn) f cdv A outer s H E).A (cxOf (L2.CX P w) P w K mg base ["_law_bag", "_law_deeds", "_law_most", "_law_size", "_law_found", "_law_k", "_law_way"] "_law_drawn" (defScope s_law_drawn) f cdv A outer s H E).env (cxOf (L2.CX P w) P w K mg base ["_law_bag", "_law_deeds", "_law_most", "_law_size", "_law_found", "_law_k", "_law_way"] "_law_drawn" (defScope s_law_drawn) f cdv A outer s H E).xe := passes_of rfl
  exact (ss_cons (s_par2 3 4 rfl sc_law_drawn.nd (l_cons (p_call D_law_pick hr (by decide) tk (l_cons (p_var 0) (l_cons (p_lst (l_cons (p_call D_law_pull hr (by decide) tk (l_cons (p_var 0) (l_cons (p_op o_add (PP.u (p_var 2)) (PP.u p_int)) l_nil))) (l_cons (p_call D_law_pull hr (by decide) tk (l_cons (p_var 0) (l_cons (p_op o_add (PP.u (p_bn (c_min2 rfl) T.b_min (by decide +kernel) (l_cons (p_var 2) (l_cons p_int l_nil)))) (PP.u p_int)) l_nil))) l_nil))) l_nil))) (l_cons (p_str []) l_nil)))
    (ss_cons (s_for po rfl (i_rng1 T.b_range (l_cons (p_var 3) l_nil)) (g_name 5 sc_law_drawn.nd)
    (ss_cons (s_set 6 (p_call D_law_pull hr (by decide) tk (l_cons (p_var 0) (l_cons p_int l_nil))) sc_law_drawn.nd)
    (ss_cons (s_if (PBw.to (b_and (b_cmp (o_eq hr.units) (PP.u (p_var 6)) (PP.u p_int)) (b_and1 (b_cmp (o_ne hr.units) (PP.u (p_var 4)) (PP.u (p_str []))))))
    (ss_one (s_set 4 (p_op o_add (PP.u (p_var 4)) (PP.u (p_slice (PP.u (p_var 4)) (s_some (p_op o_sub (PP.u (p_op o_sub (PP.u (p_b1 c_len T.b_len (by decide +kernel) (PP.u (p_var 4)))) (PP.u p_int))) (PP.u (p_call D_law_pull hr (by decide) tk (l_cons (p_var 0) (l_cons (p_b1 c_len T.b_len (by decide +kernel) (PP.u (p_var 4))) l_nil)))))) s_none))) sc_law_drawn.nd))
    (ss_one (s_if (PBw.to (b_and (b_cmp (o_eq hr.units) (PP.u (p_var 6)) (PP.u p_int)) (b_and1 (b_cmp o_gt (PP.u (p_b1 c_len T.b_len (by decide +kernel) (PP.u (p_var 4)))) (PP.u p_int)))))
    (ss_one (s_set 4 (p_op o_add (PP.u (p_var 4)) (PP.u (p_ix (PP.u (p_var 4)) (PP.u (p_call D_law_pull hr (by decide) tk (l_cons (p_var 0) (l_cons (p_b1 c_len T.b_len (by decide +kernel) (PP.u (p_var 4))) l_nil))))))) sc_law_drawn.nd))
    (ss_one (s_set 4 (p_op o_add (PP.u (p_var 4)) (PP.u (p_call D_law_pick hr (by decide) tk (l_cons (p_var 0) (l_cons (p_var 1) l_nil))))) sc_law_drawn.nd)))))
    (ss_one (s_set 4 (p_slice (PP.u (p_var 4)) s_none (s_some (p_var 2))) sc_law_drawn.nd)))))
    (ss_one (s_ret (p_slice (PP.u (p_var 4)) s_none (s_some (p_var 3)))))))
theorem sc_law_same : FnScope ["_law_found", "_law_due", "_law_at"] ["_law_found", "_law_due"] (defScope s_law_same) := ⟨rfl, rfl, rfl, by decide +kernel, rfl, by decide +kernel, by decide +kernel⟩
theorem ok_law_same {f : Addr} {fd : FuncData} {fs_law_same : FS} (F : Fun K "_law_same" "_law_same" s_law_same f fd) (T : Txt P K mg C) {kk : Nat} (hkk : 0 ≤ kk) (D_law_same : Df P w K mg base "_law_same" kk 2 fs_law_same) : FnOk P w K mg base (L2.CX P w) (kk + 1) f fd ["_law_found", "_law_due"] (spOf K 2 (m_law_same  fs_law_same )) := by
  refine fn_ok F sc_law_same rfl (fun cdv A outer s H E hr => ⟨_, ?_, fun ds kd kx _ hf => hf⟩)
  have tk := takes_of (X := (cxOf (L2.CX P w) P w K mg base ["_law_found", "_law_due", "_law_at"] "_law_same" (defScope s_law_same) f cdv A outer s H E)) rfl rfl rfl rfl
  have po : PassesOwn (model P w) (cxOf (L2.CX P w) P w K mg base ["_law_found", "_law_due", "_law_at"] "_law_same" (defScope s_law_same) f cdv A outer s H E).A (cxOf (L2.CX P w) P w K mg base ["_law_found", "_law_due", "_law_at"] "_law_same" (defScope s_law_same) f cdv A outer s H E).env (cxOf (L2.CX P w) P w K mg base ["_law_found", "_law_due", "_law_at"] "_law_same" (defScope s_law_same) f cdv A outer s H E).xe := passes_of rfl
  exact (ss_cons (s_if (PBw.to (b_or (b_isN (PP.u (p_var 1))) (b_or1 (b_isN (PP.u (p_var 0))))))
    (ss_one (s_ret (p_and (p_isN (PP.u (p_var 1))) (p_one (p_isN (PP.u (p_var 0)))))))
    ss_nil)
    (ss_cons (s_if (PBw.to (b_or (b_val (p_isi "bool" (PP.u (p_var 1)) (pe_bltn (v := .ty "bool") (by rfl) T.b_bool (by decide +kernel) rfl) T.b_isinstance)) (b_or1 (b_val (p_isi "bool" (PP.u (p_var 0)) (pe_bltn (v := .ty "bool") (by rfl) T.b_bool (by decide +kernel) rfl) T.b_isinstance)))))
    (ss_one (s_ret (p_and (p_isi "bool" (PP.u (p_var 1)) (pe_bltn (v := .ty "bool") (by rfl) T.b_bool (by decide +kernel) rfl) T.b_isinstance) (p_and (p_isi "bool" (PP.u (p_var 0)) (pe_bltn (v := .ty "bool") (by rfl) T.b_bool (by decide +kernel) rfl) T.b_isinstance) (p_one (p_cmp (o_eq hr.units) (PP.u (p_var 0)) (PP.u (p_var 1))))))))
    ss_nil)
    (ss_cons (s_if (b_val (p_isi "int" (PP.u (p_var 1)) (pe_bltn (v := .ty "int") (by rfl) T.b_int (by decide +kernel) rfl) T.b_isinstance))
    (ss_one (s_ret (p_and (p_isi "int" (PP.u (p_var 0)) (pe_bltn (v := .ty "int") (by rfl) T.b_int (by decide +kernel) rfl) T.b_isinstance) (p_one (p_cmp (o_eq hr.units) (PP.u (p_var 0)) (PP.u (p_var 1)))))))
    ss_nil)
    (ss_cons (s_if (b_val (p_isi "str" (PP.u (p_var 1)) (pe_bltn (v := .ty "str") (by rfl) T.b_str (by decide +kernel) rfl) T.b_isinstance))
    (ss_one (s_ret (p_and (p_isi "str" (PP.u (p_var 0)) (pe_bltn (v := .ty "str") (by rfl) T.b_str (by decide +kernel) rfl) T.b_isinstance) (p_one (p_cmp (o_eq hr.units) (PP.u (p_var 0)) (PP.u (p_var 1)))))))
    ss_nil)
    (ss_cons (s_if (PBw.to (b_or (b_cmp (o_ne hr.units) (PP.u (p_isi "list" (PP.u (p_var 1)) (pe_bltn (v := .ty "list") (by rfl) T.b_list (by decide +kernel) rfl) T.b_isinstance)) (PP.u (p_isi "list" (PP.u (p_var 0)) (pe_bltn (v := .ty "list") (by rfl) T.b_list (by decide +kernel) rfl) T.b_isinstance))) (b_or1 (b_cmp (o_ne hr.units) (PP.u (p_isi "tuple" (PP.u (p_var 1)) (pe_bltn (v := .ty "tuple") (by rfl) T.b_tuple (by decide +kernel) rfl) T.b_isinstance)) (PP.u (p_isi "tuple" (PP.u (p_var 0)) (pe_bltn (v := .ty "tuple") (by rfl) T.b_tuple (by decide +kernel) rfl) T.b_isinstance))))))
    (ss_one (s_ret p_bl))
    ss_nil)
    (ss_one (s_ret (p_and (p_cmp (o_eq hr.units) (PP.u (p_b1 c_len T.b_len (by decide +kernel) (PP.u (p_var 0)))) (PP.u (p_b1 c_len T.b_len (by decide +kernel) (PP.u (p_var 1))))) (p_one (p_b1 (c_all rfl) T.b_all (by decide +kernel) (PP.u (p_lc [("_law_at", 2)] rfl sc_law_same.nd (i_rng1 T.b_range (l_cons (p_b1 c_len T.b_len (by decide +kernel) (PP.u (p_var 1))) l_nil)) (blkOk_by (N := ["_law_found", "_law_due", "_law_at"]) (sc := defScope s_law_same) (by decide +kernel)) (fun _ => (g_name 2 sc_law_same.nd)) (fun _ => bs_nil) (fun _ => (p_call D_law_same hr (by omega) takes0 (l_cons (p_ix (PP.u (p_var 0)) (PP.u (p_var 2))) (l_cons (p_ix (PP.u (p_var 1)) (PP.u (p_var 2))) l_nil))))))))))))))))
theorem sc_law_led : FnScope ["_law_rows_here", "_law_deeds", "_law_stand", "_law_log", "_law_deed"] ["_law_rows_here", "_law_deeds", "_law_stand", "_law_log"] (defScope s_law_led) := ⟨rfl, rfl, rfl, by decide +kernel, rfl, by decide +kernel, by decide +kernel⟩
theorem ok_law_led {f : Addr} {fd : FuncData} (F : Fun K "_law_led" "_law_led" s_law_led f fd) (T : Txt P K mg C)  : FnOk P w K mg base (L2.CX P w) (0 + 1) f fd ["_law_rows_here", "_law_deeds", "_law_stand", "_law_log"] (spOf K 4 (m_law_led   )) := by
  refine fn_ok F sc_law_led rfl (fun cdv A outer s H E hr => ⟨_, ?_, fun ds kd kx _ hf => hf⟩)
  have tk := takes_of (X := (cxOf (L2.CX P w) P w K mg base ["_law_rows_here", "_law_deeds", "_law_stand", "_law_log", "_law_deed"] "_law_led" (defScope s_law_led) f cdv A outer s H E)) rfl rfl rfl rfl
  have po : PassesOwn (model P w) (cxOf (L2.CX P w) P w K mg base ["_law_rows_here", "_law_deeds", "_law_stand", "_law_log", "_law_deed"] "_law_led" (defScope s_law_led) f cdv A outer s H E).A (cxOf (L2.CX P w) P w K mg base ["_law_rows_here", "_law_deeds", "_law_stand", "_law_log", "_law_deed"] "_law_led" (defScope s_law_led) f cdv A outer s H E).env (cxOf (L2.CX P w) P w K mg base ["_law_rows_here", "_law_deeds", "_law_stand", "_law_log", "_law_deed"] "_law_led" (defScope s_law_led) f cdv A outer s H E).xe := passes_of rfl
  exact (ss_cons (s_for po rfl (i_str (p_var 3)) (g_name 4 sc_law_led.nd)
    (ss_one (s_set 2 (p_ix (PP.u (p_ix (PP.u (p_var 0)) (PP.u (p_var 2)))) (PP.u (p_sindex (PP.u (p_var 1)) (PP.u (p_var 4))))) sc_law_led.nd)))
    (ss_one (s_ret (p_var 2))))
theorem sc_law : FnScope ["_law_script", "_law_bag", "_law_deeds", "_law_many", "_law_tables", "_law_stores", "_law_twin_at", "_law_turn", "_law_which", "_law_stand", "_law_target", "_law_at", "_law_store", "_law_good", "_law_found", "_law_row", "_law_log", "_law_k"] ["_law_script"] (defScope s_law) := ⟨rfl, rfl, rfl, by decide +kernel, rfl, by decide +kernel, by decide +kernel⟩
theorem okM_law {f c Pt : Addr} {kV doc pm ct oc : Value} {an od : Option Addr} {osl : Array (Option Value)} {fs_law_start fs_law_alphabet fs_law_pull fs_law_drawn fs_law_same fs_law_led fs_Store_rows fs_Store___call__ fs_Store___eq__ fs_Store_twin : FS} {fm_Store fm_Store_twin fm_Store___setitem__ fm_Store_change : FSM} {fm_law_rows : FSM} (lk : K.lookup f = some ⟨oc, od, .func (PySem.W.fnOf "law" "law" (defArgs s_law) (defBody s_law) (defScope s_law) .none kV doc pm an (.ref c) ct), osl⟩)
    (hcd : PySem.W.codeIn K (.ref c) "law" = true) (TB : LamX.TabB base mg c Pt) (hT : (Pt, ((("law" : PySem.Str) ++ ".<locals>.") ++ "<lambda>" : PySem.Str)) ∈ Tabl.T) (T : Txt P K mg C) (D_law_start : Df P w K mg base "_law_start" 1 1 fs_law_start) (D_law_alphabet : Df P w K mg base "_law_alphabet" 3 2 fs_law_alphabet) (D_law_pull : Df P w K mg base "_law_pull" 1 2 fs_law_pull) (D_law_drawn : Df P w K mg base "_law_drawn" 3 3 fs_law_drawn) (D_law_same : Df P w K mg base "_law_same" 9 2 fs_law_same) (D_law_led : Df P w K mg base "_law_led" 1 4 fs_law_led) {g_law_ask : Addr} {fd_law_ask : FuncData} (F_law_ask : Fun K "_law_ask" "_law_ask" s_law_ask g_law_ask fd_law_ask) (g_law_ask_is : mg "_law_ask" = some (.ref g_law_ask)) (B_law_ask : Binds K fd_law_ask ["_law_f"] []) (MkM_Store : MkM P w K mg base C.Store 4 2 fm_Store) (MM_Store_twin : MtM P w K mg base C.Store "twin" 6 0 fm_Store_twin) (MM_Store___setitem__ : MtM P w K mg base C.Store "__setitem__" 5 2 fm_Store___setitem__) (MM_Store_change : MtM P w K mg base C.Store "change" 4 3 fm_Store_change) (M_Store_rows : Mt P w K mg base C.Store "rows" 1 0 fs_Store_rows) (M_Store___call__ : Mt P w K mg base C.Store "__call__" 4 2 fs_Store___call__) (M_Store___eq__ : Mt P w K mg base C.Store "__eq__" 1 1 fs_Store___eq__) (M_Store_twin : Mt P w K mg base C.Store "twin" 6 0 fs_Store_twin) (DM_law_rows : DfM P w K mg base "_law_rows" 2 3 fm_law_rows) : FnOk P w K mg base (L2.CX P w) (23 + 1) f (PySem.W.fnOf "law" "law" (defArgs s_law) (defBody s_law) (defScope s_law) .none kV doc pm an (.ref c) ct) ["_law_script"] (spM K 1 (mM_law K C.LogError C.Missing C.InvalidDeed C.InvalidDeeds C.InvalidLog C.InvalidStep C.InvalidStore C.InvalidStand C.InvalidNumber C.InvalidCount C.TooMany C.NothingLeft C.Store fs_law_start fs_law_alphabet fs_law_pull fs_law_drawn fs_law_same fs_law_led fs_Store_rows fs_Store___call__ fs_Store___eq__ fs_Store_twin fm_Store fm_Store_twin fm_Store___setitem__ fm_Store_change fm_law_rows)) := by
  refine fn_okMC lk hcd sc_law rfl (fun A outer s H E hr => ⟨_, ?_, fun ds μ kd kx _ hf => hf⟩)
  have tk := takes_of (X := (cxOf (L2.CX P w) P w K mg base ["_law_script", "_law_bag", "_law_deeds", "_law_many", "_law_tables", "_law_stores", "_law_twin_at", "_law_turn", "_law_which", "_law_stand", "_law_target", "_law_at", "_law_store", "_law_good", "_law_found", "_law_row", "_law_log", "_law_k"] "law" (defScope s_law) f (.ref c) A outer s H E)) rfl rfl rfl rfl
  have po : PassesOwn (model P w) (cxOf (L2.CX P w) P w K mg base ["_law_script", "_law_bag", "_law_deeds", "_law_many", "_law_tables", "_law_stores", "_law_twin_at", "_law_turn", "_law_which", "_law_stand", "_law_target", "_law_at", "_law_store", "_law_good", "_law_found", "_law_row", "_law_log", "_law_k"] "law" (defScope s_law) f (.ref c) A outer s H E).A (cxOf (L2.CX P w) P w K mg base ["_law_script", "_law_bag", "_law_deeds", "_law_many", "_law_tables", "_law_stores", "_law_twin_at", "_law_turn", "_law_which", "_law_stand", "_law_target", "_law_at", "_law_store", "_law_good", "_law_found", "_law_row", "_law_log", "_law_k"] "law" (defScope s_law) f (.ref c) A outer s H E).env (cxOf (L2.CX P w) P w K mg base ["_law_script", "_law_bag", "_law_deeds", "_law_many", "_law_tables", "_law_stores", "_law_twin_at", "_law_turn", "_law_which", "_law_stand", "_law_target", "_law_at", "_law_store", "_law_good", "_law_found", "_law_row", "_law_log", "_law_k"] "law" (defScope s_law) f (.ref c) A outer s H E).xe := passes_of rfl
  have A_law_ask := ask_law_ask (P := P) (w := w) (base := base) T 22
  exact (ssm_cons (sm_of (s_set 1 (p_call D_law_start hr (by decide) tk (l_cons (p_var 0) l_nil)) sc_law.nd))
    (ssm_cons (sm_of (s_asgG (p_tup (l_cons (p_call D_law_alphabet hr (by decide) tk (l_cons (p_var 1) (l_cons p_int l_nil))) (l_cons (p_op o_add (PP.u p_int) (PP.u (p_call D_law_pull hr (by decide) tk (l_cons (p_var 1) (l_cons p_int l_nil))))) l_nil))) (g_tup2 2 3 rfl sc_law.nd)))
    (ssm_cons (sm_set 4 (pm_newL (lm_cons (pm_callM DM_law_rows hr (by decide) tk (lm_of (l_cons (p_var 1) (l_cons (p_var 3) (l_cons (p_b1 c_len T.b_len (by decide +kernel) (PP.u (p_var 2))) l_nil))))) lm_nil)) sc_law.nd)
    (ssm_cons (sm_par2 5 6 rfl sc_law.nd (lm_cons (pm_newL (lm_cons (pm_sub (pm_make MkM_Store hr (by decide) tk T.g_Store (lm_of (l_cons (p_var 2) (l_cons (p_ix (PP.u (p_var 4)) (PP.u p_int)) l_nil))))) lm_nil)) (lm_cons (m_of (p_call D_law_pull hr (by decide) tk (l_cons (p_var 1) (l_cons p_int l_nil)))) lm_nil)))
    (ssm_cons (sm_for po rfl (i_rng1 T.b_range (l_cons p_int l_nil)) (g_name 7 sc_law.nd)
    (ssm_cons (sm_fgt [8, 9, 10, 11, 12, 13, 14, 15, 16, 17] (sm_if (bm_of (b_cmp (o_eq hr.units) (PP.u (p_var 7)) (PP.u (p_var 6))))
    (ssm_cons (sm_app (m_of (p_var 5)) (pm_sub (pm_methP0 (ms := [(C.Store, fm_Store_twin)]) (fun c hc => by (rcases List.mem_cons.mp hc with rfl | hc; exact MM_Store_twin; cases hc)) hr (by decide) tk (m_of (p_ix (PP.u (p_var 5)) (PP.u p_int))))) (fun _ _ po pa => pe_bm PySem.F.plainAttrs_list PySem.F.slot_list_append PySem.F.type_list_append mt_append po (pa_cons pa pa_nil)))
    (ssm_one (sm_app (m_of (p_var 4)) (pm_list T.b_list (by decide +kernel) (pm_ix (m_of (p_var 4)) (m_of p_int))) (fun _ _ po pa => pe_bm PySem.F.plainAttrs_list PySem.F.slot_list_append PySem.F.type_list_append mt_append po (pa_cons pa pa_nil)))))
    ssm_nil))
    (ssm_cons (sm_set 8 (pm_call D_law_pull hr (by decide) tk (lm_cons (m_of (p_var 1)) (lm_cons (pm_len T.b_len (m_of (p_var 5))) lm_nil))) sc_law.nd)
    (ssm_cons (sm_of (s_asgG (p_tup (l_cons (p_call D_law_pull hr (by decide) tk (l_cons (p_var 1) (l_cons (p_op o_add (PP.u (p_var 3)) (PP.u p_int)) l_nil))) (l_cons (p_call D_law_pull hr (by decide) tk (l_cons (p_var 1) (l_cons (p_op o_add (PP.u (p_var 3)) (PP.u p_int)) l_nil))) (l_cons (p_call D_law_pull hr (by decide) tk (l_cons (p_var 1) (l_cons (p_b1 c_len T.b_len (by decide +kernel) (PP.u (p_var 2))) l_nil))) l_nil)))) (g_tup3 9 10 11 rfl sc_law.nd)))
    (ssm_cons (sm_asgG (pm_tup (lm_cons (pm_ix (m_of (p_var 5)) (m_of (p_var 8))) (lm_cons (m_of (p_and (p_cmp o_lt (PP.u (p_var 9)) (PP.u (p_var 3))) (p_one (p_cmp o_lt (PP.u (p_var 10)) (PP.u (p_var 3)))))) lm_nil))) (g_tup2 12 13 rfl sc_law.nd))
    (ssm_cons (sm_if (bm_of (PBw.to (b_and (b_val (p_var 13)) (b_and1 (b_cmp (o_eq hr.units) (PP.u (p_call D_law_pull hr (by decide) tk (l_cons (p_var 1) (l_cons p_int l_nil)))) (PP.u p_int))))))
    (ssm_one (sm_setO (ms := [(C.Store, fm_Store___setitem__)]) (fun c hc => by (rcases List.mem_cons.mp hc with rfl | hc; exact MM_Store___setitem__; cases hc)) (fun c hc => by (rcases List.mem_cons.mp hc with rfl | hc; exact T.ns_Store; cases hc)) hr (by decide) tk (m_of (p_var 12)) (m_of (p_tup (l_cons (p_var 9) (l_cons (p_ix (PP.u (p_var 2)) (PP.u (p_var 11))) l_nil)))) (m_of (p_var 10))))
    (ssm_cons (sm_set 14 (pm_lamcall F_law_ask sc_law_ask g_law_ask_is B_law_ask A_law_ask TB rfl hT (Room.mono hr (by decide)) (kl := 5) (by decide) tk (by show LamX.lamSB (defScope s_law) _ = true; decide +kernel) (fun f c E A outer s H hrl => (pm_meth (ms := [(C.Store, fm_Store_change)]) (fun c hc => by (rcases List.mem_cons.mp hc with rfl | hc; exact MM_Store_change; cases hc)) hrl (by decide) (takes_of rfl rfl rfl rfl) (m_of (p_var 12)) (lm_of (l_cons (p_var 9) (l_cons (p_ix (PP.u (p_var 2)) (PP.u (p_var 11))) (l_cons (p_var 10) l_nil))))))) sc_law.nd)
    (ssm_one (sm_of (s_if (b_cmp (o_ne hr.units) (PP.u (p_var 14)) (PP.u (p_ifExp (b_val (p_var 13)) (p_tup (l_cons (p_str []) (l_cons p_non l_nil))) (p_tup (l_cons (p_str [73, 110, 118, 97, 108, 105, 100, 83, 116, 97, 110, 100]) (l_cons (p_var 3) l_nil))))))
    (ss_one (s_ret p_bl))
    ss_nil)))))
    (ssm_cons (sm_fgt [14] (sm_if (bm_of (b_val (p_var 13)))
    (ssm_cons (sm_set 15 (pm_ix (pm_ix (m_of (p_var 4)) (m_of (p_var 8))) (m_of (p_var 9))) sc_law.nd)
    (ssm_one (sm_setIx (pm_ix (m_of (p_var 4)) (m_of (p_var 8))) (m_of (p_var 9)) (m_of (p_op o_addT (PP.u (p_op o_addT (PP.u (p_slice (PP.u (p_var 15)) s_none (s_some (p_var 11)))) (PP.u (p_tup (l_cons (p_var 10) l_nil))))) (PP.u (p_slice (PP.u (p_var 15)) (s_some (p_op o_add (PP.u (p_var 11)) (PP.u p_int))) s_none)))) (fun po pi pe => ps_asg pe (pg_sub po pi set_list)))))
    ssm_nil))
    (ssm_cons (sm_of (s_set 16 (p_call D_law_drawn hr (by decide) tk (l_cons (p_var 1) (l_cons (p_var 2) (l_cons p_int l_nil)))) sc_law.nd))
    (ssm_cons (sm_fgt [15] (sm_forM po rfl (im_rng1 T.b_range (lm_cons (pm_len T.b_len (m_of (p_var 5))) lm_nil)) (g_name 17 sc_law.nd)
    (ssm_one (sm_if (bm_pur (b_not (b_val (p_call D_law_same hr (by decide) tk (l_cons (p_lst (l_cons (p_meth0 (ms := [(C.Store, fs_Store_rows)]) (fun c hc => by (rcases List.mem_cons.mp hc with rfl | hc; exact M_Store_rows; cases hc)) hr (by decide) tk (p_ix (PP.u (p_var 5)) (PP.u (p_var 17)))) (l_cons (p_callI (ms := [(C.Store, fs_Store___call__)]) (fun c hc => by (rcases List.mem_cons.mp hc with rfl | hc; exact M_Store___call__; cases hc)) (fun c hc => by (rcases List.mem_cons.mp hc with rfl | hc; exact T.fa_Store___call__; cases hc)) hr (by decide) tk (p_ix (PP.u (p_var 5)) (PP.u (p_var 17))) (l_cons p_int (l_cons (p_var 16) l_nil))) l_nil))) (l_cons (p_lst (l_cons (p_ix (PP.u (p_var 4)) (PP.u (p_var 17))) (l_cons (p_call D_law_led hr (by decide) tk (l_cons (p_ix (PP.u (p_var 4)) (PP.u (p_var 17))) (l_cons (p_var 2) (l_cons p_int (l_cons (p_var 16) l_nil))))) l_nil))) l_nil))))))
    (ssm_one (sm_of (s_ret p_bl)))
    ssm_nil))))
    (ssm_one (sm_fgt [17] (sm_if (bm_pur (b_cmp (o_ne hr.units) (PP.u (p_eqI (ms := [(C.Store, fs_Store___eq__)]) (fun c hc => by (rcases List.mem_cons.mp hc with rfl | hc; exact M_Store___eq__; cases hc)) (fun c hc => by (rcases List.mem_cons.mp hc with rfl | hc; exact (fun c hc => by (rcases List.mem_cons.mp hc with rfl | hc; exact T.sub_Store_Store; cases hc)); cases hc)) hr (by decide) (p_ix (PP.u (p_var 5)) (PP.u p_int)) (p_ix (PP.u (p_var 5)) (PP.u (p_neg p_int))))) (PP.u (p_cmp (o_eq hr.units) (PP.u (p_ix (PP.u (p_var 4)) (PP.u p_int))) (PP.u (p_ix (PP.u (p_var 4)) (PP.u (p_neg p_int))))))))
    (ssm_one (sm_of (s_ret p_bl)))
    ssm_nil))))))))))))
    (ssm_one (sm_fgt [7, 8, 9, 10, 11, 12, 13, 14, 15, 16, 17] (sm_ret (pm_pur (p_eqI (ms := [(C.Store, fs_Store___eq__)]) (fun c hc => by (rcases List.mem_cons.mp hc with rfl | hc; exact M_Store___eq__; cases hc)) (fun c hc => by (rcases List.mem_cons.mp hc with rfl | hc; exact (fun c hc => by (rcases List.mem_cons.mp hc with rfl | hc; exact T.sub_Store_Store; cases hc)); cases hc)) hr (by decide) (p_meth0 (ms := [(C.Store, fs_Store_twin)]) (fun c hc => by (rcases List.mem_cons.mp hc with rfl | hc; exact M_Store_twin; cases hc)) hr (by decide) tk (p_ix (PP.u (p_var 5)) (PP.u p_int))) (p_ix (PP.u (p_var 5)) (PP.u p_int))))))))))))
theorem ok_law {f c Pt : Addr} {kV doc pm ct oc : Value} {an od : Option Addr} {osl : Array (Option Value)} {fs_law_start fs_law_alphabet fs_law_pull fs_law_drawn fs_law_same fs_law_led fs_Store_rows fs_Store___call__ fs_Store___eq__ fs_Store_twin : FS} {fm_Store fm_Store_twin fm_Store___setitem__ fm_Store_change : FSM} {fm_law_rows : FSM} (lk : K.lookup f = some ⟨oc, od, .func (PySem.W.fnOf "law" "law" (defArgs s_law) (defBody s_law) (defScope s_law) .none kV doc pm an (.ref c) ct), osl⟩)
    (hcd : PySem.W.codeIn K (.ref c) "law" = true) (TB : LamX.TabB base mg c Pt) (hT : (Pt, ((("law" : PySem.Str) ++ ".<locals>.") ++ "<lambda>" : PySem.Str)) ∈ Tabl.T) (T : Txt P K mg C) (D_law_start : Df P w K mg base "_law_start" 1 1 fs_law_start) (D_law_alphabet : Df P w K mg base "_law_alphabet" 3 2 fs_law_alphabet) (D_law_pull : Df P w K mg base "_law_pull" 1 2 fs_law_pull) (D_law_drawn : Df P w K mg base "_law_drawn" 3 3 fs_law_drawn) (D_law_same : Df P w K mg base "_law_same" 9 2 fs_law_same) (D_law_led : Df P w K mg base "_law_led" 1 4 fs_law_led) {g_law_ask : Addr} {fd_law_ask : FuncData} (F_law_ask : Fun K "_law_ask" "_law_ask" s_law_ask g_law_ask fd_law_ask) (g_law_ask_is : mg "_law_ask" = some (.ref g_law_ask)) (B_law_ask : Binds K fd_law_ask ["_law_f"] []) (MkM_Store : MkM P w K mg base C.Store 4 2 fm_Store) (MM_Store_twin : MtM P w K mg base C.Store "twin" 6 0 fm_Store_twin) (MM_Store___setitem__ : MtM P w K mg base C.Store "__setitem__" 5 2 fm_Store___setitem__) (MM_Store_change : MtM P w K mg base C.Store "change" 4 3 fm_Store_change) (M_Store_rows : Mt P w K mg base C.Store "rows" 1 0 fs_Store_rows) (M_Store___call__ : Mt P w K mg base C.Store "__call__" 4 2 fs_Store___call__) (M_Store___eq__ : Mt P w K mg base C.Store "__eq__" 1 1 fs_Store___eq__) (M_Store_twin : Mt P w K mg base C.Store "twin" 6 0 fs_Store_twin) (DM_law_rows : DfM P w K mg base "_law_rows" 2 3 fm_law_rows) : FnOk P w K mg base (L2.CX P w) (23 + 1) f (PySem.W.fnOf "law" "law" (defArgs s_law) (defBody s_law) (defScope s_law) .none kV doc pm an (.ref c) ct) ["_law_script"] (spOf K 1 (m_law K C.LogError C.Missing C.InvalidDeed C.InvalidDeeds C.InvalidLog C.InvalidStep C.InvalidStore C.InvalidStand C.InvalidNumber C.InvalidCount C.TooMany C.NothingLeft C.Store fs_law_start fs_law_alphabet fs_law_pull fs_law_drawn fs_law_same fs_law_led fs_Store_rows fs_Store___call__ fs_Store___eq__ fs_Store_twin fm_Store fm_Store_twin fm_Store___setitem__ fm_Store_change fm_law_rows)) :=
  (okM_law lk hcd TB hT T D_law_start D_law_alphabet D_law_pull D_law_drawn D_law_same D_law_led F_law_ask g_law_ask_is B_law_ask MkM_Store MM_Store_twin MM_Store___setitem__ MM_Store_change M_Store_rows M_Store___call__ M_Store___eq__ M_Store_twin DM_law_rows).imp fun _ _ _ _ => spM_of
end
end K23
set_option Elab.async false
set_option linter.all false
set_option maxRecDepth 100000
set_option maxHeartbeats 4000000
namespace PL
open PySem L2 MU
local instance : Tabl := ⟨[], fun p hp => absurd hp (by simp)⟩
/-- rows of a store, each at its place -/
def RowsAt (μ : Mu) : List Addr → List (List Int) → Prop
  | [], [] => True
  | q :: qs, r :: rs => (q, Lo.d (.lst (lstI r))) ∈ μ ∧ RowsAt μ qs rs
  | _, _ => False
def stF (al : List Nat) (t : Addr) : List (PySem.Str × D) := [(("own_deeds" : PySem.Str), .str al), (("table" : PySem.Str), .cls t)]
structure StAt (CS : Addr) (μ : Mu) (al : List Nat) (rs : List (List Int)) (p t : Addr) (qs : List Addr) : Prop where
  hp : (p, Lo.d (.ins CS (stF al t))) ∈ μ
  ht : (t, Lo.d (.lst (qs.map D.cls))) ∈ μ
  hq : RowsAt μ qs rs
section
variable {CS : Addr} {μ μ' : Mu} {al : List Nat} {rs : List (List Int)} {p t q : Addr} {qs : List Addr} {l : Lo}
theorem RowsAt.len : ∀ {qs : List Addr} {rs : List (List Int)}, RowsAt μ qs rs → qs.length = rs.length
  | [], [], _ => rfl
  | _ :: _, _ :: _, h => congrArg (· + 1) h.2.len
  | [], _ :: _, h => h.elim
  | _ :: _, [], h => h.elim
theorem RowsAt.mono (s : ∀ e ∈ μ, e ∈ μ') : ∀ {qs : List Addr} {rs : List (List Int)}, RowsAt μ qs rs → RowsAt μ' qs rs
  | [], [], _ => trivial
  | _ :: _, _ :: _, h => ⟨s _ h.1, h.2.mono s⟩
  | [], _ :: _, h => h.elim
  | _ :: _, [], h => h.elim
theorem RowsAt.other : ∀ {qs : List Addr} {rs : List (List Int)}, RowsAt μ qs rs → q ∉ qs → RowsAt (mset μ q l) qs rs
  | [], [], _, _ => trivial
  | _ :: _, _ :: _, h, n => ⟨mset_other h.1 fun z => n (by rw [← z]; exact List.mem_cons_self), h.2.other fun z => n (List.mem_cons_of_mem _ z)⟩
  | [], _ :: _, h, _ => h.elim
  | _ :: _, [], h, _ => h.elim
theorem RowsAt.at_ : ∀ {qs : List Addr} {rs : List (List Int)} {i : Nat}, RowsAt μ qs rs → i < rs.length → ∃ q r, qs[i]? = some q ∧ rs[i]? = some r ∧ (q, Lo.d (.lst (lstI r))) ∈ μ
  | [], [], _, _, h => absurd h (Nat.not_lt_zero _)
  | q :: _, r :: _, 0, h, _ => ⟨q, r, rfl, rfl, h.1⟩
  | _ :: _, _ :: _, i + 1, h, hi => h.2.at_ (i := i) (by simpa using hi)
  | [], _ :: _, _, h, _ => h.elim
  | _ :: _, [], _, h, _ => h.elim
theorem RowsAt.set {r : List Int} : ∀ {qs : List Addr} {rs : List (List Int)} {i : Nat}, qs.Nodup → qs[i]? = some q → RowsAt μ qs rs → RowsAt (mset μ q (.d (.lst (lstI r)))) qs (rs.set i r)
  | [], [], _, _, e, _ => by simp at e
  | q0 :: qs, r0 :: rs, 0, n, e, h => by
    cases Option.some.inj e
    exact ⟨mset_get h.1, h.2.other (List.nodup_cons.mp n).1⟩
  | q0 :: qs, r0 :: rs, i + 1, n, e, h => by
    have e' : qs[i]? = some q := by simpa using e
    refine ⟨mset_other h.1 fun z => (List.nodup_cons.mp n).1 (by
      have : q0 = q := z
      rw [this]
      exact List.mem_of_getElem? e'), h.2.set (List.nodup_cons.mp n).2 e'⟩
  | [], _ :: _, _, _, _, h => h.elim
  | _ :: _, [], _, _, _, h => h.elim
theorem RowsAt.snoc {r : List Int} (e : (q, Lo.d (.lst (lstI r))) ∈ μ) : ∀ {qs : List Addr} {rs : List (List Int)}, RowsAt μ qs rs → RowsAt μ (qs ++ [q]) (rs ++ [r])
  | [], [], _ => ⟨e, trivial⟩
  | _ :: _, _ :: _, h => ⟨h.1, h.2.snoc e⟩
  | [], _ :: _, h => h.elim
  | _ :: _, [], h => h.elim
theorem purL_refl : ∀ ds : List D, PurL μ ds ds
  | [] => .nil
  | d :: ds => .cons (.keep d) (purL_refl ds)
theorem RowsAt.pur : ∀ {qs : List Addr} {rs : List (List Int)}, RowsAt μ qs rs → PurL μ (qs.map D.cls) (rs.map fun r => .lst (lstI r))
  | [], [], _ => .nil
  | _ :: _, _ :: _, h => .cons (.lst h.1 (purL_refl _)) h.2.pur
  | [], _ :: _, h => h.elim
  | _ :: _, [], h => h.elim
theorem StAt.pur (s : StAt CS μ al rs p t qs) : Pur μ (.cls p) (stoD CS al rs) := .ins s.hp (.cons (.keep _) (.cons (.lst s.ht s.hq.pur) .nil))
theorem StAt.mono (s : StAt CS μ al rs p t qs) (h : ∀ e ∈ μ, e ∈ μ') : StAt CS μ' al rs p t qs := ⟨h _ s.hp, h _ s.ht, s.hq.mono h⟩
theorem StAt.other (s : StAt CS μ al rs p t qs) (n : q ∉ p :: t :: qs) : StAt CS (mset μ q l) al rs p t qs :=
  ⟨mset_other s.hp fun z => n (by rw [← z]; exact List.mem_cons_self), mset_other s.ht fun z => n (by rw [← z]; exact List.mem_cons_of_mem _ List.mem_cons_self), s.hq.other fun z => n (List.mem_cons_of_mem _ (List.mem_cons_of_mem _ z))⟩
theorem StAt.set {r : List Int} {i : Nat} (s : StAt CS μ al rs p t qs) (n : (p :: t :: qs).Nodup) (e : qs[i]? = some q) : StAt CS (mset μ q (.d (.lst (lstI r)))) al (rs.set i r) p t qs := by
  have m := List.mem_of_getElem? e
  obtain ⟨n1, n2⟩ := List.nodup_cons.mp n
  obtain ⟨n3, n4⟩ := List.nodup_cons.mp n2
  refine ⟨mset_other s.hp fun z => n1 ?_, mset_other s.ht fun z => n3 ?_, s.hq.set n4 e⟩
  · have z : p = q := z
    rw [z]
    exact List.mem_cons_of_mem _ m
  · have z : t = q := z
    rw [z]
    exact m
end
/-- what a new store brings -/
structure NewSt (CS : Addr) (al : List Nat) (rs : List (List Int)) (p t : Addr) (qs : List Addr) (μ : Mu) : Prop where
  st : StAt CS μ al rs p t qs
  nd : (p :: t :: qs).Nodup
  kin : ∀ e ∈ μ, e.1 ∈ p :: t :: qs
  fl : (μ.all fun e => flatLo e.2) = true
def fsStoM (CS : Addr) : FSM := fun ds μ k _ => match ds with
  | [.cls p, .str al, d] => ∃ rs : List (List Int), (μ = [(p, .d (.ins CS []))] ∧ isSq d (rs.map fun r => .tup (lstI r)) ∧ StG al rs) ∧ ∀ t qs μ', NewSt CS al rs p t qs μ' → k .non μ'
  | _ => False
def fsTwin (CS : Addr) : FS := fun ds k _ => match ds with
  | [d] => ∃ al rs, (d = stoD CS al rs ∧ StG al rs) ∧ k (stoD CS al rs)
  | _ => False
def fsTwinM (CS : Addr) : FSM := fun ds μ k _ => match ds with
  | [d] => ∃ al rs, (μ = [] ∧ d = stoD CS al rs ∧ StG al rs) ∧ ∀ p t qs μ', NewSt CS al rs p t qs μ' → k (.cls p) μ'
  | _ => False
def fsChgM (CS CN : Addr) : FSM := fun ds μ k kx => match ds with
  | [.cls p, .int a, .str [c], .int b] => ∃ al rs t qs, ∃ s u : Nat, (a = (s : Int) ∧ b = (u : Int) ∧ StAt CS μ al rs p t qs ∧ StG al rs ∧ c ∈ al) ∧
      (s < rs.length → u < rs.length → ∀ q r, qs[s]? = some q → rs[s]? = some r → k .non (mset μ q (.d (.lst (lstI (r.set (idxR al c) (u : Int))))))) ∧
      (¬ s < rs.length → kx (inX CN (.int (s : Nat))) μ) ∧ (s < rs.length → ¬ u < rs.length → kx (inX CN (.int (u : Nat))) μ)
  | _ => False
def fsSetM (CS CN : Addr) : FSM := fun ds μ k kx => match ds with
  | [p, .tup [a, c], b] => fsChgM CS CN [p, a, c, b] μ k kx
  | _ => False
def fsLRowsM : FSM := fun ds μ k _ => match ds with
  | [.bag, .int m, .int w] => ∃ n v : Nat, (m = (n : Nat) ∧ w = (v : Nat) ∧ 1 ≤ n ∧ n ≤ 120 ∧ v ≤ 100) ∧ ∀ rs q, Tab n v rs → (∀ e ∈ μ, e.1 ≠ q) → k (.cls q) ((q, .d (rowsD rs)) :: μ)
  | _ => False
section
variable {P : PEnM} {Γ : Ga} {μ : Mu} {s : TSp} {u : TSM} {t : TP} {d : D}
theorem em_drop (h : Ev t Γ d) (n : u P Γ μ) : tsmSeq (tsmOf (tsDrop t)) u P Γ μ := h _ _ n
theorem em_setN {i : Nat} {A : D → Prop} (h : EvN t Γ A) (n : ∀ d, A d → u P (gset Γ i (.pu d)) μ) : tsmSeq (tsmOf (tsSet i t)) u P Γ μ := h _ _ fun d hd => n d hd
theorem em_asgN {g : TGp} {A : D → Prop} (h : EvN t Γ A) (n : ∀ d, A d → g d Γ fun Γ' => u P Γ' μ) : tsmSeq (tsmOf (tsAsgG t g)) u P Γ μ := h _ _ fun d hd => n d hd
def EvM (t : MU.TM) (Γ : Ga) (μ : Mu) (d : D) (μ' : Mu) : Prop := ∀ (k : KDM) (kx : KXM), k d μ' → t Γ μ k kx
def EvMN (t : MU.TM) (Γ : Ga) (μ : Mu) (A : D → Mu → Prop) : Prop := ∀ (k : KDM) (kx : KXM), (∀ d μ', A d μ' → k d μ') → t Γ μ k kx
theorem evm_of (h : Ev t Γ d) : EvM (tmOf t) Γ μ d μ := fun k kx z => h _ _ z
theorem evmn {tm : MU.TM} {μ' : Mu} (h : EvM tm Γ μ d μ') : EvMN tm Γ μ fun x m => x = d ∧ m = μ' := fun k kx z => h _ _ (z _ _ ⟨rfl, rfl⟩)
theorem em_list {tm : MU.TM} {μ1 : Mu} {k : KDM} {kx : KXM} {ds : List D} (h : EvM tm Γ μ d μ1) (q : quiet Γ = true) (hd : (∃ q, d = .cls q ∧ (q, Lo.d (.lst ds)) ∈ μ1) ∨ d = .lst ds ∨ d = .tup ds) (n : ∀ q, (∀ e ∈ μ1, e.1 ≠ q) → k (.cls q) ((q, .d (.lst ds)) :: μ1)) : tmList tm Γ μ k kx := h _ _ ⟨q, ds, hd, n⟩
end
section
variable {ds : List D} {k : KDM} {kx : KXM} {kd : KD} {kxp : KX} {CS CN CE CD CI CT CL : Addr} {μ : Mu}
theorem lcN_go {i : Nat} {te : MU.TM} {Dd : Addr} {Γ : Ga} {d : D} {r : List D} {K : Mu → Prop} (h : te (gset Γ i (.pu d)) μ (fun y μ1 => quiet (gset Γ i (.pu d)) = true ∧ ∃ ys, (Dd, Lo.d (.lst ys)) ∈ μ1 ∧ ys.length < 100000 ∧ lcN (tgName i) tbYes te Dd Γ r (mset μ1 Dd (.d (.lst (ys ++ [y])))) K) (fun _ _ => False)) : lcN (tgName i) tbYes te Dd Γ (d :: r) μ K := by
  unfold lcN
  exact h
theorem nd1 (a : Addr) : [a].Nodup := List.nodup_cons.mpr ⟨fun z => (nomatch z), List.nodup_nil⟩
/-- the new rows, one by one -/
theorem sto_loop {p t : Addr} {G : Ga} {K : Mu → Prop} {C : D} (g1 : ∀ x, gat (gset G 3 x) 3 = x) (g2 : ∀ x, quiet (gset G 3 (.pu x)) = true) (ne : t ≠ p) : ∀ (l acc : List (List Int)) (qs : List Addr) (μ : Mu), acc.length + l.length ≤ 120 →
    ((p, Lo.d C) ∈ μ ∧ (t, Lo.d (.lst (qs.map D.cls))) ∈ μ ∧ RowsAt μ qs acc ∧ (p :: t :: qs).Nodup ∧ (∀ e ∈ μ, e.1 ∈ p :: t :: qs) ∧ ((μ.all fun e => flatLo e.2) = true)) →
    (∀ qs' μ', ((p, Lo.d C) ∈ μ' ∧ (t, Lo.d (.lst (qs'.map D.cls))) ∈ μ' ∧ RowsAt μ' qs' (acc ++ l) ∧ (p :: t :: qs').Nodup ∧ (∀ e ∈ μ', e.1 ∈ p :: t :: qs') ∧ ((μ'.all fun e => flatLo e.2) = true)) → K μ') →
    lcN (tgName 3) tbYes (tmList (tmOf (tpVar 3))) t G (l.map fun r => .tup (lstI r)) μ K
  | [], acc, qs, μ, _, h, hk => by
    rw [List.append_nil] at hk
    exact hk qs μ h
  | r :: l, acc, qs, μ, hz, ⟨h1, h2, h3, h4, h5, h6⟩, hk => by
    rw [List.length_cons] at hz
    rw [List.map_cons]
    refine lcN_go ?_
    refine em_list (evm_of (ev_var (i := 3) (d := .tup (lstI r)) (g1 _))) (g2 _) (ds := lstI r) (.inr (.inr rfl)) fun q hq => ⟨g2 _, qs.map D.cls, List.mem_cons_of_mem _ h2, by rw [List.length_map, h3.len]; omega, ?_⟩
    have hqp : q ≠ p := fun z => hq _ h1 z.symm
    have hqt : q ≠ t := fun z => hq _ h2 z.symm
    have hqq : q ∉ qs := fun z => by
      obtain ⟨i, hi⟩ := List.getElem?_of_mem z
      have hl : i < acc.length := by rw [← h3.len]; exact (List.getElem?_eq_some_iff.mp hi).1
      obtain ⟨q', r', e1, _, e3⟩ := h3.at_ hl
      rw [hi] at e1
      cases Option.some.inj e1
      exact hq _ e3 rfl
    have e0 : qs.map D.cls ++ [D.cls q] = (qs ++ [q]).map D.cls := by rw [List.map_append]; rfl
    rw [e0]
    obtain ⟨n1, n2⟩ := List.nodup_cons.mp h4
    obtain ⟨n3, n4⟩ := List.nodup_cons.mp n2
    have tq : t ∉ qs := n3
    refine sto_loop g1 g2 ne l (acc ++ [r]) (qs ++ [q]) _ (by rw [List.length_append]; show acc.length + 1 + l.length ≤ 120; omega) ⟨mset_other (List.mem_cons_of_mem _ h1) fun z => ne z.symm, mset_get (List.mem_cons_of_mem _ h2), ?_, ?_, ?_, ?_⟩ fun qs' μ' h' => hk qs' μ' (by rw [List.append_assoc] at h'; exact h')
    · exact RowsAt.snoc (mset_other List.mem_cons_self hqt) ((h3.mono fun e he => List.mem_cons_of_mem _ he).other tq)
    · have : (p :: t :: (qs ++ [q])) = (p :: t :: qs) ++ [q] := rfl
      rw [this, List.nodup_append]
      refine ⟨h4, nd1 _, fun a ha b hb => ?_⟩
      rw [List.mem_singleton.mp hb]
      intro z
      rw [z] at ha
      rcases List.mem_cons.mp ha with e | ha
      · exact hqp e
      · rcases List.mem_cons.mp ha with e | ha
        · exact hqt e
        · exact hqq ha
    · intro e he
      have sub : ∀ x, x ∈ p :: t :: qs → x ∈ p :: t :: (qs ++ [q]) := fun x hx => by
        have : (p :: t :: (qs ++ [q])) = (p :: t :: qs) ++ [q] := rfl
        rw [this]
        exact List.mem_append_left _ hx
      rcases mset_mem he with ⟨rfl, _⟩ | ⟨he, _⟩
      · exact List.mem_cons_of_mem _ List.mem_cons_self
      · rcases List.mem_cons.mp he with rfl | he
        · exact List.mem_cons_of_mem _ (List.mem_cons_of_mem _ (List.mem_append_right _ List.mem_cons_self))
        · exact sub _ (h5 e he)
    · rw [List.all_eq_true] at h6 ⊢
      intro e he
      rcases mset_mem he with ⟨rfl, _⟩ | ⟨he, _⟩
      · show ((qs ++ [q]).map D.cls).all MU.flatD = true
        rw [List.all_eq_true]
        intro x hx
        obtain ⟨a, _, rfl⟩ := List.mem_map.mp hx
        rfl
      · rcases List.mem_cons.mp he with rfl | he
        · show (lstI r).all MU.flatD = true
          rw [List.all_eq_true]
          intro x hx
          obtain ⟨a, _, rfl⟩ := List.mem_map.mp hx
          rfl
        · exact h6 e he
theorem stoM_ok' : fsStoM CS ds μ k kx → mM_Store___init__ CS (fsNeedDsX CD) fsNeedRowsG ds μ k kx := by
  intro h0
  match ds, h0 with
  | [.cls p, .str al, d], ⟨rs, ⟨e, hd, g⟩, h⟩ =>
    subst e
    have a8 := g.ok.2.1
    have l2 := g.l2
    let G : Ga := [.pu (.cls p), .pu (.str al), .pu d, .un]
    refine em_drop (Γ := G) (ev_call (evl_1 (ev_var (d := .str al) rfl)) rfl fun k kx z => ⟨goodL_of g.ok, .inl ⟨al, rfl, g.ok, z⟩⟩) ?_
    refine em_drop (Γ := G) (ev_call (evl_2 (ev_var (i := 2) (d := d) rfl) (ev_lenS (ev_var (i := 1) (d := .str al) rfl) (Nat.le_trans a8 (by decide)))) rfl fun k kx z => ⟨rs, al.length, ⟨hd, rfl, g.tab, g.l1, l2, by omega⟩, z⟩) ?_
    refine ⟨rfl, p, CS, [], rfl, List.mem_cons_self, List.mem_cons_self, by show 0 < 900; decide, ?_⟩
    have e1 : mset [(p, Lo.d (.ins CS []))] p (.d (.ins CS (putFD "own_deeds" (.str al) []))) = [(p, Lo.d (.ins CS [(("own_deeds" : PySem.Str), .str al)]))] := by
      unfold mset
      rw [List.map_cons, if_pos rfl]
      rfl
    rw [e1]
    refine ⟨rfl, rfl, ?_⟩
    have sq : EvL (tiSq (tpVar 2)) G (rs.map fun r => .tup (lstI r)) := evl_tiSq (ev_var (d := d) rfl) hd
    refine sq _ _ fun t ht => ?_
    have ne : t ≠ p := fun z => ht _ List.mem_cons_self z.symm
    refine sto_loop (G := wipeG G [3]) (p := p) (C := .ins CS [(("own_deeds" : PySem.Str), .str al)]) (fun _ => rfl) (fun _ => rfl) ne rs [] [] _ (by show 0 + rs.length ≤ 120; omega) ⟨List.mem_cons_of_mem _ List.mem_cons_self, List.mem_cons_self, trivial, ?_, ?_, rfl⟩ fun qs μ' h' => ?_
    · exact List.nodup_cons.mpr ⟨fun z => ne (List.mem_singleton.mp z).symm, nd1 _⟩
    · intro e he
      rcases List.mem_cons.mp he with rfl | he
      · exact List.mem_cons_of_mem _ List.mem_cons_self
      · rw [List.mem_singleton.mp he]
        exact List.mem_cons_self
    · obtain ⟨h1, h2, h3, h4, h5, h6⟩ := h'
      refine ⟨rfl, p, CS, _, rfl, h1, List.mem_cons_self, by show 1 < 900; decide, h t qs _ ⟨⟨mset_get h1, mset_other h2 ne, ?_⟩, h4, ?_, ?_⟩⟩
      · exact h3.other fun z => (List.nodup_cons.mp h4).1 (List.mem_cons_of_mem _ z)
      · intro e he
        rcases mset_mem he with ⟨rfl, _⟩ | ⟨he, _⟩
        · exact List.mem_cons_self
        · exact h5 e he
      · rw [List.all_eq_true] at h6 ⊢
        intro e he
        rcases mset_mem he with ⟨rfl, _⟩ | ⟨he, _⟩
        · rfl
        · exact h6 e he
end
end PL
set_option Elab.async false
set_option linter.all false
set_option maxRecDepth 100000
set_option maxHeartbeats 4000000
namespace PL
open PySem L2
section
variable {ds : List D} {kd : KD} {kx : KX} {CS : Addr} {Γ : Ga} {tl : TL} {t ta tb tf : TP} {d e y : D} {P : PEn} {s u r : TSp} {i n : Nat} {al : List Nat} {rs : List (List Int)} {x : XD} {KK : PySem.W.Frag} {C0 C1 C2 C3 C4 C5 C6 C7 C8 C9 C10 C11 C : Addr} {fs : List (PySem.Str × D)} {ms : List (Addr × FS)} {f : FS}
local instance : Tabl := ⟨[], fun p hp => absurd hp (by simp)⟩
theorem sameV {a b : D} (h : Ev ta Γ a) (g : Ev tb Γ b) (e : a = b) (ho : okS 8 a) : Ev (tpCall 2 (fsSame 9) (tlCons ta (tlCons tb tlNil))) Γ (.bl true) := ev_call (evl_2 h g) rfl fun k kx z => ⟨e, ho, z⟩
end
end PL
set_option Elab.async false
set_option linter.all false
set_option maxRecDepth 100000
set_option maxHeartbeats 4000000
namespace PL
open PySem L2
section
variable {ds : List D} {kd : KD} {kx : KX} {CS CN CE CL CI CT CD CC : Addr} {Γ : Ga} {t ta tb : TP} {tl : TL} {d : D} {al : List Nat} {rs : List (List Int)} {P : PEn} {w : Int} {v : Nat} {u : TSp}
local instance : Tabl := ⟨[], fun p hp => absurd hp (by simp)⟩
theorem rows_eqG : ∀ {a b : List (List Int)}, eqD (rowsD a) (rowsD b) = decide (a = b) := by
  have itz : ∀ (a b : List Int), eqD (.tup (lstI a)) (.tup (lstI b)) = decide (a = b) := fun a => by
    induction a with
    | nil => intro b; cases b <;> rfl
    | cons x a ih =>
      intro b
      cases b with
      | nil => rfl
      | cons y b =>
        show (eqD (.int x) (.int y) && eqD (.tup (lstI a)) (.tup (lstI b))) = _
        rw [ih]
        show (decide (x = y) && decide (a = b)) = decide (x :: a = y :: b)
        by_cases h : x = y <;> by_cases g : a = b <;> simp [h, g]
  intro a
  induction a with
  | nil => intro b; cases b <;> rfl
  | cons x a ih =>
    intro b
    cases b with
    | nil => rfl
    | cons y b =>
      show (eqD (.tup (lstI x)) (.tup (lstI y)) && eqD (rowsD a) (rowsD b)) = _
      rw [itz, ih]
      by_cases h : x = y <;> by_cases g : a = b <;> simp [h, g]
theorem rows_plG (rs : List (List Int)) : D.plain (rowsD rs) = true := by
  have : ∀ rs : List (List Int), D.plainL (rs.map fun r => .tup (lstI r)) = true := fun rs => by
    induction rs with
    | nil => rfl
    | cons r rs ih =>
      show (D.plainL (lstI r) && D.plainL (rs.map fun r => .tup (lstI r))) = true
      rw [plL, ih]
      rfl
  exact this rs
theorem rows_dpG (rs : List (List Int)) : D.dep (rowsD rs) ≤ 64 := by
  have : ∀ rs : List (List Int), D.depL (rs.map fun r => .tup (lstI r)) ≤ 61 := fun rs => by
    induction rs with
    | nil => exact Nat.zero_le _
    | cons r rs ih => exact Nat.max_le.mpr ⟨Nat.succ_le_succ (dpLI r), ih⟩
  exact Nat.le_trans (Nat.succ_le_succ (this rs)) (by decide)
theorem ev_eqRows {a b : List (List Int)} (h : Ev ta Γ (rowsD a)) (g : Ev tb Γ (rowsD b)) : Ev (tpOp fEq ta tb) Γ (.bl (decide (a = b))) := ev_op h g fun k z => ⟨⟨rows_plG a, rows_plG b, rows_dpG a, rows_dpG b⟩, by rw [rows_eqG]; exact z⟩
theorem okS_rows {n : Nat} (h : rs.length ≤ 120) (hw : ∀ r ∈ rs, r.length ≤ 100) : okS (n + 3) (rowsD rs) := by
  have a : ∀ l : List Int, okSL (n + 1) (lstI l) := fun l => by
    induction l with
    | nil => trivial
    | cons x l ih => exact ⟨trivial, ih⟩
  have b : ∀ l : List (List Int), (∀ r ∈ l, r.length ≤ 100) → okSL (n + 2) (l.map fun r => .tup (lstI r)) := fun l => by
    induction l with
    | nil => intro _; trivial
    | cons x l ih => exact fun hl => ⟨⟨by show (lstI x).length ≤ _; rw [List.length_map]; exact Nat.le_trans (hl x List.mem_cons_self) (by decide), a x⟩, ih fun r hr => hl r (List.mem_cons_of_mem _ hr)⟩
  exact ⟨by show (rs.map _).length ≤ _; rw [List.length_map]; omega, b rs hw⟩
theorem stG_okS {n : Nat} (g : StG al rs) : okS (n + 3) (rowsD rs) := okS_rows g.l2 fun r hr => by
  rw [g.tab.hw r hr]
  exact Nat.le_trans g.ok.2.1 (by decide)
theorem ev_eqSt {al2 : List Nat} {rs2 : List (List Int)} (h : Ev ta Γ (stoD CS al rs)) (g : Ev tb Γ (stoD CS al2 rs2)) (a1 : okA al) (a2 : okA al2) (l1 : rs.length ≤ 120) (l2 : rs2.length ≤ 120) : Ev (tpOp (fEqI [(CS, fsEqG CS)]) ta tb) Γ (.bl (decide (al = al2 ∧ rs = rs2))) := ev_op h g fun k z =>
  ⟨⟨_, List.mem_cons_self, al, rs, ⟨rfl, a1, l1⟩, .inl ⟨al2, rs2, ⟨rfl, a2, l2⟩, ⟨_, rfl⟩, z⟩⟩, _, List.mem_cons_self, al2, rs2, ⟨rfl, a2, l2⟩, .inl ⟨al, rs, ⟨rfl, a1, l1⟩, ⟨_, rfl⟩, by
    have e : decide (al2 = al ∧ rs2 = rs) = decide (al = al2 ∧ rs = rs2) := by
      by_cases x : al = al2 <;> by_cases y : rs = rs2 <;> simp [x, y, eq_comm]
    rw [e]
    exact z⟩⟩
theorem ev_mkSt (h : Ev ta Γ (.str al)) (g : Ev tb Γ (rowsD rs)) (s : StG al rs) : Ev (tpMake CS (fsStoG CS) 2 (tlCons ta (tlCons tb tlNil))) Γ (stoD CS al rs) := ev_make (evl_2 h g) rfl fun k kx z => ⟨rs, ⟨rfl, .inl rfl, s⟩, z⟩
theorem ev_rws (h : Ev t Γ (stoD CS al rs)) (l : rs.length ≤ 120) : Ev (tpMeth [(CS, fsRows CS)] "rows" 0 t tlNil) Γ (rowsD rs) := ev_meth h rfl List.mem_cons_self evl_nil rfl fun k kx z => ⟨al, rs, ⟨rfl, by omega⟩, z⟩
end
end PL
set_option Elab.async false
set_option linter.all false
set_option maxRecDepth 100000
set_option maxHeartbeats 4000000
namespace PL
open PySem L2 MU
local instance : Tabl := ⟨[], fun p hp => absurd hp (by simp)⟩
section
variable {P : PEnM} {Γ Γ' : Ga} {μ μ1 : Mu} {s : TSp} {u : TSM} {t : TP} {tl : TL} {d : D} {ds : List D} {k : KDM} {kx : KXM} {x : XD}
theorem em_pur (h : Ev t Γ' d) (q : quiet Γ = true) (p : PurG μ Γ Γ') (f : MU.flatD d = true) : EvM (tmPur t) Γ μ d μ := fun k kx z => ⟨q, Γ', p, h _ _ ⟨f, z⟩⟩
theorem em_purX (h : EvX t Γ' x) (q : quiet Γ = true) (p : PurG μ Γ Γ') (f : flatX x = true) (z : kx x μ) : tmPur t Γ μ k kx := ⟨q, Γ', p, h _ _ ⟨f, z⟩⟩
theorem em_dropM {t : MU.TM} (h : EvM t Γ μ d μ1) (n : u P Γ μ1) : tsmSeq (tsmDrop t) u P Γ μ := h _ _ n
theorem em_make {C : Addr} {fs : FSM} {n : Nat} (h : EvL tl Γ ds) (q : quiet Γ = true) (hl : ds.length = n) (f : ∀ p, (∀ e ∈ μ, e.1 ≠ p) → fs (.cls p :: ds) ((p, .d (.ins C [])) :: μ) (fun d μ2 => d = .non ∧ k (.cls p) μ2) kx) : tmMake C fs n (tlmOf tl) Γ μ k kx := h _ _ ⟨q, hl, f⟩
theorem em_fld {C : Addr} {cs : List Addr} {p : Addr} {fs : List (PySem.Str × D)} {t : MU.TM} {f : PySem.Str} {y : D} (h : EvM t Γ μ (.cls p) μ) (hm : (p, Lo.d (.ins C fs)) ∈ μ) (hC : C ∈ cs) (hf : fs.lookup f = some y) : EvM (tmFld cs f t) Γ μ y μ := fun k kx z => h _ _ ⟨p, C, fs, y, rfl, hm, hC, hf, z⟩
theorem em_ix {ta tb : MU.TM} {q : Addr} {i : Nat} {y : D} (h : EvM ta Γ μ (.cls q) μ) (g : EvM tb Γ μ (.int (i : Nat)) μ) (hm : (q, Lo.d (.lst ds)) ∈ μ) (hy : ds[i]? = some y) : EvM (tmIx ta tb) Γ μ y μ := fun k kx z => h _ _ ⟨q, rfl, g _ _ ⟨i, ds, y, rfl, hm, by
  have hl := (List.getElem?_eq_some_iff.mp hy).1
  rw [at_nat ds i hl]
  rw [List.getElem?_eq_getElem hl] at hy
  exact hy, z⟩⟩
theorem em_call2 {f : FS} {ta tb : MU.TM} {a b : D} (h : EvM ta Γ μ a μ) (g : EvM tb Γ μ b μ) (hf : ∀ (k : KD) kx, k d → f [a, b] k kx) : EvM (tmCall 2 f (tlmCons ta (tlmCons tb tlmNil))) Γ μ d μ := fun k kx z => h _ _ (g _ _ ⟨rfl, hf _ _ z⟩)
theorem mset_new {q : Addr} {l l' : Lo} (h : ∀ e ∈ μ, e.1 ≠ q) : mset ((q, l) :: μ) q l' = (q, l') :: μ := by
  unfold mset
  rw [List.map_cons, if_pos rfl]
  congr 1
  refine (List.map_congr_left fun e he => if_neg (h e he)).trans (List.map_id _)
theorem lcN_map {f : D → D} {te : TP} {i : Nat} {Γ : Ga} {q : Addr} {K : Mu → Prop} (hq : ∀ x, quiet (gset Γ i (.pu x)) = true) (hf : ∀ e ∈ μ, e.1 ≠ q) : ∀ (ds acc : List D), (∀ x ∈ ds, Ev te (gset Γ i (.pu x)) (f x)) → acc.length + ds.length ≤ 1000 → K ((q, .d (.lst (acc ++ ds.map f))) :: μ) → lcN (tgName i) tbYes (tmOf te) q Γ ds ((q, .d (.lst acc)) :: μ) K
  | [], acc, _, _, h => by
    rw [List.map_nil, List.append_nil] at h
    exact h
  | x :: ds, acc, he, hz, h => by
    rw [List.length_cons] at hz
    refine lcN_go (he x List.mem_cons_self _ _ ⟨hq _, acc, List.mem_cons_self, by omega, ?_⟩)
    rw [mset_new hf]
    refine lcN_map hq hf ds (acc ++ [f x]) (fun y hy => he y (List.mem_cons_of_mem _ hy)) (by rw [List.length_append]; show acc.length + 1 + ds.length ≤ 1000; omega) ?_
    rw [List.append_assoc]
    exact h
end
section
variable {ds : List D} {k : KDM} {kx : KXM} {kd : KD} {kxp : KX} {CS CN CE CD CI CT CL : Addr} {μ : Mu}
theorem twin_ok' : fsTwin CS ds kd kxp → m_Store_twin CS (fsRows CS) (fsStoG CS) ds kd kxp := by
  intro h0
  match ds, h0 with
  | [d], ⟨al, rs, ⟨e, g⟩, h⟩ =>
    subst e
    let G : Ga := [.pu (stoD CS al rs)]
    have v0 : Ev (tpVar 0) G (stoD CS al rs) := ev_var rfl
    exact st_ret (Γ := G) (ev_mkSt (ev_ownd v0) (ev_rws v0 g.l2) g) h
theorem twinM_ok' : fsTwinM CS ds μ k kx → mM_Store_twin CS (fsRows CS) (fsStoM CS) ds μ k kx := by
  intro h0
  match ds, h0 with
  | [d], ⟨al, rs, ⟨e1, e, g⟩, h⟩ =>
    subst e e1
    let G : Ga := [.pu (stoD CS al rs)]
    have v0 : Ev (tpVar 0) G (stoD CS al rs) := ev_var rfl
    exact em_make (Γ := G) (evl_2 (ev_ownd v0) (ev_rws v0 g.l2)) rfl rfl fun p _ => ⟨rs, ⟨rfl, .inl rfl, g⟩, fun t qs μ' n => ⟨rfl, h p t qs μ' n⟩⟩
theorem chgM_ok' : fsChgM CS CN ds μ k kx → mM_Store_change CS fsPlaceG (fsNeedSt CS CN) (fsNeedDe CS CE) ds μ k kx := by
  intro h0
  match ds, h0 with
  | [.cls p, .int a, .str [c], .int b], ⟨al, rs, t, qs, s, u, ⟨e1, e2, st, g, hc⟩, h1, h2, h3⟩ =>
    subst e1 e2
    let G : Ga := [.pu (.cls p), .pu (.int (s : Nat)), .pu (.str [c]), .pu (.int (u : Nat))]
    let G' : Ga := [.pu (stoD CS al rs), .pu (.int (s : Nat)), .pu (.str [c]), .pu (.int (u : Nat))]
    have pg : PurG μ G G' := .pu st.pur (.pu (.keep _) (.pu (.keep _) (.pu (.keep _) .nil)))
    have v0 : Ev (tpVar 0) G' (stoD CS al rs) := ev_var rfl
    have l1 := g.l1
    have no : ∀ j : Nat, ¬ j < rs.length → within 0 ((rs.length : Nat) - 1) (.int (j : Nat)) = false := fun j hj => by
      show (decide ((0 : Int) ≤ (j : Nat)) && decide (((j : Nat) : Int) ≤ (rs.length : Nat) - 1)) = false
      rw [decide_eq_false (p := ((j : Nat) : Int) ≤ (rs.length : Nat) - 1) (by omega), Bool.and_false]
    by_cases hs : s < rs.length
    · refine em_dropM (Γ := G) (em_pur (Γ := G) (ev_stand (CN := CN) v0 (ev_var (i := 1) (d := .int (s : Nat)) rfl) List.mem_cons_self hs) rfl pg rfl) ?_
      refine em_dropM (Γ := G) (em_pur (Γ := G) (ev_deed (CE := CE) v0 (ev_var (i := 2) (d := .str [c]) rfl) List.mem_cons_self hc) rfl pg rfl) ?_
      by_cases hu : u < rs.length
      · refine em_dropM (Γ := G) (em_pur (Γ := G) (ev_stand (CN := CN) v0 (ev_var (i := 3) (d := .int (u : Nat)) rfl) List.mem_cons_self hu) rfl pg rfl) ?_
        obtain ⟨q, r, e1, e2, e3⟩ := st.hq.at_ hs
        have self : EvM (tmOf (tpVar 0)) G μ (.cls p) μ := evm_of (ev_var rfl)
        have e4 : EvM (tmIx (tmFld [CS] "table" (tmOf (tpVar 0))) (tmOf (tpVar 1))) G μ (.cls q) μ := em_ix (em_fld self st.hp List.mem_cons_self rfl) (evm_of (ev_var (i := 1) (d := .int (s : Nat)) rfl)) st.ht (by rw [List.getElem?_map, e1]; rfl)
        have e5 : EvM (tmCall 2 fsPlaceG (tlmCons (tmFld [CS] "own_deeds" (tmOf (tpVar 0))) (tlmCons (tmOf (tpVar 2)) tlmNil))) G μ (.int (idxR al c : Nat)) μ := em_call2 (em_fld self st.hp List.mem_cons_self rfl) (evm_of (ev_var (i := 2) (d := .str [c]) rfl)) fun k kx z => ⟨⟨g.ok, hc⟩, z⟩
        refine (evm_of (ev_var (Γ := G) (i := 3) (d := .int (u : Nat)) rfl) : EvM (tmOf (tpVar 3)) G μ _ μ) _ _ (e4 _ _ ⟨q, rfl, e5 _ _ ⟨idxR al c, lstI r, rfl, e3, ?_, rfl, ?_⟩⟩)
        · rw [List.length_map, g.tab.hw r (List.mem_of_getElem? e2)]
          exact idx_lt hc
        · have := h1 hs hu q r e1 e2
          have em : (lstI r).set (idxR al c) (.int (u : Nat)) = lstI (r.set (idxR al c) (u : Int)) := (List.map_set ..).symm
          rw [em]
          exact this
      · exact em_purX (Γ := G) (evx_needSt (CN := CN) v0 (ev_var (i := 3) (d := .int (u : Nat)) rfl) List.mem_cons_self rfl (no u hu)) rfl pg rfl (h3 hs hu)
    · exact em_purX (Γ := G) (evx_needSt (CN := CN) v0 (ev_var (i := 1) (d := .int (s : Nat)) rfl) List.mem_cons_self rfl (no s hs)) rfl pg rfl (h2 hs)
theorem setM_ok' : fsSetM CS CN ds μ k kx → mM_Store___setitem__ CS (fsChgM CS CN) ds μ k kx := by
  intro h0
  match ds, h0 with
  | [p0, .tup [a, c], b], h0 =>
    have h0 : fsChgM CS CN [p0, a, c, b] μ k kx := h0
    match p0, a, c, b, h0 with
    | .cls p, .int a, .str [c], .int b, h0 =>
      let G : Ga := [.pu (.cls p), .pu (.tup [.int a, .str [c]]), .pu (.int b), .pu (.int a), .pu (.str [c])]
      have h1 := h0
      obtain ⟨al, rs, t, qs, s, u, ⟨e1, e2, st, g, hc⟩, _⟩ := h1
      refine em_asgN (Γ := [.pu (.cls p), .pu (.tup [.int a, .str [c]]), .pu (.int b), .un, .un]) (evn (ev_var (i := 1) (d := .tup [.int a, .str [c]]) rfl)) fun d e => ?_
      subst e
      have ar : EvL (tlCons (tpVar 3) (tlCons (tpVar 4) (tlCons (tpVar 2) tlNil))) G [.int a, .str [c], .int b] := evl_3 (ev_var rfl) (ev_var rfl) (ev_var rfl)
      have v0 : Ev (tpVar 0) G (.cls p) := ev_var rfl
      exact ⟨rfl, v0 _ _ ⟨p, CS, stF al t, rfl, st.hp, rfl, _, List.mem_cons_self, ar _ _ ⟨rfl, h0⟩⟩⟩
end
end PL
set_option Elab.async false
set_option linter.all false
set_option maxRecDepth 100000
set_option maxHeartbeats 4000000
namespace PL
open PySem L2 MU
local instance : Tabl := ⟨[], fun p hp => absurd hp (by simp)⟩
section
variable {P : PEnM} {Γ Γ' : Ga} {μ μ1 : Mu} {s : TSp} {sm u : TSM} {t : TP} {tl : TL} {d : D} {ds : List D} {k : KDM} {kx : KXM} {x : XD} {i : Nat}
theorem em_own (h : Ev t Γ d) (n : u P (gset Γ i (.ow d)) μ) : tsmSeq (tsmOf (tsOwn i t)) u P Γ μ := h _ _ n
theorem em_forP {ti : TL} {g : TGp} (h : EvL ti Γ ds) (n : forW g s ⟨fun Γ => u P Γ μ, fun Γ => P.bk Γ μ, fun Γ => P.ct Γ μ, fun d Γ => P.rt d Γ μ, fun x Γ => P.xx x Γ μ⟩ ds Γ) : tsmSeq (tsmOf (tsFor ti g s)) u P Γ μ := h _ _ n
theorem em_fgt {is : List Nat} (h : sm P (wipeG Γ is) μ) : tsmFgt is sm P Γ μ := h
theorem em_frzL (h : gat Γ i = .ow (.lst ds)) (g : sm P (gset Γ i (.pu (.lst ds))) μ) : tsmFrz i sm P Γ μ := by
  unfold tsmFrz
  rw [h]
  exact g
end
section
variable {ds : List D} {k : KDM} {kx : KXM} {μ : Mu}
theorem lrowsM_ok' : fsLRowsM ds μ k kx → mM_law_rows fsPull ds μ k kx := by
  intro h0
  match ds, h0 with
  | [.bag, .int m, .int w], h0 =>
    obtain ⟨n, v, ⟨rfl, rfl, n1, n2, v2⟩, h⟩ := h0
    let G : Ga := [.pu .bag, .pu (.int (n : Nat)), .pu (.int (v : Nat)), .un, .un, .un, .un, .un]
    refine em_own (Γ := G) (ev_lst evl_nil (Nat.zero_le _)) ?_
    let G1 : Ga := [.pu .bag, .pu (.int (n : Nat)), .pu (.int (v : Nat)), .ow (.lst []), .un, .un, .un, .un]
    refine em_forP (Γ := G1) (evl_rng1 (z := v) (ev_var rfl) (by omega)) ?_
    refine lr_loop n1 n2 (sw := .pu (.int (v : Nat))) ((List.range v).map fun i => .int (i : Nat)) [] .un .un .un .un (fun _ z => nomatch z) (by rw [rng_len]; show 0 + v ≤ 100; omega) fun cols s4 s5 s6 s7 hc hl => ?_
    rw [rng_len] at hl
    have hl : cols.length = v := by rw [hl]; exact Nat.zero_add _
    let G2 : Ga := [.pu .bag, .pu (.int (n : Nat)), .pu (.int (v : Nat)), .pu (.lst (cols.map colD)), .un, .un, .un, .un]
    have rg : EvL (tiRng1 (tlCons (tpVar 1) tlNil)) G2 ((List.range n).map fun i => D.int (i : Nat)) := evl_rng1 (ev_var rfl) (by omega)
    have he : ∀ x ∈ ((List.range n).map fun i => D.int (i : Nat)), Ev (tp1 fTup (tpLc [6] (tiLst (tpVar 3)) (tgName 6) tbYes (tpOp fIx (tpVar 6) (tpVar 7)))) (gset (wipeG G2 [7]) 7 (.pu x)) ((fun d => match d with | .int i => .tup (lstI (cols.map fun c => c.getD i.toNat 0)) | d => d) x) := fun x hx => by
      obtain ⟨i, hi, rfl⟩ := rng_mem x hx
      let G3 : Ga := gset (wipeG G2 [7]) 7 (.pu (.int (i : Nat)))
      have l2 := ev_lc (Γ := G3) (is := [6]) (i := 6) (te := tpOp fIx (tpVar 6) (tpVar 7)) (f := fun d => match d with | .lst l => l.getD i (.int 0) | d => d) (evl_tiLst (ev_var (i := 3) (d := .lst (cols.map colD)) rfl)) (by rw [List.length_map]; omega) (fun y hy => by
        obtain ⟨c, hcm, rfl⟩ := List.mem_map.mp hy
        have h1 : i < c.length := by rw [(hc c hcm).1]; exact hi
        have := ev_ixC (Γ := gset (wipeG G3 [6]) 6 (.pu (colD c))) (ta := tpVar 6) (tb := tpVar 7) (c := c) (i := i) (ev_var rfl) (ev_var rfl) h1
        show Ev _ _ ((lstI c).getD i (.int 0))
        rw [List.getD_eq_getElem?_getD, List.getElem?_map, List.getElem?_eq_getElem h1]
        exact this)
      refine ev_1 l2 fun k z => ?_
      show k (.tup _)
      have e : ((cols.map colD).map fun d => match d with | .lst l => l.getD i (.int 0) | d => d) = lstI (cols.map fun c => c.getD ((i : Nat) : Int).toNat 0) := by
        rw [List.map_map]
        show _ = List.map D.int (List.map _ cols)
        rw [List.map_map]
        refine List.map_congr_left fun c hcm => ?_
        have h1 : i < c.length := by rw [(hc c hcm).1]; exact hi
        show (lstI c).getD i (.int 0) = .int (c.getD ((i : Nat) : Int).toNat 0)
        rw [Int.toNat_natCast, List.getD_eq_getElem?_getD, List.getElem?_map, List.getD_eq_getElem?_getD, List.getElem?_eq_getElem h1]
        rfl
      rw [e]
      exact z
    dsimp only
    refine em_fgt (is := [4, 5, 6, 7]) (Γ := [.pu .bag, .pu (.int (n : Nat)), .pu (.int (v : Nat)), .ow (.lst (cols.map colD)), s4, s5, s6, s7]) ?_
    refine em_frzL (Γ := [.pu .bag, .pu (.int (n : Nat)), .pu (.int (v : Nat)), .ow (.lst (cols.map colD)), .un, .un, .un, .un]) (i := 3) (ds := cols.map colD) rfl ?_
    refine ⟨rfl, rfl, rg _ _ fun q hq => ?_⟩
    refine lcN_map (Γ := wipeG G2 [7]) (i := 7) (fun _ => rfl) hq _ [] he (by rw [rng_len]; show 0 + n ≤ 1000; omega) ?_
    have := h ((List.range n).map fun i => cols.map fun c => c.getD i 0) q ⟨by rw [List.length_map, List.length_range], fun r hr => ?_, fun r hr x hx => ?_⟩ hq
    · unfold rowsD at this
      rw [List.map_map] at this ⊢
      exact this
    · obtain ⟨i, hi, rfl⟩ := List.mem_map.mp hr
      rw [List.length_map, hl]
    · obtain ⟨i, hi, rfl⟩ := List.mem_map.mp hr
      obtain ⟨c, hcm, rfl⟩ := List.mem_map.mp hx
      have hi := List.mem_range.mp hi
      have h1 : i < c.length := by rw [(hc c hcm).1]; exact hi
      rw [List.getD_eq_getElem?_getD, List.getElem?_eq_getElem h1]
      exact (hc c hcm).2 _ (List.getElem_mem h1)
end
end PL
set_option Elab.async false
set_option linter.all false
set_option maxRecDepth 100000
set_option maxHeartbeats 4000000
namespace PL
open PySem L2 MU
local instance : Tabl := ⟨[], fun p hp => absurd hp (by simp)⟩
structure Ent where
  (p t a : Addr)
  qs : List Addr
  rs : List (List Int)
def Ent.ad (e : Ent) : List Addr := e.p :: e.t :: e.a :: e.qs
def KeyIn (μ : Mu) (a : Addr) : Prop := ∃ l, (a, l) ∈ μ
structure EntAt (CS : Addr) (μ : Mu) (al : List Nat) (n : Nat) (e : Ent) : Prop where
  st : StAt CS μ al e.rs e.p e.t e.qs
  tb : (e.a, Lo.d (rowsD e.rs)) ∈ μ
  g : StG al e.rs
  ln : e.rs.length = n
structure Inv (CS : Addr) (μ : Mu) (al : List Nat) (n : Nat) (T L : Addr) (es : List Ent) : Prop where
  hL : (L, Lo.d (.lst (es.map fun e => .cls e.p))) ∈ μ
  hT : (T, Lo.d (.lst (es.map fun e => .cls e.a))) ∈ μ
  he : ∀ (i : Nat) (e : Ent), es[i]? = some e → EntAt CS μ al n e
  nT : T ≠ L
  nd : ∀ (i : Nat) (e : Ent), es[i]? = some e → e.ad.Nodup ∧ T ∉ e.ad ∧ L ∉ e.ad
  dj : ∀ (i j : Nat) (e f : Ent), es[i]? = some e → es[j]? = some f → i ≠ j → ∀ a ∈ e.ad, a ∉ f.ad
section
variable {CS : Addr} {μ μ' : Mu} {al : List Nat} {n : Nat} {T L q : Addr} {es : List Ent} {e : Ent} {l : Lo}
theorem RowsAt.key : ∀ {qs : List Addr} {rs : List (List Int)}, RowsAt μ qs rs → ∀ a ∈ qs, KeyIn μ a
  | [], _, _, _, h => nomatch h
  | q :: qs, r :: rs, h, a, ha => by
    rcases List.mem_cons.mp ha with rfl | ha
    · exact ⟨_, h.1⟩
    · exact h.2.key a ha
  | _ :: _, [], h, _, _ => h.elim
theorem StAt.key {rs : List (List Int)} {p t : Addr} {qs : List Addr} (s : StAt CS μ al rs p t qs) : ∀ a ∈ p :: t :: qs, KeyIn μ a := fun a ha => by
  rcases List.mem_cons.mp ha with rfl | ha
  · exact ⟨_, s.hp⟩
  · rcases List.mem_cons.mp ha with rfl | ha
    · exact ⟨_, s.ht⟩
    · exact s.hq.key a ha
theorem EntAt.key (s : EntAt CS μ al n e) : ∀ a ∈ e.ad, KeyIn μ a := fun a ha => by
  rcases List.mem_cons.mp ha with rfl | ha
  · exact ⟨_, s.st.hp⟩
  · rcases List.mem_cons.mp ha with rfl | ha
    · exact ⟨_, s.st.ht⟩
    · rcases List.mem_cons.mp ha with rfl | ha
      · exact ⟨_, s.tb⟩
      · exact s.st.hq.key a ha
theorem EntAt.mono (s : EntAt CS μ al n e) (h : ∀ x ∈ μ, x ∈ μ') : EntAt CS μ' al n e := ⟨s.st.mono h, h _ s.tb, s.g, s.ln⟩
theorem EntAt.other (s : EntAt CS μ al n e) (h : q ∉ e.ad) : EntAt CS (mset μ q l) al n e :=
  ⟨s.st.other fun z => h (by
    rcases List.mem_cons.mp z with rfl | z
    · exact List.mem_cons_self
    · rcases List.mem_cons.mp z with rfl | z
      · exact List.mem_cons_of_mem _ List.mem_cons_self
      · exact List.mem_cons_of_mem _ (List.mem_cons_of_mem _ (List.mem_cons_of_mem _ z))), mset_other s.tb fun z => h (by
      have z : e.a = q := z
      rw [← z]
      exact List.mem_cons_of_mem _ (List.mem_cons_of_mem _ List.mem_cons_self)), s.g, s.ln⟩
theorem map_same {α : Type} {f : Ent → α} {k : Nat} {e e' : Ent} (h : es[k]? = some e) (hf : f e' = f e) : (es.set k e').map f = es.map f := by
  rw [List.map_set, hf]
  have hl := (List.getElem?_eq_some_iff.mp h).1
  have he := (List.getElem?_eq_some_iff.mp h).2
  refine List.ext_getElem (by simp) fun i h1 h2 => ?_
  rw [List.getElem_set]
  by_cases z : k = i
  · subst z
    rw [if_pos rfl, List.getElem_map, he]
  · rw [if_neg z]
theorem set_get {k i : Nat} {e e' f : Ent} (h : es[k]? = some e) (g : (es.set k e')[i]? = some f) : (i = k ∧ f = e') ∨ (i ≠ k ∧ es[i]? = some f) := by
  by_cases z : i = k
  · subst z
    have hl := (List.getElem?_eq_some_iff.mp h).1
    rw [List.getElem?_set_self hl] at g
    exact .inl ⟨rfl, (Option.some.inj g).symm⟩
  · rw [List.getElem?_set_ne (Ne.symm z)] at g
    exact .inr ⟨z, g⟩
theorem stG_set {rs : List (List Int)} {r : List Int} {s j u : Nat} (g : StG al rs) (hr : rs[s]? = some r) (hu : u < rs.length) : StG al (rs.set s (r.set j (u : Int))) := by
  have hm := List.mem_of_getElem? hr
  refine ⟨g.ok, ⟨rfl, fun x hx => ?_, fun x hx y hy => ?_⟩, by rw [List.length_set]; exact g.l1, by rw [List.length_set]; exact g.l2⟩
  · rcases List.mem_or_eq_of_mem_set hx with hx | rfl
    · exact g.tab.hw x hx
    · rw [List.length_set]
      exact g.tab.hw r hm
  · rw [List.length_set]
    rcases List.mem_or_eq_of_mem_set hx with hx | rfl
    · exact g.tab.hb x hx y hy
    · rcases List.mem_or_eq_of_mem_set hy with hy | rfl
      · exact g.tab.hb r hm y hy
      · exact ⟨by omega, by omega⟩
/-- a cell is changed, in the store and in the table -/
theorem Inv.chg {k s j u : Nat} {r : List Int} (I : Inv CS μ al n T L es) (hk : es[k]? = some e) (hq : e.qs[s]? = some q) (hr : e.rs[s]? = some r) (hu : u < n) :
    Inv CS (mset (mset μ q (.d (.lst (lstI (r.set j (u : Int)))))) e.a (.d (rowsD (e.rs.set s (r.set j (u : Int)))))) al n T L (es.set k { e with rs := e.rs.set s (r.set j (u : Int)) }) := by
  have E := I.he k e hk
  obtain ⟨n1, nT, nL⟩ := I.nd k e hk
  have hm := List.mem_of_getElem? hq
  have qa : q ∈ e.ad := List.mem_cons_of_mem _ (List.mem_cons_of_mem _ (List.mem_cons_of_mem _ hm))
  have aa : e.a ∈ e.ad := List.mem_cons_of_mem _ (List.mem_cons_of_mem _ List.mem_cons_self)
  have keep : ∀ {x : Addr} {y : Lo}, (x, y) ∈ μ → x ∉ e.ad → (x, y) ∈ mset (mset μ q (.d (.lst (lstI (r.set j (u : Int)))))) e.a (.d (rowsD (e.rs.set s (r.set j (u : Int))))) := fun {x y} h n => mset_other (mset_other h fun z => n (by rw [show x = q from z]; exact qa)) fun z => n (by rw [show x = e.a from z]; exact aa)
  obtain ⟨d1, n2⟩ := List.nodup_cons.mp n1
  obtain ⟨d2, n3⟩ := List.nodup_cons.mp n2
  obtain ⟨d3, n4⟩ := List.nodup_cons.mp n3
  have nps : (e.p :: e.t :: e.qs).Nodup := List.nodup_cons.mpr ⟨fun z => d1 (by
    rcases List.mem_cons.mp z with z | z
    · rw [z]; exact List.mem_cons_self
    · exact List.mem_cons_of_mem _ (List.mem_cons_of_mem _ z)), List.nodup_cons.mpr ⟨fun z => d2 (List.mem_cons_of_mem _ z), n4⟩⟩
  have apq : e.a ∉ e.p :: e.t :: e.qs := fun z => by
    rcases List.mem_cons.mp z with z | z
    · exact d1 (by rw [← z]; exact List.mem_cons_of_mem _ List.mem_cons_self)
    · rcases List.mem_cons.mp z with z | z
      · exact d2 (by rw [← z]; exact List.mem_cons_self)
      · exact d3 z
  have aq : e.a ≠ q := fun z => d3 (by rw [z]; exact hm)
  refine ⟨?_, ?_, fun i f hf => ?_, I.nT, fun i f hf => ?_, fun i i' f f' hf hf' ne a ha => ?_⟩
  · have m : (es.set k { e with rs := e.rs.set s (r.set j (u : Int)) }).map (fun e => D.cls e.p) = es.map fun e => D.cls e.p := map_same hk rfl
    rw [m]
    exact keep I.hL nL
  · have m : (es.set k { e with rs := e.rs.set s (r.set j (u : Int)) }).map (fun e => D.cls e.a) = es.map fun e => D.cls e.a := map_same hk rfl
    rw [m]
    exact keep I.hT nT
  · rcases set_get hk hf with ⟨rfl, rfl⟩ | ⟨ne, hf⟩
    · refine ⟨(E.st.set nps hq).other apq, mset_get (mset_other E.tb aq), stG_set E.g hr (by rw [E.ln]; exact hu), ?_⟩
      show (e.rs.set s _).length = n
      rw [List.length_set]
      exact E.ln
    · exact ((I.he i f hf).other fun z => I.dj i k f e hf hk ne q z qa).other fun z => I.dj i k f e hf hk ne e.a z aa
  · rcases set_get hk hf with ⟨rfl, rfl⟩ | ⟨ne, hf⟩
    · exact I.nd _ e hk
    · exact I.nd _ _ hf
  · rcases set_get hk hf with ⟨e1, e2⟩ | ⟨z1, hf2⟩ <;> rcases set_get hk hf' with ⟨e3, e4⟩ | ⟨z2, hf4⟩
    · exact absurd (e1.trans e3.symm) ne
    · subst e2
      exact I.dj _ _ e f' hk hf4 (by rw [← e1]; exact ne) a ha
    · subst e4
      exact I.dj _ _ f e hf2 hk (by rw [← e3]; exact ne) a ha
    · exact I.dj _ _ _ _ hf2 hf4 ne a ha
theorem app_get {i : Nat} {f : Ent} (g : (es ++ [e])[i]? = some f) : es[i]? = some f ∨ (i = es.length ∧ f = e) := by
  by_cases z : i < es.length
  · rw [List.getElem?_append_left z] at g
    exact .inl g
  · rw [List.getElem?_append_right (by omega)] at g
    have hl := (List.getElem?_eq_some_iff.mp g).1
    have : i - es.length = 0 := by simpa using hl
    rw [this] at g
    exact .inr ⟨by omega, (Option.some.inj g).symm⟩
theorem mset_key {x : Addr} (h : KeyIn μ x) : KeyIn (mset μ q l) x := by
  obtain ⟨y, h⟩ := h
  by_cases z : x = q
  · subst z
    exact ⟨_, mset_get h⟩
  · exact ⟨_, mset_other h z⟩
/-- a twin, and its table -/
theorem Inv.add {rs : List (List Int)} {p t a : Addr} {qs : List Addr} {μn : Mu} (I : Inv CS μ al n T L es) (N : NewSt CS al rs p t qs μn) (dj : ∀ x ∈ μn, ∀ y ∈ μ, x.1 ≠ y.1) (g : StG al rs) (ln : rs.length = n)
    (ha : ∀ x ∈ mset (μn ++ μ) L (.d (.lst (es.map (fun e => D.cls e.p) ++ [.cls p]))), x.1 ≠ a) :
    Inv CS (mset ((a, Lo.d (rowsD rs)) :: mset (μn ++ μ) L (.d (.lst (es.map (fun e => D.cls e.p) ++ [.cls p])))) T (.d (.lst (es.map (fun e => D.cls e.a) ++ [.cls a])))) al n T L (es ++ [⟨p, t, a, qs, rs⟩]) := by
  have newk : ∀ {x : Addr}, x ∈ p :: t :: qs → ¬ KeyIn μ x := fun {x} h ⟨y, hy⟩ => by
    obtain ⟨y', h'⟩ := N.st.key x h
    exact dj _ h' _ hy rfl
  have kL : KeyIn μ L := ⟨_, I.hL⟩
  have kT : KeyIn μ T := ⟨_, I.hT⟩
  have ak : ∀ {x : Addr}, KeyIn μ x → x ≠ a := fun {x} h z => by
    have h2 : KeyIn (mset (μn ++ μ) L (.d (.lst (es.map (fun e => D.cls e.p) ++ [.cls p])))) x := mset_key (h.imp fun _ z => List.mem_append_right _ z)
    obtain ⟨y, hy⟩ := h2
    exact ha _ hy z
  have an : ∀ {x : Addr}, x ∈ p :: t :: qs → x ≠ a := fun {x} h z => by
    have h2 : KeyIn (mset (μn ++ μ) L (.d (.lst (es.map (fun e => D.cls e.p) ++ [.cls p])))) x := mset_key ((N.st.key x h).imp fun _ z => List.mem_append_left _ z)
    obtain ⟨y, hy⟩ := h2
    exact ha _ hy z
  have keep : ∀ {x : Addr} {y : Lo}, (x, y) ∈ μn ++ μ → x ≠ L → x ≠ T → (x, y) ∈ mset ((a, Lo.d (rowsD rs)) :: mset (μn ++ μ) L (.d (.lst (es.map (fun e => D.cls e.p) ++ [.cls p])))) T (.d (.lst (es.map (fun e => D.cls e.a) ++ [.cls a]))) := fun {x y} h n1 n2 => mset_other (List.mem_cons_of_mem _ (mset_other h n1)) n2
  have nLp : L ∉ p :: t :: qs := fun z => newk z kL
  have nTp : T ∉ p :: t :: qs := fun z => newk z kT
  have aT : a ≠ T := fun z => ak kT z.symm
  have aL : a ≠ L := fun z => ak kL z.symm
  have adn : ∀ x, x ∈ (⟨p, t, a, qs, rs⟩ : Ent).ad → x ∈ p :: t :: qs ∨ x = a := fun x h => by
    rcases List.mem_cons.mp h with rfl | h
    · exact .inl List.mem_cons_self
    · rcases List.mem_cons.mp h with rfl | h
      · exact .inl (List.mem_cons_of_mem _ List.mem_cons_self)
      · rcases List.mem_cons.mp h with rfl | h
        · exact .inr rfl
        · exact .inl (List.mem_cons_of_mem _ (List.mem_cons_of_mem _ h))
  have old : ∀ (i : Nat) (f : Ent), es[i]? = some f → ∀ x ∈ f.ad, KeyIn μ x := fun i f hf => (I.he i f hf).key
  refine ⟨?_, ?_, fun i f hf => ?_, I.nT, fun i f hf => ?_, fun i j f f' hf hf' ne x hx hx' => ?_⟩
  · rw [List.map_append]
    exact mset_other (List.mem_cons_of_mem _ (mset_get (List.mem_append_right _ I.hL))) fun z => I.nT z.symm
  · rw [List.map_append]
    exact mset_get (List.mem_cons_of_mem _ (mset_other (List.mem_append_right _ I.hT) I.nT))
  · rcases app_get hf with hf | ⟨_, rfl⟩
    · obtain ⟨_, nT, nL⟩ := I.nd i f hf
      exact ((((I.he i f hf).mono fun x hx => List.mem_append_right _ hx).other nL).mono fun x hx => List.mem_cons_of_mem _ hx).other nT
    · refine ⟨(((N.st.mono fun x hx => List.mem_append_left _ hx).other nLp).mono fun x hx => List.mem_cons_of_mem _ hx).other nTp, mset_other List.mem_cons_self aT, g, ln⟩
  · rcases app_get hf with hf | ⟨_, rfl⟩
    · exact I.nd i f hf
    · obtain ⟨d1, n2⟩ := List.nodup_cons.mp N.nd
      obtain ⟨d2, n3⟩ := List.nodup_cons.mp n2
      refine ⟨List.nodup_cons.mpr ⟨fun z => ?_, List.nodup_cons.mpr ⟨fun z => ?_, List.nodup_cons.mpr ⟨fun z => an (List.mem_cons_of_mem _ (List.mem_cons_of_mem _ z)) rfl, n3⟩⟩⟩, fun z => ?_, fun z => ?_⟩
      · rcases List.mem_cons.mp z with z | z
        · exact d1 (by rw [show p = t from z]; exact List.mem_cons_self)
        · rcases List.mem_cons.mp z with z | z
          · exact an List.mem_cons_self z
          · exact d1 (List.mem_cons_of_mem _ z)
      · rcases List.mem_cons.mp z with z | z
        · exact an (List.mem_cons_of_mem _ List.mem_cons_self) z
        · exact d2 z
      · rcases adn _ z with z | z
        · exact nTp z
        · exact aT z.symm
      · rcases adn _ z with z | z
        · exact nLp z
        · exact aL z.symm
  · rcases app_get hf with hf | ⟨rfl, rfl⟩ <;> rcases app_get hf' with hf' | ⟨rfl, rfl⟩
    · exact I.dj i j f f' hf hf' ne x hx hx'
    · have k := old i f hf x hx
      rcases adn _ hx' with z | z
      · exact newk z k
      · exact ak k z
    · have k := old j f' hf' x hx'
      rcases adn _ hx with z | z
      · exact newk z k
      · exact ak k z
    · exact ne rfl
/-- the lists, seen as pure -/
theorem purL_sto : ∀ {es : List Ent}, (∀ e ∈ es, EntAt CS μ al n e) → PurL μ (es.map fun e => .cls e.p) (es.map fun e => stoD CS al e.rs)
  | [], _ => .nil
  | e :: es, h => .cons (h e List.mem_cons_self).st.pur (purL_sto fun x hx => h x (List.mem_cons_of_mem _ hx))
theorem purL_tab : ∀ {es : List Ent}, (∀ e ∈ es, EntAt CS μ al n e) → PurL μ (es.map fun e => .cls e.a) (es.map fun e => rowsD e.rs)
  | [], _ => .nil
  | e :: es, h => .cons (.lst (h e List.mem_cons_self).tb (purL_refl _)) (purL_tab fun x hx => h x (List.mem_cons_of_mem _ hx))
theorem Inv.all (I : Inv CS μ al n T L es) : ∀ e ∈ es, EntAt CS μ al n e := fun e he => by
  obtain ⟨i, hi⟩ := List.getElem?_of_mem he
  exact I.he i e hi
theorem Inv.purL (I : Inv CS μ al n T L es) : Pur μ (.cls L) (.lst (es.map fun e => stoD CS al e.rs)) := .lst I.hL (purL_sto I.all)
theorem Inv.purT (I : Inv CS μ al n T L es) : Pur μ (.cls T) (.lst (es.map fun e => rowsD e.rs)) := .lst I.hT (purL_tab I.all)
end
end PL
set_option Elab.async false
set_option linter.all false
set_option maxRecDepth 100000
set_option maxHeartbeats 4000000
namespace K23
open PySem L2 PL MU
structure Ar where
  KK : PySem.W.Frag
  (C0 C1 C2 C3 C4 C5 C6 CN C8 C9 C10 C11 CS : Addr)
noncomputable def inM (A : Ar) : TSM := (tsmIf (tbmPur (tbNot (tbV (tpCall 2 (fsSame 9) (tlCons (tpLst (tlCons (tpMeth [(A.CS, (fsRows A.CS))] "rows" 0 (tpOp fIx (tpVar 5) (tpVar 17)) tlNil) (tlCons (tpCallI [(A.CS, (fsCallG A.CS))] 2 (tpOp fIx (tpVar 5) (tpVar 17)) (tlCons (tpC (.int 0)) (tlCons (tpVar 16) tlNil))) tlNil))) (tlCons (tpLst (tlCons (tpOp fIx (tpVar 4) (tpVar 17)) (tlCons (tpCall 4 fsLedL (tlCons (tpOp fIx (tpVar 4) (tpVar 17)) (tlCons (tpVar 2) (tlCons (tpC (.int 0)) (tlCons (tpVar 16) tlNil))))) tlNil))) tlNil)))))) (tsmOf (tsRet (tpC (.bl false)))) tsmNext)
noncomputable def eqM (A : Ar) : TSM := (tsmFgt [17] (tsmIf (tbmPur (tbV (tpOp fNe (tpOp (fEqI [(A.CS, (fsEqG A.CS))]) (tpOp fIx (tpVar 5) (tpC (.int 0))) (tpOp fIx (tpVar 5) (tpNeg (tpC (.int 1))))) (tpOp fEq (tpOp fIx (tpVar 4) (tpC (.int 0))) (tpOp fIx (tpVar 4) (tpNeg (tpC (.int 1)))))))) (tsmOf (tsRet (tpC (.bl false)))) tsmNext))
noncomputable def chkM (A : Ar) : TSM := (tsmSeq (tsmOf (tsSet 16 (tpCall 3 fsDrawn (tlCons (tpVar 1) (tlCons (tpVar 2) (tlCons (tpC (.int 12)) tlNil)))))) (tsmSeq (tsmFgt [15] (tsmForM (timRng1 (tlmCons (tmLen (tmOf (tpVar 5))) tlmNil)) (tgName 17) (inM A))) (eqM A)))
noncomputable def updM (A : Ar) : TSM := (tsmSeq (tsmFgt [14] (tsmIf (tbmOf (tbV (tpVar 13))) (tsmSeq (tsmSet 15 (tmIx (tmIx (tmOf (tpVar 4)) (tmOf (tpVar 8))) (tmOf (tpVar 9)))) (tsmSetIx (tmIx (tmOf (tpVar 4)) (tmOf (tpVar 8))) (tmOf (tpVar 9)) (tmOf (tpOp fAddT (tpOp fAddT (tpSl (tpVar 15) toNo (toSome (tpVar 11))) (tpTup (tlCons (tpVar 10) tlNil))) (tpSl (tpVar 15) (toSome (tpOp fAdd (tpVar 11) (tpC (.int 1)))) toNo))))) tsmNext)) (chkM A))
noncomputable def chgM (A : Ar) : TSM := (tsmIf (tbmOf (tbAnd (tbV (tpVar 13)) (tbV (tpOp fEq (tpCall 2 fsPull (tlCons (tpVar 1) (tlCons (tpC (.int 2)) tlNil))) (tpC (.int 0)))))) (tsmSetO [(A.CS, (fsSetM A.CS A.CN))] (tmOf (tpVar 12)) (tmOf (tpTup (tlCons (tpVar 9) (tlCons (tpOp fIx (tpVar 2) (tpVar 11)) tlNil)))) (tmOf (tpVar 10))) (tsmSeq (tsmSet 14 (tmLam 2 (mM_law_ask A.KK A.C0 A.C1 A.C2 A.C3 A.C4 A.C5 A.C6 A.CN A.C8 A.C9 A.C10 A.C11) (tmMeth [(A.CS, (fsChgM A.CS A.CN))] "change" 3 (tmOf (tpVar 12)) (tlmOf (tlCons (tpVar 9) (tlCons (tpOp fIx (tpVar 2) (tpVar 11)) (tlCons (tpVar 10) tlNil))))))) (tsmOf (tsIf (tbV (tpOp fNe (tpVar 14) (tpIf (tbV (tpVar 13)) (tpTup (tlCons (tpC (.str [])) (tlCons (tpC .non) tlNil))) (tpTup (tlCons (tpC (.str [73, 110, 118, 97, 108, 105, 100, 83, 116, 97, 110, 100])) (tlCons (tpVar 3) tlNil)))))) (tsRet (tpC (.bl false))) tsNext))))
noncomputable def twM (A : Ar) : TSM := (tsmFgt [8, 9, 10, 11, 12, 13, 14, 15, 16, 17] (tsmIf (tbmOf (tbV (tpOp fEq (tpVar 7) (tpVar 6)))) (tsmSeq (tsmApp (tmOf (tpVar 5)) (tmSub (tmMethP0 [(A.CS, (fsTwinM A.CS))] "twin" (tmOf (tpOp fIx (tpVar 5) (tpC (.int 0))))))) (tsmApp (tmOf (tpVar 4)) (tmList (tmIx (tmOf (tpVar 4)) (tmOf (tpC (.int 0))))))) tsmNext))
noncomputable def goM (A : Ar) : TSM := (tsmSeq (tsmSet 8 (tmCall 2 fsPull (tlmCons (tmOf (tpVar 1)) (tlmCons (tmLen (tmOf (tpVar 5))) tlmNil)))) (tsmSeq (tsmOf (tsAsgG (tpTup (tlCons (tpCall 2 fsPull (tlCons (tpVar 1) (tlCons (tpOp fAdd (tpVar 3) (tpC (.int 1))) tlNil))) (tlCons (tpCall 2 fsPull (tlCons (tpVar 1) (tlCons (tpOp fAdd (tpVar 3) (tpC (.int 1))) tlNil))) (tlCons (tpCall 2 fsPull (tlCons (tpVar 1) (tlCons (tp1 fLenS (tpVar 2)) tlNil))) tlNil)))) (tgTup3 9 10 11))) (tsmSeq (tsmAsgG (tmTup (tlmCons (tmIx (tmOf (tpVar 5)) (tmOf (tpVar 8))) (tlmCons (tmOf (tpAnd (tpOp fLt (tpVar 9) (tpVar 3)) (tpOp fLt (tpVar 10) (tpVar 3)))) tlmNil))) (tgTup2 12 13)) (tsmSeq (chgM A) (updM A)))))
noncomputable def turnM (A : Ar) : TSM := (tsmSeq (twM A) (goM A))
noncomputable def tailM (A : Ar) : TSM := (tsmFgt [7, 8, 9, 10, 11, 12, 13, 14, 15, 16, 17] (tsmRet (tmPur (tpOp (fEqI [(A.CS, (fsEqG A.CS))]) (tpMeth [(A.CS, (fsTwin A.CS))] "twin" 0 (tpOp fIx (tpVar 5) (tpC (.int 0))) tlNil) (tpOp fIx (tpVar 5) (tpC (.int 0)))))))
section
variable {P : PEnM} {Γ Γ' : Ga} {μ : Mu} {u s sm : TSM} {t ta tb : TP} {d : D} {A : Ar} {al : List Nat} {n : Nat} {T L : Addr} {es : List Ent} {tw : Int} {CS : Addr} {rs : List (List Int)}
local instance : Tabl := ⟨[], fun p hp => absurd hp (by simp)⟩
theorem ev_addT {a b : List D} (h : Ev ta Γ (.tup a)) (g : Ev tb Γ (.tup b)) (hl : a.length + b.length ≤ sizeLine) : Ev (tpOp fAddT ta tb) Γ (.tup (a ++ b)) := ev_op h g fun k z => ⟨hl, z⟩
theorem ev_slTp {l : List D} {lo hi : Option Int} {tlo thi : TO'} (h : Ev t Γ (.tup l)) (hlo : ∀ (k : Option Int → Prop) kx, k lo → tlo Γ k kx) (hhi : ∀ (k : Option Int → Prop) kx, k hi → thi Γ k kx) : Ev (tpSl t tlo thi) Γ (.tup (cutL l lo hi)) := fun k kx z => h _ _ (hlo _ _ (hhi _ _ z))
theorem ev_callS {s : Nat} {v : List Nat} (h : Ev t Γ (stoD CS al rs)) (ha : Ev ta Γ (.int (s : Nat))) (hb : Ev tb Γ (.str v)) (st : StG al rs) (hs : s < rs.length) (hv : ∀ c ∈ v, c ∈ al) (hz : v.length ≤ 3000) : Ev (tpCallI [(CS, fsCallG CS)] 2 t (tlCons ta (tlCons tb tlNil))) Γ (.int (ledR al rs s v : Nat)) := fun k kx z =>
  h _ _ ⟨_, List.mem_cons_self, (evl_2 ha hb) _ _ ⟨rfl, ⟨al, rs, s, ⟨rfl, st, rfl, hs, hv⟩, z⟩, fun w e => by cases e; exact hz⟩⟩
theorem em_setM {i : Nat} {t : MU.TM} {B : D → Mu → Prop} (h : EvMN t Γ μ B) (n : ∀ d μ', B d μ' → u P (gset Γ i (.pu d)) μ') : tsmSeq (tsmSet i t) u P Γ μ := h _ _ fun d μ' a => n d μ' a
theorem em_if {b : Bool} {t : PL.TB} (h : EvB t Γ b) (h1 : b = true → s P Γ μ) (h2 : b = false → u P Γ μ) : tsmIf (tbmOf t) s u P Γ μ := h _ _ (by
  cases b
  · exact h2 rfl
  · exact h1 rfl)
theorem em_ifN {B : Bool → Prop} {t : PL.TB} (h : EvNB t Γ B) (h1 : B true → s P Γ μ) (h2 : B false → u P Γ μ) : tsmIf (tbmOf t) s u P Γ μ := h _ _ fun b hb => by
  cases b
  · exact h2 hb
  · exact h1 hb
theorem em_ifPF {t : PL.TB} (p : PurG μ Γ Γ') (h : EvB t Γ' false) (h2 : u P Γ μ) : tsmIf (tbmPur t) s u P Γ μ := ⟨Γ', p, h _ _ h2⟩
theorem evn_tupN {tl : TL} {B : List D → Prop} (h : EvNL tl Γ B) (hl : ∀ ds, B ds → ds.length ≤ 100000) : EvN (tpTup tl) Γ fun d => ∃ ds, B ds ∧ d = .tup ds := fun k kx z => h _ _ fun ds hd => ⟨hl ds hd, z _ ⟨ds, hd, rfl⟩⟩
abbrev gB (al : List Nat) (n : Nat) (T L : Addr) (tw : Int) (a : Ga) : Ga := .pu .scr :: .pu .bag :: .pu (.str al) :: .pu (.int (n : Nat)) :: .pu (.cls T) :: .pu (.cls L) :: .pu (.int tw) :: a
abbrev gP (CS : Addr) (al : List Nat) (n : Nat) (es : List Ent) (tw : Int) (a : Ga) : Ga := .pu .scr :: .pu .bag :: .pu (.str al) :: .pu (.int (n : Nat)) :: .pu (.lst (es.map fun e => rowsD e.rs)) :: .pu (.lst (es.map fun e => stoD CS al e.rs)) :: .pu (.int tw) :: a
theorem pgK : ∀ {a : Ga}, plainG a = true → PurG μ a a
  | [], _ => .nil
  | s :: a, h => by
    have h' : plainG a = true := by
      unfold plainG at h ⊢
      rw [List.all_cons, Bool.and_eq_true] at h
      exact h.2
    cases s with
    | un => exact .un (pgK h')
    | pu d => exact .pu (.keep _) (pgK h')
    | _ => exact absurd h (by unfold plainG; rw [List.all_cons]; exact Bool.false_ne_true)
theorem pg (I : Inv CS μ al n T L es) {a : Ga} (h : plainG a = true) : PurG μ (gB al n T L tw a) (gP CS al n es tw a) := .pu (.keep _) (.pu (.keep _) (.pu (.keep _) (.pu (.keep _) (.pu I.purT (.pu I.purL (.pu (.keep _) (pgK h)))))))
theorem tail_ok (I : Inv A.CS μ al n T L es) (h1 : 1 ≤ es.length) (hk : ∀ Γ μ, P.rt (.bl true) Γ μ) {s7 s8 s9 s10 s11 s12 s13 s14 s15 s16 s17 : Sl} : tailM A P (gB al n T L tw [s7, s8, s9, s10, s11, s12, s13, s14, s15, s16, s17]) μ := by
  obtain ⟨e0, es', rfl⟩ : ∃ a b, es = a :: b := by
    cases es with
    | nil => exact absurd h1 (by decide)
    | cons a b => exact ⟨a, b, rfl⟩
  refine em_fgt ?_
  let G : Ga := gP A.CS al n (e0 :: es') tw [.un, .un, .un, .un, .un, .un, .un, .un, .un, .un, .un]
  have E := I.he 0 e0 rfl
  have i0 : Ev (tpOp fIx (tpVar 5) (tpC (.int 0))) G (stoD A.CS al e0.rs) := ev_ixL (ev_var (i := 5) rfl) (ev_c _) at0
  have tw : Ev (tpMeth [(A.CS, fsTwin A.CS)] "twin" 0 (tpOp fIx (tpVar 5) (tpC (.int 0))) tlNil) G (stoD A.CS al e0.rs) := ev_meth i0 rfl List.mem_cons_self evl_nil rfl fun k kx z => ⟨al, e0.rs, ⟨rfl, E.g⟩, z⟩
  have q := ev_eqSt tw i0 E.g.ok E.g.ok E.g.l2 E.g.l2
  rw [decide_eq_true ⟨rfl, rfl⟩] at q
  exact em_pur (Γ' := G) q rfl (pg I rfl) rfl _ _ (hk _ _)
theorem eq_ok (I : Inv A.CS μ al n T L es) (h1 : 1 ≤ es.length) {x : Sl} {s8 s9 s10 s11 s12 s13 s14 s15 s16 s17 : Sl} (hp : plainG [x, s8, s9, s10, s11, s12, s13, s14, s15, s16, .un] = true) (hk : P.nx (gB al n T L tw [x, s8, s9, s10, s11, s12, s13, s14, s15, s16, .un]) μ) : eqM A P (gB al n T L tw [x, s8, s9, s10, s11, s12, s13, s14, s15, s16, s17]) μ := by
  obtain ⟨e0, es', rfl⟩ : ∃ a b, es = a :: b := by
    cases es with
    | nil => exact absurd h1 (by decide)
    | cons a b => exact ⟨a, b, rfl⟩
  obtain ⟨ini, e1, hl⟩ : ∃ ini e1, e0 :: es' = ini ++ [e1] := ⟨_, _, (List.dropLast_concat_getLast (l := e0 :: es') (by simp)).symm⟩
  refine em_fgt ?_
  let G : Ga := gP A.CS al n (e0 :: es') tw [x, s8, s9, s10, s11, s12, s13, s14, s15, s16, .un]
  have E := I.he 0 e0 rfl
  have E1 := I.all e1 (by rw [hl]; exact List.mem_append_right _ List.mem_cons_self)
  have i0 : Ev (tpOp fIx (tpVar 5) (tpC (.int 0))) G (stoD A.CS al e0.rs) := ev_ixL (ev_var (i := 5) rfl) (ev_c _) at0
  have t0 : Ev (tpOp fIx (tpVar 4) (tpC (.int 0))) G (rowsD e0.rs) := ev_ixL (ev_var (i := 4) rfl) (ev_c _) at0
  have ng : Ev (tpNeg (tpC (.int 1))) G (.int (-1)) := fun k kx z => z
  have i1 : Ev (tpOp fIx (tpVar 5) (tpNeg (tpC (.int 1)))) G (stoD A.CS al e1.rs) := ev_ixL (ev_var (i := 5) (d := .lst ((e0 :: es').map fun e => stoD A.CS al e.rs)) rfl) ng (by rw [hl, List.map_append]; exact at_last _ _)
  have t1 : Ev (tpOp fIx (tpVar 4) (tpNeg (tpC (.int 1)))) G (rowsD e1.rs) := ev_ixL (ev_var (i := 4) (d := .lst ((e0 :: es').map fun e => rowsD e.rs)) rfl) ng (by rw [hl, List.map_append]; exact at_last _ _)
  have q := ev_eqSt i0 i1 E.g.ok E1.g.ok E.g.l2 E1.g.l2
  have r := ev_eqRows t0 t1
  have same : decide (al = al ∧ e0.rs = e1.rs) = decide (e0.rs = e1.rs) := by simp
  rw [same] at q
  have w : Ev (tpOp fNe (tpOp (fEqI [(A.CS, (fsEqG A.CS))]) (tpOp fIx (tpVar 5) (tpC (.int 0))) (tpOp fIx (tpVar 5) (tpNeg (tpC (.int 1))))) (tpOp fEq (tpOp fIx (tpVar 4) (tpC (.int 0))) (tpOp fIx (tpVar 4) (tpNeg (tpC (.int 1)))))) G (.bl false) := ev_op q r fun k z => ⟨⟨rfl, rfl, Nat.zero_le _, Nat.zero_le _⟩, by
    have : (!eqD (.bl (decide (e0.rs = e1.rs))) (.bl (decide (e0.rs = e1.rs)))) = false := by
      rw [eqD_refl _ rfl]
      rfl
    rw [this]
    exact z⟩
  exact em_ifPF (Γ' := G) (pg I hp) (evb_v w) hk
abbrev gC (al : List Nat) (n : Nat) (T L : Addr) (tw : Int) (d7 d8 d9 d10 d11 d12 d13 : D) (a : Ga) : Ga := gB al n T L tw (.pu d7 :: .pu d8 :: .pu d9 :: .pu d10 :: .pu d11 :: .pu d12 :: .pu d13 :: a)
theorem in_ok {i : Nat} {v : List Nat} {d7 d8 d9 d10 d11 d12 d13 : D} (I : Inv A.CS μ al n T L es) (hi : i < es.length) (v1 : v.length ≤ 12) (hv : ∀ c ∈ v, c ∈ al) (hk : P.nx (gC al n T L tw d7 d8 d9 d10 d11 d12 d13 [.un, .un, .pu (.str v), .pu (.int (i : Nat))]) μ) :
    inM A P (gC al n T L tw d7 d8 d9 d10 d11 d12 d13 [.un, .un, .pu (.str v), .pu (.int (i : Nat))]) μ := by
  let G : Ga := gP A.CS al n es tw (.pu d7 :: .pu d8 :: .pu d9 :: .pu d10 :: .pu d11 :: .pu d12 :: .pu d13 :: [.un, .un, .pu (.str v), .pu (.int (i : Nat))])
  have he : es[i]? = some es[i] := List.getElem?_eq_getElem hi
  have E := I.he i _ he
  have l1 := E.g.l1
  have w5 : Ev (tpOp fIx (tpVar 5) (tpVar 17)) G (stoD A.CS al es[i].rs) := ev_ixL (ev_var (i := 5) rfl) (ev_var (i := 17) rfl) (at_map (f := fun e : Ent => stoD A.CS al e.rs) he)
  have w4 : Ev (tpOp fIx (tpVar 4) (tpVar 17)) G (rowsD es[i].rs) := ev_ixL (ev_var (i := 4) rfl) (ev_var (i := 17) rfl) (at_map (f := fun e : Ent => rowsD e.rs) he)
  have w16 : Ev (tpVar 16) G (.str v) := ev_var rfl
  have c0 : Ev (tpC (.int 0)) G (.int ((0 : Nat) : Int)) := ev_c _
  have a := ev_callS w5 c0 w16 E.g (by omega) hv (by omega)
  have b : Ev (tpCall 4 fsLedL (tlCons (tpOp fIx (tpVar 4) (tpVar 17)) (tlCons (tpVar 2) (tlCons (tpC (.int 0)) (tlCons (tpVar 16) tlNil))))) G (.int (ledR al es[i].rs 0 v : Nat)) := ev_call (evl_cons w4 (evl_3 (ev_var (i := 2) (d := .str al) rfl) c0 w16)) rfl fun k kx z => ⟨es[i].rs, 0, ⟨rfl, E.g, rfl, by omega, hv⟩, z⟩
  have q := sameV (ev_lst (evl_2 (ev_rws w5 E.g.l2) a) (by show 2 ≤ 100000; decide)) (ev_lst (evl_2 w4 b) (by show 2 ≤ 100000; decide)) rfl ⟨by show 2 ≤ 100000; decide, stG_okS (n := 4) E.g, trivial, trivial⟩
  exact em_ifPF (Γ' := G) (pg I rfl) (evb_not (b := true) (evb_v q)) hk
theorem in_loop {v : List Nat} {d7 d8 d9 d10 d11 d12 d13 : D} (I : Inv A.CS μ al n T L es) (v1 : v.length ≤ 12) (hv : ∀ c ∈ v, c ∈ al) (hk : ∀ s17, P.nx (gC al n T L tw d7 d8 d9 d10 d11 d12 d13 [.un, .un, .pu (.str v), s17]) μ) : ∀ (l : List Nat) (s17 : Sl), (∀ i ∈ l, i < es.length) →
    forWM (tgName 17) (inM A) P (l.map fun (i : Nat) => D.int (i : Nat)) (gC al n T L tw d7 d8 d9 d10 d11 d12 d13 [.un, .un, .pu (.str v), s17]) μ
  | [], s17, _ => hk s17
  | i :: l, s17, h => in_ok (P := { P with nx := forWM (tgName 17) (inM A) P (l.map fun (i : Nat) => D.int (i : Nat)), ct := forWM (tgName 17) (inM A) P (l.map fun (i : Nat) => D.int (i : Nat)), bk := P.nx }) I (h i List.mem_cons_self) v1 hv (in_loop I v1 hv hk l _ fun x hx => h x (List.mem_cons_of_mem _ hx))
theorem em_rngLen {i : Nat} {L : Addr} {ds : List D} {g : TGp} {b : TSM} (e : gat Γ i = .pu (.cls L)) (hm : (L, Lo.d (.lst ds)) ∈ μ) (hl : ds.length < 1000) (h : forWM g b P ((List.range ds.length).map fun (i : Nat) => .int (i : Nat)) Γ μ) : tsmForM (timRng1 (tlmCons (tmLen (tmOf (tpVar i))) tlmNil)) g b P Γ μ :=
  (ev_var (d := .cls L) e) _ (fun _ => True) ⟨L, ds, rfl, hm, ⟨by omega, by omega⟩, h⟩
theorem chk_ok {d7 d8 d9 d10 d11 d12 d13 : D} {s15 s16 s17 : Sl} (I : Inv A.CS μ al n T L es) (h1 : 1 ≤ es.length) (h2 : es.length ≤ 100) (hk : ∀ s16, P.nx (gC al n T L tw d7 d8 d9 d10 d11 d12 d13 [.un, .un, s16, .un]) μ) :
    chkM A P (gC al n T L tw d7 d8 d9 d10 d11 d12 d13 [.un, s15, s16, s17]) μ := by
  have ok : okA al := (I.all es[0] (List.getElem_mem h1)).g.ok
  have dr : EvN (tpCall 3 fsDrawn (tlCons (tpVar 1) (tlCons (tpVar 2) (tlCons (tpC (.int 12)) tlNil)))) (gC al n T L tw d7 d8 d9 d10 d11 d12 d13 [.un, s15, s16, s17]) (fun d => ∃ v : List Nat, (v.length ≤ 12 ∧ ∀ c ∈ v, c ∈ al) ∧ d = .str v) := evn_call (evnl (evl_3 (ev_var (i := 1) (d := .bag) rfl) (ev_var (i := 2) (d := .str al) rfl) (ev_c _))) fun ds hd => by
    subst hd
    have := ok.2.1
    exact ⟨rfl, fun k kx z => ⟨⟨List.length_pos_iff.mp ok.1, by omega, plain_of ok.2.2.2, by decide, by decide⟩, fun v h1 h2 => z _ ⟨v, ⟨h1, h2⟩, rfl⟩⟩⟩
  refine em_setN dr fun d ⟨v, ⟨v1, hv⟩, e⟩ => ?_
  subst e
  refine em_rngLen (P := { P with nx := eqM A P }) (Γ := gC al n T L tw d7 d8 d9 d10 d11 d12 d13 [.un, .un, .pu (.str v), s17]) (i := 5) rfl I.hL (by rw [List.length_map]; omega) ?_
  rw [List.length_map]
  refine in_loop (P := { P with nx := eqM A P }) I v1 hv (fun s17 => ?_) _ _ fun i hi => List.mem_range.mp hi
  exact eq_ok I h1 rfl (hk _)
theorem em_setIx {ta tb te : MU.TM} {q : Addr} {z : Nat} {ds : List D} (he : EvM te Γ μ d μ) (ha : EvM ta Γ μ (.cls q) μ) (hb : EvM tb Γ μ (.int (z : Nat)) μ) (hm : (q, Lo.d (.lst ds)) ∈ μ) (hz : z < ds.length) (qt : quiet Γ = true) (hn : P.nx Γ (mset μ q (.d (.lst (ds.set z d))))) : tsmSetIx ta tb te P Γ μ :=
  he _ _ (ha _ _ ⟨q, rfl, hb _ _ ⟨z, ds, rfl, hm, hz, qt, hn⟩⟩)
theorem upd_bad {d7 d8 d9 d10 d11 d12 : D} {s14 : Sl} (I : Inv A.CS μ al n T L es) (h1 : 1 ≤ es.length) (h2 : es.length ≤ 100) (hk : ∀ s16, P.nx (gC al n T L tw d7 d8 d9 d10 d11 d12 (.bl false) [.un, .un, s16, .un]) μ) :
    updM A P (gC al n T L tw d7 d8 d9 d10 d11 d12 (.bl false) [s14, .un, .un, .un]) μ := by
  refine em_if (P := { P with nx := chkM A P }) (Γ := gC al n T L tw d7 d8 d9 d10 d11 d12 (.bl false) [.un, .un, .un, .un]) (evb_v (ev_var (i := 13) rfl)) (fun z => nomatch z) fun _ => ?_
  exact chk_ok I h1 h2 hk
theorem upd_good {d7 d12 : D} {w s v j : Nat} {s14 : Sl} {e : Ent} {q : Addr} {r : List Int} (I : Inv A.CS μ al n T L es) (h1 : 1 ≤ es.length) (h2 : es.length ≤ 100) (he : es[w]? = some e) (hq : e.qs[s]? = some q) (hr : e.rs[s]? = some r) (hv : v < n) (hj : j < al.length)
    (hk : ∀ s16 es' μ', Inv A.CS μ' al n T L es' → es'.length = es.length → P.nx (gC al n T L tw d7 (.int (w : Nat)) (.int (s : Nat)) (.int (v : Nat)) (.int (j : Nat)) d12 (.bl true) [.un, .un, s16, .un]) μ') :
    updM A P (gC al n T L tw d7 (.int (w : Nat)) (.int (s : Nat)) (.int (v : Nat)) (.int (j : Nat)) d12 (.bl true) [s14, .un, .un, .un]) (mset μ q (.d (.lst (lstI (r.set j (v : Int)))))) := by
  have E := I.he w e he
  have a8 := E.g.ok.2.1
  obtain ⟨n1, nT, nL⟩ := I.nd w e he
  have hm := List.mem_of_getElem? hq
  have qa : q ∈ e.ad := List.mem_cons_of_mem _ (List.mem_cons_of_mem _ (List.mem_cons_of_mem _ hm))
  have aq : e.a ≠ q := fun z => (List.nodup_cons.mp (List.nodup_cons.mp (List.nodup_cons.mp n1).2).2).1 (by rw [z]; exact hm)
  have hT := mset_other (l := .d (.lst (lstI (r.set j (v : Int))))) I.hT fun z => nT (by rw [show T = q from z]; exact qa)
  have hA := mset_other (l := .d (.lst (lstI (r.set j (v : Int))))) E.tb aq
  refine em_if (P := { P with nx := chkM A P }) (Γ := gC al n T L tw d7 (.int (w : Nat)) (.int (s : Nat)) (.int (v : Nat)) (.int (j : Nat)) d12 (.bl true) [.un, .un, .un, .un]) (evb_v (ev_var (i := 13) rfl)) (fun _ => ?_) fun z => nomatch z
  have ix : ∀ {a : Ga}, EvM (tmIx (tmOf (tpVar 4)) (tmOf (tpVar 8))) (gC al n T L tw d7 (.int (w : Nat)) (.int (s : Nat)) (.int (v : Nat)) (.int (j : Nat)) d12 (.bl true) a) (mset μ q (.d (.lst (lstI (r.set j (v : Int)))))) (.cls e.a) (mset μ q (.d (.lst (lstI (r.set j (v : Int)))))) := fun {a} =>
    em_ix (evm_of (ev_var (i := 4) rfl)) (evm_of (ev_var (i := 8) (d := .int (w : Nat)) rfl)) hT (by rw [List.getElem?_map, he]; rfl)
  have hlr := E.g.tab.hw r (List.mem_of_getElem? hr)
  refine em_setM (P := { P with nx := chkM A P }) (evmn (em_ix ix (evm_of (ev_var (i := 9) (d := .int (s : Nat)) rfl)) hA (show (e.rs.map fun r => D.tup (lstI r))[s]? = some (.tup (lstI r)) by rw [List.getElem?_map, hr]; rfl))) fun d μ' ⟨e1, e2⟩ => ?_
  subst e1 e2
  let G : Ga := gC al n T L tw d7 (.int (w : Nat)) (.int (s : Nat)) (.int (v : Nat)) (.int (j : Nat)) d12 (.bl true) [.un, .pu (.tup (lstI r)), .un, .un]
  have v15 : Ev (tpVar 15) G (.tup (lstI r)) := ev_var rfl
  have v11 : Ev (tpVar 11) G (.int (j : Nat)) := ev_var rfl
  have a1 := ev_slTp (lo := none) (hi := some ((j : Nat) : Int)) (tlo := toNo) (thi := toSome (tpVar 11)) v15 (fun k kx z => z) (fun k kx z => v11 _ _ z)
  have j1 : Ev (tpOp fAdd (tpVar 11) (tpC (.int 1))) G (.int ((j + 1 : Nat) : Int)) := ev_addI v11 (ev_c (.int 1))
  have a3 := ev_slTp (lo := some ((j + 1 : Nat) : Int)) (hi := none) (tlo := toSome (tpOp fAdd (tpVar 11) (tpC (.int 1)))) (thi := toNo) v15 (fun k kx z => j1 _ _ z) (fun k kx z => z)
  rw [cut_take] at a1
  rw [cut_drop] at a3
  have big : 100 ≤ sizeLine := by decide
  have lr : (lstI r).length = al.length := by rw [List.length_map]; exact hlr
  have row := ev_addT (ev_addT a1 (ev_tup (evl_1 (ev_var (i := 10) (d := .int (v : Nat)) rfl)) (by show 1 ≤ 100000; decide)) (by
    have h2 : (List.take j (lstI r)).length ≤ al.length := by rw [← lr]; exact List.length_take_le' _ _
    show _ + 1 ≤ _
    omega)) a3 (by
    have h2 : (List.take j (lstI r)).length ≤ al.length := by rw [← lr]; exact List.length_take_le' _ _
    rw [List.length_append, List.length_drop, lr]
    show _ + 1 + _ ≤ _
    omega)
  have er : List.take j (lstI r) ++ [D.int (v : Nat)] ++ List.drop (j + 1) (lstI r) = lstI (r.set j (v : Int)) := by
    have hj' : j < (lstI r).length := by rw [lr]; exact hj
    have : lstI (r.set j (v : Int)) = (lstI r).set j (.int (v : Nat)) := List.map_set ..
    rw [this, List.set_eq_take_append_cons_drop, if_pos hj', List.append_assoc]
    rfl
  rw [er] at row
  refine em_setIx (P := { P with nx := chkM A P }) (Γ := G) (evm_of row) ix (evm_of (ev_var (i := 9) (d := .int (s : Nat)) rfl)) hA (by rw [List.length_map]; exact (List.getElem?_eq_some_iff.mp hr).1) rfl ?_
  have es : (e.rs.map fun r => D.tup (lstI r)).set s (.tup (lstI (r.set j (v : Int)))) = (e.rs.set s (r.set j (v : Int))).map fun r => D.tup (lstI r) := (List.map_set ..).symm
  rw [es]
  have I' := I.chg (j := j) he hq hr hv
  exact chk_ok I' (by rw [List.length_set]; exact h1) (by rw [List.length_set]; exact h2) fun s16 => hk _ _ _ I' (List.length_set ..)
theorem idx_self (ok : okA al) {j : Nat} (hj : j < al.length) : idxR al al[j] = j := by
  obtain ⟨h1, h2⟩ := idx_at (List.getElem_mem hj)
  rcases Nat.lt_trichotomy (idxR al al[j]) j with h | h | h
  · have hi := idx_lt (List.getElem_mem hj)
    have e : al[idxR al al[j]] = al[j] := by
      rw [List.getElem?_eq_getElem hi] at h1
      exact Option.some.inj h1
    have p := (List.pairwise_iff_getElem.mp ok.2.2.1) _ _ hi hj h
    omega
  · exact h
  · exact absurd (List.getElem?_eq_getElem hj) (h2 j h)
structure AX (A : Ar) : Prop where
  xn : ∀ f : PySem.Str, f = "tag" ∨ f = "given" → XFld A.KK (.ref A.CN) f
  en : PySem.W.exmAny A.KK (.ref A.CN) [.ref A.C2, .ref A.C3, .ref A.C4, .ref A.CN, .ref A.C8, .ref A.C9] = some true
theorem lam_ok {k : KDM} {kx : KXM} {tE : MU.TM} (X : AX A) (qt : QuietP Γ) (h : ∀ (k' : KDM) (kx' : KXM), (∀ d μ1, k (.tup [.str [], d]) μ1 → k' d μ1) → (∀ z μ1, k (.tup [.str ISTA, z]) μ1 → kx' (inX A.CN z) μ1) → tE (purify Γ) μ k' kx') :
    tmLam 2 (mM_law_ask A.KK A.C0 A.C1 A.C2 A.C3 A.C4 A.C5 A.C6 A.CN A.C8 A.C9 A.C10 A.C11) tE Γ μ k kx :=
  ⟨qt, fun vv c u Gx so => ⟨fun s hs => by
    rcases List.mem_cons.mp hs with rfl | hs
    · exact so
    · rw [List.mem_singleton.mp hs]
      trivial, ⟨rfl, rfl, rfl, rfl⟩, h _ _ (fun d μ1 z => ⟨by show 2 ≤ 100000; decide, z⟩) (fun z μ1 w => ⟨true, X.en, fun _ a dA => ⟨rfl, rfl, X.xn "tag" (.inl rfl), rfl, rfl, X.xn "given" (.inr rfl), by show 2 ≤ 100000; decide, w⟩, fun z => Bool.noConfusion z⟩)⟩⟩
theorem evlm_of {tl : TL} {ds : List D} {k : List D → Mu → Prop} {kx : KXM} (h : EvL tl Γ ds) (z : k ds μ) : tlmOf tl Γ μ k kx := h _ _ z
theorem em_ifp {c : PL.TB} {a : TSp} (h : EvB c Γ false) (n : P.nx Γ μ) : tsmOf (tsIf c a tsNext) P Γ μ := h _ _ n
theorem em_setO {ms : List (Addr × FSM)} {ta tb te : MU.TM} {w i : D} {q C : Addr} {fs : List (PySem.Str × D)} {f : FSM} (he : EvM te Γ μ w μ) (ha : EvM ta Γ μ (.cls q) μ) (hb : EvM tb Γ μ i μ) (hm : (q, Lo.d (.ins C fs)) ∈ μ) (hC : (C, f) ∈ ms) (qt : quiet Γ = true) (hf : f [.cls q, i, w] μ (fun _ μ4 => P.nx Γ μ4) (fun x μ => P.xx x Γ μ)) : tsmSetO ms ta tb te P Γ μ :=
  he _ _ (ha _ _ ⟨q, rfl, hb _ _ ⟨C, fs, f, hm, hC, qt, hf⟩⟩)
theorem chg_ok {d7 : D} {w s v j : Nat} {e : Ent} (X : AX A) (I : Inv A.CS μ al n T L es) (h1 : 1 ≤ es.length) (h2 : es.length ≤ 100) (he : es[w]? = some e) (hs : s ≤ n) (hv : v ≤ n) (hj : j < al.length)
    (hk : ∀ s9 s10 s11 s12 s13 s16 es' μ', Inv A.CS μ' al n T L es' → es'.length = es.length → P.nx (gB al n T L tw [.pu d7, .pu (.int (w : Nat)), s9, s10, s11, s12, s13, .un, .un, s16, .un]) μ') :
    tsmSeq (chgM A) (updM A) P (gC al n T L tw d7 (.int (w : Nat)) (.int (s : Nat)) (.int (v : Nat)) (.int (j : Nat)) (.cls e.p) (.bl (decide (s < n) && decide (v < n))) [.un, .un, .un, .un]) μ := by
  have E := I.he w e he
  have ln := E.ln
  have n0 : 1 ≤ n := by rw [← ln]; exact E.g.l1
  have a8 := E.g.ok.2.1
  let b := decide (s < n) && decide (v < n)
  let G : Ga := gC al n T L tw d7 (.int (w : Nat)) (.int (s : Nat)) (.int (v : Nat)) (.int (j : Nat)) (.cls e.p) (.bl b) [.un, .un, .un, .un]
  let Q : PEnM := { P with nx := updM A P }
  have ix2 : Ev (tpOp fIx (tpVar 2) (tpVar 11)) G (.str [al[j]]) := ev_ixS (ev_var (i := 2) (d := .str al) rfl) (ev_var (i := 11) (d := .int (j : Nat)) rfl) (Nat.le_trans a8 (by decide)) (at_nat al j hj)
  -- the lambda
  have lam : ∀ {k : KDM} {kx : KXM}, (s < n → v < n → ∀ q r, e.qs[s]? = some q → e.rs[s]? = some r → k (.tup [.str [], .non]) (mset μ q (.d (.lst (lstI (r.set j (v : Int))))))) → (b = false → k (.tup [.str ISTA, .int (n : Nat)]) μ) →
      tmLam 2 (mM_law_ask A.KK A.C0 A.C1 A.C2 A.C3 A.C4 A.C5 A.C6 A.CN A.C8 A.C9 A.C10 A.C11) (tmMeth [(A.CS, (fsChgM A.CS A.CN))] "change" 3 (tmOf (tpVar 12)) (tlmOf (tlCons (tpVar 9) (tlCons (tpOp fIx (tpVar 2) (tpVar 11)) (tlCons (tpVar 10) tlNil))))) G μ k kx := fun {k kx} g1 g2 => by
    refine lam_ok X (quiet_p rfl) fun k' kx' k1 k2 => ⟨rfl, (evm_of (ev_var (Γ := purify G) (i := 12) (d := .cls e.p) rfl)) _ _ ⟨e.p, A.CS, stF al e.t, rfl, E.st.hp, rfl, _, List.mem_cons_self, ?_⟩⟩
    refine evlm_of (evl_3 (ev_var (Γ := purify G) (i := 9) (d := .int (s : Nat)) rfl) (show Ev (tpOp fIx (tpVar 2) (tpVar 11)) (purify G) _ from ix2) (ev_var (Γ := purify G) (i := 10) (d := .int (v : Nat)) rfl)) ⟨rfl, ?_⟩
    refine ⟨al, e.rs, e.t, e.qs, s, v, ⟨rfl, rfl, E.st, E.g, List.getElem_mem hj⟩, fun a1 a2 q r e1 e2 => ?_, fun a1 => ?_, fun a1 a2 => ?_⟩
    · rw [idx_self E.g.ok hj]
      exact k1 _ _ (g1 (by omega) (by omega) q r e1 e2)
    · have : s = n := by omega
      refine k2 _ _ ?_
      rw [this]
      exact g2 (by show (decide (s < n) && _) = false; rw [decide_eq_false (by omega), Bool.false_and])
    · have : v = n := by omega
      refine k2 _ _ ?_
      rw [this]
      exact g2 (by show (_ && decide (v < n)) = false; rw [decide_eq_false (p := v < n) (by omega), Bool.and_false])
  have v13 : Ev (tpVar 13) G (.bl b) := ev_var rfl
  have same : ∀ (d : D), d.plain = true → d.dep ≤ 64 → Ev (tpIf (tbV (tpVar 13)) (tpTup (tlCons (tpC (.str [])) (tlCons (tpC .non) tlNil))) (tpTup (tlCons (tpC (.str [73, 110, 118, 97, 108, 105, 100, 83, 116, 97, 110, 100])) (tlCons (tpVar 3) tlNil)))) (gset G 14 (.pu d)) d →
      EvB (tbV (tpOp fNe (tpVar 14) (tpIf (tbV (tpVar 13)) (tpTup (tlCons (tpC (.str [])) (tlCons (tpC .non) tlNil))) (tpTup (tlCons (tpC (.str [73, 110, 118, 97, 108, 105, 100, 83, 116, 97, 110, 100])) (tlCons (tpVar 3) tlNil)))))) (gset G 14 (.pu d)) false := fun d p1 p2 h => evb_v (ev_op (ev_var (i := 14) (d := d) rfl) h fun k z => ⟨⟨p1, p1, p2, p2⟩, by rw [eqD_refl _ p1]; exact z⟩)
  cases hb : b with
  | true =>
    obtain ⟨c1, c2⟩ := Bool.and_eq_true_iff.mp hb
    have hs' := of_decide_eq_true c1
    have hv' := of_decide_eq_true c2
    obtain ⟨q, r, e1, e2, _⟩ := E.st.hq.at_ (i := s) (by omega)
    have up : ∀ s14, updM A P (gC al n T L tw d7 (.int (w : Nat)) (.int (s : Nat)) (.int (v : Nat)) (.int (j : Nat)) (.cls e.p) (.bl b) [s14, .un, .un, .un]) (mset μ q (.d (.lst (lstI (r.set j (v : Int)))))) := fun s14 => by
      rw [hb]
      exact upd_good I h1 h2 he e1 e2 hv' hj fun s16 es' μ' I' l' => hk _ _ _ _ _ s16 es' μ' I' l'
    have pl2 : EvN (tpOp fEq (tpCall 2 fsPull (tlCons (tpVar 1) (tlCons (tpC (.int 2)) tlNil))) (tpC (.int 0))) G (fun d => ∃ b : Bool, d = .bl b) := evn_op (evn_pull (m := 2) (ev_var (d := .bag) rfl) (ev_c _) (by decide) (by decide)) (evn (ev_c (.int 0))) fun x y hx hy k hk => by
      obtain ⟨r, _, _, rfl⟩ := hx
      subst hy
      exact ⟨⟨rfl, rfl, Nat.zero_le _, Nat.zero_le _⟩, hk _ ⟨_, rfl⟩⟩
    have tst : EvNB (tbAnd (tbV (tpVar 13)) (tbV (tpOp fEq (tpCall 2 fsPull (tlCons (tpVar 1) (tlCons (tpC (.int 2)) tlNil))) (tpC (.int 0))))) G fun _ => True := fun k kx z => by
      have hb' : EvB (tbV (tpVar 13)) G true := by rw [← hb]; exact evb_v v13
      exact hb' _ _ (evnb_v pl2 _ _ z)
    refine em_ifN (P := Q) (Γ := G) tst (fun _ => ?_) fun _ => ?_
    · refine em_setO (P := Q) (Γ := G) (evm_of (ev_var (i := 10) (d := .int (v : Nat)) rfl)) (evm_of (ev_var (i := 12) (d := .cls e.p) rfl)) (evm_of (ev_tup (evl_2 (ev_var (i := 9) (d := .int (s : Nat)) rfl) ix2) (by show 2 ≤ 100000; decide))) E.st.hp List.mem_cons_self rfl ?_
      refine ⟨al, e.rs, e.t, e.qs, s, v, ⟨rfl, rfl, E.st, E.g, List.getElem_mem hj⟩, fun a1 a2 q' r' e1' e2' => ?_, fun a1 => absurd (by omega) a1, fun a1 a2 => absurd (by omega) a2⟩
      rw [e1] at e1'
      rw [e2] at e2'
      cases e1'
      cases e2'
      rw [idx_self E.g.ok hj]
      exact up .un
    · refine lam (fun _ _ q' r' e1' e2' => ?_) fun z => by rw [hb] at z; cases z
      rw [e1] at e1'
      rw [e2] at e2'
      cases e1'
      cases e2'
      refine em_ifp (P := Q) (Γ := gset G 14 (.pu (.tup [.str [], .non]))) (same _ rfl (by decide) ?_) (up _)
      refine ev_ifT (by rw [← hb]; exact evb_v (ev_var (i := 13) rfl)) (ev_tup (evl_2 (ev_c _) (ev_c _)) (by show 2 ≤ 100000; decide))
  | false =>
    have hb' : EvB (tbV (tpVar 13)) G false := by rw [← hb]; exact evb_v v13
    refine em_if (P := Q) (Γ := G) (evb_andF hb') (fun z => nomatch z) fun _ => ?_
    refine lam (fun a1 a2 => ?_) fun _ => ?_
    · have : b = true := by show (decide (s < n) && decide (v < n)) = true; rw [decide_eq_true a1, decide_eq_true a2]; rfl
      rw [this] at hb
      cases hb
    · refine em_ifp (P := Q) (Γ := gset G 14 (.pu (.tup [.str ISTA, .int (n : Nat)]))) (same _ (by rfl) (show (1 : Nat) ≤ 64 by decide) ?_) ?_
      · refine ev_ifF (by rw [← hb]; exact evb_v (ev_var (i := 13) rfl)) (ev_tup (evl_2 (ev_c _) (ev_var (i := 3) rfl)) (by show 2 ≤ 100000; decide))
      · show updM A P (gC al n T L tw d7 (.int (w : Nat)) (.int (s : Nat)) (.int (v : Nat)) (.int (j : Nat)) (.cls e.p) (.bl b) [_, .un, .un, .un]) μ
        rw [hb]
        exact upd_bad I h1 h2 fun s16 => hk _ _ _ _ _ s16 es μ I rfl
theorem em_len {i : Nat} {L : Addr} {ds : List D} (e : gat Γ i = .pu (.cls L)) (hm : (L, Lo.d (.lst ds)) ∈ μ) : EvM (tmLen (tmOf (tpVar i))) Γ μ (.int (ds.length : Nat)) μ := fun k kx z => (evm_of (ev_var (d := .cls L) e) : EvM _ Γ μ _ μ) _ _ ⟨L, ds, rfl, hm, z⟩
theorem em_call2N {f : FS} {ta tb : MU.TM} {a b : D} {B : D → Prop} (h : EvM ta Γ μ a μ) (g : EvM tb Γ μ b μ) (hf : ∀ (k : KD) kx, (∀ d, B d → k d) → f [a, b] k kx) : EvMN (tmCall 2 f (tlmCons ta (tlmCons tb tlmNil))) Γ μ fun d μ' => μ' = μ ∧ B d := fun k kx z => h _ _ (g _ _ ⟨rfl, hf _ _ fun d hd => z _ _ ⟨rfl, hd⟩⟩)
theorem em_tup2 {ta tb : MU.TM} {a b : D} (h : EvM ta Γ μ a μ) (g : EvM tb Γ μ b μ) : EvM (tmTup (tlmCons ta (tlmCons tb tlmNil))) Γ μ (.tup [a, b]) μ := fun k kx z => h _ _ (g _ _ ⟨by show 2 ≤ 100000; decide, z⟩)
theorem em_asgM {t : MU.TM} {g : TGp} (h : EvM t Γ μ d μ) (n : g d Γ fun Γ' => u P Γ' μ) : tsmSeq (tsmAsgG t g) u P Γ μ := h _ _ n
theorem go_ok {d7 : D} (X : AX A) (I : Inv A.CS μ al n T L es) (h1 : 1 ≤ es.length) (h2 : es.length ≤ 100)
    (hk : ∀ s8 s9 s10 s11 s12 s13 s16 es' μ', Inv A.CS μ' al n T L es' → es'.length = es.length → P.nx (gB al n T L tw [.pu d7, s8, s9, s10, s11, s12, s13, .un, .un, s16, .un]) μ') :
    goM A P (gB al n T L tw [.pu d7, .un, .un, .un, .un, .un, .un, .un, .un, .un, .un]) μ := by
  have E0 := I.all es[0] (List.getElem_mem h1)
  have ok := E0.g.ok
  have a8 := ok.2.1
  have n2 : n ≤ 120 := by rw [← E0.ln]; exact E0.g.l2
  have pw := em_call2N (f := fsPull) (B := fun d => ∃ w : Nat, w < es.length ∧ d = .int (w : Nat)) (evm_of (ev_var (Γ := gB al n T L tw [.pu d7, .un, .un, .un, .un, .un, .un, .un, .un, .un, .un]) (i := 1) (d := .bag) rfl)) (em_len (i := 5) rfl I.hL) fun k kx z => by
    rw [List.length_map]
    exact ⟨⟨by omega, by omega⟩, fun r r0 r1 => z _ ⟨r.toNat, by omega, by rw [Int.toNat_of_nonneg r0]⟩⟩
  refine em_setM (Γ := gB al n T L tw [.pu d7, .un, .un, .un, .un, .un, .un, .un, .un, .un, .un]) pw fun d μ' ⟨e1, w, hw, e2⟩ => ?_
  have e1 := e1.symm
  subst e1 e2
  let G1 : Ga := gB al n T L tw [.pu d7, .pu (.int (w : Nat)), .un, .un, .un, .un, .un, .un, .un, .un, .un]
  have n1 : Ev (tpOp fAdd (tpVar 3) (tpC (.int 1))) G1 (.int ((n : Nat) + 1)) := ev_addI (ev_var (i := 3) (d := .int (n : Nat)) rfl) (ev_c (.int 1))
  have pn : EvN (tpCall 2 fsPull (tlCons (tpVar 1) (tlCons (tpOp fAdd (tpVar 3) (tpC (.int 1))) tlNil))) G1 (fun d => ∃ s : Nat, s ≤ n ∧ d = .int (s : Nat)) := evn_imp (evn_pull (ev_var (i := 1) (d := .bag) rfl) n1 (by omega) (by omega)) fun d ⟨r, r0, r1, e⟩ => ⟨r.toNat, by omega, by rw [e, Int.toNat_of_nonneg r0]⟩
  have pj : EvN (tpCall 2 fsPull (tlCons (tpVar 1) (tlCons (tp1 fLenS (tpVar 2)) tlNil))) G1 (fun d => ∃ j : Nat, j < al.length ∧ d = .int (j : Nat)) := evn_imp (evn_pull (ev_var (i := 1) (d := .bag) rfl) (ev_lenS (ev_var (i := 2) (d := .str al) rfl) (Nat.le_trans a8 (by decide))) (by have := ok.1; omega) (by omega)) fun d ⟨r, r0, r1, e⟩ => ⟨r.toNat, by omega, by rw [e, Int.toNat_of_nonneg r0]⟩
  refine em_asgN (Γ := G1) (evn_tupN (evnl_cons pn (evnl_cons pn (evnl_cons pj evnl_nil))) fun ds hd => ?_) fun d hd => ?_
  · obtain ⟨_, _, _, ⟨_, _, _, ⟨_, _, _, rfl, rfl⟩, rfl⟩, rfl⟩ := hd
    show 3 ≤ 100000
    decide
  obtain ⟨ds, ⟨_, _, ⟨s, hs, rfl⟩, ⟨_, _, ⟨v, hv, rfl⟩, ⟨_, _, ⟨j, hj, rfl⟩, rfl, rfl⟩, rfl⟩, rfl⟩, rfl⟩ := hd
  let G2 : Ga := gB al n T L tw [.pu d7, .pu (.int (w : Nat)), .pu (.int (s : Nat)), .pu (.int (v : Nat)), .pu (.int (j : Nat)), .un, .un, .un, .un, .un, .un]
  have he : es[w]? = some es[w] := List.getElem?_eq_getElem hw
  have st : EvM (tmIx (tmOf (tpVar 5)) (tmOf (tpVar 8))) G2 μ (.cls es[w].p) μ := em_ix (evm_of (ev_var (i := 5) rfl)) (evm_of (ev_var (i := 8) (d := .int (w : Nat)) rfl)) I.hL (by rw [List.getElem?_map, he]; rfl)
  have c1 : decide (((s : Nat) : Int) < ((n : Nat) : Int)) = decide (s < n) := by simp
  have c2 : decide (((v : Nat) : Int) < ((n : Nat) : Int)) = decide (v < n) := by simp
  have l1 := ev_ltI (Γ := G2) (ev_var (i := 9) (d := .int (s : Nat)) rfl) (ev_var (i := 3) (d := .int (n : Nat)) rfl)
  have l2 := ev_ltI (Γ := G2) (ev_var (i := 10) (d := .int (v : Nat)) rfl) (ev_var (i := 3) (d := .int (n : Nat)) rfl)
  rw [c1] at l1
  rw [c2] at l2
  refine em_asgM (Γ := G2) (em_tup2 st (evm_of (ev_an l1 fun _ => l2))) ?_
  exact chg_ok X I h1 h2 he hs hv hj fun s9 s10 s11 s12 s13 s16 es' μ' I' l' => hk _ _ _ _ _ _ _ es' μ' I' l'
theorem em_methP0 {ms : List (Addr × FSM)} {m : PySem.Str} {C : Addr} {fs : List (PySem.Str × D)} {f : FSM} {k : KDM} {kx : KXM} (h : Ev t Γ (.ins C fs)) (q : quiet Γ = true) (hl : fs.lookup m = none) (hf : (C, f) ∈ ms) (z : f [.ins C fs] μ k kx) : tmMethP0 ms m (tmOf t) Γ μ k kx := ⟨q, h _ _ ⟨C, fs, rfl, hl, f, hf, z⟩⟩
theorem em_app {ta tb : MU.TM} {q : Addr} {ds : List D} (h : EvM ta Γ μ (.cls q) μ) (hm : (q, Lo.d (.lst ds)) ∈ μ) (k : tb Γ μ (fun y μ2 => quiet Γ = true ∧ ∃ ds, (q, Lo.d (.lst ds)) ∈ μ2 ∧ ds.length < 100000 ∧ P.nx Γ (mset μ2 q (.d (.lst (ds ++ [y]))))) (fun x μ => P.xx x Γ μ)) : tsmApp ta tb P Γ μ := h _ _ ⟨q, rfl, ⟨_, ds, rfl, hm⟩, k⟩
theorem em_appS {ta tb : MU.TM} {q : Addr} {ds : List D} (h : EvM ta Γ μ (.cls q) μ) (hm : (q, Lo.d (.lst ds)) ∈ μ) (k : tb Γ μ (fun y μ2 => quiet Γ = true ∧ ∃ ds, (q, Lo.d (.lst ds)) ∈ μ2 ∧ ds.length < 100000 ∧ u P Γ (mset μ2 q (.d (.lst (ds ++ [y]))))) (fun x μ => P.xx x Γ μ)) : tsmSeq (tsmApp ta tb) u P Γ μ := h _ _ ⟨q, rfl, ⟨_, ds, rfl, hm⟩, k⟩
theorem turn_ok {z : Int} {s8 s9 s10 s11 s12 s13 s14 s15 s16 s17 : Sl} (X : AX A) (I : Inv A.CS μ al n T L es) (h1 : 1 ≤ es.length) (h2 : es.length ≤ 90)
    (hk : ∀ s8 s9 s10 s11 s12 s13 s16 es' μ', Inv A.CS μ' al n T L es' → 1 ≤ es'.length → es'.length ≤ es.length + 1 → P.nx (gB al n T L tw [.pu (.int z), s8, s9, s10, s11, s12, s13, .un, .un, s16, .un]) μ') :
    turnM A P (gB al n T L tw [.pu (.int z), s8, s9, s10, s11, s12, s13, s14, s15, s16, s17]) μ := by
  let G : Ga := gB al n T L tw [.pu (.int z), .un, .un, .un, .un, .un, .un, .un, .un, .un, .un]
  have e := ev_eqI (Γ := G) (ev_var (i := 7) (d := .int z) rfl) (ev_var (i := 6) (d := .int tw) rfl)
  refine em_if (P := { P with nx := goM A P }) (Γ := G) (evb_v e) (fun _ => ?_) fun _ => go_ok X I h1 (by omega) fun s8 s9 s10 s11 s12 s13 s16 es' μ' I' l' => hk _ _ _ _ _ _ _ es' μ' I' (by omega) (by omega)
  obtain ⟨e0, es', he⟩ : ∃ a b, es = a :: b := by
    cases es with
    | nil => exact absurd h1 (by decide)
    | cons a b => exact ⟨a, b, rfl⟩
  have E : EntAt A.CS μ al n e0 := I.he 0 e0 (by rw [he]; rfl)
  obtain ⟨_, nT, nL⟩ := I.nd 0 e0 (by rw [he]; rfl)
  let G' : Ga := gP A.CS al n es tw [.pu (.int z), .un, .un, .un, .un, .un, .un, .un, .un, .un, .un]
  have i0 : Ev (tpOp fIx (tpVar 5) (tpC (.int 0))) G' (stoD A.CS al e0.rs) := ev_ixL (ev_var (i := 5) (d := .lst (es.map fun e => stoD A.CS al e.rs)) rfl) (ev_c _) (by rw [he]; exact at0)
  refine em_appS (P := { P with nx := goM A P }) (Γ := G) (evm_of (ev_var (i := 5) rfl)) I.hL ⟨rfl, G', pg I rfl, ?_⟩
  refine em_methP0 i0 rfl rfl List.mem_cons_self ?_
  refine ⟨al, e0.rs, ⟨rfl, rfl, E.g⟩, fun p t qs μn N => ⟨rfl, N.fl, fun dj => ⟨rfl, _, List.mem_append_right _ I.hL, by rw [List.length_map]; omega, ?_⟩⟩⟩
  have hT := mset_other (q := L) (l := .d (.lst (es.map (fun e => D.cls e.p) ++ [.cls p]))) (List.mem_append_right μn I.hT) I.nT
  have hA := mset_other (q := L) (l := .d (.lst (es.map (fun e => D.cls e.p) ++ [.cls p]))) (List.mem_append_right μn E.tb) fun z => nL (by
    rw [← show e0.a = L from z]
    exact List.mem_cons_of_mem _ (List.mem_cons_of_mem _ List.mem_cons_self))
  refine em_app (P := { P with nx := goM A P }) (Γ := G) (evm_of (ev_var (i := 4) rfl)) hT ?_
  refine em_list (Γ := G) (em_ix (evm_of (ev_var (i := 4) rfl)) (evm_of (ev_c (.int ((0 : Nat) : Int)))) hT (by rw [List.getElem?_map, he]; rfl)) rfl (ds := e0.rs.map fun r => .tup (lstI r)) (.inl ⟨e0.a, rfl, hA⟩) fun a ha => ⟨rfl, _, List.mem_cons_of_mem _ hT, by rw [List.length_map]; omega, ?_⟩
  have I2 := I.add N dj E.g E.ln ha
  exact go_ok X I2 (by rw [List.length_append]; omega) (by rw [List.length_append]; show es.length + 1 ≤ 100; omega) fun s8 s9 s10 s11 s12 s13 s16 es' μ' I' l' => hk _ _ _ _ _ _ _ es' μ' I' (by rw [l', List.length_append]; omega) (by rw [l', List.length_append]; exact Nat.le_refl _)
theorem loop_ok (X : AX A) (hk : ∀ s7 s8 s9 s10 s11 s12 s13 s14 s15 s16 s17 es' μ', Inv A.CS μ' al n T L es' → 1 ≤ es'.length → P.nx (gB al n T L tw [s7, s8, s9, s10, s11, s12, s13, s14, s15, s16, s17]) μ') :
    ∀ (l : List Nat) (es : List Ent) (μ : Mu) (s7 s8 s9 s10 s11 s12 s13 s14 s15 s16 s17 : Sl), Inv A.CS μ al n T L es → 1 ≤ es.length → es.length + l.length ≤ 90 → forWM (tgName 7) (turnM A) P (l.map fun (i : Nat) => D.int (i : Nat)) (gB al n T L tw [s7, s8, s9, s10, s11, s12, s13, s14, s15, s16, s17]) μ
  | [], es, μ, s7, s8, s9, s10, s11, s12, s13, s14, s15, s16, s17, I, h1, _ => hk _ _ _ _ _ _ _ _ _ _ _ es μ I h1
  | i :: l, es, μ, s7, s8, s9, s10, s11, s12, s13, s14, s15, s16, s17, I, h1, h2 => by
    rw [List.length_cons] at h2
    exact turn_ok (P := { P with nx := forWM (tgName 7) (turnM A) P (l.map fun (i : Nat) => D.int (i : Nat)), ct := forWM (tgName 7) (turnM A) P (l.map fun (i : Nat) => D.int (i : Nat)), bk := P.nx }) X I h1 (by omega) fun s8 s9 s10 s11 s12 s13 s16 es' μ' I' a b => loop_ok X hk l es' μ' _ _ _ _ _ _ _ _ _ _ _ I' a (by omega)
theorem em_callM {n : Nat} {f : FSM} {tl : TL} {ds : List D} {k : KDM} {kx : KXM} (q : quiet Γ = true) (h : EvL tl Γ ds) (hl : ds.length = n) (z : f ds μ k kx) : tmCallM n f (tlmOf tl) Γ μ k kx := ⟨q, h _ _ ⟨hl, z⟩⟩
theorem em_new1 {t : MU.TM} {k : KDM} {kx : KXM} (h : t Γ μ (fun d μ1 => quiet Γ = true ∧ ([d] : List D).length ≤ 100000 ∧ ∀ q, (∀ e ∈ μ1, e.1 ≠ q) → k (.cls q) ((q, .d (.lst [d])) :: μ1)) kx) : tmNewL (tlmCons t tlmNil) Γ μ k kx := h
theorem em_sub {t : MU.TM} {k : KDM} {kx : KXM} (q : quiet Γ = true) (p : PurG μ Γ Γ') (h : t Γ' [] (fun d μ' => MU.flatD d = true ∧ (μ'.all fun e => flatLo e.2) = true ∧ ((∀ e ∈ μ', ∀ e0 ∈ μ, e.1 ≠ e0.1) → k d (μ' ++ μ))) (fun x _ => flatX x = true ∧ kx x μ)) : tmSub t Γ μ k kx := ⟨q, Γ', p, h⟩
theorem em_par {t1 : MU.TM} {i j : Nat} {B : D → Mu → Prop} {C : D → Prop} {pt : PL.TP} (h : EvMN t1 Γ μ B) (g : EvN pt Γ C) (n : ∀ d μ' e, B d μ' → C e → u P (gset (gset Γ i (.pu d)) j (.pu e)) μ') : tsmSeq (tsmPar [i, j] (tlmCons t1 (tlmCons (tmOf pt) tlmNil))) u P Γ μ := h _ _ fun d μ' hd => g _ _ fun e he => n d μ' e hd he
theorem em_for {ti : TL} {g : TGp} {b : TSM} {ds : List D} (h : EvL ti Γ ds) (n : forWM g b { P with nx := u P } ds Γ μ) : tsmSeq (tsmFor ti g b) u P Γ μ := h _ _ n
theorem inv0 {T L p t a : Addr} {qs : List Addr} {μn : Mu} (N : NewSt CS al rs p t qs μn) (dj : ∀ x ∈ μn, ∀ y ∈ [(T, Lo.d (.lst [.cls a])), (a, Lo.d (rowsD rs))], x.1 ≠ y.1) (aT : a ≠ T) (hL : ∀ x ∈ μn ++ [(T, Lo.d (.lst [.cls a])), (a, Lo.d (rowsD rs))], x.1 ≠ L) (g : StG al rs) (ln : rs.length = n) :
    Inv CS ((L, .d (.lst [.cls p])) :: (μn ++ [(T, Lo.d (.lst [.cls a])), (a, Lo.d (rowsD rs))])) al n T L [⟨p, t, a, qs, rs⟩] := by
  have mT : (T, Lo.d (.lst [.cls a])) ∈ μn ++ [(T, Lo.d (.lst [.cls a])), (a, Lo.d (rowsD rs))] := List.mem_append_right _ List.mem_cons_self
  have ma : (a, Lo.d (rowsD rs)) ∈ μn ++ [(T, Lo.d (.lst [.cls a])), (a, Lo.d (rowsD rs))] := List.mem_append_right _ (List.mem_cons_of_mem _ List.mem_cons_self)
  have one : ∀ {i : Nat} {e : Ent}, ([⟨p, t, a, qs, rs⟩] : List Ent)[i]? = some e → i = 0 ∧ e = ⟨p, t, a, qs, rs⟩ := fun {i e} h => by
    cases i with
    | zero => exact ⟨rfl, (Option.some.inj h).symm⟩
    | succ i => simp at h
  have kn : ∀ {x : Addr}, x ∈ p :: t :: qs → x ≠ T ∧ x ≠ a ∧ x ≠ L := fun {x} h => by
    obtain ⟨y, hy⟩ := N.st.key x h
    exact ⟨dj _ hy _ List.mem_cons_self, dj _ hy _ (List.mem_cons_of_mem _ List.mem_cons_self), hL _ (List.mem_append_left _ hy)⟩
  have ad : ∀ x, x ∈ (⟨p, t, a, qs, rs⟩ : Ent).ad → x ∈ p :: t :: qs ∨ x = a := fun x h => by
    rcases List.mem_cons.mp h with rfl | h
    · exact .inl List.mem_cons_self
    · rcases List.mem_cons.mp h with rfl | h
      · exact .inl (List.mem_cons_of_mem _ List.mem_cons_self)
      · rcases List.mem_cons.mp h with rfl | h
        · exact .inr rfl
        · exact .inl (List.mem_cons_of_mem _ (List.mem_cons_of_mem _ h))
  obtain ⟨d1, n2⟩ := List.nodup_cons.mp N.nd
  obtain ⟨d2, n3⟩ := List.nodup_cons.mp n2
  refine ⟨List.mem_cons_self, List.mem_cons_of_mem _ mT, fun i e h => ?_, hL _ mT, fun i e h => ?_, fun i j e f h h' ne => ?_⟩
  · obtain ⟨_, rfl⟩ := one h
    exact ⟨N.st.mono fun x hx => List.mem_cons_of_mem _ (List.mem_append_left _ hx), List.mem_cons_of_mem _ ma, g, ln⟩
  · obtain ⟨_, rfl⟩ := one h
    refine ⟨List.nodup_cons.mpr ⟨fun z => ?_, List.nodup_cons.mpr ⟨fun z => ?_, List.nodup_cons.mpr ⟨fun z => (kn (List.mem_cons_of_mem _ (List.mem_cons_of_mem _ z))).2.1 rfl, n3⟩⟩⟩, fun z => ?_, fun z => ?_⟩
    · rcases List.mem_cons.mp z with z | z
      · exact d1 (by rw [show p = t from z]; exact List.mem_cons_self)
      · rcases List.mem_cons.mp z with z | z
        · exact (kn List.mem_cons_self).2.1 z
        · exact d1 (List.mem_cons_of_mem _ z)
    · rcases List.mem_cons.mp z with z | z
      · exact (kn (List.mem_cons_of_mem _ List.mem_cons_self)).2.1 z
      · exact d2 z
    · rcases ad _ z with z | z
      · exact (kn z).1 rfl
      · exact aT z.symm
    · rcases ad _ z with z | z
      · exact (kn z).2.2 rfl
      · exact hL _ ma z.symm
  · exact absurd ((one h).1.trans (one h').1.symm) ne
theorem law_ok' {ds : List D} {kd : KD} {kx : KX} (X : AX A) : fsLaw ds kd kx → m_law A.KK A.C0 A.C1 A.C2 A.C3 A.C4 A.C5 A.C6 A.CN A.C8 A.C9 A.C10 A.C11 A.CS fsStart fsAlpha fsPull fsDrawn (fsSame 9) fsLedL (fsRows A.CS) (fsCallG A.CS) (fsEqG A.CS) (fsTwin A.CS) (fsStoM A.CS) (fsTwinM A.CS) (fsSetM A.CS A.CN) (fsChgM A.CS A.CN) fsLRowsM ds kd kx := by
  intro h0
  match ds, h0 with
  | [.scr], h =>
    let G0 : Ga := [.pu .scr, .un, .un, .un, .un, .un, .un, .un, .un, .un, .un, .un, .un, .un, .un, .un, .un, .un]
    have st : Ev (tpCall 1 fsStart (tlCons (tpVar 0) tlNil)) G0 .bag := ev_call (evl_1 (ev_var (i := 0) (d := .scr) rfl)) rfl fun k kx z => z
    refine em_setN (Γ := G0) (evn st) fun d e => ?_
    subst e
    let G1 : Ga := [.pu .scr, .pu .bag, .un, .un, .un, .un, .un, .un, .un, .un, .un, .un, .un, .un, .un, .un, .un, .un]
    have alp : EvN (tpCall 2 fsAlpha (tlCons (tpVar 1) (tlCons (tpC (.int 8)) tlNil))) G1 (fun d => ∃ s : List Nat, okA s ∧ d = .str s) := evn_call (evnl (evl_2 (ev_var rfl) (ev_c _))) fun ds hd => by
      subst hd
      exact ⟨rfl, fun k kx z => ⟨⟨by decide, by decide⟩, fun s s1 s2 s3 s4 => z _ ⟨s, ⟨List.length_pos_iff.mpr s1, by omega, s3, s4⟩, rfl⟩⟩⟩
    have pn : EvN (tpOp fAdd (tpC (.int 1)) (tpCall 2 fsPull (tlCons (tpVar 1) (tlCons (tpC (.int 9)) tlNil)))) G1 (fun d => ∃ n : Nat, (1 ≤ n ∧ n ≤ 9) ∧ d = .int (n : Nat)) := evn_op (evn (ev_c (.int 1))) (evn_pull (m := 9) (ev_var (d := .bag) rfl) (ev_c _) (by decide) (by decide)) fun x y hx ⟨r, r0, r1, hy⟩ k hk => by
      subst hx hy
      exact hk _ ⟨(1 + r).toNat, ⟨by omega, by omega⟩, by rw [show (((1 + r).toNat : Nat) : Int) = 1 + r by omega]⟩
    refine em_asgN (Γ := G1) (evn_tupN (evnl_cons alp (evnl_cons pn evnl_nil)) fun ds hd => ?_) fun d hd => ?_
    · obtain ⟨_, _, _, ⟨_, _, _, rfl, rfl⟩, rfl⟩ := hd
      show 2 ≤ 100000
      decide
    obtain ⟨ds, ⟨_, _, ⟨al, ok, rfl⟩, ⟨_, _, ⟨n, ⟨n1, n2⟩, rfl⟩, rfl, rfl⟩, rfl⟩, rfl⟩ := hd
    have a8 := ok.2.1
    let G2 : Ga := [.pu .scr, .pu .bag, .pu (.str al), .pu (.int (n : Nat)), .un, .un, .un, .un, .un, .un, .un, .un, .un, .un, .un, .un, .un, .un]
    refine em_setM (Γ := G2) (B := fun d μ' => ∃ T a rs, Tab n al.length rs ∧ a ≠ T ∧ d = .cls T ∧ μ' = [(T, .d (.lst [.cls a])), (a, .d (rowsD rs))]) (fun k kx z => ?_) fun d μ' ⟨T, a, rs, tab, aT, e1, e2⟩ => ?_
    · refine em_new1 (em_callM rfl (evl_3 (ev_var (i := 1) (d := .bag) rfl) (ev_var (i := 3) (d := .int (n : Nat)) rfl) (ev_lenS (ev_var (i := 2) (d := .str al) rfl) (Nat.le_trans a8 (by decide)))) rfl ⟨n, al.length, ⟨rfl, rfl, n1, by omega, by omega⟩, fun rs a tab ha => ⟨rfl, by show 1 ≤ 100000; decide, fun T hT => z _ _ ⟨T, a, rs, tab, ?_, rfl, rfl⟩⟩⟩)
      exact hT _ List.mem_cons_self
    subst e1 e2
    have g : StG al rs := ⟨ok, by rw [tab.hn]; exact tab, by rw [tab.hn]; exact n1, by rw [tab.hn]; omega⟩
    let G3 : Ga := [.pu .scr, .pu .bag, .pu (.str al), .pu (.int (n : Nat)), .pu (.cls T), .un, .un, .un, .un, .un, .un, .un, .un, .un, .un, .un, .un, .un]
    let G3' : Ga := [.pu .scr, .pu .bag, .pu (.str al), .pu (.int (n : Nat)), .pu (.lst [rowsD rs]), .un, .un, .un, .un, .un, .un, .un, .un, .un, .un, .un, .un, .un]
    have pg3 : PurG [(T, Lo.d (.lst [.cls a])), (a, Lo.d (rowsD rs))] G3 G3' := .pu (.keep _) (.pu (.keep _) (.pu (.keep _) (.pu (.keep _) (.pu (.lst List.mem_cons_self (.cons (.lst (List.mem_cons_of_mem _ List.mem_cons_self) (purL_refl _)) .nil)) (pgK rfl)))))
    refine em_par (Γ := G3) (i := 5) (j := 6) (B := fun d μ' => ∃ L p t qs μn, NewSt A.CS al rs p t qs μn ∧ (∀ x ∈ μn, ∀ y ∈ [(T, Lo.d (.lst [.cls a])), (a, Lo.d (rowsD rs))], x.1 ≠ y.1) ∧ (∀ x ∈ μn ++ [(T, Lo.d (.lst [.cls a])), (a, Lo.d (rowsD rs))], x.1 ≠ L) ∧ d = .cls L ∧ μ' = (L, .d (.lst [.cls p])) :: (μn ++ [(T, Lo.d (.lst [.cls a])), (a, Lo.d (rowsD rs))])) (C := fun d => ∃ z : Int, d = .int z) (fun k kx z => ?_) (evn_imp (evn_pull (m := 10) (ev_var (i := 1) (d := .bag) rfl) (ev_c _) (by decide) (by decide)) fun d ⟨r, _, _, e⟩ => ⟨r, e⟩) fun d μ' e ⟨L, p, t, qs, μn, N, dj, hL, e1, e2⟩ ⟨tw, e3⟩ => ?_
    · refine em_new1 (em_sub rfl pg3 (em_make (Γ := G3') (evl_2 (ev_var (i := 2) (d := .str al) rfl) (ev_ixL (ev_var (i := 4) rfl) (ev_c _) at0)) rfl rfl fun p _ => ⟨rs, ⟨rfl, .inl rfl, g⟩, fun t qs μn N => ⟨rfl, rfl, N.fl, fun dj => ⟨rfl, by show 1 ≤ 100000; decide, fun L hL => z _ _ ⟨L, p, t, qs, μn, N, dj, hL, rfl, rfl⟩⟩⟩⟩))
    subst e1 e2 e3
    refine em_for (evl_rng1 (z := 20) (ev_c (.int ((20 : Nat) : Int))) (by decide)) ?_
    exact loop_ok X (fun s7 s8 s9 s10 s11 s12 s13 s14 s15 s16 s17 es' μ' I' l' => tail_ok I' l' fun _ _ => h) (List.range 20) _ _ _ _ _ _ _ _ _ _ _ _ _ (inv0 N dj aT hL g tab.hn) (Nat.le_refl _) (by rw [List.length_range]; show 1 + 20 ≤ 90; decide)
end
end K23
set_option Elab.async false
set_option linter.all false
set_option maxRecDepth 100000
set_option maxHeartbeats 8000000
namespace K23
open PySem L2 PL MU
abbrev s_law_start : Stmt := top 31
theorem sc_law_start : FnScope ["_law_script"] ["_law_script"] (defScope s_law_start) := ⟨rfl, rfl, rfl, by decide +kernel, rfl, by decide +kernel, by decide +kernel⟩
section
variable {P : Program} {w : World} {K : PySem.W.Frag} {mg : PySem.Str → Option Value} {base : Heap} {C : Cls}
theorem ok_law_start [Tabl] {f : Addr} {fd : FuncData} (F : Fun K "_law_start" "_law_start" s_law_start f fd) (T : Txt P K mg C) : FnOk P w K mg base (L2.CX P w) (0 + 1) f fd ["_law_script"] (spOf K 1 fsStart) :=
  start_ok F sc_law_start rfl fun cdv A outer s H E => pss_one (ps_ret (pe_lst (pa_cons (pe_callTy call_list_of (by rfl) T.b_list (by decide +kernel) (pa_cons (pe_slice sl_list (pv 0) po_none (po_some pe_int)) pa_nil)) (pa_cons pe_int (pa_cons pe_int (pa_cons (pe_op op_add pe_int (pe_callB call_len (by rfl) T.b_len (by decide +kernel) (pa_cons (pv 0) pa_nil))) pa_nil))))))
end
theorem xtext_InvalidDeed : PySem.ExcX.XText (inClass (top 4) 0) "InvalidDeed" "given" :=
  ⟨⟨_, _, rfl⟩, ⟨_, _, _, _, _, _, _, _, _, _, _, _, _, _, rfl, fun env => ⟨_, rfl⟩⟩, rfl, by decide, by decide, by decide, by decide, by decide, by decide, fun _ _ _ _ _ _ _ _ _ _ _ => rfl⟩
theorem xtext_InvalidDeeds : PySem.ExcX.XText (inClass (top 5) 0) "InvalidDeeds" "given" :=
  ⟨⟨_, _, rfl⟩, ⟨_, _, _, _, _, _, _, _, _, _, _, _, _, _, rfl, fun env => ⟨_, rfl⟩⟩, rfl, by decide, by decide, by decide, by decide, by decide, by decide, fun _ _ _ _ _ _ _ _ _ _ _ => rfl⟩
theorem xtext_InvalidLog : PySem.ExcX.XText (inClass (top 6) 0) "InvalidLog" "given" :=
  ⟨⟨_, _, rfl⟩, ⟨_, _, _, _, _, _, _, _, _, _, _, _, _, _, rfl, fun env => ⟨_, rfl⟩⟩, rfl, by decide, by decide, by decide, by decide, by decide, by decide, fun _ _ _ _ _ _ _ _ _ _ _ => rfl⟩
theorem xtext_InvalidStand : PySem.ExcX.XText (inClass (top 9) 0) "InvalidStand" "given" :=
  ⟨⟨_, _, rfl⟩, ⟨_, _, _, _, _, _, _, _, _, _, _, _, _, _, rfl, fun env => ⟨_, rfl⟩⟩, rfl, by decide, by decide, by decide, by decide, by decide, by decide, fun _ _ _ _ _ _ _ _ _ _ _ => rfl⟩
theorem xtext_InvalidStore : PySem.ExcX.XText (inClass (top 8) 0) "InvalidStore" "index" :=
  ⟨⟨_, _, rfl⟩, ⟨_, _, _, _, _, _, _, _, _, _, _, _, _, _, rfl, fun env => ⟨_, rfl⟩⟩, rfl, by decide, by decide, by decide, by decide, by decide, by decide, fun _ _ _ _ _ _ _ _ _ _ _ => rfl⟩
theorem xtext_TooMany : PySem.ExcX.XText (inClass (top 12) 0) "TooMany" "most" :=
  ⟨⟨_, _, rfl⟩, ⟨_, _, _, _, _, _, _, _, _, _, _, _, _, _, rfl, fun env => ⟨_, rfl⟩⟩, rfl, by decide, by decide, by decide, by decide, by decide, by decide, fun _ _ _ _ _ _ _ _ _ _ _ => rfl⟩
theorem all_mk {l : PySem.W.OpenLaw} {w : World} {K : PySem.W.Frag} {h : Heap} {mg : PySem.Str → Option Value} {fa : Addr} (KX : K.In h) (G : h.Ns mainGlobals mg) (hfa : mg "law" = some (.ref fa))
    {C_Store : Addr} {pfa_Store___call__ : Addr} {f_is_number : Addr} {oc_is_number kV_is_number dc_is_number pm_is_number cd_is_number ct_is_number : Value} {od_is_number an_is_number : Option Addr} {sl_is_number : Array (Option Value)} {f_is_within : Addr} {oc_is_within kV_is_within dc_is_within pm_is_within cd_is_within ct_is_within : Value} {od_is_within an_is_within : Option Addr} {sl_is_within : Array (Option Value)} {f_is_log : Addr} {oc_is_log kV_is_log dc_is_log pm_is_log cd_is_log ct_is_log : Value} {od_is_log an_is_log : Option Addr} {sl_is_log : Array (Option Value)} {f_is_log_of : Addr} {oc_is_log_of kV_is_log_of dc_is_log_of pm_is_log_of cd_is_log_of ct_is_log_of : Value} {od_is_log_of an_is_log_of : Option Addr} {sl_is_log_of : Array (Option Value)} {f_is_ascending : Addr} {oc_is_ascending kV_is_ascending dc_is_ascending pm_is_ascending cd_is_ascending ct_is_ascending : Value} {od_is_ascending an_is_ascending : Option Addr} {sl_is_ascending : Array (Option Value)} {f_is_deeds : Addr} {oc_is_deeds kV_is_deeds dc_is_deeds pm_is_deeds cd_is_deeds ct_is_deeds : Value} {od_is_deeds an_is_deeds : Option Addr} {sl_is_deeds : Array (Option Value)} {f_need_log_of : Addr} {oc_need_log_of kV_need_log_of dc_need_log_of pm_need_log_of cd_need_log_of ct_need_log_of : Value} {od_need_log_of an_need_log_of : Option Addr} {sl_need_log_of : Array (Option Value)} {f_need_deeds : Addr} {oc_need_deeds kV_need_deeds dc_need_deeds pm_need_deeds cd_need_deeds ct_need_deeds : Value} {od_need_deeds an_need_deeds : Option Addr} {sl_need_deeds : Array (Option Value)} {f_need_rows : Addr} {oc_need_rows kV_need_rows dc_need_rows pm_need_rows cd_need_rows ct_need_rows : Value} {od_need_rows an_need_rows : Option Addr} {sl_need_rows : Array (Option Value)} {f_place_of : Addr} {oc_place_of kV_place_of dc_place_of pm_place_of cd_place_of ct_place_of : Value} {od_place_of an_place_of : Option Addr} {sl_place_of : Array (Option Value)} {f_Store___init__ : Addr} {oc_Store___init__ kV_Store___init__ dc_Store___init__ pm_Store___init__ cd_Store___init__ ct_Store___init__ : Value} {od_Store___init__ an_Store___init__ : Option Addr} {sl_Store___init__ : Array (Option Value)} {f_Store_rows : Addr} {oc_Store_rows kV_Store_rows dc_Store_rows pm_Store_rows cd_Store_rows ct_Store_rows : Value} {od_Store_rows an_Store_rows : Option Addr} {sl_Store_rows : Array (Option Value)} {f_Store_need_stand : Addr} {oc_Store_need_stand kV_Store_need_stand dc_Store_need_stand pm_Store_need_stand cd_Store_need_stand ct_Store_need_stand : Value} {od_Store_need_stand an_Store_need_stand : Option Addr} {sl_Store_need_stand : Array (Option Value)} {f_Store_need_deed : Addr} {oc_Store_need_deed kV_Store_need_deed dc_Store_need_deed pm_Store_need_deed cd_Store_need_deed ct_Store_need_deed : Value} {od_Store_need_deed an_Store_need_deed : Option Addr} {sl_Store_need_deed : Array (Option Value)} {f_Store_led : Addr} {oc_Store_led kV_Store_led dc_Store_led pm_Store_led cd_Store_led ct_Store_led : Value} {od_Store_led an_Store_led : Option Addr} {sl_Store_led : Array (Option Value)} {f_Store___call__ : Addr} {oc_Store___call__ kV_Store___call__ dc_Store___call__ pm_Store___call__ cd_Store___call__ ct_Store___call__ : Value} {od_Store___call__ an_Store___call__ : Option Addr} {sl_Store___call__ : Array (Option Value)} {f_Store_change : Addr} {oc_Store_change kV_Store_change dc_Store_change pm_Store_change cd_Store_change ct_Store_change : Value} {od_Store_change an_Store_change : Option Addr} {sl_Store_change : Array (Option Value)} {f_Store___setitem__ : Addr} {oc_Store___setitem__ kV_Store___setitem__ dc_Store___setitem__ pm_Store___setitem__ cd_Store___setitem__ ct_Store___setitem__ : Value} {od_Store___setitem__ an_Store___setitem__ : Option Addr} {sl_Store___setitem__ : Array (Option Value)} {f_Store_twin : Addr} {oc_Store_twin kV_Store_twin dc_Store_twin pm_Store_twin cd_Store_twin ct_Store_twin : Value} {od_Store_twin an_Store_twin : Option Addr} {sl_Store_twin : Array (Option Value)} {f_Store___eq__ : Addr} {oc_Store___eq__ kV_Store___eq__ dc_Store___eq__ pm_Store___eq__ cd_Store___eq__ ct_Store___eq__ : Value} {od_Store___eq__ an_Store___eq__ : Option Addr} {sl_Store___eq__ : Array (Option Value)} {f_law_pull : Addr} {oc_law_pull kV_law_pull dc_law_pull pm_law_pull cd_law_pull ct_law_pull : Value} {od_law_pull an_law_pull : Option Addr} {sl_law_pull : Array (Option Value)} {f_law_pick : Addr} {oc_law_pick kV_law_pick dc_law_pick pm_law_pick cd_law_pick ct_law_pick : Value} {od_law_pick an_law_pick : Option Addr} {sl_law_pick : Array (Option Value)} {f_law_letters : Addr} {oc_law_letters kV_law_letters dc_law_letters pm_law_letters cd_law_letters ct_law_letters : Value} {od_law_letters an_law_letters : Option Addr} {sl_law_letters : Array (Option Value)} {f_law_alphabet : Addr} {oc_law_alphabet kV_law_alphabet dc_law_alphabet pm_law_alphabet cd_law_alphabet ct_law_alphabet : Value} {od_law_alphabet an_law_alphabet : Option Addr} {sl_law_alphabet : Array (Option Value)} {f_law_rows : Addr} {oc_law_rows kV_law_rows dc_law_rows pm_law_rows cd_law_rows ct_law_rows : Value} {od_law_rows an_law_rows : Option Addr} {sl_law_rows : Array (Option Value)} {f_law_ask : Addr} {oc_law_ask kV_law_ask dc_law_ask pm_law_ask cd_law_ask ct_law_ask : Value} {od_law_ask an_law_ask : Option Addr} {sl_law_ask : Array (Option Value)} {f_law_drawn : Addr} {oc_law_drawn kV_law_drawn dc_law_drawn pm_law_drawn cd_law_drawn ct_law_drawn : Value} {od_law_drawn an_law_drawn : Option Addr} {sl_law_drawn : Array (Option Value)} {f_law_same : Addr} {oc_law_same kV_law_same dc_law_same pm_law_same cd_law_same ct_law_same : Value} {od_law_same an_law_same : Option Addr} {sl_law_same : Array (Option Value)} {f_law_led : Addr} {oc_law_led kV_law_led dc_law_led pm_law_led cd_law_led ct_law_led : Value} {od_law_led an_law_led : Option Addr} {sl_law_led : Array (Option Value)} {f_law c_law Pt : Addr} {oc_law kV_law dc_law pm_law ct_law : Value} {od_law an_law : Option Addr} {sl_law : Array (Option Value)} {f_law_start : Addr} {oc_law_start kV_law_start dc_law_start pm_law_start cd_law_start ct_law_start : Value} {od_law_start an_law_start : Option Addr} {sl_law_start : Array (Option Value)} {ccl_law : Value} {cdd_law : Option Addr} {vs_law : Array Value} {ccs_law : Array (Option Value)} {t_LETTERS : Tok} {t_MOST_DEEDS : Tok} {t_MOST_STANDS : Tok} {C_LogError : Addr} {C_Missing : Addr} {C_InvalidDeed : Addr} {C_InvalidDeeds : Addr} {C_InvalidLog : Addr} {C_InvalidStep : Addr} {C_InvalidStore : Addr} {C_InvalidStand : Addr} {C_InvalidNumber : Addr} {C_InvalidCount : Addr} {C_TooMany : Addr} {C_NothingLeft : Addr} {nm_InvalidDeed q_InvalidDeed : PySem.Str} {N_InvalidDeed : Addr} {bs_InvalidDeed bm_InvalidDeed : List Value} {sn_InvalidDeed : List PySem.Str} {sub_InvalidDeed : List Value} {ab_InvalidDeed : Bool} {col_InvalidDeed : Option Bool} {dd_InvalidDeed : Option Addr} {m0_InvalidDeed m1_InvalidDeed m2_InvalidDeed m3_InvalidDeed m5_InvalidDeed : Option Value} {fI_InvalidDeed cda_InvalidDeed cc_InvalidDeed : Addr} {oc_InvalidDeed dc_InvalidDeed pm_InvalidDeed ct_InvalidDeed ccl_InvalidDeed cl_InvalidDeed : Value} {od_InvalidDeed an_InvalidDeed cdd_InvalidDeed cld_InvalidDeed : Option Addr} {sl_InvalidDeed ccs_InvalidDeed csl_InvalidDeed : Array (Option Value)} {vs_InvalidDeed : Array Value} {fl_InvalidDeed : PySem.Str} {tf_InvalidDeed : Tok} {nm_InvalidDeeds q_InvalidDeeds : PySem.Str} {N_InvalidDeeds : Addr} {bs_InvalidDeeds bm_InvalidDeeds : List Value} {sn_InvalidDeeds : List PySem.Str} {sub_InvalidDeeds : List Value} {ab_InvalidDeeds : Bool} {col_InvalidDeeds : Option Bool} {dd_InvalidDeeds : Option Addr} {m0_InvalidDeeds m1_InvalidDeeds m2_InvalidDeeds m3_InvalidDeeds m5_InvalidDeeds : Option Value} {fI_InvalidDeeds cda_InvalidDeeds cc_InvalidDeeds : Addr} {oc_InvalidDeeds dc_InvalidDeeds pm_InvalidDeeds ct_InvalidDeeds ccl_InvalidDeeds cl_InvalidDeeds : Value} {od_InvalidDeeds an_InvalidDeeds cdd_InvalidDeeds cld_InvalidDeeds : Option Addr} {sl_InvalidDeeds ccs_InvalidDeeds csl_InvalidDeeds : Array (Option Value)} {vs_InvalidDeeds : Array Value} {fl_InvalidDeeds : PySem.Str} {tf_InvalidDeeds : Tok} {nm_InvalidLog q_InvalidLog : PySem.Str} {N_InvalidLog : Addr} {bs_InvalidLog bm_InvalidLog : List Value} {sn_InvalidLog : List PySem.Str} {sub_InvalidLog : List Value} {ab_InvalidLog : Bool} {col_InvalidLog : Option Bool} {dd_InvalidLog : Option Addr} {m0_InvalidLog m1_InvalidLog m2_InvalidLog m3_InvalidLog m5_InvalidLog : Option Value} {fI_InvalidLog cda_InvalidLog cc_InvalidLog : Addr} {oc_InvalidLog dc_InvalidLog pm_InvalidLog ct_InvalidLog ccl_InvalidLog cl_InvalidLog : Value} {od_InvalidLog an_InvalidLog cdd_InvalidLog cld_InvalidLog : Option Addr} {sl_InvalidLog ccs_InvalidLog csl_InvalidLog : Array (Option Value)} {vs_InvalidLog : Array Value} {fl_InvalidLog : PySem.Str} {tf_InvalidLog : Tok} {nm_InvalidStand q_InvalidStand : PySem.Str} {N_InvalidStand : Addr} {bs_InvalidStand bm_InvalidStand : List Value} {sn_InvalidStand : List PySem.Str} {sub_InvalidStand : List Value} {ab_InvalidStand : Bool} {col_InvalidStand : Option Bool} {dd_InvalidStand : Option Addr} {m0_InvalidStand m1_InvalidStand m2_InvalidStand m3_InvalidStand m5_InvalidStand : Option Value} {fI_InvalidStand cda_InvalidStand cc_InvalidStand : Addr} {oc_InvalidStand dc_InvalidStand pm_InvalidStand ct_InvalidStand ccl_InvalidStand cl_InvalidStand : Value} {od_InvalidStand an_InvalidStand cdd_InvalidStand cld_InvalidStand : Option Addr} {sl_InvalidStand ccs_InvalidStand csl_InvalidStand : Array (Option Value)} {vs_InvalidStand : Array Value} {fl_InvalidStand : PySem.Str} {tf_InvalidStand : Tok} {nm_InvalidStore q_InvalidStore : PySem.Str} {N_InvalidStore : Addr} {bs_InvalidStore bm_InvalidStore : List Value} {sn_InvalidStore : List PySem.Str} {sub_InvalidStore : List Value} {ab_InvalidStore : Bool} {col_InvalidStore : Option Bool} {dd_InvalidStore : Option Addr} {m0_InvalidStore m1_InvalidStore m2_InvalidStore m3_InvalidStore m5_InvalidStore : Option Value} {fI_InvalidStore cda_InvalidStore cc_InvalidStore : Addr} {oc_InvalidStore dc_InvalidStore pm_InvalidStore ct_InvalidStore ccl_InvalidStore cl_InvalidStore : Value} {od_InvalidStore an_InvalidStore cdd_InvalidStore cld_InvalidStore : Option Addr} {sl_InvalidStore ccs_InvalidStore csl_InvalidStore : Array (Option Value)} {vs_InvalidStore : Array Value} {fl_InvalidStore : PySem.Str} {tf_InvalidStore : Tok} {nm_TooMany q_TooMany : PySem.Str} {N_TooMany : Addr} {bs_TooMany bm_TooMany : List Value} {sn_TooMany : List PySem.Str} {sub_TooMany : List Value} {ab_TooMany : Bool} {col_TooMany : Option Bool} {dd_TooMany : Option Addr} {m0_TooMany m1_TooMany m2_TooMany m3_TooMany m5_TooMany : Option Value} {fI_TooMany cda_TooMany cc_TooMany : Addr} {oc_TooMany dc_TooMany pm_TooMany ct_TooMany ccl_TooMany cl_TooMany : Value} {od_TooMany an_TooMany cdd_TooMany cld_TooMany : Option Addr} {sl_TooMany ccs_TooMany csl_TooMany : Array (Option Value)} {vs_TooMany : Array Value} {fl_TooMany : PySem.Str} {tf_TooMany : Tok}
    (tb : h.get? Pt = some (PySem.W.tabObj #[]))
    (g_Store : PySem.W.nsIn K mainGlobals "Store" = some (some (.ref C_Store)))
    (kg_Store : PySem.W.plainGet K C_Store PySem.Str.empty = true)
    (kh_Store : PySem.W.hasDictIn K C_Store = true)
    (ko_Store : PySem.W.plainOver K C_Store = true)
    (ks_Store : PySem.W.findIn K (.ref C_Store) "__setattr__" = some (some (.builtin "object.__setattr__")))
    (fn_Store_own_deeds : PySem.W.findIn K (.ref C_Store) "own_deeds" = some none)
    (fn_Store_table : PySem.W.findIn K (.ref C_Store) "table" = some none)
    (fai_Store_Store : PySem.W.findIn K (.ref C_Store) "__class__" = some (some (.builtin "object.__class__")))
    (fci_Store_Store : PySem.W.mroIn K C_Store (.type "object") = some true)
    (fdi_Store_Store : PySem.W.kitOne K (.ref C_Store) (.ref C_Store) = some true)
    (isn : PySem.W.specialIn K (.builtin "object.__class__") "__get__" = some (some (.builtin "getset_descriptor.__get__")))
    (isk : PySem.W.takesIn K (.builtin "object.__class__") = some true)
    (foc_Store : ((PySem.W.clsIn K C_Store).isSome && PySem.W.typeIn K (.ref C_Store) == some (.type "type")) = true)
    (fns_Store : PySem.W.noSeq K C_Store = true)
    (fafa_Store___call__ : PySem.W.findIn K (.ref C_Store) "__call__" = some (some (.ref pfa_Store___call__)))
    (fbfa_Store___call__ : PySem.W.fnIn K pfa_Store___call__ = true)
    (fsub_Store_Store : PySem.W.subIn K (.ref C_Store) (.ref C_Store) = some true)
    (ma_Store_need_stand : PySem.W.findIn K (.ref C_Store) "need_stand" = some (some (.ref f_Store_need_stand)))
    (mf_Store_need_stand : PySem.W.isFn K (.ref f_Store_need_stand) = true)
    (mk_Store_need_stand : PySem.W.keepIn K (.ref f_Store_need_stand) = true)
    (ma_Store_led : PySem.W.findIn K (.ref C_Store) "led" = some (some (.ref f_Store_led)))
    (mf_Store_led : PySem.W.isFn K (.ref f_Store_led) = true)
    (mk_Store_led : PySem.W.keepIn K (.ref f_Store_led) = true)
    (ma_Store_need_deed : PySem.W.findIn K (.ref C_Store) "need_deed" = some (some (.ref f_Store_need_deed)))
    (mf_Store_need_deed : PySem.W.isFn K (.ref f_Store_need_deed) = true)
    (mk_Store_need_deed : PySem.W.keepIn K (.ref f_Store_need_deed) = true)
    (ma_Store_change : PySem.W.findIn K (.ref C_Store) "change" = some (some (.ref f_Store_change)))
    (mf_Store_change : PySem.W.isFn K (.ref f_Store_change) = true)
    (mk_Store_change : PySem.W.keepIn K (.ref f_Store_change) = true)
    (ia_Store : PySem.W.makesIn K C_Store = true)
    (ib_Store : PySem.W.findIn K (.ref C_Store) "__init__" = some (some (.ref f_Store___init__)))
    (ic_Store : PySem.W.isFn K (.ref f_Store___init__) = true)
    (id_Store : PySem.W.keepIn K (.ref C_Store) = true)
    (ma_Store_rows : PySem.W.findIn K (.ref C_Store) "rows" = some (some (.ref f_Store_rows)))
    (mf_Store_rows : PySem.W.isFn K (.ref f_Store_rows) = true)
    (mk_Store_rows : PySem.W.keepIn K (.ref f_Store_rows) = true)
    (ma_Store_twin : PySem.W.findIn K (.ref C_Store) "twin" = some (some (.ref f_Store_twin)))
    (mf_Store_twin : PySem.W.isFn K (.ref f_Store_twin) = true)
    (mk_Store_twin : PySem.W.keepIn K (.ref f_Store_twin) = true)
    (ma_Store___setitem__ : PySem.W.findIn K (.ref C_Store) "__setitem__" = some (some (.ref f_Store___setitem__)))
    (mf_Store___setitem__ : PySem.W.isFn K (.ref f_Store___setitem__) = true)
    (mk_Store___setitem__ : PySem.W.keepIn K (.ref f_Store___setitem__) = true)
    (ma_Store___call__ : PySem.W.findIn K (.ref C_Store) "__call__" = some (some (.ref f_Store___call__)))
    (mf_Store___call__ : PySem.W.isFn K (.ref f_Store___call__) = true)
    (mk_Store___call__ : PySem.W.keepIn K (.ref f_Store___call__) = true)
    (ma_Store___eq__ : PySem.W.findIn K (.ref C_Store) "__eq__" = some (some (.ref f_Store___eq__)))
    (mf_Store___eq__ : PySem.W.isFn K (.ref f_Store___eq__) = true)
    (mk_Store___eq__ : PySem.W.keepIn K (.ref f_Store___eq__) = true)
    (a_is_number : PySem.W.nsIn K mainGlobals "is_number" = some (some (.ref f_is_number)))
    (l_is_number : K.lookup f_is_number = some ⟨oc_is_number, od_is_number, .func (PySem.W.fnOf "is_number" "is_number" (defArgs s_is_number) (defBody s_is_number) (defScope s_is_number) .none kV_is_number dc_is_number pm_is_number an_is_number cd_is_number ct_is_number), sl_is_number⟩)
    (c_is_number_ : PySem.W.codeIn K cd_is_number "is_number" = true)
    (k_is_number : PySem.W.keepIn K (.ref f_is_number) = true)
    (a_is_within : PySem.W.nsIn K mainGlobals "is_within" = some (some (.ref f_is_within)))
    (l_is_within : K.lookup f_is_within = some ⟨oc_is_within, od_is_within, .func (PySem.W.fnOf "is_within" "is_within" (defArgs s_is_within) (defBody s_is_within) (defScope s_is_within) .none kV_is_within dc_is_within pm_is_within an_is_within cd_is_within ct_is_within), sl_is_within⟩)
    (c_is_within_ : PySem.W.codeIn K cd_is_within "is_within" = true)
    (k_is_within : PySem.W.keepIn K (.ref f_is_within) = true)
    (a_is_log : PySem.W.nsIn K mainGlobals "is_log" = some (some (.ref f_is_log)))
    (l_is_log : K.lookup f_is_log = some ⟨oc_is_log, od_is_log, .func (PySem.W.fnOf "is_log" "is_log" (defArgs s_is_log) (defBody s_is_log) (defScope s_is_log) .none kV_is_log dc_is_log pm_is_log an_is_log cd_is_log ct_is_log), sl_is_log⟩)
    (c_is_log_ : PySem.W.codeIn K cd_is_log "is_log" = true)
    (k_is_log : PySem.W.keepIn K (.ref f_is_log) = true)
    (a_is_log_of : PySem.W.nsIn K mainGlobals "is_log_of" = some (some (.ref f_is_log_of)))
    (l_is_log_of : K.lookup f_is_log_of = some ⟨oc_is_log_of, od_is_log_of, .func (PySem.W.fnOf "is_log_of" "is_log_of" (defArgs s_is_log_of) (defBody s_is_log_of) (defScope s_is_log_of) .none kV_is_log_of dc_is_log_of pm_is_log_of an_is_log_of cd_is_log_of ct_is_log_of), sl_is_log_of⟩)
    (c_is_log_of_ : PySem.W.codeIn K cd_is_log_of "is_log_of" = true)
    (k_is_log_of : PySem.W.keepIn K (.ref f_is_log_of) = true)
    (a_is_ascending : PySem.W.nsIn K mainGlobals "is_ascending" = some (some (.ref f_is_ascending)))
    (l_is_ascending : K.lookup f_is_ascending = some ⟨oc_is_ascending, od_is_ascending, .func (PySem.W.fnOf "is_ascending" "is_ascending" (defArgs s_is_ascending) (defBody s_is_ascending) (defScope s_is_ascending) .none kV_is_ascending dc_is_ascending pm_is_ascending an_is_ascending cd_is_ascending ct_is_ascending), sl_is_ascending⟩)
    (c_is_ascending_ : PySem.W.codeIn K cd_is_ascending "is_ascending" = true)
    (k_is_ascending : PySem.W.keepIn K (.ref f_is_ascending) = true)
    (a_is_deeds : PySem.W.nsIn K mainGlobals "is_deeds" = some (some (.ref f_is_deeds)))
    (l_is_deeds : K.lookup f_is_deeds = some ⟨oc_is_deeds, od_is_deeds, .func (PySem.W.fnOf "is_deeds" "is_deeds" (defArgs s_is_deeds) (defBody s_is_deeds) (defScope s_is_deeds) .none kV_is_deeds dc_is_deeds pm_is_deeds an_is_deeds cd_is_deeds ct_is_deeds), sl_is_deeds⟩)
    (c_is_deeds_ : PySem.W.codeIn K cd_is_deeds "is_deeds" = true)
    (k_is_deeds : PySem.W.keepIn K (.ref f_is_deeds) = true)
    (a_need_log_of : PySem.W.nsIn K mainGlobals "need_log_of" = some (some (.ref f_need_log_of)))
    (l_need_log_of : K.lookup f_need_log_of = some ⟨oc_need_log_of, od_need_log_of, .func (PySem.W.fnOf "need_log_of" "need_log_of" (defArgs s_need_log_of) (defBody s_need_log_of) (defScope s_need_log_of) .none kV_need_log_of dc_need_log_of pm_need_log_of an_need_log_of cd_need_log_of ct_need_log_of), sl_need_log_of⟩)
    (c_need_log_of_ : PySem.W.codeIn K cd_need_log_of "need_log_of" = true)
    (k_need_log_of : PySem.W.keepIn K (.ref f_need_log_of) = true)
    (a_need_deeds : PySem.W.nsIn K mainGlobals "need_deeds" = some (some (.ref f_need_deeds)))
    (l_need_deeds : K.lookup f_need_deeds = some ⟨oc_need_deeds, od_need_deeds, .func (PySem.W.fnOf "need_deeds" "need_deeds" (defArgs s_need_deeds) (defBody s_need_deeds) (defScope s_need_deeds) .none kV_need_deeds dc_need_deeds pm_need_deeds an_need_deeds cd_need_deeds ct_need_deeds), sl_need_deeds⟩)
    (c_need_deeds_ : PySem.W.codeIn K cd_need_deeds "need_deeds" = true)
    (k_need_deeds : PySem.W.keepIn K (.ref f_need_deeds) = true)
    (a_need_rows : PySem.W.nsIn K mainGlobals "need_rows" = some (some (.ref f_need_rows)))
    (l_need_rows : K.lookup f_need_rows = some ⟨oc_need_rows, od_need_rows, .func (PySem.W.fnOf "need_rows" "need_rows" (defArgs s_need_rows) (defBody s_need_rows) (defScope s_need_rows) .none kV_need_rows dc_need_rows pm_need_rows an_need_rows cd_need_rows ct_need_rows), sl_need_rows⟩)
    (c_need_rows_ : PySem.W.codeIn K cd_need_rows "need_rows" = true)
    (k_need_rows : PySem.W.keepIn K (.ref f_need_rows) = true)
    (a_place_of : PySem.W.nsIn K mainGlobals "place_of" = some (some (.ref f_place_of)))
    (l_place_of : K.lookup f_place_of = some ⟨oc_place_of, od_place_of, .func (PySem.W.fnOf "place_of" "place_of" (defArgs s_place_of) (defBody s_place_of) (defScope s_place_of) .none kV_place_of dc_place_of pm_place_of an_place_of cd_place_of ct_place_of), sl_place_of⟩)
    (c_place_of_ : PySem.W.codeIn K cd_place_of "place_of" = true)
    (k_place_of : PySem.W.keepIn K (.ref f_place_of) = true)
    (l_Store___init__ : K.lookup f_Store___init__ = some ⟨oc_Store___init__, od_Store___init__, .func (PySem.W.fnOf "__init__" "Store.__init__" (defArgs s_Store___init__) (defBody s_Store___init__) (defScope s_Store___init__) .none kV_Store___init__ dc_Store___init__ pm_Store___init__ an_Store___init__ cd_Store___init__ ct_Store___init__), sl_Store___init__⟩)
    (c_Store___init___ : PySem.W.codeIn K cd_Store___init__ "Store.__init__" = true)
    (k_Store___init__ : PySem.W.keepIn K (.ref f_Store___init__) = true)
    (l_Store_rows : K.lookup f_Store_rows = some ⟨oc_Store_rows, od_Store_rows, .func (PySem.W.fnOf "rows" "Store.rows" (defArgs s_Store_rows) (defBody s_Store_rows) (defScope s_Store_rows) .none kV_Store_rows dc_Store_rows pm_Store_rows an_Store_rows cd_Store_rows ct_Store_rows), sl_Store_rows⟩)
    (c_Store_rows_ : PySem.W.codeIn K cd_Store_rows "Store.rows" = true)
    (l_Store_need_stand : K.lookup f_Store_need_stand = some ⟨oc_Store_need_stand, od_Store_need_stand, .func (PySem.W.fnOf "need_stand" "Store.need_stand" (defArgs s_Store_need_stand) (defBody s_Store_need_stand) (defScope s_Store_need_stand) .none kV_Store_need_stand dc_Store_need_stand pm_Store_need_stand an_Store_need_stand cd_Store_need_stand ct_Store_need_stand), sl_Store_need_stand⟩)
    (c_Store_need_stand_ : PySem.W.codeIn K cd_Store_need_stand "Store.need_stand" = true)
    (l_Store_need_deed : K.lookup f_Store_need_deed = some ⟨oc_Store_need_deed, od_Store_need_deed, .func (PySem.W.fnOf "need_deed" "Store.need_deed" (defArgs s_Store_need_deed) (defBody s_Store_need_deed) (defScope s_Store_need_deed) .none kV_Store_need_deed dc_Store_need_deed pm_Store_need_deed an_Store_need_deed cd_Store_need_deed ct_Store_need_deed), sl_Store_need_deed⟩)
    (c_Store_need_deed_ : PySem.W.codeIn K cd_Store_need_deed "Store.need_deed" = true)
    (l_Store_led : K.lookup f_Store_led = some ⟨oc_Store_led, od_Store_led, .func (PySem.W.fnOf "led" "Store.led" (defArgs s_Store_led) (defBody s_Store_led) (defScope s_Store_led) .none kV_Store_led dc_Store_led pm_Store_led an_Store_led cd_Store_led ct_Store_led), sl_Store_led⟩)
    (c_Store_led_ : PySem.W.codeIn K cd_Store_led "Store.led" = true)
    (l_Store___call__ : K.lookup f_Store___call__ = some ⟨oc_Store___call__, od_Store___call__, .func (PySem.W.fnOf "__call__" "Store.__call__" (defArgs s_Store___call__) (defBody s_Store___call__) (defScope s_Store___call__) .none kV_Store___call__ dc_Store___call__ pm_Store___call__ an_Store___call__ cd_Store___call__ ct_Store___call__), sl_Store___call__⟩)
    (c_Store___call___ : PySem.W.codeIn K cd_Store___call__ "Store.__call__" = true)
    (l_Store_change : K.lookup f_Store_change = some ⟨oc_Store_change, od_Store_change, .func (PySem.W.fnOf "change" "Store.change" (defArgs s_Store_change) (defBody s_Store_change) (defScope s_Store_change) .none kV_Store_change dc_Store_change pm_Store_change an_Store_change cd_Store_change ct_Store_change), sl_Store_change⟩)
    (c_Store_change_ : PySem.W.codeIn K cd_Store_change "Store.change" = true)
    (l_Store___setitem__ : K.lookup f_Store___setitem__ = some ⟨oc_Store___setitem__, od_Store___setitem__, .func (PySem.W.fnOf "__setitem__" "Store.__setitem__" (defArgs s_Store___setitem__) (defBody s_Store___setitem__) (defScope s_Store___setitem__) .none kV_Store___setitem__ dc_Store___setitem__ pm_Store___setitem__ an_Store___setitem__ cd_Store___setitem__ ct_Store___setitem__), sl_Store___setitem__⟩)
    (c_Store___setitem___ : PySem.W.codeIn K cd_Store___setitem__ "Store.__setitem__" = true)
    (l_Store_twin : K.lookup f_Store_twin = some ⟨oc_Store_twin, od_Store_twin, .func (PySem.W.fnOf "twin" "Store.twin" (defArgs s_Store_twin) (defBody s_Store_twin) (defScope s_Store_twin) .none kV_Store_twin dc_Store_twin pm_Store_twin an_Store_twin cd_Store_twin ct_Store_twin), sl_Store_twin⟩)
    (c_Store_twin_ : PySem.W.codeIn K cd_Store_twin "Store.twin" = true)
    (l_Store___eq__ : K.lookup f_Store___eq__ = some ⟨oc_Store___eq__, od_Store___eq__, .func (PySem.W.fnOf "__eq__" "Store.__eq__" (defArgs s_Store___eq__) (defBody s_Store___eq__) (defScope s_Store___eq__) .none kV_Store___eq__ dc_Store___eq__ pm_Store___eq__ an_Store___eq__ cd_Store___eq__ ct_Store___eq__), sl_Store___eq__⟩)
    (c_Store___eq___ : PySem.W.codeIn K cd_Store___eq__ "Store.__eq__" = true)
    (a_law_pull : PySem.W.nsIn K mainGlobals "_law_pull" = some (some (.ref f_law_pull)))
    (l_law_pull : K.lookup f_law_pull = some ⟨oc_law_pull, od_law_pull, .func (PySem.W.fnOf "_law_pull" "_law_pull" (defArgs s_law_pull) (defBody s_law_pull) (defScope s_law_pull) .none kV_law_pull dc_law_pull pm_law_pull an_law_pull cd_law_pull ct_law_pull), sl_law_pull⟩)
    (c_law_pull_ : PySem.W.codeIn K cd_law_pull "_law_pull" = true)
    (k_law_pull : PySem.W.keepIn K (.ref f_law_pull) = true)
    (a_law_pick : PySem.W.nsIn K mainGlobals "_law_pick" = some (some (.ref f_law_pick)))
    (l_law_pick : K.lookup f_law_pick = some ⟨oc_law_pick, od_law_pick, .func (PySem.W.fnOf "_law_pick" "_law_pick" (defArgs s_law_pick) (defBody s_law_pick) (defScope s_law_pick) .none kV_law_pick dc_law_pick pm_law_pick an_law_pick cd_law_pick ct_law_pick), sl_law_pick⟩)
    (c_law_pick_ : PySem.W.codeIn K cd_law_pick "_law_pick" = true)
    (k_law_pick : PySem.W.keepIn K (.ref f_law_pick) = true)
    (a_law_letters : PySem.W.nsIn K mainGlobals "_law_letters" = some (some (.ref f_law_letters)))
    (l_law_letters : K.lookup f_law_letters = some ⟨oc_law_letters, od_law_letters, .func (PySem.W.fnOf "_law_letters" "_law_letters" (defArgs s_law_letters) (defBody s_law_letters) (defScope s_law_letters) .none kV_law_letters dc_law_letters pm_law_letters an_law_letters cd_law_letters ct_law_letters), sl_law_letters⟩)
    (c_law_letters_ : PySem.W.codeIn K cd_law_letters "_law_letters" = true)
    (k_law_letters : PySem.W.keepIn K (.ref f_law_letters) = true)
    (a_law_alphabet : PySem.W.nsIn K mainGlobals "_law_alphabet" = some (some (.ref f_law_alphabet)))
    (l_law_alphabet : K.lookup f_law_alphabet = some ⟨oc_law_alphabet, od_law_alphabet, .func (PySem.W.fnOf "_law_alphabet" "_law_alphabet" (defArgs s_law_alphabet) (defBody s_law_alphabet) (defScope s_law_alphabet) .none kV_law_alphabet dc_law_alphabet pm_law_alphabet an_law_alphabet cd_law_alphabet ct_law_alphabet), sl_law_alphabet⟩)
    (c_law_alphabet_ : PySem.W.codeIn K cd_law_alphabet "_law_alphabet" = true)
    (k_law_alphabet : PySem.W.keepIn K (.ref f_law_alphabet) = true)
    (a_law_rows : PySem.W.nsIn K mainGlobals "_law_rows" = some (some (.ref f_law_rows)))
    (l_law_rows : K.lookup f_law_rows = some ⟨oc_law_rows, od_law_rows, .func (PySem.W.fnOf "_law_rows" "_law_rows" (defArgs s_law_rows) (defBody s_law_rows) (defScope s_law_rows) .none kV_law_rows dc_law_rows pm_law_rows an_law_rows cd_law_rows ct_law_rows), sl_law_rows⟩)
    (c_law_rows_ : PySem.W.codeIn K cd_law_rows "_law_rows" = true)
    (k_law_rows : PySem.W.keepIn K (.ref f_law_rows) = true)
    (a_law_ask : PySem.W.nsIn K mainGlobals "_law_ask" = some (some (.ref f_law_ask)))
    (l_law_ask : K.lookup f_law_ask = some ⟨oc_law_ask, od_law_ask, .func (PySem.W.fnOf "_law_ask" "_law_ask" (defArgs s_law_ask) (defBody s_law_ask) (defScope s_law_ask) .none kV_law_ask dc_law_ask pm_law_ask an_law_ask cd_law_ask ct_law_ask), sl_law_ask⟩)
    (c_law_ask_ : PySem.W.codeIn K cd_law_ask "_law_ask" = true)
    (k_law_ask : PySem.W.keepIn K (.ref f_law_ask) = true)
    (a_law_drawn : PySem.W.nsIn K mainGlobals "_law_drawn" = some (some (.ref f_law_drawn)))
    (l_law_drawn : K.lookup f_law_drawn = some ⟨oc_law_drawn, od_law_drawn, .func (PySem.W.fnOf "_law_drawn" "_law_drawn" (defArgs s_law_drawn) (defBody s_law_drawn) (defScope s_law_drawn) .none kV_law_drawn dc_law_drawn pm_law_drawn an_law_drawn cd_law_drawn ct_law_drawn), sl_law_drawn⟩)
    (c_law_drawn_ : PySem.W.codeIn K cd_law_drawn "_law_drawn" = true)
    (k_law_drawn : PySem.W.keepIn K (.ref f_law_drawn) = true)
    (a_law_same : PySem.W.nsIn K mainGlobals "_law_same" = some (some (.ref f_law_same)))
    (l_law_same : K.lookup f_law_same = some ⟨oc_law_same, od_law_same, .func (PySem.W.fnOf "_law_same" "_law_same" (defArgs s_law_same) (defBody s_law_same) (defScope s_law_same) .none kV_law_same dc_law_same pm_law_same an_law_same cd_law_same ct_law_same), sl_law_same⟩)
    (c_law_same_ : PySem.W.codeIn K cd_law_same "_law_same" = true)
    (k_law_same : PySem.W.keepIn K (.ref f_law_same) = true)
    (a_law_led : PySem.W.nsIn K mainGlobals "_law_led" = some (some (.ref f_law_led)))
    (l_law_led : K.lookup f_law_led = some ⟨oc_law_led, od_law_led, .func (PySem.W.fnOf "_law_led" "_law_led" (defArgs s_law_led) (defBody s_law_led) (defScope s_law_led) .none kV_law_led dc_law_led pm_law_led an_law_led cd_law_led ct_law_led), sl_law_led⟩)
    (c_law_led_ : PySem.W.codeIn K cd_law_led "_law_led" = true)
    (k_law_led : PySem.W.keepIn K (.ref f_law_led) = true)
    (a_law : PySem.W.nsIn K mainGlobals "law" = some (some (.ref f_law)))
    (l_law : K.lookup f_law = some ⟨oc_law, od_law, .func (PySem.W.fnOf "law" "law" (defArgs s_law) (defBody s_law) (defScope s_law) .none kV_law dc_law pm_law an_law (.ref c_law) ct_law), sl_law⟩)
    (c_law_ : PySem.W.codeIn K (.ref c_law) "law" = true)
    (k_law : PySem.W.keepIn K (.ref f_law) = true)
    (a_law_start : PySem.W.nsIn K mainGlobals "_law_start" = some (some (.ref f_law_start)))
    (l_law_start : K.lookup f_law_start = some ⟨oc_law_start, od_law_start, .func (PySem.W.fnOf "_law_start" "_law_start" (defArgs s_law_start) (defBody s_law_start) (defScope s_law_start) .none kV_law_start dc_law_start pm_law_start an_law_start cd_law_start ct_law_start), sl_law_start⟩)
    (c_law_start_ : PySem.W.codeIn K cd_law_start "_law_start" = true)
    (k_law_start : PySem.W.keepIn K (.ref f_law_start) = true)
    (lc_law : K.lookup c_law = some ⟨ccl_law, cdd_law, .fields vs_law, ccs_law⟩)
    (lp_law : vs_law[11]? = some (.ref Pt))
    (hd : PySem.W.codeHdIn K c_law Pt = true)
    (nP : K.lookup Pt = none)
    (z_all : PySem.W.nsIn K mainGlobals "all" = some none)
    (z_bool : PySem.W.nsIn K mainGlobals "bool" = some none)
    (z_enumerate : PySem.W.nsIn K mainGlobals "enumerate" = some none)
    (z_int : PySem.W.nsIn K mainGlobals "int" = some none)
    (z_isinstance : PySem.W.nsIn K mainGlobals "isinstance" = some none)
    (z_len : PySem.W.nsIn K mainGlobals "len" = some none)
    (z_list : PySem.W.nsIn K mainGlobals "list" = some none)
    (z_min : PySem.W.nsIn K mainGlobals "min" = some none)
    (z_range : PySem.W.nsIn K mainGlobals "range" = some none)
    (z_str : PySem.W.nsIn K mainGlobals "str" = some none)
    (z_tuple : PySem.W.nsIn K mainGlobals "tuple" = some none)
    (q_LETTERS : PySem.W.nsIn K mainGlobals "LETTERS" = some (some (.str (SS [97, 98, 99, 100, 101, 102, 103, 104, 105, 106, 107, 108, 109, 110, 111, 112, 113, 114, 115, 116, 117, 118, 119, 120, 121, 122]) t_LETTERS)))
    (q_MOST_DEEDS : PySem.W.nsIn K mainGlobals "MOST_DEEDS" = some (some (.int 8 t_MOST_DEEDS)))
    (q_MOST_STANDS : PySem.W.nsIn K mainGlobals "MOST_STANDS" = some (some (.int 120 t_MOST_STANDS)))
    (g_LogError : PySem.W.nsIn K mainGlobals "LogError" = some (some (.ref C_LogError)))
    (g_Missing : PySem.W.nsIn K mainGlobals "Missing" = some (some (.ref C_Missing)))
    (g_InvalidDeed : PySem.W.nsIn K mainGlobals "InvalidDeed" = some (some (.ref C_InvalidDeed)))
    (g_InvalidDeeds : PySem.W.nsIn K mainGlobals "InvalidDeeds" = some (some (.ref C_InvalidDeeds)))
    (g_InvalidLog : PySem.W.nsIn K mainGlobals "InvalidLog" = some (some (.ref C_InvalidLog)))
    (g_InvalidStep : PySem.W.nsIn K mainGlobals "InvalidStep" = some (some (.ref C_InvalidStep)))
    (g_InvalidStore : PySem.W.nsIn K mainGlobals "InvalidStore" = some (some (.ref C_InvalidStore)))
    (g_InvalidStand : PySem.W.nsIn K mainGlobals "InvalidStand" = some (some (.ref C_InvalidStand)))
    (g_InvalidNumber : PySem.W.nsIn K mainGlobals "InvalidNumber" = some (some (.ref C_InvalidNumber)))
    (g_InvalidCount : PySem.W.nsIn K mainGlobals "InvalidCount" = some (some (.ref C_InvalidCount)))
    (g_TooMany : PySem.W.nsIn K mainGlobals "TooMany" = some (some (.ref C_TooMany)))
    (g_NothingLeft : PySem.W.nsIn K mainGlobals "NothingLeft" = some (some (.ref C_NothingLeft)))
    (xc_InvalidDeed : K.lookup C_InvalidDeed = some (excClassObj nm_InvalidDeed q_InvalidDeed C_InvalidDeed N_InvalidDeed bs_InvalidDeed bm_InvalidDeed true sn_InvalidDeed sub_InvalidDeed ab_InvalidDeed col_InvalidDeed dd_InvalidDeed m0_InvalidDeed m1_InvalidDeed m2_InvalidDeed m3_InvalidDeed m5_InvalidDeed "ValueError.__new__"))
    (xm_InvalidDeed : PySem.HandSPX.refsVE bm_InvalidDeed = true)
    (xsa_InvalidDeed : PySem.W.findIn K (.ref C_InvalidDeed) "__setattr__" = some (some (.builtin "object.__setattr__")))
    (xga_InvalidDeed : PySem.W.findIn K (.ref C_InvalidDeed) "__getattribute__" = some (some (.builtin "BaseException.__getattribute__")))
    (xgg_InvalidDeed : PySem.W.findIn K (.ref C_InvalidDeed) "__getattr__" = some none)
    (xnf_InvalidDeed : PySem.W.findIn K (.ref C_InvalidDeed) "given" = some none)
    (xnt_InvalidDeed : PySem.W.findIn K (.ref C_InvalidDeed) "tag" = some none)
    (xk_InvalidDeed : PySem.W.keepIn K (.ref C_InvalidDeed) = true)
    (xe_InvalidDeed : PySem.W.subIn K (.ref C_InvalidDeed) (.type "BaseException") = some true)
    (xv_InvalidDeed : PySem.W.subIn K (.ref C_InvalidDeed) (.type "ValueError") = some true)
    (xt_InvalidDeed : PySem.W.typeIn K (.ref C_InvalidDeed) = some (.type "type"))
    (xd_InvalidDeed : PySem.W.hasDictIn K C_InvalidDeed = true)
    (xi_InvalidDeed : PySem.W.findIn K (.ref C_InvalidDeed) "__init__" = some (some (.ref fI_InvalidDeed)))
    (xit_InvalidDeed : PySem.W.typeIn K (.ref fI_InvalidDeed) = some (.type "function"))
    (xl_InvalidDeed : K.lookup fI_InvalidDeed = some ⟨oc_InvalidDeed, od_InvalidDeed, .func (PySem.W.ksFn "__init__" "InvalidDeed.__init__" (defArgs (inClass (top 4) 0)) (defBody (inClass (top 4) 0)) (defScope (inClass (top 4) 0)) .none .none dc_InvalidDeed pm_InvalidDeed an_InvalidDeed (.ref cda_InvalidDeed) ct_InvalidDeed cc_InvalidDeed), sl_InvalidDeed⟩)
    (xco_InvalidDeed : PySem.W.codeIn K (.ref cda_InvalidDeed) "InvalidDeed.__init__" = true)
    (xcd_InvalidDeed : K.lookup cda_InvalidDeed = some ⟨ccl_InvalidDeed, cdd_InvalidDeed, .fields vs_InvalidDeed, ccs_InvalidDeed⟩)
    (xcf_InvalidDeed : vs_InvalidDeed[2]? = some (.str fl_InvalidDeed tf_InvalidDeed))
    (xcg_InvalidDeed : ((l.prog.main.file : PySem.Str) == fl_InvalidDeed) = true)
    (xcc_InvalidDeed : K.lookup cc_InvalidDeed = some ⟨cl_InvalidDeed, cld_InvalidDeed, .cell (some (.ref C_InvalidDeed)), csl_InvalidDeed⟩)
    (xmr_InvalidDeed : PySem.W.mroIn K C_InvalidDeed (.ref C_InvalidDeed) = some true)
    (xsu_InvalidDeed : PySem.W.ks_superIn K C_InvalidDeed C_InvalidDeed "__init__" = some (some (.builtin "ValueError.__init__")))
    (xc_InvalidDeeds : K.lookup C_InvalidDeeds = some (excClassObj nm_InvalidDeeds q_InvalidDeeds C_InvalidDeeds N_InvalidDeeds bs_InvalidDeeds bm_InvalidDeeds true sn_InvalidDeeds sub_InvalidDeeds ab_InvalidDeeds col_InvalidDeeds dd_InvalidDeeds m0_InvalidDeeds m1_InvalidDeeds m2_InvalidDeeds m3_InvalidDeeds m5_InvalidDeeds "ValueError.__new__"))
    (xm_InvalidDeeds : PySem.HandSPX.refsVE bm_InvalidDeeds = true)
    (xsa_InvalidDeeds : PySem.W.findIn K (.ref C_InvalidDeeds) "__setattr__" = some (some (.builtin "object.__setattr__")))
    (xga_InvalidDeeds : PySem.W.findIn K (.ref C_InvalidDeeds) "__getattribute__" = some (some (.builtin "BaseException.__getattribute__")))
    (xgg_InvalidDeeds : PySem.W.findIn K (.ref C_InvalidDeeds) "__getattr__" = some none)
    (xnf_InvalidDeeds : PySem.W.findIn K (.ref C_InvalidDeeds) "given" = some none)
    (xnt_InvalidDeeds : PySem.W.findIn K (.ref C_InvalidDeeds) "tag" = some none)
    (xk_InvalidDeeds : PySem.W.keepIn K (.ref C_InvalidDeeds) = true)
    (xe_InvalidDeeds : PySem.W.subIn K (.ref C_InvalidDeeds) (.type "BaseException") = some true)
    (xv_InvalidDeeds : PySem.W.subIn K (.ref C_InvalidDeeds) (.type "ValueError") = some true)
    (xt_InvalidDeeds : PySem.W.typeIn K (.ref C_InvalidDeeds) = some (.type "type"))
    (xd_InvalidDeeds : PySem.W.hasDictIn K C_InvalidDeeds = true)
    (xi_InvalidDeeds : PySem.W.findIn K (.ref C_InvalidDeeds) "__init__" = some (some (.ref fI_InvalidDeeds)))
    (xit_InvalidDeeds : PySem.W.typeIn K (.ref fI_InvalidDeeds) = some (.type "function"))
    (xl_InvalidDeeds : K.lookup fI_InvalidDeeds = some ⟨oc_InvalidDeeds, od_InvalidDeeds, .func (PySem.W.ksFn "__init__" "InvalidDeeds.__init__" (defArgs (inClass (top 5) 0)) (defBody (inClass (top 5) 0)) (defScope (inClass (top 5) 0)) .none .none dc_InvalidDeeds pm_InvalidDeeds an_InvalidDeeds (.ref cda_InvalidDeeds) ct_InvalidDeeds cc_InvalidDeeds), sl_InvalidDeeds⟩)
    (xco_InvalidDeeds : PySem.W.codeIn K (.ref cda_InvalidDeeds) "InvalidDeeds.__init__" = true)
    (xcd_InvalidDeeds : K.lookup cda_InvalidDeeds = some ⟨ccl_InvalidDeeds, cdd_InvalidDeeds, .fields vs_InvalidDeeds, ccs_InvalidDeeds⟩)
    (xcf_InvalidDeeds : vs_InvalidDeeds[2]? = some (.str fl_InvalidDeeds tf_InvalidDeeds))
    (xcg_InvalidDeeds : ((l.prog.main.file : PySem.Str) == fl_InvalidDeeds) = true)
    (xcc_InvalidDeeds : K.lookup cc_InvalidDeeds = some ⟨cl_InvalidDeeds, cld_InvalidDeeds, .cell (some (.ref C_InvalidDeeds)), csl_InvalidDeeds⟩)
    (xmr_InvalidDeeds : PySem.W.mroIn K C_InvalidDeeds (.ref C_InvalidDeeds) = some true)
    (xsu_InvalidDeeds : PySem.W.ks_superIn K C_InvalidDeeds C_InvalidDeeds "__init__" = some (some (.builtin "ValueError.__init__")))
    (xc_InvalidLog : K.lookup C_InvalidLog = some (excClassObj nm_InvalidLog q_InvalidLog C_InvalidLog N_InvalidLog bs_InvalidLog bm_InvalidLog true sn_InvalidLog sub_InvalidLog ab_InvalidLog col_InvalidLog dd_InvalidLog m0_InvalidLog m1_InvalidLog m2_InvalidLog m3_InvalidLog m5_InvalidLog "ValueError.__new__"))
    (xm_InvalidLog : PySem.HandSPX.refsVE bm_InvalidLog = true)
    (xsa_InvalidLog : PySem.W.findIn K (.ref C_InvalidLog) "__setattr__" = some (some (.builtin "object.__setattr__")))
    (xga_InvalidLog : PySem.W.findIn K (.ref C_InvalidLog) "__getattribute__" = some (some (.builtin "BaseException.__getattribute__")))
    (xgg_InvalidLog : PySem.W.findIn K (.ref C_InvalidLog) "__getattr__" = some none)
    (xnf_InvalidLog : PySem.W.findIn K (.ref C_InvalidLog) "given" = some none)
    (xnt_InvalidLog : PySem.W.findIn K (.ref C_InvalidLog) "tag" = some none)
    (xk_InvalidLog : PySem.W.keepIn K (.ref C_InvalidLog) = true)
    (xe_InvalidLog : PySem.W.subIn K (.ref C_InvalidLog) (.type "BaseException") = some true)
    (xv_InvalidLog : PySem.W.subIn K (.ref C_InvalidLog) (.type "ValueError") = some true)
    (xt_InvalidLog : PySem.W.typeIn K (.ref C_InvalidLog) = some (.type "type"))
    (xd_InvalidLog : PySem.W.hasDictIn K C_InvalidLog = true)
    (xi_InvalidLog : PySem.W.findIn K (.ref C_InvalidLog) "__init__" = some (some (.ref fI_InvalidLog)))
    (xit_InvalidLog : PySem.W.typeIn K (.ref fI_InvalidLog) = some (.type "function"))
    (xl_InvalidLog : K.lookup fI_InvalidLog = some ⟨oc_InvalidLog, od_InvalidLog, .func (PySem.W.ksFn "__init__" "InvalidLog.__init__" (defArgs (inClass (top 6) 0)) (defBody (inClass (top 6) 0)) (defScope (inClass (top 6) 0)) .none .none dc_InvalidLog pm_InvalidLog an_InvalidLog (.ref cda_InvalidLog) ct_InvalidLog cc_InvalidLog), sl_InvalidLog⟩)
    (xco_InvalidLog : PySem.W.codeIn K (.ref cda_InvalidLog) "InvalidLog.__init__" = true)
    (xcd_InvalidLog : K.lookup cda_InvalidLog = some ⟨ccl_InvalidLog, cdd_InvalidLog, .fields vs_InvalidLog, ccs_InvalidLog⟩)
    (xcf_InvalidLog : vs_InvalidLog[2]? = some (.str fl_InvalidLog tf_InvalidLog))
    (xcg_InvalidLog : ((l.prog.main.file : PySem.Str) == fl_InvalidLog) = true)
    (xcc_InvalidLog : K.lookup cc_InvalidLog = some ⟨cl_InvalidLog, cld_InvalidLog, .cell (some (.ref C_InvalidLog)), csl_InvalidLog⟩)
    (xmr_InvalidLog : PySem.W.mroIn K C_InvalidLog (.ref C_InvalidLog) = some true)
    (xsu_InvalidLog : PySem.W.ks_superIn K C_InvalidLog C_InvalidLog "__init__" = some (some (.builtin "ValueError.__init__")))
    (xc_InvalidStand : K.lookup C_InvalidStand = some (excClassObj nm_InvalidStand q_InvalidStand C_InvalidStand N_InvalidStand bs_InvalidStand bm_InvalidStand true sn_InvalidStand sub_InvalidStand ab_InvalidStand col_InvalidStand dd_InvalidStand m0_InvalidStand m1_InvalidStand m2_InvalidStand m3_InvalidStand m5_InvalidStand "ValueError.__new__"))
    (xm_InvalidStand : PySem.HandSPX.refsVE bm_InvalidStand = true)
    (xsa_InvalidStand : PySem.W.findIn K (.ref C_InvalidStand) "__setattr__" = some (some (.builtin "object.__setattr__")))
    (xga_InvalidStand : PySem.W.findIn K (.ref C_InvalidStand) "__getattribute__" = some (some (.builtin "BaseException.__getattribute__")))
    (xgg_InvalidStand : PySem.W.findIn K (.ref C_InvalidStand) "__getattr__" = some none)
    (xnf_InvalidStand : PySem.W.findIn K (.ref C_InvalidStand) "given" = some none)
    (xnt_InvalidStand : PySem.W.findIn K (.ref C_InvalidStand) "tag" = some none)
    (xk_InvalidStand : PySem.W.keepIn K (.ref C_InvalidStand) = true)
    (xe_InvalidStand : PySem.W.subIn K (.ref C_InvalidStand) (.type "BaseException") = some true)
    (xv_InvalidStand : PySem.W.subIn K (.ref C_InvalidStand) (.type "ValueError") = some true)
    (xt_InvalidStand : PySem.W.typeIn K (.ref C_InvalidStand) = some (.type "type"))
    (xd_InvalidStand : PySem.W.hasDictIn K C_InvalidStand = true)
    (xi_InvalidStand : PySem.W.findIn K (.ref C_InvalidStand) "__init__" = some (some (.ref fI_InvalidStand)))
    (xit_InvalidStand : PySem.W.typeIn K (.ref fI_InvalidStand) = some (.type "function"))
    (xl_InvalidStand : K.lookup fI_InvalidStand = some ⟨oc_InvalidStand, od_InvalidStand, .func (PySem.W.ksFn "__init__" "InvalidStand.__init__" (defArgs (inClass (top 9) 0)) (defBody (inClass (top 9) 0)) (defScope (inClass (top 9) 0)) .none .none dc_InvalidStand pm_InvalidStand an_InvalidStand (.ref cda_InvalidStand) ct_InvalidStand cc_InvalidStand), sl_InvalidStand⟩)
    (xco_InvalidStand : PySem.W.codeIn K (.ref cda_InvalidStand) "InvalidStand.__init__" = true)
    (xcd_InvalidStand : K.lookup cda_InvalidStand = some ⟨ccl_InvalidStand, cdd_InvalidStand, .fields vs_InvalidStand, ccs_InvalidStand⟩)
    (xcf_InvalidStand : vs_InvalidStand[2]? = some (.str fl_InvalidStand tf_InvalidStand))
    (xcg_InvalidStand : ((l.prog.main.file : PySem.Str) == fl_InvalidStand) = true)
    (xcc_InvalidStand : K.lookup cc_InvalidStand = some ⟨cl_InvalidStand, cld_InvalidStand, .cell (some (.ref C_InvalidStand)), csl_InvalidStand⟩)
    (xmr_InvalidStand : PySem.W.mroIn K C_InvalidStand (.ref C_InvalidStand) = some true)
    (xsu_InvalidStand : PySem.W.ks_superIn K C_InvalidStand C_InvalidStand "__init__" = some (some (.builtin "ValueError.__init__")))
    (xc_InvalidStore : K.lookup C_InvalidStore = some (excClassObj nm_InvalidStore q_InvalidStore C_InvalidStore N_InvalidStore bs_InvalidStore bm_InvalidStore true sn_InvalidStore sub_InvalidStore ab_InvalidStore col_InvalidStore dd_InvalidStore m0_InvalidStore m1_InvalidStore m2_InvalidStore m3_InvalidStore m5_InvalidStore "ValueError.__new__"))
    (xm_InvalidStore : PySem.HandSPX.refsVE bm_InvalidStore = true)
    (xsa_InvalidStore : PySem.W.findIn K (.ref C_InvalidStore) "__setattr__" = some (some (.builtin "object.__setattr__")))
    (xga_InvalidStore : PySem.W.findIn K (.ref C_InvalidStore) "__getattribute__" = some (some (.builtin "BaseException.__getattribute__")))
    (xgg_InvalidStore : PySem.W.findIn K (.ref C_InvalidStore) "__getattr__" = some none)
    (xnf_InvalidStore : PySem.W.findIn K (.ref C_InvalidStore) "index" = some none)
    (xnt_InvalidStore : PySem.W.findIn K (.ref C_InvalidStore) "tag" = some none)
    (xk_InvalidStore : PySem.W.keepIn K (.ref C_InvalidStore) = true)
    (xe_InvalidStore : PySem.W.subIn K (.ref C_InvalidStore) (.type "BaseException") = some true)
    (xv_InvalidStore : PySem.W.subIn K (.ref C_InvalidStore) (.type "ValueError") = some true)
    (xt_InvalidStore : PySem.W.typeIn K (.ref C_InvalidStore) = some (.type "type"))
    (xd_InvalidStore : PySem.W.hasDictIn K C_InvalidStore = true)
    (xi_InvalidStore : PySem.W.findIn K (.ref C_InvalidStore) "__init__" = some (some (.ref fI_InvalidStore)))
    (xit_InvalidStore : PySem.W.typeIn K (.ref fI_InvalidStore) = some (.type "function"))
    (xl_InvalidStore : K.lookup fI_InvalidStore = some ⟨oc_InvalidStore, od_InvalidStore, .func (PySem.W.ksFn "__init__" "InvalidStore.__init__" (defArgs (inClass (top 8) 0)) (defBody (inClass (top 8) 0)) (defScope (inClass (top 8) 0)) .none .none dc_InvalidStore pm_InvalidStore an_InvalidStore (.ref cda_InvalidStore) ct_InvalidStore cc_InvalidStore), sl_InvalidStore⟩)
    (xco_InvalidStore : PySem.W.codeIn K (.ref cda_InvalidStore) "InvalidStore.__init__" = true)
    (xcd_InvalidStore : K.lookup cda_InvalidStore = some ⟨ccl_InvalidStore, cdd_InvalidStore, .fields vs_InvalidStore, ccs_InvalidStore⟩)
    (xcf_InvalidStore : vs_InvalidStore[2]? = some (.str fl_InvalidStore tf_InvalidStore))
    (xcg_InvalidStore : ((l.prog.main.file : PySem.Str) == fl_InvalidStore) = true)
    (xcc_InvalidStore : K.lookup cc_InvalidStore = some ⟨cl_InvalidStore, cld_InvalidStore, .cell (some (.ref C_InvalidStore)), csl_InvalidStore⟩)
    (xmr_InvalidStore : PySem.W.mroIn K C_InvalidStore (.ref C_InvalidStore) = some true)
    (xsu_InvalidStore : PySem.W.ks_superIn K C_InvalidStore C_InvalidStore "__init__" = some (some (.builtin "ValueError.__init__")))
    (xc_TooMany : K.lookup C_TooMany = some (excClassObj nm_TooMany q_TooMany C_TooMany N_TooMany bs_TooMany bm_TooMany true sn_TooMany sub_TooMany ab_TooMany col_TooMany dd_TooMany m0_TooMany m1_TooMany m2_TooMany m3_TooMany m5_TooMany "ValueError.__new__"))
    (xm_TooMany : PySem.HandSPX.refsVE bm_TooMany = true)
    (xsa_TooMany : PySem.W.findIn K (.ref C_TooMany) "__setattr__" = some (some (.builtin "object.__setattr__")))
    (xga_TooMany : PySem.W.findIn K (.ref C_TooMany) "__getattribute__" = some (some (.builtin "BaseException.__getattribute__")))
    (xgg_TooMany : PySem.W.findIn K (.ref C_TooMany) "__getattr__" = some none)
    (xnf_TooMany : PySem.W.findIn K (.ref C_TooMany) "most" = some none)
    (xnt_TooMany : PySem.W.findIn K (.ref C_TooMany) "tag" = some none)
    (xk_TooMany : PySem.W.keepIn K (.ref C_TooMany) = true)
    (xe_TooMany : PySem.W.subIn K (.ref C_TooMany) (.type "BaseException") = some true)
    (xv_TooMany : PySem.W.subIn K (.ref C_TooMany) (.type "ValueError") = some true)
    (xt_TooMany : PySem.W.typeIn K (.ref C_TooMany) = some (.type "type"))
    (xd_TooMany : PySem.W.hasDictIn K C_TooMany = true)
    (xi_TooMany : PySem.W.findIn K (.ref C_TooMany) "__init__" = some (some (.ref fI_TooMany)))
    (xit_TooMany : PySem.W.typeIn K (.ref fI_TooMany) = some (.type "function"))
    (xl_TooMany : K.lookup fI_TooMany = some ⟨oc_TooMany, od_TooMany, .func (PySem.W.ksFn "__init__" "TooMany.__init__" (defArgs (inClass (top 12) 0)) (defBody (inClass (top 12) 0)) (defScope (inClass (top 12) 0)) .none .none dc_TooMany pm_TooMany an_TooMany (.ref cda_TooMany) ct_TooMany cc_TooMany), sl_TooMany⟩)
    (xco_TooMany : PySem.W.codeIn K (.ref cda_TooMany) "TooMany.__init__" = true)
    (xcd_TooMany : K.lookup cda_TooMany = some ⟨ccl_TooMany, cdd_TooMany, .fields vs_TooMany, ccs_TooMany⟩)
    (xcf_TooMany : vs_TooMany[2]? = some (.str fl_TooMany tf_TooMany))
    (xcg_TooMany : ((l.prog.main.file : PySem.Str) == fl_TooMany) = true)
    (xcc_TooMany : K.lookup cc_TooMany = some ⟨cl_TooMany, cld_TooMany, .cell (some (.ref C_TooMany)), csl_TooMany⟩)
    (xmr_TooMany : PySem.W.mroIn K C_TooMany (.ref C_TooMany) = some true)
    (xsu_TooMany : PySem.W.ks_superIn K C_TooMany C_TooMany "__init__" = some (some (.builtin "ValueError.__init__")))
    (xop : PySem.W.nsIn K cStatics "thirdparty.any" = some none)
    (xsup : PySem.W.nsIn K mainGlobals "super" = some none)
    (xtop : (l.prog.main.scope.names.lookup ("super" : PySem.Str)).isSome = false)
    (e_InvalidDeed_InvalidDeed : PySem.W.exmOne K (.ref C_InvalidDeed) (.ref C_InvalidDeed) = some true)
    (e_InvalidDeed_InvalidDeeds : PySem.W.exmOne K (.ref C_InvalidDeed) (.ref C_InvalidDeeds) = some false)
    (e_InvalidDeed_InvalidLog : PySem.W.exmOne K (.ref C_InvalidDeed) (.ref C_InvalidLog) = some false)
    (e_InvalidDeed_InvalidStand : PySem.W.exmOne K (.ref C_InvalidDeed) (.ref C_InvalidStand) = some false)
    (e_InvalidDeed_InvalidNumber : PySem.W.exmOne K (.ref C_InvalidDeed) (.ref C_InvalidNumber) = some false)
    (e_InvalidDeed_InvalidCount : PySem.W.exmOne K (.ref C_InvalidDeed) (.ref C_InvalidCount) = some false)
    (e_InvalidDeeds_InvalidDeed : PySem.W.exmOne K (.ref C_InvalidDeeds) (.ref C_InvalidDeed) = some false)
    (e_InvalidDeeds_InvalidDeeds : PySem.W.exmOne K (.ref C_InvalidDeeds) (.ref C_InvalidDeeds) = some true)
    (e_InvalidDeeds_InvalidLog : PySem.W.exmOne K (.ref C_InvalidDeeds) (.ref C_InvalidLog) = some false)
    (e_InvalidDeeds_InvalidStand : PySem.W.exmOne K (.ref C_InvalidDeeds) (.ref C_InvalidStand) = some false)
    (e_InvalidDeeds_InvalidNumber : PySem.W.exmOne K (.ref C_InvalidDeeds) (.ref C_InvalidNumber) = some false)
    (e_InvalidDeeds_InvalidCount : PySem.W.exmOne K (.ref C_InvalidDeeds) (.ref C_InvalidCount) = some false)
    (e_InvalidLog_InvalidDeed : PySem.W.exmOne K (.ref C_InvalidLog) (.ref C_InvalidDeed) = some false)
    (e_InvalidLog_InvalidDeeds : PySem.W.exmOne K (.ref C_InvalidLog) (.ref C_InvalidDeeds) = some false)
    (e_InvalidLog_InvalidLog : PySem.W.exmOne K (.ref C_InvalidLog) (.ref C_InvalidLog) = some true)
    (e_InvalidLog_InvalidStand : PySem.W.exmOne K (.ref C_InvalidLog) (.ref C_InvalidStand) = some false)
    (e_InvalidLog_InvalidNumber : PySem.W.exmOne K (.ref C_InvalidLog) (.ref C_InvalidNumber) = some false)
    (e_InvalidLog_InvalidCount : PySem.W.exmOne K (.ref C_InvalidLog) (.ref C_InvalidCount) = some false)
    (e_InvalidStand_InvalidDeed : PySem.W.exmOne K (.ref C_InvalidStand) (.ref C_InvalidDeed) = some false)
    (e_InvalidStand_InvalidDeeds : PySem.W.exmOne K (.ref C_InvalidStand) (.ref C_InvalidDeeds) = some false)
    (e_InvalidStand_InvalidLog : PySem.W.exmOne K (.ref C_InvalidStand) (.ref C_InvalidLog) = some false)
    (e_InvalidStand_InvalidStand : PySem.W.exmOne K (.ref C_InvalidStand) (.ref C_InvalidStand) = some true)
    (e_InvalidStand_InvalidNumber : PySem.W.exmOne K (.ref C_InvalidStand) (.ref C_InvalidNumber) = some false)
    (e_InvalidStand_InvalidCount : PySem.W.exmOne K (.ref C_InvalidStand) (.ref C_InvalidCount) = some false)
    (e_InvalidStore_InvalidDeed : PySem.W.exmOne K (.ref C_InvalidStore) (.ref C_InvalidDeed) = some false)
    (e_InvalidStore_InvalidDeeds : PySem.W.exmOne K (.ref C_InvalidStore) (.ref C_InvalidDeeds) = some false)
    (e_InvalidStore_InvalidLog : PySem.W.exmOne K (.ref C_InvalidStore) (.ref C_InvalidLog) = some false)
    (e_InvalidStore_InvalidStand : PySem.W.exmOne K (.ref C_InvalidStore) (.ref C_InvalidStand) = some false)
    (e_InvalidStore_InvalidNumber : PySem.W.exmOne K (.ref C_InvalidStore) (.ref C_InvalidNumber) = some false)
    (e_InvalidStore_InvalidCount : PySem.W.exmOne K (.ref C_InvalidStore) (.ref C_InvalidCount) = some false)
    (e_TooMany_InvalidDeed : PySem.W.exmOne K (.ref C_TooMany) (.ref C_InvalidDeed) = some false)
    (e_TooMany_InvalidDeeds : PySem.W.exmOne K (.ref C_TooMany) (.ref C_InvalidDeeds) = some false)
    (e_TooMany_InvalidLog : PySem.W.exmOne K (.ref C_TooMany) (.ref C_InvalidLog) = some false)
    (e_TooMany_InvalidStand : PySem.W.exmOne K (.ref C_TooMany) (.ref C_InvalidStand) = some false)
    (e_TooMany_InvalidNumber : PySem.W.exmOne K (.ref C_TooMany) (.ref C_InvalidNumber) = some false)
    (e_TooMany_InvalidCount : PySem.W.exmOne K (.ref C_TooMany) (.ref C_InvalidCount) = some false) : LamX.LawAtS l w K (L2.CX l.prog w) 24 63 "_law_script" mg fa h := by
  have e := hfa.symm.trans (PySem.W.mg_of KX G a_law)
  cases e
  letI : Tabl := ⟨[(Pt, ((("law" : PySem.Str) ++ ".<locals>.") ++ "<lambda>" : PySem.Str))], by simp⟩
  let C : Cls := ⟨C_LogError, C_Missing, C_InvalidDeed, C_InvalidDeeds, C_InvalidLog, C_InvalidStep, C_InvalidStore, C_InvalidStand, C_InvalidNumber, C_InvalidCount, C_TooMany, C_NothingLeft, C_Store⟩
  have x_InvalidDeed : PySem.ExcX.XC l.prog K mg "InvalidDeed" "given" C.InvalidDeed :=
    { gC := PySem.W.mg_of KX G g_InvalidDeed, cls := ⟨_, _, _, _, _, _, _, _, _, _, _, _, _, _, _, xc_InvalidDeed, xm_InvalidDeed⟩, sa := xsa_InvalidDeed, ga := xga_InvalidDeed, gg := xgg_InvalidDeed, noF := xnf_InvalidDeed, noT := xnt_InvalidDeed, kC := xk_InvalidDeed, exC := xe_InvalidDeed,
      veC := xv_InvalidDeed, tyC := xt_InvalidDeed, hdC := xd_InvalidDeed, sub := xmr_InvalidDeed, sup := PySem.W.mg_none_of KX G xsup, supI := xsu_InvalidDeed, opq := xop, htop := xtop,
      fn := ⟨_, _, _, _, _, _, _, _, _, _, _, _, _, _, _, _, _, _, _, _, _, xi_InvalidDeed, xit_InvalidDeed, xl_InvalidDeed, xco_InvalidDeed, xcd_InvalidDeed, xcf_InvalidDeed, xcg_InvalidDeed, xcc_InvalidDeed, xtext_InvalidDeed⟩ }
  have x_InvalidDeeds : PySem.ExcX.XC l.prog K mg "InvalidDeeds" "given" C.InvalidDeeds :=
    { gC := PySem.W.mg_of KX G g_InvalidDeeds, cls := ⟨_, _, _, _, _, _, _, _, _, _, _, _, _, _, _, xc_InvalidDeeds, xm_InvalidDeeds⟩, sa := xsa_InvalidDeeds, ga := xga_InvalidDeeds, gg := xgg_InvalidDeeds, noF := xnf_InvalidDeeds, noT := xnt_InvalidDeeds, kC := xk_InvalidDeeds, exC := xe_InvalidDeeds,
      veC := xv_InvalidDeeds, tyC := xt_InvalidDeeds, hdC := xd_InvalidDeeds, sub := xmr_InvalidDeeds, sup := PySem.W.mg_none_of KX G xsup, supI := xsu_InvalidDeeds, opq := xop, htop := xtop,
      fn := ⟨_, _, _, _, _, _, _, _, _, _, _, _, _, _, _, _, _, _, _, _, _, xi_InvalidDeeds, xit_InvalidDeeds, xl_InvalidDeeds, xco_InvalidDeeds, xcd_InvalidDeeds, xcf_InvalidDeeds, xcg_InvalidDeeds, xcc_InvalidDeeds, xtext_InvalidDeeds⟩ }
  have x_InvalidLog : PySem.ExcX.XC l.prog K mg "InvalidLog" "given" C.InvalidLog :=
    { gC := PySem.W.mg_of KX G g_InvalidLog, cls := ⟨_, _, _, _, _, _, _, _, _, _, _, _, _, _, _, xc_InvalidLog, xm_InvalidLog⟩, sa := xsa_InvalidLog, ga := xga_InvalidLog, gg := xgg_InvalidLog, noF := xnf_InvalidLog, noT := xnt_InvalidLog, kC := xk_InvalidLog, exC := xe_InvalidLog,
      veC := xv_InvalidLog, tyC := xt_InvalidLog, hdC := xd_InvalidLog, sub := xmr_InvalidLog, sup := PySem.W.mg_none_of KX G xsup, supI := xsu_InvalidLog, opq := xop, htop := xtop,
      fn := ⟨_, _, _, _, _, _, _, _, _, _, _, _, _, _, _, _, _, _, _, _, _, xi_InvalidLog, xit_InvalidLog, xl_InvalidLog, xco_InvalidLog, xcd_InvalidLog, xcf_InvalidLog, xcg_InvalidLog, xcc_InvalidLog, xtext_InvalidLog⟩ }
  have x_InvalidStand : PySem.ExcX.XC l.prog K mg "InvalidStand" "given" C.InvalidStand :=
    { gC := PySem.W.mg_of KX G g_InvalidStand, cls := ⟨_, _, _, _, _, _, _, _, _, _, _, _, _, _, _, xc_InvalidStand, xm_InvalidStand⟩, sa := xsa_InvalidStand, ga := xga_InvalidStand, gg := xgg_InvalidStand, noF := xnf_InvalidStand, noT := xnt_InvalidStand, kC := xk_InvalidStand, exC := xe_InvalidStand,
      veC := xv_InvalidStand, tyC := xt_InvalidStand, hdC := xd_InvalidStand, sub := xmr_InvalidStand, sup := PySem.W.mg_none_of KX G xsup, supI := xsu_InvalidStand, opq := xop, htop := xtop,
      fn := ⟨_, _, _, _, _, _, _, _, _, _, _, _, _, _, _, _, _, _, _, _, _, xi_InvalidStand, xit_InvalidStand, xl_InvalidStand, xco_InvalidStand, xcd_InvalidStand, xcf_InvalidStand, xcg_InvalidStand, xcc_InvalidStand, xtext_InvalidStand⟩ }
  have x_InvalidStore : PySem.ExcX.XC l.prog K mg "InvalidStore" "index" C.InvalidStore :=
    { gC := PySem.W.mg_of KX G g_InvalidStore, cls := ⟨_, _, _, _, _, _, _, _, _, _, _, _, _, _, _, xc_InvalidStore, xm_InvalidStore⟩, sa := xsa_InvalidStore, ga := xga_InvalidStore, gg := xgg_InvalidStore, noF := xnf_InvalidStore, noT := xnt_InvalidStore, kC := xk_InvalidStore, exC := xe_InvalidStore,
      veC := xv_InvalidStore, tyC := xt_InvalidStore, hdC := xd_InvalidStore, sub := xmr_InvalidStore, sup := PySem.W.mg_none_of KX G xsup, supI := xsu_InvalidStore, opq := xop, htop := xtop,
      fn := ⟨_, _, _, _, _, _, _, _, _, _, _, _, _, _, _, _, _, _, _, _, _, xi_InvalidStore, xit_InvalidStore, xl_InvalidStore, xco_InvalidStore, xcd_InvalidStore, xcf_InvalidStore, xcg_InvalidStore, xcc_InvalidStore, xtext_InvalidStore⟩ }
  have x_TooMany : PySem.ExcX.XC l.prog K mg "TooMany" "most" C.TooMany :=
    { gC := PySem.W.mg_of KX G g_TooMany, cls := ⟨_, _, _, _, _, _, _, _, _, _, _, _, _, _, _, xc_TooMany, xm_TooMany⟩, sa := xsa_TooMany, ga := xga_TooMany, gg := xgg_TooMany, noF := xnf_TooMany, noT := xnt_TooMany, kC := xk_TooMany, exC := xe_TooMany,
      veC := xv_TooMany, tyC := xt_TooMany, hdC := xd_TooMany, sub := xmr_TooMany, sup := PySem.W.mg_none_of KX G xsup, supI := xsu_TooMany, opq := xop, htop := xtop,
      fn := ⟨_, _, _, _, _, _, _, _, _, _, _, _, _, _, _, _, _, _, _, _, _, xi_TooMany, xit_TooMany, xl_TooMany, xco_TooMany, xcd_TooMany, xcf_TooMany, xcg_TooMany, xcc_TooMany, xtext_TooMany⟩ }
  have T : Txt l.prog K mg C :=
    { LETTERS := ⟨_, PySem.W.mg_of KX G q_LETTERS⟩, MOST_DEEDS := ⟨_, PySem.W.mg_of KX G q_MOST_DEEDS⟩, MOST_STANDS := ⟨_, PySem.W.mg_of KX G q_MOST_STANDS⟩, b_all := PySem.W.mg_none_of KX G z_all, b_bool := PySem.W.mg_none_of KX G z_bool, b_enumerate := PySem.W.mg_none_of KX G z_enumerate, b_int := PySem.W.mg_none_of KX G z_int, b_isinstance := PySem.W.mg_none_of KX G z_isinstance, b_len := PySem.W.mg_none_of KX G z_len, b_list := PySem.W.mg_none_of KX G z_list, b_min := PySem.W.mg_none_of KX G z_min, b_range := PySem.W.mg_none_of KX G z_range, b_str := PySem.W.mg_none_of KX G z_str, b_tuple := PySem.W.mg_none_of KX G z_tuple, g_LogError := PySem.W.mg_of KX G g_LogError, g_Missing := PySem.W.mg_of KX G g_Missing, g_InvalidDeed := PySem.W.mg_of KX G g_InvalidDeed, g_InvalidDeeds := PySem.W.mg_of KX G g_InvalidDeeds, g_InvalidLog := PySem.W.mg_of KX G g_InvalidLog, g_InvalidStep := PySem.W.mg_of KX G g_InvalidStep, g_InvalidStore := PySem.W.mg_of KX G g_InvalidStore, g_InvalidStand := PySem.W.mg_of KX G g_InvalidStand, g_InvalidNumber := PySem.W.mg_of KX G g_InvalidNumber, g_InvalidCount := PySem.W.mg_of KX G g_InvalidCount, g_TooMany := PySem.W.mg_of KX G g_TooMany, g_NothingLeft := PySem.W.mg_of KX G g_NothingLeft, n_Store_own_deeds := ⟨⟨kg_Store, kh_Store, ko_Store, ks_Store⟩, fn_Store_own_deeds⟩, n_Store_table := ⟨⟨kg_Store, kh_Store, ko_Store, ks_Store⟩, fn_Store_table⟩, g_Store := PySem.W.mg_of KX G g_Store, i_Store_Store := ⟨⟨kg_Store, kh_Store, ko_Store, ks_Store⟩, fai_Store_Store, isn, isk, fci_Store_Store, fdi_Store_Store⟩, oc_Store := ⟨foc_Store⟩, ns_Store := fns_Store, fa_Store___call__ := ⟨_, fafa_Store___call__, fbfa_Store___call__⟩, sub_Store_Store := ⟨_, fsub_Store_Store⟩, x_InvalidDeed := x_InvalidDeed, x_InvalidDeeds := x_InvalidDeeds, x_InvalidLog := x_InvalidLog, x_InvalidStand := x_InvalidStand, x_InvalidStore := x_InvalidStore, x_TooMany := x_TooMany }
  have XF_InvalidDeed : ∀ f : PySem.Str, f = "tag" ∨ f = "given" → XFld K (.ref C.InvalidDeed) f := fun f hf => ⟨_, rfl, xga_InvalidDeed, xgg_InvalidDeed, xe_InvalidDeed, xd_InvalidDeed, by rcases hf with rfl | rfl <;> assumption⟩
  have XF_InvalidDeeds : ∀ f : PySem.Str, f = "tag" ∨ f = "given" → XFld K (.ref C.InvalidDeeds) f := fun f hf => ⟨_, rfl, xga_InvalidDeeds, xgg_InvalidDeeds, xe_InvalidDeeds, xd_InvalidDeeds, by rcases hf with rfl | rfl <;> assumption⟩
  have XF_InvalidLog : ∀ f : PySem.Str, f = "tag" ∨ f = "given" → XFld K (.ref C.InvalidLog) f := fun f hf => ⟨_, rfl, xga_InvalidLog, xgg_InvalidLog, xe_InvalidLog, xd_InvalidLog, by rcases hf with rfl | rfl <;> assumption⟩
  have XF_InvalidStand : ∀ f : PySem.Str, f = "tag" ∨ f = "given" → XFld K (.ref C.InvalidStand) f := fun f hf => ⟨_, rfl, xga_InvalidStand, xgg_InvalidStand, xe_InvalidStand, xd_InvalidStand, by rcases hf with rfl | rfl <;> assumption⟩
  have XF_InvalidStore : ∀ f : PySem.Str, f = "tag" ∨ f = "index" → XFld K (.ref C.InvalidStore) f := fun f hf => ⟨_, rfl, xga_InvalidStore, xgg_InvalidStore, xe_InvalidStore, xd_InvalidStore, by rcases hf with rfl | rfl <;> assumption⟩
  have XF_TooMany : ∀ f : PySem.Str, f = "tag" ∨ f = "most" → XFld K (.ref C.TooMany) f := fun f hf => ⟨_, rfl, xga_TooMany, xgg_TooMany, xe_TooMany, xd_TooMany, by rcases hf with rfl | rfl <;> assumption⟩
  have F_is_number := fun_mk (st := s_is_number) l_is_number c_is_number_ k_is_number
  have b_is_number := F_is_number.binds (ps := ["value"]) fun _ _ _ _ _ _ us hl => match us, hl with | [_], _ => rfl
  have F_is_within := fun_mk (st := s_is_within) l_is_within c_is_within_ k_is_within
  have b_is_within := F_is_within.binds (ps := ["value", "low", "high"]) fun _ _ _ _ _ _ us hl => match us, hl with | [_, _, _], _ => rfl
  have F_is_log := fun_mk (st := s_is_log) l_is_log c_is_log_ k_is_log
  have b_is_log := F_is_log.binds (ps := ["value"]) fun _ _ _ _ _ _ us hl => match us, hl with | [_], _ => rfl
  have F_is_log_of := fun_mk (st := s_is_log_of) l_is_log_of c_is_log_of_ k_is_log_of
  have b_is_log_of := F_is_log_of.binds (ps := ["value", "deeds"]) fun _ _ _ _ _ _ us hl => match us, hl with | [_, _], _ => rfl
  have F_is_ascending := fun_mk (st := s_is_ascending) l_is_ascending c_is_ascending_ k_is_ascending
  have b_is_ascending := F_is_ascending.binds (ps := ["text"]) fun _ _ _ _ _ _ us hl => match us, hl with | [_], _ => rfl
  have F_is_deeds := fun_mk (st := s_is_deeds) l_is_deeds c_is_deeds_ k_is_deeds
  have b_is_deeds := F_is_deeds.binds (ps := ["value"]) fun _ _ _ _ _ _ us hl => match us, hl with | [_], _ => rfl
  have F_need_log_of := fun_mk (st := s_need_log_of) l_need_log_of c_need_log_of_ k_need_log_of
  have b_need_log_of := F_need_log_of.binds (ps := ["value", "deeds"]) fun _ _ _ _ _ _ us hl => match us, hl with | [_, _], _ => rfl
  have F_need_deeds := fun_mk (st := s_need_deeds) l_need_deeds c_need_deeds_ k_need_deeds
  have b_need_deeds := F_need_deeds.binds (ps := ["value"]) fun _ _ _ _ _ _ us hl => match us, hl with | [_], _ => rfl
  have F_need_rows := fun_mk (st := s_need_rows) l_need_rows c_need_rows_ k_need_rows
  have b_need_rows := F_need_rows.binds (ps := ["rows", "width"]) fun _ _ _ _ _ _ us hl => match us, hl with | [_, _], _ => rfl
  have F_place_of := fun_mk (st := s_place_of) l_place_of c_place_of_ k_place_of
  have b_place_of := F_place_of.binds (ps := ["deeds", "deed"]) fun _ _ _ _ _ _ us hl => match us, hl with | [_, _], _ => rfl
  have F_Store___init__ := fun_mk (st := s_Store___init__) l_Store___init__ c_Store___init___ k_Store___init__
  have b_Store___init__ := F_Store___init__.binds (ps := ["self", "deeds", "rows"]) fun _ _ _ _ _ _ us hl => match us, hl with | [_, _, _], _ => rfl
  have F_Store_rows := fun_mk (st := s_Store_rows) l_Store_rows c_Store_rows_ mk_Store_rows
  have b_Store_rows := F_Store_rows.binds (ps := ["self"]) fun _ _ _ _ _ _ us hl => match us, hl with | [_], _ => rfl
  have F_Store_need_stand := fun_mk (st := s_Store_need_stand) l_Store_need_stand c_Store_need_stand_ mk_Store_need_stand
  have b_Store_need_stand := F_Store_need_stand.binds (ps := ["self", "stand"]) fun _ _ _ _ _ _ us hl => match us, hl with | [_, _], _ => rfl
  have F_Store_need_deed := fun_mk (st := s_Store_need_deed) l_Store_need_deed c_Store_need_deed_ mk_Store_need_deed
  have b_Store_need_deed := F_Store_need_deed.binds (ps := ["self", "deed"]) fun _ _ _ _ _ _ us hl => match us, hl with | [_, _], _ => rfl
  have F_Store_led := fun_mk (st := s_Store_led) l_Store_led c_Store_led_ mk_Store_led
  have b_Store_led := F_Store_led.binds (ps := ["self", "stand", "log"]) fun _ _ _ _ _ _ us hl => match us, hl with | [_, _, _], _ => rfl
  have F_Store___call__ := fun_mk (st := s_Store___call__) l_Store___call__ c_Store___call___ mk_Store___call__
  have b_Store___call__ := F_Store___call__.binds (ps := ["self", "stand", "log"]) fun _ _ _ _ _ _ us hl => match us, hl with | [_, _, _], _ => rfl
  have F_Store_change := fun_mk (st := s_Store_change) l_Store_change c_Store_change_ mk_Store_change
  have b_Store_change := F_Store_change.binds (ps := ["self", "stand", "deed", "target"]) fun _ _ _ _ _ _ us hl => match us, hl with | [_, _, _, _], _ => rfl
  have F_Store___setitem__ := fun_mk (st := s_Store___setitem__) l_Store___setitem__ c_Store___setitem___ mk_Store___setitem__
  have b_Store___setitem__ := F_Store___setitem__.binds (ps := ["self", "at", "worth"]) fun _ _ _ _ _ _ us hl => match us, hl with | [_, _, _], _ => rfl
  have F_Store_twin := fun_mk (st := s_Store_twin) l_Store_twin c_Store_twin_ mk_Store_twin
  have b_Store_twin := F_Store_twin.binds (ps := ["self"]) fun _ _ _ _ _ _ us hl => match us, hl with | [_], _ => rfl
  have F_Store___eq__ := fun_mk (st := s_Store___eq__) l_Store___eq__ c_Store___eq___ mk_Store___eq__
  have b_Store___eq__ := F_Store___eq__.binds (ps := ["self", "other"]) fun _ _ _ _ _ _ us hl => match us, hl with | [_, _], _ => rfl
  have F_law_pull := fun_mk (st := s_law_pull) l_law_pull c_law_pull_ k_law_pull
  have b_law_pull := F_law_pull.binds (ps := ["_law_bag", "_law_many"]) fun _ _ _ _ _ _ us hl => match us, hl with | [_, _], _ => rfl
  have F_law_pick := fun_mk (st := s_law_pick) l_law_pick c_law_pick_ k_law_pick
  have b_law_pick := F_law_pick.binds (ps := ["_law_bag", "_law_some"]) fun _ _ _ _ _ _ us hl => match us, hl with | [_, _], _ => rfl
  have F_law_letters := fun_mk (st := s_law_letters) l_law_letters c_law_letters_ k_law_letters
  have b_law_letters := F_law_letters.binds (ps := []) fun _ _ _ _ _ _ us hl => match us, hl with | [], _ => rfl
  have F_law_alphabet := fun_mk (st := s_law_alphabet) l_law_alphabet c_law_alphabet_ k_law_alphabet
  have b_law_alphabet := F_law_alphabet.binds (ps := ["_law_bag", "_law_most"]) fun _ _ _ _ _ _ us hl => match us, hl with | [_, _], _ => rfl
  have F_law_rows := fun_mk (st := s_law_rows) l_law_rows c_law_rows_ k_law_rows
  have b_law_rows := F_law_rows.binds (ps := ["_law_bag", "_law_many", "_law_width"]) fun _ _ _ _ _ _ us hl => match us, hl with | [_, _, _], _ => rfl
  have F_law_ask := fun_mk (st := s_law_ask) l_law_ask c_law_ask_ k_law_ask
  have b_law_ask := F_law_ask.binds (ps := ["_law_f"]) fun _ _ _ _ _ _ us hl => match us, hl with | [_], _ => rfl
  have F_law_drawn := fun_mk (st := s_law_drawn) l_law_drawn c_law_drawn_ k_law_drawn
  have b_law_drawn := F_law_drawn.binds (ps := ["_law_bag", "_law_deeds", "_law_most"]) fun _ _ _ _ _ _ us hl => match us, hl with | [_, _, _], _ => rfl
  have F_law_same := fun_mk (st := s_law_same) l_law_same c_law_same_ k_law_same
  have b_law_same := F_law_same.binds (ps := ["_law_found", "_law_due"]) fun _ _ _ _ _ _ us hl => match us, hl with | [_, _], _ => rfl
  have F_law_led := fun_mk (st := s_law_led) l_law_led c_law_led_ k_law_led
  have b_law_led := F_law_led.binds (ps := ["_law_rows_here", "_law_deeds", "_law_stand", "_law_log"]) fun _ _ _ _ _ _ us hl => match us, hl with | [_, _, _, _], _ => rfl
  have F_law_start := fun_mk (st := s_law_start) l_law_start c_law_start_ k_law_start
  have b_law_start := F_law_start.binds (ps := ["_law_script"]) fun _ _ _ _ _ _ us hl => match us, hl with | [_], _ => rfl
  refine ⟨PySem.W.fnOf "law" "law" (defArgs s_law) (defBody s_law) (defScope s_law) .none kV_law dc_law pm_law an_law (.ref c_law) ct_law, [(c_law, Pt)], spOf K 1 fsLaw, fun p hp => ?_, fun p hp => ?_, fun p hp => ?_, fun s u => .of_eq rfl, fun H a ns hn _ hT hS => ?_, fun base KB GB TB => ?_⟩
  · rw [List.mem_singleton.mp hp]
    exact tb
  · rw [List.mem_singleton.mp hp]
    exact nP
  · rw [List.mem_singleton.mp hp]
    exact PySem.W.codeHd_of_K KX hd
  · exact law_entry (fun p hp => by rw [List.mem_singleton.mp hp]; exact LamX.TabS.nil (hT _ List.mem_cons_self)) hS hn
  · have D_law_start : Df l.prog w K mg base "_law_start" 1 1 fsStart := df_mk F_law_start (PySem.W.mg_of KX G a_law_start) b_law_start rfl (ok_law_start (w := w) F_law_start T)
    have ok_is_number := (ok_is_number (w := w) (base := base) F_is_number T )
    have D_is_number := (df_mk F_is_number (PySem.W.mg_of KX G a_is_number) b_is_number rfl ok_is_number).imp (fs' := fsIsNum) fun ds kd kx _ => is_num_ok'
    have ok_is_within := (ok_is_within (w := w) (base := base) F_is_within T D_is_number)
    have D_is_within := (df_mk F_is_within (PySem.W.mg_of KX G a_is_within) b_is_within rfl ok_is_within).imp (fs' := fsWithin) fun ds kd kx _ => within_ok'
    have ok_is_log := (ok_is_log (w := w) (base := base) F_is_log T )
    have D_is_log := (df_mk F_is_log (PySem.W.mg_of KX G a_is_log) b_is_log rfl ok_is_log).imp (fs' := fsIsLog) fun ds kd kx _ => is_log_ok'
    have ok_is_log_of := (ok_is_log_of (w := w) (base := base) F_is_log_of T )
    have D_is_log_of := (df_mk F_is_log_of (PySem.W.mg_of KX G a_is_log_of) b_is_log_of rfl ok_is_log_of).imp (fs' := fsIsLogV) fun ds kd kx _ => isLogV_ok'
    have ok_is_ascending := (ok_is_ascending (w := w) (base := base) F_is_ascending T )
    have D_is_ascending := (df_mk F_is_ascending (PySem.W.mg_of KX G a_is_ascending) b_is_ascending rfl ok_is_ascending).imp (fs' := fsAscX) fun ds kd kx _ => ascX_ok'
    have ok_is_deeds := (ok_is_deeds (w := w) (base := base) F_is_deeds T D_is_log D_is_ascending)
    have D_is_deeds := (df_mk F_is_deeds (PySem.W.mg_of KX G a_is_deeds) b_is_deeds rfl ok_is_deeds).imp (fs' := fsIsDeedsX) fun ds kd kx _ => is_deedsX_ok'
    have ok_need_log_of := (ok_need_log_of (w := w) (base := base) F_need_log_of T D_is_log_of)
    have D_need_log_of := (df_mk F_need_log_of (PySem.W.mg_of KX G a_need_log_of) b_need_log_of rfl ok_need_log_of).imp (fs' := (fsNeedV C.InvalidLog)) fun ds kd kx _ => needV_ok'
    have ok_need_deeds := (ok_need_deeds (w := w) (base := base) F_need_deeds T D_is_deeds)
    have D_need_deeds := (df_mk F_need_deeds (PySem.W.mg_of KX G a_need_deeds) b_need_deeds rfl ok_need_deeds).imp (fs' := (fsNeedDsX C.InvalidDeeds)) fun ds kd kx _ => need_deedsX_ok'
    have ok_need_rows := (ok_need_rows (w := w) (base := base) F_need_rows T D_is_within)
    have D_need_rows := (df_mk F_need_rows (PySem.W.mg_of KX G a_need_rows) b_need_rows rfl ok_need_rows).imp (fs' := fsNeedRowsG) fun ds kd kx _ => needRowsG_ok'
    have ok_place_of := (ok_place_of (w := w) (base := base) F_place_of T )
    have D_place_of := (df_mk F_place_of (PySem.W.mg_of KX G a_place_of) b_place_of rfl ok_place_of).imp (fs' := fsPlaceG) fun ds kd kx _ => plcG_ok'
    have R_Store___init__ := imp_spOi (fs' := (fsStoG C.Store)) (fnR_of (ok_Store___init__ (w := w) (base := base) F_Store___init__ T D_need_deeds D_need_rows) b_Store___init__) fun ds kd kx h => stoG_ok' h
    have Mk_Store : MkI l.prog w K mg base C.Store 4 2 (fsStoG C.Store) := ⟨_, ⟨ia_Store, ib_Store, ic_Store, id_Store⟩, R_Store___init__⟩
    have MkM_Store : MkM l.prog w K mg base C.Store 4 2 (fsStoM C.Store) := ⟨_, ⟨ia_Store, ib_Store, ic_Store, id_Store⟩, fnR_of (imp_spM (okM_Store___init__ (w := w) (base := base) F_Store___init__ T D_need_deeds D_need_rows) fun ds μ kd kx h => stoM_ok' h) b_Store___init__⟩
    have R_Store_rows := imp_spOf (fs' := (fsRows C.Store)) (fnR_of (ok_Store_rows (w := w) (base := base) F_Store_rows T ) b_Store_rows) fun ds kd kx h => rows_ok' h
    have M_Store_rows : Mt l.prog w K mg base C.Store "rows" 1 0 (fsRows C.Store) := ⟨⟨kg_Store, kh_Store, ko_Store, ks_Store⟩, _, ⟨ma_Store_rows, mf_Store_rows, mk_Store_rows⟩, R_Store_rows⟩
    have R_Store_need_stand := imp_spOf (fs' := (fsNeedSt C.Store C.InvalidStand)) (fnR_of (ok_Store_need_stand (w := w) (base := base) F_Store_need_stand T D_is_within) b_Store_need_stand) fun ds kd kx h => needSt_ok' h
    have M_Store_need_stand : Mt l.prog w K mg base C.Store "need_stand" 3 1 (fsNeedSt C.Store C.InvalidStand) := ⟨⟨kg_Store, kh_Store, ko_Store, ks_Store⟩, _, ⟨ma_Store_need_stand, mf_Store_need_stand, mk_Store_need_stand⟩, R_Store_need_stand⟩
    have R_Store_need_deed := imp_spOf (fs' := (fsNeedDe C.Store C.InvalidDeed)) (fnR_of (ok_Store_need_deed (w := w) (base := base) F_Store_need_deed T ) b_Store_need_deed) fun ds kd kx h => needDe_ok' h
    have M_Store_need_deed : Mt l.prog w K mg base C.Store "need_deed" 2 1 (fsNeedDe C.Store C.InvalidDeed) := ⟨⟨kg_Store, kh_Store, ko_Store, ks_Store⟩, _, ⟨ma_Store_need_deed, mf_Store_need_deed, mk_Store_need_deed⟩, R_Store_need_deed⟩
    have R_Store_led := imp_spOf (fs' := (fsLedS C.Store)) (fnR_of (ok_Store_led (w := w) (base := base) F_Store_led T D_place_of) b_Store_led) fun ds kd kx h => ledS_ok' h
    have M_Store_led : Mt l.prog w K mg base C.Store "led" 2 2 (fsLedS C.Store) := ⟨⟨kg_Store, kh_Store, ko_Store, ks_Store⟩, _, ⟨ma_Store_led, mf_Store_led, mk_Store_led⟩, R_Store_led⟩
    have R_Store___call__ := imp_spOf (fs' := (fsCallG C.Store)) (fnR_of (ok_Store___call__ (w := w) (base := base) F_Store___call__ T D_need_log_of M_Store_need_stand M_Store_led) b_Store___call__) fun ds kd kx h => callG_ok' h
    have M_Store___call__ : Mt l.prog w K mg base C.Store "__call__" 4 2 (fsCallG C.Store) := ⟨⟨kg_Store, kh_Store, ko_Store, ks_Store⟩, _, ⟨ma_Store___call__, mf_Store___call__, mk_Store___call__⟩, R_Store___call__⟩
    have MM_Store_change : MtM l.prog w K mg base C.Store "change" 4 3 (fsChgM C.Store C.InvalidStand) := ⟨⟨kg_Store, kh_Store, ko_Store, ks_Store⟩, _, ⟨ma_Store_change, mf_Store_change, mk_Store_change⟩, fnR_of (imp_spM (okM_Store_change (w := w) (base := base) F_Store_change T D_place_of M_Store_need_stand M_Store_need_deed) fun ds μ kd kx h => chgM_ok' h) b_Store_change⟩
    have MM_Store___setitem__ : MtM l.prog w K mg base C.Store "__setitem__" 5 2 (fsSetM C.Store C.InvalidStand) := ⟨⟨kg_Store, kh_Store, ko_Store, ks_Store⟩, _, ⟨ma_Store___setitem__, mf_Store___setitem__, mk_Store___setitem__⟩, fnR_of (imp_spM (okM_Store___setitem__ (w := w) (base := base) F_Store___setitem__ T MM_Store_change) fun ds μ kd kx h => setM_ok' h) b_Store___setitem__⟩
    have R_Store_twin := imp_spOf (fs' := (fsTwin C.Store)) (fnR_of (ok_Store_twin (w := w) (base := base) F_Store_twin T Mk_Store M_Store_rows) b_Store_twin) fun ds kd kx h => twin_ok' h
    have M_Store_twin : Mt l.prog w K mg base C.Store "twin" 6 0 (fsTwin C.Store) := ⟨⟨kg_Store, kh_Store, ko_Store, ks_Store⟩, _, ⟨ma_Store_twin, mf_Store_twin, mk_Store_twin⟩, R_Store_twin⟩
    have MM_Store_twin : MtM l.prog w K mg base C.Store "twin" 6 0 (fsTwinM C.Store) := ⟨⟨kg_Store, kh_Store, ko_Store, ks_Store⟩, _, ⟨ma_Store_twin, mf_Store_twin, mk_Store_twin⟩, fnR_of (imp_spM (okM_Store_twin (w := w) (base := base) F_Store_twin T MkM_Store M_Store_rows) fun ds μ kd kx h => twinM_ok' h) b_Store_twin⟩
    have R_Store___eq__ := imp_spOf (fs' := (fsEqG C.Store)) (fnR_of (ok_Store___eq__ (w := w) (base := base) F_Store___eq__ T ) b_Store___eq__) fun ds kd kx h => eqG_ok' h
    have M_Store___eq__ : Mt l.prog w K mg base C.Store "__eq__" 1 1 (fsEqG C.Store) := ⟨⟨kg_Store, kh_Store, ko_Store, ks_Store⟩, _, ⟨ma_Store___eq__, mf_Store___eq__, mk_Store___eq__⟩, R_Store___eq__⟩
    have D_law_pull : Df l.prog w K mg base "_law_pull" 1 2 fsPull := df_mk F_law_pull (PySem.W.mg_of KX G a_law_pull) b_law_pull rfl (pull_conv (ok_law_pull (w := w) F_law_pull T) rfl pull_ok')
    have ok_law_pick := (ok_law_pick (w := w) (base := base) F_law_pick T D_law_pull)
    have D_law_pick := (df_mk F_law_pick (PySem.W.mg_of KX G a_law_pick) b_law_pick rfl ok_law_pick).imp (fs' := fsPick) fun ds kd kx _ => pick_ok'
    have ok_law_letters := (ok_law_letters (w := w) (base := base) F_law_letters T )
    have D_law_letters := (df_mk F_law_letters (PySem.W.mg_of KX G a_law_letters) b_law_letters rfl ok_law_letters).imp (fs' := fsLetters) fun ds kd kx _ => letters_ok' ‹_›
    have ok_law_alphabet := (ok_law_alphabet (w := w) (base := base) F_law_alphabet T D_law_pull D_law_pick D_law_letters)
    have D_law_alphabet := (df_mk F_law_alphabet (PySem.W.mg_of KX G a_law_alphabet) b_law_alphabet rfl ok_law_alphabet).imp (fs' := fsAlpha) fun ds kd kx _ => alpha_ok'
    have DM_law_rows : DfM l.prog w K mg base "_law_rows" 2 3 fsLRowsM := dfM_mk F_law_rows (PySem.W.mg_of KX G a_law_rows) b_law_rows rfl (imp_spM (okM_law_rows (w := w) (base := base) F_law_rows T D_law_pull) fun ds μ kd kx h => lrowsM_ok' h)
    have ok_law_drawn := (ok_law_drawn (w := w) (base := base) F_law_drawn T D_law_pick D_law_pull)
    have D_law_drawn := (df_mk F_law_drawn (PySem.W.mg_of KX G a_law_drawn) b_law_drawn rfl ok_law_drawn).imp (fs' := fsDrawn) fun ds kd kx _ => drawn_ok'
    have same : ∀ n, Df l.prog w K mg base "_law_same" n 2 (fsSame n) := fun n => by
      induction n with
      | zero => exact df_mk F_law_same (PySem.W.mg_of KX G a_law_same) b_law_same rfl same_zero
      | succ n ih => exact (df_mk (base := base) F_law_same (PySem.W.mg_of KX G a_law_same) b_law_same rfl (ok_law_same (w := w) F_law_same T (Nat.zero_le n) ih)).imp fun ds kd kx _ => same_ok'
    have D_law_same := same 9
    have ok_law_led := (ok_law_led (w := w) (base := base) F_law_led T )
    have D_law_led := (df_mk F_law_led (PySem.W.mg_of KX G a_law_led) b_law_led rfl ok_law_led).imp (fs' := fsLedL) fun ds kd kx _ => ledL_ok'
    refine (ok_law (w := w) (kV := kV_law) l_law c_law_ (TB _ List.mem_cons_self) List.mem_cons_self T D_law_start D_law_alphabet D_law_pull D_law_drawn D_law_same D_law_led F_law_ask (PySem.W.mg_of KX G a_law_ask) b_law_ask MkM_Store MM_Store_twin MM_Store___setitem__ MM_Store_change M_Store_rows M_Store___call__ M_Store___eq__ M_Store_twin DM_law_rows).imp fun vs H Q E ⟨G, ds, k, kx, a, b, c, d, e⟩ => ⟨G, ds, k, kx, a, b, c, law_ok' (A := ⟨K, C.LogError, C.Missing, C.InvalidDeed, C.InvalidDeeds, C.InvalidLog, C.InvalidStep, C.InvalidStore, C.InvalidStand, C.InvalidNumber, C.InvalidCount, C.TooMany, C.NothingLeft, C.Store⟩) ⟨XF_InvalidStand, (by
      show PySem.W.exmAny K (.ref C_InvalidStand) [.ref C_InvalidDeed, .ref C_InvalidDeeds, .ref C_InvalidLog, .ref C_InvalidStand, .ref C_InvalidNumber, .ref C_InvalidCount] = some true
      simp only [PySem.W.exmAny, e_InvalidStand_InvalidDeed, e_InvalidStand_InvalidDeeds, e_InvalidStand_InvalidLog, e_InvalidStand_InvalidStand, e_InvalidStand_InvalidNumber, e_InvalidStand_InvalidCount]
      rfl)⟩ d, e⟩
end K23
set_option Elab.async false
set_option linter.all false
set_option maxRecDepth 100000
set_option maxHeartbeats 0
open PySem PySem.W PyProof.Rows in
set_option maxRecDepth 100000 in
set_option maxHeartbeats 0 in
theorem PySem.Challenge.cw_replaylog_k23_stores_changed_holds : PySem.Challenge.rw_replaylog_k23_stores_changed.Holds := by
  w_on; o_law
  refine HandSHeadRun.head_any (r := OpenLaw.row PySem.Challenge.rw_replaylog_k23_stores_changed) (q := H23.hq) (H := H23.hhk) (ob := H23.hob) (M := 20000) (loose := H23.hnames) (d := HandSHeadRun.topDef (OpenLaw.row PySem.Challenge.rw_replaylog_k23_stores_changed).prog 41) (kwd := []) H23.hob_eq
    (by kernel_rfl) (fun s => by kernel_rfl) H23.hrun (by kernel_rfl) (by kernel_rfl) (by kernel_rfl) (by rfl) (by first | assumption | decide +kernel) (by decide +kernel) ⟨rfl, rfl, rfl, rfl, rfl, by decide +kernel⟩ ?hw ?hc
  case hw => w_witness2
  case hc =>
    refine LamX.walk_ofTsE (l := PySem.Challenge.rw_replaylog_k23_stores_changed) (n := 63) (k := 24) (x := "_law_script") (CX := fun w => L2.CX PySem.Challenge.pw_replaylog_k23_stores_changed w) rfl (by decide) (by kernel_rfl) ⟨rfl, by decide, by decide⟩ ?F ?X
    case X => exact fun w H s e s' ⟨_, _, _, _, _, _, _, _, _, _, _, _, z⟩ => z
    case F =>
      intro w mg fa h Y G hmg0
      obtain ⟨K, KX, c⟩ := Y
      have hmg : mg ("law" : PySem.Str) = some (.ref fa) := by
        have e : (HandSHeadRun.topDef (OpenLaw.row PySem.Challenge.rw_replaylog_k23_stores_changed).prog 41).name = ("law" : PySem.Str) := by kernel_rfl
        rw [← e]
        exact hmg0
      refine ⟨K, KX, ?_⟩
      refine' K23.all_mk KX G hmg ?tb ?g_Store ?kg_Store ?kh_Store ?ko_Store ?ks_Store ?fn_Store_own_deeds ?fn_Store_table ?fai_Store_Store ?fci_Store_Store ?fdi_Store_Store ?isn ?isk ?foc_Store ?fns_Store ?fafa_Store___call__ ?fbfa_Store___call__ ?fsub_Store_Store ?ma_Store_need_stand ?mf_Store_need_stand ?mk_Store_need_stand ?ma_Store_led ?mf_Store_led ?mk_Store_led ?ma_Store_need_deed ?mf_Store_need_deed ?mk_Store_need_deed ?ma_Store_change ?mf_Store_change ?mk_Store_change ?ia_Store ?ib_Store ?ic_Store ?id_Store ?ma_Store_rows ?mf_Store_rows ?mk_Store_rows ?ma_Store_twin ?mf_Store_twin ?mk_Store_twin ?ma_Store___setitem__ ?mf_Store___setitem__ ?mk_Store___setitem__ ?ma_Store___call__ ?mf_Store___call__ ?mk_Store___call__ ?ma_Store___eq__ ?mf_Store___eq__ ?mk_Store___eq__ ?a_is_number ?l_is_number ?c_is_number_ ?k_is_number ?a_is_within ?l_is_within ?c_is_within_ ?k_is_within ?a_is_log ?l_is_log ?c_is_log_ ?k_is_log ?a_is_log_of ?l_is_log_of ?c_is_log_of_ ?k_is_log_of ?a_is_ascending ?l_is_ascending ?c_is_ascending_ ?k_is_ascending ?a_is_deeds ?l_is_deeds ?c_is_deeds_ ?k_is_deeds ?a_need_log_of ?l_need_log_of ?c_need_log_of_ ?k_need_log_of ?a_need_deeds ?l_need_deeds ?c_need_deeds_ ?k_need_deeds ?a_need_rows ?l_need_rows ?c_need_rows_ ?k_need_rows ?a_place_of ?l_place_of ?c_place_of_ ?k_place_of ?l_Store___init__ ?c_Store___init___ ?k_Store___init__ ?l_Store_rows ?c_Store_rows_ ?l_Store_need_stand ?c_Store_need_stand_ ?l_Store_need_deed ?c_Store_need_deed_ ?l_Store_led ?c_Store_led_ ?l_Store___call__ ?c_Store___call___ ?l_Store_change ?c_Store_change_ ?l_Store___setitem__ ?c_Store___setitem___ ?l_Store_twin ?c_Store_twin_ ?l_Store___eq__ ?c_Store___eq___ ?a_law_pull ?l_law_pull ?c_law_pull_ ?k_law_pull ?a_law_pick ?l_law_pick ?c_law_pick_ ?k_law_pick ?a_law_letters ?l_law_letters ?c_law_letters_ ?k_law_letters ?a_law_alphabet ?l_law_alphabet ?c_law_alphabet_ ?k_law_alphabet ?a_law_rows ?l_law_rows ?c_law_rows_ ?k_law_rows ?a_law_ask ?l_law_ask ?c_law_ask_ ?k_law_ask ?a_law_drawn ?l_law_drawn ?c_law_drawn_ ?k_law_drawn ?a_law_same ?l_law_same ?c_law_same_ ?k_law_same ?a_law_led ?l_law_led ?c_law_led_ ?k_law_led ?a_law ?l_law ?c_law_ ?k_law ?a_law_start ?l_law_start ?c_law_start_ ?k_law_start ?lc_law ?lp_law ?hd ?nP ?z_all ?z_bool ?z_enumerate ?z_int ?z_isinstance ?z_len ?z_list ?z_min ?z_range ?z_str ?z_tuple ?q_LETTERS ?q_MOST_DEEDS ?q_MOST_STANDS ?g_LogError ?g_Missing ?g_InvalidDeed ?g_InvalidDeeds ?g_InvalidLog ?g_InvalidStep ?g_InvalidStore ?g_InvalidStand ?g_InvalidNumber ?g_InvalidCount ?g_TooMany ?g_NothingLeft ?xc_InvalidDeed ?xm_InvalidDeed ?xsa_InvalidDeed ?xga_InvalidDeed ?xgg_InvalidDeed ?xnf_InvalidDeed ?xnt_InvalidDeed ?xk_InvalidDeed ?xe_InvalidDeed ?xv_InvalidDeed ?xt_InvalidDeed ?xd_InvalidDeed ?xi_InvalidDeed ?xit_InvalidDeed ?xl_InvalidDeed ?xco_InvalidDeed ?xcd_InvalidDeed ?xcf_InvalidDeed ?xcg_InvalidDeed ?xcc_InvalidDeed ?xmr_InvalidDeed ?xsu_InvalidDeed ?xc_InvalidDeeds ?xm_InvalidDeeds ?xsa_InvalidDeeds ?xga_InvalidDeeds ?xgg_InvalidDeeds ?xnf_InvalidDeeds ?xnt_InvalidDeeds ?xk_InvalidDeeds ?xe_InvalidDeeds ?xv_InvalidDeeds ?xt_InvalidDeeds ?xd_InvalidDeeds ?xi_InvalidDeeds ?xit_InvalidDeeds ?xl_InvalidDeeds ?xco_InvalidDeeds ?xcd_InvalidDeeds ?xcf_InvalidDeeds ?xcg_InvalidDeeds ?xcc_InvalidDeeds ?xmr_InvalidDeeds ?xsu_InvalidDeeds ?xc_InvalidLog ?xm_InvalidLog ?xsa_InvalidLog ?xga_InvalidLog ?xgg_InvalidLog ?xnf_InvalidLog ?xnt_InvalidLog ?xk_InvalidLog ?xe_InvalidLog ?xv_InvalidLog ?xt_InvalidLog ?xd_InvalidLog ?xi_InvalidLog ?xit_InvalidLog ?xl_InvalidLog ?xco_InvalidLog ?xcd_InvalidLog ?xcf_InvalidLog ?xcg_InvalidLog ?xcc_InvalidLog ?xmr_InvalidLog ?xsu_InvalidLog ?xc_InvalidStand ?xm_InvalidStand ?xsa_InvalidStand ?xga_InvalidStand ?xgg_InvalidStand ?xnf_InvalidStand ?xnt_InvalidStand ?xk_InvalidStand ?xe_InvalidStand ?xv_InvalidStand ?xt_InvalidStand ?xd_InvalidStand ?xi_InvalidStand ?xit_InvalidStand ?xl_InvalidStand ?xco_InvalidStand ?xcd_InvalidStand ?xcf_InvalidStand ?xcg_InvalidStand ?xcc_InvalidStand ?xmr_InvalidStand ?xsu_InvalidStand ?xc_InvalidStore ?xm_InvalidStore ?xsa_InvalidStore ?xga_InvalidStore ?xgg_InvalidStore ?xnf_InvalidStore ?xnt_InvalidStore ?xk_InvalidStore ?xe_InvalidStore ?xv_InvalidStore ?xt_InvalidStore ?xd_InvalidStore ?xi_InvalidStore ?xit_InvalidStore ?xl_InvalidStore ?xco_InvalidStore ?xcd_InvalidStore ?xcf_InvalidStore ?xcg_InvalidStore ?xcc_InvalidStore ?xmr_InvalidStore ?xsu_InvalidStore ?xc_TooMany ?xm_TooMany ?xsa_TooMany ?xga_TooMany ?xgg_TooMany ?xnf_TooMany ?xnt_TooMany ?xk_TooMany ?xe_TooMany ?xv_TooMany ?xt_TooMany ?xd_TooMany ?xi_TooMany ?xit_TooMany ?xl_TooMany ?xco_TooMany ?xcd_TooMany ?xcf_TooMany ?xcg_TooMany ?xcc_TooMany ?xmr_TooMany ?xsu_TooMany ?xop ?xsup ?xtop ?e_InvalidDeed_InvalidDeed ?e_InvalidDeed_InvalidDeeds ?e_InvalidDeed_InvalidLog ?e_InvalidDeed_InvalidStand ?e_InvalidDeed_InvalidNumber ?e_InvalidDeed_InvalidCount ?e_InvalidDeeds_InvalidDeed ?e_InvalidDeeds_InvalidDeeds ?e_InvalidDeeds_InvalidLog ?e_InvalidDeeds_InvalidStand ?e_InvalidDeeds_InvalidNumber ?e_InvalidDeeds_InvalidCount ?e_InvalidLog_InvalidDeed ?e_InvalidLog_InvalidDeeds ?e_InvalidLog_InvalidLog ?e_InvalidLog_InvalidStand ?e_InvalidLog_InvalidNumber ?e_InvalidLog_InvalidCount ?e_InvalidStand_InvalidDeed ?e_InvalidStand_InvalidDeeds ?e_InvalidStand_InvalidLog ?e_InvalidStand_InvalidStand ?e_InvalidStand_InvalidNumber ?e_InvalidStand_InvalidCount ?e_InvalidStore_InvalidDeed ?e_InvalidStore_InvalidDeeds ?e_InvalidStore_InvalidLog ?e_InvalidStore_InvalidStand ?e_InvalidStore_InvalidNumber ?e_InvalidStore_InvalidCount ?e_TooMany_InvalidDeed ?e_TooMany_InvalidDeeds ?e_TooMany_InvalidLog ?e_TooMany_InvalidStand ?e_TooMany_InvalidNumber ?e_TooMany_InvalidCount
      (case g_Store => exact Hz.sRef_ok (c.b 0 0))
      (case kg_Store => exact (c.b 0 1))
      (case kh_Store => exact (c.b 0 2))
      (case ko_Store => exact (c.b 0 3))
      (case ks_Store => exact Hz.sBlt_ok (c.b 0 4))
      (case fn_Store_own_deeds => exact Hz.sNone_ok (c.b 0 5))
      (case fn_Store_table => exact Hz.sNone_ok (c.b 0 6))
      (case fai_Store_Store => exact Hz.sBlt_ok (c.b 0 7))
      (case fci_Store_Store => exact Hz.oBl_ok (c.b 0 8))
      (case fdi_Store_Store => exact Hz.oBl_ok (c.b 0 9))
      (case isn => exact Hz.sBlt_ok (c.b 0 10))
      (case isk => exact Hz.oBl_ok (c.b 0 11))
      (case foc_Store => exact (c.b 0 12))
      (case fns_Store => exact (c.b 0 13))
      (case fafa_Store___call__ => exact Hz.sRef_ok (c.b 0 14))
      (case fbfa_Store___call__ => exact (c.b 0 15))
      (case fsub_Store_Store => exact Hz.oBl_ok (c.b 0 16))
      (case ma_Store_need_stand => exact Hz.sRef_ok (c.b 0 17))
      (case mf_Store_need_stand => exact (c.b 0 18))
      (case mk_Store_need_stand => exact (c.b 0 19))
      (case ma_Store_led => exact Hz.sRef_ok (c.b 0 20))
      (case mf_Store_led => exact (c.b 0 21))
      (case mk_Store_led => exact (c.b 0 22))
      (case ma_Store_need_deed => exact Hz.sRef_ok (c.b 0 23))
      (case mf_Store_need_deed => exact (c.b 0 24))
      (case mk_Store_need_deed => exact (c.b 1 0))
      (case ma_Store_change => exact Hz.sRef_ok (c.b 1 1))
      (case mf_Store_change => exact (c.b 1 2))
      (case mk_Store_change => exact (c.b 1 3))
      (case ia_Store => exact (c.b 1 4))
      (case ib_Store => exact Hz.sRef_ok (c.b 1 5))
      (case ic_Store => exact (c.b 1 6))
      (case id_Store => exact (c.b 1 7))
      (case ma_Store_rows => exact Hz.sRef_ok (c.b 1 8))
      (case mf_Store_rows => exact (c.b 1 9))
      (case mk_Store_rows => exact (c.b 1 10))
      (case ma_Store_twin => exact Hz.sRef_ok (c.b 1 11))
      (case mf_Store_twin => exact (c.b 1 12))
      (case mk_Store_twin => exact (c.b 1 13))
      (case ma_Store___setitem__ => exact Hz.sRef_ok (c.b 1 14))
      (case mf_Store___setitem__ => exact (c.b 1 15))
      (case mk_Store___setitem__ => exact (c.b 1 16))
      (case ma_Store___call__ => exact Hz.sRef_ok (c.b 1 17))
      (case mf_Store___call__ => exact (c.b 1 18))
      (case mk_Store___call__ => exact (c.b 1 19))
      (case ma_Store___eq__ => exact Hz.sRef_ok (c.b 1 20))
      (case mf_Store___eq__ => exact (c.b 1 21))
      (case mk_Store___eq__ => exact (c.b 1 22))
      (case a_is_number => exact Hz.sRef_ok (c.b 1 23))
      (case l_is_number => exact Hz.lk_fn (c.g 0) (c.b 1 24))
      (case c_is_number_ => exact (c.b 2 0))
      (case k_is_number => exact (c.b 2 1))
      (case a_is_within => exact Hz.sRef_ok (c.b 2 2))
      (case l_is_within => exact Hz.lk_fn (c.g 1) (c.b 2 3))
      (case c_is_within_ => exact (c.b 2 4))
      (case k_is_within => exact (c.b 2 5))
      (case a_is_log => exact Hz.sRef_ok (c.b 2 6))
      (case l_is_log => exact Hz.lk_fn (c.g 2) (c.b 2 7))
      (case c_is_log_ => exact (c.b 2 8))
      (case k_is_log => exact (c.b 2 9))
      (case a_is_log_of => exact Hz.sRef_ok (c.b 2 10))
      (case l_is_log_of => exact Hz.lk_fn (c.g 3) (c.b 2 11))
      (case c_is_log_of_ => exact (c.b 2 12))
      (case k_is_log_of => exact (c.b 2 13))
      (case a_is_ascending => exact Hz.sRef_ok (c.b 2 14))
      (case l_is_ascending => exact Hz.lk_fn (c.g 4) (c.b 2 15))
      (case c_is_ascending_ => exact (c.b 2 16))
      (case k_is_ascending => exact (c.b 2 17))
      (case a_is_deeds => exact Hz.sRef_ok (c.b 2 18))
      (case l_is_deeds => exact Hz.lk_fn (c.g 5) (c.b 2 19))
      (case c_is_deeds_ => exact (c.b 2 20))
      (case k_is_deeds => exact (c.b 2 21))
      (case a_need_log_of => exact Hz.sRef_ok (c.b 2 22))
      (case l_need_log_of => exact Hz.lk_fn (c.g 6) (c.b 2 23))
      (case c_need_log_of_ => exact (c.b 2 24))
      (case k_need_log_of => exact (c.b 3 0))
      (case a_need_deeds => exact Hz.sRef_ok (c.b 3 1))
      (case l_need_deeds => exact Hz.lk_fn (c.g 7) (c.b 3 2))
      (case c_need_deeds_ => exact (c.b 3 3))
      (case k_need_deeds => exact (c.b 3 4))
      (case a_need_rows => exact Hz.sRef_ok (c.b 3 5))
      (case l_need_rows => exact Hz.lk_fn (c.g 8) (c.b 3 6))
      (case c_need_rows_ => exact (c.b 3 7))
      (case k_need_rows => exact (c.b 3 8))
      (case a_place_of => exact Hz.sRef_ok (c.b 3 9))
      (case l_place_of => exact Hz.lk_fn (c.g 9) (c.b 3 10))
      (case c_place_of_ => exact (c.b 3 11))
      (case k_place_of => exact (c.b 3 12))
      (case l_Store___init__ => exact Hz.lk_fn (c.g 10) (c.b 3 13))
      (case c_Store___init___ => exact (c.b 3 14))
      (case k_Store___init__ => exact (c.b 3 15))
      (case l_Store_rows => exact Hz.lk_fn (c.g 11) (c.b 3 16))
      (case c_Store_rows_ => exact (c.b 3 17))
      (case l_Store_need_stand => exact Hz.lk_fn (c.g 12) (c.b 3 18))
      (case c_Store_need_stand_ => exact (c.b 3 19))
      (case l_Store_need_deed => exact Hz.lk_fn (c.g 13) (c.b 3 20))
      (case c_Store_need_deed_ => exact (c.b 3 21))
      (case l_Store_led => exact Hz.lk_fn (c.g 14) (c.b 3 22))
      (case c_Store_led_ => exact (c.b 3 23))
      (case l_Store___call__ => exact Hz.lk_fn (c.g 15) (c.b 3 24))
      (case c_Store___call___ => exact (c.b 4 0))
      (case l_Store_change => exact Hz.lk_fn (c.g 16) (c.b 4 1))
      (case c_Store_change_ => exact (c.b 4 2))
      (case l_Store___setitem__ => exact Hz.lk_fn (c.g 17) (c.b 4 3))
      (case c_Store___setitem___ => exact (c.b 4 4))
      (case l_Store_twin => exact Hz.lk_fn (c.g 18) (c.b 4 5))
      (case c_Store_twin_ => exact (c.b 4 6))
      (case l_Store___eq__ => exact Hz.lk_fn (c.g 19) (c.b 4 7))
      (case c_Store___eq___ => exact (c.b 4 8))
      (case a_law_pull => exact Hz.sRef_ok (c.b 4 9))
      (case l_law_pull => exact Hz.lk_fn (c.g 20) (c.b 4 10))
      (case c_law_pull_ => exact (c.b 4 11))
      (case k_law_pull => exact (c.b 4 12))
      (case a_law_pick => exact Hz.sRef_ok (c.b 4 13))
      (case l_law_pick => exact Hz.lk_fn (c.g 21) (c.b 4 14))
      (case c_law_pick_ => exact (c.b 4 15))
      (case k_law_pick => exact (c.b 4 16))
      (case a_law_letters => exact Hz.sRef_ok (c.b 4 17))
      (case l_law_letters => exact Hz.lk_fn (c.g 22) (c.b 4 18))
      (case c_law_letters_ => exact (c.b 4 19))
      (case k_law_letters => exact (c.b 4 20))
      (case a_law_alphabet => exact Hz.sRef_ok (c.b 4 21))
      (case l_law_alphabet => exact Hz.lk_fn (c.g 23) (c.b 4 22))
      (case c_law_alphabet_ => exact (c.b 4 23))
      (case k_law_alphabet => exact (c.b 4 24))
      (case a_law_rows => exact Hz.sRef_ok (c.b 5 0))
      (case l_law_rows => exact Hz.lk_fn (c.g 24) (c.b 5 1))
      (case c_law_rows_ => exact (c.b 5 2))
      (case k_law_rows => exact (c.b 5 3))
      (case a_law_ask => exact Hz.sRef_ok (c.b 5 4))
      (case l_law_ask => exact Hz.lk_fn (c.g 25) (c.b 5 5))
      (case c_law_ask_ => exact (c.b 5 6))
      (case k_law_ask => exact (c.b 5 7))
      (case a_law_drawn => exact Hz.sRef_ok (c.b 5 8))
      (case l_law_drawn => exact Hz.lk_fn (c.g 26) (c.b 5 9))
      (case c_law_drawn_ => exact (c.b 5 10))
      (case k_law_drawn => exact (c.b 5 11))
      (case a_law_same => exact Hz.sRef_ok (c.b 5 12))
      (case l_law_same => exact Hz.lk_fn (c.g 27) (c.b 5 13))
      (case c_law_same_ => exact (c.b 5 14))
      (case k_law_same => exact (c.b 5 15))
      (case a_law_led => exact Hz.sRef_ok (c.b 5 16))
      (case l_law_led => exact Hz.lk_fn (c.g 28) (c.b 5 17))
      (case c_law_led_ => exact (c.b 5 18))
      (case k_law_led => exact (c.b 5 19))
      (case a_law => exact Hz.sRef_ok (c.b 5 20))
      (case l_law => exact Hz.lk_fnc (c.g 29) (c.b 5 21))
      (case c_law_ => exact (c.b 5 22))
      (case k_law => exact (c.b 5 23))
      (case a_law_start => exact Hz.sRef_ok (c.b 5 24))
      (case l_law_start => exact Hz.lk_fn (c.g 30) (c.b 6 0))
      (case c_law_start_ => exact (c.b 6 1))
      (case k_law_start => exact (c.b 6 2))
      (case lc_law => exact Hz.lk_fl (c.b 6 3))
      (case lp_law => exact Hz.flR_ok (c.b 6 4))
      (case hd => exact (c.b 6 5))
      (case nP => exact Hz.isNo_ok (c.b 6 6))
      (case z_all => exact Hz.sNone_ok (c.b 6 7))
      (case z_bool => exact Hz.sNone_ok (c.b 6 8))
      (case z_enumerate => exact Hz.sNone_ok (c.b 6 9))
      (case z_int => exact Hz.sNone_ok (c.b 6 10))
      (case z_isinstance => exact Hz.sNone_ok (c.b 6 11))
      (case z_len => exact Hz.sNone_ok (c.b 6 12))
      (case z_list => exact Hz.sNone_ok (c.b 6 13))
      (case z_min => exact Hz.sNone_ok (c.b 6 14))
      (case z_range => exact Hz.sNone_ok (c.b 6 15))
      (case z_str => exact Hz.sNone_ok (c.b 6 16))
      (case z_tuple => exact Hz.sNone_ok (c.b 6 17))
      (case q_LETTERS => exact Hz.sStr_ok (c.b 6 18))
      (case q_MOST_DEEDS => exact Hz.sInt_ok (c.b 6 19))
      (case q_MOST_STANDS => exact Hz.sInt_ok (c.b 6 20))
      (case g_LogError => exact Hz.sRef_ok (c.b 6 21))
      (case g_Missing => exact Hz.sRef_ok (c.b 6 22))
      (case g_InvalidDeed => exact Hz.sRef_ok (c.b 6 23))
      (case g_InvalidDeeds => exact Hz.sRef_ok (c.b 6 24))
      (case g_InvalidLog => exact Hz.sRef_ok (c.b 7 0))
      (case g_InvalidStep => exact Hz.sRef_ok (c.b 7 1))
      (case g_InvalidStore => exact Hz.sRef_ok (c.b 7 2))
      (case g_InvalidStand => exact Hz.sRef_ok (c.b 7 3))
      (case g_InvalidNumber => exact Hz.sRef_ok (c.b 7 4))
      (case g_InvalidCount => exact Hz.sRef_ok (c.b 7 5))
      (case g_TooMany => exact Hz.sRef_ok (c.b 7 6))
      (case g_NothingLeft => exact Hz.sRef_ok (c.b 7 7))
      (case xc_InvalidDeed => exact Hz.lk_exc (c.b 7 8))
      (case xm_InvalidDeed => exact (c.b 7 9))
      (case xsa_InvalidDeed => exact Hz.sBlt_ok (c.b 7 10))
      (case xga_InvalidDeed => exact Hz.sBlt_ok (c.b 7 11))
      (case xgg_InvalidDeed => exact Hz.sNone_ok (c.b 7 12))
      (case xnf_InvalidDeed => exact Hz.sNone_ok (c.b 7 13))
      (case xnt_InvalidDeed => exact Hz.sNone_ok (c.b 7 14))
      (case xk_InvalidDeed => exact (c.b 7 15))
      (case xe_InvalidDeed => exact Hz.oBl_ok (c.b 7 16))
      (case xv_InvalidDeed => exact Hz.oBl_ok (c.b 7 17))
      (case xt_InvalidDeed => exact Hz.oTyp_ok (c.b 7 18))
      (case xd_InvalidDeed => exact (c.b 7 19))
      (case xi_InvalidDeed => exact Hz.sRef_ok (c.b 7 20))
      (case xit_InvalidDeed => exact Hz.oTyp_ok (c.b 7 21))
      (case xl_InvalidDeed => exact Hz.lk_ks0 (c.g 31) (c.b 7 22))
      (case xco_InvalidDeed => exact (c.b 7 23))
      (case xcd_InvalidDeed => exact Hz.lk_fl (c.b 7 24))
      (case xcf_InvalidDeed => exact Hz.flS_ok (c.b 8 0))
      (case xcg_InvalidDeed => exact (c.b 8 1))
      (case xcc_InvalidDeed => exact Hz.lk_cell (c.b 8 2))
      (case xmr_InvalidDeed => exact Hz.oBl_ok (c.b 8 3))
      (case xsu_InvalidDeed => exact Hz.sBlt_ok (c.b 8 4))
      (case xc_InvalidDeeds => exact Hz.lk_exc (c.b 8 5))
      (case xm_InvalidDeeds => exact (c.b 8 6))
      (case xsa_InvalidDeeds => exact Hz.sBlt_ok (c.b 8 7))
      (case xga_InvalidDeeds => exact Hz.sBlt_ok (c.b 8 8))
      (case xgg_InvalidDeeds => exact Hz.sNone_ok (c.b 8 9))
      (case xnf_InvalidDeeds => exact Hz.sNone_ok (c.b 8 10))
      (case xnt_InvalidDeeds => exact Hz.sNone_ok (c.b 8 11))
      (case xk_InvalidDeeds => exact (c.b 8 12))
      (case xe_InvalidDeeds => exact Hz.oBl_ok (c.b 8 13))
      (case xv_InvalidDeeds => exact Hz.oBl_ok (c.b 8 14))
      (case xt_InvalidDeeds => exact Hz.oTyp_ok (c.b 8 15))
      (case xd_InvalidDeeds => exact (c.b 8 16))
      (case xi_InvalidDeeds => exact Hz.sRef_ok (c.b 8 17))
      (case xit_InvalidDeeds => exact Hz.oTyp_ok (c.b 8 18))
      (case xl_InvalidDeeds => exact Hz.lk_ks0 (c.g 32) (c.b 8 19))
      (case xco_InvalidDeeds => exact (c.b 8 20))
      (case xcd_InvalidDeeds => exact Hz.lk_fl (c.b 8 21))
      (case xcf_InvalidDeeds => exact Hz.flS_ok (c.b 8 22))
      (case xcg_InvalidDeeds => exact (c.b 8 23))
      (case xcc_InvalidDeeds => exact Hz.lk_cell (c.b 8 24))
      (case xmr_InvalidDeeds => exact Hz.oBl_ok (c.b 9 0))
      (case xsu_InvalidDeeds => exact Hz.sBlt_ok (c.b 9 1))
      (case xc_InvalidLog => exact Hz.lk_exc (c.b 9 2))
      (case xm_InvalidLog => exact (c.b 9 3))
      (case xsa_InvalidLog => exact Hz.sBlt_ok (c.b 9 4))
      (case xga_InvalidLog => exact Hz.sBlt_ok (c.b 9 5))
      (case xgg_InvalidLog => exact Hz.sNone_ok (c.b 9 6))
      (case xnf_InvalidLog => exact Hz.sNone_ok (c.b 9 7))
      (case xnt_InvalidLog => exact Hz.sNone_ok (c.b 9 8))
      (case xk_InvalidLog => exact (c.b 9 9))
      (case xe_InvalidLog => exact Hz.oBl_ok (c.b 9 10))
      (case xv_InvalidLog => exact Hz.oBl_ok (c.b 9 11))
      (case xt_InvalidLog => exact Hz.oTyp_ok (c.b 9 12))
      (case xd_InvalidLog => exact (c.b 9 13))
      (case xi_InvalidLog => exact Hz.sRef_ok (c.b 9 14))
      (case xit_InvalidLog => exact Hz.oTyp_ok (c.b 9 15))
      (case xl_InvalidLog => exact Hz.lk_ks0 (c.g 33) (c.b 9 16))
      (case xco_InvalidLog => exact (c.b 9 17))
      (case xcd_InvalidLog => exact Hz.lk_fl (c.b 9 18))
      (case xcf_InvalidLog => exact Hz.flS_ok (c.b 9 19))
      (case xcg_InvalidLog => exact (c.b 9 20))
      (case xcc_InvalidLog => exact Hz.lk_cell (c.b 9 21))
      (case xmr_InvalidLog => exact Hz.oBl_ok (c.b 9 22))
      (case xsu_InvalidLog => exact Hz.sBlt_ok (c.b 9 23))
      (case xc_InvalidStand => exact Hz.lk_exc (c.b 9 24))
      (case xm_InvalidStand => exact (c.b 10 0))
      (case xsa_InvalidStand => exact Hz.sBlt_ok (c.b 10 1))
      (case xga_InvalidStand => exact Hz.sBlt_ok (c.b 10 2))
      (case xgg_InvalidStand => exact Hz.sNone_ok (c.b 10 3))
      (case xnf_InvalidStand => exact Hz.sNone_ok (c.b 10 4))
      (case xnt_InvalidStand => exact Hz.sNone_ok (c.b 10 5))
      (case xk_InvalidStand => exact (c.b 10 6))
      (case xe_InvalidStand => exact Hz.oBl_ok (c.b 10 7))
      (case xv_InvalidStand => exact Hz.oBl_ok (c.b 10 8))
      (case xt_InvalidStand => exact Hz.oTyp_ok (c.b 10 9))
      (case xd_InvalidStand => exact (c.b 10 10))
      (case xi_InvalidStand => exact Hz.sRef_ok (c.b 10 11))
      (case xit_InvalidStand => exact Hz.oTyp_ok (c.b 10 12))
      (case xl_InvalidStand => exact Hz.lk_ks0 (c.g 34) (c.b 10 13))
      (case xco_InvalidStand => exact (c.b 10 14))
      (case xcd_InvalidStand => exact Hz.lk_fl (c.b 10 15))
      (case xcf_InvalidStand => exact Hz.flS_ok (c.b 10 16))
      (case xcg_InvalidStand => exact (c.b 10 17))
      (case xcc_InvalidStand => exact Hz.lk_cell (c.b 10 18))
      (case xmr_InvalidStand => exact Hz.oBl_ok (c.b 10 19))
      (case xsu_InvalidStand => exact Hz.sBlt_ok (c.b 10 20))
      (case xc_InvalidStore => exact Hz.lk_exc (c.b 10 21))
      (case xm_InvalidStore => exact (c.b 10 22))
      (case xsa_InvalidStore => exact Hz.sBlt_ok (c.b 10 23))
      (case xga_InvalidStore => exact Hz.sBlt_ok (c.b 10 24))
      (case xgg_InvalidStore => exact Hz.sNone_ok (c.b 11 0))
      (case xnf_InvalidStore => exact Hz.sNone_ok (c.b 11 1))
      (case xnt_InvalidStore => exact Hz.sNone_ok (c.b 11 2))
      (case xk_InvalidStore => exact (c.b 11 3))
      (case xe_InvalidStore => exact Hz.oBl_ok (c.b 11 4))
      (case xv_InvalidStore => exact Hz.oBl_ok (c.b 11 5))
      (case xt_InvalidStore => exact Hz.oTyp_ok (c.b 11 6))
      (case xd_InvalidStore => exact (c.b 11 7))
      (case xi_InvalidStore => exact Hz.sRef_ok (c.b 11 8))
      (case xit_InvalidStore => exact Hz.oTyp_ok (c.b 11 9))
      (case xl_InvalidStore => exact Hz.lk_ks0 (c.g 35) (c.b 11 10))
      (case xco_InvalidStore => exact (c.b 11 11))
      (case xcd_InvalidStore => exact Hz.lk_fl (c.b 11 12))
      (case xcf_InvalidStore => exact Hz.flS_ok (c.b 11 13))
      (case xcg_InvalidStore => exact (c.b 11 14))
      (case xcc_InvalidStore => exact Hz.lk_cell (c.b 11 15))
      (case xmr_InvalidStore => exact Hz.oBl_ok (c.b 11 16))
      (case xsu_InvalidStore => exact Hz.sBlt_ok (c.b 11 17))
      (case xc_TooMany => exact Hz.lk_exc (c.b 11 18))
      (case xm_TooMany => exact (c.b 11 19))
      (case xsa_TooMany => exact Hz.sBlt_ok (c.b 11 20))
      (case xga_TooMany => exact Hz.sBlt_ok (c.b 11 21))
      (case xgg_TooMany => exact Hz.sNone_ok (c.b 11 22))
      (case xnf_TooMany => exact Hz.sNone_ok (c.b 11 23))
      (case xnt_TooMany => exact Hz.sNone_ok (c.b 11 24))
      (case xk_TooMany => exact (c.b 12 0))
      (case xe_TooMany => exact Hz.oBl_ok (c.b 12 1))
      (case xv_TooMany => exact Hz.oBl_ok (c.b 12 2))
      (case xt_TooMany => exact Hz.oTyp_ok (c.b 12 3))
      (case xd_TooMany => exact (c.b 12 4))
      (case xi_TooMany => exact Hz.sRef_ok (c.b 12 5))
      (case xit_TooMany => exact Hz.oTyp_ok (c.b 12 6))
      (case xl_TooMany => exact Hz.lk_ks0 (c.g 36) (c.b 12 7))
      (case xco_TooMany => exact (c.b 12 8))
      (case xcd_TooMany => exact Hz.lk_fl (c.b 12 9))
      (case xcf_TooMany => exact Hz.flS_ok (c.b 12 10))
      (case xcg_TooMany => exact (c.b 12 11))
      (case xcc_TooMany => exact Hz.lk_cell (c.b 12 12))
      (case xmr_TooMany => exact Hz.oBl_ok (c.b 12 13))
      (case xsu_TooMany => exact Hz.sBlt_ok (c.b 12 14))
      (case xop => exact Hz.sNone_ok (c.b 12 15))
      (case xsup => exact Hz.sNone_ok (c.b 12 16))
      (case xtop => first | rfl | decide +kernel)
      (case e_InvalidDeed_InvalidDeed => exact Hz.oBl_ok (c.b 12 17))
      (case e_InvalidDeed_InvalidDeeds => exact Hz.oBl_ok (c.b 12 18))
      (case e_InvalidDeed_InvalidLog => exact Hz.oBl_ok (c.b 12 19))
      (case e_InvalidDeed_InvalidStand => exact Hz.oBl_ok (c.b 12 20))
      (case e_InvalidDeed_InvalidNumber => exact Hz.oBl_ok (c.b 12 21))
      (case e_InvalidDeed_InvalidCount => exact Hz.oBl_ok (c.b 12 22))
      (case e_InvalidDeeds_InvalidDeed => exact Hz.oBl_ok (c.b 12 23))
      (case e_InvalidDeeds_InvalidDeeds => exact Hz.oBl_ok (c.b 12 24))
      (case e_InvalidDeeds_InvalidLog => exact Hz.oBl_ok (c.b 13 0))
      (case e_InvalidDeeds_InvalidStand => exact Hz.oBl_ok (c.b 13 1))
      (case e_InvalidDeeds_InvalidNumber => exact Hz.oBl_ok (c.b 13 2))
      (case e_InvalidDeeds_InvalidCount => exact Hz.oBl_ok (c.b 13 3))
      (case e_InvalidLog_InvalidDeed => exact Hz.oBl_ok (c.b 13 4))
      (case e_InvalidLog_InvalidDeeds => exact Hz.oBl_ok (c.b 13 5))
      (case e_InvalidLog_InvalidLog => exact Hz.oBl_ok (c.b 13 6))
      (case e_InvalidLog_InvalidStand => exact Hz.oBl_ok (c.b 13 7))
      (case e_InvalidLog_InvalidNumber => exact Hz.oBl_ok (c.b 13 8))
      (case e_InvalidLog_InvalidCount => exact Hz.oBl_ok (c.b 13 9))
      (case e_InvalidStand_InvalidDeed => exact Hz.oBl_ok (c.b 13 10))
      (case e_InvalidStand_InvalidDeeds => exact Hz.oBl_ok (c.b 13 11))
      (case e_InvalidStand_InvalidLog => exact Hz.oBl_ok (c.b 13 12))
      (case e_InvalidStand_InvalidStand => exact Hz.oBl_ok (c.b 13 13))
      (case e_InvalidStand_InvalidNumber => exact Hz.oBl_ok (c.b 13 14))
      (case e_InvalidStand_InvalidCount => exact Hz.oBl_ok (c.b 13 15))
      (case e_InvalidStore_InvalidDeed => exact Hz.oBl_ok (c.b 13 16))
      (case e_InvalidStore_InvalidDeeds => exact Hz.oBl_ok (c.b 13 17))
      (case e_InvalidStore_InvalidLog => exact Hz.oBl_ok (c.b 13 18))
      (case e_InvalidStore_InvalidStand => exact Hz.oBl_ok (c.b 13 19))
      (case e_InvalidStore_InvalidNumber => exact Hz.oBl_ok (c.b 13 20))
      (case e_InvalidStore_InvalidCount => exact Hz.oBl_ok (c.b 13 21))
      (case e_TooMany_InvalidDeed => exact Hz.oBl_ok (c.b 13 22))
      (case e_TooMany_InvalidDeeds => exact Hz.oBl_ok (c.b 13 23))
      (case e_TooMany_InvalidLog => exact Hz.oBl_ok (c.b 13 24))
      (case e_TooMany_InvalidStand => exact Hz.oBl_ok (c.b 14 0))
      (case e_TooMany_InvalidNumber => exact Hz.oBl_ok (c.b 14 1))
      (case e_TooMany_InvalidCount => exact Hz.oBl_ok (c.b 14 2))
      (case tb => exact c.tb 0)
      all_goals first | exact #[] | exact .none | exact 0
