import PyProof.Rows.All
import Wide.All
import OpenK.AllK
import Wide.FinOn
import HandS.ForMost
import HandS.ForExc
import HandS.IsInst
import HandS.Flow
import HandS.TupAny
import HandS.Style
import HandS.Lambda
import HandS.Slots
import HandS.ClsMeth
import HandS.Property
import KE.KExcSuper
import HandS.ExcInit
import HandS.TryMany
import HandS.SetTxt0
import HandS.SetTxtIn
import HandS.SetFor
import HandS.Strs
import HandS.StrMore
import HandS.Small
import KE.KSuper
import HandS.DictComp
import HandS.SetBool
import HandS.Defaults
import HandS.Codes
import HandS.CallSlots
import KE.GoesMore
import HandS.Wide
import HandS.WideBits
import PyProof.StrReplace2
import PyProof.StrCalls6
import PyProof.Rows.StrStrike
import PyProof.Ends
import HandS.Replace
import PyProof.FactsAll.list_3
import HandS.TupSets
import HandS.Deep
import HandS.Conv
import HandS.Star
import HandS.TupMul
import HandS.FStr
import HandS.Iter
import PyProof.ListStr
import HandS.More
import HandS.Dict
import KE.KUnpackStar
import HandS.FStrTup
import HandS.RaiseMore
import PyProof.ReprHeads
import PyProof.StrHeap
import PyProof.RulesMatch
import HandS.Text
import KE.KOpsOwn
import PySem.Challenge.RW_replaylog_k36_scripts_and_their_texts
import HandS.EndTab
set_option Elab.async false
set_option linter.all false
set_option maxRecDepth 100000
set_option maxHeartbeats 2000000
namespace PL
open PySem L2
abbrev SS (s : List Nat) : PySem.Str := ⟨s.toArray⟩
/-- pure data -/
inductive D where
  | non | bl (b : Bool) | int (i : Int) | str (s : List Nat)
  | lst (xs : List D) | tup (xs : List D) | dct (kvs : List (Key × D))
  | ins (C : Addr) (fs : List (PySem.Str × D))
  /-- an instance with slots -/
  | sl (C : Addr) (vs : List D)
  /-- an own class -/
  | cls (C : Addr)
  | ty (n : String) | bag
  /-- the script -/
  | scr
  /-- the cells of the bag, at l -/
  | cel (l : Addr) (ns : List Int)
/-- the state of the bag at b, its cells at l -/
def BagRaw (b l : Addr) (n : Nat) (h : Heap) : Prop :=
  ∃ (sz : Nat) (i : Nat) (g s : Int) (t1 t2 t3 : Tok), i ≤ n ∧ 0 ≤ g ∧ 0 ≤ s ∧ s < 2147483543 ∧
    h.get? b = some { cls := .type "list", data := .seq #[.ref l, .int i t1, .int g t2, .int s t3] sz }
def BagAt (G : Hp) (b : Addr) : Prop := ∃ (l : Addr) (ns : List Int), G b = some (.ext (BagRaw b l ns.length)) ∧ G l = some (.lst (ns.map V.int)) ∧ b ≠ l ∧ ns.length ≤ 63
mutual
/-- v stands for d over the heap G -/
inductive Den (K : PySem.W.Frag) (G : Hp) : V → D → Prop
  | non : Den K G .non .non
  | bl (b : Bool) : Den K G (.bl b) (.bl b)
  | int (i : Int) : Den K G (.int i) (.int i)
  | str (s : List Nat) : Den K G (.str (SS s)) (.str s)
  | ty (n : String) : Den K G (.ty n) (.ty n)
  | lst {a : Addr} {xs : List V} {ds : List D} : G a = some (.lst xs) → DenL K G xs ds → Den K G (.ref a) (.lst ds)
  | tup {a : Addr} {xs : List V} {ds : List D} : SqT K G a xs → DenL K G xs ds → Den K G (.ref a) (.tup ds)
  | dct {a : Addr} {kvs : List (Key × V)} {ds : List (Key × D)} : G a = some (.dK kvs) → DenK K G kvs ds → Den K G (.ref a) (.dct ds)
  | ins {a C dx : Addr} {fvs : List (PySem.Str × V)} {fs : List (PySem.Str × D)} : G a = some (.ins C dx fvs) → G dx = some (.own a) → DenF K G fvs fs → Den K G (.ref a) (.ins C fs)
  | sl {a C dx : Addr} {vs : List V} {ds : List D} : G a = some (SlX.SlO a C dx (vs.map some)) → G dx = some (.xd []) → DenL K G vs ds → Den K G (.ref a) (.sl C ds)
  | cls (C : Addr) : Den K G (.ref C) (.cls C)
  | bag {a : Addr} : BagAt G a → Den K G (.ref a) .bag
  | cel {l : Addr} {ns : List Int} : G l = some (.lst (ns.map V.int)) → Den K G (.ref l) (.cel l ns)
  | scr {a : Addr} {ns : List Int} : SqL K G a (ns.map V.int) → ns.length ≤ 63 → Den K G (.ref a) .scr
inductive DenL (K : PySem.W.Frag) (G : Hp) : List V → List D → Prop
  | nil : DenL K G [] []
  | cons {v : V} {vs : List V} {d : D} {ds : List D} : Den K G v d → DenL K G vs ds → DenL K G (v :: vs) (d :: ds)
inductive DenK (K : PySem.W.Frag) (G : Hp) : List (Key × V) → List (Key × D) → Prop
  | nil : DenK K G [] []
  | cons {k : Key} {v : V} {vs : List (Key × V)} {d : D} {ds : List (Key × D)} : Den K G v d → DenK K G vs ds → DenK K G ((k, v) :: vs) ((k, d) :: ds)
inductive DenF (K : PySem.W.Frag) (G : Hp) : List (PySem.Str × V) → List (PySem.Str × D) → Prop
  | nil : DenF K G [] []
  | cons {f : PySem.Str} {v : V} {vs : List (PySem.Str × V)} {d : D} {ds : List (PySem.Str × D)} : Den K G v d → DenF K G vs ds → DenF K G ((f, v) :: vs) ((f, d) :: ds)
end
theorem rd_same {H H' : Hp} {a : Addr} {u : HO} (e : Same H H') (h : Rd H a u) : Rd H' a u := by
  rcases h with h | ⟨o, h⟩
  · exact Or.inl (e a _ h)
  · exact Or.inr ⟨o, e a _ h⟩
theorem sqt_same {K : PySem.W.Frag} {H H' : Hp} {a : Addr} {xs : List V} (e : Same H H') (h : SqT K H a xs) : SqT K H' a xs := by
  rcases h with h | h
  · exact Or.inl (rd_same e h)
  · exact Or.inr h
theorem bag_same {H H' : Hp} {a : Addr} (e : Same H H') (h : BagAt H a) : BagAt H' a := by
  obtain ⟨l, ns, h1, h2, h3⟩ := h
  exact ⟨l, ns, e _ _ h1, e _ _ h2, h3⟩
section
variable {K : PySem.W.Frag} {G G' : Hp}
mutual
theorem Den.mono (e : Same G G') : ∀ (d : D) (v : V), Den K G v d → Den K G' v d
  | .non, _, h => by cases h; exact .non
  | .bl b, _, h => by cases h; exact .bl b
  | .int b, _, h => by cases h; exact .int b
  | .str b, _, h => by cases h; exact .str b
  | .ty b, _, h => by cases h; exact .ty b
  | .lst ds, _, h => by
    cases h with
    | lst h1 h2 => exact .lst (e _ _ h1) (DenL.mono e _ _ h2)
  | .tup ds, _, h => by
    cases h with
    | tup h1 h2 => exact .tup (sqt_same e h1) (DenL.mono e _ _ h2)
  | .dct ds, _, h => by
    cases h with
    | dct h1 h2 => exact .dct (e _ _ h1) (DenK.mono e _ _ h2)
  | .ins C fs, _, h => by
    cases h with
    | ins h1 h2 h3 => exact .ins (e _ _ h1) (e _ _ h2) (DenF.mono e _ _ h3)
  | .sl C ds, _, h => by
    cases h with
    | sl h1 h2 h3 => exact .sl (e _ _ h1) (e _ _ h2) (DenL.mono e _ _ h3)
  | .cls C, _, h => by cases h; exact .cls C
  | .bag, _, h => by
    cases h with
    | bag h1 => exact .bag (bag_same e h1)
  | .scr, _, h => by
    cases h with
    | scr h1 h2 => exact .scr (e.seq h1) h2
  | .cel l ns, _, h => by
    cases h with
    | cel h1 => exact .cel (e _ _ h1)
theorem DenL.mono (e : Same G G') : ∀ (ds : List D) (vs : List V), DenL K G vs ds → DenL K G' vs ds
  | [], _, h => by cases h; exact .nil
  | d :: ds, _, h => by
    cases h with
    | cons h1 h2 => exact .cons (Den.mono e _ _ h1) (DenL.mono e _ _ h2)
theorem DenK.mono (e : Same G G') : ∀ (ds : List (Key × D)) (vs : List (Key × V)), DenK K G vs ds → DenK K G' vs ds
  | [], _, h => by cases h; exact .nil
  | (k, d) :: ds, _, h => by
    cases h with
    | cons h1 h2 => exact .cons (Den.mono e _ _ h1) (DenK.mono e _ _ h2)
theorem DenF.mono (e : Same G G') : ∀ (ds : List (PySem.Str × D)) (vs : List (PySem.Str × V)), DenF K G vs ds → DenF K G' vs ds
  | [], _, h => by cases h; exact .nil
  | (k, d) :: ds, _, h => by
    cases h with
    | cons h1 h2 => exact .cons (Den.mono e _ _ h1) (DenF.mono e _ _ h2)
end
theorem Den.up {v : V} {d : D} (h : Den K G v d) (e : Same G G') : Den K G' v d := Den.mono e d v h
theorem DenL.up {v : List V} {d : List D} (h : DenL K G v d) (e : Same G G') : DenL K G' v d := DenL.mono e d v h
theorem DenK.up {v : List (Key × V)} {d : List (Key × D)} (h : DenK K G v d) (e : Same G G') : DenK K G' v d := DenK.mono e d v h
theorem DenF.up {v : List (PySem.Str × V)} {d : List (PySem.Str × D)} (h : DenF K G v d) (e : Same G G') : DenF K G' v d := DenF.mono e d v h
theorem DenL.length : ∀ {vs : List V} {ds : List D}, DenL K G vs ds → vs.length = ds.length
  | _, _, .nil => rfl
  | _, _, .cons _ t => by rw [List.length_cons, List.length_cons, DenL.length t]
theorem DenL.get : ∀ {vs : List V} {ds : List D} {i : Nat} {d : D}, DenL K G vs ds → ds[i]? = some d → ∃ v, vs[i]? = some v ∧ Den K G v d
  | _, _, _, _, .nil, e => by simp at e
  | _, _, 0, _, .cons r _, e => by simp at e; subst e; exact ⟨_, rfl, r⟩
  | _, _, i + 1, x, .cons _ t, e => by
    obtain ⟨u, h1, h2⟩ := DenL.get (i := i) t (by simpa using e)
    exact ⟨u, by simpa using h1, h2⟩
theorem DenL.gv : ∀ {vs : List V} {ds : List D} {i : Nat} {v : V}, DenL K G vs ds → vs[i]? = some v → ∃ d, ds[i]? = some d ∧ Den K G v d
  | _, _, _, _, .nil, e => by simp at e
  | _, _, 0, _, .cons r _, e => by simp at e; subst e; exact ⟨_, rfl, r⟩
  | _, _, i + 1, x, .cons _ t, e => by
    obtain ⟨u, h1, h2⟩ := DenL.gv (i := i) t (by simpa using e)
    exact ⟨u, by simpa using h1, h2⟩
theorem DenL.append : ∀ {vs ws : List V} {ds es : List D}, DenL K G vs ds → DenL K G ws es → DenL K G (vs ++ ws) (ds ++ es)
  | _, _, _, _, .nil, t => t
  | _, _, _, _, .cons r s, t => .cons r (DenL.append s t)
theorem DenL.set {v : V} {d : D} (r : Den K G v d) : ∀ {vs : List V} {ds : List D} (i : Nat), DenL K G vs ds → DenL K G (vs.set i v) (ds.set i d)
  | _, _, _, .nil => .nil
  | _, _, 0, .cons _ t => .cons r t
  | _, _, i + 1, .cons q t => .cons q (DenL.set r i t)
theorem DenL.take : ∀ {vs : List V} {ds : List D} (n : Nat), DenL K G vs ds → DenL K G (vs.take n) (ds.take n)
  | _, _, 0, _ => .nil
  | _, _, _ + 1, .nil => .nil
  | _, _, n + 1, .cons r t => .cons r (DenL.take n t)
theorem DenL.drop : ∀ {vs : List V} {ds : List D} (n : Nat), DenL K G vs ds → DenL K G (vs.drop n) (ds.drop n)
  | _, _, 0, r => r
  | _, _, _ + 1, .nil => .nil
  | _, _, n + 1, .cons _ t => DenL.drop n t
theorem DenL.erase : ∀ {vs : List V} {ds : List D} (n : Nat), DenL K G vs ds → DenL K G (vs.eraseIdx n) (ds.eraseIdx n)
  | _, _, _, .nil => .nil
  | _, _, 0, .cons _ t => t
  | _, _, n + 1, .cons r t => .cons r (DenL.erase n t)
theorem DenF.get : ∀ {vs : List (PySem.Str × V)} {ds : List (PySem.Str × D)} {f : PySem.Str} {d : D}, DenF K G vs ds → ds.lookup f = some d → ∃ v, vs.lookup f = some v ∧ Den K G v d
  | _, _, _, _, .nil, e => by cases e
  | _, _, f, d, .cons (f := g) r t, e => by
    rw [List.lookup_cons] at e ⊢
    cases hb : f == g with
    | true =>
      rw [hb] at e
      cases e
      exact ⟨_, rfl, r⟩
    | false =>
      rw [hb] at e
      exact DenF.get t e
theorem DenF.no : ∀ {vs : List (PySem.Str × V)} {ds : List (PySem.Str × D)} {f : PySem.Str}, DenF K G vs ds → ds.lookup f = none → vs.lookup f = none
  | _, _, _, .nil, _ => rfl
  | _, _, f, .cons (f := g) r t, e => by
    rw [List.lookup_cons] at e ⊢
    cases hb : f == g with
    | true =>
      rw [hb] at e
      cases e
    | false =>
      rw [hb] at e
      exact DenF.no t e
theorem DenF.length : ∀ {vs : List (PySem.Str × V)} {ds : List (PySem.Str × D)}, DenF K G vs ds → vs.length = ds.length
  | _, _, .nil => rfl
  | _, _, .cons _ t => by rw [List.length_cons, List.length_cons, DenF.length t]
end
def LikeD : HO → Prop
  | .dK _ => True
  | .dT _ => True
  | _ => False
/-- the tables of code objects that are written (lambdas), and the name that each one's code bears -/
class Tabl where
  T : List (Addr × PySem.Str)
  uniq : ∀ p ∈ T, ∀ q ∈ T, p.1 = q.1 → p.2 = q.2
variable [Tabl]
/-- no table of code objects -/
abbrev NT (o : HO) : Prop := ∀ ps, o ≠ .tbl ps
/-- the pure part stands in H (a dict may be locked); no table of code objects is pure -/
structure Sub (G H : Hp) : Prop where
  m : ∀ a o, G a = some o → H a = some o ∨ (LikeD o ∧ ∃ ob, H a = some (.frz ob o))
  nt : ∀ a o, G a = some o → NT o
  tb : LamX.Tabs Tabl.T H
/-- what is tracked stays, but tables of code objects may grow -/
structure Up (H H' : Hp) : Prop where
  k : ∀ b o, H b = some o → NT o → H' b = some o
  t : ∀ b o, H b = some o → ∃ o', H' b = some o'
  tb : LamX.Tabs Tabl.T H → LamX.Tabs Tabl.T H'
theorem Up.of {H H' : Hp} (e : Same H H') : Up H H' := ⟨fun b o h _ => e b o h, fun b o h => ⟨o, e b o h⟩, fun t => t.ext e⟩
theorem Up.refl (H : Hp) : Up H H := .of (Same.refl H)
theorem Up.trans {H H1 H2 : Hp} (a : Up H H1) (b : Up H1 H2) : Up H H2 :=
  ⟨fun x o h n => b.k x o (a.k x o h n) n, fun x o h => let ⟨o1, h1⟩ := a.t x o h; b.t x o1 h1, fun t => b.tb (a.tb t)⟩
theorem Up.free {H H' : Hp} (a : Up H H') {p : Addr} (h : H' p = none) : H p = none := by
  cases e : H p with
  | none => rfl
  | some o =>
    obtain ⟨o', q⟩ := a.t p o e
    rw [q] at h
    cases h
theorem Up.lst {H H' : Hp} (a : Up H H') {p : Addr} {xs : List V} (h : H p = some (.lst xs)) : H' p = some (.lst xs) := a.k _ _ h fun _ z => nomatch z
theorem Up.dK {H H' : Hp} (a : Up H H') {p : Addr} {xs : List (Key × V)} (h : H p = some (.dK xs)) : H' p = some (.dK xs) := a.k _ _ h fun _ z => nomatch z
theorem Sub.there {G H : Hp} (s : Sub G H) {a : Addr} {o : HO} (h : G a = some o) : ∃ u, H a = some u := by
  rcases s.m a o h with h | ⟨_, ob, h⟩ <;> exact ⟨_, h⟩
theorem Sub.at_ {G H : Hp} (s : Sub G H) {a : Addr} {o : HO} (h : G a = some o) (n : ¬ LikeD o) : H a = some o := by
  rcases s.m a o h with h | ⟨z, _⟩
  · exact h
  · exact absurd z n
theorem Sub.rd {G H : Hp} (s : Sub G H) {a : Addr} {o : HO} (h : G a = some o) : Rd H a o := by
  rcases s.m a o h with h | ⟨_, ob, h⟩
  · exact .inl h
  · exact .inr ⟨ob, h⟩
theorem Sub.up' {G H H' : Hp} (s : Sub G H) (e : Up H H') : Sub G H' := ⟨fun a o h => by
  rcases s.m a o h with h2 | ⟨z, ob, h2⟩
  · exact .inl (e.k _ _ h2 (s.nt a o h))
  · exact .inr ⟨z, ob, e.k _ _ h2 fun _ z => nomatch z⟩, s.nt, e.tb s.tb⟩
theorem Sub.up {G H H' : Hp} (s : Sub G H) (e : Same H H') : Sub G H' := s.up' (.of e)
theorem Sub.sql {K : PySem.W.Frag} {G H : Hp} (s : Sub G H) {a : Addr} {xs : List V} (h : SqL K G a xs) : SqL K H a xs := by
  rcases h with (h | ⟨o, h⟩) | h
  · exact .inl (.inl (s.at_ h (fun z => z)))
  · exact .inl (.inr ⟨o, s.at_ h (fun z => z)⟩)
  · exact .inr h
theorem Sub.sqt {K : PySem.W.Frag} {G H : Hp} (s : Sub G H) {a : Addr} {xs : List V} (h : SqT K G a xs) : SqT K H a xs := by
  rcases h with (h | ⟨o, h⟩) | h
  · exact .inl (.inl (s.at_ h (fun z => z)))
  · exact .inl (.inr ⟨o, s.at_ h (fun z => z)⟩)
  · exact .inr h
theorem Sub.none {G H : Hp} (s : Sub G H) {a : Addr} (h : H a = none) : G a = none := by
  cases e : G a with
  | none => rfl
  | some o =>
    obtain ⟨u, q⟩ := s.there e
    rw [q] at h
    cases h
/-- from (G, H) to (G', H') -/
structure Ext (G H G' H' : Hp) : Prop where
  h : Up H H'
  g : Same G G'
  nw : ∀ a, G a = none → (∃ o, H a = some o) → G' a = none
  sub : Sub G' H'
theorem Ext.refl {G H : Hp} (s : Sub G H) : Ext G H G H := ⟨Up.refl H, Same.refl G, fun _ h _ => h, s⟩
theorem Ext.trans {G H G1 H1 G2 H2 : Hp} (a : Ext G H G1 H1) (b : Ext G1 H1 G2 H2) : Ext G H G2 H2 :=
  ⟨a.h.trans b.h, a.g.trans b.g, fun x h ⟨o, q⟩ => b.nw x (a.nw x h ⟨o, q⟩) (a.h.t _ _ q), b.sub⟩
theorem same_upd {H : Hp} {p : Addr} {o : HO} (h : H p = none) : Same H (upd H p o) := fun a u e => by
  rw [upd_ne (ne_of_none e h)]
  exact e
/-- a new object that is not pure -/
theorem Ext.beside {G H : Hp} (s : Sub G H) {p : Addr} {o : HO} (h : H p = none) : Ext G H G (upd H p o) := ⟨.of (same_upd h), Same.refl G, fun _ z _ => z, s.up (same_upd h)⟩
/-- a new object, pure at once -/
theorem Ext.new {G H : Hp} (s : Sub G H) {p : Addr} {o : HO} (h : H p = none) (n : NT o := by intro _ z; cases z) : Ext G H (upd G p o) (upd H p o) := by
  have hg := s.none h
  refine ⟨.of (same_upd h), same_upd hg, fun a q ⟨u, e⟩ => ?_, ⟨fun a u e => ?_, fun a u e => ?_, s.tb.ext (same_upd h)⟩⟩
  · rw [upd_ne (ne_of_none e h)]
    exact q
  · by_cases z : a = p
    · subst z
      rw [upd_same] at e ⊢
      exact .inl e
    · rw [upd_ne z] at e ⊢
      exact s.m a u e
  · by_cases z : a = p
    · subst z
      rw [upd_same] at e
      cases e
      exact n
    · rw [upd_ne z] at e
      exact s.nt a u e
inductive Sl where
  | un | pu (d : D) | ow (d : D)
  /-- own, and walked just now: it stays as it is -/
  | lk (p : Addr) (o : HO) (d : D)
  /-- own: handed in by the caller, at p -/
  | pw (p : Addr) (d : D)
  /-- a value that is no data (a function ..): the object at c that stands for what it needs is never changed -/
  | kp (v : V) (c : Addr) (u : HO) (Gx : Hp)
  /-- a caught exception at a: its class, its own fields -/
  | xv (a : Addr) (cls : Value) (dA : Option Addr) (fs : List (PySem.Str × D))
  /-- pure data beside which some objects are known that are never changed; what was pure then -/
  | pf (d : D) (l : List (Addr × HO)) (Gx : Hp)
abbrev Ga := List Sl
/-- an object of the frame's own at p -/
def OwnAt (K : PySem.W.Frag) (H0 G H : Hp) (p : Addr) : D → Prop
  | .lst ds => ∃ xs, H p = some (.lst xs) ∧ DenL K G xs ds
  | .dct ks => ∃ kvs, H p = some (.dK kvs) ∧ DenK K G kvs ks
  | .ins C fs => ∃ dx fvs, H p = some (.ins C dx fvs) ∧ H dx = some (.own p) ∧ G dx = none ∧ H0 dx = none ∧ DenF K G fvs fs
  | _ => False
/-- an object that a frame may own and change -/
def MutO : HO → Prop
  | .lst _ => True
  | .dK _ => True
  | .ins _ _ _ => True
  | _ => False
/-- an object that nobody changes -/
def FixO (u : HO) : Prop := ¬ MutO u ∧ NT u ∧ ∀ a, u ≠ .own a
def SlOk (K : PySem.W.Frag) (H0 G H : Hp) (o : Option (Option V)) : Sl → Prop
  | .un => True
  | .pu d => ∃ v, o = some (some v) ∧ Den K G v d
  | .ow d => ∃ p, o = some (some (.ref p)) ∧ G p = none ∧ H0 p = none ∧ OwnAt K H0 G H p d
  | .lk p u d => o = some (some (.ref p)) ∧ G p = none ∧ H0 p = none ∧ H p = some u ∧ OwnAt K H0 G H p d
  | .pw p d => o = some (some (.ref p)) ∧ G p = none ∧ H0 p = none ∧ OwnAt K H0 G H p d
  | .kp v c u Gx => o = some (some v) ∧ H c = some u ∧ ¬ MutO u ∧ NT u ∧ Same Gx G
  | .xv a cls dA fs => o = some (some (.ref a)) ∧ ((dA = none ∧ fs = []) ∨ ∃ p fvs, dA = some p ∧ H p = some (.xd fvs) ∧ DenF K G fvs fs)
  | .pf d l Gx => (∃ v, o = some (some v) ∧ Den K G v d) ∧ (∀ q ∈ l, H q.1 = some q.2 ∧ FixO q.2) ∧ Same Gx G
/-- what an own object that may be changed holds -/
def Sl.og : Sl → Option D
  | .ow d => some d
  | .pw _ d => some d
  | _ => none
def Sl.op (s : Sl) (d : D) : Sl := match s with
  | .pw p _ => .pw p d
  | _ => .ow d
def Sl.owns : Sl → Prop
  | .pw _ _ => True
  | .ow _ => True
  | .lk _ _ _ => True
  | _ => False
/-- the frame: G0, H0 the heaps at its entry -/
structure Fr (K : PySem.W.Frag) (G0 H0 : Hp) (Γ : Ga) (σ : L2.St) (G H : Hp) : Prop where
  len : σ.length = Γ.length
  e : Ext G0 H0 G H
  at_ : ∀ (i : Nat) (s : Sl), Γ[i]? = some s → SlOk K H0 G H (σ[i]?) s
  dj : ∀ (i j : Nat) (p : Addr) (s t : Sl), Γ[i]? = some s → s.owns → Γ[j]? = some t → t.owns → σ[i]? = some (some (.ref p)) → σ[j]? = some (some (.ref p)) → i = j
section
variable {K : PySem.W.Frag} {G0 H0 G H G' H' : Hp} {Γ : Ga} {σ : L2.St}
theorem OwnAt.up {p : Addr} {d : D} (h : OwnAt K H0 G H p d) (x : Ext G H G' H') : OwnAt K H0 G' H' p d := by
  cases d with
  | lst ds => obtain ⟨xs, h1, h2⟩ := h; exact ⟨xs, x.h.lst h1, h2.up x.g⟩
  | dct ks => obtain ⟨xs, h1, h2⟩ := h; exact ⟨xs, x.h.dK h1, h2.up x.g⟩
  | ins C fs => obtain ⟨dx, fvs, h1, h2, h3, h4, h5⟩ := h; exact ⟨dx, fvs, x.h.k _ _ h1 (fun _ z => nomatch z), x.h.k _ _ h2 (fun _ z => nomatch z), x.nw _ h3 ⟨_, h2⟩, h4, h5.up x.g⟩
  | _ => exact h.elim
theorem OwnAt.there {p : Addr} {d : D} (h : OwnAt K H0 G H p d) : ∃ o, H p = some o := by
  cases d with
  | lst ds => obtain ⟨xs, h1, h2⟩ := h; exact ⟨_, h1⟩
  | dct ks => obtain ⟨xs, h1, h2⟩ := h; exact ⟨_, h1⟩
  | ins C fs => obtain ⟨dx, fvs, h1, h2, h3⟩ := h; exact ⟨_, h1⟩
  | _ => exact h.elim
theorem OwnAt.mutO {p : Addr} {d : D} {u : HO} (h : OwnAt K H0 G H p d) (e : H p = some u) : MutO u := by
  cases d with
  | lst ds => obtain ⟨xs, h1, h2⟩ := h; rw [e] at h1; cases h1; trivial
  | dct ks => obtain ⟨xs, h1, h2⟩ := h; rw [e] at h1; cases h1; trivial
  | ins C fs => obtain ⟨dx, fvs, h1, h2⟩ := h; rw [e] at h1; cases h1; trivial
  | _ => exact h.elim
theorem MutO.nt {u : HO} (h : MutO u) : NT u := fun ps z => by
  subst z
  exact h
theorem SlOk.up {o : Option (Option V)} {s : Sl} (h : SlOk K H0 G H o s) (x : Ext G H G' H') : SlOk K H0 G' H' o s := by
  cases s with
  | un => trivial
  | pu d => obtain ⟨v, e, r⟩ := h; exact ⟨v, e, r.up x.g⟩
  | ow d => obtain ⟨p, e, g, h0, r⟩ := h; exact ⟨p, e, x.nw _ g r.there, h0, r.up x⟩
  | lk p u d => obtain ⟨e, g, h0, q, r⟩ := h; exact ⟨e, x.nw _ g r.there, h0, x.h.k _ _ q (r.mutO q).nt, r.up x⟩
  | pw p d => obtain ⟨e, g, h0, r⟩ := h; exact ⟨e, x.nw _ g r.there, h0, r.up x⟩
  | kp v c u Gx => obtain ⟨e, h1, h2, h3, h4⟩ := h; exact ⟨e, x.h.k _ _ h1 h3, h2, h3, h4.trans x.g⟩
  | xv a cls dA fs =>
    obtain ⟨e, h1⟩ := h
    refine ⟨e, ?_⟩
    rcases h1 with h1 | ⟨p, fvs, h1, h2, h3⟩
    · exact .inl h1
    · exact .inr ⟨p, fvs, h1, x.h.k _ _ h2 (fun _ z => nomatch z), h3.up x.g⟩
  | pf d l Gx =>
    obtain ⟨⟨v, e, r⟩, h1, h2⟩ := h
    exact ⟨⟨v, e, r.up x.g⟩, fun q hq => ⟨x.h.k _ _ (h1 q hq).1 (h1 q hq).2.2.1, (h1 q hq).2⟩, h2.trans x.g⟩
theorem Fr.up (F : Fr K G0 H0 Γ σ G H) (x : Ext G H G' H') : Fr K G0 H0 Γ σ G' H' :=
  ⟨F.len, F.e.trans x, fun i s h => (F.at_ i s h).up x, F.dj⟩
theorem Fr.sub (F : Fr K G0 H0 Γ σ G H) : Sub G H := F.e.sub
end
end PL
set_option Elab.async false
set_option linter.all false
set_option maxRecDepth 100000
set_option maxHeartbeats 2000000
namespace PL
open PySem L2
variable [Tabl]
/-- an exception: its class, its own fields -/
structure XD where
  cls : Value
  fs : List (PySem.Str × D)
def XDen (K : PySem.W.Frag) (G H : Hp) (cls : Value) (dA : Option Addr) (x : XD) : Prop :=
  cls = x.cls ∧ ((dA = none ∧ x.fs = []) ∨ ∃ p fvs, dA = some p ∧ H p = some (.xd fvs) ∧ DenF K G fvs x.fs)
abbrev KD := D → Prop
abbrev KX := XD → Prop
abbrev TP := Ga → KD → KX → Prop
abbrev TB := Ga → (Bool → Prop) → KX → Prop
abbrev TL := Ga → (List D → Prop) → KX → Prop
/-- v stands for d, the topmost object may be the frame's own -/
def DenU (K : PySem.W.Frag) (H0 G H : Hp) (v : V) (d : D) : Prop := Den K G v d ∨ ∃ p, v = .ref p ∧ G p = none ∧ OwnAt K H0 G H p d
/-- what is wanted of exceptions -/
abbrev XOk (K : PySem.W.Frag) (W : WX) (G H : Hp) (σ : L2.St) (kx : KX) : Prop := ∀ x cls dA G' H', kx x → Ext G H G' H' → XDen K G' H' cls dA x → W cls dA σ H'
def RdP (K : PySem.W.Frag) (W : WX) (te : TE) (t : TP) : Prop := ∀ (G0 H0 : Hp) (Γ : Ga) (σ : L2.St) (G H : Hp) (k : KD) (kx : KX) (Q : VK), Fr K G0 H0 Γ σ G H → t Γ k kx →
  (∀ d v G' H', k d → Ext G H G' H' → Den K G' v d → Q v H') → XOk K W G H σ kx → te σ H Q
def RdU (K : PySem.W.Frag) (W : WX) (te : TE) (t : TP) : Prop := ∀ (G0 H0 : Hp) (Γ : Ga) (σ : L2.St) (G H : Hp) (k : KD) (kx : KX) (Q : VK), Fr K G0 H0 Γ σ G H → t Γ k kx →
  (∀ d v G' H', k d → Ext G H G' H' → DenU K H0 G' H' v d → Q v H') → XOk K W G H σ kx → te σ H Q
def RdT (K : PySem.W.Frag) (W : WX) (te : TT) (t : TB) : Prop := ∀ (G0 H0 : Hp) (Γ : Ga) (σ : L2.St) (G H : Hp) (k : Bool → Prop) (kx : KX) (Q : Bool → Hp → Prop), Fr K G0 H0 Γ σ G H → t Γ k kx →
  (∀ b G' H', k b → Ext G H G' H' → Q b H') → XOk K W G H σ kx → te σ H Q
def RdA (K : PySem.W.Frag) (W : WX) (ta : TA) (t : TL) : Prop := ∀ (G0 H0 : Hp) (Γ : Ga) (σ : L2.St) (G H : Hp) (k : List D → Prop) (kx : KX) (Q : List V → Hp → Prop), Fr K G0 H0 Γ σ G H → t Γ k kx →
  (∀ ds vs G' H', k ds → Ext G H G' H' → DenL K G' vs ds → Q vs H') → XOk K W G H σ kx → ta σ H Q
/-- an expression, its reading over pure data -/
structure PP (X : Cx) (W : WX) (e : Expr) (t : TP) : Prop where
  ex : ∃ te, PE X e te ∧ RdP X.K W te t
structure PU (X : Cx) (W : WX) (e : Expr) (t : TP) : Prop where
  ex : ∃ te, PE X e te ∧ RdU X.K W te t
structure PB (X : Cx) (W : WX) (e : Expr) (t : TB) : Prop where
  ex : ∃ te, PT X e te ∧ RdT X.K W te t
structure PL' (X : Cx) (W : WX) (es : List Expr) (t : TL) : Prop where
  ex : ∃ te, PA X es te ∧ RdA X.K W te t
section
variable {K : PySem.W.Frag} {W : WX} {G H G' H' : Hp} {σ : L2.St} {kx : KX}
theorem XOk.up (h : XOk K W G H σ kx) (x : Ext G H G' H') : XOk K W G' H' σ kx := fun y cls dA G2 H2 a b c => h y cls dA G2 H2 a (x.trans b) c
end
section
variable {X : Cx} {W : WX} {e a b c : Expr} {es : List Expr} {t ta tb tc : TP} {tl : TL} {tt tu : TB} {pos : Pos}
theorem PP.u (h : PP X W e t) : PU X W e t := by
  obtain ⟨te, pe, r⟩ := h.ex
  exact ⟨te, pe, fun G0 H0 Γ σ G H k kx Q F ht hk hx => r G0 H0 Γ σ G H k kx Q F ht (fun d v G' H' kd ex dn => hk d v G' H' kd ex (.inl dn)) hx⟩
def gat : Ga → Nat → Sl
  | [], _ => .un
  | s :: _, 0 => s
  | _ :: r, n + 1 => gat r n
def gset : Ga → Nat → Sl → Ga
  | [], _, _ => []
  | _ :: r, 0, s => s :: r
  | t :: r, n + 1, s => t :: gset r n s
theorem gat_get : ∀ (Γ : Ga) (i : Nat) (s : Sl), gat Γ i = s → s ≠ .un → Γ[i]? = some s
  | [], i, s, h, n => absurd h.symm n
  | t :: r, 0, s, h, _ => by rw [List.getElem?_cons_zero]; exact congrArg some h
  | t :: r, i + 1, s, h, n => by rw [List.getElem?_cons_succ]; exact gat_get r i s h n
theorem gset_eq : ∀ (Γ : Ga) (i : Nat) (s : Sl), gset Γ i s = Γ.set i s
  | [], _, _ => rfl
  | _ :: _, 0, _ => rfl
  | t :: r, i + 1, s => congrArg (t :: ·) (gset_eq r i s)
def tpVar (i : Nat) : TP := fun Γ k _ => match gat Γ i with
  | .pu d => k d
  | _ => False
def tpVarU (i : Nat) : TP := fun Γ k _ => match gat Γ i with
  | .pu d => k d
  | .ow d => k d
  | .lk _ _ d => k d
  | .pw _ d => k d
  | _ => False
theorem p_var (i : Nat) {x : PySem.Str} (hN : X.N[i]? = some x := by rfl) (hv : Vis X.env.scope x := by first | exact Or.inl rfl | exact Or.inr (Or.inl rfl) | exact Or.inr (Or.inr rfl)) (hd : (x == ("__debug__" : PySem.Str)) = false := by decide)
    (hcd : (x == ("__classdict__" : PySem.Str)) = false := by decide) : PP X W (.Name x pos) (tpVar i) := by
  refine ⟨_, pe_var hN hv hd hcd, fun G0 H0 Γ σ G H k kx Q F ht hk hx => ?_⟩
  unfold tpVar at ht
  cases hs : gat Γ i with
  | un => rw [hs] at ht; exact ht.elim
  | ow d => rw [hs] at ht; exact ht.elim
  | lk p u d => rw [hs] at ht; exact ht.elim
  | pw p d => rw [hs] at ht; exact ht.elim
  | kp v c w Gx => rw [hs] at ht; exact ht.elim
  | xv a cls dA fs => rw [hs] at ht; exact ht.elim
  | pf d l Gx => rw [hs] at ht; exact ht.elim
  | pu d =>
    rw [hs] at ht
    obtain ⟨v, e, r⟩ := F.at_ i _ (gat_get Γ i _ hs (by simp))
    exact ⟨v, e, hk d v G H ht (Ext.refl F.sub) r⟩
theorem u_var (i : Nat) {x : PySem.Str} (hN : X.N[i]? = some x := by rfl) (hv : Vis X.env.scope x := by first | exact Or.inl rfl | exact Or.inr (Or.inl rfl) | exact Or.inr (Or.inr rfl)) (hd : (x == ("__debug__" : PySem.Str)) = false := by decide)
    (hcd : (x == ("__classdict__" : PySem.Str)) = false := by decide) : PU X W (.Name x pos) (tpVarU i) := by
  refine ⟨_, pe_var hN hv hd hcd, fun G0 H0 Γ σ G H k kx Q F ht hk hx => ?_⟩
  unfold tpVarU at ht
  cases hs : gat Γ i with
  | un => rw [hs] at ht; exact ht.elim
  | kp v c w Gx => rw [hs] at ht; exact ht.elim
  | xv a cls dA fs => rw [hs] at ht; exact ht.elim
  | pf d l Gx => rw [hs] at ht; exact ht.elim
  | ow d =>
    rw [hs] at ht
    obtain ⟨p, e, g, h0, r⟩ := F.at_ i _ (gat_get Γ i _ hs (by simp))
    exact ⟨.ref p, e, hk d _ G H ht (Ext.refl F.sub) (.inr ⟨p, rfl, g, r⟩)⟩
  | pw p d =>
    rw [hs] at ht
    obtain ⟨e, g, h0, r⟩ := F.at_ i _ (gat_get Γ i _ hs (by simp))
    exact ⟨.ref p, e, hk d _ G H ht (Ext.refl F.sub) (.inr ⟨p, rfl, g, r⟩)⟩
  | lk p u d =>
    rw [hs] at ht
    obtain ⟨e, g, h0, q, r⟩ := F.at_ i _ (gat_get Γ i _ hs (by simp))
    exact ⟨.ref p, e, hk d _ G H ht (Ext.refl F.sub) (.inr ⟨p, rfl, g, r⟩)⟩
  | pu d =>
    rw [hs] at ht
    obtain ⟨v, e, r⟩ := F.at_ i _ (gat_get Γ i _ hs (by simp))
    exact ⟨v, e, hk d v G H ht (Ext.refl F.sub) (.inl r)⟩
def tpC (d : D) : TP := fun _ k _ => k d
theorem p_int {i : Int} {j} : PP X W (.Constant (.int i) j pos) (tpC (.int i)) := ⟨_, pe_int, fun G0 H0 Γ σ G H k kx Q F ht hk hx => hk _ _ G H ht (Ext.refl F.sub) (.int i)⟩
theorem p_bl {i : Bool} {j} : PP X W (.Constant (.bool i) j pos) (tpC (.bl i)) := ⟨_, pe_bl, fun G0 H0 Γ σ G H k kx Q F ht hk hx => hk _ _ G H ht (Ext.refl F.sub) (.bl i)⟩
theorem p_non {j} : PP X W (.Constant .none j pos) (tpC .non) := ⟨_, pe_non, fun G0 H0 Γ σ G H k kx Q F ht hk hx => hk _ _ G H ht (Ext.refl F.sub) .non⟩
theorem str_den {G : Hp} (x : PySem.Str) : Den X.K G (.str x) (.str x.cps.toList) := by
  have e : V.str x = .str (SS x.cps.toList) := by
    obtain ⟨a⟩ := x
    simp [SS]
  rw [e]
  exact .str _
theorem p_str (s : List Nat) {x : PySem.Str} {j} (h : x.cps.toList = s := by decide) : PP X W (.Constant (.str x) j pos) (tpC (.str s)) := by
  subst h
  exact ⟨_, pe_str, fun G0 H0 Γ σ G H k kx Q F ht hk hx => hk _ _ G H ht (Ext.refl F.sub) (str_den x)⟩
/-- a module's constant -/
theorem p_glob {x : PySem.Str} {v : V} {u : Value} {d : D} (hg : Gl X x) (hm : X.mg x = some u) (r : RelV v u) (dn : ∀ G, Den X.K G v d) (hd : (x == ("__debug__" : PySem.Str)) = false := by decide) : PP X W (.Name x pos) (tpC d) :=
  ⟨_, pe_glob hg hm r hd, fun G0 H0 Γ σ G H k kx Q F ht hk hx => hk _ _ G H ht (Ext.refl F.sub) (dn G)⟩
theorem p_globI {x : PySem.Str} {i : Int} (hg : Gl X x) (hm : ∃ t, X.mg x = some (.int i t)) (hd : (x == ("__debug__" : PySem.Str)) = false := by decide) : PP X W (.Name x pos) (tpC (.int i)) := by
  obtain ⟨t, hm⟩ := hm
  exact p_glob hg hm (v := .int i) ⟨t, rfl⟩ (fun G => .int i) hd
theorem p_globS {x : PySem.Str} {s : List Nat} (hg : Gl X x) (hm : ∃ t, X.mg x = some (.str (SS s) t)) (hd : (x == ("__debug__" : PySem.Str)) = false := by decide) : PP X W (.Name x pos) (tpC (.str s)) := by
  obtain ⟨t, hm⟩ := hm
  exact p_glob hg hm (v := .str (SS s)) ⟨t, rfl⟩ (fun G => .str s) hd
abbrev F2 := D → D → KD → Prop
/-- an operator's rule over data -/
def RdO (K : PySem.W.Frag) (r : R2) (f : F2) : Prop := ∀ (H0 G H : Hp) (v1 v2 : V) (d1 d2 : D) (k : KD) (Q : VK), Sub G H → DenU K H0 G H v1 d1 → DenU K H0 G H v2 d2 → f d1 d2 k →
  (∀ d v G' H', k d → Ext G H G' H' → Den K G' v d → Q v H') → r v1 v2 H Q
def tpOp (f : F2) (ta tb : TP) : TP := fun Γ k kx => ta Γ (fun x => tb Γ (fun y => f x y k) kx) kx
theorem DenU.up {K : PySem.W.Frag} {H0 G H G' H' : Hp} {v : V} {d : D} (h : DenU K H0 G H v d) (x : Ext G H G' H') : DenU K H0 G' H' v d := by
  rcases h with h | ⟨p, e, g, r⟩
  · exact .inl (h.up x.g)
  · exact .inr ⟨p, e, x.nw _ g r.there, r.up x⟩
theorem rd_op {r : R2} {f : F2} {ea eb : TE} (ha : RdU X.K W ea ta) (hb : RdU X.K W eb tb) (hr : RdO X.K r f) : RdP X.K W (tOp r ea eb) (tpOp f ta tb) := by
  intro G0 H0 Γ σ G H k kx Q F ht hk hx
  refine ha G0 H0 Γ σ G H _ kx _ F ht (fun d1 v1 G1 H1 k1 x1 n1 => ?_) hx
  refine hb G0 H0 Γ σ G1 H1 _ kx _ (F.up x1) k1 (fun d2 v2 G2 H2 k2 x2 n2 => ?_) (hx.up x1)
  exact hr H0 G2 H2 v1 v2 d1 d2 k Q x2.sub (n1.up x2) n2 k2 fun d v G' H' kd ex dn => hk d v G' H' kd ((x1.trans x2).trans ex) dn
theorem p_op {op : Operator} {r : R2} {f : F2} (ho : OpR X (binaryOp op) r ∧ RdO X.K r f) (ha : PU X W a ta) (hb : PU X W b tb) : PP X W (.BinOp a op b pos) (tpOp f ta tb) := by
  obtain ⟨ea, pa, ra⟩ := ha.ex
  obtain ⟨eb, pb, rb⟩ := hb.ex
  exact ⟨_, pe_op ho.1 pa pb, rd_op ra rb ho.2⟩
theorem p_cmp {op : CmpOp} {r : R2} {f : F2} (ho : OpR X (compareOp op) r ∧ RdO X.K r f) (ha : PU X W a ta) (hb : PU X W b tb) (hm : behindInMarks op b = false := by first | exact nobehind _ (by decide) (by decide) | rfl) : PP X W (.Compare a [op] [b] pos) (tpOp f ta tb) := by
  obtain ⟨ea, pa, ra⟩ := ha.ex
  obtain ⟨eb, pb, rb⟩ := hb.ex
  exact ⟨_, pe_cmpR ho.1 pa pb hm, rd_op ra rb ho.2⟩
theorem RdO.or {K : PySem.W.Frag} {r1 r2 : R2} {f : F2} (h : ∀ d1 d2, (∃ f1, RdO K r1 f1 ∧ ∀ k, f d1 d2 k → f1 d1 d2 k) ∨ (∃ f1, RdO K r2 f1 ∧ ∀ k, f d1 d2 k → f1 d1 d2 k)) : RdO K (fun x y H Q => r1 x y H Q ∨ r2 x y H Q) f := by
  intro H0 G H v1 v2 d1 d2 k Q s n1 n2 hf hk
  rcases h d1 d2 with ⟨f1, q, z⟩ | ⟨f1, q, z⟩
  · exact .inl (q H0 G H v1 v2 d1 d2 k Q s n1 n2 (z k hf) hk)
  · exact .inr (q H0 G H v1 v2 d1 d2 k Q s n1 n2 (z k hf) hk)
theorem DenU.int {K : PySem.W.Frag} {H0 G H : Hp} {v : V} {i : Int} (h : DenU K H0 G H v (.int i)) : v = .int i := by
  rcases h with h | ⟨p, e, g, r⟩
  · cases h; rfl
  · exact r.elim
theorem DenU.bl {K : PySem.W.Frag} {H0 G H : Hp} {v : V} {i : Bool} (h : DenU K H0 G H v (.bl i)) : v = .bl i := by
  rcases h with h | ⟨p, e, g, r⟩
  · cases h; rfl
  · exact r.elim
theorem DenU.str {K : PySem.W.Frag} {H0 G H : Hp} {v : V} {s : List Nat} (h : DenU K H0 G H v (.str s)) : v = .str (SS s) := by
  rcases h with h | ⟨p, e, g, r⟩
  · cases h; rfl
  · exact r.elim
theorem DenU.non {K : PySem.W.Frag} {H0 G H : Hp} {v : V} (h : DenU K H0 G H v .non) : v = .non := by
  rcases h with h | ⟨p, e, g, r⟩
  · cases h; rfl
  · exact r.elim
theorem DenU.lst {K : PySem.W.Frag} {H0 G H : Hp} {v : V} {ds : List D} (s : Sub G H) (h : DenU K H0 G H v (.lst ds)) : ∃ a xs, v = .ref a ∧ H a = some (.lst xs) ∧ DenL K G xs ds := by
  rcases h with h | ⟨p, e, g, xs, r1, r2⟩
  · cases h with
    | lst h1 h2 => exact ⟨_, _, rfl, s.at_ h1 (fun z => z), h2⟩
  · exact ⟨p, xs, e, r1, r2⟩
theorem DenU.tup {K : PySem.W.Frag} {H0 G H : Hp} {v : V} {ds : List D} (s : Sub G H) (h : DenU K H0 G H v (.tup ds)) : ∃ a xs, v = .ref a ∧ SqT K H a xs ∧ DenL K G xs ds := by
  rcases h with h | ⟨p, e, g, r⟩
  · cases h with
    | tup h1 h2 => exact ⟨_, _, rfl, s.sqt h1, h2⟩
  · exact r.elim
def fAdd : F2
  | .int i, .int j, k => k (.int (i + j))
  | .str s, .str t, k => s.length + t.length ≤ sizeLine ∧ k (.str (s ++ t))
  | .lst s, .lst t, k => s.length + t.length ≤ sizeLine ∧ k (.lst (s ++ t))
  | _, _, _ => False
theorem ss_append (s t : List Nat) : SS s ++ SS t = SS (s ++ t) := by
  show PySem.Str.mk _ = _
  simp [SS]
theorem ss_length (s : List Nat) : (SS s).length = s.length := by
  show (SS s).cps.size = _
  simp [SS]
def rAdd3 : R2 := fun x y H Q => rI0 (fun i j => .int (i + j)) x y H Q ∨ ((∃ i j, x = .str i ∧ y = .str j ∧ i.length + j.length ≤ sizeLine ∧ Q (.str (i ++ j)) H) ∨ rCat x y H Q)
theorem o_add : OpR X (binaryOp .Add) rAdd3 ∧ RdO X.K rAdd3 fAdd := by
  refine ⟨OpR.or op_add (OpR.or op_add_str op_cat), ?_⟩
  intro H0 G H v1 v2 d1 d2 k Q s n1 n2 hf hk
  cases d1 with
  | int i =>
    cases d2 with
    | int j => exact .inl ⟨i, j, n1.int, n2.int, hk _ _ G H hf (Ext.refl s) (.int _)⟩
    | _ => exact hf.elim
  | str i =>
    cases d2 with
    | str j =>
      obtain ⟨hl, hf⟩ := hf
      exact .inr (.inl ⟨_, _, n1.str, n2.str, by rw [ss_length, ss_length]; exact hl, by rw [ss_append]; exact hk _ _ G H hf (Ext.refl s) (.str _)⟩)
    | _ => exact hf.elim
  | lst i =>
    cases d2 with
    | lst j =>
      obtain ⟨hl, hf⟩ := hf
      obtain ⟨a, xs, e1, h1, r1⟩ := n1.lst s
      obtain ⟨b, ys, e2, h2, r2⟩ := n2.lst s
      refine .inr (.inr ⟨a, b, xs, ys, e1, e2, h1, h2, by rw [r1.length, r2.length]; exact hl, fun p hp => ?_⟩)
      exact hk _ _ _ _ hf (Ext.new s hp) (.lst upd_same ((r1.append r2).up (same_upd (s.none hp))))
    | _ => exact hf.elim
  | _ => exact hf.elim
def fSub : F2
  | .int i, .int j, k => k (.int (i - j))
  | _, _, _ => False
theorem o_int {g : Int → Int → V} {f : F2} {op : Value → Value → Sem Value} (ho : OpR X op (rI0 g)) (hf : ∀ d1 d2 k, f d1 d2 k → ∃ i j d, d1 = .int i ∧ d2 = .int j ∧ k d ∧ ∀ G, Den X.K G (g i j) d) : OpR X op (rI0 g) ∧ RdO X.K (rI0 g) f := by
  refine ⟨ho, fun H0 G H v1 v2 d1 d2 k Q s n1 n2 h hk => ?_⟩
  obtain ⟨i, j, d, rfl, rfl, kd, dn⟩ := hf _ _ _ h
  exact ⟨i, j, n1.int, n2.int, hk _ _ G H kd (Ext.refl s) (dn G)⟩
theorem o_intC {C : Int → Int → Prop} {g : Int → Int → V} {f : F2} {op : Value → Value → Sem Value} (ho : OpR X op (rI C g)) (hf : ∀ d1 d2 k, f d1 d2 k → ∃ i j d, d1 = .int i ∧ d2 = .int j ∧ C i j ∧ k d ∧ ∀ G, Den X.K G (g i j) d) : OpR X op (rI C g) ∧ RdO X.K (rI C g) f := by
  refine ⟨ho, fun H0 G H v1 v2 d1 d2 k Q s n1 n2 h hk => ?_⟩
  obtain ⟨i, j, d, rfl, rfl, c, kd, dn⟩ := hf _ _ _ h
  exact ⟨i, j, n1.int, n2.int, c, hk _ _ G H kd (Ext.refl s) (dn G)⟩
theorem o_sub : OpR X (binaryOp .Sub) (rI0 fun i j => .int (i - j)) ∧ RdO X.K (rI0 fun i j => .int (i - j)) fSub := o_int op_sub fun d1 d2 k h => by
  cases d1 with
  | int i =>
    cases d2 with
    | int j => exact ⟨i, j, _, rfl, rfl, h, fun _ => .int _⟩
    | _ => exact h.elim
  | _ => exact h.elim
def fMul : F2
  | .int i, .int j, k => CMul i j ∧ k (.int (i * j))
  | .lst xs, .int n, k => n < 2 ^ 60 ∧ -(2 ^ 60) < n ∧ xs.length * n.toNat ≤ sizeLine ∧ k (.lst (List.replicate n.toNat xs).flatten)
  | _, _, _ => False
def rMul2 : R2 := fun x y H Q => rI CMul (fun i j => .int (i * j)) x y H Q ∨ rRep x y H Q
theorem denL_rep {K : PySem.W.Frag} {G : Hp} {xs : List V} {ds : List D} (h : DenL K G xs ds) : ∀ n, DenL K G (List.replicate n xs).flatten (List.replicate n ds).flatten
  | 0 => .nil
  | n + 1 => by
    rw [List.replicate_succ, List.replicate_succ, List.flatten_cons, List.flatten_cons]
    exact h.append (denL_rep h n)
theorem o_mul : OpR X (binaryOp .Mult) rMul2 ∧ RdO X.K rMul2 fMul := by
  refine ⟨OpR.or op_mul op_rep, ?_⟩
  intro H0 G H v1 v2 d1 d2 k Q s n1 n2 hf hk
  cases d1 with
  | int i =>
    cases d2 with
    | int j => exact .inl ⟨i, j, n1.int, n2.int, hf.1, hk _ _ G H hf.2 (Ext.refl s) (.int _)⟩
    | _ => exact hf.elim
  | lst i =>
    cases d2 with
    | int j =>
      obtain ⟨hl, hl2, hz, hf⟩ := hf
      obtain ⟨a, xs, e1, h1, r1⟩ := n1.lst s
      refine .inr ⟨a, j, xs, e1, n2.int, h1, ?_, ?_, by rw [r1.length]; exact hz, fun p hp => ?_⟩
      · have : (2 : Int) ^ 60 ≤ 2 ^ 63 := by decide
        omega
      · have : (2 : Int) ^ 60 ≤ 2 ^ 63 := by decide
        omega
      · exact hk _ _ _ _ hf (Ext.new s hp) (.lst upd_same ((denL_rep r1 _).up (same_upd (s.none hp))))
    | _ => exact hf.elim
  | _ => exact hf.elim
/-- // by a positive number below 2 ^ 30 -/
def fFdiv : F2
  | .int i, .int j, k => (0 < j ∧ j < 1073741824) ∧ k (.int (i / j))
  | _, _, _ => False
def fMod : F2
  | .int i, .int j, k => 0 < j ∧ k (.int (i % j))
  | _, _, _ => False
theorem o_mod : OpR X (binaryOp .Mod) (rI (fun _ j => 0 < j) fun i j => .int (i % j)) ∧ RdO X.K (rI (fun _ j => 0 < j) fun i j => .int (i % j)) fMod := o_intC op_mod fun d1 d2 k h => by
  cases d1 with
  | int i =>
    cases d2 with
    | int j => exact ⟨i, j, _, rfl, rfl, h.1, h.2, fun _ => .int _⟩
    | _ => exact h.elim
  | _ => exact h.elim
def fPow : F2
  | .int i, .int j, k => (0 ≤ j ∧ j ≤ 1000000 ∧ i.natAbs < 2 ^ 64) ∧ k (.int (i ^ j.toNat))
  | _, _, _ => False
theorem o_pow : OpR X (binaryOp .Pow) (rI CPow fun i j => .int (i ^ j.toNat)) ∧ RdO X.K (rI CPow fun i j => .int (i ^ j.toNat)) fPow := o_intC op_pow fun d1 d2 k h => by
  cases d1 with
  | int i =>
    cases d2 with
    | int j => exact ⟨i, j, _, rfl, rfl, h.1, h.2, fun _ => .int _⟩
    | _ => exact h.elim
  | _ => exact h.elim
def fLt : F2
  | .int i, .int j, k => k (.bl (decide (i < j)))
  | .str s, .str t, k => k (.bl (decide (s < t)))
  | _, _, _ => False
def fLe : F2
  | .int i, .int j, k => k (.bl (decide (i ≤ j)))
  | _, _, _ => False
def fGt : F2
  | .int i, .int j, k => k (.bl (decide (j < i)))
  | _, _, _ => False
def fGe : F2
  | .int i, .int j, k => k (.bl (decide (j ≤ i)))
  | _, _, _ => False
def rLt2 : R2 := fun x y H Q => rI0 (fun i j => .bl (decide (i < j))) x y H Q ∨ ∃ i j, x = .str i ∧ y = .str j ∧ Q (.bl (decide (i.cps.toList < j.cps.toList))) H
theorem o_lt : OpR X (compareOp .Lt) rLt2 ∧ RdO X.K rLt2 fLt := by
  refine ⟨OpR.or op_lt op_lt_str, ?_⟩
  intro H0 G H v1 v2 d1 d2 k Q s n1 n2 hf hk
  cases d1 with
  | int i =>
    cases d2 with
    | int j => exact .inl ⟨i, j, n1.int, n2.int, hk _ _ G H hf (Ext.refl s) (.bl _)⟩
    | _ => exact hf.elim
  | str i =>
    cases d2 with
    | str j => exact .inr ⟨_, _, n1.str, n2.str, hk _ _ G H hf (Ext.refl s) (.bl _)⟩
    | _ => exact hf.elim
  | _ => exact hf.elim
theorem o_le : OpR X (compareOp .LtE) (rI0 fun i j => .bl (decide (i ≤ j))) ∧ RdO X.K (rI0 fun i j => .bl (decide (i ≤ j))) fLe := o_int op_le fun d1 d2 k h => by
  cases d1 with
  | int i =>
    cases d2 with
    | int j => exact ⟨i, j, _, rfl, rfl, h, fun _ => .bl _⟩
    | _ => exact h.elim
  | _ => exact h.elim
theorem o_gt : OpR X (compareOp .Gt) (rI0 fun i j => .bl (decide (j < i))) ∧ RdO X.K (rI0 fun i j => .bl (decide (j < i))) fGt := o_int op_gt fun d1 d2 k h => by
  cases d1 with
  | int i =>
    cases d2 with
    | int j => exact ⟨i, j, _, rfl, rfl, h, fun _ => .bl _⟩
    | _ => exact h.elim
  | _ => exact h.elim
theorem o_ge : OpR X (compareOp .GtE) (rI0 fun i j => .bl (decide (j ≤ i))) ∧ RdO X.K (rI0 fun i j => .bl (decide (j ≤ i))) fGe := o_int op_ge fun d1 d2 k h => by
  cases d1 with
  | int i =>
    cases d2 with
    | int j => exact ⟨i, j, _, rfl, rfl, h, fun _ => .bl _⟩
    | _ => exact h.elim
  | _ => exact h.elim
theorem DenU.notNon {K : PySem.W.Frag} {H0 G H : Hp} {v : V} {d : D} (h : DenU K H0 G H v d) (n : d ≠ .non) : decide (v = .non) = false := by
  apply decide_eq_false
  intro e
  subst e
  rcases h with h | ⟨p, e, _⟩
  · cases h
    exact n rfl
  · cases e
end
end PL
set_option Elab.async false
set_option linter.all false
set_option maxRecDepth 100000
set_option maxHeartbeats 2000000
namespace PL
open PySem L2
variable [Tabl]
mutual
def D.py : D → PyData
  | .non => .none
  | .bl b => .bool b
  | .int i => .int i
  | .str s => .str (SS s)
  | .lst xs => .list (D.pyL xs)
  | .tup xs => .tuple (D.pyL xs)
  | .dct _ => .none
  | .ins _ _ => .none
  | .sl _ _ => .none
  | .cls _ => .none
  | .ty _ => .none
  | .bag => .none
  | .scr => .none
  | .cel _ _ => .none
def D.pyL : List D → List PyData
  | [] => []
  | d :: r => D.py d :: D.pyL r
end
mutual
/-- none, bools, ints, texts, lists and tuples of such -/
def D.plain : D → Bool
  | .non => true
  | .bl _ => true
  | .int _ => true
  | .str s => s.all fun c => decide (c < 1114112)
  | .lst xs => D.plainL xs
  | .tup xs => D.plainL xs
  | _ => false
def D.plainL : List D → Bool
  | [] => true
  | d :: r => D.plain d && D.plainL r
end
mutual
def D.dep : D → Nat
  | .lst xs => D.depL xs + 1
  | .tup xs => D.depL xs + 1
  | _ => 0
def D.depL : List D → Nat
  | [] => 0
  | d :: r => max (D.dep d) (D.depL r)
end
mutual
theorem D.lay : ∀ d : D, d.plain = true → d.py.canLay0 = true
  | .non, _ => rfl
  | .bl _, _ => rfl
  | .int _, _ => rfl
  | .str s, h => by
    show (SS s).cps.all (· < 0x110000) = true
    unfold D.plain at h
    rw [Array.all_eq_true']
    intro c hc
    have := List.all_eq_true.mp h c (by simpa [SS] using hc)
    simpa using this
  | .lst xs, h => by
    show PyData.canLayAll0 _ = true
    exact D.layL xs h
  | .tup xs, h => by
    show PyData.canLayAll0 _ = true
    exact D.layL xs h
  | .dct _, h => by cases h
  | .ins _ _, h => by cases h
  | .sl _ _, h => by cases h
  | .cls _, h => by cases h
  | .ty _, h => by cases h
  | .bag, h => by cases h
  | .scr, h => by cases h
  | .cel _ _, h => by cases h
theorem D.layL : ∀ ds : List D, D.plainL ds = true → PyData.canLayAll0 (D.pyL ds) = true
  | [], _ => rfl
  | d :: r, h => by
    have h : (d.plain && D.plainL r) = true := h
    obtain ⟨h1, h2⟩ := Bool.and_eq_true_iff.mp h
    show (PyData.canLay0 d.py && PyData.canLayAll0 (D.pyL r)) = true
    rw [D.lay d h1, D.layL r h2]
    rfl
end
mutual
theorem D.dep_py : ∀ d : D, d.py.depth = d.dep
  | .non => rfl
  | .bl _ => rfl
  | .int _ => rfl
  | .str s => rfl
  | .lst xs => congrArg (· + 1) (D.dep_pyL xs)
  | .tup xs => congrArg (· + 1) (D.dep_pyL xs)
  | .dct _ => rfl
  | .ins _ _ => rfl
  | .sl _ _ => rfl
  | .cls _ => rfl
  | .ty _ => rfl
  | .bag => rfl
  | .scr => rfl
  | .cel _ _ => rfl
theorem D.dep_pyL : ∀ ds : List D, PyData.depthAll (D.pyL ds) = D.depL ds
  | [] => rfl
  | d :: r => by
    show max (PyData.depth d.py) (PyData.depthAll (D.pyL r)) = max d.dep (D.depL r)
    rw [D.dep_py d, D.dep_pyL r]
end
theorem D.shaped {d : D} (h : d.plain = true) (hd : d.dep ≤ 64) : SeqAt.shaped d.py = true := by
  unfold SeqAt.shaped
  rw [D.lay d h, D.dep_py d, decide_eq_true hd]
  rfl
def eqD (d e : D) : Bool := PyData.eqv d.py e.py
section
variable {K : PySem.W.Frag} {G H H0 : Hp}
mutual
theorem Den.dp (s : Sub G H) : ∀ (d : D) (v : V), Den K G v d → d.plain = true → Dp K H v d.py
  | .non, _, h, _ => by cases h; exact .non
  | .bl _, _, h, _ => by cases h; exact .bl _
  | .int _, _, h, _ => by cases h; exact .int _
  | .str _, _, h, _ => by cases h; exact .str _
  | .lst xs, _, h, z => by
    cases h with
    | lst h1 h2 => exact .lst (SqL.of (s.at_ h1 (fun z => z))) (DenL.dp s xs _ h2 z)
  | .tup xs, _, h, z => by
    cases h with
    | tup h1 h2 => exact .tup (s.sqt h1) (DenL.dp s xs _ h2 z)
  | .dct _, _, _, z => by cases z
  | .ins _ _, _, _, z => by cases z
  | .sl _ _, _, _, z => by cases z
  | .cls _, _, _, z => by cases z
  | .ty _, _, _, z => by cases z
  | .bag, _, _, z => by cases z
  | .scr, _, _, z => by cases z
  | .cel _ _, _, _, z => by cases z
theorem DenL.dp (s : Sub G H) : ∀ (ds : List D) (vs : List V), DenL K G vs ds → D.plainL ds = true → DpAll K H vs (D.pyL ds)
  | [], _, h, _ => by cases h; exact .nil
  | d :: r, _, h, z => by
    have z : (d.plain && D.plainL r) = true := z
    obtain ⟨z1, z2⟩ := Bool.and_eq_true_iff.mp z
    cases h with
    | cons h1 h2 => exact .cons (Den.dp s d _ h1 z1) (DenL.dp s r _ h2 z2)
end
theorem DenU.dp (s : Sub G H) {d : D} {v : V} (h : DenU K H0 G H v d) (z : d.plain = true) : Dp K H v d.py := by
  rcases h with h | ⟨p, e, g, r⟩
  · exact Den.dp s d v h z
  · cases d with
    | lst xs =>
      obtain ⟨ys, h1, h2⟩ := r
      subst e
      exact .lst (SqL.of h1) (DenL.dp s xs _ h2 z)
    | dct _ => cases z
    | ins _ _ => cases z
    | _ => exact r.elim
end
def fEq : F2 := fun d e k => (d.plain = true ∧ e.plain = true ∧ d.dep ≤ 64 ∧ e.dep ≤ 64) ∧ k (.bl (eqD d e))
def fNe : F2 := fun d e k => (d.plain = true ∧ e.plain = true ∧ d.dep ≤ 64 ∧ e.dep ≤ 64) ∧ k (.bl (!eqD d e))
section
variable {X : Cx} {W : WX} {e a b c : Expr} {es : List Expr} {t ta tb tc : TP} {tl : TL} {tt tu : TB} {pos : Pos}
theorem o_eq (hu : X.A.units + 64 < cLine) : OpR X (compareOp .Eq) (rEqD X.K) ∧ RdO X.K (rEqD X.K) fEq :=
  ⟨op_eqD hu, fun H0 G H v1 v2 d1 d2 k Q s n1 n2 ⟨⟨p1, p2, l1, l2⟩, hf⟩ hk => ⟨d1.py, d2.py, n1.dp s p1, n2.dp s p2, D.shaped p1 l1, D.shaped p2 l2, hk _ _ G H hf (Ext.refl s) (.bl _)⟩⟩
theorem o_ne (hu : X.A.units + 64 < cLine) : OpR X (compareOp .NotEq) (rNeD X.K) ∧ RdO X.K (rNeD X.K) fNe :=
  ⟨op_neD hu, fun H0 G H v1 v2 d1 d2 k Q s n1 n2 ⟨⟨p1, p2, l1, l2⟩, hf⟩ hk => ⟨d1.py, d2.py, n1.dp s p1, n2.dp s p2, D.shaped p1 l1, D.shaped p2 l2, hk _ _ G H hf (Ext.refl s) (.bl _)⟩⟩
/-- a sign in a text -/
def fInS : F2
  | .str [c], .str t, k => k (.bl (decide (c ∈ t)))
  | _, _, _ => False
def rInSg : R2 := fun x y H Q => ∃ (c : Nat) (z : PySem.Str), x = .str ⟨#[c]⟩ ∧ y = .str z ∧ Q (.bl (decide (c ∈ z.cps.toList))) H
theorem o_inS : OpR X (compareOp .In) rInSg ∧ RdO X.K rInSg fInS := by
  refine ⟨op_in_sign, fun H0 G H v1 v2 d1 d2 k Q s n1 n2 hf hk => ?_⟩
  cases d1 with
  | str x =>
    match x, hf with
    | [c], hf =>
      cases d2 with
      | str y => exact ⟨c, _, n1.str, n2.str, hk _ _ G H hf (Ext.refl s) (.bl _)⟩
      | _ => exact hf.elim
  | _ => exact hf.elim
def isNon : D → Bool
  | .non => true
  | _ => false
theorem DenU.isNon {K : PySem.W.Frag} {H0 G H : Hp} {v : V} {d : D} (h : DenU K H0 G H v d) : decide (v = .non) = isNon d := by
  cases d with
  | non => rw [h.non]; rfl
  | _ => exact h.notNon (by simp)
def tpIsN (t : TP) : TP := fun Γ k kx => t Γ (fun d => k (.bl (isNon d))) kx
theorem p_isN {j p2} (ha : PU X W a ta) : PP X W (.Compare a [.Is] [.Constant .none j p2] pos) (tpIsN ta) := by
  obtain ⟨ea, pa, ra⟩ := ha.ex
  refine ⟨_, pe_cmp (pc_isN pa), fun G0 H0 Γ σ G H k kx Q F ht hk hx => ?_⟩
  refine ra G0 H0 Γ σ G H _ kx _ F ht (fun d1 v1 G1 H1 k1 x1 n1 => ?_) hx
  rw [n1.isNon]
  exact hk _ _ G1 H1 k1 x1 (.bl _)
def onB (d : D) (k : Bool → Prop) : Prop := match d with
  | .bl b => k b
  | _ => False
theorem onB_elim {d : D} {k : Bool → Prop} (h : onB d k) : ∃ b, d = .bl b ∧ k b := by
  cases d with
  | bl b => exact ⟨b, rfl, h⟩
  | _ => exact h.elim
def tpAnd (ta tb : TP) : TP := fun Γ k kx => ta Γ (fun d => onB d fun c => if c = true then tb Γ k kx else k (.bl false)) kx
def tpOr (ta tb : TP) : TP := fun Γ k kx => ta Γ (fun d => onB d fun c => if c = true then k (.bl true) else tb Γ k kx) kx
def tpNot (ta : TP) : TP := fun Γ k kx => ta Γ (fun d => onB d fun c => k (.bl (!c))) kx
theorem p_and {r : List Expr} (ha : PP X W a ta) (hb : PP X W (.BoolOp .And (b :: r) pos) tb) : PP X W (.BoolOp .And (a :: b :: r) pos) (tpAnd ta tb) := by
  obtain ⟨ea, pa, ra⟩ := ha.ex
  obtain ⟨eb, pb, rb⟩ := hb.ex
  refine ⟨_, pe_and pa pb, fun G0 H0 Γ σ G H k kx Q F ht hk hx => ?_⟩
  refine ra G0 H0 Γ σ G H _ kx _ F ht (fun d1 v1 G1 H1 k1 x1 n1 => ?_) hx
  obtain ⟨c, rfl, k1⟩ := onB_elim k1
  refine ⟨c, DenU.bl (.inl n1) (H0 := H0) (H := H1), ?_⟩
  cases c with
  | true => exact rb G0 H0 Γ σ G1 H1 k kx Q (F.up x1) k1 (fun d v G' H' kd ex dn => hk d v G' H' kd (x1.trans ex) dn) (hx.up x1)
  | false => exact hk _ _ G1 H1 k1 x1 (.bl _)
theorem p_or {r : List Expr} (ha : PP X W a ta) (hb : PP X W (.BoolOp .Or (b :: r) pos) tb) : PP X W (.BoolOp .Or (a :: b :: r) pos) (tpOr ta tb) := by
  obtain ⟨ea, pa, ra⟩ := ha.ex
  obtain ⟨eb, pb, rb⟩ := hb.ex
  refine ⟨_, pe_or pa pb, fun G0 H0 Γ σ G H k kx Q F ht hk hx => ?_⟩
  refine ra G0 H0 Γ σ G H _ kx _ F ht (fun d1 v1 G1 H1 k1 x1 n1 => ?_) hx
  obtain ⟨c, rfl, k1⟩ := onB_elim k1
  refine ⟨c, DenU.bl (.inl n1) (H0 := H0) (H := H1), ?_⟩
  cases c with
  | false => exact rb G0 H0 Γ σ G1 H1 k kx Q (F.up x1) k1 (fun d v G' H' kd ex dn => hk d v G' H' kd (x1.trans ex) dn) (hx.up x1)
  | true => exact hk _ _ G1 H1 k1 x1 (.bl _)
theorem p_one {op} (ha : PP X W a ta) : PP X W (.BoolOp op [a] pos) ta := by
  obtain ⟨ea, pa, ra⟩ := ha.ex
  exact ⟨_, pe_one pa, ra⟩
theorem p_not (ha : PP X W a ta) : PP X W (.UnaryOp .Not a pos) (tpNot ta) := by
  obtain ⟨ea, pa, ra⟩ := ha.ex
  refine ⟨_, pe_not pa, fun G0 H0 Γ σ G H k kx Q F ht hk hx => ?_⟩
  refine ra G0 H0 Γ σ G H _ kx _ F ht (fun d1 v1 G1 H1 k1 x1 n1 => ?_) hx
  obtain ⟨c, rfl, k1⟩ := onB_elim k1
  exact ⟨c, DenU.bl (.inl n1) (H0 := H0) (H := H1), hk _ _ G1 H1 k1 x1 (.bl _)⟩
def tpNeg (ta : TP) : TP := fun Γ k kx => ta Γ (fun d => match d with | .int i => k (.int (-i)) | _ => False) kx
theorem p_neg (ha : PP X W a ta) : PP X W (.UnaryOp .USub a pos) (tpNeg ta) := by
  obtain ⟨ea, pa, ra⟩ := ha.ex
  refine ⟨_, pe_un un_neg pa, fun G0 H0 Γ σ G H k kx Q F ht hk hx => ?_⟩
  refine ra G0 H0 Γ σ G H _ kx _ F ht (fun d1 v1 G1 H1 k1 x1 n1 => ?_) hx
  cases d1 with
  | int i => exact ⟨i, DenU.int (.inl n1) (H0 := H0) (H := H1), hk _ _ G1 H1 k1 x1 (.int _)⟩
  | _ => exact k1.elim
def tbV (t : TP) : TB := fun Γ k kx => t Γ (fun d => onB d k) kx
theorem b_val (h : PP X W e t) (he : ∀ whole, isTrue e X.env whole = (do let v ← whole; standAt e.pos; holding [v] (truthy v)) := by intro _; rfl) : PB X W e (tbV t) := by
  obtain ⟨ea, pa, ra⟩ := h.ex
  refine ⟨_, pt_val pa he, fun G0 H0 Γ σ G H k kx Q F ht hk hx => ?_⟩
  refine ra G0 H0 Γ σ G H _ kx _ F ht (fun d1 v1 G1 H1 k1 x1 n1 => ?_) hx
  obtain ⟨c, rfl, k1⟩ := onB_elim k1
  exact ⟨c, DenU.bl (.inl n1) (H0 := H0) (H := H1), hk _ G1 H1 k1 x1⟩
theorem b_cmp {op : CmpOp} {r : R2} {f : F2} (ho : OpR X (compareOp op) r ∧ RdO X.K r f) (ha : PU X W a ta) (hb : PU X W b tb) (hm : behindInMarks op b = false := by first | exact nobehind _ (by decide) (by decide) | rfl) : PB X W (.Compare a [op] [b] pos) (tbV (tpOp f ta tb)) := by
  obtain ⟨ea, pa, ra⟩ := ha.ex
  obtain ⟨eb, pb, rb⟩ := hb.ex
  refine ⟨_, pt_cmpR ho.1 pa pb hm, fun G0 H0 Γ σ G H k kx Q F ht hk hx => ?_⟩
  refine rd_op ra rb ho.2 G0 H0 Γ σ G H _ kx _ F ht (fun d1 v1 G1 H1 k1 x1 n1 => ?_) hx
  obtain ⟨c, rfl, k1⟩ := onB_elim k1
  exact ⟨c, DenU.bl (.inl n1) (H0 := H0) (H := H1), hk _ G1 H1 k1 x1⟩
theorem b_isN {j p2} (ha : PU X W a ta) : PB X W (.Compare a [.Is] [.Constant .none j p2] pos) (tbV (tpIsN ta)) := by
  obtain ⟨ea, pa, ra⟩ := ha.ex
  refine ⟨_, pt_cmp (pc_isN pa), fun G0 H0 Γ σ G H k kx Q F ht hk hx => ?_⟩
  refine ra G0 H0 Γ σ G H _ kx _ F ht (fun d1 v1 G1 H1 k1 x1 n1 => ?_) hx
  exact ⟨_, congrArg V.bl n1.isNon, hk _ G1 H1 k1 x1⟩
def tbAnd (t u : TB) : TB := fun Γ k kx => t Γ (fun c => if c = true then u Γ k kx else k false) kx
def tbOr (t u : TB) : TB := fun Γ k kx => t Γ (fun c => if c = true then k true else u Γ k kx) kx
def tbNot (t : TB) : TB := fun Γ k kx => t Γ (fun c => k (!c)) kx
structure PBw (X : Cx) (W : WX) (e : Expr) (t : TB) : Prop where
  ex : ∃ te, PW X e te ∧ RdT X.K W te t
theorem PBw.to (h : PBw X W e tt) : PB X W e tt := by
  obtain ⟨ea, pa, ra⟩ := h.ex
  exact ⟨_, pa.pt, ra⟩
theorem b_and1 (ha : PB X W a tt) : PBw X W (.BoolOp .And [a] pos) tt := by
  obtain ⟨ea, pa, ra⟩ := ha.ex
  exact ⟨_, pw_and1 pa, ra⟩
theorem b_or1 (ha : PB X W a tt) : PBw X W (.BoolOp .Or [a] pos) tt := by
  obtain ⟨ea, pa, ra⟩ := ha.ex
  exact ⟨_, pw_or1 pa, ra⟩
theorem b_and {r : List Expr} (ha : PB X W a tt) (hb : PBw X W (.BoolOp .And (b :: r) pos) tu) : PBw X W (.BoolOp .And (a :: b :: r) pos) (tbAnd tt tu) := by
  obtain ⟨ea, pa, ra⟩ := ha.ex
  obtain ⟨eb, pb, rb⟩ := hb.ex
  refine ⟨_, pw_and pa pb, fun G0 H0 Γ σ G H k kx Q F ht hk hx => ?_⟩
  refine ra G0 H0 Γ σ G H _ kx _ F ht (fun c G1 H1 k1 x1 => ?_) hx
  cases c with
  | true => exact rb G0 H0 Γ σ G1 H1 k kx Q (F.up x1) k1 (fun d G' H' kd ex => hk d G' H' kd (x1.trans ex)) (hx.up x1)
  | false => exact hk _ G1 H1 k1 x1
theorem b_or {r : List Expr} (ha : PB X W a tt) (hb : PBw X W (.BoolOp .Or (b :: r) pos) tu) : PBw X W (.BoolOp .Or (a :: b :: r) pos) (tbOr tt tu) := by
  obtain ⟨ea, pa, ra⟩ := ha.ex
  obtain ⟨eb, pb, rb⟩ := hb.ex
  refine ⟨_, pw_or pa pb, fun G0 H0 Γ σ G H k kx Q F ht hk hx => ?_⟩
  refine ra G0 H0 Γ σ G H _ kx _ F ht (fun c G1 H1 k1 x1 => ?_) hx
  cases c with
  | false => exact rb G0 H0 Γ σ G1 H1 k kx Q (F.up x1) k1 (fun d G' H' kd ex => hk d G' H' kd (x1.trans ex)) (hx.up x1)
  | true => exact hk _ G1 H1 k1 x1
theorem b_not (ha : PB X W a tt) : PB X W (.UnaryOp .Not a pos) (tbNot tt) := by
  obtain ⟨ea, pa, ra⟩ := ha.ex
  refine ⟨_, pt_not pa, fun G0 H0 Γ σ G H k kx Q F ht hk hx => ?_⟩
  exact ra G0 H0 Γ σ G H _ kx _ F ht (fun c G1 H1 k1 x1 => hk _ G1 H1 k1 x1) hx
def tpIf (t : TB) (ta tb : TP) : TP := fun Γ k kx => t Γ (fun c => if c = true then ta Γ k kx else tb Γ k kx) kx
theorem p_ifExp (hc : PB X W c tt) (ha : PP X W a ta) (hb : PP X W b tb) : PP X W (.IfExp c a b pos) (tpIf tt ta tb) := by
  obtain ⟨ec, pc, rc⟩ := hc.ex
  obtain ⟨ea, pa, ra⟩ := ha.ex
  obtain ⟨eb, pb, rb⟩ := hb.ex
  refine ⟨_, pe_ifExp pc pa pb, fun G0 H0 Γ σ G H k kx Q F ht hk hx => ?_⟩
  refine rc G0 H0 Γ σ G H _ kx _ F ht (fun c G1 H1 k1 x1 => ?_) hx
  cases c with
  | true => exact ra G0 H0 Γ σ G1 H1 k kx Q (F.up x1) k1 (fun d v G' H' kd ex dn => hk d v G' H' kd (x1.trans ex) dn) (hx.up x1)
  | false => exact rb G0 H0 Γ σ G1 H1 k kx Q (F.up x1) k1 (fun d v G' H' kd ex dn => hk d v G' H' kd (x1.trans ex) dn) (hx.up x1)
def tlNil : TL := fun _ k _ => k []
def tlCons (t : TP) (r : TL) : TL := fun Γ k kx => t Γ (fun d => r Γ (fun ds => k (d :: ds)) kx) kx
theorem l_nil : PL' X W [] tlNil := ⟨_, pa_nil, fun G0 H0 Γ σ G H k kx Q F ht hk hx => hk [] [] G H ht (Ext.refl F.sub) .nil⟩
theorem l_cons (ha : PP X W e t) (hr : PL' X W es tl) (hs : starEach (e :: es) X.env = (false, eval e X.env) :: starEach es X.env := by rfl) : PL' X W (e :: es) (tlCons t tl) := by
  obtain ⟨ea, pa, ra⟩ := ha.ex
  obtain ⟨eb, pb, rb⟩ := hr.ex
  refine ⟨_, pa_cons pa pb hs, fun G0 H0 Γ σ G H k kx Q F ht hk hx => ?_⟩
  refine ra G0 H0 Γ σ G H _ kx _ F ht (fun d1 v1 G1 H1 k1 x1 n1 => ?_) hx
  exact rb G0 H0 Γ σ G1 H1 _ kx _ (F.up x1) k1 (fun ds vs G' H' kd ex dn => hk (d1 :: ds) (v1 :: vs) G' H' kd (x1.trans ex) (.cons (n1.up ex.g) dn)) (hx.up x1)
def tpTup (t : TL) : TP := fun Γ k kx => t Γ (fun ds => ds.length ≤ 100000 ∧ k (.tup ds)) kx
def tpLst (t : TL) : TP := fun Γ k kx => t Γ (fun ds => ds.length ≤ 100000 ∧ k (.lst ds)) kx
theorem sz5 {n : Nat} (h : n ≤ 100000) : n ≤ sizeLine := Nat.le_trans h (by decide)
theorem p_tup {x1 : Nat} (h : PL' X W es tl) : PP X W (.Tuple es x1 pos) (tpTup tl) := by
  obtain ⟨ea, pa, ra⟩ := h.ex
  refine ⟨_, pe_tup pa, fun G0 H0 Γ σ G H k kx Q F ht hk hx => ?_⟩
  refine ra G0 H0 Γ σ G H _ kx _ F ht (fun ds vs G1 H1 k1 x1 n1 => ?_) hx
  refine ⟨by rw [n1.length]; exact sz5 k1.1, fun p hp => ?_⟩
  exact hk _ _ _ _ k1.2 (x1.trans (Ext.new x1.sub hp)) (.tup (SqT.of upd_same) (n1.up (same_upd (x1.sub.none hp))))
theorem p_lst (h : PL' X W es tl) : PP X W (.List es pos) (tpLst tl) := by
  obtain ⟨ea, pa, ra⟩ := h.ex
  refine ⟨_, pe_lst pa, fun G0 H0 Γ σ G H k kx Q F ht hk hx => ?_⟩
  refine ra G0 H0 Γ σ G H _ kx _ F ht (fun ds vs G1 H1 k1 x1 n1 => ?_) hx
  refine ⟨by rw [n1.length]; exact sz5 k1.1, fun p hp => ?_⟩
  exact hk _ _ _ _ k1.2 (x1.trans (Ext.new x1.sub hp)) (.lst upd_same (n1.up (same_upd (x1.sub.none hp))))
def fIx : F2
  | .lst xs, .int i, k => match atI xs i with
    | some d => k d
    | none => False
  | .tup xs, .int i, k => match atI xs i with
    | some d => k d
    | none => False
  | .str s, .int i, k => s.length ≤ sizeLine ∧ match atI s i with
    | some c => k (.str [c])
    | none => False
  | .cel _ ns, .int i, k => match atI ns i with
    | some n => k (.int n)
    | none => False
  | _, _, _ => False
theorem atI_map {α β : Type} (f : α → β) (xs : List α) (i : Int) : atI (xs.map f) i = (atI xs i).map f := by
  unfold atI
  rw [List.length_map]
  cases ixN xs.length i with
  | none => rfl
  | some j =>
    show (xs.map f)[j]? = (xs[j]?).map f
    rw [List.getElem?_map]
theorem DenU.cel {K : PySem.W.Frag} {H0 G H : Hp} {v : V} {l : Addr} {ns : List Int} (s : Sub G H) (h : DenU K H0 G H v (.cel l ns)) : v = .ref l ∧ H l = some (.lst (ns.map V.int)) := by
  rcases h with h | ⟨p, e, g, r⟩
  · cases h with
    | cel h1 => exact ⟨rfl, s.at_ h1 (fun z => z)⟩
  · exact r.elim
theorem ix_get {K : PySem.W.Frag} {G : Hp} {vs : List V} {ds : List D} {i : Int} {d : D} (r : DenL K G vs ds) (h : atI ds i = some d) : ∃ v, atI vs i = some v ∧ Den K G v d := by
  unfold atI at h ⊢
  rw [r.length]
  cases e : ixN ds.length i with
  | none => rw [e] at h; cases h
  | some j =>
    rw [e] at h
    exact r.get (i := j) h
theorem o_ix : IxR X (rIx X.K) ∧ RdO X.K (rIx X.K) fIx := by
  refine ⟨ix_seq, fun H0 G H v1 v2 d1 d2 k Q s n1 n2 hf hk => ?_⟩
  cases d1 with
  | lst xs =>
    cases d2 with
    | int i =>
      obtain ⟨a, ys, e1, h1, r1⟩ := n1.lst s
      unfold fIx at hf
      cases e : atI xs i with
      | none => simp only [e] at hf
      | some d =>
        simp only [e] at hf
        obtain ⟨v, hv, dn⟩ := ix_get r1 e
        exact .inl ⟨a, ys, i, v, e1, n2.int, SqL.of h1, hv, hk _ _ G H hf (Ext.refl s) dn⟩
    | _ => exact hf.elim
  | tup xs =>
    cases d2 with
    | int i =>
      obtain ⟨a, ys, e1, h1, r1⟩ := n1.tup s
      unfold fIx at hf
      cases e : atI xs i with
      | none => simp only [e] at hf
      | some d =>
        simp only [e] at hf
        obtain ⟨v, hv, dn⟩ := ix_get r1 e
        exact .inr (.inl ⟨a, ys, i, v, e1, n2.int, h1, hv, hk _ _ G H hf (Ext.refl s) dn⟩)
    | _ => exact hf.elim
  | str xs =>
    cases d2 with
    | int i =>
      unfold fIx at hf
      obtain ⟨hz, hf⟩ := hf
      cases e : atI xs i with
      | none => simp only [e] at hf
      | some c =>
        simp only [e] at hf
        exact .inr (.inr ⟨_, i, c, n1.str, n2.int, by rw [ss_length]; exact hz, e, hk _ _ G H hf (Ext.refl s) (.str [c])⟩)
    | _ => exact hf.elim
  | cel l ns =>
    cases d2 with
    | int i =>
      obtain ⟨e1, h1⟩ := n1.cel s
      unfold fIx at hf
      cases e : atI ns i with
      | none => simp only [e] at hf
      | some n =>
        simp only [e] at hf
        exact .inl ⟨l, _, i, .int n, e1, n2.int, SqL.of h1, by rw [atI_map, e]; rfl, hk _ _ G H hf (Ext.refl s) (.int n)⟩
    | _ => exact hf.elim
  | _ => exact hf.elim
theorem p_ix (ha : PU X W a ta) (hb : PU X W b tb) (hs : PlainIx b := by exact fun _ _ => rfl) : PP X W (.Subscript a b pos) (tpOp fIx ta tb) := by
  obtain ⟨ea, pa, ra⟩ := ha.ex
  obtain ⟨eb, pb, rb⟩ := hb.ex
  exact ⟨_, pe_ix o_ix.1 pa pb hs, rd_op ra rb o_ix.2⟩
abbrev TO' := Ga → (Option Int → Prop) → KX → Prop
def RdPart (K : PySem.W.Frag) (W : WX) (te : TO) (t : TO') : Prop := ∀ (G0 H0 : Hp) (Γ : Ga) (σ : L2.St) (G H : Hp) (k : Option Int → Prop) (kx : KX) (Q : Option Int → Hp → Prop), Fr K G0 H0 Γ σ G H → t Γ k kx →
  (∀ b G' H', k b → Ext G H G' H' → Q b H') → XOk K W G H σ kx → te σ H Q
structure PPart (X : Cx) (W : WX) (e : Option Expr) (t : TO') : Prop where
  ex : ∃ te, PO X e te ∧ RdPart X.K W te t
def toNo : TO' := fun _ k _ => k none
def toSome (t : TP) : TO' := fun Γ k kx => t Γ (fun d => match d with | .int i => k (some i) | _ => False) kx
theorem s_none : PPart X W none toNo := ⟨_, po_none, fun G0 H0 Γ σ G H k kx Q F ht hk hx => hk none G H ht (Ext.refl F.sub)⟩
theorem s_some (ha : PP X W a ta) : PPart X W (some a) (toSome ta) := by
  obtain ⟨ea, pa, ra⟩ := ha.ex
  refine ⟨_, po_some pa, fun G0 H0 Γ σ G H k kx Q F ht hk hx => ?_⟩
  refine ra G0 H0 Γ σ G H _ kx _ F ht (fun d1 v1 G1 H1 k1 x1 n1 => ?_) hx
  cases d1 with
  | int i => exact ⟨i, DenU.int (.inl n1) (H0 := H0) (H := H1), hk _ G1 H1 k1 x1⟩
  | _ => exact k1.elim
def cutL {α : Type} (xs : List α) (lo hi : Option Int) : List α := (xs.drop (HT.sIx xs.length 0 lo)).take (HT.sIx xs.length xs.length hi - HT.sIx xs.length 0 lo)
/-- a tuple's slice that is a part of it -/
def fSl : D → Option Int → Option Int → KD → Prop
  | .lst xs, lo, hi, k => k (.lst (cutL xs lo hi))
  | .tup xs, lo, hi, k => k (.tup (cutL xs lo hi))
  | .str s, lo, hi, k => s.length ≤ sizeLine ∧ k (.str (cutL s lo hi))
  | _, _, _, _ => False
theorem cutV_den {K : PySem.W.Frag} {G : Hp} {vs : List V} {ds : List D} (r : DenL K G vs ds) (lo hi : Option Int) : DenL K G (cutV vs lo hi) (cutL ds lo hi) := by
  unfold cutV cutL
  rw [r.length]
  exact (r.drop _).take _
theorem cutS_ss (s : List Nat) (lo hi : Option Int) : cutS (SS s) lo hi = SS (cutL s lo hi) := by
  unfold cutS cutL
  rw [ss_length]
theorem cutL_whole {α : Type} {xs : List α} {lo hi : Option Int} (h : HT.sIx xs.length 0 lo = 0 ∧ HT.sIx xs.length xs.length hi = xs.length) : cutL xs lo hi = xs := by
  unfold cutL
  rw [h.1, h.2]
  simp
def tpSl (t : TP) (tl th : TO') : TP := fun Γ k kx => t Γ (fun d => tl Γ (fun lo => th Γ (fun hi => fSl d lo hi k) kx) kx) kx
theorem p_slice {lo hi : Option Expr} {tlo thi : TO'} {p2 : Pos} (ha : PU X W a ta) (hl : PPart X W lo tlo) (hh : PPart X W hi thi) : PP X W (.Subscript a (.Slice lo hi none p2) pos) (tpSl ta tlo thi) := by
  obtain ⟨ea, pa, ra⟩ := ha.ex
  obtain ⟨el, pl, rl⟩ := hl.ex
  obtain ⟨eh, ph, rh⟩ := hh.ex
  refine ⟨_, pe_slice (SlR.or sl_list (SlR.or sl_str sl_tupA)) pa pl ph, fun G0 H0 Γ σ G H k kx Q F ht hk hx => ?_⟩
  refine ra G0 H0 Γ σ G H _ kx _ F ht (fun d1 v1 G1 H1 k1 x1 n1 => ?_) hx
  refine rl G0 H0 Γ σ G1 H1 _ kx _ (F.up x1) k1 (fun l G2 H2 k2 x2 => ?_) (hx.up x1)
  refine rh G0 H0 Γ σ G2 H2 _ kx _ (F.up (x1.trans x2)) k2 (fun u G3 H3 k3 x3 => ?_) (hx.up (x1.trans x2))
  have x := (x1.trans x2).trans x3
  have n := n1.up (x2.trans x3)
  cases d1 with
  | lst xs =>
    obtain ⟨a, ys, e1, h1, r1⟩ := n.lst x.sub
    refine .inl ⟨a, ys, e1, SqL.of h1, fun p hp => ?_⟩
    exact hk _ _ _ _ k3 (x.trans (Ext.new x.sub hp)) (.lst upd_same ((cutV_den r1 l u).up (same_upd (x.sub.none hp))))
  | tup xs =>
    obtain ⟨a, ys, e1, h1, r1⟩ := n.tup x.sub
    refine .inr (.inr ⟨a, ys, e1, h1, fun hw => ?_, fun hw p hp => ?_⟩)
    · have e2 : cutL xs l u = xs := cutL_whole (by rw [r1.length] at hw; exact hw)
      have k3 : k (.tup (cutL xs l u)) := k3
      rw [e2] at k3
      subst e1
      rcases n with n | ⟨_, _, _, z⟩
      · exact hk _ _ _ _ k3 x n
      · exact z.elim
    · exact hk _ _ _ _ k3 (x.trans (Ext.new x.sub hp)) (.tup (SqT.of upd_same) ((cutV_den r1 l u).up (same_upd (x.sub.none hp))))
  | str s =>
    obtain ⟨hz, k3⟩ := (show s.length ≤ sizeLine ∧ k (.str (cutL s l u)) from k3)
    refine .inr (.inl ⟨_, n.str, by rw [ss_length]; exact hz, ?_⟩)
    rw [cutS_ss]
    exact hk _ _ _ _ k3 x (.str _)
  | _ => exact k3.elim
end
end PL
set_option Elab.async false
set_option linter.all false
set_option maxRecDepth 100000
set_option maxHeartbeats 2000000
namespace PL
open PySem L2
variable [Tabl]
structure PEn where
  nx : Ga → Prop
  bk : Ga → Prop := fun _ => False
  ct : Ga → Prop := fun _ => False
  rt : D → Ga → Prop
  xx : XD → Ga → Prop
abbrev TSp := PEn → Ga → Prop
structure EOk (K : PySem.W.Frag) (W : WX) (G0 H0 : Hp) (P : PEn) (E : Ends) : Prop where
  nx : ∀ Γ σ G H, P.nx Γ → Fr K G0 H0 Γ σ G H → E.nx σ H
  bk : ∀ Γ σ G H, P.bk Γ → Fr K G0 H0 Γ σ G H → E.bk σ H
  ct : ∀ Γ σ G H, P.ct Γ → Fr K G0 H0 Γ σ G H → E.ct σ H
  rt : ∀ d v Γ σ G H, P.rt d Γ → Fr K G0 H0 Γ σ G H → Den K G v d → E.rt v H
  xx : ∀ x cls dA Γ σ G H, P.xx x Γ → Fr K G0 H0 Γ σ G H → XDen K G H cls dA x → W cls dA σ H
def RdS (K : PySem.W.Frag) (W : WX) (ts : TS) (t : TSp) : Prop := ∀ (G0 H0 : Hp) (Γ : Ga) (σ : L2.St) (G H : Hp) (P : PEn) (E : Ends), Fr K G0 H0 Γ σ G H → t P Γ → EOk K W G0 H0 P E → ts E σ H
structure PS1 (X : Cx) (W : WX) (s : Stmt) (t : TSp) : Prop where
  ex : ∃ ts, PS X s ts ∧ RdS X.K W ts t
structure PSS (X : Cx) (W : WX) (s : List Stmt) (t : TSp) : Prop where
  ex : ∃ ts, PSs X s ts ∧ RdS X.K W ts t
theorem EOk.x {K : PySem.W.Frag} {W : WX} {G0 H0 : Hp} {P : PEn} {E : Ends} (e : EOk K W G0 H0 P E) {Γ : Ga} {σ : L2.St} {G H : Hp} (F : Fr K G0 H0 Γ σ G H) : XOk K W G H σ (fun x => P.xx x Γ) :=
  fun x cls dA G' H' a b c => e.xx x cls dA Γ σ G' H' a (F.up b) c
theorem EOk.withNx {K : PySem.W.Frag} {W : WX} {G0 H0 : Hp} {P : PEn} {E : Ends} (e : EOk K W G0 H0 P E) {n : Ga → Prop} {m : L2.St → Hp → Prop} (h : ∀ Γ σ G H, n Γ → Fr K G0 H0 Γ σ G H → m σ H) :
    EOk K W G0 H0 { P with nx := n } { E with nx := m } := ⟨h, e.bk, e.ct, e.rt, e.xx⟩
theorem EOk.loop {K : PySem.W.Frag} {W : WX} {G0 H0 : Hp} {P : PEn} {E : Ends} (e : EOk K W G0 H0 P E) {n : Ga → Prop} {m : L2.St → Hp → Prop} (h : ∀ Γ σ G H, n Γ → Fr K G0 H0 Γ σ G H → m σ H) :
    EOk K W G0 H0 { P with nx := n, ct := n, bk := P.nx } { E with nx := m, ct := m, bk := E.nx } := ⟨h, e.nx, h, e.rt, e.xx⟩
section
variable {K : PySem.W.Frag} {G0 H0 G H : Hp} {Γ : Ga} {σ : L2.St}
theorem Fr.set (F : Fr K G0 H0 Γ σ G H) {v : V} {d : D} (i : Nat) (r : Den K G v d) : Fr K G0 H0 (gset Γ i (.pu d)) (σ.set i (some v)) G H := by
  rw [gset_eq]
  refine ⟨by rw [List.length_set, List.length_set]; exact F.len, F.e, fun j s h => ?_, fun a b p s t h1 h2 h3 h4 h5 h6 => ?_⟩
  · by_cases hj : i = j
    · subst hj
      have hl : i < Γ.length := by
        have := (List.getElem?_eq_some_iff.mp h).1
        rw [List.length_set] at this
        exact this
      rw [List.getElem?_set_self hl] at h
      cases h
      exact ⟨v, by rw [List.getElem?_set_self (by rw [F.len]; exact hl)], r⟩
    · rw [List.getElem?_set_ne hj] at h ⊢
      exact F.at_ j s h
  · have ha : a ≠ i := fun z => by
      subst z
      have hl : a < Γ.length := by
        have := (List.getElem?_eq_some_iff.mp h1).1
        rw [List.length_set] at this
        exact this
      rw [List.getElem?_set_self hl] at h1
      cases h1
      exact h2
    have hb : b ≠ i := fun z => by
      subst z
      have hl : b < Γ.length := by
        have := (List.getElem?_eq_some_iff.mp h3).1
        rw [List.length_set] at this
        exact this
      rw [List.getElem?_set_self hl] at h3
      cases h3
      exact h4
    rw [List.getElem?_set_ne (Ne.symm ha)] at h1 h5
    rw [List.getElem?_set_ne (Ne.symm hb)] at h3 h6
    exact F.dj a b p s t h1 h2 h3 h4 h5 h6
theorem OwnAt.upd {K : PySem.W.Frag} {H0 G H : Hp} {p q : Addr} {d : D} {o u : HO} (h : OwnAt K H0 G H q d) (n : q ≠ p) (hp : H p = some u) (hu : MutO u) : OwnAt K H0 G (upd H p o) q d := by
  cases d with
  | lst ds => obtain ⟨xs, h1, h2⟩ := h; exact ⟨xs, by rw [upd_ne n]; exact h1, h2⟩
  | dct ks => obtain ⟨xs, h1, h2⟩ := h; exact ⟨xs, by rw [upd_ne n]; exact h1, h2⟩
  | ins C fs =>
    obtain ⟨dx, fvs, h1, h2, h3⟩ := h
    have nd : dx ≠ p := fun z => by
      subst z
      rw [hp] at h2
      cases h2
      exact hu
    exact ⟨dx, fvs, by rw [upd_ne n]; exact h1, by rw [upd_ne nd]; exact h2, h3⟩
  | _ => exact h.elim
theorem tab_upd {p P : Addr} {q : PySem.Str} {o u : HO} (t : LamX.TabS H P q) (hp : H p = some u) (hu : MutO u) : LamX.TabS (L2.upd H p o) P q := by
  obtain ⟨ps, h1, h2, h3⟩ := t
  have ne : ∀ {a : Addr} {v : HO}, H a = some v → ¬ MutO v → a ≠ p := fun {a v} e n z => by
    rw [z, hp] at e
    cases e
    exact n hu
  refine ⟨ps, by rw [upd_ne (ne h1 fun z => z)]; exact h1, h2, fun pos cv hc => ?_⟩
  obtain ⟨c, e1, e2⟩ := h3 pos cv hc
  exact ⟨c, e1, by rw [upd_ne (ne e2 fun z => z)]; exact e2⟩
theorem SlOk.upd {p : Addr} {o u : HO} {ov : Option (Option V)} {s : Sl} (h : SlOk K H0 G H ov s) (n : s.owns → ov ≠ some (some (.ref p))) (hp : H p = some u) (hu : MutO u) : SlOk K H0 G (L2.upd H p o) ov s := by
  cases s with
  | un => trivial
  | pu d => exact h
  | ow d =>
    obtain ⟨q, e, g, h0, r⟩ := h
    have nq : q ≠ p := fun z => n trivial (by rw [e, z])
    exact ⟨q, e, g, h0, r.upd nq hp hu⟩
  | lk q v d =>
    obtain ⟨e, g, h0, hq, r⟩ := h
    have nq : q ≠ p := fun z => n trivial (by rw [e, z])
    exact ⟨e, g, h0, by rw [upd_ne nq]; exact hq, r.upd nq hp hu⟩
  | pw q d =>
    obtain ⟨e, g, h0, r⟩ := h
    have nq : q ≠ p := fun z => n trivial (by rw [e, z])
    exact ⟨e, g, h0, r.upd nq hp hu⟩
  | kp v c w Gx =>
    obtain ⟨e, h1, h2, h3⟩ := h
    have nc : c ≠ p := fun z => by
      rw [z, hp] at h1
      cases h1
      exact h2 hu
    exact ⟨e, by rw [upd_ne nc]; exact h1, h2, h3⟩
  | xv a cls dA fs =>
    obtain ⟨e, h1⟩ := h
    refine ⟨e, ?_⟩
    rcases h1 with h1 | ⟨q, fvs, h1, h2, h3⟩
    · exact .inl h1
    · refine .inr ⟨q, fvs, h1, ?_, h3⟩
      rw [upd_ne (fun z => by
        rw [z, hp] at h2
        cases h2
        exact hu)]
      exact h2
  | pf d l Gx =>
    obtain ⟨h0, h1, h2⟩ := h
    refine ⟨h0, fun q hq => ⟨?_, (h1 q hq).2⟩, h2⟩
    rw [upd_ne (fun z => by
      have e := (h1 q hq).1
      rw [z, hp] at e
      exact (h1 q hq).2.1 (Option.some.inj e ▸ hu))]
    exact (h1 q hq).1
theorem gset_gat {Γ : Ga} {i : Nat} {s t : Sl} (h : Γ[i]? = some s) : (gset Γ i t)[i]? = some t := by
  rw [gset_eq]
  exact List.getElem?_set_self (List.getElem?_eq_some_iff.mp h).1
/-- an own object is changed -/
theorem Fr.mut (F : Fr K G0 H0 Γ σ G H) {i : Nat} {sl : Sl} {d d' : D} {p : Addr} {o u : HO} (hs : Γ[i]? = some sl) (ht : sl.og = some d) (e : σ[i]? = some (some (.ref p))) (g : G p = none) (h0 : H0 p = none) (hp : H p = some u) (hu : MutO u)
    (new : OwnAt K H0 G (upd H p o) p d') : Fr K G0 H0 (gset Γ i (sl.op d')) σ G (upd H p o) := by
  have tow : sl.owns := by
    cases sl <;> first | trivial | cases ht
  have len := F.len
  refine ⟨by rw [gset_eq, List.length_set]; exact len, ⟨⟨fun a x q n => ?_, fun a x q => ?_, fun t q hq => tab_upd (F.sub.tb q hq) hp hu⟩, F.e.g, fun a h ⟨x, q⟩ => F.e.nw a h ⟨x, q⟩, ⟨fun a x q => ?_, F.sub.nt, fun q hq => tab_upd (F.sub.tb q hq) hp hu⟩⟩, fun j s h => ?_, fun a b q s t h1 h2 h3 h4 h5 h6 => ?_⟩
  · rw [upd_ne (ne_of_none q h0)]
    exact F.e.h.k _ _ q n
  · rw [upd_ne (ne_of_none q h0)]
    exact F.e.h.t _ _ q
  · rw [upd_ne (ne_of_none q g)]
    exact F.sub.m a x q
  · by_cases hj : i = j
    · subst hj
      rw [gset_gat hs] at h
      cases h
      cases sl with
      | pw q d2 =>
        have q2 := F.at_ i _ hs
        obtain ⟨e2, _⟩ := q2
        rw [e] at e2
        cases e2
        exact ⟨e, g, h0, new⟩
      | _ => exact ⟨p, e, g, h0, new⟩
    · rw [gset_eq, List.getElem?_set_ne hj] at h
      refine (F.at_ j s h).upd (fun ow z => hj ?_) hp hu
      exact F.dj i j p sl s hs tow h ow e z
  · have f : ∀ (a : Nat) (s : Sl), (gset Γ i (sl.op d'))[a]? = some s → s.owns → ∃ s', Γ[a]? = some s' ∧ s'.owns := fun a s h1 h2 => by
      by_cases ha : i = a
      · subst ha
        exact ⟨_, hs, tow⟩
      · rw [gset_eq, List.getElem?_set_ne ha] at h1
        exact ⟨s, h1, h2⟩
    obtain ⟨s', g1, g2⟩ := f a s h1 h2
    obtain ⟨t', g3, g4⟩ := f b t h3 h4
    exact F.dj a b q s' t' g1 g2 g3 g4 h5 h6
/-- a new own object -/
theorem Fr.own (F : Fr K G0 H0 Γ σ G H) {d : D} {p : Addr} {o : HO} (i : Nat) (hn : H p = none) (new : OwnAt K H0 G (upd H p o) p d) : Fr K G0 H0 (gset Γ i (.ow d)) (σ.set i (some (.ref p))) G (upd H p o) := by
  have hg := F.sub.none hn
  have h0 : H0 p = none := F.e.h.free hn
  have so : ∀ (j : Nat) (s : Sl), Γ[j]? = some s → SlOk K H0 G (L2.upd H p o) (σ[j]?) s := fun j s h => by
    have q := F.at_ j s h
    cases s with
    | un => trivial
    | pu d => exact q
    | ow e =>
      obtain ⟨a, e1, g1, h1, r⟩ := q
      refine ⟨a, e1, g1, h1, ?_⟩
      exact r.up (Ext.beside F.sub hn)
    | lk a v e =>
      obtain ⟨e1, g1, h1, q1, r⟩ := q
      refine ⟨e1, g1, h1, by rw [upd_ne (ne_of_none q1 hn)]; exact q1, ?_⟩
      exact r.up (Ext.beside F.sub hn)
    | pw a e =>
      obtain ⟨e1, g1, h1, r⟩ := q
      refine ⟨e1, g1, h1, ?_⟩
      exact r.up (Ext.beside F.sub hn)
    | kp v c w Gx => exact SlOk.up (G := G) (s := .kp v c w Gx) q (Ext.beside F.sub hn)
    | xv a cls dA fs => exact SlOk.up (G := G) (s := .xv a cls dA fs) q (Ext.beside F.sub hn)
    | pf d l Gx => exact SlOk.up (G := G) (s := .pf d l Gx) q (Ext.beside F.sub hn)
  have apart : ∀ (j : Nat) (s : Sl), Γ[j]? = some s → s.owns → σ[j]? ≠ some (some (.ref p)) := fun j s h ow z => by
    have q := F.at_ j s h
    cases s with
    | un => exact ow
    | pu d => exact ow
    | kp v c w Gx => exact ow
    | xv a cls dA fs => exact ow
    | pf d l Gx => exact ow
    | ow e =>
      obtain ⟨a, e1, g1, h1, r⟩ := q
      rw [e1] at z
      cases z
      obtain ⟨_, y⟩ := r.there
      rw [hn] at y
      cases y
    | lk a v e =>
      obtain ⟨e1, g1, h1, q1, r⟩ := q
      rw [e1] at z
      cases z
      rw [hn] at q1
      cases q1
    | pw a e =>
      obtain ⟨e1, g1, h1, r⟩ := q
      rw [e1] at z
      cases z
      obtain ⟨_, y⟩ := r.there
      rw [hn] at y
      cases y
  refine ⟨by rw [gset_eq, List.length_set, List.length_set]; exact F.len, ⟨F.e.h.trans (.of (same_upd hn)), F.e.g, F.e.nw, F.sub.up (same_upd hn)⟩, fun j s h => ?_, fun a b q s t h1 h2 h3 h4 h5 h6 => ?_⟩
  · rw [gset_eq] at h
    by_cases hj : i = j
    · subst hj
      have hl : i < Γ.length := by
        have := (List.getElem?_eq_some_iff.mp h).1
        rw [List.length_set] at this
        exact this
      rw [List.getElem?_set_self hl] at h
      cases h
      exact ⟨p, by rw [List.getElem?_set_self (by rw [F.len]; exact hl)], hg, h0, new⟩
    · rw [List.getElem?_set_ne hj] at h ⊢
      exact so j s h
  · rw [gset_eq] at h1 h3
    by_cases ha : i = a
    · by_cases hb : i = b
      · exact ha.symm.trans hb
      · exfalso
        subst ha
        rw [List.getElem?_set_ne hb] at h3 h6
        have hl : i < σ.length := by
          have := (List.getElem?_eq_some_iff.mp h5).1
          rw [List.length_set] at this
          exact this
        rw [List.getElem?_set_self hl] at h5
        cases h5
        exact apart b t h3 h4 h6
    · by_cases hb : i = b
      · exfalso
        subst hb
        rw [List.getElem?_set_ne ha] at h1 h5
        have hl : i < σ.length := by
          have := (List.getElem?_eq_some_iff.mp h6).1
          rw [List.length_set] at this
          exact this
        rw [List.getElem?_set_self hl] at h6
        cases h6
        exact apart a s h1 h2 h5
      · rw [List.getElem?_set_ne ha] at h1 h5
        rw [List.getElem?_set_ne hb] at h3 h6
        exact F.dj a b q s t h1 h2 h3 h4 h5 h6
end
section
variable {X : Cx} {W : WX} {e a b c : Expr} {es : List Expr} {t ta tb tc : TP} {tl : TL} {tt tu : TB} {pos : Pos} {st : Stmt} {rest body els : List Stmt} {s u v : TSp}
def tsNext : TSp := fun P Γ => P.nx Γ
def tsSeq (s u : TSp) : TSp := fun P Γ => s { P with nx := u P } Γ
theorem ss_nil : PSS X W [] tsNext := ⟨_, pss_nil, fun G0 H0 Γ σ G H P E F ht ok => ok.nx Γ σ G H ht F⟩
theorem ss_cons (h1 : PS1 X W st s) (h2 : PSS X W rest u) : PSS X W (st :: rest) (tsSeq s u) := by
  obtain ⟨t1, p1, r1⟩ := h1.ex
  obtain ⟨t2, p2, r2⟩ := h2.ex
  refine ⟨_, pss_cons p1 p2, fun G0 H0 Γ σ G H P E F ht ok => ?_⟩
  exact r1 G0 H0 Γ σ G H { P with nx := u P } { E with nx := t2 E } F ht (ok.withNx fun Γ' σ' G' H' n F' => r2 G0 H0 Γ' σ' G' H' P E F' n ok)
theorem ss_one (h1 : PS1 X W st s) : PSS X W [st] s := by
  obtain ⟨t1, p1, r1⟩ := h1.ex
  exact ⟨_, pss_one p1, r1⟩
def tsCont : TSp := fun P Γ => P.ct Γ
theorem s_cont : PS1 X W (.Continue pos) tsCont := ⟨_, ps_continue, fun G0 H0 Γ σ G H P E F ht ok => ok.ct Γ σ G H ht F⟩
def tsDrop (t : TP) : TSp := fun P Γ => t Γ (fun _ => P.nx Γ) (fun x => P.xx x Γ)
theorem s_expr (h : PU X W e t) (hs : swapsWith e none pos.line X.env = pure false := by rfl) : PS1 X W (.Expr e pos) (tsDrop t) := by
  obtain ⟨ea, pa, ra⟩ := h.ex
  refine ⟨_, ps_expr pa hs, fun G0 H0 Γ σ G H P E F ht ok => ?_⟩
  exact ra G0 H0 Γ σ G H _ _ _ F ht (fun d v G' H' k x n => ok.nx Γ σ G' H' k (F.up x)) (ok.x F)
def tsRet (t : TP) : TSp := fun P Γ => t Γ (fun d => P.rt d Γ) (fun x => P.xx x Γ)
theorem s_ret (h : PP X W e t) : PS1 X W (.Return (some e) pos) (tsRet t) := by
  obtain ⟨ea, pa, ra⟩ := h.ex
  refine ⟨_, ps_ret pa, fun G0 H0 Γ σ G H P E F ht ok => ?_⟩
  exact ra G0 H0 Γ σ G H _ _ _ F ht (fun d v G' H' k x n => ok.rt d v Γ σ G' H' k (F.up x) n) (ok.x F)
/-- an own list (dict) is handed back -/
def tsRetOwn (i : Nat) : TSp := fun P Γ => match gat Γ i with
  | .ow (.lst ds) => P.rt (.lst ds) (gset Γ i .un)
  | .ow (.dct ds) => P.rt (.dct ds) (gset Γ i .un)
  | .pu d => P.rt d Γ
  | _ => False
theorem Ext.thaw {G H : Hp} (s : Sub G H) {G0 H0 : Hp} {p : Addr} {o : HO} (e : Ext G0 H0 G H) (h0 : H0 p = none) (g : G p = none) (hp : H p = some o) (n : NT o := by intro _ z; cases z) : Ext G0 H0 (upd G p o) H := by
  refine ⟨e.h, e.g.trans (same_upd g), fun a q ⟨u, z⟩ => ?_, ⟨fun a u q => ?_, fun a u q => ?_, s.tb⟩⟩
  · rw [upd_ne (ne_of_none z h0)]
    exact e.nw a q ⟨u, z⟩
  · by_cases z : a = p
    · subst z
      rw [upd_same] at q
      cases q
      exact .inl hp
    · rw [upd_ne z] at q
      exact s.m a u q
  · by_cases z : a = p
    · subst z
      rw [upd_same] at q
      cases q
      exact n
    · rw [upd_ne z] at q
      exact s.nt a u q
/-- an own object is pure from now on -/
theorem Fr.thaw {K : PySem.W.Frag} {G0 H0 G H : Hp} {Γ : Ga} {σ : L2.St} (F : Fr K G0 H0 Γ σ G H) {i : Nat} {d : D} {p : Addr} {o : HO} (hs : Γ[i]? = some (.ow d)) (e : σ[i]? = some (some (.ref p))) (g : G p = none) (h0 : H0 p = none) (hp : H p = some o) (ho : MutO o) : Fr K G0 H0 (gset Γ i .un) σ (upd G p o) H := by
  have other : ∀ (j : Nat) (s : Sl), (gset Γ i .un)[j]? = some s → s ≠ .un → i ≠ j ∧ Γ[j]? = some s := fun j s h n => by
    rw [gset_eq] at h
    by_cases hj : i = j
    · subst hj
      rw [List.getElem?_set_self (List.getElem?_eq_some_iff.mp hs).1] at h
      exact absurd (Option.some.inj h).symm n
    · rw [List.getElem?_set_ne hj] at h
      exact ⟨hj, h⟩
  refine ⟨by rw [gset_eq, List.length_set]; exact F.len, Ext.thaw F.sub F.e h0 g hp ho.nt, fun j s h => ?_, fun a b q s t h1 h2 h3 h4 h5 h6 => ?_⟩
  · by_cases n : s = .un
    · subst n
      trivial
    · obtain ⟨hj, h⟩ := other j s h n
      have q := F.at_ j s h
      have ne : s.owns → ∀ r, σ[j]? = some (some (.ref r)) → r ≠ p := fun ow r e2 z => by
        subst z
        exact hj (F.dj i j r (.ow d) s hs trivial h ow e e2)
      cases s with
      | un => trivial
      | pu d => obtain ⟨v, e1, r⟩ := q; exact ⟨v, e1, r.up (same_upd g)⟩
      | kp v c w Gx => obtain ⟨q1, q2, q3, q4, q5⟩ := q; exact ⟨q1, q2, q3, q4, q5.trans (same_upd g)⟩
      | xv a cls dA fs =>
        obtain ⟨e1, q⟩ := q
        refine ⟨e1, ?_⟩
        rcases q with q | ⟨r, fvs, q1, q2, q3⟩
        · exact .inl q
        · exact .inr ⟨r, fvs, q1, q2, q3.up (same_upd g)⟩
      | pf d l Gx =>
        obtain ⟨⟨v, e1, r⟩, q1, q2⟩ := q
        exact ⟨⟨v, e1, r.up (same_upd g)⟩, q1, q2.trans (same_upd g)⟩
      | ow d2 =>
        obtain ⟨r, e1, g1, h1, o1⟩ := q
        have nr := ne trivial r e1
        refine ⟨r, e1, by rw [upd_ne nr]; exact g1, h1, ?_⟩
        cases d2 with
        | lst ds => obtain ⟨xs, a1, a2⟩ := o1; exact ⟨xs, a1, a2.up (same_upd g)⟩
        | dct ks => obtain ⟨xs, a1, a2⟩ := o1; exact ⟨xs, a1, a2.up (same_upd g)⟩
        | ins C fs =>
          obtain ⟨dx, fvs, a1, a2, a3, a4, a5⟩ := o1
          have nd : dx ≠ p := fun z => by
            subst z
            rw [hp] at a2
            cases a2
            exact ho
          exact ⟨dx, fvs, a1, a2, by rw [upd_ne nd]; exact a3, a4, a5.up (same_upd g)⟩
        | _ => exact o1.elim
      | lk r u d2 =>
        obtain ⟨e1, g1, h1, hq, o1⟩ := q
        have nr := ne trivial r e1
        refine ⟨e1, by rw [upd_ne nr]; exact g1, h1, hq, ?_⟩
        cases d2 with
        | lst ds => obtain ⟨xs, a1, a2⟩ := o1; exact ⟨xs, a1, a2.up (same_upd g)⟩
        | dct ks => obtain ⟨xs, a1, a2⟩ := o1; exact ⟨xs, a1, a2.up (same_upd g)⟩
        | ins C fs =>
          obtain ⟨dx, fvs, a1, a2, a3, a4, a5⟩ := o1
          have nd : dx ≠ p := fun z => by
            subst z
            rw [hp] at a2
            cases a2
            exact ho
          exact ⟨dx, fvs, a1, a2, by rw [upd_ne nd]; exact a3, a4, a5.up (same_upd g)⟩
        | _ => exact o1.elim
      | pw r d2 =>
        obtain ⟨e1, g1, h1, o1⟩ := q
        have nr := ne trivial r e1
        refine ⟨e1, by rw [upd_ne nr]; exact g1, h1, ?_⟩
        cases d2 with
        | lst ds => obtain ⟨xs, a1, a2⟩ := o1; exact ⟨xs, a1, a2.up (same_upd g)⟩
        | dct ks => obtain ⟨xs, a1, a2⟩ := o1; exact ⟨xs, a1, a2.up (same_upd g)⟩
        | ins C fs =>
          obtain ⟨dx, fvs, a1, a2, a3, a4, a5⟩ := o1
          have nd : dx ≠ p := fun z => by
            subst z
            rw [hp] at a2
            cases a2
            exact ho
          exact ⟨dx, fvs, a1, a2, by rw [upd_ne nd]; exact a3, a4, a5.up (same_upd g)⟩
        | _ => exact o1.elim
  · obtain ⟨_, k1⟩ := other a s h1 (fun z => by subst z; exact h2)
    obtain ⟨_, k3⟩ := other b t h3 (fun z => by subst z; exact h4)
    exact F.dj a b q s t k1 h2 k3 h4 h5 h6
def tsIf (c : TB) (s u : TSp) : TSp := fun P Γ => c Γ (fun b => if b = true then s P Γ else u P Γ) (fun x => P.xx x Γ)
theorem s_if (hc : PB X W c tt) (ha : PSS X W body s) (hb : PSS X W els u) : PS1 X W (.If c body els pos) (tsIf tt s u) := by
  obtain ⟨ec, pc, rc⟩ := hc.ex
  obtain ⟨ea, pa, ra⟩ := ha.ex
  obtain ⟨eb, pb, rb⟩ := hb.ex
  refine ⟨_, ps_if pc pa pb, fun G0 H0 Γ σ G H P E F ht ok => ?_⟩
  refine rc G0 H0 Γ σ G H _ _ _ F ht (fun c G1 H1 k1 x1 => ?_) (ok.x F)
  cases c with
  | true => exact ra G0 H0 Γ σ G1 H1 P E (F.up x1) k1 ok
  | false => exact rb G0 H0 Γ σ G1 H1 P E (F.up x1) k1 ok
def tsSet (i : Nat) (t : TP) : TSp := fun P Γ => t Γ (fun d => P.nx (gset Γ i (.pu d))) (fun x => P.xx x Γ)
theorem rd_set {te : TE} (i : Nat) (h : RdP X.K W te t) : RdS X.K W (tAsg te (gName i)) (tsSet i t) := by
  intro G0 H0 Γ σ G H P E F ht ok
  exact h G0 H0 Γ σ G H _ _ _ F ht (fun d v G' H' k x n => ok.nx _ _ G' H' k ((F.up x).set i n)) (ok.x F)
theorem s_set (i : Nat) {x : PySem.Str} {p2 : Pos} (h : PP X W e t) (nd : X.N.Nodup) (hi : X.N[i]? = some x := by rfl) (hx : Loc X.env.scope x := by first | exact Or.inl rfl | exact Or.inr rfl)
    (hf : X.fn x = true ∨ X.env.scope.names.lookup x = some .local := by first | exact .inl rfl | exact .inr rfl) (hs : swapsWith e (some (.Name x p2)) pos.line X.env = pure false := by rfl) : PS1 X W (.Assign [.Name x p2] e pos) (tsSet i t) := by
  obtain ⟨ea, pa, ra⟩ := h.ex
  exact ⟨_, ps_set nd hi hx pa hs hf, rd_set i ra⟩
/-- a new list (dict) that is the frame's own from now on -/
def RdNew (K : PySem.W.Frag) (W : WX) (te : TE) (t : TP) : Prop := ∀ (G0 H0 : Hp) (Γ : Ga) (σ : L2.St) (G H : Hp) (k : KD) (kx : KX) (Q : VK), Fr K G0 H0 Γ σ G H → t Γ k kx →
  (∀ d G' H' p o, k d → Ext G H G' H' → H' p = none → OwnAt K H0 G' (upd H' p o) p d → Q (.ref p) (upd H' p o)) → XOk K W G H σ kx → te σ H Q
structure PN (X : Cx) (W : WX) (e : Expr) (t : TP) : Prop where
  ex : ∃ te, PE X e te ∧ RdNew X.K W te t
def tsOwn (i : Nat) (t : TP) : TSp := fun P Γ => t Γ (fun d => P.nx (gset Γ i (.ow d))) (fun x => P.xx x Γ)
theorem rd_own {te : TE} (i : Nat) (h : RdNew X.K W te t) : RdS X.K W (tAsg te (gName i)) (tsOwn i t) := by
  intro G0 H0 Γ σ G H P E F ht ok
  exact h G0 H0 Γ σ G H _ _ _ F ht (fun d G' H' p o k x hn r => ok.nx _ _ G' _ k ((F.up x).own i hn r)) (ok.x F)
theorem s_own (i : Nat) {x : PySem.Str} {p2 : Pos} (h : PN X W e t) (nd : X.N.Nodup) (hi : X.N[i]? = some x := by rfl) (hx : Loc X.env.scope x := by first | exact Or.inl rfl | exact Or.inr rfl)
    (hf : X.fn x = true ∨ X.env.scope.names.lookup x = some .local := by first | exact .inl rfl | exact .inr rfl) (hs : swapsWith e (some (.Name x p2)) pos.line X.env = pure false := by rfl) : PS1 X W (.Assign [.Name x p2] e pos) (tsOwn i t) := by
  obtain ⟨ea, pa, ra⟩ := h.ex
  exact ⟨_, ps_set nd hi hx pa hs hf, rd_own i ra⟩
theorem n_lst (h : PL' X W es tl) : PN X W (.List es pos) (tpLst tl) := by
  obtain ⟨ea, pa, ra⟩ := h.ex
  refine ⟨_, pe_lst pa, fun G0 H0 Γ σ G H k kx Q F ht hk hx => ?_⟩
  refine ra G0 H0 Γ σ G H _ kx _ F ht (fun ds vs G1 H1 k1 x1 n1 => ?_) hx
  refine ⟨by rw [n1.length]; exact sz5 k1.1, fun p hp => ?_⟩
  exact hk _ G1 H1 p _ k1.2 x1 hp ⟨vs, upd_same, n1⟩
/-- an own list, what is done with it -/
def onOL (Γ : Ga) (i : Nat) (k : List D → Prop) : Prop := match (gat Γ i).og with
  | some (.lst ds) => k ds
  | _ => False
def oput (Γ : Ga) (i : Nat) (d : D) : Ga := gset Γ i ((gat Γ i).op d)
def tsApp (i : Nat) (t : TP) : TSp := fun P Γ => onOL Γ i fun ds => t Γ (fun d => ds.length < 100000 ∧ P.nx (oput Γ i (.lst (ds ++ [d])))) (fun x => P.xx x Γ)
theorem sz5' {n : Nat} (h : n < 100000) : n < sizeLine := Nat.lt_of_lt_of_le h (by decide)
theorem onOL_elim {Γ : Ga} {i : Nat} {k : List D → Prop} (h : onOL Γ i k) : ∃ ds, (gat Γ i).og = some (.lst ds) ∧ k ds := by
  unfold onOL at h
  cases e : (gat Γ i).og with
  | none => simp only [e] at h
  | some d =>
    cases d with
    | lst ds =>
      simp only [e] at h
      exact ⟨ds, rfl, h⟩
    | _ => simp only [e] at h
theorem own_at {K : PySem.W.Frag} {G0 H0 G H : Hp} {Γ : Ga} {σ : L2.St} (F : Fr K G0 H0 Γ σ G H) {i : Nat} {d : D} (h : (gat Γ i).og = some d) : Γ[i]? = some (gat Γ i) ∧ ∃ p, σ[i]? = some (some (.ref p)) ∧ G p = none ∧ H0 p = none ∧ OwnAt K H0 G H p d := by
  cases e : gat Γ i with
  | ow d2 =>
    rw [e] at h
    cases h
    have k := gat_get Γ i _ e (by simp)
    exact ⟨k, F.at_ i _ k⟩
  | pw p d2 =>
    rw [e] at h
    cases h
    have k := gat_get Γ i _ e (by simp)
    exact ⟨k, p, F.at_ i _ k⟩
  | _ =>
    rw [e] at h
    cases h
theorem rd_append {te : TE} (i : Nat) (ra : RdP X.K W te t) : RdS X.K W (tDrop (tBM X.K "list" rAppend (tVar i) (tCons te tNil))) (tsApp i t) := by
  intro G0 H0 Γ σ G H P E F ht ok
  obtain ⟨ds, hs, ht⟩ := onOL_elim ht
  obtain ⟨key, p, e1, g1, h01, xs0, q1, q2⟩ := own_at F hs
  refine ⟨.ref p, e1, .inl ⟨rfl, xs0, SqL.of q1⟩, ?_⟩
  refine ra G0 H0 Γ σ G H _ _ _ F ht (fun d v G' H' k x n => ?_) (ok.x F)
  have F1 := F.up x
  obtain ⟨_, p', e2, g2, h02, xs, q3, q4⟩ := own_at F1 hs
  rw [e1] at e2
  cases e2
  refine ⟨p, xs, v, rfl, rfl, q3, by rw [q4.length]; exact sz5' k.1, ?_⟩
  exact ok.nx _ _ _ _ k.2 (F1.mut key hs e1 g2 h02 q3 trivial ⟨_, upd_same, q4.append (.cons n .nil)⟩)
theorem s_append (i : Nat) {call : Expr} (h : PP X W e t) (hp : ∀ ea, PE X e ea → PE X call (tBM X.K "list" rAppend (tVar i) (tCons ea tNil))) (hs : swapsWith call none pos.line X.env = pure false := by rfl) : PS1 X W (.Expr call pos) (tsApp i t) := by
  obtain ⟨ea, pa, ra⟩ := h.ex
  exact ⟨_, ps_expr (hp _ pa) hs, rd_append i ra⟩
theorem Ext.back {G0 H0 G H G' H' : Hp} (a : Ext G0 H0 G H) (b : Ext G H0 G' H') : Ext G0 H0 G' H' :=
  ⟨b.h, a.g.trans b.g, fun x h q => b.nw x (a.nw x h q) q, b.sub⟩
theorem Fr.rebase {K : PySem.W.Frag} {G0 H0 G H : Hp} {Γ : Ga} {σ : L2.St} (F : Fr K G0 H0 Γ σ G H) : Fr K G H0 Γ σ G H :=
  ⟨F.len, ⟨F.e.h, Same.refl G, fun _ h _ => h, F.sub⟩, F.at_, F.dj⟩
theorem Fr.back {K : PySem.W.Frag} {G0 H0 G H G' H' : Hp} {Γ : Ga} {σ : L2.St} (a : Ext G0 H0 G H) (F : Fr K G H0 Γ σ G' H') : Fr K G0 H0 Γ σ G' H' :=
  ⟨F.len, a.back F.e, F.at_, F.dj⟩
theorem EOk.rebase {K : PySem.W.Frag} {W : WX} {G0 H0 G H : Hp} {P : PEn} {E : Ends} (ok : EOk K W G0 H0 P E) (a : Ext G0 H0 G H) : EOk K W G H0 P E :=
  ⟨fun Γ σ G' H' p F => ok.nx Γ σ G' H' p (F.back a), fun Γ σ G' H' p F => ok.bk Γ σ G' H' p (F.back a), fun Γ σ G' H' p F => ok.ct Γ σ G' H' p (F.back a), fun d v Γ σ G' H' p F n => ok.rt d v Γ σ G' H' p (F.back a) n,
    fun x cls dA Γ σ G' H' p F n => ok.xx x cls dA Γ σ G' H' p (F.back a) n⟩
/-- J yields the items ds as long as ok holds -/
structure Wk (K : PySem.W.Frag) (J : It) (ds : List D) (ok : Hp → Hp → Prop) : Prop where
  go : ∀ i G H, i < ds.length → ok G H → Sub G H → J.go i H
  yl : ∀ i G H x H', i < ds.length → ok G H → Sub G H → J.yld i H x H' → ∃ d G', ds[i]? = some d ∧ Ext G H G' H' ∧ Den K G' x d
  st : ∀ G H, ok G H → Sub G H → J.stop ds.length H
def RdI (K : PySem.W.Frag) (W : WX) (wi : TI) (t : TL) : Prop := ∀ (G0 H0 : Hp) (Γ : Ga) (σ : L2.St) (G H : Hp) (k : List D → Prop) (kx : KX) (R : It → Hp → Prop), Fr K G0 H0 Γ σ G H → t Γ k kx →
  (∀ ds J G' H', k ds → Ext G H G' H' → Wk K J ds (fun G2 _ => Same G' G2) → R J H') → XOk K W G H σ kx → wi σ H R
structure PIt (X : Cx) (W : WX) (tg iter : Expr) (t : TL) : Prop where
  ex : ∃ wi, PI X tg iter wi ∧ RdI X.K W wi t
abbrev TGp := D → Ga → (Ga → Prop) → Prop
def RdG (K : PySem.W.Frag) (is : List Nat) (g : TG) (t : TGp) : Prop := ∀ (G0 H0 : Hp) (Γ : Ga) (σ : L2.St) (G H : Hp) (d : D) (v : V) (k : Ga → Prop) (Q : L2.St → Hp → Prop), Fr K G0 H0 Γ σ G H → Den K G v d → t d Γ k →
  (∀ Γ' σ', k Γ' → Fr K G0 H0 Γ' σ' G H → wipe σ' is = wipe σ is → Q σ' H) → g v σ H Q
/-- is: the slots that the target stores -/
structure PGt (X : Cx) (tg : Expr) (is : List Nat) (t : TGp) : Prop where
  ex : ∃ g, PG X tg g ∧ RdG X.K is g t
theorem wipe_comm (σ : L2.St) (i : Nat) (v : Option V) : ∀ vs : List Nat, i ∈ vs → wipe (σ.set i v) vs = wipe σ vs
  | j :: r, h => by
    show (wipe (σ.set i v) r).set j none = (wipe σ r).set j none
    by_cases hr : i ∈ r
    · rw [wipe_comm σ i v r hr]
    · have e : i = j := by
        rcases List.mem_cons.mp h with h | h
        · exact h
        · exact absurd h hr
      subst e
      have q : ∀ r : List Nat, i ∉ r → wipe (σ.set i v) r = (wipe σ r).set i v := fun r => by
        induction r with
        | nil => intro _; rfl
        | cons k r ih =>
          intro h
          show (wipe (σ.set i v) r).set k none = ((wipe σ r).set k none).set i v
          rw [ih (fun z => h (List.mem_cons_of_mem _ z)), List.set_comm _ _ (fun z => h (by rw [z]; exact List.mem_cons_self))]
      rw [q r hr, List.set_set]
def tgName (i : Nat) : TGp := fun d Γ k => k (gset Γ i (.pu d))
theorem g_name (i : Nat) {x : PySem.Str} (nd : X.N.Nodup) (hi : X.N[i]? = some x := by rfl) (hx : Loc X.env.scope x := by first | exact Or.inl rfl | exact Or.inr rfl)
    (hf : X.fn x = true ∨ X.env.scope.names.lookup x = some .local := by first | exact .inl rfl | exact .inr rfl) : PGt X (.Name x pos) [i] (tgName i) :=
  ⟨_, pg_name nd hi hx hf, fun G0 H0 Γ σ G H d v k Q F n ht hk => hk _ _ ht (F.set i n) (wipe_comm σ i _ [i] List.mem_cons_self)⟩
def forW (g : TGp) (b : TSp) (P : PEn) : List D → Ga → Prop
  | [], Γ => P.nx Γ
  | d :: r, Γ => g d Γ fun Γ1 => b { P with nx := forW g b P r, ct := forW g b P r, bk := P.nx } Γ1
def tsFor (ti : TL) (g : TGp) (b : TSp) : TSp := fun P Γ => ti Γ (fun ds => forW g b P ds Γ) (fun x => P.xx x Γ)
theorem rd_for {wi : TI} {g : TG} {tb : TS} {ti : TL} {gp : TGp} {bp : TSp} {is : List Nat} (hi : RdI X.K W wi ti) (hg : RdG X.K is g gp) (hb : RdS X.K W tb bp) : RdS X.K W (tFor wi g tb) (tsFor ti gp bp) := by
  intro G0 H0 Γ σ G H P E F ht ok
  refine hi G0 H0 Γ σ G H _ _ _ F ht (fun ds J G1 H1 k x w => ?_) (ok.x F)
  refine ⟨fun i m σ' H' => ∃ Γ' G', m = ds.length - i ∧ i ≤ ds.length ∧ Fr X.K G0 H0 Γ' σ' G' H' ∧ Same G1 G' ∧ forW gp bp P (ds.drop i) Γ', ⟨ds.length, Γ, G1, by simp, Nat.zero_le _, F.up x, Same.refl _, k⟩, ?_⟩
  rintro i m σ2 H2 ⟨Γ2, G2, rfl, hi, F2, s2, k2⟩
  by_cases hlt : i < ds.length
  · refine .inr ⟨w.go i G2 H2 hlt s2 F2.sub, fun σ' H' => ∃ Γ' G', Fr X.K G0 H0 Γ' σ' G' H' ∧ Same G1 G' ∧ forW gp bp P (ds.drop (i + 1)) Γ', fun σ' H' ⟨Γ', G', a, b, c⟩ => ⟨ds.length - (i + 1), by omega, Γ', G', rfl, hlt, a, b, c⟩, fun v H3 y => ?_⟩
    obtain ⟨d, G3, hd, x3, n3⟩ := w.yl i G2 H2 v H3 hlt s2 F2.sub y
    have F3 := F2.up x3
    have e : ds.drop i = d :: ds.drop (i + 1) := by
      rw [List.drop_eq_getElem_cons hlt]
      congr 1
      have := List.getElem?_eq_getElem hlt
      rw [hd] at this
      exact (Option.some.inj this).symm
    rw [e] at k2
    refine hg G0 H0 Γ2 σ2 G3 H3 d v _ _ F3 n3 k2 fun Γ4 σ4 k4 F4 _ => ?_
    refine hb G3 H0 Γ4 σ4 G3 H3 _ _ F4.rebase k4 ((ok.rebase F3.e).loop fun Γ5 σ5 G5 H5 n5 F5 => ?_)
    exact ⟨Γ5, G5, F5.back F3.e, (s2.trans x3.g).trans F5.e.g, n5⟩
  · have e : i = ds.length := by omega
    subst e
    refine .inl ⟨w.st G2 H2 s2 F2.sub, ?_⟩
    rw [List.drop_length] at k2
    exact ok.nx _ _ _ _ k2 F2
theorem s_for {tg iter : Expr} {ti : TL} {gp : TGp} {is : List Nat} (hp : PassesOwn (model X.prog X.w) X.A X.env X.xe) (hc : X.calm = true) (hi : PIt X W tg iter ti) (hg : PGt X tg is gp) (hb : PSS X W body s) (hs : ∀ x, foldedSetIterable iter X.env x = pure x := by intro _; rfl) : PS1 X W (.For tg iter body [] pos) (tsFor ti gp s) := by
  obtain ⟨wi, pi, ri⟩ := hi.ex
  obtain ⟨g, pg, rg⟩ := hg.ex
  obtain ⟨tb, pb, rb⟩ := hb.ex
  exact ⟨_, ps_for hp hc pi pg pb (hs := hs), rd_for ri rg rb⟩
/-- the items of a list, a tuple, the signs of a text -/
def items : D → Option (List D)
  | .lst xs => some xs
  | .tup xs => some xs
  | .str s => some (s.map fun c => .str [c])
  | _ => none
def tiLst (t : TP) : TL := fun Γ k kx => t Γ (fun d => match d with | .lst xs => k xs | _ => False) kx
def tiTup (t : TP) : TL := fun Γ k kx => t Γ (fun d => match d with | .tup xs => k xs | _ => False) kx
def tiStr (t : TP) : TL := fun Γ k kx => t Γ (fun d => match d with | .str s => k (s.map fun c => .str [c]) | _ => False) kx
theorem i_lst {tg : Expr} (h : PP X W e t) : PIt X W tg e (tiLst t) := by
  obtain ⟨ea, pa, ra⟩ := h.ex
  refine ⟨_, pi_list pa, fun G0 H0 Γ σ G H k kx R F ht hk hx => ?_⟩
  refine ra G0 H0 Γ σ G H _ kx _ F ht (fun d v G1 H1 k1 x1 n1 => ?_) hx
  cases d with
  | lst xs =>
    cases n1 with
    | @lst a vs _ h1 h2 =>
      refine ⟨a, rfl, ⟨vs, SqL.of (x1.sub.at_ h1 (fun z => z))⟩, hk xs _ G1 H1 k1 x1 ⟨fun i G2 H2 hi s2 sb => ?_, fun i G2 H2 v H3 hi s2 sb y => ?_, fun G2 H2 s2 sb => ?_⟩⟩
      · have q := sb.at_ (s2 _ _ h1) (fun z => z)
        obtain ⟨v, hv, _⟩ := h2.get (List.getElem?_eq_getElem hi)
        exact ⟨vs, v, SqL.of q, hv⟩
      · have q := sb.at_ (s2 _ _ h1) (fun z => z)
        obtain ⟨rfl, y⟩ := y
        obtain ⟨d, hd, n⟩ := h2.gv (y vs (SqL.of q))
        exact ⟨d, G2, hd, Ext.refl sb, n.up s2⟩
      · have q := sb.at_ (s2 _ _ h1) (fun z => z)
        exact ⟨vs, SqL.of q, by rw [h2.length]; exact Nat.le_refl _⟩
  | _ => exact k1.elim
theorem i_tup {tg : Expr} (h : PP X W e t) : PIt X W tg e (tiTup t) := by
  obtain ⟨ea, pa, ra⟩ := h.ex
  refine ⟨_, pi_tup pa, fun G0 H0 Γ σ G H k kx R F ht hk hx => ?_⟩
  refine ra G0 H0 Γ σ G H _ kx _ F ht (fun d v G1 H1 k1 x1 n1 => ?_) hx
  cases d with
  | tup xs =>
    cases n1 with
    | @tup a vs _ h1 h2 =>
      refine ⟨a, rfl, ⟨vs, x1.sub.sqt h1⟩, hk xs _ G1 H1 k1 x1 ⟨fun i G2 H2 hi s2 sb => ?_, fun i G2 H2 v H3 hi s2 sb y => ?_, fun G2 H2 s2 sb => ?_⟩⟩
      · have q := sb.sqt (sqt_same s2 h1)
        obtain ⟨v, hv, _⟩ := h2.get (List.getElem?_eq_getElem hi)
        exact ⟨vs, v, q, hv⟩
      · have q := sb.sqt (sqt_same s2 h1)
        obtain ⟨rfl, y⟩ := y
        obtain ⟨d, hd, n⟩ := h2.gv (y vs q)
        exact ⟨d, G2, hd, Ext.refl sb, n.up s2⟩
      · have q := sb.sqt (sqt_same s2 h1)
        exact ⟨vs, q, by rw [h2.length]; exact Nat.le_refl _⟩
  | _ => exact k1.elim
theorem i_str {tg : Expr} (h : PP X W e t) : PIt X W tg e (tiStr t) := by
  obtain ⟨ea, pa, ra⟩ := h.ex
  refine ⟨_, pi_str pa, fun G0 H0 Γ σ G H k kx R F ht hk hx => ?_⟩
  refine ra G0 H0 Γ σ G H _ kx _ F ht (fun d v G1 H1 k1 x1 n1 => ?_) hx
  cases d with
  | str s =>
    cases n1
    refine ⟨SS s, rfl, hk _ _ G1 H1 k1 x1 ⟨fun i G2 H2 hi s2 sb => ?_, fun i G2 H2 v H3 hi s2 sb y => ?_, fun G2 H2 s2 sb => ?_⟩⟩
    · show i < (SS s).cps.size
      rw [List.length_map] at hi
      simpa [SS] using hi
    · obtain ⟨rfl, c, hc, rfl⟩ := y
      have hc : s[i]? = some c := by simpa [SS] using hc
      exact ⟨.str [c], G2, by rw [List.getElem?_map, hc]; rfl, Ext.refl sb, .str [c]⟩
    · show (SS s).cps.size ≤ _
      rw [List.length_map]
      simp [SS]
  | _ => exact k1.elim
/-- range(n), range(a, b) -/
def tiRng1 (t : TL) : TL := fun Γ k kx => t Γ (fun ds => match ds with
  | [.int n] => (-(2 ^ 62) ≤ n ∧ n < 2 ^ 62) ∧ k ((List.range n.toNat).map fun i => .int (i : Nat))
  | _ => False) kx
def tiRng2 (t : TL) : TL := fun Γ k kx => t Γ (fun ds => match ds with
  | [.int a, .int b] => (-(2 ^ 62) ≤ a ∧ a < 2 ^ 62 ∧ -(2 ^ 62) ≤ b ∧ b < 2 ^ 62) ∧ k ((List.range (b - a).toNat).map fun i => .int (a + (i : Nat)))
  | _ => False) kx
theorem wk_rng {K : PySem.W.Frag} {a : Int} {n : Nat} {ok : Hp → Hp → Prop} : Wk K (Itr a n) ((List.range n).map fun i => D.int (a + (i : Nat))) ok := by
  refine ⟨fun i G2 H2 hi s2 sb => ?_, fun i G2 H2 v H3 hi s2 sb y => ?_, fun G2 H2 s2 sb => ?_⟩
  · rw [List.length_map, List.length_range] at hi
    exact hi
  · obtain ⟨rfl, rfl⟩ := y
    rw [List.length_map, List.length_range] at hi
    exact ⟨.int (a + (i : Nat)), G2, by rw [List.getElem?_map, List.getElem?_range hi]; rfl, Ext.refl sb, .int _⟩
  · show n ≤ _
    rw [List.length_map, List.length_range]
    exact Nat.le_refl _
theorem den_ints {K : PySem.W.Frag} {G : Hp} {vs : List V} {a : Int} (h : DenL K G vs [.int a]) : vs = [.int a] := by
  cases h with
  | cons h1 h2 =>
    cases h1
    cases h2
    rfl
theorem den_ints2 {K : PySem.W.Frag} {G : Hp} {vs : List V} {a b : Int} (h : DenL K G vs [.int a, .int b]) : vs = [.int a, .int b] := by
  cases h with
  | cons h1 h2 =>
    cases h1
    rw [den_ints h2]
theorem i_rng1 {tg : Expr} {p : Pos} (hm : X.mg "range" = none) (h : PL' X W [a] tl) (hg : Gl X "range" := by rfl) (hs : starEach [a] X.env = [(false, eval a X.env)] := by rfl) : PIt X W tg (.Call (.Name "range" p) [a] [] pos) (tiRng1 tl) := by
  obtain ⟨ea, pa, ra⟩ := h.ex
  refine ⟨_, pi_range1 hg hm pa hs, fun G0 H0 Γ σ G H k kx R F ht hk hx => ?_⟩
  refine ra G0 H0 Γ σ G H _ kx _ F ht (fun ds vs G1 H1 k1 x1 n1 => ?_) hx
  match ds, k1, n1 with
  | [.int n], k1, n1 =>
    refine ⟨n, den_ints n1, k1.1.1, k1.1.2, hk _ _ G1 H1 k1.2 x1 ?_⟩
    have e : (fun i : Nat => D.int (i : Nat)) = fun i : Nat => D.int (0 + (i : Nat)) := by
      funext i
      rw [Int.zero_add]
    rw [e]
    exact wk_rng
theorem i_rng2 {tg : Expr} {p : Pos} (hm : X.mg "range" = none) (h : PL' X W [a, b] tl) (hg : Gl X "range" := by rfl) (hs : starEach [a, b] X.env = [(false, eval a X.env), (false, eval b X.env)] := by rfl) (hs2 : starEach [b] X.env = [(false, eval b X.env)] := by rfl) : PIt X W tg (.Call (.Name "range" p) [a, b] [] pos) (tiRng2 tl) := by
  obtain ⟨ea, pa, ra⟩ := h.ex
  refine ⟨_, pi_range2 hg hm pa hs hs2, fun G0 H0 Γ σ G H k kx R F ht hk hx => ?_⟩
  refine ra G0 H0 Γ σ G H _ kx _ F ht (fun ds vs G1 H1 k1 x1 n1 => ?_) hx
  match ds, k1, n1 with
  | [.int n, .int m], k1, n1 => exact ⟨n, m, den_ints2 n1, k1.1, hk _ _ G1 H1 k1.2 x1 wk_rng⟩
end
end PL
set_option Elab.async false
set_option linter.all false
set_option maxRecDepth 100000
set_option maxHeartbeats 2000000
namespace PL
open PySem L2
variable [Tabl]
abbrev FS := List D → KD → KX → Prop
def spOf (K : PySem.W.Frag) (n : Nat) (fs : FS) : Sp := fun vs H Q E => ∃ G ds k kx, Sub G H ∧ DenL K G vs ds ∧ ds.length = n ∧ fs ds k kx ∧ (∀ d v G' H', k d → Ext G H G' H' → Den K G' v d → Q v H') ∧
  (∀ x cls dA G' H', kx x → Ext G H G' H' → XDen K G' H' cls dA x → E cls dA H')
/-- the global name x holds a def that keeps fs, at level k -/
structure Df (P : Program) (w : World) (K : PySem.W.Frag) (mg : PySem.Str → Option Value) (base : Heap) (x : PySem.Str) (k n : Nat) (fs : FS) : Prop where
  ex : ∃ f fd ps, FnOk P w K mg base (L2.CX P w) k f fd ps (spOf K n fs) ∧ mg x = some (.ref f) ∧ PySem.W.keepIn K (.ref f) = true ∧ Binds K fd ps [] ∧ ps.length = n
theorem Df.imp {P : Program} {w : World} {K : PySem.W.Frag} {mg : PySem.Str → Option Value} {base : Heap} {x : PySem.Str} {k n : Nat} {fs fs' : FS} (F : Df P w K mg base x k n fs) (h : ∀ ds kd kx, ds.length = n → fs' ds kd kx → fs ds kd kx) : Df P w K mg base x k n fs' := by
  obtain ⟨f, fd, ps, h1, h2, h3, h4, h5⟩ := F.ex
  refine ⟨f, fd, ps, h1.imp fun vs H Q E q => ?_, h2, h3, h4, h5⟩
  obtain ⟨G, ds, kd, kx, a, b, c, d, e⟩ := q
  exact ⟨G, ds, kd, kx, a, b, c, h ds kd kx c d, e⟩
theorem Df.mono {P : Program} {w : World} {K : PySem.W.Frag} {mg : PySem.Str → Option Value} {base : Heap} {x : PySem.Str} {j k n : Nat} {fs : FS} (F : Df P w K mg base x j n fs) (h : j ≤ k) : Df P w K mg base x k n fs := by
  obtain ⟨f, fd, ps, h1, h2⟩ := F.ex
  exact ⟨f, fd, ps, h1.mono h, h2⟩
def ga0 (m : Nat) (ds : List D) : Ga := ds.map Sl.pu ++ List.replicate (m - ds.length) Sl.un
theorem fr0 {K : PySem.W.Frag} {G H : Hp} {N : List PySem.Str} {vs : List V} {ds : List D} (s : Sub G H) (r : DenL K G vs ds) : Fr K G H (ga0 N.length ds) (L2.start N vs) G H := by
  have hl := r.length
  have key : ∀ i, (∃ d, ds[i]? = some d ∧ (ga0 N.length ds)[i]? = some (.pu d)) ∨ (ds.length ≤ i ∧ ∀ s, (ga0 N.length ds)[i]? = some s → s = .un) := fun i => by
    by_cases h : i < ds.length
    · refine .inl ⟨ds[i], List.getElem?_eq_getElem h, ?_⟩
      unfold ga0
      rw [List.getElem?_append_left (by rw [List.length_map]; exact h), List.getElem?_map, List.getElem?_eq_getElem h]
      rfl
    · refine .inr ⟨Nat.le_of_not_lt h, fun s e => ?_⟩
      unfold ga0 at e
      rw [List.getElem?_append_right (by rw [List.length_map]; omega)] at e
      have := List.mem_of_getElem? e
      exact (List.mem_replicate.mp this).2
  refine ⟨by unfold L2.start ga0; simp [hl], Ext.refl s, fun i t h => ?_, fun i j p t u h1 h2 h3 h4 h5 h6 => ?_⟩
  · rcases key i with ⟨d, e, q⟩ | ⟨_, q⟩
    · rw [q] at h
      cases h
      obtain ⟨v, hv, n⟩ := r.get e
      refine ⟨v, ?_, n⟩
      have hi : i < vs.length := (List.getElem?_eq_some_iff.mp hv).1
      unfold L2.start
      rw [List.getElem?_append_left (by rw [List.length_map]; exact hi), List.getElem?_map, hv]
      rfl
    · rw [q t h]
      trivial
  · rcases key i with ⟨d, e, q⟩ | ⟨_, q⟩
    · rw [q] at h1
      cases h1
      exact h2.elim
    · rw [q t h1] at h2
      exact h2.elim
/-- the ends of a def -/
def fEnds (k : KD) (kx : KX) : PEn := ⟨fun _ => k .non, fun _ => False, fun _ => False, fun d _ => k d, fun x _ => kx x⟩
section
variable {P : Program} {w : World} {K : PySem.W.Frag} {mg : PySem.Str → Option Value} {base : Heap}
theorem fn_ok {x qual : PySem.Str} {st : Stmt} {f : Addr} {fd : FuncData} {N ps : List PySem.Str} {k n : Nat} {fs : FS} (F : Fun K x qual st f fd) (S : FnScope N ps (defScope st)) (hn : ps.length = n)
    (body : ∀ (cdv : Value) (A : Around) (outer : List Env) (s : Shared) (H : Hp) (E : XK), Room k (A.deeper (PyProof.Rows.envOfC qual (defScope st) s.heap.objs.size f cdv)) →
      ∃ t, PSS (cxOf (L2.CX P w) P w K mg base N qual (defScope st) f cdv A outer s H E) (fun cls d _ H => E cls d H) (defBody st) t ∧ ∀ ds kd kx, ds.length = n → fs ds kd kx → t (fEnds kd kx) (ga0 N.length ds)) :
    FnOk P w K mg base (L2.CX P w) (k + 1) f fd ps (spOf K n fs) := by
  refine F.okX S (fun vs H Q E h => ?_) (fun cdv A outer s H vs Q E hr h => ?_)
  · obtain ⟨G, ds, kd, kx, _, b, c, _⟩ := h
    rw [b.length, c, hn]
  · obtain ⟨G, ds, kd, kx, sb, r, hl, hf, hk, hx⟩ := h
    obtain ⟨t, ⟨ts, ps, rd⟩, ht⟩ := body cdv A outer s H E hr
    refine ⟨ts, ps, rd G H (ga0 N.length ds) (L2.start N vs) G H (fEnds kd kx) _ (fr0 sb r) (ht ds kd kx hl hf) ⟨?_, ?_, ?_, ?_, ?_⟩⟩
    · intro Γ σ G' H' q F'
      exact hk .non .non G' H' q F'.e .non
    · intro Γ σ G' H' q
      exact q.elim
    · intro Γ σ G' H' q
      exact q.elim
    · intro d v Γ σ G' H' q F' n
      exact hk d v G' H' q F'.e n
    · intro x cls dA Γ σ G' H' q F' n
      exact hx x cls dA G' H' q F'.e n
theorem df_mk {x qual : PySem.Str} {st : Stmt} {f : Addr} {fd : FuncData} {ps : List PySem.Str} {k n : Nat} {fs : FS} (F : Fun K x qual st f fd) (hm : mg x = some (.ref f)) (hb : Binds K fd ps []) (hn : ps.length = n) (h : FnOk P w K mg base (L2.CX P w) k f fd ps (spOf K n fs)) :
    Df P w K mg base x k n fs := ⟨f, fd, ps, h, hm, F.kp, hb, hn⟩
end
section
variable {X : Cx} {W : WX} {e a b c : Expr} {es : List Expr} {t ta tb tc : TP} {tl tk : TL} {tt tu : TB} {pos p : Pos} {st : Stmt} {rest body els : List Stmt} {s u v : TSp} {x : PySem.Str} {k n j : Nat} {fs : FS} {kws : List Keyword}
def tpCall (n : Nat) (fs : FS) (tl : TL) : TP := fun Γ k kx => tl Γ (fun ds => ds.length = n ∧ fs ds k kx) kx
theorem rd_call {ta : TA} (h : RdA X.K W ta tl) : RdP X.K W (tCallS (spOf X.K n fs) (WE W) ta) (tpCall n fs tl) := by
  intro G0 H0 Γ σ G H k kx Q F ht hk hx
  refine h G0 H0 Γ σ G H _ kx _ F ht (fun ds vs G1 H1 k1 x1 n1 => ?_) hx
  exact ⟨G1, ds, k, kx, x1.sub, n1, k1.1, k1.2, fun d v G' H' kd ex dn => hk d v G' H' kd (x1.trans ex) dn, fun y cls dA G' H' kd ex dn => hx y cls dA G' H' kd (x1.trans ex) dn⟩
theorem p_call (D : Df X.prog X.w X.K X.mg X.base x k n fs) (hr : Room j X.A) (hj : k ≤ j) (tk : Takes X W) (ha : PL' X W (e :: es) tl) (hg : Gl X x := by rfl) (hdb : (x == ("__debug__" : PySem.Str)) = false := by decide)
    (he : starEach (e :: es) X.env = (false, eval e X.env) :: starEach es X.env := by rfl) (hpl : (backTo pos (starEach es X.env)).any (·.1) = false := by rfl) : PP X W (.Call (.Name x p) (e :: es) [] pos) (tpCall n fs tl) := by
  obtain ⟨f, fd, ps, h1, h2, h3, h4, h5⟩ := D.ex
  obtain ⟨ea, pa, ra⟩ := ha.ex
  exact ⟨_, pe_callS h1 (hr.mono hj) hg h2 h3 h4 (fun σ => passAt tk σ) pa hdb he hpl, rd_call ra⟩
theorem pe_call0S {CX : CXT} {f : Addr} {fd : FuncData} {ps : List PySem.Str} {sp : Sp} {E : L2.St → XK} (F : FnOk X.prog X.w X.K X.mg X.base CX k f fd ps sp) (hr : Room k X.A) (hg : Gl X x) (hm : X.mg x = some (.ref f)) (hk : PySem.W.keepIn X.K (.ref f) = true) (hb : Binds X.K fd ps []) (hx : ∀ σ, PassesAt CX X σ (E σ))
    (hdb : (x == ("__debug__" : PySem.Str)) = false := by decide) : PE X (.Call (.Name x p) [] [] pos) (tCallS sp E tNil) := by
  refine ⟨fun pins s σ H Q I h => ?_⟩
  refine wpAny_Call_Name_kw (ld_glob I hg hm ?_ hdb)
  exact PySem.W.callWith_K0 I.kIn hk (run_fnS (us := []) F hr hb (hx σ) I .nil h)
theorem p_call0 (D : Df X.prog X.w X.K X.mg X.base x k n fs) (hr : Room j X.A) (hj : k ≤ j) (tk : Takes X W) (hg : Gl X x := by rfl) (hdb : (x == ("__debug__" : PySem.Str)) = false := by decide) : PP X W (.Call (.Name x p) [] [] pos) (tpCall n fs tlNil) := by
  obtain ⟨f, fd, ps, h1, h2, h3, h4, h5⟩ := D.ex
  exact ⟨_, pe_call0S h1 (hr.mono hj) hg h2 h3 h4 (fun σ => passAt tk σ) hdb, rd_call (fun G0 H0 Γ σ G H k kx Q F ht hk hx => hk [] [] G H ht (Ext.refl F.sub) .nil)⟩
/-- m turns at most -/
def whW (c : TB) (b : TSp) (P : PEn) : Nat → Ga → Prop
  | 0, _ => False
  | m + 1, Γ => c Γ (fun r => if r = true then b { P with nx := whW c b P m, ct := whW c b P m, bk := P.nx } Γ else P.nx Γ) (fun x => P.xx x Γ)
def tsWhile (c : TB) (b : TSp) : TSp := fun P Γ => ∃ m, whW c b P m Γ
theorem rd_while {tc : TT} {tb : TS} {cp : TB} {bp : TSp} (hc : RdT X.K W tc cp) (hb : RdS X.K W tb bp) : RdS X.K W (tWhile tc tb) (tsWhile cp bp) := by
  intro G0 H0 Γ σ G H P E F ⟨m, ht⟩ ok
  refine ⟨fun m σ' H' => ∃ Γ' G', Fr X.K G0 H0 Γ' σ' G' H' ∧ whW cp bp P m Γ', ⟨m, Γ, G, F, ht⟩, ?_⟩
  rintro m σ2 H2 ⟨Γ2, G2, F2, k2⟩
  cases m with
  | zero => exact k2.elim
  | succ m =>
    refine hc G0 H0 Γ2 σ2 G2 H2 _ _ _ F2 k2 (fun r G3 H3 k3 x3 => ?_) (ok.x F2)
    cases r with
    | true =>
      rw [if_pos rfl]
      refine ⟨fun σ' H' => ∃ Γ' G', Fr X.K G0 H0 Γ' σ' G' H' ∧ whW cp bp P m Γ', fun σ' H' q => ⟨m, Nat.lt_succ_self m, q⟩, ?_⟩
      exact hb G0 H0 Γ2 σ2 G3 H3 _ _ (F2.up x3) k3 (ok.loop fun Γ5 σ5 G5 H5 n5 F5 => ⟨Γ5, G5, F5, n5⟩)
    | false =>
      rw [if_neg Bool.false_ne_true]
      exact ok.nx _ _ _ _ k3 (F2.up x3)
theorem s_while (hp : PassesOwn (model X.prog X.w) X.A X.env X.xe) (hc : PB X W c tt) (hb : PSS X W body s) : PS1 X W (.While c body [] pos) (tsWhile tt s) := by
  obtain ⟨ec, pc, rc⟩ := hc.ex
  obtain ⟨eb, pb, rb⟩ := hb.ex
  exact ⟨_, ps_while hp pc pb, rd_while rc rb⟩
abbrev F1 := D → KD → Prop
abbrev FN := List D → KD → Prop
def RdC (K : PySem.W.Frag) (r : List V → Hp → VK → Prop) (f : FN) : Prop := ∀ (H0 G H : Hp) (vs : List V) (ds : List D) (k : KD) (Q : VK), Sub G H → DenL K G vs ds → f ds k → (∀ d v G' H', k d → Ext G H G' H' → Den K G' v d → Q v H') → r vs H Q
def RdC1 (K : PySem.W.Frag) (r : List V → Hp → VK → Prop) (f : F1) : Prop := ∀ (H0 G H : Hp) (v : V) (d : D) (k : KD) (Q : VK), Sub G H → DenU K H0 G H v d → f d k → (∀ d v G' H', k d → Ext G H G' H' → Den K G' v d → Q v H') → r [v] H Q
def tpN (f : FN) (tl : TL) : TP := fun Γ k kx => tl Γ (fun ds => f ds k) kx
def tp1 (f : F1) (t : TP) : TP := fun Γ k kx => t Γ (fun d => f d k) kx
theorem rd_cn {r : List V → Hp → VK → Prop} {f : FN} {ta : TA} (hr : RdC X.K r f) (h : RdA X.K W ta tl) : RdP X.K W (tCB r ta) (tpN f tl) := by
  intro G0 H0 Γ σ G H k kx Q F ht hk hx
  refine h G0 H0 Γ σ G H _ kx _ F ht (fun ds vs G1 H1 k1 x1 n1 => ?_) hx
  exact hr H0 G1 H1 vs ds k Q x1.sub n1 k1 fun d v G' H' kd ex dn => hk d v G' H' kd (x1.trans ex) dn
theorem rd_c1 {r : List V → Hp → VK → Prop} {f : F1} {te : TE} (hr : RdC1 X.K r f) (h : RdU X.K W te t) : RdP X.K W (tCB r (tCons te tNil)) (tp1 f t) := by
  intro G0 H0 Γ σ G H k kx Q F ht hk hx
  refine h G0 H0 Γ σ G H _ kx _ F ht (fun d v G1 H1 k1 x1 n1 => ?_) hx
  exact hr H0 G1 H1 v d k Q x1.sub n1 k1 fun d v G' H' kd ex dn => hk d v G' H' kd (x1.trans ex) dn
/-- a built-in function, a built-in type called -/
theorem p_b1 {id : String} {r : List V → Hp → VK → Prop} {f : F1} (hc : CallR X (.builtin id) r ∧ RdC1 X.K r f) (hm : X.mg x = none) (hv : bootBuiltins x = some (.builtin id)) (ha : PU X W a t) (hg : Gl X x := by rfl) (hn : x ≠ "__name__" := by decide) (hdb : (x == ("__debug__" : PySem.Str)) = false := by decide)
    (h1 : starEach (a :: []) X.env = (false, eval a X.env) :: starEach [] X.env := by rfl) (h2 : (backTo pos (starEach [] X.env)).any (·.1) = false := by rfl) : PP X W (.Call (.Name x p) [a] [] pos) (tp1 f t) := by
  obtain ⟨ea, pa, ra⟩ := ha.ex
  exact ⟨_, pe_callB hc.1 hg hm hv (pa_cons pa pa_nil h1) hn hdb h1 h2, rd_c1 hc.2 ra⟩
theorem p_t1 {T : String} {r : List V → Hp → VK → Prop} {f : F1} (hc : CallR X (.type T) r ∧ RdC1 X.K r f) (hm : X.mg x = none) (hv : bootBuiltins x = some (.type T)) (ha : PU X W a t) (hg : Gl X x := by rfl) (hn : x ≠ "__name__" := by decide) (hdb : (x == ("__debug__" : PySem.Str)) = false := by decide)
    (h1 : starEach (a :: []) X.env = (false, eval a X.env) :: starEach [] X.env := by rfl) (h2 : (backTo pos (starEach [] X.env)).any (·.1) = false := by rfl) : PP X W (.Call (.Name x p) [a] [] pos) (tp1 f t) := by
  obtain ⟨ea, pa, ra⟩ := ha.ex
  exact ⟨_, pe_callTy hc.1 hg hm hv (pa_cons pa pa_nil h1) hn hdb h1 h2, rd_c1 hc.2 ra⟩
theorem p_bn {id : String} {r : List V → Hp → VK → Prop} {f : FN} (hc : CallR X (.builtin id) r ∧ RdC X.K r f) (hm : X.mg x = none) (hv : bootBuiltins x = some (.builtin id)) (ha : PL' X W (e :: es) tl) (hg : Gl X x := by rfl) (hn : x ≠ "__name__" := by decide) (hdb : (x == ("__debug__" : PySem.Str)) = false := by decide)
    (h1 : starEach (e :: es) X.env = (false, eval e X.env) :: starEach es X.env := by rfl) (h2 : (backTo pos (starEach es X.env)).any (·.1) = false := by rfl) : PP X W (.Call (.Name x p) (e :: es) [] pos) (tpN f tl) := by
  obtain ⟨ea, pa, ra⟩ := ha.ex
  exact ⟨_, pe_callB hc.1 hg hm hv pa hn hdb h1 h2, rd_cn hc.2 ra⟩
theorem DenK.length {K : PySem.W.Frag} {G : Hp} : ∀ {vs : List (Key × V)} {ds : List (Key × D)}, DenK K G vs ds → vs.length = ds.length
  | _, _, .nil => rfl
  | _, _, .cons _ t => by rw [List.length_cons, List.length_cons, DenK.length t]
theorem DenU.dct {K : PySem.W.Frag} {H0 G H : Hp} {v : V} {ds : List (Key × D)} (s : Sub G H) (h : DenU K H0 G H v (.dct ds)) : ∃ a xs, v = .ref a ∧ Rd H a (.dK xs) ∧ DenK K G xs ds := by
  rcases h with h | ⟨p, e, g, xs, r1, r2⟩
  · cases h with
    | dct h1 h2 => exact ⟨_, _, rfl, s.rd h1, h2⟩
  · exact ⟨p, xs, e, .inl r1, r2⟩
/-- len of a text, a list, a tuple; of a dict that isn't locked -/
def fLenS : F1
  | .str s, k => s.length ≤ sizeLine ∧ k (.int s.length)
  | .lst xs, k => k (.int xs.length)
  | .tup xs, k => k (.int xs.length)
  | .cel _ ns, k => k (.int ns.length)
  | .scr, k => ∀ n : Nat, n ≤ 63 → k (.int n)
  | _, _ => False
theorem c_len : CallR X (.builtin "len") (fun xs H Q => ∃ x n, xs = [x] ∧ LenV X.K x H n ∧ Q (.int n) H) ∧ RdC1 X.K (fun xs H Q => ∃ x n, xs = [x] ∧ LenV X.K x H n ∧ Q (.int n) H) fLenS := by
  refine ⟨call_len, fun H0 G H v d k Q s n h hk => ?_⟩
  cases d with
  | str t => exact ⟨v, t.length, rfl, by rw [n.str]; exact ⟨by rw [ss_length]; exact h.1, (ss_length t).symm⟩, hk _ _ G H h.2 (Ext.refl s) (.int _)⟩
  | lst xs =>
    obtain ⟨a, ys, rfl, h1, r1⟩ := n.lst s
    exact ⟨_, xs.length, rfl, .inl ⟨ys, SqL.of h1, r1.length.symm⟩, hk _ _ G H h (Ext.refl s) (.int _)⟩
  | tup xs =>
    obtain ⟨a, ys, rfl, h1, r1⟩ := n.tup s
    exact ⟨_, xs.length, rfl, .inr ⟨ys, h1, r1.length.symm⟩, hk _ _ G H h (Ext.refl s) (.int _)⟩
  | cel l ns =>
    obtain ⟨rfl, h1⟩ := n.cel s
    exact ⟨_, ns.length, rfl, .inl ⟨_, SqL.of h1, by rw [List.length_map]⟩, hk _ _ G H h (Ext.refl s) (.int _)⟩
  | scr =>
    rcases n with n | ⟨p, e, g, r⟩
    · cases n with
      | @scr a ns h1 h2 => exact ⟨_, ns.length, rfl, .inl ⟨_, s.sql h1, by rw [List.length_map]⟩, hk _ _ G H (h ns.length h2) (Ext.refl s) (.int _)⟩
    · exact r.elim
  | _ => exact h.elim
/-- int(n), int(b) -/
def fInt : F1
  | .int i, k => k (.int i)
  | .bl b, k => k (.int (if b then 1 else 0))
  | _, _ => False
theorem c_int : CallR X (.type "int") (fun xs H Q => (∃ i, xs = [.int i] ∧ Q (.int i) H) ∨ ∃ k, xs = [.bl k] ∧ Q (.int (if k then 1 else 0)) H) ∧ RdC1 X.K (fun xs H Q => (∃ i, xs = [.int i] ∧ Q (.int i) H) ∨ ∃ k, xs = [.bl k] ∧ Q (.int (if k then 1 else 0)) H) fInt := by
  refine ⟨call_int1, fun H0 G H v d k Q s n h hk => ?_⟩
  cases d with
  | int i => exact .inl ⟨i, by rw [n.int], hk _ _ G H h (Ext.refl s) (.int _)⟩
  | bl i => exact .inr ⟨i, by rw [n.bl], hk _ _ G H h (Ext.refl s) (.int _)⟩
  | _ => exact h.elim
/-- min(a, b), max(a, b) of ints -/
def fMin2 : FN
  | [.int i, .int j], k => k (.int (if j < i then j else i))
  | _, _ => False
def rMin2' : List V → Hp → VK → Prop := fun xs H Q => ∃ i j, xs = [.int i, .int j] ∧ Q (.int (if j < i then j else i)) H
theorem c_min2 (hc : X.calm = true) : CallR X (.builtin "min") rMin2' ∧ RdC X.K rMin2' fMin2 := by
  refine ⟨call_min2 hc, fun H0 G H vs ds k Q s n h hk => ?_⟩
  match ds, h, n with
  | [.int i, .int j], h, n => exact ⟨i, j, den_ints2 n, hk _ _ G H h (Ext.refl s) (.int _)⟩
/-- all(..), any(..) of a list of truth values -/
def bools : List D → Option (List Bool)
  | [] => some []
  | .bl b :: r => (bools r).map (b :: ·)
  | _ :: _ => none
theorem bools_eq : ∀ {ds : List D} {bs : List Bool}, bools ds = some bs → ds = bs.map D.bl
  | [], bs, h => by cases h; rfl
  | d :: r, bs, h => by
    cases d with
    | bl b =>
      unfold bools at h
      cases e : bools r with
      | none => rw [e] at h; cases h
      | some cs =>
        rw [e] at h
        cases h
        rw [List.map_cons, ← bools_eq e]
    | _ => cases h
theorem bools_map : ∀ bs : List Bool, bools (bs.map D.bl) = some bs
  | [] => rfl
  | b :: r => by
    show (bools (r.map D.bl)).map (b :: ·) = _
    rw [bools_map r]
    rfl
theorem denL_bl {K : PySem.W.Frag} {G : Hp} : ∀ {bs : List Bool} {vs : List V}, DenL K G vs (bs.map D.bl) → vs = bs.map V.bl
  | [], _, h => by cases h; rfl
  | b :: r, _, h => by
    cases h with
    | cons h1 h2 =>
      cases h1
      rw [denL_bl h2]
      rfl
def onBs (ds : List D) (k : List Bool → Prop) : Prop := match bools ds with
  | some bs => k bs
  | none => False
theorem onBs_map {bs : List Bool} {k : List Bool → Prop} : onBs (bs.map D.bl) k = k bs := by
  unfold onBs
  rw [bools_map]
theorem onBs_elim {ds : List D} {k : List Bool → Prop} (h : onBs ds k) : ∃ bs, ds = bs.map D.bl ∧ k bs := by
  unfold onBs at h
  cases e : bools ds with
  | none => simp only [e] at h
  | some bs =>
    simp only [e] at h
    exact ⟨bs, bools_eq e, h⟩
def fAll : F1
  | .lst xs, k => onBs xs fun bs => k (.bl (bs.all id))
  | _, _ => False
def fAny : F1
  | .lst xs, k => onBs xs fun bs => k (.bl (bs.any id))
  | _, _ => False
theorem c_all (hc : X.calm = true) : CallR X (.builtin "all") (rAll X.K) ∧ RdC1 X.K (rAll X.K) fAll := by
  refine ⟨cr_all hc, fun H0 G H v d k Q s n h hk => ?_⟩
  cases d with
  | lst xs =>
    obtain ⟨bs, rfl, h2⟩ := onBs_elim (show onBs xs fun bs => k (.bl (bs.all id)) from h)
    obtain ⟨a, ys, rfl, h1, r1⟩ := n.lst s
    rw [denL_bl r1] at h1
    exact ⟨a, bs, rfl, SqL.of h1, hk _ _ G H h2 (Ext.refl s) (.bl _)⟩
  | _ => exact h.elim
theorem c_any (hc : X.calm = true) : CallR X (.builtin "any") (rAny X.K) ∧ RdC1 X.K (rAny X.K) fAny := by
  refine ⟨cr_any hc, fun H0 G H v d k Q s n h hk => ?_⟩
  cases d with
  | lst xs =>
    obtain ⟨bs, rfl, h2⟩ := onBs_elim (show onBs xs fun bs => k (.bl (bs.any id)) from h)
    obtain ⟨a, ys, rfl, h1, r1⟩ := n.lst s
    rw [denL_bl r1] at h1
    exact ⟨a, bs, rfl, SqL.of h1, hk _ _ G H h2 (Ext.refl s) (.bl _)⟩
  | _ => exact h.elim
def tyD : D → Option String
  | .non => some "NoneType"
  | .bl _ => some "bool"
  | .int _ => some "int"
  | .str _ => some "str"
  | .lst _ => some "list"
  | .tup _ => some "tuple"
  | .dct _ => some "dict"
  | _ => none
def subTy (a b : String) : Bool := a == b || (a == "bool" && b == "int")
theorem kit_all : (["NoneType", "bool", "int", "str", "list", "tuple", "dict"].all fun a => ["bool", "int", "str", "list", "tuple"].all fun b => kitB a b == some (subTy a b)) = true := by decide +kernel
theorem kit_tab {a b : String} (ha : a ∈ ["NoneType", "bool", "int", "str", "list", "tuple", "dict"]) (hb : b ∈ ["bool", "int", "str", "list", "tuple"]) : kitB a b = some (subTy a b) := by
  have := List.all_eq_true.mp kit_all a ha
  have := List.all_eq_true.mp this b hb
  simpa using this
theorem tyD_mem {d : D} {T : String} (h : tyD d = some T) : T ∈ ["NoneType", "bool", "int", "str", "list", "tuple", "dict"] := by
  cases d <;> (first | (cases h; simp) | cases h)
theorem DenU.ty {K : PySem.W.Frag} {H0 G H : Hp} {v : V} {d : D} {T : String} (s : Sub G H) (h : DenU K H0 G H v d) (e : tyD d = some T) : TyX K H v (.type T) := by
  cases d with
  | non => cases e; rw [h.non]; exact .base .non
  | bl b => cases e; rw [h.bl]; exact .base (.bl b)
  | int b => cases e; rw [h.int]; exact .base (.int b)
  | str b => cases e; rw [h.str]; exact .base (.str _)
  | lst xs =>
    cases e
    obtain ⟨a, ys, rfl, h1, r1⟩ := h.lst s
    exact .base (.lst h1)
  | tup xs =>
    cases e
    obtain ⟨a, ys, rfl, h1, r1⟩ := h.tup s
    rcases h1 with (h1 | ⟨o, h1⟩) | ⟨o, its, n, k1, k2, k3, k4⟩
    · exact .base (.tup h1)
    · exact .fTuple h1
    · exact .kTuple k1 (by assumption)
  | dct xs =>
    cases e
    obtain ⟨a, ys, rfl, h1, r1⟩ := h.dct s
    rcases h1 with h1 | ⟨o, h1⟩
    · exact .base (.dK h1)
    · exact .fDict h1
  | _ => cases e
end
end PL
set_option Elab.async false
set_option linter.all false
set_option maxRecDepth 100000
set_option maxHeartbeats 2000000
namespace PL
open PySem L2
variable [Tabl]
section
variable {X : Cx} {W : WX} {e a b c : Expr} {es : List Expr} {t ta tb tc : TP} {tl tk : TL} {tt tu : TB} {pos p : Pos} {x : PySem.Str}
def fIsi (T : String) : F1 := fun d k => match tyD d with
  | some n => k (.bl (subTy n T))
  | none => False
theorem p_isi (T : String) (ha : PU X W a t) (hb : PE X b (tC (.ty T))) (hm : X.mg "isinstance" = none) (hT : T ∈ ["bool", "int", "str", "list", "tuple"] := by simp) (hv : bootBuiltins "isinstance" = some (.builtin "isinstance") := by decide +kernel) (hg : Gl X "isinstance" := by rfl)
    (h1 : starEach (a :: [b]) X.env = (false, eval a X.env) :: starEach [b] X.env := by rfl) (h2 : (backTo pos (starEach [b] X.env)).any (·.1) = false := by rfl) (h3 : starEach (b :: []) X.env = (false, eval b X.env) :: starEach [] X.env := by rfl) :
    PP X W (.Call (.Name "isinstance" p) [a, b] [] pos) (tp1 (fIsi T) t) := by
  obtain ⟨ea, pa, ra⟩ := ha.ex
  refine ⟨_, pe_callB call_isi hg hm hv (pa_cons pa (pa_cons hb pa_nil h3) h1) (by decide) (by decide) h1 h2, fun G0 H0 Γ σ G H k kx Q F ht hk hx => ?_⟩
  refine ra G0 H0 Γ σ G H _ kx _ F ht (fun d v G1 H1 k1 x1 n1 => ?_) hx
  unfold fIsi at k1
  cases e : tyD d with
  | none => simp only [e] at k1
  | some n =>
    simp only [e] at k1
    exact ⟨v, .ty T, .type n, .type T, subTy n T, rfl, .ty T, n1.ty x1.sub e, kit_ty (kit_tab (tyD_mem e) hT), hk _ _ G1 H1 k1 x1 (.bl _)⟩
abbrev Bi := Shared × Hp × Addr × List (PySem.Str × Addr) × List Addr
abbrev Cx.bl (X : Cx) (scope : Scope) (i : Bi) : Cx := X.blk i.1 i.2.1 scope (compEnvC scope i.2.2.2.1 i.2.2.1 X.env) i.2.2.2.2
abbrev W0 : WX := fun _ _ _ _ => False
theorem pp_unif {ι : Type} {Xf : ι → Cx} {K : PySem.W.Frag} (hK : ∀ i, (Xf i).K = K) (h : ∀ i, PP (Xf i) W e t) (i₀ : ι) : ∃ te, (∀ i, PE (Xf i) e te) ∧ RdP K W te t := by
  have h' : ∀ i, ∃ te, PE (Xf i) e te ∧ RdP K W te t := fun i => by
    obtain ⟨te, h1, h2⟩ := (h i).ex
    rw [hK i] at h2
    exact ⟨te, h1, h2⟩
  refine ⟨fun σ H Q => ∀ i, Classical.choose (h' i) σ H Q, fun i => ⟨fun pins s σ H Q I q => (Classical.choose_spec (h' i)).1.run pins s σ H Q I (q i)⟩, ?_⟩
  intro G0 H0 Γ σ G H k kx Q F ht hk hx i
  exact (Classical.choose_spec (h' i)).2 G0 H0 Γ σ G H k kx Q F ht hk hx
theorem pg_unif {ι : Type} {Xf : ι → Cx} {K : PySem.W.Frag} {is : List Nat} {gt : TGp} (hK : ∀ i, (Xf i).K = K) (h : ∀ i, PGt (Xf i) e is gt) : ∃ g, (∀ i, PG (Xf i) e g) ∧ RdG K is g gt := by
  have h' : ∀ i, ∃ te, PG (Xf i) e te ∧ RdG K is te gt := fun i => by
    obtain ⟨te, h1, h2⟩ := (h i).ex
    rw [hK i] at h2
    exact ⟨te, h1, h2⟩
  refine ⟨fun v σ H Q => ∀ i, Classical.choose (h' i) v σ H Q, fun i => ⟨fun pins s σ H v u Q I r q => ?_⟩, ?_⟩
  · exact (Classical.choose_spec (h' i)).1.run pins s σ H v u Q I r (q i)
  · intro G0 H0 Γ σ G H d v k Q F n ht hk i
    exact (Classical.choose_spec (h' i)).2 G0 H0 Γ σ G H d v k Q F n ht hk
/-- the tests of a comprehension -/
structure PBs (X : Cx) (W : WX) (es : List Expr) (t : TB) : Prop where
  ex : ∃ te, PTs X es te ∧ RdT X.K W te t
def tbYes : TB := fun _ k _ => k true
theorem bs_unif {ι : Type} {Xf : ι → Cx} {K : PySem.W.Frag} (hK : ∀ i, (Xf i).K = K) (h : ∀ i, PBs (Xf i) W es tt) : ∃ te, (∀ i, PTs (Xf i) es te) ∧ RdT K W te tt := by
  have h' : ∀ i, ∃ te, PTs (Xf i) es te ∧ RdT K W te tt := fun i => by
    obtain ⟨te, h1, h2⟩ := (h i).ex
    rw [hK i] at h2
    exact ⟨te, h1, h2⟩
  refine ⟨fun σ H Q => ∀ i, Classical.choose (h' i) σ H Q, fun i => ⟨fun pins s σ H Q I q => (Classical.choose_spec (h' i)).1.run pins s σ H Q I (q i)⟩, ?_⟩
  intro G0 H0 Γ σ G H k kx Q F ht hk hx i
  exact (Classical.choose_spec (h' i)).2 G0 H0 Γ σ G H k kx Q F ht hk hx
theorem bs_nil : PBs X W [] tbYes := ⟨_, pts_nil, fun G0 H0 Γ σ G H k kx Q F ht hk hx => hk true G H ht (Ext.refl F.sub)⟩
theorem bs_one (h : PB X W e tt) : PBs X W [e] tt := by
  obtain ⟨ea, pa, ra⟩ := h.ex
  exact ⟨_, pts_one pa, ra⟩
def wipeG (Γ : Ga) : List Nat → Ga
  | [] => Γ
  | v :: vs => gset (wipeG Γ vs) v .un
theorem Fr.unset {K : PySem.W.Frag} {G0 H0 G H : Hp} {Γ : Ga} {σ : L2.St} (F : Fr K G0 H0 Γ σ G H) (i : Nat) : Fr K G0 H0 (gset Γ i .un) (σ.set i none) G H := by
  rw [gset_eq]
  have hne : ∀ (j : Nat) (s : Sl), (Γ.set i .un)[j]? = some s → s ≠ .un → j ≠ i ∧ Γ[j]? = some s := fun j s h n => by
    by_cases hj : i = j
    · subst hj
      have hl : i < Γ.length := by
        have := (List.getElem?_eq_some_iff.mp h).1
        rw [List.length_set] at this
        exact this
      rw [List.getElem?_set_self hl] at h
      exact absurd (Option.some.inj h).symm n
    · rw [List.getElem?_set_ne hj] at h
      exact ⟨Ne.symm hj, h⟩
  refine ⟨by rw [List.length_set, List.length_set]; exact F.len, F.e, fun j s h => ?_, fun a b p s t h1 h2 h3 h4 h5 h6 => ?_⟩
  · by_cases n : s = .un
    · subst n
      trivial
    · obtain ⟨z, q⟩ := hne j s h n
      rw [List.getElem?_set_ne (Ne.symm z)]
      exact F.at_ j s q
  · obtain ⟨z1, q1⟩ := hne a s h1 (fun z => by subst z; exact h2)
    obtain ⟨z2, q2⟩ := hne b t h3 (fun z => by subst z; exact h4)
    rw [List.getElem?_set_ne (Ne.symm z1)] at h5
    rw [List.getElem?_set_ne (Ne.symm z2)] at h6
    exact F.dj a b p s t q1 h2 q2 h4 h5 h6
theorem Fr.wipe {K : PySem.W.Frag} {G0 H0 G H : Hp} {Γ : Ga} {σ : L2.St} (F : Fr K G0 H0 Γ σ G H) : ∀ is : List Nat, Fr K G0 H0 (wipeG Γ is) (L2.wipe σ is) G H
  | [] => F
  | v :: vs => (F.wipe vs).unset v
theorem wipe_none (σ : L2.St) (v : Nat) : ∀ vs : List Nat, v ∈ vs → (L2.wipe σ vs).set v none = L2.wipe σ vs
  | j :: r, h => by
    show ((L2.wipe σ r).set j none).set v none = (L2.wipe σ r).set j none
    by_cases e : v = j
    · subst e
      rw [List.set_set]
    · have hr : v ∈ r := by
        rcases List.mem_cons.mp h with h | h
        · exact absurd h e
        · exact h
      rw [List.set_comm _ _ (Ne.symm e), wipe_none σ v r hr]
theorem wipe_sub (σ : L2.St) (vs : List Nat) : ∀ ws : List Nat, (∀ v ∈ ws, v ∈ vs) → L2.wipe (L2.wipe σ vs) ws = L2.wipe σ vs
  | [], _ => rfl
  | v :: ws, h => by
    show (L2.wipe (L2.wipe σ vs) ws).set v none = _
    rw [wipe_sub σ vs ws (fun u hu => h u (List.mem_cons_of_mem _ hu)), wipe_none σ v vs (h v List.mem_cons_self)]
/-- the items one by one -/
def lcW (g : TGp) (tt : TB) (te : TP) (Γ : Ga) : List D → (List D → Prop) → Prop
  | [], k => k []
  | d :: r, k => g d Γ fun Γ1 => tt Γ1 (fun b => if b = true then te Γ1 (fun y => lcW g tt te Γ r fun ys => k (y :: ys)) (fun _ => False) else lcW g tt te Γ r k) (fun _ => False)
def tpLc (is : List Nat) (ti : TL) (g : TGp) (tt : TB) (te : TP) : TP := fun Γ k kx => ti Γ (fun ds => ds.length ≤ 100000 ∧ lcW g tt te (wipeG Γ is) ds fun ys => k (.lst ys)) kx
theorem tabs_upd {H : Hp} {p : Addr} {o : HO} (t : LamX.Tabs Tabl.T H) (m : H p = none ∨ ∃ u, H p = some u ∧ MutO u) : LamX.Tabs Tabl.T (upd H p o) := by
  rcases m with m | ⟨u, m, mu⟩
  · exact t.ext (same_upd m)
  · exact fun q hq => tab_upd (t q hq) m mu
/-- what was not there at first is laid or changed -/
theorem Up.upNew {H H2 : Hp} (x : Up H H2) {p : Addr} (h : H p = none) (m : H2 p = none ∨ ∃ u, H2 p = some u ∧ MutO u) (o : HO) : Up H (upd H2 p o) := by
  refine ⟨fun a u e n => by rw [upd_ne (ne_of_none e h)]; exact x.k _ _ e n, fun a u e => by rw [upd_ne (ne_of_none e h)]; exact x.t _ _ e, fun t => ?_⟩
  exact tabs_upd (x.tb t) m
theorem Ext.at_new {G H G2 H2 : Hp} (x : Ext G H G2 H2) {p : Addr} {o : HO} (h : H p = none) (g : G2 p = none) (m : H2 p = none ∨ ∃ u, H2 p = some u ∧ MutO u) : Ext G H G2 (upd H2 p o) :=
  ⟨x.h.upNew h m o, x.g, x.nw, ⟨fun a u e => by rw [upd_ne (ne_of_none e g)]; exact x.sub.m a u e, x.sub.nt, tabs_upd x.sub.tb m⟩⟩
theorem rd_lc {wi : TI} {g : TG} {eb : TT} {ee : TE} {ti : TL} {gp : TGp} {is vs : List Nat} {te : TP} (hi : RdI X.K W wi ti) (hg : RdG X.K is g gp) (hb : RdT X.K W0 eb tt) (he : RdP X.K W0 ee te) (hv : is = vs) :
    ∀ (G0 H0 : Hp) (Γ : Ga) (σ : L2.St) (G H : Hp) (k : KD) (kx : KX) (Q : VK), Fr X.K G0 H0 Γ σ G H → tpLc is ti gp tt te Γ k kx →
      (∀ ds G' H' D, k (.lst ds) → Ext G H G' H' → H D = none → G' D = none → (∃ xs, H' D = some (.lst xs) ∧ DenL X.K G' xs ds) → Q (.ref D) H') → XOk X.K W G H σ kx → tLc wi g eb ee vs σ H Q := by
  subst hv
  intro G0 H0 Γ σ G H k kx Q F ht hk hx
  refine hi G0 H0 Γ σ G H _ kx _ F ht (fun ds J G1 H1 k1 x1 w => ?_) hx
  intro D hD
  have hD0 : H D = none := x1.h.free hD
  refine ⟨fun i m H' => ∃ G' acc ys, m = ds.length - i ∧ i ≤ ds.length ∧ Ext G H G' H' ∧ Same G1 G' ∧ G' D = none ∧ H' D = some (.lst acc) ∧ acc.length ≤ i ∧ DenL X.K G' acc ys ∧ lcW gp tt te (wipeG Γ is) (ds.drop i) (fun zs => k (.lst (ys ++ zs))),
    ⟨ds.length, G1, [], [], by simp, Nat.zero_le _, x1.at_new hD0 (x1.sub.none hD) (.inl hD), Same.refl _, x1.sub.none hD, upd_same, Nat.le_refl _, .nil, k1.2⟩, ?_⟩
  rintro i m H2 ⟨G2, acc, ys, rfl, hi, x2, s2, g2, h2, la, ra, k2⟩
  by_cases hlt : i < ds.length
  · refine .inr ⟨w.go i G2 H2 hlt s2 x2.sub, fun H' => ∃ G' acc ys, i + 1 ≤ ds.length ∧ Ext G H G' H' ∧ Same G1 G' ∧ G' D = none ∧ H' D = some (.lst acc) ∧ acc.length ≤ i + 1 ∧ DenL X.K G' acc ys ∧ lcW gp tt te (wipeG Γ is) (ds.drop (i + 1)) (fun zs => k (.lst (ys ++ zs))),
      fun H' ⟨G', acc, ys, a1, a2, a3, a4, a5, a6, a7, a8⟩ => ⟨ds.length - (i + 1), by omega, G', acc, ys, rfl, a1, a2, a3, a4, a5, a6, a7, a8⟩, fun v H3 y => ?_⟩
    obtain ⟨d, G3, hd, x3, n3⟩ := w.yl i G2 H2 v H3 hlt s2 x2.sub y
    have e : ds.drop i = d :: ds.drop (i + 1) := by
      rw [List.drop_eq_getElem_cons hlt]
      congr 1
      have := List.getElem?_eq_getElem hlt
      rw [hd] at this
      exact (Option.some.inj this).symm
    rw [e] at k2
    have F3 : Fr X.K G0 H0 (wipeG Γ is) (L2.wipe σ is) G3 H3 := (F.up (x2.trans x3)).wipe is
    refine hg G0 H0 _ _ G3 H3 d v _ _ F3 n3 k2 fun Γ4 σ4 k4 F4 hw => ⟨by rw [hw, wipe_sub σ is is (fun _ z => z)], ?_⟩
    refine hb G0 H0 Γ4 σ4 G3 H3 _ _ _ F4 k4 (fun b G5 H5 k5 x5 => ?_) (fun _ _ _ _ _ z => z.elim)
    have hD5 : H5 D = some (.lst acc) := x5.h.lst (x3.h.lst h2)
    have g5 : G5 D = none := x5.nw _ (x3.nw _ g2 ⟨_, h2⟩) ⟨_, x3.h.lst h2⟩
    cases b with
    | true =>
      rw [if_pos rfl]
      refine he G0 H0 Γ4 σ4 G5 H5 _ _ _ (F4.up x5) k5 (fun yd yv G6 H6 k6 x6 n6 => ?_) (fun _ _ _ _ _ z => z.elim)
      have hD6 : H6 D = some (.lst acc) := x6.h.lst hD5
      have g6 : G6 D = none := x6.nw _ g5 ⟨_, hD5⟩
      have hz : ds.length ≤ 100000 := k1.1
      refine ⟨acc, hD6, sz5' (by omega), G6, acc ++ [yv], ys ++ [yd], hlt, ((x2.trans x3).trans (x5.trans x6)).at_new hD0 g6 (.inr ⟨_, hD6, trivial⟩), ((s2.trans x3.g).trans x5.g).trans x6.g, g6, upd_same, by rw [List.length_append, List.length_singleton]; omega,
        (ra.up ((x3.g.trans x5.g).trans x6.g)).append (.cons n6 .nil), ?_⟩
      have e2 : (fun zs => k (.lst (ys ++ [yd] ++ zs))) = fun zs => k (.lst (ys ++ yd :: zs)) := by
        funext zs
        rw [List.append_assoc]
        rfl
      rw [e2]
      exact k6
    | false =>
      rw [if_neg Bool.false_ne_true]
      exact ⟨G5, acc, ys, hlt, (x2.trans x3).trans x5, (s2.trans x3.g).trans x5.g, g5, hD5, by omega, ra.up (x3.g.trans x5.g), k5⟩
  · have e : i = ds.length := by omega
    subst e
    refine .inl ⟨w.st G2 H2 s2 x2.sub, ?_⟩
    rw [List.drop_length] at k2
    have k2 : k (.lst (ys ++ [])) := k2
    rw [List.append_nil] at k2
    exact hk ys G2 H2 D k2 x2 hD0 g2 ⟨acc, h2, ra⟩
theorem lc_parts {elt tg iter : Expr} {ifs : List Expr} {scope : Scope} {own : List (PySem.Str × Nat)} {ti : TL} {gp : TGp} {is : List Nat} {te : TP} (hc : X.calm = true) (hN : X.N.Nodup) (hi : PIt X W tg iter ti) (ok : BlkOk X.N X.env.scope scope own)
    (hg : ∀ i : Bi, PGt (Cx.bl X scope i) tg is gp) (ht : ∀ i : Bi, PBs (Cx.bl X scope i) W0 ifs tt) (he : ∀ i : Bi, PP (Cx.bl X scope i) W0 elt te) (hv : is = own.map (·.2)) (hs : ∀ x, foldedSetIterable iter X.env x = pure x := by intro _; rfl) :
    ∃ ta, PE X (.ListComp elt [⟨tg, iter, ifs, 0⟩] scope pos) ta ∧ ∀ (G0 H0 : Hp) (Γ : Ga) (σ : L2.St) (G H : Hp) (k : KD) (kx : KX) (Q : VK), Fr X.K G0 H0 Γ σ G H → tpLc is ti gp tt te Γ k kx →
      (∀ ds G' H' D, k (.lst ds) → Ext G H G' H' → H D = none → G' D = none → (∃ xs, H' D = some (.lst xs) ∧ DenL X.K G' xs ds) → Q (.ref D) H') → XOk X.K W G H σ kx → ta σ H Q := by
  obtain ⟨wi, pi, ri⟩ := hi.ex
  obtain ⟨g, pg, rg⟩ := pg_unif (Xf := fun i : Bi => Cx.bl X scope i) (K := X.K) (fun _ => rfl) hg
  obtain ⟨eb, pb, rb⟩ := bs_unif (Xf := fun i : Bi => Cx.bl X scope i) (K := X.K) (fun _ => rfl) ht
  obtain ⟨ee, pe, re⟩ := pp_unif (Xf := fun i : Bi => Cx.bl X scope i) (K := X.K) (fun _ => rfl) he ⟨X.s_0, X.H_0, 0, [], []⟩
  exact ⟨_, pe_lc hc hN pi ok (fun s H C cl fp => pg (s, H, C, cl, fp)) (fun s H C cl fp => pb (s, H, C, cl, fp)) (fun s H C cl fp => pe (s, H, C, cl, fp)) hs, rd_lc ri rg rb re hv⟩
theorem p_lc {elt tg iter : Expr} {ifs : List Expr} {scope : Scope} (own : List (PySem.Str × Nat)) {ti : TL} {gp : TGp} {is : List Nat} {te : TP} (hc : X.calm = true) (hN : X.N.Nodup) (hi : PIt X W tg iter ti) (ok : BlkOk X.N X.env.scope scope own)
    (hg : ∀ i : Bi, PGt (Cx.bl X scope i) tg is gp) (ht : ∀ i : Bi, PBs (Cx.bl X scope i) W0 ifs tt) (he : ∀ i : Bi, PP (Cx.bl X scope i) W0 elt te) (hv : is = own.map (·.2) := by rfl) (hs : ∀ x, foldedSetIterable iter X.env x = pure x := by intro _; rfl) :
    PP X W (.ListComp elt [⟨tg, iter, ifs, 0⟩] scope pos) (tpLc is ti gp tt te) := by
  obtain ⟨ta, pa, ra⟩ := lc_parts (pos := pos) hc hN hi ok hg ht he hv hs
  refine ⟨ta, pa, fun G0 H0 Γ σ G H k kx Q F h hk hx => ra G0 H0 Γ σ G H k kx Q F h (fun ds G' H' D kd x hD gD ⟨xs, h1, h2⟩ => ?_) hx⟩
  exact hk _ _ _ H' kd (Ext.thaw x.sub x hD gD h1) (.lst upd_same (h2.up (same_upd gD)))
end
end PL
set_option Elab.async false
set_option linter.all false
set_option maxRecDepth 100000
set_option maxHeartbeats 2000000
namespace PL
open PySem L2 TL
variable [Tabl]
section
variable {X : Cx} {W : WX} {e a b c : Expr} {es : List Expr} {t ta tb tc : TP} {tl tk : TL} {tt tu : TB} {pos p : Pos} {x y z : PySem.Str}
def texts : List D → Option (List (List Nat))
  | [] => some []
  | .str s :: r => (texts r).map (s :: ·)
  | _ :: _ => none
theorem texts_eq : ∀ {ds : List D} {ss : List (List Nat)}, texts ds = some ss → ds = ss.map D.str
  | [], ss, h => by cases h; rfl
  | d :: r, ss, h => by
    cases d with
    | str b =>
      unfold texts at h
      cases e : texts r with
      | none => rw [e] at h; cases h
      | some cs =>
        rw [e] at h
        cases h
        rw [List.map_cons, ← texts_eq e]
    | _ => cases h
theorem texts_map : ∀ ss : List (List Nat), texts (ss.map D.str) = some ss
  | [] => rfl
  | b :: r => by
    show (texts (r.map D.str)).map (b :: ·) = _
    rw [texts_map r]
    rfl
def onSs (ds : List D) (k : List (List Nat) → Prop) : Prop := match texts ds with
  | some ss => k ss
  | none => False
theorem onSs_map {ss : List (List Nat)} {k : List (List Nat) → Prop} : onSs (ss.map D.str) k = k ss := by
  unfold onSs
  rw [texts_map]
theorem onSs_elim {ds : List D} {k : List (List Nat) → Prop} (h : onSs ds k) : ∃ ss, ds = ss.map D.str ∧ k ss := by
  unfold onSs at h
  cases e : texts ds with
  | none => simp only [e] at h
  | some ss =>
    simp only [e] at h
    exact ⟨ss, texts_eq e, h⟩
theorem denL_str {K : PySem.W.Frag} {G : Hp} : ∀ {ss : List (List Nat)} {vs : List V}, DenL K G vs (ss.map D.str) → vs = (ss.map SS).map V.str
  | [], _, h => by cases h; rfl
  | b :: r, _, h => by
    cases h with
    | cons h1 h2 =>
      cases h1
      rw [denL_str h2]
      rfl
theorem joinL_ss (s : List Nat) (ss : List (List Nat)) : Txt.join (SS s) (ss.map SS) = SS (joinL s ss) := by
  have q := tl_join (SS s) (ss.map SS)
  rw [List.map_map] at q
  have e : (tl ∘ SS) = fun s : List Nat => s := by
    funext s
    show (SS s).cps.toList = s
    simp [SS]
  rw [e, List.map_id'] at q
  rw [join_eq]
  have e2 : (SS s).cps.toList = s := by simp [SS]
  have q' : (PySem.Str.join (SS s) (ss.map SS)).cps.toList = joinL s ss := by
    have : tl (SS s) = s := e2
    rw [this] at q
    exact q
  show _ = PySem.Str.mk (joinL s ss).toArray
  rw [← q']
def joinSize (s : List Nat) (ss : List (List Nat)) : Nat := (ss.map (·.length)).sum + ss.length * s.length
def fJoin (s : List Nat) : D → KD → Prop
  | .lst xs, k => onSs xs fun ss => joinSize s ss ≤ 16777216 ∧ k (.str (joinL s ss))
  | .tup xs, k => onSs xs fun ss => joinSize s ss ≤ 16777216 ∧ k (.str (joinL s ss))
  | _, _ => False
def onStr (d : D) (k : List Nat → Prop) : Prop := match d with
  | .str s => k s
  | _ => False
def tpJoin (ta tb : TP) : TP := fun Γ k kx => ta Γ (fun d => onStr d fun s => tb Γ (fun y => fJoin s y k) kx) kx
def rJoin (K : PySem.W.Frag) : V → List V → Hp → VK → Prop := fun x xs H Q => ∃ a p, ∃ ys : List PySem.Str, x = .str a ∧ xs = [.ref p] ∧ (SqL K H p (ys.map V.str) ∨ SqT K H p (ys.map V.str)) ∧
  (ys.map (·.length)).sum + ys.length * a.length ≤ 16777216 ∧ Q (.str (Txt.join a ys)) H
theorem joinSize_ss (s : List Nat) (ss : List (List Nat)) : ((ss.map SS).map (·.length)).sum + (ss.map SS).length * (SS s).length = joinSize s ss := by
  unfold joinSize
  rw [List.map_map, List.length_map, ss_length]
  have e : ((fun x : PySem.Str => x.length) ∘ SS) = fun s : List Nat => s.length := by
    funext s
    exact ss_length s
  rw [e]
theorem rd_join {ea eb : TE} (ra : RdP X.K W ea ta) (rb : RdU X.K W eb tb) : RdP X.K W (tM1 (rJoin X.K) ea eb) (tpJoin ta tb) := by
  intro G0 H0 Γ σ G H k kx Q F ht hk hx
  refine ra G0 H0 Γ σ G H _ kx _ F ht (fun d1 v1 G1 H1 k1 x1 n1 => ?_) hx
  -- the text
  cases d1 with
  | str s =>
    cases n1
    refine ⟨⟨_, rfl⟩, ?_⟩
    refine rb G0 H0 Γ σ G1 H1 _ kx _ (F.up x1) k1 (fun d2 v2 G2 H2 k2 x2 n2 => ?_) (hx.up x1)
    cases d2 with
    | lst xs =>
      obtain ⟨ss, rfl, hz, k3⟩ := onSs_elim (show onSs xs fun ss => joinSize s ss ≤ 16777216 ∧ k (.str (joinL s ss)) from k2)
      obtain ⟨q, ys, rfl, h1, r1⟩ := n2.lst x2.sub
      rw [denL_str r1] at h1
      exact ⟨SS s, q, ss.map SS, rfl, rfl, .inl (SqL.of h1), by rw [joinSize_ss]; exact hz, by rw [joinL_ss]; exact hk _ _ G2 H2 k3 (x1.trans x2) (.str _)⟩
    | tup xs =>
      obtain ⟨ss, rfl, hz, k3⟩ := onSs_elim (show onSs xs fun ss => joinSize s ss ≤ 16777216 ∧ k (.str (joinL s ss)) from k2)
      obtain ⟨q, ys, rfl, h1, r1⟩ := n2.tup x2.sub
      rw [denL_str r1] at h1
      exact ⟨SS s, q, ss.map SS, rfl, rfl, .inr h1, by rw [joinSize_ss]; exact hz, by rw [joinL_ss]; exact hk _ _ G2 H2 k3 (x1.trans x2) (.str _)⟩
    | _ => exact k2.elim
  | _ => exact k1.elim
theorem p_join {call : Expr} (ha : PP X W a ta) (hb : PU X W b tb) (hc : ∀ ea eb, PE X a ea → PE X b eb → PE X call (tM1 (rJoin X.K) ea eb)) : PP X W call (tpJoin ta tb) := by
  obtain ⟨ea, pa, ra⟩ := ha.ex
  obtain ⟨eb, pb, rb⟩ := hb.ex
  exact ⟨_, hc _ _ pa pb, rd_join ra rb⟩
def stores : List Nat → List D → Ga → Option Ga
  | [], [], Γ => some Γ
  | i :: r, d :: s, Γ => stores r s (gset Γ i (.pu d))
  | _, _, _ => none
def tsPar (is : List Nat) (tl : TL) : TSp := fun P Γ => tl Γ (fun ds => match stores is ds Γ with
  | some Γ' => P.nx Γ'
  | none => False) (fun x => P.xx x Γ)
theorem s_par2 (i j : Nat) {px py pt : Pos} {kt k2 pt2} (hc : X.calm = true) (hN : X.N.Nodup) (h : PL' X W [a, b] tl) (hij : i ≠ j := by decide) (hi : X.N[i]? = some x := by rfl) (hj : X.N[j]? = some y := by rfl)
    (hx : X.env.scope.names.lookup x = some .local := by rfl) (hy : X.env.scope.names.lookup y = some .local := by rfl)
    (hw : swappedStores [.Tuple [.Name x px, .Name y py] kt pt] (.Tuple [a, b] k2 pt2) X.env = pure (some [x, y]) := by rfl)
    (hs : swapsWithSole [.Tuple [.Name x px, .Name y py] kt pt] (.Tuple [a, b] k2 pt2) pos.line X.env = pure false := by rfl) :
    PS1 X W (.Assign [.Tuple [.Name x px, .Name y py] kt pt] (.Tuple [a, b] k2 pt2) pos) (tsPar [i, j] tl) := by
  obtain ⟨ea, pa, ra⟩ := h.ex
  refine ⟨_, ps_par hc hN hi hj hij hx hy pa hw hs, fun G0 H0 Γ σ G H P E F ht ok => ?_⟩
  refine ra G0 H0 Γ σ G H _ _ _ F ht (fun ds vs G' H' k xt n => ?_) (ok.x F)
  match ds, k, n with
  | [d1, d2], k, .cons n1 (.cons n2 .nil) => exact ⟨_, _, rfl, ok.nx _ _ G' H' k (((F.up xt).set i n1).set j n2)⟩
theorem s_par3 (i j l : Nat) {px py pz pt : Pos} {kt k2 pt2} (hc : X.calm = true) (hN : X.N.Nodup) (h : PL' X W [a, b, c] tl) (hij : i ≠ j := by decide) (hil : i ≠ l := by decide) (hjl : j ≠ l := by decide) (hi : X.N[i]? = some x := by rfl) (hj : X.N[j]? = some y := by rfl) (hl : X.N[l]? = some z := by rfl)
    (hx : X.env.scope.names.lookup x = some .local := by rfl) (hy : X.env.scope.names.lookup y = some .local := by rfl) (hz : X.env.scope.names.lookup z = some .local := by rfl)
    (hw : swappedStores [.Tuple [.Name x px, .Name y py, .Name z pz] kt pt] (.Tuple [a, b, c] k2 pt2) X.env = pure (some [x, y, z]) := by rfl)
    (hs : swapsWithSole [.Tuple [.Name x px, .Name y py, .Name z pz] kt pt] (.Tuple [a, b, c] k2 pt2) pos.line X.env = pure false := by rfl) :
    PS1 X W (.Assign [.Tuple [.Name x px, .Name y py, .Name z pz] kt pt] (.Tuple [a, b, c] k2 pt2) pos) (tsPar [i, j, l] tl) := by
  obtain ⟨ea, pa, ra⟩ := h.ex
  refine ⟨_, ps_par3 hc hN hi hj hl hij hil hjl hx hy hz pa hw hs, fun G0 H0 Γ σ G H P E F ht ok => ?_⟩
  refine ra G0 H0 Γ σ G H _ _ _ F ht (fun ds vs G' H' k xt n => ?_) (ok.x F)
  match ds, k, n with
  | [d1, d2, d3], k, .cons n1 (.cons n2 (.cons n3 .nil)) => exact ⟨_, _, _, rfl, ok.nx _ _ G' H' k ((((F.up xt).set i n1).set j n2).set l n3)⟩
def tpChain (f g : F2) (ta tb tc : TP) : TP := fun Γ k kx => ta Γ (fun d1 => tb Γ (fun d2 => f d1 d2 fun r => onB r fun q => if q = true then tc Γ (fun d3 => g d2 d3 k) kx else k (.bl false)) kx) kx
theorem p_chain {op op2 : CmpOp} {r r2 : R2} {f g : F2} (ho : OpR X (compareOp op) r ∧ RdO X.K r f) (ho2 : OpR X (compareOp op2) r2 ∧ RdO X.K r2 g) (ha : PU X W a ta) (hb : PU X W b tb) (hc : PU X W c tc) (hpe : ∀ {ea eb ec}, PE X a ea → PE X b eb → PE X c ec → PE X e (tChain r r2 ea eb ec)) :
    PP X W e (tpChain f g ta tb tc) := by
  obtain ⟨ea, pa, ra⟩ := ha.ex
  obtain ⟨eb, pb, rb⟩ := hb.ex
  obtain ⟨ec, pc, rc⟩ := hc.ex
  refine ⟨_, hpe pa pb pc, fun G0 H0 Γ σ G H k kx Q F ht hk hx => ?_⟩
  refine ra G0 H0 Γ σ G H _ kx _ F ht (fun d1 v1 G1 H1 k1 x1 n1 => ?_) hx
  refine rb G0 H0 Γ σ G1 H1 _ kx _ (F.up x1) k1 (fun d2 v2 G2 H2 k2 x2 n2 => ?_) (hx.up x1)
  refine ho.2 H0 G2 H2 v1 v2 d1 d2 _ _ x2.sub (n1.up x2) n2 k2 fun d v G3 H3 k3 x3 n3 => ?_
  obtain ⟨q, rfl, k3⟩ := onB_elim k3
  refine ⟨q, DenU.bl (.inl n3) (H0 := H0) (H := H3), ?_⟩
  have x13 := (x1.trans x2).trans x3
  cases q with
  | true =>
    refine rc G0 H0 Γ σ G3 H3 _ kx _ (F.up x13) k3 (fun d3 v3 G4 H4 k4 x4 n4 => ?_) (hx.up x13)
    exact ho2.2 H0 G4 H4 v2 v3 d2 d3 k Q x4.sub (n2.up (x3.trans x4)) n4 k4 fun d v G' H' kd ex dn => hk d v G' H' kd ((x13.trans x4).trans ex) dn
  | false => exact hk _ _ G3 H3 k3 x13 (.bl _)
end
end PL
set_option Elab.async false
set_option linter.all false
set_option maxRecDepth 100000
set_option maxHeartbeats 2000000
namespace PL
open PySem L2
variable [Tabl]
def hole (H : Hp) (p : Addr) : Hp := fun a => if a = p then none else H a
theorem hole_at {H : Hp} {p : Addr} : hole H p p = none := by unfold hole; rw [if_pos rfl]
theorem hole_ne {H : Hp} {p a : Addr} (h : a ≠ p) : hole H p a = H a := by unfold hole; rw [if_neg h]
theorem hole_same {H : Hp} {p : Addr} : Same (hole H p) H := fun a o e => by
  by_cases h : a = p
  · subst h
    rw [hole_at] at e
    cases e
  · rwa [hole_ne h] at e
/-- the j-th argument is an object of the caller's that the def changes: what it holds behind the call is handed on too -/
abbrev FSo := List D → (D → D → Prop) → KX → Prop
def spOw (K : PySem.W.Frag) (n j : Nat) (fs : FSo) : Sp := fun vs H Q E => ∃ G ds k kx p, vs.length = n ∧ ds.length = n ∧ Sub G H ∧ G p = none ∧ vs[j]? = some (.ref p) ∧ (∃ d, ds[j]? = some d ∧ OwnAt K (hole H p) G H p d) ∧
  (∀ (i : Nat) v d, i ≠ j → vs[i]? = some v → ds[i]? = some d → Den K G v d) ∧ fs ds k kx ∧
  (∀ d e v G' H', k d e → Ext G (hole H p) G' H' → G' p = none → OwnAt K (hole H p) G' H' p e → Den K G' v d → Q v H') ∧
  (∀ x cls dA G' H', kx x → Ext G (hole H p) G' H' → G' p = none → XDen K G' H' cls dA x → E cls dA H')
def oEnds (j : Nat) (p : Addr) (k : D → D → Prop) (kx : KX) : PEn := ⟨fun Γ => match gat Γ j with | .pw q e => q = p ∧ k .non e | _ => False, fun _ => False, fun _ => False, fun d Γ => match gat Γ j with | .pw q e => q = p ∧ k d e | _ => False,
  fun x Γ => match gat Γ j with | .pw q _ => q = p ∧ kx x | _ => False⟩
def gaO (m j : Nat) (p : Addr) (ds : List D) : Ga := gset (ga0 m ds) j (.pw p (ds.getD j .non))
theorem frO {K : PySem.W.Frag} {G H : Hp} {N : List PySem.Str} {vs : List V} {ds : List D} {p : Addr} {j : Nat} {d : D} (s : Sub G H) (hl : vs.length = ds.length) (g : G p = none) (hv : vs[j]? = some (.ref p)) (hd : ds[j]? = some d) (ho : OwnAt K (hole H p) G H p d)
    (hr : ∀ (i : Nat) v d, i ≠ j → vs[i]? = some v → ds[i]? = some d → Den K G v d) : Fr K G (hole H p) (gaO N.length j p ds) (L2.start N vs) G H := by
  have hj : j < ds.length := (List.getElem?_eq_some_iff.mp hd).1
  have hjd : ds.getD j .non = d := by rw [List.getD_eq_getElem?_getD, hd]; rfl
  have la : (ga0 N.length ds).length = (L2.start N vs).length := by unfold L2.start ga0; simp [hl]
  have lj : j < (ga0 N.length ds).length := by unfold ga0; rw [List.length_append, List.length_map]; omega
  have key : ∀ i, i ≠ j → (∃ d, ds[i]? = some d ∧ (ga0 N.length ds)[i]? = some (.pu d)) ∨ (ds.length ≤ i ∧ ∀ s, (ga0 N.length ds)[i]? = some s → s = .un) := fun i _ => by
    by_cases h : i < ds.length
    · refine .inl ⟨ds[i], List.getElem?_eq_getElem h, ?_⟩
      unfold ga0
      rw [List.getElem?_append_left (by rw [List.length_map]; exact h), List.getElem?_map, List.getElem?_eq_getElem h]
      rfl
    · refine .inr ⟨Nat.le_of_not_lt h, fun s e => ?_⟩
      unfold ga0 at e
      rw [List.getElem?_append_right (by rw [List.length_map]; omega)] at e
      have := List.mem_of_getElem? e
      exact (List.mem_replicate.mp this).2
  have pw_only : ∀ (i : Nat) (s : Sl), (gaO N.length j p ds)[i]? = some s → s.owns → i = j := fun i s h ow => by
    by_cases hi : i = j
    · exact hi
    · exfalso
      unfold gaO at h
      rw [gset_eq, List.getElem?_set_ne (Ne.symm hi)] at h
      rcases key i hi with ⟨d, e, q⟩ | ⟨_, q⟩
      · rw [q] at h
        cases h
        exact ow
      · rw [q s h] at ow
        exact ow
  refine ⟨by unfold gaO; rw [gset_eq, List.length_set]; exact la.symm, ⟨.of hole_same, Same.refl G, fun _ h _ => h, s⟩, fun i t h => ?_, fun a b q t u h1 h2 h3 h4 _ _ => (pw_only a t h1 h2).trans (pw_only b u h3 h4).symm⟩
  by_cases hi : i = j
  · subst hi
    unfold gaO at h
    rw [gset_eq, List.getElem?_set_self lj] at h
    cases h
    rw [hjd]
    refine ⟨?_, g, hole_at, ho⟩
    unfold L2.start
    rw [List.getElem?_append_left (by rw [List.length_map, hl]; exact hj), List.getElem?_map, hv]
    rfl
  · unfold gaO at h
    rw [gset_eq, List.getElem?_set_ne (Ne.symm hi)] at h
    rcases key i hi with ⟨d, e, q⟩ | ⟨_, q⟩
    · rw [q] at h
      cases h
      have hi2 : i < vs.length := by rw [hl]; exact (List.getElem?_eq_some_iff.mp e).1
      refine ⟨vs[i], ?_, hr i _ d hi (List.getElem?_eq_getElem hi2) e⟩
      unfold L2.start
      rw [List.getElem?_append_left (by rw [List.length_map]; exact hi2), List.getElem?_map, List.getElem?_eq_getElem hi2]
      rfl
    · rw [q t h]
      trivial
section
variable {P : Program} {w : World} {K : PySem.W.Frag} {mg : PySem.Str → Option Value} {base : Heap}
theorem fn_okO {x qual : PySem.Str} {st : Stmt} {f : Addr} {fd : FuncData} {N ps : List PySem.Str} {k n j : Nat} {fs : FSo} (F : Fun K x qual st f fd) (S : FnScope N ps (defScope st)) (hn : ps.length = n)
    (body : ∀ (cdv : Value) (A : Around) (outer : List Env) (s : Shared) (H : Hp) (E : XK), Room k (A.deeper (PyProof.Rows.envOfC qual (defScope st) s.heap.objs.size f cdv)) →
      ∃ t, PSS (cxOf (L2.CX P w) P w K mg base N qual (defScope st) f cdv A outer s H E) (fun cls d _ H => E cls d H) (defBody st) t ∧ ∀ ds kd kx p, ds.length = n → fs ds kd kx → t (oEnds j p kd kx) (gaO N.length j p ds)) :
    FnOk P w K mg base (L2.CX P w) (k + 1) f fd ps (spOw K n j fs) := by
  refine F.okX S (fun vs H Q E h => ?_) (fun cdv A outer s H vs Q E hr h => ?_)
  · obtain ⟨G, ds, kd, kx, p, b, _⟩ := h
    rw [b, hn]
  · obtain ⟨G, ds, kd, kx, p, hlv, hl, sb, g, hv, ⟨d, hd, ho⟩, r, hf, hk, hx⟩ := h
    obtain ⟨t, ⟨ts, ps, rd⟩, ht⟩ := body cdv A outer s H E hr
    have F0 := frO (N := N) sb (hlv.trans hl.symm) g hv hd ho r
    have fin : ∀ {Γ σ G' H'} {k0 : D → Prop}, (match gat Γ j with | .pw q e => q = p ∧ k0 e | _ => False) → Fr K G (hole H p) Γ σ G' H' → ∃ e, k0 e ∧ G' p = none ∧ OwnAt K (hole H p) G' H' p e := fun {Γ σ G' H' k0} q F' => by
      cases e : gat Γ j with
      | pw q2 e2 =>
        rw [e] at q
        obtain ⟨rfl, q⟩ := q
        obtain ⟨_, g2, _, o2⟩ := F'.at_ j _ (gat_get Γ j _ e (by simp))
        exact ⟨e2, q, g2, o2⟩
      | _ => rw [e] at q; exact q.elim
    refine ⟨ts, ps, rd G (hole H p) _ (L2.start N vs) G H (oEnds j p kd kx) _ F0 (ht ds kd kx p hl hf) ⟨?_, ?_, ?_, ?_, ?_⟩⟩
    · intro Γ σ G' H' q F'
      obtain ⟨e, q, g2, o2⟩ := fin q F'
      exact hk .non e .non G' H' q F'.e g2 o2 .non
    · intro Γ σ G' H' q
      exact q.elim
    · intro Γ σ G' H' q
      exact q.elim
    · intro d v Γ σ G' H' q F' n
      obtain ⟨e, q, g2, o2⟩ := fin q F'
      exact hk d e v G' H' q F'.e g2 o2 n
    · intro x cls dA Γ σ G' H' q F' n
      obtain ⟨e, q, g2, o2⟩ := fin (k0 := fun _ => kx x) q F'
      exact hx x cls dA G' H' q F'.e g2 n
end
section
variable {X : Cx} {W : WX} {e a b c : Expr} {es : List Expr} {t ta tb tc : TP} {tl tk : TL} {tt tu : TB} {pos p : Pos} {x y z : PySem.Str}
def tsSetIx (i : Nat) (ti te : TP) : TSp := fun P Γ => te Γ (fun d => onOL Γ i fun ds => ti Γ (fun j => match j with
  | .int n => match ixN ds.length n with
    | some m => P.nx (oput Γ i (.lst (ds.set m d)))
    | none => False
  | _ => False) (fun x => P.xx x Γ)) (fun x => P.xx x Γ)
theorem rd_setIx {ei ee : TE} {ti te : TP} (i : Nat) (ri : RdP X.K W ei ti) (re : RdP X.K W ee te) : RdS X.K W (tAsg ee (gSub (tVar i) ei rSetL)) (tsSetIx i ti te) := by
  intro G0 H0 Γ σ G H P E F ht ok
  refine re G0 H0 Γ σ G H _ _ _ F ht (fun d v G1 H1 k1 x1 n1 => ?_) (ok.x F)
  obtain ⟨ds, hs, k1⟩ := onOL_elim k1
  have F1 := F.up x1
  obtain ⟨key, p, e1, g1, h01, xs0, q1, q2⟩ := own_at F1 hs
  refine ⟨.ref p, e1, ?_⟩
  refine ri G0 H0 Γ σ G1 H1 _ _ _ F1 k1 (fun d2 v2 G2 H2 k2 x2 n2 => ?_) ((ok.x F).up x1)
  cases d2 with
  | int n =>
    cases n2
    cases e : ixN ds.length n with
    | none => simp only [e] at k2
    | some m =>
      simp only [e] at k2
      have F2 := F1.up x2
      obtain ⟨_, p', e2, g2, h02, xs, q3, q4⟩ := own_at F2 hs
      rw [e1] at e2
      cases e2
      refine ⟨p, xs, n, m, rfl, rfl, q3, by rw [q4.length]; exact e, ?_⟩
      exact ok.nx _ _ _ _ k2 (F2.mut key hs e1 g2 h02 q3 trivial ⟨_, upd_same, q4.set (n1.up x2.g) m⟩)
  | _ => exact k2.elim
theorem s_setIx (i : Nat) {o ix : Expr} {ti te : TP} {p2 : Pos} (ho : PE X o (tVar i)) (hi : PP X W ix ti) (he : PP X W e te) (hps : ∀ {ei ee}, PE X ix ei → PE X e ee → PS X (.Assign [.Subscript o ix p2] e pos) (tAsg ee (gSub (tVar i) ei rSetL))) :
    PS1 X W (.Assign [.Subscript o ix p2] e pos) (tsSetIx i ti te) := by
  obtain ⟨ei, pi, ri⟩ := hi.ex
  obtain ⟨ee, pe, re⟩ := he.ex
  exact ⟨_, hps pi pe, rd_setIx i ri re⟩
end
section
variable {P : Program} {w : World}
theorem bag_vals {l : Addr} {i g s : Int} {its : List Value} (h : Vals [.ref l, .int i, .int g, .int s] its) : ∃ t1 t2 t3, its = [.ref l, .int i t1, .int g t2, .int s t3] := by
  cases h with
  | cons h1 h =>
    cases h with
    | cons h2 h =>
      cases h with
      | cons h3 h =>
        cases h with
        | cons h4 h =>
          cases h
          cases h1
          obtain ⟨t1, rfl⟩ := h2
          obtain ⟨t2, rfl⟩ := h3
          obtain ⟨t3, rfl⟩ := h4
          exact ⟨t1, t2, t3, rfl⟩
/-- the list is hidden -/
theorem bag_close {H : Hp} {h : Heap} {b l : Addr} {i n : Nat} {g s : Int} (ok : HOk P w H h) (hb : H b = some (.lst [.ref l, .int i, .int g, .int s])) (hi : i ≤ n) (hg : 0 ≤ g) (h0 : 0 ≤ s) (h1 : s < 2147483543) : HOk P w (upd H b (.ext (BagRaw b l n))) h := by
  intro c o e
  by_cases hc : c = b
  · subst hc
    rw [upd_same] at e
    cases e
    obtain ⟨_, its, m, r, q⟩ := (show ObjOk P w H h c (.lst [.ref l, .int i, .int g, .int s]) from ok c _ hb)
    obtain ⟨t1, t2, t3, rfl⟩ := bag_vals r
    exact ⟨⟨m, i, g, s, t1, t2, t3, hi, hg, h0, h1, q⟩, ⟨_, q⟩, fun h1 h2 ⟨m, i, g, s, t1, t2, t3, a1, a2, a3, a4, a5⟩ k => ⟨m, i, g, s, t1, t2, t3, a1, a2, a3, a4, k _ a5⟩⟩
  · rw [upd_ne hc] at e
    refine (ok c o e).stay (fun _ _ _ q => q) (fun d q => ?_) (fun d xs q => ?_)
    · rw [upd_ne (fun z => by rw [z, hb] at q; cases q)]
      exact q
    · rw [upd_ne (fun z => by rw [z, hb] at q; cases q)]
      exact q
/-- .. is seen -/
theorem bag_open {H : Hp} {h : Heap} {b l : Addr} {n : Nat} (ok : HOk P w H h) (hb : H b = some (.ext (BagRaw b l n))) : ∃ (i : Nat) (g s : Int), i ≤ n ∧ 0 ≤ g ∧ 0 ≤ s ∧ s < 2147483543 ∧ HOk P w (upd H b (.lst [.ref l, .int i, .int g, .int s])) h := by
  obtain ⟨⟨m, i, g, s, t1, t2, t3, a1, a2, a3, a4, a5⟩, _, _⟩ := (show ObjOk P w H h b (.ext (BagRaw b l n)) from ok b _ hb)
  refine ⟨i, g, s, a1, a2, a3, a4, fun c o e => ?_⟩
  by_cases hc : c = b
  · subst hc
    rw [upd_same] at e
    cases e
    exact ⟨by show 4 ≤ sizeLine; decide, [.ref l, .int i t1, .int g t2, .int s t3], m, .cons rfl (.cons ⟨t1, rfl⟩ (.cons ⟨t2, rfl⟩ (.cons ⟨t3, rfl⟩ .nil))), a5⟩
  · rw [upd_ne hc] at e
    refine (ok c o e).stay (fun _ _ _ q => q) (fun d q => ?_) (fun d xs q => ?_)
    · rw [upd_ne (fun z => by rw [z, hb] at q; cases q)]
      exact q
    · rw [upd_ne (fun z => by rw [z, hb] at q; cases q)]
      exact q
theorem un_close {fs : List Addr} {H H' : Hp} {h h' : Heap} {b l : Addr} {n : Nat} {xs : List V} (u : Un fs [] H H' h h') (hb : H' b = some (.lst xs)) (h0 : H b = none ∨ ∃ φ, H b = some (.ext φ)) : Un fs [] H (upd H' b (.ext (BagRaw b l n))) h h' where
  keep := u.keep
  slot := u.slot
  free := fun c o q z hx => by
    have e := u.free c o q z hx
    rw [upd_ne (fun z => by rw [z, hb] at e; cases e)]
    exact e
  there := u.there
  tups := fun c ys z => by
    have e := u.tups c ys z
    rw [upd_ne (fun z => by rw [z, hb] at e; cases e)]
    exact e
  frzs := fun c o v z => by
    have e := u.frzs c o v z
    rw [upd_ne (fun z => by rw [z, hb] at e; cases e)]
    exact e
  tbls := fun c ps z => by
    obtain ⟨more, e⟩ := u.tbls c ps z
    exact ⟨more, by rw [upd_ne (fun z => by rw [z, hb] at e; cases e)]; exact e⟩
theorem un_open {fs : List Addr} {H H' : Hp} {h h' : Heap} {b : Addr} {φ : Heap → Prop} {o : HO} (u : Un fs [] (upd H b o) H' h h') (hb : H b = some (.ext φ)) : Un fs [] H H' h h' where
  keep := fun c o q z hf hx => u.keep c o q (by rw [upd_ne (fun y => by rw [y, hb] at z; cases z)]; exact z) hf hx
  slot := fun c o q z hf hx => u.slot c o q (by rw [upd_ne (fun y => by rw [y, hb] at z; cases z)]; exact z) hf hx
  free := fun c o q z hx => u.free c o q (by rw [upd_ne (fun y => by rw [y, hb] at z; cases z)]; exact z) hx
  there := u.there
  tups := fun c ys z => u.tups c ys (by rw [upd_ne (fun y => by rw [y, hb] at z; cases z)]; exact z)
  frzs := fun c o v z => u.frzs c o v (by rw [upd_ne (fun y => by rw [y, hb] at z; cases z)]; exact z)
  tbls := fun c ps z => u.tbls c ps (by rw [upd_ne (fun y => by rw [y, hb] at z; cases z)]; exact z)
variable {K : PySem.W.Frag} {mg : PySem.Str → Option Value} {base : Heap}
/-- a number below n is drawn -/
def fsPull : FS := fun ds k _ => match ds with
  | [.bag, .int n] => (1 ≤ n ∧ n < 1073741824) ∧ ∀ r : Int, 0 ≤ r → r < n → k (.int r)
  | _ => False
theorem denL_bag {K : PySem.W.Frag} {G : Hp} {l : Addr} {ns : List Int} {i g s : Int} {xs : List V} (h : DenL K G xs [.cel l ns, .int i, .int g, .int s]) : xs = [.ref l, .int i, .int g, .int s] := by
  cases h with
  | cons h1 h =>
    cases h with
    | cons h2 h =>
      cases h with
      | cons h3 h =>
        cases h with
        | cons h4 h =>
          cases h
          cases h1
          cases h2
          cases h3
          cases h4
          rfl
end
end PL
set_option Elab.async false
set_option linter.all false
set_option maxRecDepth 100000
set_option maxHeartbeats 4000000
namespace PySem
namespace ExcX
open PySem.W PySem.Calls PyProof.Rows PySem.HandSPX
def xHead (cn : Str) (q0 q1 q2 q3 q4 q5 q6 q7 q8 q9 : Pos) (rest : List Stmt) : List Stmt :=
  .Expr (.Call (.Attribute (.Call (.Name "super" q0) [] [] q1) "__init__" q2) [.Constant (.str cn) 0 q3] [] q4) q5 ::
  .Assign [.Attribute (.Name "self" q6) "tag" q7] (.Constant (.str cn) 0 q8) q9 :: rest
/-- super().__init__('..') on one line -/
def SupEv (cn : Str) (q0 q1 q2 q3 q4 : Pos) : Prop := ∀ env : Env, ∃ pl : Sem Bool, eval (.Call (.Attribute (.Call (.Name "super" q0) [] [] q1) "__init__" q2) [.Constant (.str cn) 0 q3] [] q4) env = (do
  let ov ← attributeBase (.Call (.Name "super" q0) [] [] q1) "__init__" env (eval (.Call (.Name "super" q0) [] [] q1) env)
  standAt q2.atName
  let (f, first) ← holding [ov] (getMethod ov "__init__" pl)
  callWith q4 f first (backTo q4 (starEach [.Constant (.str cn) 0 q3] env)) [])
end ExcX
end PySem
namespace L2
open PySem PySem.Spec PyProof.Rows
end L2
namespace PL
open PySem L2
end PL
set_option Elab.async false
set_option linter.all false
set_option maxRecDepth 100000
set_option maxHeartbeats 4000000
namespace PySem.W
open PySem PySem.Calls PyProof.Rows
end PySem.W
namespace L2
open PySem PySem.Spec PyProof.Rows
/-- flying on in a heap that keeps all -/
theorem fly_keeps {B : Heap} {l : List Env} {a : Addr} {Z : Obj → Prop} {h h' : Heap} (k : ∀ b o, h.get? b = some o → h'.get? b = some o) (fl : HandSPX.FlyingZ B l a Z h) : HandSPX.FlyingZ B l a Z h' := by
  obtain ⟨h1, h2, h3, oe, vs, T, oT, ts, a1, a2, a3, a4, a5, a6, a7, a8, a9⟩ := fl
  exact ⟨fun b o e => k b o (h1 b o e), h2, h3.of_keeps fun b o e _ => ⟨o, k b o e, rfl⟩, oe, vs, T, oT, ts, k _ _ a1, a2, a3, a4, a5, a6, k _ _ a7, a8, a9⟩
/-- the names of classes in a tuple of them -/
inductive NamesOk (X : Cx) : List Expr → List Value → Prop
  | nil : NamesOk X [] []
  | cons {x : Str} {np : Pos} {c : Value} {es : List Expr} {cs : List Value} : Names X x c → NamesOk X es cs → NamesOk X (.Name x np :: es) (c :: cs)
theorem NamesOk.len {X : Cx} : ∀ {es : List Expr} {cs : List Value}, NamesOk X es cs → es.length = cs.length
  | _, _, .nil => rfl
  | _, _, .cons _ r => by rw [List.length_cons, List.length_cons, r.len]
/-- what is matched: one class, a tuple of classes -/
inductive TestOk (X : Cx) : Expr → (Value → Option Bool) → Prop
  | one {x : Str} {np : Pos} {c : Value} : Names X x c → TestOk X (.Name x np) fun cls => PySem.W.exmOne X.K cls c
  | tup {es : List Expr} {k : Nat} {tp : Pos} {cs : List Value} : NamesOk X es cs → cs.length ≤ 100 → TestOk X (.Tuple es k tp) fun cls => PySem.W.exmAny X.K cls cs
/-- an exception of the class cls (its dict d) stands caught in the heap h; J tells of the state sI as it was without it -/
structure Caught (X : Cx) (B : Heap) (pins : List (Addr × Obj)) (σ : St) (H : Hp) (sI s : Shared) (a : Addr) (cls : Value) (d : Option Addr) (h : Heap) : Prop where
  inv : Inv X pins σ H sI
  ground : ∀ b o, sI.heap.get? b = some o → b ∉ frs X.stack → B.get? b = some o
  stack : X.stack = X.env :: X.outer
  frame : X.env.frame = some X.env.locals
  fly : HandSPX.FlyingZ B (X.env :: X.outer) a (Zc cls d) h
  up : sI.heap.UpToSlots h
  free : H a = none
  os : s.os = sI.os
  bare : AllBare s.gens
section
variable {X : Cx} {B : Heap} {pins : List (Addr × Obj)} {σ : St} {H : Hp} {sI s : Shared} {a : Addr} {cls : Value} {d : Option Addr} {h h' : Heap}
theorem Caught.grow (c : Caught X B pins σ H sI s a cls d h) (k : ∀ b o, h.get? b = some o → h'.get? b = some o) : Caught X B pins σ H sI s a cls d h' :=
  { c with fly := fly_keeps k c.fly, up := c.up.trans (.of_keeps k) }
end
/-- the name of a clause: none, or the name of slot i -/
inductive AsOk (X : Cx) : Option Str → Option Nat → Prop
  | no : AsOk X none none
  | as {n : Str} {i : Nat} (hN : X.N.Nodup) (hi : X.N[i]? = some n) (hl : X.env.kindOf n = some .local) : AsOk X (some n) (some i)
inductive HdsA (X : Cx) : List ExceptHandler → List ((Value → Option Bool) × Option Nat × (Addr → Value → Option Addr → TS)) → Prop
  | nil : HdsA X [] []
  | cons {te : Expr} {m : Value → Option Bool} {nm : Option Str} {j : Option Nat} {ts : Addr → Value → Option Addr → TS} {b₀ : Stmt} {suite : List Stmt} {pos' : Pos} {hds : List ExceptHandler} {l : List ((Value → Option Bool) × Option Nat × (Addr → Value → Option Addr → TS))} (hc : TestOk X te m) (hn : AsOk X nm j)
      (hsu : ∀ (a : Addr) (oe : Obj) (cls : Value) (d : Option Addr) (pn : List (Addr × Obj)), Zc cls d oe → (∃ vs, oe.data = .fields vs) → PSs (X.suite a ((a, oe) :: pn)) (b₀ :: suite) (ts a cls d)) (r : HdsA X hds l) :
      HdsA X (.ExceptHandler (some te) nm (b₀ :: suite) pos' :: hds) ((m, j, ts) :: l)
end L2
set_option Elab.async false
set_option linter.all false
set_option maxRecDepth 100000
set_option maxHeartbeats 4000000
namespace PL
open PySem L2
variable [Tabl]
def teOf (K : PySem.W.Frag) (W : WX) (t : TP) : TE := fun σ H Q => ∃ G0 H0 Γ G k kx, Fr K G0 H0 Γ σ G H ∧ t Γ k kx ∧ (∀ d v G' H', k d → Ext G H G' H' → Den K G' v d → Q v H') ∧ XOk K W G H σ kx
def tsOf (K : PySem.W.Frag) (W : WX) (t : TSp) : TS := fun E σ H => ∃ G0 H0 Γ G P, Fr K G0 H0 Γ σ G H ∧ t P Γ ∧ EOk K W G0 H0 P E
section
variable {X : Cx} {W : WX} {e : Expr} {b : List Stmt} {t : TP} {s : TSp}
theorem PP.w (h : PP X W e t) : PE X e (teOf X.K W t) := by
  obtain ⟨te, p, r⟩ := h.ex
  exact ⟨fun pins s σ H Q I ⟨G0, H0, Γ, G, k, kx, F, ht, hk, hx⟩ => p.run pins s σ H Q I (r G0 H0 Γ σ G H k kx Q F ht hk hx)⟩
theorem PSS.w (h : PSS X W b s) : PSs X b (tsOf X.K W s) := by
  obtain ⟨ts, p, r⟩ := h.ex
  exact ⟨fun pins s σ H D I ⟨G0, H0, Γ, G, P, F, ht, ok⟩ => p.run pins s σ H D I (r G0 H0 Γ σ G H P D F ht ok)⟩
end
abbrev CL := (Value → Option Bool) × Option Nat × (Addr → Value → Option Addr → TSp)
inductive HdsP (X : Cx) : List ExceptHandler → List CL → Prop
  | nil : HdsP X [] []
  | cons {te : Expr} {m : Value → Option Bool} {nm : Option PySem.Str} {j : Option Nat} {ts : Addr → Value → Option Addr → TSp} {b₀ : Stmt} {suite : List Stmt} {pos' : Pos} {hds : List ExceptHandler} {l : List CL} (hc : TestOk X te m) (hn : AsOk X nm j)
      (hsu : ∀ (a : Addr) (oe : Obj) (cls : Value) (d : Option Addr) (pn : List (Addr × Obj)), Zc cls d oe → (∃ vs, oe.data = .fields vs) → PSS (X.suite a ((a, oe) :: pn)) (fun _ _ _ _ => False) (b₀ :: suite) (ts a cls d)) (r : HdsP X hds l) :
      HdsP X (.ExceptHandler (some te) nm (b₀ :: suite) pos' :: hds) ((m, j, ts) :: l)
section
variable {X : Cx} {W : WX} {body : List Stmt} {h₀ : ExceptHandler} {hds : List ExceptHandler} {l : List CL} {tb : TSp} {pos : Pos}
def lowCl (K : PySem.W.Frag) (l : List CL) : List ((Value → Option Bool) × Option Nat × (Addr → Value → Option Addr → TS)) := l.map fun c => (c.1, c.2.1, fun a cls d => tsOf K (fun _ _ _ _ => False) (c.2.2 a cls d))
theorem HdsP.low (h : HdsP X hds l) : HdsA X hds (lowCl X.K l) := by
  induction h with
  | nil => exact .nil
  | cons hc hn hsu r ih => exact .cons hc hn (fun a oe cls d pn z dt => (hsu a oe cls d pn z dt).w) ih
end
/-- the class cls lets its field f be read -/
def XFld (K : PySem.W.Frag) (cls : Value) (f : PySem.Str) : Prop := ∃ C, cls = .ref C ∧ PySem.W.findIn K (.ref C) "__getattribute__" = some (some (.builtin "BaseException.__getattribute__")) ∧ PySem.W.findIn K (.ref C) "__getattr__" = some none ∧
  PySem.W.subIn K (.ref C) (.type "BaseException") = some true ∧ PySem.W.hasDictIn K C = true ∧ PySem.W.findIn K (.ref C) f = some none
end PL
set_option Elab.async false
set_option linter.all false
set_option maxRecDepth 100000
set_option maxHeartbeats 4000000
namespace PL
open PySem L2 PyProof.Rows
end PL
set_option Elab.async false
set_option linter.all false
set_option maxRecDepth 100000
set_option maxHeartbeats 4000000
namespace PL
open PySem L2 PyProof.Rows
end PL
set_option Elab.async false
set_option linter.all false
set_option maxRecDepth 100000
set_option maxHeartbeats 4000000
namespace PL
open PySem PySem.Froz L2 PyProof.Rows
/-- the set at a holds the texts l; its table can be walked -/
def SetT (P : Program) (w : World) (h : Heap) (a : Addr) (l : List PySem.Str) : Prop :=
  ∃ D, h.get? a = some (sObj "set" D) ∧ TxOk P w D l ∧ l.Nodup ∧ Ris D.2.2.place.toList ∧ (w.params.followText "set-order" = true ∨ D.2.2.led = true)
theorem SetT.at {P : Program} {w : World} {h h' : Heap} {a : Addr} {l : List PySem.Str} (R : SetT P w h a l) (k : ∀ o, h.get? a = some o → h'.get? a = some o) : SetT P w h' a l := by
  obtain ⟨D, h1, h2⟩ := R
  exact ⟨D, k _ h1, h2⟩
end PL
set_option Elab.async false
set_option linter.all false
set_option maxRecDepth 100000
set_option maxHeartbeats 4000000
namespace PL
open PySem PySem.Froz L2 PyProof.Rows
end PL
set_option Elab.async false
set_option linter.all false
set_option maxRecDepth 100000
set_option maxHeartbeats 4000000
namespace PL
open PySem L2 PyProof.Rows
variable [Tabl]
/-- the values by the parameters' order; is: where each parameter's value stands in the text -/
def byIx {α : Type} (is : List Nat) (d : α) (l : List α) : List α := is.map fun i => l.getD i d
theorem vals_at : ∀ {vs : List V} {us : List Value} (i : Nat), Vals vs us → i < us.length → RelV (vs.getD i .non) (us.getD i .none)
  | _, _, i, .nil, h => by simp at h
  | _, _, 0, .cons r _, _ => r
  | _, _, i + 1, .cons _ t, h => by
    have := vals_at i t (by simpa using h)
    simpa using this
theorem vals_by {vs : List V} {us : List Value} (r : Vals vs us) : ∀ (is : List Nat), (∀ i ∈ is, i < us.length) → Vals (byIx is .non vs) (byIx is .none us)
  | [], _ => .nil
  | i :: is, h => .cons (vals_at i r (h i List.mem_cons_self)) (vals_by r is fun j hj => h j (List.mem_cons_of_mem _ hj))
theorem den_at {K : PySem.W.Frag} {G : Hp} : ∀ {vs : List V} {ds : List D} (i : Nat), DenL K G vs ds → i < ds.length → Den K G (vs.getD i .non) (ds.getD i .non)
  | _, _, i, .nil, h => by simp at h
  | _, _, 0, .cons r _, _ => r
  | _, _, i + 1, .cons _ t, h => by
    have := den_at i t (by simpa using h)
    simpa using this
theorem den_by {K : PySem.W.Frag} {G : Hp} {vs : List V} {ds : List D} (r : DenL K G vs ds) : ∀ (is : List Nat), (∀ i ∈ is, i < ds.length) → DenL K G (byIx is .non vs) (byIx is .non ds)
  | [], _ => .nil
  | i :: is, h => .cons (den_at i r (h i List.mem_cons_self)) (den_by r is fun j hj => h j (List.mem_cons_of_mem _ hj))
/-- .. called with m positional values and the keywords ks -/
structure DfK (P : Program) (w : World) (K : PySem.W.Frag) (mg : PySem.Str → Option Value) (base : Heap) (x : PySem.Str) (k n : Nat) (fs : FS) (m : Nat) (ks : List PySem.Str) (is : List Nat) : Prop where
  ex : ∃ f fd ps, FnOk P w K mg base (L2.CX P w) k f fd ps (spOf K n fs) ∧ mg x = some (.ref f) ∧ PySem.W.keepIn K (.ref f) = true ∧
    (∀ (s : Shared) (us ws : List Value), us.length = m → ws.length = ks.length → BindsTo s fd ⟨us, ks.zip ws⟩ (ps.zip (byIx is .none (us ++ ws)))) ∧ is.length = n ∧ ∀ i ∈ is, i < m + ks.length
theorem dfk_mk {P : Program} {w : World} {K : PySem.W.Frag} {mg : PySem.Str → Option Value} {base : Heap} {x qual : PySem.Str} {st : Stmt} {f : Addr} {fd : FuncData} {ps : List PySem.Str} {k n m : Nat} {fs : FS} {ks : List PySem.Str} {is : List Nat} (F : Fun K x qual st f fd) (hm : mg x = some (.ref f))
    (h : FnOk P w K mg base (L2.CX P w) k f fd ps (spOf K n fs)) (hb : ∀ (kV doc pm : Value) (an : Option Addr) (cdv ct : Value) (us ws : List Value), us.length = m → ws.length = ks.length → bindArgs (PySem.W.fnOf x qual (defArgs st) (defBody st) (defScope st) .none kV doc pm an cdv ct) ⟨us, ks.zip ws⟩ = pure (ps.zip (byIx is .none (us ++ ws))))
    (hn : is.length = n) (hi : ∀ i ∈ is, i < m + ks.length) : DfK P w K mg base x k n fs m ks is := by
  refine ⟨f, fd, ps, h, hm, F.kp, fun s us ws l1 l2 => ?_, hn, hi⟩
  obtain ⟨oc, od, kV, doc, pm, an, cdv, ct, osl, rfl, lk, hcd⟩ := F.ex
  exact .of_eq (hb kV doc pm an cdv ct us ws l1 l2)
structure PKw (X : Cx) (W : WX) (kws : List Keyword) (t : TL) : Prop where
  ex : ∃ te, PK X kws te ∧ RdA X.K W te t
section
variable {X : Cx} {W : WX} {e : Expr} {es : List Expr} {kws : List Keyword} {t : TP} {tl tk : TL} {pos p kpos : Pos} {x : PySem.Str} {nm : Option PySem.Str} {k n m j : Nat} {fs : FS} {ks : List PySem.Str} {is : List Nat}
theorem k_nil : PKw X W [] tlNil := ⟨_, pk_nil, fun G0 H0 Γ σ G H k kx Q F ht hk hx => hk [] [] G H ht (Ext.refl F.sub) .nil⟩
theorem k_cons (ha : PP X W e t) (hl : PKw X W kws tl) : PKw X W (⟨nm, e, kpos⟩ :: kws) (tlCons t tl) := by
  obtain ⟨ea, pa, ra⟩ := ha.ex
  obtain ⟨el, pl, rl⟩ := hl.ex
  refine ⟨_, pk_cons pa pl, fun G0 H0 Γ σ G H k kx Q F ht hk hx => ?_⟩
  refine ra G0 H0 Γ σ G H _ kx _ F ht (fun d v G1 H1 k1 x1 n1 => ?_) hx
  refine rl G0 H0 Γ σ G1 H1 _ kx _ (F.up x1) k1 (fun ds vs G2 H2 k2 x2 n2 => ?_) (hx.up x1)
  exact hk _ _ G2 H2 k2 (x1.trans x2) (.cons (n1.up x2.g) n2)
def tpCallK (m : Nat) (fs : FS) (is : List Nat) (tl tk : TL) : TP := fun Γ k kx => tl Γ (fun ds => tk Γ (fun es => ds.length = m ∧ fs (byIx is .non (ds ++ es)) k kx) kx) kx
def tlN (n : Nat) (tl : TL) : TL := fun Γ k kx => tl Γ (fun ds => ds.length = n ∧ k ds) kx
/-- the call itself, behind the values -/
theorem run_kw {f : Addr} {fd : FuncData} {ps : List PySem.Str} (F : FnOk X.prog X.w X.K X.mg X.base (L2.CX X.prog X.w) k f fd ps (spOf X.K n fs)) (hr : Room k X.A) (tk : Takes X W)
    (hb : ∀ (s : Shared) (us ws : List Value), us.length = m → ws.length = ks.length → BindsTo s fd ⟨us, ks.zip ws⟩ (ps.zip (byIx is .none (us ++ ws)))) (hi : ∀ i ∈ is, i < m + ks.length)
    {pins : List (Addr × Obj)} {σ : L2.St} {H : Hp} {s : Shared} {Q : VK} {us ws : List Value} {vs zs : List V} (I : Inv X pins σ H s) (r1 : Vals vs us) (r2 : Vals zs ws) (l1 : us.length = m) (l2 : ws.length = ks.length)
    (h : spOf X.K n fs (byIx is .non (vs ++ zs)) H Q (WE W σ)) : wpAny (model X.prog X.w) X.A (call (.ref f) us (ks.zip ws)) (EP X pins σ Q) X.xe s := by
  have r := vals_by (r1.append r2) is fun i h => by rw [List.length_append, l1, l2]; exact hi i h
  refine wpAny_call (codeAny_mono (F.run X.A X.stack s H ⟨us, ks.zip ws⟩ _ _ Q (WE W σ) hr I.env0 (hb s us ws l1 l2) r h) fun q s2 hq => ?_)
  cases q with
  | error e => exact passAt tk σ pins H s e s2 I hq
  | ok fl =>
    cases fl with
    | ret u => exact I.after hq
    | next => exact False.elim hq
    | brk => exact False.elim hq
    | cont => exact False.elim hq
theorem p_callK0 (D : DfK X.prog X.w X.K X.mg X.base x k n fs 0 ks is) (hr : Room j X.A) (hj : k ≤ j) (tk : Takes X W) (hk : PKw X W kws tl) (hg : Gl X x := by rfl) (hdb : (x == ("__debug__" : PySem.Str)) = false := by decide)
    (hall : (backToKw pos (keywordEach kws X.env)).all (·.1.isSome) = true := by rfl) (hks : (backToKw pos (keywordEach kws X.env)).filterMap (·.1) = ks := by rfl) (hlen : kws.length = ks.length := by rfl)
    (hpl : ((backTo pos (starEach [] X.env)).any (·.1) || (backToKw pos (keywordEach kws X.env)).any (·.1.isNone)) = false := by rfl) :
    PP X W (.Call (.Name x p) [] kws pos) (tpCallK 0 fs is tlNil (tlN ks.length tl)) := by
  obtain ⟨f, fd, ps, h1, h2, h3, h4, h5, h6⟩ := D.ex
  obtain ⟨ea, pa, ra⟩ := hk.ex
  refine ⟨fun σ H Q => ea σ H fun zs H1 => zs.length = ks.length ∧ spOf X.K n fs (byIx is .non ([] ++ zs)) H1 Q (WE W σ), ⟨fun pins s σ H Q I h => ?_⟩, fun G0 H0 Γ σ G H kd kx Q F ht hk hx => ?_⟩
  · refine wpAny_Call_Name_kw (ld_glob I hg h2 ?_ hdb)
    refine PySem.W.callWith_KW0 (h₀ := X.base) I.ok.mod.kin h3 hall (thn (pa.run pos pins s σ H _ I h) fun ws s1 ⟨zs, H1, I1, rz, l2, q⟩ => ⟨I1.kIn, ?_⟩) hpl
    rw [hks]
    exact run_kw (us := []) (vs := []) h1 (hr.mono hj) tk h4 h6 I1 .nil rz rfl (rz.length.symm.trans l2) q
  · refine ra G0 H0 Γ σ G H _ kx _ F ht (fun ds zs G1 H1 k1 x1 n1 => ?_) hx
    obtain ⟨l2, _, k1⟩ := k1
    refine ⟨by rw [n1.length]; exact l2, G1, byIx is .non ([] ++ ds), kd, kx, x1.sub, ?_, by unfold byIx; rw [List.length_map]; exact h5, k1, fun d v G' H' k ex dn => hk d v G' H' k (x1.trans ex) dn, fun y cls dA G' H' k ex dn => hx y cls dA G' H' k (x1.trans ex) dn⟩
    exact den_by n1 is fun i h => by
      have := h6 i h
      rw [Nat.zero_add, ← l2] at this
      exact this
end
end PL
set_option Elab.async false
set_option linter.all false
set_option maxRecDepth 100000
set_option maxHeartbeats 4000000
namespace PL
open PySem L2 PyProof.Rows
variable [Tabl]
def rLs (K : PySem.W.Frag) : List V → Hp → VK → Prop := fun xs H Q => ∃ p ys, xs = [.ref p] ∧ (SqL K H p ys ∨ SqT K H p ys) ∧ ∀ l, H l = none → Q (.ref l) (upd H l (.lst ys))
def rLn (K : PySem.W.Frag) : List V → Hp → VK → Prop := fun xs H Q => ∃ x n, xs = [x] ∧ LenV K x H n ∧ Q (.int n) H
def tStart (K : PySem.W.Frag) : TE :=
  tLst (tCons (tCB (rLs K) (tCons (tSl (rSlL K) (tVar 0) tNoPart (tPart (tC (.int 63)))) tNil)) (tCons (tC (.int 0)) (tCons (tC (.int 0)) (tCons (tOp (rI0 fun i j => .int (i + j)) (tC (.int 5642)) (tCB (rLn K) (tCons (tVar 0) tNil))) tNil))))
theorem cut63 (ns : List Int) (h : ns.length ≤ 63) : cutV (ns.map V.int) none (some 63) = ns.map V.int := by
  have e : HT.sIx (ns.map V.int).length (ns.map V.int).length (some 63) = min 63 (ns.map V.int).length := HT.sIx_nat _ _ 63
  unfold cutV
  rw [e, HT.sIx_none, List.drop_zero]
  exact List.take_of_length_le (by rw [List.length_map]; omega)
theorem start_te {K : PySem.W.Frag} {σ : L2.St} {H : Hp} {Q : VK} {a : Addr} {ns : List Int} (e : σ[0]? = some (some (.ref a))) (hS : SqL K H a (ns.map V.int)) (h63 : ns.length ≤ 63)
    (h : ∀ l p H', Same H H' → H l = none → H p = none → p ≠ l → H' l = some (.lst (ns.map V.int)) → H' p = some (.lst [.ref l, .int 0, .int 0, .int (5642 + ns.length)]) → Q (.ref p) H') : tStart K σ H Q := by
  refine ⟨.ref a, e, 63, rfl, a, _, rfl, hS, fun q hq => ?_⟩
  rw [cut63 ns h63]
  refine ⟨q, _, rfl, .inl (SqL.of upd_same), fun l hl => ?_⟩
  have s1 : Same H (upd H q (.lst (ns.map V.int))) := same_upd hq
  have s2 : Same (upd H q (.lst (ns.map V.int))) (upd (upd H q (.lst (ns.map V.int))) l (.lst (ns.map V.int))) := same_upd hl
  have hS2 := (s1.trans s2).seq hS
  refine ⟨.ref a, e, .ref a, ns.length, rfl, .inl ⟨_, hS2, by rw [List.length_map]⟩, 5642, ns.length, rfl, rfl, by show 4 ≤ sizeLine; decide, fun p hp => ?_⟩
  have hl0 : H l = none := by
    rw [upd_ne (ne_of_none (show upd H q (.lst (ns.map V.int)) q = _ from upd_same) hl).symm] at hl
    exact hl
  have pl : p ≠ l := fun z => by rw [z, upd_same] at hp; cases hp
  have pq : p ≠ q := fun z => by
    rw [z] at hp
    rw [upd_ne (ne_of_none (show upd H q (.lst (ns.map V.int)) q = _ from upd_same) hl), upd_same] at hp
    cases hp
  have hp0 : H p = none := by
    rw [upd_ne pl, upd_ne pq] at hp
    exact hp
  exact h l p _ ((s1.trans s2).trans (same_upd hp)) hl0 hp0 pl (by rw [upd_ne (Ne.symm pl), upd_same]) upd_same
/-- the bag, of the script -/
def fsStart : FS := fun ds k _ => match ds with
  | [.scr] => k .bag
  | _ => False
def spStart (K : PySem.W.Frag) : Sp := fun vs H Q _ => ∃ (a : Addr) (ns : List Int), vs = [.ref a] ∧ SqL K H a (ns.map V.int) ∧ ns.length ≤ 63 ∧
  ∀ l p H', Same H H' → H l = none → H p = none → p ≠ l → H' l = some (.lst (ns.map V.int)) → H' p = some (.lst [.ref l, .int 0, .int 0, .int (5642 + ns.length)]) → Q (.ref p) H'
section
variable {P : Program} {w : World} {K : PySem.W.Frag} {mg : PySem.Str → Option Value} {base : Heap}
theorem start_ok {x qual : PySem.Str} {st : Stmt} {f : Addr} {fd : FuncData} {N ps : List PySem.Str} {k : Nat} (F : Fun K x qual st f fd) (S : FnScope N ps (defScope st)) (hn : ps.length = 1)
    (body : ∀ (cdv : Value) (A : Around) (outer : List Env) (s : Shared) (H : Hp) (E : XK), PSs (cxOf (L2.CX P w) P w K mg base N qual (defScope st) f cdv A outer s H E) (defBody st) (tRet (tStart K))) :
    FnOk P w K mg base (L2.CX P w) (k + 1) f fd ps (spOf K 1 fsStart) := by
  have raw : FnOk P w K mg base (L2.CX P w) (k + 1) f fd ps (spStart K) := by
    refine F.okX S (fun vs H Q E ⟨a, ns, e, _⟩ => by rw [e, hn]; rfl) (fun cdv A outer s H vs Q E hr h => ⟨_, body cdv A outer s H E, ?_⟩)
    obtain ⟨a, ns, rfl, hS, h63, q⟩ := h
    exact start_te (by unfold L2.start; rfl) hS h63 q
  refine ⟨fun vs H Q E h => ?_, fun A outer s H args us vs Q E hr he hb hv h => ?_⟩
  · obtain ⟨G, ds, kd, kx, _, b, c, _⟩ := h
    rw [b.length, c, hn]
  · obtain ⟨G, ds, kd, kx, sb, r, hl, hf, hk, hx⟩ := h
    match ds, r, hf with
    | [.scr], .cons (.scr (a := a) (ns := ns) hS h63) .nil, hf =>
      refine codeAny_mono (raw.run A outer s H args us _ (fun v H' => ∃ l p, v = .ref p ∧ Same H H' ∧ H l = none ∧ H p = none ∧ p ≠ l ∧ H' l = some (.lst (ns.map V.int)) ∧ H' p = some (.lst [.ref l, .int 0, .int 0, .int (5642 + ns.length)])) E hr he hb hv
        ⟨a, ns, rfl, sb.sql hS, h63, fun l p H' a1 a2 a3 a4 a5 a6 => ⟨l, p, rfl, a1, a2, a3, a4, a5, a6⟩⟩) fun rs s' hq => ?_
      cases rs with
      | error e => exact hq
      | ok fl =>
        cases fl with
        | ret u =>
          obtain ⟨v, H', os, bare, un, hok, rv, l, p, rfl, sm, hl0, hp0, pl, hl', hp'⟩ := hq
          have gl := sb.none hl0
          have gp := sb.none hp0
          have un2 : Un (frs outer) [] H (upd H' p (.ext (BagRaw p l ns.length))) s.heap s'.heap := un_close un hp' (.inl hp0)
          have hok2 := bag_close (n := ns.length) (i := 0) hok hp' (Nat.zero_le _) (by decide) (by omega) (by omega)
          refine ⟨.ref p, _, os, bare, un2, hok2, rv, ?_⟩
          have sH : Same H (upd H' p (.ext (BagRaw p l ns.length))) := fun b o e => by
            rw [upd_ne (ne_of_none e hp0)]
            exact sm b o e
          have sG : Same G (upd (upd G l (.lst (ns.map V.int))) p (.ext (BagRaw p l ns.length))) := fun b o e => by
            rw [upd_ne (ne_of_none e gp), upd_ne (ne_of_none e gl)]
            exact e
          refine hk .bag _ (upd (upd G l (.lst (ns.map V.int))) p (.ext (BagRaw p l ns.length))) _ hf ⟨.of sH, sG, fun b n ⟨o, e⟩ => ?_, ⟨fun b o e => ?_, fun b o e => ?_, sb.tb.ext sH⟩⟩ (.bag ⟨l, ns, upd_same, by rw [upd_ne (Ne.symm pl), upd_same], pl, h63⟩)
          · rw [upd_ne (ne_of_none e hp0), upd_ne (ne_of_none e hl0)]
            exact n
          · by_cases hb : b = p
            · subst hb
              rw [upd_same] at e ⊢
              exact .inl e
            · rw [upd_ne hb] at e ⊢
              by_cases hb2 : b = l
              · subst hb2
                rw [upd_same] at e
                cases e
                exact .inl hl'
              · rw [upd_ne hb2] at e
                rcases sb.m b o e with z | ⟨z, ob, z2⟩
                · exact .inl (sm _ _ z)
                · exact .inr ⟨z, ob, sm _ _ z2⟩
          · by_cases hb : b = p
            · subst hb
              rw [upd_same] at e
              cases e
              intro ps z
              cases z
            · rw [upd_ne hb] at e
              by_cases hb2 : b = l
              · subst hb2
                rw [upd_same] at e
                cases e
                intro ps z
                cases z
              · rw [upd_ne hb2] at e
                exact sb.nt b o e
        | next => exact hq
        | brk => exact hq
        | cont => exact hq
end
end PL
set_option Elab.async false
set_option linter.all false
set_option maxRecDepth 100000
set_option maxHeartbeats 2000000
namespace L2
open PySem PySem.Spec PyProof.Rows
end L2
namespace PL
open PySem L2
end PL
set_option Elab.async false
set_option linter.all false
set_option maxRecDepth 100000
set_option maxHeartbeats 2000000
namespace PL
open PySem L2
end PL
set_option Elab.async false
set_option linter.all false
set_option maxRecDepth 100000
set_option maxHeartbeats 2000000
namespace L2
open PySem PySem.Spec PyProof.Rows
end L2
namespace PL
open PySem L2
end PL
set_option Elab.async false
set_option linter.all false
set_option maxRecDepth 100000
set_option maxHeartbeats 2000000
namespace L2
open PySem PySem.Spec PyProof.Rows
end L2
namespace PL
open PySem L2
end PL
set_option Elab.async false
set_option linter.all false
set_option maxRecDepth 100000
set_option maxHeartbeats 4000000
namespace PL
open PySem L2 PyProof.Rows
abbrev lamFd (q : PySem.Str) (params : Arguments) (body : Expr) (scope : Scope) (cl : List (PySem.Str × Addr)) (pm cv ctv dV : Value) : FuncData :=
  { PySem.W.kla_fn "<lambda>" q params body scope cl pm cv ctv with defaults := dV }
variable [Tabl]
end PL
set_option Elab.async false
set_option linter.all false
set_option maxRecDepth 100000
set_option maxHeartbeats 4000000
namespace PL
open PySem L2
end PL
set_option Elab.async false
set_option linter.all false
set_option maxRecDepth 100000
set_option maxHeartbeats 4000000
namespace PL
open PySem L2
def m_is_log : FS := fun ds k kx =>
  (tsRet (tpAnd (tp1 (fIsi "str") (tpVar 0)) (tp1 fAll (tpLc [1] (tiStr (tpVar 0)) (tgName 1) tbYes (tpOp fInS (tpVar 1) (tpC (.str [97, 98, 99, 100, 101, 102, 103, 104, 105, 106, 107, 108, 109, 110, 111, 112, 113, 114, 115, 116, 117, 118, 119, 120, 121, 122])))))))
  (fEnds k kx) (ga0 2 ds)
def m_law_pull : FSo := fun ds k kx => ∀ p,
  (tsSeq (tsIf (tbAnd (tbV (tpOp fEq (tpOp fIx (tpVarU 0) (tpC (.int 2))) (tpC (.int 0)))) (tbV (tpOp fLt (tpOp fIx (tpVarU 0) (tpC (.int 1))) (tp1 fLenS (tpOp fIx (tpVarU 0) (tpC (.int 0)))))))
    (tsSeq (tsSet 2 (tpOp fIx (tpOp fIx (tpVarU 0) (tpC (.int 0))) (tpOp fIx (tpVarU 0) (tpC (.int 1)))))
    (tsSeq (tsSetIx 0 (tpC (.int 1)) (tpOp fAdd (tpOp fIx (tpVarU 0) (tpC (.int 1))) (tpC (.int 1))))
    (tsIf (tbV (tpOp fGe (tpVar 2) (tpOp fPow (tpC (.int 10)) (tpC (.int 18)))))
    (tsSetIx 0 (tpC (.int 2)) (tpVar 2))
    (tsSetIx 0 (tpC (.int 3)) (tpOp fMod (tp1 fInt (tpOp fAdd (tpOp fAdd (tpOp fMul (tpOp fIx (tpVarU 0) (tpC (.int 3))) (tpC (.int 52361))) (tpOp fMul (tpOp fMod (tp1 fInt (tpVar 2)) (tpC (.int 2147483399))) (tpC (.int 6121)))) (tpC (.int 43)))) (tpC (.int 2147483543)))))))
    tsNext)
    (tsSeq (tsIf (tbV (tpOp fGt (tpOp fIx (tpVarU 0) (tpC (.int 2))) (tpC (.int 0))))
    (tsSeq (tsSet 3 (tpOp fMod (tp1 fInt (tpOp fIx (tpVarU 0) (tpC (.int 2)))) (tpVar 1)))
    (tsSeq (tsSetIx 0 (tpC (.int 2)) (tpOp fFdiv (tpOp fIx (tpVarU 0) (tpC (.int 2))) (tpVar 1)))
    (tsRet (tpVar 3))))
    tsNext)
    (tsSeq (tsSet 4 (tpOp fIx (tpVarU 0) (tpC (.int 3))))
    (tsSeq (tsSetIx 0 (tpC (.int 3)) (tpOp fMod (tp1 fInt (tpOp fAdd (tpOp fAdd (tpOp fMul (tpVar 4) (tpVar 4)) (tpOp fMul (tpVar 4) (tpC (.int 21577)))) (tpC (.int 1406111)))) (tpC (.int 2147483543))))
    (tsRet (tpOp fMod (tp1 fInt (tpOp fAdd (tpOp fFdiv (tpOp fIx (tpVarU 0) (tpC (.int 3))) (tpC (.int 61))) (tpOp fMul (tpOp fMod (tp1 fInt (tpOp fIx (tpVarU 0) (tpC (.int 3)))) (tpC (.int 7919))) (tpC (.int 47))))) (tpVar 1)))))))
  (oEnds 0 p k kx) (gaO 5 0 p ds)
def m_law_pick (fs_law_pull : FS) : FS := fun ds k kx =>
  (tsRet (tpOp fIx (tpVar 1) (tpCall 2 fs_law_pull (tlCons (tpVar 0) (tlCons (tp1 fLenS (tpVar 1)) tlNil)))))
  (fEnds k kx) (ga0 2 ds)
def m_law_letters : FS := fun ds k kx =>
  (tsRet (tpC (.str [97, 98, 99, 100, 101, 102, 103, 104, 105, 106, 107, 108, 109, 110, 111, 112, 113, 114, 115, 116, 117, 118, 119, 120, 121, 122])))
  (fEnds k kx) (ga0 0 ds)
def m_law_alphabet (fs_law_pull fs_law_pick fs_law_letters : FS) : FS := fun ds k kx =>
  (tsSeq (tsSet 2 (tpOp fAdd (tpC (.int 1)) (tpCall 2 fs_law_pull (tlCons (tpVar 0) (tlCons (tpVar 1) tlNil)))))
    (tsSeq (tsPar [3, 4, 5] (tlCons (tpC (.str [])) (tlCons (tpC (.int 0)) (tlCons (tpOp fSub (tpC (.int 26)) (tpVar 2)) tlNil))))
    (tsSeq (tsFor (tiRng1 (tlCons (tpVar 2) tlNil)) (tgName 6)
    (tsSeq (tsSet 7 (tpCall 2 fs_law_pick (tlCons (tpVar 0) (tlCons (tpLst (tlCons (tpC (.int 0)) (tlCons (tpCall 2 fs_law_pull (tlCons (tpVar 0) (tlCons (tpOp fAdd (tpVar 5) (tpC (.int 1))) tlNil))) (tlCons (tpN fMin2 (tlCons (tpVar 5) (tlCons (tpCall 2 fs_law_pull (tlCons (tpVar 0) (tlCons (tpC (.int 4)) tlNil))) tlNil))) tlNil)))) tlNil))))
    (tsSeq (tsPar [4, 5] (tlCons (tpOp fAdd (tpVar 4) (tpVar 7)) (tlCons (tpOp fSub (tpVar 5) (tpVar 7)) tlNil)))
    (tsSeq (tsSet 3 (tpOp fAdd (tpVar 3) (tpOp fIx (tpCall 0 fs_law_letters tlNil) (tpVar 4))))
    (tsSet 4 (tpOp fAdd (tpVar 4) (tpC (.int 1))))))))
    (tsRet (tpVar 3)))))
  (fEnds k kx) (ga0 8 ds)
def m_law_drawn (fs_law_pick fs_law_pull : FS) : FS := fun ds k kx =>
  (tsSeq (tsPar [3, 4] (tlCons (tpCall 2 fs_law_pick (tlCons (tpVar 0) (tlCons (tpLst (tlCons (tpCall 2 fs_law_pull (tlCons (tpVar 0) (tlCons (tpOp fAdd (tpVar 2) (tpC (.int 1))) tlNil))) (tlCons (tpCall 2 fs_law_pull (tlCons (tpVar 0) (tlCons (tpOp fAdd (tpN fMin2 (tlCons (tpVar 2) (tlCons (tpC (.int 5)) tlNil))) (tpC (.int 1))) tlNil))) tlNil))) tlNil))) (tlCons (tpC (.str [])) tlNil)))
    (tsSeq (tsFor (tiRng1 (tlCons (tpVar 3) tlNil)) (tgName 5)
    (tsSeq (tsSet 6 (tpCall 2 fs_law_pull (tlCons (tpVar 0) (tlCons (tpC (.int 5)) tlNil))))
    (tsSeq (tsIf (tbAnd (tbV (tpOp fEq (tpVar 6) (tpC (.int 0)))) (tbV (tpOp fNe (tpVar 4) (tpC (.str [])))))
    (tsSet 4 (tpOp fAdd (tpVar 4) (tpSl (tpVar 4) (toSome (tpOp fSub (tpOp fSub (tp1 fLenS (tpVar 4)) (tpC (.int 1))) (tpCall 2 fs_law_pull (tlCons (tpVar 0) (tlCons (tp1 fLenS (tpVar 4)) tlNil))))) toNo)))
    (tsIf (tbAnd (tbV (tpOp fEq (tpVar 6) (tpC (.int 1)))) (tbV (tpOp fGt (tp1 fLenS (tpVar 4)) (tpC (.int 1)))))
    (tsSet 4 (tpOp fAdd (tpVar 4) (tpOp fIx (tpVar 4) (tpCall 2 fs_law_pull (tlCons (tpVar 0) (tlCons (tp1 fLenS (tpVar 4)) tlNil))))))
    (tsSet 4 (tpOp fAdd (tpVar 4) (tpCall 2 fs_law_pick (tlCons (tpVar 0) (tlCons (tpVar 1) tlNil)))))))
    (tsSet 4 (tpSl (tpVar 4) toNo (toSome (tpVar 2)))))))
    (tsRet (tpSl (tpVar 4) toNo (toSome (tpVar 3))))))
  (fEnds k kx) (ga0 7 ds)
def m_law_same (fs_law_same : FS) : FS := fun ds k kx =>
  (tsSeq (tsIf (tbOr (tbV (tpIsN (tpVar 1))) (tbV (tpIsN (tpVar 0))))
    (tsRet (tpAnd (tpIsN (tpVar 1)) (tpIsN (tpVar 0))))
    tsNext)
    (tsSeq (tsIf (tbOr (tbV (tp1 (fIsi "bool") (tpVar 1))) (tbV (tp1 (fIsi "bool") (tpVar 0))))
    (tsRet (tpAnd (tp1 (fIsi "bool") (tpVar 1)) (tpAnd (tp1 (fIsi "bool") (tpVar 0)) (tpOp fEq (tpVar 0) (tpVar 1)))))
    tsNext)
    (tsSeq (tsIf (tbV (tp1 (fIsi "int") (tpVar 1)))
    (tsRet (tpAnd (tp1 (fIsi "int") (tpVar 0)) (tpOp fEq (tpVar 0) (tpVar 1))))
    tsNext)
    (tsSeq (tsIf (tbV (tp1 (fIsi "str") (tpVar 1)))
    (tsRet (tpAnd (tp1 (fIsi "str") (tpVar 0)) (tpOp fEq (tpVar 0) (tpVar 1))))
    tsNext)
    (tsSeq (tsIf (tbOr (tbV (tpOp fNe (tp1 (fIsi "list") (tpVar 1)) (tp1 (fIsi "list") (tpVar 0)))) (tbV (tpOp fNe (tp1 (fIsi "tuple") (tpVar 1)) (tp1 (fIsi "tuple") (tpVar 0)))))
    (tsRet (tpC (.bl false)))
    tsNext)
    (tsRet (tpAnd (tpOp fEq (tp1 fLenS (tpVar 0)) (tp1 fLenS (tpVar 1))) (tp1 fAll (tpLc [2] (tiRng1 (tlCons (tp1 fLenS (tpVar 1)) tlNil)) (tgName 2) tbYes (tpCall 2 fs_law_same (tlCons (tpOp fIx (tpVar 0) (tpVar 2)) (tlCons (tpOp fIx (tpVar 1) (tpVar 2)) tlNil))))))))))))
  (fEnds k kx) (ga0 3 ds)
def LET : List Nat := [97, 98, 99, 100, 101, 102, 103, 104, 105, 106, 107, 108, 109, 110, 111, 112, 113, 114, 115, 116, 117, 118, 119, 120, 121, 122]
def isLog : D → Bool
  | .str s => s.all fun c => decide (c ∈ LET)
  | _ => false
def goodL (d : D) : Prop := (tyD d).isSome = true ∧ ∀ s, d = .str s → s.length ≤ 3000
def fsIsLog : FS := fun ds k _ => match ds with
  | [d] => goodL d ∧ k (.bl (isLog d))
  | _ => False
def deeds (s : List Nat) : List Nat := LET.filter fun c => decide (c ∈ s)
def fsPick : FS := fun ds k _ => match ds with
  | [.bag, .str s] => (s ≠ [] ∧ s.length ≤ 100000) ∧ ∀ c ∈ s, k (.str [c])
  | [.bag, .lst xs] => (xs ≠ [] ∧ xs.length ≤ 100000) ∧ ∀ x ∈ xs, k x
  | _ => False
def fsLetters : FS := fun _ k _ => k (.str LET)
def fsDrawn : FS := fun ds k _ => match ds with
  | [.bag, .str s, .int m] => (s ≠ [] ∧ s.length ≤ 100000 ∧ D.plain (.str s) = true ∧ 0 ≤ m ∧ m ≤ 3000) ∧ ∀ t : List Nat, t.length ≤ m.toNat → (∀ c ∈ t, c ∈ s) → k (.str t)
  | _ => False
mutual
/-- values that _law_same takes, n deep -/
def okS : Nat → D → Prop
  | _, .non => True
  | _, .bl _ => True
  | _, .int _ => True
  | _, .str s => s.length ≤ 100000 ∧ D.plain (.str s) = true
  | n + 1, .lst xs => xs.length ≤ 100000 ∧ okSL n xs
  | n + 1, .tup xs => xs.length ≤ 100000 ∧ okSL n xs
  | _, _ => False
def okSL : Nat → List D → Prop
  | _, [] => True
  | n, d :: r => okS n d ∧ okSL n r
end
/-- two equal values are the same -/
def fsSame : Nat → FS
  | 0 => fun _ _ _ => False
  | n + 1 => fun ds k _ => match ds with
    | [a, b] => a = b ∧ okS n a ∧ k (.bl true)
    | _ => False
def fsLaw : FS := fun ds k _ => match ds with
  | [.scr] => k (.bl true)
  | _ => False
theorem same_zero [Tabl] {P : Program} {w : World} {K : PySem.W.Frag} {mg : PySem.Str → Option Value} {base : Heap} {CX : CXT} {f : Addr} {fd : FuncData} {ps : List PySem.Str} : FnOk P w K mg base CX 0 f fd ps (spOf K 2 (fsSame 0)) :=
  ⟨fun vs H Q E ⟨G, ds, k, kx, _, _, _, h, _⟩ => h.elim, fun A outer s H args us vs Q E _ _ _ _ ⟨G, ds, k, kx, _, _, _, h, _⟩ => h.elim⟩
theorem law_entry [Tabl] {K : PySem.W.Frag} {H : Hp} {a : Addr} {ns : List Int} (tb : LamX.Tabs Tabl.T H) (hS : SqL K H a (ns.map V.int)) (hn : ns.length ≤ 63) : spOf K 1 fsLaw [.ref a] H (fun v _ => v = .bl true) fun _ _ _ => False := by
  let G : Hp := fun b => if b = a then (match H b with | some (.tbl _) => none | x => x) else none
  have gm : ∀ b o, G b = some o → H b = some o ∧ NT o := fun b o e => by
    show _ ∧ _
    by_cases hb : b = a
    · have e : (match H b with | some (.tbl _) => none | x => x) = some o := by
        have z : (if b = a then (match H b with | some (.tbl _) => none | x => x) else none) = some o := e
        rw [if_pos hb] at z
        exact z
      cases hH : H b with
      | none => rw [hH] at e; cases e
      | some u =>
        rw [hH] at e
        cases u with
        | tbl ps => cases e
        | _ => exact ⟨e, by cases e; intro ps z; cases z⟩
    · have z : (if b = a then (match H b with | some (.tbl _) => none | x => x) else none) = some o := e
      rw [if_neg hb] at z
      cases z
  have gs : SqL K G a (ns.map V.int) := by
    rcases hS with (h | ⟨o, h⟩) | h
    · exact .inl (.inl (by show (if a = a then (match H a with | some (.tbl _) => none | x => x) else none) = _; rw [if_pos rfl, h]))
    · exact .inl (.inr ⟨o, by show (if a = a then (match H a with | some (.tbl _) => none | x => x) else none) = _; rw [if_pos rfl, h]⟩)
    · exact .inr h
  exact ⟨G, [.scr], fun d => d = .bl true, fun _ => False, ⟨fun b o e => .inl (gm b o e).1, fun b o e => (gm b o e).2, tb⟩, .cons (.scr gs hn) .nil, rfl, rfl, fun d v G' H' e _ n => by subst e; cases n; rfl, fun _ _ _ _ _ z => z.elim⟩
theorem ite_of {c : Bool} {A B : Prop} (h1 : c = true → A) (h2 : c = false → B) : if c = true then A else B := by
  cases c with
  | true => exact h1 rfl
  | false => exact h2 rfl
theorem eqInt {i j : Int} : eqD (.int i) (.int j) = decide (i = j) := rfl
/-- a comprehension over a text, all of it -/
theorem lc_all {te : TP} {i : Nat} {Γ : Ga} {f : Nat → D} : ∀ (s : List Nat) {k : List D → Prop}, (∀ c ∈ s, ∀ k' : KD, k' (f c) → te (gset Γ i (.pu (.str [c]))) k' (fun _ => False)) → k (s.map f) → lcW (tgName i) tbYes te Γ (s.map fun c => .str [c]) k
  | [], k, _, h => h
  | c :: s, k, hs, h => by
    exact hs c List.mem_cons_self _ (lc_all s (fun d hd => hs d (List.mem_cons_of_mem _ hd)) h)
/-- .. over a range -/
theorem lc_rng {te : TP} {i : Nat} {Γ : Ga} {f : Nat → D} : ∀ (s : List Nat) {k : List D → Prop}, (∀ c ∈ s, ∀ k' : KD, k' (f c) → te (gset Γ i (.pu (.int (c : Nat)))) k' (fun _ => False)) → k (s.map f) → lcW (tgName i) tbYes te Γ (s.map fun c => .int (c : Nat)) k
  | [], k, _, h => h
  | c :: s, k, hs, h => by
    exact hs c List.mem_cons_self _ (lc_rng s (fun d hd => hs d (List.mem_cons_of_mem _ hd)) h)
theorem at_nat {α : Type} (xs : List α) (i : Nat) (h : i < xs.length) : atI xs (i : Int) = some xs[i] := by
  unfold atI ixN
  rw [if_pos (Int.natCast_nonneg i), if_pos (by exact_mod_cast h)]
  exact List.getElem?_eq_getElem h
section
local instance noTab : Tabl := ⟨[], fun p hp => absurd hp (by simp)⟩
variable {ds : List D} {kd : KD} {kx : KX} {C : Addr}
theorem is_log_ok' : fsIsLog ds kd kx → m_is_log ds kd kx := by
  intro h
  match ds, h with
  | [d], ⟨⟨g1, g2⟩, h⟩ =>
    cases d with
    | str s =>
      have hl := g2 s rfl
      refine ⟨by rw [List.length_map]; omega, lc_all (f := fun c => .bl (decide (c ∈ LET))) s (fun c _ k' h' => h') ?_⟩
      have e : (s.map fun c => D.bl (decide (c ∈ LET))) = (s.map fun c => decide (c ∈ LET)).map D.bl := by rw [List.map_map]; rfl
      show onBs (s.map fun c => D.bl (decide (c ∈ LET))) _
      rw [e, onBs_map, List.all_map]
      exact h
    | non => exact h
    | bl b => exact h
    | int b => exact h
    | lst b => exact h
    | tup b => exact h
    | dct b => exact h
    | _ => cases g1
theorem letters_ok' (h : ds.length = 0) : fsLetters ds kd kx → m_law_letters ds kd kx := fun h => h
theorem pick_ok' : fsPick ds kd kx → m_law_pick fsPull ds kd kx := by
  intro h
  match ds, h with
  | [.bag, .str s], ⟨⟨h1, h2⟩, h⟩ =>
    have hp : 0 < s.length := List.length_pos_iff.mpr h1
    refine ⟨Nat.le_trans h2 (by decide), rfl, ⟨by omega, by omega⟩, fun r r0 r1 => ⟨Nat.le_trans h2 (by decide), ?_⟩⟩
    obtain ⟨n, rfl⟩ := Int.eq_ofNat_of_zero_le r0
    have hn : n < s.length := by omega
    rw [at_nat s n hn]
    exact h _ (List.getElem_mem hn)
  | [.bag, .lst s], ⟨⟨h1, h2⟩, h⟩ =>
    have hp : 0 < s.length := List.length_pos_iff.mpr h1
    refine ⟨rfl, ⟨by omega, by omega⟩, fun r r0 r1 => ?_⟩
    obtain ⟨n, rfl⟩ := Int.eq_ofNat_of_zero_le r0
    have hn : n < s.length := by omega
    show (match atI s (n : Int) with | some d => kd d | none => False)
    rw [at_nat s n hn]
    exact h _ (List.getElem_mem hn)
theorem nodup_le : ∀ (a b : List Nat), a.Nodup → (∀ c ∈ a, c ∈ b) → a.length ≤ b.length
  | [], _, _, _ => Nat.zero_le _
  | x :: a, b, nd, h => by
    obtain ⟨nx, nd⟩ := List.nodup_cons.mp nd
    have hx := h x List.mem_cons_self
    have := nodup_le a (b.erase x) nd fun c hc => (List.mem_erase_of_ne (fun z => nx (by rw [← z]; exact hc))).mpr (h c (List.mem_cons_of_mem _ hc))
    rw [List.length_erase_of_mem hx] at this
    have : 0 < b.length := List.length_pos_of_mem hx
    rw [List.length_cons]
    omega
end
def pull1 : TSp :=
  (tsIf (tbAnd (tbV (tpOp fEq (tpOp fIx (tpVarU 0) (tpC (.int 2))) (tpC (.int 0)))) (tbV (tpOp fLt (tpOp fIx (tpVarU 0) (tpC (.int 1))) (tp1 fLenS (tpOp fIx (tpVarU 0) (tpC (.int 0)))))))
    (tsSeq (tsSet 2 (tpOp fIx (tpOp fIx (tpVarU 0) (tpC (.int 0))) (tpOp fIx (tpVarU 0) (tpC (.int 1)))))
    (tsSeq (tsSetIx 0 (tpC (.int 1)) (tpOp fAdd (tpOp fIx (tpVarU 0) (tpC (.int 1))) (tpC (.int 1))))
    (tsIf (tbV (tpOp fGe (tpVar 2) (tpOp fPow (tpC (.int 10)) (tpC (.int 18)))))
    (tsSetIx 0 (tpC (.int 2)) (tpVar 2))
    (tsSetIx 0 (tpC (.int 3)) (tpOp fMod (tp1 fInt (tpOp fAdd (tpOp fAdd (tpOp fMul (tpOp fIx (tpVarU 0) (tpC (.int 3))) (tpC (.int 52361))) (tpOp fMul (tpOp fMod (tp1 fInt (tpVar 2)) (tpC (.int 2147483399))) (tpC (.int 6121)))) (tpC (.int 43)))) (tpC (.int 2147483543)))))))
    tsNext)
theorem pull1_ok {l p : Addr} {ns : List Int} {i : Nat} {g s n : Int} {P : PEn} (hi : i ≤ ns.length) (hg : 0 ≤ g) (hs : 0 ≤ s) (hs2 : s < 2147483543)
    (hk : ∀ (i' : Nat) (g' s' : Int) (sl : Sl), i' ≤ ns.length → 0 ≤ g' → 0 ≤ s' → s' < 2147483543 → P.nx [.pw p (.lst [.cel l ns, .int i', .int g', .int s']), .pu (.int n), sl, .un, .un]) :
    pull1 P [.pw p (.lst [.cel l ns, .int i, .int g, .int s]), .pu (.int n), .un, .un, .un] := by
  refine ⟨⟨rfl, rfl, Nat.zero_le _, Nat.zero_le _⟩, ite_of (fun h => ?_) (fun h => hk i g s _ hi hg hs hs2)⟩
  refine ite_of (fun h2 => ?_) (fun h2 => hk i g s _ hi hg hs hs2)
  have h2 : decide ((i : Int) < (ns.length : Int)) = true := h2
  have hl : i < ns.length := by
    have := of_decide_eq_true h2
    omega
  show (match atI ns (i : Int) with | some n => _ | none => False)
  rw [at_nat ns i hl]
  refine ⟨⟨by decide, by decide, by decide⟩, ite_of (fun h3 => ?_) (fun h3 => ?_)⟩
  · have h3 : decide ((10 : Int) ^ (18 : Int).toNat ≤ ns[i]) = true := h3
    have h4 : (10 : Int) ^ 18 ≤ ns[i] := of_decide_eq_true h3
    exact hk (i + 1) ns[i] s _ hl (by omega) hs hs2
  · have z0 := Int.emod_nonneg (s * 52361 + ns[i] % 2147483399 * 6121 + 43) (show (2147483543 : Int) ≠ 0 by decide)
    have z1 := Int.emod_lt_of_pos (s * 52361 + ns[i] % 2147483399 * 6121 + 43) (show (0 : Int) < 2147483543 by decide)
    exact ⟨.inl ⟨by omega, by omega⟩, by decide, .inr ⟨by decide, by decide⟩, by decide, hk (i + 1) g _ _ hl hg z0 z1⟩
section
variable {ds : List D} {kd : KD} {kx : KX} {C : Addr}
local instance : Tabl := ⟨[], fun p hp => absurd hp (by simp)⟩
theorem eqS (s : List Nat) : eqD (.str s) (.str s) = true := by
  show (SS s == SS s) = true
  simp
theorem okSL_mem {n : Nat} : ∀ {xs : List D} {x : D}, okSL n xs → x ∈ xs → okS n x
  | [], x, _, h => absurd h (by simp)
  | y :: ys, x, h, hx => by
    rcases List.mem_cons.mp hx with rfl | hx
    · exact h.1
    · exact okSL_mem h.2 hx
theorem same_ok' {n : Nat} : fsSame (n + 1) ds kd kx → m_law_same (fsSame n) ds kd kx := by
  intro h0
  match ds, h0 with
  | [a, b], ⟨e, ok, h⟩ =>
    subst e
    cases a with
    | non => exact h
    | bl b =>
      refine ⟨⟨rfl, rfl, Nat.zero_le _, Nat.zero_le _⟩, ?_⟩
      cases b <;> exact h
    | int i =>
      refine ⟨⟨rfl, rfl, Nat.zero_le _, Nat.zero_le _⟩, ?_⟩
      rw [eqInt, decide_eq_true rfl]
      exact h
    | str s =>
      have ok : s.length ≤ 100000 ∧ D.plain (.str s) = true := by cases n <;> exact ok
      refine ⟨⟨ok.2, ok.2, Nat.zero_le _, Nat.zero_le _⟩, ?_⟩
      rw [eqS]
      exact h
    | lst xs =>
      cases n with
      | zero => exact ok.elim
      | succ m =>
        obtain ⟨hl, ok⟩ := ok
        refine ⟨⟨rfl, rfl, Nat.zero_le _, Nat.zero_le _⟩, ⟨rfl, rfl, Nat.zero_le _, Nat.zero_le _⟩, ⟨rfl, rfl, Nat.zero_le _, Nat.zero_le _⟩, ?_⟩
        rw [eqInt, decide_eq_true rfl]
        refine ⟨⟨by omega, by omega⟩, by rw [List.length_map, List.length_range]; omega, lc_rng (f := fun _ => .bl true) _ (fun c hc k' hk' => ?_) ?_⟩
        · have hc : c < xs.length := by simpa using hc
          show (match atI xs (c : Int) with | some d => _ | none => False)
          rw [at_nat xs c hc]
          show (match atI xs (c : Int) with | some d => _ | none => False)
          rw [at_nat xs c hc]
          exact ⟨rfl, rfl, okSL_mem ok (List.getElem_mem hc), hk'⟩
        · have e : ((List.range ((xs.length : Int)).toNat).map fun _ => D.bl true) = ((List.range ((xs.length : Int)).toNat).map fun _ => true).map D.bl := by rw [List.map_map]; rfl
          show onBs ((List.range ((xs.length : Int)).toNat).map fun _ => D.bl true) _
          rw [e, onBs_map]
          have e2 : ((List.range ((xs.length : Int)).toNat).map fun _ => true).all id = true := by simp
          rw [e2]
          exact h
    | tup xs =>
      cases n with
      | zero => exact ok.elim
      | succ m =>
        obtain ⟨hl, ok⟩ := ok
        refine ⟨⟨rfl, rfl, Nat.zero_le _, Nat.zero_le _⟩, ⟨rfl, rfl, Nat.zero_le _, Nat.zero_le _⟩, ⟨rfl, rfl, Nat.zero_le _, Nat.zero_le _⟩, ?_⟩
        rw [eqInt, decide_eq_true rfl]
        refine ⟨⟨by omega, by omega⟩, by rw [List.length_map, List.length_range]; omega, lc_rng (f := fun _ => .bl true) _ (fun c hc k' hk' => ?_) ?_⟩
        · have hc : c < xs.length := by simpa using hc
          show (match atI xs (c : Int) with | some d => _ | none => False)
          rw [at_nat xs c hc]
          show (match atI xs (c : Int) with | some d => _ | none => False)
          rw [at_nat xs c hc]
          exact ⟨rfl, rfl, okSL_mem ok (List.getElem_mem hc), hk'⟩
        · have e : ((List.range ((xs.length : Int)).toNat).map fun _ => D.bl true) = ((List.range ((xs.length : Int)).toNat).map fun _ => true).map D.bl := by rw [List.map_map]; rfl
          show onBs ((List.range ((xs.length : Int)).toNat).map fun _ => D.bl true) _
          rw [e, onBs_map]
          have e2 : ((List.range ((xs.length : Int)).toNat).map fun _ => true).all id = true := by simp
          rw [e2]
          exact h
    | _ => exact ok.elim
theorem cut_mem {t : List Nat} {lo hi : Option Int} {c : Nat} (h : c ∈ cutL t lo hi) : c ∈ t := by
  unfold cutL at h
  exact List.mem_of_mem_drop (List.mem_of_mem_take h)
theorem cut_len {t : List Nat} {lo hi : Option Int} : (cutL t lo hi).length ≤ t.length := by
  unfold cutL
  rw [List.length_take, List.length_drop]
  omega
theorem cut_hi {t : List Nat} {m : Int} (h : 0 ≤ m) : (cutL t none (some m)).length ≤ m.toNat := by
  obtain ⟨n, rfl⟩ := Int.eq_ofNat_of_zero_le h
  unfold cutL
  rw [List.length_take, HT.sIx_none, HT.sIx_nat]
  show min (min n t.length - 0) _ ≤ n
  omega
def drawn_body : TSp :=
    (tsSeq (tsSet 6 (tpCall 2 fsPull (tlCons (tpVar 0) (tlCons (tpC (.int 5)) tlNil))))
    (tsSeq (tsIf (tbAnd (tbV (tpOp fEq (tpVar 6) (tpC (.int 0)))) (tbV (tpOp fNe (tpVar 4) (tpC (.str [])))))
    (tsSet 4 (tpOp fAdd (tpVar 4) (tpSl (tpVar 4) (toSome (tpOp fSub (tpOp fSub (tp1 fLenS (tpVar 4)) (tpC (.int 1))) (tpCall 2 fsPull (tlCons (tpVar 0) (tlCons (tp1 fLenS (tpVar 4)) tlNil))))) toNo)))
    (tsIf (tbAnd (tbV (tpOp fEq (tpVar 6) (tpC (.int 1)))) (tbV (tpOp fGt (tp1 fLenS (tpVar 4)) (tpC (.int 1)))))
    (tsSet 4 (tpOp fAdd (tpVar 4) (tpOp fIx (tpVar 4) (tpCall 2 fsPull (tlCons (tpVar 0) (tlCons (tp1 fLenS (tpVar 4)) tlNil))))))
    (tsSet 4 (tpOp fAdd (tpVar 4) (tpCall 2 fsPick (tlCons (tpVar 0) (tlCons (tpVar 1) tlNil)))))))
    (tsSet 4 (tpSl (tpVar 4) toNo (toSome (tpVar 2))))))
theorem drawn_step {s t : List Nat} {m z : Int} {s5 s6 : Sl} {P : PEn} (hs : s ≠ []) (hsl : s.length ≤ 100000) (hpl : D.plain (.str s) = true) (hm : 0 ≤ m) (hm2 : m ≤ 3000) (ht : t.length ≤ m.toNat) (hts : ∀ c ∈ t, c ∈ s)
    (hk : ∀ (t' : List Nat) (s6' : Sl), t'.length ≤ m.toNat → (∀ c ∈ t', c ∈ s) → P.nx [.pu .bag, .pu (.str s), .pu (.int m), .pu (.int z), .pu (.str t'), s5, s6']) :
    drawn_body P [.pu .bag, .pu (.str s), .pu (.int m), .pu (.int z), .pu (.str t), s5, s6] := by
  have tp : D.plain (.str t) = true := by
    show t.all _ = true
    rw [List.all_eq_true]
    exact fun c hc => List.all_eq_true.mp hpl c (hts c hc)
  have big : t.length ≤ sizeLine := Nat.le_trans (show t.length ≤ 3000 by omega) (by decide)
  -- behind the piece that is put on
  have fin : ∀ (u : List Nat) (s6' : Sl), u.length ≤ 7000 → (∀ c ∈ u, c ∈ s) → (tsSet 4 (tpSl (tpVar 4) toNo (toSome (tpVar 2)))) P [.pu .bag, .pu (.str s), .pu (.int m), .pu (.int z), .pu (.str u), s5, s6'] := fun u s6' hu hus =>
    ⟨Nat.le_trans hu (by decide), hk _ _ (cut_hi hm) fun c hc => hus c (cut_mem hc)⟩
  refine ⟨rfl, ⟨by decide, by decide⟩, fun r r0 r1 => ?_⟩
  have second : (tsIf (tbAnd (tbV (tpOp fEq (tpVar 6) (tpC (.int 1)))) (tbV (tpOp fGt (tp1 fLenS (tpVar 4)) (tpC (.int 1)))))
    (tsSet 4 (tpOp fAdd (tpVar 4) (tpOp fIx (tpVar 4) (tpCall 2 fsPull (tlCons (tpVar 0) (tlCons (tp1 fLenS (tpVar 4)) tlNil))))))
    (tsSet 4 (tpOp fAdd (tpVar 4) (tpCall 2 fsPick (tlCons (tpVar 0) (tlCons (tpVar 1) tlNil)))))) { P with nx := (tsSet 4 (tpSl (tpVar 4) toNo (toSome (tpVar 2)))) P } [.pu .bag, .pu (.str s), .pu (.int m), .pu (.int z), .pu (.str t), s5, .pu (.int r)] := by
    have pick : (tsSet 4 (tpOp fAdd (tpVar 4) (tpCall 2 fsPick (tlCons (tpVar 0) (tlCons (tpVar 1) tlNil))))) { P with nx := (tsSet 4 (tpSl (tpVar 4) toNo (toSome (tpVar 2)))) P } [.pu .bag, .pu (.str s), .pu (.int m), .pu (.int z), .pu (.str t), s5, .pu (.int r)] := by
      refine ⟨rfl, ⟨hs, hsl⟩, fun c hc => ⟨Nat.le_trans (show t.length + 1 ≤ 3001 by omega) (by decide), fin _ _ (by rw [List.length_append, List.length_singleton]; omega) fun d hd => ?_⟩⟩
      rcases List.mem_append.mp hd with hd | hd
      · exact hts d hd
      · rw [List.mem_singleton.mp hd]
        exact hc
    refine ⟨⟨rfl, rfl, Nat.zero_le _, Nat.zero_le _⟩, ite_of (fun h1 => ⟨big, ite_of (fun h2 => ?_) (fun _ => pick)⟩) (fun _ => pick)⟩
    have h2 : decide ((1 : Int) < (t.length : Int)) = true := h2
    have hp := of_decide_eq_true h2
    refine ⟨big, rfl, ⟨by omega, by omega⟩, fun q q0 q1 => ⟨big, ?_⟩⟩
    obtain ⟨n, rfl⟩ := Int.eq_ofNat_of_zero_le q0
    have hn : n < t.length := by omega
    rw [at_nat t n hn]
    refine ⟨Nat.le_trans (show t.length + 1 ≤ 3001 by omega) (by decide), fin _ _ (by rw [List.length_append, List.length_singleton]; omega) fun d hd => ?_⟩
    rcases List.mem_append.mp hd with hd | hd
    · exact hts d hd
    · rw [List.mem_singleton.mp hd]
      exact hts _ (List.getElem_mem hn)
  refine ⟨⟨rfl, rfl, Nat.zero_le _, Nat.zero_le _⟩, ite_of (fun h1 => ?_) (fun h1 => second)⟩
  refine ⟨⟨tp, rfl, Nat.zero_le _, Nat.zero_le _⟩, ite_of (fun h2 => ?_) (fun h2 => second)⟩
  have ne : t ≠ [] := fun z => by
    subst z
    exact absurd h2 (by decide)
  have hp : 0 < t.length := List.length_pos_iff.mpr ne
  refine ⟨big, big, rfl, ⟨by omega, by omega⟩, fun q q0 q1 => ⟨big, ?_, fin _ _ ?_ fun d hd => ?_⟩⟩
  · have := cut_len (t := t) (lo := some ((t.length : Int) - 1 - q)) (hi := none)
    exact Nat.le_trans (show _ ≤ 6000 by omega) (by decide)
  · have := cut_len (t := t) (lo := some ((t.length : Int) - 1 - q)) (hi := none)
    rw [List.length_append]
    omega
  · rcases List.mem_append.mp hd with hd | hd
    · exact hts d hd
    · exact hts d (cut_mem hd)
theorem drawn_loop {s : List Nat} {m z : Int} {P : PEn} (hs : s ≠ []) (hsl : s.length ≤ 100000) (hpl : D.plain (.str s) = true) (hm : 0 ≤ m) (hm2 : m ≤ 3000)
    (hk : ∀ (t : List Nat) (s5 s6 : Sl), t.length ≤ m.toNat → (∀ c ∈ t, c ∈ s) → P.nx [.pu .bag, .pu (.str s), .pu (.int m), .pu (.int z), .pu (.str t), s5, s6]) :
    ∀ (r : List Nat) (t : List Nat) (s5 s6 : Sl), t.length ≤ m.toNat → (∀ c ∈ t, c ∈ s) → forW (tgName 5) drawn_body P (r.map fun i => .int (i : Nat)) [.pu .bag, .pu (.str s), .pu (.int m), .pu (.int z), .pu (.str t), s5, s6]
  | [], t, s5, s6, h1, h2 => hk t s5 s6 h1 h2
  | i :: r, t, s5, s6, h1, h2 => drawn_step (P := { P with nx := forW (tgName 5) drawn_body P (r.map fun i => .int (i : Nat)), ct := forW (tgName 5) drawn_body P (r.map fun i => .int (i : Nat)), bk := P.nx }) (s5 := .pu (.int (i : Nat))) hs hsl hpl hm hm2 h1 h2
      fun t' s6' a b => drawn_loop hs hsl hpl hm hm2 hk r t' _ s6' a b
theorem drawn_ok' : fsDrawn ds kd kx → m_law_drawn fsPick fsPull ds kd kx := by
  intro h0
  match ds, h0 with
  | [.bag, .str s, .int m], ⟨⟨hs, hsl, hpl, hm, hm2⟩, h⟩ =>
    have main : ∀ z : Int, 0 ≤ z → z ≤ m → (tsSeq (tsFor (tiRng1 (tlCons (tpVar 3) tlNil)) (tgName 5) drawn_body) (tsRet (tpSl (tpVar 4) toNo (toSome (tpVar 3))))) (fEnds kd kx) [.pu .bag, .pu (.str s), .pu (.int m), .pu (.int z), .pu (.str []), .un, .un] := fun z z0 z1 => by
      refine ⟨⟨by omega, by omega⟩, drawn_loop (z := z) (P := { fEnds kd kx with nx := (tsRet (tpSl (tpVar 4) toNo (toSome (tpVar 3)))) (fEnds kd kx) }) hs hsl hpl hm hm2 (fun t s5 s6 h1 h2 => ⟨Nat.le_trans (show t.length ≤ 3000 by omega) (by decide), h _ ?_ fun c hc => h2 c (cut_mem hc)⟩) _ [] _ _ (Nat.zero_le _) (by simp)⟩
      have := cut_hi (t := t) z0
      omega
    refine ⟨rfl, ⟨by omega, by omega⟩, fun a a0 a1 => ⟨rfl, ⟨?_, ?_⟩, fun b b0 b1 => ⟨by show 2 ≤ 100000; decide, rfl, ⟨by simp, by show 2 ≤ 100000; decide⟩, fun x hx => ?_⟩⟩⟩
    · show (1 : Int) ≤ (if 5 < m then 5 else m) + 1
      split <;> omega
    · show (if 5 < m then 5 else m) + 1 < 1073741824
      split <;> omega
    · have hb : b ≤ m := by
        have b1 : b < (if 5 < m then 5 else m) + 1 := b1
        split at b1 <;> omega
      rcases List.mem_cons.mp hx with rfl | hx
      · exact main a a0 (by omega)
      · rw [List.mem_singleton.mp hx]
        exact main b b0 hb
end
end PL
set_option Elab.async false
set_option linter.all false
set_option maxRecDepth 100000
set_option maxHeartbeats 4000000
namespace PL
open PySem
def IsFront (s : List Nat) (p : Nat) : Prop := ∃ c, s[p]? = some c ∧ (∀ k, k < p → s[k]? ≠ some c) ∧ ∀ d ∈ s, ∃ k, k ≤ p ∧ s[k]? = some d
def IsRear (s : List Nat) (p : Nat) : Prop := ∃ c, s[p]? = some c ∧ (∀ k, p < k → s[k]? ≠ some c) ∧ ∀ d ∈ s, ∃ k, p ≤ k ∧ s[k]? = some d
theorem IsFront.lt {s : List Nat} {p : Nat} (h : IsFront s p) : p < s.length := by
  obtain ⟨c, h, _⟩ := h
  exact (List.getElem?_eq_some_iff.mp h).1
theorem IsRear.lt {s : List Nat} {p : Nat} (h : IsRear s p) : p < s.length := by
  obtain ⟨c, h, _⟩ := h
  exact (List.getElem?_eq_some_iff.mp h).1
theorem rev_get {s : List Nat} {k : Nat} (h : k < s.length) : s.reverse[k]? = s[s.length - 1 - k]? := List.getElem?_reverse h
theorem front_rev {s : List Nat} {q : Nat} (h : IsFront s.reverse q) : q < s.length ∧ IsRear s (s.length - 1 - q) := by
  have hq := h.lt
  rw [List.length_reverse] at hq
  obtain ⟨c, h1, h2, h3⟩ := h
  refine ⟨hq, c, by rw [← rev_get hq]; exact h1, fun k hk e => ?_, fun d hd => ?_⟩
  · have hl := (List.getElem?_eq_some_iff.mp e).1
    refine h2 (s.length - 1 - k) (by omega) ?_
    rw [rev_get (by omega), show s.length - 1 - (s.length - 1 - k) = k by omega]
    exact e
  · obtain ⟨k, k1, k2⟩ := h3 d (List.mem_reverse.mpr hd)
    rw [rev_get (by omega)] at k2
    exact ⟨_, by omega, k2⟩
/-- the walk over the signs: pre what is behind, pl the place so far -/
def frontGo : List Nat → Nat → List Nat → Nat
  | _, pl, [] => pl
  | pre, pl, c :: r => frontGo (pre ++ [c]) (if c ∈ pre then pl else pre.length) r
theorem front_step {pre : List Nat} {pl c : Nat} (h : pre ≠ [] → IsFront pre pl) : IsFront (pre ++ [c]) (if c ∈ pre then pl else pre.length) := by
  by_cases hc : c ∈ pre
  · rw [if_pos hc]
    have hf := h fun z => by rw [z] at hc; cases hc
    have hl := hf.lt
    obtain ⟨d, h1, h2, h3⟩ := hf
    refine ⟨d, by rw [List.getElem?_append_left hl]; exact h1, fun k hk => by rw [List.getElem?_append_left (by omega)]; exact h2 k hk, fun x hx => ?_⟩
    have hx : x ∈ pre := by
      rcases List.mem_append.mp hx with z | z
      · exact z
      · rw [List.mem_singleton.mp z]; exact hc
    obtain ⟨k, k1, k2⟩ := h3 x hx
    exact ⟨k, k1, by rw [List.getElem?_append_left (by omega)]; exact k2⟩
  · rw [if_neg hc]
    refine ⟨c, by rw [List.getElem?_append_right (Nat.le_refl _)]; simp, fun k hk e => ?_, fun x hx => ?_⟩
    · rw [List.getElem?_append_left hk] at e
      exact hc (List.mem_of_getElem? e)
    · obtain ⟨k, hk, e⟩ := List.getElem_of_mem hx
      rw [List.length_append, List.length_singleton] at hk
      exact ⟨k, by omega, by rw [← e]; exact List.getElem?_eq_getElem _⟩
theorem frontGo_ok : ∀ (r pre : List Nat) (pl : Nat), (pre ≠ [] → IsFront pre pl) → pre ++ r ≠ [] → IsFront (pre ++ r) (frontGo pre pl r)
  | [], pre, pl, h, n => by
    rw [List.append_nil] at n ⊢
    exact h n
  | c :: r, pre, pl, h, n => by
    have := frontGo_ok r (pre ++ [c]) (if c ∈ pre then pl else pre.length) (fun _ => front_step h) (by simp)
    rw [List.append_assoc] at this
    exact this
end PL
set_option Elab.async false
set_option linter.all false
set_option maxRecDepth 100000
set_option maxHeartbeats 4000000
namespace PL
open PySem L2
theorem cut_take {α : Type} (s : List α) (n : Nat) : cutL s none (some (n : Int)) = s.take n := by
  unfold cutL
  rw [HT.sIx_none, HT.sIx_nat, List.drop_zero, Nat.sub_zero]
  rcases Nat.le_total n s.length with h | h
  · rw [Nat.min_eq_left h]
  · rw [Nat.min_eq_right h, List.take_of_length_le (Nat.le_refl _), List.take_of_length_le h]
theorem cut_drop {α : Type} (s : List α) (n : Nat) : cutL s (some (n : Int)) none = s.drop n := by
  unfold cutL
  rw [HT.sIx_none, HT.sIx_nat]
  rcases Nat.le_total n s.length with h | h
  · rw [Nat.min_eq_left h, List.take_of_length_le (by rw [List.length_drop]; exact Nat.le_refl _)]
  · rw [Nat.min_eq_right h, List.drop_of_length_le (Nat.le_refl _), List.drop_of_length_le h, List.take_nil]
def fsAlpha : FS := fun ds k _ => match ds with
  | [.bag, .int m] => (1 ≤ m ∧ m ≤ 26) ∧ ∀ s : List Nat, s ≠ [] → (s.length : Int) ≤ m → s.Pairwise (· < ·) → (∀ c ∈ s, c ∈ LET) → k (.str s)
  | _ => False
theorem let_at {n : Nat} (h : n < 26) : LET[n]? = some (97 + n) := by
  have : ∀ n, n < 26 → LET[n]? = some (97 + n) := by decide
  exact this n h
theorem let_mem {c : Nat} (h1 : 97 ≤ c) (h2 : c < 123) : c ∈ LET := by
  have := let_at (n := c - 97) (by omega)
  rw [show 97 + (c - 97) = c by omega] at this
  exact List.mem_of_getElem? this
theorem let_iff {c : Nat} : c ∈ LET ↔ 97 ≤ c ∧ c < 123 := by
  refine ⟨fun h => ?_, fun h => let_mem h.1 h.2⟩
  have : ∀ c ∈ LET, 97 ≤ c ∧ c < 123 := by decide
  exact this c h
def alpha_body : TSp :=
    (tsSeq (tsSet 7 (tpCall 2 fsPick (tlCons (tpVar 0) (tlCons (tpLst (tlCons (tpC (.int 0)) (tlCons (tpCall 2 fsPull (tlCons (tpVar 0) (tlCons (tpOp fAdd (tpVar 5) (tpC (.int 1))) tlNil))) (tlCons (tpN fMin2 (tlCons (tpVar 5) (tlCons (tpCall 2 fsPull (tlCons (tpVar 0) (tlCons (tpC (.int 4)) tlNil))) tlNil))) tlNil)))) tlNil))))
    (tsSeq (tsPar [4, 5] (tlCons (tpOp fAdd (tpVar 4) (tpVar 7)) (tlCons (tpOp fSub (tpVar 5) (tpVar 7)) tlNil)))
    (tsSeq (tsSet 3 (tpOp fAdd (tpVar 3) (tpOp fIx (tpCall 0 fsLetters tlNil) (tpVar 4))))
    (tsSet 4 (tpOp fAdd (tpVar 4) (tpC (.int 1)))))))
section
variable {ds : List D} {kd : KD} {kx : KX}
local instance : Tabl := ⟨[], fun p hp => absurd hp (by simp)⟩
theorem alpha_step {P : PEn} {m z a room : Int} {f : List Nat} {s6 s7 : Sl} (h0 : 0 ≤ a) (h1 : 0 ≤ room) (h2 : a + room < 26) (hf : f.length ≤ 26) (hlt : ∀ c ∈ f, (c : Int) < 97 + a)
    (hk : ∀ (g : Int) (n : Nat) (s7' : Sl), 0 ≤ g → g ≤ room → a + g = n → P.nx [.pu .bag, .pu (.int m), .pu (.int z), .pu (.str (f ++ [97 + n])), .pu (.int (n + 1)), .pu (.int (room - g)), s6, s7']) :
    alpha_body P [.pu .bag, .pu (.int m), .pu (.int z), .pu (.str f), .pu (.int a), .pu (.int room), s6, s7] := by
  have go : ∀ g : Int, 0 ≤ g → g ≤ room → (tsSeq (tsPar [4, 5] (tlCons (tpOp fAdd (tpVar 4) (tpVar 7)) (tlCons (tpOp fSub (tpVar 5) (tpVar 7)) tlNil)))
    (tsSeq (tsSet 3 (tpOp fAdd (tpVar 3) (tpOp fIx (tpCall 0 fsLetters tlNil) (tpVar 4))))
    (tsSet 4 (tpOp fAdd (tpVar 4) (tpC (.int 1)))))) P [.pu .bag, .pu (.int m), .pu (.int z), .pu (.str f), .pu (.int a), .pu (.int room), s6, .pu (.int g)] := fun g g0 g1 => by
    obtain ⟨n, hn⟩ := Int.eq_ofNat_of_zero_le (show 0 ≤ a + g by omega)
    have hn26 : n < 26 := by omega
    refine ⟨rfl, by show 26 ≤ sizeLine; decide, ?_⟩
    show (match atI LET (a + g) with | some c => _ | none => False)
    rw [hn, at_nat LET n (by show n < 26; exact hn26)]
    have e : LET[n]'(by show n < 26; exact hn26) = 97 + n := by
      have := let_at hn26
      rw [List.getElem?_eq_getElem (by show n < 26; exact hn26)] at this
      exact Option.some.inj this
    rw [e]
    refine ⟨Nat.le_trans (show f.length + 1 ≤ 27 by omega) (by decide), ?_⟩
    exact hk g n _ g0 g1 hn
  refine ⟨rfl, ⟨by omega, by omega⟩, fun r r0 r1 => ⟨rfl, ⟨by decide, by decide⟩, fun q q0 q1 => ⟨by show 3 ≤ 100000; decide, rfl, ⟨by simp, by show 3 ≤ 100000; decide⟩, fun x hx => ?_⟩⟩⟩
  simp only [List.mem_cons, List.not_mem_nil, or_false] at hx
  rcases hx with rfl | rfl | rfl
  · exact go 0 (by decide) h1
  · exact go r r0 (by omega)
  · refine go _ ?_ ?_
    · split <;> omega
    · split <;> omega
theorem alpha_loop {P : PEn} {m z : Int} (hz : z ≤ 26)
    (hk : ∀ (f : List Nat) (a room : Int) (s6 s7 : Sl), (f.length : Int) = z → f.Pairwise (· < ·) → (∀ c ∈ f, c ∈ LET) → P.nx [.pu .bag, .pu (.int m), .pu (.int z), .pu (.str f), .pu (.int a), .pu (.int room), s6, s7]) :
    ∀ (r : List Nat) (f : List Nat) (a room : Int) (s6 s7 : Sl), 0 ≤ a → 0 ≤ room → a + room + r.length ≤ 26 → (f.length : Int) + r.length = z → f.Pairwise (· < ·) → (∀ c ∈ f, 97 ≤ c ∧ (c : Int) < 97 + a ∧ c < 123) →
      forW (tgName 6) alpha_body P (r.map fun i => .int (i : Nat)) [.pu .bag, .pu (.int m), .pu (.int z), .pu (.str f), .pu (.int a), .pu (.int room), s6, s7]
  | [], f, a, room, s6, s7, h0, h1, h2, h3, h4, h5 => hk f a room s6 s7 (by simpa using h3) h4 fun c hc => let_mem (h5 c hc).1 (h5 c hc).2.2
  | i :: r, f, a, room, s6, s7, h0, h1, h2, h3, h4, h5 => by
    rw [List.length_cons] at h2 h3
    refine alpha_step (P := { P with nx := forW (tgName 6) alpha_body P (r.map fun i => .int (i : Nat)), ct := forW (tgName 6) alpha_body P (r.map fun i => .int (i : Nat)), bk := P.nx }) (s6 := .pu (.int (i : Nat))) h0 h1 (by omega) (by omega) (fun c hc => (h5 c hc).2.1) fun g n s7' g0 g1 hn => ?_
    refine alpha_loop hz hk r (f ++ [97 + n]) (n + 1) (room - g) _ _ (by omega) (by omega) (by omega) (by rw [List.length_append, List.length_singleton]; omega) ?_ ?_
    · refine List.pairwise_append.mpr ⟨h4, List.pairwise_singleton _ _, fun c hc d hd => ?_⟩
      rw [List.mem_singleton.mp hd]
      have := (h5 c hc).2.1
      omega
    · intro c hc
      rcases List.mem_append.mp hc with hc | hc
      · have := h5 c hc
        omega
      · rw [List.mem_singleton.mp hc]
        omega
theorem alpha_ok' : fsAlpha ds kd kx → m_law_alphabet fsPull fsPick fsLetters ds kd kx := by
  intro h0
  match ds, h0 with
  | [.bag, .int m], ⟨⟨m1, m2⟩, h⟩ =>
    refine ⟨rfl, ⟨m1, by omega⟩, fun r r0 r1 => ?_⟩
    refine ⟨⟨by omega, by omega⟩, ?_⟩
    have hl : ((List.range (1 + r).toNat).length : Int) = 1 + r := by rw [List.length_range]; omega
    refine alpha_loop (z := 1 + r) (P := { fEnds kd kx with nx := (tsRet (tpVar 3)) (fEnds kd kx) }) (by omega) (fun f a room s6 s7 e p l => ?_) _ [] 0 (26 - (1 + r)) _ _ (by decide) (by omega) (by rw [hl]; omega) (by rw [hl]; exact Int.zero_add _) .nil (by simp)
    exact h f (fun z => by rw [z] at e; simp at e; omega) (by omega) p l
end
end PL
set_option Elab.async false
set_option linter.all false
set_option maxRecDepth 100000
set_option maxHeartbeats 4000000
namespace PL
open PySem L2
variable [Tabl]
theorem DenU.ins {K : PySem.W.Frag} {H0 G H : Hp} {v : V} {C : Addr} {fs : List (PySem.Str × D)} (s : Sub G H) (h : DenU K H0 G H v (.ins C fs)) : ∃ a dx fvs, v = .ref a ∧ H a = some (.ins C dx fvs) ∧ DenF K G fvs fs := by
  rcases h with h | ⟨p, e, g, dx, fvs, h1, h2, h3, h4, h5⟩
  · cases h with
    | ins h1 h2 h3 => exact ⟨_, _, _, rfl, s.at_ h1 (fun z => z), h3⟩
  · exact ⟨p, dx, fvs, e, h1, h5⟩
theorem DenU.sl {K : PySem.W.Frag} {H0 G H : Hp} {v : V} {C : Addr} {ds : List D} (s : Sub G H) (h : DenU K H0 G H v (.sl C ds)) : ∃ (a dx : Addr) (vs : List V), v = .ref a ∧ SlX.Slt H a C dx (vs.map some) ∧ DenL K G vs ds := by
  rcases h with h | ⟨p, e, g, r⟩
  · cases h with
    | @sl a _ dx vs _ h1 h2 h3 => exact ⟨a, dx, vs, rfl, .inr ⟨s.at_ h1 (fun z => by unfold SlX.SlO at z; exact z), s.at_ h2 (fun z => z)⟩, h3⟩
  · exact r.elim
theorem DenU.cls {K : PySem.W.Frag} {H0 G H : Hp} {v : V} {C : Addr} (h : DenU K H0 G H v (.cls C)) : v = .ref C := by
  rcases h with h | ⟨p, e, g, r⟩
  · cases h; rfl
  · exact r.elim
def tpFld (cs : List Addr) (f : PySem.Str) (t : TP) : TP := fun Γ k kx => t Γ (fun d => match d with
  | .ins C fs => C ∈ cs ∧ match fs.lookup f with
    | some v => k v
    | none => False
  | _ => False) kx
section
variable {X : Cx} {W : WX} {e o : Expr} {es : List Expr} {t ta : TP} {tl : TL} {f m : PySem.Str} {pos apos p : Pos} {cs : List Addr}
theorem p_fld (hc : ∀ C ∈ cs, Cls X.K C ∧ NoAttr X.K C f) (ha : PU X W e t) (hb : attributeBase e f X.env (eval e X.env) = eval e X.env := by rfl) : PP X W (.Attribute e f pos) (tpFld cs f t) := by
  obtain ⟨ea, pa, ra⟩ := ha.ex
  refine ⟨_, pe_fld pa hb, fun G0 H0 Γ σ G H k kx Q F ht hk hx => ?_⟩
  refine ra G0 H0 Γ σ G H _ kx _ F ht (fun d v G1 H1 k1 x1 n1 => ?_) hx
  cases d with
  | ins C fs =>
    obtain ⟨hC, k2⟩ := k1
    cases e : fs.lookup f with
    | none => rw [e] at k2; exact k2.elim
    | some y =>
      rw [e] at k2
      obtain ⟨a, dx, fvs, rfl, h1, h2⟩ := n1.ins x1.sub
      obtain ⟨u, hu, nu⟩ := h2.get e
      exact ⟨a, C, dx, fvs, u, rfl, h1, (hc C hC).1, (hc C hC).2, hu, hk y u G1 H1 k2 x1 nu⟩
  | _ => exact k1.elim
theorem run_fnRS {CX : CXT} {k : Nat} {f : Addr} {sp : Sp} {E : XK} {Q : VK} {us : List Value} {vs : List V} {pins : List (Addr × Obj)} {σ : L2.St} {H : Hp} {s : Shared} (F : FnR X.prog X.w X.K X.mg X.base CX k f sp) (hr : Room k X.A) (hx : PassesAt CX X σ E) (I : Inv X pins σ H s) (r : Vals vs us) (h : sp vs H Q E) :
    codeAny (model X.prog X.w) X.A (.call (.ref f) ⟨us, []⟩) (fun r s' => match r with | .ok (.ret v) => EP X pins σ Q v s' | .ok _ => False | .error e => X.xe e s') s := by
  refine codeAny_mono (F X.A X.stack s H us vs Q E hr I.env0 r h) fun r s' hq => ?_
  cases r with
  | error e => exact hx pins H s e s' I hq
  | ok fl =>
    cases fl with
    | ret u => exact I.after hq
    | next => exact False.elim hq
    | brk => exact False.elim hq
    | cont => exact False.elim hq
/-- a method of a class with dicts -/
structure Mt (P : Program) (w : World) (K : PySem.W.Frag) (mg : PySem.Str → Option Value) (base : Heap) (C : Addr) (m : PySem.Str) (k n : Nat) (fs : FS) : Prop where
  c : Cls K C
  ex : ∃ f, Meth K C m f ∧ FnR P w K mg base (L2.CX P w) k f (spOf K (n + 1) fs)
end
end PL
set_option Elab.async false
set_option linter.all false
set_option maxRecDepth 100000
set_option maxHeartbeats 4000000
namespace PL
open PySem L2 PyProof.Rows PySem.W
/-- a block within the body b of a def -/
structure PSb (X : Cx) (b : List Stmt) (st : List Stmt) (t : TS) : Prop where
  run : ∀ (pins : List (Addr × Obj)) (s : Shared) (σ : L2.St) (H : Hp) (D : Ends), Inv X pins σ H s → t D σ H → PySem.wpAt (model X.prog X.w) X.A (.func b X.env) (execs st X.env) (SP X pins D) X.xe s
structure PS1b (X : Cx) (b : List Stmt) (st : Stmt) (t : TS) : Prop where
  run : ∀ (pins : List (Addr × Obj)) (s : Shared) (σ : L2.St) (H : Hp) (D : Ends), Inv X pins σ H s → t D σ H → PySem.wpAt (model X.prog X.w) X.A (.func b X.env) (exec st X.env) (SP X pins D) X.xe s
section
variable {X : Cx} {bo : List Stmt} {st : Stmt} {rest : List Stmt} {t u : TS}
theorem PSs.bl (h : PSs X rest t) : PSb X bo rest t := ⟨fun pins s σ H D I q => PySem.wpAt_of_wpAny (h.run pins s σ H D I q)⟩
theorem PS.bl (h : PS X st t) : PS1b X bo st t := ⟨fun pins s σ H D I q => PySem.wpAt_of_wpAny (h.run pins s σ H D I q)⟩
end
end PL
set_option Elab.async false
set_option linter.all false
set_option maxRecDepth 100000
set_option maxHeartbeats 4000000
namespace PL
open PySem L2 PyProof.Rows PySem.W PySem.Calls
end PL
set_option Elab.async false
set_option linter.all false
set_option maxRecDepth 100000
set_option maxHeartbeats 4000000
namespace PL
open PySem L2 PyProof.Rows
variable [Tabl]
def hole2 (H : Hp) (p d : Addr) : Hp := fun a => if a = p ∨ a = d then none else H a
theorem hole2_p {H : Hp} {p d : Addr} : hole2 H p d p = none := by unfold hole2; rw [if_pos (.inl rfl)]
theorem hole2_d {H : Hp} {p d : Addr} : hole2 H p d d = none := by unfold hole2; rw [if_pos (.inr rfl)]
theorem hole2_ne {H : Hp} {p d a : Addr} (h1 : a ≠ p) (h2 : a ≠ d) : hole2 H p d a = H a := by unfold hole2; rw [if_neg (fun z => z.elim h1 h2)]
theorem hole2_same {H : Hp} {p d : Addr} : Same (hole2 H p d) H := fun a o e => by
  by_cases h : a = p ∨ a = d
  · unfold hole2 at e
    rw [if_pos h] at e
    cases e
  · unfold hole2 at e
    rwa [if_neg h] at e
theorem hole2_tab {H : Hp} {p d P : Addr} {C : Addr} {fvs : List (PySem.Str × V)} {q : PySem.Str} (t : LamX.TabS H P q) (hp : H p = some (.ins C d fvs)) (hd : H d = some (.own p)) : LamX.TabS (hole2 H p d) P q := by
  obtain ⟨ps, h1, h2, h3⟩ := t
  have at_ : ∀ {a : Addr} {o : HO}, H a = some o → o ≠ .ins C d fvs → o ≠ .own p → hole2 H p d a = some o := fun {a o} e n1 n2 => by
    rw [hole2_ne (fun z => by rw [z, hp] at e; exact n1 (Option.some.inj e).symm) (fun z => by rw [z, hd] at e; exact n2 (Option.some.inj e).symm)]
    exact e
  refine ⟨ps, at_ h1 (fun z => nomatch z) (fun z => nomatch z), h2, fun pos cv hc => ?_⟩
  obtain ⟨c, e1, e2⟩ := h3 pos cv hc
  exact ⟨c, e1, at_ e2 (fun z => by unfold LamX.CodeO at z; cases z) (fun z => by unfold LamX.CodeO at z; cases z)⟩
theorem hole2_sub {G H : Hp} {p d C : Addr} {fvs : List (PySem.Str × V)} (s : Sub G H) (gp : G p = none) (gd : G d = none) (hp : H p = some (.ins C d fvs)) (hd : H d = some (.own p)) : Sub G (hole2 H p d) := by
  refine ⟨fun a o e => ?_, s.nt, fun q hq => hole2_tab (s.tb q hq) hp hd⟩
  have n1 : a ≠ p := fun z => by rw [z, gp] at e; cases e
  have n2 : a ≠ d := fun z => by rw [z, gd] at e; cases e
  rw [hole2_ne n1 n2]
  exact s.m a o e
/-- the object handed in is the def's own: an instance -/
def spOi (K : PySem.W.Frag) (n : Nat) (fs : FSo) : Sp := fun vs H Q E => ∃ G ds k kx p dx C fs0 fvs, vs.length = n ∧ ds.length = n ∧ Sub G H ∧ G p = none ∧ G dx = none ∧ vs[0]? = some (.ref p) ∧ ds[0]? = some (.ins C fs0) ∧ H p = some (.ins C dx fvs) ∧ H dx = some (.own p) ∧ DenF K G fvs fs0 ∧
  (∀ (i : Nat) v d, i ≠ 0 → vs[i]? = some v → ds[i]? = some d → Den K G v d) ∧ fs ds k kx ∧
  (∀ d e v G' H', k d e → Ext G (hole2 H p dx) G' H' → G' p = none → OwnAt K (hole2 H p dx) G' H' p e → Den K G' v d → Q v H') ∧
  (∀ x cls dA G' H', kx x → Ext G (hole2 H p dx) G' H' → XDen K G' H' cls dA x → E cls dA H')
def iEnds (p : Addr) (k : D → D → Prop) (kx : KX) : PEn := ⟨fun Γ => match gat Γ 0 with | .pw q e => q = p ∧ k .non e | _ => False, fun _ => False, fun _ => False, fun d Γ => match gat Γ 0 with | .pw q e => q = p ∧ k d e | _ => False, fun x _ => kx x⟩
theorem fr_own0 {K : PySem.W.Frag} {G H H0 : Hp} {N : List PySem.Str} {vs : List V} {ds : List D} {p : Addr} {d : D} (x : Ext G H0 G H) (hl : vs.length = ds.length) (g : G p = none) (h0 : H0 p = none) (hv : vs[0]? = some (.ref p)) (hd : ds[0]? = some d) (ho : OwnAt K H0 G H p d)
    (hr : ∀ (i : Nat) v d, i ≠ 0 → vs[i]? = some v → ds[i]? = some d → Den K G v d) : Fr K G H0 (gaO N.length 0 p ds) (L2.start N vs) G H := by
  match ds, vs, hl, hv, hd, hr with
  | [], _, _, _, hd, _ => cases hd
  | d0 :: dr, [], hl, _, _, _ => cases hl
  | d0 :: dr, v0 :: vr, hl, hv, hd, hr =>
    cases hv
    cases hd
    have hl : vr.length = dr.length := by simpa using hl
    have eg : gaO N.length 0 p (d :: dr) = .pw p d :: (dr.map Sl.pu ++ List.replicate (N.length - (dr.length + 1)) Sl.un) := rfl
    have es : L2.start N (.ref p :: vr) = some (.ref p) :: (vr.map some ++ List.replicate (N.length - (vr.length + 1)) none) := rfl
    have rest : ∀ (i : Nat) (s : Sl), (dr.map Sl.pu ++ List.replicate (N.length - (dr.length + 1)) Sl.un)[i]? = some s → s = .un ∨ ∃ d, dr[i]? = some d ∧ s = .pu d := fun i s h => by
      by_cases hi : i < dr.length
      · rw [List.getElem?_append_left (by rw [List.length_map]; exact hi), List.getElem?_map, List.getElem?_eq_getElem hi] at h
        cases h
        exact .inr ⟨_, List.getElem?_eq_getElem hi, rfl⟩
      · rw [List.getElem?_append_right (by rw [List.length_map]; omega)] at h
        exact .inl (List.mem_replicate.mp (List.mem_of_getElem? h)).2
    have own0 : ∀ (i : Nat) (s : Sl), (gaO N.length 0 p (d :: dr))[i]? = some s → s.owns → i = 0 := fun i s h ow => by
      rw [eg] at h
      cases i with
      | zero => rfl
      | succ i =>
        rw [List.getElem?_cons_succ] at h
        rcases rest i s h with rfl | ⟨_, _, rfl⟩ <;> exact ow.elim
    refine ⟨by rw [eg, es]; simp [hl], x, fun i s h => ?_, fun a b q s t h1 h2 h3 h4 _ _ => (own0 a s h1 h2).trans (own0 b t h3 h4).symm⟩
    rw [eg] at h
    cases i with
    | zero =>
      cases h
      exact ⟨by rw [es]; rfl, g, h0, ho⟩
    | succ i =>
      rw [List.getElem?_cons_succ] at h
      rcases rest i s h with rfl | ⟨d1, e1, rfl⟩
      · trivial
      · have hi := (List.getElem?_eq_some_iff.mp e1).1
        have ev : vr[i]? = some (vr[i]'(by omega)) := List.getElem?_eq_getElem (by omega)
        refine ⟨_, ?_, hr (i + 1) _ d1 (Nat.succ_ne_zero i) (by rw [List.getElem?_cons_succ]; exact ev) (by rw [List.getElem?_cons_succ]; exact e1)⟩
        rw [es, List.getElem?_cons_succ, List.getElem?_append_left (by rw [List.length_map]; omega), List.getElem?_map, ev]
        rfl
theorem spOi_len {K : PySem.W.Frag} {n : Nat} {fs : FSo} {vs : List V} {H : Hp} {Q : VK} {E : XK} (h : spOi K n fs vs H Q E) : vs.length = n := by
  obtain ⟨G, ds, k, kx, p, dx, C, fs0, fvs, a, _⟩ := h
  exact a
/-- the reading of such a def's body -/
theorem read_own {K : PySem.W.Frag} {n : Nat} {fs : FSo} {N : List PySem.Str} {vs : List V} {H : Hp} {Q : VK} {E : XK} {ts : TS} {t : TSp} (h : spOi K n fs vs H Q E) (rd : RdS K (fun cls d _ H => E cls d H) ts t) (ht : ∀ ds kd kx p, ds.length = n → fs ds kd kx → t (iEnds p kd kx) (gaO N.length 0 p ds)) :
    ts { nx := fun _ H' => Q .non H', rt := Q } (L2.start N vs) H := by
  obtain ⟨G, ds, kd, kx, p, dx, C, fs0, fvs, hlv, hl, sb, gp, gd, hv, hd, hp, hdx, df, r, hf, hk, hx⟩ := h
  have x0 : Ext G (hole2 H p dx) G H := ⟨.of hole2_same, Same.refl G, fun _ h _ => h, sb⟩
  have F0 := fr_own0 (N := N) x0 (hlv.trans hl.symm) gp hole2_p hv hd ⟨dx, fvs, hp, hdx, gd, hole2_d, df⟩ r
  have fin : ∀ {Γ σ G' H'} {k0 : D → Prop}, (match gat Γ 0 with | .pw q e => q = p ∧ k0 e | _ => False) → Fr K G (hole2 H p dx) Γ σ G' H' → ∃ e, k0 e ∧ G' p = none ∧ OwnAt K (hole2 H p dx) G' H' p e := fun {Γ σ G' H' k0} q F' => by
    cases e : gat Γ 0 with
    | pw q2 e2 =>
      rw [e] at q
      obtain ⟨rfl, q⟩ := q
      obtain ⟨_, g2, _, o2⟩ := F'.at_ 0 _ (gat_get Γ 0 _ e (by simp))
      exact ⟨e2, q, g2, o2⟩
    | _ => rw [e] at q; exact q.elim
  refine rd G (hole2 H p dx) _ (L2.start N vs) G H (iEnds p kd kx) _ F0 (ht ds kd kx p hl hf) ⟨?_, ?_, ?_, ?_, ?_⟩
  · intro Γ σ G' H' q F'
    obtain ⟨e, q, g2, o2⟩ := fin q F'
    exact hk .non e .non G' H' q F'.e g2 o2 .non
  · intro Γ σ G' H' q
    exact q.elim
  · intro Γ σ G' H' q
    exact q.elim
  · intro d v Γ σ G' H' q F' nn
    obtain ⟨e, q, g2, o2⟩ := fin q F'
    exact hk d e v G' H' q F'.e g2 o2 nn
  · intro y cls dA Γ σ G' H' q F' nn
    exact hx y cls dA G' H' q F'.e nn
section
variable {P : Program} {w : World} {K : PySem.W.Frag} {mg : PySem.Str → Option Value} {base : Heap}
theorem fn_okI {x qual : PySem.Str} {st : Stmt} {f : Addr} {fd : FuncData} {N ps : List PySem.Str} {k n : Nat} {fs : FSo} (F : Fun K x qual st f fd) (S : FnScope N ps (defScope st)) (hn : ps.length = n)
    (body : ∀ (cdv : Value) (A : Around) (outer : List Env) (s : Shared) (H : Hp) (E : XK), Room k (A.deeper (envOfC qual (defScope st) s.heap.objs.size f cdv)) →
      ∃ t, PSS (cxOf (L2.CX P w) P w K mg base N qual (defScope st) f cdv A outer s H E) (fun cls d _ H => E cls d H) (defBody st) t ∧ ∀ ds kd kx p, ds.length = n → fs ds kd kx → t (iEnds p kd kx) (gaO N.length 0 p ds)) :
    FnOk P w K mg base (L2.CX P w) (k + 1) f fd ps (spOi K n fs) := by
  refine F.okX S (fun vs H Q E h => by rw [spOi_len h, hn]) (fun cdv A outer s H vs Q E hr h => ?_)
  obtain ⟨t, ⟨ts, ps, rd⟩, ht⟩ := body cdv A outer s H E hr
  exact ⟨ts, ps, read_own h rd ht⟩
end
section
variable {K : PySem.W.Frag} {G0 H0 G H G' H' : Hp} {Γ : Ga} {σ : L2.St}
theorem OwnAt.hole {p q d C : Addr} {fvs : List (PySem.Str × V)} {y : D} (h : OwnAt K H0 G H q y) (n : q ≠ p) (hp : H p = some (.ins C d fvs)) (hd : H d = some (.own p)) : OwnAt K H0 G (hole2 H p d) q y := by
  have at_ : ∀ {a : Addr} {o : HO}, H a = some o → a ≠ p → o ≠ .own p → hole2 H p d a = some o := fun {a o} e n1 n2 => by
    rw [hole2_ne n1 (fun z => by rw [z, hd] at e; exact n2 (Option.some.inj e).symm)]
    exact e
  cases y with
  | lst ds => obtain ⟨xs, h1, h2⟩ := h; exact ⟨xs, at_ h1 n (fun z => nomatch z), h2⟩
  | dct ks => obtain ⟨xs, h1, h2⟩ := h; exact ⟨xs, at_ h1 n (fun z => nomatch z), h2⟩
  | ins C2 fs =>
    obtain ⟨dx, fv, h1, h2, h3⟩ := h
    exact ⟨dx, fv, at_ h1 n (fun z => nomatch z), at_ h2 (fun z => by rw [z, hp] at h2; cases h2) (fun z => by cases z; exact n rfl), h3⟩
  | _ => exact h.elim
def noKp (Γ : Ga) : Bool := Γ.all fun s => match s with | .kp _ _ _ _ => false | _ => true
theorem noKp_elim {j : Nat} {v : V} {c : Addr} {u : HO} {Gx : Hp} (h : noKp Γ = true) (e : Γ[j]? = some (.kp v c u Gx)) : False := by
  have := List.all_eq_true.mp h _ (List.mem_of_getElem? e)
  cases this
theorem own_not {p r : Addr} {y : D} (h : OwnAt K H0 G H r y) (e : H r = some (.own p)) : False := by
  cases y with
  | lst ds => obtain ⟨xs, h1, h2⟩ := h; rw [e] at h1; cases h1
  | dct ks => obtain ⟨xs, h1, h2⟩ := h; rw [e] at h1; cases h1
  | ins C2 fs => obtain ⟨dx, fv, h1, h2⟩ := h; rw [e] at h1; cases h1
  | _ => exact h.elim
theorem Fr.hole (F : Fr K G0 H0 Γ σ G H) {i : Nat} {sl : Sl} {p d C : Addr} {fvs : List (PySem.Str × V)} (hs : Γ[i]? = some sl) (ho : sl.owns) (e : σ[i]? = some (some (.ref p))) (gp : G p = none) (gd : G d = none) (h0 : H0 p = none) (hd0 : H0 d = none) (hp : H p = some (.ins C d fvs)) (hd : H d = some (.own p)) (nk : noKp Γ = true) :
    Fr K G0 H0 (gset Γ i .un) σ G (hole2 H p d) := by
  have sub := hole2_sub F.sub gp gd hp hd
  have kept : ∀ a o, H0 a = some o → a ≠ p ∧ a ≠ d := fun a o z => ⟨ne_of_none z h0, ne_of_none z hd0⟩
  refine ⟨by rw [gset_eq, List.length_set]; exact F.len, ⟨⟨fun a o z n => ?_, fun a o z => ?_, fun t q hq => hole2_tab (F.e.h.tb t q hq) hp hd⟩, F.e.g, fun a z ⟨o, q⟩ => F.e.nw a z ⟨o, q⟩, sub⟩, fun j s h => ?_, fun a b q s t h1 h2 h3 h4 h5 h6 => ?_⟩
  · rw [hole2_ne (kept a o z).1 (kept a o z).2]
    exact F.e.h.k a o z n
  · rw [hole2_ne (kept a o z).1 (kept a o z).2]
    exact F.e.h.t a o z
  · by_cases hj : i = j
    · subst hj
      rw [gset_eq, List.getElem?_set_self (List.getElem?_eq_some_iff.mp hs).1] at h
      cases h
      trivial
    · rw [gset_eq, List.getElem?_set_ne hj] at h
      have q := F.at_ j s h
      have apart : s.owns → ∀ r, σ[j]? = some (some (.ref r)) → r ≠ p := fun ow r er z => by
        subst z
        exact hj (F.dj i j r sl s hs ho h ow e er)
      cases s with
      | un => trivial
      | pu y => exact q
      | ow y => obtain ⟨r, e1, g1, h1, o1⟩ := q; exact ⟨r, e1, g1, h1, o1.hole (apart trivial r e1) hp hd⟩
      | lk r u y =>
        obtain ⟨e1, g1, h1, q1, o1⟩ := q
        have n := apart trivial r e1
        refine ⟨e1, g1, h1, ?_, o1.hole n hp hd⟩
        rw [hole2_ne n (fun z => by
          subst z
          rw [hd] at q1
          cases q1
          exact own_not o1 hd)]
        exact q1
      | pw r y => obtain ⟨e1, g1, h1, o1⟩ := q; exact ⟨e1, g1, h1, o1.hole (apart trivial r e1) hp hd⟩
      | kp v c u Gx =>
        obtain ⟨e1, h1, h2, h3, h4⟩ := q
        exact (noKp_elim nk h).elim
      | xv a cls dA fs =>
        obtain ⟨e1, h1⟩ := q
        refine ⟨e1, ?_⟩
        rcases h1 with h1 | ⟨r, fv, h1, h2, h3⟩
        · exact .inl h1
        · refine .inr ⟨r, fv, h1, ?_, h3⟩
          rw [hole2_ne (fun z => by rw [z, hp] at h2; cases h2) (fun z => by rw [z, hd] at h2; cases h2)]
          exact h2
      | pf y l Gx =>
        obtain ⟨h0, h1, h2⟩ := q
        refine ⟨h0, fun z hz => ⟨?_, (h1 z hz).2⟩, h2⟩
        obtain ⟨e1, e2, _, e3⟩ := h1 z hz
        rw [hole2_ne (fun w => by rw [w, hp] at e1; exact e2 (Option.some.inj e1 ▸ trivial)) (fun w => by rw [w, hd] at e1; exact e3 _ (Option.some.inj e1).symm)]
        exact e1
  · have f : ∀ (a : Nat) (s : Sl), (gset Γ i .un)[a]? = some s → s.owns → Γ[a]? = some s := fun a s h1 h2 => by
      by_cases ha : i = a
      · subst ha
        rw [gset_eq, List.getElem?_set_self (List.getElem?_eq_some_iff.mp hs).1] at h1
        cases h1
        exact h2.elim
      · rw [gset_eq, List.getElem?_set_ne ha] at h1
        exact h1
    exact F.dj a b q s t (f a s h1 h2) h2 (f b t h3 h4) h4 h5 h6
end
end PL
set_option Elab.async false
set_option linter.all false
set_option maxRecDepth 100000
set_option maxHeartbeats 4000000
namespace PL
open PySem L2 PyProof.Rows
variable [Tabl]
section
variable {K : PySem.W.Frag} {G0 H0 G H G' H' : Hp} {Γ : Ga} {σ : L2.St}
theorem Fr.ret (F : Fr K G0 H0 Γ σ G H) {i : Nat} {sl : Sl} {p : Addr} {y y0 : D} (hs : Γ[i]? = some sl) (ht : sl.og = some y0) (e : σ[i]? = some (some (.ref p))) (h0 : H0 p = none) (F1 : Fr K G0 H0 (gset Γ i .un) σ G' H') (gp : G' p = none) (o : OwnAt K H0 G' H' p y) :
    Fr K G0 H0 (gset Γ i (sl.op y)) σ G' H' := by
  have tow : sl.owns := by cases sl <;> first | trivial | cases ht
  have hi := (List.getElem?_eq_some_iff.mp hs).1
  refine ⟨by rw [gset_eq, List.length_set]; exact F.len, F1.e, fun j s h => ?_, fun a b q s t h1 h2 h3 h4 h5 h6 => ?_⟩
  · by_cases hj : i = j
    · subst hj
      rw [gset_eq, List.getElem?_set_self hi] at h
      cases h
      cases sl with
      | pw r d2 =>
        obtain ⟨e2, _⟩ := F.at_ i _ hs
        rw [e] at e2
        cases e2
        exact ⟨e, gp, h0, o⟩
      | _ => exact ⟨p, e, gp, h0, o⟩
    · rw [gset_eq, List.getElem?_set_ne hj] at h
      exact F1.at_ j s (by rw [gset_eq, List.getElem?_set_ne hj]; exact h)
  · have f : ∀ (a : Nat) (s : Sl), (gset Γ i (sl.op y))[a]? = some s → s.owns → ∃ s', Γ[a]? = some s' ∧ s'.owns := fun a s h1 h2 => by
      by_cases ha : i = a
      · subst ha
        exact ⟨_, hs, tow⟩
      · rw [gset_eq, List.getElem?_set_ne ha] at h1
        exact ⟨s, h1, h2⟩
    obtain ⟨s', g1, g2⟩ := f a s h1 h2
    obtain ⟨t', g3, g4⟩ := f b t h3 h4
    exact F.dj a b q s' t' g1 g2 g3 g4 h5 h6
theorem OwnAt.base {p d q : Addr} {y : D} (h : OwnAt K (hole2 H p d) G' H' q y) (k : ∀ a, H a = none → H0 a = none) (h0 : H0 p = none) (hd0 : H0 d = none) : OwnAt K H0 G' H' q y := by
  cases y with
  | lst ds => exact h
  | dct ks => exact h
  | ins C2 fs =>
    obtain ⟨dx, fv, h1, h2, h3, h4, h5⟩ := h
    refine ⟨dx, fv, h1, h2, h3, ?_, h5⟩
    by_cases a : dx = p
    · rw [a]; exact h0
    · by_cases b : dx = d
      · rw [b]; exact hd0
      · rw [hole2_ne a b] at h4
        exact k dx h4
  | _ => exact h.elim
end
def putFD (f : PySem.Str) (v : D) : List (PySem.Str × D) → List (PySem.Str × D)
  | [] => [(f, v)]
  | (g, x) :: r => if g = f then (g, v) :: r else (g, x) :: putFD f v r
theorem denF_put {K : PySem.W.Frag} {G : Hp} {f : PySem.Str} {v : V} {d : D} (n : Den K G v d) : ∀ {vs : List (PySem.Str × V)} {ds : List (PySem.Str × D)}, DenF K G vs ds → DenF K G (putF f v vs) (putFD f d ds)
  | _, _, .nil => .cons n .nil
  | _, _, .cons (f := g) h t => by
    unfold putF putFD
    by_cases e : g = f
    · rw [if_pos e, if_pos e]
      exact .cons n t
    · rw [if_neg e, if_neg e]
      exact .cons h (denF_put n t)
def onOI (Γ : Ga) (i : Nat) (k : Addr → List (PySem.Str × D) → Prop) : Prop := match (gat Γ i).og with
  | some (.ins C fs) => k C fs
  | _ => False
theorem onOI_elim {Γ : Ga} {i : Nat} {k : Addr → List (PySem.Str × D) → Prop} (h : onOI Γ i k) : ∃ C fs, (gat Γ i).og = some (.ins C fs) ∧ k C fs := by
  unfold onOI at h
  cases e : (gat Γ i).og with
  | none => simp only [e] at h
  | some d =>
    cases d with
    | ins C fs =>
      simp only [e] at h
      exact ⟨C, fs, rfl, h⟩
    | _ => simp only [e] at h
def tsSetF (cs : List Addr) (i : Nat) (f : PySem.Str) (t : TP) : TSp := fun P Γ => t Γ (fun d => onOI Γ i fun C fs => C ∈ cs ∧ fs.length < 900 ∧ P.nx (oput Γ i (.ins C (putFD f d fs)))) (fun x => P.xx x Γ)
section
variable {X : Cx} {W : WX} {e o : Expr} {es : List Expr} {t ta : TP} {tl : TL} {f m x : PySem.Str} {pos pos' apos p px : Pos} {cs : List Addr}
theorem s_setF (i : Nat) (hc : ∀ C ∈ cs, Cls X.K C ∧ NoAttr X.K C f) (he : PP X W e t) (hN : X.N[i]? = some x := by rfl) (hv : Vis X.env.scope x := by first | exact Or.inl rfl | exact Or.inr (Or.inl rfl) | exact Or.inr (Or.inr rfl))
    (hd : (x == ("__debug__" : PySem.Str)) = false := by decide) (hcd : (x == ("__classdict__" : PySem.Str)) = false := by decide) (hs : swapsWith e (some (.Attribute (.Name x px) f pos')) pos.line X.env = pure false := by rfl) :
    PS1 X W (.Assign [.Attribute (.Name x px) f pos'] e pos) (tsSetF cs i f t) := by
  obtain ⟨ee, pe, re⟩ := he.ex
  refine ⟨_, ps_fld (pe_var hN hv hd hcd) pe hs, fun G0 H0 Γ σ G H P E F ht ok => ?_⟩
  refine re G0 H0 Γ σ G H _ _ _ F ht (fun d v G1 H1 k1 x1 n1 => ?_) (ok.x F)
  obtain ⟨C, fs, hg, hC, hlen, k2⟩ := onOI_elim k1
  have F1 := F.up x1
  obtain ⟨hsl, q, e1, g1, h01, dx, fvs, q1, q2, q3, q4, q5⟩ := own_at F1 hg
  refine ⟨.ref q, e1, q, C, dx, fvs, rfl, q1, (hc C hC).1, (hc C hC).2, by rw [q5.length]; omega, ?_⟩
  have dq : dx ≠ q := fun z => by rw [z, q1] at q2; cases q2
  exact ok.nx _ _ _ _ k2 (F1.mut hsl hg e1 g1 h01 q1 trivial ⟨dx, _, upd_same, by rw [upd_ne dq]; exact q2, q3, q4, denF_put n1 q5⟩)
end
/-- what __init__ of C does -/
structure MkI (P : Program) (w : World) (K : PySem.W.Frag) (mg : PySem.Str → Option Value) (base : Heap) (C : Addr) (k n : Nat) (g : FSo) : Prop where
  ex : ∃ f, Mk K C f ∧ FnR P w K mg base (L2.CX P w) k f (spOi K (n + 1) g)
def onIns (y : D) (k : KD) : Prop := match y with
  | .ins C fs => k (.ins C fs)
  | _ => False
def tpMake (C : Addr) (g : FSo) (n : Nat) (tl : TL) : TP := fun Γ k kx => tl Γ (fun ds => ds.length = n ∧ g (.ins C [] :: ds) (fun d y => d = .non ∧ onIns y k) kx) kx
theorem run_makeS {X : Cx} {C f : Addr} {k : Nat} {sp : Sp} {E : XK} {pins : List (Addr × Obj)} {σ : L2.St} {H : Hp} {s : Shared} {Q : VK} {us : List Value} {vs : List V} (M : Mk X.K C f) (F : FnR X.prog X.w X.K X.mg X.base (L2.CX X.prog X.w) k f sp) (hr : Room (k + 1) X.A) (hx : PassesAt (L2.CX X.prog X.w) X σ E) (I : Inv X pins σ H s) (r : Vals vs us)
    (h : ∀ x dx, H x = none → H dx = none → dx ≠ x → sp (.ref x :: vs) (upd (upd H dx (.own x)) x (.ins C dx [])) (fun v H2 => v = .non ∧ Q (.ref x) H2) E) :
    wpAny (model X.prog X.w) X.A (call (.ref C) us) (EP X pins σ Q) X.xe s := by
  have f1 := I.hok.fresh (Nat.le_succ s.heap.objs.size)
  have f2 := I.hok.fresh (Nat.le_refl s.heap.objs.size)
  have hq := h (s.heap.objs.size + 1) s.heap.objs.size f1 f2 (Nat.ne_of_lt (Nat.lt_succ_self _))
  have I2 := Inv.made (C := C) I
  refine wpAny_call (make_map (f := f) I.kIn M.makes M.init (beq_iff_eq.mp M.fn) (codeAny_mono (F _ X.stack _ _ (Value.ref (s.heap.objs.size + 1) :: us) (.ref (s.heap.objs.size + 1) :: vs) _ E (hr.make C us []) (I2.env0.make C us []) (.cons rfl r) hq) fun rs s' hq' => ?_))
  cases rs with
  | error e => exact hx pins _ _ e s' I2 hq'
  | ok fl =>
    cases fl with
    | ret u =>
      obtain ⟨v, H2, J, rv, q1, q2⟩ := I2.after hq'
      subst q1
      exact ⟨rv, .ref (s.heap.objs.size + 1), H2, J, rfl, q2⟩
    | next => exact False.elim hq'
    | brk => exact False.elim hq'
    | cont => exact False.elim hq'
end PL
set_option Elab.async false
set_option linter.all false
set_option maxRecDepth 100000
set_option maxHeartbeats 4000000
namespace PL
open PySem L2 PyProof.Rows
end PL
set_option Elab.async false
set_option linter.all false
set_option maxRecDepth 100000
set_option maxHeartbeats 4000000
namespace CmX
open PySem PySem.Spec PyProof.Rows L2
end CmX
set_option Elab.async false
set_option linter.all false
set_option maxRecDepth 100000
set_option maxHeartbeats 4000000
namespace CmX
open PySem PySem.Spec PyProof.Rows L2
end CmX
set_option Elab.async false
set_option linter.all false
set_option maxRecDepth 100000
set_option maxHeartbeats 4000000
namespace PL
open PySem PySem.Froz L2 PyProof.Rows PpSet
variable [Tabl]
section
variable {X : Cx} {W : WX} {e elt tg iter : Expr} {t : TP} {p q pos : Pos}
def fTup : F1
  | .lst xs, k => k (.tup xs)
  | .tup xs, k => k (.tup xs)
  | _, _ => False
theorem c_tup : CallR X (.type "tuple") (fun xs H Q => ∃ p ys, xs = [.ref p] ∧ ((SqL X.K H p ys ∧ ∀ l, H l = none → Q (.ref l) (upd H l (.tup ys))) ∨ (SqT X.K H p ys ∧ Q (.ref p) H))) ∧ RdC1 X.K (fun xs H Q => ∃ p ys, xs = [.ref p] ∧ ((SqL X.K H p ys ∧ ∀ l, H l = none → Q (.ref l) (upd H l (.tup ys))) ∨ (SqT X.K H p ys ∧ Q (.ref p) H))) fTup := by
  refine ⟨call_tuple_of, fun H0 G H v d k Q s n h hk => ?_⟩
  cases d with
  | lst xs =>
    obtain ⟨a, ys, rfl, h1, r1⟩ := n.lst s
    refine ⟨a, ys, rfl, .inl ⟨SqL.of h1, fun l hl => ?_⟩⟩
    have ex := Ext.new (o := .tup ys) s hl
    exact hk _ _ _ _ h ex (.tup (.inl (.inl upd_same)) (r1.up ex.g))
  | tup xs =>
    rcases n with n | ⟨p, e, g, r⟩
    · cases n with
      | @tup a vs _ h1 h2 => exact ⟨a, vs, rfl, .inr ⟨s.sqt h1, hk _ _ G H h (Ext.refl s) (.tup h1 h2)⟩⟩
    · exact r.elim
  | _ => exact h.elim
end
end PL
set_option Elab.async false
set_option linter.all false
set_option maxRecDepth 100000
set_option maxHeartbeats 4000000
namespace PL
open PySem L2 PyProof.Rows
variable [Tabl]
section
variable {K : PySem.W.Frag} {G0 H0 G H : Hp} {Γ : Ga} {σ : L2.St}
theorem Fr.slot (F : Fr K G0 H0 Γ σ G H) {i : Nat} {a b : Sl} (hs : Γ[i]? = some a) (ho : a.owns) (hb : b.owns → a.owns) (n : SlOk K H0 G H (σ[i]?) b) : Fr K G0 H0 (gset Γ i b) σ G H := by
  refine ⟨by rw [gset_eq, List.length_set]; exact F.len, F.e, fun j s h => ?_, fun x y q s t h1 h2 h3 h4 h5 h6 => ?_⟩
  · by_cases hj : i = j
    · subst hj
      rw [gset_gat hs] at h
      cases h
      exact n
    · rw [gset_eq, List.getElem?_set_ne hj] at h
      exact F.at_ j s h
  · have f : ∀ (x : Nat) (s : Sl), (gset Γ i b)[x]? = some s → s.owns → ∃ s', Γ[x]? = some s' ∧ s'.owns := fun x s h1 h2 => by
      by_cases hx : i = x
      · subst hx
        exact ⟨a, hs, ho⟩
      · rw [gset_eq, List.getElem?_set_ne hx] at h1
        exact ⟨s, h1, h2⟩
    obtain ⟨s', g1, g2⟩ := f x s h1 h2
    obtain ⟨t', g3, g4⟩ := f y t h3 h4
    exact F.dj x y q s' t' g1 g2 g3 g4 h5 h6
end
end PL
set_option Elab.async false
set_option linter.all false
set_option maxRecDepth 100000
set_option maxHeartbeats 4000000
namespace PL
open PySem L2 PyProof.Rows
variable [Tabl]
section
variable {X : Cx} {W : WX} {e a b c o : Expr} {es : List Expr} {t ta tb tc to : TP} {tl : TL} {tt tu : TB} {pos apos p q : Pos} {x : PySem.Str} {k n j : Nat} {fs : FS}
theorem b_chain {op op2 : CmpOp} {r r2 : R2} {f g : F2} (ho : OpR X (compareOp op) r ∧ RdO X.K r f) (ho2 : OpR X (compareOp op2) r2 ∧ RdO X.K r2 g) (ha : PU X W a ta) (hb : PU X W b tb) (hc : PU X W c tc) (hm : lastMarks [op, op2] [b, c] = false := by with_unfolding_all rfl) :
    PB X W (.Compare a [op, op2] [b, c] pos) (tbV (tpChain f g ta tb tc)) := by
  obtain ⟨ea, pa, ra⟩ := ha.ex
  obtain ⟨eb, pb, rb⟩ := hb.ex
  obtain ⟨ec, pc, rc⟩ := hc.ex
  refine ⟨_, pt_chain ho.1 ho2.1 pa pb pc hm, fun G0 H0 Γ σ G H k kx Q F ht hk hx => ?_⟩
  refine ra G0 H0 Γ σ G H _ kx _ F ht (fun d1 v1 G1 H1 k1 x1 n1 => ?_) hx
  refine rb G0 H0 Γ σ G1 H1 _ kx _ (F.up x1) k1 (fun d2 v2 G2 H2 k2 x2 n2 => ?_) (hx.up x1)
  refine ho.2 H0 G2 H2 v1 v2 d1 d2 _ _ x2.sub (n1.up x2) n2 k2 fun d v G3 H3 k3 x3 n3 => ?_
  obtain ⟨q, rfl, k3⟩ := onB_elim k3
  have x13 := (x1.trans x2).trans x3
  refine ⟨q, DenU.bl (.inl n3) (H0 := H0) (H := H3), ?_⟩
  cases q with
  | true =>
    refine rc G0 H0 Γ σ G3 H3 _ kx _ (F.up x13) k3 (fun d3 v3 G4 H4 k4 x4 n4 => ?_) (hx.up x13)
    refine ho2.2 H0 G4 H4 v2 v3 d2 d3 _ _ x4.sub (n2.up (x3.trans x4)) n4 k4 fun d v G' H' kd ex dn => ?_
    obtain ⟨q2, rfl, kd⟩ := onB_elim kd
    exact ⟨q2, DenU.bl (.inl dn) (H0 := H0) (H := H'), hk q2 G' H' kd ((x13.trans x4).trans ex)⟩
  | false =>
    obtain ⟨q2, e2, k3⟩ := onB_elim k3
    cases e2
    exact ⟨false, rfl, hk false G3 H3 k3 x13⟩
end
def rMulS : R2 := fun x y H Q => ∃ (s : PySem.Str) (n : Nat), x = .str s ∧ y = .int n ∧ n < 1000 ∧ s.cps.size ≤ 100000 ∧ s.cps.size * n ≤ 100000 ∧ Q (.str ⟨(List.replicate n s.cps.toList).flatten.toArray⟩) H
theorem fold_app (l : List (Array Nat)) : ∀ z : Array Nat, (l.foldl (· ++ ·) z).toList = z.toList ++ (l.map Array.toList).flatten := by
  induction l with
  | nil => intro z; simp
  | cons a r ih =>
    intro z
    rw [List.foldl_cons, ih]
    simp
theorem flat_len {α : Type} (l : List α) : ∀ n : Nat, (List.replicate n l).flatten.length = n * l.length
  | 0 => by simp
  | n + 1 => by rw [List.replicate_succ, List.flatten_cons, List.length_append, flat_len l n, Nat.succ_mul]; omega
theorem op_mulS {X : Cx} : OpR X (binaryOp .Mult) rMulS := by
  intro pins s σ H x y v u Q I rx ry h
  obtain ⟨a, n, rfl, rfl, hn, ha, hz, q⟩ := h
  obtain ⟨t, rfl⟩ := rx
  obtain ⟨t2, rfl⟩ := ry
  have la : a.length = a.cps.size := rfl
  have p63 : (2 : Int) ^ 63 = 9223372036854775808 := by decide
  refine P.mul_str ?_ (fun h1 h2 => ?_) (fun h1 h2 => ?_) ?_
  · rw [decide_eq_false (by omega), decide_eq_false (by omega)]
    rfl
  · have h3 : (100000 : Int) ≤ (2 ^ 63 - 1) / (n : Int) := by
      rw [Int.le_ediv_iff_mul_le (by omega), p63]
      omega
    omega
  · rw [Int.toNat_natCast, la]
    unfold Builtin.Str.tooLong
    simp only [sizeLine_eq, decide_eq_false_iff_not]
    omega
  · have fin : ∀ {r : PySem.Str}, r.cps.toList = (List.replicate n a.cps.toList).flatten → r = ⟨(List.replicate n a.cps.toList).flatten.toArray⟩ := fun {r} h => by
      obtain ⟨c⟩ := r
      have h : c.toList = _ := h
      rw [← h]
    split
    · refine ⟨by decide, .str PySem.Str.empty, H, I.tok _, ⟨_, rfl⟩, ?_⟩
      have : n = 0 := by omega
      subst this
      exact q
    · split
      · rename_i h1 h2
        refine ⟨.str a, H, I, ⟨_, rfl⟩, ?_⟩
        rw [fin (r := a) ?_]
        · exact q
        · rcases Bool.or_eq_true_iff.mp h2 with h2 | h2
          · have : n = 1 := by
              have := beq_iff_eq.mp h2
              omega
            subst this
            simp
          · have e : a.cps.toList = [] := List.length_eq_zero_iff.mp (by rw [Array.length_toList]; exact beq_iff_eq.mp h2)
            rw [e]
            simp
      · rw [fin (r := ⟨_⟩) (by show (List.foldl (· ++ ·) #[] (List.replicate (n : Int).toNat a.cps)).toList = _; rw [fold_app, Int.toNat_natCast, List.map_replicate]; simp)]
        refine ⟨?_, .str _, H, I.tok _, ⟨_, rfl⟩, q⟩
        show (List.replicate n a.cps.toList).flatten.toArray.size ≤ _
        rw [List.size_toArray, flat_len, sizeLine_eq, Array.length_toList, Nat.mul_comm]
        omega
def fMulS : F2
  | .str s, .int n, k => ∃ m : Nat, n = m ∧ m < 1000 ∧ s.length ≤ 100000 ∧ s.length * m ≤ 100000 ∧ k (.str (List.replicate m s).flatten)
  | _, _, _ => False
theorem o_mulS {X : Cx} : OpR X (binaryOp .Mult) rMulS ∧ RdO X.K rMulS fMulS := by
  refine ⟨op_mulS, fun H0 G H v1 v2 d1 d2 k Q s n1 n2 hf hk => ?_⟩
  cases d1 with
  | str a =>
    cases d2 with
    | int n =>
      obtain ⟨m, rfl, h1, h2, h3, hf⟩ := hf
      refine ⟨SS a, m, n1.str, n2.int, h1, by rw [List.size_toArray]; exact h2, by rw [List.size_toArray]; exact h3, ?_⟩
      exact hk _ _ G H hf (Ext.refl s) (.str _)
    | _ => exact hf.elim
  | _ => exact hf.elim
end PL
set_option Elab.async false
set_option linter.all false
set_option maxRecDepth 100000
set_option maxHeartbeats 4000000
namespace L2
open PySem PySem.Spec PyProof.Rows
end L2
namespace PL
open PySem L2
end PL
set_option Elab.async false
set_option linter.all false
set_option maxRecDepth 100000
set_option maxHeartbeats 4000000
namespace CmX
open PySem PySem.Spec PyProof.Rows L2
end CmX
set_option Elab.async false
set_option linter.all false
set_option maxRecDepth 100000
set_option maxHeartbeats 4000000
namespace PL
open PySem L2 PyProof.Rows CmX
variable [Tabl]
def noOwn (Γ : Ga) : Bool := Γ.all fun s => match s with
  | .un => true
  | .pu _ => true
  | _ => false
theorem noOwn_at {Γ : Ga} (h : noOwn Γ = true) {i : Nat} {s : Sl} (e : Γ[i]? = some s) : s = .un ∨ ∃ d, s = .pu d := by
  have := List.all_eq_true.mp h _ (List.mem_of_getElem? e)
  cases s with
  | un => exact .inl rfl
  | pu d => exact .inr ⟨d, rfl⟩
  | _ => cases this
section
variable {X : Cx} {W : WX} {w0 w1 : TI} {g0 : TG} {q0 : TT} {ek ev : TE} {t0 t1 : TL} {gp : TGp} {tk tv : TP} {is own : List Nat} {j : Nat}
theorem Fr.base {K : PySem.W.Frag} {G0 H0 G1 H1 G H : Hp} {Γ : Ga} {σ : L2.St} (F : Fr K G0 H0 Γ σ G H) (n : noOwn Γ = true) (x : Ext G1 H1 G H) : Fr K G1 H1 Γ σ G H := by
  refine ⟨F.len, x, fun i t h => ?_, F.dj⟩
  have q := F.at_ i t h
  rcases noOwn_at n h with rfl | ⟨d, rfl⟩
  · trivial
  · exact q
end
end PL
set_option Elab.async false
set_option linter.all false
set_option maxRecDepth 100000
set_option maxHeartbeats 4000000
namespace PL
open PySem L2 PyProof.Rows
variable [Tabl]
theorem fnR_def {P : Program} {w : World} {K : PySem.W.Frag} {mg : PySem.Str → Option Value} {base : Heap} {k : Nat} {f : Addr} {fd : FuncData} {ps : List PySem.Str} {sp : Sp} {dvs : List V} {ds : List Value} (F : FnOk P w K mg base (L2.CX P w) k f fd ps sp) (hb : Binds K fd ps ds) (hd : Vals dvs ds) :
    FnR P w K mg base (L2.CX P w) k f (fun vs H Q E => sp (vs ++ dvs) H Q E) := by
  intro A outer s H us vs Q E hr e0 r h
  have r2 : Vals (vs ++ dvs) (us ++ ds) := r.append hd
  have hl : (us ++ ds).length = ps.length := by rw [← r2.length]; exact F.len _ _ _ _ h
  exact F.run A outer s H ⟨us, []⟩ (us ++ ds) (vs ++ dvs) Q E hr e0 (hb s us (e0.mod.kin.keeps fun b o q => (e0.bs b o q).1) hl) r2 h
theorem pad_spOf {P : Program} {w : World} {K : PySem.W.Frag} {mg : PySem.Str → Option Value} {base : Heap} {k n m : Nat} {f : Addr} {fs : FS} {dvs : List V} {dds : List D} (F : FnR P w K mg base (L2.CX P w) k f (fun vs H Q E => spOf K m fs (vs ++ dvs) H Q E)) (hd : ∀ G, DenL K G dvs dds) (hn : n + dds.length = m) :
    FnR P w K mg base (L2.CX P w) k f (spOf K n fun ds kd kx => fs (ds ++ dds) kd kx) := F.imp fun vs H Q E h => by
  obtain ⟨G, ds, kd, kx, a1, a2, a3, a4, a5, a6⟩ := h
  exact ⟨G, ds ++ dds, kd, kx, a1, a2.append (hd G), by rw [List.length_append, a3, hn], a4, a5, a6⟩
/-- a def of the module by its promise -/
structure DfR (P : Program) (w : World) (K : PySem.W.Frag) (mg : PySem.Str → Option Value) (base : Heap) (x : PySem.Str) (k n : Nat) (fs : FS) : Prop where
  ex : ∃ f, FnR P w K mg base (L2.CX P w) k f (spOf K n fs) ∧ mg x = some (.ref f) ∧ PySem.W.keepIn K (.ref f) = true
section
variable {X : Cx} {W : WX} {e : Expr} {es : List Expr} {tl : TL} {x : PySem.Str} {pos p : Pos} {k n j : Nat} {fs : FS}
theorem p_callR (D : DfR X.prog X.w X.K X.mg X.base x k n fs) (hr : Room j X.A) (hj : k ≤ j) (tk : Takes X W) (ha : PL' X W (e :: es) tl) (hg : Gl X x := by rfl) (hdb : (x == ("__debug__" : PySem.Str)) = false := by decide)
    (he : starEach (e :: es) X.env = (false, eval e X.env) :: starEach es X.env := by rfl) (hpl : (backTo pos (starEach es X.env)).any (·.1) = false := by rfl) : PP X W (.Call (.Name x p) (e :: es) [] pos) (tpCall n fs tl) := by
  obtain ⟨f, R, h2, h3⟩ := D.ex
  obtain ⟨ea, pa, ra⟩ := ha.ex
  refine ⟨_, ⟨fun pins s σ H Q I h => ?_⟩, rd_call (W := W) ra⟩
  refine wpAny_Call_Name_kw (ld_glob I hg h2 ?_ hdb)
  refine PySem.W.callWith_K (h₀ := X.base) I.ok.mod.kin h3 (thn (pa.run pos pins s σ H _ I h) fun us s1 ⟨vs, H1, I1, r, q⟩ => ⟨I1.kIn, ?_⟩) he hpl
  exact wpAny_call (run_fnRS R (hr.mono hj) (passAt tk σ) I1 r q)
end
end PL
set_option Elab.async false
set_option linter.all false
set_option maxRecDepth 100000
set_option maxHeartbeats 4000000
namespace PL
open PySem L2 PyProof.Rows
variable [Tabl]
section
variable {X : Cx} {W : WX} {elt tg iter : Expr} {ifs : List Expr} {scope : Scope} {pos spos py : Pos} {y : PySem.Str} {ti : TL} {gp : TGp} {is : List Nat} {te : TP} {tt : TB}
theorem set_lc (i : Nat) (own : List (PySem.Str × Nat)) (hc : X.calm = true) (hN : X.N.Nodup) (hi : PIt X W tg iter ti) (ok : BlkOk X.N X.env.scope scope own)
    (hg : ∀ i : Bi, PGt (Cx.bl X scope i) tg is gp) (ht : ∀ i : Bi, PBs (Cx.bl X scope i) W0 ifs tt) (he : ∀ i : Bi, PP (Cx.bl X scope i) W0 elt te) (hv : is = own.map (·.2)) (hs : ∀ x, foldedSetIterable iter X.env x = pure x) (hy : X.N[i]? = some y) (hyl : X.env.scope.names.lookup y = some .local)
    (hk : X.env.scope.kind = .function) (hl : (py.line == pos.line) = true) (ha : (scope.names.any fun (n, k) => n == y && (k == .local || k == .cell)) = false) :
    ∃ ta, PS X (.Assign [.Name y py] (.ListComp elt [⟨tg, iter, ifs, 0⟩] scope pos) spos) (tAsg ta (gName i)) ∧ ∀ (G0 H0 : Hp) (Γ : Ga) (σ : L2.St) (G H : Hp) (k : KD) (kx : KX) (Q : VK), Fr X.K G0 H0 Γ σ G H → tpLc is ti gp tt te Γ k kx →
      (∀ ds G' H' D, k (.lst ds) → Ext G H G' H' → H D = none → G' D = none → (∃ xs, H' D = some (.lst xs) ∧ DenL X.K G' xs ds) → Q (.ref D) H') → XOk X.K W G H σ kx → ta σ H Q := by
  obtain ⟨wi, pi, ri⟩ := hi.ex
  obtain ⟨g, pg, rg⟩ := pg_unif (Xf := fun i : Bi => Cx.bl X scope i) (K := X.K) (fun _ => rfl) hg
  obtain ⟨eb, pb, rb⟩ := bs_unif (Xf := fun i : Bi => Cx.bl X scope i) (K := X.K) (fun _ => rfl) ht
  obtain ⟨ee, pe, re⟩ := pp_unif (Xf := fun i : Bi => Cx.bl X scope i) (K := X.K) (fun _ => rfl) he ⟨X.s_0, X.H_0, 0, [], []⟩
  exact ⟨_, ps_setLc hc hN hy hyl (sw_true hk hyl hl ha) pi ok (fun s H C cl fp => pg (s, H, C, cl, fp)) (fun s H C cl fp => pb (s, H, C, cl, fp)) (fun s H C cl fp => pe (s, H, C, cl, fp)) hs, rd_lc ri rg rb re hv⟩
theorem s_setLc (i : Nat) (own : List (PySem.Str × Nat)) (hc : X.calm = true) (hN : X.N.Nodup) (hi : PIt X W tg iter ti) (ok : BlkOk X.N X.env.scope scope own)
    (hg : ∀ i : Bi, PGt (Cx.bl X scope i) tg is gp) (ht : ∀ i : Bi, PBs (Cx.bl X scope i) W0 ifs tt) (he : ∀ i : Bi, PP (Cx.bl X scope i) W0 elt te) (hv : is = own.map (·.2) := by rfl) (hs : ∀ x, foldedSetIterable iter X.env x = pure x := by intro _; rfl) (hy : X.N[i]? = some y := by rfl) (hyl : X.env.scope.names.lookup y = some .local := by rfl)
    (hk : X.env.scope.kind = .function := by rfl) (hl : (py.line == pos.line) = true := by rfl) (ha : (scope.names.any fun (n, k) => n == y && (k == .local || k == .cell)) = false := by decide +kernel) :
    PS1 X W (.Assign [.Name y py] (.ListComp elt [⟨tg, iter, ifs, 0⟩] scope pos) spos) (tsSet i (tpLc is ti gp tt te)) := by
  obtain ⟨ta, pa, ra⟩ := set_lc (pos := pos) (spos := spos) (py := py) i own hc hN hi ok hg ht he hv hs hy hyl hk hl ha
  refine ⟨_, pa, rd_set i fun G0 H0 Γ σ G H k kx Q F h hk hx => ra G0 H0 Γ σ G H k kx Q F h (fun ds G' H' D kd x hD gD ⟨xs, h1, h2⟩ => ?_) hx⟩
  exact hk _ _ _ H' kd (Ext.thaw x.sub x hD gD h1) (.lst upd_same (h2.up (same_upd gD)))
theorem s_retOwnP (i : Nat) {x : PySem.Str} (hN : X.N[i]? = some x := by rfl) (hv : Vis X.env.scope x := by first | exact Or.inl rfl | exact Or.inr (Or.inl rfl) | exact Or.inr (Or.inr rfl)) (hd : (x == ("__debug__" : PySem.Str)) = false := by decide)
    (hcd : (x == ("__classdict__" : PySem.Str)) = false := by decide) : PS1 X W (.Return (some (.Name x py)) pos) (tsRetOwn i) := by
  refine ⟨_, ps_ret (pe_var hN hv hd hcd), fun G0 H0 Γ σ G H P E F ht ok => ?_⟩
  unfold tsRetOwn at ht
  cases hs : gat Γ i with
  | un => rw [hs] at ht; exact ht.elim
  | lk p u d => rw [hs] at ht; exact ht.elim
  | kp v c w Gx => rw [hs] at ht; exact ht.elim
  | xv a cls dA fs => rw [hs] at ht; exact ht.elim
  | pf d l Gx => rw [hs] at ht; exact ht.elim
  | pw p d => rw [hs] at ht; exact ht.elim
  | pu d =>
    rw [hs] at ht
    obtain ⟨v, e, r⟩ := F.at_ i _ (gat_get Γ i _ hs (by simp))
    exact ⟨v, e, ok.rt d v Γ σ G H ht F r⟩
  | ow d =>
    rw [hs] at ht
    have key := gat_get Γ i _ hs (by simp)
    obtain ⟨p, e, g, h0, r⟩ := F.at_ i _ key
    cases d with
    | lst ds =>
      obtain ⟨xs, h1, h2⟩ := r
      exact ⟨.ref p, e, ok.rt _ _ _ _ _ H ht (F.thaw key e g h0 h1 trivial) (.lst upd_same (h2.up (same_upd g)))⟩
    | dct ds =>
      obtain ⟨xs, h1, h2⟩ := r
      exact ⟨.ref p, e, ok.rt _ _ _ _ _ H ht (F.thaw key e g h0 h1 trivial) (.dct upd_same (h2.up (same_upd g)))⟩
    | _ => exact ht.elim
end
end PL
set_option Elab.async false
set_option linter.all false
set_option maxRecDepth 100000
set_option maxHeartbeats 4000000
namespace PL
open PySem L2 PyProof.Rows
variable [Tabl]
section
variable {P : Program} {w : World} {K : PySem.W.Frag} {mg : PySem.Str → Option Value} {base : Heap} {k n : Nat} {f : Addr} {fd : FuncData} {ps : List PySem.Str} {sp : Sp}
theorem fnR_of (F : FnOk P w K mg base (L2.CX P w) k f fd ps sp) (hb : Binds K fd ps []) : FnR P w K mg base (L2.CX P w) k f sp :=
  (fnR_def F hb .nil).imp fun vs H Q E h => by rw [List.append_nil]; exact h
theorem imp_spOf {fs fs' : FS} (F : FnR P w K mg base (L2.CX P w) k f (spOf K n fs)) (h : ∀ ds kd kx, fs' ds kd kx → fs ds kd kx) : FnR P w K mg base (L2.CX P w) k f (spOf K n fs') :=
  F.imp fun vs H Q E ⟨G, ds, kd, kx, a, b, c, d, e⟩ => ⟨G, ds, kd, kx, a, b, c, h _ _ _ d, e⟩
theorem imp_spOi {fs fs' : FSo} (F : FnR P w K mg base (L2.CX P w) k f (spOi K n fs)) (h : ∀ ds kd kx, fs' ds kd kx → fs ds kd kx) : FnR P w K mg base (L2.CX P w) k f (spOi K n fs') :=
  F.imp fun vs H Q E ⟨G, ds, kd, kx, p, dx, C, fs0, fvs, a1, a2, a3, a4, a5, a6, a7, a8, a9, a10, a11, a12, a13⟩ => ⟨G, ds, kd, kx, p, dx, C, fs0, fvs, a1, a2, a3, a4, a5, a6, a7, a8, a9, a10, a11, h _ _ _ a12, a13⟩
end
section
variable {P : Program} {w : World} {K : PySem.W.Frag} {mg : PySem.Str → Option Value} {base : Heap}
theorem fn_okD {x qual : PySem.Str} {st : Stmt} {f : Addr} {fd : FuncData} {N ps : List PySem.Str} {k n : Nat} {fs : FS} {dvs : List V} {kws : List (PySem.Str × V)} (F : FunD K x qual (defArgs st) (defBody st) (defScope st) dvs kws f fd) (S : FnScope N ps (defScope st)) (hn : ps.length = n)
    (body : ∀ (cdv : Value) (A : Around) (outer : List Env) (s : Shared) (H : Hp) (E : XK), Room k (A.deeper (PyProof.Rows.envOfC qual (defScope st) s.heap.objs.size f cdv)) →
      ∃ t, PSS (cxOf (L2.CX P w) P w K mg base N qual (defScope st) f cdv A outer s H E) (fun cls d _ H => E cls d H) (defBody st) t ∧ ∀ ds kd kx, ds.length = n → fs ds kd kx → t (fEnds kd kx) (ga0 N.length ds)) :
    FnOk P w K mg base (L2.CX P w) (k + 1) f fd ps (spOf K n fs) := by
  refine F.ok S (fun vs H Q E h => ?_) (fun cdv A outer s H vs Q E hr h => ?_)
  · obtain ⟨G, ds, kd, kx, _, b, c, _⟩ := h
    rw [b.length, c, hn]
  · obtain ⟨G, ds, kd, kx, sb, r, hl, hf, hk, hx⟩ := h
    obtain ⟨t, ⟨ts, ps, rd⟩, ht⟩ := body cdv A outer s H E hr
    refine ⟨ts, ps, rd G H (ga0 N.length ds) (L2.start N vs) G H (fEnds kd kx) _ (fr0 sb r) (ht ds kd kx hl hf) ⟨?_, ?_, ?_, ?_, ?_⟩⟩
    · intro Γ σ G' H' q F'
      exact hk .non .non G' H' q F'.e .non
    · intro Γ σ G' H' q
      exact q.elim
    · intro Γ σ G' H' q
      exact q.elim
    · intro d v Γ σ G' H' q F' n
      exact hk d v G' H' q F'.e n
    · intro x cls dA Γ σ G' H' q F' n
      exact hx x cls dA G' H' q F'.e n
end
end PL
set_option Elab.async false
set_option linter.all false
set_option maxRecDepth 100000
set_option maxHeartbeats 4000000
namespace PL
open PySem L2 PyProof.Rows
end PL
set_option Elab.async false
set_option linter.all false
set_option maxRecDepth 100000
set_option maxHeartbeats 4000000
namespace PL
open PySem L2 PyProof.Rows
variable [Tabl]
def fFdivW : F2
  | .int i, .int j, k => CDivW i j ∧ k (.int (i / j))
  | _, _, _ => False
section
variable {X : Cx}
theorem o_fdivW : OpR X (binaryOp .FloorDiv) (rI CDivW fun i j => .int (i / j)) ∧ RdO X.K (rI CDivW fun i j => .int (i / j)) fFdivW := o_intC op_fdivW fun d1 d2 k h => by
  cases d1 with
  | int i =>
    cases d2 with
    | int j => exact ⟨i, j, _, rfl, rfl, h.1, h.2, fun _ => .int _⟩
    | _ => exact h.elim
  | _ => exact h.elim
end
end PL
set_option Elab.async false
set_option linter.all false
set_option maxRecDepth 100000
set_option maxHeartbeats 4000000
namespace PL
open PySem PySem.Spec L2 PyProof.Rows
end PL
set_option Elab.async false
set_option linter.all false
set_option maxRecDepth 100000
set_option maxHeartbeats 4000000
namespace PL
open PySem L2 PyProof.Rows
variable [Tabl]
def onI (d : D) (k : Int → Prop) : Prop := match d with
  | .int i => k i
  | _ => False
def onPu (Γ : Ga) (i : Nat) (k : D → Prop) : Prop := match gat Γ i with
  | .pu d => k d
  | _ => False
theorem onPu_elim {Γ : Ga} {i : Nat} {k : D → Prop} (h : onPu Γ i k) : ∃ d, gat Γ i = .pu d ∧ k d := by
  unfold onPu at h
  cases e : gat Γ i with
  | pu d => rw [e] at h; exact ⟨d, rfl, h⟩
  | _ => rw [e] at h; exact h.elim
theorem onI_elim {d : D} {k : Int → Prop} (h : onI d k) : ∃ i, d = .int i ∧ k i := by
  cases d with
  | int i => exact ⟨i, rfl, h⟩
  | _ => exact h.elim
theorem pu_at {K : PySem.W.Frag} {G0 H0 G H : Hp} {Γ : Ga} {σ : L2.St} (F : Fr K G0 H0 Γ σ G H) {i : Nat} {d : D} (h : gat Γ i = .pu d) : ∃ v, σ[i]? = some (some v) ∧ Den K G v d := F.at_ i _ (gat_get Γ i _ h (by simp))
def tsAug (i : Nat) (f : Int → Int → Int) (t : TP) : TSp := fun P Γ => onPu Γ i fun x => onI x fun a => t Γ (fun d => onI d fun b => P.nx (gset Γ i (.pu (.int (f a b))))) (fun x => P.xx x Γ)
section
variable {X : Cx} {W : WX} {e a b : Expr} {t ta tb : TP} {tl : TL} {pos : Pos}
theorem s_aug (i : Nat) {x : PySem.Str} {p : Pos} {op : Operator} {f : Int → Int → Int} (ho : PIp X op (ipI f)) (h : PP X W e t) (nd : X.N.Nodup) (hi : X.N[i]? = some x := by rfl) (hx : Loc X.env.scope x := by first | exact Or.inl rfl | exact Or.inr rfl)
    (hf : X.fn x = true ∨ X.env.scope.names.lookup x = some .local := by first | exact .inl rfl | exact .inr rfl) : PS1 X W (.AugAssign (.Name x p) op e pos) (tsAug i f t) := by
  obtain ⟨ea, pa, ra⟩ := h.ex
  refine ⟨_, ps_aug nd hi hx pa ho hf, fun G0 H0 Γ σ G H P E F ht ok => ?_⟩
  obtain ⟨d, hd, ht⟩ := onPu_elim ht
  obtain ⟨n, rfl, ht⟩ := onI_elim ht
  obtain ⟨v, e1, n1⟩ := pu_at F hd
  cases n1
  refine ⟨_, e1, ra G0 H0 Γ σ G H _ _ _ F ht (fun y v G' H' k x n2 => ?_) (ok.x F)⟩
  obtain ⟨j, rfl, k⟩ := onI_elim k
  cases n2
  exact ⟨_, _, rfl, rfl, ok.nx _ _ _ _ k ((F.up x).set i (.int _))⟩
end
end PL
set_option Elab.async false
set_option linter.all false
set_option maxRecDepth 100000
set_option maxHeartbeats 4000000
namespace PL
open PySem L2 PyProof.Rows
end PL
set_option Elab.async false
set_option linter.all false
set_option maxRecDepth 100000
set_option maxHeartbeats 4000000
namespace PL
open PySem L2
end PL
set_option Elab.async false
set_option linter.all false
set_option maxRecDepth 100000
set_option maxHeartbeats 4000000
namespace PL
open PySem L2
variable [Tabl]
/-- a pair as data -/
def pd (p : Int × Int) : D := .tup [.int p.1, .int p.2]
end PL
set_option Elab.async false
set_option linter.all false
set_option maxRecDepth 100000
set_option maxHeartbeats 4000000
namespace PL
open PySem L2 PySem.W PySem.Calls
end PL
set_option Elab.async false
set_option linter.all false
set_option maxRecDepth 100000
set_option maxHeartbeats 4000000
namespace PL
open PySem L2 PyProof.Rows
variable [Tabl]
def fInD (neg : Bool) : F2 := fun d e k => match e with
  | .lst ds => (d.plain = true ∧ D.plainL ds = true ∧ d.dep ≤ 8) ∧ k (.bl (neg != ds.any fun z => eqD z d))
  | .tup ds => (d.plain = true ∧ D.plainL ds = true ∧ d.dep ≤ 8) ∧ k (.bl (neg != ds.any fun z => eqD z d))
  | _ => False
def rInDT (K : PySem.W.Frag) (neg : Bool) : R2 := fun x y H Q => ∃ d ds, Dp K H x d ∧ (Dp K H y (.list ds) ∨ Dp K H y (.tuple ds)) ∧ d.canLay0 = true ∧ PyData.canLayAll0 ds = true ∧ d.depth ≤ 8 ∧ Q (.bl (neg != ds.any fun z => PyData.eqv z d)) H
theorem any_py (e : D) : ∀ ds : List D, (D.pyL ds).any (fun z => PyData.eqv z e.py) = ds.any fun z => eqD z e
  | [] => rfl
  | d :: r => by
    show (PyData.eqv d.py e.py || (D.pyL r).any fun z => PyData.eqv z e.py) = (eqD d e || r.any fun z => eqD z e)
    rw [any_py e r]
    rfl
section
variable {X : Cx} {W : WX}
theorem op_inDT (hu : X.A.units + 64 < cLine) : OpR X (compareOp .In) (rInDT X.K false) := by
  intro pins s σ H x y v u Q I rx ry h
  obtain ⟨d, ds, hd, he, sd, se, l, q⟩ := h
  obtain ⟨as, r1⟩ := Dp.reads I d x v hd rx
  have hr : X.A.units + 1 + min (PyData.depthAll ds) d.depth < cLine := by
    have := Nat.min_le_right (PyData.depthAll ds) d.depth
    omega
  rcases he with he | he
  · obtain ⟨bs, r2⟩ := Dp.reads I (.list ds) y u he ry
    exact SeqAt.in_list_reads r2 r1 se sd hr ⟨.bl _, H, I, rfl, by rw [Bool.false_bne] at q; exact q⟩
  · obtain ⟨bs, r2⟩ := Dp.reads I (.tuple ds) y u he ry
    exact SeqAt.in_tuple_reads r2 r1 se sd hr ⟨.bl _, H, I, rfl, by rw [Bool.false_bne] at q; exact q⟩
theorem op_notInDT (hu : X.A.units + 64 < cLine) : OpR X (compareOp .NotIn) (rInDT X.K true) := by
  intro pins s σ H x y v u Q I rx ry h
  obtain ⟨d, ds, hd, he, sd, se, l, q⟩ := h
  obtain ⟨as, r1⟩ := Dp.reads I d x v hd rx
  have hr : X.A.units + 1 + min (PyData.depthAll ds) d.depth < cLine := by
    have := Nat.min_le_right (PyData.depthAll ds) d.depth
    omega
  rcases he with he | he
  · obtain ⟨bs, r2⟩ := Dp.reads I (.list ds) y u he ry
    exact SeqAt.notIn_list_reads r2 r1 se sd hr ⟨.bl _, H, I, rfl, by rw [Bool.true_bne] at q; exact q⟩
  · obtain ⟨bs, r2⟩ := Dp.reads I (.tuple ds) y u he ry
    exact SeqAt.notIn_tuple_reads r2 r1 se sd hr ⟨.bl _, H, I, rfl, by rw [Bool.true_bne] at q; exact q⟩
theorem rd_inDT (neg : Bool) : RdO X.K (rInDT X.K neg) (fInD neg) := by
  intro H0 G H v1 v2 d1 d2 k Q s n1 n2 hf hk
  cases d2 with
  | lst ds =>
    obtain ⟨⟨p1, p2, l⟩, hf⟩ := hf
    refine ⟨d1.py, D.pyL ds, n1.dp s p1, .inl (n2.dp s (show (D.lst ds).plain = true from p2)), D.lay d1 p1, D.lay (.lst ds) p2, by rw [D.dep_py]; exact l, ?_⟩
    rw [any_py]
    exact hk _ _ G H hf (Ext.refl s) (.bl _)
  | tup ds =>
    obtain ⟨⟨p1, p2, l⟩, hf⟩ := hf
    refine ⟨d1.py, D.pyL ds, n1.dp s p1, .inr (n2.dp s (show (D.tup ds).plain = true from p2)), D.lay d1 p1, D.lay (.tup ds) p2, by rw [D.dep_py]; exact l, ?_⟩
    rw [any_py]
    exact hk _ _ G H hf (Ext.refl s) (.bl _)
  | _ => exact hf.elim
theorem o_inDT (hu : X.A.units + 64 < cLine) : OpR X (compareOp .In) (rInDT X.K false) ∧ RdO X.K (rInDT X.K false) (fInD false) := ⟨op_inDT hu, rd_inDT false⟩
theorem o_notInDT (hu : X.A.units + 64 < cLine) : OpR X (compareOp .NotIn) (rInDT X.K true) ∧ RdO X.K (rInDT X.K true) (fInD true) := ⟨op_notInDT hu, rd_inDT true⟩
end
def fList : F1
  | .lst xs, k => k (.lst xs)
  | .tup xs, k => k (.lst xs)
  | _, _ => False
def rListOf (K : PySem.W.Frag) : List V → Hp → VK → Prop := fun xs H Q => ∃ p ys, xs = [.ref p] ∧ (SqL K H p ys ∨ SqT K H p ys) ∧ ∀ l, H l = none → Q (.ref l) (upd H l (.lst ys))
section
variable {X : Cx} {W : WX} {a e : Expr} {t : TP} {pos p q : Pos} {x : PySem.Str}
theorem c_list : CallR X (.type "list") (rListOf X.K) ∧ RdC1 X.K (rListOf X.K) fList := by
  refine ⟨call_list_of, fun H0 G H v d k Q s n h hk => ?_⟩
  cases d with
  | lst xs =>
    obtain ⟨a, ys, rfl, h1, r1⟩ := n.lst s
    refine ⟨a, ys, rfl, .inl (SqL.of h1), fun l hl => ?_⟩
    have ex := Ext.new (o := .lst ys) s hl
    exact hk _ _ _ _ h ex (.lst upd_same (r1.up ex.g))
  | tup xs =>
    rcases n with n | ⟨p, e, g, r⟩
    · cases n with
      | @tup a vs _ h1 h2 =>
        refine ⟨a, vs, rfl, .inr (s.sqt h1), fun l hl => ?_⟩
        have ex := Ext.new (o := .lst vs) s hl
        exact hk _ _ _ _ h ex (.lst upd_same (h2.up ex.g))
    · exact r.elim
  | _ => exact h.elim
end
end PL
set_option Elab.async false
set_option linter.all false
set_option maxRecDepth 100000
set_option maxHeartbeats 4000000
namespace PL
open PySem L2 PyProof.Rows
end PL
set_option Elab.async false
set_option linter.all false
set_option maxRecDepth 100000
set_option maxHeartbeats 4000000
namespace PL
open PySem L2
end PL
set_option Elab.async false
set_option linter.all false
set_option maxRecDepth 100000
set_option maxHeartbeats 4000000
namespace PL
open PySem L2 PyProof.Rows
variable [Tabl]
/-- any number of values -/
def spOfV (K : PySem.W.Frag) (fs : FS) : Sp := fun vs H Q E => ∃ G ds k kx, Sub G H ∧ DenL K G vs ds ∧ fs ds k kx ∧ (∀ d v G' H', k d → Ext G H G' H' → Den K G' v d → Q v H') ∧
  (∀ x cls dA G' H', kx x → Ext G H G' H' → XDen K G' H' cls dA x → E cls dA H')
section
variable {P : Program} {w : World} {K : PySem.W.Frag} {mg : PySem.Str → Option Value} {base : Heap}
/-- a method that takes any number of values -/
structure MtV (P : Program) (w : World) (K : PySem.W.Frag) (mg : PySem.Str → Option Value) (base : Heap) (C : Addr) (m : PySem.Str) (k : Nat) (fs : FS) : Prop where
  c : Cls K C
  ex : ∃ f, Meth K C m f ∧ FnR P w K mg base (L2.CX P w) k f (spOfV K fs)
theorem MtV.at {C : Addr} {m : PySem.Str} {k : Nat} {fs : FS} (M : MtV P w K mg base C m k fs) (n : Nat) : Mt P w K mg base C m k n fs := by
  obtain ⟨f, h1, h2⟩ := M.ex
  exact ⟨M.c, f, h1, h2.imp fun vs H Q E ⟨G, ds, kd, kx, a, b, _, d, e⟩ => ⟨G, ds, kd, kx, a, b, d, e⟩⟩
end
end PL
set_option Elab.async false
set_option linter.all false
set_option maxRecDepth 100000
set_option maxHeartbeats 4000000
namespace PL
open PySem L2
end PL
set_option Elab.async false
set_option linter.all false
set_option maxRecDepth 100000
set_option maxHeartbeats 4000000
namespace PL
open PySem L2
end PL
set_option Elab.async false
set_option linter.all false
set_option maxRecDepth 100000
set_option maxHeartbeats 4000000
namespace PL
open PySem L2 PyProof.Rows
/-- a lambda: without parameters, or with one that has a default (never given, never read) -/
inductive LS where
  | n (params : Arguments) (body : Expr) (scope : Scope)
  | d (params : Arguments) (body : Expr) (scope : Scope) (y : PySem.Str)
def FunO (q : PySem.Str) (params : Arguments) (body : Expr) (scope : Scope) (cl : List (PySem.Str × Addr)) (f c : Addr) : HO :=
  .ext fun h => ∃ pm ctv, h.get? f = some (PySem.W.kla_obj "<lambda>" q params body scope cl pm c ctv)
def FunD (q : PySem.Str) (params : Arguments) (body : Expr) (scope : Scope) (cl : List (PySem.Str × Addr)) (f c T : Addr) : HO :=
  .ext fun h => ∃ pm ctv, h.get? f = some { cls := .type "function", data := .func (lamFd q params body scope cl pm (.ref c) ctv (.ref T)) }
def TupO (T : Addr) : HO := .ext fun h => ∃ u, h.get? T = some { cls := .type "tuple", data := .seq #[u] }
def FunAt (X : Cx) (G : Hp) (f c : Addr) : LS → Prop
  | .n params body scope => G f = some (FunO (X.env.qual ++ "<lambda>") params body scope (cloFrom X.env.cells scope.names []) f c)
  | .d params body scope y => ∃ T, G f = some (FunD (X.env.qual ++ "<lambda>") params body scope (cloFrom X.env.cells scope.names []) f c T) ∧ G T = some (TupO T)
theorem FunAt.up {X : Cx} {G G' : Hp} {f c : Addr} {sp : LS} (h : FunAt X G f c sp) (e : Same G G') : FunAt X G' f c sp := by
  cases sp with
  | n params body scope => exact e _ _ h
  | d params body scope y => obtain ⟨T, h1, h2⟩ := h; exact ⟨T, e _ _ h1, e _ _ h2⟩
theorem fix_code (c : Addr) (q : PySem.Str) : FixO (LamX.CodeO c q) := ⟨fun z => z, fun _ z => (by unfold LamX.CodeO at z; cases z), fun _ z => (by unfold LamX.CodeO at z; cases z)⟩
variable [Tabl]
def FunsAt (X : Cx) (G H : Hp) : List LS → List Addr → List Addr → Prop
  | [], [], [] => True
  | sp :: sps, f :: fs, c :: cs => (FunAt X G f c sp ∧ H c = some (LamX.CodeO c (X.env.qual ++ "<lambda>"))) ∧ FunsAt X G H sps fs cs
  | _, _, _ => False
/-- what is known stays known -/
structure Keep (G H G' H' : Hp) : Prop where
  g : Same G G'
  h : ∀ b o, H b = some o → FixO o → H' b = some o
theorem Keep.of {G H G' H' : Hp} (x : Ext G H G' H') : Keep G H G' H' := ⟨x.g, fun b o e f => x.h.k b o e f.2.1⟩
theorem Keep.trans {G H G1 H1 G2 H2 : Hp} (a : Keep G H G1 H1) (b : Keep G1 H1 G2 H2) : Keep G H G2 H2 := ⟨a.g.trans b.g, fun x o e f => b.h x o (a.h x o e f) f⟩
theorem FunsAt.keep {X : Cx} {G H G' H' : Hp} (k : Keep G H G' H') : ∀ {sps : List LS} {fs cs : List Addr}, FunsAt X G H sps fs cs → FunsAt X G' H' sps fs cs
  | [], [], [], _ => trivial
  | sp :: sps, f :: fs, c :: cs, ⟨⟨h1, h2⟩, h3⟩ => ⟨⟨h1.up k.g, k.h _ _ h2 (fix_code _ _)⟩, FunsAt.keep k h3⟩
theorem FunsAt.len {X : Cx} {G H : Hp} : ∀ {sps : List LS} {fs cs : List Addr}, FunsAt X G H sps fs cs → fs.length = sps.length ∧ cs.length = sps.length
  | [], [], [], _ => ⟨rfl, rfl⟩
  | sp :: sps, f :: fs, c :: cs, ⟨_, h3⟩ => by
    obtain ⟨a, b⟩ := FunsAt.len h3
    exact ⟨by rw [List.length_cons, a]; rfl, by rw [List.length_cons, b]; rfl⟩
theorem FunsAt.get {X : Cx} {G H : Hp} : ∀ {sps : List LS} {fs cs : List Addr} {j : Nat} {sp : LS}, FunsAt X G H sps fs cs → sps[j]? = some sp → ∃ f c, fs[j]? = some f ∧ cs[j]? = some c ∧ FunAt X G f c sp ∧ H c = some (LamX.CodeO c (X.env.qual ++ "<lambda>"))
  | sp0 :: sps, f :: fs, c :: cs, 0, sp, ⟨⟨h1, h2⟩, _⟩, e => by
    cases e
    exact ⟨f, c, rfl, rfl, h1, h2⟩
  | sp0 :: sps, f :: fs, c :: cs, j + 1, sp, ⟨_, h3⟩, e => FunsAt.get (j := j) h3 e
end PL
set_option Elab.async false
set_option linter.all false
set_option maxRecDepth 100000
set_option maxHeartbeats 4000000
namespace PL
open PySem L2 PyProof.Rows
variable [Tabl]
/-- t: what g(lambda) answers, seen from the maker's frame -/
def AskRun (X : Cx) (g : Addr) (sp : LS) (t : TP) : Prop := ∀ (pins : List (Addr × Obj)) (σ : L2.St) (H : Hp) (s : Shared) (Γ : Ga) (G0 H0 G : Hp) (f c : Addr) (W : WX) (kd : KD) (kx : KX) (Q : VK),
  Inv X pins σ H s → Fr X.K G0 H0 Γ σ G H → FunAt X G f c sp → H c = some (LamX.CodeO c (X.env.qual ++ "<lambda>")) → t Γ kd kx →
  (∀ d v G' H', kd d → Ext G H G' H' → Den X.K G' v d → Q v H') → XOk X.K W G H σ kx →
  codeAny (model X.prog X.w) X.A (.call (.ref g) ⟨[.ref f], []⟩) (CR (L2.CX X.prog X.w) X.stack X.prog X.w H s Q fun cls d H' => W cls d σ H') s
end PL
set_option Elab.async false
set_option linter.all false
set_option maxRecDepth 100000
set_option maxHeartbeats 4000000
namespace PL
open PySem L2
end PL
set_option Elab.async false
set_option linter.all false
set_option maxRecDepth 100000
set_option maxHeartbeats 4000000
namespace PL
open PySem PySem.Froz L2 PyProof.Rows
end PL
set_option Elab.async false
set_option linter.all false
set_option maxRecDepth 100000
set_option maxHeartbeats 4000000
namespace PL
open PySem L2
end PL
set_option Elab.async false
set_option linter.all false
set_option maxRecDepth 100000
set_option maxHeartbeats 4000000
namespace PL
open PySem L2 PyProof.Rows
end PL
set_option Elab.async false
set_option linter.all false
set_option maxRecDepth 100000
set_option maxHeartbeats 4000000
namespace PL
open PySem L2 PyProof.Rows
variable [Tabl]
section
variable {X : Cx} {W : WX} {i : Nat} {x : PySem.Str} {es : List Expr} {sps : List LS} {pos p2 p3 p4 : Pos}
inductive AskAll (X : Cx) (g : Addr) : List LS → List TP → Prop
  | nil : AskAll X g [] []
  | cons {sp : LS} {t : TP} {sps : List LS} {T : List TP} : AskRun X g sp t → AskAll X g sps T → AskAll X g (sp :: sps) (t :: T)
theorem AskAll.len {g : Addr} : ∀ {sps : List LS} {T : List TP}, AskAll X g sps T → T.length = sps.length
  | _, _, .nil => rfl
  | _, _, .cons _ h => by rw [List.length_cons, List.length_cons, h.len]
theorem AskAll.at {g : Addr} : ∀ {sps : List LS} {T : List TP}, AskAll X g sps T → ∀ (j : Nat) (sp : LS) (t : TP), sps[j]? = some sp → T[j]? = some t → AskRun X g sp t
  | _, _, .nil, _, _, _, h, _ => by simp at h
  | _, _, .cons a h, 0, _, _, h1, h2 => by cases h1; cases h2; exact a
  | _, _, .cons a h, j + 1, _, _, h1, h2 => h.at j _ _ h1 h2
end
end PL
set_option Elab.async false
set_option linter.all false
set_option maxRecDepth 100000
set_option maxHeartbeats 1000000
namespace PL
open PySem L2 PyProof.Rows
end PL
set_option Elab.async false
set_option linter.all false
set_option maxRecDepth 100000
set_option maxHeartbeats 4000000
namespace PL
open PySem L2 PyProof.Rows
end PL
set_option Elab.async false
set_option linter.all false
set_option maxRecDepth 100000
set_option maxHeartbeats 4000000
namespace PL
open PySem L2 PyProof.Rows
end PL
set_option Elab.async false
set_option linter.all false
set_option maxRecDepth 100000
set_option maxHeartbeats 4000000
namespace PL
open PySem L2 PyProof.Rows
end PL
set_option Elab.async false
set_option linter.all false
set_option maxRecDepth 100000
set_option maxHeartbeats 4000000
namespace PL
open PySem L2 PyProof.Rows
variable [Tabl]
def intS (i : Int) : List Nat := (toString i : PySem.Str).cps.toList
theorem ss_intS (i : Int) : SS (intS i) = (toString i : PySem.Str) := by
  unfold SS intS
  simp
def tpFmt (t : TP) : TP := fun Γ k kx => t Γ (fun d => match d with
  | .str s => s.length ≤ sizeLine ∧ k (.str s)
  | .int i => i.natAbs.log2 < 1920 ∧ k (.str (intS i))
  | _ => False) kx
def tpJs : List TP → List Nat → TP
  | [], acc => fun _ k _ => k (.str acc)
  | t :: ts, acc => fun Γ k kx => t Γ (fun d => match d with
    | .str s => acc.length + s.length ≤ sizeLine ∧ tpJs ts (acc ++ s) Γ k kx
    | _ => False) kx
inductive FJ (X : Cx) (W : WX) : List Expr → List TP → Prop where
  | nil : FJ X W [] []
  | cons {e : Expr} {t : TP} {es : List Expr} {ts : List TP} (h : PP X W e t) (r : FJ X W es ts) : FJ X W (e :: es) (t :: ts)
section
variable {X : Cx} {W : WX} {e a : Expr} {es : List Expr} {t ta : TP} {ts : List TP} {pos p q : Pos} {x : PySem.Str} {k j : Nat}
theorem p_fmt (h : PP X W e t) : PP X W (.FormattedValue e (-1) none pos) (tpFmt t) := by
  obtain ⟨ea, pa, ra⟩ := h.ex
  refine ⟨_, pe_fmt pa, fun G0 H0 Γ σ G H kd kx Q F ht hk hx => ?_⟩
  refine ra G0 H0 Γ σ G H _ kx _ F ht (fun d v G1 H1 k1 x1 n1 => ?_) hx
  cases d with
  | str s =>
    cases n1
    exact .inl ⟨SS s, rfl, by rw [ss_length]; exact k1.1, hk _ _ G1 H1 k1.2 x1 (.str s)⟩
  | int i =>
    cases n1
    refine .inr ⟨i, rfl, k1.1, ?_⟩
    have := hk _ _ G1 H1 k1.2 x1 (.str (intS i))
    rw [ss_intS] at this
    exact this
  | _ => exact k1.elim
theorem fj_ex (h : FJ X W es ts) : ∃ tes, PJ X es tes ∧ ∀ (acc : List Nat) (G0 H0 : Hp) (Γ : Ga) (σ : L2.St) (G H : Hp) (kd : KD) (kx : KX) (Q : PySem.Str → Hp → Prop), Fr X.K G0 H0 Γ σ G H → tpJs ts acc Γ kd kx → (∀ s G' H', kd (.str s) → Ext G H G' H' → Q (SS s) H') → XOk X.K W G H σ kx → tJs tes (SS acc) σ H Q := by
  induction h with
  | nil =>
    refine ⟨[], .nil, fun acc G0 H0 Γ σ G H kd kx Q F ht hk hx => ?_⟩
    exact hk acc G H ht (Ext.refl F.sub)
  | @cons e t es ts he r ih =>
    obtain ⟨tes, pj, rd⟩ := ih
    obtain ⟨te, pe, re⟩ := he.ex
    refine ⟨te :: tes, .cons pe pj, fun acc G0 H0 Γ σ G H kd kx Q F ht hk hx => ?_⟩
    refine re G0 H0 Γ σ G H _ kx _ F ht (fun d v G1 H1 k1 x1 n1 => ?_) hx
    cases d with
    | str s =>
      cases n1
      obtain ⟨hz, k2⟩ := k1
      refine ⟨SS s, rfl, ?_, ?_⟩
      · rw [ss_append, ss_length, List.length_append]; exact hz
      · rw [ss_append]
        exact rd (acc ++ s) G0 H0 Γ σ G1 H1 kd kx Q (F.up x1) k2 (fun s G' H' kk ex => hk s G' H' kk (x1.trans ex)) (hx.up x1)
    | _ => exact k1.elim
theorem p_joined {v1 v2 : Expr} {rest : List Expr} (h : FJ X W (v1 :: v2 :: rest) ts) : PP X W (.JoinedStr (v1 :: v2 :: rest) pos) (tpJs ts []) := by
  obtain ⟨tes, pj, rd⟩ := fj_ex h
  refine ⟨_, pe_joined pj, fun G0 H0 Γ σ G H kd kx Q F ht hk hx => ?_⟩
  exact rd [] G0 H0 Γ σ G H kd kx _ F ht (fun s G' H' kk ex => hk _ _ G' H' kk ex (.str s)) hx
end
end PL
set_option Elab.async false
set_option linter.all false
set_option maxRecDepth 100000
set_option maxHeartbeats 4000000
namespace PL
open PySem L2 PyProof.Rows
end PL
set_option Elab.async false
set_option linter.all false
set_option maxRecDepth 100000
set_option maxHeartbeats 4000000
namespace PL
open PySem L2
end PL
set_option Elab.async false
set_option linter.all false
set_option maxRecDepth 100000
set_option maxHeartbeats 4000000
namespace PySem
namespace ExcX
open PySem.W PySem.Calls PyProof.Rows PySem.HandSPX
def xA0 (p1 : Pos) : Arguments := { posonlyargs := [], args := [{ arg := "self", annotation := none, pos := p1 }], vararg := none, kwonlyargs := [], kw_defaults := [], kwarg := none, defaults := [] }
def xS0 : Scope := { kind := .function, names := [("self", .local), ("__class__", .free), ("super", .globalImplicit)], isGenerator := false, isCoroutine := false }
/-- the text of the class's __init__ -/
structure XText0 (st : Stmt) (cn : Str) : Prop where
  args : ∃ p1, L2.defArgs st = xA0 p1
  body : ∃ q0 q1 q2 q3 q4 q5 q6 q7 q8 q9, L2.defBody st = xHead cn q0 q1 q2 q3 q4 q5 q6 q7 q8 q9 [] ∧ SupEv cn q0 q1 q2 q3 q4
  scope : L2.defScope st = xS0
  bind : ∀ (qual : Str) (body : List Stmt) (sc : Scope) (doc pm : Value) (an : Option Addr) (cdv ct : Value) (cc : Addr) (u : Value), bindArgs (ksFn "__init__" qual (L2.defArgs st) body sc .none .none doc pm an cdv ct cc) ⟨[u], []⟩ = pure [(("self" : Str), u)]
/-- the class cn at C, its __init__ at fI, its cell at cc, the code of __init__ at cda -/
structure XC0 (P : Program) (K : Frag) (mg : Str → Option Value) (cn : Str) (C : Addr) : Prop where
  gC : mg cn = some (.ref C)
  cls : ∃ nm q N bs bm sn sub ab col dd k0 k1 k2 k3 k5, K.lookup C = some (excClassObj nm q C N bs bm true sn sub ab col dd k0 k1 k2 k3 k5 "ValueError.__new__") ∧ refsVE bm = true
  sa : findIn K (.ref C) "__setattr__" = some (some (.builtin "object.__setattr__"))
  ga : findIn K (.ref C) "__getattribute__" = some (some (.builtin "BaseException.__getattribute__"))
  gg : findIn K (.ref C) "__getattr__" = some none
  noT : findIn K (.ref C) "tag" = some none
  kC : keepIn K (.ref C) = true
  exC : subIn K (.ref C) (.type "BaseException") = some true
  veC : subIn K (.ref C) (.type "ValueError") = some true
  tyC : typeIn K (.ref C) = some (.type "type")
  hdC : hasDictIn K C = true
  sub : mroIn K C (.ref C) = some true
  sup : mg "super" = none
  supI : ks_superIn K C C "__init__" = some (some (.builtin "ValueError.__init__"))
  opq : nsIn K cStatics "thirdparty.any" = some none
  fn : ∃ (st : Stmt) (fI cda cc : Addr) (oc : Value) (od : Option Addr) (qual : Str) (doc pm : Value) (an : Option Addr) (ct : Value) (osl : Array (Option Value)) (ccl : Value) (cdd : Option Addr) (vs : Array Value) (ccs : Array (Option Value)) (file : Str) (tf : Tok) (cl : Value) (cld : Option Addr) (csl : Array (Option Value)),
    findIn K (.ref C) "__init__" = some (some (.ref fI)) ∧ typeIn K (.ref fI) = some (.type "function") ∧
    K.lookup fI = some ⟨oc, od, .func (ksFn "__init__" qual (L2.defArgs st) (L2.defBody st) (L2.defScope st) .none .none doc pm an (.ref cda) ct cc), osl⟩ ∧ codeIn K (.ref cda) qual = true ∧
    K.lookup cda = some ⟨ccl, cdd, .fields vs, ccs⟩ ∧ vs[2]? = some (.str file tf) ∧ ((P.main.file : Str) == file) = true ∧
    K.lookup cc = some ⟨cl, cld, .cell (some (.ref C)), csl⟩ ∧ XText0 st cn
  htop : (P.main.scope.names.lookup ("super" : Str)).isSome = false
theorem xS0_self : xS0.names.lookup ("self" : Str) = some .local := rfl
theorem xS0_c : xS0.names.lookup ("__class__" : Str) = some .free := rfl
theorem xS0_s : xS0.names.lookup ("super" : Str) = some .globalImplicit := rfl
/-- what __init__ leaves of a fresh exception at x -/
structure IEnd0 (h h' : Heap) (x C dx t1 : Addr) (cn : Str) : Prop where
  keep : ∀ b o, b ≠ x → h.get? b = some o → h'.get? b = some o
  obj : h'.get? x = some { cls := .ref C, dict := some dx, data := .fields #[.ref t1, .none, .none, .none, .bool false, .none] }
  dbig : h.objs.size ≤ dx
  dne : dx ≠ x
  ns : ∃ tk : Tok, h'.Ns1 dx (fun y => if y = "tag" then some (.str cn tk) else none)
section
variable {prog : Program} {w : World} {A : Around} {R : Result → Shared → Prop} {s : Shared} {K : Frag} {mg : Str → Option Value} {cn : Str} {C fI : Addr}
theorem x_init0 (T : XC0 prog K mg cn C) (iC : findIn K (.ref C) "__init__" = some (some (.ref fI))) {x t0 : Addr} (X : K.In s.heap) (G : s.heap.Ns mainGlobals mg) (B : ∃ mb, s.heap.Ns builtinsNs mb ∧ ∀ x : Str, x ≠ "__name__" → mb x = bootBuiltins x) (hlim : s.heap.NoLimit)
    (hx : s.heap.get? x = some (excO C t0)) (hnx : K.lookup x = none) (hroom : A.depth < recursionLimit) (hcn : cn.length ≤ sizeLine)
    (hq : ∀ h' tk dx t1, IEnd0 s.heap h' x C dx t1 cn → R (.ok (.ret .none)) { s with heap := h', toks := tk }) :
    codeAny (model prog w) A (.call (.ref fI) ⟨[.ref x], []⟩) R s := by
  obtain ⟨st, fI', cda, cc, oc, od, qual, doc, pm, an, ct, osl, ccl, cdd, vs, ccs, file, tf, cl, cld, csl, iC', tI, ho, hcd, hcode, hvs, hfile, hcell, TX⟩ := T.fn
  rw [iC] at iC'
  cases iC'
  obtain ⟨p1, ea⟩ := TX.args
  obtain ⟨q0, q1, q2, q3, q4, q5, q6, q7, q8, q9, eb, sev⟩ := TX.body
  have es := TX.scope
  rw [ea, eb, es] at ho
  obtain ⟨nm, q, N, bs, bm, sn, sub, ab, col, dd, k0, k1, k2, k3, k5, hC, hbm⟩ := T.cls
  have hcl : clsIn K C = some { name := nm, bases := bs, mro := .ref C :: bm, ns := N, qualname := q, hasDict := true, slotNames := sn, subclasses := sub, abstract := ab, collection := col, hasDel := false } := by unfold clsIn; rw [hC] <;> rfl
  refine ks_codeAny_call_defAt (fd := ksFn "__init__" qual (xA0 p1) (xHead cn q0 q1 q2 q3 q4 q5 q6 q7 q8 q9 []) xS0 .none .none doc pm an (.ref cda) ct cc) (body := xHead cn q0 q1 q2 q3 q4 q5 q6 q7 q8 q9 []) (binds := [("self", .ref x)])
    hroom (X _ _ ho) rfl hlim (codeRec_of X hcd) rfl (BindsTo.of_eq (by rw [← ea]; exact TX.bind _ _ _ _ _ _ _ _ _ _)) (fun y hy => ?_) (fun y hy => ?_) (fun h₁ hns k => ?_)
  · have hy : y ∈ [(("self" : Str), NameKind.local), ("__class__", .free), ("super", .globalImplicit)] := hy
    simp at hy
    rcases hy with rfl | rfl | rfl <;> simp
  · simp at hy
    rcases hy with rfl
    exact xS0_self
  · have eS : ([(("self" : Str), Value.ref x)] : List (Str × Value)).reverse.lookup ("self" : Str) = some (.ref x) := rfl
    have X₁ : K.In h₁ := X.keeps k
    have hx₁ := k _ _ hx
    have hxL : s.heap.objs.size ≠ x := Nat.ne_of_gt (Heap.lt_size hx)
    obtain ⟨oD, hD1, hD2⟩ : ∃ oD, h₁.get? C = some oD ∧ ∃ cd, oD.data = .cls cd := ⟨_, X₁ _ _ hC, _, rfl⟩
    obtain ⟨cdD, hD2⟩ := hD2
    obtain ⟨mb, B1, B2⟩ := B
    obtain ⟨pl, sev⟩ := sev (callEnv (ksFn "__init__" qual (xA0 p1) (xHead cn q0 q1 q2 q3 q4 q5 q6 q7 q8 q9 []) xS0 .none .none doc pm an (.ref cda) ct cc) s.heap.objs.size fI)
    refine ks_wpAt_execs_cons (ks_wpAt_Expr_any (ks_wpAt_MethodCall (pl := pl) ?_ sev))
    refine ks_wpAt_super_base (env := ksEnv qual xS0 s.heap.objs.size fI (.ref cda) cc) xS0_s xS0_c (by decide) rfl (X₁ _ _ ho) rfl rfl rfl (X₁ _ _ hcode) rfl hvs hfile T.htop ?_
    refine ks_loadName_global rfl xS0_s (loadGlobal_builtin (env := ksEnv qual xS0 s.heap.objs.size fI (.ref cda) cc) (G.keeps k) T.sup (B1.keeps k) ((B2 _ (by decide +kernel)).trans (by decide +kernel : bootBuiltins "super" = some (.type "super"))) ⟨rfl, ?_⟩)
    refine wpAny_loadName_free rfl xS0_c rfl ⟨_, X₁ _ _ hcell, rfl⟩ ?_
    refine wpAny_loadName_local rfl xS0_self hns eS ?_
    refine ks_wpAny_isType_cls hD1 hD2 ⟨rfl, ?_⟩
    refine ks_wpAny_call_super hD1 hD2 hx₁ rfl (fun c e => by cases e) (looks_mroIn X₁ T.sub) (fun h₂ e₂ k₂ => ?_)
    have X₂ : K.In h₂ := X₁.keeps k₂
    have hx₂ := k₂ _ _ hx₁
    have hm := T.supI
    unfold ks_superIn at hm
    rw [hcl] at hm
    have ne : x ≠ C := fun z => by
      have q := X _ _ hC
      rw [← z, hx] at q
      cases q
    have IX : InstAt h₂ x (excO C t0) C none := ⟨hx₂, rfl, rfl, trivial⟩
    refine kxs_getMethod kxs_ValueError e₂ (looks_opaque X₂ T.opq) (l₀ := .ref C :: bm) (fun A Q E s k q => wpAny_bind ((looks_clsIn X₂ hcl) A _ E s k (wpAny_pure q))) rfl X₂ hm (IX.type.andThen (looks_subIn X₂ T.veC)) ne (by decide) ?_
    have e₃ : (h₂.push (kxs_mw "ValueError.__init__" x)).get? h₂.objs.size = some (kxs_mw "ValueError.__init__" x) := Heap.get?_push_at rfl rfl
    have hx₃ : (h₂.push (kxs_mw "ValueError.__init__" x)).get? x = some (excO C t0) := Heap.get?_push_of_some _ hx₂
    refine kxs_callWith (i := "ValueError.__init__") (x := x) rfl (evalArgs_plain (spliced_cons (Constant_str (k := 0) (pos := q3) (spliced_nil ⟨e₃, ?_⟩))))
    refine wpAny_call (codeAny_of_tree ?_)
    show wpAny _ _ (callAny (.ref h₂.objs.size) ⟨[.str cn _], []⟩) _ _ _
    simp only [callAny]
    refine wpAny_bind (wpAny_load e₃ ?_)
    simp only [kxs_mw, show (Value.type "method-wrapper" == Value.type "method" || Value.type "method-wrapper" == Value.type "builtin_function_or_method" || Value.type "method-wrapper" == Value.type "method-wrapper") = true by decide, if_true]
    refine KFB.if_so (by decide) ?_
    have hC₃ : (h₂.push (kxs_mw "ValueError.__init__" x)).get? C = some _ := Heap.get?_push_of_some _ (X₂ _ _ hC)
    refine wpAny_bind (check_bound_init F.excBase_ValueError.toExcCallFacts hC₃ hx₃ rfl ?_)
    refine wpAny_bind (wpAny_pure (wpAny_pure ?_))
    refine ⟨plainId_quiet F.excBase_ValueError.init.plain _, codeAny_builtin F.excBase_ValueError.initEntry ?_⟩
    refine exc_init_tree (cls := .ref C) (t0 := t0) (dv := none) (c2 := .none) (c3 := .none) (b4 := .bool false) hx₃ (by show 1 ≤ sizeLine; decide) (fun h₄ k₄ hx₄ _ => ?_)
    have K₄ : ∀ b o, b ≠ x → h₁.get? b = some o → h₄.get? b = some o := fun b o hb e => k₄ b o hb (Heap.get?_push_of_some _ (k₂ _ _ e))
    have X₄ : K.In h₄ := fun b o e => K₄ b o (fun z => by rw [z, hnx] at e; cases e) (X₁ b o e)
    have n₄ : h₄.Ns s.heap.objs.size (fun y => ([(("self" : Str), Value.ref x)] : List (Str × Value)).reverse.lookup y) := by
      obtain ⟨o, es, ep, e, r⟩ := hns
      exact ⟨o, es, ep, K₄ _ _ hxL e, r⟩
    have l4 : s.heap.objs.size < h₄.objs.size := by
      obtain ⟨o, es, ep, e, r⟩ := n₄
      exact Heap.lt_size e
    refine wpAt_of_wpAny ?_
    refine wpAny_execs_cons (plainObj_wpAny_Assign_Attribute (Constant_str ?_))
    refine wpAny_Name (wpAny_loadName_local rfl xS0_self n₄ eS ?_) (by decide)
    refine set_plain X₄ (ox := excO C _) (od := none) ⟨hx₄, rfl, rfl, trivial⟩ T.sa ?_
    refine exc_osa X₄ hx₄ hcl (show refsVE (.ref C :: bm) = true from hbm) rfl T.noT (fun h₅ tk₅ dx k₅ dn dne hx₅ hn₅ => ?_)
    refine wpAny_execs_nil ?_
    have l1 : ∀ b o, s.heap.get? b = some o → b ≠ dx := fun b o e => Nat.ne_of_lt (Nat.lt_of_lt_of_le (Nat.lt_trans (Heap.lt_size e) l4) dn)
    refine hq h₅ tk₅ dx _ ⟨fun b o hb e => k₅ b o hb (K₄ b o hb (k b o e)), hx₅, Nat.le_of_lt (Nat.lt_of_lt_of_le l4 dn), dne, _, hn₅⟩
/-- a made exception -/
structure XMade0 (h h' : Heap) (e C d : Addr) (cn : Str) : Prop where
  keep : ∀ b o, h.get? b = some o → h'.get? b = some o
  new : h.objs.size ≤ e
  obj : ∃ oe vs, h'.get? e = some oe ∧ oe.cls = .ref C ∧ oe.dict = some d ∧ oe.data = .fields vs ∧ vs[1]? = some .none
  dbig : h.objs.size ≤ d
  dne : d ≠ e
  ns : ∃ tk : Tok, h'.Ns1 d (fun y => if y = "tag" then some (.str cn tk) else none)
theorem x_made0 (T : XC0 prog K mg cn C) (X : K.In s.heap) (G : s.heap.Ns mainGlobals mg) (B : ∃ mb, s.heap.Ns builtinsNs mb ∧ ∀ x : Str, x ≠ "__name__" → mb x = bootBuiltins x) (hlim : s.heap.NoLimit) (hroom : A.depth + 1 < recursionLimit) (hcn : cn.length ≤ sizeLine)
    (hq : ∀ h' tk e d, XMade0 s.heap h' e C d cn → R (.ok (.ret (.ref e))) { s with heap := h', toks := tk }) :
    codeAny (model prog w) A (.call (.ref C) ⟨[], []⟩) R s := by
  obtain ⟨_, fI, _, _, _, _, _, _, _, _, _, _, _, _, _, _, _, _, _, _, _, iC, tI, _⟩ := T.fn
  obtain ⟨nm, q, N, bs, bm, sn, sub, ab, col, dd, k0, k1, k2, k3, k5, hC, hbm⟩ := T.cls
  obtain ⟨hp, g, dr, tk, os⟩ := s
  have k : ∀ b o, hp.get? b = some o → ((hp.push (kdv_tup [])).push (excO C hp.objs.size)).get? b = some o := fun b o e => Heap.get?_push_of_some _ (Heap.get?_push_of_some _ e)
  have hget : ((hp.push (kdv_tup [])).push (excO C hp.objs.size)).get? (hp.objs.size + 1) = some (excO C hp.objs.size) := by heap_get
  have hnx : K.lookup (hp.objs.size + 1) = none := by
    cases e : K.lookup (hp.objs.size + 1) with
    | none => rfl
    | some o =>
      have z : hp.get? (hp.objs.size + 1) = some o := X _ _ e
      exact absurd (Nat.lt_of_succ_lt (Heap.lt_size z)) (Nat.lt_irrefl _)
  obtain ⟨mb, B1, B2⟩ := B
  refine call_own F.excBase_ValueError (fun X => refsVE_contains X bm hbm) (X _ _ hC) (looks_findIn X iC) (fun self => bind_fn X self tI) (by show 0 ≤ sizeLine; decide) ?_
  refine x_init0 (s := ⟨(hp.push (kdv_tup [])).push (excO C hp.objs.size), g, dr, tk, os⟩) T iC (X.keeps k) (G.keeps k) ⟨mb, B1.keeps k, B2⟩ (hlim.keeps k) hget hnx ?_ hcn fun h' tk' dx t1 ⟨k', hx, dn, dne, hns⟩ => ?_
  · show A.depth + 1 < recursionLimit
    exact hroom
  · have old : ∀ b o, hp.get? b = some o → h'.get? b = some o := fun b o e => k' b o (Nat.ne_of_lt (Nat.lt_succ_of_lt (Heap.lt_size e))) (k b o e)
    have z : hp.objs.size + 1 + 1 ≤ dx := by
      have q := dn
      rw [Heap.size_push, Heap.size_push] at q
      exact q
    exact ⟨rfl, hq h' tk' (hp.objs.size + 1) dx ⟨old, Nat.le_succ _, ⟨_, _, hx, rfl, rfl, rfl, rfl⟩, Nat.le_trans (Nat.le_trans (Nat.le_succ _) (Nat.le_succ _)) z, dne, hns⟩⟩
end
end ExcX
end PySem
namespace L2
open PySem PySem.Spec PyProof.Rows
theorem relO_x0 {cn : Str} {tk : Tok} (g : Str) : RelO (List.lookup g [(("tag" : Str), V.str cn)]) (if g = "tag" then some (.str cn tk) else none) := by
  rw [lookup_put]
  by_cases h2 : g = "tag"
  · rw [if_pos h2, if_pos h2]
    exact ⟨tk, rfl⟩
  · rw [if_neg h2, if_neg h2]
    trivial
section
variable {X : Cx} {C : Addr} {cn : Str}
/-- C(): its own dict d is new -/
def tMkX0 (C : Addr) (cn : Str) : St → Hp → XK → Prop := fun _ H Q => ∀ d, H d = none → Q (.ref C) (some d) (upd H d (.xd [(("tag" : Str), V.str cn)]))
theorem pmk_x0 {p pos : Pos} {k : Nat} (T : PySem.ExcX.XC0 X.prog X.K X.mg cn C) (hcn : cn.length ≤ sizeLine) (hr : Room (k + 1) X.A) (hg : Gl X cn) (hdb : (cn == ("__debug__" : Str)) = false) :
    PMk X (.Call (.Name cn p) [] [] pos) (tMkX0 C cn) := by
  intro pins s σ H Q I1 q1
  refine wpAny_Call_Name_kw (ld_glob I1 hg T.gC ?_ hdb)
  refine PySem.W.callWith_K0 I1.kIn T.kC ?_
  show wpAny _ _ (call (.ref C) []) _ _ _
  have hlim := I1.nolimit
  have hG := I1.mod.glob.keeps I1.bk
  obtain ⟨mb, B1, B2⟩ := I1.mod.blt
  have hB := B1.keeps I1.bk
  obtain ⟨hp, g, dr, tk, os⟩ := s
  refine wpAny_call (PySem.ExcX.x_made0 T I1.kIn hG ⟨mb, hB, B2⟩ hlim (by have := hr.dp; omega) hcn fun h' tk' e d M => ?_)
  show MkP X pins σ Q (.ref e) ⟨h', g, dr, tk', os⟩
  obtain ⟨oe, fv, hoe, hc, hd, hdat, h1⟩ := M.obj
  obtain ⟨tkn, hns⟩ := M.ns
  obtain ⟨G', g1, g2⟩ := restrict h' fun b => decide (b ≠ e)
  have gk : ∀ b, b ≠ e → G'.get? b = h'.get? b := fun b hb => g1 b (decide_eq_true hb)
  have ge : G'.get? e = none := g2 e (by simp)
  have old : ∀ b o, hp.get? b = some o → G'.get? b = some o := fun b o q => (gk b (Nat.ne_of_lt (Nat.lt_of_lt_of_le (Heap.lt_size q) M.new))).trans (M.keep b o q)
  have ob : ObjOk X.prog X.w (upd H d (.xd [(("tag" : Str), V.str cn)])) G' d (.xd [(("tag" : Str), V.str cn)]) :=
    ⟨_, hns.at (fun o q => (gk d M.dne).trans q), fun f => relO_x0 f⟩
  have J : Inv X pins σ (upd H d (.xd [(("tag" : Str), V.str cn)])) ⟨G', g, dr, tk', os⟩ := I1.laid (t' := tk') old M.dbig ob
  refine ⟨e, oe, fv, ⟨G', g, dr, tk', os⟩, _, .ref C, some d, rfl, J, fun b o q => ?_, ge, hoe, ⟨hc, hd⟩, hdat, h1, ?_, rfl, I1.bare, raises_own T.exC T.tyC, q1 d (I1.hok.fresh M.dbig)⟩
  · by_cases hb : b = e
    · have q' : G'.get? b = some o := q
      rw [hb, ge] at q'
      cases q'
    · exact (gk b hb).symm.trans q
  · rw [upd_ne (Ne.symm M.dne)]
    exact I1.hok.fresh M.new
end
end L2
namespace PL
open PySem L2
variable [Tabl]
section
variable {X : Cx} {W : WX} {C : Addr} {cn : PySem.Str} {p pos pos2 : Pos} {k j : Nat}
/-- raise cn() -/
def tsRaise0 (C : Addr) (cn : PySem.Str) : TSp := fun P Γ => P.xx ⟨.ref C, [(("tag" : PySem.Str), .str cn.cps.toList)]⟩ Γ
theorem s_raise0 (hc : X.calm = true) (T : PySem.ExcX.XC0 X.prog X.K X.mg cn C) (hcn : cn.length ≤ sizeLine) (hr : Room (k + 1) X.A) (tk : Takes X W) (hg : Gl X cn := by rfl) (hdb : (cn == ("__debug__" : PySem.Str)) = false := by decide) :
    PS1 X W (.Raise (some (.Call (.Name cn p) [] [] pos)) none pos2) (tsRaise0 C cn) := by
  refine ⟨_, ps_raise hc tk (pmk_x0 T hcn hr hg hdb), ?_⟩
  intro G0 H0 Γ σ G H P E F ht ok
  intro q hq
  have hg := F.sub.none hq
  have x2 : Ext G H G (upd H q (.xd [(("tag" : PySem.Str), V.str cn)])) := Ext.beside F.sub hq
  exact ok.xx _ _ _ _ _ _ _ ht (F.up x2) ⟨rfl, .inr ⟨q, _, rfl, upd_same, .cons (str_den (X := X) cn) .nil⟩⟩
end
end PL
set_option Elab.async false
set_option linter.all false
set_option maxRecDepth 100000
set_option maxHeartbeats 4000000
namespace PL
open PySem L2
end PL
set_option Elab.async false
set_option linter.all false
set_option maxRecDepth 100000
set_option maxHeartbeats 4000000
namespace PL
open PySem L2
end PL
set_option Elab.async false
set_option linter.all false
set_option maxRecDepth 100000
set_option maxHeartbeats 4000000
namespace PL
open PySem L2 PyProof.Rows
variable [Tabl]
section
variable {X : Cx} {W : WX} {i : Nat} {pos : Pos} {st : Stmt} {rest : List Stmt}
theorem AskAll.snoc {g : Addr} {sp : LS} {t : TP} (h : AskRun X g sp t) : ∀ {sps : List LS} {T : List TP}, AskAll X g sps T → AskAll X g (sps ++ [sp]) (T ++ [t])
  | _, _, .nil => .cons h .nil
  | _, _, .cons a r => .cons a (AskAll.snoc h r)
end
end PL
set_option Elab.async false
set_option linter.all false
set_option maxRecDepth 100000
set_option maxHeartbeats 4000000
namespace PL
open PySem L2 PyProof.Rows
end PL
set_option Elab.async false
set_option linter.all false
set_option maxRecDepth 100000
set_option maxHeartbeats 4000000
namespace PL
open PySem L2
def m_inner : FS := fun ds k kx =>
  (tsSeq (tsIf (tbV (tpOp (fInD false) (tpOp fIx (tpVar 0) (tpC (.int 0))) (tpTup (tlCons (tpC (.str [116, 104, 101, 110])) (tlCons (tpC (.str [101, 105, 116, 104, 101, 114])) tlNil)))))
    (tsRet (tp1 fList (tpSl (tpVar 0) (toSome (tpC (.int 1))) toNo)))
    tsNext)
    (tsRet (tpIf (tbV (tpOp (fInD false) (tpOp fIx (tpVar 0) (tpC (.int 0))) (tpTup (tlCons (tpC (.str [116, 105, 109, 101, 115])) (tlCons (tpC (.str [97, 103, 97, 105, 110])) tlNil))))) (tpLst (tlCons (tpOp fIx (tpVar 0) (tpC (.int 1))) tlNil)) (tpLst tlNil))))
  (fEnds k kx) (ga0 1 ds)
end PL
set_option Elab.async false
set_option linter.all false
set_option maxRecDepth 100000
set_option maxHeartbeats 4000000
namespace PL
open PySem L2 PyProof.Rows
end PL
set_option Elab.async false
set_option linter.all false
set_option maxRecDepth 100000
set_option maxHeartbeats 4000000
namespace PL
open PySem L2 PyProof.Rows
end PL
set_option Elab.async false
set_option linter.all false
set_option maxRecDepth 100000
set_option maxHeartbeats 4000000
namespace PL
open PySem L2
variable [Tabl]
def spQ (K : PySem.W.Frag) (n j : Nat) (fs : FSo) : Sp := fun vs H Q E => ∃ G ds k kx p, vs.length = n ∧ ds.length = n ∧ Sub G H ∧ G p = none ∧ vs[j]? = some (.ref p) ∧ (∃ d, ds[j]? = some d ∧ OwnAt K (hole H p) G H p d) ∧
  (∀ (i : Nat) v d, i ≠ j → vs[i]? = some v → ds[i]? = some d → Den K G v d) ∧ fs ds k kx ∧
  (∀ d e v G' H', k d e → Ext G (hole H p) G' H' → G' p = none → OwnAt K (hole H p) G' H' p e → Den K G' v d → Q v H') ∧
  (∀ x e cls dA G' H', kx x → Ext G (hole H p) G' H' → G' p = none → OwnAt K (hole H p) G' H' p e → XDen K G' H' cls dA x → E cls dA H')
section
variable {P : Program} {w : World} {K : PySem.W.Frag} {mg : PySem.Str → Option Value} {base : Heap}
theorem fn_okQ {x qual : PySem.Str} {st : Stmt} {f : Addr} {fd : FuncData} {N ps : List PySem.Str} {k n j : Nat} {fs : FSo} (F : Fun K x qual st f fd) (S : FnScope N ps (defScope st)) (hn : ps.length = n)
    (body : ∀ (cdv : Value) (A : Around) (outer : List Env) (s : Shared) (H : Hp) (E : XK), Room k (A.deeper (PyProof.Rows.envOfC qual (defScope st) s.heap.objs.size f cdv)) →
      ∃ t, PSS (cxOf (L2.CX P w) P w K mg base N qual (defScope st) f cdv A outer s H E) (fun cls d _ H => E cls d H) (defBody st) t ∧ ∀ ds kd kx p, ds.length = n → fs ds kd kx → t (oEnds j p kd kx) (gaO N.length j p ds)) :
    FnOk P w K mg base (L2.CX P w) (k + 1) f fd ps (spQ K n j fs) := by
  refine F.okX S (fun vs H Q E h => ?_) (fun cdv A outer s H vs Q E hr h => ?_)
  · obtain ⟨G, ds, kd, kx, p, b, _⟩ := h
    rw [b, hn]
  · obtain ⟨G, ds, kd, kx, p, hlv, hl, sb, g, hv, ⟨d, hd, ho⟩, r, hf, hk, hx⟩ := h
    obtain ⟨t, ⟨ts, ps, rd⟩, ht⟩ := body cdv A outer s H E hr
    have F0 := frO (N := N) sb (hlv.trans hl.symm) g hv hd ho r
    have fin : ∀ {Γ σ G' H'} {k0 : D → Prop}, (match gat Γ j with | .pw q e => q = p ∧ k0 e | _ => False) → Fr K G (hole H p) Γ σ G' H' → ∃ e, k0 e ∧ G' p = none ∧ OwnAt K (hole H p) G' H' p e := fun {Γ σ G' H' k0} q F' => by
      cases e : gat Γ j with
      | pw q2 e2 =>
        rw [e] at q
        obtain ⟨rfl, q⟩ := q
        obtain ⟨_, g2, _, o2⟩ := F'.at_ j _ (gat_get Γ j _ e (by simp))
        exact ⟨e2, q, g2, o2⟩
      | _ => rw [e] at q; exact q.elim
    refine ⟨ts, ps, rd G (hole H p) _ (L2.start N vs) G H (oEnds j p kd kx) _ F0 (ht ds kd kx p hl hf) ⟨?_, ?_, ?_, ?_, ?_⟩⟩
    · intro Γ σ G' H' q F'
      obtain ⟨e, q, g2, o2⟩ := fin q F'
      exact hk .non e .non G' H' q F'.e g2 o2 .non
    · intro Γ σ G' H' q
      exact q.elim
    · intro Γ σ G' H' q
      exact q.elim
    · intro d v Γ σ G' H' q F' n
      obtain ⟨e, q, g2, o2⟩ := fin q F'
      exact hk d e v G' H' q F'.e g2 o2 n
    · intro x cls dA Γ σ G' H' q F' n
      obtain ⟨e, q, g2, o2⟩ := fin (k0 := fun _ => kx x) q F'
      exact hx x e cls dA G' H' q F'.e g2 o2 n
/-- the global name x holds a def that keeps fs and changes its j-th argument -/
structure DfO (P : Program) (w : World) (K : PySem.W.Frag) (mg : PySem.Str → Option Value) (base : Heap) (x : PySem.Str) (k n j : Nat) (fs : FSo) : Prop where
  ex : ∃ f fd ps, FnOk P w K mg base (L2.CX P w) k f fd ps (spQ K n j fs) ∧ mg x = some (.ref f) ∧ PySem.W.keepIn K (.ref f) = true ∧ Binds K fd ps [] ∧ ps.length = n
theorem spQ_imp {n j : Nat} {fs fs' : FSo} (h : ∀ ds kd kx, ds.length = n → fs' ds kd kx → fs ds kd kx) {vs : List V} {H : Hp} {Q : VK} {E : XK} (z : spQ K n j fs' vs H Q E) : spQ K n j fs vs H Q E := by
  obtain ⟨G, ds, k, kx, p, a1, a2, a3, a4, a5, a6, a7, a8, a9⟩ := z
  exact ⟨G, ds, k, kx, p, a1, a2, a3, a4, a5, a6, a7, h _ _ _ a2 a8, a9⟩
theorem DfO.imp {x : PySem.Str} {k n j : Nat} {fs fs' : FSo} (F : DfO P w K mg base x k n j fs) (h : ∀ ds kd kx, ds.length = n → fs' ds kd kx → fs ds kd kx) : DfO P w K mg base x k n j fs' := by
  obtain ⟨f, fd, ps, a, b⟩ := F.ex
  exact ⟨f, fd, ps, a.imp fun vs H Q E z => spQ_imp h z, b⟩
theorem DfO.mono {x : PySem.Str} {k k' n j : Nat} {fs : FSo} (F : DfO P w K mg base x k n j fs) (h : k ≤ k') : DfO P w K mg base x k' n j fs := by
  obtain ⟨f, fd, ps, a, b⟩ := F.ex
  exact ⟨f, fd, ps, a.mono h, b⟩
theorem dfO_mk {x qual : PySem.Str} {st : Stmt} {f : Addr} {fd : FuncData} {ps : List PySem.Str} {k n j : Nat} {fs : FSo} (F : Fun K x qual st f fd) (hm : mg x = some (.ref f)) (hb : Binds K fd ps []) (hn : ps.length = n) (h : FnOk P w K mg base (L2.CX P w) k f fd ps (spQ K n j fs)) :
    DfO P w K mg base x k n j fs := ⟨f, fd, ps, h, hm, F.kp, hb, hn⟩
end
structure Eff (K : PySem.W.Frag) (G H : Hp) (p : Addr) (c : D) (G' H' : Hp) : Prop where
  x : Ext G (hole H p) G' H'
  g : G' p = none
  o : OwnAt K (hole H p) G' H' p c
def boxD : D → Prop
  | .lst _ => True
  | .dct _ => True
  | _ => False
section
variable {K : PySem.W.Frag} {G0 H0 H00 G H G1 H1 G2 H2 G' H' : Hp} {Γ : Ga} {σ : L2.St} {p q : Addr} {c c1 c2 d : D} {u : HO} {i : Nat}
theorem OwnAt.box (h : OwnAt K H0 G H p d) (b : boxD d) : OwnAt K H00 G H p d := by
  cases d with
  | lst ds => exact h
  | dct ds => exact h
  | _ => exact b.elim
theorem OwnAt.low (h : OwnAt K H0 G H p d) (m : ∀ a, H0 a = none → H00 a = none) : OwnAt K H00 G H p d := by
  cases d with
  | lst ds => exact h
  | dct ds => exact h
  | ins C fs =>
    obtain ⟨dx, fvs, h1, h2, h3, h4, h5⟩ := h
    exact ⟨dx, fvs, h1, h2, h3, m _ h4, h5⟩
  | _ => exact h.elim
theorem Eff.trans (a : Eff K G H p c1 G1 H1) (b : Eff K G1 H1 p c2 G2 H2) : Eff K G H p c2 G2 H2 := by
  have up : ∀ {x : Addr} {o : HO}, hole H p x = some o → x ≠ p := fun {x o} e z => by
    rw [z, hole_at] at e
    cases e
  refine ⟨⟨⟨fun x o e n => ?_, fun x o e => ?_, fun _ => b.x.sub.tb⟩, a.x.g.trans b.x.g, fun x h ⟨o, e⟩ => ?_, b.x.sub⟩, b.g, b.o.low fun x e => ?_⟩
  · exact b.x.h.k _ _ (by rw [hole_ne (up e)]; exact a.x.h.k _ _ e n) n
  · obtain ⟨o1, e1⟩ := a.x.h.t _ _ e
    exact b.x.h.t x o1 (by rw [hole_ne (up e)]; exact e1)
  · obtain ⟨o1, e1⟩ := a.x.h.t _ _ e
    exact b.x.nw x (a.x.nw x h ⟨o, e⟩) ⟨o1, by rw [hole_ne (up e)]; exact e1⟩
  · cases z : hole H p x with
    | none => rfl
    | some o =>
      obtain ⟨o1, e1⟩ := a.x.h.t _ _ z
      rw [hole_ne (up z), e1] at e
      cases e
theorem Eff.of (r : OwnAt K H0 G H p c) (b : boxD c) (g : G p = none) (x : Ext G H G' H') : Eff K G H p c G' H' :=
  ⟨⟨(Up.of hole_same).trans x.h, x.g, fun a h ⟨o, e⟩ => x.nw a h ⟨o, hole_same _ _ e⟩, x.sub⟩, x.nw p g r.there, (r.up x).box b⟩
theorem OwnAt.eff (h : OwnAt K H0 G H q d) (n : q ≠ p) (hp : H p = some u) (hu : MutO u) (x : Ext G (PL.hole H p) G' H') : OwnAt K H0 G' H' q d := by
  cases d with
  | lst ds => obtain ⟨xs, h1, h2⟩ := h; exact ⟨xs, x.h.lst (by rw [hole_ne n]; exact h1), h2.up x.g⟩
  | dct ks => obtain ⟨xs, h1, h2⟩ := h; exact ⟨xs, x.h.dK (by rw [hole_ne n]; exact h1), h2.up x.g⟩
  | ins C fs =>
    obtain ⟨dx, fvs, h1, h2, h3, h4, h5⟩ := h
    have nd : dx ≠ p := fun z => by
      subst z
      rw [hp] at h2
      cases h2
      exact hu
    exact ⟨dx, fvs, x.h.k _ _ (by rw [hole_ne n]; exact h1) (fun _ z => nomatch z), x.h.k _ _ (by rw [hole_ne nd]; exact h2) (fun _ z => nomatch z), x.nw _ h3 ⟨_, by rw [hole_ne nd]; exact h2⟩, h4, h5.up x.g⟩
  | _ => exact h.elim
theorem SlOk.eff {ov : Option (Option V)} {s : Sl} (h : SlOk K H0 G H ov s) (n : s.owns → ov ≠ some (some (.ref p))) (hp : H p = some u) (hu : MutO u) (x : Ext G (PL.hole H p) G' H') : SlOk K H0 G' H' ov s := by
  have ne : ∀ {a : Addr} {v : HO}, H a = some v → ¬ MutO v → a ≠ p := fun {a v} e n z => by
    rw [z, hp] at e
    cases e
    exact n hu
  cases s with
  | un => trivial
  | pu d => obtain ⟨v, e, r⟩ := h; exact ⟨v, e, r.up x.g⟩
  | ow d =>
    obtain ⟨q, e, g, h0, r⟩ := h
    have nq : q ≠ p := fun z => n trivial (by rw [e, z])
    obtain ⟨o, ho⟩ := r.there
    exact ⟨q, e, x.nw _ g ⟨o, by rw [hole_ne nq]; exact ho⟩, h0, r.eff nq hp hu x⟩
  | lk q v d =>
    obtain ⟨e, g, h0, hq, r⟩ := h
    have nq : q ≠ p := fun z => n trivial (by rw [e, z])
    exact ⟨e, x.nw _ g ⟨v, by rw [hole_ne nq]; exact hq⟩, h0, x.h.k _ _ (by rw [hole_ne nq]; exact hq) (r.mutO hq).nt, r.eff nq hp hu x⟩
  | pw q d =>
    obtain ⟨e, g, h0, r⟩ := h
    have nq : q ≠ p := fun z => n trivial (by rw [e, z])
    obtain ⟨o, ho⟩ := r.there
    exact ⟨e, x.nw _ g ⟨o, by rw [hole_ne nq]; exact ho⟩, h0, r.eff nq hp hu x⟩
  | kp v c w Gx =>
    obtain ⟨e, h1, h2, h3, h4⟩ := h
    exact ⟨e, x.h.k _ _ (by rw [hole_ne (ne h1 h2)]; exact h1) h3, h2, h3, h4.trans x.g⟩
  | xv a cls dA fs =>
    obtain ⟨e, h1⟩ := h
    refine ⟨e, ?_⟩
    rcases h1 with h1 | ⟨q, fvs, h1, h2, h3⟩
    · exact .inl h1
    · exact .inr ⟨q, fvs, h1, x.h.k _ _ (by rw [hole_ne (ne h2 fun z => z)]; exact h2) (fun _ z => nomatch z), h3.up x.g⟩
  | pf d l Gx =>
    obtain ⟨⟨v, e, r⟩, h1, h2⟩ := h
    exact ⟨⟨v, e, r.up x.g⟩, fun q hq => ⟨x.h.k _ _ (by rw [hole_ne (ne (h1 q hq).1 (h1 q hq).2.1)]; exact (h1 q hq).1) (h1 q hq).2.2.1, (h1 q hq).2⟩, h2.trans x.g⟩
theorem Fr.eff (F : Fr K G0 H0 Γ σ G H) (hs : (gat Γ i).og = some c1) (e1 : σ[i]? = some (some (.ref p))) (x : Eff K G H p c G' H') : Fr K G0 H0 (oput Γ i c) σ G' H' := by
  obtain ⟨key, p', e1', g, h0, o⟩ := own_at F hs
  rw [e1] at e1'
  cases e1'
  obtain ⟨u, hp⟩ := o.there
  have hu := o.mutO hp
  have n0 : ∀ {b : Addr} {v : HO}, H0 b = some v → b ≠ p := fun {b v} e => ne_of_none e h0
  have own : OwnAt K H0 G' H' p c := x.o.low fun a e => by
    by_cases z : a = p
    · rw [z]; exact h0
    · rw [hole_ne z] at e
      exact F.e.h.free e
  have tow : (gat Γ i).owns := by
    cases e : gat Γ i <;> first | trivial | (rw [e] at hs; cases hs)
  unfold oput
  refine ⟨by rw [gset_eq, List.length_set]; exact F.len, ⟨⟨fun b v q n => ?_, fun b v q => ?_, fun _ => x.x.sub.tb⟩, F.e.g.trans x.x.g, fun a h ⟨v, q⟩ => ?_, x.x.sub⟩, fun j s h => ?_, fun a b q s t h1 h2 h3 h4 h5 h6 => ?_⟩
  · exact x.x.h.k _ _ (by rw [hole_ne (n0 q)]; exact F.e.h.k _ _ q n) n
  · obtain ⟨v1, q1⟩ := F.e.h.t _ _ q
    exact x.x.h.t b v1 (by rw [hole_ne (n0 q)]; exact q1)
  · obtain ⟨v1, q1⟩ := F.e.h.t _ _ q
    exact x.x.nw a (F.e.nw a h ⟨v, q⟩) ⟨v1, by rw [hole_ne (n0 q)]; exact q1⟩
  · by_cases hj : i = j
    · subst hj
      rw [gset_gat key] at h
      cases h
      cases z : gat Γ i with
      | pw q2 d2 =>
        rw [z] at key
        have e2 : σ[i]? = some (some (.ref q2)) := (F.at_ i _ key).1
        rw [e1] at e2
        cases e2
        exact ⟨e1, x.g, h0, own⟩
      | _ => exact ⟨p, e1, x.g, h0, own⟩
    · rw [gset_eq, List.getElem?_set_ne hj] at h
      exact (F.at_ j s h).eff (fun ow z => hj (F.dj i j p _ s key tow h ow e1 z)) hp hu x.x
  · have f : ∀ (a : Nat) (s : Sl), (gset Γ i ((gat Γ i).op c))[a]? = some s → s.owns → ∃ s', Γ[a]? = some s' ∧ s'.owns := fun a s h1 h2 => by
      by_cases ha : i = a
      · subst ha
        exact ⟨_, key, tow⟩
      · rw [gset_eq, List.getElem?_set_ne ha] at h1
        exact ⟨s, h1, h2⟩
    obtain ⟨s', g1, g2⟩ := f a s h1 h2
    obtain ⟨t', g3, g4⟩ := f b t h3 h4
    exact F.dj a b q s' t' g1 g2 g3 g4 h5 h6
end
abbrev TX := Ga → (D → D → Prop) → KX → Prop
abbrev TLX := Ga → (List D → D → Prop) → KX → Prop
def RdX (K : PySem.W.Frag) (W : WX) (i : Nat) (te : TE) (t : TX) : Prop := ∀ (G0 H0 : Hp) (Γ : Ga) (σ : L2.St) (G H : Hp) (k : D → D → Prop) (kx : KX) (Q : VK) (p : Addr) (c0 : D), Fr K G0 H0 Γ σ G H → (gat Γ i).og = some c0 → boxD c0 → σ[i]? = some (some (.ref p)) → t Γ k kx →
  (∀ d v c G' H', k d c → boxD c → Eff K G H p c G' H' → Den K G' v d → Q v H') → (∀ x cls dA c G' H', kx x → Eff K G H p c G' H' → XDen K G' H' cls dA x → W cls dA σ H') → te σ H Q
structure PX (X : Cx) (W : WX) (i : Nat) (e : Expr) (t : TX) : Prop where
  ex : ∃ te, PE X e te ∧ RdX X.K W i te t
end PL
set_option Elab.async false
set_option linter.all false
set_option maxRecDepth 100000
set_option maxHeartbeats 4000000
namespace PL
open PySem L2
variable [Tabl]
section
variable {X : Cx} {W : WX} {e a b c o : Expr} {es : List Expr} {t ta tb tc to : TP} {tl : TL} {tt tu : TB} {u ua ub : TX} {ul : TLX} {pos p apos : Pos} {x m : PySem.Str} {k n j i : Nat} {fs : FS} {fso : FSo}
def ArgsO (K : PySem.W.Frag) (G : Hp) (σ : L2.St) (i j : Nat) (vs : List V) (ds : List D) : Prop :=
  vs.length = ds.length ∧ (∃ p, σ[i]? = some (some (.ref p)) ∧ vs[j]? = some (.ref p)) ∧ ∀ (m : Nat) v d, m ≠ j → vs[m]? = some v → ds[m]? = some d → Den K G v d
def RdAO (K : PySem.W.Frag) (W : WX) (i j : Nat) (ta : TA) (t : TL) : Prop := ∀ (G0 H0 : Hp) (Γ : Ga) (σ : L2.St) (G H : Hp) (k : List D → Prop) (kx : KX) (Q : List V → Hp → Prop), Fr K G0 H0 Γ σ G H → t Γ k kx →
  (∀ ds vs c G' H', k ds → (gat Γ i).og = some c → ds[j]? = some c → Ext G H G' H' → ArgsO K G' σ i j vs ds → Q vs H') → XOk K W G H σ kx → ta σ H Q
structure PLo (X : Cx) (W : WX) (i j : Nat) (es : List Expr) (t : TL) : Prop where
  ex : ∃ te, PA X es te ∧ RdAO X.K W i j te t
def tloHere (i : Nat) (tl : TL) : TL := fun Γ k kx => ∃ c, (gat Γ i).og = some c ∧ tl Γ (fun ds => k (c :: ds)) kx
theorem lo_here (i : Nat) {x : PySem.Str} (hr : PL' X W es tl) (hN : X.N[i]? = some x := by rfl) (hv : Vis X.env.scope x := by first | exact Or.inl rfl | exact Or.inr (Or.inl rfl) | exact Or.inr (Or.inr rfl)) (hd : (x == ("__debug__" : PySem.Str)) = false := by decide) (hcd : (x == ("__classdict__" : PySem.Str)) = false := by decide)
    (hs : starEach (.Name x p :: es) X.env = (false, eval (.Name x p) X.env) :: starEach es X.env := by rfl) : PLo X W i 0 (.Name x p :: es) (tloHere i tl) := by
  obtain ⟨ea, pa, ra⟩ := hr.ex
  refine ⟨_, pa_cons (pe_var (i := i) hN hv hd hcd) pa hs, fun G0 H0 Γ σ G H k kx Q F ⟨c, hc, ht⟩ hk hx => ?_⟩
  obtain ⟨_, p, e1, g, h0, ow⟩ := own_at F hc
  refine ⟨.ref p, e1, ?_⟩
  refine ra G0 H0 Γ σ G H _ kx _ F ht (fun ds vs G1 H1 k1 x1 n1 => ?_) hx
  refine hk (c :: ds) (.ref p :: vs) c G1 H1 k1 hc rfl x1 ⟨by rw [List.length_cons, List.length_cons, n1.length], ⟨p, e1, rfl⟩, fun m v d hm hv hd => ?_⟩
  cases m with
  | zero => exact absurd rfl hm
  | succ m =>
    obtain ⟨d2, q1, q2⟩ := n1.gv (i := m) (by simpa using hv)
    have hd : ds[m]? = some d := by simpa using hd
    rw [q1] at hd
    cases hd
    exact q2
theorem lo_cons (ha : PP X W e t) (hr : PLo X W i j es tl) (hs : starEach (e :: es) X.env = (false, eval e X.env) :: starEach es X.env := by rfl) : PLo X W i (j + 1) (e :: es) (tlCons t tl) := by
  obtain ⟨ea, pa, ra⟩ := ha.ex
  obtain ⟨eb, pb, rb⟩ := hr.ex
  refine ⟨_, pa_cons pa pb hs, fun G0 H0 Γ σ G H k kx Q F ht hk hx => ?_⟩
  refine ra G0 H0 Γ σ G H _ kx _ F ht (fun d1 v1 G1 H1 k1 x1 n1 => ?_) hx
  refine rb G0 H0 Γ σ G1 H1 _ kx _ (F.up x1) k1 (fun ds vs c G2 H2 k2 hc hj x2 ⟨a1, ⟨p, a2, a3⟩, a4⟩ => ?_) (hx.up x1)
  refine hk (d1 :: ds) (v1 :: vs) c G2 H2 k2 hc (by simpa using hj) (x1.trans x2) ⟨by rw [List.length_cons, List.length_cons, a1], ⟨p, a2, by simpa using a3⟩, fun m v d hm hv hd => ?_⟩
  cases m with
  | zero =>
    cases hv
    cases hd
    exact n1.up x2.g
  | succ m => exact a4 m v d (by omega) (by simpa using hv) (by simpa using hd)
def txCallO (n : Nat) (fs : FSo) (tl : TL) : TX := fun Γ k kx => tl Γ (fun ds => ds.length = n ∧ fs ds (fun d e => boxD e ∧ k d e) kx) kx
theorem x_callO {k n jj : Nat} (D : DfO X.prog X.w X.K X.mg X.base x k n jj fso) (hr : Room j X.A) (hj : k ≤ j) (tk : Takes X W) (ha : PLo X W i jj (e :: es) tl) (hg : Gl X x := by rfl) (hdb : (x == ("__debug__" : PySem.Str)) = false := by decide)
    (he : starEach (e :: es) X.env = (false, eval e X.env) :: starEach es X.env := by rfl) (hpl : (backTo pos (starEach es X.env)).any (·.1) = false := by rfl) : PX X W i (.Call (.Name x p) (e :: es) [] pos) (txCallO n fso tl) := by
  obtain ⟨f, fd, ps, h1, h2, h3, h4, h5⟩ := D.ex
  obtain ⟨ea, pa, ra⟩ := ha.ex
  refine ⟨_, pe_callS (sp := spQ X.K n jj fso) (E := WE W) h1 (hr.mono hj) hg h2 h3 h4 (fun σ => passAt tk σ) pa hdb he hpl, fun G0 H0 Γ σ G H k kx Q p c0 F hs hb e1 ht hk hx => ?_⟩
  obtain ⟨_, p', e1', g0, h00, ow0⟩ := own_at F hs
  rw [e1] at e1'
  cases e1'
  refine ra G0 H0 Γ σ G H _ kx _ F ht (fun ds vs c G1 H1 k1 hc hjj x1 ⟨a1, ⟨p', a2, a3⟩, a4⟩ => ?_) (fun x cls dA G' H' kd ex dn => hx x cls dA _ G' H' kd (Eff.of ow0 hb g0 ex) dn)
  rw [hs] at hc
  cases hc
  rw [e1] at a2
  cases a2
  have y1 := Eff.of ow0 hb g0 x1
  refine ⟨G1, ds, _, kx, p, by rw [a1]; exact k1.1, k1.1, x1.sub, y1.g, a3, ⟨c0, hjj, y1.o.box hb⟩, a4, k1.2, fun d c' v G' H' kd ex g' o' dn => ?_, fun y c' cls dA G' H' kd ex g' o' dn => ?_⟩
  · exact hk d v c' G' H' kd.2 kd.1 (y1.trans ⟨ex, g', o'⟩) dn
  · exact hx y cls dA c' G' H' kd (y1.trans ⟨ex, g', o'⟩) dn
end
section
variable {X : Cx} {W : WX} {e a b c o ix : Expr} {es : List Expr} {t ta tb tc to ti : TP} {u ue : TX} {pos p p2 : Pos} {x : PySem.Str} {i j : Nat}
def onBox (Γ : Ga) (i : Nat) (h : Prop) : Prop := (∃ c, (gat Γ i).og = some c ∧ boxD c) ∧ h
def tsDropX (i : Nat) (u : TX) : TSp := fun P Γ => onBox Γ i (u Γ (fun _ c => P.nx (oput Γ i c)) (fun x => ∀ c, P.xx x (oput Γ i c)))
theorem s_exprX (i : Nat) (h : PX X W i e u) (hs : swapsWith e none pos.line X.env = pure false := by rfl) : PS1 X W (.Expr e pos) (tsDropX i u) := by
  obtain ⟨ea, pa, ra⟩ := h.ex
  refine ⟨_, ps_expr pa hs, fun G0 H0 Γ σ G H P E F ⟨⟨c0, hc, hb⟩, ht⟩ ok => ?_⟩
  obtain ⟨_, q, e1, g, h0, ow⟩ := own_at F hc
  exact ra G0 H0 Γ σ G H _ _ _ q c0 F hc hb e1 ht (fun d v c G' H' kd bc ex dn => ok.nx _ σ G' H' kd (F.eff hc e1 ex)) (fun y cls dA c G' H' kd ex dn => ok.xx y cls dA _ σ G' H' (kd c) (F.eff hc e1 ex) dn)
end
end PL
set_option Elab.async false
set_option linter.all false
set_option maxRecDepth 100000
set_option maxHeartbeats 4000000
namespace PL
open PySem L2 PyProof.Rows
variable [Tabl]
section
variable {K : PySem.W.Frag} {G0 H0 G H G1 H1 G' H' : Hp} {Γ Γ0 : Ga} {σ σ0 : L2.St} {d : Addr} {o : Obj} {kvs : List (Key × V)} {u v0 : HO}
theorem tabs_frz (t : LamX.Tabs Tabl.T H) (h : H d = some (.dK kvs) ∨ H d = some (.frz o (.dK kvs))) (u : HO) : LamX.Tabs Tabl.T (upd H d u) := by
  intro q hq
  obtain ⟨ps, h1, h2, h3⟩ := t q hq
  have ne : ∀ {a : Addr} {v : HO}, H a = some v → v ≠ .dK kvs → v ≠ .frz o (.dK kvs) → a ≠ d := fun {a v} e n1 n2 z => by
    rw [z] at e
    rcases h with h | h
    · rw [h] at e
      cases e
      exact n1 rfl
    · rw [h] at e
      cases e
      exact n2 rfl
  refine ⟨ps, by rw [upd_ne (ne h1 (by intro z; cases z) (by intro z; cases z))]; exact h1, h2, fun pos cv hc => ?_⟩
  obtain ⟨c, e1, e2⟩ := h3 pos cv hc
  exact ⟨c, e1, by rw [upd_ne (ne e2 (by intro z; cases z) (by intro z; cases z))]; exact e2⟩
theorem Sub.frz (s : Sub G H) (gd : G d = some (.dK kvs)) (hd : H d = some (.dK kvs)) : Sub G (upd H d (.frz o (.dK kvs))) := by
  refine ⟨fun a v q => ?_, s.nt, tabs_frz s.tb (o := o) (.inl hd) _⟩
  by_cases z : a = d
  · subst z
    rw [gd] at q
    cases q
    exact .inr ⟨trivial, o, upd_same⟩
  · rw [upd_ne z]
    exact s.m a v q
end
end PL
set_option Elab.async false
set_option linter.all false
set_option maxRecDepth 100000
set_option maxHeartbeats 4000000
namespace PL
open PySem L2 PyProof.Rows
end PL
set_option Elab.async false
set_option linter.all false
set_option maxRecDepth 100000
set_option maxHeartbeats 4000000
namespace PL
open PySem L2 PyProof.Rows
end PL
set_option Elab.async false
set_option linter.all false
set_option maxRecDepth 100000
set_option maxHeartbeats 4000000
namespace PL
open PySem L2 PyProof.Rows
end PL
set_option Elab.async false
set_option linter.all false
set_option maxRecDepth 100000
set_option maxHeartbeats 4000000
namespace PL
open PySem L2
end PL
set_option Elab.async false
set_option linter.all false
set_option maxRecDepth 100000
set_option maxHeartbeats 4000000
namespace PL
def frontAt (s : List Nat) : Nat := frontGo [] 0 s
def rearAt (s : List Nat) : Nat := s.length - 1 - frontAt s.reverse
theorem front_is {s : List Nat} (h : s ≠ []) : IsFront s (frontAt s) := frontGo_ok s [] 0 (fun z => absurd rfl z) h
theorem rear_is {s : List Nat} (h : s ≠ []) : IsRear s (rearAt s) := (front_rev (front_is (by simpa using h))).2
theorem getD_of {s : List Nat} {p c : Nat} (h : s[p]? = some c) : s.getD p 0 = c := by
  rw [List.getD_eq_getElem?_getD, h]
  rfl
def laidGo (l r : List Nat) : Nat → List Nat
  | 0 => l ++ r
  | n + 1 => if (r.take (n + 1)).isSuffixOf l = true then l ++ r.drop (n + 1) else laidGo l r n
def laid (l r : List Nat) : List Nat := laidGo l r (min l.length r.length)
def sb (s : List Nat) : List Nat :=
  if h : s = [] then [] else laid (sb (s.take (frontAt s)) ++ [s.getD (frontAt s) 0]) (s.getD (rearAt s) 0 :: sb (s.drop (rearAt s + 1)))
termination_by s.length
decreasing_by
  · have := (front_is h).lt
    rw [List.length_take]
    omega
  · have := (rear_is h).lt
    rw [List.length_drop]
    omega
/-- the parts of a log -/
structure Parts (s : List Nat) (i j a b : Nat) (p q : List Nat) : Prop where
  f : IsFront s i
  r : IsRear s j
  ea : s[i]? = some a
  eb : s[j]? = some b
  ep : p = s.take i
  eq : q = s.drop (j + 1)
  na : a ∉ p
  nb : b ∉ q
  cp : ∀ d ∈ s, d ∈ p ∨ d = a
  cq : ∀ d ∈ s, d = b ∨ d ∈ q
  sbe : sb s = laid (sb p ++ [a]) (b :: sb q)
theorem parts {s : List Nat} (h : s ≠ []) : ∃ i j a b p q, Parts s i j a b p q := by
  have f := front_is h
  have r := rear_is h
  obtain ⟨a, f1, f2, f3⟩ := id f
  obtain ⟨b, r1, r2, r3⟩ := id r
  refine ⟨frontAt s, rearAt s, a, b, _, _, f, r, f1, r1, rfl, rfl, fun z => ?_, fun z => ?_, fun d hd => ?_, fun d hd => ?_, ?_⟩
  · obtain ⟨k, hk, e⟩ := List.mem_iff_getElem?.mp z |>.imp fun k e => (⟨(List.getElem?_eq_some_iff.mp e).1, e⟩ : k < (s.take (frontAt s)).length ∧ _)
    rw [List.length_take] at hk
    rw [List.getElem?_take_of_lt (by omega)] at e
    exact f2 k (by omega) e
  · obtain ⟨k, e⟩ := List.mem_iff_getElem?.mp z
    rw [List.getElem?_drop] at e
    exact r2 _ (by omega) e
  · obtain ⟨k, k1, k2⟩ := f3 d hd
    by_cases e : k = frontAt s
    · rw [e, f1] at k2
      exact .inr (Option.some.inj k2).symm
    · refine .inl (List.mem_iff_getElem?.mpr ⟨k, ?_⟩)
      rw [List.getElem?_take_of_lt (by omega)]
      exact k2
  · obtain ⟨k, k1, k2⟩ := r3 d hd
    by_cases e : k = rearAt s
    · rw [e, r1] at k2
      exact .inl (Option.some.inj k2).symm
    · refine .inr (List.mem_iff_getElem?.mpr ⟨k - (rearAt s + 1), ?_⟩)
      rw [List.getElem?_drop, show rearAt s + 1 + (k - (rearAt s + 1)) = k by omega]
      exact k2
  · rw [sb, dif_neg h, getD_of f1, getD_of r1]
end PL
set_option Elab.async false
set_option linter.all false
set_option maxRecDepth 100000
set_option maxHeartbeats 4000000
namespace PL
open PySem L2
section
variable {ds : List D} {kd : KD} {kx : KX} {C : Addr}
local instance : Tabl := ⟨[], fun p hp => absurd hp (by simp)⟩
end
end PL
set_option Elab.async false
set_option linter.all false
set_option maxRecDepth 100000
set_option maxHeartbeats 4000000
namespace PL
open PySem L2
section
variable {ds : List D} {kd : KD} {kx : KX} {C : Addr}
local instance : Tabl := ⟨[], fun p hp => absurd hp (by simp)⟩
section
variable {s p q : List Nat} {i j a b : Nat}
theorem Parts.mp (P : Parts s i j a b p q) : ∀ c ∈ p, c ∈ s := fun c hc => by
  rw [P.ep] at hc
  exact List.mem_of_mem_take hc
end
end
end PL
set_option Elab.async false
set_option linter.all false
set_option maxRecDepth 100000
set_option maxHeartbeats 4000000
namespace PL
end PL
set_option Elab.async false
set_option linter.all false
set_option maxRecDepth 100000
set_option maxHeartbeats 4000000
namespace PL
end PL
set_option Elab.async false
set_option linter.all false
set_option maxRecDepth 100000
set_option maxHeartbeats 4000000
namespace PL
abbrev Blk := Nat × List Nat
section
variable (ap : Nat → Nat → Bool)
/-- w goes to the last block of its sender, if all blocks behind it are apart -/
def putL (s : Nat) (w : List Nat) : List Blk → Option (List Blk)
  | [] => none
  | b :: r => if b.1 = s then some ((s, b.2 ++ w) :: r) else if ap b.1 s = true then (putL s w r).map (b :: ·) else none
def addL (s : Nat) (w : List Nat) (R : List Blk) : List Blk := match putL ap s w R with
  | some x => x
  | none => (s, w) :: R
inductive BE : List Blk → List Blk → Prop
  | refl (R : List Blk) : BE R R
  | symm {R R' : List Blk} : BE R R' → BE R' R
  | trans {R R' R'' : List Blk} : BE R R' → BE R' R'' → BE R R''
  | con (s : Nat) {u v : List Nat} (r : List Blk) : sb u = sb v → BE ((s, u) :: r) ((s, v) :: r)
  | sw (a b : Blk) (r : List Blk) : ap a.1 b.1 = true → BE (a :: b :: r) (b :: a :: r)
  | cons (a : Blk) {r r' : List Blk} : BE r r' → BE (a :: r) (a :: r')
def OE : Option (List Blk) → Option (List Blk) → Prop
  | some x, some y => BE ap x y
  | none, none => True
  | _, _ => False
/-- the logs that come to the same -/
inductive Sim (own : Nat → Nat) : List Nat → List Nat → Prop
  | refl (x : List Nat) : Sim own x x
  | symm {x y : List Nat} : Sim own x y → Sim own y x
  | trans {x y z : List Nat} : Sim own x y → Sim own y z → Sim own x z
  | sw (x : List Nat) (c d : Nat) (y : List Nat) : ap (own c) (own d) = true → Sim own (x ++ c :: d :: y) (x ++ d :: c :: y)
  | st (x : List Nat) {v v' : List Nat} (y : List Nat) (s : Nat) : v ≠ [] → v' ≠ [] → (∀ c ∈ v, own c = s) → (∀ c ∈ v', own c = s) → sb v = sb v' → Sim own (x ++ (v ++ y)) (x ++ (v' ++ y))
/-- a block ahead of which no block must stand; the others -/
inductive Mn : List Blk → Blk → List Blk → Prop
  | here {b : Blk} {r : List Blk} : (∀ a ∈ r, ap a.1 b.1 = true) → Mn (b :: r) b r
  | there {a b : Blk} {r r' : List Blk} : Mn r b r' → Mn (a :: r) b (a :: r')
/-- the blocks in the least order -/
inductive Em : List Blk → List Blk → Prop
  | nil : Em [] []
  | cons {R r o : List Blk} {b : Blk} : Mn ap R b r → (∀ b' r', Mn ap R b' r' → b.1 ≤ b'.1) → Em r o → Em R (b :: o)
def runB (own : Nat → Nat) (y : List Nat) (R : List Blk) : List Blk := y.foldl (fun R c => addL ap (own c) [c] R) R
end
section
variable {ap : Nat → Nat → Bool} {own : Nat → Nat} {s t : Nat} {w z v v' : List Nat} {R R' : List Blk}
theorem OE.refl (x : Option (List Blk)) : OE ap x x := by
  cases x
  · trivial
  · exact BE.refl _
theorem OE.symm {x y : Option (List Blk)} (h : OE ap x y) : OE ap y x := by
  cases x <;> cases y
  · trivial
  · exact h
  · exact h
  · exact BE.symm h
theorem OE.trans {x y z : Option (List Blk)} (h : OE ap x y) (g : OE ap y z) : OE ap x z := by
  cases x <;> cases y <;> cases z
  · trivial
  · exact g
  · exact h.elim
  · exact h.elim
  · exact h.elim
  · exact h.elim
  · exact g.elim
  · exact BE.trans h g
theorem OE.map {x y : Option (List Blk)} (a : Blk) (h : OE ap x y) : OE ap (x.map (a :: ·)) (y.map (a :: ·)) := by
  cases x <;> cases y
  · trivial
  · exact h
  · exact h
  · exact BE.cons a h
end
end PL
set_option Elab.async false
set_option linter.all false
set_option maxRecDepth 100000
set_option maxHeartbeats 4000000
namespace PL
section
variable {ap : Nat → Nat → Bool} {own : Nat → Nat} {s t : Nat} {w z v v' : List Nat} {R R' r r' o o' : List Blk} {b b' : Blk}
theorem mn_ex : ∀ R : List Blk, R ≠ [] → ∃ b r, Mn ap R b r
  | [], h => absurd rfl h
  | [b], _ => ⟨b, [], .here fun a z => nomatch z⟩
  | a :: c :: R, _ => by
    obtain ⟨b, r, h⟩ := mn_ex (c :: R) (by simp)
    exact ⟨b, a :: r, .there h⟩
theorem mn_len (h : Mn ap R b r) : R.length = r.length + 1 := by
  induction h with
  | here _ => rfl
  | there _ ih => rw [List.length_cons, List.length_cons, ih]
theorem em_ex : ∀ (n : Nat) (R : List Blk), R.length = n → ∃ o, Em ap R o := by
  intro n
  induction n with
  | zero =>
    intro R h
    rw [List.length_eq_zero_iff.mp h]
    exact ⟨[], .nil⟩
  | succ n ih =>
    intro R h
    have least : ∀ m, (∃ b r, Mn ap R b r ∧ b.1 ≤ m) → ∃ b r, Mn ap R b r ∧ ∀ b' r', Mn ap R b' r' → b.1 ≤ b'.1 := by
      intro m
      induction m with
      | zero => exact fun ⟨b, r, h1, h2⟩ => ⟨b, r, h1, fun b' r' _ => by omega⟩
      | succ m ihm =>
        rintro ⟨b, r, h1, h2⟩
        by_cases c : ∃ b r, Mn ap R b r ∧ b.1 ≤ m
        · exact ihm c
        · exact ⟨b, r, h1, fun b' r' h' => Nat.le_of_not_lt fun z => c ⟨b', r', h', by omega⟩⟩
    obtain ⟨b0, r0, h0⟩ := mn_ex (ap := ap) R (fun z => by rw [z] at h; cases h)
    obtain ⟨b, r, h1, h2⟩ := least b0.1 ⟨b0, r0, h0, Nat.le_refl _⟩
    have l := mn_len h1
    obtain ⟨o, ho⟩ := ih r (by omega)
    exact ⟨b :: o, .cons h1 h2 ho⟩
noncomputable def em (ap : Nat → Nat → Bool) (R : List Blk) : List Blk := Classical.choose (em_ex (ap := ap) R.length R rfl)
theorem Sim.pre (u : List Nat) {x y : List Nat} (h : Sim ap own x y) : Sim ap own (u ++ x) (u ++ y) := by
  induction h with
  | refl x => exact .refl _
  | symm _ ih => exact ih.symm
  | trans _ _ i1 i2 => exact i1.trans i2
  | sw x c d y h =>
    rw [← List.append_assoc, ← List.append_assoc]
    exact .sw _ c d y h
  | st x y s h1 h2 h3 h4 e =>
    rw [← List.append_assoc, ← List.append_assoc u x]
    exact .st _ y s h1 h2 h3 h4 e
theorem Sim.suf (u : List Nat) {x y : List Nat} (h : Sim ap own x y) : Sim ap own (x ++ u) (y ++ u) := by
  induction h with
  | refl x => exact .refl _
  | symm _ ih => exact ih.symm
  | trans _ _ i1 i2 => exact i1.trans i2
  | sw x c d y h =>
    have := Sim.sw (ap := ap) (own := own) x c d (y ++ u) h
    simpa using this
  | st x y s h1 h2 h3 h4 e =>
    have := Sim.st (ap := ap) (own := own) x (y ++ u) s h1 h2 h3 h4 e
    simpa using this
theorem Sim.of_eq {x y : List Nat} (h : x = y) : Sim ap own x y := h ▸ .refl _
end
end PL
set_option Elab.async false
set_option linter.all false
set_option maxRecDepth 100000
set_option maxHeartbeats 4000000
namespace PL
open PySem L2
def m_is_number : FS := fun ds k kx =>
  (tsRet (tpAnd (tp1 (fIsi "int") (tpVar 0)) (tpNot (tp1 (fIsi "bool") (tpVar 0)))))
  (fEnds k kx) (ga0 1 ds)
def m_is_within (fs_is_number : FS) : FS := fun ds k kx =>
  (tsRet (tpAnd (tpCall 1 fs_is_number (tlCons (tpVar 0) tlNil)) (tpChain fLe fLe (tpVar 1) (tpVar 0) (tpVar 2))))
  (fEnds k kx) (ga0 3 ds)
end PL
set_option Elab.async false
set_option linter.all false
set_option maxRecDepth 100000
set_option maxHeartbeats 4000000
namespace PL
open PySem L2
abbrev okA (s : List Nat) : Prop := 1 ≤ s.length ∧ s.length ≤ 8 ∧ s.Pairwise (· < ·) ∧ ∀ c ∈ s, c ∈ LET
theorem plain_of {t : List Nat} (h : ∀ c ∈ t, c ∈ LET) : D.plain (.str t) = true := by
  show t.all _ = true
  rw [List.all_eq_true]
  exact fun c hc => decide_eq_true (by have := (let_iff (c := c)).mp (h c hc); omega)
theorem eqD_str (a b : List Nat) : eqD (.str a) (.str b) = decide (a = b) := by
  show (SS a == SS b) = _
  by_cases h : a = b
  · rw [h, decide_eq_true rfl]
    exact beq_iff_eq.mpr rfl
  · rw [decide_eq_false h]
    refine beq_eq_false_iff_ne.mpr fun z => h ?_
    have := congrArg (fun x : PySem.Str => x.cps.toList) z
    simpa [SS] using this
def fsIsNum : FS := fun ds k _ => match ds with
  | [d] => (tyD d).isSome = true ∧ k (.bl (match d with | .int _ => true | _ => false))
  | _ => False
def within (lo hi : Int) : D → Bool
  | .int i => decide (lo ≤ i) && decide (i ≤ hi)
  | _ => false
def fsWithin : FS := fun ds k _ => match ds with
  | [d, .int lo, .int hi] => (tyD d).isSome = true ∧ k (.bl (within lo hi d))
  | _ => False
section
variable {ds : List D} {kd : KD} {kx : KX}
local instance : Tabl := ⟨[], fun p hp => absurd hp (by simp)⟩
theorem is_num_ok' : fsIsNum ds kd kx → m_is_number ds kd kx := by
  intro h
  match ds, h with
  | [d], ⟨g, h⟩ =>
    cases d <;> first | exact h | cases g
theorem within_ok' : fsWithin ds kd kx → m_is_within fsIsNum ds kd kx := by
  intro h
  match ds, h with
  | [d, .int lo, .int hi], ⟨g, h⟩ =>
    refine ⟨rfl, g, ?_⟩
    cases d with
    | int i =>
      show (if true = true then (if decide (lo ≤ i) = true then kd (.bl (decide (i ≤ hi))) else kd (.bl false)) else kd (.bl false))
      rw [if_pos rfl]
      have h : kd (.bl (decide (lo ≤ i) && decide (i ≤ hi))) := h
      by_cases z : lo ≤ i
      · rw [decide_eq_true z] at h ⊢
        rw [if_pos rfl]
        exact h
      · rw [decide_eq_false z] at h ⊢
        rw [if_neg Bool.false_ne_true]
        exact h
    | _ => exact h
end
end PL
set_option Elab.async false
set_option linter.all false
set_option maxRecDepth 100000
set_option maxHeartbeats 4000000
namespace PL
open PySem L2
abbrev Prs := List (Nat × Nat)
def apP (ps : Prs) (a b : Nat) : Bool := decide ((min a b, max a b) ∈ ps)
def pdN (p : Nat × Nat) : D := pd ((p.1 : Int), (p.2 : Int))
/-- a kind's senders and pairs -/
structure Cst (ss : List (List Nat)) (ps : Prs) : Prop where
  l1 : 1 ≤ ss.length
  l4 : ss.length ≤ 4
  ok : ∀ s ∈ ss, okA s
  nd : ss.flatten.Nodup
  pr : ∀ p ∈ ps, p.1 < p.2 ∧ p.2 < ss.length
  so : ps.Pairwise fun p q => p.1 < q.1 ∨ (p.1 = q.1 ∧ p.2 < q.2)
def ow0 : Nat → List (List Nat) → List (Nat × Nat)
  | _, [] => []
  | i, s :: r => s.map (fun c => (c, i)) ++ ow0 (i + 1) r
def owK (l : List (Nat × Nat)) : List (Key × D) := l.map fun p => (Sum.inr (SS [p.1]), D.int (p.2 : Nat))
/-- the sender of a deed -/
def ownF (ss : List (List Nat)) (c : Nat) : Nat := ss.findIdx fun s => decide (c ∈ s)
def castK (CC : Addr) (ss : List (List Nat)) (ps : Prs) : D := .sl CC [.dct (owK (ow0 0 ss)), .tup (ps.map pdN), .tup (ss.map .str)]
def freeK (CF CC : Addr) (ss : List (List Nat)) (ps : Prs) : D := .ins CF [("own_deeds", .str (deeds ss.flatten)), ("cast", castK CC ss ps)]
def oneK (C : Addr) (s : List Nat) : D := .ins C [("own_deeds", .str s)]
section
variable {ds : List D} {kd : KD} {kx : KX} {C CF CC : Addr}
local instance : Tabl := ⟨[], fun p hp => absurd hp (by simp)⟩
end
end PL
set_option Elab.async false
set_option linter.all false
set_option maxRecDepth 100000
set_option maxHeartbeats 4000000
namespace PL
open PySem L2
section
variable {ds : List D} {kd : KD} {kx : KX} {C CF CC : Addr} {ss : List (List Nat)} {ps : Prs} {os : List Nat}
local instance : Tabl := ⟨[], fun p hp => absurd hp (by simp)⟩
end
end PL
set_option Elab.async false
set_option linter.all false
set_option maxRecDepth 100000
set_option maxHeartbeats 4000000
namespace PL
open PySem L2
def blkD (b : Blk) : D := .tup [.int (b.1 : Nat), .str b.2]
section
variable {ds : List D} {kd : KD} {kx : KX} {C CF CC : Addr} {ss : List (List Nat)} {ps : Prs} {os : List Nat}
local instance : Tabl := ⟨[], fun p hp => absurd hp (by simp)⟩
end
end PL
set_option Elab.async false
set_option linter.all false
set_option maxRecDepth 100000
set_option maxHeartbeats 4000000
namespace PL
open PySem L2
theorem dL_mem {s : List Nat} (h : ∀ c ∈ s, c ∈ LET) (c : Nat) : c ∈ deeds s ↔ c ∈ s := by
  unfold deeds
  rw [List.mem_filter, decide_eq_true_eq]
  exact ⟨fun z => z.2, fun z => ⟨h c z, z⟩⟩
theorem Cst.letr {ss : List (List Nat)} {ps : Prs} (h : Cst ss ps) : ∀ c ∈ ss.flatten, c ∈ LET := fun c hc => by
  obtain ⟨s, h1, h2⟩ := List.mem_flatten.mp hc
  exact (h.ok s h1).2.2.2 c h2
theorem Cst.size {ss : List (List Nat)} {ps : Prs} (h : Cst ss ps) : ss.flatten.length ≤ 26 := nodup_le ss.flatten LET h.nd h.letr
structure Ks where
  (F C1 C2 C3 : Addr)
def Ks.all (K : Ks) : List Addr := [K.F, K.C1, K.C2, K.C3]
section
variable {ds : List D} {kd : KD} {kx : KX} {C CF CC : Addr} {ss : List (List Nat)} {ps : Prs} {K : Ks}
local instance : Tabl := ⟨[], fun p hp => absurd hp (by simp)⟩
end
end PL
set_option Elab.async false
set_option linter.all false
set_option maxRecDepth 100000
set_option maxHeartbeats 4000000
namespace PL
open PySem L2
/-- the kinds -/
inductive KindM where
  | free (ss : List (List Nat)) (ps : Prs)
  | first (s : List Nat)
  | last (s : List Nat)
  | lot (s : List Nat)
def KindM.al : KindM → List Nat
  | .free ss _ => deeds ss.flatten
  | .first s => s
  | .last s => s
  | .lot s => s
def KindM.ok : KindM → Prop
  | .free ss ps => Cst ss ps ∧ ss.flatten.length ≤ 8
  | .first s => 1 ≤ s.length ∧ s.length ≤ 8 ∧ s.Pairwise (· < ·) ∧ ∀ c ∈ s, c ∈ LET
  | .last s => 1 ≤ s.length ∧ s.length ≤ 8 ∧ s.Pairwise (· < ·) ∧ ∀ c ∈ s, c ∈ LET
  | .lot s => 1 ≤ s.length ∧ s.length ≤ 8 ∧ s.Pairwise (· < ·) ∧ ∀ c ∈ s, c ∈ LET
def KindM.dat (K : Ks) (CC : Addr) : KindM → D
  | .free ss ps => freeK K.F CC ss ps
  | .first s => oneK K.C1 s
  | .last s => oneK K.C2 s
  | .lot s => oneK K.C3 s
theorem KindM.letr {m : KindM} (h : m.ok) : ∀ c ∈ m.al, c ∈ LET := by
  cases m with
  | free ss ps => exact fun c hc => h.1.letr c ((dL_mem h.1.letr c).mp hc)
  | _ => exact h.2.2.2
theorem joinL_nil : ∀ l : List (List Nat), TL.joinL [] l = l.flatten
  | [] => rfl
  | [u] => by simp [TL.joinL]
  | u :: v :: l => by
    have ih := joinL_nil (v :: l)
    rw [List.flatten_cons, ← ih]
    show u ++ ([] ++ TL.joinL [] (v :: l)) = _
    rfl
section
variable {ds : List D} {kd : KD} {kx : KX} {C CF CC : Addr} {ss : List (List Nat)} {ps : Prs} {K : Ks}
local instance : Tabl := ⟨[], fun p hp => absurd hp (by simp)⟩
def two (p : Nat × Nat) : Int × Int := ((p.1 : Int), (p.2 : Int))
end
end PL
set_option Elab.async false
set_option linter.all false
set_option maxRecDepth 100000
set_option maxHeartbeats 4000000
namespace PL
open PySem L2
section
variable {ds : List D} {kd : KD} {kx : KX} {C CF CC : Addr} {ss : List (List Nat)} {ps : Prs} {K : Ks}
local instance : Tabl := ⟨[], fun p hp => absurd hp (by simp)⟩
end
end PL
set_option Elab.async false
set_option linter.all false
set_option maxRecDepth 100000
set_option maxHeartbeats 4000000
namespace PL
open PySem L2
abbrev FREE : List Nat := [102, 114, 101, 101]
abbrev FIRST : List Nat := [102, 105, 114, 115, 116]
abbrev LAST : List Nat := [108, 97, 115, 116]
abbrev LOT : List Nat := [108, 111, 116]
def modT (w : List Nat) (ss : List (List Nat)) (ps : Prs) : D := .tup [.str w, .lst (ss.map .str), .lst (ps.map pdN)]
def modD : KindM → D
  | .free ss ps => modT FREE ss ps
  | .first s => modT FIRST [s] []
  | .last s => modT LAST [s] []
  | .lot s => modT LOT [s] []
section
variable {ds : List D} {kd : KD} {kx : KX} {C CF CC : Addr} {ss : List (List Nat)} {ps : Prs} {K : Ks}
local instance : Tabl := ⟨[], fun p hp => absurd hp (by simp)⟩
end
end PL
set_option Elab.async false
set_option linter.all false
set_option maxRecDepth 100000
set_option maxHeartbeats 4000000
namespace PL
open PySem L2
section
variable {ds : List D} {kd : KD} {kx : KX} {C CF CC : Addr} {ss : List (List Nat)} {ps : Prs} {K : Ks}
local instance : Tabl := ⟨[], fun p hp => absurd hp (by simp)⟩
end
end PL
set_option Elab.async false
set_option linter.all false
set_option maxRecDepth 100000
set_option maxHeartbeats 4000000
namespace PL
open PySem L2
end PL
set_option Elab.async false
set_option linter.all false
set_option maxRecDepth 100000
set_option maxHeartbeats 4000000
namespace PL
open PySem L2
end PL
set_option Elab.async false
set_option linter.all false
set_option maxRecDepth 100000
set_option maxHeartbeats 4000000
namespace PL
open PySem L2
def Ev (t : TP) (Γ : Ga) (d : D) : Prop := ∀ (k : KD) (kx : KX), k d → t Γ k kx
def EvL (t : TL) (Γ : Ga) (ds : List D) : Prop := ∀ (k : List D → Prop) (kx : KX), k ds → t Γ k kx
def EvB (t : TB) (Γ : Ga) (b : Bool) : Prop := ∀ (k : Bool → Prop) (kx : KX), k b → t Γ k kx
section
local instance : Tabl := ⟨[], fun p hp => absurd hp (by simp)⟩
variable {Γ Γ' : Ga} {t ta tb : TP} {tl : TL} {d x y : D} {ds : List D} {i j n : Nat} {P : PEn} {u s r : TSp} {b c : Bool} {cb cc : TB}
theorem ev_var (e : gat Γ i = .pu d) : Ev (tpVar i) Γ d := fun k kx h => by
  show (match gat Γ i with | .pu d => k d | _ => False)
  rw [e]
  exact h
theorem ev_varO (e : gat Γ i = .ow d) : Ev (tpVarU i) Γ d := fun k kx h => by
  show (match gat Γ i with | .pu d => k d | .ow d => k d | .lk _ _ d => k d | .pw _ d => k d | _ => False)
  rw [e]
  exact h
theorem ev_c (d : D) : Ev (tpC d) Γ d := fun _ _ h => h
theorem evl_nil : EvL tlNil Γ [] := fun _ _ h => h
theorem evl_cons (h : Ev t Γ d) (g : EvL tl Γ ds) : EvL (tlCons t tl) Γ (d :: ds) := fun k kx z => h _ _ (g _ _ z)
theorem evl_1 (h : Ev t Γ d) : EvL (tlCons t tlNil) Γ [d] := evl_cons h evl_nil
theorem evl_2 (h : Ev ta Γ x) (g : Ev tb Γ y) : EvL (tlCons ta (tlCons tb tlNil)) Γ [x, y] := evl_cons h (evl_1 g)
theorem evl_3 {tc : TP} {z : D} (h : Ev ta Γ x) (g : Ev tb Γ y) (f : Ev tc Γ z) : EvL (tlCons ta (tlCons tb (tlCons tc tlNil))) Γ [x, y, z] := evl_cons h (evl_2 g f)
theorem ev_lst (h : EvL tl Γ ds) (hl : ds.length ≤ 100000) : Ev (tpLst tl) Γ (.lst ds) := fun k kx z => h _ _ ⟨hl, z⟩
theorem ev_tup (h : EvL tl Γ ds) (hl : ds.length ≤ 100000) : Ev (tpTup tl) Γ (.tup ds) := fun k kx z => h _ _ ⟨hl, z⟩
theorem ev_call {f : FS} (h : EvL tl Γ ds) (hn : ds.length = n) (hf : ∀ k kx, k d → f ds k kx) : Ev (tpCall n f tl) Γ d := fun k kx z => h _ _ ⟨hn, hf k kx z⟩
theorem ev_op {f : F2} (h : Ev ta Γ x) (g : Ev tb Γ y) (hf : ∀ k : KD, k d → f x y k) : Ev (tpOp f ta tb) Γ d := fun k kx z => h _ _ (g _ _ (hf k z))
theorem ev_1 {f : F1} (h : Ev t Γ x) (hf : ∀ k : KD, k d → f x k) : Ev (tp1 f t) Γ d := fun k kx z => h _ _ (hf k z)
theorem ev_addS {a b : List Nat} (h : Ev ta Γ (.str a)) (g : Ev tb Γ (.str b)) (hl : a.length + b.length ≤ sizeLine) : Ev (tpOp fAdd ta tb) Γ (.str (a ++ b)) := ev_op h g fun k z => ⟨hl, z⟩
theorem ev_addL {a b : List D} (h : Ev ta Γ (.lst a)) (g : Ev tb Γ (.lst b)) (hl : a.length + b.length ≤ sizeLine) : Ev (tpOp fAdd ta tb) Γ (.lst (a ++ b)) := ev_op h g fun k z => ⟨hl, z⟩
theorem ev_addI {a b : Int} (h : Ev ta Γ (.int a)) (g : Ev tb Γ (.int b)) : Ev (tpOp fAdd ta tb) Γ (.int (a + b)) := ev_op h g fun k z => z
theorem ev_subI {a b : Int} (h : Ev ta Γ (.int a)) (g : Ev tb Γ (.int b)) : Ev (tpOp fSub ta tb) Γ (.int (a - b)) := ev_op h g fun k z => z
theorem ev_mulS {a : List Nat} {m : Nat} (h : Ev ta Γ (.str a)) (g : Ev tb Γ (.int (m : Nat))) (h1 : m < 1000) (h2 : a.length ≤ 100000) (h3 : a.length * m ≤ 100000) : Ev (tpOp fMulS ta tb) Γ (.str (List.replicate m a).flatten) := ev_op h g fun k z => ⟨m, rfl, h1, h2, h3, z⟩
theorem ev_ixL {l : List D} {z : Int} (h : Ev ta Γ (.lst l)) (g : Ev tb Γ (.int z)) (e : atI l z = some d) : Ev (tpOp fIx ta tb) Γ d := ev_op h g fun k w => by
  show (match atI l z with | some d => k d | none => False)
  rw [e]
  exact w
theorem ev_ixT {l : List D} {z : Int} (h : Ev ta Γ (.tup l)) (g : Ev tb Γ (.int z)) (e : atI l z = some d) : Ev (tpOp fIx ta tb) Γ d := ev_op h g fun k w => by
  show (match atI l z with | some d => k d | none => False)
  rw [e]
  exact w
theorem ev_ixS {l : List Nat} {z : Int} {q : Nat} (h : Ev ta Γ (.str l)) (g : Ev tb Γ (.int z)) (hl : l.length ≤ sizeLine) (e : atI l z = some q) : Ev (tpOp fIx ta tb) Γ (.str [q]) := ev_op h g fun k w => by
  refine ⟨hl, ?_⟩
  show (match atI l z with | some c => k (.str [c]) | none => False)
  rw [e]
  exact w
theorem ev_lenS {l : List Nat} (h : Ev t Γ (.str l)) (hl : l.length ≤ sizeLine) : Ev (tp1 fLenS t) Γ (.int (l.length : Nat)) := ev_1 h fun k z => ⟨hl, z⟩
theorem ev_lenL {l : List D} (h : Ev t Γ (.lst l)) : Ev (tp1 fLenS t) Γ (.int (l.length : Nat)) := ev_1 h fun k z => z
theorem ev_lenT {l : List D} (h : Ev t Γ (.tup l)) : Ev (tp1 fLenS t) Γ (.int (l.length : Nat)) := ev_1 h fun k z => z
theorem ev_eqS {a b : List Nat} (h : Ev ta Γ (.str a)) (g : Ev tb Γ (.str b)) (pa : D.plain (.str a) = true) (pb : D.plain (.str b) = true) : Ev (tpOp fEq ta tb) Γ (.bl (decide (a = b))) := ev_op h g fun k z => ⟨⟨pa, pb, Nat.zero_le _, Nat.zero_le _⟩, by rw [eqD_str]; exact z⟩
theorem ev_neS {a b : List Nat} (h : Ev ta Γ (.str a)) (g : Ev tb Γ (.str b)) (pa : D.plain (.str a) = true) (pb : D.plain (.str b) = true) : Ev (tpOp fNe ta tb) Γ (.bl (!decide (a = b))) := ev_op h g fun k z => ⟨⟨pa, pb, Nat.zero_le _, Nat.zero_le _⟩, by rw [eqD_str]; exact z⟩
theorem ev_eqI {a b : Int} (h : Ev ta Γ (.int a)) (g : Ev tb Γ (.int b)) : Ev (tpOp fEq ta tb) Γ (.bl (decide (a = b))) := ev_op h g fun k z => ⟨⟨rfl, rfl, Nat.zero_le _, Nat.zero_le _⟩, by
  have e : eqD (.int a) (.int b) = decide (a = b) := by
    by_cases q : a = b
    · rw [q, decide_eq_true rfl]
      exact beq_iff_eq.mpr rfl
    · rw [decide_eq_false q]
      exact beq_eq_false_iff_ne.mpr q
  rw [e]
  exact z⟩
theorem ev_eqIT {a b : Int} (h : Ev ta Γ (.int a)) (g : Ev tb Γ (.int b)) (e : a = b) : Ev (tpOp fEq ta tb) Γ (.bl true) := by
  have := ev_eqI h g
  rwa [decide_eq_true e] at this
theorem ev_eqIF {a b : Int} (h : Ev ta Γ (.int a)) (g : Ev tb Γ (.int b)) (e : a ≠ b) : Ev (tpOp fEq ta tb) Γ (.bl false) := by
  have := ev_eqI h g
  rwa [decide_eq_false e] at this
theorem ev_eqST {a b : List Nat} (h : Ev ta Γ (.str a)) (g : Ev tb Γ (.str b)) (pa : D.plain (.str a) = true) (pb : D.plain (.str b) = true) (e : a = b) : Ev (tpOp fEq ta tb) Γ (.bl true) := by
  have := ev_eqS h g pa pb
  rwa [decide_eq_true e] at this
theorem ev_eqSF {a b : List Nat} (h : Ev ta Γ (.str a)) (g : Ev tb Γ (.str b)) (pa : D.plain (.str a) = true) (pb : D.plain (.str b) = true) (e : a ≠ b) : Ev (tpOp fEq ta tb) Γ (.bl false) := by
  have := ev_eqS h g pa pb
  rwa [decide_eq_false e] at this
theorem ev_sl {l : List Nat} {lo hi : Option Int} {tlo thi : TO'} (h : Ev t Γ (.str l)) (hlo : ∀ (k : Option Int → Prop) kx, k lo → tlo Γ k kx) (hhi : ∀ (k : Option Int → Prop) kx, k hi → thi Γ k kx) (hl : l.length ≤ sizeLine) : Ev (tpSl t tlo thi) Γ (.str (cutL l lo hi)) := fun k kx z => h _ _ (hlo _ _ (hhi _ _ ⟨hl, z⟩))
theorem ev_ifT (h : EvB cb Γ true) (g : Ev ta Γ d) : Ev (tpIf cb ta tb) Γ d := fun k kx z => h _ _ (g k kx z)
theorem ev_ifF (h : EvB cb Γ false) (g : Ev tb Γ d) : Ev (tpIf cb ta tb) Γ d := fun k kx z => h _ _ (show (if false = true then ta Γ k kx else tb Γ k kx) from g k kx z)
theorem evb_v (h : Ev t Γ (.bl b)) : EvB (tbV t) Γ b := fun k kx z => h _ _ z
theorem evb_not (h : EvB cb Γ b) : EvB (tbNot cb) Γ (!b) := fun k kx z => h _ _ z
theorem evb_andF (h : EvB cb Γ false) : EvB (tbAnd cb cc) Γ false := fun k kx z => h _ _ (show (if false = true then cc Γ k kx else k false) from z)
theorem evb_andT (h : EvB cb Γ true) (g : EvB cc Γ b) : EvB (tbAnd cb cc) Γ b := fun k kx z => h _ _ (g k kx z)
theorem evb_orT (h : EvB cb Γ true) : EvB (tbOr cb cc) Γ true := fun k kx z => h _ _ z
theorem evb_orF (h : EvB cb Γ false) (g : EvB cc Γ b) : EvB (tbOr cb cc) Γ b := fun k kx z => h _ _ (show (if false = true then k true else cc Γ k kx) from g k kx z)
theorem evl_tiLst (h : Ev t Γ (.lst ds)) : EvL (tiLst t) Γ ds := fun k kx z => h _ _ z
theorem evl_tiTup (h : Ev t Γ (.tup ds)) : EvL (tiTup t) Γ ds := fun k kx z => h _ _ z
theorem evl_tiStr {l : List Nat} (h : Ev t Γ (.str l)) : EvL (tiStr t) Γ (l.map fun c => .str [c]) := fun k kx z => h _ _ z
theorem evl_rng1 {z : Nat} (h : Ev t Γ (.int (z : Nat))) (hz : z < 2 ^ 62) : EvL (tiRng1 (tlCons t tlNil)) Γ ((List.range z).map fun i => .int (i : Nat)) := fun k kx w => h _ _ ⟨⟨by omega, by omega⟩, by
  rw [show ((z : Nat) : Int).toNat = z by omega]
  exact w⟩
theorem st_set (h : Ev t Γ d) (g : u P (gset Γ i (.pu d))) : tsSeq (tsSet i t) u P Γ := h _ _ g
theorem st_set1 (h : Ev t Γ d) (g : P.nx (gset Γ i (.pu d))) : tsSet i t P Γ := h _ _ g
theorem st_ifT (h : EvB cb Γ true) (g : s { P with nx := u P } Γ) : tsSeq (tsIf cb s r) u P Γ := h _ _ g
theorem st_ifF (h : EvB cb Γ false) (g : r { P with nx := u P } Γ) : tsSeq (tsIf cb s r) u P Γ := h _ _ (show (if false = true then s { P with nx := u P } Γ else r { P with nx := u P } Γ) from g)
theorem st_ifN (h : EvB cb Γ false) (g : u P Γ) : tsSeq (tsIf cb s tsNext) u P Γ := st_ifF h g
theorem st_if1T (h : EvB cb Γ true) (g : s P Γ) : tsIf cb s r P Γ := h _ _ g
theorem st_if1F (h : EvB cb Γ false) (g : r P Γ) : tsIf cb s r P Γ := h _ _ (show (if false = true then s P Γ else r P Γ) from g)
theorem st_ret (h : Ev t Γ d) (g : P.rt d Γ) : tsRet t P Γ := h _ _ g
theorem st_own (h : Ev t Γ d) (g : u P (gset Γ i (.ow d))) : tsSeq (tsOwn i t) u P Γ := h _ _ g
theorem st_for {ti : TL} {tg : TGp} (h : EvL ti Γ ds) (g : forW tg s { P with nx := u P } ds Γ) : tsSeq (tsFor ti tg s) u P Γ := h _ _ g
theorem st_for1 {ti : TL} {tg : TGp} (h : EvL ti Γ ds) (g : forW tg s P ds Γ) : tsFor ti tg s P Γ := h _ _ g
theorem for_cons (h : s { P with nx := forW (tgName i) s P ds, ct := forW (tgName i) s P ds, bk := P.nx } (gset Γ i (.pu d))) : forW (tgName i) s P (d :: ds) Γ := h
theorem ev_fld {C : Addr} {fs : List (PySem.Str × D)} {cs : List Addr} {f : PySem.Str} (h : Ev t Γ (.ins C fs)) (hm : C ∈ cs) (e : fs.lookup f = some d) : Ev (tpFld cs f t) Γ d := fun k kx z => h _ _ (by
  show C ∈ cs ∧ match fs.lookup f with | some v => k v | none => False
  refine ⟨hm, ?_⟩
  rw [e]
  exact z)
end
end PL
set_option Elab.async false
set_option linter.all false
set_option maxRecDepth 100000
set_option maxHeartbeats 4000000
namespace PL
open PySem L2
section
variable {ds : List D} {kd : KD} {kx : KX} {C CF CC : Addr} {ss : List (List Nat)} {ps : Prs} {K : Ks} {m : KindM} {Γ : Ga} {tl : TL} {d : D} {i n : Nat} {nm : PySem.Str}
local instance : Tabl := ⟨[], fun p hp => absurd hp (by simp)⟩
end
end PL
set_option Elab.async false
set_option linter.all false
set_option maxRecDepth 100000
set_option maxHeartbeats 4000000
namespace PL
open PySem L2
end PL
set_option Elab.async false
set_option linter.all false
set_option maxRecDepth 100000
set_option maxHeartbeats 4000000
namespace PL
open PySem L2
section
variable {ds : List D} {kd : KD} {kx : KX} {C CF CC : Addr} {ss : List (List Nat)} {ps : Prs} {K : Ks} {Γ : Ga} {t : TP}
local instance : Tabl := ⟨[], fun p hp => absurd hp (by simp)⟩
end
end PL
set_option Elab.async false
set_option linter.all false
set_option maxRecDepth 100000
set_option maxHeartbeats 4000000
namespace PL
open PySem L2
section
variable {Γ : Ga} {t ta tb : TP} {tl tk : TL} {ds es : List D} {n m l : Nat} {C C' : Addr} {fs : List (PySem.Str × D)} {g : FSo} {is : List Nat} {cb cc : TB} {b c : Bool}
local instance : Tabl := ⟨[], fun p hp => absurd hp (by simp)⟩
end
end PL
set_option Elab.async false
set_option linter.all false
set_option maxRecDepth 100000
set_option maxHeartbeats 4000000
namespace PL
def Sq (x : List Nat) : Prop := ∃ p u q, u ≠ [] ∧ x = p ++ (u ++ (u ++ q))
def Md (x : List Nat) : Prop := ∃ p u m w q, m ≠ [] ∧ x = p ++ (u ++ (m ++ (w ++ q))) ∧ (∀ c, c ∈ u ↔ c ∈ w) ∧ ∀ c ∈ m, c ∈ u
theorem Sq.sub {x : List Nat} (p q : List Nat) (h : Sq x) : Sq (p ++ (x ++ q)) := by
  obtain ⟨p', u, q', hu, e⟩ := h
  exact ⟨p ++ p', u, q' ++ q, hu, by rw [e]; simp⟩
theorem Md.sub {x : List Nat} (p q : List Nat) (h : Md x) : Md (p ++ (x ++ q)) := by
  obtain ⟨p', u, m, w, q', hm0, e, h1, h2⟩ := h
  exact ⟨p ++ p', u, m, w, q' ++ q, hm0, by rw [e]; simp, h1, h2⟩
end PL
set_option Elab.async false
set_option linter.all false
set_option maxRecDepth 100000
set_option maxHeartbeats 4000000
namespace PL
open PySem L2
end PL
set_option Elab.async false
set_option linter.all false
set_option maxRecDepth 100000
set_option maxHeartbeats 4000000
namespace PL
open PySem L2
section
variable {ds : List D} {kd : KD} {kx : KX} {Γ : Ga} {ta tb : TP}
local instance : Tabl := ⟨[], fun p hp => absurd hp (by simp)⟩
def natsD (a n : Nat) : List D := (List.range' a n).map fun i => D.int (i : Nat)
theorem evl_rg2 {a b : Nat} (h : Ev ta Γ (.int (a : Nat))) (g : Ev tb Γ (.int (b : Nat))) (ha : a < 2 ^ 61) (hb : b < 2 ^ 61) : EvL (tiRng2 (tlCons ta (tlCons tb tlNil))) Γ (natsD a (b - a)) := fun k kx z => h _ _ (g _ _ ⟨⟨by omega, by omega, by omega, by omega⟩, by
  have : ((List.range (((b : Nat) : Int) - ((a : Nat) : Int)).toNat).map fun i => D.int (((a : Nat) : Int) + ((i : Nat) : Int))) = natsD a (b - a) := by
    unfold natsD
    rw [show (((b : Nat) : Int) - ((a : Nat) : Int)).toNat = b - a by omega, List.range'_eq_map_range, List.map_map]
    exact List.map_congr_left fun i _ => by
      show D.int _ = D.int _
      congr 1
  rw [this]
  exact z⟩)
theorem evl_rg1 {b : Nat} (h : Ev ta Γ (.int (b : Nat))) (hb : b < 2 ^ 61) : EvL (tiRng1 (tlCons ta tlNil)) Γ (natsD 0 b) := fun k kx z => evl_rng1 h (by omega) k kx (by
  have : ((List.range b).map fun i => D.int (i : Nat)) = natsD 0 b := by
    unfold natsD
    rw [List.range_eq_range']
  rw [this]
  exact z)
theorem ev_slT {x : List Nat} {a : Nat} {ia : Int} (h : Ev ta Γ (.str x)) {t1 : TP} (h1 : Ev t1 Γ (.int ia)) (ea : ia = (a : Nat)) (hz : x.length ≤ sizeLine) : Ev (tpSl ta toNo (toSome t1)) Γ (.str (x.take a)) := by
  rw [← cut_take]
  exact ev_sl h (fun k kx z => z) (fun k kx z => h1 _ _ (ea ▸ z)) hz
theorem ev_slD {x : List Nat} {a : Nat} {ia : Int} (h : Ev ta Γ (.str x)) {t1 : TP} (h1 : Ev t1 Γ (.int ia)) (ea : ia = (a : Nat)) (hz : x.length ≤ sizeLine) : Ev (tpSl ta (toSome t1) toNo) Γ (.str (x.drop a)) := by
  rw [← cut_drop]
  exact ev_sl h (fun k kx z => h1 _ _ (ea ▸ z)) (fun k kx z => z) hz
end
end PL
set_option Elab.async false
set_option linter.all false
set_option maxRecDepth 100000
set_option maxHeartbeats 4000000
namespace PL
open PySem L2
section
variable {ds : List D} {kd : KD} {kx : KX} {ss : List (List Nat)} {ps : Prs} {v : List Nat} {Γ : Ga} {ta tb : TP}
local instance : Tabl := ⟨[], fun p hp => absurd hp (by simp)⟩
theorem ev_all {bs : List Bool} {t : TP} (h : Ev t Γ (.lst (bs.map .bl))) : Ev (tp1 fAll t) Γ (.bl (bs.all id)) := ev_1 h fun k z => by
  show onBs (bs.map D.bl) _
  rw [onBs_map]
  exact z
abbrev hG (ss : List (List Nat)) (ps : Prs) (v : List Nat) (W : List Blk) (fo : List D) (s4 s5 s6 s7 s8 s9 : Sl) : Ga := [.pu (modD (.free ss ps)), .pu (.str v), .ow (.lst (W.map blkD)), .ow (.lst fo), s4, s5, s6, s7, s8, s9]
end
end PL
set_option Elab.async false
set_option linter.all false
set_option maxRecDepth 100000
set_option maxHeartbeats 4000000
namespace PL
open PySem L2
section
variable {ds : List D} {kd : KD} {kx : KX} {Γ : Ga} {t : TP} {tl : TL} {es : List D} {d : D} {l i n : Nat} {nm : PySem.Str} {K : Ks} {CC : Addr} {m : KindM}
local instance : Tabl := ⟨[], fun p hp => absurd hp (by simp)⟩
theorem flat_signs : ∀ l : List Nat, (l.map fun c => [c]).flatten = l
  | [] => rfl
  | c :: l => by rw [List.map_cons, List.flatten_cons, flat_signs l]; rfl
end
end PL
set_option Elab.async false
set_option linter.all false
set_option maxRecDepth 100000
set_option maxHeartbeats 4000000
namespace PL
open PySem L2 PyProof.Rows
end PL
set_option Elab.async false
set_option linter.all false
set_option maxRecDepth 100000
set_option maxHeartbeats 4000000
namespace PL
open PySem L2
end PL
set_option Elab.async false
set_option linter.all false
set_option maxRecDepth 100000
set_option maxHeartbeats 4000000
namespace PL
open PySem L2
section
variable {ds : List D} {kd : KD} {kx : KX} {C CF CC CX : Addr} {ss : List (List Nat)} {ps : Prs} {Γ : Ga} {t ta tb : TP} {tl : TL} {d x y : D} {n : Nat}
local instance : Tabl := ⟨[], fun p hp => absurd hp (by simp)⟩
theorem ev_and {b c : Bool} (h : Ev ta Γ (.bl b)) (g : b = true → Ev tb Γ (.bl c)) (e : b = false → c = false) : Ev (tpAnd ta tb) Γ (.bl c) := fun k kx z => h _ _ (by
  cases b
  · rw [e rfl] at z
    exact z
  · exact g rfl _ _ z)
end
end PL
set_option Elab.async false
set_option linter.all false
set_option maxRecDepth 100000
set_option maxHeartbeats 4000000
set_option Elab.async false
set_option linter.all false
set_option maxRecDepth 100000
set_option maxHeartbeats 4000000
namespace PL
open PySem L2
abbrev REP : List Nat := [114, 101, 112, 101, 97, 116]
abbrev MID : List Nat := [109, 105, 100, 100, 108, 101]
abbrev AGN : List Nat := [97, 103, 97, 105, 110]
abbrev LAT : List Nat := [108, 97, 116, 101, 114]
abbrev nD (n : Nat) : D := .int (n : Nat)
section
variable {ds : List D} {kd : KD} {kx : KX} {C CF CC CX : Addr} {ss : List (List Nat)} {ps : Prs} {Γ : Ga} {t ta tb : TP} {tl : TL} {d x y : D} {n : Nat}
local instance : Tabl := ⟨[], fun p hp => absurd hp (by simp)⟩
/-- a step that cuts, and the log behind it -/
inductive Way : KindM → List Nat → D → List Nat → Prop
  | rep {ss : List (List Nat)} {ps : Prs} {p u q : List Nat} {s : Nat} : u ≠ [] → (∀ c ∈ u, ownF ss c = s) → Way (.free ss ps) (p ++ (u ++ (u ++ q))) (.tup [.str REP, nD p.length, nD u.length]) (p ++ (u ++ q))
  | mid {ss : List (List Nat)} {ps : Prs} {p u m w q : List Nat} {s : Nat} : u ≠ [] → m ≠ [] → w ≠ [] → (∀ c, c ∈ u ↔ c ∈ w) → (∀ c ∈ m, c ∈ u) → (∀ c ∈ u, ownF ss c = s) →
      Way (.free ss ps) (p ++ (u ++ (m ++ (w ++ q)))) (.tup [.str MID, nD p.length, nD u.length, nD m.length, nD w.length]) (p ++ (u ++ (w ++ q)))
  | agn {s p q : List Nat} {c : Nat} : c ∈ p → Way (.first s) (p ++ (c :: q)) (.tup [.str AGN, nD p.length]) (p ++ q)
  | lat {s p q : List Nat} {c : Nat} : c ∈ q → Way (.last s) (p ++ (c :: q)) (.tup [.str LAT, nD p.length]) (p ++ q)
theorem Way.tup {m : KindM} {v w : List Nat} {st : D} (h : Way m v st w) : ∃ a b r, st = .tup (a :: b :: r) := by
  cases h <;> exact ⟨_, _, _, rfl⟩
end
end PL
set_option Elab.async false
set_option linter.all false
set_option maxRecDepth 100000
set_option maxHeartbeats 4000000
namespace PL
open PySem L2
section
variable {ds : List D} {kd : KD} {kx : KX} {Γ : Ga} {t ta tb : TP} {d x y : D} {n : Nat}
local instance : Tabl := ⟨[], fun p hp => absurd hp (by simp)⟩
end
end PL
set_option Elab.async false
set_option linter.all false
set_option maxRecDepth 100000
set_option maxHeartbeats 4000000
namespace PL
open PySem L2
section
variable {ds : List D} {kd : KD} {kx : KX} {Γ : Ga} {t ta tb : TP} {d x y : D} {n : Nat}
local instance : Tabl := ⟨[], fun p hp => absurd hp (by simp)⟩
end
end PL
set_option Elab.async false
set_option linter.all false
set_option maxRecDepth 100000
set_option maxHeartbeats 4000000
namespace PL
open PySem L2
end PL
set_option Elab.async false
set_option linter.all false
set_option maxRecDepth 100000
set_option maxHeartbeats 4000000
namespace PL
open PySem L2
end PL
set_option Elab.async false
set_option linter.all false
set_option maxRecDepth 100000
set_option maxHeartbeats 4000000
namespace PL
open PySem L2
def one (ss : List (List Nat)) (u : List Nat) : Bool := decide (∀ d ∈ u, ∀ e ∈ u, ownF ss d = ownF ss e)
section
variable {ds : List D} {kd : KD} {kx : KX} {C CF CC CX : Addr} {ss : List (List Nat)} {ps : Prs} {Γ : Ga} {t ta tb tc : TP} {tl : TL} {d x y : D} {n : Nat} {cb : TB} {P : PEn} {u s r : TSp} {b : Bool}
local instance : Tabl := ⟨[], fun p hp => absurd hp (by simp)⟩
theorem st_ifB (h : EvB cb Γ b) (ht : b = true → s { P with nx := u P } Γ) (hf : b = false → r { P with nx := u P } Γ) : tsSeq (tsIf cb s r) u P Γ := by
  cases b
  · exact st_ifF h (hf rfl)
  · exact st_ifT h (ht rfl)
theorem st_if1B (h : EvB cb Γ b) (ht : b = true → s P Γ) (hf : b = false → r P Γ) : tsIf cb s r P Γ := by
  cases b
  · exact st_if1F h (hf rfl)
  · exact st_if1T h (ht rfl)
theorem st_ifNB (h : EvB cb Γ b) (ht : b = true → s { P with nx := u P } Γ) (hf : b = false → u P Γ) : tsSeq (tsIf cb s tsNext) u P Γ := st_ifB h ht hf
theorem ev_ifB {e : D} (h : EvB cb Γ b) (ht : b = true → Ev ta Γ d) (hf : b = false → Ev tb Γ e) : Ev (tpIf cb ta tb) Γ (if b = true then d else e) := by
  cases b
  · exact ev_ifF h (hf rfl)
  · exact ev_ifT h (ht rfl)
theorem ev_gtI {a b : Int} (h : Ev ta Γ (.int a)) (g : Ev tb Γ (.int b)) : Ev (tpOp fGt ta tb) Γ (.bl (decide (b < a))) := ev_op h g fun k z => z
theorem ev_ltI {a b : Int} (h : Ev ta Γ (.int a)) (g : Ev tb Γ (.int b)) : Ev (tpOp fLt ta tb) Γ (.bl (decide (a < b))) := ev_op h g fun k z => z
theorem ev_inS {c : Nat} {l : List Nat} (h : Ev ta Γ (.str [c])) (g : Ev tb Γ (.str l)) : Ev (tpOp fInS ta tb) Γ (.bl (decide (c ∈ l))) := ev_op h g fun k z => z
theorem ev_neNil' {l : List D} (h : Ev ta Γ (.lst l)) (hp : D.plainL l = true) (hd : D.depL l ≤ 60) : Ev (tpOp fNe ta (tpLst tlNil)) Γ (.bl (!decide (l = []))) := ev_op h (ev_lst evl_nil (Nat.zero_le _)) fun k z => ⟨⟨hp, rfl, by show D.depL l + 1 ≤ 64; omega, by decide⟩, by
  cases l with
  | nil => exact z
  | cons a l => exact z⟩
end
end PL
set_option Elab.async false
set_option linter.all false
set_option maxRecDepth 100000
set_option maxHeartbeats 4000000
namespace PL
open PySem L2
section
variable {ds : List D} {kd : KD} {kx : KX} {C CF CC CX : Addr} {ss : List (List Nat)} {ps : Prs} {Γ : Ga} {t ta tb tc : TP} {tl : TL} {d x y : D} {n : Nat} {cb : TB} {P : PEn} {u s r : TSp} {b : Bool} {K : Ks}
local instance : Tabl := ⟨[], fun p hp => absurd hp (by simp)⟩
end
end PL
set_option Elab.async false
set_option linter.all false
set_option maxRecDepth 100000
set_option maxHeartbeats 4000000
namespace PL
open PySem L2
section
variable {ds : List D} {kd : KD} {kx : KX} {C CF CC CX : Addr} {ss : List (List Nat)} {ps : Prs} {Γ : Ga} {t ta tb tc : TP} {tl : TL} {d x y : D} {n : Nat} {cb : TB} {P : PEn} {u s r : TSp} {b : Bool} {K : Ks}
local instance : Tabl := ⟨[], fun p hp => absurd hp (by simp)⟩
end
end PL
set_option Elab.async false
set_option linter.all false
set_option maxRecDepth 100000
set_option maxHeartbeats 4000000
namespace PL
open PySem L2
def EvN (t : TP) (Γ : Ga) (A : D → Prop) : Prop := ∀ (k : KD) (kx : KX), (∀ d, A d → k d) → t Γ k kx
def EvNL (t : TL) (Γ : Ga) (A : List D → Prop) : Prop := ∀ (k : List D → Prop) (kx : KX), (∀ d, A d → k d) → t Γ k kx
def EvNB (t : TB) (Γ : Ga) (A : Bool → Prop) : Prop := ∀ (k : Bool → Prop) (kx : KX), (∀ d, A d → k d) → t Γ k kx
section
local instance : Tabl := ⟨[], fun p hp => absurd hp (by simp)⟩
variable {Γ Γ' : Ga} {t ta tb : TP} {tl : TL} {d x y : D} {ds : List D} {i j n : Nat} {P : PEn} {u s r : TSp} {b c : Bool} {cb cc : TB} {A B C : D → Prop} {L M : List D → Prop}
theorem evn (h : Ev t Γ d) : EvN t Γ (· = d) := fun k kx z => h k kx (z d rfl)
theorem evn_imp (h : EvN t Γ A) (g : ∀ d, A d → B d) : EvN t Γ B := fun k kx z => h k kx fun d q => z d (g d q)
theorem evnl (h : EvL tl Γ ds) : EvNL tl Γ (· = ds) := fun k kx z => h k kx (z ds rfl)
theorem evnl_nil : EvNL tlNil Γ (· = []) := fun k kx z => z [] rfl
theorem evnl_cons (h : EvN t Γ A) (g : EvNL tl Γ L) : EvNL (tlCons t tl) Γ (fun l => ∃ d ds, A d ∧ L ds ∧ l = d :: ds) := fun k kx z => h _ _ fun d hd => g _ _ fun ds hs => z _ ⟨d, ds, hd, hs, rfl⟩
theorem evn_lst (h : EvNL tl Γ L) (hl : ∀ ds, L ds → ds.length ≤ 100000) : EvN (tpLst tl) Γ (fun d => ∃ ds, L ds ∧ d = .lst ds) := fun k kx z => h _ _ fun ds hs => ⟨hl ds hs, z _ ⟨ds, hs, rfl⟩⟩
theorem evn_tup (h : EvNL tl Γ L) (hl : ∀ ds, L ds → ds.length ≤ 100000) : EvN (tpTup tl) Γ (fun d => ∃ ds, L ds ∧ d = .tup ds) := fun k kx z => h _ _ fun ds hs => ⟨hl ds hs, z _ ⟨ds, hs, rfl⟩⟩
theorem evn_call {f : FS} (h : EvNL tl Γ L) (hf : ∀ ds, L ds → ds.length = n ∧ ∀ (k : KD) (kx : KX), (∀ d, A d → k d) → f ds k kx) : EvN (tpCall n f tl) Γ A := fun k kx z => h _ _ fun ds hs => ⟨(hf ds hs).1, (hf ds hs).2 k kx z⟩
theorem evn_op {f : F2} (h : EvN ta Γ A) (g : EvN tb Γ B) (hf : ∀ x y, A x → B y → ∀ k : KD, (∀ d, C d → k d) → f x y k) : EvN (tpOp f ta tb) Γ C := fun k kx z => h _ _ fun x hx => g _ _ fun y hy => hf x y hx hy k z
theorem evn_ifT (h : EvB cb Γ true) (g : EvN ta Γ A) : EvN (tpIf cb ta tb) Γ A := fun k kx z => h _ _ (g k kx z)
theorem evn_ifF (h : EvB cb Γ false) (g : EvN tb Γ A) : EvN (tpIf cb ta tb) Γ A := fun k kx z => h _ _ (show (if false = true then ta Γ k kx else tb Γ k kx) from g k kx z)
theorem st_setN (h : EvN t Γ A) (g : ∀ d, A d → u P (gset Γ i (.pu d))) : tsSeq (tsSet i t) u P Γ := h _ _ g
theorem st_retN (h : EvN t Γ A) (g : ∀ d, A d → P.rt d Γ) : tsRet t P Γ := h _ _ g
theorem st_set1N (h : EvN t Γ A) (g : ∀ d, A d → P.nx (gset Γ i (.pu d))) : tsSet i t P Γ := h _ _ g
theorem evn_pull {m : Int} (h : Ev tb Γ .bag) (g : Ev t Γ (.int m)) (m1 : 1 ≤ m) (m2 : m < 1073741824) : EvN (tpCall 2 fsPull (tlCons tb (tlCons t tlNil))) Γ (fun d => ∃ r : Int, 0 ≤ r ∧ r < m ∧ d = .int r) := evn_call (evnl (evl_2 h g)) fun ds e => by
  subst e
  exact ⟨rfl, fun k kx z => ⟨⟨m1, m2⟩, fun r r1 r2 => z _ ⟨r, r1, r2, rfl⟩⟩⟩
theorem evn_pick {l : List D} (h : Ev tb Γ .bag) (g : Ev t Γ (.lst l)) (n0 : l ≠ []) (nz : l.length ≤ 100000) : EvN (tpCall 2 fsPick (tlCons tb (tlCons t tlNil))) Γ (· ∈ l) := evn_call (evnl (evl_2 h g)) fun ds e => by
  subst e
  exact ⟨rfl, fun k kx z => ⟨⟨n0, nz⟩, z⟩⟩
theorem evn_pickN (h : Ev tb Γ .bag) (g : EvN t Γ A) (n0 : ∀ d, A d → ∃ l, d = .lst l ∧ l ≠ [] ∧ l.length ≤ 100000 ∧ ∀ x ∈ l, B x) : EvN (tpCall 2 fsPick (tlCons tb (tlCons t tlNil))) Γ B := evn_call (evnl_cons (evn h) (evnl_cons g evnl_nil)) fun ds e => by
  obtain ⟨_, _, rfl, ⟨d, _, hd, rfl, rfl⟩, rfl⟩ := e
  obtain ⟨l, rfl, l0, lz, hl⟩ := n0 d hd
  exact ⟨rfl, fun k kx z => ⟨⟨l0, lz⟩, fun x hx => z x (hl x hx)⟩⟩
theorem evn_pickS {l : List Nat} (h : Ev tb Γ .bag) (g : Ev t Γ (.str l)) (n0 : l ≠ []) (nz : l.length ≤ 100000) : EvN (tpCall 2 fsPick (tlCons tb (tlCons t tlNil))) Γ (fun d => ∃ c ∈ l, d = .str [c]) := evn_call (evnl (evl_2 h g)) fun ds e => by
  subst e
  exact ⟨rfl, fun k kx z => ⟨⟨n0, nz⟩, fun c hc => z _ ⟨c, hc, rfl⟩⟩⟩
theorem evn_lc {is : List Nat} {ti : TL} {te : TP} (h : EvNL ti Γ L) (hl : ∀ ds, L ds → ds.length ≤ 100000) (he : ∀ x, EvN te (gset (wipeG Γ is) i (.pu x)) B) : EvN (tpLc is ti (tgName i) tbYes te) Γ (fun d => ∃ items ys, L items ∧ ys.length = items.length ∧ (∀ y ∈ ys, B y) ∧ d = .lst ys) := fun k kx z => h _ _ fun ds hs => by
  refine ⟨hl ds hs, ?_⟩
  have go : ∀ (items : List D) {k : List D → Prop}, (∀ ys : List D, ys.length = items.length → (∀ y ∈ ys, B y) → k ys) → lcW (tgName i) tbYes te (wipeG Γ is) items k := by
    intro items
    induction items with
    | nil => exact fun h => h [] rfl fun _ z => nomatch z
    | cons x r ih =>
      intro k hx
      refine he x _ _ fun d hd => ih fun ys h1 h2 => hx (d :: ys) (by simp [h1]) fun y hy => ?_
      rcases List.mem_cons.mp hy with rfl | hy
      · exact hd
      · exact h2 y hy
  exact go ds fun ys h1 h2 => z _ ⟨ds, ys, hs, h1, h2, rfl⟩
end
end PL
set_option Elab.async false
set_option linter.all false
set_option maxRecDepth 100000
set_option maxHeartbeats 4000000
namespace PL
open PySem L2
section
variable {ds : List D} {kd : KD} {kx : KX} {C CF CC CX : Addr} {ss : List (List Nat)} {ps : Prs} {Γ : Ga} {t ta tb tc : TP} {tl : TL} {d x y : D} {n : Nat} {cb : TB} {P : PEn} {u s r : TSp} {b : Bool} {K : Ks}
local instance : Tabl := ⟨[], fun p hp => absurd hp (by simp)⟩
end
end PL
set_option Elab.async false
set_option linter.all false
set_option maxRecDepth 100000
set_option maxHeartbeats 4000000
namespace PL
open PySem L2
end PL
set_option Elab.async false
set_option linter.all false
set_option maxRecDepth 100000
set_option maxHeartbeats 4000000
namespace PL
open PySem L2
section
local instance : Tabl := ⟨[], fun p hp => absurd hp (by simp)⟩
variable {Γ : Ga} {t ta tb : TP} {tl : TL} {d : D} {ds : List D} {i n : Nat} {KK : PySem.W.Frag} {C0 C1 C2 C3 C4 C5 C6 C7 C8 C9 C10 C11 : Addr} {CX : Addr} {T : List Nat} {x : XD} {nm : PySem.Str}
end
end PL
set_option Elab.async false
set_option linter.all false
set_option maxRecDepth 100000
set_option maxHeartbeats 4000000
namespace PL
open PySem L2
end PL
set_option Elab.async false
set_option linter.all false
set_option maxRecDepth 100000
set_option maxHeartbeats 4000000
namespace PL
open PySem L2
section
variable {ds : List D} {kd : KD} {kx : KX} {Γ : Ga} {t ta tb : TP} {d x y : D} {n : Nat}
local instance : Tabl := ⟨[], fun p hp => absurd hp (by simp)⟩
variable {P : PEn} {s r : TSp}
end
end PL
set_option Elab.async false
set_option linter.all false
set_option maxRecDepth 100000
set_option maxHeartbeats 4000000
namespace PL
open PySem L2
section
variable {ds : List D} {kd : KD} {kx : KX} {C CF CC CX : Addr} {ss : List (List Nat)} {ps : Prs} {Γ : Ga} {t ta tb tc : TP} {tl : TL} {d x y : D} {n : Nat} {cb : TB} {P : PEn} {u s r : TSp} {b : Bool} {K : Ks}
local instance : Tabl := ⟨[], fun p hp => absurd hp (by simp)⟩
end
end PL
set_option Elab.async false
set_option linter.all false
set_option maxRecDepth 100000
set_option maxHeartbeats 4000000
namespace PL
open PySem L2
section
variable {Γ : Ga} {t ta tb : TP} {ts : List TP} {s : List Nat} {ss : List (List Nat)} {i : Int} {d : D} {cs : List (Addr × Bool)} {C : Addr} {fs : List (PySem.Str × D)} {b : Bool}
local instance : Tabl := ⟨[], fun p hp => absurd hp (by simp)⟩
theorem ev_fmtS (h : Ev t Γ (.str s)) (hz : s.length ≤ sizeLine) : Ev (tpFmt t) Γ (.str s) := fun k kx z => h _ _ ⟨hz, z⟩
theorem ev_fmtI (h : Ev t Γ (.int i)) (hz : i.natAbs.log2 < 1920) : Ev (tpFmt t) Γ (.str (intS i)) := fun k kx z => h _ _ ⟨hz, z⟩
inductive EvJ (Γ : Ga) : List TP → List (List Nat) → Prop where
  | nil : EvJ Γ [] []
  | cons {t : TP} {s : List Nat} {ts : List TP} {ss : List (List Nat)} (h : Ev t Γ (.str s)) (r : EvJ Γ ts ss) : EvJ Γ (t :: ts) (s :: ss)
theorem ev_js (h : EvJ Γ ts ss) : ∀ {acc : List Nat}, acc.length + ss.flatten.length ≤ sizeLine → Ev (tpJs ts acc) Γ (.str (acc ++ ss.flatten)) := by
  induction h with
  | nil => intro acc _ k kx z; rw [List.flatten_nil, List.append_nil] at z; exact z
  | @cons t s ts ss h r ih =>
    intro acc hz k kx z
    rw [List.flatten_cons, List.length_append] at hz
    refine h _ _ ⟨by omega, ?_⟩
    refine ih (acc := acc ++ s) (by rw [List.length_append]; omega) k kx ?_
    rw [List.flatten_cons, ← List.append_assoc] at z
    exact z
theorem ev_js0 (h : EvJ Γ ts ss) (hz : ss.flatten.length ≤ sizeLine) : Ev (tpJs ts []) Γ (.str ss.flatten) := by
  have := ev_js h (acc := []) (by simpa using hz)
  rwa [List.nil_append] at this
theorem ev_joinW {w : List Nat} {l : List (List Nat)} (h : Ev t Γ (.lst (l.map .str))) (hz : l.flatten.length + l.length * w.length ≤ 16777216) : Ev (tpJoin (tpC (.str w)) t) Γ (.str (TL.joinL w l)) := fun k kx z => h _ _ (by
  show onSs (l.map D.str) _
  rw [onSs_map]
  refine ⟨?_, z⟩
  show (l.map (·.length)).sum + l.length * w.length ≤ 16777216
  rw [← List.length_flatten]
  exact hz)
end
section
variable {ds : List D} {kd : KD} {kx : KX} {C CF CC CX CG : Addr} {ss : List (List Nat)} {ps : Prs} {Γ : Ga} {t ta tb tc : TP} {tl : TL} {d x y : D} {n : Nat} {cb : TB} {P : PEn} {u s r : TSp} {b : Bool} {K : Ks} {m : KindM}
local instance : Tabl := ⟨[], fun p hp => absurd hp (by simp)⟩
end
end PL
set_option Elab.async false
set_option linter.all false
set_option maxRecDepth 100000
set_option maxHeartbeats 4000000
namespace PL
open PySem L2
section
variable {ds : List D} {kd : KD} {kx : KX} {C CF CC CX CG : Addr} {ss : List (List Nat)} {ps : Prs} {Γ : Ga} {t ta tb tc tj : TP} {tl : TL} {d e x y : D} {n i : Nat} {cb : TB} {P : PEn} {s r : TSp} {b : Bool} {K : Ks} {m : KindM} {u v w : List Nat}
local instance : Tabl := ⟨[], fun p hp => absurd hp (by simp)⟩
end
end PL
set_option Elab.async false
set_option linter.all false
set_option maxRecDepth 100000
set_option maxHeartbeats 4000000
namespace PL
open PySem L2
section
variable {ds : List D} {kd : KD} {kx : KX} {Γ : Ga} {tl : TL} {i n : Nat} {ta tb : TP}
local instance : Tabl := ⟨[], fun p hp => absurd hp (by simp)⟩
theorem evl_N {n : Nat} {tl : TL} {Γ : Ga} {ds : List D} (h : EvL tl Γ ds) (hn : ds.length = n) : EvL (tlN n tl) Γ ds := fun k kx z => h _ _ ⟨hn, z⟩
theorem ev_callK {f : FS} {m : Nat} {is : List Nat} {tl tk : TL} {Γ : Ga} {ds es : List D} {d : D} (h : EvL tl Γ ds) (g : EvL tk Γ es) (hn : ds.length = m) (hf : ∀ k kx, k d → f (byIx is .non (ds ++ es)) k kx) : Ev (tpCallK m f is tl tk) Γ d := fun k kx z => h _ _ (g _ _ ⟨hn, hf k kx z⟩)
end
end PL
set_option Elab.async false
set_option linter.all false
set_option maxRecDepth 100000
set_option maxHeartbeats 4000000
namespace PL
open PySem L2
end PL
set_option Elab.async false
set_option linter.all false
set_option maxRecDepth 100000
set_option maxHeartbeats 4000000
namespace PL
open PySem L2
end PL
set_option Elab.async false
set_option linter.all false
set_option maxRecDepth 100000
set_option maxHeartbeats 4000000
namespace PL
open PySem L2
section
variable {ds : List D} {kd : KD} {kx : KX} {C CF CC : Addr}
local instance : Tabl := ⟨[], fun p hp => absurd hp (by simp)⟩
end
end PL
set_option Elab.async false
set_option linter.all false
set_option maxRecDepth 100000
set_option maxHeartbeats 4000000
namespace PL
open PySem L2
section
variable {ds : List D} {kd : KD} {kx : KX} {C CF CC : Addr}
local instance : Tabl := ⟨[], fun p hp => absurd hp (by simp)⟩
end
end PL
set_option Elab.async false
set_option linter.all false
set_option maxRecDepth 100000
set_option maxHeartbeats 4000000
namespace PL
open PySem L2
section
variable {ds : List D} {kd : KD} {kx : KX} {C CF CC : Addr}
local instance : Tabl := ⟨[], fun p hp => absurd hp (by simp)⟩
end
end PL
set_option Elab.async false
set_option linter.all false
set_option maxRecDepth 100000
set_option maxHeartbeats 4000000
namespace PL
open PySem L2
section
variable {ds : List D} {kd : KD} {kx : KX} {C CF CC : Addr}
local instance : Tabl := ⟨[], fun p hp => absurd hp (by simp)⟩
end
end PL
set_option Elab.async false
set_option linter.all false
set_option maxRecDepth 100000
set_option maxHeartbeats 4000000
namespace PL
open PySem L2
variable [Tabl]
theorem OwnAt.h0 {K : PySem.W.Frag} {H0 H1 G H : Hp} {p : Addr} {l : List D} (h : OwnAt K H0 G H p (.lst l)) : OwnAt K H1 G H p (.lst l) := h
end PL
set_option Elab.async false
set_option linter.all false
set_option maxRecDepth 100000
set_option maxHeartbeats 4000000
namespace PL
open PySem L2
section
variable {ds : List D} {kd : KD} {kx : KX} {Γ : Ga} {t : TP} {tl : TL} {i n : Nat} {d : D} {P : PEn} {u : TSp}
local instance : Tabl := ⟨[], fun p hp => absurd hp (by simp)⟩
variable {ss : List (List Nat)} {ps : Prs}
end
end PL
set_option Elab.async false
set_option linter.all false
set_option maxRecDepth 100000
set_option maxHeartbeats 4000000
namespace PL
open PySem L2
def rl (ss : List (List Nat)) (ps : Prs) (v : List Nat) : Nat := (runB (apP ps) (ownF ss) v []).length
/-- a log of a free kind -/
def lgF (ss : List (List Nat)) (ps : Prs) (v : List Nat) : Prop := (KindM.free ss ps).ok ∧ v.length ≤ 3000 ∧ ∀ c ∈ v, c ∈ ss.flatten
section
variable {ds : List D} {kd : KD} {kx : KX} {C CF CC CT : Addr} {ss : List (List Nat)} {ps : Prs} {os : List Nat}
local instance : Tabl := ⟨[], fun p hp => absurd hp (by simp)⟩
variable {Γ : Ga} {tl : TL}
theorem lgF.own {v : List Nat} (h : lgF ss ps v) : ∀ c ∈ v, c ∈ deeds ss.flatten := fun c hc => (dL_mem h.1.1.letr c).mpr (h.2.2 c hc)
end
end PL
set_option Elab.async false
set_option linter.all false
set_option maxRecDepth 100000
set_option maxHeartbeats 4000000
namespace PL
open PySem L2
/-- more than two hundred blocks -/
def bigL : KindM → List Nat → Prop
  | .free ss ps, v => v.length ≤ 3000 ∧ (∀ c ∈ v, c ∈ ss.flatten) ∧ 200 < rl ss ps v
  | _, _ => False
section
variable {ds : List D} {kd : KD} {kx : KX} {C CF CC CX CG CT CL CN CD : Addr} {ss : List (List Nat)} {ps : Prs} {Γ : Ga} {t ta tb tc tj : TP} {tl : TL} {d e y : D} {x : XD} {n i : Nat} {cb : TB} {P : PEn} {r : TSp} {b : Bool} {K : Ks} {m : KindM} {u v w : List Nat}
local instance : Tabl := ⟨[], fun p hp => absurd hp (by simp)⟩
theorem bigL.al {m : KindM} (hm : m.ok) (h : bigL m v) : v.length ≤ 3000 ∧ ∀ c ∈ v, c ∈ m.al := by
  cases m with
  | free ss ps => exact ⟨h.1, fun c hc => (dL_mem hm.1.letr c).mpr (h.2.1 c hc)⟩
  | _ => exact h.elim
end
end PL
set_option Elab.async false
set_option linter.all false
set_option maxRecDepth 100000
set_option maxHeartbeats 4000000
namespace PL
open PySem L2
section
variable {ds : List D} {kd : KD} {kx : KX} {C CF CC CX CG CT CL CN CD : Addr} {ss : List (List Nat)} {ps : Prs} {Γ : Ga} {t ta tb tc tj : TP} {tl : TL} {d e y w p : D} {zs : List D} {x : XD} {n i : Nat} {cb : TB} {P : PEn} {r : TSp} {b : Bool} {K : Ks} {m : KindM} {u v : List Nat}
local instance : Tabl := ⟨[], fun p hp => absurd hp (by simp)⟩
end
end PL
set_option Elab.async false
set_option linter.all false
set_option maxRecDepth 100000
set_option maxHeartbeats 4000000
namespace PL
open PySem L2
abbrev DDS : List Nat := [100, 101, 101, 100, 115]
abbrev tD (v : List Nat) : D := .tup [.str DDS, .str v]
section
variable {ds : List D} {kd : KD} {kx : KX} {CC CG : Addr} {Γ : Ga} {t ta tb : TP} {tl : TL} {d e : D} {n i : Nat} {P : PEn} {K : Ks} {m : KindM} {u v w : List Nat}
local instance : Tabl := ⟨[], fun p hp => absurd hp (by simp)⟩
theorem ev_t1 (h : Ev t Γ (tD v)) : Ev (tpOp fIx t (tpC (.int 1))) Γ (.str v) := ev_ixT h (ev_c (.int 1)) rfl
theorem ev_lcFil {is : List Nat} {ti : TL} {tt : TB} {te : TP} {α : Type} {items : List α} {pa : α → D} {p : α → Bool} {f : α → D} (h : EvL ti Γ (items.map pa)) (hl : items.length ≤ 100000) (ht : ∀ x ∈ items, EvB tt (gset (wipeG Γ is) i (.pu (pa x))) (p x)) (he : ∀ x ∈ items, Ev te (gset (wipeG Γ is) i (.pu (pa x))) (f x)) : Ev (tpLc is ti (tgName i) tt te) Γ (.lst ((items.filter p).map f)) := fun k kx z => h _ _ (by
  refine ⟨by rw [List.length_map]; exact hl, ?_⟩
  have go : ∀ (items : List α) {k : List D → Prop}, (∀ x ∈ items, EvB tt (gset (wipeG Γ is) i (.pu (pa x))) (p x)) → (∀ x ∈ items, Ev te (gset (wipeG Γ is) i (.pu (pa x))) (f x)) → k ((items.filter p).map f) → lcW (tgName i) tt te (wipeG Γ is) (items.map pa) k := fun items => by
    induction items with
    | nil => exact fun _ _ h => h
    | cons x r ih =>
      intro k hx hy h
      refine hx x List.mem_cons_self _ _ ?_
      have hx' := fun y hy => hx y (List.mem_cons_of_mem _ hy)
      have hy' := fun y h => hy y (List.mem_cons_of_mem _ h)
      by_cases q : p x = true
      · rw [if_pos q]
        rw [List.filter_cons_of_pos q] at h
        exact hy x List.mem_cons_self _ _ (ih hx' hy' h)
      · rw [if_neg q]
        rw [List.filter_cons_of_neg q] at h
        exact ih hx' hy' h
  exact go items ht he z)
theorem ev_not0 {b : Bool} (h : Ev t Γ (.bl b)) : Ev (tpNot t) Γ (.bl (!b)) := fun k kx z => h _ _ z
end
end PL
set_option Elab.async false
set_option linter.all false
set_option maxRecDepth 100000
set_option maxHeartbeats 4000000
namespace PL
open PySem L2
/-- trees -/
inductive Tr where
  | dd (v : List Nat)
  | nm (s : List Nat)
  | th (ps : List Tr)
  | ei (ps : List Tr)
  | ti (t : Tr) (n : Nat)
  | ag (t : Tr)
abbrev wNAM : List Nat := [110, 97, 109, 101]
abbrev wTHE : List Nat := [116, 104, 101, 110]
abbrev wEIT : List Nat := [101, 105, 116, 104, 101, 114]
abbrev wTIM : List Nat := [116, 105, 109, 101, 115]
abbrev wAGA : List Nat := [97, 103, 97, 105, 110]
def Tr.w : Tr → List Nat
  | .dd _ => DDS
  | .nm _ => wNAM
  | .th _ => wTHE
  | .ei _ => wEIT
  | .ti _ _ => wTIM
  | .ag _ => wAGA
mutual
def Tr.dat : Tr → D
  | .dd v => tD v
  | .nm s => .tup [.str wNAM, .str s]
  | .th ps => .tup (.str wTHE :: Tr.datL ps)
  | .ei ps => .tup (.str wEIT :: Tr.datL ps)
  | .ti t n => .tup [.str wTIM, Tr.dat t, .int (n : Nat)]
  | .ag t => .tup [.str wAGA, Tr.dat t]
def Tr.datL : List Tr → List D
  | [] => []
  | t :: r => Tr.dat t :: Tr.datL r
end
theorem datL_map : ∀ ps : List Tr, Tr.datL ps = ps.map Tr.dat
  | [] => rfl
  | t :: r => by
    rw [Tr.datL, datL_map r]
    rfl
def Tr.args : Tr → List D
  | .dd v => [.str v]
  | .nm s => [.str s]
  | .th ps => ps.map Tr.dat
  | .ei ps => ps.map Tr.dat
  | .ti t n => [t.dat, .int (n : Nat)]
  | .ag t => [t.dat]
theorem dat_eq (t : Tr) : t.dat = .tup (.str t.w :: t.args) := by
  cases t with
  | dd v => simp only [Tr.dat, Tr.w, Tr.args]
  | nm v => simp only [Tr.dat, Tr.w, Tr.args]
  | th ps => simp only [Tr.dat, Tr.w, Tr.args, datL_map]
  | ei ps => simp only [Tr.dat, Tr.w, Tr.args, datL_map]
  | ti t n => simp only [Tr.dat, Tr.w, Tr.args]
  | ag t => simp only [Tr.dat, Tr.w, Tr.args]
def Tr.kids : Tr → List Tr
  | .th ps => ps
  | .ei ps => ps
  | .ti t _ => [t]
  | .ag t => [t]
  | _ => []
abbrev Env := List (List Nat × Tr)
abbrev kS (s : List Nat) : Key := .inr (SS s)
def Env.dat (env : Env) : D := .dct (env.map fun q => (kS q.1, q.2.dat))
def Env.ok (env : Env) : Prop := env.length ≤ 1000 ∧ ∀ q ∈ env, D.plain (.str q.1) = true
def NsOk (env : Env) (ns : List (List Nat)) : Prop := ns.Nodup ∧ ∀ s ∈ ns, ∃ t, env.lookup s = some t
/-- t is walked with so many calls -/
def Rk (env : Env) : Nat → Tr → Prop
  | 0, _ => False
  | _ + 1, .dd _ => True
  | n + 1, .nm s => ∃ t, env.lookup s = some t ∧ Rk env n t
  | n + 1, .th ps => ps.length ≤ 1000 ∧ ∀ p ∈ ps, Rk env n p
  | n + 1, .ei ps => ps.length ≤ 1000 ∧ ∀ p ∈ ps, Rk env n p
  | n + 1, .ti t _ => Rk env n t
  | n + 1, .ag t => Rk env n t
theorem Rk.mono {env : Env} : ∀ {n m : Nat} {t : Tr}, Rk env n t → n ≤ m → Rk env m t
  | n + 1, 0, _, h, e => by omega
  | n + 1, m + 1, .dd _, h, e => trivial
  | n + 1, m + 1, .nm s, ⟨t, h1, h2⟩, e => ⟨t, h1, h2.mono (by omega)⟩
  | n + 1, m + 1, .th ps, ⟨h1, h2⟩, e => ⟨h1, fun p hp => (h2 p hp).mono (by omega)⟩
  | n + 1, m + 1, .ei ps, ⟨h1, h2⟩, e => ⟨h1, fun p hp => (h2 p hp).mono (by omega)⟩
  | n + 1, m + 1, .ti t _, h, e => Rk.mono (t := t) h (by omega)
  | n + 1, m + 1, .ag t, h, e => Rk.mono (t := t) h (by omega)
theorem Rk.kids {env : Env} {n : Nat} {t : Tr} (h : Rk env (n + 1) t) : t.kids.length ≤ 1000 ∧ ∀ p ∈ t.kids, Rk env n p := by
  cases t with
  | dd v => exact ⟨Nat.zero_le _, fun _ z => nomatch z⟩
  | nm v => exact ⟨Nat.zero_le _, fun _ z => nomatch z⟩
  | th ps => exact h
  | ei ps => exact h
  | ti t n => exact ⟨by show 1 ≤ 1000; decide, fun p hp => by
      have : p = t := by simpa [Tr.kids] using hp
      rw [this]
      exact h⟩
  | ag t => exact ⟨by show 1 ≤ 1000; decide, fun p hp => by
      have : p = t := by simpa [Tr.kids] using hp
      rw [this]
      exact h⟩
theorem env_in : ∀ {env : Env} {s : List Nat} {t : Tr}, env.lookup s = some t → (s, t) ∈ env
  | [], _, _, h => by cases h
  | (a, u) :: r, s, t, h => by
    rw [List.lookup_cons] at h
    by_cases e : s = a
    · subst e
      rw [show (s == s) = true from beq_self_eq_true s] at h
      cases h
      exact List.mem_cons_self
    · rw [show (s == a) = false from beq_eq_false_iff_ne.mpr e] at h
      exact List.mem_cons_of_mem _ (env_in h)
theorem nodup_leL {α : Type} [DecidableEq α] : ∀ (a b : List α), a.Nodup → (∀ c ∈ a, c ∈ b) → a.length ≤ b.length
  | [], _, _, _ => Nat.zero_le _
  | x :: a, b, h, hs => by
    have hx := hs x List.mem_cons_self
    have h' := List.nodup_cons.mp h
    have := nodup_leL a (b.erase x) h'.2 fun c hc => (List.mem_erase_of_ne (fun z => h'.1 (by rw [← z]; exact hc))).mpr (hs c (List.mem_cons_of_mem _ hc))
    rw [List.length_erase_of_mem hx] at this
    have : 0 < b.length := List.length_pos_of_mem hx
    simp only [List.length_cons]
    omega
theorem NsOk.len {env : Env} {ns : List (List Nat)} (h : NsOk env ns) (he : env.ok) : ns.length ≤ 1000 := by
  have := nodup_leL ns (env.map (·.1)) h.1 fun s hs => by
    obtain ⟨t, ht⟩ := h.2 s hs
    exact List.mem_map.mpr ⟨_, env_in ht, rfl⟩
  rw [List.length_map] at this
  exact Nat.le_trans this he.1
theorem NsOk.snoc {env : Env} {ns : List (List Nat)} (h : NsOk env ns) {s : List Nat} {t : Tr} (n : s ∉ ns) (e : env.lookup s = some t) : NsOk env (ns ++ [s]) := by
  refine ⟨?_, fun u hu => ?_⟩
  · rw [List.nodup_append]
    refine ⟨h.1, by simp, fun a ha b hb z => ?_⟩
    obtain rfl : b = s := by simpa using hb
    exact n (by rw [← z]; exact ha)
  · rcases List.mem_append.mp hu with hu | hu
    · exact h.2 u hu
    · obtain rfl : u = s := by simpa using hu
      exact ⟨t, e⟩
theorem NsOk.nil {env : Env} : NsOk env [] := ⟨List.nodup_nil, fun _ z => nomatch z⟩
def EvO (t : TX) (Γ : Ga) (R : D → D → Prop) : Prop := ∀ (k : D → D → Prop) (kx : KX), (∀ d c, R d c → k d c) → t Γ k kx
section
variable {ds : List D} {kd : KD} {ko : D → D → Prop} {kx : KX} {CC CG : Addr} {Γ : Ga} {t ta tb tc : TP} {tl : TL} {d e c c0 : D} {n i j : Nat} {P : PEn} {K : Ks} {m : KindM} {u v : List Nat} {tx ty : TX} {R S T : D → D → Prop} {s r : TSp} {cb : TB} {env : Env} {q : Tr} {b : Bool}
local instance : Tabl := ⟨[], fun p hp => absurd hp (by simp)⟩
theorem evl_here (hc : (gat Γ i).og = some c) (h : EvL tl Γ ds) : EvL (tloHere i tl) Γ (c :: ds) := fun k kx z => ⟨c, hc, h _ _ z⟩
theorem evo_call {fs : FSo} (h : EvL tl Γ ds) (hn : ds.length = n) (hf : ∀ (k : D → D → Prop) (kx : KX), (∀ d c, R d c → k d c) → fs ds k kx) (hb : ∀ d c, R d c → boxD c) : EvO (txCallO n fs tl) Γ R := fun k kx z => h _ _ ⟨hn, hf _ _ fun d c q => ⟨hb d c q, z d c q⟩⟩
theorem st_dropX (hc : (gat Γ i).og = some c0) (hb : boxD c0) (h : EvO tx Γ R) (g : ∀ d c, R d c → r P (oput Γ i c)) : tsSeq (tsDropX i tx) r P Γ := ⟨⟨c0, hc, hb⟩, h _ _ g⟩
theorem st_drop1X (hc : (gat Γ i).og = some c0) (hb : boxD c0) (h : EvO tx Γ R) (g : ∀ d c, R d c → P.nx (oput Γ i c)) : tsDropX i tx P Γ := ⟨⟨c0, hc, hb⟩, h _ _ g⟩
theorem at0 {x : D} {l : List D} : atI (x :: l) 0 = some x := at_nat (x :: l) 0 (Nat.succ_pos _)
theorem at1 {x y : D} {l : List D} : atI (x :: y :: l) 1 = some y := at_nat (x :: y :: l) 1 (by simp)
theorem at2 {x y w : D} {l : List D} : atI (x :: y :: w :: l) 2 = some w := at_nat (x :: y :: w :: l) 2 (by simp)
theorem ev_w (h : Ev t Γ q.dat) : Ev (tpOp fIx t (tpC (.int 0))) Γ (.str q.w) := by
  rw [dat_eq] at h
  exact ev_ixT h (ev_c (.int 0)) at0
theorem w_plain (q : Tr) : D.plain (.str q.w) = true := by cases q <;> rfl
theorem ev_isW (h : Ev t Γ q.dat) {s : List Nat} (hs : D.plain (.str s) = true) (e : decide (q.w = s) = b) : Ev (tpOp fEq (tpOp fIx t (tpC (.int 0))) (tpC (.str s))) Γ (.bl b) := by
  rw [← e]
  exact ev_eqS (ev_w h) (ev_c _) (w_plain q) hs
theorem ev_inW (h : Ev t Γ q.dat) {x y : List Nat} (hx : D.plain (.str x) = true) (hy : D.plain (.str y) = true) (e : (decide (x = q.w) || decide (y = q.w)) = b) : Ev (tpOp (fInD false) (tpOp fIx t (tpC (.int 0))) (tpTup (tlCons (tpC (.str x)) (tlCons (tpC (.str y)) tlNil)))) Γ (.bl b) :=
  ev_op (ev_w h) (ev_tup (evl_2 (ev_c _) (ev_c _)) (by show 2 ≤ 100000; decide)) fun k z => ⟨⟨w_plain q, by show (D.plain (.str x) && (D.plain (.str y) && true)) = true; rw [hx, hy]; rfl, by show 0 ≤ 8; decide⟩, by
    have e2 : ([D.str x, D.str y].any fun z => eqD z (.str q.w)) = b := by
      show (eqD (.str x) (.str q.w) || (eqD (.str y) (.str q.w) || false)) = b
      rw [eqD_str, eqD_str, Bool.or_false]
      exact e
    rw [e2]
    cases b <;> exact z⟩
theorem ev_1of {x : D} {l : List D} {s : List Nat} (h : Ev t Γ (.tup (.str s :: x :: l))) : Ev (tpOp fIx t (tpC (.int 1))) Γ x := ev_ixT h (ev_c (.int 1)) at1
theorem ev_2of {x y : D} {l : List D} {s : List Nat} (h : Ev t Γ (.tup (.str s :: x :: y :: l))) : Ev (tpOp fIx t (tpC (.int 2))) Γ y := ev_ixT h (ev_c (.int 2)) at2
def fsInner : FS := fun ds k _ => match ds with
  | [d] => ∃ t : Tr, (d = t.dat ∧ t.kids.length ≤ 1000) ∧ k (.lst (t.kids.map Tr.dat))
  | _ => False
theorem inner_ok' : fsInner ds kd kx → m_inner ds kd kx := by
  intro h0
  match ds, h0 with
  | [d], h0 =>
    obtain ⟨q, ⟨rfl, hz⟩, h⟩ := h0
    let G : Ga := [.pu q.dat]
    have w1 : ∀ {b}, (decide (wTHE = q.w) || decide (wEIT = q.w)) = b → EvB (tbV (tpOp (fInD false) (tpOp fIx (tpVar 0) (tpC (.int 0))) (tpTup (tlCons (tpC (.str wTHE)) (tlCons (tpC (.str wEIT)) tlNil))))) G b := fun e => evb_v (ev_inW (Γ := G) (t := tpVar 0) (q := q) (ev_var rfl) rfl rfl e)
    have w2 : ∀ {b}, (decide (wTIM = q.w) || decide (wAGA = q.w)) = b → EvB (tbV (tpOp (fInD false) (tpOp fIx (tpVar 0) (tpC (.int 0))) (tpTup (tlCons (tpC (.str wTIM)) (tlCons (tpC (.str wAGA)) tlNil))))) G b := fun e => evb_v (ev_inW (Γ := G) (t := tpVar 0) (q := q) (ev_var rfl) rfl rfl e)
    have rows : ∀ (s : List Nat) (ps : List Tr), q.dat = .tup (.str s :: ps.map Tr.dat) → ps.length ≤ 1000 → Ev (tp1 fList (tpSl (tpVar 0) (toSome (tpC (.int 1))) toNo)) G (.lst (ps.map Tr.dat)) := fun s ps e hl => ev_1 (x := .tup (ps.map Tr.dat)) (fun k kx z => by
      have v := ev_var (Γ := G) (i := 0) (d := q.dat) rfl
      rw [e] at v
      refine v _ _ ?_
      show k (.tup (cutL (.str s :: ps.map Tr.dat) (some 1) none))
      have : cutL (.str s :: ps.map Tr.dat) (some 1) none = ps.map Tr.dat := by
        unfold cutL
        have e1 : HT.sIx (D.str s :: ps.map Tr.dat).length 0 (some 1) = 1 := by
          simp [HT.sIx]
        have e2 : HT.sIx (D.str s :: ps.map Tr.dat).length (D.str s :: ps.map Tr.dat).length none = ps.length + 1 := by
          simp [HT.sIx]
        rw [e1, e2]
        show ((ps.map Tr.dat).take (ps.length + 1 - 1)) = _
        exact List.take_of_length_le (by simp)
      rw [this]
      exact z) fun k z => z
    cases q with
    | dd v => exact st_ifN (Γ := G) (w1 rfl) (st_ret (Γ := G) (ev_ifF (w2 rfl) (ev_lst evl_nil (Nat.zero_le _))) h)
    | nm v => exact st_ifN (Γ := G) (w1 rfl) (st_ret (Γ := G) (ev_ifF (w2 rfl) (ev_lst evl_nil (Nat.zero_le _))) h)
    | th ps => exact st_ifT (Γ := G) (w1 rfl) (st_ret (Γ := G) (rows wTHE ps (dat_eq _) hz) h)
    | ei ps => exact st_ifT (Γ := G) (w1 rfl) (st_ret (Γ := G) (rows wEIT ps (dat_eq _) hz) h)
    | ti t n =>
      have v : Ev (tpVar 0) G (.tup (.str wTIM :: t.dat :: [.int (n : Nat)])) := by
        have v := ev_var (Γ := G) (i := 0) (d := (Tr.ti t n).dat) rfl
        rwa [dat_eq] at v
      exact st_ifN (Γ := G) (w1 rfl) (st_ret (Γ := G) (ev_ifT (w2 rfl) (ev_lst (evl_1 (ev_1of v)) (by show 1 ≤ 100000; decide))) h)
    | ag t =>
      have v : Ev (tpVar 0) G (.tup (.str wAGA :: t.dat :: [])) := by
        have v := ev_var (Γ := G) (i := 0) (d := (Tr.ag t).dat) rfl
        rwa [dat_eq] at v
      exact st_ifN (Γ := G) (w1 rfl) (st_ret (Γ := G) (ev_ifT (w2 rfl) (ev_lst (evl_1 (ev_1of v)) (by show 1 ≤ 100000; decide))) h)
theorem ev_inner (h : Ev t Γ q.dat) (hz : q.kids.length ≤ 1000) : Ev (tpCall 1 fsInner (tlCons t tlNil)) Γ (.lst (q.kids.map Tr.dat)) := ev_call (evl_1 h) rfl fun k kx z => ⟨q, ⟨rfl, hz⟩, z⟩
theorem any_str {av : List (List Nat)} {s : List Nat} : ((av.map D.str).any fun z => eqD z (.str s)) = decide (s ∈ av) := by
  induction av with
  | nil => rfl
  | cons a r ih =>
    show (eqD (.str a) (.str s) || _) = _
    rw [ih, eqD_str]
    by_cases e : a = s
    · rw [decide_eq_true e, Bool.true_or]
      exact (decide_eq_true (by rw [e]; exact List.mem_cons_self)).symm
    · rw [decide_eq_false e, Bool.false_or]
      by_cases h : s ∈ r
      · rw [decide_eq_true h, decide_eq_true (List.mem_cons_of_mem _ h)]
      · rw [decide_eq_false h, decide_eq_false fun z => (List.mem_cons.mp z).elim (fun z => e z.symm) h]
theorem plainL_str {av : List (List Nat)} (h : ∀ a ∈ av, D.plain (.str a) = true) : D.plainL (av.map D.str) = true := by
  induction av with
  | nil => rfl
  | cons a r ih =>
    show (D.plain (.str a) && D.plainL (r.map D.str)) = true
    rw [h a List.mem_cons_self, ih fun b hb => h b (List.mem_cons_of_mem _ hb)]
    rfl
end
end PL
set_option Elab.async false
set_option linter.all false
set_option maxRecDepth 100000
set_option maxHeartbeats 4000000
namespace PL
open PySem L2
/-- no choices in the tree itself -/
def Pn : Nat → Tr → Prop
  | 0, _ => False
  | _ + 1, .dd _ => True
  | _ + 1, .nm _ => True
  | n + 1, .th ps => ps.length ≤ 1000 ∧ ∀ p ∈ ps, Pn n p
  | n + 1, .ti t _ => Pn n t
  | _ + 1, _ => False
theorem Pn.kids {n : Nat} {t : Tr} (h : Pn (n + 1) t) : t.kids.length ≤ 1000 ∧ ∀ p ∈ t.kids, Pn n p := by
  cases t with
  | dd v => exact ⟨Nat.zero_le _, fun _ z => nomatch z⟩
  | nm v => exact ⟨Nat.zero_le _, fun _ z => nomatch z⟩
  | th ps => exact h
  | ei ps => exact h.elim
  | ti t n => exact ⟨by show 1 ≤ 1000; decide, fun p hp => by
      have : p = t := by simpa [Tr.kids] using hp
      rw [this]
      exact h⟩
  | ag t => exact h.elim
theorem Pn.mono : ∀ {n m : Nat} {t : Tr}, Pn n t → n ≤ m → Pn m t
  | n + 1, 0, _, h, e => by omega
  | n + 1, m + 1, .dd _, h, e => trivial
  | n + 1, m + 1, .nm s, h, e => trivial
  | n + 1, m + 1, .th ps, ⟨h1, h2⟩, e => ⟨h1, fun p hp => (h2 p hp).mono (by omega)⟩
  | n + 1, m + 1, .ei ps, h, e => h.elim
  | n + 1, m + 1, .ti t _, h, e => Pn.mono (t := t) h (by omega)
  | n + 1, m + 1, .ag t, h, e => h.elim
/-- all deeds are some deeds -/
def Dn (al : List Nat) : Nat → Tr → Prop
  | 0, _ => False
  | _ + 1, .dd v => v.length ≤ 3000 ∧ ∀ c ∈ v, c ∈ al
  | _ + 1, .nm _ => True
  | n + 1, .th ps => ps.length ≤ 1000 ∧ ∀ p ∈ ps, Dn al n p
  | n + 1, .ei ps => ps.length ≤ 1000 ∧ ∀ p ∈ ps, Dn al n p
  | n + 1, .ti t _ => Dn al n t
  | n + 1, .ag t => Dn al n t
theorem Dn.kids {al : List Nat} {n : Nat} {t : Tr} (h : Dn al (n + 1) t) : t.kids.length ≤ 1000 ∧ ∀ p ∈ t.kids, Dn al n p := by
  cases t with
  | dd v => exact ⟨Nat.zero_le _, fun _ z => nomatch z⟩
  | nm v => exact ⟨Nat.zero_le _, fun _ z => nomatch z⟩
  | th ps => exact h
  | ei ps => exact h
  | ti t n => exact ⟨by show 1 ≤ 1000; decide, fun p hp => by
      have : p = t := by simpa [Tr.kids] using hp
      rw [this]
      exact h⟩
  | ag t => exact ⟨by show 1 ≤ 1000; decide, fun p hp => by
      have : p = t := by simpa [Tr.kids] using hp
      rw [this]
      exact h⟩
section
variable {ds : List D} {kd : KD} {ko : D → D → Prop} {kx : KX} {CC CG : Addr} {Γ : Ga} {t ta tb tc : TP} {tl : TL} {d e c c0 : D} {n i j : Nat} {P : PEn} {K : Ks} {m : KindM} {u v : List Nat} {tx ty : TX} {R S T : D → D → Prop} {s r : TSp} {cb : TB} {env : Env} {q : Tr} {b : Bool}
local instance : Tabl := ⟨[], fun p hp => absurd hp (by simp)⟩
end
end PL
set_option Elab.async false
set_option linter.all false
set_option maxRecDepth 100000
set_option maxHeartbeats 4000000
namespace PL
open PySem L2
section
variable {ds : List D} {kd : KD} {ko : D → D → Prop} {kx : KX} {CC CG : Addr} {Γ : Ga} {t ta tb tc : TP} {tl : TL} {d e c c0 : D} {n i j : Nat} {P : PEn} {K : Ks} {m : KindM} {u v w : List Nat} {tx ty : TX} {R S T : D → D → Prop} {s r : TSp} {cb : TB} {env : Env} {q : Tr} {b : Bool}
local instance : Tabl := ⟨[], fun p hp => absurd hp (by simp)⟩
theorem st_while {cb : TB} {bb : TSp} (N : Nat) (h : whW cb bb { P with nx := r P } N Γ) : tsSeq (tsWhile cb bb) r P Γ := ⟨N, h⟩
end
end PL
set_option Elab.async false
set_option linter.all false
set_option maxRecDepth 100000
set_option maxHeartbeats 4000000
namespace PL
open PySem L2 PyProof.Rows
end PL
set_option Elab.async false
set_option linter.all false
set_option maxRecDepth 100000
set_option maxHeartbeats 4000000
namespace PL
open PySem L2
end PL
set_option Elab.async false
set_option linter.all false
set_option maxRecDepth 100000
set_option maxHeartbeats 4000000
namespace PySem
open Builtin PySem.Spec PyProof.Rows
theorem list_repr_headA {M : Model} {A : Around} {E : Value → Shared → Prop} {s : Shared} {Q : Fin → Shared → Prop} {a : Addr} {o : Obj} {x : Value} {l : List Value} {n : Nat} {b : Nat}
    (hget : s.heap.get? a = some o) (hd : o.data = .seq (x :: l).toArray n)
    (h0 : wpAny M A (do rule "list.__repr__.in-itself"; return ← retStr "[...]") Q E s)
    (h : wpAny M A (do again (.builtin "list.__repr__.loop" ⟨[.ref a, rawInt 0, ← newList [], rawInt b], []⟩)) Q E s) : wpAny M A (Builtin.listReprAt b ⟨[.ref a], []⟩) Q E s := by
  intro Γ p hΓ
  have h1 := h Γ p hΓ
  have h2 := h0 Γ p hΓ
  unfold Builtin.listReprAt
  simp [slotArgs, List.listItems, seqItems?, Sem.wp_load_of (h := hget), hd, stack]
  show Sem.wp M Γ (if (Γ.below.any _) = true then _ else _) _ _ p s
  split
  · exact h2
  · exact h1
section
variable {prog : Program} {w : World} {A : Around} {E : Value → Shared → Prop} {s : Shared} {a : Addr} {o : Obj} {y : PySem.Str} {ty : Tok} {n : Nat} {Q : Value → Shared → Prop}
theorem call_list_repr1 (ha : s.heap.get? a = some o) (hc : o.cls = .type "list") (hd : o.data = .seq #[.str y ty] n) (hsz : (reprText y).length + 10 ≤ sizeLine)
    (h : ∀ (m : PySem.Str) (h' : Heap) (u tk : Tok), m.length ≤ (reprText y).length + 10 → (∀ b o, s.heap.get? b = some o → h'.get? b = some o) → Q (.str m u) { s with heap := h', toks := tk }) :
    wpAny (model prog w) A (call (.builtin "list.__repr__") [.ref a]) Q E s := by
  have hl : (listText [reprText y]).length ≤ (reprText y).length + 10 := by
    show ((("[" : PySem.Str) ++ (if (0 : Nat) > 0 then ", " else "" : String) ++ reprText y) ++ "]").length ≤ _
    rw [strLen_append, strLen_append, strLen_append, if_neg (by decide)]
    have e1 : ((("[" : String) : PySem.Str)).length = 1 := rfl
    have e2 : ((("]" : String) : PySem.Str)).length = 1 := rfl
    have e3 : ((("" : String) : PySem.Str)).length = 0 := rfl
    omega
  refine wpAny_call (codeAny_call_builtin F.slot_list_repr.plain F.entry_list_repr (F.slot_list_repr.check _ _ _ _ _ _ _ _ ⟨o, ha, hc⟩ (F.args_list_repr_1 _) ?_))
  refine list_repr_headA (x := .str y ty) (l := []) ha hd ?_ ?_
  · refine wpAny_bind (wpAny_rule ?_)
    refine wpAny_bind (wpAny_mkStr (x := "[...]") (wpAny_pure ?_) (by decide +kernel))
    exact h "[...]" s.heap _ _ (Nat.le_trans (by decide +kernel : (("[...]" : String) : PySem.Str).length ≤ 10) (Nat.le_add_left _ _)) fun _ _ e => e
  · refine wpAny_bind (m := newList []) (wpAny_newObj_type ?_)
    refine wpAny_pure ⟨F.quiet_list_repr_loop _, ?_⟩
    refine codeAny_list_repr_start (P := s.heap.objs.size) (ts := [reprText y]) (items := #[.str y ty]) (Nat.ne_of_lt (Heap.lt_size ha)) rfl (fun i x hx => ?_) (Heap.get?_push_of_some _ ha) hd (Heap.get?_push_size _ rfl) (fun h' u tk hk => ?_) (by omega)
    · cases i with
      | zero =>
        cases hx
        exact ⟨_, rfl, ReprIs.str y ty (by omega)⟩
      | succ i => simp at hx
    · exact h _ h' u tk hl fun b o e => hk b o (Nat.ne_of_lt (Heap.lt_size e)) (Heap.get?_push_of_some _ e)
theorem str_list1 (hu : A.units + 5 < cLine) (ha : s.heap.get? a = some o) (hc : o.cls = .type "list") (hd : o.data = .seq #[.str y ty] n) (hsz : (reprText y).length + 10 ≤ sizeLine)
    (h : ∀ (m : PySem.Str) (h' : Heap) (u tk : Tok), m.length ≤ (reprText y).length + 10 → (∀ b o, s.heap.get? b = some o → h'.get? b = some o) → Q (.str m u) { s with heap := h', toks := tk }) :
    wpAny (model prog w) A (call (.type "str") [.ref a]) Q E s :=
  callType_new F.called_str (by decide) (F.typeCall_str_1 _) (F.newCall_str_1 _) (fun obj => F.args_object_init_2 obj _) F.entry_str_new
    (meets_str_new (S := fun A' R s' => A'.units + 4 < cLine ∧ s'.heap.get? a = some o ∧
        ∀ (m : PySem.Str) (h' : Heap) (u tk : Tok), m.length ≤ (reprText y).length + 10 → (∀ b o, s'.heap.get? b = some o → h'.get? b = some o) → R (.ok (.ret (.str m u))) { s' with heap := h', toks := tk })
      fun prog' w' A' R s' h => wpAny_strOf_slot (A := A'.in1) rfl (by show A'.units + 1 + 1 < cLine; have := h.1; omega) ⟨o, h.2.1, hc⟩ F.slot_list_str F.slot_list_repr.toG
        (call_list_repr1 h.2.1 hc hd hsz fun m h' u tk hm hk => ⟨m, u, rfl, h.2.2 m h' u tk hm hk⟩))
    ⟨by show A.units + 1 + 4 < cLine; omega, ha, fun m h' u tk hm hk => ⟨typeIs_str _ _ _, h m h' u tk hm hk⟩⟩
end
end PySem
namespace PL
open PySem PySem.Spec PyProof.Rows L2
def rStrAny (K : PySem.W.Frag) : List V → Hp → VK → Prop := fun xs H Q => (∃ y, xs = [.str y] ∧ Q (.str y) H) ∨ (xs = [.non] ∧ Q (.str "None") H) ∨ (∃ i, xs = [.int i] ∧ i.natAbs.log2 < 1920 ∧ Q (.str (toString i)) H) ∨
  (∃ a y, xs = [.ref a] ∧ SqL K H a [.str y] ∧ (∀ c ∈ y.cps.toList, c < 16 ^ 8) ∧ 10 * y.length + 20 ≤ sizeLine ∧ ∀ m : PySem.Str, m.length ≤ 10 * y.length + 20 → Q (.str m) H)
theorem call_str_any {X : Cx} {k : Nat} (hr : Room k X.A) : CallR X (.type "str") (rStrAny X.K) := by
  intro pins s σ H xs us Q I r h
  rcases h with ⟨y, rfl, q⟩ | ⟨rfl, q⟩ | ⟨i, rfl, hz, q⟩ | ⟨a, y, rfl, hs, hc, hz, q⟩
  · obtain ⟨u, rfl, t, rfl⟩ := vals1 r
    exact PySem.P.str_of_str ⟨.str y, H, I, ⟨t, rfl⟩, q⟩
  · obtain ⟨u, rfl, r1⟩ := vals1 r
    cases r1
    exact PySem.P.str_of_none ⟨.str _, H, I.tok _, ⟨_, rfl⟩, q⟩
  · obtain ⟨u, rfl, t, rfl⟩ := vals1 r
    exact PySem.P.str_of_int hz ⟨.str _, H, I.tok _, ⟨_, rfl⟩, q⟩
  · obtain ⟨u, rfl, r1⟩ := vals1 r
    cases r1
    obtain ⟨its, rv, pl, _⟩ := I.list hs
    obtain ⟨u, rfl, t, rfl⟩ := vals1 rv
    obtain ⟨o, n, ho, hcl, _, hd⟩ := pl
    have h1 := StrLaws.reprText_len y hc
    have hu := hr.units
    exact str_list1 (by omega) ho hcl hd (by omega) fun m h' u tk hm hk => ⟨.str m, H, I.kept hk, ⟨u, rfl⟩, q m (by omega)⟩
variable [Tabl]
def fStrAny : F1
  | .str s, k => k (.str s)
  | .non, k => k (.str [78, 111, 110, 101])
  | .int i, k => i.natAbs.log2 < 1920 ∧ k (.str (toString i : PySem.Str).cps.toList)
  | .lst [.str y], k => (∀ c ∈ y, c < 16 ^ 8) ∧ 10 * y.length + 20 ≤ sizeLine ∧ ∀ s : List Nat, s.length ≤ 10 * y.length + 20 → k (.str s)
  | _, _ => False
theorem ss_of (m : PySem.Str) : SS m.cps.toList = m := by
  unfold SS
  simp
theorem c_strAny {X : Cx} {k : Nat} (hr : Room k X.A) : CallR X (.type "str") (rStrAny X.K) ∧ RdC1 X.K (rStrAny X.K) fStrAny := by
  refine ⟨call_str_any hr, fun H0 G H v d k Q s n h hk => ?_⟩
  cases d with
  | str l =>
    cases n.str
    exact .inl ⟨SS l, rfl, hk _ _ _ _ h (Ext.refl s) (.str l)⟩
  | non => 
    have e : v = V.non := by
      rcases n with n | n
      · cases n; rfl
      · exact nomatch n
    exact .inr (.inl ⟨by rw [e], hk _ _ _ _ h (Ext.refl s) (.str _)⟩)
  | int i => 
    have e : v = V.int i := by
      rcases n with n | n
      · cases n; rfl
      · exact nomatch n
    refine .inr (.inr (.inl ⟨i, by rw [e], h.1, ?_⟩))
    have := hk _ _ _ _ h.2 (Ext.refl s) (.str _)
    rwa [ss_of] at this
  | lst xs =>
    match xs, h, n with
    | [.str y], h, n =>
      obtain ⟨a, vs, rfl, ha, hv⟩ := n.lst s
      cases hv with
      | cons h1 h2 =>
        cases h2
        cases h1
        obtain ⟨h1, h2, h3⟩ := h
        refine .inr (.inr (.inr ⟨a, SS y, rfl, SqL.of ha, ?_, ?_, fun m hm => ?_⟩))
        · intro c hc
          exact h1 c (by simpa [SS] using hc)
        · rw [ss_length]; exact h2
        · rw [ss_length] at hm
          have := hk _ _ _ _ (h3 m.cps.toList (by simpa [PySem.Str.length] using hm)) (Ext.refl s) (.str _)
          rwa [ss_of] at this
  | _ => exact h.elim
theorem p_strAny {X : Cx} {W : WX} {e : Expr} {t : TP} {k : Nat} {p pos : Pos} (hr : Room k X.A) (hm : X.mg "str" = none) (he : PU X W e t) (hg : Gl X "str" := by rfl)
    (h1 : starEach (e :: []) X.env = (false, eval e X.env) :: starEach [] X.env := by rfl) (h2 : (backTo pos (starEach [] X.env)).any (·.1) = false := by rfl) : PP X W (.Call (.Name "str" p) [e] [] pos) (tp1 fStrAny t) :=
  p_t1 (c_strAny hr) hm (by decide +kernel) he hg (by decide) (by decide) h1 h2
end PL
set_option Elab.async false
set_option linter.all false
set_option maxRecDepth 100000
set_option maxHeartbeats 4000000
namespace PL
open PySem PySem.Spec PyProof.Rows L2
end PL
set_option Elab.async false
set_option linter.all false
set_option maxRecDepth 100000
set_option maxHeartbeats 4000000
namespace PL
open PySem L2 PyProof.Rows
variable [Tabl]
abbrev TZ := Ga → (D → Ga → Prop) → (XD → Ga → Prop) → Prop
abbrev TBZ := Ga → (Bool → Ga → Prop) → (XD → Ga → Prop) → Prop
def RdZ (K : PySem.W.Frag) (W : WX) (te : TE) (t : TZ) : Prop := ∀ (G0 H0 : Hp) (Γ : Ga) (σ : L2.St) (G H : Hp) (k : D → Ga → Prop) (kx : XD → Ga → Prop) (Q : VK), Fr K G0 H0 Γ σ G H → t Γ k kx →
  (∀ d v Γ' G' H', k d Γ' → Fr K G0 H0 Γ' σ G' H' → Den K G' v d → Q v H') → (∀ x cls dA Γ' G' H', kx x Γ' → Fr K G0 H0 Γ' σ G' H' → XDen K G' H' cls dA x → W cls dA σ H') → te σ H Q
def RdBZ (K : PySem.W.Frag) (W : WX) (te : TT) (t : TBZ) : Prop := ∀ (G0 H0 : Hp) (Γ : Ga) (σ : L2.St) (G H : Hp) (k : Bool → Ga → Prop) (kx : XD → Ga → Prop) (Q : Bool → Hp → Prop), Fr K G0 H0 Γ σ G H → t Γ k kx →
  (∀ b Γ' G' H', k b Γ' → Fr K G0 H0 Γ' σ G' H' → Q b H') → (∀ x cls dA Γ' G' H', kx x Γ' → Fr K G0 H0 Γ' σ G' H' → XDen K G' H' cls dA x → W cls dA σ H') → te σ H Q
structure PZ (X : Cx) (W : WX) (e : Expr) (t : TZ) : Prop where
  ex : ∃ te, PE X e te ∧ RdZ X.K W te t
structure PBZ (X : Cx) (W : WX) (e : Expr) (t : TBZ) : Prop where
  ex : ∃ te, PT X e te ∧ RdBZ X.K W te t
/-- a method that changes its own instance -/
structure MtI (P : Program) (w : World) (K : PySem.W.Frag) (mg : PySem.Str → Option Value) (base : Heap) (C : Addr) (m : PySem.Str) (k n : Nat) (g : FSo) : Prop where
  c : Cls K C
  ex : ∃ f, Meth K C m f ∧ FnR P w K mg base (L2.CX P w) k f (spOi K (n + 1) g)
def tzMeth (i : Nat) (ms : List (Addr × FSo)) (m : PySem.Str) (n : Nat) (tl : TL) : TZ := fun Γ k kx => noKp Γ = true ∧ (onOI Γ i fun C fs => fs.lookup m = none ∧ ∃ g, (C, g) ∈ ms ∧ tl Γ (fun ds => ds.length = n ∧ g (.ins C fs :: ds) (fun d y => k d (oput Γ i y)) (fun z => kx z (gset Γ i .un))) (fun x => kx x Γ))
def tbzV (t : TZ) : TBZ := fun Γ k kx => t Γ (fun d Γ' => onB d fun b => k b Γ') kx
def tbzNot (t : TBZ) : TBZ := fun Γ k kx => t Γ (fun b Γ' => k (!b) Γ') kx
section
variable {X : Cx} {W : WX} {e a b c o : Expr} {es : List Expr} {t ta : TP} {tl : TL} {tz : TZ} {tb : TBZ} {m x y : PySem.Str} {pos apos p p2 : Pos} {k n j i : Nat} {ms : List (Addr × FSo)} {s u : TSp} {body els : List Stmt}
theorem read_meth {i : Nat} {G0 H0 G1 H1 : Hp} {Γ : Ga} {σ : L2.St} {K : PySem.W.Frag} {Q : VK} {C : Addr} {fs : List (PySem.Str × D)} {ds : List D} {vs : List V} {g : FSo} {k : D → Ga → Prop} {kx : XD → Ga → Prop} {q : Addr} (nk : noKp Γ = true) (hg : (gat Γ i).og = some (.ins C fs)) (e1 : σ[i]? = some (some (.ref q))) (F1 : Fr K G0 H0 Γ σ G1 H1) (n1 : DenL K G1 vs ds) (hl : ds.length = n) (hf : g (.ins C fs :: ds) (fun d y => k d (oput Γ i y)) (fun z => kx z (gset Γ i .un)))
    (hk : ∀ d v Γ' G' H', k d Γ' → Fr K G0 H0 Γ' σ G' H' → Den K G' v d → Q v H') (hx : ∀ x cls dA Γ' G' H', kx x Γ' → Fr K G0 H0 Γ' σ G' H' → XDen K G' H' cls dA x → W cls dA σ H') : spOi K (n + 1) g (.ref q :: vs) H1 Q (WE W σ) := by
  obtain ⟨hsl, q', e1', g1, h01, dx, fvs, q1, q2, q3, q4, q5⟩ := own_at F1 hg
  rw [e1] at e1'
  cases e1'
  have FH := F1.hole hsl (by cases e : gat Γ i <;> (rw [e] at hg; first | trivial | cases hg)) e1 g1 q3 h01 q4 q1 q2 nk
  have free : ∀ a, H1 a = none → H0 a = none := fun a z => F1.e.h.free z
  refine ⟨G1, .ins C fs :: ds, _, _, q, dx, C, fs, fvs, by rw [List.length_cons, n1.length, hl], by rw [List.length_cons, hl], F1.sub, g1, q3, rfl, rfl, q1, q2, q5, fun i v d hi hv hd => ?_, hf, fun d y v G' H' kk x gp o n => ?_, fun z cls dA G' H' kk x nz => ?_⟩
  · match i, hi with
    | i + 1, _ =>
      rw [List.getElem?_cons_succ] at hv hd
      obtain ⟨d', e', n'⟩ := n1.gv hv
      rw [hd] at e'
      cases e'
      exact n'
  · exact hk d v _ G' H' kk (F1.ret hsl hg e1 h01 (FH.up x) gp (o.base free h01 q4)) n
  · exact hx z cls dA _ G' H' kk (FH.up x) nz
theorem z_meth (i : Nat) (hm : ∀ q ∈ ms, MtI X.prog X.w X.K X.mg X.base q.1 m k n q.2) (hr : Room j X.A) (hj : k ≤ j) (tk : Takes X W) (ha : PL' X W (e :: es) tl) (hN : X.N[i]? = some x := by rfl) (hv : Vis X.env.scope x := by first | exact Or.inl rfl | exact Or.inr (Or.inl rfl) | exact Or.inr (Or.inr rfl)) (hd : (x == ("__debug__" : PySem.Str)) = false := by decide) (hcd : (x == ("__classdict__" : PySem.Str)) = false := by decide) {pl : Sem Bool}
    (hst : starEach (e :: es) X.env = (false, eval e X.env) :: starEach es X.env := by rfl) (hpl : (backTo pos (starEach es X.env)).any (·.1) = false := by rfl)
    (ht : eval (.Call (.Attribute (.Name x p) m apos) (e :: es) [] pos) X.env = (do
      let ov ← eval (.Name x p) X.env
      standAt apos.atName
      let (f, first) ← holding [ov] (getMethod ov m pl)
      callWith pos f first (backTo pos (starEach (e :: es) X.env)) (backToKw pos (keywordEach [] X.env))) := by rfl) : PZ X W (.Call (.Attribute (.Name x p) m apos) (e :: es) [] pos) (tzMeth i ms m n tl) := by
  obtain ⟨ea, pa, ra⟩ := ha.ex
  refine ⟨fun σ H Q => ∃ a C dx fvs fn g, σ[i]? = some (some (.ref a)) ∧ H a = some (.ins C dx fvs) ∧ fvs.lookup m = none ∧ Cls X.K C ∧ Meth X.K C m fn ∧ FnR X.prog X.w X.K X.mg X.base (L2.CX X.prog X.w) k fn (spOi X.K (n + 1) g) ∧ ea σ H fun vs H2 => spOi X.K (n + 1) g (.ref a :: vs) H2 Q (WE W σ), ⟨fun pins s σ H Q I h => ?_⟩, fun G0 H0 Γ σ G H kd kx Q F ht hk hx => ?_⟩
  · obtain ⟨a, C, dx, fvs, fn, g, hs, ea', l, c, mt, R, q⟩ := h
    refine PySem.W.methodCall_KW (pl := pl) (thn ((pe_var (pos := p) (i := i) hN hv hd hcd).run pins s σ H (fun v H1 => v = .ref a ∧ H1 = H) I ⟨.ref a, hs, rfl, rfl⟩) fun u s1 ⟨v, H1, I1, rx, ev, eH⟩ => ?_) ht
    subst ev
    subst eH
    obtain rfl : u = Value.ref a := rx
    refine getmeth_ok I1 ea' c mt l ?_
    refine PySem.W.callWith_K (first := [.ref a]) (h₀ := X.base) I.ok.mod.kin mt.kp (thn (pa.run pos pins s1 σ H1 _ I1 q) fun us s2 ⟨vs, H2, I2, r, q2⟩ => ⟨I2.kIn, ?_⟩) hst hpl
    exact wpAny_call (run_fnRS (us := .ref a :: us) (vs := .ref a :: vs) R (hr.mono hj) (passAt tk σ) I2 (.cons rfl r) q2)
  · obtain ⟨nk, ht⟩ := ht
    obtain ⟨C, fs, hg, hl, g, hmem, ht⟩ := onOI_elim ht
    obtain ⟨hsl, q, e1, g1, h01, dx0, fvs0, q1, q2, q3, q4, q5⟩ := own_at F hg
    have M := hm _ hmem
    obtain ⟨fn, mt, R⟩ := M.ex
    refine ⟨q, C, dx0, fvs0, fn, g, e1, q1, q5.no hl, M.c, mt, R, ?_⟩
    refine ra G0 H0 Γ σ G H _ _ _ F ht (fun ds vs G1 H1 k1 x1 n1 => ?_) (fun z cls dA G' H' kd ex dn => hx z cls dA Γ G' H' kd (F.up ex) dn)
    exact read_meth nk hg e1 (F.up x1) n1 k1.1 k1.2 hk hx
theorem bz_val (h : PZ X W e tz) (he : ∀ whole, isTrue e X.env whole = (do let v ← whole; standAt e.pos; holding [v] (truthy v)) := by intro _; rfl) : PBZ X W e (tbzV tz) := by
  obtain ⟨ea, pa, ra⟩ := h.ex
  refine ⟨_, pt_val pa he, fun G0 H0 Γ σ G H k kx Q F ht hk hx => ?_⟩
  refine ra G0 H0 Γ σ G H _ kx _ F ht (fun d1 v1 Γ1 G1 H1 k1 F1 n1 => ?_) hx
  obtain ⟨c, rfl, k1⟩ := onB_elim k1
  exact ⟨c, DenU.bl (.inl n1) (H0 := H0) (H := H1), hk _ Γ1 G1 H1 k1 F1⟩
theorem bz_not (ha : PBZ X W a tb) : PBZ X W (.UnaryOp .Not a pos) (tbzNot tb) := by
  obtain ⟨ea, pa, ra⟩ := ha.ex
  refine ⟨_, pt_not pa, fun G0 H0 Γ σ G H k kx Q F ht hk hx => ?_⟩
  exact ra G0 H0 Γ σ G H _ kx _ F ht (fun c Γ1 G1 H1 k1 x1 => hk _ Γ1 G1 H1 k1 x1) hx
def tsSetZ (i : Nat) (t : TZ) : TSp := fun P Γ => t Γ (fun d Γ' => P.nx (gset Γ' i (.pu d))) P.xx
def tsIfZ (t : TBZ) (a b : TSp) : TSp := fun P Γ => t Γ (fun c Γ' => if c = true then a P Γ' else b P Γ') P.xx
def whZ (c : TBZ) (b : TSp) (P : PEn) : Nat → Ga → Prop
  | 0, _ => False
  | m + 1, Γ => c Γ (fun r Γ' => if r = true then b { P with nx := whZ c b P m, ct := whZ c b P m, bk := P.nx } Γ' else P.nx Γ') P.xx
def tsWhileZ (c : TBZ) (b : TSp) : TSp := fun P Γ => ∃ m, whZ c b P m Γ
theorem s_setZ (i : Nat) {p2 : Pos} (h : PZ X W e tz) (nd : X.N.Nodup) (hi : X.N[i]? = some x := by rfl) (hx : Loc X.env.scope x := by first | exact Or.inl rfl | exact Or.inr rfl)
    (hf : X.fn x = true ∨ X.env.scope.names.lookup x = some .local := by first | exact .inl rfl | exact .inr rfl) (hs : swapsWith e (some (.Name x p2)) pos.line X.env = pure false := by rfl) : PS1 X W (.Assign [.Name x p2] e pos) (tsSetZ i tz) := by
  obtain ⟨ea, pa, ra⟩ := h.ex
  refine ⟨_, ps_set nd hi hx pa hs hf, fun G0 H0 Γ σ G H P E F ht ok => ?_⟩
  exact ra G0 H0 Γ σ G H _ _ _ F ht (fun d v Γ' G' H' k F' n => ok.nx _ _ G' H' k (F'.set i n)) (fun z cls dA Γ' G' H' kd F' dn => ok.xx z cls dA Γ' σ G' H' kd F' dn)
theorem s_ifZ (hc : PBZ X W c tb) (ha : PSS X W body s) (hb : PSS X W els u) : PS1 X W (.If c body els pos) (tsIfZ tb s u) := by
  obtain ⟨ec, pc, rc⟩ := hc.ex
  obtain ⟨ea, pa, ra⟩ := ha.ex
  obtain ⟨eb, pb, rb⟩ := hb.ex
  refine ⟨_, ps_if pc pa pb, fun G0 H0 Γ σ G H P E F ht ok => ?_⟩
  refine rc G0 H0 Γ σ G H _ _ _ F ht (fun c Γ1 G1 H1 k1 F1 => ?_) (fun z cls dA Γ' G' H' kd F' dn => ok.xx z cls dA Γ' σ G' H' kd F' dn)
  cases c with
  | true => exact ra G0 H0 Γ1 σ G1 H1 P E F1 k1 ok
  | false => exact rb G0 H0 Γ1 σ G1 H1 P E F1 k1 ok
theorem s_whileZ (hp : PassesOwn (model X.prog X.w) X.A X.env X.xe) (hc : PBZ X W c tb) (hb : PSS X W body s) : PS1 X W (.While c body [] pos) (tsWhileZ tb s) := by
  obtain ⟨ec, pc, rc⟩ := hc.ex
  obtain ⟨eb, pb, rb⟩ := hb.ex
  refine ⟨_, ps_while hp pc pb, fun G0 H0 Γ σ G H P E F ⟨m, ht⟩ ok => ?_⟩
  refine ⟨fun m σ' H' => ∃ Γ' G', Fr X.K G0 H0 Γ' σ' G' H' ∧ whZ tb s P m Γ', ⟨m, Γ, G, F, ht⟩, ?_⟩
  rintro m σ2 H2 ⟨Γ2, G2, F2, k2⟩
  cases m with
  | zero => exact k2.elim
  | succ m =>
    refine rc G0 H0 Γ2 σ2 G2 H2 _ _ _ F2 k2 (fun r Γ3 G3 H3 k3 F3 => ?_) (fun z cls dA Γ' G' H' kd F' dn => ok.xx z cls dA Γ' σ2 G' H' kd F' dn)
    cases r with
    | true =>
      rw [if_pos rfl]
      refine ⟨fun σ' H' => ∃ Γ' G', Fr X.K G0 H0 Γ' σ' G' H' ∧ whZ tb s P m Γ', fun σ' H' q => ⟨m, Nat.lt_succ_self m, q⟩, ?_⟩
      exact rb G0 H0 Γ3 σ2 G3 H3 _ _ F3 k3 (ok.loop fun Γ5 σ5 G5 H5 n5 F5 => ⟨Γ5, G5, F5, n5⟩)
    | false =>
      rw [if_neg Bool.false_ne_true]
      exact ok.nx _ _ _ _ k3 F3
/-- x = [e], a list of one's own -/
def tsOwn1Z (i : Nat) (t : TZ) : TSp := fun P Γ => t Γ (fun d Γ' => P.nx (gset Γ' i (.ow (.lst [d])))) P.xx
theorem s_own1Z (i : Nat) {p2 q : Pos} (h : PZ X W e tz) (nd : X.N.Nodup) (hi : X.N[i]? = some x := by rfl) (hx : Loc X.env.scope x := by first | exact Or.inl rfl | exact Or.inr rfl)
    (hf : X.fn x = true ∨ X.env.scope.names.lookup x = some .local := by first | exact .inl rfl | exact .inr rfl) (hs : swapsWith (.List [e] q) (some (.Name x p2)) pos.line X.env = pure false := by rfl) (hst : starEach [e] X.env = (false, eval e X.env) :: starEach [] X.env := by rfl) : PS1 X W (.Assign [.Name x p2] (.List [e] q) pos) (tsOwn1Z i tz) := by
  obtain ⟨ea, pa, ra⟩ := h.ex
  refine ⟨_, ps_set nd hi hx (pe_lst (pa_cons pa pa_nil hst)) hs hf, fun G0 H0 Γ σ G H P E F ht ok => ?_⟩
  refine ra G0 H0 Γ σ G H _ _ _ F ht (fun d v Γ' G' H' k F' n => ?_) (fun z cls dA Γ' G' H' kd F' dn => ok.xx z cls dA Γ' σ G' H' kd F' dn)
  exact ⟨by show 1 ≤ sizeLine; decide, fun p hp => ok.nx _ _ G' _ k (F'.own i hp ⟨[v], upd_same, .cons n .nil⟩)⟩
/-- x.append(e) of an own list -/
def tsAppZ (i : Nat) (t : TZ) : TSp := fun P Γ => (∃ ds, (gat Γ i).og = some (.lst ds)) ∧ t Γ (fun d Γ' => ∃ ds, (gat Γ' i).og = some (.lst ds) ∧ ds.length < 100000 ∧ P.nx (oput Γ' i (.lst (ds ++ [d])))) P.xx
theorem s_appendZ (i : Nat) {call : Expr} (h : PZ X W e tz) (hp : ∀ ea, PE X e ea → PE X call (tBM X.K "list" rAppend (tVar i) (tCons ea tNil))) (hs : swapsWith call none pos.line X.env = pure false := by rfl) : PS1 X W (.Expr call pos) (tsAppZ i tz) := by
  obtain ⟨ea, pa, ra⟩ := h.ex
  refine ⟨_, ps_expr (hp _ pa) hs, fun G0 H0 Γ σ G H P E F ht ok => ?_⟩
  obtain ⟨⟨ds, hs⟩, ht⟩ := ht
  obtain ⟨key, p, e1, g1, h01, xs0, q1, q2⟩ := own_at F hs
  refine ⟨.ref p, e1, .inl ⟨rfl, xs0, SqL.of q1⟩, ?_⟩
  refine ra G0 H0 Γ σ G H _ _ _ F ht (fun d v Γ' G' H' k F' n => ?_) (fun z cls dA Γ' G' H' kd F' dn => ok.xx z cls dA Γ' σ G' H' kd F' dn)
  obtain ⟨ds', hs', hz, k⟩ := k
  obtain ⟨key', p', e2, g2, h02, xs, q3, q4⟩ := own_at F' hs'
  rw [e1] at e2
  cases e2
  exact ⟨p, xs, v, rfl, rfl, q3, by rw [q4.length]; exact sz5' hz, ok.nx _ _ _ _ k (F'.mut key' hs' e1 g2 h02 q3 trivial ⟨_, upd_same, q4.append (.cons n .nil)⟩)⟩
/-- x, y = e, c -/
def tsPar2Z (i j : Nat) (t : TZ) (tb : TP) : TSp := fun P Γ => t Γ (fun d Γ' => tb Γ' (fun d2 => P.nx (gset (gset Γ' i (.pu d)) j (.pu d2))) (fun x => P.xx x Γ')) P.xx
theorem s_par2Z (i j : Nat) {px py pt : Pos} {kt k2 pt2} (hc : X.calm = true) (hN : X.N.Nodup) (h : PZ X W a tz) (hb : PP X W b ta) (hij : i ≠ j := by decide) (hi : X.N[i]? = some x := by rfl) (hj : X.N[j]? = some y := by rfl)
    (hx : X.env.scope.names.lookup x = some .local := by rfl) (hy : X.env.scope.names.lookup y = some .local := by rfl)
    (hw : swappedStores [.Tuple [.Name x px, .Name y py] kt pt] (.Tuple [a, b] k2 pt2) X.env = pure (some [x, y]) := by rfl)
    (hs : swapsWithSole [.Tuple [.Name x px, .Name y py] kt pt] (.Tuple [a, b] k2 pt2) pos.line X.env = pure false := by rfl)
    (h1 : starEach [a, b] X.env = (false, eval a X.env) :: starEach [b] X.env := by rfl) (h2 : starEach [b] X.env = (false, eval b X.env) :: starEach [] X.env := by rfl) :
    PS1 X W (.Assign [.Tuple [.Name x px, .Name y py] kt pt] (.Tuple [a, b] k2 pt2) pos) (tsPar2Z i j tz ta) := by
  obtain ⟨ea, pa, ra⟩ := h.ex
  obtain ⟨eb, pb, rb⟩ := hb.ex
  refine ⟨_, ps_par hc hN hi hj hij hx hy (pa_cons pa (pa_cons pb pa_nil h2) h1) hw hs, fun G0 H0 Γ σ G H P E F ht ok => ?_⟩
  refine ra G0 H0 Γ σ G H _ _ _ F ht (fun d v Γ' G' H' k F' n => ?_) (fun z cls dA Γ' G' H' kd F' dn => ok.xx z cls dA Γ' σ G' H' kd F' dn)
  refine rb G0 H0 Γ' σ G' H' _ _ _ F' k (fun d2 v2 G2 H2 k2 x2 n2 => ?_) (ok.x F')
  exact ⟨_, _, rfl, ok.nx _ _ G2 H2 k2 (((F'.up x2).set i (n.up x2.g)).set j n2)⟩
def tlStar (t : TP) (tl : TL) : TL := fun Γ k kx => t Γ (fun d => match d with
  | .lst xs => tl Γ (fun ds => k (xs ++ ds)) kx
  | .tup xs => tl Γ (fun ds => k (xs ++ ds)) kx
  | _ => False) kx
theorem l_star (ha : PU X W e t) (hr : PL' X W es tl) (hs : starEach (.Starred e p :: es) X.env = (true, eval e X.env) :: starEach es X.env := by rfl) : PL' X W (.Starred e p :: es) (tlStar t tl) := by
  obtain ⟨ea, pa, ra⟩ := ha.ex
  obtain ⟨eb, pb, rb⟩ := hr.ex
  refine ⟨_, StX.pa_star pa pb hs, fun G0 H0 Γ σ G H k kx Q F ht hk hx => ?_⟩
  refine ra G0 H0 Γ σ G H _ kx _ F ht (fun d1 v1 G1 H1 k1 x1 n1 => ?_) hx
  cases d1 with
  | lst xs =>
    obtain ⟨a, vs, rfl, h1, r1⟩ := n1.lst x1.sub
    refine ⟨a, vs, rfl, .inr (SqL.of h1), ?_⟩
    exact rb G0 H0 Γ σ G1 H1 _ kx _ (F.up x1) k1 (fun ds ws G' H' kd ex dn => hk (xs ++ ds) (vs ++ ws) G' H' kd (x1.trans ex) ((r1.up ex.g).append dn)) (hx.up x1)
  | tup xs =>
    obtain ⟨a, vs, rfl, h1, r1⟩ := n1.tup x1.sub
    refine ⟨a, vs, rfl, .inl h1, ?_⟩
    exact rb G0 H0 Γ σ G1 H1 _ kx _ (F.up x1) k1 (fun ds ws G' H' kd ex dn => hk (xs ++ ds) (vs ++ ws) G' H' kd (x1.trans ex) ((r1.up ex.g).append dn)) (hx.up x1)
  | _ => exact k1.elim
def tCases : List (PySem.Str × TS) → PySem.Str → TS
  | [], _, D, σ, H => D.nx σ H
  | (c, b) :: r, s, D, σ, H => if s = c then b D σ H else tCases r s D σ H
def tMatch (te : TE) (l : List (PySem.Str × TS)) : TS := fun D σ H => te σ H fun v H1 => ∃ s, v = .str s ∧ tCases l s D σ H1
inductive MCs (X : Cx) : List MatchCase → List (PySem.Str × TS) → Prop where
  | nil : MCs X [] []
  | cons {c : PySem.Str} {j : Nat} {p q : Pos} {body : List Stmt} {ts : TS} {r : List MatchCase} {l : List (PySem.Str × TS)} (hb : PSs X body ts) (hr : MCs X r l) : MCs X (⟨.MatchValue (.Constant (.str c) j p) q, none, body⟩ :: r) ((c, ts) :: l)
theorem run_cases {cs : List MatchCase} {l : List (PySem.Str × TS)} (h : MCs X cs l) : ∀ (pins : List (Addr × Obj)) (s : Shared) (σ : L2.St) (H : Hp) (D : Ends) (x : PySem.Str) (t : Tok) (first : Bool), Inv X pins σ H s → tCases l x D σ H → wpAny (model X.prog X.w) X.A (matchCases cs X.env (.str x t) first) (SP X pins D) X.xe s := by
  induction h with
  | nil =>
    intro pins s σ H D x t first I q
    exact wpAny_matchCases_nil ⟨σ, H, I, q⟩
  | @cons c j p q body ts r l hb hr ih =>
    intro pins s σ H D x t first I h
    refine wpAny_matchCases_cons (wpAny_matchPattern_Value ?_)
    refine thn ((pe_str (X := X) (x := c) (pos := p)).run pins s σ H (fun v H1 => v = .str c ∧ H1 = H) I ⟨rfl, rfl⟩) fun u s1 ⟨v, H1, I1, rx, ev, eH⟩ => ?_
    subst ev
    subst eH
    refine thn (op_eq pins s1 σ H1 (.str x) (.str c) (.str x t) u (fun v H2 => v = .bl (decide (V.str x = V.str c)) ∧ H2 = H1) I1 ⟨t, rfl⟩ rx ⟨rfl, rfl, rfl⟩) fun w s2 ⟨v2, H2, I2, rw2, ev2, eH2⟩ => ?_
    subst ev2
    subst eH2
    obtain rfl : w = Value.bool (decide (V.str x = V.str c)) := rw2
    refine wpAny_truthy_bool ?_
    have h : (if x = c then ts D σ H2 else tCases l x D σ H2) := h
    by_cases e : x = c
    · rw [if_pos e] at h
      rw [decide_eq_true (by rw [e])]
      rw [if_pos rfl]
      refine wpAny_assignInOrder_none ?_
      exact hb.run pins s2 σ H2 D I2 h
    · rw [if_neg e] at h
      rw [decide_eq_false (fun z => e (V.str.inj z))]
      rw [if_neg Bool.false_ne_true]
      exact ih pins s2 σ H2 D x t false I2 h
theorem ps_match {cs : List MatchCase} {l : List (PySem.Str × TS)} {te : TE} (he : PE X e te) (h : MCs X cs l) : PS X (.Match e cs pos) (tMatch te l) := by
  refine ⟨fun pins s σ H D I q => ?_⟩
  refine wpAny_Match (thn (he.run pins s σ H _ I q) fun u s1 ⟨v, H1, I1, rv, x, ev, q1⟩ => ?_)
  subst ev
  obtain ⟨t, rfl⟩ := rv
  exact run_cases h pins s1 σ H1 D x t true I1 q1
/-- over data -/
def casesW : List (List Nat × TSp) → List Nat → TSp
  | [], _, P, Γ => P.nx Γ
  | (c, b) :: r, s, P, Γ => if s = c then b P Γ else casesW r s P Γ
def tsMatch (t : TP) (l : List (List Nat × TSp)) : TSp := fun P Γ => t Γ (fun d => match d with
  | .str s => casesW l s P Γ
  | _ => False) (fun x => P.xx x Γ)
inductive MCp (X : Cx) (W : WX) : List MatchCase → List (List Nat × TSp) → Prop where
  | nil : MCp X W [] []
  | cons (s : List Nat) {c : PySem.Str} {j : Nat} {p q : Pos} {body : List Stmt} {ts : TSp} {r : List MatchCase} {l : List (List Nat × TSp)} (hb : PSS X W body ts) (hr : MCp X W r l) (h : c.cps.toList = s := by decide) : MCp X W (⟨.MatchValue (.Constant (.str c) j p) q, none, body⟩ :: r) ((s, ts) :: l)
theorem mcp_ex {cs : List MatchCase} {l : List (List Nat × TSp)} (h : MCp X W cs l) : ∃ l', MCs X cs l' ∧ ∀ (G0 H0 : Hp) (Γ : Ga) (σ : L2.St) (G H : Hp) (P : PEn) (E : Ends) (s : List Nat), Fr X.K G0 H0 Γ σ G H → casesW l s P Γ → EOk X.K W G0 H0 P E → tCases l' (SS s) E σ H := by
  induction h with
  | nil => exact ⟨[], .nil, fun G0 H0 Γ σ G H P E s F ht ok => ok.nx Γ σ G H ht F⟩
  | @cons s0 c j p q body ts r l hb hr h ih =>
    obtain ⟨l', m, rd⟩ := ih
    obtain ⟨tb, pb, rb⟩ := hb.ex
    refine ⟨(c, tb) :: l', .cons pb m, fun G0 H0 Γ σ G H P E s F ht ok => ?_⟩
    have ec : c = SS s0 := by rw [← h]
    have ht : (if s = s0 then ts P Γ else casesW l s P Γ) := ht
    show (if SS s = c then _ else _)
    by_cases e : s = s0
    · rw [if_pos e] at ht
      rw [if_pos (by rw [e, ec])]
      exact rb G0 H0 Γ σ G H P E F ht ok
    · rw [if_neg e] at ht
      rw [if_neg (fun z => e (by rw [ec] at z; have := congrArg (fun x : PySem.Str => x.cps.toList) z; simpa [SS] using this))]
      exact rd G0 H0 Γ σ G H P E s F ht ok
theorem s_match {cs : List MatchCase} {l : List (List Nat × TSp)} (he : PP X W e t) (h : MCp X W cs l) : PS1 X W (.Match e cs pos) (tsMatch t l) := by
  obtain ⟨te, pe, re⟩ := he.ex
  obtain ⟨l', m, rd⟩ := mcp_ex h
  refine ⟨_, ps_match pe m, fun G0 H0 Γ σ G H P E F ht ok => ?_⟩
  refine re G0 H0 Γ σ G H _ _ _ F ht (fun d v G1 H1 k1 x1 n1 => ?_) (ok.x F)
  cases d with
  | str s =>
    cases n1
    exact ⟨SS s, rfl, rd G0 H0 Γ σ G1 H1 P E s (F.up x1) k1 ok⟩
  | _ => exact k1.elim
end
end PL
set_option Elab.async false
set_option linter.all false
set_option maxRecDepth 100000
set_option maxHeartbeats 4000000
namespace PL
open PySem L2 PyProof.Rows
variable [Tabl]
theorem hole_tab {H : Hp} {p P C d : Addr} {fvs : List (PySem.Str × V)} {q : PySem.Str} (t : LamX.TabS H P q) (hp : H p = some (.ins C d fvs)) : LamX.TabS (hole H p) P q := by
  have at_ : ∀ {a : Addr} {o : HO}, H a = some o → o ≠ .ins C d fvs → hole H p a = some o := fun {a o} e n1 => by
    rw [hole_ne (fun z => by rw [z, hp] at e; exact n1 (Option.some.inj e).symm)]
    exact e
  obtain ⟨ps, h1, h2, h3⟩ := t
  refine ⟨ps, at_ h1 (fun z => nomatch z), h2, fun pos cv hc => ?_⟩
  obtain ⟨c, e1, e2⟩ := h3 pos cv hc
  exact ⟨c, e1, at_ e2 (fun z => by unfold LamX.CodeO at z; cases z)⟩
theorem made_specN {K : PySem.W.Frag} {C : Addr} {g : FSo} {n : Nat} {G H H0 : Hp} {vs : List V} {ds : List D} {k : KD} {kx : KX} {Q : VK} {E : XK} (s : Sub G H) (nd : DenL K G vs ds) (hl : ds.length = n) (hg : g (.ins C [] :: ds) (fun d y => d = .non ∧ onIns y k) kx) (h0 : ∀ a, H a = none → H0 a = none)
    (hk : ∀ d G' H' p o, k d → Ext G H G' H' → H' p = none → OwnAt K H0 G' (upd H' p o) p d → Q (.ref p) (upd H' p o)) (hx : ∀ x cls dA G' H', kx x → Ext G H G' H' → XDen K G' H' cls dA x → E cls dA H') :
    ∀ x dx, H x = none → H dx = none → dx ≠ x → spOi K (n + 1) g (.ref x :: vs) (upd (upd H dx (.own x)) x (.ins C dx [])) (fun v H2 => v = .non ∧ Q (.ref x) H2) E := by
  intro x dx hx0 hd0 ne
  have gx := s.none hx0
  have gd := s.none hd0
  have eh : hole2 (upd (upd H dx (.own x)) x (.ins C dx [])) x dx = H := by
    funext a
    by_cases a1 : a = x
    · rw [a1, hole2_p, hx0]
    · by_cases a2 : a = dx
      · rw [a2, hole2_d, hd0]
      · rw [hole2_ne a1 a2, upd_ne a1, upd_ne a2]
  have s2 : Same H (upd (upd H dx (.own x)) x (.ins C dx [])) := fun a o e => by
    rw [upd_ne (ne_of_none e hx0), upd_ne (ne_of_none e hd0)]
    exact e
  refine ⟨G, .ins C [] :: ds, _, kx, x, dx, C, [], [], by rw [List.length_cons, nd.length, hl], by rw [List.length_cons, hl], s.up s2, gx, gd, rfl, rfl, upd_same, by rw [upd_ne ne, upd_same], .nil, fun i v d hi hv hd => ?_, hg, fun d y v G' H' kk ex gp o dn => ?_, fun z cls dA G' H' kk ex nz => ?_⟩
  · match i, hi with
    | i + 1, _ =>
      rw [List.getElem?_cons_succ] at hv hd
      obtain ⟨d', e', n'⟩ := nd.gv hv
      rw [hd] at e'
      cases e'
      exact n'
  · rw [eh] at ex o
    obtain ⟨rfl, ky⟩ := kk
    cases dn
    refine ⟨rfl, ?_⟩
    cases y with
    | ins C' fs =>
      obtain ⟨dx', fvs, o1, o2, o3, o4, o5⟩ := o
      have ne' : dx' ≠ x := fun z => by rw [z, o1] at o2; cases o2
      have e2 : upd (hole H' x) x (.ins C' dx' fvs) = H' := by
        funext a
        by_cases a1 : a = x
        · rw [a1, upd_same, o1]
        · rw [upd_ne a1, hole_ne a1]
      have key := hk (.ins C' fs) G' (hole H' x) x (.ins C' dx' fvs) ky ⟨⟨fun a u e n => ?_, fun a u e => ?_, fun t q hq => ?_⟩, ex.g, fun a q ⟨u, e⟩ => ex.nw a q ⟨u, e⟩, ⟨fun a u e => ?_, ex.sub.nt, fun q hq => ?_⟩⟩ hole_at
      · rw [e2] at key
        exact key ⟨dx', fvs, o1, o2, o3, h0 _ o4, o5⟩
      · rw [hole_ne (ne_of_none e hx0)]
        exact ex.h.k a u e n
      · rw [hole_ne (ne_of_none e hx0)]
        exact ex.h.t a u e
      · exact hole_tab (ex.h.tb t q hq) o1
      · have n1 : a ≠ x := fun z => by rw [z, gp] at e; cases e
        rw [hole_ne n1]
        exact ex.sub.m a u e
      · exact hole_tab (ex.sub.tb q hq) o1
    | _ => exact ky.elim
  · rw [eh] at ex
    exact hx z cls dA G' H' kk ex nz
section
variable {X : Cx} {W : WX} {e : Expr} {es : List Expr} {tl : TL} {x : PySem.Str} {pos p : Pos} {k n j : Nat} {C : Addr} {g : FSo}
theorem n_make (M : MkI X.prog X.w X.K X.mg X.base C k n g) (hr : Room j X.A) (hj : k + 1 ≤ j) (tk : Takes X W) (hm : X.mg x = some (.ref C)) (ha : PL' X W (e :: es) tl) (hg : Gl X x := by rfl) (hdb : (x == ("__debug__" : PySem.Str)) = false := by decide)
    (hst : starEach (e :: es) X.env = (false, eval e X.env) :: starEach es X.env := by rfl) (hpl : (backTo pos (starEach es X.env)).any (·.1) = false := by rfl) : PN X W (.Call (.Name x p) (e :: es) [] pos) (tpMake C g n tl) := by
  obtain ⟨ea, pa, ra⟩ := ha.ex
  obtain ⟨f, mk, R⟩ := M.ex
  refine ⟨fun σ H Q => ea σ H fun vs H1 => ∀ x dx, H1 x = none → H1 dx = none → dx ≠ x → spOi X.K (n + 1) g (.ref x :: vs) (upd (upd H1 dx (.own x)) x (.ins C dx [])) (fun v H2 => v = .non ∧ Q (.ref x) H2) (WE W σ), ⟨fun pins s σ H Q I h => ?_⟩, fun G0 H0 Γ σ G H kd kx Q F ht hk hx => ?_⟩
  · refine wpAny_Call_Name_kw (ld_glob I hg hm ?_ hdb)
    refine PySem.W.callWith_K (h₀ := X.base) I.ok.mod.kin mk.kp (thn (pa.run pos pins s σ H _ I h) fun us s1 ⟨vs, H1, I1, r, q⟩ => ⟨I1.kIn, ?_⟩) hst hpl
    exact run_makeS mk R (hr.mono hj) (passAt tk σ) I1 r q
  · refine ra G0 H0 Γ σ G H _ kx _ F ht (fun ds vs G1 H1 k1 x1 n1 => ?_) hx
    exact made_specN x1.sub n1 k1.1 k1.2 (fun a z => (F.up x1).e.h.free z) (fun d G' H' p o kk ex hn ow => hk d G' H' p o kk (x1.trans ex) hn ow) (fun y cls dA G' H' kk ex dn => hx y cls dA G' H' kk (x1.trans ex) dn)
end
def fIntS : F1
  | .str s, k => ∃ n : Int, PySem.intText? (SS s) = some n ∧ s.length ≤ 640 ∧ k (.int n)
  | _, _ => False
def rIntS : List V → Hp → VK → Prop := fun xs H Q => ∃ a n, xs = [.str a] ∧ PySem.intText? a = some n ∧ a.length ≤ 640 ∧ Q (.int n) H
theorem c_intS {X : Cx} : CallR X (.type "int") rIntS ∧ RdC1 X.K rIntS fIntS := by
  refine ⟨call_int_str, fun H0 G H v d k Q s n h hk => ?_⟩
  cases d with
  | str l =>
    obtain ⟨z, h1, h2, h3⟩ := h
    exact ⟨SS l, z, by rw [n.str], h1, by rw [ss_length]; exact h2, hk _ _ G H h3 (Ext.refl s) (.int _)⟩
  | _ => exact h.elim
end PL
set_option Elab.async false
set_option linter.all false
set_option maxRecDepth 100000
set_option maxHeartbeats 4000000
namespace PL
open PySem L2
def m_is_name : FS := fun ds k kx =>
  (tsRet (tpAnd (tp1 (fIsi "str") (tpVar 0)) (tpAnd (tpChain fLe fLe (tpC (.int 1)) (tp1 fLenS (tpVar 0)) (tpC (.int 6))) (tp1 fAll (tpLc [1] (tiStr (tpVar 0)) (tgName 1) tbYes (tpOp fInS (tpVar 1) (tpC (.str [65, 66, 67, 68, 69, 70, 71, 72, 73, 74, 75, 76, 77, 78, 79, 80, 81, 82, 83, 84, 85, 86, 87, 88, 89, 90]))))))))
  (fEnds k kx) (ga0 2 ds)
def m_is_row : FS := fun ds k kx =>
  (tsSeq (tsIf (tbV (tpOp fEq (tpVar 0) (tpC (.str [101, 105, 116, 104, 101, 114]))))
    (tsRet (tpC (.bl true)))
    tsNext)
    (tsSeq (tsSet 2 (tpLc [3] (tiTup (tpVar 1)) (tgName 3) tbYes (tpOp fEq (tpOp fIx (tpVar 3) (tpC (.int 0))) (tpC (.str [100, 101, 101, 100, 115])))))
    (tsSeq (tsIf (tbV (tp1 fAny (tpLc [3] (tiTup (tpVar 1)) (tgName 3) tbYes (tpOr (tpOp fEq (tpOp fIx (tpVar 3) (tpC (.int 0))) (tpC (.str [116, 104, 101, 110]))) (tpOp fEq (tpVar 3) (tpTup (tlCons (tpC (.str [100, 101, 101, 100, 115])) (tlCons (tpC (.str [])) tlNil))))))))
    (tsRet (tpC (.bl false)))
    tsNext)
    (tsRet (tpNot (tp1 fAny (tpLc [4] (tiRng2 (tlCons (tpC (.int 1)) (tlCons (tp1 fLenS (tpVar 2)) tlNil))) (tgName 4) tbYes (tpAnd (tpOp fIx (tpVar 2) (tpOp fSub (tpVar 4) (tpC (.int 1)))) (tpOp fIx (tpVar 2) (tpVar 4))))))))))
  (fEnds k kx) (ga0 5 ds)
def m_is_tree (fs_is_log fs_is_name fs_is_tree fs_is_within fs_is_row : FS) : FS := fun ds k kx =>
  (tsSeq (tsIf (tbOr (tbV (tpOp fEq (tpVar 1) (tpC (.int 0)))) (tbOr (tbNot (tbV (tp1 (fIsi "tuple") (tpVar 0)))) (tbOr (tbV (tpOp fLt (tp1 fLenS (tpVar 0)) (tpC (.int 2)))) (tbNot (tbV (tp1 (fIsi "str") (tpOp fIx (tpVar 0) (tpC (.int 0)))))))))
    (tsRet (tpC (.bl false)))
    tsNext)
    (tsSeq (tsSet 2 (tpOp fIx (tpVar 0) (tpC (.int 0))))
    (tsSeq (tsIf (tbV (tpOp fEq (tpVar 2) (tpC (.str [100, 101, 101, 100, 115]))))
    (tsRet (tpAnd (tpOp fEq (tp1 fLenS (tpVar 0)) (tpC (.int 2))) (tpCall 1 fs_is_log (tlCons (tpOp fIx (tpVar 0) (tpC (.int 1))) tlNil))))
    tsNext)
    (tsSeq (tsIf (tbV (tpOp fEq (tpVar 2) (tpC (.str [110, 97, 109, 101]))))
    (tsRet (tpAnd (tpOp fEq (tp1 fLenS (tpVar 0)) (tpC (.int 2))) (tpCall 1 fs_is_name (tlCons (tpOp fIx (tpVar 0) (tpC (.int 1))) tlNil))))
    tsNext)
    (tsSeq (tsIf (tbV (tpOp fEq (tpVar 2) (tpC (.str [97, 103, 97, 105, 110]))))
    (tsRet (tpAnd (tpOp fEq (tp1 fLenS (tpVar 0)) (tpC (.int 2))) (tpCall 2 fs_is_tree (tlCons (tpOp fIx (tpVar 0) (tpC (.int 1))) (tlCons (tpOp fSub (tpVar 1) (tpC (.int 1))) tlNil)))))
    tsNext)
    (tsSeq (tsIf (tbV (tpOp fEq (tpVar 2) (tpC (.str [116, 105, 109, 101, 115]))))
    (tsRet (tpAnd (tpOp fEq (tp1 fLenS (tpVar 0)) (tpC (.int 3))) (tpAnd (tpCall 2 fs_is_tree (tlCons (tpOp fIx (tpVar 0) (tpC (.int 1))) (tlCons (tpOp fSub (tpVar 1) (tpC (.int 1))) tlNil))) (tpCall 3 fs_is_within (tlCons (tpOp fIx (tpVar 0) (tpC (.int 2))) (tlCons (tpC (.int 0)) (tlCons (tpC (.int 1000000000000000000000000000000)) tlNil)))))))
    tsNext)
    (tsSeq (tsIf (tbOr (tbV (tpOp (fInD true) (tpVar 2) (tpTup (tlCons (tpC (.str [116, 104, 101, 110])) (tlCons (tpC (.str [101, 105, 116, 104, 101, 114])) tlNil))))) (tbNot (tbV (tpChain fLe fLe (tpC (.int 3)) (tp1 fLenS (tpVar 0)) (tpOp fAdd (tpC (.int 20)) (tpC (.int 1)))))))
    (tsRet (tpC (.bl false)))
    tsNext)
    (tsRet (tpAnd (tp1 fAll (tpLc [3] (tiTup (tpSl (tpVar 0) (toSome (tpC (.int 1))) toNo)) (tgName 3) tbYes (tpCall 2 fs_is_tree (tlCons (tpVar 3) (tlCons (tpOp fSub (tpVar 1) (tpC (.int 1))) tlNil))))) (tpCall 2 fs_is_row (tlCons (tpVar 2) (tlCons (tpSl (tpVar 0) (toSome (tpC (.int 1))) toNo) tlNil))))))))))))
  (fEnds k kx) (ga0 4 ds)
def m_need_tree (C_InvalidTree : Addr) (fs_is_tree : FS) : FS := fun ds k kx =>
  (tsIf (tbNot (tbV (tpCall 1 fs_is_tree (tlCons (tpVar 0) tlNil))))
    (tsRaise0 C_InvalidTree "InvalidTree")
    tsNext)
  (fEnds k kx) (ga0 1 ds)
def m_text_of (fs_text_of : FS) : FS := fun ds k kx =>
  (tsSeq (tsMatch (tpOp fIx (tpVar 0) (tpC (.int 0))) [([100, 101, 101, 100, 115], (tsRet (tpIf (tbV (tpOp fNe (tpOp fIx (tpVar 0) (tpC (.int 1))) (tpC (.str [])))) (tpOp fIx (tpVar 0) (tpC (.int 1))) (tpC (.str [45]))))),
    ([110, 97, 109, 101], (tsRet (tpOp fIx (tpVar 0) (tpC (.int 1))))),
    ([116, 104, 101, 110], (tsRet (tpJoin (tpC (.str [46])) (tpLc [1] (tiTup (tpSl (tpVar 0) (toSome (tpC (.int 1))) toNo)) (tgName 1) tbYes (tpCall 1 fs_text_of (tlCons (tpVar 1) tlNil)))))),
    ([101, 105, 116, 104, 101, 114], (tsRet (tpJs [(tpC (.str [40])), (tpFmt (tpJoin (tpC (.str [124])) (tpLc [1] (tiTup (tpSl (tpVar 0) (toSome (tpC (.int 1))) toNo)) (tgName 1) tbYes (tpCall 1 fs_text_of (tlCons (tpVar 1) tlNil))))), (tpC (.str [41]))] [])))])
    (tsSeq (tsSet 2 (tpIf (tbV (tpOp fEq (tpOp fIx (tpOp fIx (tpVar 0) (tpC (.int 1))) (tpC (.int 0))) (tpC (.str [116, 104, 101, 110])))) (tpJs [(tpC (.str [40])), (tpFmt (tpCall 1 fs_text_of (tlCons (tpOp fIx (tpVar 0) (tpC (.int 1))) tlNil))), (tpC (.str [41]))] []) (tpCall 1 fs_text_of (tlCons (tpOp fIx (tpVar 0) (tpC (.int 1))) tlNil))))
    (tsRet (tpIf (tbV (tpOp fEq (tpOp fIx (tpVar 0) (tpC (.int 0))) (tpC (.str [116, 105, 109, 101, 115])))) (tpJs [(tpFmt (tpVar 2)), (tpC (.str [94])), (tpFmt (tpOp fIx (tpVar 0) (tpC (.int 2))))] []) (tpJs [(tpFmt (tpVar 2)), (tpC (.str [94, 42]))] [])))))
  (fEnds k kx) (ga0 3 ds)
def m_script_text (fs_need_tree fs_text_of : FS) : FS := fun ds k kx =>
  (tsSeq (tsDrop (tpCall 1 fs_need_tree (tlCons (tpVar 0) tlNil)))
    (tsRet (tpCall 1 fs_text_of (tlCons (tpVar 0) tlNil))))
  (fEnds k kx) (ga0 1 ds)
def m_Reader___init__ (C_Reader : Addr) : FSo := fun ds k kx => ∀ p,
  (tsSetF [C_Reader] 0 "text_left" (tpVar 1))
  (iEnds p k kx) (gaO 2 0 p ds)
def m_Reader_run (C_Reader : Addr) : FSo := fun ds k kx => ∀ p,
  (tsSeq (tsSet 2 (tpC (.int 0)))
    (tsSeq (tsWhile (tbAnd (tbV (tpOp fLt (tpVar 2) (tp1 fLenS (tpFld [C_Reader] "text_left" (tpVarU 0))))) (tbV (tpOp fInS (tpOp fIx (tpFld [C_Reader] "text_left" (tpVarU 0)) (tpVar 2)) (tpVar 1))))
    (tsAug 2 (fun i j => i + j) (tpC (.int 1))))
    (tsSeq (tsSet 3 (tpSl (tpFld [C_Reader] "text_left" (tpVarU 0)) toNo (toSome (tpVar 2))))
    (tsSeq (tsSetF [C_Reader] 0 "text_left" (tpSl (tpFld [C_Reader] "text_left" (tpVarU 0)) (toSome (tpVar 2)) toNo))
    (tsRet (tpVar 3))))))
  (iEnds p k kx) (gaO 4 0 p ds)
def m_Reader_passed (C_Reader : Addr) : FSo := fun ds k kx => ∀ p,
  (tsSeq (tsIf (tbV (tpOp fNe (tpSl (tpFld [C_Reader] "text_left" (tpVarU 0)) toNo (toSome (tpC (.int 1)))) (tpVar 1)))
    (tsRet (tpC (.bl false)))
    tsNext)
    (tsSeq (tsSetF [C_Reader] 0 "text_left" (tpSl (tpFld [C_Reader] "text_left" (tpVarU 0)) (toSome (tpC (.int 1))) toNo))
    (tsRet (tpC (.bl true)))))
  (iEnds p k kx) (gaO 2 0 p ds)
def m_Reader_atom (C_InvalidText C_Reader : Addr) (fs_is_name : FS) (gs_Reader_passed gs_Reader_row gs_Reader_run : FSo) : FSo := fun ds k kx => ∀ p,
  (tsSeq (tsIf (tbV (tpOp fEq (tpVar 1) (tpC (.int 0))))
    (tsRaise0 C_InvalidText "InvalidText")
    tsNext)
    (tsSeq (tsIfZ (tbzV (tzMeth 0 [(C_Reader, gs_Reader_passed)] "passed" 1 (tlCons (tpC (.str [40])) tlNil)))
    (tsSeq (tsOwn1Z 2 (tzMeth 0 [(C_Reader, gs_Reader_row)] "row" 1 (tlCons (tpOp fSub (tpVar 1) (tpC (.int 1))) tlNil)))
    (tsSeq (tsWhileZ (tbzV (tzMeth 0 [(C_Reader, gs_Reader_passed)] "passed" 1 (tlCons (tpC (.str [124])) tlNil)))
    (tsAppZ 2 (tzMeth 0 [(C_Reader, gs_Reader_row)] "row" 1 (tlCons (tpOp fSub (tpVar 1) (tpC (.int 1))) tlNil))))
    (tsSeq (tsIfZ (tbzNot (tbzV (tzMeth 0 [(C_Reader, gs_Reader_passed)] "passed" 1 (tlCons (tpC (.str [41])) tlNil))))
    (tsRaise0 C_InvalidText "InvalidText")
    tsNext)
    (tsRet (tpIf (tbV (tpOp fGt (tp1 fLenS (tpVarU 2)) (tpC (.int 1)))) (tpTup (tlCons (tpC (.str [101, 105, 116, 104, 101, 114])) (tlStar (tpVarU 2) tlNil))) (tpOp fIx (tpVarU 2) (tpC (.int 0))))))))
    tsNext)
    (tsSeq (tsIfZ (tbzV (tzMeth 0 [(C_Reader, gs_Reader_passed)] "passed" 1 (tlCons (tpC (.str [45])) tlNil)))
    (tsRet (tpTup (tlCons (tpC (.str [100, 101, 101, 100, 115])) (tlCons (tpC (.str [])) tlNil))))
    tsNext)
    (tsSeq (tsSetZ 3 (tzMeth 0 [(C_Reader, gs_Reader_run)] "run" 1 (tlCons (tpC (.str [97, 98, 99, 100, 101, 102, 103, 104, 105, 106, 107, 108, 109, 110, 111, 112, 113, 114, 115, 116, 117, 118, 119, 120, 121, 122])) tlNil)))
    (tsSeq (tsIf (tbV (tpOp fNe (tpVar 3) (tpC (.str []))))
    (tsRet (tpTup (tlCons (tpC (.str [100, 101, 101, 100, 115])) (tlCons (tpVar 3) tlNil))))
    tsNext)
    (tsSeq (tsSetZ 4 (tzMeth 0 [(C_Reader, gs_Reader_run)] "run" 1 (tlCons (tpC (.str [65, 66, 67, 68, 69, 70, 71, 72, 73, 74, 75, 76, 77, 78, 79, 80, 81, 82, 83, 84, 85, 86, 87, 88, 89, 90])) tlNil)))
    (tsSeq (tsIf (tbNot (tbV (tpCall 1 fs_is_name (tlCons (tpVar 4) tlNil))))
    (tsRaise0 C_InvalidText "InvalidText")
    tsNext)
    (tsRet (tpTup (tlCons (tpC (.str [110, 97, 109, 101])) (tlCons (tpVar 4) tlNil)))))))))))
  (iEnds p k kx) (gaO 5 0 p ds)
def m_Reader_powers (C_InvalidText C_Reader : Addr) (gs_Reader_atom gs_Reader_passed gs_Reader_run : FSo) : FSo := fun ds k kx => ∀ p,
  (tsSeq (tsPar2Z 2 3 (tzMeth 0 [(C_Reader, gs_Reader_atom)] "atom" 1 (tlCons (tpVar 1) tlNil)) (tpC (.int 0)))
    (tsSeq (tsWhileZ (tbzV (tzMeth 0 [(C_Reader, gs_Reader_passed)] "passed" 1 (tlCons (tpC (.str [94])) tlNil)))
    (tsSeq (tsAug 3 (fun i j => i + j) (tpC (.int 1)))
    (tsSeq (tsIf (tbV (tpOp fGt (tpVar 3) (tpC (.int 12))))
    (tsRaise0 C_InvalidText "InvalidText")
    tsNext)
    (tsSeq (tsIfZ (tbzV (tzMeth 0 [(C_Reader, gs_Reader_passed)] "passed" 1 (tlCons (tpC (.str [42])) tlNil)))
    (tsSeq (tsSet 2 (tpTup (tlCons (tpC (.str [97, 103, 97, 105, 110])) (tlCons (tpVar 2) tlNil))))
    tsCont)
    tsNext)
    (tsSeq (tsSetZ 4 (tzMeth 0 [(C_Reader, gs_Reader_run)] "run" 1 (tlCons (tpC (.str [48, 49, 50, 51, 52, 53, 54, 55, 56, 57])) tlNil)))
    (tsSeq (tsIf (tbOr (tbNot (tbV (tpChain fLe fLe (tpC (.int 1)) (tp1 fLenS (tpVar 4)) (tpC (.int 31))))) (tbAnd (tbV (tpOp fEq (tpOp fIx (tpVar 4) (tpC (.int 0))) (tpC (.str [48])))) (tbV (tpOp fNe (tpVar 4) (tpC (.str [48]))))))
    (tsRaise0 C_InvalidText "InvalidText")
    tsNext)
    (tsSet 2 (tpTup (tlCons (tpC (.str [116, 105, 109, 101, 115])) (tlCons (tpVar 2) (tlCons (tp1 fIntS (tpVar 4)) tlNil)))))))))))
    (tsRet (tpVar 2))))
  (iEnds p k kx) (gaO 5 0 p ds)
def m_Reader_row (C_Reader : Addr) (gs_Reader_powers gs_Reader_passed : FSo) : FSo := fun ds k kx => ∀ p,
  (tsSeq (tsOwn1Z 2 (tzMeth 0 [(C_Reader, gs_Reader_powers)] "powers" 1 (tlCons (tpVar 1) tlNil)))
    (tsSeq (tsWhileZ (tbzV (tzMeth 0 [(C_Reader, gs_Reader_passed)] "passed" 1 (tlCons (tpC (.str [46])) tlNil)))
    (tsAppZ 2 (tzMeth 0 [(C_Reader, gs_Reader_powers)] "powers" 1 (tlCons (tpVar 1) tlNil))))
    (tsRet (tpIf (tbV (tpOp fGt (tp1 fLenS (tpVarU 2)) (tpC (.int 1)))) (tpTup (tlCons (tpC (.str [116, 104, 101, 110])) (tlStar (tpVarU 2) tlNil))) (tpOp fIx (tpVarU 2) (tpC (.int 0)))))))
  (iEnds p k kx) (gaO 3 0 p ds)
def m_read_script (C_InvalidText C_Reader : Addr) (fs_text_of fs_is_tree : FS) (g_Reader gs_Reader_row : FSo) : FS := fun ds k kx =>
  (tsSeq (tsIf (tbNot (tbV (tp1 (fIsi "str") (tpVar 0))))
    (tsRaise0 C_InvalidText "InvalidText")
    tsNext)
    (tsSeq (tsOwn 1 (tpMake C_Reader g_Reader 1 (tlCons (tpVar 0) tlNil)))
    (tsSeq (tsSetZ 2 (tzMeth 1 [(C_Reader, gs_Reader_row)] "row" 1 (tlCons (tpOp fAdd (tpC (.int 12)) (tpC (.int 1))) tlNil)))
    (tsSeq (tsIf (tbOr (tbV (tpOp fNe (tpFld [C_Reader] "text_left" (tpVarU 1)) (tpC (.str [])))) (tbOr (tbNot (tbV (tpCall 1 fs_is_tree (tlCons (tpVar 2) tlNil)))) (tbV (tpOp fNe (tpCall 1 fs_text_of (tlCons (tpVar 2) tlNil)) (tpVar 0)))))
    (tsRaise0 C_InvalidText "InvalidText")
    tsNext)
    (tsRet (tpVar 2))))))
  (fEnds k kx) (ga0 3 ds)
def m_law_script (fs_law_script : FS) : FS := fun ds k kx =>
  (tsSeq (tsSet 1 (tpOp fIx (tpVar 0) (tpC (.int 0))))
    (tsSeq (tsIf (tbV (tpOp fEq (tpVar 1) (tpC (.str [100, 101, 101, 100, 115]))))
    (tsRet (tpIf (tbV (tpOp fEq (tpOp fIx (tpVar 0) (tpC (.int 1))) (tpC (.str [])))) (tpC (.str [45])) (tpOp fIx (tpVar 0) (tpC (.int 1)))))
    tsNext)
    (tsSeq (tsIf (tbV (tpOp fEq (tpVar 1) (tpC (.str [110, 97, 109, 101]))))
    (tsRet (tpOp fIx (tpVar 0) (tpC (.int 1))))
    tsNext)
    (tsSeq (tsIf (tbV (tpOp fEq (tpVar 1) (tpC (.str [116, 104, 101, 110]))))
    (tsRet (tpJoin (tpC (.str [46])) (tpLc [2] (tiTup (tpSl (tpVar 0) (toSome (tpC (.int 1))) toNo)) (tgName 2) tbYes (tpCall 1 fs_law_script (tlCons (tpVar 2) tlNil)))))
    tsNext)
    (tsSeq (tsIf (tbV (tpOp fEq (tpVar 1) (tpC (.str [101, 105, 116, 104, 101, 114]))))
    (tsRet (tpOp fAdd (tpOp fAdd (tpC (.str [40])) (tpJoin (tpC (.str [124])) (tpLc [2] (tiTup (tpSl (tpVar 0) (toSome (tpC (.int 1))) toNo)) (tgName 2) tbYes (tpCall 1 fs_law_script (tlCons (tpVar 2) tlNil))))) (tpC (.str [41]))))
    tsNext)
    (tsSeq (tsSet 3 (tpCall 1 fs_law_script (tlCons (tpOp fIx (tpVar 0) (tpC (.int 1))) tlNil)))
    (tsSeq (tsSet 3 (tpIf (tbV (tpOp fEq (tpOp fIx (tpOp fIx (tpVar 0) (tpC (.int 1))) (tpC (.int 0))) (tpC (.str [116, 104, 101, 110])))) (tpOp fAdd (tpOp fAdd (tpC (.str [40])) (tpVar 3)) (tpC (.str [41]))) (tpVar 3)))
    (tsRet (tpOp fAdd (tpOp fAdd (tpVar 3) (tpC (.str [94]))) (tpIf (tbV (tpOp fEq (tpVar 1) (tpC (.str [97, 103, 97, 105, 110])))) (tpC (.str [42])) (tp1 fStrAny (tpOp fIx (tpVar 0) (tpC (.int 2))))))))))))))
  (fEnds k kx) (ga0 4 ds)
end PL
set_option Elab.async false
set_option linter.all false
set_option maxRecDepth 100000
set_option maxHeartbeats 4000000
namespace PL
open PySem L2
def cnt : Nat → Nat
  | 0 => 1
  | 1 => 1
  | n + 2 => ((n + 2) * cnt (n + 1)) ^ 2
end PL
set_option Elab.async false
set_option linter.all false
set_option maxRecDepth 100000
set_option maxHeartbeats 4000000
set_option exponentiation.threshold 4000
namespace PL
open PySem L2
section
variable {ds : List D} {kd : KD} {kx : KX} {C : Addr}
local instance : Tabl := ⟨[], fun p hp => absurd hp (by simp)⟩
end
end PL
set_option Elab.async false
set_option linter.all false
set_option maxRecDepth 100000
set_option maxHeartbeats 4000000
set_option exponentiation.threshold 4000
namespace PL
open PySem L2
section
variable {ds : List D} {kd : KD} {kx : KX} {C : Addr}
local instance : Tabl := ⟨[], fun p hp => absurd hp (by simp)⟩
end
end PL
set_option Elab.async false
set_option linter.all false
set_option maxRecDepth 100000
set_option maxHeartbeats 4000000
set_option exponentiation.threshold 4000
namespace PL
open PySem L2
section
variable {ds : List D} {kd : KD} {kx : KX} {C : Addr}
local instance : Tabl := ⟨[], fun p hp => absurd hp (by simp)⟩
end
end PL
set_option Elab.async false
set_option linter.all false
set_option maxRecDepth 100000
set_option maxHeartbeats 4000000
set_option exponentiation.threshold 4000
namespace PL
open PySem L2
section
variable {ds : List D} {kd : KD} {kx : KX} {C : Addr}
local instance : Tabl := ⟨[], fun p hp => absurd hp (by simp)⟩
end
end PL
set_option Elab.async false
set_option linter.all false
set_option maxRecDepth 100000
set_option maxHeartbeats 4000000
set_option exponentiation.threshold 4000
namespace PL
open PySem L2
variable [Tabl]
section
variable {P : Program} {w : World} {K : PySem.W.Frag} {mg : PySem.Str → Option Value} {base : Heap}
def fsPullW : FS := fun ds k _ => match ds with
  | [.bag, .int n] => (1 ≤ n ∧ n < 2 ^ 900) ∧ ∀ r : Int, 0 ≤ r → r < n → k (.int r)
  | _ => False
theorem pullW_of {ds : List D} {k : KD} {kx : KX} (h : fsPull ds k kx) : fsPullW ds k kx := by
  match ds, h with
  | [.bag, .int n], ⟨⟨h1, h2⟩, h⟩ => exact ⟨⟨h1, Int.lt_trans h2 (by decide)⟩, h⟩
def PullOkW (fs : FSo) : Prop := ∀ (l : Addr) (ns : List Int) (i : Nat) (g s n : Int) (k : D → D → Prop), ns.length ≤ 63 → i ≤ ns.length → 0 ≤ g → 0 ≤ s → s < 2147483543 → 1 ≤ n → n < 2 ^ 900 →
  (∀ (r : Int) (i' : Nat) (g' s' : Int), 0 ≤ r → r < n → i' ≤ ns.length → 0 ≤ g' → 0 ≤ s' → s' < 2147483543 → k (.int r) (.lst [.cel l ns, .int i', .int g', .int s'])) →
  fs [.lst [.cel l ns, .int i, .int g, .int s], .int n] k (fun _ => False)
theorem pull_convW {f : Addr} {fd : FuncData} {ps : List PySem.Str} {k : Nat} {fs : FSo} (F : FnOk P w K mg base (L2.CX P w) k f fd ps (spOw K 2 0 fs)) (hn : ps.length = 2) (hp : PullOkW fs) : FnOk P w K mg base (L2.CX P w) k f fd ps (spOf K 2 fsPullW) := by
  refine ⟨fun vs H Q E h => ?_, fun A outer s H args us vs Q E hr he hb hv h => ?_⟩
  · obtain ⟨G, ds, kd, kx, _, b, c, _⟩ := h
    rw [b.length, c, hn]
  · obtain ⟨G, ds, kd, kx, sb, r, hl, hf, hk, hx⟩ := h
    match ds, r, hf with
    | [.bag, .int n], .cons (.bag (a := b) ⟨l, ns, gb, gl, nbl, n63⟩) (.cons (.int _) .nil), ⟨⟨hn1, hn2⟩, hf⟩ =>
      have Hb : H b = some (.ext (BagRaw b l ns.length)) := sb.at_ gb (fun z => z)
      have Hl : H l = some (.lst (ns.map V.int)) := sb.at_ gl (fun z => z)
      obtain ⟨i, g, sd, a1, a2, a3, a4, ok1⟩ := bag_open he.hok Hb
      have nb : ∀ {c}, H c = none → c ≠ b := fun {c} z y => by rw [y, Hb] at z; cases z
      have e1 : Env0 P w K mg base A outer s (upd H b (.lst [.ref l, .int i, .int g, .int sd])) :=
        ⟨he.frames, he.mod, fun c o q => ⟨(he.bs c o q).1, by rw [upd_ne (nb (he.bs c o q).2)]; exact (he.bs c o q).2⟩, he.bsz, he.funs, fun c q => by rw [upd_ne (nb (he.frf c q))]; exact he.frf c q, ok1, he.bare⟩
      have g1 : hole G b b = none := hole_at
      have gl1 : hole G b l = some (.lst (ns.map V.int)) := by rw [hole_ne (Ne.symm nbl)]; exact gl
      have nco : ∀ {c : Addr} {q : PySem.Str}, H c = some (LamX.CodeO c q) → c ≠ b := fun {c q} e z => by
        subst z
        have e2 := Option.some.inj (e.symm.trans Hb)
        obtain ⟨⟨_, _, _, _, _, _, _, _, _, _, _, a5⟩, _⟩ := (show ObjOk P w H s.heap c (.ext (BagRaw c l ns.length)) from he.hok c _ Hb)
        obtain ⟨⟨oc, vs, t, b1, b2, b3⟩, _⟩ := (show ObjOk P w H s.heap c (LamX.CodeO c q) from he.hok c _ e)
        rw [a5] at b1
        cases b1
        cases b2
      have tb1 : LamX.Tabs Tabl.T (upd H b (.lst [.ref l, .int i, .int g, .int sd])) := fun q hq => by
        obtain ⟨ps, h1, h2, h3⟩ := sb.tb q hq
        have nT : q.1 ≠ b := fun z => by rw [z, Hb] at h1; cases h1
        refine ⟨ps, by rw [upd_ne nT]; exact h1, h2, fun pos cv hc => ?_⟩
        obtain ⟨c, e1, e2⟩ := h3 pos cv hc
        exact ⟨c, e1, by rw [upd_ne (nco e2)]; exact e2⟩
      have sb1 : Sub (hole G b) (upd H b (.lst [.ref l, .int i, .int g, .int sd])) := ⟨fun c o q => by
        have hc : c ≠ b := fun z => by rw [z, g1] at q; cases q
        rw [hole_ne hc] at q
        rw [upd_ne hc]
        exact sb.m c o q, fun c o q => by
        have hc : c ≠ b := fun z => by rw [z, g1] at q; cases q
        rw [hole_ne hc] at q
        exact sb.nt c o q, tb1⟩
      refine codeAny_mono (F.run A outer s (upd H b (.lst [.ref l, .int i, .int g, .int sd])) args us _ (fun v H' => ∃ (d : D) (i' : Nat) (g' s' : Int) (G' : Hp), kd d ∧ i' ≤ ns.length ∧ 0 ≤ g' ∧ 0 ≤ s' ∧ s' < 2147483543 ∧
          Ext (hole G b) (hole (upd H b (.lst [.ref l, .int i, .int g, .int sd])) b) G' H' ∧ G' b = none ∧ H' b = some (.lst [.ref l, .int i', .int g', .int s']) ∧ Den K G' v d) E0 hr e1 hb hv ?_) (fun rs s' hq => ?_)
      · refine ⟨hole G b, [.lst [.cel l ns, .int i, .int g, .int sd], .int n], fun d e => ∃ (r : Int) (i' : Nat) (g' s' : Int), d = .int r ∧ kd d ∧ i' ≤ ns.length ∧ 0 ≤ g' ∧ 0 ≤ s' ∧ s' < 2147483543 ∧ e = .lst [.cel l ns, .int i', .int g', .int s'], fun _ => False, b, rfl, rfl, sb1, g1, rfl, ⟨_, rfl, ?_⟩, ?_, ?_, ?_, ?_⟩
        · exact ⟨_, upd_same, .cons (.cel gl1) (.cons (.int _) (.cons (.int _) (.cons (.int _) .nil)))⟩
        · intro j v d hj hv hd
          match j, hj with
          | 0, hj => exact absurd rfl hj
          | 1, _ =>
            cases hv
            cases hd
            exact .int _
          | j + 2, _ => simp at hv
        · exact hp l ns i g sd n _ n63 a1 a2 a3 a4 hn1 hn2 fun r i' g' s' b1 b2 b3 b4 b5 b6 => ⟨r, i', g', s', rfl, hf r b1 b2, b3, b4, b5, b6, rfl⟩
        · rintro d e v G' H' ⟨r, i', g', s', _, kk, b3, b4, b5, b6, rfl⟩ x gp ⟨xs, o1, o2⟩ dn
          rw [denL_bag o2] at o1
          exact ⟨d, i', g', s', G', kk, b3, b4, b5, b6, x, gp, o1, dn⟩
        · intro x cls dA G' H' z
          exact z.elim
      · cases rs with
        | error e => exact (by obtain ⟨_, _, _, _, _, _, _, _, _, _, _, _, z⟩ := hq; exact z.elim)
        | ok fl =>
          cases fl with
          | ret u =>
            obtain ⟨v, H', os, bare, un, hok, rv, d, i', g', z', G', kk, b3, b4, b5, b6, x, gp, hb', dn⟩ := hq
            have un1 : Un (frs outer) [] H H' s.heap s'.heap := un_open un Hb
            refine ⟨v, upd H' b (.ext (BagRaw b l ns.length)), os, bare, un_close un1 hb' (.inr ⟨_, Hb⟩), bag_close hok hb' b3 b4 b5 b6, rv, ?_⟩
            have same' : Same G' (upd G' b (.ext (BagRaw b l ns.length))) := same_upd gp
            refine hk d v (upd G' b (.ext (BagRaw b l ns.length))) _ kk ⟨⟨fun c o q nt => ?_, fun c o q => ?_, fun t q hq => tab_upd (x.sub.tb q hq) hb' trivial⟩, fun c o q => ?_, fun c q ⟨o, z⟩ => ?_, ⟨fun c o q => ?_, fun c o q => ?_, fun q hq => tab_upd (x.sub.tb q hq) hb' trivial⟩⟩ (dn.up same')
            · by_cases hc : c = b
              · subst hc
                rw [Hb] at q
                cases q
                exact upd_same
              · rw [upd_ne hc]
                exact x.h.k c o (by rw [hole_ne hc, upd_ne hc]; exact q) nt
            · by_cases hc : c = b
              · subst hc
                exact ⟨_, upd_same⟩
              · rw [upd_ne hc]
                exact x.h.t c o (by rw [hole_ne hc, upd_ne hc]; exact q)
            · by_cases hc : c = b
              · subst hc
                rw [gb] at q
                cases q
                exact upd_same
              · rw [upd_ne hc]
                exact x.g c o (by rw [hole_ne hc]; exact q)
            · have hc : c ≠ b := fun y => by rw [y, gb] at q; cases q
              rw [upd_ne hc]
              exact x.nw c (by rw [hole_ne hc]; exact q) ⟨o, by rw [hole_ne hc, upd_ne hc]; exact z⟩
            · by_cases hc : c = b
              · subst hc
                rw [upd_same] at q ⊢
                exact .inl q
              · rw [upd_ne hc] at q ⊢
                exact x.sub.m c o q
            · by_cases hc : c = b
              · subst hc
                rw [upd_same] at q
                cases q
                intro ps z
                cases z
              · rw [upd_ne hc] at q
                exact x.sub.nt c o q
          | next => exact False.elim hq
          | brk => exact False.elim hq
          | cont => exact False.elim hq
end
def m_law_pullW : FSo := fun ds k kx => ∀ p,
  (tsSeq (tsIf (tbAnd (tbV (tpOp fEq (tpOp fIx (tpVarU 0) (tpC (.int 2))) (tpC (.int 0)))) (tbV (tpOp fLt (tpOp fIx (tpVarU 0) (tpC (.int 1))) (tp1 fLenS (tpOp fIx (tpVarU 0) (tpC (.int 0)))))))
    (tsSeq (tsSet 2 (tpOp fIx (tpOp fIx (tpVarU 0) (tpC (.int 0))) (tpOp fIx (tpVarU 0) (tpC (.int 1)))))
    (tsSeq (tsSetIx 0 (tpC (.int 1)) (tpOp fAdd (tpOp fIx (tpVarU 0) (tpC (.int 1))) (tpC (.int 1))))
    (tsIf (tbV (tpOp fGe (tpVar 2) (tpOp fPow (tpC (.int 10)) (tpC (.int 18)))))
    (tsSetIx 0 (tpC (.int 2)) (tpVar 2))
    (tsSetIx 0 (tpC (.int 3)) (tpOp fMod (tp1 fInt (tpOp fAdd (tpOp fAdd (tpOp fMul (tpOp fIx (tpVarU 0) (tpC (.int 3))) (tpC (.int 52361))) (tpOp fMul (tpOp fMod (tp1 fInt (tpVar 2)) (tpC (.int 2147483399))) (tpC (.int 6121)))) (tpC (.int 43)))) (tpC (.int 2147483543)))))))
    tsNext)
    (tsSeq (tsIf (tbV (tpOp fGt (tpOp fIx (tpVarU 0) (tpC (.int 2))) (tpC (.int 0))))
    (tsSeq (tsSet 3 (tpOp fMod (tp1 fInt (tpOp fIx (tpVarU 0) (tpC (.int 2)))) (tpVar 1)))
    (tsSeq (tsSetIx 0 (tpC (.int 2)) (tpOp fFdivW (tpOp fIx (tpVarU 0) (tpC (.int 2))) (tpVar 1)))
    (tsRet (tpVar 3))))
    tsNext)
    (tsSeq (tsSet 4 (tpOp fIx (tpVarU 0) (tpC (.int 3))))
    (tsSeq (tsSetIx 0 (tpC (.int 3)) (tpOp fMod (tp1 fInt (tpOp fAdd (tpOp fAdd (tpOp fMul (tpVar 4) (tpVar 4)) (tpOp fMul (tpVar 4) (tpC (.int 21577)))) (tpC (.int 1406111)))) (tpC (.int 2147483543))))
    (tsRet (tpOp fMod (tp1 fInt (tpOp fAdd (tpOp fFdivW (tpOp fIx (tpVarU 0) (tpC (.int 3))) (tpC (.int 61))) (tpOp fMul (tpOp fMod (tp1 fInt (tpOp fIx (tpVarU 0) (tpC (.int 3)))) (tpC (.int 7919))) (tpC (.int 47))))) (tpVar 1)))))))
  (oEnds 0 p k kx) (gaO 5 0 p ds)
def pull2W : TSp :=
    (tsSeq (tsIf (tbV (tpOp fGt (tpOp fIx (tpVarU 0) (tpC (.int 2))) (tpC (.int 0))))
    (tsSeq (tsSet 3 (tpOp fMod (tp1 fInt (tpOp fIx (tpVarU 0) (tpC (.int 2)))) (tpVar 1)))
    (tsSeq (tsSetIx 0 (tpC (.int 2)) (tpOp fFdivW (tpOp fIx (tpVarU 0) (tpC (.int 2))) (tpVar 1)))
    (tsRet (tpVar 3))))
    tsNext)
    (tsSeq (tsSet 4 (tpOp fIx (tpVarU 0) (tpC (.int 3))))
    (tsSeq (tsSetIx 0 (tpC (.int 3)) (tpOp fMod (tp1 fInt (tpOp fAdd (tpOp fAdd (tpOp fMul (tpVar 4) (tpVar 4)) (tpOp fMul (tpVar 4) (tpC (.int 21577)))) (tpC (.int 1406111)))) (tpC (.int 2147483543))))
    (tsRet (tpOp fMod (tp1 fInt (tpOp fAdd (tpOp fFdivW (tpOp fIx (tpVarU 0) (tpC (.int 3))) (tpC (.int 61))) (tpOp fMul (tpOp fMod (tp1 fInt (tpOp fIx (tpVarU 0) (tpC (.int 3)))) (tpC (.int 7919))) (tpC (.int 47))))) (tpVar 1))))))
theorem pull2W_ok {l p : Addr} {ns : List Int} {i : Nat} {g s n : Int} {k : D → D → Prop} {sl : Sl} (hi : i ≤ ns.length) (hg : 0 ≤ g) (hs : 0 ≤ s) (hs2 : s < 2147483543) (hn : 1 ≤ n) (hn2 : n < 2 ^ 900)
    (hk : ∀ (r : Int) (i' : Nat) (g' s' : Int), 0 ≤ r → r < n → i' ≤ ns.length → 0 ≤ g' → 0 ≤ s' → s' < 2147483543 → k (.int r) (.lst [.cel l ns, .int i', .int g', .int s'])) :
    pull2W (oEnds 0 p k (fun _ => False)) [.pw p (.lst [.cel l ns, .int i, .int g, .int s]), .pu (.int n), sl, .un, .un] := by
  refine ite_of (fun h => ?_) (fun h => ?_)
  · refine ⟨by omega, wide_div (b := 900) (by omega) (by omega) (by decide) (by decide), rfl, hk _ i (g / n) s (Int.emod_nonneg _ (by omega)) (Int.emod_lt_of_pos _ (by omega)) hi (Int.ediv_nonneg hg (by omega)) hs hs2⟩
  · have z0 := Int.emod_nonneg (s * s + s * 21577 + 1406111) (show (2147483543 : Int) ≠ 0 by decide)
    have z1 := Int.emod_lt_of_pos (s * s + s * 21577 + 1406111) (show (0 : Int) < 2147483543 by decide)
    refine ⟨?_, ?_, by decide, ⟨by decide, by decide⟩, by decide, ?_, by omega, rfl, hk _ i g _ (Int.emod_nonneg _ (by omega)) (Int.emod_lt_of_pos _ (by omega)) hi hg z0 z1⟩
    · exact .inl ⟨by omega, by omega⟩
    · exact .inl ⟨by omega, by omega⟩
    · exact .inr ⟨by decide, by decide⟩
theorem pull_okW : PullOkW m_law_pullW := by
  intro l ns i g s n k h63 hi hg hs hs2 hn hn2 hk p
  exact pull1_ok (P := { oEnds 0 p k (fun _ => False) with nx := pull2W (oEnds 0 p k (fun _ => False)) }) hi hg hs hs2 fun i' g' s' sl a b c d => pull2W_ok a b c d hn hn2 hk
end PL
set_option Elab.async false
set_option linter.all false
set_option maxRecDepth 100000
set_option maxHeartbeats 4000000
namespace PL
open PySem L2
section
variable {ds : List D} {kd : KD} {kx : KX} {CC CN CL : Addr} {K : Ks} {m : KindM} {Γ : Ga} {tl : TL} {i n : Nat} {ta tb : TP}
local instance : Tabl := ⟨[], fun p hp => absurd hp (by simp)⟩
end
end PL
set_option Elab.async false
set_option linter.all false
set_option maxRecDepth 100000
set_option maxHeartbeats 4000000
namespace PL
open PySem L2
end PL
set_option Elab.async false
set_option linter.all false
set_option maxRecDepth 100000
set_option maxHeartbeats 4000000
namespace PL
open PySem L2 PyProof.Rows
end PL
set_option Elab.async false
set_option linter.all false
set_option maxRecDepth 100000
set_option maxHeartbeats 4000000
namespace PL
open PySem L2
end PL
set_option Elab.async false
set_option linter.all false
set_option maxRecDepth 100000
set_option maxHeartbeats 4000000
namespace PL
open PySem L2
section
variable {ds : List D} {kd : KD} {kx : KX} {K : Ks} {m : KindM} {Γ : Ga} {t ta tb : TP} {tl : TL} {es : List D} {d : D} {l i n : Nat}
local instance : Tabl := ⟨[], fun p hp => absurd hp (by simp)⟩
end
end PL
set_option Elab.async false
set_option linter.all false
set_option maxRecDepth 100000
set_option maxHeartbeats 4000000
namespace PL
open PySem L2
def m_law_name (fs_law_pick fs_law_pull : FS) : FS := fun ds k kx =>
  (tsRet (tpJoin (tpC (.str [])) (tpLc [1] (tiRng1 (tlCons (tpCall 2 fs_law_pick (tlCons (tpVar 0) (tlCons (tpLst (tlCons (tpC (.int 1)) (tlCons (tpC (.int 1)) (tlCons (tpC (.int 2)) (tlCons (tpC (.int 6)) (tlCons (tpOp fAdd (tpC (.int 1)) (tpCall 2 fs_law_pull (tlCons (tpVar 0) (tlCons (tpC (.int 6)) tlNil)))) tlNil)))))) tlNil))) tlNil)) (tgName 1) tbYes (tpCall 2 fs_law_pick (tlCons (tpVar 0) (tlCons (tpC (.str [65, 66, 67, 68, 69, 70, 71, 72, 73, 74, 75, 76, 77, 78, 79, 80, 81, 82, 83, 84, 85, 86, 87, 88, 89, 90])) tlNil))))))
  (fEnds k kx) (ga0 2 ds)
def m_law_row : FS := fun ds k kx =>
  (tsSeq (tsOwn 1 (tpLst tlNil))
    (tsSeq (tsFor (tiLst (tpVar 0)) (tgName 2)
    (tsFor (tiLst (tpIf (tbV (tpOp fEq (tpOp fIx (tpVar 2) (tpC (.int 0))) (tpC (.str [116, 104, 101, 110])))) (tp1 fList (tpSl (tpVar 2) (toSome (tpC (.int 1))) toNo)) (tpLst (tlCons (tpVar 2) tlNil)))) (tgName 3)
    (tsIf (tbAnd (tbV (tpOp fEq (tpOp fIx (tpVar 3) (tpC (.int 0))) (tpC (.str [100, 101, 101, 100, 115])))) (tbAnd (tbV (tpOp fNe (tpVarU 1) (tpLst tlNil))) (tbV (tpOp fEq (tpOp fIx (tpOp fIx (tpVarU 1) (tpNeg (tpC (.int 1)))) (tpC (.int 0))) (tpC (.str [100, 101, 101, 100, 115]))))))
    (tsSetIx 1 (tpNeg (tpC (.int 1))) (tpTup (tlCons (tpC (.str [100, 101, 101, 100, 115])) (tlCons (tpOp fAdd (tpOp fIx (tpOp fIx (tpVarU 1) (tpNeg (tpC (.int 1)))) (tpC (.int 1))) (tpOp fIx (tpVar 3) (tpC (.int 1)))) tlNil))))
    (tsIf (tbV (tpOp fNe (tpVar 3) (tpTup (tlCons (tpC (.str [100, 101, 101, 100, 115])) (tlCons (tpC (.str [])) tlNil)))))
    (tsApp 1 (tpVar 3))
    tsNext))))
    (tsSeq (tsSet 1 (tpSl (tpVarU 1) toNo (toSome (tpC (.int 20)))))
    (tsSeq (tsIf (tbV (tpOp fEq (tpVar 1) (tpLst tlNil)))
    (tsRet (tpTup (tlCons (tpC (.str [100, 101, 101, 100, 115])) (tlCons (tpC (.str [])) tlNil))))
    tsNext)
    (tsRet (tpIf (tbV (tpOp fEq (tp1 fLenS (tpVar 1)) (tpC (.int 1)))) (tpOp fIx (tpVar 1) (tpC (.int 0))) (tp1 fTup (tpOp fAdd (tpLst (tlCons (tpC (.str [116, 104, 101, 110])) tlNil)) (tpVar 1)))))))))
  (fEnds k kx) (ga0 4 ds)
end PL
set_option Elab.async false
set_option linter.all false
set_option maxRecDepth 100000
set_option maxHeartbeats 4000000
namespace PL
open PySem L2
mutual
def wt (K : Nat) : Tr → Nat
  | .dd v => v.length
  | .nm _ => K
  | .th ps => wtL K ps
  | .ei ps => wtL K ps
  | .ti t _ => wt K t
  | .ag t => wt K t
def wtL (K : Nat) : List Tr → Nat
  | [] => 0
  | t :: r => wt K t + wtL K r
end
/-- a drawn tree, its deeds, its names, its counts -/
def TrD (al : List Nat) (ns : List (List Nat)) (cb : Nat) : Nat → Tr → Prop
  | 0, _ => False
  | _ + 1, .dd v => ∀ c ∈ v, c ∈ al
  | _ + 1, .nm s => s ∈ ns
  | n + 1, .th ps => ps.length ≤ 20 ∧ ∀ p ∈ ps, TrD al ns cb n p
  | n + 1, .ti t c => c ≤ cb ∧ TrD al ns cb n t
  | _ + 1, _ => False
section
variable {al : List Nat} {ns ns' : List (List Nat)} {cb : Nat}
theorem TrD.mono : ∀ {n m : Nat} {t : Tr}, TrD al ns cb n t → n ≤ m → TrD al ns cb m t
  | n + 1, 0, _, h, e => by omega
  | n + 1, m + 1, .dd _, h, e => h
  | n + 1, m + 1, .nm s, h, e => h
  | n + 1, m + 1, .th ps, ⟨h1, h2⟩, e => ⟨h1, fun p hp => (h2 p hp).mono (by omega)⟩
  | n + 1, m + 1, .ti t _, ⟨h1, h2⟩, e => ⟨h1, h2.mono (by omega)⟩
  | n + 1, m + 1, .ei ps, h, e => h.elim
  | n + 1, m + 1, .ag t, h, e => h.elim
theorem TrD.names (hn : ∀ s ∈ ns, s ∈ ns') : ∀ {n : Nat} {t : Tr}, TrD al ns cb n t → TrD al ns' cb n t
  | n + 1, .dd _, h => h
  | n + 1, .nm s, h => hn s h
  | n + 1, .th ps, ⟨h1, h2⟩ => ⟨h1, fun p hp => (h2 p hp).names hn⟩
  | n + 1, .ti t _, ⟨h1, h2⟩ => ⟨h1, h2.names hn⟩
  | n + 1, .ei ps, h => h.elim
  | n + 1, .ag t, h => h.elim
theorem plainL_map {ts : List Tr} : (∀ t ∈ ts, (Tr.dat t).plain = true) → D.plainL (ts.map Tr.dat) = true := by
  induction ts with
  | nil => exact fun _ => rfl
  | cons t r ih =>
    intro h
    show ((Tr.dat t).plain && D.plainL (r.map Tr.dat)) = true
    rw [h t List.mem_cons_self, ih fun x hx => h x (List.mem_cons_of_mem _ hx)]
    rfl
theorem depL_map {ts : List Tr} {n : Nat} : (∀ t ∈ ts, (Tr.dat t).dep ≤ n) → D.depL (ts.map Tr.dat) ≤ n := by
  induction ts with
  | nil => exact fun _ => Nat.zero_le _
  | cons t r ih =>
    intro h
    show max (Tr.dat t).dep (D.depL (r.map Tr.dat)) ≤ n
    have := h t List.mem_cons_self
    have := ih fun x hx => h x (List.mem_cons_of_mem _ hx)
    omega
theorem TrD.plain (hal : ∀ c ∈ al, c ∈ LET) (hns : ∀ s ∈ ns, D.plain (.str s) = true) : ∀ {n : Nat} {t : Tr}, TrD al ns cb n t → t.dat.plain = true ∧ t.dat.dep ≤ n
  | n + 1, .dd v, h => by
    rw [dat_eq]
    refine ⟨?_, by show 1 ≤ n + 1; omega⟩
    show (D.plain (.str DDS) && (D.plain (.str v) && true)) = true
    rw [plain_of fun c hc => hal c (h c hc)]
    rfl
  | n + 1, .nm s, h => by
    rw [dat_eq]
    refine ⟨?_, by show 1 ≤ n + 1; omega⟩
    show (D.plain (.str wNAM) && (D.plain (.str s) && true)) = true
    rw [hns s h]
    rfl
  | n + 1, .th ps, ⟨h1, h2⟩ => by
    rw [dat_eq]
    refine ⟨?_, ?_⟩
    · show (D.plain (.str wTHE) && D.plainL (ps.map Tr.dat)) = true
      rw [plainL_map fun t ht => ((h2 t ht).plain hal hns).1]
      rfl
    · show max 0 (D.depL (ps.map Tr.dat)) + 1 ≤ n + 1
      have := depL_map fun t ht => ((h2 t ht).plain hal hns).2
      omega
  | n + 1, .ti t c, ⟨h1, h2⟩ => by
    obtain ⟨a, b⟩ := h2.plain hal hns
    rw [dat_eq]
    refine ⟨?_, ?_⟩
    · show (D.plain (.str wTIM) && ((Tr.dat t).plain && true)) = true
      rw [a]
      rfl
    · show max 0 (max (Tr.dat t).dep 0) + 1 ≤ n + 1
      omega
theorem TrD.kids {n : Nat} {ps : List Tr} (h : TrD al ns cb (n + 1) (.th ps)) : ps.length ≤ 20 ∧ ∀ p ∈ ps, TrD al ns cb n p := h
end
theorem eqD_w {t u : Tr} (h : t.w ≠ u.w) : eqD t.dat u.dat = false := by
  rw [dat_eq, dat_eq]
  show (eqD (.str t.w) (.str u.w) && _) = false
  rw [eqD_str, decide_eq_false h]
  rfl
theorem at_last (l : List D) (x : D) : atI (l ++ [x]) (-1) = some x := by
  unfold atI ixN
  rw [List.length_append, List.length_singleton]
  have e1 : ¬ (0 : Int) ≤ -1 := by decide
  have e2 : -((l.length + 1 : Nat) : Int) ≤ -1 := by omega
  have e4 : (-1 + ((l.length : Int) + 1)).toNat = l.length := by omega
  have e5 : (1 : Int) ≤ (l.length : Int) + 1 := by omega
  simp [e1, e4, e5]
theorem ix_last (n : Nat) : ixN (n + 1) (-1) = some n := by
  unfold ixN
  have e1 : ¬ (0 : Int) ≤ -1 := by decide
  simp [e1]
  omega
section
variable {ds : List D} {kd : KD} {ko : D → D → Prop} {kx : KX} {Γ : Ga} {t ta tb tc : TP} {tl : TL} {d e c c0 : D} {n i j : Nat} {P : PEn} {u v : List Nat} {s r : TSp} {cb : TB} {env : Env} {q : Tr} {b : Bool}
local instance : Tabl := ⟨[], fun p hp => absurd hp (by simp)⟩
def rowC : TB := (tbAnd (tbV (tpOp fEq (tpOp fIx (tpVar 3) (tpC (.int 0))) (tpC (.str [100, 101, 101, 100, 115])))) (tbAnd (tbV (tpOp fNe (tpVarU 1) (tpLst tlNil))) (tbV (tpOp fEq (tpOp fIx (tpOp fIx (tpVarU 1) (tpNeg (tpC (.int 1)))) (tpC (.int 0))) (tpC (.str [100, 101, 101, 100, 115]))))))
def rowB : TSp := (tsIf rowC
    (tsSetIx 1 (tpNeg (tpC (.int 1))) (tpTup (tlCons (tpC (.str [100, 101, 101, 100, 115])) (tlCons (tpOp fAdd (tpOp fIx (tpOp fIx (tpVarU 1) (tpNeg (tpC (.int 1)))) (tpC (.int 1))) (tpOp fIx (tpVar 3) (tpC (.int 1)))) tlNil))))
    (tsIf (tbV (tpOp fNe (tpVar 3) (tpTup (tlCons (tpC (.str [100, 101, 101, 100, 115])) (tlCons (tpC (.str [])) tlNil)))))
    (tsApp 1 (tpVar 3))
    tsNext))
def rowT : TSp := (tsSeq (tsSet 1 (tpSl (tpVarU 1) toNo (toSome (tpC (.int 20)))))
    (tsSeq (tsIf (tbV (tpOp fEq (tpVar 1) (tpLst tlNil)))
    (tsRet (tpTup (tlCons (tpC (.str [100, 101, 101, 100, 115])) (tlCons (tpC (.str [])) tlNil))))
    tsNext)
    (tsRet (tpIf (tbV (tpOp fEq (tp1 fLenS (tpVar 1)) (tpC (.int 1)))) (tpOp fIx (tpVar 1) (tpC (.int 0))) (tp1 fTup (tpOp fAdd (tpLst (tlCons (tpC (.str [116, 104, 101, 110])) tlNil)) (tpVar 1)))))))
def rowI : TP := (tpIf (tbV (tpOp fEq (tpOp fIx (tpVar 2) (tpC (.int 0))) (tpC (.str [116, 104, 101, 110])))) (tp1 fList (tpSl (tpVar 2) (toSome (tpC (.int 1))) toNo)) (tpLst (tlCons (tpVar 2) tlNil)))
abbrev Gr (ds : List D) (row : List Tr) (s2 s3 : Sl) : Ga := [.pu (.lst ds), .ow (.lst (row.map Tr.dat)), s2, s3]
theorem list_snoc {α : Type} : ∀ l : List α, l ≠ [] → ∃ a x, l = a ++ [x]
  | [], h => absurd rfl h
  | [x], _ => ⟨[], x, rfl⟩
  | x :: y :: l, _ => by
    obtain ⟨a, z, e⟩ := list_snoc (y :: l) (by simp)
    exact ⟨x :: a, z, by rw [e]; rfl⟩
end
end PL
set_option Elab.async false
set_option linter.all false
set_option maxRecDepth 100000
set_option maxHeartbeats 4000000
namespace PL
open PySem L2
abbrev CAP : List Nat := [65, 66, 67, 68, 69, 70, 71, 72, 73, 74, 75, 76, 77, 78, 79, 80, 81, 82, 83, 84, 85, 86, 87, 88, 89, 90]
/-- trees of names, each with names ahead of its own -/
def WorldOk (al : List Nat) (cb : Nat) (env : Env) : Prop := (env.map (·.1)).Nodup ∧ (∀ q ∈ env, D.plain (.str q.1) = true) ∧ ∀ (i : Nat) (q : List Nat × Tr), env[i]? = some q → TrD al ((env.take i).map (·.1)) cb 3 q.2 ∧ ∀ K, 6 ≤ K → wt K q.2 ≤ K * 9
section
variable {ds : List D} {kd : KD} {ko : D → D → Prop} {kx : KX} {Γ : Ga} {t ta tb tc : TP} {tl : TL} {d e c c0 : D} {n i j : Nat} {P : PEn} {u v : List Nat} {s r : TSp} {cb : TB} {env : Env} {q : Tr} {b : Bool} {al : List Nat} {ns : List (List Nat)}
local instance : Tabl := ⟨[], fun p hp => absurd hp (by simp)⟩
theorem evn_1p {k : Nat} (hb : Ev tb Γ .bag) (hk : 1 ≤ k ∧ k ≤ 100) : EvN (tpOp fAdd (tpC (.int 1)) (tpCall 2 fsPull (tlCons tb (tlCons (tpC (.int (k : Nat))) tlNil)))) Γ (fun d => ∃ n : Nat, (1 ≤ n ∧ n ≤ k) ∧ d = .int (n : Nat)) :=
  evn_op (evn (ev_c (.int 1))) (evn_pull hb (ev_c (.int (k : Nat))) (by omega) (by omega)) fun x y hx ⟨r, r0, r1, hy⟩ kk z => by
    subst hx hy
    exact z _ ⟨(1 + r).toNat, ⟨by omega, by omega⟩, by congr 1; omega⟩
theorem evn_joinCs {A : List Nat → Prop} (h : EvN t Γ (fun d => ∃ u, (A u ∧ u.length ≤ 3000) ∧ d = .lst (u.map fun c => .str [c]))) : EvN (tpJoin (tpC (.str [])) t) Γ (fun d => ∃ u, A u ∧ d = .str u) := fun k kx z => h _ _ fun d ⟨u, ⟨hA, hz⟩, e⟩ => by
  subst e
  have e : (u.map fun c => D.str [c]) = (u.map fun c => [c]).map D.str := by rw [List.map_map]; rfl
  show onSs (u.map fun c => D.str [c]) _
  rw [e, onSs_map]
  refine ⟨?_, ?_⟩
  · show ((u.map fun c => [c]).map (·.length)).sum + (u.map fun c => [c]).length * 0 ≤ 16777216
    rw [← List.length_flatten, flat_signs]
    omega
  · rw [joinL_nil, flat_signs]
    exact z _ ⟨u, hA, rfl⟩
theorem names_neq {Γ : Ga} (h : Ev ta Γ (.lst (ns.map .str))) (hp : ∀ s ∈ ns, D.plain (.str s) = true) : Ev (tpOp fNe ta (tpLst tlNil)) Γ (.bl (!decide (ns = []))) := by
  have dl : ∀ l : List (List Nat), D.depL (l.map D.str) = 0 := fun l => by
    induction l with
    | nil => rfl
    | cons x r ih =>
      show max 0 (D.depL (r.map D.str)) = 0
      rw [ih]
      rfl
  have := ev_neNil' h (plainL_str hp) (by rw [dl]; omega)
  rwa [show decide (ns.map D.str = []) = decide (ns = []) from decide_eq_decide.mpr List.map_eq_nil_iff] at this
end
end PL
set_option Elab.async false
set_option linter.all false
set_option maxRecDepth 100000
set_option maxHeartbeats 4000000
namespace PL
open PySem L2
def Tr.isTh : Tr → Bool
  | .th _ => true
  | _ => false
def wrB (b : Bool) (s : List Nat) : List Nat := if b = true then 40 :: (s ++ [41]) else s
mutual
def scT : Tr → List Nat
  | .dd v => if v = [] then [45] else v
  | .nm s => s
  | .th ps => (scS 46 ps).tail
  | .ei ps => 40 :: ((scS 124 ps).tail ++ [41])
  | .ti t n => wrB t.isTh (scT t) ++ 94 :: TL.numL n
  | .ag t => wrB t.isTh (scT t) ++ [94, 42]
def scS (c : Nat) : List Tr → List Nat
  | [] => []
  | t :: r => c :: (scT t ++ scS c r)
end
mutual
def Tr.dp : Tr → Nat
  | .dd _ => 1
  | .nm _ => 1
  | .th ps => dpL ps + 1
  | .ei ps => dpL ps + 1
  | .ti t _ => Tr.dp t + 1
  | .ag t => Tr.dp t + 1
def dpL : List Tr → Nat
  | [] => 0
  | t :: r => max (Tr.dp t) (dpL r)
end
inductive OkT : Tr → Prop
  | dd {v : List Nat} (h : ∀ c ∈ v, c ∈ LET) (hz : v.length ≤ 3000) : OkT (.dd v)
  | nm {s : List Nat} (h1 : 1 ≤ s.length) (h2 : s.length ≤ 6) (h3 : ∀ c ∈ s, c ∈ CAP) : OkT (.nm s)
  | th {ps : List Tr} (h1 : 2 ≤ ps.length) (h2 : ps.length ≤ 1000) (h3 : ∀ p ∈ ps, OkT p) (h4 : ∀ p ∈ ps, p.isTh = false ∧ p ≠ .dd []) (h5 : ∀ (i : Nat) (v w : List Nat), ps[i]? = some (.dd v) → ps[i + 1]? ≠ some (.dd w)) : OkT (.th ps)
  | ei {ps : List Tr} (h1 : 2 ≤ ps.length) (h2 : ps.length ≤ 1000) (h3 : ∀ p ∈ ps, OkT p) : OkT (.ei ps)
  | ti {t : Tr} {n : Nat} (h : OkT t) (hn : n ≤ 10 ^ 30) : OkT (.ti t n)
  | ag {t : Tr} (h : OkT t) : OkT (.ag t)
theorem scS_cons (c : Nat) (t : Tr) (r : List Tr) : scS c (t :: r) = c :: (scT t ++ scS c r) := by rw [scS]
theorem scS_tail (c : Nat) (t : Tr) (r : List Tr) : (scS c (t :: r)).tail = scT t ++ scS c r := by rw [scS]; rfl
theorem dp_pos (t : Tr) : 1 ≤ t.dp := by cases t <;> simp [Tr.dp]
theorem dpL_le {p : Tr} : ∀ {ps : List Tr}, p ∈ ps → p.dp ≤ dpL ps
  | t :: r, h => by
    rw [dpL]
    rcases List.mem_cons.mp h with rfl | h
    · exact Nat.le_max_left _ _
    · exact Nat.le_trans (dpL_le h) (Nat.le_max_right _ _)
def Tr.bs : Tr → Tr
  | .ti t _ => t.bs
  | .ag t => t.bs
  | t => t
def Tr.pw : Tr → List (Option Nat)
  | .ti t n => t.pw ++ [some n]
  | .ag t => t.pw ++ [none]
  | _ => []
def appP (u : Tr) : Option Nat → Tr
  | some n => .ti u n
  | none => .ag u
def pwS : Option Nat → List Nat
  | some n => 94 :: TL.numL n
  | none => [94, 42]
def pwsS : List (Option Nat) → List Nat
  | [] => []
  | p :: r => pwS p ++ pwsS r
theorem pwsS_app : ∀ a b : List (Option Nat), pwsS (a ++ b) = pwsS a ++ pwsS b
  | [], _ => rfl
  | p :: r, b => by
    show pwS p ++ pwsS (r ++ b) = _
    rw [pwsS_app r b, ← List.append_assoc]
    rfl
theorem bs_app : ∀ t : Tr, t.pw.foldl appP t.bs = t
  | .dd _ => rfl
  | .nm _ => rfl
  | .th _ => rfl
  | .ei _ => rfl
  | .ti t n => by
    show (t.pw ++ [some n]).foldl appP t.bs = _
    rw [List.foldl_append, bs_app t]
    rfl
  | .ag t => by
    show (t.pw ++ [none]).foldl appP t.bs = _
    rw [List.foldl_append, bs_app t]
    rfl
theorem sc_ti (t : Tr) (n : Nat) : scT (.ti t n) = wrB t.isTh (scT t) ++ 94 :: TL.numL n := by rw [scT]
theorem sc_ag (t : Tr) : scT (.ag t) = wrB t.isTh (scT t) ++ [94, 42] := by rw [scT]
/-- a base bears no chain -/
def Tr.plainB : Tr → Bool
  | .ti _ _ => false
  | .ag _ => false
  | _ => true
theorem bs_plain : ∀ t : Tr, t.bs.plainB = true
  | .dd _ => rfl
  | .nm _ => rfl
  | .th _ => rfl
  | .ei _ => rfl
  | .ti t _ => bs_plain t
  | .ag t => bs_plain t
theorem bs_ok : ∀ {t : Tr}, OkT t → OkT t.bs
  | .dd _, h => h
  | .nm _, h => h
  | .th _, h => h
  | .ei _, h => h
  | .ti t _, .ti h _ => bs_ok (t := t) h
  | .ag t, .ag h => bs_ok (t := t) h
theorem pw_ok : ∀ {t : Tr}, OkT t → ∀ n, some n ∈ t.pw → n ≤ 10 ^ 30
  | .dd _, h, n, z => nomatch z
  | .nm _, h, n, z => nomatch z
  | .th _, h, n, z => nomatch z
  | .ei _, h, n, z => nomatch z
  | .ti t m, .ti h hm, n, z => by
    rcases List.mem_append.mp (show some n ∈ t.pw ++ [some m] from z) with z | z
    · exact pw_ok h n z
    · cases List.mem_singleton.mp z
      exact hm
  | .ag t, .ag h, n, z => by
    rcases List.mem_append.mp (show some n ∈ t.pw ++ [none] from z) with z | z
    · exact pw_ok h n z
    · cases List.mem_singleton.mp z
/-- the text of a tree with its brackets, if any -/
abbrev wrT (t : Tr) : List Nat := wrB t.isTh (scT t)
theorem wr_chain : ∀ t : Tr, wrT t = wrT t.bs ++ pwsS t.pw
  | .dd _ => (List.append_nil _).symm
  | .nm _ => (List.append_nil _).symm
  | .th _ => (List.append_nil _).symm
  | .ei _ => (List.append_nil _).symm
  | .ti t n => by
    show scT (.ti t n) = wrT t.bs ++ pwsS (t.pw ++ [some n])
    rw [sc_ti, pwsS_app, ← List.append_assoc, ← wr_chain t]
    show _ = wrT t ++ ((94 :: TL.numL n) ++ [])
    rw [List.append_nil]
  | .ag t => by
    show scT (.ag t) = wrT t.bs ++ pwsS (t.pw ++ [none])
    rw [sc_ag, pwsS_app, ← List.append_assoc, ← wr_chain t]
    rfl
/-- how deep the reader goes into a base -/
def wdp (t : Tr) : Nat := if t.isTh = true then t.dp + 1 else t.dp
theorem wdp_le (t : Tr) : wdp t ≤ t.dp + 1 := by
  unfold wdp
  split <;> omega
theorem wdp_chain : ∀ t : Tr, wdp t.bs ≤ wdp t ∧ t.pw.length + 1 ≤ t.dp
  | .dd _ => ⟨Nat.le_refl _, dp_pos _⟩
  | .nm _ => ⟨Nat.le_refl _, dp_pos _⟩
  | .th _ => ⟨Nat.le_refl _, dp_pos _⟩
  | .ei _ => ⟨Nat.le_refl _, dp_pos _⟩
  | .ti t n => by
    have ih := wdp_chain t
    have := wdp_le t
    show wdp t.bs ≤ Tr.dp (.ti t n) ∧ (t.pw ++ [some n]).length + 1 ≤ Tr.dp (.ti t n)
    rw [List.length_append, Tr.dp]
    exact ⟨by omega, by show _ + 1 + 1 ≤ _; omega⟩
  | .ag t => by
    have ih := wdp_chain t
    have := wdp_le t
    show wdp t.bs ≤ Tr.dp (.ag t) ∧ (t.pw ++ [none]).length + 1 ≤ Tr.dp (.ag t)
    rw [List.length_append, Tr.dp]
    exact ⟨by omega, by show _ + 1 + 1 ≤ _; omega⟩
end PL
set_option Elab.async false
set_option linter.all false
set_option maxRecDepth 100000
set_option maxHeartbeats 4000000
namespace PL
open PySem L2
abbrev rdr (CR : Addr) (s : List Nat) : D := .ins CR [(("text_left" : PySem.Str), .str s)]
structure TxOk (s : List Nat) : Prop where
  hz : s.length ≤ 20000
  hc : ∀ c ∈ s, c < 128
theorem TxOk.suf {a b : List Nat} (h : TxOk (a ++ b)) : TxOk b := ⟨by have := h.hz; rw [List.length_append] at this; omega, fun c hc => h.hc c (List.mem_append_right _ hc)⟩
theorem TxOk.pre {a b : List Nat} (h : TxOk (a ++ b)) : TxOk a := ⟨by have := h.hz; rw [List.length_append] at this; omega, fun c hc => h.hc c (List.mem_append_left _ hc)⟩
theorem TxOk.tl {a : Nat} {b : List Nat} (h : TxOk (a :: b)) : TxOk b := TxOk.suf (a := [a]) h
theorem TxOk.hd {a : Nat} {b : List Nat} (h : TxOk (a :: b)) : a < 128 := h.hc a List.mem_cons_self
theorem TxOk.pl {a : List Nat} (h : TxOk a) : D.plain (.str a) = true := by
  show (a.all fun c => decide (c < 1114112)) = true
  rw [List.all_eq_true]
  exact fun c hc => decide_eq_true (Nat.lt_trans (h.hc c hc) (by decide))
theorem TxOk.ln {a : List Nat} (h : TxOk a) : a.length ≤ sizeLine := Nat.le_trans h.hz (by decide)
def fsPassed (CR : Addr) : FSo := fun ds k _ => ∃ (s : List Nat) (c : Nat), (ds = [rdr CR s, .str [c]] ∧ TxOk s ∧ c < 128) ∧ match s with
  | [] => k (.bl false) (rdr CR [])
  | x :: r => if x = c then k (.bl true) (rdr CR r) else k (.bl false) (rdr CR (x :: r))
def tkW (g s : List Nat) : List Nat := s.takeWhile fun c => decide (c ∈ g)
def drW (g s : List Nat) : List Nat := s.dropWhile fun c => decide (c ∈ g)
def fsRunR (CR : Addr) : FSo := fun ds k _ => ∃ (s g : List Nat), (ds = [rdr CR s, .str g] ∧ TxOk s) ∧ k (.str (tkW g s)) (rdr CR (drW g s))
def xText (CX : Addr) : XD := ⟨.ref CX, [(("tag" : PySem.Str), .str ("InvalidText" : PySem.Str).cps.toList)]⟩
section
variable {ds : List D} {kd : KD} {ko : D → D → Prop} {kx : KX} {Γ : Ga} {t ta tb tc : TP} {tl : TL} {d e c c0 : D} {n i j : Nat} {P : PEn} {u v : List Nat} {s r : TSp} {cb : TB} {q : Tr} {b : Bool} {CR CX : Addr} {p : Addr}
local instance : Tabl := ⟨[], fun p hp => absurd hp (by simp)⟩
theorem ev_varW {p : Addr} (e : gat Γ i = .pw p d) : Ev (tpVarU i) Γ d := fun k kx h => by
  show (match gat Γ i with | .pu d => k d | .ow d => k d | .lk _ _ d => k d | .pw _ d => k d | _ => False)
  rw [e]
  exact h
theorem ev_left {s : List Nat} {T : Ga} : Ev (tpFld [CR] "text_left" (tpVarU 0)) (.pw p (rdr CR s) :: T) (.str s) := ev_fld (ev_varW rfl) List.mem_cons_self rfl
theorem st_setFW {cs : List Addr} {f : PySem.Str} (h : Ev t Γ d) (g : onOI Γ i fun C fs => C ∈ cs ∧ fs.length < 900 ∧ s P (oput Γ i (.ins C (putFD f d fs)))) : tsSeq (tsSetF cs i f t) s P Γ := h _ _ g
theorem passed_ok' : fsPassed CR ds ko kx → m_Reader_passed CR ds ko kx := by
  rintro ⟨s, c, ⟨rfl, hs, hc⟩, h⟩ p
  let G : Ga := [.pw p (rdr CR s), .pu (.str [c])]
  have sl : Ev (tpSl (tpFld [CR] "text_left" (tpVarU 0)) toNo (toSome (tpC (.int 1)))) G (.str (s.take 1)) := ev_slT ev_left (ev_c (.int 1)) rfl hs.ln
  have pc : D.plain (.str [c]) = true := TxOk.pl (a := [c]) ⟨by show 1 ≤ 20000; decide, fun x hx => by rw [List.mem_singleton.mp hx]; exact hc⟩
  have ps : D.plain (.str (s.take 1)) = true := TxOk.pl ⟨Nat.le_trans (List.length_take_le _ _) (by decide), fun x hx => hs.hc x (List.mem_of_mem_take hx)⟩
  have ne := ev_neS sl (ev_var (Γ := G) (i := 1) (d := .str [c]) rfl) ps pc
  refine st_ifNB (Γ := G) (evb_v ne) (fun e => ?_) (fun e => ?_)
  · have e : s.take 1 ≠ [c] := by simpa using e
    refine st_ret (ev_c _) ?_
    show p = p ∧ ko (.bl false) (rdr CR s)
    match s, h with
    | [], h => exact ⟨rfl, h⟩
    | x :: r, h =>
      have : ¬ x = c := fun z => e (by rw [z]; rfl)
      have h : if x = c then ko (.bl true) (rdr CR r) else ko (.bl false) (rdr CR (x :: r)) := h
      rw [if_neg this] at h
      exact ⟨rfl, h⟩
  · have e : s.take 1 = [c] := by simpa using e
    cases s with
    | nil => cases e
    | cons x r =>
      have : x = c := (List.cons.inj e).1
      have h : if x = c then ko (.bl true) (rdr CR r) else ko (.bl false) (rdr CR (x :: r)) := h
      rw [if_pos this] at h
      have dr : Ev (tpSl (tpFld [CR] "text_left" (tpVarU 0)) (toSome (tpC (.int 1))) toNo) G (.str r) := ev_slD ev_left (ev_c (.int 1)) rfl hs.ln
      exact st_setFW (Γ := G) (i := 0) (f := "text_left") dr ⟨List.mem_cons_self, by show 1 < 900; decide, st_ret (ev_c _) ⟨rfl, h⟩⟩
abbrev rnC (CR : Addr) : TB := (tbAnd (tbV (tpOp fLt (tpVar 2) (tp1 fLenS (tpFld [CR] "text_left" (tpVarU 0))))) (tbV (tpOp fInS (tpOp fIx (tpFld [CR] "text_left" (tpVarU 0)) (tpVar 2)) (tpVar 1))))
theorem run_wh {s g : List Nat} {s3 : Sl} (hs : TxOk s) (hk : P.nx [.pw p (rdr CR s), .pu (.str g), .pu (.int ((tkW g s).length : Nat)), s3]) :
    ∀ (post pre : List Nat), s = pre ++ post → (∀ c ∈ pre, c ∈ g) → whW (rnC CR) (tsAug 2 (fun i j => i + j) (tpC (.int 1))) P (post.length + 1) [.pw p (rdr CR s), .pu (.str g), .pu (.int (pre.length : Nat)), s3]
  | [], pre, e, hp => by
    have z : tkW g s = pre := by
      rw [e, List.append_nil]
      unfold tkW
      exact NumText.takeWhile_all fun c hc => decide_eq_true (hp c hc)
    rw [z] at hk
    have lt := ev_ltI (Γ := [.pw p (rdr CR s), .pu (.str g), .pu (.int (pre.length : Nat)), s3]) (ta := tpVar 2) (ev_var rfl) (ev_lenS (ev_left (CR := CR) (p := p) (s := s)) hs.ln)
    rw [decide_eq_false (by rw [e, List.append_nil]; omega)] at lt
    exact evb_andF (evb_v lt) _ _ hk
  | c :: post, pre, e, hp => by
    let G : Ga := [.pw p (rdr CR s), .pu (.str g), .pu (.int (pre.length : Nat)), s3]
    have lt := ev_ltI (Γ := G) (ta := tpVar 2) (ev_var rfl) (ev_lenS (ev_left (CR := CR) (p := p) (s := s)) hs.ln)
    have hl : pre.length < s.length := by rw [e, List.length_append, List.length_cons]; omega
    rw [decide_eq_true (by omega)] at lt
    have at_ : atI s ((pre.length : Nat) : Int) = some c := by
      rw [at_nat s _ hl]
      subst e
      simp
    have inn := ev_inS (Γ := G) (ev_ixS (ev_left (CR := CR) (p := p) (s := s)) (ev_var (i := 2) (d := .int (pre.length : Nat)) rfl) hs.ln at_) (ev_var (i := 1) (d := .str g) rfl)
    by_cases hc : c ∈ g
    · rw [decide_eq_true hc] at inn
      have ih := run_wh (s3 := s3) hs hk post (pre ++ [c]) (by rw [e, List.append_assoc]; rfl) (fun x hx => by
        rcases List.mem_append.mp hx with hx | hx
        · exact hp x hx
        · rw [List.mem_singleton.mp hx]; exact hc)
      have cast : (((pre ++ [c]).length : Nat) : Int) = (pre.length : Nat) + 1 := by rw [List.length_append]; rfl
      rw [cast] at ih
      exact evb_andT (evb_v lt) (evb_v inn) _ _ ih
    · rw [decide_eq_false hc] at inn
      have z : tkW g s = pre := by
        rw [e]
        unfold tkW
        rw [List.takeWhile_append_of_pos fun c hc => decide_eq_true (hp c hc), List.takeWhile_cons, decide_eq_false hc]
        exact List.append_nil _
      rw [z] at hk
      exact evb_andT (evb_v lt) (evb_v inn) _ _ hk
theorem tk_dr (g s : List Nat) : s.take (tkW g s).length = tkW g s ∧ s.drop (tkW g s).length = drW g s := by
  have e : tkW g s ++ drW g s = s := List.takeWhile_append_dropWhile
  generalize tkW g s = a at e
  generalize drW g s = b at e
  subst e
  exact ⟨List.take_left, List.drop_left⟩
theorem run_ok' : fsRunR CR ds ko kx → m_Reader_run CR ds ko kx := by
  rintro ⟨s, g, ⟨rfl, hs⟩, h⟩ p
  obtain ⟨e1, e2⟩ := tk_dr g s
  refine st_set (Γ := [.pw p (rdr CR s), .pu (.str g), .un, .un]) (ev_c (.int 0)) ?_
  refine st_while (Γ := [.pw p (rdr CR s), .pu (.str g), .pu (.int 0), .un]) (s.length + 1) (run_wh hs ?_ s [] rfl fun _ z => nomatch z)
  let G : Ga := [.pw p (rdr CR s), .pu (.str g), .pu (.int ((tkW g s).length : Nat)), .un]
  refine st_set (Γ := G) (d := .str (tkW g s)) (by
    have := ev_slT (Γ := G) (ev_left (CR := CR) (p := p) (s := s)) (ev_var (i := 2) (d := .int ((tkW g s).length : Nat)) rfl) rfl hs.ln
    rwa [e1] at this) ?_
  let G2 : Ga := [.pw p (rdr CR s), .pu (.str g), .pu (.int ((tkW g s).length : Nat)), .pu (.str (tkW g s))]
  have dr := ev_slD (Γ := G2) (ev_left (CR := CR) (p := p) (s := s)) (ev_var (i := 2) (d := .int ((tkW g s).length : Nat)) rfl) rfl hs.ln
  rw [e2] at dr
  exact st_setFW (Γ := G2) (i := 0) (f := "text_left") dr ⟨List.mem_cons_self, by show 1 < 900; decide, st_ret (ev_var rfl) ⟨rfl, h⟩⟩
end
end PL
set_option Elab.async false
set_option linter.all false
set_option maxRecDepth 100000
set_option maxHeartbeats 4000000
namespace PL
open PySem L2
abbrev DIG : List Nat := [48, 49, 50, 51, 52, 53, 54, 55, 56, 57]
def StopA (r : List Nat) : Prop := ∀ c, r.head? = some c → c = 46 ∨ c = 124 ∨ c = 41 ∨ c = 94
def StopP (r : List Nat) : Prop := ∀ c, r.head? = some c → c = 46 ∨ c = 124 ∨ c = 41
def StopR (r : List Nat) : Prop := ∀ c, r.head? = some c → c = 124 ∨ c = 41
theorem StopR.p {r : List Nat} (h : StopR r) : StopP r := fun c e => (h c e).elim (fun z => .inr (.inl z)) fun z => .inr (.inr z)
theorem StopP.a {r : List Nat} (h : StopP r) : StopA r := fun c e => (h c e).elim .inl fun z => z.elim (fun z => .inr (.inl z)) fun z => .inr (.inr (.inl z))
def nameB (s : List Nat) : Bool := (decide (1 ≤ s.length) && decide (s.length ≤ 6)) && s.all fun c => decide (c ∈ CAP)
def fsIsName : FS := fun ds k _ => match ds with
  | [.str s] => s.length ≤ 20000 ∧ k (.bl (nameB s))
  | _ => False
def fsScAtom (CR CX : Addr) (n : Nat) : FSo := fun ds k kx => ∃ (t : Tr) (r : List Nat) (d : Nat), (ds = [rdr CR (wrT t ++ r), .int (d : Nat)] ∧ OkT t ∧ t.plainB = true ∧ d ≤ n ∧ TxOk (wrT t ++ r) ∧ StopA r) ∧ (wdp t ≤ d ∧ t.dp ≤ 12 ∨ kx (xText CX)) ∧ k t.dat (rdr CR r)
def fsScPow (CR CX : Addr) (n : Nat) : FSo := fun ds k kx => ∃ (t : Tr) (r : List Nat) (d : Nat), (ds = [rdr CR (scT t ++ r), .int (d : Nat)] ∧ OkT t ∧ t.isTh = false ∧ d ≤ n ∧ TxOk (scT t ++ r) ∧ StopP r) ∧ (t.dp ≤ d ∧ t.dp ≤ 12 ∨ kx (xText CX)) ∧ k t.dat (rdr CR r)
def fsScRow (CR CX : Addr) (n : Nat) : FSo := fun ds k kx => ∃ (t : Tr) (r : List Nat) (d : Nat), (ds = [rdr CR (scT t ++ r), .int (d : Nat)] ∧ OkT t ∧ d < n ∧ TxOk (scT t ++ r) ∧ StopR r) ∧ (t.dp ≤ d ∧ t.dp ≤ 12 ∨ kx (xText CX)) ∧ k t.dat (rdr CR r)
section
variable {ds : List D} {kd : KD} {ko : D → D → Prop} {kx : KX} {Γ T : Ga} {t ta tb tc : TP} {tl : TL} {d e c0 : D} {n i j c : Nat} {P : PEn} {u v s g : List Nat} {cb : TB} {q : Tr} {b : Bool} {CR CX : Addr} {p : Addr} {gq : FSo} {nm : PySem.Str} {k : D → Ga → Prop} {kb : Bool → Ga → Prop} {kxx : XD → Ga → Prop}
local instance : Tabl := ⟨[], fun p hp => absurd hp (by simp)⟩
theorem zm (nk : noKp T = true) (hnm : List.lookup nm [(("text_left" : PySem.Str), D.str s)] = none) (hl : EvL tl (.pw p (rdr CR s) :: T) ds) (hn : ds.length = n) (hg : gq (rdr CR s :: ds) (fun d y => k d (.pw p y :: T)) (fun z => kxx z (.un :: T))) : tzMeth 0 [(CR, gq)] nm n tl (.pw p (rdr CR s) :: T) k kxx :=
  ⟨nk, hnm, gq, List.mem_cons_self, hl _ _ ⟨hn, hg⟩⟩
abbrev tbPass (CR : Addr) (c : Nat) : TBZ := tbzV (tzMeth 0 [(CR, fsPassed CR)] "passed" 1 (tlCons (tpC (.str [c])) tlNil))
theorem bz_yes (nk : noKp T = true) (hs : TxOk (c :: s)) (hk : kb true (.pw p (rdr CR s) :: T)) : tbPass CR c (.pw p (rdr CR (c :: s)) :: T) kb kxx :=
  zm nk rfl (evl_1 (ev_c _)) rfl ⟨c :: s, c, ⟨rfl, hs, hs.hd⟩, by
    show if c = c then _ else _
    rw [if_pos rfl]
    exact hk⟩
theorem bz_no (nk : noKp T = true) (hs : TxOk s) (hh : s.head? ≠ some c) (hc : c < 128) (hk : kb false (.pw p (rdr CR s) :: T)) : tbPass CR c (.pw p (rdr CR s) :: T) kb kxx :=
  zm nk rfl (evl_1 (ev_c _)) rfl ⟨s, c, ⟨rfl, hs, hc⟩, by
    match s, hh, hk with
    | [], _, hk => exact hk
    | x :: r, hh, hk =>
      show if x = c then _ else _
      rw [if_neg fun z => hh (by rw [z]; rfl)]
      exact hk⟩
abbrev tzRun (CR : Addr) (g : List Nat) : TZ := tzMeth 0 [(CR, fsRunR CR)] "run" 1 (tlCons (tpC (.str g)) tlNil)
theorem zrun {a r : List Nat} (nk : noKp T = true) (hs : TxOk (a ++ r)) (ha : ∀ c ∈ a, c ∈ g) (hr : ∀ c, r.head? = some c → c ∉ g) (hk : k (.str a) (.pw p (rdr CR r) :: T)) : tzRun CR g (.pw p (rdr CR (a ++ r)) :: T) k kxx := by
  have e : tkW g (a ++ r) = a ∧ drW g (a ++ r) = r := by
    have z : tkW g r = [] ∧ drW g r = r := by
      cases r with
      | nil => exact ⟨rfl, rfl⟩
      | cons c r =>
        have := hr c rfl
        constructor
        · show (c :: r).takeWhile _ = _
          rw [List.takeWhile_cons, decide_eq_false this]
          rfl
        · show (c :: r).dropWhile _ = _
          rw [List.dropWhile_cons, decide_eq_false this]
          rfl
    constructor
    · show (a ++ r).takeWhile _ = _
      rw [List.takeWhile_append_of_pos fun c hc => decide_eq_true (ha c hc)]
      show a ++ tkW g r = a
      rw [z.1, List.append_nil]
    · show (a ++ r).dropWhile _ = _
      rw [List.dropWhile_append_of_pos fun c hc => decide_eq_true (ha c hc)]
      exact z.2
  refine zm nk rfl (evl_1 (ev_c _)) rfl ⟨a ++ r, g, ⟨rfl, hs⟩, ?_⟩
  rw [e.1, e.2]
  exact hk
theorem evl_star {xs : List D} (h : Ev t Γ (.lst xs)) (hr : EvL tl Γ ds) : EvL (tlStar t tl) Γ (xs ++ ds) := fun k kx z => h _ _ (hr _ _ z)
/-- a part is read -/
def RdPc (gq : FSo) (CR CX : Addr) (z : Int) (Stop : List Nat → Prop) (A : Prop) (t : Tr) : Prop := ∀ (r : List Nat) (k : D → D → Prop) (kx : KX), TxOk (scT t ++ r) → Stop r → (A → kx (xText CX)) → k t.dat (rdr CR r) → gq [rdr CR (scT t ++ r), .int z] k kx
theorem loopZ {Stop : List Nat → Prop} {A : Prop} {z : Int} {tail : List Nat} {arg : TP} {T : Ga} {x1 : Sl} (nk : noKp (x1 :: T) = true) (hnm : ∀ s : List Nat, List.lookup nm [(("text_left" : PySem.Str), D.str s)] = none) (hc : c < 128) (ht : tail.head? ≠ some c) (hA : ∀ Γ, A → P.xx (xText CX) Γ)
    (harg : ∀ (y : D) (acc : List D), Ev arg (.pw p y :: x1 :: .ow (.lst acc) :: T) (.int z)) : ∀ (qs : List Tr) (acc : List D), (∀ q ∈ qs, RdPc gq CR CX z Stop A q) → (∀ qs, Stop (scS c qs ++ tail)) → acc.length + qs.length < 100000 → TxOk (scS c qs ++ tail) →
    P.nx (.pw p (rdr CR tail) :: x1 :: .ow (.lst (acc ++ qs.map Tr.dat)) :: T) →
    whZ (tbPass CR c) (tsAppZ 2 (tzMeth 0 [(CR, gq)] nm 1 (tlCons arg tlNil))) P (qs.length + 1) (.pw p (rdr CR (scS c qs ++ tail)) :: x1 :: .ow (.lst acc) :: T)
  | [], acc, _, _, _, hs, hk => by
    have nk2 : noKp (x1 :: .ow (.lst acc) :: T) = true := by
      unfold noKp at nk ⊢
      rw [List.all_cons] at nk ⊢
      rw [List.all_cons]
      exact nk
    rw [List.map_nil, List.append_nil] at hk
    exact bz_no (s := tail) nk2 hs ht hc hk
  | q :: qs, acc, hq, hst, hl, hs, hk => by
    have nk2 : noKp (x1 :: .ow (.lst acc) :: T) = true := by
      unfold noKp at nk ⊢
      rw [List.all_cons] at nk ⊢
      rw [List.all_cons]
      exact nk
    rw [scS_cons, List.cons_append, List.append_assoc] at hs ⊢
    rw [List.length_cons] at hl
    refine bz_yes nk2 hs ?_
    show tsAppZ 2 _ _ _
    refine ⟨⟨acc, rfl⟩, ?_⟩
    refine zm nk2 (hnm _) (evl_1 (harg _ _)) rfl ?_
    refine hq q List.mem_cons_self _ _ _ hs.tl (hst qs) (fun a => hA _ a) ⟨acc, rfl, by omega, ?_⟩
    refine loopZ nk hnm hc ht hA harg qs (acc ++ [q.dat]) (fun q' h => hq q' (List.mem_cons_of_mem _ h)) hst (by rw [List.length_append]; show _ + 1 + _ < _; omega) hs.tl.suf ?_
    rw [List.append_assoc]
    exact hk
end
end PL
set_option Elab.async false
set_option linter.all false
set_option maxRecDepth 100000
set_option maxHeartbeats 4000000
namespace PL
open PySem L2
theorem numL_hd : ∀ {n : Nat}, 1 ≤ n → (TL.numL n).head? ≠ some 48 := by
  intro n
  induction n using Nat.strongRecOn with
  | _ n ih =>
    intro h
    by_cases h10 : n < 10
    · rw [TL.numL_lt h10]
      intro z
      have := Option.some.inj z
      omega
    · rw [TL.numL_step (by omega)]
      have ih := ih (n / 10) (by omega) (by omega)
      cases e : TL.numL (n / 10) with
      | nil => exact absurd e (TL.numL_ne _)
      | cons c r =>
        rw [e] at ih
        exact ih
theorem intS_num (n : Nat) : intS ((n : Nat) : Int) = TL.numL n := TL.tl_num n
theorem numL_30 {n : Nat} (h : n ≤ 10 ^ 30) : (TL.numL n).length ≤ 31 := TL.numL_len (by decide) (Nat.lt_of_le_of_lt h (by decide))
section
variable {ds : List D} {kd : KD} {ko : D → D → Prop} {kx : KX} {Γ T : Ga} {t ta tb tc : TP} {tl : TL} {d e c0 : D} {n i j c : Nat} {P : PEn} {u v s g : List Nat} {cb : TB} {q : Tr} {b : Bool} {CR CX : Addr} {p : Addr} {gq : FSo} {nm : PySem.Str} {k : D → Ga → Prop} {kb : Bool → Ga → Prop} {kxx : XD → Ga → Prop}
local instance : Tabl := ⟨[], fun p hp => absurd hp (by simp)⟩
theorem ss_num (n : Nat) : SS (TL.numL n) = PySem.Str.ofString (toString ((n : Nat) : Int)) := by
  rw [← intS_num, ss_intS]
theorem ev_intS {n : Nat} (h : Ev t Γ (.str (TL.numL n))) (hn : n ≤ 10 ^ 30) : Ev (tp1 fIntS t) Γ (.int (n : Nat)) := ev_1 h fun k z => ⟨n, by
    rw [ss_num]
    exact TL.int_num (Nat.le_trans (numL_30 hn) (by decide)), Nat.le_trans (numL_30 hn) (by decide), z⟩
theorem rw_arg {T : Ga} {z : Int} : ∀ (y : D) (acc : List D), Ev (tpVar 1) (.pw p y :: .pu (.int z) :: .ow (.lst acc) :: T) (.int z) := fun y acc => ev_var rfl
theorem rdPow {A : Prop} {t : Tr} {d : Nat} (ht : OkT t) (hth : t.isTh = false) (hd : d ≤ n) (hf : t.dp ≤ d ∧ t.dp ≤ 12 ∨ A) : RdPc (fsScPow CR CX n) CR CX (d : Nat) StopP A t := fun r k kx hs hst hx hk => ⟨t, r, d, ⟨rfl, ht, hth, hd, hs, hst⟩, hf.imp_right hx, hk⟩
theorem rdRow {A : Prop} {t : Tr} {d : Nat} (ht : OkT t) (hd : d < n) (hf : t.dp ≤ d ∧ t.dp ≤ 12 ∨ A) : RdPc (fsScRow CR CX n) CR CX (d : Nat) StopR A t := fun r k kx hs hst hx hk => ⟨t, r, d, ⟨rfl, ht, hd, hs, hst⟩, hf.imp_right hx, hk⟩
theorem stopP_S {qs : List Tr} {r : List Nat} (h : StopR r) : StopP (scS 46 qs ++ r) := by
  cases qs with
  | nil => exact h.p
  | cons q qs =>
    rw [scS_cons]
    exact fun c e => .inl (Option.some.inj e).symm
theorem stopR_S {qs : List Tr} {r : List Nat} : StopR (scS 124 qs ++ 41 :: r) := by
  cases qs with
  | nil => exact fun c e => .inr (Option.some.inj e).symm
  | cons q qs =>
    rw [scS_cons]
    exact fun c e => .inl (Option.some.inj e).symm
abbrev retP (w : List Nat) : TSp := (tsRet (tpIf (tbV (tpOp fGt (tp1 fLenS (tpVarU 2)) (tpC (.int 1)))) (tpTup (tlCons (tpC (.str w)) (tlStar (tpVarU 2) tlNil))) (tpOp fIx (tpVarU 2) (tpC (.int 0)))))
theorem ret_many {w : List Nat} {s0 s1 : Sl} {l : List D} (h : 2 ≤ l.length) (hz : l.length ≤ 1000) (hk : P.rt (.tup (.str w :: l)) (s0 :: s1 :: .ow (.lst l) :: T)) : retP w P (s0 :: s1 :: .ow (.lst l) :: T) := by
  have g := ev_gtI (Γ := s0 :: s1 :: .ow (.lst l) :: T) (ev_lenL (ev_varO (i := 2) (d := .lst l) rfl)) (ev_c (.int 1))
  rw [decide_eq_true (by omega)] at g
  refine st_ret (ev_ifT (evb_v g) (ev_tup (evl_cons (ev_c (.str w)) (evl_star (ev_varO (i := 2) (d := .lst l) rfl) evl_nil)) (by rw [List.append_nil, List.length_cons]; omega))) ?_
  rw [List.append_nil]
  exact hk
theorem ret_one {w : List Nat} {s0 s1 : Sl} {d : D} (hk : P.rt d (s0 :: s1 :: .ow (.lst [d]) :: T)) : retP w P (s0 :: s1 :: .ow (.lst [d]) :: T) := by
  have g := ev_gtI (Γ := s0 :: s1 :: .ow (.lst [d]) :: T) (ev_lenL (ev_varO (i := 2) (d := .lst [d]) rfl)) (ev_c (.int 1))
  rw [decide_eq_false (by show ¬ (1 : Int) < 1; decide)] at g
  exact st_ret (ev_ifF (evb_v g) (ev_ixL (ev_varO (i := 2) (d := .lst [d]) rfl) (ev_c (.int 0)) rfl)) hk
/-- the first part, and then the others -/
theorem row_go {qs : List Tr} {q : Tr} {r : List Nat} {d : Nat} (hq : ∀ t ∈ q :: qs, OkT t ∧ t.isTh = false ∧ (t.dp ≤ d ∧ t.dp ≤ 12 ∨ kx (xText CX))) (hd : d ≤ n) (hs : TxOk (scT q ++ (scS 46 qs ++ r))) (hst : StopR r) (hl : qs.length ≤ 1000)
    (hk : ∀ p, retP wTHE (iEnds p ko kx) [.pw p (rdr CR r), .pu (.int (d : Nat)), .ow (.lst (q.dat :: qs.map Tr.dat))]) :
    m_Reader_row CR (fsScPow CR CX n) (fsPassed CR) [rdr CR (scT q ++ (scS 46 qs ++ r)), .int (d : Nat)] ko kx := by
  intro p
  have hp : ∀ t ∈ q :: qs, RdPc (fsScPow CR CX n) CR CX (d : Nat) StopP (kx (xText CX)) t := fun t ht => by
    obtain ⟨h1, h2, h3⟩ := hq t ht
    exact rdPow h1 h2 hd h3
  have nt : r.head? ≠ some 46 := fun z => by rcases hst _ z with z | z <;> cases z
  show tsOwn1Z 2 _ _ _
  refine zm (T := [.pu (.int (d : Nat)), .un]) rfl rfl (evl_1 (ev_var rfl)) rfl (hp q List.mem_cons_self _ _ _ hs (stopP_S hst) (fun a => a) ?_)
  show tsSeq (tsWhileZ _ _) _ _ _
  refine ⟨qs.length + 1, loopZ (T := []) rfl (fun _ => rfl) (by decide) nt (fun _ a => a) rw_arg qs [q.dat] (fun t ht => hp t (List.mem_cons_of_mem _ ht)) (fun qs => stopP_S hst) (by show 1 + _ < _; omega) hs.suf ?_⟩
  exact hk p
theorem scRow_ok' : fsScRow CR CX (n + 1) ds ko kx → m_Reader_row CR (fsScPow CR CX n) (fsPassed CR) ds ko kx := by
  rintro ⟨t, r, d, ⟨rfl, ht, hd, hs, hst⟩, hf, hk⟩
  by_cases e : t.isTh = true
  · cases t with
    | th ps =>
      cases ht with
      | th h1 h2 h3 h4 h5 =>
        match ps, h1, h2, h3, h4 with
        | q :: qs, h1, h2, h3, h4 =>
          have tx : scT (.th (q :: qs)) ++ r = scT q ++ (scS 46 qs ++ r) := by rw [scT, scS_tail, List.append_assoc]
          rw [tx] at hs ⊢
          refine row_go (fun t ht => ⟨h3 t ht, (h4 t ht).1, hf.imp_left fun z => ?_⟩) (by omega) hs hst (by rw [List.length_cons] at h2; omega) fun p => ?_
          · have := dpL_le ht
            rw [Tr.dp] at z
            omega
          · refine ret_many (l := (q :: qs).map Tr.dat) (by rw [List.length_map]; exact h1) (by rw [List.length_map]; exact h2) ?_
            rw [dat_eq (.th (q :: qs))] at hk
            exact ⟨rfl, hk⟩
    | _ => cases e
  · have e : t.isTh = false := by simpa using e
    have := row_go (CR := CR) (CX := CX) (n := n) (qs := []) (q := t) (r := r) (d := d) (ko := ko) (kx := kx) (fun u hu => by
      rw [List.mem_singleton.mp hu]
      exact ⟨ht, e, hf⟩) (by omega) hs hst (by decide) fun p => ret_one ⟨rfl, hk⟩
    exact this
theorem ev_chLL {a b c : Int} (h : Ev ta Γ (.int a)) (g : Ev tb Γ (.int b)) (f : Ev tc Γ (.int c)) : Ev (tpChain fLe fLe ta tb tc) Γ (.bl (decide (a ≤ b) && decide (b ≤ c))) := fun k kx z => h _ _ (g _ _ (by
  show (if decide (a ≤ b) = true then _ else _)
  by_cases q : a ≤ b
  · rw [if_pos (decide_eq_true q)]
    rw [decide_eq_true q, Bool.true_and] at z
    exact f _ _ z
  · rw [if_neg (by rw [decide_eq_true_eq]; exact q)]
    rw [decide_eq_false q, Bool.false_and] at z
    exact z))
theorem rd_digits {c : Nat} : c ∈ DIG ↔ 48 ≤ c ∧ c ≤ 57 := by
  simp only [List.mem_cons, List.not_mem_nil, or_false]
  omega
theorem pows_go {r : List Nat} {d : Nat} (hst : StopP r) (ps : List (Option Nat)) : ∀ c, (pwsS ps ++ r).head? = some c → c ∉ DIG ∧ c ∉ CAP ∧ c ∉ LET := fun c e => by
  have : c = 94 ∨ c = 46 ∨ c = 124 ∨ c = 41 := by
    match ps, e with
    | [], e => exact .inr (hst c e)
    | some n :: ps, e => exact .inl (Option.some.inj e).symm
    | none :: ps, e => exact .inl (Option.some.inj e).symm
  rcases this with rfl | rfl | rfl | rfl <;> decide
abbrev pwBody (CR CX : Addr) : TSp := (tsSeq (tsAug 3 (fun i j => i + j) (tpC (.int 1)))
    (tsSeq (tsIf (tbV (tpOp fGt (tpVar 3) (tpC (.int 12))))
    (tsRaise0 CX "InvalidText")
    tsNext)
    (tsSeq (tsIfZ (tbzV (tzMeth 0 [(CR, fsPassed CR)] "passed" 1 (tlCons (tpC (.str [42])) tlNil)))
    (tsSeq (tsSet 2 (tpTup (tlCons (tpC (.str [97, 103, 97, 105, 110])) (tlCons (tpVar 2) tlNil))))
    tsCont)
    tsNext)
    (tsSeq (tsSetZ 4 (tzMeth 0 [(CR, fsRunR CR)] "run" 1 (tlCons (tpC (.str [48, 49, 50, 51, 52, 53, 54, 55, 56, 57])) tlNil)))
    (tsSeq (tsIf (tbOr (tbNot (tbV (tpChain fLe fLe (tpC (.int 1)) (tp1 fLenS (tpVar 4)) (tpC (.int 31))))) (tbAnd (tbV (tpOp fEq (tpOp fIx (tpVar 4) (tpC (.int 0))) (tpC (.str [48])))) (tbV (tpOp fNe (tpVar 4) (tpC (.str [48]))))))
    (tsRaise0 CX "InvalidText")
    tsNext)
    (tsSet 2 (tpTup (tlCons (tpC (.str [116, 105, 109, 101, 115])) (tlCons (tpVar 2) (tlCons (tp1 fIntS (tpVar 4)) tlNil))))))))))
theorem pw_loop {r : List Nat} {dI : D} (hst : StopP r) (hx : ∀ Γ, kx (xText CX) → P.xx (xText CX) Γ) : ∀ (ps : List (Option Nat)) (u : Tr) (j : Nat) (s4 : Sl), noKp [s4] = true → (∀ n, some n ∈ ps → n ≤ 10 ^ 30) → (j + ps.length ≤ 12 ∨ kx (xText CX)) → TxOk (pwsS ps ++ r) →
    (∀ j s4, P.nx [.pw p (rdr CR r), .pu dI, .pu (ps.foldl appP u).dat, .pu (.int j), s4]) →
    whZ (tbPass CR 94) (pwBody CR CX) P (ps.length + 1) [.pw p (rdr CR (pwsS ps ++ r)), .pu dI, .pu u.dat, .pu (.int (j : Nat)), s4]
  | [], u, j, s4, nk, _, _, hs, hk => bz_no (s := r) (T := [.pu dI, .pu u.dat, .pu (.int (j : Nat)), s4]) nk hs (fun z => by rcases hst _ z with z | z | z <;> cases z) (by decide) (hk _ _)
  | o :: ps, u, j, s4, nk, hn, hf, hs, hk => by
    have step : ∀ (rest : List Nat) (y : Ga), y = [.pw p (rdr CR rest), .pu dI, .pu u.dat, .pu (.int ((j + 1 : Nat) : Nat)), s4] → True := fun _ _ _ => trivial
    have g12 : ∀ {s : List Nat}, Ev (tpOp fGt (tpVar 3) (tpC (.int 12))) [.pw p (rdr CR s), .pu dI, .pu u.dat, .pu (.int ((j : Nat) + 1)), s4] (.bl (decide ((12 : Int) < (j : Nat) + 1))) := fun {s} => ev_gtI (ev_var (d := .int ((j : Nat) + 1)) rfl) (ev_c (.int 12))
    have cast : ((j : Nat) : Int) + 1 = ((j + 1 : Nat) : Int) := by omega
    have fit : j + 1 + ps.length ≤ 12 ∨ kx (xText CX) := hf.imp_left fun z => by rw [List.length_cons] at z; omega
    match o, hn, hs, hk with
    | none, hn, hs, hk =>
      have hs : TxOk (94 :: 42 :: (pwsS ps ++ r)) := hs
      refine bz_yes (T := [.pu dI, .pu u.dat, .pu (.int (j : Nat)), s4]) nk hs ?_
      show tsSeq (tsAug _ _ _) _ _ _
      refine st_ifNB (Γ := [.pw p (rdr CR (42 :: (pwsS ps ++ r))), .pu dI, .pu u.dat, .pu (.int ((j : Nat) + 1)), s4]) (evb_v g12) (fun e => ?_) (fun e => ?_)
      · have e : (12 : Int) < (j : Nat) + 1 := by simpa using e
        exact hx _ (hf.resolve_left fun z => by rw [List.length_cons] at z; omega)
      show tsIfZ (tbPass CR 42) _ _ _ _
      refine bz_yes (c := 42) (T := [.pu dI, .pu u.dat, .pu (.int ((j : Nat) + 1)), s4]) nk hs.tl ?_
      refine st_set (Γ := [.pw p (rdr CR (pwsS ps ++ r)), .pu dI, .pu u.dat, .pu (.int ((j : Nat) + 1)), s4]) (d := (Tr.ag u).dat) (by
        rw [dat_eq (.ag u)]
        exact ev_tup (evl_2 (ev_c _) (ev_var rfl)) (by show 2 ≤ 100000; decide)) ?_
      rw [cast]
      exact pw_loop hst hx ps (.ag u) (j + 1) s4 nk (fun n h => hn n (List.mem_cons_of_mem _ h)) fit hs.tl.tl hk
    | some n, hn, hs, hk =>
      have n30 := hn n List.mem_cons_self
      have tx : pwsS (some n :: ps) ++ r = 94 :: (TL.numL n ++ (pwsS ps ++ r)) := by
        show (94 :: TL.numL n) ++ pwsS ps ++ r = _
        rw [List.append_assoc]
        rfl
      rw [tx] at hs ⊢
      refine bz_yes (T := [.pu dI, .pu u.dat, .pu (.int (j : Nat)), s4]) nk hs ?_
      show tsSeq (tsAug _ _ _) _ _ _
      refine st_ifNB (Γ := [.pw p (rdr CR (TL.numL n ++ (pwsS ps ++ r))), .pu dI, .pu u.dat, .pu (.int ((j : Nat) + 1)), s4]) (evb_v g12) (fun e => ?_) (fun e => ?_)
      · have e : (12 : Int) < (j : Nat) + 1 := by simpa using e
        exact hx _ (hf.resolve_left fun z => by rw [List.length_cons] at z; omega)
      show tsIfZ (tbPass CR 42) _ _ _ _
      refine bz_no (c := 42) (T := [.pu dI, .pu u.dat, .pu (.int ((j : Nat) + 1)), s4]) nk hs.tl (fun z => ?_) (by decide) ?_
      · cases e2 : TL.numL n with
        | nil => exact TL.numL_ne _ e2
        | cons c l =>
          rw [e2] at z
          have := TL.numL_digits n c (by rw [e2]; exact List.mem_cons_self)
          have : c = 42 := Option.some.inj z
          omega
      show tsSetZ 4 (tzRun CR DIG) _ _
      unfold tsSetZ
      refine zrun (T := [.pu dI, .pu u.dat, .pu (.int ((j : Nat) + 1)), s4]) nk hs.tl (fun c hc => rd_digits.mpr (TL.numL_digits n c hc)) (fun c hc => (pows_go (d := 0) hst ps c hc).1) ?_
      let G : Ga := [.pw p (rdr CR (pwsS ps ++ r)), .pu dI, .pu u.dat, .pu (.int ((j : Nat) + 1)), .pu (.str (TL.numL n))]
      have v4 : Ev (tpVar 4) G (.str (TL.numL n)) := ev_var rfl
      have tn : TxOk (TL.numL n) := hs.tl.pre
      have l1 : 1 ≤ (TL.numL n).length := by
        have := TL.numL_ne n
        cases e2 : TL.numL n with
        | nil => exact absurd e2 this
        | cons c l => rw [List.length_cons]; omega
      have l2 := numL_30 n30
      have ch : Ev (tpChain fLe fLe (tpC (.int 1)) (tp1 fLenS (tpVar 4)) (tpC (.int 31))) G (.bl true) := by
        have := ev_chLL (ev_c (Γ := G) (.int 1)) (ev_lenS v4 tn.ln) (ev_c (.int 31))
        rw [decide_eq_true (by omega), decide_eq_true (by omega)] at this
        exact this
      have hd0 : ∃ c l, TL.numL n = c :: l := by
        cases e2 : TL.numL n with
        | nil => exact absurd e2 (TL.numL_ne n)
        | cons c l => exact ⟨c, l, rfl⟩
      obtain ⟨c, l, e2⟩ := hd0
      have ix : Ev (tpOp fIx (tpVar 4) (tpC (.int 0))) G (.str [c]) := ev_ixS v4 (ev_c (.int 0)) tn.ln (by
        rw [e2]
        show atI (c :: l) ((0 : Nat) : Int) = _
        rw [at_nat _ _ (by simp)]
        rfl)
      have pc : D.plain (.str [c]) = true := TxOk.pl (a := [c]) ⟨by show 1 ≤ 20000; decide, fun x hx => tn.hc x (by rw [e2, List.mem_singleton.mp hx]; exact List.mem_cons_self)⟩
      have eq := ev_eqS ix (ev_c (.str [48])) pc (by decide)
      have an : EvB (tbAnd (tbV (tpOp fEq (tpOp fIx (tpVar 4) (tpC (.int 0))) (tpC (.str [48])))) (tbV (tpOp fNe (tpVar 4) (tpC (.str [48]))))) G false := by
        by_cases hc : c = 48
        · have n0 : n = 0 := by
            rcases Nat.eq_zero_or_pos n with h | h
            · exact h
            · have := numL_hd h
              rw [e2, hc] at this
              exact absurd rfl this
          have ne := ev_neS v4 (ev_c (.str [48])) tn.pl (by decide)
          rw [hc] at eq
          subst n0
          exact evb_andT (evb_v eq) (evb_v ne)
        · rw [decide_eq_false (by intro z; exact hc (List.cons.inj z).1)] at eq
          exact evb_andF (evb_v eq)
      refine st_ifN (Γ := G) (evb_orF (evb_not (evb_v ch)) an) ?_
      refine st_set1 (Γ := G) (d := (Tr.ti u n).dat) (by
        rw [dat_eq (.ti u n)]
        exact ev_tup (evl_3 (ev_c _) (ev_var rfl) (ev_intS v4 n30)) (by show 3 ≤ 100000; decide)) ?_
      show whZ (tbPass CR 94) (pwBody CR CX) P (ps.length + 1) [.pw p (rdr CR (pwsS ps ++ r)), .pu dI, .pu (Tr.ti u n).dat, .pu (.int ((j : Nat) + 1)), .pu (.str (TL.numL n))]
      rw [cast]
      exact pw_loop hst hx ps (.ti u n) (j + 1) _ rfl (fun n h => hn n (List.mem_cons_of_mem _ h)) fit hs.tl.suf hk
theorem scPow_ok' : fsScPow CR CX n ds ko kx → m_Reader_powers CX CR (fsScAtom CR CX n) (fsPassed CR) (fsRunR CR) ds ko kx := by
  rintro ⟨t, r, d, ⟨rfl, ht, hth, hd, hs, hst⟩, hf, hk⟩ p
  have w : wrT t = scT t := by
    show wrB t.isTh _ = _
    rw [hth]
    rfl
  have wd : wdp t = t.dp := by
    unfold wdp
    rw [hth]
    rfl
  obtain ⟨c1, c2⟩ := wdp_chain t
  have tx : scT t ++ r = wrT t.bs ++ (pwsS t.pw ++ r) := by rw [← w, wr_chain t, List.append_assoc]
  rw [tx] at hs ⊢
  have le : t.bs.dp ≤ wdp t.bs := by unfold wdp; split <;> omega
  show tsPar2Z 2 3 _ _ _ _
  refine zm (T := [.pu (.int (d : Nat)), .un, .un, .un]) rfl rfl (evl_1 (ev_var rfl)) rfl ⟨t.bs, pwsS t.pw ++ r, d, ⟨rfl, bs_ok ht, bs_plain t, hd, hs, ?_⟩, hf.imp_left fun z => ⟨by omega, by omega⟩, ?_⟩
  · intro c e
    match h : t.pw, e with
    | [], e => exact hst.a c e
    | some n :: ps, e => exact .inr (.inr (.inr (Option.some.inj e).symm))
    | none :: ps, e => exact .inr (.inr (.inr (Option.some.inj e).symm))
  · show tsSeq (tsWhileZ _ _) _ _ _
    refine ⟨t.pw.length + 1, pw_loop (kx := kx) hst (fun _ z => z) t.pw t.bs 0 .un rfl (pw_ok ht) (hf.imp_left fun z => by omega) hs.suf fun j s4 => ?_⟩
    rw [bs_app]
    exact st_ret (P := iEnds p ko kx) (Γ := [.pw p (rdr CR r), .pu (.int (d : Nat)), .pu t.dat, .pu (.int j), s4]) (ev_var (i := 2) rfl) ⟨rfl, hk⟩
theorem let_ne {c : Nat} (h : c ∈ LET) : c ≠ 40 ∧ c ≠ 45 ∧ c < 128 ∧ c ∉ CAP := by
  have : ∀ c ∈ LET, c ≠ 40 ∧ c ≠ 45 ∧ c < 128 ∧ c ∉ CAP := by decide
  exact this c h
theorem cap_ne {c : Nat} (h : c ∈ CAP) : c ≠ 40 ∧ c ≠ 45 ∧ c < 128 ∧ c ∉ LET := by
  have : ∀ c ∈ CAP, c ≠ 40 ∧ c ≠ 45 ∧ c < 128 ∧ c ∉ LET := by decide
  exact this c h
theorem stopA_no {r : List Nat} (h : StopA r) : ∀ c, r.head? = some c → c ∉ CAP ∧ c ∉ LET := fun c e => by
  rcases h c e with rfl | rfl | rfl | rfl <;> decide
abbrev atA (CR CX : Addr) (gr : FSo) : TSp := (tsSeq (tsOwn1Z 2 (tzMeth 0 [(CR, gr)] "row" 1 (tlCons (tpOp fSub (tpVar 1) (tpC (.int 1))) tlNil)))
    (tsSeq (tsWhileZ (tbzV (tzMeth 0 [(CR, fsPassed CR)] "passed" 1 (tlCons (tpC (.str [124])) tlNil)))
    (tsAppZ 2 (tzMeth 0 [(CR, gr)] "row" 1 (tlCons (tpOp fSub (tpVar 1) (tpC (.int 1))) tlNil))))
    (tsSeq (tsIfZ (tbzNot (tbzV (tzMeth 0 [(CR, fsPassed CR)] "passed" 1 (tlCons (tpC (.str [41])) tlNil))))
    (tsRaise0 CX "InvalidText")
    tsNext)
    (retP wEIT))))
/-- what stands in brackets -/
theorem at_in {qs : List Tr} {q : Tr} {r : List Nat} {d : Nat} {A : Prop} (hq : ∀ t ∈ q :: qs, OkT t ∧ (t.dp ≤ d ∧ t.dp ≤ 12 ∨ A)) (hA : ∀ Γ, A → P.xx (xText CX) Γ) (hd : d < n) (hs : TxOk (scT q ++ (scS 124 qs ++ 41 :: r))) (hl : qs.length ≤ 1000)
    (hk : retP wEIT P [.pw p (rdr CR r), .pu (.int ((d : Nat) + 1)), .ow (.lst (q.dat :: qs.map Tr.dat)), .un, .un]) :
    atA CR CX (fsScRow CR CX n) P [.pw p (rdr CR (scT q ++ (scS 124 qs ++ 41 :: r))), .pu (.int ((d : Nat) + 1)), .un, .un, .un] := by
  have hp : ∀ t ∈ q :: qs, RdPc (fsScRow CR CX n) CR CX (d : Nat) StopR A t := fun t ht => by
    obtain ⟨h1, h3⟩ := hq t ht
    exact rdRow h1 hd h3
  have arg : ∀ (y : D) (T : Ga), Ev (tpOp fSub (tpVar 1) (tpC (.int 1))) (.pw p y :: .pu (.int ((d : Nat) + 1)) :: T) (.int (d : Nat)) := fun y T => by
    have := ev_subI (Γ := .pw p y :: .pu (.int ((d : Nat) + 1)) :: T) (ev_var (i := 1) rfl) (ev_c (.int 1))
    rwa [show ((d : Nat) : Int) + 1 - 1 = (d : Nat) by omega] at this
  show tsOwn1Z 2 _ _ _
  unfold tsOwn1Z
  refine zm (T := [.pu (.int ((d : Nat) + 1)), .un, .un, .un]) rfl rfl (evl_1 (arg _ _)) rfl (hp q List.mem_cons_self _ _ _ hs stopR_S (fun a => hA _ a) ?_)
  show tsSeq (tsWhileZ _ _) _ _ _
  show ∃ m, whZ (tbPass CR 124) (tsAppZ 2 (tzMeth 0 [(CR, fsScRow CR CX n)] "row" 1 (tlCons (tpOp fSub (tpVar 1) (tpC (.int 1))) tlNil))) { P with nx := tsSeq (tsIfZ (tbzNot (tbPass CR 41)) (tsRaise0 CX "InvalidText") tsNext) (retP wEIT) P } m [.pw p (rdr CR (scS 124 qs ++ 41 :: r)), .pu (.int ((d : Nat) + 1)), .ow (.lst [q.dat]), .un, .un]
  refine ⟨qs.length + 1, loopZ (P := { P with nx := tsSeq (tsIfZ (tbzNot (tbPass CR 41)) (tsRaise0 CX "InvalidText") tsNext) (retP wEIT) P }) (CX := CX) (nm := "row") (A := A) (Stop := StopR) (z := (d : Nat)) (T := [.un, .un]) (tail := 41 :: r) rfl (fun _ => rfl) (by decide) (by intro z; cases z) (fun Γ a => hA Γ a) (fun y acc => arg y _) qs [q.dat] (fun t ht => hp t (List.mem_cons_of_mem _ ht)) (fun qs => stopR_S) (by show 1 + _ < _; omega) hs.suf ?_⟩
  show tsIfZ (tbzNot (tbPass CR 41)) _ _ _ _
  unfold tsIfZ tbzNot
  refine bz_yes (c := 41) (T := [.pu (.int ((d : Nat) + 1)), .ow (.lst (q.dat :: qs.map Tr.dat)), .un, .un]) rfl hs.suf.suf ?_
  exact hk
theorem atom_no {s : List Nat} {d : Nat} {tb : TSp} {X Y : TSp} {c : Nat} (hs : TxOk s) (hh : s.head? ≠ some c) (hc : c < 128) (nk : noKp T = true) (h : Y P (.pw p (rdr CR s) :: T)) : tsSeq (tsIfZ (tbPass CR c) X tsNext) Y P (.pw p (rdr CR s) :: T) := by
  show tsIfZ (tbPass CR c) _ _ _ _
  unfold tsIfZ
  exact bz_no nk hs hh hc h
theorem atom_ok' : fsScAtom CR CX n ds ko kx → m_Reader_atom CX CR fsIsName (fsPassed CR) (fsScRow CR CX n) (fsRunR CR) ds ko kx := by
  rintro ⟨t, r, d, ⟨rfl, ht, hb, hd, hs, hst⟩, hf, hk⟩ p
  let G : Ga := [.pw p (rdr CR (wrT t ++ r)), .pu (.int (d : Nat)), .un, .un, .un]
  have e0 := ev_eqI (Γ := G) (ev_var (i := 1) (d := .int (d : Nat)) rfl) (ev_c (.int 0))
  have wp : 1 ≤ wdp t := by
    have := dp_pos t
    unfold wdp
    split <;> omega
  refine st_ifNB (Γ := G) (evb_v e0) (fun e => ?_) (fun e => ?_)
  · have e : ((d : Nat) : Int) = 0 := by simpa using e
    exact hf.resolve_left fun z => by omega
  have e : ¬ ((d : Nat) : Int) = 0 := by simpa using e
  obtain ⟨d', rfl⟩ : ∃ d', d = d' + 1 := ⟨d - 1, by omega⟩
  have cast : ((d' + 1 : Nat) : Int) = ((d' : Nat) : Int) + 1 := by omega
  have open_ : ∀ {s : List Nat}, wrT t ++ r = 40 :: s → atA CR CX (fsScRow CR CX n) (iEnds p ko kx) [.pw p (rdr CR s), .pu (.int ((d' : Nat) + 1)), .un, .un, .un] → TxOk (40 :: s) → ∀ Y : TSp,
      tsSeq (tsIfZ (tbPass CR 40) (atA CR CX (fsScRow CR CX n)) tsNext) Y (iEnds p ko kx) G := fun {s} e2 h hs Y => by
    show tsIfZ (tbPass CR 40) _ _ _ [.pw p (rdr CR (wrT t ++ r)), .pu (.int ((d' + 1 : Nat) : Nat)), .un, .un, .un]
    rw [e2]
    unfold tsIfZ
    refine bz_yes (T := [.pu (.int ((d' + 1 : Nat) : Nat)), .un, .un, .un]) rfl hs ?_
    rw [cast]
    exact h
  have swap : ∀ {s : List Nat} (X : TSp), wrT t ++ r = s → X (iEnds p ko kx) [.pw p (rdr CR s), .pu (.int ((d' + 1 : Nat) : Nat)), .un, .un, .un] → X (iEnds p ko kx) G := fun X e h => by
    subst e
    exact h
  cases t with
  | ti t n => cases hb
  | ag t => cases hb
  | ei ps =>
    cases ht with
    | ei h1 h2 h3 =>
      match ps, h1, h2, h3 with
      | q :: qs, h1, h2, h3 =>
        have tx : wrT (.ei (q :: qs)) ++ r = 40 :: (scT q ++ (scS 124 qs ++ 41 :: r)) := by
          show scT (.ei (q :: qs)) ++ r = _
          rw [scT, scS_tail, List.cons_append, List.append_assoc, List.append_assoc]
          rfl
        refine open_ tx (at_in (A := kx (xText CX)) (fun t ht => ⟨h3 t ht, hf.imp_left fun z => ?_⟩) (fun _ a => a) (by omega) (by rw [tx] at hs; exact hs.tl) (by rw [List.length_cons] at h2; omega) ?_) (by rw [tx] at hs; exact hs) _
        · have := dpL_le ht
          obtain ⟨z1, z2⟩ := z
          have z1 : Tr.dp (.ei (q :: qs)) ≤ d' + 1 := z1
          rw [Tr.dp] at z1 z2
          omega
        · refine ret_many (l := (q :: qs).map Tr.dat) (by rw [List.length_map]; exact h1) (by rw [List.length_map]; exact h2) ?_
          rw [dat_eq (.ei (q :: qs))] at hk
          exact ⟨rfl, hk⟩
  | th ps =>
    have tx : wrT (.th ps) ++ r = 40 :: (scT (.th ps) ++ (scS 124 [] ++ 41 :: r)) := by
      show 40 :: (scT (.th ps) ++ [41]) ++ r = _
      rw [List.cons_append, List.append_assoc]
      rfl
    refine open_ tx (at_in (A := kx (xText CX)) (qs := []) (fun t h => ⟨by rw [List.mem_singleton.mp h]; exact ht, hf.imp_left fun z => ?_⟩) (fun _ a => a) (by omega) (by rw [tx] at hs; exact hs.tl) (by decide) ?_) (by rw [tx] at hs; exact hs) _
    · rw [List.mem_singleton.mp h]
      obtain ⟨z1, z2⟩ := z
      have z1 : Tr.dp (.th ps) + 1 ≤ d' + 1 := z1
      omega
    · exact ret_one ⟨rfl, hk⟩
  | nm s =>
    cases ht with
    | nm h1 h2 h3 =>
      match s, h1, h2, h3 with
      | c :: s, h1, h2, h3 =>
        obtain ⟨n1, n2, n3, n4⟩ := cap_ne (h3 c List.mem_cons_self)
        have tx : wrT (.nm (c :: s)) ++ r = c :: s ++ r := by
          show scT (.nm (c :: s)) ++ r = _
          rw [scT]
        refine swap _ tx ?_
        rw [tx] at hs
        refine atom_no (d := 0) (tb := tsNext) hs (fun z => n1 (Option.some.inj z)) (by decide) rfl ?_
        refine atom_no (d := 0) (tb := tsNext) hs (fun z => n2 (Option.some.inj z)) (by decide) rfl ?_
        show tsSetZ 3 (tzRun CR LET) _ _
        unfold tsSetZ
        refine zrun (a := []) (T := [.pu (.int ((d' + 1 : Nat) : Nat)), .un, .un, .un]) rfl hs (fun _ z => nomatch z) (fun x hx => by rw [← Option.some.inj hx]; exact n4) ?_
        let G3 : Ga := [.pw p (rdr CR (c :: s ++ r)), .pu (.int ((d' + 1 : Nat) : Nat)), .un, .pu (.str []), .un]
        have ne := ev_neS (Γ := G3) (ev_var (i := 3) (d := .str []) rfl) (ev_c (.str [])) rfl rfl
        refine st_ifN (Γ := G3) (evb_v ne) ?_
        show tsSetZ 4 (tzRun CR CAP) _ _
        unfold tsSetZ
        refine zrun (a := c :: s) (r := r) (T := [.pu (.int ((d' + 1 : Nat) : Nat)), .un, .pu (.str []), .un]) rfl hs h3 (fun x hx => (stopA_no hst x hx).1) ?_
        let G4 : Ga := [.pw p (rdr CR r), .pu (.int ((d' + 1 : Nat) : Nat)), .un, .pu (.str []), .pu (.str (c :: s))]
        have v4 : Ev (tpVar 4) G4 (.str (c :: s)) := ev_var rfl
        have isn : Ev (tpCall 1 fsIsName (tlCons (tpVar 4) tlNil)) G4 (.bl true) := ev_call (evl_1 v4) rfl fun k kx z => ⟨by omega, by
          have : nameB (c :: s) = true := by
            unfold nameB
            rw [decide_eq_true h1, decide_eq_true h2, List.all_eq_true.mpr fun x hx => decide_eq_true (h3 x hx)]
            rfl
          rw [this]
          exact z⟩
        refine st_ifN (Γ := G4) (evb_not (evb_v isn)) ?_
        refine st_ret (Γ := G4) (P := iEnds p ko kx) (ev_tup (evl_2 (ev_c _) v4) (by show 2 ≤ 100000; decide)) ?_
        rw [dat_eq (.nm (c :: s))] at hk
        exact ⟨rfl, hk⟩
  | dd v =>
    cases ht with
    | dd h3 hz3 =>
      match v, h3 with
      | [], h3 =>
        have tx : wrT (.dd []) ++ r = 45 :: r := by
          show scT (.dd []) ++ r = _
          rw [scT]
          rfl
        refine swap _ tx ?_
        rw [tx] at hs
        refine atom_no (d := 0) (tb := tsNext) hs (by intro z; cases z) (by decide) rfl ?_
        show tsIfZ (tbPass CR 45) _ _ _ _
        unfold tsIfZ
        refine bz_yes (T := [.pu (.int ((d' + 1 : Nat) : Nat)), .un, .un, .un]) rfl hs ?_
        refine st_ret (Γ := [.pw p (rdr CR r), .pu (.int ((d' + 1 : Nat) : Nat)), .un, .un, .un]) (P := iEnds p ko kx) (ev_tup (evl_2 (ev_c _) (ev_c _)) (by show 2 ≤ 100000; decide)) ?_
        rw [dat_eq (.dd [])] at hk
        exact ⟨rfl, hk⟩
      | c :: v, h3 =>
        obtain ⟨n1, n2, n3, n4⟩ := let_ne (h3 c List.mem_cons_self)
        have tx : wrT (.dd (c :: v)) ++ r = c :: v ++ r := by
          show scT (.dd (c :: v)) ++ r = _
          rw [scT, if_neg (by simp)]
        refine swap _ tx ?_
        rw [tx] at hs
        refine atom_no (d := 0) (tb := tsNext) hs (fun z => n1 (Option.some.inj z)) (by decide) rfl ?_
        refine atom_no (d := 0) (tb := tsNext) hs (fun z => n2 (Option.some.inj z)) (by decide) rfl ?_
        show tsSetZ 3 (tzRun CR LET) _ _
        unfold tsSetZ
        refine zrun (a := c :: v) (r := r) (T := [.pu (.int ((d' + 1 : Nat) : Nat)), .un, .un, .un]) rfl hs h3 (fun x hx => (stopA_no hst x hx).2) ?_
        let G3 : Ga := [.pw p (rdr CR r), .pu (.int ((d' + 1 : Nat) : Nat)), .un, .pu (.str (c :: v)), .un]
        have v3 : Ev (tpVar 3) G3 (.str (c :: v)) := ev_var rfl
        have ne := ev_neS (Γ := G3) v3 (ev_c (.str [])) hs.pre.pl rfl
        rw [decide_eq_false (by simp)] at ne
        refine st_ifT (Γ := G3) (evb_v ne) ?_
        refine st_ret (Γ := G3) (ev_tup (evl_2 (ev_c _) v3) (by show 2 ≤ 100000; decide)) ?_
        rw [dat_eq (.dd (c :: v))] at hk
        exact ⟨rfl, hk⟩
end
end PL
set_option Elab.async false
set_option linter.all false
set_option maxRecDepth 100000
set_option maxHeartbeats 4000000
namespace PL
open PySem L2 PyProof.Rows
end PL
set_option Elab.async false
set_option linter.all false
set_option maxRecDepth 100000
set_option maxHeartbeats 4000000
namespace PL
open PySem L2 PyProof.Rows
end PL
set_option Elab.async false
set_option linter.all false
set_option maxRecDepth 100000
set_option maxHeartbeats 4000000
namespace PL
open PySem L2 PyProof.Rows
end PL
set_option Elab.async false
set_option linter.all false
set_option maxRecDepth 100000
set_option maxHeartbeats 4000000
namespace PL
open PySem L2
end PL
set_option Elab.async false
set_option linter.all false
set_option maxRecDepth 100000
set_option maxHeartbeats 4000000
namespace PL
open PySem L2
section
variable {ds : List D} {kd : KD} {kx : KX} {CD : Addr} {Γ : Ga} {tl : TL} {i n : Nat} {ta tb : TP}
local instance : Tabl := ⟨[], fun p hp => absurd hp (by simp)⟩
theorem gd {s : List Nat} {j : Nat} (h : j < s.length) : s.getD j 0 = s[j] := by
  rw [List.getD_eq_getElem?_getD, List.getElem?_eq_getElem h]
  rfl
end
end PL
set_option Elab.async false
set_option linter.all false
set_option maxRecDepth 100000
set_option maxHeartbeats 4000000
namespace PL
open PySem L2
section
variable {ds : List D} {kd : KD} {kx : KX} {C CS CD CI CT CC CN CE CL : Addr} {Γ : Ga} {tl : TL} {i n : Nat} {ta tb t : TP} {d : D} {P : PEn} {s u r : TSp} {al : List Nat} {rs : List (List Int)} {x : XD} {cb : TB}
local instance : Tabl := ⟨[], fun p hp => absurd hp (by simp)⟩
theorem ev_within {d : D} {lo hi : Int} (h : Ev t Γ d) (g : Ev ta Γ (.int lo)) (f : Ev tb Γ (.int hi)) (ht : (tyD d).isSome = true) : Ev (tpCall 3 fsWithin (tlCons t (tlCons ta (tlCons tb tlNil)))) Γ (.bl (within lo hi d)) := ev_call (evl_3 h g f) rfl fun k kx z => ⟨ht, z⟩
end
end PL
set_option Elab.async false
set_option linter.all false
set_option maxRecDepth 100000
set_option maxHeartbeats 4000000
namespace PL
open PySem L2
def isB : Nat → Tr → Bool
  | 0, _ => false
  | _ + 1, .dd _ => true
  | _ + 1, .nm _ => true
  | d + 1, .ag t => isB d t
  | d + 1, .ti t _ => isB d t
  | d + 1, .th ps => decide (ps.length ≤ 20) && ps.all (isB d)
  | d + 1, .ei ps => decide (ps.length ≤ 20) && ps.all (isB d)
theorem dpL_of {d : Nat} : ∀ {ps : List Tr}, (∀ p ∈ ps, p.dp ≤ d) → dpL ps ≤ d
  | [], _ => Nat.zero_le _
  | t :: r, h => by
    rw [dpL]
    exact Nat.max_le.mpr ⟨h t List.mem_cons_self, dpL_of fun p hp => h p (List.mem_cons_of_mem _ hp)⟩
theorem isB_dp : ∀ {d : Nat} {t : Tr}, isB d t = true → t.dp ≤ d
  | d + 1, .dd _, h => by rw [Tr.dp]; omega
  | d + 1, .nm _, h => by rw [Tr.dp]; omega
  | d + 1, .ag t, h => by rw [Tr.dp]; exact Nat.succ_le_succ (isB_dp (d := d) (t := t) h)
  | d + 1, .ti t n, h => by rw [Tr.dp]; exact Nat.succ_le_succ (isB_dp (d := d) (t := t) h)
  | d + 1, .th ps, h => by
    have h : (decide (ps.length ≤ 20) && ps.all (isB d)) = true := h
    rw [Bool.and_eq_true, List.all_eq_true] at h
    rw [Tr.dp]
    exact Nat.succ_le_succ (dpL_of fun p hp => isB_dp (h.2 p hp))
  | d + 1, .ei ps, h => by
    have h : (decide (ps.length ≤ 20) && ps.all (isB d)) = true := h
    rw [Bool.and_eq_true, List.all_eq_true] at h
    rw [Tr.dp]
    exact Nat.succ_le_succ (dpL_of fun p hp => isB_dp (h.2 p hp))
theorem okT_plain : ∀ {t : Tr}, OkT t → t.dat.plain = true ∧ t.dat.dep ≤ t.dp := by
  intro t h
  induction h with
  | @dd v h hz =>
    rw [dat_eq, Tr.dp]
    refine ⟨?_, by show 1 ≤ 1; omega⟩
    show (D.plain (.str DDS) && (D.plain (.str v) && true)) = true
    rw [plain_of h]
    rfl
  | @nm s h1 h2 h3 =>
    rw [dat_eq, Tr.dp]
    refine ⟨?_, by show 1 ≤ 1; omega⟩
    have : D.plain (.str s) = true := TxOk.pl ⟨by omega, fun c hc => (cap_ne (h3 c hc)).2.2.1⟩
    show (D.plain (.str wNAM) && (D.plain (.str s) && true)) = true
    rw [this]
    rfl
  | @th ps h1 h2 h3 h4 h5 ih =>
    rw [dat_eq, Tr.dp]
    refine ⟨?_, ?_⟩
    · show (D.plain (.str wTHE) && D.plainL (ps.map Tr.dat)) = true
      rw [plainL_map fun t ht => (ih t ht).1]
      rfl
    · show max 0 (D.depL (ps.map Tr.dat)) + 1 ≤ _
      have := depL_map (n := dpL ps) fun t ht => Nat.le_trans (ih t ht).2 (dpL_le ht)
      omega
  | @ei ps h1 h2 h3 ih =>
    rw [dat_eq, Tr.dp]
    refine ⟨?_, ?_⟩
    · show (D.plain (.str wEIT) && D.plainL (ps.map Tr.dat)) = true
      rw [plainL_map fun t ht => (ih t ht).1]
      rfl
    · show max 0 (D.depL (ps.map Tr.dat)) + 1 ≤ _
      have := depL_map (n := dpL ps) fun t ht => Nat.le_trans (ih t ht).2 (dpL_le ht)
      omega
  | @ti t n h hn ih =>
    rw [dat_eq, Tr.dp]
    refine ⟨?_, ?_⟩
    · show (D.plain (.str wTIM) && ((Tr.dat t).plain && true)) = true
      rw [ih.1]
      rfl
    · show max 0 (max (Tr.dat t).dep 0) + 1 ≤ _
      omega
  | @ag t h ih =>
    rw [dat_eq, Tr.dp]
    refine ⟨?_, ?_⟩
    · show (D.plain (.str wAGA) && ((Tr.dat t).plain && true)) = true
      rw [ih.1]
      rfl
    · show max 0 (max (Tr.dat t).dep 0) + 1 ≤ _
      omega
def fsIsRow : FS := fun ds k _ => ∃ (w : List Nat) (ps : List Tr), (ds = [.str w, .tup (ps.map Tr.dat)] ∧ (w = wEIT ∨ w = wTHE ∧ OkT (.th ps) ∧ Tr.dp (.th ps) ≤ 40)) ∧ k (.bl true)
def fsIsTree (n : Nat) : FS := fun ds k _ => ∃ (t : Tr) (d : Nat), (ds = [t.dat, .int (d : Nat)] ∧ OkT t ∧ t.dp ≤ 40 ∧ d < n) ∧ k (.bl (isB d t))
def fsIsTree1 : FS := fun ds k _ => ∃ (t : Tr), (ds = [t.dat] ∧ OkT t ∧ t.dp ≤ 40) ∧ k (.bl (isB 12 t))
def xTree (CX : Addr) : XD := ⟨.ref CX, [(("tag" : PySem.Str), .str ("InvalidTree" : PySem.Str).cps.toList)]⟩
def fsNeedTree (CX : Addr) : FS := fun ds k kx => ∃ (t : Tr), (ds = [t.dat] ∧ OkT t ∧ t.dp ≤ 40) ∧ (isB 12 t = true → k .non) ∧ (isB 12 t = false → kx (xTree CX))
section
variable {ds : List D} {kd : KD} {ko : D → D → Prop} {kx : KX} {Γ T : Ga} {t ta tb tc : TP} {tl : TL} {d e c0 : D} {n i j c : Nat} {P : PEn} {u v s g : List Nat} {cb : TB} {q : Tr} {b : Bool} {CR CX : Addr}
local instance : Tabl := ⟨[], fun p hp => absurd hp (by simp)⟩
theorem ev_lcA {is : List Nat} {ti : TL} {te : TP} {α : Type} {items : List α} {pa : α → D} {f : α → D} (h : EvL ti Γ (items.map pa)) (hl : items.length ≤ 100000) (he : ∀ x ∈ items, Ev te (gset (wipeG Γ is) i (.pu (pa x))) (f x)) : Ev (tpLc is ti (tgName i) tbYes te) Γ (.lst (items.map f)) := fun k kx z => h _ _ (by
  refine ⟨by rw [List.length_map]; exact hl, ?_⟩
  have go : ∀ (items : List α) {k : List D → Prop}, (∀ x ∈ items, Ev te (gset (wipeG Γ is) i (.pu (pa x))) (f x)) → k (items.map f) → lcW (tgName i) tbYes te (wipeG Γ is) (items.map pa) k := fun items => by
    induction items with
    | nil => exact fun _ h => h
    | cons x r ih => exact fun hx h => hx x List.mem_cons_self _ _ (ih (fun y hy => hx y (List.mem_cons_of_mem _ hy)) h)
  exact go items he z)
theorem ev_tail {x : D} {l : List D} (h : Ev t Γ (.tup (x :: l))) : Ev (tpSl t (toSome (tpC (.int 1))) toNo) Γ (.tup l) := fun k kx z => h _ _ (by
  show k (.tup (cutL (x :: l) (some 1) none))
  have : cutL (x :: l) (some 1) none = l := by
    unfold cutL
    have e1 : HT.sIx (x :: l).length 0 (some 1) = 1 := by simp [HT.sIx]
    have e2 : HT.sIx (x :: l).length (x :: l).length none = l.length + 1 := by simp [HT.sIx]
    rw [e1, e2]
    show (l.take (l.length + 1 - 1)) = _
    exact List.take_of_length_le (by simp)
  rw [this]
  exact z)
theorem ev_allB {α : Type} {items : List α} {f : α → Bool} (h : Ev t Γ (.lst (items.map fun x => .bl (f x)))) : Ev (tp1 fAll t) Γ (.bl (items.all f)) := by
  have e : (items.map fun x => D.bl (f x)) = (items.map f).map .bl := by rw [List.map_map]; rfl
  rw [e] at h
  have := ev_all h
  rwa [List.all_map] at this
theorem ev_anyB {α : Type} {items : List α} {f : α → Bool} (h : Ev t Γ (.lst (items.map fun x => .bl (f x)))) : Ev (tp1 fAny t) Γ (.bl (items.any f)) := by
  have e : (items.map fun x => D.bl (f x)) = (items.map f).map .bl := by rw [List.map_map]; rfl
  rw [e] at h
  exact ev_1 h fun k z => by
    show onBs ((items.map f).map D.bl) _
    rw [onBs_map, List.any_map]
    exact z
theorem ev_an {b c : Bool} (h : Ev ta Γ (.bl b)) (g : b = true → Ev tb Γ (.bl c)) : Ev (tpAnd ta tb) Γ (.bl (b && c)) := by
  cases b with
  | false => exact ev_and h (fun z => nomatch z) (fun _ => rfl)
  | true => exact ev_and h g (fun z => nomatch z)
theorem ev_orF {c : Bool} (h : Ev ta Γ (.bl false)) (g : Ev tb Γ (.bl c)) : Ev (tpOr ta tb) Γ (.bl c) := fun k kx z => h _ _ (g k kx z)
theorem is_name_ok' : fsIsName ds kd kx → m_is_name ds kd kx := by
  intro h0
  match ds, h0 with
  | [.str s], ⟨hz, h⟩ =>
    let G : Ga := [.pu (.str s), .un]
    have v : Ev (tpVar 0) G (.str s) := ev_var rfl
    have ln := ev_lenS v (Nat.le_trans hz (by decide))
    have lc := ev_lcA (Γ := G) (is := [1]) (i := 1) (te := tpOp fInS (tpVar 1) (tpC (.str CAP))) (items := s) (pa := fun c => .str [c]) (f := fun c => .bl (decide (c ∈ CAP))) (evl_tiStr v) (by omega) fun x hx => ev_inS (ev_var rfl) (ev_c _)
    have al := ev_allB lc
    have ch := ev_chLL (ev_c (Γ := G) (.int 1)) ln (ev_c (.int 6))
    have is : Ev (tp1 (fIsi "str") (tpVar 0)) G (.bl true) := ev_1 v fun k z => z
    have an := ev_an is fun _ => ev_an ch fun _ => al
    refine st_ret an ?_
    have e : (true && ((decide ((1 : Int) ≤ (s.length : Nat)) && decide (((s.length : Nat) : Int) ≤ 6)) && s.all fun c => decide (c ∈ CAP))) = nameB s := by
      unfold nameB
      have e1 : decide ((1 : Int) ≤ (s.length : Nat)) = decide (1 ≤ s.length) := decide_eq_decide.mpr (by omega)
      have e2 : decide (((s.length : Nat) : Int) ≤ 6) = decide (s.length ≤ 6) := decide_eq_decide.mpr (by omega)
      rw [e1, e2]
      rfl
    rw [e]
    exact h
theorem eqD_dat {t : Tr} (h : t ≠ .dd []) : eqD t.dat (tD []) = false := by
  by_cases e : t.w = DDS
  · cases t with
    | dd v =>
      have hv : v ≠ [] := fun z => h (by rw [z])
      rw [dat_eq]
      show eqD (.tup [.str DDS, .str v]) (.tup [.str DDS, .str []]) = false
      have : eqD (.tup [.str DDS, .str v]) (.tup [.str DDS, .str []]) = (eqD (.str DDS) (.str DDS) && (eqD (.str v) (.str []) && true)) := rfl
      rw [this, eqD_str v [], decide_eq_false hv]
      rw [Bool.false_and, Bool.and_false]
    | _ => cases e
  · exact eqD_w (t := t) (u := .dd []) e
theorem isRow_ok' : fsIsRow ds kd kx → m_is_row ds kd kx := by
  rintro ⟨w, ps, ⟨rfl, hw⟩, h⟩
  let G : Ga := [.pu (.str w), .pu (.tup (ps.map Tr.dat)), .un, .un, .un]
  have v0 : Ev (tpVar 0) G (.str w) := ev_var rfl
  rcases hw with rfl | ⟨rfl, ht, hd⟩
  · exact st_ifT (evb_v (ev_eqST v0 (ev_c _) rfl rfl rfl)) (st_ret (ev_c _) h)
  cases ht with
  | th h1 h2 h3 h4 h5 =>
    refine st_ifN (evb_v (ev_eqSF v0 (ev_c _) rfl rfl (by decide))) ?_
    have pls : ∀ p ∈ ps, p.dat.plain = true ∧ p.dat.dep ≤ 40 := fun p hp => by
      have := okT_plain (h3 p hp)
      have := dpL_le hp
      rw [Tr.dp] at hd
      exact ⟨(okT_plain (h3 p hp)).1, by omega⟩
    have v1 : Ev (tpVar 1) G (.tup (ps.map Tr.dat)) := ev_var rfl
    have logs := ev_lcA (Γ := G) (is := [3]) (i := 3) (te := tpOp fEq (tpOp fIx (tpVar 3) (tpC (.int 0))) (tpC (.str [100, 101, 101, 100, 115]))) (items := ps) (pa := Tr.dat) (f := fun p => .bl (decide (p.w = DDS))) (evl_tiTup v1) (by omega) fun p hp => ev_isW (ev_var rfl) rfl rfl
    refine st_set logs ?_
    let G2 : Ga := [.pu (.str wTHE), .pu (.tup (ps.map Tr.dat)), .pu (.lst (ps.map fun p => .bl (decide (p.w = DDS)))), .un, .un]
    have anyL := ev_lcA (Γ := G2) (is := [3]) (i := 3) (te := tpOr (tpOp fEq (tpOp fIx (tpVar 3) (tpC (.int 0))) (tpC (.str [116, 104, 101, 110]))) (tpOp fEq (tpVar 3) (tpTup (tlCons (tpC (.str [100, 101, 101, 100, 115])) (tlCons (tpC (.str [])) tlNil))))) (items := ps) (pa := Tr.dat) (f := fun p => .bl false) (evl_tiTup (t := tpVar 1) (ev_var rfl)) (by omega) fun p hp => by
      have isth : Ev (tpOp fEq (tpOp fIx (tpVar 3) (tpC (.int 0))) (tpC (.str [116, 104, 101, 110]))) (gset (wipeG G2 [3]) 3 (.pu p.dat)) (.bl false) := ev_isW (ev_var rfl) rfl (by
        have := (h4 p hp).1
        cases p with
        | th _ => cases this
        | _ => rfl)
      refine ev_orF isth ?_
      have e0 := eqD_dat (h4 p hp).2
      refine ev_op (ev_var (d := p.dat) rfl) (ev_tup (ds := [.str DDS, .str []]) (evl_2 (ev_c _) (ev_c _)) (by show 2 ≤ 100000; decide)) fun k z => ⟨⟨(pls p hp).1, rfl, by have := (pls p hp).2; omega, by decide⟩, ?_⟩
      show k (.bl (eqD p.dat (tD [])))
      rw [e0]
      exact z
    have any1 := ev_anyB (f := fun _ => false) anyL
    rw [show (ps.any fun _ => false) = false by simp] at any1
    refine st_ifN (Γ := G2) (evb_v any1) ?_
    have ll := ev_lenL (Γ := G2) (ev_var (i := 2) (d := .lst (ps.map fun p => .bl (decide (p.w = DDS)))) rfl)
    rw [List.length_map] at ll
    have rg := evl_rg2 (Γ := G2) (a := 1) (b := ps.length) (ev_c _) ll (by decide) (Nat.lt_of_le_of_lt h2 (by decide))
    have adj := ev_lcA (Γ := G2) (is := [4]) (i := 4) (te := tpAnd (tpOp fIx (tpVar 2) (tpOp fSub (tpVar 4) (tpC (.int 1)))) (tpOp fIx (tpVar 2) (tpVar 4))) (items := List.range' 1 (ps.length - 1)) (pa := fun i => .int (i : Nat)) (f := fun _ => .bl false) rg (by rw [List.length_range']; omega) fun x hx => by
      obtain ⟨x1, x2⟩ := List.mem_range'_1.mp hx
      obtain ⟨y, rfl⟩ : ∃ y, x = y + 1 := ⟨x - 1, by omega⟩
      have hy1 : y + 1 < ps.length := by omega
      have hy : y < ps.length := by omega
      let G3 : Ga := [.pu (.str wTHE), .pu (.tup (ps.map Tr.dat)), .pu (.lst (ps.map fun p => .bl (decide (p.w = DDS)))), .un, .pu (.int ((y + 1 : Nat) : Nat))]
      have at_ : ∀ {z : Nat} (hz : z < ps.length), atI (ps.map fun p => D.bl (decide (p.w = DDS))) ((z : Nat) : Int) = some (.bl (decide (ps[z].w = DDS))) := fun {z} hz => by
        rw [at_nat _ _ (by rw [List.length_map]; exact hz)]
        simp
      have a0 : Ev (tpOp fIx (tpVar 2) (tpOp fSub (tpVar 4) (tpC (.int 1)))) G3 (.bl (decide (ps[y].w = DDS))) := ev_ixL (ev_var rfl) (ev_subI (ev_var (i := 4) (d := .int ((y + 1 : Nat) : Nat)) rfl) (ev_c (.int 1))) (by
        rw [show ((y + 1 : Nat) : Int) - 1 = (y : Nat) by omega]
        exact at_ hy)
      have a1 : Ev (tpOp fIx (tpVar 2) (tpVar 4)) G3 (.bl (decide (ps[y + 1].w = DDS))) := ev_ixL (ev_var rfl) (ev_var (i := 4) (d := .int ((y + 1 : Nat) : Nat)) rfl) (at_ hy1)
      have an := ev_an a0 fun _ => a1
      have z : (decide (ps[y].w = DDS) && decide (ps[y + 1].w = DDS)) = false := by
        cases e1 : ps[y] with
        | dd v =>
          cases e2 : ps[y + 1] with
          | dd w =>
            have q1 : ps[y]? = some (.dd v) := by rw [List.getElem?_eq_getElem hy, e1]
            have q2 : ps[y + 1]? = some (.dd w) := by rw [List.getElem?_eq_getElem hy1, e2]
            exact absurd q2 (h5 y v w q1)
          | _ => rfl
        | _ => rfl
      rw [z] at an
      exact an
    have any2 := ev_anyB (f := fun _ => false) adj
    rw [show ((List.range' 1 (ps.length - 1)).any fun _ => false) = false by simp] at any2
    exact st_ret (Γ := G2) (ev_not0 any2) h
theorem ev_notIn {w : List Nat} (h : Ev t Γ (.str w)) (hw : w = wTHE ∨ w = wEIT) : Ev (tpOp (fInD true) t (tpTup (tlCons (tpC (.str [116, 104, 101, 110])) (tlCons (tpC (.str [101, 105, 116, 104, 101, 114])) tlNil)))) Γ (.bl false) :=
  ev_op h (ev_tup (evl_2 (ev_c _) (ev_c _)) (by show 2 ≤ 100000; decide)) fun k z => ⟨⟨by rcases hw with rfl | rfl <;> rfl, rfl, by show 0 ≤ 8; decide⟩, by
    have : ([D.str wTHE, .str wEIT].any fun z => eqD z (.str w)) = true := by
      show (eqD (.str wTHE) (.str w) || (eqD (.str wEIT) (.str w) || false)) = true
      rw [eqD_str, eqD_str]
      rcases hw with rfl | rfl <;> decide
    show k (.bl (true != _))
    rw [this]
    exact z⟩
theorem isTree_ok' : fsIsTree (n + 1) ds kd kx → m_is_tree fsIsLog fsIsName (fsIsTree n) fsWithin fsIsRow ds kd kx := by
  rintro ⟨t, d, ⟨rfl, ht, hd, hn⟩, h⟩
  let G : Ga := [.pu t.dat, .pu (.int (d : Nat)), .un, .un]
  have v0 : Ev (tpVar 0) G t.dat := ev_var rfl
  have v0t : Ev (tpVar 0) G (.tup (.str t.w :: t.args)) := by rw [← dat_eq]; exact v0
  have e0 := ev_eqI (Γ := G) (ev_var (i := 1) (d := .int (d : Nat)) rfl) (ev_c (.int 0))
  cases d with
  | zero => exact st_ifT (evb_orT (evb_v e0)) (st_ret (ev_c _) h)
  | succ d =>
    rw [decide_eq_false (by omega)] at e0
    have isT : Ev (tp1 (fIsi "tuple") (tpVar 0)) G (.bl true) := ev_1 v0t fun k z => z
    have isS : Ev (tp1 (fIsi "str") (tpOp fIx (tpVar 0) (tpC (.int 0)))) G (.bl true) := ev_1 (ev_w v0) fun k z => z
    have ln := ev_lenT v0t
    have l2 := ev_ltI ln (ev_c (.int 2))
    have pos : 1 ≤ t.args.length := by
      cases ht with
      | dd _ => exact Nat.le_refl _
      | nm _ _ _ => exact Nat.le_refl _
      | th h1 _ _ _ _ => show 1 ≤ (List.map Tr.dat _).length; rw [List.length_map]; omega
      | ei h1 _ _ => show 1 ≤ (List.map Tr.dat _).length; rw [List.length_map]; omega
      | ti _ _ => exact Nat.le_succ _
      | ag _ => exact Nat.le_refl _
    rw [decide_eq_false (by rw [List.length_cons]; omega)] at l2
    refine st_ifN (Γ := G) (evb_orF (evb_v e0) (evb_orF (evb_not (evb_v isT)) (evb_orF (evb_v l2) (evb_not (evb_v isS))))) ?_
    refine st_set (Γ := G) (ev_w v0) ?_
    let G2 : Ga := [.pu t.dat, .pu (.int ((d + 1 : Nat) : Nat)), .pu (.str t.w), .un]
    have w0 : Ev (tpVar 0) G2 (.tup (.str t.w :: t.args)) := by rw [← dat_eq]; exact ev_var rfl
    have w2 : Ev (tpVar 2) G2 (.str t.w) := ev_var rfl
    have len := ev_lenT w0
    have isn : ∀ {s : List Nat}, D.plain (.str s) = true → decide (t.w = s) = false → EvB (tbV (tpOp fEq (tpVar 2) (tpC (.str s)))) G2 false := fun hs hne => evb_v (ev_eqSF w2 (ev_c _) (w_plain t) hs (of_decide_eq_false hne))
    have isy : ∀ {s : List Nat}, D.plain (.str s) = true → t.w = s → EvB (tbV (tpOp fEq (tpVar 2) (tpC (.str s)))) G2 true := fun hs he => evb_v (ev_eqST w2 (ev_c _) (w_plain t) hs he)
    have dn : Ev (tpOp fSub (tpVar 1) (tpC (.int 1))) G2 (.int (d : Nat)) := by
      have := ev_subI (Γ := G2) (ev_var (i := 1) (d := .int ((d + 1 : Nat) : Nat)) rfl) (ev_c (.int 1))
      rwa [show ((d + 1 : Nat) : Int) - 1 = (d : Nat) by omega] at this
    have parts : ∀ (ps : List Tr) (w : List Nat), t.args = ps.map Tr.dat → t.w = w → (∀ p ∈ ps, OkT p ∧ p.dp ≤ 40) → (w = wEIT ∨ w = wTHE ∧ OkT (.th ps) ∧ Tr.dp (.th ps) ≤ 40) → ps.length ≤ 1000 →
        Ev (tpAnd (tp1 fAll (tpLc [3] (tiTup (tpSl (tpVar 0) (toSome (tpC (.int 1))) toNo)) (tgName 3) tbYes (tpCall 2 (fsIsTree n) (tlCons (tpVar 3) (tlCons (tpOp fSub (tpVar 1) (tpC (.int 1))) tlNil))))) (tpCall 2 fsIsRow (tlCons (tpVar 2) (tlCons (tpSl (tpVar 0) (toSome (tpC (.int 1))) toNo) tlNil)))) G2 (.bl (ps.all (isB d))) := fun ps w e1 e2 h1 h2 h3 => by
      have tail : ∀ {Γ : Ga}, gat Γ 0 = .pu t.dat → Ev (tpSl (tpVar 0) (toSome (tpC (.int 1))) toNo) Γ (.tup (ps.map Tr.dat)) := fun {Γ} g => by
        rw [← e1]
        exact ev_tail (x := .str t.w) (by rw [← dat_eq]; exact ev_var g)
      have lc := ev_lcA (Γ := G2) (is := [3]) (i := 3) (te := tpCall 2 (fsIsTree n) (tlCons (tpVar 3) (tlCons (tpOp fSub (tpVar 1) (tpC (.int 1))) tlNil))) (items := ps) (pa := Tr.dat) (f := fun p => .bl (isB d p)) (evl_tiTup (tail rfl)) (by omega) fun p hp => ev_call (evl_2 (ev_var rfl) (by
          have := ev_subI (Γ := gset (wipeG G2 [3]) 3 (.pu p.dat)) (ev_var (i := 1) (d := .int ((d + 1 : Nat) : Nat)) rfl) (ev_c (.int 1))
          rwa [show ((d + 1 : Nat) : Int) - 1 = (d : Nat) by omega] at this)) rfl fun k kx z => ⟨p, d, ⟨rfl, (h1 p hp).1, (h1 p hp).2, by omega⟩, z⟩
      have an := ev_an (ev_allB lc) fun _ => ev_call (n := 2) (d := .bl true) (f := fsIsRow) (evl_2 w2 (tail (Γ := G2) rfl)) rfl fun k kx z => ⟨t.w, ps, ⟨rfl, by rw [e2]; exact h2⟩, z⟩
      rwa [Bool.and_true] at an
    have chain : ∀ m : Nat, t.args.length = m → 2 ≤ m → EvB (tbNot (tbV (tpChain fLe fLe (tpC (.int 3)) (tp1 fLenS (tpVar 0)) (tpOp fAdd (tpC (.int 20)) (tpC (.int 1)))))) G2 (!decide (m ≤ 20)) := fun m e hm => by
      have := ev_chLL (ev_c (Γ := G2) (.int 3)) len (ev_addI (ev_c (.int 20)) (ev_c (.int 1)))
      rw [List.length_cons, e, decide_eq_true (by omega), Bool.true_and] at this
      rw [show decide (m ≤ 20) = decide (((m + 1 : Nat) : Int) ≤ 20 + 1) from decide_eq_decide.mpr (by omega)]
      exact evb_not (evb_v this)
    cases ht with
    | @dd v hv hz =>
      refine st_ifT (isy rfl rfl) (st_ret (P := { fEnds kd kx with nx := _ }) (d := .bl true) ?_ h)
      have c1 := ev_eqI len (ev_c (.int 2))
      have il : Ev (tpCall 1 fsIsLog (tlCons (tpOp fIx (tpVar 0) (tpC (.int 1))) tlNil)) G2 (.bl true) := ev_call (evl_1 (ev_1of (s := DDS) (l := []) w0)) rfl fun k kx z => ⟨⟨rfl, fun s e => by cases e; exact hz⟩, by
        have : isLog (.str v) = true := List.all_eq_true.mpr fun c hc => decide_eq_true (hv c hc)
        rw [this]
        exact z⟩
      exact ev_an c1 fun _ => il
    | @nm s h1 h2 h3 =>
      refine st_ifN (isn rfl rfl) ?_
      refine st_ifT (isy rfl rfl) (st_ret (P := { fEnds kd kx with nx := _ }) (d := .bl true) ?_ h)
      have c1 := ev_eqI len (ev_c (.int 2))
      have il : Ev (tpCall 1 fsIsName (tlCons (tpOp fIx (tpVar 0) (tpC (.int 1))) tlNil)) G2 (.bl true) := ev_call (evl_1 (ev_1of (s := wNAM) (l := []) w0)) rfl fun k kx z => ⟨by omega, by
        have : nameB s = true := by
          unfold nameB
          rw [decide_eq_true h1, decide_eq_true h2, List.all_eq_true.mpr fun x hx => decide_eq_true (h3 x hx)]
          rfl
        rw [this]
        exact z⟩
      exact ev_an c1 fun _ => il
    | @ag u hu =>
      have du : u.dp ≤ 40 := by rw [Tr.dp] at hd; omega
      refine st_ifN (isn rfl rfl) (st_ifN (isn rfl rfl) ?_)
      refine st_ifT (isy rfl rfl) (st_ret (P := { fEnds kd kx with nx := _ }) (d := .bl (isB d u)) ?_ h)
      have c1 := ev_eqI len (ev_c (.int 2))
      have il : Ev (tpCall 2 (fsIsTree n) (tlCons (tpOp fIx (tpVar 0) (tpC (.int 1))) (tlCons (tpOp fSub (tpVar 1) (tpC (.int 1))) tlNil))) G2 (.bl (isB d u)) := ev_call (evl_2 (ev_1of (s := wAGA) (l := []) w0) dn) rfl fun k kx z => ⟨u, d, ⟨rfl, hu, du, by omega⟩, z⟩
      exact ev_an c1 fun _ => il
    | @ti u m hu hm =>
      have du : u.dp ≤ 40 := by rw [Tr.dp] at hd; omega
      refine st_ifN (isn rfl rfl) (st_ifN (isn rfl rfl) (st_ifN (isn rfl rfl) ?_))
      refine st_ifT (isy rfl rfl) (st_ret (P := { fEnds kd kx with nx := _ }) (d := .bl (isB d u)) ?_ h)
      have c1 := ev_eqI len (ev_c (.int 3))
      have il : Ev (tpCall 2 (fsIsTree n) (tlCons (tpOp fIx (tpVar 0) (tpC (.int 1))) (tlCons (tpOp fSub (tpVar 1) (tpC (.int 1))) tlNil))) G2 (.bl (isB d u)) := ev_call (evl_2 (ev_1of (s := wTIM) (l := [.int (m : Nat)]) w0) dn) rfl fun k kx z => ⟨u, d, ⟨rfl, hu, du, by omega⟩, z⟩
      have wi := ev_within (Γ := G2) (lo := 0) (hi := 1000000000000000000000000000000) (ev_2of (s := wTIM) (x := u.dat) (y := .int (m : Nat)) (l := []) w0) (ev_c _) (ev_c _) rfl
      have wt : within 0 1000000000000000000000000000000 (.int (m : Nat)) = true := by
        show (decide ((0 : Int) ≤ (m : Nat)) && decide (((m : Nat) : Int) ≤ 1000000000000000000000000000000)) = true
        rw [decide_eq_true (by omega), decide_eq_true (by
          have : (10 ^ 30 : Nat) = 1000000000000000000000000000000 := by decide
          omega)]
        rfl
      rw [wt] at wi
      have an := ev_an c1 fun _ => ev_an il fun _ => wi
      rw [Bool.and_true] at an
      exact an
    | @ei ps h1 h2 h3 =>
      refine st_ifN (isn rfl rfl) (st_ifN (isn rfl rfl) (st_ifN (isn rfl rfl) (st_ifN (isn rfl rfl) ?_)))
      have ch := chain ps.length (by show (ps.map Tr.dat).length = _; rw [List.length_map]) h1
      have h : kd (.bl (decide (ps.length ≤ 20) && ps.all (isB d))) := h
      refine st_ifNB (Γ := G2) (evb_orF (evb_v (ev_notIn w2 (.inr rfl))) ch) (fun e => ?_) (fun e => ?_)
      · rw [show decide (ps.length ≤ 20) = false by simpa using e] at h
        exact st_ret (ev_c _) h
      · rw [show decide (ps.length ≤ 20) = true by simpa using e, Bool.true_and] at h
        exact st_ret (parts ps wEIT rfl rfl (fun p hp => ⟨h3 p hp, by have := dpL_le hp; rw [Tr.dp] at hd; omega⟩) (.inl rfl) h2) h
    | @th ps h1 h2 h3 h4 h5 =>
      refine st_ifN (isn rfl rfl) (st_ifN (isn rfl rfl) (st_ifN (isn rfl rfl) (st_ifN (isn rfl rfl) ?_)))
      have ch := chain ps.length (by show (ps.map Tr.dat).length = _; rw [List.length_map]) h1
      have h : kd (.bl (decide (ps.length ≤ 20) && ps.all (isB d))) := h
      refine st_ifNB (Γ := G2) (evb_orF (evb_v (ev_notIn w2 (.inl rfl))) ch) (fun e => ?_) (fun e => ?_)
      · rw [show decide (ps.length ≤ 20) = false by simpa using e] at h
        exact st_ret (ev_c _) h
      · rw [show decide (ps.length ≤ 20) = true by simpa using e, Bool.true_and] at h
        exact st_ret (parts ps wTHE rfl rfl (fun p hp => ⟨h3 p hp, by have := dpL_le hp; rw [Tr.dp] at hd; omega⟩) (.inr ⟨rfl, .th h1 h2 h3 h4 h5, hd⟩) h2) h
theorem isTree1_ok' {m : Nat} (hm : 12 < m) : fsIsTree1 ds kd kx → fsIsTree m (ds ++ [.int 12]) kd kx := by
  rintro ⟨t, ⟨rfl, ht, hd⟩, h⟩
  exact ⟨t, 12, ⟨rfl, ht, hd, hm⟩, h⟩
theorem needTree_ok' : fsNeedTree CX ds kd kx → m_need_tree CX fsIsTree1 ds kd kx := by
  rintro ⟨t, ⟨rfl, ht, hd⟩, h1, h2⟩
  let G : Ga := [.pu t.dat]
  have is : Ev (tpCall 1 fsIsTree1 (tlCons (tpVar 0) tlNil)) G (.bl (isB 12 t)) := ev_call (evl_1 (ev_var rfl)) rfl fun k kx z => ⟨t, ⟨rfl, ht, hd⟩, z⟩
  exact st_if1B (Γ := G) (evb_not (evb_v is)) (fun e => h2 (by simpa using e)) (fun e => h1 (by simpa using e))
end
end PL
set_option Elab.async false
set_option linter.all false
set_option maxRecDepth 100000
set_option maxHeartbeats 4000000
namespace PL
open PySem L2
theorem scS_part {c : Nat} {p : Tr} : ∀ {ps : List Tr}, p ∈ ps → TxOk (scS c ps) → TxOk (scT p)
  | q :: r, hp, h => by
    rw [scS_cons] at h
    rcases List.mem_cons.mp hp with rfl | hp
    · exact h.tl.pre
    · exact scS_part hp h.tl.suf
theorem scS_partT {c : Nat} {p : Tr} {ps : List Tr} (hp : p ∈ ps) (h : TxOk (scS c ps).tail) : TxOk (scT p) := by
  match ps, hp, h with
  | q :: r, hp, h =>
    rw [scS_tail] at h
    rcases List.mem_cons.mp hp with rfl | hp
    · exact h.pre
    · exact scS_part hp h.suf
theorem join_sc {c : Nat} : ∀ {ps : List Tr}, TL.joinL [c] (ps.map scT) = (scS c ps).tail
  | [] => by rw [scS]; rfl
  | [q] => by
    rw [scS_tail, scS, List.append_nil]
    rfl
  | q :: u :: r => by
    have ih := join_sc (c := c) (ps := u :: r)
    rw [scS_tail] at ih ⊢
    rw [scS_cons, ← ih]
    rfl
theorem flat_sc {c : Nat} : ∀ {ps : List Tr}, (ps.map scT).flatten.length + ps.length = (scS c ps).length
  | [] => by rw [scS]; rfl
  | q :: r => by
    have ih := flat_sc (c := c) (ps := r)
    rw [scS_cons, List.map_cons, List.flatten_cons, List.length_append, List.length_cons, List.length_cons, List.length_append]
    omega
theorem log2_30 {m : Nat} (h : m ≤ 10 ^ 30) : ((m : Nat) : Int).natAbs.log2 < 1920 := by
  rw [Int.natAbs_natCast]
  by_cases z : m = 0
  · subst z
    decide
  · exact Nat.lt_trans ((Nat.log2_lt (k := 100) z).mpr (Nat.lt_of_le_of_lt h (by decide))) (by decide)
def fsTextOf (n : Nat) : FS := fun ds k _ => ∃ t : Tr, (ds = [t.dat] ∧ OkT t ∧ t.dp ≤ n ∧ TxOk (scT t)) ∧ k (.str (scT t))
theorem textOf0 {ds : List D} {k : KD} {kx : KX} (h : fsTextOf 0 ds k kx) : False := by
  obtain ⟨t, ⟨_, _, h, _⟩, _⟩ := h
  have := dp_pos t
  omega
def fsScriptText (CX : Addr) : FS := fun ds k kx => ∃ t : Tr, (ds = [t.dat] ∧ OkT t ∧ t.dp ≤ 40 ∧ TxOk (scT t)) ∧ (isB 12 t = true → k (.str (scT t))) ∧ (isB 12 t = false → kx (xTree CX))
def fsReadS (CX : Addr) : FS := fun ds k kx => ∃ t : Tr, (ds = [.str (scT t)] ∧ OkT t ∧ t.dp ≤ 40 ∧ TxOk (scT t)) ∧ (isB 12 t = true → k t.dat) ∧ (isB 12 t = false → kx (xText CX))
def fsRdrI (CR : Addr) : FSo := fun ds k _ => ∃ s : List Nat, ds = [.ins CR [], .str s] ∧ k .non (rdr CR s)
section
variable {ds : List D} {kd : KD} {ko : D → D → Prop} {kx : KX} {Γ T : Ga} {t ta tb tc : TP} {tl : TL} {d e c0 : D} {n i j c : Nat} {P : PEn} {u v s g : List Nat} {cb : TB} {q : Tr} {b : Bool} {CR CX CT : Addr}
local instance : Tabl := ⟨[], fun p hp => absurd hp (by simp)⟩
theorem st_matchW {l : List (List Nat × TSp)} {r : TSp} (h : Ev t Γ (.str s)) (g : casesW l s { P with nx := r P } Γ) : tsSeq (tsMatch t l) r P Γ := h _ _ g
theorem st_dropCallW {f : FS} {r : TSp} (hl : EvL tl Γ ds) (hn : ds.length = n) (hf : f ds (fun _ => r P Γ) (fun x => P.xx x Γ)) : tsSeq (tsDrop (tpCall n f tl)) r P Γ := hl _ _ ⟨hn, hf⟩
theorem st_ownMake {g : FSo} {C : Addr} {r : TSp} (hl : EvL tl Γ ds) (hn : ds.length = n) (hg : g (.ins C [] :: ds) (fun d y => d = .non ∧ onIns y fun d => r P (gset Γ i (.ow d))) (fun x => P.xx x Γ)) : tsSeq (tsOwn i (tpMake C g n tl)) r P Γ := hl _ _ ⟨hn, hg⟩
/-- texts of parts, joined -/
theorem ev_parts {ps : List Tr} {c i : Nat} {is : List Nat} (hv : Ev t Γ (.tup (.str v :: ps.map Tr.dat))) (hz : ps.length ≤ 1000) (ht : TxOk (scS c ps).tail) (hf : ∀ p ∈ ps, Ev ta (gset (wipeG Γ is) i (.pu p.dat)) (.str (scT p))) :
    Ev (tpJoin (tpC (.str [c])) (tpLc is (tiTup (tpSl t (toSome (tpC (.int 1))) toNo)) (tgName i) tbYes ta)) Γ (.str (scS c ps).tail) := by
  have lc := ev_lcA (Γ := Γ) (is := is) (i := i) (te := ta) (items := ps) (pa := Tr.dat) (f := fun p => .str (scT p)) (evl_tiTup (ev_tail hv)) (by omega) hf
  have e : (ps.map fun p => D.str (scT p)) = (ps.map scT).map D.str := by rw [List.map_map]; rfl
  rw [e] at lc
  have jn := ev_joinW (w := [c]) lc (by
    have := flat_sc (c := c) (ps := ps)
    have := ht.hz
    rw [List.length_tail] at this
    rw [List.length_map]
    show _ + ps.length * 1 ≤ _
    omega)
  rwa [join_sc] at jn
theorem wr_ok {t : Tr} {r : List Nat} (h : TxOk (wrB t.isTh (scT t) ++ r)) : TxOk (scT t) := by
  have h := h.pre
  unfold wrB at h
  split at h
  · exact h.tl.pre
  · exact h
theorem sc_dd (v : List Nat) : scT (.dd v) = if v = [] then [45] else v := by rw [scT]
theorem sc_nm (v : List Nat) : scT (.nm v) = v := by rw [scT]
theorem sc_th (ps : List Tr) : scT (.th ps) = (scS 46 ps).tail := by rw [scT]
theorem sc_ei (ps : List Tr) : scT (.ei ps) = 40 :: ((scS 124 ps).tail ++ [41]) := by rw [scT]
theorem w_th (t : Tr) : decide (t.w = wTHE) = t.isTh := by cases t <;> rfl
theorem textOf_ok' : fsTextOf (n + 1) ds kd kx → m_text_of (fsTextOf n) ds kd kx := by
  rintro ⟨t, ⟨rfl, ht, hd, hs⟩, h⟩
  let G : Ga := [.pu t.dat, .un, .un]
  have v0 : Ev (tpVar 0) G t.dat := ev_var rfl
  have v0t : Ev (tpVar 0) G (.tup (.str t.w :: t.args)) := by rw [← dat_eq]; exact v0
  have call : ∀ {Γ : Ga} {te : TP} {p : Tr}, Ev te Γ p.dat → OkT p → p.dp ≤ n → TxOk (scT p) → Ev (tpCall 1 (fsTextOf n) (tlCons te tlNil)) Γ (.str (scT p)) := fun h1 h2 h3 h4 => ev_call (evl_1 h1) rfl fun k kx z => ⟨_, ⟨rfl, h2, h3, h4⟩, z⟩
  refine st_matchW (Γ := G) (ev_w v0) ?_
  have rep : ∀ (u : Tr) (r : List D) (s : List Nat), t.args = u.dat :: r → OkT u → u.dp ≤ n → TxOk (wrB u.isTh (scT u) ++ s) → ∀ X : TSp,
      X (fEnds kd kx) [.pu t.dat, .un, .pu (.str (wrT u))] →
      tsSeq (tsSet 2 (tpIf (tbV (tpOp fEq (tpOp fIx (tpOp fIx (tpVar 0) (tpC (.int 1))) (tpC (.int 0))) (tpC (.str [116, 104, 101, 110])))) (tpJs [(tpC (.str [40])), (tpFmt (tpCall 1 (fsTextOf n) (tlCons (tpOp fIx (tpVar 0) (tpC (.int 1))) tlNil))), (tpC (.str [41]))] []) (tpCall 1 (fsTextOf n) (tlCons (tpOp fIx (tpVar 0) (tpC (.int 1))) tlNil)))) X (fEnds kd kx) G := fun u r s e1 hu du tx X hX => by
    have su := wr_ok tx
    have a1 : Ev (tpOp fIx (tpVar 0) (tpC (.int 1))) G u.dat := by
      rw [e1] at v0t
      exact ev_1of v0t
    have c1 := call a1 hu du su
    have is := ev_isW (s := wTHE) a1 rfl (w_th u)
    refine st_set (d := .str (wrT u)) ?_ hX
    unfold wrT wrB
    by_cases hth : u.isTh = true
    · rw [if_pos hth]
      rw [hth] at is
      refine ev_ifT (evb_v is) ?_
      have js := ev_js0 (Γ := G) (.cons (ev_c (.str [40])) (.cons (ev_fmtS c1 su.ln) (.cons (ev_c (.str [41])) .nil))) (by
        have := su.hz
        have : ([[40], scT u, [41]] : List (List Nat)).flatten.length = (scT u).length + 2 := by simp
        rw [this]
        exact Nat.le_trans (show _ ≤ 20002 by omega) (by decide))
      have e2 : ([[40], scT u, [41]] : List (List Nat)).flatten = 40 :: (scT u ++ [41]) := by simp
      rw [e2] at js
      exact js
    · rw [if_neg hth]
      have hth : u.isTh = false := by simpa using hth
      rw [hth] at is
      exact ev_ifF (evb_v is) c1
  cases ht with
  | @dd v hv hz =>
    have a1 : Ev (tpOp fIx (tpVar 0) (tpC (.int 1))) G (.str v) := ev_1of (s := DDS) (l := []) v0t
    rw [sc_dd] at h hs
    have ne := ev_neS a1 (ev_c (.str [])) (plain_of hv) rfl
    have iff := ev_ifB (ta := tpOp fIx (tpVar 0) (tpC (.int 1))) (tb := tpC (.str [45])) (d := .str v) (e := .str [45]) (evb_v ne) (fun _ => a1) (fun _ => ev_c _)
    refine st_ret (P := { fEnds kd kx with nx := _ }) iff ?_
    show kd _
    by_cases hv : v = []
    · rw [if_pos hv] at h
      rw [decide_eq_true hv]
      exact h
    · rw [if_neg hv] at h
      rw [decide_eq_false hv]
      exact h
  | @nm s h1 h2 h3 =>
    rw [sc_nm] at h
    exact st_ret (P := { fEnds kd kx with nx := _ }) (ev_1of (s := wNAM) (l := []) v0t) h
  | @th ps h1 h2 h3 h4 h5 =>
    rw [sc_th] at h hs
    refine st_ret (P := { fEnds kd kx with nx := _ }) (ev_parts (v := wTHE) v0t h2 hs fun p hp => call (ev_var rfl) (h3 p hp) ?_ (scS_partT hp hs)) h
    have := dpL_le hp
    rw [Tr.dp] at hd
    omega
  | @ei ps h1 h2 h3 =>
    rw [sc_ei] at h hs
    have tx := hs.tl.pre
    have pt := ev_parts (Γ := G) (i := 1) (is := [1]) (ta := tpCall 1 (fsTextOf n) (tlCons (tpVar 1) tlNil)) (v := wEIT) v0t h2 tx fun p hp => call (ev_var rfl) (h3 p hp) (by
      have := dpL_le hp
      rw [Tr.dp] at hd
      omega) (scS_partT hp tx)
    have js := ev_js0 (Γ := G) (.cons (ev_c (.str [40])) (.cons (ev_fmtS pt tx.ln) (.cons (ev_c (.str [41])) .nil))) (by
      have := tx.hz
      have : ([[40], (scS 124 ps).tail, [41]] : List (List Nat)).flatten.length = (scS 124 ps).tail.length + 2 := by simp
      rw [this]
      exact Nat.le_trans (show _ ≤ 20002 by omega) (by decide))
    have e2 : ([[40], (scS 124 ps).tail, [41]] : List (List Nat)).flatten = 40 :: ((scS 124 ps).tail ++ [41]) := by simp
    rw [e2] at js
    exact st_ret (P := { fEnds kd kx with nx := _ }) js h
  | @ti u m hu hm =>
    rw [sc_ti] at h hs
    refine rep u [.int (m : Nat)] _ rfl hu (by rw [Tr.dp] at hd; omega) hs _ ?_
    let G2 : Ga := [.pu (Tr.ti u m).dat, .un, .pu (.str (wrT u))]
    have w0 : Ev (tpVar 0) G2 (Tr.ti u m).dat := ev_var rfl
    have w0t : Ev (tpVar 0) G2 (.tup [.str wTIM, u.dat, .int (m : Nat)]) := by
      rw [dat_eq] at w0
      exact w0
    have is := ev_isW (s := wTIM) (b := true) w0 rfl rfl
    have js := ev_js0 (Γ := G2) (.cons (ev_fmtS (ev_var (i := 2) (d := .str (wrT u)) rfl) hs.pre.ln) (.cons (ev_c (.str [94])) (.cons (ev_fmtI (ev_2of w0t) (log2_30 hm)) .nil))) (by
      have := hs.hz
      rw [intS_num]
      have : ([wrT u, [94], TL.numL m] : List (List Nat)).flatten.length = (wrB u.isTh (scT u) ++ 94 :: TL.numL m).length := by simp
      rw [this]
      exact hs.ln)
    rw [intS_num] at js
    have e2 : ([wrT u, [94], TL.numL m] : List (List Nat)).flatten = wrB u.isTh (scT u) ++ 94 :: TL.numL m := by simp
    rw [e2] at js
    exact st_ret (Γ := G2) (ev_ifT (evb_v is) js) h
  | @ag u hu =>
    rw [sc_ag] at h hs
    refine rep u [] _ rfl hu (by rw [Tr.dp] at hd; omega) hs _ ?_
    let G2 : Ga := [.pu (Tr.ag u).dat, .un, .pu (.str (wrT u))]
    have w0 : Ev (tpVar 0) G2 (Tr.ag u).dat := ev_var rfl
    have is := ev_isW (s := wTIM) (b := false) w0 rfl rfl
    have e2 : ([wrT u, [94, 42]] : List (List Nat)).flatten = wrB u.isTh (scT u) ++ [94, 42] := by simp
    have js := ev_js0 (Γ := G2) (.cons (ev_fmtS (ev_var (i := 2) (d := .str (wrT u)) rfl) hs.pre.ln) (.cons (ev_c (.str [94, 42])) .nil)) (by
      rw [e2]
      exact hs.ln)
    rw [e2] at js
    exact st_ret (Γ := G2) (ev_ifF (evb_v is) js) h
theorem scriptText_ok' {m : Nat} (hm : 12 ≤ m) : fsScriptText CT ds kd kx → m_script_text (fsNeedTree CT) (fsTextOf m) ds kd kx := by
  rintro ⟨t, ⟨rfl, ht, hd, hs⟩, h1, h2⟩
  let G : Ga := [.pu t.dat]
  have v0 : Ev (tpVar 0) G t.dat := ev_var rfl
  refine st_dropCallW (Γ := G) (evl_1 v0) rfl ⟨t, ⟨rfl, ht, hd⟩, fun e => ?_, fun e => h2 e⟩
  exact st_ret (Γ := G) (ev_call (evl_1 v0) rfl fun k kx z => ⟨t, ⟨rfl, ht, Nat.le_trans (isB_dp e) hm, hs⟩, z⟩) (h1 e)
theorem rdrI_ok' : fsRdrI CR ds ko kx → m_Reader___init__ CR ds ko kx := by
  rintro ⟨s, rfl, h⟩ p
  let G : Ga := [.pw p (.ins CR []), .pu (.str s)]
  exact (ev_var (Γ := G) (i := 1) (d := .str s) rfl) _ _ ⟨List.mem_cons_self, by show 0 < 900; decide, rfl, h⟩
theorem readS_ok' {m : Nat} (hm : 12 ≤ m) : fsReadS CX ds kd kx → m_read_script CX CR (fsTextOf m) fsIsTree1 (fsRdrI CR) (fsScRow CR CX 14) ds kd kx := by
  rintro ⟨t, ⟨rfl, ht, hd, hs⟩, h1, h2⟩
  let G : Ga := [.pu (.str (scT t)), .un, .un]
  have v0 : Ev (tpVar 0) G (.str (scT t)) := ev_var rfl
  have is : Ev (tp1 (fIsi "str") (tpVar 0)) G (.bl true) := ev_1 v0 fun k z => z
  refine st_ifN (Γ := G) (evb_not (evb_v is)) ?_
  refine st_ownMake (Γ := G) (evl_1 v0) rfl ⟨scT t, rfl, rfl, ?_⟩
  let G1 : Ga := [.pu (.str (scT t)), .ow (rdr CR (scT t)), .un]
  show tsSeq (tsSetZ 2 _) _ _ G1
  show tsSetZ 2 _ _ G1
  refine ⟨rfl, rfl, fsScRow CR CX 14, List.mem_cons_self, evl_1 (ev_addI (ev_c (.int 12)) (ev_c (.int 1))) _ _ ⟨rfl, t, [], 13, ⟨by rw [List.append_nil]; rfl, ht, by decide, by rw [List.append_nil]; exact hs, fun c z => nomatch z⟩, ?_, ?_⟩⟩
  · cases e : isB 12 t with
    | true =>
      have := isB_dp e
      exact .inl ⟨by omega, this⟩
    | false => exact .inr (h2 e)
  · let G2 : Ga := [.pu (.str (scT t)), .ow (rdr CR []), .pu t.dat]
    have fl : Ev (tpFld [CR] "text_left" (tpVarU 1)) G2 (.str []) := ev_fld (ev_varO (d := rdr CR []) rfl) List.mem_cons_self rfl
    have ne := ev_neS fl (ev_c (.str [])) rfl rfl
    have v2 : Ev (tpVar 2) G2 t.dat := ev_var rfl
    have isT : Ev (tpCall 1 fsIsTree1 (tlCons (tpVar 2) tlNil)) G2 (.bl (isB 12 t)) := ev_call (evl_1 v2) rfl fun k kx z => ⟨t, ⟨rfl, ht, hd⟩, z⟩
    dsimp only
    show tsSeq (tsIf _ _ _) (tsRet (tpVar 2)) (fEnds kd kx) G2
    cases e : isB 12 t with
    | false =>
      rw [e] at isT
      exact st_ifT (Γ := G2) (evb_orF (evb_v ne) (evb_orT (evb_not (evb_v isT)))) (h2 e)
    | true =>
      rw [e] at isT
      have tx : Ev (tpCall 1 (fsTextOf m) (tlCons (tpVar 2) tlNil)) G2 (.str (scT t)) := ev_call (evl_1 v2) rfl fun k kx z => ⟨t, ⟨rfl, ht, Nat.le_trans (isB_dp e) hm, hs⟩, z⟩
      have ne2 := ev_neS tx (ev_var (i := 0) (d := .str (scT t)) rfl) hs.pl hs.pl
      rw [decide_eq_true rfl] at ne2
      exact st_ifN (Γ := G2) (evb_orF (evb_v ne) (evb_orF (evb_not (evb_v isT)) (evb_v ne2))) (st_ret (Γ := G2) v2 (h1 e))
end
end PL
set_option Elab.async false
set_option linter.all false
set_option maxRecDepth 100000
set_option maxHeartbeats 4000000
namespace PL
open PySem L2
def fsNameS : FS := fun ds k _ => match ds with
  | [.bag] => ∀ s : List Nat, 1 ≤ s.length → s.length ≤ 6 → (∀ c ∈ s, c ∈ CAP) → k (.str s)
  | _ => False
section
variable {ds : List D} {kd : KD} {ko : D → D → Prop} {kx : KX} {Γ T : Ga} {t ta tb tc : TP} {tl : TL} {d e c0 : D} {n i j c : Nat} {P : PEn} {u v s g : List Nat} {cb : TB} {q : Tr} {b : Bool} {CR CX CT : Addr} {KK : PySem.W.Frag} {C0 C1 C2 C3 C4 C5 C6 C7 C8 C9 C10 C11 C12 C13 C14 C15 C16 : Addr}
local instance : Tabl := ⟨[], fun p hp => absurd hp (by simp)⟩
theorem script_ok' : fsTextOf (n + 1) ds kd kx → m_law_script (fsTextOf n) ds kd kx := by
  rintro ⟨t, ⟨rfl, ht, hd, hs⟩, h⟩
  let G : Ga := [.pu t.dat, .un, .un, .un]
  let G1 : Ga := [.pu t.dat, .pu (.str t.w), .un, .un]
  have v0 : Ev (tpVar 0) G1 t.dat := ev_var rfl
  have v0t : Ev (tpVar 0) G1 (.tup (.str t.w :: t.args)) := by rw [← dat_eq]; exact v0
  have v1 : Ev (tpVar 1) G1 (.str t.w) := ev_var rfl
  have call : ∀ {Γ : Ga} {te : TP} {p : Tr}, Ev te Γ p.dat → OkT p → p.dp ≤ n → TxOk (scT p) → Ev (tpCall 1 (fsTextOf n) (tlCons te tlNil)) Γ (.str (scT p)) := fun h1 h2 h3 h4 => ev_call (evl_1 h1) rfl fun k kx z => ⟨_, ⟨rfl, h2, h3, h4⟩, z⟩
  have isn : ∀ {s : List Nat}, D.plain (.str s) = true → decide (t.w = s) = false → EvB (tbV (tpOp fEq (tpVar 1) (tpC (.str s)))) G1 false := fun hs hne => evb_v (ev_eqSF v1 (ev_c _) (w_plain t) hs (of_decide_eq_false hne))
  have isy : ∀ {s : List Nat}, D.plain (.str s) = true → t.w = s → EvB (tbV (tpOp fEq (tpVar 1) (tpC (.str s)))) G1 true := fun hs he => evb_v (ev_eqST v1 (ev_c _) (w_plain t) hs he)
  refine st_set (Γ := G) (ev_w (ev_var rfl)) ?_
  have rep : ∀ (u : Tr) (r : List D) (s : List Nat), t.args = u.dat :: r → OkT u → u.dp ≤ n → TxOk (wrB u.isTh (scT u) ++ s) → ∀ X : TSp,
      X (fEnds kd kx) [.pu t.dat, .pu (.str t.w), .un, .pu (.str (wrT u))] →
      tsSeq (tsSet 3 (tpCall 1 (fsTextOf n) (tlCons (tpOp fIx (tpVar 0) (tpC (.int 1))) tlNil))) (tsSeq (tsSet 3 (tpIf (tbV (tpOp fEq (tpOp fIx (tpOp fIx (tpVar 0) (tpC (.int 1))) (tpC (.int 0))) (tpC (.str [116, 104, 101, 110])))) (tpOp fAdd (tpOp fAdd (tpC (.str [40])) (tpVar 3)) (tpC (.str [41]))) (tpVar 3))) X) (fEnds kd kx) G1 := fun u r s e1 hu du tx X hX => by
    have su := wr_ok tx
    have a1 : ∀ {Γ : Ga}, gat Γ 0 = .pu t.dat → Ev (tpOp fIx (tpVar 0) (tpC (.int 1))) Γ u.dat := fun {Γ} g0 => by
      have v : Ev (tpVar 0) Γ (.tup (.str t.w :: t.args)) := by rw [← dat_eq]; exact ev_var g0
      rw [e1] at v
      exact ev_1of v
    refine st_set (Γ := G1) (call (a1 rfl) hu du su) ?_
    let G2 : Ga := [.pu t.dat, .pu (.str t.w), .un, .pu (.str (scT u))]
    have is := ev_isW (Γ := G2) (s := wTHE) (a1 rfl) rfl (w_th u)
    have v3 : Ev (tpVar 3) G2 (.str (scT u)) := ev_var rfl
    refine st_set (Γ := G2) (d := .str (wrT u)) ?_ hX
    unfold wrT wrB
    by_cases hth : u.isTh = true
    · rw [if_pos hth]
      rw [hth] at is
      have z := su.hz
      have big : 30000 ≤ sizeLine := by decide
      exact ev_ifT (evb_v is) (ev_addS (ev_addS (ev_c (.str [40])) v3 (by show 1 + _ ≤ _; omega)) (ev_c (.str [41])) (by show ([40] ++ scT u).length + 1 ≤ _; rw [List.length_append]; show 1 + _ + 1 ≤ _; omega))
    · rw [if_neg hth]
      have hth : u.isTh = false := by simpa using hth
      rw [hth] at is
      exact ev_ifF (evb_v is) v3
  have big : 30000 ≤ sizeLine := by decide
  cases ht with
  | @dd v hv hz =>
    have a1 : Ev (tpOp fIx (tpVar 0) (tpC (.int 1))) G1 (.str v) := ev_1of (s := DDS) (l := []) v0t
    rw [sc_dd] at h hs
    have eq := ev_eqS a1 (ev_c (.str [])) (plain_of hv) rfl
    have iff := ev_ifB (ta := tpC (.str [45])) (tb := tpOp fIx (tpVar 0) (tpC (.int 1))) (e := .str v) (d := .str [45]) (evb_v eq) (fun _ => ev_c _) (fun _ => a1)
    refine st_ifT (Γ := G1) (isy rfl rfl) (st_ret (Γ := G1) iff ?_)
    show kd _
    by_cases hv : v = []
    · rw [if_pos hv] at h
      rw [decide_eq_true hv]
      exact h
    · rw [if_neg hv] at h
      rw [decide_eq_false hv]
      exact h
  | @nm s h1 h2 h3 =>
    rw [sc_nm] at h
    exact st_ifN (Γ := G1) (isn rfl rfl) (st_ifT (Γ := G1) (isy rfl rfl) (st_ret (Γ := G1) (ev_1of (s := wNAM) (l := []) v0t) h))
  | @th ps h1 h2 h3 h4 h5 =>
    rw [sc_th] at h hs
    refine st_ifN (Γ := G1) (isn rfl rfl) (st_ifN (Γ := G1) (isn rfl rfl) (st_ifT (Γ := G1) (isy rfl rfl) (st_ret (Γ := G1) (ev_parts (v := wTHE) v0t h2 hs fun p hp => call (ev_var rfl) (h3 p hp) ?_ (scS_partT hp hs)) h)))
    have := dpL_le hp
    rw [Tr.dp] at hd
    omega
  | @ei ps h1 h2 h3 =>
    rw [sc_ei] at h hs
    have tx := hs.tl.pre
    have pt := ev_parts (Γ := G1) (i := 2) (is := [2]) (ta := tpCall 1 (fsTextOf n) (tlCons (tpVar 2) tlNil)) (v := wEIT) v0t h2 tx fun p hp => call (ev_var rfl) (h3 p hp) (by
      have := dpL_le hp
      rw [Tr.dp] at hd
      omega) (scS_partT hp tx)
    have z := tx.hz
    have ad := ev_addS (ev_addS (ev_c (Γ := G1) (.str [40])) pt (by show 1 + _ ≤ _; omega)) (ev_c (.str [41])) (by show ([40] ++ _).length + 1 ≤ _; rw [List.length_append]; show 1 + _ + 1 ≤ _; omega)
    exact st_ifN (Γ := G1) (isn rfl rfl) (st_ifN (Γ := G1) (isn rfl rfl) (st_ifN (Γ := G1) (isn rfl rfl) (st_ifT (Γ := G1) (isy rfl rfl) (st_ret (Γ := G1) ad h))))
  | @ti u m hu hm =>
    rw [sc_ti] at h hs
    refine st_ifN (Γ := G1) (isn rfl rfl) (st_ifN (Γ := G1) (isn rfl rfl) (st_ifN (Γ := G1) (isn rfl rfl) (st_ifN (Γ := G1) (isn rfl rfl) ?_)))
    refine rep u [.int (m : Nat)] _ rfl hu (by rw [Tr.dp] at hd; omega) hs _ ?_
    let G2 : Ga := [.pu (Tr.ti u m).dat, .pu (.str wTIM), .un, .pu (.str (wrT u))]
    have w0 : Ev (tpVar 0) G2 (.tup [.str wTIM, u.dat, .int (m : Nat)]) := by
      have w0 : Ev (tpVar 0) G2 (Tr.ti u m).dat := ev_var rfl
      rw [dat_eq] at w0
      exact w0
    have is := ev_eqSF (Γ := G2) (ev_var (i := 1) (d := .str wTIM) rfl) (ev_c (.str wAGA)) rfl rfl (by decide)
    have st : Ev (tp1 fStrAny (tpOp fIx (tpVar 0) (tpC (.int 2)))) G2 (.str (TL.numL m)) := ev_1 (ev_2of w0) fun k z => ⟨log2_30 hm, by
      show k (.str (intS ((m : Nat) : Int)))
      rw [intS_num]
      exact z⟩
    have z := hs.hz
    rw [List.length_append, List.length_cons] at z
    have ad := ev_addS (ev_addS (ev_var (Γ := G2) (i := 3) (d := .str (wrT u)) rfl) (ev_c (.str [94])) (by show (wrB _ _).length + 1 ≤ _; omega)) (ev_ifF (ta := tpC (.str [42])) (evb_v is) st) (by rw [List.length_append]; show (wrB _ _).length + 1 + _ ≤ _; omega)
    rw [List.append_assoc] at ad
    exact st_ret (Γ := G2) ad h
  | @ag u hu =>
    rw [sc_ag] at h hs
    refine st_ifN (Γ := G1) (isn rfl rfl) (st_ifN (Γ := G1) (isn rfl rfl) (st_ifN (Γ := G1) (isn rfl rfl) (st_ifN (Γ := G1) (isn rfl rfl) ?_)))
    refine rep u [] _ rfl hu (by rw [Tr.dp] at hd; omega) hs _ ?_
    let G2 : Ga := [.pu (Tr.ag u).dat, .pu (.str wAGA), .un, .pu (.str (wrT u))]
    have is := ev_eqST (Γ := G2) (ev_var (i := 1) (d := .str wAGA) rfl) (ev_c (.str wAGA)) rfl rfl rfl
    have z := hs.hz
    rw [List.length_append] at z
    have z : (wrB u.isTh (scT u)).length + 2 ≤ 20000 := z
    have ad := ev_addS (ev_addS (ev_var (Γ := G2) (i := 3) (d := .str (wrT u)) rfl) (ev_c (.str [94])) (by show (wrB _ _).length + 1 ≤ _; omega)) (ev_ifT (tb := tp1 fStrAny (tpOp fIx (tpVar 0) (tpC (.int 2)))) (evb_v is) (ev_c (.str [42]))) (by rw [List.length_append]; show (wrB _ _).length + 1 + 1 ≤ _; omega)
    rw [List.append_assoc] at ad
    exact st_ret (Γ := G2) ad h
theorem nameS_ok' : fsNameS ds kd kx → m_law_name fsPick fsPull ds kd kx := by
  intro h0
  match ds, h0 with
  | [.bag], h =>
    let G : Ga := [.pu .bag, .un]
    have cnt : EvN (tpCall 2 fsPick (tlCons (tpVar 0) (tlCons (tpLst (tlCons (tpC (.int 1)) (tlCons (tpC (.int 1)) (tlCons (tpC (.int 2)) (tlCons (tpC (.int 6)) (tlCons (tpOp fAdd (tpC (.int 1)) (tpCall 2 fsPull (tlCons (tpVar 0) (tlCons (tpC (.int 6)) tlNil)))) tlNil)))))) tlNil))) G (fun d => ∃ n : Nat, (1 ≤ n ∧ n ≤ 6) ∧ d = .int (n : Nat)) := by
      refine evn_pickN (ev_var rfl) (evn_lst (evnl_cons (evn (ev_c (.int 1))) (evnl_cons (evn (ev_c (.int 1))) (evnl_cons (evn (ev_c (.int 2))) (evnl_cons (evn (ev_c (.int 6))) (evnl_cons (evn_1p (k := 6) (ev_var rfl) (by decide)) evnl_nil))))) fun ds hd => ?_) fun d hd => ?_
      · obtain ⟨_, _, _, ⟨_, _, _, ⟨_, _, _, ⟨_, _, _, ⟨_, _, _, rfl, rfl⟩, rfl⟩, rfl⟩, rfl⟩, rfl⟩ := hd
        show 5 ≤ 100000
        decide
      · obtain ⟨_, ⟨_, _, rfl, ⟨_, _, rfl, ⟨_, _, rfl, ⟨_, _, rfl, ⟨_, _, h1, rfl, rfl⟩, rfl⟩, rfl⟩, rfl⟩, rfl⟩, rfl⟩ := hd
        refine ⟨_, rfl, by simp, by show 5 ≤ 100000; decide, fun y hy => ?_⟩
        simp only [List.mem_cons, List.not_mem_nil, or_false] at hy
        rcases hy with rfl | rfl | rfl | rfl | rfl
        · exact ⟨1, ⟨by decide, by decide⟩, rfl⟩
        · exact ⟨1, ⟨by decide, by decide⟩, rfl⟩
        · exact ⟨2, ⟨by decide, by decide⟩, rfl⟩
        · exact ⟨6, ⟨by decide, by decide⟩, rfl⟩
        · exact h1
    have rg : EvNL (tiRng1 (tlCons (tpCall 2 fsPick (tlCons (tpVar 0) (tlCons (tpLst (tlCons (tpC (.int 1)) (tlCons (tpC (.int 1)) (tlCons (tpC (.int 2)) (tlCons (tpC (.int 6)) (tlCons (tpOp fAdd (tpC (.int 1)) (tpCall 2 fsPull (tlCons (tpVar 0) (tlCons (tpC (.int 6)) tlNil)))) tlNil)))))) tlNil))) tlNil)) G (fun ds => 1 ≤ ds.length ∧ ds.length ≤ 6) := fun kk kx z => cnt _ _ fun d ⟨n, hn, e⟩ => by
      subst e
      refine (evl_rg1 (Γ := G) (ta := tpC (.int (n : Nat))) (ev_c _) (by omega)) kk kx (z _ ?_)
      show 1 ≤ (natsD 0 n).length ∧ (natsD 0 n).length ≤ 6
      unfold natsD
      rw [List.length_map, List.length_range']
      omega
    have lc := evn_lc (is := [1]) (i := 1) (te := tpCall 2 fsPick (tlCons (tpVar 0) (tlCons (tpC (.str CAP)) tlNil))) (B := fun d => ∃ c ∈ CAP, d = .str [c]) rg (fun ds hd => by omega) fun x => evn_pickS (ev_var rfl) (ev_c _) (by decide) (by decide)
    have ex : ∀ ys : List D, (∀ y ∈ ys, ∃ c ∈ CAP, y = .str [c]) → ∃ u : List Nat, (∀ c ∈ u, c ∈ CAP) ∧ ys = u.map fun c => .str [c] := fun ys => by
      induction ys with
      | nil => exact fun _ => ⟨[], fun _ z => (nomatch z), rfl⟩
      | cons y r ih =>
        intro h
        obtain ⟨u, h1, h2⟩ := ih fun z hz => h z (List.mem_cons_of_mem _ hz)
        obtain ⟨c, h3, h4⟩ := h y List.mem_cons_self
        refine ⟨c :: u, fun d hd => ?_, by rw [h4, h2]; rfl⟩
        rcases List.mem_cons.mp hd with rfl | hd
        · exact h3
        · exact h1 d hd
    have jn := evn_joinCs (A := fun s => 1 ≤ s.length ∧ s.length ≤ 6 ∧ ∀ c ∈ s, c ∈ CAP) (evn_imp lc fun d ⟨items, ys, hi, hy, hb, e⟩ => by
      obtain ⟨u, h1, h2⟩ := ex ys hb
      have lu : ys.length = u.length := by rw [h2, List.length_map]
      exact ⟨u, ⟨⟨by omega, by omega, h1⟩, by omega⟩, by rw [e, h2]⟩)
    exact st_retN (Γ := G) jn fun d ⟨s, ⟨h1, h2, h3⟩, e⟩ => by
      subst e
      exact h s h1 h2 h3
end
end PL
set_option Elab.async false
set_option linter.all false
set_option maxRecDepth 100000
set_option maxHeartbeats 4000000
namespace PL
open PySem L2 PyProof.Rows
variable [Tabl]
def lo1D (c : Nat) : Nat := if 65 ≤ c ∧ c ≤ 90 then c + 32 else c
def tpLower (t : TP) : TP := fun Γ k kx => t Γ (fun d => match d with
  | .str a => (∀ c ∈ a, c < 128) ∧ a.length ≤ 100000 ∧ k (.str (a.map lo1D))
  | _ => False) kx
theorem lower_ss {a : List Nat} (h : ∀ c ∈ a, c < 128) : Txt.lower (SS a) = SS (a.map lo1D) := by
  have e := lower_ascii (x := SS a) (by
    intro c hc
    have : c ∈ a := by simpa [SS] using hc
    exact h c this)
  rw [e]
  unfold SS
  congr 1
  simp
  intro c hc
  rfl
section
variable {X : Cx} {W : WX} {o : Expr} {to : TP} {pos apos : Pos}
theorem p_lower (ho : PU X W o to) (hbase : attributeBase o "lower" X.env (eval o X.env) = eval o X.env := by rfl) (hline : (apos.endLine == pos.line) = true := by rfl) :
    PP X W (.Call (.Attribute o "lower" apos) [] [] pos) (tpLower to) := by
  obtain ⟨eo, po, ro⟩ := ho.ex
  refine ⟨_, pe_m0 F.slot_str_lower F.type_str_lower mt_lower po hbase hline, fun G0 H0 Γ σ G H k kx Q F ht hk hx => ?_⟩
  refine ro G0 H0 Γ σ G H _ kx _ F ht (fun d1 v1 G1 H1 k1 x1 n1 => ?_) hx
  cases d1 with
  | str a =>
    obtain ⟨h1, h2, h3⟩ := k1
    refine ⟨⟨_, n1.str⟩, _, n1.str, rfl, ?_, ?_⟩
    · have : (SS a).length = a.length := ss_length a
      omega
    · rw [lower_ss h1]
      exact hk _ _ _ _ h3 x1 (.str _)
  | _ => exact k1.elim
end
end PL
set_option Elab.async false
set_option linter.all false
set_option maxRecDepth 100000
set_option maxHeartbeats 4000000
namespace PL
open PySem L2
def m_listed_names (fs_inner : FS) (fs_listed_names : FSo) : FSo := fun ds k kx => ∀ p,
  (tsSeq (tsIf (tbAnd (tbV (tpOp fEq (tpOp fIx (tpVar 0) (tpC (.int 0))) (tpC (.str [110, 97, 109, 101])))) (tbV (tpOp (fInD true) (tpOp fIx (tpVar 0) (tpC (.int 1))) (tpVarU 1))))
    (tsApp 1 (tpOp fIx (tpVar 0) (tpC (.int 1))))
    tsNext)
    (tsFor (tiLst (tpCall 1 fs_inner (tlCons (tpVar 0) tlNil))) (tgName 2)
    (tsDropX 1 (txCallO 2 fs_listed_names (tlCons (tpVar 2) (tloHere 1 tlNil))))))
  (oEnds 1 p k kx) (gaO 3 1 p ds)
def m_names_in (fs_need_tree : FS) (fs_listed_names : FSo) : FS := fun ds k kx =>
  (tsSeq (tsDrop (tpCall 1 fs_need_tree (tlCons (tpVar 0) tlNil)))
    (tsSeq (tsOwn 1 (tpLst tlNil))
    (tsSeq (tsDropX 1 (txCallO 2 fs_listed_names (tlCons (tpVar 0) (tloHere 1 tlNil))))
    (tsRetOwn 1))))
  (fEnds k kx) (ga0 2 ds)
def mk_law_tree (fs_law_pick fs_law_drawn fs_law_tree fs_law_pull fs_law_row : FS) : FS := fun ds k kx =>
  (tsSeq (tsSet 5 (tpCall 2 fs_law_pick (tlCons (tpVar 0) (tlCons (tpOp fAdd (tpLst (tlCons (tpC (.str [100, 101, 101, 100, 115])) (tlCons (tpC (.str [110, 97, 109, 101])) (tlCons (tpC (.str [116, 104, 101, 110])) tlNil)))) (tpVar 4)) tlNil))))
    (tsSeq (tsIf (tbOr (tbV (tpOp fLt (tpVar 3) (tpC (.int 2)))) (tbOr (tbV (tpOp fEq (tpVar 5) (tpC (.str [100, 101, 101, 100, 115])))) (tbAnd (tbV (tpOp fEq (tpVar 5) (tpC (.str [110, 97, 109, 101])))) (tbV (tpOp fNe (tpVar 2) (tpLst tlNil))))))
    (tsRet (tpIf (tbAnd (tbV (tpOp fEq (tpVar 5) (tpC (.str [110, 97, 109, 101])))) (tbV (tpOp fNe (tpVar 2) (tpLst tlNil)))) (tpTup (tlCons (tpC (.str [110, 97, 109, 101])) (tlCons (tpCall 2 fs_law_pick (tlCons (tpVar 0) (tlCons (tpVar 2) tlNil))) tlNil))) (tpTup (tlCons (tpC (.str [100, 101, 101, 100, 115])) (tlCons (tpCall 3 fs_law_drawn (tlCons (tpVar 0) (tlCons (tpVar 1) (tlCons (tpC (.int 6)) tlNil)))) tlNil)))))
    tsNext)
    (tsSeq (tsSet 6 (tpCall 5 fs_law_tree (tlCons (tpVar 0) (tlCons (tpVar 1) (tlCons (tpVar 2) (tlCons (tpOp fSub (tpVar 3) (tpC (.int 1))) (tlCons (tpVar 4) tlNil)))))))
    (tsSeq (tsIf (tbV (tpOp fEq (tpVar 5) (tpC (.str [116, 105, 109, 101, 115]))))
    (tsRet (tpTup (tlCons (tpC (.str [116, 105, 109, 101, 115])) (tlCons (tpVar 6) (tlCons (tpCall 2 fs_law_pick (tlCons (tpVar 0) (tlCons (tpLst (tlCons (tpC (.int 0)) (tlCons (tpC (.int 1)) (tlCons (tpC (.int 2)) (tlCons (tpC (.int 3)) (tlCons (tpOp fAdd (tpC (.int 2)) (tpCall 2 fs_law_pull (tlCons (tpVar 0) (tlCons (tpC (.int 3)) tlNil)))) tlNil)))))) tlNil))) tlNil)))))
    tsNext)
    (tsSeq (tsIf (tbV (tpOp fEq (tpVar 5) (tpC (.str [97, 103, 97, 105, 110]))))
    (tsRet (tpTup (tlCons (tpC (.str [97, 103, 97, 105, 110])) (tlCons (tpVar 6) tlNil))))
    tsNext)
    (tsSeq (tsSet 7 (tpOp fAdd (tpLst (tlCons (tpVar 6) tlNil)) (tpLc [8] (tiRng1 (tlCons (tpOp fAdd (tpC (.int 1)) (tpCall 2 fs_law_pull (tlCons (tpVar 0) (tlCons (tpC (.int 2)) tlNil)))) tlNil)) (tgName 8) tbYes (tpCall 5 fs_law_tree (tlCons (tpVar 0) (tlCons (tpVar 1) (tlCons (tpVar 2) (tlCons (tpOp fSub (tpVar 3) (tpC (.int 1))) (tlCons (tpVar 4) tlNil)))))))))
    (tsRet (tpIf (tbV (tpOp fEq (tpVar 5) (tpC (.str [101, 105, 116, 104, 101, 114])))) (tp1 fTup (tpOp fAdd (tpLst (tlCons (tpC (.str [101, 105, 116, 104, 101, 114])) tlNil)) (tpVar 7))) (tpCall 1 fs_law_row (tlCons (tpVar 7) tlNil))))))))))
  (fEnds k kx) (ga0 9 ds)
def m_law_inner : FS := fun ds k kx =>
  (tsSeq (tsIf (tbV (tpOp (fInD false) (tpOp fIx (tpVar 0) (tpC (.int 0))) (tpTup (tlCons (tpC (.str [116, 104, 101, 110])) (tlCons (tpC (.str [101, 105, 116, 104, 101, 114])) tlNil)))))
    (tsRet (tp1 fList (tpSl (tpVar 0) (toSome (tpC (.int 1))) toNo)))
    tsNext)
    (tsRet (tpIf (tbV (tpOp (fInD false) (tpOp fIx (tpVar 0) (tpC (.int 0))) (tpTup (tlCons (tpC (.str [116, 105, 109, 101, 115])) (tlCons (tpC (.str [97, 103, 97, 105, 110])) tlNil))))) (tpLst (tlCons (tpOp fIx (tpVar 0) (tpC (.int 1))) tlNil)) (tpLst tlNil))))
  (fEnds k kx) (ga0 1 ds)
def m_law_names (fs_law_inner fs_law_names : FS) : FS := fun ds k kx =>
  (tsSeq (tsSet 1 (tpIf (tbV (tpOp fEq (tpOp fIx (tpVar 0) (tpC (.int 0))) (tpC (.str [110, 97, 109, 101])))) (tpLst (tlCons (tpOp fIx (tpVar 0) (tpC (.int 1))) tlNil)) (tpLst tlNil)))
    (tsSeq (tsFor (tiLst (tpCall 1 fs_law_inner (tlCons (tpVar 0) tlNil))) (tgName 2)
    (tsSet 1 (tpOp fAdd (tpVar 1) (tpLc [3] (tiLst (tpCall 1 fs_law_names (tlCons (tpVar 2) tlNil))) (tgName 3) (tbV (tpOp (fInD true) (tpVar 3) (tpVar 1))) (tpVar 3)))))
    (tsRet (tpVar 1))))
  (fEnds k kx) (ga0 4 ds)
end PL
set_option Elab.async false
set_option linter.all false
set_option maxRecDepth 100000
set_option maxHeartbeats 4000000
namespace PL
open PySem L2
def Pt (n : Nat) (t : Tr) : Prop := OkT t ∧ ∀ d, n ≤ d → isB d t = true
def wl (t : Tr) : Nat := (scT t).length + 1
def wlL (ts : List Tr) : Nat := (ts.map wl).sum
structure RowOk (n : Nat) (row : List Tr) : Prop where
  pt : ∀ t ∈ row, Pt n t
  nt : ∀ t ∈ row, t.isTh = false ∧ t ≠ .dd []
  adj : ∀ (i : Nat) (v w : List Nat), row[i]? = some (.dd v) → row[i + 1]? ≠ some (.dd w)
theorem wlL_cons (t : Tr) (r : List Tr) : wlL (t :: r) = wl t + wlL r := by unfold wlL; rw [List.map_cons, List.sum_cons]
theorem wlL_app (a b : List Tr) : wlL (a ++ b) = wlL a + wlL b := by unfold wlL; rw [List.map_append, List.sum_append]
theorem wlL_scS (c : Nat) : ∀ ps : List Tr, wlL ps = (scS c ps).length
  | [] => by rw [scS]; rfl
  | t :: r => by
    rw [wlL_cons, wlL_scS c r, scS_cons, List.length_cons, List.length_append]
    unfold wl
    omega
theorem wl_th {ps : List Tr} (h : ps ≠ []) : wl (.th ps) = wlL ps := by
  unfold wl
  rw [wlL_scS 46, sc_th, List.length_tail]
  cases ps with
  | nil => exact absurd rfl h
  | cons t r => rw [scS_cons, List.length_cons]; omega
theorem sc_pos {t : Tr} (h : OkT t) : 1 ≤ (scT t).length := by
  induction h with
  | @dd v h hz =>
    rw [sc_dd]
    split
    · decide
    · rename_i h
      cases v with
      | nil => exact absurd rfl h
      | cons a l => rw [List.length_cons]; omega
  | @nm s h1 h2 h3 => rw [sc_nm]; exact h1
  | @th ps h1 h2 h3 h4 h5 ih =>
    match ps, h1, ih with
    | q :: r, h1, ih =>
      rw [sc_th, scS_tail, List.length_append]
      have := ih q List.mem_cons_self
      omega
  | @ei ps h1 h2 h3 ih => rw [sc_ei, List.length_cons]; omega
  | @ti t m h hm ih => rw [sc_ti, List.length_append, List.length_cons]; omega
  | @ag t h ih => rw [sc_ag, List.length_append]; show 1 ≤ _ + 2; omega
theorem Pt.mono {n m : Nat} {t : Tr} (h : Pt n t) (e : n ≤ m) : Pt m t := ⟨h.1, fun d hd => h.2 d (by omega)⟩
theorem Pt.dep {n : Nat} {t : Tr} (h : Pt n t) : t.dat.plain = true ∧ t.dat.dep ≤ n := by
  obtain ⟨a, b⟩ := okT_plain h.1
  have := isB_dp (h.2 n (Nat.le_refl _))
  exact ⟨a, by omega⟩
theorem Pt.parts {n : Nat} {ps : List Tr} (h : Pt n (.th ps)) : ps.length ≤ 20 ∧ RowOk n ps := by
  obtain ⟨h1, h2⟩ := h
  have hb : ∀ d, n ≤ d + 1 → (decide (ps.length ≤ 20) && ps.all (isB d)) = true := fun d hd => h2 (d + 1) hd
  cases h1 with
  | th a1 a2 a3 a4 a5 =>
    have z := hb n (by omega)
    rw [Bool.and_eq_true, decide_eq_true_eq] at z
    refine ⟨z.1, ⟨fun t ht => ⟨a3 t ht, fun d hd => ?_⟩, a4, a5⟩⟩
    have z := hb d (by omega)
    rw [Bool.and_eq_true] at z
    exact List.all_eq_true.mp z.2 t ht
theorem RowOk.th {n : Nat} {ps : List Tr} (h : RowOk n ps) (h2 : 2 ≤ ps.length) (h20 : ps.length ≤ 20) : Pt (n + 1) (.th ps) := ⟨.th h2 (by omega) (fun p hp => (h.pt p hp).1) h.nt h.adj, fun d hd => by
  obtain ⟨d', rfl⟩ : ∃ d', d = d' + 1 := ⟨d - 1, by omega⟩
  show (decide (ps.length ≤ 20) && ps.all (isB d')) = true
  rw [decide_eq_true h20, Bool.true_and, List.all_eq_true]
  exact fun p hp => (h.pt p hp).2 d' (by omega)⟩
theorem RowOk.take {n k : Nat} {row : List Tr} (h : RowOk n row) : RowOk n (row.take k) := ⟨fun t ht => h.pt t (List.mem_of_mem_take ht), fun t ht => h.nt t (List.mem_of_mem_take ht), fun i v w e => by
  rw [List.getElem?_take] at e ⊢
  split at e
  · split
    · exact h.adj i v w e
    · exact fun z => nomatch z
  · cases e⟩
theorem wlL_take (k : Nat) : ∀ row : List Tr, wlL (row.take k) ≤ wlL row := fun row => by
  have := wlL_app (row.take k) (row.drop k)
  rw [List.take_append_drop] at this
  omega
/-- a part more at the end -/
theorem RowOk.snoc {n : Nat} {row : List Tr} {q : Tr} (h : RowOk n row) (hq : Pt n q) (nt : q.isTh = false ∧ q ≠ .dd []) (ha : ∀ v w, q = .dd w → row.getLast? ≠ some (.dd v)) : RowOk n (row ++ [q]) := by
  refine ⟨fun t ht => (List.mem_append.mp ht).elim (h.pt t) fun z => by rw [List.mem_singleton.mp z]; exact hq, fun t ht => (List.mem_append.mp ht).elim (h.nt t) fun z => by rw [List.mem_singleton.mp z]; exact nt, fun i v w e e2 => ?_⟩
  by_cases h1 : i + 1 < row.length
  · rw [List.getElem?_append_left (by omega)] at e
    rw [List.getElem?_append_left h1] at e2
    exact h.adj i v w e e2
  · by_cases h2 : i + 1 = row.length
    · rw [List.getElem?_append_right (by omega), h2, Nat.sub_self] at e2
      rw [List.getElem?_append_left (by omega)] at e
      refine ha v w (Option.some.inj e2) ?_
      rw [List.getLast?_eq_getElem?, show row.length - 1 = i by omega]
      exact e
    · rw [List.getElem?_append_right (by omega)] at e2
      obtain ⟨j, hj⟩ : ∃ j, i + 1 - row.length = j + 1 := ⟨i - row.length, by omega⟩
      rw [hj] at e2
      cases e2
/-- the last deeds grow -/
theorem RowOk.grow {n : Nat} {a : List Tr} {v w : List Nat} (h : RowOk n (a ++ [.dd v])) (hn : 1 ≤ n) (hw : ∀ c ∈ w, c ∈ LET) (hz : v.length + w.length ≤ 3000) : RowOk n (a ++ [.dd (v ++ w)]) := by
  have hv := (h.pt (.dd v) (List.mem_append_right _ List.mem_cons_self)).1
  have nv := (h.nt (.dd v) (List.mem_append_right _ List.mem_cons_self)).2
  have ra : RowOk n a := ⟨fun t ht => h.pt t (List.mem_append_left _ ht), fun t ht => h.nt t (List.mem_append_left _ ht), fun i x y e e2 => by
    have l1 : i + 1 < a.length := (List.getElem?_eq_some_iff.mp e2).1
    refine h.adj i x y ?_ ?_
    · rw [List.getElem?_append_left (by omega)]; exact e
    · rw [List.getElem?_append_left l1]; exact e2⟩
  have hl : ∀ c ∈ v, c ∈ LET := by cases hv with | dd h _ => exact h
  refine ra.snoc ⟨.dd (fun c hc => (List.mem_append.mp hc).elim (hl c) (hw c)) (by rw [List.length_append]; exact hz), fun d hd => ?_⟩ ⟨rfl, fun z => ?_⟩ fun x y e e2 => ?_
  · obtain ⟨d', rfl⟩ : ∃ d', d = d' + 1 := ⟨d - 1, by omega⟩
    rfl
  · cases v with
    | nil => exact nv rfl
    | cons c l => cases z
  · rw [List.getLast?_eq_getElem?] at e2
    have l1 : a.length - 1 < a.length := (List.getElem?_eq_some_iff.mp e2).1
    refine h.adj (a.length - 1) x v ?_ ?_
    · rw [List.getElem?_append_left l1]; exact e2
    · rw [show a.length - 1 + 1 = a.length by omega, List.getElem?_append_right (Nat.le_refl _), Nat.sub_self]; rfl
end PL
set_option Elab.async false
set_option linter.all false
set_option maxRecDepth 100000
set_option maxHeartbeats 4000000
namespace PL
open PySem L2
def fsRowK : FS := fun ds k _ => match ds with
  | [.lst ds] => ∃ (n : Nat) (ts : List Tr), (ds = ts.map Tr.dat ∧ ts ≠ [] ∧ 1 ≤ n ∧ n ≤ 20 ∧ (∀ t ∈ ts, Pt n t) ∧ ts.length ≤ 10 ∧ wlL ts ≤ 3000) ∧ ∀ t, Pt (n + 1) t → wl t ≤ wlL ts → k t.dat
  | _ => False
section
variable {ds : List D} {kd : KD} {ko : D → D → Prop} {kx : KX} {Γ : Ga} {t ta tb tc : TP} {tl : TL} {d e c c0 : D} {n i j : Nat} {P : PEn} {u v : List Nat} {s r : TSp} {cb : TB} {q : Tr} {b : Bool}
local instance : Tabl := ⟨[], fun p hp => absurd hp (by simp)⟩
theorem rowK_one {row : List Tr} {s2 : Sl} (hn1 : 1 ≤ n) (hn : n ≤ 20) (hq : Pt n q) (qt : q.isTh = false) (hr : RowOk n row) (hz : row.length ≤ 1000) (hw : wlL row + wl q ≤ 3000)
    (hk : ∀ row', RowOk n row' → row'.length ≤ row.length + 1 → wlL row' ≤ wlL row + wl q → P.nx (Gr ds row' s2 (.pu q.dat))) : rowB P (Gr ds row s2 (.pu q.dat)) := by
  have big : 6000 ≤ sizeLine := by decide
  let G : Ga := Gr ds row s2 (.pu q.dat)
  have c1 : ∀ {b}, decide (q.w = DDS) = b → EvB (tbV (tpOp fEq (tpOp fIx (tpVar 3) (tpC (.int 0))) (tpC (.str [100, 101, 101, 100, 115])))) G b := fun e => evb_v (ev_isW (q := q) (ev_var rfl) rfl e)
  have ow : Ev (tpVarU 1) G (.lst (row.map Tr.dat)) := ev_varO rfl
  have rp := plainL_map fun t ht => ((hr.pt t ht).dep).1
  have rd := depL_map fun t ht => ((hr.pt t ht).dep).2
  have c2 := ev_neNil' ow rp (by omega)
  rw [show decide (row.map Tr.dat = []) = decide (row = []) from decide_eq_decide.mpr List.map_eq_nil_iff] at c2
  obtain ⟨qp, qd⟩ := hq.dep
  have tail : EvB rowC G false → (∀ v w, q = .dd w → row.getLast? ≠ some (.dd v)) → rowB P G := fun c hlast => by
    refine st_if1F (Γ := G) c ?_
    have ne : Ev (tpOp fNe (tpVar 3) (tpTup (tlCons (tpC (.str [100, 101, 101, 100, 115])) (tlCons (tpC (.str [])) tlNil)))) G (.bl (!eqD q.dat (tD []))) := ev_op (ev_var (d := q.dat) rfl) (ev_tup (ds := [.str DDS, .str []]) (evl_2 (ev_c _) (ev_c _)) (by show 2 ≤ 100000; decide)) fun k z => ⟨⟨qp, rfl, by omega, by show 1 ≤ 64; decide⟩, z⟩
    by_cases hz0 : eqD q.dat (tD []) = true
    · rw [hz0] at ne
      refine st_if1F (Γ := G) (evb_v ne) ?_
      exact hk row hr (by omega) (by omega)
    · have qn : q ≠ .dd [] := fun z => hz0 (by rw [z, dat_eq]; decide)
      rw [eqD_dat qn] at ne
      refine st_if1T (Γ := G) (evb_v ne) ?_
      have app : P.nx (Gr ds (row ++ [q]) s2 (.pu q.dat)) := hk (row ++ [q]) (hr.snoc hq ⟨qt, qn⟩ hlast) (by rw [List.length_append, List.length_singleton]; omega) (by rw [wlL_app, wlL_cons]; show _ + (_ + 0) ≤ _; omega)
      show onOL G 1 _
      unfold onOL
      refine (ev_var (Γ := G) (i := 3) (d := q.dat) rfl) _ _ ⟨by rw [List.length_map]; omega, ?_⟩
      show P.nx [.pu (.lst ds), .ow (.lst (row.map Tr.dat ++ [q.dat])), s2, .pu q.dat]
      have e : row.map Tr.dat ++ [q.dat] = (row ++ [q]).map Tr.dat := by rw [List.map_append]; rfl
      rw [e]
      exact app
  by_cases hq1 : q.w = DDS
  · by_cases he : row = []
    · rw [decide_eq_true he] at c2
      exact tail (evb_andT (c1 (decide_eq_true hq1)) (evb_andF (evb_v c2))) fun v w _ z => by rw [he] at z; cases z
    · rw [decide_eq_false he] at c2
      obtain ⟨a, x, rfl⟩ := list_snoc row he
      have em : (a ++ [x]).map Tr.dat = a.map Tr.dat ++ [x.dat] := by rw [List.map_append]; rfl
      have lst : Ev (tpOp fIx (tpVarU 1) (tpNeg (tpC (.int 1)))) G x.dat := ev_ixL ow (fun k kx z => z : Ev (tpNeg (tpC (.int 1))) G (.int (-1))) (by rw [em]; exact at_last _ _)
      have c3 : ∀ {b}, decide (x.w = DDS) = b → EvB (tbV (tpOp fEq (tpOp fIx (tpOp fIx (tpVarU 1) (tpNeg (tpC (.int 1)))) (tpC (.int 0))) (tpC (.str [100, 101, 101, 100, 115])))) G b := fun e => evb_v (ev_isW (q := x) lst rfl e)
      by_cases hx : x.w = DDS
      · refine st_if1T (Γ := G) (evb_andT (c1 (decide_eq_true hq1)) (evb_andT (evb_v c2) (c3 (decide_eq_true hx)))) ?_
        cases q with
        | dd w =>
          cases x with
          | dd v =>
            have vn : v ≠ [] := fun z => (hr.nt (.dd v) (List.mem_append_right _ List.mem_cons_self)).2 (by rw [z])
            have lv : wl (.dd v) = v.length + 1 := by unfold wl; rw [sc_dd, if_neg vn]
            have lw : w.length + 1 ≤ wl (.dd w) := by unfold wl; rw [sc_dd]; split <;> rename_i z <;> simp [z]
            rw [wlL_app, wlL_cons, lv] at hw
            have wq : ∀ c ∈ w, c ∈ LET := by cases hq.1 with | dd h _ => exact h
            have e1 : Ev (tpOp fIx (tpOp fIx (tpVarU 1) (tpNeg (tpC (.int 1)))) (tpC (.int 1))) G (.str v) := ev_t1 (by rw [dat_eq] at lst; exact lst)
            have e2 : Ev (tpOp fIx (tpVar 3) (tpC (.int 1))) G (.str w) := ev_t1 (by
              have z := ev_var (Γ := G) (i := 3) (d := (Tr.dd w).dat) rfl
              rwa [dat_eq] at z)
            have e3 : Ev (tpTup (tlCons (tpC (.str [100, 101, 101, 100, 115])) (tlCons (tpOp fAdd (tpOp fIx (tpOp fIx (tpVarU 1) (tpNeg (tpC (.int 1)))) (tpC (.int 1))) (tpOp fIx (tpVar 3) (tpC (.int 1)))) tlNil))) G (Tr.dd (v ++ w)).dat := by
              rw [dat_eq]
              exact ev_tup (evl_2 (ev_c _) (ev_addS e1 e2 (by omega))) (by show 2 ≤ 100000; decide)
            refine e3 _ _ ?_
            show onOL G 1 _
            unfold onOL
            show (match ixN ((a ++ [Tr.dd v]).map Tr.dat).length (-1) with | some m => _ | none => False)
            rw [em, List.length_append, List.length_singleton, ix_last]
            show P.nx [.pu (.lst ds), .ow (.lst ((a.map Tr.dat ++ [(Tr.dd v).dat]).set (a.map Tr.dat).length (Tr.dd (v ++ w)).dat)), s2, .pu (Tr.dd w).dat]
            have e4 : (a.map Tr.dat ++ [(Tr.dd v).dat]).set (a.map Tr.dat).length (Tr.dd (v ++ w)).dat = (a ++ [Tr.dd (v ++ w)]).map Tr.dat := by
              rw [List.set_append_right _ _ (Nat.le_refl _), Nat.sub_self, List.map_append]
              rfl
            rw [e4]
            refine hk (a ++ [Tr.dd (v ++ w)]) (hr.grow hn1 wq (by omega)) (by simp) ?_
            have lvw : wl (.dd (v ++ w)) = v.length + w.length + 1 := by
              unfold wl
              rw [sc_dd, if_neg (by simp [vn]), List.length_append]
            rw [wlL_app, wlL_app, wlL_cons, wlL_cons, lvw, lv]
            omega
          | nm v => cases hx
          | th v => cases hx
          | ei v => cases hx
          | ti v c => cases hx
          | ag v => cases hx
        | nm v => cases hq1
        | th v => cases hq1
        | ei v => cases hq1
        | ti v c => cases hq1
        | ag v => cases hq1
      · exact tail (evb_andT (c1 (decide_eq_true hq1)) (evb_andT (evb_v c2) (c3 (decide_eq_false hx)))) fun v w _ z => by
          rw [List.getLast?_append] at z
          have : x = .dd v := by simpa using z
          rw [this] at hx
          exact hx rfl
  · exact tail (evb_andF (c1 (decide_eq_false hq1))) fun v w z _ => by rw [z] at hq1; exact hq1 rfl
theorem rowK_ok' : fsRowK ds kd kx → m_law_row ds kd kx := by
  intro h0
  match ds, h0 with
  | [.lst ds], h0 =>
    obtain ⟨n, ts, ⟨rfl, tne, hn1, hn, ht, hz, hw⟩, h⟩ := h0
    let G : Ga := [.pu (.lst (ts.map Tr.dat)), .un, .un, .un]
    refine st_own (Γ := G) (ev_lst evl_nil (Nat.zero_le _)) ?_
    refine st_for (Γ := Gr (ts.map Tr.dat) [] .un .un) (evl_tiLst (ev_var rfl)) ?_
    have two : 2 ≤ wlL ts := by
      match ts, tne, ht with
      | t :: r, _, ht =>
        have := sc_pos (ht t List.mem_cons_self).1
        rw [wlL_cons]
        unfold wl
        omega
    -- the end
    let P0 : PEn := fEnds kd kx
    have fin : ∀ (row : List Tr) (s2 s3 : Sl), RowOk n row → row.length ≤ 1000 → wlL row ≤ wlL ts → rowT P0 (Gr (ts.map Tr.dat) row s2 s3) := fun row s2 s3 hr hl hK => by
      have big : 3000 ≤ sizeLine := by decide
      let G1 : Ga := Gr (ts.map Tr.dat) row s2 s3
      have cut : Ev (tpSl (tpVarU 1) toNo (toSome (tpC (.int 20)))) G1 (.lst ((row.take 20).map Tr.dat)) := fun k kx z => (ev_varO (Γ := G1) (i := 1) (d := .lst (row.map Tr.dat)) rfl) _ _ (by
        show k (.lst (cutL (row.map Tr.dat) none (some 20)))
        have e : cutL (row.map Tr.dat) none (some 20) = (row.take 20).map Tr.dat := by
          unfold cutL
          have e1 : HT.sIx (row.map Tr.dat).length 0 none = 0 := by simp [HT.sIx]
          have e2 : HT.sIx (row.map Tr.dat).length (row.map Tr.dat).length (some 20) = min 20 row.length := by
            simp [HT.sIx]
          rw [e1, e2, List.drop_zero, Nat.sub_zero, ← List.map_take]
          congr 1
          rcases Nat.le_total 20 row.length with q | q
          · rw [Nat.min_eq_left q]
          · rw [Nat.min_eq_right q, List.take_of_length_le (Nat.le_refl _), List.take_of_length_le q]
        rw [e]
        exact z)
      refine st_set (Γ := G1) cut ?_
      have r2 : RowOk n (row.take 20) := hr.take
      have K2 : wlL (row.take 20) ≤ wlL ts := Nat.le_trans (wlL_take 20 row) hK
      have l2 : (row.take 20).length ≤ 20 := by rw [List.length_take]; omega
      generalize row.take 20 = rw2 at r2 K2 l2
      let G2 : Ga := [.pu (.lst (ts.map Tr.dat)), .pu (.lst (rw2.map Tr.dat)), s2, s3]
      have v1 : Ev (tpVar 1) G2 (.lst (rw2.map Tr.dat)) := ev_var rfl
      have rp := plainL_map fun t ht => ((r2.pt t ht).dep).1
      have rd := depL_map fun t ht => ((r2.pt t ht).dep).2
      have eq : Ev (tpOp fEq (tpVar 1) (tpLst tlNil)) G2 (.bl (decide (rw2 = []))) := ev_op v1 (ev_lst evl_nil (Nat.zero_le _)) fun k z => ⟨⟨rp, rfl, by show D.depL _ + 1 ≤ 64; omega, by show 1 ≤ 64; decide⟩, by
        cases rw2 with
        | nil => exact z
        | cons a l => exact z⟩
      by_cases he : rw2 = []
      · rw [decide_eq_true he] at eq
        refine st_ifT (Γ := G2) (evb_v eq) (st_ret (Γ := G2) (d := (Tr.dd []).dat) ?_ (h (.dd []) ⟨.dd (fun _ z => nomatch z) (by decide), fun d hd => ?_⟩ ?_))
        · rw [dat_eq]
          exact ev_tup (evl_2 (ev_c _) (ev_c _)) (by show 2 ≤ 100000; decide)
        · obtain ⟨d', rfl⟩ : ∃ d', d = d' + 1 := ⟨d - 1, by omega⟩
          rfl
        · have : wl (.dd []) = 2 := by unfold wl; rw [sc_dd]; rfl
          omega
      · rw [decide_eq_false he] at eq
        refine st_ifN (Γ := G2) (evb_v eq) ?_
        have ln : Ev (tp1 fLenS (tpVar 1)) G2 (.int (rw2.length : Nat)) := by
          have := ev_lenL v1
          rwa [List.length_map] at this
        by_cases h1 : rw2.length = 1
        · obtain ⟨x, rfl⟩ := List.length_eq_one_iff.mp h1
          refine st_ret (Γ := G2) (ev_ifT (evb_v (ev_eqIT ln (ev_c (.int 1)) rfl)) (ev_ixL v1 (ev_c (.int 0)) at0)) ?_
          refine h x ((r2.pt x List.mem_cons_self).mono (by omega)) ?_
          rw [wlL_cons] at K2
          omega
        · have l3 : 2 ≤ rw2.length := by
            have : rw2.length ≠ 0 := fun z => he (List.length_eq_zero_iff.mp z)
            omega
          refine st_ret (Γ := G2) (d := (Tr.th rw2).dat) (ev_ifF (evb_v (ev_eqIF ln (ev_c (.int 1)) (by omega))) ?_) (h (.th rw2) (r2.th l3 l2) (by rw [wl_th he]; exact K2))
          rw [dat_eq]
          exact ev_1 (ev_addL (ev_lst (evl_1 (ev_c (.str wTHE))) (by show 1 ≤ 100000; decide)) v1 (by rw [List.length_map]; show 1 + rw2.length ≤ sizeLine; omega)) fun k z => z
    -- the parts
    have outer : ∀ (rest done : List Tr) (row : List Tr) (s2 s3 : Sl), ts = done ++ rest → RowOk n row → row.length ≤ 20 * done.length → wlL row ≤ wlL done →
        forW (tgName 2) (tsFor (tiLst rowI) (tgName 3) rowB)
          { P0 with nx := rowT P0 } (rest.map Tr.dat) (Gr (ts.map Tr.dat) row s2 s3) := by
      intro rest
      induction rest with
      | nil =>
        intro done row s2 s3 e hr hl hK
        rw [List.append_nil] at e
        refine fin row s2 s3 hr ?_ (by rw [e]; exact hK)
        have : done.length ≤ 10 := by rw [← e]; exact hz
        omega
      | cons x rest ih =>
        intro done row s2 s3 e hr hl hK
        have hx : Pt n x := ht x (by rw [e]; exact List.mem_append_right _ List.mem_cons_self)
        have hd : done.length + 1 ≤ 10 := by
          have : (done ++ x :: rest).length ≤ 10 := by rw [← e]; exact hz
          rw [List.length_append, List.length_cons] at this
          omega
        have hw6 : wlL done + wl x ≤ 3000 := by
          rw [e, wlL_app, wlL_cons] at hw
          omega
        refine for_cons ?_
        let G1 : Ga := Gr (ts.map Tr.dat) row (.pu x.dat) s3
        have items : ∀ is : List Tr, (∀ t ∈ is, Pt n t ∧ t.isTh = false) → is.length ≤ 20 → wlL is ≤ wl x → Ev rowI G1 (.lst (is.map Tr.dat)) →
            ∀ P2 : PEn, (∀ row' s3, RowOk n row' → row'.length ≤ row.length + is.length → wlL row' ≤ wlL row + wlL is → P2.nx (Gr (ts.map Tr.dat) row' (.pu x.dat) s3)) → tsFor (tiLst rowI) (tgName 3) rowB P2 G1 := fun is hi hl2 hK2 ev P2 hk => by
          refine st_for1 (Γ := G1) (evl_tiLst ev) ?_
          have inner : ∀ (r2 d2 : List Tr) (row2 : List Tr) (s3 : Sl), is = d2 ++ r2 → RowOk n row2 → row2.length ≤ row.length + d2.length → wlL row2 ≤ wlL row + wlL d2 → ∀ P2 : PEn, (∀ row' s3, RowOk n row' → row'.length ≤ row.length + is.length → wlL row' ≤ wlL row + wlL is → P2.nx (Gr (ts.map Tr.dat) row' (.pu x.dat) s3)) →
              forW (tgName 3) rowB P2 (r2.map Tr.dat) (Gr (ts.map Tr.dat) row2 (.pu x.dat) s3) := by
            intro r2
            induction r2 with
            | nil =>
              intro d2 row2 s3 e2 h2 h3 h4 P2 hk
              rw [List.append_nil] at e2
              exact hk row2 s3 h2 (by rw [e2]; exact h3) (by rw [e2]; exact h4)
            | cons y r2 ih2 =>
              intro d2 row2 s3 e2 h2 h3 h4 P2 hk
              obtain ⟨hy, hyt⟩ := hi y (by rw [e2]; exact List.mem_append_right _ List.mem_cons_self)
              have hle : d2.length + 1 ≤ 20 := by
                have : (d2 ++ y :: r2).length ≤ 20 := by rw [← e2]; exact hl2
                rw [List.length_append, List.length_cons] at this
                omega
              have k6 : wlL d2 + wl y ≤ wl x := by
                have := hK2
                rw [e2, wlL_app, wlL_cons] at this
                omega
              refine for_cons (rowK_one (s2 := .pu x.dat) hn1 hn hy hyt h2 (by omega) (by omega) fun row' g1 g2 g3 => ?_)
              refine ih2 (d2 ++ [y]) row' _ (by rw [List.append_assoc]; exact e2) g1 (by rw [List.length_append, List.length_singleton]; omega) ?_ P2 hk
              rw [wlL_app, wlL_cons]
              show _ ≤ _ + (_ + (_ + 0))
              omega
          exact inner is [] row s3 rfl hr (by simp) (by show _ ≤ _ + 0; omega) P2 hk
        have next : ∀ is : List Tr, is.length ≤ 20 → wlL is ≤ wl x → ∀ row' s3, RowOk n row' → row'.length ≤ row.length + is.length → wlL row' ≤ wlL row + wlL is → forW (tgName 2) (tsFor (tiLst rowI) (tgName 3) rowB) { P0 with nx := rowT P0 } (rest.map Tr.dat) (Gr (ts.map Tr.dat) row' (.pu x.dat) s3) := fun is hl2 hK2 row' s3 g1 g2 g3 => by
          refine ih (done ++ [x]) row' (.pu x.dat) s3 (by rw [List.append_assoc]; exact e) g1 (by rw [List.length_append, List.length_singleton]; omega) ?_
          rw [wlL_app, wlL_cons]
          show _ ≤ _ + (_ + 0)
          omega
        by_cases hxt : x.isTh = true
        · cases x with
          | th ps =>
            obtain ⟨p20, pr⟩ := hx.parts
            have pne : ps ≠ [] := by
              cases hx.1 with
              | th a1 _ _ _ _ => intro z; rw [z] at a1; exact absurd a1 (by decide)
            have pw : wlL ps ≤ wl (.th ps) := by rw [wl_th pne]; exact Nat.le_refl _
            refine items ps (fun t ht => ⟨pr.pt t ht, (pr.nt t ht).1⟩) p20 pw (ev_ifT (evb_v (ev_isW (q := .th ps) (ev_var rfl) rfl rfl)) ?_) _ (next ps p20 pw)
            have v := ev_var (Γ := G1) (i := 2) (d := (Tr.th ps).dat) rfl
            rw [dat_eq] at v
            exact ev_1 (ev_tail v) fun k z => z
          | _ => cases hxt
        · have hxt : x.isTh = false := by simpa using hxt
          have hxw : decide (x.w = wTHE) = false := by rw [w_th]; exact hxt
          have w1 : wlL [x] ≤ wl x := by rw [wlL_cons]; exact Nat.le_refl _
          exact items [x] (fun t ht => by
            rw [List.mem_singleton.mp ht]
            exact ⟨hx, hxt⟩) (by show 1 ≤ 20; decide) w1 (ev_ifF (evb_v (ev_isW (q := x) (ev_var rfl) rfl hxw)) (ev_lst (evl_1 (ev_var rfl)) (by show 1 ≤ 100000; decide))) _ (next [x] (by show 1 ≤ 20; decide) w1)
    exact outer ts [] [] .un .un rfl ⟨fun _ z => (nomatch z), fun _ z => (nomatch z), fun i v w z => (by cases z)⟩ (Nat.zero_le _) (Nat.le_refl _)
end
end PL
set_option Elab.async false
set_option linter.all false
set_option maxRecDepth 100000
set_option maxHeartbeats 4000000
namespace PL
open PySem L2
structure NmOk (s : List Nat) : Prop where
  h1 : 1 ≤ s.length
  h2 : s.length ≤ 6
  h3 : ∀ c ∈ s, c ∈ CAP
theorem NmOk.pl {s : List Nat} (h : NmOk s) : D.plain (.str s) = true := TxOk.pl ⟨by have := h.h2; omega, fun c hc => (cap_ne (h.h3 c hc)).2.2.1⟩
abbrev wordsK : D := .lst [.str wTHE, .str wTIM, .str wEIT, .str wAGA]
def DrK (m : Nat) (t : Tr) : Prop := Pt m t ∧ wl t + 1 ≤ 3 ^ (m + 1)
def fsTreeK (n : Nat) : FS := fun ds k _ => match ds with
  | [.bag, .str al, .lst nl, .int d, w] => ∃ (ns : List (List Nat)) (m : Nat), (nl = ns.map .str ∧ d = (m : Nat) ∧ w = wordsK ∧ 1 ≤ m ∧ m ≤ n ∧ m ≤ 6 ∧ al ≠ [] ∧ al.length ≤ 26 ∧ (∀ c ∈ al, c ∈ LET) ∧ (∀ s ∈ ns, NmOk s) ∧ ns.length ≤ 100) ∧
      ∀ t, DrK m t → k t.dat
  | _ => False
theorem nine {m : Nat} (h : 1 ≤ m) : 9 ≤ 3 ^ (m + 1) := by
  have : 3 ^ 2 ≤ 3 ^ (m + 1) := Nat.pow_le_pow_right (by decide) (by omega)
  exact this
theorem drK_dd {w : List Nat} {m : Nat} (h : ∀ c ∈ w, c ∈ LET) (hz : w.length ≤ 6) (hm : 1 ≤ m) : DrK m (.dd w) := by
  refine ⟨⟨.dd h (by omega), fun d hd => ?_⟩, ?_⟩
  · obtain ⟨d', rfl⟩ : ∃ d', d = d' + 1 := ⟨d - 1, by omega⟩
    rfl
  · have := nine hm
    have : (scT (.dd w)).length ≤ 6 := by rw [sc_dd]; split <;> first | decide | exact hz
    unfold wl
    omega
theorem drK_nm {s : List Nat} {m : Nat} (h : NmOk s) (hm : 1 ≤ m) : DrK m (.nm s) := by
  refine ⟨⟨.nm h.h1 h.h2 h.h3, fun d hd => ?_⟩, ?_⟩
  · obtain ⟨d', rfl⟩ : ∃ d', d = d' + 1 := ⟨d - 1, by omega⟩
    rfl
  · have := nine hm
    have := h.h2
    unfold wl
    rw [sc_nm]
    omega
theorem wr_len2 (t : Tr) : (wrB t.isTh (scT t)).length ≤ (scT t).length + 2 := by
  unfold wrB
  split
  · simp
  · omega
theorem drK_ti {t : Tr} {m n : Nat} (h : DrK (m - 1) t) (hn : n ≤ 4) (hm : ¬ m < 2) : DrK m (.ti t n) := by
  have a := nine (m := m - 1) (by omega)
  have b := wr_len2 t
  have c := h.2
  have e : (TL.numL n).length = 1 := by rw [TL.numL_lt (by omega)]; rfl
  have pw : 3 ^ (m + 1) = 3 * 3 ^ (m - 1 + 1) := by
    rw [show m - 1 + 1 = m by omega, Nat.pow_succ, Nat.mul_comm]
  refine ⟨⟨.ti h.1.1 (Nat.le_trans hn (by decide)), fun d hd => ?_⟩, ?_⟩
  · obtain ⟨d', rfl⟩ : ∃ d', d = d' + 1 := ⟨d - 1, by omega⟩
    exact h.1.2 d' (by omega)
  · unfold wl at c ⊢
    rw [sc_ti, List.length_append, List.length_cons, e]
    omega
theorem drK_ag {t : Tr} {m : Nat} (h : DrK (m - 1) t) (hm : ¬ m < 2) : DrK m (.ag t) := by
  have a := nine (m := m - 1) (by omega)
  have b := wr_len2 t
  have c := h.2
  have pw : 3 ^ (m + 1) = 3 * 3 ^ (m - 1 + 1) := by
    rw [show m - 1 + 1 = m by omega, Nat.pow_succ, Nat.mul_comm]
  refine ⟨⟨.ag h.1.1, fun d hd => ?_⟩, ?_⟩
  · obtain ⟨d', rfl⟩ : ∃ d', d = d' + 1 := ⟨d - 1, by omega⟩
    exact h.1.2 d' (by omega)
  · unfold wl at c ⊢
    rw [sc_ag, List.length_append]
    show _ + 2 + 1 + 1 ≤ _
    omega
theorem pt_ei {n : Nat} {ps : List Tr} (h : ∀ t ∈ ps, Pt n t) (h2 : 2 ≤ ps.length) (h20 : ps.length ≤ 20) : Pt (n + 1) (.ei ps) := ⟨.ei h2 (by omega) (fun p hp => (h p hp).1), fun d hd => by
  obtain ⟨d', rfl⟩ : ∃ d', d = d' + 1 := ⟨d - 1, by omega⟩
  show (decide (ps.length ≤ 20) && ps.all (isB d')) = true
  rw [decide_eq_true h20, Bool.true_and, List.all_eq_true]
  exact fun p hp => (h p hp).2 d' (by omega)⟩
theorem wl_ei {ps : List Tr} (h : ps ≠ []) : wl (.ei ps) = wlL ps + 2 := by
  unfold wl
  rw [wlL_scS 124, sc_ei, List.length_cons, List.length_append, List.length_tail]
  cases ps with
  | nil => exact absurd rfl h
  | cons t r => rw [scS_cons, List.length_cons]; show _ + 1 + 1 + 1 = _; omega
theorem wlL_dr {m : Nat} {ts : List Tr} (h3 : ts.length ≤ 3) (h : ∀ t ∈ ts, DrK m t) : wlL ts + 3 ≤ 3 * 3 ^ (m + 1) := by
  have key : ∀ l : List Tr, (∀ t ∈ l, DrK m t) → wlL l + l.length ≤ l.length * 3 ^ (m + 1) := fun l => by
    induction l with
    | nil => exact fun _ => by rw [List.length_nil, Nat.zero_mul]; exact Nat.le_refl _
    | cons x r ih =>
      intro hh
      have a := (hh x List.mem_cons_self).2
      have b := ih fun t ht => hh t (List.mem_cons_of_mem _ ht)
      rw [wlL_cons, List.length_cons, Nat.add_mul, Nat.one_mul]
      omega
  have k := key ts h
  have p : 1 ≤ 3 ^ (m + 1) := Nat.one_le_pow _ _ (by decide)
  match hl : ts.length, h3, k with
  | 0, _, k => omega
  | 1, _, k => omega
  | 2, _, k => omega
  | 3, _, k => omega
section
variable {ds : List D} {kd : KD} {ko : D → D → Prop} {kx : KX} {Γ : Ga} {t ta tb tc : TP} {tl : TL} {d e c c0 : D} {n i j : Nat} {P : PEn} {u v : List Nat} {s r : TSp} {cb : TB} {env : Env} {q : Tr} {b : Bool} {al : List Nat} {ns : List (List Nat)}
local instance : Tabl := ⟨[], fun p hp => absurd hp (by simp)⟩
theorem treeK_ok' : fsTreeK (n + 1) ds kd kx → mk_law_tree fsPick fsDrawn (fsTreeK n) fsPull fsRowK ds kd kx := by
  intro h0
  match ds, h0 with
  | [.bag, .str al, .lst nl, .int d, w], h0 =>
    obtain ⟨ns, m, ⟨rfl, rfl, rfl, m1, mn, m4, a0, a26, hal, hnm, hnl⟩, h⟩ := h0
    have hns : ∀ s ∈ ns, D.plain (.str s) = true := fun s hs => (hnm s hs).pl
    have big : 3000 ≤ sizeLine := by decide
    let G : Ga := [.pu .bag, .pu (.str al), .pu (.lst (ns.map .str)), .pu (.int (m : Nat)), .pu wordsK, .un, .un, .un, .un]
    have ws : Ev (tpOp fAdd (tpLst (tlCons (tpC (.str [100, 101, 101, 100, 115])) (tlCons (tpC (.str [110, 97, 109, 101])) (tlCons (tpC (.str [116, 104, 101, 110])) tlNil)))) (tpVar 4)) G (.lst ([.str DDS, .str wNAM, .str wTHE] ++ [.str wTHE, .str wTIM, .str wEIT, .str wAGA])) := ev_addL (ev_lst (evl_3 (ev_c _) (ev_c _) (ev_c _)) (by show 3 ≤ 100000; decide)) (ev_var rfl) (by show 7 ≤ sizeLine; omega)
    refine st_setN (Γ := G) (evn_pick (ev_var rfl) ws (by simp) (by show 7 ≤ 100000; decide)) fun dw hw => ?_
    have hw : ∃ x, dw = .str x ∧ (x ∈ [DDS, wNAM, wTHE, wTIM, wEIT, wAGA]) := by
      simp only [List.mem_append, List.mem_cons, List.not_mem_nil, or_false] at hw
      rcases hw with (rfl | rfl | rfl) | rfl | rfl | rfl | rfl <;> exact ⟨_, rfl, by simp⟩
    obtain ⟨x, rfl, hx⟩ := hw
    have xp : D.plain (.str x) = true := by
      simp only [List.mem_cons, List.not_mem_nil, or_false] at hx
      rcases hx with rfl | rfl | rfl | rfl | rfl | rfl <;> rfl
    let G1 (s6 s7 : Sl) : Ga := [.pu .bag, .pu (.str al), .pu (.lst (ns.map .str)), .pu (.int (m : Nat)), .pu wordsK, .pu (.str x), s6, s7, .un]
    have isx : ∀ {s6 s7 y b}, D.plain (.str y) = true → decide (x = y) = b → EvB (tbV (tpOp fEq (tpVar 5) (tpC (.str y)))) (G1 s6 s7) b := fun {s6 s7 y b} hy e => by
      have := ev_eqS (Γ := G1 s6 s7) (ta := tpVar 5) (ev_var rfl) (ev_c (.str y)) xp hy
      rw [e] at this
      exact evb_v this
    have hne : ∀ s6 s7, EvB (tbV (tpOp fNe (tpVar 2) (tpLst tlNil))) (G1 s6 s7) (!decide (ns = [])) := fun s6 s7 => evb_v (names_neq (ev_var rfl) hns)
    -- a leaf: deeds
    have leafD : (x = wNAM → ns = []) → tsRet (tpIf (tbAnd (tbV (tpOp fEq (tpVar 5) (tpC (.str [110, 97, 109, 101])))) (tbV (tpOp fNe (tpVar 2) (tpLst tlNil)))) (tpTup (tlCons (tpC (.str [110, 97, 109, 101])) (tlCons (tpCall 2 fsPick (tlCons (tpVar 0) (tlCons (tpVar 2) tlNil))) tlNil))) (tpTup (tlCons (tpC (.str [100, 101, 101, 100, 115])) (tlCons (tpCall 3 fsDrawn (tlCons (tpVar 0) (tlCons (tpVar 1) (tlCons (tpC (.int 6)) tlNil)))) tlNil)))) (fEnds kd kx) (G1 .un .un) := fun hc => by
      have cond : EvB (tbAnd (tbV (tpOp fEq (tpVar 5) (tpC (.str [110, 97, 109, 101])))) (tbV (tpOp fNe (tpVar 2) (tpLst tlNil)))) (G1 .un .un) false := by
        by_cases e : x = wNAM
        · have := hne .un .un
          rw [decide_eq_true (hc e)] at this
          exact evb_andT (isx rfl (decide_eq_true e)) this
        · exact evb_andF (isx rfl (decide_eq_false e))
      have dr : EvN (tpCall 3 fsDrawn (tlCons (tpVar 0) (tlCons (tpVar 1) (tlCons (tpC (.int 6)) tlNil)))) (G1 .un .un) (fun d => ∃ w : List Nat, (w.length ≤ 6 ∧ ∀ c ∈ w, c ∈ al) ∧ d = .str w) := evn_call (evnl (evl_3 (ev_var (d := .bag) rfl) (ev_var (d := .str al) rfl) (ev_c _))) fun ds hd => by
        subst hd
        exact ⟨rfl, fun k kx z => ⟨⟨a0, by omega, plain_of hal, by decide, by decide⟩, fun w h1 h2 => z _ ⟨w, ⟨h1, h2⟩, rfl⟩⟩⟩
      have tp : EvN (tpTup (tlCons (tpC (.str [100, 101, 101, 100, 115])) (tlCons (tpCall 3 fsDrawn (tlCons (tpVar 0) (tlCons (tpVar 1) (tlCons (tpC (.int 6)) tlNil)))) tlNil))) (G1 .un .un) (fun d => ∃ w : List Nat, (w.length ≤ 6 ∧ ∀ c ∈ w, c ∈ al) ∧ d = (Tr.dd w).dat) := evn_imp (evn_tup (evnl_cons (evn (ev_c _)) (evnl_cons dr evnl_nil)) fun ds ⟨_, _, _, ⟨_, _, _, e1, e2⟩, e3⟩ => by
        rw [e3, e2, e1]
        show 2 ≤ 100000
        decide) fun d ⟨ds, ⟨_, _, e0, ⟨_, _, ⟨w, hw, e4⟩, e1, e2⟩, e3⟩, e5⟩ => ⟨w, hw, by rw [e5, e3, e2, e1, e4, e0, dat_eq]; rfl⟩
      refine st_retN (Γ := G1 .un .un) (evn_ifF cond tp) fun d ⟨w, ⟨w1, w2⟩, e⟩ => ?_
      subst e
      exact h (.dd w) (drK_dd (fun c hc => hal c (w2 c hc)) w1 m1)
    have leafN : x = wNAM → ns ≠ [] → tsRet (tpIf (tbAnd (tbV (tpOp fEq (tpVar 5) (tpC (.str [110, 97, 109, 101])))) (tbV (tpOp fNe (tpVar 2) (tpLst tlNil)))) (tpTup (tlCons (tpC (.str [110, 97, 109, 101])) (tlCons (tpCall 2 fsPick (tlCons (tpVar 0) (tlCons (tpVar 2) tlNil))) tlNil))) (tpTup (tlCons (tpC (.str [100, 101, 101, 100, 115])) (tlCons (tpCall 3 fsDrawn (tlCons (tpVar 0) (tlCons (tpVar 1) (tlCons (tpC (.int 6)) tlNil)))) tlNil)))) (fEnds kd kx) (G1 .un .un) := fun e1 e2 => by
      have cond : EvB (tbAnd (tbV (tpOp fEq (tpVar 5) (tpC (.str [110, 97, 109, 101])))) (tbV (tpOp fNe (tpVar 2) (tpLst tlNil)))) (G1 .un .un) true := by
        have := hne .un .un
        rw [decide_eq_false e2] at this
        exact evb_andT (isx rfl (decide_eq_true e1)) this
      have pk : EvN (tpCall 2 fsPick (tlCons (tpVar 0) (tlCons (tpVar 2) tlNil))) (G1 .un .un) (· ∈ ns.map D.str) := evn_pick (ev_var rfl) (ev_var rfl) (by simpa using e2) (by rw [List.length_map]; omega)
      have tp : EvN (tpTup (tlCons (tpC (.str [110, 97, 109, 101])) (tlCons (tpCall 2 fsPick (tlCons (tpVar 0) (tlCons (tpVar 2) tlNil))) tlNil))) (G1 .un .un) (fun d => ∃ s, s ∈ ns ∧ d = (Tr.nm s).dat) := evn_imp (evn_tup (evnl_cons (evn (ev_c _)) (evnl_cons pk evnl_nil)) fun ds ⟨_, _, _, ⟨_, _, _, e1, e2⟩, e3⟩ => by
        rw [e3, e2, e1]
        show 2 ≤ 100000
        decide) fun d ⟨ds, ⟨_, _, e0, ⟨_, _, hm, e1, e2⟩, e3⟩, e5⟩ => by
          obtain ⟨s, hs, e4⟩ := List.mem_map.mp hm
          exact ⟨s, hs, by rw [e5, e3, e2, e1, ← e4, e0, dat_eq]; rfl⟩
      refine st_retN (Γ := G1 .un .un) (evn_ifT cond tp) fun d ⟨s, hs, e⟩ => ?_
      subst e
      exact h (.nm s) (drK_nm (hnm s hs) m1)
    have ltm : EvB (tbV (tpOp fLt (tpVar 3) (tpC (.int 2)))) (G1 .un .un) (decide (m < 2)) := by
      have := ev_ltI (Γ := G1 .un .un) (ev_var (i := 3) (d := .int (m : Nat)) rfl) (ev_c (.int 2))
      rw [show decide (((m : Nat) : Int) < 2) = decide (m < 2) from decide_eq_decide.mpr (by omega)] at this
      exact evb_v this
    have leaf : (m < 2 ∨ x = DDS ∨ x = wNAM ∧ ns ≠ []) → EvB (tbOr (tbV (tpOp fLt (tpVar 3) (tpC (.int 2)))) (tbOr (tbV (tpOp fEq (tpVar 5) (tpC (.str [100, 101, 101, 100, 115])))) (tbAnd (tbV (tpOp fEq (tpVar 5) (tpC (.str [110, 97, 109, 101])))) (tbV (tpOp fNe (tpVar 2) (tpLst tlNil)))))) (G1 .un .un) true := fun hc => by
      by_cases e1 : m < 2
      · rw [decide_eq_true e1] at ltm
        exact evb_orT ltm
      · rw [decide_eq_false e1] at ltm
        by_cases e2 : x = DDS
        · exact evb_orF ltm (evb_orT (isx rfl (decide_eq_true e2)))
        · obtain ⟨e3, e4⟩ := (hc.resolve_left e1).resolve_left e2
          have := hne .un .un
          rw [decide_eq_false e4] at this
          exact evb_orF ltm (evb_orF (isx rfl (decide_eq_false e2)) (evb_andT (isx rfl (decide_eq_true e3)) this))
    by_cases hl : m < 2 ∨ x = DDS ∨ x = wNAM ∧ ns ≠ []
    · refine st_ifT (Γ := G1 .un .un) (leaf hl) ?_
      by_cases e : x = wNAM ∧ ns ≠ []
      · exact leafN e.1 e.2
      · exact leafD fun e1 => Classical.byContradiction fun e2 => e ⟨e1, e2⟩
    · have hm2 : ¬ m < 2 := fun z => hl (.inl z)
      have hxd : x ≠ DDS := fun z => hl (.inr (.inl z))
      have hxn : ¬ (x = wNAM ∧ ns ≠ []) := fun z => hl (.inr (.inr z))
      have cond : EvB (tbOr (tbV (tpOp fLt (tpVar 3) (tpC (.int 2)))) (tbOr (tbV (tpOp fEq (tpVar 5) (tpC (.str [100, 101, 101, 100, 115])))) (tbAnd (tbV (tpOp fEq (tpVar 5) (tpC (.str [110, 97, 109, 101])))) (tbV (tpOp fNe (tpVar 2) (tpLst tlNil)))))) (G1 .un .un) false := by
        rw [decide_eq_false hm2] at ltm
        refine evb_orF ltm (evb_orF (isx rfl (decide_eq_false hxd)) ?_)
        by_cases e : x = wNAM
        · have := hne .un .un
          rw [decide_eq_true (Classical.byContradiction fun z => hxn ⟨e, z⟩)] at this
          exact evb_andT (isx rfl (decide_eq_true e)) this
        · exact evb_andF (isx rfl (decide_eq_false e))
      refine st_ifN (Γ := G1 .un .un) cond ?_
      have recur : ∀ {Γ : Ga}, gat Γ 0 = .pu .bag → gat Γ 1 = .pu (.str al) → gat Γ 2 = .pu (.lst (ns.map .str)) → gat Γ 3 = .pu (.int (m : Nat)) → gat Γ 4 = .pu wordsK → EvN (tpCall 5 (fsTreeK n) (tlCons (tpVar 0) (tlCons (tpVar 1) (tlCons (tpVar 2) (tlCons (tpOp fSub (tpVar 3) (tpC (.int 1))) (tlCons (tpVar 4) tlNil)))))) Γ (fun d => ∃ t, DrK (m - 1) t ∧ d = t.dat) := fun g0 g1 g2 g3 g4 =>
        evn_call (evnl (evl_cons (ev_var g0) (evl_cons (ev_var g1) (evl_3 (ev_var g2) (ev_subI (ev_var g3) (ev_c (.int 1))) (ev_var g4))))) fun ds hd => by
          subst hd
          exact ⟨rfl, fun k kx z => ⟨ns, m - 1, ⟨rfl, by omega, rfl, by omega, by omega, by omega, a0, a26, hal, hnm, hnl⟩, fun t ht => z _ ⟨t, ht, rfl⟩⟩⟩
      refine st_setN (Γ := G1 .un .un) (recur rfl rfl rfl rfl rfl) fun _ ⟨t, ht, e⟩ => ?_
      subst e
      let G2 (s7 : Sl) : Ga := G1 (.pu t.dat) s7
      by_cases ht1 : x = wTIM
      · refine st_ifT (Γ := G2 .un) (isx rfl (decide_eq_true ht1)) ?_
        have cnt : EvN (tpCall 2 fsPick (tlCons (tpVar 0) (tlCons (tpLst (tlCons (tpC (.int 0)) (tlCons (tpC (.int 1)) (tlCons (tpC (.int 2)) (tlCons (tpC (.int 3)) (tlCons (tpOp fAdd (tpC (.int 2)) (tpCall 2 fsPull (tlCons (tpVar 0) (tlCons (tpC (.int 3)) tlNil)))) tlNil)))))) tlNil))) (G2 .un) (fun d => ∃ n : Nat, n ≤ 4 ∧ d = .int (n : Nat)) := by
          have p2 : EvN (tpOp fAdd (tpC (.int 2)) (tpCall 2 fsPull (tlCons (tpVar 0) (tlCons (tpC (.int 3)) tlNil)))) (G2 .un) (fun d => ∃ n : Nat, n ≤ 4 ∧ d = .int (n : Nat)) := evn_op (evn (ev_c (.int 2))) (evn_pull (ev_var rfl) (ev_c (.int 3)) (by decide) (by decide)) fun x y hx ⟨r, r0, r1, hy⟩ kk z => by
            subst hx hy
            exact z _ ⟨(2 + r).toNat, by omega, by congr 1; omega⟩
          refine evn_pickN (ev_var rfl) (evn_lst (evnl_cons (evn (ev_c (.int 0))) (evnl_cons (evn (ev_c (.int 1))) (evnl_cons (evn (ev_c (.int 2))) (evnl_cons (evn (ev_c (.int 3))) (evnl_cons p2 evnl_nil))))) fun ds hd => ?_) fun d hd => ?_
          · obtain ⟨_, _, _, ⟨_, _, _, ⟨_, _, _, ⟨_, _, _, ⟨_, _, _, rfl, rfl⟩, rfl⟩, rfl⟩, rfl⟩, rfl⟩ := hd
            show 5 ≤ 100000
            decide
          · obtain ⟨_, ⟨_, _, rfl, ⟨_, _, rfl, ⟨_, _, rfl, ⟨_, _, rfl, ⟨_, _, h1, rfl, rfl⟩, rfl⟩, rfl⟩, rfl⟩, rfl⟩, rfl⟩ := hd
            refine ⟨_, rfl, by simp, by show 5 ≤ 100000; decide, fun y hy => ?_⟩
            simp only [List.mem_cons, List.not_mem_nil, or_false] at hy
            rcases hy with rfl | rfl | rfl | rfl | rfl
            · exact ⟨0, by decide, rfl⟩
            · exact ⟨1, by decide, rfl⟩
            · exact ⟨2, by decide, rfl⟩
            · exact ⟨3, by decide, rfl⟩
            · exact h1
        have tp := evn_tup (evnl_cons (evn (ev_c (Γ := G2 .un) (.str wTIM))) (evnl_cons (evn (ev_var (Γ := G2 .un) (i := 6) (d := t.dat) rfl)) (evnl_cons cnt evnl_nil))) fun ds ⟨_, _, _, ⟨_, _, _, ⟨_, _, _, e1, e2⟩, e3⟩, e4⟩ => by
          rw [e4, e3, e2, e1]
          show 3 ≤ 100000
          decide
        refine st_retN (Γ := G2 .un) tp fun d ⟨ds, ⟨_, _, e0, ⟨_, _, e1, ⟨_, _, ⟨c, hc, e5⟩, e6, e7⟩, e8⟩, e9⟩, e10⟩ => ?_
        have ed : d = (Tr.ti t c).dat := by rw [e10, e9, e8, e7, e6, e5, e1, e0, dat_eq (Tr.ti t c)]; rfl
        rw [ed]
        exact h (.ti t c) (drK_ti ht hc hm2)
      · refine st_ifN (Γ := G2 .un) (isx rfl (decide_eq_false ht1)) ?_
        by_cases ht2 : x = wAGA
        · refine st_ifT (Γ := G2 .un) (isx rfl (decide_eq_true ht2)) ?_
          refine st_ret (Γ := G2 .un) (d := (Tr.ag t).dat) ?_ (h (.ag t) (drK_ag ht hm2))
          rw [dat_eq (.ag t)]
          exact ev_tup (evl_2 (ev_c _) (ev_var (i := 6) rfl)) (by show 2 ≤ 100000; decide)
        refine st_ifN (Γ := G2 .un) (isx rfl (decide_eq_false ht2)) ?_
        have rg : EvNL (tiRng1 (tlCons (tpOp fAdd (tpC (.int 1)) (tpCall 2 fsPull (tlCons (tpVar 0) (tlCons (tpC (.int 2)) tlNil)))) tlNil)) (G2 .un) (fun ds => 1 ≤ ds.length ∧ ds.length ≤ 2) := fun kk kx z => evn_1p (Γ := G2 .un) (tb := tpVar 0) (k := 2) (ev_var rfl) (by decide) _ _ fun d ⟨n, hn, e⟩ => by
          subst e
          refine (evl_rg1 (Γ := G2 .un) (ta := tpC (.int (n : Nat))) (ev_c _) (by omega)) kk kx (z _ ?_)
          show 1 ≤ (natsD 0 n).length ∧ (natsD 0 n).length ≤ 2
          unfold natsD
          rw [List.length_map, List.length_range']
          omega
        have lc := evn_lc (is := [8]) (i := 8) (B := fun d => ∃ t, DrK (m - 1) t ∧ d = t.dat) rg (fun ds hd => by omega) fun x => recur (Γ := gset (wipeG (G2 .un) [8]) 8 (.pu x)) rfl rfl rfl rfl rfl
        have ex : ∀ ys : List D, (∀ y ∈ ys, ∃ t, DrK (m - 1) t ∧ y = t.dat) → ∃ ts : List Tr, (∀ t ∈ ts, DrK (m - 1) t) ∧ ys = ts.map Tr.dat := fun ys => by
          induction ys with
          | nil => exact fun _ => ⟨[], fun _ z => (nomatch z), rfl⟩
          | cons y r ih =>
            intro h
            obtain ⟨u, h1, h2⟩ := ih fun z hz => h z (List.mem_cons_of_mem _ hz)
            obtain ⟨c, h3, h4⟩ := h y List.mem_cons_self
            refine ⟨c :: u, fun d hd => ?_, by rw [h4, h2]; rfl⟩
            rcases List.mem_cons.mp hd with rfl | hd
            · exact h3
            · exact h1 d hd
        have parts : EvN (tpOp fAdd (tpLst (tlCons (tpVar 6) tlNil)) (tpLc [8] (tiRng1 (tlCons (tpOp fAdd (tpC (.int 1)) (tpCall 2 fsPull (tlCons (tpVar 0) (tlCons (tpC (.int 2)) tlNil)))) tlNil)) (tgName 8) tbYes (tpCall 5 (fsTreeK n) (tlCons (tpVar 0) (tlCons (tpVar 1) (tlCons (tpVar 2) (tlCons (tpOp fSub (tpVar 3) (tpC (.int 1))) (tlCons (tpVar 4) tlNil)))))))) (G2 .un) (fun d => ∃ ts : List Tr, (2 ≤ ts.length ∧ ts.length ≤ 3 ∧ ∀ t ∈ ts, DrK (m - 1) t) ∧ d = .lst (ts.map Tr.dat)) := evn_op (evn (ev_lst (evl_1 (ev_var (Γ := G2 .un) (i := 6) (d := t.dat) rfl)) (by show 1 ≤ 100000; decide))) lc fun x y hx ⟨items, ys, hi, hy, hB, ey⟩ k z => by
          obtain ⟨ts, h1, h2⟩ := ex ys hB
          have lt : 1 ≤ ts.length ∧ ts.length ≤ 2 := by
            have : ys.length = ts.length := by rw [h2, List.length_map]
            omega
          subst hx ey
          rw [h2]
          refine ⟨by rw [List.length_map]; show 1 + ts.length ≤ sizeLine; omega, z _ ⟨t :: ts, ⟨by rw [List.length_cons]; omega, by rw [List.length_cons]; omega, fun u hu => ?_⟩, rfl⟩⟩
          rcases List.mem_cons.mp hu with rfl | hu
          · exact ht
          · exact h1 u hu
        refine st_setN (Γ := G2 .un) parts fun _ ⟨ts, ⟨l2, l3, hts⟩, e⟩ => ?_
        subst e
        let G3 : Ga := G2 (.pu (.lst (ts.map Tr.dat)))
        have pts : ∀ t ∈ ts, Pt (m - 1) t := fun t ht => (hts t ht).1
        have sw := wlL_dr l3 hts
        have pw : 3 ^ (m + 1) = 3 * 3 ^ (m - 1 + 1) := by
          rw [show m - 1 + 1 = m by omega, Nat.pow_succ, Nat.mul_comm]
        have v7 : Ev (tpVar 7) G3 (.lst (ts.map Tr.dat)) := ev_var rfl
        by_cases he : x = wEIT
        · refine st_ret (Γ := G3) (d := (Tr.ei ts).dat) (ev_ifT (isx (s6 := .pu t.dat) (s7 := .pu (.lst (ts.map Tr.dat))) rfl (decide_eq_true he)) ?_) (h (.ei ts) ⟨?_, ?_⟩)
          · rw [dat_eq (.ei ts)]
            exact ev_1 (ev_addL (ev_lst (evl_1 (ev_c (.str wEIT))) (by show 1 ≤ 100000; decide)) v7 (by rw [List.length_map]; show 1 + ts.length ≤ sizeLine; omega)) fun k z => z
          · exact (show m = m - 1 + 1 by omega) ▸ pt_ei pts l2 (by omega)
          · have : wl (.ei ts) = wlL ts + 2 := wl_ei (by intro z; rw [z] at l2; exact absurd l2 (by decide))
            omega
        · have row : EvN (tpCall 1 fsRowK (tlCons (tpVar 7) tlNil)) G3 (fun d => ∃ t, DrK m t ∧ d = t.dat) := evn_call (evnl (evl_1 v7)) fun ds hd => by
            subst hd
            refine ⟨rfl, fun k kx z => ⟨m - 1, ts, ⟨rfl, by intro z; rw [z] at l2; exact absurd l2 (by decide), by omega, by omega, pts, by omega, ?_⟩, fun t h1 h2 => z _ ⟨t, ⟨(show m = m - 1 + 1 by omega) ▸ h1, ?_⟩, rfl⟩⟩⟩
            · have : 3 ^ (m - 1 + 1) ≤ 3 ^ 6 := Nat.pow_le_pow_right (by decide) (by omega)
              have : (3 : Nat) ^ 6 = 729 := by decide
              omega
            · omega
          refine st_retN (Γ := G3) (evn_ifF (isx (s6 := .pu t.dat) (s7 := .pu (.lst (ts.map Tr.dat))) rfl (decide_eq_false he)) row) fun d ⟨t, ht, e⟩ => ?_
          subst e
          exact h t ht
end
end PL
set_option Elab.async false
set_option linter.all false
set_option maxRecDepth 100000
set_option maxHeartbeats 4000000
namespace PL
open PySem L2
section
variable {ds : List D} {kd : KD} {ko : D → D → Prop} {kx : KX} {Γ : Ga} {t ta tb tc : TP} {tl : TL} {d e c c0 : D} {n i j : Nat} {P : PEn} {u v : List Nat} {s r : TSp} {cb : TB} {env : Env} {q : Tr} {b : Bool} {al : List Nat} {ns : List (List Nat)}
local instance : Tabl := ⟨[], fun p hp => absurd hp (by simp)⟩
theorem evn_pullW {m : Int} (h : Ev tb Γ .bag) (g : Ev t Γ (.int m)) (m1 : 1 ≤ m) (m2 : m < 2 ^ 900) : EvN (tpCall 2 fsPullW (tlCons tb (tlCons t tlNil))) Γ (fun d => ∃ r : Nat, (r : Int) < m ∧ d = .int (r : Nat)) := evn_call (evnl (evl_2 h g)) fun ds e => by
  subst e
  exact ⟨rfl, fun k kx z => ⟨⟨m1, m2⟩, fun r r0 r1 => z _ ⟨r.toNat, by omega, by congr 1; omega⟩⟩⟩
theorem WorldOk.snoc {cb : Nat} {s : List Nat} {t : Tr} (h : WorldOk al cb env) (hn : s ∉ env.map (·.1)) (hp : D.plain (.str s) = true) (ht : TrD al (env.map (·.1)) cb 3 t) (hw : ∀ K, 6 ≤ K → wt K t ≤ K * 9) : WorldOk al cb (env ++ [(s, t)]) := by
  refine ⟨?_, fun q hq => ?_, fun i q hq => ?_⟩
  · rw [List.map_append, List.nodup_append]
    refine ⟨h.1, by simp, fun a ha b hb z => ?_⟩
    obtain rfl : b = s := by simpa using hb
    exact hn (by rw [← z]; exact ha)
  · rcases List.mem_append.mp hq with hq | hq
    · exact h.2.1 q hq
    · have : q = (s, t) := by simpa using hq
      rw [this]
      exact hp
  · rcases Nat.lt_trichotomy i env.length with hi | hi | hi
    · rw [List.getElem?_append_left hi] at hq
      rw [List.take_append_of_le_length (Nat.le_of_lt hi)]
      exact h.2.2 i q hq
    · subst hi
      rw [List.getElem?_append_right (Nat.le_refl _), Nat.sub_self] at hq
      cases hq
      rw [List.take_append_of_le_length (Nat.le_refl _), List.take_length]
      exact ⟨ht, hw⟩
    · rw [List.getElem?_eq_none (by rw [List.length_append, List.length_singleton]; omega)] at hq
      cases hq
theorem WorldOk.nil {cb : Nat} : WorldOk al cb [] := ⟨List.nodup_nil, fun _ z => (nomatch z), fun i q h => (nomatch (show none = some q from h))⟩
theorem st_app1 {es : List D} (hc : (gat Γ i).og = some (.lst es)) (h : Ev t Γ d) (hl : es.length < 100000) (g : P.nx (oput Γ i (.lst (es ++ [d])))) : tsApp i t P Γ := by
  show onOL Γ i _
  unfold onOL
  rw [hc]
  exact h _ _ ⟨hl, g⟩
end
end PL
set_option Elab.async false
set_option linter.all false
set_option maxRecDepth 100000
set_option maxHeartbeats 4000000
namespace PL
open PySem L2
def uniN (a b : List (List Nat)) : List (List Nat) := a ++ b.filter fun s => !decide (s ∈ a)
mutual
def nmT : Tr → List (List Nat)
  | .dd _ => []
  | .nm s => [s]
  | .th ps => nmTL [] ps
  | .ei ps => nmTL [] ps
  | .ti t _ => uniN [] (nmT t)
  | .ag t => uniN [] (nmT t)
def nmTL (acc : List (List Nat)) : List Tr → List (List Nat)
  | [] => acc
  | t :: r => nmTL (uniN acc (nmT t)) r
end
theorem nmTL_nil (acc : List (List Nat)) : nmTL acc [] = acc := by rw [nmTL]
theorem nmTL_cons (acc : List (List Nat)) (t : Tr) (r : List Tr) : nmTL acc (t :: r) = nmTL (uniN acc (nmT t)) r := by rw [nmTL]
theorem nmT_kids {t : Tr} (h : t.w ≠ wNAM) : nmT t = nmTL [] t.kids := by
  cases t with
  | nm s => exact absurd rfl h
  | dd v => rw [nmT]; exact (nmTL_nil []).symm
  | th ps => rw [nmT]; rfl
  | ei ps => rw [nmT]; rfl
  | ti t n => rw [nmT]; show _ = nmTL [] [t]; rw [nmTL_cons, nmTL_nil]
  | ag t => rw [nmT]; show _ = nmTL [] [t]; rw [nmTL_cons, nmTL_nil]
theorem uniN_nil (a : List (List Nat)) : uniN a [] = a := List.append_nil a
theorem nil_uniN (b : List (List Nat)) : uniN [] b = b := by
  unfold uniN
  rw [List.nil_append, List.filter_eq_self]
  intro s _
  rfl
theorem uniN_assoc (a b c : List (List Nat)) : uniN (uniN a b) c = uniN a (uniN b c) := by
  unfold uniN
  rw [List.filter_append, List.append_assoc, List.filter_filter]
  congr 2
  refine List.filter_congr fun s _ => ?_
  by_cases h1 : s ∈ a
  · have : s ∈ a ++ b.filter fun s => !decide (s ∈ a) := List.mem_append_left _ h1
    rw [decide_eq_true this, decide_eq_true h1]
    rfl
  · by_cases h2 : s ∈ b
    · have : s ∈ a ++ b.filter fun s => !decide (s ∈ a) := List.mem_append_right _ (List.mem_filter.mpr ⟨h2, by rw [decide_eq_false h1]; rfl⟩)
      rw [decide_eq_true this, decide_eq_false h1, decide_eq_true h2]
      rfl
    · have : s ∉ a ++ b.filter fun s => !decide (s ∈ a) := fun z => (List.mem_append.mp z).elim h1 fun z => h2 (List.mem_filter.mp z).1
      rw [decide_eq_false this, decide_eq_false h1, decide_eq_false h2]
      rfl
theorem nmTL_acc : ∀ (ks : List Tr) (acc : List (List Nat)), nmTL acc ks = uniN acc (nmTL [] ks)
  | [], acc => by rw [nmTL_nil, nmTL_nil, uniN_nil]
  | t :: r, acc => by rw [nmTL_cons, nmTL_cons, nmTL_acc r, nmTL_acc r (uniN [] _), nil_uniN, uniN_assoc]
theorem uniN_mem {a b : List (List Nat)} {s : List Nat} (h : s ∈ uniN a b) : s ∈ a ∨ s ∈ b := (List.mem_append.mp h).imp_right fun z => (List.mem_filter.mp z).1
theorem uniN_len (a b : List (List Nat)) : (uniN a b).length ≤ a.length + b.length := by
  unfold uniN
  rw [List.length_append]
  have := List.length_filter_le (fun s => !decide (s ∈ a)) b
  omega
theorem nmTL_ok : ∀ {ps : List Tr} {acc : List (List Nat)}, (∀ s ∈ acc, NmOk s) → (∀ p ∈ ps, ∀ s ∈ nmT p, NmOk s) → ∀ s ∈ nmTL acc ps, NmOk s
  | [], acc, ha, _, s, hs => by rw [nmTL_nil] at hs; exact ha s hs
  | p :: r, acc, ha, h, s, hs => by
    rw [nmTL_cons] at hs
    exact nmTL_ok (fun s hs => (uniN_mem hs).elim (ha s) (h p List.mem_cons_self s)) (fun q hq => h q (List.mem_cons_of_mem _ hq)) s hs
theorem nmT_ok {t : Tr} (h : OkT t) : ∀ s ∈ nmT t, NmOk s := by
  induction h with
  | dd h hz => intro s hs; rw [nmT] at hs; cases hs
  | nm h1 h2 h3 => intro s hs; rw [nmT] at hs; rw [List.mem_singleton.mp hs]; exact ⟨h1, h2, h3⟩
  | th h1 h2 h3 h4 h5 ih => intro s hs; rw [nmT] at hs; exact nmTL_ok (acc := []) (fun _ z => (nomatch z)) ih s hs
  | ei h1 h2 h3 ih => intro s hs; rw [nmT] at hs; exact nmTL_ok (acc := []) (fun _ z => (nomatch z)) ih s hs
  | ti h hn ih => intro s hs; rw [nmT, nil_uniN] at hs; exact ih s hs
  | ag h ih => intro s hs; rw [nmT, nil_uniN] at hs; exact ih s hs
theorem nmTL_len : ∀ {ps : List Tr} {acc : List (List Nat)}, (∀ p ∈ ps, (nmT p).length ≤ wl p) → (nmTL acc ps).length ≤ acc.length + wlL ps
  | [], acc, _ => by rw [nmTL_nil]; omega
  | p :: r, acc, h => by
    rw [nmTL_cons, wlL_cons]
    have a := nmTL_len (ps := r) (acc := uniN acc (nmT p)) fun q hq => h q (List.mem_cons_of_mem _ hq)
    have b := uniN_len acc (nmT p)
    have c := h p List.mem_cons_self
    omega
theorem kids_wl {t : Tr} (h : OkT t) : wlL t.kids ≤ wl t := by
  cases h with
  | dd _ _ => exact Nat.zero_le _
  | nm _ _ _ => exact Nat.zero_le _
  | @th ps h1 h2 h3 h4 h5 => rw [wl_th (by intro z; rw [z] at h1; exact absurd h1 (by decide))]; exact Nat.le_refl _
  | @ei ps h1 h2 h3 => rw [wl_ei (by intro z; rw [z] at h1; exact absurd h1 (by decide))]; exact Nat.le_add_right _ _
  | @ti u m hu hm =>
    show wlL [u] ≤ _
    rw [wlL_cons]
    have : (scT u).length ≤ (wrB u.isTh (scT u)).length := by unfold wrB; split <;> simp <;> omega
    unfold wl
    rw [sc_ti, List.length_append]
    show _ + 1 + 0 ≤ _
    omega
  | @ag u hu =>
    show wlL [u] ≤ _
    rw [wlL_cons]
    have : (scT u).length ≤ (wrB u.isTh (scT u)).length := by unfold wrB; split <;> simp <;> omega
    unfold wl
    rw [sc_ag, List.length_append]
    show _ + 1 + 0 ≤ _
    omega
theorem nmT_len {t : Tr} (h : OkT t) : (nmT t).length ≤ wl t := by
  induction h with
  | dd h hz => rw [nmT]; exact Nat.zero_le _
  | @nm s h1 h2 h3 => rw [nmT]; unfold wl; show 1 ≤ _; omega
  | @th ps h1 h2 h3 h4 h5 ih =>
    rw [nmT]
    have a := nmTL_len (acc := []) ih
    have b := kids_wl (.th h1 h2 h3 h4 h5)
    have b : wlL ps ≤ wl (.th ps) := b
    have a : (nmTL [] ps).length ≤ 0 + wlL ps := a
    omega
  | @ei ps h1 h2 h3 ih =>
    rw [nmT]
    have a := nmTL_len (acc := []) ih
    have b := kids_wl (.ei h1 h2 h3)
    have b : wlL ps ≤ wl (.ei ps) := b
    have a : (nmTL [] ps).length ≤ 0 + wlL ps := a
    omega
  | @ti u m h hm ih =>
    rw [nmT, nil_uniN]
    have b := kids_wl (.ti h hm)
    have b : wlL [u] ≤ wl (.ti u m) := b
    rw [wlL_cons] at b
    omega
  | @ag u h ih =>
    rw [nmT, nil_uniN]
    have b := kids_wl (.ag h)
    have b : wlL [u] ≤ wl (.ag u) := b
    rw [wlL_cons] at b
    omega
theorem okT_kids {t : Tr} (h : OkT t) : t.kids.length ≤ 1000 ∧ ∀ p ∈ t.kids, OkT p ∧ p.dp + 1 ≤ t.dp := by
  cases h with
  | dd _ _ => exact ⟨Nat.zero_le _, fun _ z => nomatch z⟩
  | nm _ _ _ => exact ⟨Nat.zero_le _, fun _ z => nomatch z⟩
  | @th ps h1 h2 h3 h4 h5 => exact ⟨h2, fun p hp => ⟨h3 p hp, by rw [Tr.dp]; exact Nat.succ_le_succ (dpL_le hp)⟩⟩
  | @ei ps h1 h2 h3 => exact ⟨h2, fun p hp => ⟨h3 p hp, by rw [Tr.dp]; exact Nat.succ_le_succ (dpL_le hp)⟩⟩
  | @ti u m hu hm => exact ⟨by show 1 ≤ 1000; decide, fun p hp => by rw [List.mem_singleton.mp hp, Tr.dp]; exact ⟨hu, Nat.le_refl _⟩⟩
  | @ag u hu => exact ⟨by show 1 ≤ 1000; decide, fun p hp => by rw [List.mem_singleton.mp hp, Tr.dp]; exact ⟨hu, Nat.le_refl _⟩⟩
def fsListed (n : Nat) : FSo := fun ds k _ => ∃ (t : Tr) (acc : List (List Nat)), (ds = [t.dat, .lst (acc.map .str)] ∧ OkT t ∧ t.dp ≤ n ∧ (∀ s ∈ acc, NmOk s) ∧ acc.length + wl t ≤ 50000) ∧ k .non (.lst ((uniN acc (nmT t)).map .str))
theorem listed_0 {ds : List D} {k : D → D → Prop} {kx : KX} (h : fsListed 0 ds k kx) : False := by
  obtain ⟨t, acc, ⟨_, _, h, _⟩, _⟩ := h
  have := dp_pos t
  omega
def fsNamesIn : FS := fun ds k _ => ∃ t : Tr, (ds = [t.dat] ∧ OkT t ∧ isB 12 t = true ∧ wl t ≤ 40000) ∧ k (.lst ((nmT t).map .str))
def fsLNames (n : Nat) : FS := fun ds k _ => ∃ t : Tr, (ds = [t.dat] ∧ OkT t ∧ t.dp ≤ n ∧ wl t ≤ 40000) ∧ k (.lst ((nmT t).map .str))
theorem lnames_0 {ds : List D} {k : KD} {kx : KX} (h : fsLNames 0 ds k kx) : False := by
  obtain ⟨t, ⟨_, _, h, _⟩, _⟩ := h
  have := dp_pos t
  omega
section
variable {ds : List D} {kd : KD} {ko : D → D → Prop} {kx : KX} {Γ : Ga} {t ta tb tc : TP} {tl : TL} {d e c c0 : D} {n i j : Nat} {P : PEn} {u v : List Nat} {s r : TSp} {cb : TB} {q : Tr} {b : Bool} {CX : Addr}
local instance : Tabl := ⟨[], fun p hp => absurd hp (by simp)⟩
theorem ev_notInT {av : List (List Nat)} {s : List Nat} (h : Ev ta Γ (.str s)) (g : Ev tb Γ (.lst (av.map .str))) (hs : D.plain (.str s) = true) (ha : ∀ a ∈ av, D.plain (.str a) = true) : Ev (tpOp (fInD true) ta tb) Γ (.bl (!decide (s ∈ av))) := ev_op h g fun k z => ⟨⟨hs, plainL_str ha, by show 0 ≤ 8; decide⟩, by
    rw [any_str]
    have : (true != decide (s ∈ av)) = !decide (s ∈ av) := by cases decide (s ∈ av) <;> rfl
    rw [this]
    exact z⟩
theorem listed_ok' (ds : List D) (ko : D → D → Prop) (kx : KX) : fsListed (n + 1) ds ko kx → m_listed_names fsInner (fsListed n) ds ko kx := by
  rintro ⟨t, acc, ⟨rfl, ht, hd, ha, hz⟩, h⟩ p
  let P := oEnds 1 p ko kx
  have loop : ∀ (ks : List Tr) (acc : List (List Nat)) (s2 : Sl), (∀ x ∈ ks, OkT x ∧ x.dp ≤ n) → (∀ s ∈ acc, NmOk s) → acc.length + wlL ks ≤ 50000 → ko .non (.lst ((nmTL acc ks).map .str)) →
      forW (tgName 2) (tsDropX 1 (txCallO 2 (fsListed n) (tlCons (tpVar 2) (tloHere 1 tlNil)))) P (ks.map Tr.dat) [.pu t.dat, .pw p (.lst (acc.map .str)), s2] := by
    intro ks
    induction ks with
    | nil => intro acc s2 _ _ _ h; rw [nmTL_nil] at h; exact ⟨rfl, h⟩
    | cons x r ih =>
      intro acc s2 hk ha hz h
      rw [wlL_cons] at hz
      rw [nmTL_cons] at h
      obtain ⟨x1, x2⟩ := hk x List.mem_cons_self
      refine for_cons ?_
      let G : Ga := [.pu t.dat, .pw p (.lst (acc.map .str)), .pu x.dat]
      refine st_drop1X (Γ := G) (R := fun _ c => c = .lst ((uniN acc (nmT x)).map .str)) (c0 := .lst (acc.map .str)) rfl trivial (evo_call (ds := [x.dat, .lst (acc.map .str)]) (evl_cons (ev_var rfl) (evl_here (Γ := G) rfl evl_nil)) rfl (fun k kx z => ?_) fun d c e => by rw [e]; trivial) fun d c e => ?_
      · exact ⟨x, acc, ⟨rfl, x1, x2, ha, by omega⟩, z _ _ rfl⟩
      · subst e
        have := uniN_len acc (nmT x)
        have := nmT_len x1
        exact ih (uniN acc (nmT x)) _ (fun y hy => hk y (List.mem_cons_of_mem _ hy)) (fun s hs => (uniN_mem hs).elim (ha s) (nmT_ok x1 s)) (by omega) h
  obtain ⟨k1, k2⟩ := okT_kids ht
  have kw := kids_wl ht
  have fin : ∀ acc : List (List Nat), (∀ s ∈ acc, NmOk s) → acc.length + wlL t.kids ≤ 50000 → ko .non (.lst ((nmTL acc t.kids).map .str)) → tsFor (tiLst (tpCall 1 fsInner (tlCons (tpVar 0) tlNil))) (tgName 2)
      (tsDropX 1 (txCallO 2 (fsListed n) (tlCons (tpVar 2) (tloHere 1 tlNil)))) P [.pu t.dat, .pw p (.lst (acc.map .str)), .un] := fun acc ha hz h =>
    st_for1 (evl_tiLst (ev_inner (q := t) (ev_var rfl) k1)) (loop t.kids acc .un (fun x hx => ⟨(k2 x hx).1, by have := (k2 x hx).2; omega⟩) ha hz h)
  let G : Ga := [.pu t.dat, .pw p (.lst (acc.map .str)), .un]
  have v0 : Ev (tpVar 0) G t.dat := ev_var rfl
  by_cases hw : t.w = wNAM
  · cases t with
    | nm s =>
      have hs : NmOk s := by cases ht with | nm h1 h2 h3 => exact ⟨h1, h2, h3⟩
      have s1 : Ev (tpOp fIx (tpVar 0) (tpC (.int 1))) G (.str s) := ev_1of (s := wNAM) (l := []) (by rw [dat_eq] at v0; exact v0)
      have ni := ev_notInT s1 (ev_varW (i := 1) (p := p) rfl) hs.pl fun a h => (ha a h).pl
      rw [nmT] at h
      have e : uniN acc [s] = if s ∈ acc then acc else acc ++ [s] := by
        unfold uniN
        by_cases q : s ∈ acc
        · rw [if_pos q, List.filter_cons, if_neg (by rw [decide_eq_true q]; exact Bool.false_ne_true)]
          exact List.append_nil _
        · rw [if_neg q, List.filter_cons, if_pos (by rw [decide_eq_false q]; rfl)]
          rfl
      rw [e] at h
      refine st_ifNB (Γ := G) (evb_andT (evb_v (ev_isW (q := .nm s) v0 rfl rfl)) (evb_v ni)) (fun q => ?_) (fun q => ?_)
      · have q : s ∉ acc := by simpa using q
        rw [if_neg q] at h
        refine st_app1 (Γ := G) (i := 1) (es := acc.map .str) rfl s1 (by rw [List.length_map]; omega) ?_
        have e2 : acc.map D.str ++ [D.str s] = (acc ++ [s]).map .str := by rw [List.map_append]; rfl
        rw [e2]
        refine fin (acc ++ [s]) (fun x hx => (List.mem_append.mp hx).elim (ha x) fun z => by rw [List.mem_singleton.mp z]; exact hs) ?_ ?_
        · rw [List.length_append]
          show _ + 1 + 0 ≤ _
          unfold wl at hz
          omega
        · show ko .non (.lst ((nmTL (acc ++ [s]) []).map .str))
          rw [nmTL_nil]
          exact h
      · have q : s ∈ acc := by simpa using q
        rw [if_pos q] at h
        refine fin acc ha (by omega) ?_
        show ko .non (.lst ((nmTL acc []).map .str))
        rw [nmTL_nil]
        exact h
    | _ => cases hw
  · rw [nmT_kids hw, ← nmTL_acc] at h
    exact st_ifN (Γ := G) (evb_andF (evb_v (ev_isW (q := t) v0 rfl (decide_eq_false hw)))) (fin acc ha (by omega) h)
theorem namesIn_ok' {m : Nat} (hm : 12 ≤ m) : fsNamesIn ds kd kx → m_names_in (fsNeedTree CX) (fsListed m) ds kd kx := by
  rintro ⟨t, ⟨rfl, ht, hb, hz⟩, h⟩
  have dp := isB_dp hb
  let G : Ga := [.pu t.dat, .un]
  have v0 : Ev (tpVar 0) G t.dat := ev_var rfl
  refine st_dropCallW (Γ := G) (evl_1 v0) rfl ⟨t, ⟨rfl, ht, by omega⟩, fun _ => ?_, fun e => by rw [hb] at e; cases e⟩
  refine st_own (Γ := G) (ev_lst evl_nil (Nat.zero_le _)) ?_
  let G1 : Ga := [.pu t.dat, .ow (.lst [])]
  refine st_dropX (Γ := G1) (R := fun _ c => c = .lst ((nmT t).map .str)) (c0 := .lst []) rfl trivial (evo_call (ds := [t.dat, .lst []]) (evl_cons (ev_var rfl) (evl_here (Γ := G1) rfl evl_nil)) rfl (fun k kx z => ?_) fun d c e => by rw [e]; trivial) fun d c e => ?_
  · exact ⟨t, [], ⟨rfl, ht, by omega, fun _ z => (nomatch z), by show 0 + _ ≤ _; omega⟩, z _ _ (by rw [nil_uniN])⟩
  · subst e
    exact h
theorem linner_ok' : fsInner ds kd kx → m_law_inner ds kd kx := inner_ok'
theorem lnames_ok' (ds : List D) (kd : KD) (kx : KX) : fsLNames (n + 1) ds kd kx → m_law_names fsInner (fsLNames n) ds kd kx := by
  rintro ⟨t, ⟨rfl, ht, hd, hz⟩, h⟩
  have big : 100000 ≤ sizeLine := by decide
  have loop : ∀ (ks : List Tr) (acc : List (List Nat)) (s2 s3 : Sl), (∀ x ∈ ks, OkT x ∧ x.dp ≤ n ∧ wl x ≤ 40000) → (∀ s ∈ acc, NmOk s) → acc.length + wlL ks ≤ 50000 → kd (.lst ((nmTL acc ks).map .str)) →
      forW (tgName 2) (tsSet 1 (tpOp fAdd (tpVar 1) (tpLc [3] (tiLst (tpCall 1 (fsLNames n) (tlCons (tpVar 2) tlNil))) (tgName 3) (tbV (tpOp (fInD true) (tpVar 3) (tpVar 1))) (tpVar 3)))) { fEnds kd kx with nx := tsRet (tpVar 1) (fEnds kd kx) } (ks.map Tr.dat) [.pu t.dat, .pu (.lst (acc.map .str)), s2, s3] := by
    intro ks
    induction ks with
    | nil =>
      intro acc s2 s3 _ _ _ h
      rw [nmTL_nil] at h
      exact st_ret (P := fEnds kd kx) (Γ := [.pu t.dat, .pu (.lst (acc.map .str)), s2, s3]) (ev_var (i := 1) rfl) h
    | cons x r ih =>
      intro acc s2 s3 hk ha hz h
      rw [wlL_cons] at hz
      rw [nmTL_cons] at h
      obtain ⟨x1, x2, x3⟩ := hk x List.mem_cons_self
      have nl := nmT_len x1
      refine for_cons ?_
      let G : Ga := [.pu t.dat, .pu (.lst (acc.map .str)), .pu x.dat, s3]
      have cl : Ev (tpCall 1 (fsLNames n) (tlCons (tpVar 2) tlNil)) G (.lst ((nmT x).map .str)) := ev_call (evl_1 (ev_var rfl)) rfl fun k kx z => ⟨x, ⟨rfl, x1, x2, x3⟩, z⟩
      have lc := ev_lcFil (Γ := G) (is := [3]) (i := 3) (tt := tbV (tpOp (fInD true) (tpVar 3) (tpVar 1))) (te := tpVar 3) (items := nmT x) (pa := .str) (p := fun s => !decide (s ∈ acc)) (f := .str) (evl_tiLst cl) (by omega) (fun s hs => evb_v (ev_notInT (ev_var rfl) (ev_var rfl) (nmT_ok x1 s hs).pl fun a h => (ha a h).pl)) (fun s hs => ev_var rfl)
      have fl := List.length_filter_le (fun s => !decide (s ∈ acc)) (nmT x)
      have ad := ev_addL (Γ := G) (ta := tpVar 1) (a := acc.map .str) (ev_var rfl) lc (by rw [List.length_map, List.length_map]; omega)
      rw [← List.map_append] at ad
      refine st_set1 (Γ := G) ad ?_
      have ul := uniN_len acc (nmT x)
      exact ih (uniN acc (nmT x)) _ _ (fun y hy => hk y (List.mem_cons_of_mem _ hy)) (fun s hs => (uniN_mem hs).elim (ha s) (nmT_ok x1 s)) (by omega) h
  obtain ⟨k1, k2⟩ := okT_kids ht
  have kw := kids_wl ht
  have each : ∀ {ks : List Tr}, ∀ p ∈ ks, wl p ≤ wlL ks := fun {ks} => by
    induction ks with
    | nil => exact fun _ z => nomatch z
    | cons a r ih =>
      intro p hp
      rw [wlL_cons]
      rcases List.mem_cons.mp hp with rfl | hp
      · omega
      · have := ih p hp
        omega
  let G : Ga := [.pu t.dat, .un, .un, .un]
  have v0 : Ev (tpVar 0) G t.dat := ev_var rfl
  have fin : ∀ acc : List (List Nat), (∀ s ∈ acc, NmOk s) → acc.length ≤ 1 → kd (.lst ((nmTL acc t.kids).map .str)) → tsSeq (tsFor (tiLst (tpCall 1 fsInner (tlCons (tpVar 0) tlNil))) (tgName 2) (tsSet 1 (tpOp fAdd (tpVar 1) (tpLc [3] (tiLst (tpCall 1 (fsLNames n) (tlCons (tpVar 2) tlNil))) (tgName 3) (tbV (tpOp (fInD true) (tpVar 3) (tpVar 1))) (tpVar 3))))) (tsRet (tpVar 1)) (fEnds kd kx) [.pu t.dat, .pu (.lst (acc.map .str)), .un, .un] := fun acc ha h1 h =>
    st_for (evl_tiLst (ev_inner (q := t) (ev_var rfl) k1)) (loop t.kids acc .un .un (fun x hx => ⟨(k2 x hx).1, by have := (k2 x hx).2; omega, by have := each x hx; omega⟩) ha (by omega) h)
  by_cases hw : t.w = wNAM
  · cases t with
    | nm s =>
      have hs : NmOk s := by cases ht with | nm h1 h2 h3 => exact ⟨h1, h2, h3⟩
      have s1 : Ev (tpOp fIx (tpVar 0) (tpC (.int 1))) G (.str s) := ev_1of (s := wNAM) (l := []) (by rw [dat_eq] at v0; exact v0)
      refine st_set (Γ := G) (d := .lst ([s].map .str)) (ev_ifT (evb_v (ev_isW (q := .nm s) v0 rfl rfl)) (ev_lst (evl_1 s1) (by show 1 ≤ 100000; decide))) (fin [s] (fun x hx => by rw [List.mem_singleton.mp hx]; exact hs) (Nat.le_refl _) ?_)
      show kd (.lst ((nmTL [s] []).map .str))
      rw [nmTL_nil]
      rw [nmT] at h
      exact h
    | _ => cases hw
  · refine st_set (Γ := G) (d := .lst (([] : List (List Nat)).map .str)) (ev_ifF (evb_v (ev_isW (q := t) v0 rfl (decide_eq_false hw))) (ev_lst evl_nil (Nat.zero_le _))) (fin [] (fun _ z => nomatch z) (Nat.zero_le _) ?_)
    rw [← nmT_kids hw]
    exact h
end
end PL
set_option Elab.async false
set_option linter.all false
set_option maxRecDepth 100000
set_option maxHeartbeats 4000000
namespace PL
open PySem L2
def fsIsNameX : FS := fun ds k _ => match ds with
  | [.str s] => s.length ≤ 20000 ∧ k (.bl (nameB s))
  | [d] => (tyD d).isSome = true ∧ k (.bl false)
  | _ => False
theorem isNameX_of {ds : List D} {k : KD} {kx : KX} (h : fsIsName ds k kx) : fsIsNameX ds k kx := by
  match ds, h with
  | [.str s], h => exact h
theorem treeK_0 {ds : List D} {k : KD} {kx : KX} (h : fsTreeK 0 ds k kx) : False := by
  match ds, h with
  | [.bag, .str al, .lst nl, .int d, w], h =>
    obtain ⟨ns, m, ⟨_, _, _, m1, mn, _⟩, _⟩ := h
    omega
def BadNm (d : D) : Prop := (∃ s, d = .str s ∧ s.length ≤ 20000 ∧ nameB s = false) ∨ (tyD d).isSome = true ∧ ∀ s, d ≠ .str s
section
variable {ds : List D} {kd : KD} {kx : KX} {Γ : Ga} {t ta tb tc : TP} {tl : TL} {d e c c0 : D} {n i j : Nat} {P : PEn} {s u : TSp} {cb : TB}
local instance : Tabl := ⟨[], fun p hp => absurd hp (by simp)⟩
theorem is_nameX_ok' : fsIsNameX ds kd kx → m_is_name ds kd kx := by
  intro h0
  match ds, h0 with
  | [d], h0 =>
    by_cases hs : ∃ s, d = .str s
    · obtain ⟨s, rfl⟩ := hs
      exact is_name_ok' h0
    · have h : (tyD d).isSome = true ∧ kd (.bl false) := by
        cases d with
        | str s => exact absurd ⟨s, rfl⟩ hs
        | _ => exact h0
      let G : Ga := [.pu d, .un]
      have is : Ev (tp1 (fIsi "str") (tpVar 0)) G (.bl false) := ev_1 (ev_var (d := d) rfl) fun k z => by
        cases d with
        | str s => exact absurd ⟨s, rfl⟩ hs
        | non => exact z
        | bl _ => exact z
        | int _ => exact z
        | lst _ => exact z
        | tup _ => exact z
        | dct _ => exact z
        | _ => exact absurd h.1 (by intro q; cases q)
      exact st_ret (Γ := G) (ev_and is (fun z => nomatch z) (fun _ => rfl)) h.2
  | a :: b :: r, h0 => exact (show False by cases a <;> exact h0).elim
theorem ev_badNm (h : Ev t Γ d) (hb : BadNm d) : Ev (tpCall 1 fsIsNameX (tlCons t tlNil)) Γ (.bl false) := ev_call (evl_1 h) rfl fun k kx z => by
  rcases hb with ⟨s, rfl, h1, h2⟩ | ⟨h1, h2⟩
  · exact ⟨h1, by rw [h2]; exact z⟩
  · cases d with
    | str s => exact absurd rfl (h2 s)
    | _ => exact ⟨h1, z⟩
theorem nameB_ok {s : List Nat} (h : NmOk s) : nameB s = true := by
  unfold nameB
  rw [decide_eq_true h.h1, decide_eq_true h.h2, List.all_eq_true.mpr fun x hx => decide_eq_true (h.h3 x hx)]
  rfl
theorem nameB_bad {s : List Nat} {c : Nat} (h : c ∈ s) (hc : c ∉ CAP) : nameB s = false := by
  unfold nameB
  have : (s.all fun c => decide (c ∈ CAP)) = false := by
    cases q : s.all fun c => decide (c ∈ CAP) with
    | false => rfl
    | true => exact absurd (of_decide_eq_true (List.all_eq_true.mp q c h)) hc
  rw [this, Bool.and_false]
theorem evnb_vB (h : EvN t Γ (fun d => ∃ b : Bool, d = .bl b)) : EvNB (tbV t) Γ fun _ => True := fun k kx z => h _ _ fun d ⟨b, e⟩ => by
  subst e
  exact z b trivial
theorem st_ifEN {Bb : Bool → Prop} (h : EvNB cb Γ Bb) (ht : s { P with nx := u P } Γ) (hf : u P Γ) : tsSeq (tsIf cb s tsNext) u P Γ := h _ _ fun b _ => by
  cases b with
  | true => exact (show (if true = true then _ else _) from ht)
  | false => exact (show (if false = true then s { P with nx := u P } Γ else tsNext { P with nx := u P } Γ) from hf)
end
end PL
set_option Elab.async false
set_option linter.all false
set_option maxRecDepth 100000
set_option maxHeartbeats 8000000
namespace K36
open PySem L2 PL
def m_law_pull : FSo := fun ds k kx => ∀ p,
  (tsSeq (tsIf (tbAnd (tbV (tpOp fEq (tpOp fIx (tpVarU 0) (tpC (.int 2))) (tpC (.int 0)))) (tbV (tpOp fLt (tpOp fIx (tpVarU 0) (tpC (.int 1))) (tp1 fLenS (tpOp fIx (tpVarU 0) (tpC (.int 0)))))))
    (tsSeq (tsSet 2 (tpOp fIx (tpOp fIx (tpVarU 0) (tpC (.int 0))) (tpOp fIx (tpVarU 0) (tpC (.int 1)))))
    (tsSeq (tsSetIx 0 (tpC (.int 1)) (tpOp fAdd (tpOp fIx (tpVarU 0) (tpC (.int 1))) (tpC (.int 1))))
    (tsIf (tbV (tpOp fGe (tpVar 2) (tpOp fPow (tpC (.int 10)) (tpC (.int 18)))))
    (tsSetIx 0 (tpC (.int 2)) (tpVar 2))
    (tsSetIx 0 (tpC (.int 3)) (tpOp fMod (tp1 fInt (tpOp fAdd (tpOp fAdd (tpOp fMul (tpOp fIx (tpVarU 0) (tpC (.int 3))) (tpC (.int 52361))) (tpOp fMul (tpOp fMod (tp1 fInt (tpVar 2)) (tpC (.int 2147483399))) (tpC (.int 6121)))) (tpC (.int 43)))) (tpC (.int 2147483543)))))))
    tsNext)
    (tsSeq (tsIf (tbV (tpOp fGt (tpOp fIx (tpVarU 0) (tpC (.int 2))) (tpC (.int 0))))
    (tsSeq (tsSet 3 (tpOp fMod (tp1 fInt (tpOp fIx (tpVarU 0) (tpC (.int 2)))) (tpVar 1)))
    (tsSeq (tsSetIx 0 (tpC (.int 2)) (tpOp fFdivW (tpOp fIx (tpVarU 0) (tpC (.int 2))) (tpVar 1)))
    (tsRet (tpVar 3))))
    tsNext)
    (tsSeq (tsSet 4 (tpOp fIx (tpVarU 0) (tpC (.int 3))))
    (tsSeq (tsSetIx 0 (tpC (.int 3)) (tpOp fMod (tp1 fInt (tpOp fAdd (tpOp fAdd (tpOp fMul (tpVar 4) (tpVar 4)) (tpOp fMul (tpVar 4) (tpC (.int 21577)))) (tpC (.int 1406111)))) (tpC (.int 2147483543))))
    (tsRet (tpOp fMod (tp1 fInt (tpOp fAdd (tpOp fFdivW (tpOp fIx (tpVarU 0) (tpC (.int 3))) (tpC (.int 61))) (tpOp fMul (tpOp fMod (tp1 fInt (tpOp fIx (tpVarU 0) (tpC (.int 3)))) (tpC (.int 7919))) (tpC (.int 47))))) (tpVar 1)))))))
  (oEnds 0 p k kx) (gaO 5 0 p ds)
def m_law (fs_law_start fs_law_name fs_law_pick fs_law_letters fs_law_alphabet fs_law_tree fs_law_pull fs_law_script fs_law_same fs_script_text fs_read_script fs_names_in fs_law_names fs_is_name fs_is_tree : FS) : FS := fun ds k kx =>
  (tsSeq (tsSet 1 (tpCall 1 fs_law_start (tlCons (tpVar 0) tlNil)))
    (tsSeq (tsFor (tiRng1 (tlCons (tpC (.int 4)) tlNil)) (tgName 2)
    (tsSeq (tsSet 3 (tpLc [4] (tiRng1 (tlCons (tpC (.int 3)) tlNil)) (tgName 4) tbYes (tpCall 1 fs_law_name (tlCons (tpVar 1) tlNil))))
    (tsSeq (tsSet 5 (tpCall 2 fs_law_pick (tlCons (tpVar 1) (tlCons (tpLst (tlCons (tpCall 0 fs_law_letters tlNil) (tlCons (tpCall 2 fs_law_alphabet (tlCons (tpVar 1) (tlCons (tpC (.int 4)) tlNil))) tlNil))) tlNil))))
    (tsSeq (tsSet 6 (tpCall 5 fs_law_tree (tlCons (tpVar 1) (tlCons (tpVar 5) (tlCons (tpVar 3) (tlCons (tpOp fAdd (tpC (.int 1)) (tpCall 2 fs_law_pull (tlCons (tpVar 1) (tlCons (tpC (.int 5)) tlNil)))) (tlCons (tpLst (tlCons (tpC (.str [116, 104, 101, 110])) (tlCons (tpC (.str [116, 105, 109, 101, 115])) (tlCons (tpC (.str [101, 105, 116, 104, 101, 114])) (tlCons (tpC (.str [97, 103, 97, 105, 110])) tlNil))))) tlNil)))))))
    (tsSeq (tsIf (tbV (tpOp fEq (tpCall 2 fs_law_pull (tlCons (tpVar 1) (tlCons (tpC (.int 3)) tlNil))) (tpC (.int 0))))
    (tsSet 6 (tpTup (tlCons (tpC (.str [116, 105, 109, 101, 115])) (tlCons (tpVar 6) (tlCons (tpCall 2 fs_law_pick (tlCons (tpVar 1) (tlCons (tpLst (tlCons (tpOp fPow (tpC (.int 10)) (tpC (.int 30))) (tlCons (tpCall 2 fs_law_pull (tlCons (tpVar 1) (tlCons (tpOp fPow (tpC (.int 10)) (tpC (.int 30))) tlNil))) (tlCons (tpC (.int 10)) (tlCons (tpC (.int 0)) tlNil))))) tlNil))) tlNil)))))
    tsNext)
    (tsSeq (tsSet 7 (tpCall 1 fs_law_script (tlCons (tpVar 6) tlNil)))
    (tsSeq (tsIf (tbNot (tbV (tpCall 2 fs_law_same (tlCons (tpLst (tlCons (tpCall 1 fs_script_text (tlCons (tpVar 6) tlNil)) (tlCons (tpCall 1 fs_read_script (tlCons (tpVar 7) tlNil)) (tlCons (tpCall 1 fs_is_tree (tlCons (tpVar 6) tlNil)) tlNil)))) (tlCons (tpLst (tlCons (tpVar 7) (tlCons (tpVar 6) (tlCons (tpC (.bl true)) tlNil)))) tlNil)))))
    (tsRet (tpC (.bl false)))
    tsNext)
    (tsSeq (tsIf (tbNot (tbV (tpCall 2 fs_law_same (tlCons (tpLst (tlCons (tpCall 1 fs_names_in (tlCons (tpVar 6) tlNil)) (tlCons (tpCallK 0 fs_read_script [0] tlNil (tlN 1 (tlCons (tpCallK 0 fs_script_text [0] tlNil (tlN 1 (tlCons (tpVar 6) tlNil))) tlNil))) tlNil))) (tlCons (tpLst (tlCons (tpCall 1 fs_law_names (tlCons (tpVar 6) tlNil)) (tlCons (tpVar 6) tlNil))) tlNil)))))
    (tsRet (tpC (.bl false)))
    tsNext)
    (tsSeq (tsSet 8 (tpCall 2 fs_law_pick (tlCons (tpVar 1) (tlCons (tpLst (tlCons (tpOp fAdd (tpOp fIx (tpVar 3) (tpC (.int 0))) (tpC (.str [97]))) (tlCons (tpC (.str [])) (tlCons (tpLower (tpOp fIx (tpVar 3) (tpC (.int 0)))) (tlCons (tpOp fMulS (tpOp fIx (tpVar 3) (tpC (.int 0))) (tpC (.int 7))) (tlCons (tpC .non) (tlCons (tpLst (tlCons (tpC (.str [65])) tlNil)) (tlCons (tpC (.int 0)) (tlCons (tpOp fAdd (tpSl (tpOp fIx (tpVar 3) (tpC (.int 0))) toNo (toSome (tpC (.int 5)))) (tpC (.str [45]))) (tlCons (tpC (.str [32, 65])) tlNil)))))))))) tlNil))))
    (tsIf (tbNot (tbV (tpCall 2 fs_law_same (tlCons (tpLst (tlCons (tpCall 1 fs_is_name (tlCons (tpOp fIx (tpVar 3) (tpC (.int 1))) tlNil)) (tlCons (tpCall 1 fs_is_name (tlCons (tpVar 8) tlNil)) (tlCons (tpCallK 0 fs_is_name [0] tlNil (tlN 1 (tlCons (tpOp fIx (tpVar 3) (tpC (.int 2))) tlNil))) tlNil)))) (tlCons (tpLst (tlCons (tpC (.bl true)) (tlCons (tpC (.bl false)) (tlCons (tpC (.bl true)) tlNil)))) tlNil)))))
    (tsRet (tpC (.bl false)))
    tsNext))))))))))
    (tsRet (tpAnd (tpOp fEq (tpCall 1 fs_read_script (tlCons (tpC (.str [45])) tlNil)) (tpTup (tlCons (tpC (.str [100, 101, 101, 100, 115])) (tlCons (tpC (.str [])) tlNil)))) (tpOp fEq (tpCall 1 fs_script_text (tlCons (tpTup (tlCons (tpC (.str [116, 104, 101, 110])) (tlCons (tpTup (tlCons (tpC (.str [110, 97, 109, 101])) (tlCons (tpC (.str [65])) tlNil))) (tlCons (tpTup (tlCons (tpC (.str [110, 97, 109, 101])) (tlCons (tpC (.str [66])) tlNil))) tlNil)))) tlNil)) (tpC (.str [65, 46, 66])))))))
  (fEnds k kx) (ga0 9 ds)
def top (i : Nat) : Stmt := PySem.Challenge.pw_replaylog_k36_scripts_and_their_texts.main.body.getD i (.Pass ⟨0, 0, 0, 0⟩)
abbrev s_is_number : Stmt := top 6
abbrev s_is_within : Stmt := top 7
abbrev s_is_log : Stmt := top 8
abbrev s_is_name : Stmt := top 16
abbrev s_inner : Stmt := top 17
abbrev s_is_row : Stmt := top 18
abbrev s_is_tree : Stmt := top 19
abbrev s_need_tree : Stmt := top 20
abbrev s_text_of : Stmt := top 21
abbrev s_script_text : Stmt := top 22
abbrev s_Reader___init__ : Stmt := (inClass (top 23) 0)
abbrev s_Reader_run : Stmt := (inClass (top 23) 1)
abbrev s_Reader_passed : Stmt := (inClass (top 23) 2)
abbrev s_Reader_atom : Stmt := (inClass (top 23) 3)
abbrev s_Reader_powers : Stmt := (inClass (top 23) 4)
abbrev s_Reader_row : Stmt := (inClass (top 23) 5)
abbrev s_read_script : Stmt := top 24
abbrev s_listed_names : Stmt := top 25
abbrev s_names_in : Stmt := top 26
abbrev s_law_pull : Stmt := top 29
abbrev s_law_pick : Stmt := top 30
abbrev s_law_name : Stmt := top 31
abbrev s_law_letters : Stmt := top 32
abbrev s_law_alphabet : Stmt := top 33
abbrev s_law_drawn : Stmt := top 34
abbrev s_law_row : Stmt := top 35
abbrev s_law_tree : Stmt := top 36
abbrev s_law_script : Stmt := top 37
abbrev s_law_same : Stmt := top 38
abbrev s_law_inner : Stmt := top 39
abbrev s_law_names : Stmt := top 40
abbrev s_law : Stmt := top 41
structure Cls where
  InvalidText : Addr
  InvalidTree : Addr
  Reader : Addr
structure Txt (P : Program) (K : PySem.W.Frag) (mg : PySem.Str → Option Value) (C : Cls) : Prop where
  CAPITALS : ∃ t, mg "CAPITALS" = some (.str (SS [65, 66, 67, 68, 69, 70, 71, 72, 73, 74, 75, 76, 77, 78, 79, 80, 81, 82, 83, 84, 85, 86, 87, 88, 89, 90]) t)
  DIGITS : ∃ t, mg "DIGITS" = some (.str (SS [48, 49, 50, 51, 52, 53, 54, 55, 56, 57]) t)
  LETTERS : ∃ t, mg "LETTERS" = some (.str (SS [97, 98, 99, 100, 101, 102, 103, 104, 105, 106, 107, 108, 109, 110, 111, 112, 113, 114, 115, 116, 117, 118, 119, 120, 121, 122]) t)
  MOST_DEPTH : ∃ t, mg "MOST_DEPTH" = some (.int 12 t)
  MOST_LETTERS : ∃ t, mg "MOST_LETTERS" = some (.int 6 t)
  MOST_PARTS : ∃ t, mg "MOST_PARTS" = some (.int 20 t)
  MOST_TIMES : ∃ t, mg "MOST_TIMES" = some (.int 1000000000000000000000000000000 t)
  b_all : mg "all" = none
  b_any : mg "any" = none
  b_bool : mg "bool" = none
  b_int : mg "int" = none
  b_isinstance : mg "isinstance" = none
  b_len : mg "len" = none
  b_list : mg "list" = none
  b_min : mg "min" = none
  b_range : mg "range" = none
  b_str : mg "str" = none
  b_tuple : mg "tuple" = none
  g_InvalidText : mg "InvalidText" = some (.ref C.InvalidText)
  g_InvalidTree : mg "InvalidTree" = some (.ref C.InvalidTree)
  n_Reader_text_left : L2.Cls K C.Reader ∧ NoAttr K C.Reader "text_left"
  g_Reader : mg "Reader" = some (.ref C.Reader)
  x_InvalidText : PySem.ExcX.XC0 P K mg "InvalidText" C.InvalidText
  x_InvalidTree : PySem.ExcX.XC0 P K mg "InvalidTree" C.InvalidTree
section
variable [Tabl] {P : Program} {w : World} {K : PySem.W.Frag} {mg : PySem.Str → Option Value} {base : Heap} {C : Cls}
theorem sc_is_number : FnScope ["value"] ["value"] (defScope s_is_number) := ⟨rfl, rfl, rfl, by decide +kernel, rfl, by decide +kernel, by decide +kernel⟩
theorem ok_is_number {f : Addr} {fd : FuncData} (F : Fun K "is_number" "is_number" s_is_number f fd) (T : Txt P K mg C)  : FnOk P w K mg base (L2.CX P w) (0 + 1) f fd ["value"] (spOf K 1 (m_is_number   )) := by
  refine fn_ok F sc_is_number rfl (fun cdv A outer s H E hr => ⟨_, ?_, fun ds kd kx _ hf => hf⟩)
  have tk := takes_of (X := (cxOf (L2.CX P w) P w K mg base ["value"] "is_number" (defScope s_is_number) f cdv A outer s H E)) rfl rfl rfl rfl
  have po : PassesOwn (model P w) (cxOf (L2.CX P w) P w K mg base ["value"] "is_number" (defScope s_is_number) f cdv A outer s H E).A (cxOf (L2.CX P w) P w K mg base ["value"] "is_number" (defScope s_is_number) f cdv A outer s H E).env (cxOf (L2.CX P w) P w K mg base ["value"] "is_number" (defScope s_is_number) f cdv A outer s H E).xe := passes_of rfl
  exact (ss_one (s_ret (p_and (p_isi "int" (PP.u (p_var 0)) (pe_bltn (v := .ty "int") (by rfl) T.b_int (by decide +kernel) rfl) T.b_isinstance) (p_one (p_not (p_isi "bool" (PP.u (p_var 0)) (pe_bltn (v := .ty "bool") (by rfl) T.b_bool (by decide +kernel) rfl) T.b_isinstance))))))
theorem sc_is_within : FnScope ["value", "low", "high"] ["value", "low", "high"] (defScope s_is_within) := ⟨rfl, rfl, rfl, by decide +kernel, rfl, by decide +kernel, by decide +kernel⟩
theorem ok_is_within {f : Addr} {fd : FuncData} {fs_is_number : FS} (F : Fun K "is_within" "is_within" s_is_within f fd) (T : Txt P K mg C) (D_is_number : Df P w K mg base "is_number" 1 1 fs_is_number) : FnOk P w K mg base (L2.CX P w) (1 + 1) f fd ["value", "low", "high"] (spOf K 3 (m_is_within  fs_is_number )) := by
  refine fn_ok F sc_is_within rfl (fun cdv A outer s H E hr => ⟨_, ?_, fun ds kd kx _ hf => hf⟩)
  have tk := takes_of (X := (cxOf (L2.CX P w) P w K mg base ["value", "low", "high"] "is_within" (defScope s_is_within) f cdv A outer s H E)) rfl rfl rfl rfl
  have po : PassesOwn (model P w) (cxOf (L2.CX P w) P w K mg base ["value", "low", "high"] "is_within" (defScope s_is_within) f cdv A outer s H E).A (cxOf (L2.CX P w) P w K mg base ["value", "low", "high"] "is_within" (defScope s_is_within) f cdv A outer s H E).env (cxOf (L2.CX P w) P w K mg base ["value", "low", "high"] "is_within" (defScope s_is_within) f cdv A outer s H E).xe := passes_of rfl
  exact (ss_one (s_ret (p_and (p_call D_is_number hr (by decide) tk (l_cons (p_var 0) l_nil)) (p_one (p_chain o_le o_le (PP.u (p_var 1)) (PP.u (p_var 0)) (PP.u (p_var 2)) (fun pa pb pc => pe_chain o_le.1 o_le.1 pa pb pc))))))
theorem sc_is_log : FnScope ["value", "sign"] ["value"] (defScope s_is_log) := ⟨rfl, rfl, rfl, by decide +kernel, rfl, by decide +kernel, by decide +kernel⟩
theorem ok_is_log {f : Addr} {fd : FuncData} (F : Fun K "is_log" "is_log" s_is_log f fd) (T : Txt P K mg C)  : FnOk P w K mg base (L2.CX P w) (0 + 1) f fd ["value"] (spOf K 1 (m_is_log   )) := by
  refine fn_ok F sc_is_log rfl (fun cdv A outer s H E hr => ⟨_, ?_, fun ds kd kx _ hf => hf⟩)
  have tk := takes_of (X := (cxOf (L2.CX P w) P w K mg base ["value", "sign"] "is_log" (defScope s_is_log) f cdv A outer s H E)) rfl rfl rfl rfl
  have po : PassesOwn (model P w) (cxOf (L2.CX P w) P w K mg base ["value", "sign"] "is_log" (defScope s_is_log) f cdv A outer s H E).A (cxOf (L2.CX P w) P w K mg base ["value", "sign"] "is_log" (defScope s_is_log) f cdv A outer s H E).env (cxOf (L2.CX P w) P w K mg base ["value", "sign"] "is_log" (defScope s_is_log) f cdv A outer s H E).xe := passes_of rfl
  exact (ss_one (s_ret (p_and (p_isi "str" (PP.u (p_var 0)) (pe_bltn (v := .ty "str") (by rfl) T.b_str (by decide +kernel) rfl) T.b_isinstance) (p_one (p_b1 (c_all rfl) T.b_all (by decide +kernel) (PP.u (p_lc [("sign", 1)] rfl sc_is_log.nd (i_str (p_var 0)) (blkOk_by (N := ["value", "sign"]) (sc := defScope s_is_log) (by decide +kernel)) (fun _ => (g_name 1 sc_is_log.nd)) (fun _ => bs_nil) (fun _ => (p_cmp o_inS (PP.u (p_var 1)) (PP.u (p_globS (s := [97, 98, 99, 100, 101, 102, 103, 104, 105, 106, 107, 108, 109, 110, 111, 112, 113, 114, 115, 116, 117, 118, 119, 120, 121, 122]) (by rfl) T.LETTERS)))))))))))
theorem sc_is_name : FnScope ["value", "sign"] ["value"] (defScope s_is_name) := ⟨rfl, rfl, rfl, by decide +kernel, rfl, by decide +kernel, by decide +kernel⟩
theorem ok_is_name {f : Addr} {fd : FuncData} (F : Fun K "is_name" "is_name" s_is_name f fd) (T : Txt P K mg C)  : FnOk P w K mg base (L2.CX P w) (0 + 1) f fd ["value"] (spOf K 1 (m_is_name   )) := by
  refine fn_ok F sc_is_name rfl (fun cdv A outer s H E hr => ⟨_, ?_, fun ds kd kx _ hf => hf⟩)
  have tk := takes_of (X := (cxOf (L2.CX P w) P w K mg base ["value", "sign"] "is_name" (defScope s_is_name) f cdv A outer s H E)) rfl rfl rfl rfl
  have po : PassesOwn (model P w) (cxOf (L2.CX P w) P w K mg base ["value", "sign"] "is_name" (defScope s_is_name) f cdv A outer s H E).A (cxOf (L2.CX P w) P w K mg base ["value", "sign"] "is_name" (defScope s_is_name) f cdv A outer s H E).env (cxOf (L2.CX P w) P w K mg base ["value", "sign"] "is_name" (defScope s_is_name) f cdv A outer s H E).xe := passes_of rfl
  exact (ss_one (s_ret (p_and (p_isi "str" (PP.u (p_var 0)) (pe_bltn (v := .ty "str") (by rfl) T.b_str (by decide +kernel) rfl) T.b_isinstance) (p_and (p_chain o_le o_le (PP.u p_int) (PP.u (p_b1 c_len T.b_len (by decide +kernel) (PP.u (p_var 0)))) (PP.u (p_globI (by rfl) T.MOST_LETTERS)) (fun pa pb pc => pe_chain o_le.1 o_le.1 pa pb pc)) (p_one (p_b1 (c_all rfl) T.b_all (by decide +kernel) (PP.u (p_lc [("sign", 1)] rfl sc_is_name.nd (i_str (p_var 0)) (blkOk_by (N := ["value", "sign"]) (sc := defScope s_is_name) (by decide +kernel)) (fun _ => (g_name 1 sc_is_name.nd)) (fun _ => bs_nil) (fun _ => (p_cmp o_inS (PP.u (p_var 1)) (PP.u (p_globS (s := [65, 66, 67, 68, 69, 70, 71, 72, 73, 74, 75, 76, 77, 78, 79, 80, 81, 82, 83, 84, 85, 86, 87, 88, 89, 90]) (by rfl) T.CAPITALS))))))))))))
theorem sc_inner : FnScope ["tree"] ["tree"] (defScope s_inner) := ⟨rfl, rfl, rfl, by decide +kernel, rfl, by decide +kernel, by decide +kernel⟩
theorem ok_inner {f : Addr} {fd : FuncData} (F : Fun K "inner" "inner" s_inner f fd) (T : Txt P K mg C)  : FnOk P w K mg base (L2.CX P w) (0 + 1) f fd ["tree"] (spOf K 1 (m_inner   )) := by
  refine fn_ok F sc_inner rfl (fun cdv A outer s H E hr => ⟨_, ?_, fun ds kd kx _ hf => hf⟩)
  have tk := takes_of (X := (cxOf (L2.CX P w) P w K mg base ["tree"] "inner" (defScope s_inner) f cdv A outer s H E)) rfl rfl rfl rfl
  have po : PassesOwn (model P w) (cxOf (L2.CX P w) P w K mg base ["tree"] "inner" (defScope s_inner) f cdv A outer s H E).A (cxOf (L2.CX P w) P w K mg base ["tree"] "inner" (defScope s_inner) f cdv A outer s H E).env (cxOf (L2.CX P w) P w K mg base ["tree"] "inner" (defScope s_inner) f cdv A outer s H E).xe := passes_of rfl
  exact (ss_cons (s_if (b_cmp (o_inDT hr.units) (PP.u (p_ix (PP.u (p_var 0)) (PP.u p_int))) (PP.u (p_tup (l_cons (p_str [116, 104, 101, 110]) (l_cons (p_str [101, 105, 116, 104, 101, 114]) l_nil)))))
    (ss_one (s_ret (p_t1 c_list T.b_list (by decide +kernel) (PP.u (p_slice (PP.u (p_var 0)) (s_some p_int) s_none)))))
    ss_nil)
    (ss_one (s_ret (p_ifExp (b_cmp (o_inDT hr.units) (PP.u (p_ix (PP.u (p_var 0)) (PP.u p_int))) (PP.u (p_tup (l_cons (p_str [116, 105, 109, 101, 115]) (l_cons (p_str [97, 103, 97, 105, 110]) l_nil))))) (p_lst (l_cons (p_ix (PP.u (p_var 0)) (PP.u p_int)) l_nil)) (p_lst l_nil)))))
theorem sc_is_row : FnScope ["word", "parts", "logs", "part", "at"] ["word", "parts"] (defScope s_is_row) := ⟨rfl, rfl, rfl, by decide +kernel, rfl, by decide +kernel, by decide +kernel⟩
theorem ok_is_row {f : Addr} {fd : FuncData} (F : Fun K "is_row" "is_row" s_is_row f fd) (T : Txt P K mg C)  : FnOk P w K mg base (L2.CX P w) (0 + 1) f fd ["word", "parts"] (spOf K 2 (m_is_row   )) := by
  refine fn_ok F sc_is_row rfl (fun cdv A outer s H E hr => ⟨_, ?_, fun ds kd kx _ hf => hf⟩)
  have tk := takes_of (X := (cxOf (L2.CX P w) P w K mg base ["word", "parts", "logs", "part", "at"] "is_row" (defScope s_is_row) f cdv A outer s H E)) rfl rfl rfl rfl
  have po : PassesOwn (model P w) (cxOf (L2.CX P w) P w K mg base ["word", "parts", "logs", "part", "at"] "is_row" (defScope s_is_row) f cdv A outer s H E).A (cxOf (L2.CX P w) P w K mg base ["word", "parts", "logs", "part", "at"] "is_row" (defScope s_is_row) f cdv A outer s H E).env (cxOf (L2.CX P w) P w K mg base ["word", "parts", "logs", "part", "at"] "is_row" (defScope s_is_row) f cdv A outer s H E).xe := passes_of rfl
  exact (ss_cons (s_if (b_cmp (o_eq hr.units) (PP.u (p_var 0)) (PP.u (p_str [101, 105, 116, 104, 101, 114])))
    (ss_one (s_ret p_bl))
    ss_nil)
    (ss_cons (s_set 2 (p_lc [("part", 3)] rfl sc_is_row.nd (i_tup (p_var 1)) (blkOk_by (N := ["word", "parts", "logs", "part", "at"]) (sc := defScope s_is_row) (by decide +kernel)) (fun _ => (g_name 3 sc_is_row.nd)) (fun _ => bs_nil) (fun _ => (p_cmp (o_eq hr.units) (PP.u (p_ix (PP.u (p_var 3)) (PP.u p_int))) (PP.u (p_str [100, 101, 101, 100, 115]))))) sc_is_row.nd)
    (ss_cons (s_if (b_val (p_b1 (c_any rfl) T.b_any (by decide +kernel) (PP.u (p_lc [("part", 3)] rfl sc_is_row.nd (i_tup (p_var 1)) (blkOk_by (N := ["word", "parts", "logs", "part", "at"]) (sc := defScope s_is_row) (by decide +kernel)) (fun _ => (g_name 3 sc_is_row.nd)) (fun _ => bs_nil) (fun _ => (p_or (p_cmp (o_eq hr.units) (PP.u (p_ix (PP.u (p_var 3)) (PP.u p_int))) (PP.u (p_str [116, 104, 101, 110]))) (p_one (p_cmp (o_eq hr.units) (PP.u (p_var 3)) (PP.u (p_tup (l_cons (p_str [100, 101, 101, 100, 115]) (l_cons (p_str []) l_nil))))))))))))
    (ss_one (s_ret p_bl))
    ss_nil)
    (ss_one (s_ret (p_not (p_b1 (c_any rfl) T.b_any (by decide +kernel) (PP.u (p_lc [("at", 4)] rfl sc_is_row.nd (i_rng2 T.b_range (l_cons p_int (l_cons (p_b1 c_len T.b_len (by decide +kernel) (PP.u (p_var 2))) l_nil))) (blkOk_by (N := ["word", "parts", "logs", "part", "at"]) (sc := defScope s_is_row) (by decide +kernel)) (fun _ => (g_name 4 sc_is_row.nd)) (fun _ => bs_nil) (fun _ => (p_and (p_ix (PP.u (p_var 2)) (PP.u (p_op o_sub (PP.u (p_var 4)) (PP.u p_int)))) (p_one (p_ix (PP.u (p_var 2)) (PP.u (p_var 4)))))))))))))))
theorem sc_is_tree : FnScope ["value", "depth", "word", "part"] ["value", "depth"] (defScope s_is_tree) := ⟨rfl, rfl, rfl, by decide +kernel, rfl, by decide +kernel, by decide +kernel⟩
theorem ok_is_tree {f : Addr} {fd : FuncData} {fs_is_log fs_is_name fs_is_tree fs_is_within fs_is_row : FS} {dvs : List V} {kws : List (PySem.Str × V)} (F : L2.FunD K "is_tree" "is_tree" (defArgs s_is_tree) (defBody s_is_tree) (defScope s_is_tree) dvs kws f fd) (T : Txt P K mg C) {kk : Nat} (hkk : 2 ≤ kk) (D_is_log : Df P w K mg base "is_log" 1 1 fs_is_log) (D_is_name : Df P w K mg base "is_name" 1 1 fs_is_name) (D_is_tree : Df P w K mg base "is_tree" kk 2 fs_is_tree) (D_is_within : Df P w K mg base "is_within" 2 3 fs_is_within) (D_is_row : Df P w K mg base "is_row" 1 2 fs_is_row) : FnOk P w K mg base (L2.CX P w) (kk + 1) f fd ["value", "depth"] (spOf K 2 (m_is_tree  fs_is_log fs_is_name fs_is_tree fs_is_within fs_is_row )) := by
  refine fn_okD F sc_is_tree rfl (fun cdv A outer s H E hr => ⟨_, ?_, fun ds kd kx _ hf => hf⟩)
  have tk := takes_of (X := (cxOf (L2.CX P w) P w K mg base ["value", "depth", "word", "part"] "is_tree" (defScope s_is_tree) f cdv A outer s H E)) rfl rfl rfl rfl
  have po : PassesOwn (model P w) (cxOf (L2.CX P w) P w K mg base ["value", "depth", "word", "part"] "is_tree" (defScope s_is_tree) f cdv A outer s H E).A (cxOf (L2.CX P w) P w K mg base ["value", "depth", "word", "part"] "is_tree" (defScope s_is_tree) f cdv A outer s H E).env (cxOf (L2.CX P w) P w K mg base ["value", "depth", "word", "part"] "is_tree" (defScope s_is_tree) f cdv A outer s H E).xe := passes_of rfl
  exact (ss_cons (s_if (PBw.to (b_or (b_cmp (o_eq hr.units) (PP.u (p_var 1)) (PP.u p_int)) (b_or (b_not (b_val (p_isi "tuple" (PP.u (p_var 0)) (pe_bltn (v := .ty "tuple") (by rfl) T.b_tuple (by decide +kernel) rfl) T.b_isinstance))) (b_or (b_cmp o_lt (PP.u (p_b1 c_len T.b_len (by decide +kernel) (PP.u (p_var 0)))) (PP.u p_int)) (b_or1 (b_not (b_val (p_isi "str" (PP.u (p_ix (PP.u (p_var 0)) (PP.u p_int))) (pe_bltn (v := .ty "str") (by rfl) T.b_str (by decide +kernel) rfl) T.b_isinstance))))))))
    (ss_one (s_ret p_bl))
    ss_nil)
    (ss_cons (s_set 2 (p_ix (PP.u (p_var 0)) (PP.u p_int)) sc_is_tree.nd)
    (ss_cons (s_if (b_cmp (o_eq hr.units) (PP.u (p_var 2)) (PP.u (p_str [100, 101, 101, 100, 115])))
    (ss_one (s_ret (p_and (p_cmp (o_eq hr.units) (PP.u (p_b1 c_len T.b_len (by decide +kernel) (PP.u (p_var 0)))) (PP.u p_int)) (p_one (p_call D_is_log hr (by omega) tk (l_cons (p_ix (PP.u (p_var 0)) (PP.u p_int)) l_nil))))))
    ss_nil)
    (ss_cons (s_if (b_cmp (o_eq hr.units) (PP.u (p_var 2)) (PP.u (p_str [110, 97, 109, 101])))
    (ss_one (s_ret (p_and (p_cmp (o_eq hr.units) (PP.u (p_b1 c_len T.b_len (by decide +kernel) (PP.u (p_var 0)))) (PP.u p_int)) (p_one (p_call D_is_name hr (by omega) tk (l_cons (p_ix (PP.u (p_var 0)) (PP.u p_int)) l_nil))))))
    ss_nil)
    (ss_cons (s_if (b_cmp (o_eq hr.units) (PP.u (p_var 2)) (PP.u (p_str [97, 103, 97, 105, 110])))
    (ss_one (s_ret (p_and (p_cmp (o_eq hr.units) (PP.u (p_b1 c_len T.b_len (by decide +kernel) (PP.u (p_var 0)))) (PP.u p_int)) (p_one (p_call D_is_tree hr (by omega) tk (l_cons (p_ix (PP.u (p_var 0)) (PP.u p_int)) (l_cons (p_op o_sub (PP.u (p_var 1)) (PP.u p_int)) l_nil)))))))
    ss_nil)
    (ss_cons (s_if (b_cmp (o_eq hr.units) (PP.u (p_var 2)) (PP.u (p_str [116, 105, 109, 101, 115])))
    (ss_one (s_ret (p_and (p_cmp (o_eq hr.units) (PP.u (p_b1 c_len T.b_len (by decide +kernel) (PP.u (p_var 0)))) (PP.u p_int)) (p_and (p_call D_is_tree hr (by omega) tk (l_cons (p_ix (PP.u (p_var 0)) (PP.u p_int)) (l_cons (p_op o_sub (PP.u (p_var 1)) (PP.u p_int)) l_nil))) (p_one (p_call D_is_within hr (by omega) tk (l_cons (p_ix (PP.u (p_var 0)) (PP.u p_int)) (l_cons p_int (l_cons (p_globI (by rfl) T.MOST_TIMES) l_nil)))))))))
    ss_nil)
    (ss_cons (s_if (PBw.to (b_or (b_cmp (o_notInDT hr.units) (PP.u (p_var 2)) (PP.u (p_tup (l_cons (p_str [116, 104, 101, 110]) (l_cons (p_str [101, 105, 116, 104, 101, 114]) l_nil))))) (b_or1 (b_not (b_chain o_le o_le (PP.u p_int) (PP.u (p_b1 c_len T.b_len (by decide +kernel) (PP.u (p_var 0)))) (PP.u (p_op o_add (PP.u (p_globI (by rfl) T.MOST_PARTS)) (PP.u p_int))))))))
    (ss_one (s_ret p_bl))
    ss_nil)
    (ss_one (s_ret (p_and (p_b1 (c_all rfl) T.b_all (by decide +kernel) (PP.u (p_lc [("part", 3)] rfl sc_is_tree.nd (i_tup (p_slice (PP.u (p_var 0)) (s_some p_int) s_none)) (blkOk_by (N := ["value", "depth", "word", "part"]) (sc := defScope s_is_tree) (by decide +kernel)) (fun _ => (g_name 3 sc_is_tree.nd)) (fun _ => bs_nil) (fun _ => (p_call D_is_tree hr (by omega) takes0 (l_cons (p_var 3) (l_cons (p_op o_sub (PP.u (p_var 1)) (PP.u p_int)) l_nil))))))) (p_one (p_call D_is_row hr (by omega) tk (l_cons (p_var 2) (l_cons (p_slice (PP.u (p_var 0)) (s_some p_int) s_none) l_nil))))))))))))))
theorem sc_need_tree : FnScope ["value"] ["value"] (defScope s_need_tree) := ⟨rfl, rfl, rfl, by decide +kernel, rfl, by decide +kernel, by decide +kernel⟩
theorem ok_need_tree {f : Addr} {fd : FuncData} {fs_is_tree : FS} (F : Fun K "need_tree" "need_tree" s_need_tree f fd) (T : Txt P K mg C) (DR_is_tree : DfR P w K mg base "is_tree" 18 1 fs_is_tree) : FnOk P w K mg base (L2.CX P w) (18 + 1) f fd ["value"] (spOf K 1 (m_need_tree C.InvalidTree fs_is_tree )) := by
  refine fn_ok F sc_need_tree rfl (fun cdv A outer s H E hr => ⟨_, ?_, fun ds kd kx _ hf => hf⟩)
  have tk := takes_of (X := (cxOf (L2.CX P w) P w K mg base ["value"] "need_tree" (defScope s_need_tree) f cdv A outer s H E)) rfl rfl rfl rfl
  have po : PassesOwn (model P w) (cxOf (L2.CX P w) P w K mg base ["value"] "need_tree" (defScope s_need_tree) f cdv A outer s H E).A (cxOf (L2.CX P w) P w K mg base ["value"] "need_tree" (defScope s_need_tree) f cdv A outer s H E).env (cxOf (L2.CX P w) P w K mg base ["value"] "need_tree" (defScope s_need_tree) f cdv A outer s H E).xe := passes_of rfl
  exact (ss_one (s_if (b_not (b_val (p_callR DR_is_tree hr (by decide) tk (l_cons (p_var 0) l_nil))))
    (ss_one (s_raise0 rfl T.x_InvalidTree (by decide) hr tk))
    ss_nil))
theorem sc_text_of : FnScope ["tree", "part", "text"] ["tree"] (defScope s_text_of) := ⟨rfl, rfl, rfl, by decide +kernel, rfl, by decide +kernel, by decide +kernel⟩
theorem ok_text_of {f : Addr} {fd : FuncData} {fs_text_of : FS} (F : Fun K "text_of" "text_of" s_text_of f fd) (T : Txt P K mg C) {kk : Nat} (hkk : 0 ≤ kk) (D_text_of : Df P w K mg base "text_of" kk 1 fs_text_of) : FnOk P w K mg base (L2.CX P w) (kk + 1) f fd ["tree"] (spOf K 1 (m_text_of  fs_text_of )) := by
  refine fn_ok F sc_text_of rfl (fun cdv A outer s H E hr => ⟨_, ?_, fun ds kd kx _ hf => hf⟩)
  have tk := takes_of (X := (cxOf (L2.CX P w) P w K mg base ["tree", "part", "text"] "text_of" (defScope s_text_of) f cdv A outer s H E)) rfl rfl rfl rfl
  have po : PassesOwn (model P w) (cxOf (L2.CX P w) P w K mg base ["tree", "part", "text"] "text_of" (defScope s_text_of) f cdv A outer s H E).A (cxOf (L2.CX P w) P w K mg base ["tree", "part", "text"] "text_of" (defScope s_text_of) f cdv A outer s H E).env (cxOf (L2.CX P w) P w K mg base ["tree", "part", "text"] "text_of" (defScope s_text_of) f cdv A outer s H E).xe := passes_of rfl
  exact (ss_cons (s_match (p_ix (PP.u (p_var 0)) (PP.u p_int)) (.cons [100, 101, 101, 100, 115] (ss_one (s_ret (p_ifExp (b_cmp (o_ne hr.units) (PP.u (p_ix (PP.u (p_var 0)) (PP.u p_int))) (PP.u (p_str []))) (p_ix (PP.u (p_var 0)) (PP.u p_int)) (p_str [45]))))
    (.cons [110, 97, 109, 101] (ss_one (s_ret (p_ix (PP.u (p_var 0)) (PP.u p_int))))
    (.cons [116, 104, 101, 110] (ss_one (s_ret (p_join (p_str [46]) (PP.u (p_lc [("part", 1)] rfl sc_text_of.nd (i_tup (p_slice (PP.u (p_var 0)) (s_some p_int) s_none)) (blkOk_by (N := ["tree", "part", "text"]) (sc := defScope s_text_of) (by decide +kernel)) (fun _ => (g_name 1 sc_text_of.nd)) (fun _ => bs_nil) (fun _ => (p_call D_text_of hr (by omega) takes0 (l_cons (p_var 1) l_nil))))) (fun _ _ pa pb => pe_join pa pb))))
    (.cons [101, 105, 116, 104, 101, 114] (ss_one (s_ret (p_joined (FJ.cons (p_str [40]) (FJ.cons (p_fmt (p_join (p_str [124]) (PP.u (p_lc [("part", 1)] rfl sc_text_of.nd (i_tup (p_slice (PP.u (p_var 0)) (s_some p_int) s_none)) (blkOk_by (N := ["tree", "part", "text"]) (sc := defScope s_text_of) (by decide +kernel)) (fun _ => (g_name 1 sc_text_of.nd)) (fun _ => bs_nil) (fun _ => (p_call D_text_of hr (by omega) takes0 (l_cons (p_var 1) l_nil))))) (fun _ _ pa pb => pe_join pa pb))) (FJ.cons (p_str [41]) FJ.nil))))))
    .nil)))))
    (ss_cons (s_set 2 (p_ifExp (b_cmp (o_eq hr.units) (PP.u (p_ix (PP.u (p_ix (PP.u (p_var 0)) (PP.u p_int))) (PP.u p_int))) (PP.u (p_str [116, 104, 101, 110]))) (p_joined (FJ.cons (p_str [40]) (FJ.cons (p_fmt (p_call D_text_of hr (by omega) tk (l_cons (p_ix (PP.u (p_var 0)) (PP.u p_int)) l_nil))) (FJ.cons (p_str [41]) FJ.nil)))) (p_call D_text_of hr (by omega) tk (l_cons (p_ix (PP.u (p_var 0)) (PP.u p_int)) l_nil))) sc_text_of.nd)
    (ss_one (s_ret (p_ifExp (b_cmp (o_eq hr.units) (PP.u (p_ix (PP.u (p_var 0)) (PP.u p_int))) (PP.u (p_str [116, 105, 109, 101, 115]))) (p_joined (FJ.cons (p_fmt (p_var 2)) (FJ.cons (p_str [94]) (FJ.cons (p_fmt (p_ix (PP.u (p_var 0)) (PP.u p_int))) FJ.nil)))) (p_joined (FJ.cons (p_fmt (p_var 2)) (FJ.cons (p_str [94, 42]) FJ.nil))))))))
theorem sc_script_text : FnScope ["tree"] ["tree"] (defScope s_script_text) := ⟨rfl, rfl, rfl, by decide +kernel, rfl, by decide +kernel, by decide +kernel⟩
theorem ok_script_text {f : Addr} {fd : FuncData} {fs_need_tree fs_text_of : FS} (F : Fun K "script_text" "script_text" s_script_text f fd) (T : Txt P K mg C) (D_need_tree : Df P w K mg base "need_tree" 19 1 fs_need_tree) (D_text_of : Df P w K mg base "text_of" 22 1 fs_text_of) : FnOk P w K mg base (L2.CX P w) (22 + 1) f fd ["tree"] (spOf K 1 (m_script_text  fs_need_tree fs_text_of )) := by
  refine fn_ok F sc_script_text rfl (fun cdv A outer s H E hr => ⟨_, ?_, fun ds kd kx _ hf => hf⟩)
  have tk := takes_of (X := (cxOf (L2.CX P w) P w K mg base ["tree"] "script_text" (defScope s_script_text) f cdv A outer s H E)) rfl rfl rfl rfl
  have po : PassesOwn (model P w) (cxOf (L2.CX P w) P w K mg base ["tree"] "script_text" (defScope s_script_text) f cdv A outer s H E).A (cxOf (L2.CX P w) P w K mg base ["tree"] "script_text" (defScope s_script_text) f cdv A outer s H E).env (cxOf (L2.CX P w) P w K mg base ["tree"] "script_text" (defScope s_script_text) f cdv A outer s H E).xe := passes_of rfl
  exact (ss_cons (s_expr (PP.u (p_call D_need_tree hr (by decide) tk (l_cons (p_var 0) l_nil))))
    (ss_one (s_ret (p_call D_text_of hr (by decide) tk (l_cons (p_var 0) l_nil)))))
theorem sc_Reader___init__ : FnScope ["self", "text"] ["self", "text"] (defScope s_Reader___init__) := ⟨rfl, rfl, rfl, by decide +kernel, rfl, by decide +kernel, by decide +kernel⟩
theorem ok_Reader___init__ {f : Addr} {fd : FuncData} (F : Fun K "__init__" "Reader.__init__" s_Reader___init__ f fd) (T : Txt P K mg C)  : FnOk P w K mg base (L2.CX P w) (0 + 1) f fd ["self", "text"] (spOi K 2 (m_Reader___init__ C.Reader  )) := by
  refine fn_okI F sc_Reader___init__ rfl (fun cdv A outer s H E hr => ⟨_, ?_, fun ds kd kx p _ hf => hf p⟩)
  have tk := takes_of (X := (cxOf (L2.CX P w) P w K mg base ["self", "text"] "Reader.__init__" (defScope s_Reader___init__) f cdv A outer s H E)) rfl rfl rfl rfl
  have po : PassesOwn (model P w) (cxOf (L2.CX P w) P w K mg base ["self", "text"] "Reader.__init__" (defScope s_Reader___init__) f cdv A outer s H E).A (cxOf (L2.CX P w) P w K mg base ["self", "text"] "Reader.__init__" (defScope s_Reader___init__) f cdv A outer s H E).env (cxOf (L2.CX P w) P w K mg base ["self", "text"] "Reader.__init__" (defScope s_Reader___init__) f cdv A outer s H E).xe := passes_of rfl
  exact (ss_one (s_setF (cs := [C.Reader]) 0 (fun c hc => by (rcases List.mem_cons.mp hc with rfl | hc; exact T.n_Reader_text_left; cases hc)) (p_var 1)))
theorem sc_Reader_run : FnScope ["self", "signs", "size", "piece"] ["self", "signs"] (defScope s_Reader_run) := ⟨rfl, rfl, rfl, by decide +kernel, rfl, by decide +kernel, by decide +kernel⟩
theorem ok_Reader_run {f : Addr} {fd : FuncData} (F : Fun K "run" "Reader.run" s_Reader_run f fd) (T : Txt P K mg C)  : FnOk P w K mg base (L2.CX P w) (0 + 1) f fd ["self", "signs"] (spOi K 2 (m_Reader_run C.Reader  )) := by
  refine fn_okI F sc_Reader_run rfl (fun cdv A outer s H E hr => ⟨_, ?_, fun ds kd kx p _ hf => hf p⟩)
  have tk := takes_of (X := (cxOf (L2.CX P w) P w K mg base ["self", "signs", "size", "piece"] "Reader.run" (defScope s_Reader_run) f cdv A outer s H E)) rfl rfl rfl rfl
  have po : PassesOwn (model P w) (cxOf (L2.CX P w) P w K mg base ["self", "signs", "size", "piece"] "Reader.run" (defScope s_Reader_run) f cdv A outer s H E).A (cxOf (L2.CX P w) P w K mg base ["self", "signs", "size", "piece"] "Reader.run" (defScope s_Reader_run) f cdv A outer s H E).env (cxOf (L2.CX P w) P w K mg base ["self", "signs", "size", "piece"] "Reader.run" (defScope s_Reader_run) f cdv A outer s H E).xe := passes_of rfl
  exact (ss_cons (s_set 2 p_int sc_Reader_run.nd)
    (ss_cons (s_while po (PBw.to (b_and (b_cmp o_lt (PP.u (p_var 2)) (PP.u (p_b1 c_len T.b_len (by decide +kernel) (PP.u (p_fld (cs := [C.Reader]) (fun c hc => by (rcases List.mem_cons.mp hc with rfl | hc; exact T.n_Reader_text_left; cases hc)) (u_var 0)))))) (b_and1 (b_cmp o_inS (PP.u (p_ix (PP.u (p_fld (cs := [C.Reader]) (fun c hc => by (rcases List.mem_cons.mp hc with rfl | hc; exact T.n_Reader_text_left; cases hc)) (u_var 0))) (PP.u (p_var 2)))) (PP.u (p_var 1))))))
    (ss_one (s_aug 2 ip_add p_int sc_Reader_run.nd)))
    (ss_cons (s_set 3 (p_slice (PP.u (p_fld (cs := [C.Reader]) (fun c hc => by (rcases List.mem_cons.mp hc with rfl | hc; exact T.n_Reader_text_left; cases hc)) (u_var 0))) s_none (s_some (p_var 2))) sc_Reader_run.nd)
    (ss_cons (s_setF (cs := [C.Reader]) 0 (fun c hc => by (rcases List.mem_cons.mp hc with rfl | hc; exact T.n_Reader_text_left; cases hc)) (p_slice (PP.u (p_fld (cs := [C.Reader]) (fun c hc => by (rcases List.mem_cons.mp hc with rfl | hc; exact T.n_Reader_text_left; cases hc)) (u_var 0))) (s_some (p_var 2)) s_none))
    (ss_one (s_ret (p_var 3)))))))
theorem sc_Reader_passed : FnScope ["self", "sign"] ["self", "sign"] (defScope s_Reader_passed) := ⟨rfl, rfl, rfl, by decide +kernel, rfl, by decide +kernel, by decide +kernel⟩
theorem ok_Reader_passed {f : Addr} {fd : FuncData} (F : Fun K "passed" "Reader.passed" s_Reader_passed f fd) (T : Txt P K mg C)  : FnOk P w K mg base (L2.CX P w) (0 + 1) f fd ["self", "sign"] (spOi K 2 (m_Reader_passed C.Reader  )) := by
  refine fn_okI F sc_Reader_passed rfl (fun cdv A outer s H E hr => ⟨_, ?_, fun ds kd kx p _ hf => hf p⟩)
  have tk := takes_of (X := (cxOf (L2.CX P w) P w K mg base ["self", "sign"] "Reader.passed" (defScope s_Reader_passed) f cdv A outer s H E)) rfl rfl rfl rfl
  have po : PassesOwn (model P w) (cxOf (L2.CX P w) P w K mg base ["self", "sign"] "Reader.passed" (defScope s_Reader_passed) f cdv A outer s H E).A (cxOf (L2.CX P w) P w K mg base ["self", "sign"] "Reader.passed" (defScope s_Reader_passed) f cdv A outer s H E).env (cxOf (L2.CX P w) P w K mg base ["self", "sign"] "Reader.passed" (defScope s_Reader_passed) f cdv A outer s H E).xe := passes_of rfl
  exact (ss_cons (s_if (b_cmp (o_ne hr.units) (PP.u (p_slice (PP.u (p_fld (cs := [C.Reader]) (fun c hc => by (rcases List.mem_cons.mp hc with rfl | hc; exact T.n_Reader_text_left; cases hc)) (u_var 0))) s_none (s_some p_int))) (PP.u (p_var 1)))
    (ss_one (s_ret p_bl))
    ss_nil)
    (ss_cons (s_setF (cs := [C.Reader]) 0 (fun c hc => by (rcases List.mem_cons.mp hc with rfl | hc; exact T.n_Reader_text_left; cases hc)) (p_slice (PP.u (p_fld (cs := [C.Reader]) (fun c hc => by (rcases List.mem_cons.mp hc with rfl | hc; exact T.n_Reader_text_left; cases hc)) (u_var 0))) (s_some p_int) s_none))
    (ss_one (s_ret p_bl))))
theorem sc_Reader_atom : FnScope ["self", "depth", "parts", "log", "name"] ["self", "depth"] (defScope s_Reader_atom) := ⟨rfl, rfl, rfl, by decide +kernel, rfl, by decide +kernel, by decide +kernel⟩
theorem ok_Reader_atom {f : Addr} {fd : FuncData} {fs_is_name : FS} {gs_Reader_passed gs_Reader_row gs_Reader_run : FSo} (F : Fun K "atom" "Reader.atom" s_Reader_atom f fd) (T : Txt P K mg C) {kk : Nat} (hkk : 1 ≤ kk) (D_is_name : Df P w K mg base "is_name" 1 1 fs_is_name) (MI_Reader_passed : MtI P w K mg base C.Reader "passed" 1 1 gs_Reader_passed) (MI_Reader_row : MtI P w K mg base C.Reader "row" kk 1 gs_Reader_row) (MI_Reader_run : MtI P w K mg base C.Reader "run" 1 1 gs_Reader_run) : FnOk P w K mg base (L2.CX P w) (kk + 1) f fd ["self", "depth"] (spOi K 2 (m_Reader_atom C.InvalidText C.Reader fs_is_name gs_Reader_passed gs_Reader_row gs_Reader_run)) := by
  refine fn_okI F sc_Reader_atom rfl (fun cdv A outer s H E hr => ⟨_, ?_, fun ds kd kx p _ hf => hf p⟩)
  have tk := takes_of (X := (cxOf (L2.CX P w) P w K mg base ["self", "depth", "parts", "log", "name"] "Reader.atom" (defScope s_Reader_atom) f cdv A outer s H E)) rfl rfl rfl rfl
  have po : PassesOwn (model P w) (cxOf (L2.CX P w) P w K mg base ["self", "depth", "parts", "log", "name"] "Reader.atom" (defScope s_Reader_atom) f cdv A outer s H E).A (cxOf (L2.CX P w) P w K mg base ["self", "depth", "parts", "log", "name"] "Reader.atom" (defScope s_Reader_atom) f cdv A outer s H E).env (cxOf (L2.CX P w) P w K mg base ["self", "depth", "parts", "log", "name"] "Reader.atom" (defScope s_Reader_atom) f cdv A outer s H E).xe := passes_of rfl
  exact (ss_cons (s_if (b_cmp (o_eq hr.units) (PP.u (p_var 1)) (PP.u p_int))
    (ss_one (s_raise0 rfl T.x_InvalidText (by decide) (Room.mono hr (show 0 + 1 ≤ _ by omega)) tk))
    ss_nil)
    (ss_cons (s_ifZ (bz_val (z_meth 0 (ms := [(C.Reader, gs_Reader_passed)]) (fun c hc => by (rcases List.mem_cons.mp hc with rfl | hc; exact MI_Reader_passed; cases hc)) hr (by omega) tk (l_cons (p_str [40]) l_nil)))
    (ss_cons (s_own1Z 2 (z_meth 0 (ms := [(C.Reader, gs_Reader_row)]) (fun c hc => by (rcases List.mem_cons.mp hc with rfl | hc; exact MI_Reader_row; cases hc)) hr (by omega) tk (l_cons (p_op o_sub (PP.u (p_var 1)) (PP.u p_int)) l_nil)) sc_Reader_atom.nd)
    (ss_cons (s_whileZ po (bz_val (z_meth 0 (ms := [(C.Reader, gs_Reader_passed)]) (fun c hc => by (rcases List.mem_cons.mp hc with rfl | hc; exact MI_Reader_passed; cases hc)) hr (by omega) tk (l_cons (p_str [124]) l_nil)))
    (ss_one (s_appendZ 2 (z_meth 0 (ms := [(C.Reader, gs_Reader_row)]) (fun c hc => by (rcases List.mem_cons.mp hc with rfl | hc; exact MI_Reader_row; cases hc)) hr (by omega) tk (l_cons (p_op o_sub (PP.u (p_var 1)) (PP.u p_int)) l_nil)) (fun _ pa => pe_bm PySem.F.plainAttrs_list PySem.F.slot_list_append PySem.F.type_list_append mt_append (pv 2) (pa_cons pa pa_nil)))))
    (ss_cons (s_ifZ (bz_not (bz_val (z_meth 0 (ms := [(C.Reader, gs_Reader_passed)]) (fun c hc => by (rcases List.mem_cons.mp hc with rfl | hc; exact MI_Reader_passed; cases hc)) hr (by omega) tk (l_cons (p_str [41]) l_nil))))
    (ss_one (s_raise0 rfl T.x_InvalidText (by decide) (Room.mono hr (show 0 + 1 ≤ _ by omega)) tk))
    ss_nil)
    (ss_one (s_ret (p_ifExp (b_cmp o_gt (PP.u (p_b1 c_len T.b_len (by decide +kernel) (u_var 2))) (PP.u p_int)) (p_tup (l_cons (p_str [101, 105, 116, 104, 101, 114]) (l_star (u_var 2) l_nil))) (p_ix (u_var 2) (PP.u p_int))))))))
    ss_nil)
    (ss_cons (s_ifZ (bz_val (z_meth 0 (ms := [(C.Reader, gs_Reader_passed)]) (fun c hc => by (rcases List.mem_cons.mp hc with rfl | hc; exact MI_Reader_passed; cases hc)) hr (by omega) tk (l_cons (p_str [45]) l_nil)))
    (ss_one (s_ret (p_tup (l_cons (p_str [100, 101, 101, 100, 115]) (l_cons (p_str []) l_nil)))))
    ss_nil)
    (ss_cons (s_setZ 3 (z_meth 0 (ms := [(C.Reader, gs_Reader_run)]) (fun c hc => by (rcases List.mem_cons.mp hc with rfl | hc; exact MI_Reader_run; cases hc)) hr (by omega) tk (l_cons (p_globS (s := [97, 98, 99, 100, 101, 102, 103, 104, 105, 106, 107, 108, 109, 110, 111, 112, 113, 114, 115, 116, 117, 118, 119, 120, 121, 122]) (by rfl) T.LETTERS) l_nil)) sc_Reader_atom.nd)
    (ss_cons (s_if (b_cmp (o_ne hr.units) (PP.u (p_var 3)) (PP.u (p_str [])))
    (ss_one (s_ret (p_tup (l_cons (p_str [100, 101, 101, 100, 115]) (l_cons (p_var 3) l_nil)))))
    ss_nil)
    (ss_cons (s_setZ 4 (z_meth 0 (ms := [(C.Reader, gs_Reader_run)]) (fun c hc => by (rcases List.mem_cons.mp hc with rfl | hc; exact MI_Reader_run; cases hc)) hr (by omega) tk (l_cons (p_globS (s := [65, 66, 67, 68, 69, 70, 71, 72, 73, 74, 75, 76, 77, 78, 79, 80, 81, 82, 83, 84, 85, 86, 87, 88, 89, 90]) (by rfl) T.CAPITALS) l_nil)) sc_Reader_atom.nd)
    (ss_cons (s_if (b_not (b_val (p_call D_is_name hr (by omega) tk (l_cons (p_var 4) l_nil))))
    (ss_one (s_raise0 rfl T.x_InvalidText (by decide) (Room.mono hr (show 0 + 1 ≤ _ by omega)) tk))
    ss_nil)
    (ss_one (s_ret (p_tup (l_cons (p_str [110, 97, 109, 101]) (l_cons (p_var 4) l_nil))))))))))))
theorem sc_Reader_powers : FnScope ["self", "depth", "found", "count", "digits"] ["self", "depth"] (defScope s_Reader_powers) := ⟨rfl, rfl, rfl, by decide +kernel, rfl, by decide +kernel, by decide +kernel⟩
theorem ok_Reader_powers {f : Addr} {fd : FuncData} {gs_Reader_atom gs_Reader_passed gs_Reader_run : FSo} (F : Fun K "powers" "Reader.powers" s_Reader_powers f fd) (T : Txt P K mg C) {kk : Nat} (hkk : 1 ≤ kk) (MI_Reader_atom : MtI P w K mg base C.Reader "atom" kk 1 gs_Reader_atom) (MI_Reader_passed : MtI P w K mg base C.Reader "passed" 1 1 gs_Reader_passed) (MI_Reader_run : MtI P w K mg base C.Reader "run" 1 1 gs_Reader_run) : FnOk P w K mg base (L2.CX P w) (kk + 1) f fd ["self", "depth"] (spOi K 2 (m_Reader_powers C.InvalidText C.Reader  gs_Reader_atom gs_Reader_passed gs_Reader_run)) := by
  refine fn_okI F sc_Reader_powers rfl (fun cdv A outer s H E hr => ⟨_, ?_, fun ds kd kx p _ hf => hf p⟩)
  have tk := takes_of (X := (cxOf (L2.CX P w) P w K mg base ["self", "depth", "found", "count", "digits"] "Reader.powers" (defScope s_Reader_powers) f cdv A outer s H E)) rfl rfl rfl rfl
  have po : PassesOwn (model P w) (cxOf (L2.CX P w) P w K mg base ["self", "depth", "found", "count", "digits"] "Reader.powers" (defScope s_Reader_powers) f cdv A outer s H E).A (cxOf (L2.CX P w) P w K mg base ["self", "depth", "found", "count", "digits"] "Reader.powers" (defScope s_Reader_powers) f cdv A outer s H E).env (cxOf (L2.CX P w) P w K mg base ["self", "depth", "found", "count", "digits"] "Reader.powers" (defScope s_Reader_powers) f cdv A outer s H E).xe := passes_of rfl
  exact (ss_cons (s_par2Z 2 3 rfl sc_Reader_powers.nd (z_meth 0 (ms := [(C.Reader, gs_Reader_atom)]) (fun c hc => by (rcases List.mem_cons.mp hc with rfl | hc; exact MI_Reader_atom; cases hc)) hr (by omega) tk (l_cons (p_var 1) l_nil)) p_int)
    (ss_cons (s_whileZ po (bz_val (z_meth 0 (ms := [(C.Reader, gs_Reader_passed)]) (fun c hc => by (rcases List.mem_cons.mp hc with rfl | hc; exact MI_Reader_passed; cases hc)) hr (by omega) tk (l_cons (p_str [94]) l_nil)))
    (ss_cons (s_aug 3 ip_add p_int sc_Reader_powers.nd)
    (ss_cons (s_if (b_cmp o_gt (PP.u (p_var 3)) (PP.u (p_globI (by rfl) T.MOST_DEPTH)))
    (ss_one (s_raise0 rfl T.x_InvalidText (by decide) (Room.mono hr (show 0 + 1 ≤ _ by omega)) tk))
    ss_nil)
    (ss_cons (s_ifZ (bz_val (z_meth 0 (ms := [(C.Reader, gs_Reader_passed)]) (fun c hc => by (rcases List.mem_cons.mp hc with rfl | hc; exact MI_Reader_passed; cases hc)) hr (by omega) tk (l_cons (p_str [42]) l_nil)))
    (ss_cons (s_set 2 (p_tup (l_cons (p_str [97, 103, 97, 105, 110]) (l_cons (p_var 2) l_nil))) sc_Reader_powers.nd)
    (ss_one s_cont))
    ss_nil)
    (ss_cons (s_setZ 4 (z_meth 0 (ms := [(C.Reader, gs_Reader_run)]) (fun c hc => by (rcases List.mem_cons.mp hc with rfl | hc; exact MI_Reader_run; cases hc)) hr (by omega) tk (l_cons (p_globS (s := [48, 49, 50, 51, 52, 53, 54, 55, 56, 57]) (by rfl) T.DIGITS) l_nil)) sc_Reader_powers.nd)
    (ss_cons (s_if (PBw.to (b_or (b_not (b_chain o_le o_le (PP.u p_int) (PP.u (p_b1 c_len T.b_len (by decide +kernel) (PP.u (p_var 4)))) (PP.u p_int))) (b_or1 (PBw.to (b_and (b_cmp (o_eq hr.units) (PP.u (p_ix (PP.u (p_var 4)) (PP.u p_int))) (PP.u (p_str [48]))) (b_and1 (b_cmp (o_ne hr.units) (PP.u (p_var 4)) (PP.u (p_str [48])))))))))
    (ss_one (s_raise0 rfl T.x_InvalidText (by decide) (Room.mono hr (show 0 + 1 ≤ _ by omega)) tk))
    ss_nil)
    (ss_one (s_set 2 (p_tup (l_cons (p_str [116, 105, 109, 101, 115]) (l_cons (p_var 2) (l_cons (p_t1 c_intS T.b_int (by decide +kernel) (PP.u (p_var 4))) l_nil)))) sc_Reader_powers.nd))))))))
    (ss_one (s_ret (p_var 2)))))
theorem sc_Reader_row : FnScope ["self", "depth", "parts"] ["self", "depth"] (defScope s_Reader_row) := ⟨rfl, rfl, rfl, by decide +kernel, rfl, by decide +kernel, by decide +kernel⟩
theorem ok_Reader_row {f : Addr} {fd : FuncData} {gs_Reader_powers gs_Reader_passed : FSo} (F : Fun K "row" "Reader.row" s_Reader_row f fd) (T : Txt P K mg C) {kk : Nat} (hkk : 1 ≤ kk) (MI_Reader_powers : MtI P w K mg base C.Reader "powers" kk 1 gs_Reader_powers) (MI_Reader_passed : MtI P w K mg base C.Reader "passed" 1 1 gs_Reader_passed) : FnOk P w K mg base (L2.CX P w) (kk + 1) f fd ["self", "depth"] (spOi K 2 (m_Reader_row C.Reader  gs_Reader_powers gs_Reader_passed)) := by
  refine fn_okI F sc_Reader_row rfl (fun cdv A outer s H E hr => ⟨_, ?_, fun ds kd kx p _ hf => hf p⟩)
  have tk := takes_of (X := (cxOf (L2.CX P w) P w K mg base ["self", "depth", "parts"] "Reader.row" (defScope s_Reader_row) f cdv A outer s H E)) rfl rfl rfl rfl
  have po : PassesOwn (model P w) (cxOf (L2.CX P w) P w K mg base ["self", "depth", "parts"] "Reader.row" (defScope s_Reader_row) f cdv A outer s H E).A (cxOf (L2.CX P w) P w K mg base ["self", "depth", "parts"] "Reader.row" (defScope s_Reader_row) f cdv A outer s H E).env (cxOf (L2.CX P w) P w K mg base ["self", "depth", "parts"] "Reader.row" (defScope s_Reader_row) f cdv A outer s H E).xe := passes_of rfl
  exact (ss_cons (s_own1Z 2 (z_meth 0 (ms := [(C.Reader, gs_Reader_powers)]) (fun c hc => by (rcases List.mem_cons.mp hc with rfl | hc; exact MI_Reader_powers; cases hc)) hr (by omega) tk (l_cons (p_var 1) l_nil)) sc_Reader_row.nd)
    (ss_cons (s_whileZ po (bz_val (z_meth 0 (ms := [(C.Reader, gs_Reader_passed)]) (fun c hc => by (rcases List.mem_cons.mp hc with rfl | hc; exact MI_Reader_passed; cases hc)) hr (by omega) tk (l_cons (p_str [46]) l_nil)))
    (ss_one (s_appendZ 2 (z_meth 0 (ms := [(C.Reader, gs_Reader_powers)]) (fun c hc => by (rcases List.mem_cons.mp hc with rfl | hc; exact MI_Reader_powers; cases hc)) hr (by omega) tk (l_cons (p_var 1) l_nil)) (fun _ pa => pe_bm PySem.F.plainAttrs_list PySem.F.slot_list_append PySem.F.type_list_append mt_append (pv 2) (pa_cons pa pa_nil)))))
    (ss_one (s_ret (p_ifExp (b_cmp o_gt (PP.u (p_b1 c_len T.b_len (by decide +kernel) (u_var 2))) (PP.u p_int)) (p_tup (l_cons (p_str [116, 104, 101, 110]) (l_star (u_var 2) l_nil))) (p_ix (u_var 2) (PP.u p_int)))))))
theorem sc_read_script : FnScope ["text", "reader", "found"] ["text"] (defScope s_read_script) := ⟨rfl, rfl, rfl, by decide +kernel, rfl, by decide +kernel, by decide +kernel⟩
theorem ok_read_script {f : Addr} {fd : FuncData} {fs_text_of fs_is_tree : FS} {g_Reader gs_Reader_row : FSo} (F : Fun K "read_script" "read_script" s_read_script f fd) (T : Txt P K mg C) (D_text_of : Df P w K mg base "text_of" 22 1 fs_text_of) (Mk_Reader : MkI P w K mg base C.Reader 1 1 g_Reader) (MI_Reader_row : MtI P w K mg base C.Reader "row" 43 1 gs_Reader_row) (DR_is_tree : DfR P w K mg base "is_tree" 18 1 fs_is_tree) : FnOk P w K mg base (L2.CX P w) (43 + 1) f fd ["text"] (spOf K 1 (m_read_script C.InvalidText C.Reader fs_text_of fs_is_tree g_Reader gs_Reader_row)) := by
  refine fn_ok F sc_read_script rfl (fun cdv A outer s H E hr => ⟨_, ?_, fun ds kd kx _ hf => hf⟩)
  have tk := takes_of (X := (cxOf (L2.CX P w) P w K mg base ["text", "reader", "found"] "read_script" (defScope s_read_script) f cdv A outer s H E)) rfl rfl rfl rfl
  have po : PassesOwn (model P w) (cxOf (L2.CX P w) P w K mg base ["text", "reader", "found"] "read_script" (defScope s_read_script) f cdv A outer s H E).A (cxOf (L2.CX P w) P w K mg base ["text", "reader", "found"] "read_script" (defScope s_read_script) f cdv A outer s H E).env (cxOf (L2.CX P w) P w K mg base ["text", "reader", "found"] "read_script" (defScope s_read_script) f cdv A outer s H E).xe := passes_of rfl
  exact (ss_cons (s_if (b_not (b_val (p_isi "str" (PP.u (p_var 0)) (pe_bltn (v := .ty "str") (by rfl) T.b_str (by decide +kernel) rfl) T.b_isinstance)))
    (ss_one (s_raise0 rfl T.x_InvalidText (by decide) hr tk))
    ss_nil)
    (ss_cons (s_own 1 (n_make Mk_Reader hr (by decide) tk T.g_Reader (l_cons (p_var 0) l_nil)) sc_read_script.nd)
    (ss_cons (s_setZ 2 (z_meth 1 (ms := [(C.Reader, gs_Reader_row)]) (fun c hc => by (rcases List.mem_cons.mp hc with rfl | hc; exact MI_Reader_row; cases hc)) hr (by decide) tk (l_cons (p_op o_add (PP.u (p_globI (by rfl) T.MOST_DEPTH)) (PP.u p_int)) l_nil)) sc_read_script.nd)
    (ss_cons (s_if (PBw.to (b_or (b_cmp (o_ne hr.units) (PP.u (p_fld (cs := [C.Reader]) (fun c hc => by (rcases List.mem_cons.mp hc with rfl | hc; exact T.n_Reader_text_left; cases hc)) (u_var 1))) (PP.u (p_str []))) (b_or (b_not (b_val (p_callR DR_is_tree hr (by decide) tk (l_cons (p_var 2) l_nil)))) (b_or1 (b_cmp (o_ne hr.units) (PP.u (p_call D_text_of hr (by decide) tk (l_cons (p_var 2) l_nil))) (PP.u (p_var 0)))))))
    (ss_one (s_raise0 rfl T.x_InvalidText (by decide) hr tk))
    ss_nil)
    (ss_one (s_ret (p_var 2)))))))
theorem sc_listed_names : FnScope ["tree", "found", "part"] ["tree", "found"] (defScope s_listed_names) := ⟨rfl, rfl, rfl, by decide +kernel, rfl, by decide +kernel, by decide +kernel⟩
theorem ok_listed_names {f : Addr} {fd : FuncData} {fs_inner : FS} {fs_listed_names : FSo} (F : Fun K "listed_names" "listed_names" s_listed_names f fd) (T : Txt P K mg C) {kk : Nat} (hkk : 1 ≤ kk) (D_inner : Df P w K mg base "inner" 1 1 fs_inner) (DO_listed_names : DfO P w K mg base "listed_names" kk 2 1 fs_listed_names) : FnOk P w K mg base (L2.CX P w) (kk + 1) f fd ["tree", "found"] (spQ K 2 1 (m_listed_names  fs_inner fs_listed_names)) := by
  refine fn_okQ F sc_listed_names rfl (fun cdv A outer s H E hr => ⟨_, ?_, fun ds kd kx p _ hf => hf p⟩)
  have tk := takes_of (X := (cxOf (L2.CX P w) P w K mg base ["tree", "found", "part"] "listed_names" (defScope s_listed_names) f cdv A outer s H E)) rfl rfl rfl rfl
  have po : PassesOwn (model P w) (cxOf (L2.CX P w) P w K mg base ["tree", "found", "part"] "listed_names" (defScope s_listed_names) f cdv A outer s H E).A (cxOf (L2.CX P w) P w K mg base ["tree", "found", "part"] "listed_names" (defScope s_listed_names) f cdv A outer s H E).env (cxOf (L2.CX P w) P w K mg base ["tree", "found", "part"] "listed_names" (defScope s_listed_names) f cdv A outer s H E).xe := passes_of rfl
  exact (ss_cons (s_if (PBw.to (b_and (b_cmp (o_eq hr.units) (PP.u (p_ix (PP.u (p_var 0)) (PP.u p_int))) (PP.u (p_str [110, 97, 109, 101]))) (b_and1 (b_cmp (o_notInDT hr.units) (PP.u (p_ix (PP.u (p_var 0)) (PP.u p_int))) (u_var 1)))))
    (ss_one (s_append 1 (p_ix (PP.u (p_var 0)) (PP.u p_int)) (fun _ pa => pe_bm PySem.F.plainAttrs_list PySem.F.slot_list_append PySem.F.type_list_append mt_append (pv 1) (pa_cons pa pa_nil))))
    ss_nil)
    (ss_one (s_for po rfl (i_lst (p_call D_inner hr (by omega) tk (l_cons (p_var 0) l_nil))) (g_name 2 sc_listed_names.nd)
    (ss_one (s_exprX 1 (x_callO DO_listed_names hr (by omega) tk (lo_cons (p_var 2) (lo_here 1 l_nil))))))))
theorem sc_names_in : FnScope ["tree", "found"] ["tree"] (defScope s_names_in) := ⟨rfl, rfl, rfl, by decide +kernel, rfl, by decide +kernel, by decide +kernel⟩
theorem ok_names_in {f : Addr} {fd : FuncData} {fs_need_tree : FS} {fs_listed_names : FSo} (F : Fun K "names_in" "names_in" s_names_in f fd) (T : Txt P K mg C) (D_need_tree : Df P w K mg base "need_tree" 19 1 fs_need_tree) (DO_listed_names : DfO P w K mg base "listed_names" 17 2 1 fs_listed_names) : FnOk P w K mg base (L2.CX P w) (19 + 1) f fd ["tree"] (spOf K 1 (m_names_in  fs_need_tree fs_listed_names)) := by
  refine fn_ok F sc_names_in rfl (fun cdv A outer s H E hr => ⟨_, ?_, fun ds kd kx _ hf => hf⟩)
  have tk := takes_of (X := (cxOf (L2.CX P w) P w K mg base ["tree", "found"] "names_in" (defScope s_names_in) f cdv A outer s H E)) rfl rfl rfl rfl
  have po : PassesOwn (model P w) (cxOf (L2.CX P w) P w K mg base ["tree", "found"] "names_in" (defScope s_names_in) f cdv A outer s H E).A (cxOf (L2.CX P w) P w K mg base ["tree", "found"] "names_in" (defScope s_names_in) f cdv A outer s H E).env (cxOf (L2.CX P w) P w K mg base ["tree", "found"] "names_in" (defScope s_names_in) f cdv A outer s H E).xe := passes_of rfl
  exact (ss_cons (s_expr (PP.u (p_call D_need_tree hr (by decide) tk (l_cons (p_var 0) l_nil))))
    (ss_cons (s_own 1 (n_lst l_nil) sc_names_in.nd)
    (ss_cons (s_exprX 1 (x_callO DO_listed_names hr (by decide) tk (lo_cons (p_var 0) (lo_here 1 l_nil))))
    (ss_one (s_retOwnP 1)))))
theorem sc_law_pull : FnScope ["_law_bag", "_law_many", "_law_cell", "_law_got", "_law_seed"] ["_law_bag", "_law_many"] (defScope s_law_pull) := ⟨rfl, rfl, rfl, by decide +kernel, rfl, by decide +kernel, by decide +kernel⟩
theorem ok_law_pull {f : Addr} {fd : FuncData} (F : Fun K "_law_pull" "_law_pull" s_law_pull f fd) (T : Txt P K mg C)  : FnOk P w K mg base (L2.CX P w) (0 + 1) f fd ["_law_bag", "_law_many"] (spOw K 2 0 (m_law_pull   )) := by
  refine fn_okO F sc_law_pull rfl (fun cdv A outer s H E hr => ⟨_, ?_, fun ds kd kx p _ hf => hf p⟩)
  have tk := takes_of (X := (cxOf (L2.CX P w) P w K mg base ["_law_bag", "_law_many", "_law_cell", "_law_got", "_law_seed"] "_law_pull" (defScope s_law_pull) f cdv A outer s H E)) rfl rfl rfl rfl
  have po : PassesOwn (model P w) (cxOf (L2.CX P w) P w K mg base ["_law_bag", "_law_many", "_law_cell", "_law_got", "_law_seed"] "_law_pull" (defScope s_law_pull) f cdv A outer s H E).A (cxOf (L2.CX P w) P w K mg base ["_law_bag", "_law_many", "_law_cell", "_law_got", "_law_seed"] "_law_pull" (defScope s_law_pull) f cdv A outer s H E).env (cxOf (L2.CX P w) P w K mg base ["_law_bag", "_law_many", "_law_cell", "_law_got", "_law_seed"] "_law_pull" (defScope s_law_pull) f cdv A outer s H E).xe := passes_of rfl
  exact (ss_cons (s_if (PBw.to (b_and (b_cmp (o_eq hr.units) (PP.u (p_ix (u_var 0) (PP.u p_int))) (PP.u p_int)) (b_and1 (b_cmp o_lt (PP.u (p_ix (u_var 0) (PP.u p_int))) (PP.u (p_b1 c_len T.b_len (by decide +kernel) (PP.u (p_ix (u_var 0) (PP.u p_int)))))))))
    (ss_cons (s_set 2 (p_ix (PP.u (p_ix (u_var 0) (PP.u p_int))) (PP.u (p_ix (u_var 0) (PP.u p_int)))) sc_law_pull.nd)
    (ss_cons (s_setIx 0 (pv 0) p_int (p_op o_add (PP.u (p_ix (u_var 0) (PP.u p_int))) (PP.u p_int)) (fun pi pe => ps_asg pe (pg_sub (pv 0) pi set_list)))
    (ss_one (s_if (b_cmp o_ge (PP.u (p_var 2)) (PP.u (p_op o_pow (PP.u p_int) (PP.u p_int))))
    (ss_one (s_setIx 0 (pv 0) p_int (p_var 2) (fun pi pe => ps_asg pe (pg_sub (pv 0) pi set_list))))
    (ss_one (s_setIx 0 (pv 0) p_int (p_op o_mod (PP.u (p_t1 c_int T.b_int (by decide +kernel) (PP.u (p_op o_add (PP.u (p_op o_add (PP.u (p_op o_mul (PP.u (p_ix (u_var 0) (PP.u p_int))) (PP.u p_int))) (PP.u (p_op o_mul (PP.u (p_op o_mod (PP.u (p_t1 c_int T.b_int (by decide +kernel) (PP.u (p_var 2)))) (PP.u p_int))) (PP.u p_int))))) (PP.u p_int))))) (PP.u p_int)) (fun pi pe => ps_asg pe (pg_sub (pv 0) pi set_list))))))))
    ss_nil)
    (ss_cons (s_if (b_cmp o_gt (PP.u (p_ix (u_var 0) (PP.u p_int))) (PP.u p_int))
    (ss_cons (s_set 3 (p_op o_mod (PP.u (p_t1 c_int T.b_int (by decide +kernel) (PP.u (p_ix (u_var 0) (PP.u p_int))))) (PP.u (p_var 1))) sc_law_pull.nd)
    (ss_cons (s_setIx 0 (pv 0) p_int (p_op o_fdivW (PP.u (p_ix (u_var 0) (PP.u p_int))) (PP.u (p_var 1))) (fun pi pe => ps_asg pe (pg_sub (pv 0) pi set_list)))
    (ss_one (s_ret (p_var 3)))))
    ss_nil)
    (ss_cons (s_set 4 (p_ix (u_var 0) (PP.u p_int)) sc_law_pull.nd)
    (ss_cons (s_setIx 0 (pv 0) p_int (p_op o_mod (PP.u (p_t1 c_int T.b_int (by decide +kernel) (PP.u (p_op o_add (PP.u (p_op o_add (PP.u (p_op o_mul (PP.u (p_var 4)) (PP.u (p_var 4)))) (PP.u (p_op o_mul (PP.u (p_var 4)) (PP.u p_int))))) (PP.u p_int))))) (PP.u p_int)) (fun pi pe => ps_asg pe (pg_sub (pv 0) pi set_list)))
    (ss_one (s_ret (p_op o_mod (PP.u (p_t1 c_int T.b_int (by decide +kernel) (PP.u (p_op o_add (PP.u (p_op o_fdivW (PP.u (p_ix (u_var 0) (PP.u p_int))) (PP.u p_int))) (PP.u (p_op o_mul (PP.u (p_op o_mod (PP.u (p_t1 c_int T.b_int (by decide +kernel) (PP.u (p_ix (u_var 0) (PP.u p_int))))) (PP.u p_int))) (PP.u p_int))))))) (PP.u (p_var 1)))))))))
theorem sc_law_pick : FnScope ["_law_bag", "_law_some"] ["_law_bag", "_law_some"] (defScope s_law_pick) := ⟨rfl, rfl, rfl, by decide +kernel, rfl, by decide +kernel, by decide +kernel⟩
theorem ok_law_pick {f : Addr} {fd : FuncData} {fs_law_pull : FS} (F : Fun K "_law_pick" "_law_pick" s_law_pick f fd) (T : Txt P K mg C) (D_law_pull : Df P w K mg base "_law_pull" 1 2 fs_law_pull) : FnOk P w K mg base (L2.CX P w) (1 + 1) f fd ["_law_bag", "_law_some"] (spOf K 2 (m_law_pick  fs_law_pull )) := by
  refine fn_ok F sc_law_pick rfl (fun cdv A outer s H E hr => ⟨_, ?_, fun ds kd kx _ hf => hf⟩)
  have tk := takes_of (X := (cxOf (L2.CX P w) P w K mg base ["_law_bag", "_law_some"] "_law_pick" (defScope s_law_pick) f cdv A outer s H E)) rfl rfl rfl rfl
  have po : PassesOwn (model P w) (cxOf (L2.CX P w) P w K mg base ["_law_bag", "_law_some"] "_law_pick" (defScope s_law_pick) f cdv A outer s H E).A (cxOf (L2.CX P w) P w K mg base ["_law_bag", "_law_some"] "_law_pick" (defScope s_law_pick) f cdv A outer s H E).env (cxOf (L2.CX P w) P w K mg base ["_law_bag", "_law_some"] "_law_pick" (defScope s_law_pick) f cdv A outer s H E).xe := passes_of rfl
  exact (ss_one (s_ret (p_ix (PP.u (p_var 1)) (PP.u (p_call D_law_pull hr (by decide) tk (l_cons (p_var 0) (l_cons (p_b1 c_len T.b_len (by decide +kernel) (PP.u (p_var 1))) l_nil)))))))
theorem sc_law_name : FnScope ["_law_bag", "_law_k"] ["_law_bag"] (defScope s_law_name) := ⟨rfl, rfl, rfl, by decide +kernel, rfl, by decide +kernel, by decide +kernel⟩
theorem ok_law_name {f : Addr} {fd : FuncData} {fs_law_pick fs_law_pull : FS} (F : Fun K "_law_name" "_law_name" s_law_name f fd) (T : Txt P K mg C) (D_law_pick : Df P w K mg base "_law_pick" 2 2 fs_law_pick) (D_law_pull : Df P w K mg base "_law_pull" 1 2 fs_law_pull) : FnOk P w K mg base (L2.CX P w) (2 + 1) f fd ["_law_bag"] (spOf K 1 (m_law_name  fs_law_pick fs_law_pull )) := by
  refine fn_ok F sc_law_name rfl (fun cdv A outer s H E hr => ⟨_, ?_, fun ds kd kx _ hf => hf⟩)
  have tk := takes_of (X := (cxOf (L2.CX P w) P w K mg base ["_law_bag", "_law_k"] "_law_name" (defScope s_law_name) f cdv A outer s H E)) rfl rfl rfl rfl
  have po : PassesOwn (model P w) (cxOf (L2.CX P w) P w K mg base ["_law_bag", "_law_k"] "_law_name" (defScope s_law_name) f cdv A outer s H E).A (cxOf (L2.CX P w) P w K mg base ["_law_bag", "_law_k"] "_law_name" (defScope s_law_name) f cdv A outer s H E).env (cxOf (L2.CX P w) P w K mg base ["_law_bag", "_law_k"] "_law_name" (defScope s_law_name) f cdv A outer s H E).xe := passes_of rfl
  exact (ss_one (s_ret (p_join (p_str []) (PP.u (p_lc [("_law_k", 1)] rfl sc_law_name.nd (i_rng1 T.b_range (l_cons (p_call D_law_pick hr (by decide) tk (l_cons (p_var 0) (l_cons (p_lst (l_cons p_int (l_cons p_int (l_cons p_int (l_cons p_int (l_cons (p_op o_add (PP.u p_int) (PP.u (p_call D_law_pull hr (by decide) tk (l_cons (p_var 0) (l_cons p_int l_nil))))) l_nil)))))) l_nil))) l_nil)) (blkOk_by (N := ["_law_bag", "_law_k"]) (sc := defScope s_law_name) (by decide +kernel)) (fun _ => (g_name 1 sc_law_name.nd)) (fun _ => bs_nil) (fun _ => (p_call D_law_pick hr (by decide) takes0 (l_cons (p_var 0) (l_cons (p_str [65, 66, 67, 68, 69, 70, 71, 72, 73, 74, 75, 76, 77, 78, 79, 80, 81, 82, 83, 84, 85, 86, 87, 88, 89, 90]) l_nil)))))) (fun _ _ pa pb => pe_join pa pb))))
theorem sc_law_letters : FnScope [] [] (defScope s_law_letters) := ⟨rfl, rfl, rfl, by decide +kernel, rfl, by decide +kernel, by decide +kernel⟩
theorem ok_law_letters {f : Addr} {fd : FuncData} (F : Fun K "_law_letters" "_law_letters" s_law_letters f fd) (T : Txt P K mg C)  : FnOk P w K mg base (L2.CX P w) (0 + 1) f fd [] (spOf K 0 (m_law_letters   )) := by
  refine fn_ok F sc_law_letters rfl (fun cdv A outer s H E hr => ⟨_, ?_, fun ds kd kx _ hf => hf⟩)
  have tk := takes_of (X := (cxOf (L2.CX P w) P w K mg base [] "_law_letters" (defScope s_law_letters) f cdv A outer s H E)) rfl rfl rfl rfl
  have po : PassesOwn (model P w) (cxOf (L2.CX P w) P w K mg base [] "_law_letters" (defScope s_law_letters) f cdv A outer s H E).A (cxOf (L2.CX P w) P w K mg base [] "_law_letters" (defScope s_law_letters) f cdv A outer s H E).env (cxOf (L2.CX P w) P w K mg base [] "_law_letters" (defScope s_law_letters) f cdv A outer s H E).xe := passes_of rfl
  exact (ss_one (s_ret (p_str [97, 98, 99, 100, 101, 102, 103, 104, 105, 106, 107, 108, 109, 110, 111, 112, 113, 114, 115, 116, 117, 118, 119, 120, 121, 122])))
theorem sc_law_alphabet : FnScope ["_law_bag", "_law_most", "_law_many", "_law_found", "_law_at", "_law_room", "_law_k", "_law_gap"] ["_law_bag", "_law_most"] (defScope s_law_alphabet) := ⟨rfl, rfl, rfl, by decide +kernel, rfl, by decide +kernel, by decide +kernel⟩
theorem ok_law_alphabet {f : Addr} {fd : FuncData} {fs_law_pull fs_law_pick fs_law_letters : FS} (F : Fun K "_law_alphabet" "_law_alphabet" s_law_alphabet f fd) (T : Txt P K mg C) (D_law_pull : Df P w K mg base "_law_pull" 1 2 fs_law_pull) (D_law_pick : Df P w K mg base "_law_pick" 2 2 fs_law_pick) (D_law_letters : Df P w K mg base "_law_letters" 1 0 fs_law_letters) : FnOk P w K mg base (L2.CX P w) (2 + 1) f fd ["_law_bag", "_law_most"] (spOf K 2 (m_law_alphabet  fs_law_pull fs_law_pick fs_law_letters )) := by
  refine fn_ok F sc_law_alphabet rfl (fun cdv A outer s H E hr => ⟨_, ?_, fun ds kd kx _ hf => hf⟩)
  have tk := takes_of (X := (cxOf (L2.CX P w) P w K mg base ["_law_bag", "_law_most", "_law_many", "_law_found", "_law_at", "_law_room", "_law_k", "_law_gap"] "_law_alphabet" (defScope s_law_alphabet) f cdv A outer s H E)) rfl rfl rfl rfl
  have po : PassesOwn (model P w) (cxOf (L2.CX P w) P w K mg base ["_law_bag", "_law_most", "_law_many", "_law_found", "_law_at", "_law_room", "_law_k", "_law_gap"] "_law_alphabet" (defScope s_law_alphabet) f cdv A outer s H E).A (cxOf (L2.CX P w) P w K mg base ["_law_bag", "_law_most", "_law_many", "_law_found", "_law_at", "_law_room", "_law_k", "_law_gap"] "_law_alphabet" (defScope s_law_alphabet) f cdv A outer s H E).env (cxOf (L2.CX P w) P w K mg base ["_law_bag", "_law_most", "_law_many", "_law_found", "_law_at", "_law_room", "_law_k", "_law_gap"] "_law_alphabet" (defScope s_law_alphabet) f cdv A outer s H E).xe := passes_of rfl
  exact (ss_cons (s_set 2 (p_op o_add (PP.u p_int) (PP.u (p_call D_law_pull hr (by decide) tk (l_cons (p_var 0) (l_cons (p_var 1) l_nil))))) sc_law_alphabet.nd)
    (ss_cons (s_par3 3 4 5 rfl sc_law_alphabet.nd (l_cons (p_str []) (l_cons p_int (l_cons (p_op o_sub (PP.u p_int) (PP.u (p_var 2))) l_nil))))
    (ss_cons (s_for po rfl (i_rng1 T.b_range (l_cons (p_var 2) l_nil)) (g_name 6 sc_law_alphabet.nd)
    (ss_cons (s_set 7 (p_call D_law_pick hr (by decide) tk (l_cons (p_var 0) (l_cons (p_lst (l_cons p_int (l_cons (p_call D_law_pull hr (by decide) tk (l_cons (p_var 0) (l_cons (p_op o_add (PP.u (p_var 5)) (PP.u p_int)) l_nil))) (l_cons (p_bn (c_min2 rfl) T.b_min (by decide +kernel) (l_cons (p_var 5) (l_cons (p_call D_law_pull hr (by decide) tk (l_cons (p_var 0) (l_cons p_int l_nil))) l_nil))) l_nil)))) l_nil))) sc_law_alphabet.nd)
    (ss_cons (s_par2 4 5 rfl sc_law_alphabet.nd (l_cons (p_op o_add (PP.u (p_var 4)) (PP.u (p_var 7))) (l_cons (p_op o_sub (PP.u (p_var 5)) (PP.u (p_var 7))) l_nil)))
    (ss_cons (s_set 3 (p_op o_add (PP.u (p_var 3)) (PP.u (p_ix (PP.u (p_call0 D_law_letters hr (by decide) tk)) (PP.u (p_var 4))))) sc_law_alphabet.nd)
    (ss_one (s_set 4 (p_op o_add (PP.u (p_var 4)) (PP.u p_int)) sc_law_alphabet.nd))))))
    (ss_one (s_ret (p_var 3))))))
theorem sc_law_drawn : FnScope ["_law_bag", "_law_deeds", "_law_most", "_law_size", "_law_found", "_law_k", "_law_way"] ["_law_bag", "_law_deeds", "_law_most"] (defScope s_law_drawn) := ⟨rfl, rfl, rfl, by decide +kernel, rfl, by decide +kernel, by decide +kernel⟩
theorem ok_law_drawn {f : Addr} {fd : FuncData} {fs_law_pick fs_law_pull : FS} (F : Fun K "_law_drawn" "_law_drawn" s_law_drawn f fd) (T : Txt P K mg C) (D_law_pick : Df P w K mg base "_law_pick" 2 2 fs_law_pick) (D_law_pull : Df P w K mg base "_law_pull" 1 2 fs_law_pull) : FnOk P w K mg base (L2.CX P w) (2 + 1) f fd ["_law_bag", "_law_deeds", "_law_most"] (spOf K 3 (m_law_drawn  fs_law_pick fs_law_pull )) := by
  refine fn_ok F sc_law_drawn rfl (fun cdv A outer s H E hr => ⟨_, ?_, fun ds kd kx _ hf => hf⟩)
  have tk := takes_of (X := (cxOf (L2.CX P w) P w K mg base ["_law_bag", "_law_deeds", "_law_most", "_law_size", "_law_found", "_law_k", "_law_way"] "_law_drawn" (defScope s_law_drawn) f cdv A outer s H E)) rfl rfl rfl rfl
  have po : PassesOwn (model P w) (cxOf (L2.CX P w) P w K mg base ["_law_bag", "_law_deeds", "_law_most", "_law_size", "_law_found", "_law_k", "_law_way"] "_law_drawn" (defScope s_law_drawn) f cdv A outer s H E).A (cxOf (L2.CX P w) P w K mg base ["_law_bag", "_law_deeds", "_law_most", "_law_size", "_law_found", "_law_k", "_law_way"] "_law_drawn" (defScope s_law_drawn) f cdv A outer s H E).env (cxOf (L2.CX P w) P w K mg base ["_law_bag", "_law_deeds", "_law_most", "_law_size", "_law_found", "_law_k", "_law_way"] "_law_drawn" (defScope s_law_drawn) f cdv A outer s H E).xe := passes_of rfl
  exact (ss_cons (s_par2 3 4 rfl sc_law_drawn.nd (l_cons (p_call D_law_pick hr (by decide) tk (l_cons (p_var 0) (l_cons (p_lst (l_cons (p_call D_law_pull hr (by decide) tk (l_cons (p_var 0) (l_cons (p_op o_add (PP.u (p_var 2)) (PP.u p_int)) l_nil))) (l_cons (p_call D_law_pull hr (by decide) tk (l_cons (p_var 0) (l_cons (p_op o_add (PP.u (p_bn (c_min2 rfl) T.b_min (by decide +kernel) (l_cons (p_var 2) (l_cons p_int l_nil)))) (PP.u p_int)) l_nil))) l_nil))) l_nil))) (l_cons (p_str []) l_nil)))
    (ss_cons (s_for po rfl (i_rng1 T.b_range (l_cons (p_var 3) l_nil)) (g_name 5 sc_law_drawn.nd)
    (ss_cons (s_set 6 (p_call D_law_pull hr (by decide) tk (l_cons (p_var 0) (l_cons p_int l_nil))) sc_law_drawn.nd)
    (ss_cons (s_if (PBw.to (b_and (b_cmp (o_eq hr.units) (PP.u (p_var 6)) (PP.u p_int)) (b_and1 (b_cmp (o_ne hr.units) (PP.u (p_var 4)) (PP.u (p_str []))))))
    (ss_one (s_set 4 (p_op o_add (PP.u (p_var 4)) (PP.u (p_slice (PP.u (p_var 4)) (s_some (p_op o_sub (PP.u (p_op o_sub (PP.u (p_b1 c_len T.b_len (by decide +kernel) (PP.u (p_var 4)))) (PP.u p_int))) (PP.u (p_call D_law_pull hr (by decide) tk (l_cons (p_var 0) (l_cons (p_b1 c_len T.b_len (by decide +kernel) (PP.u (p_var 4))) l_nil)))))) s_none))) sc_law_drawn.nd))
    (ss_one (s_if (PBw.to (b_and (b_cmp (o_eq hr.units) (PP.u (p_var 6)) (PP.u p_int)) (b_and1 (b_cmp o_gt (PP.u (p_b1 c_len T.b_len (by decide +kernel) (PP.u (p_var 4)))) (PP.u p_int)))))
    (ss_one (s_set 4 (p_op o_add (PP.u (p_var 4)) (PP.u (p_ix (PP.u (p_var 4)) (PP.u (p_call D_law_pull hr (by decide) tk (l_cons (p_var 0) (l_cons (p_b1 c_len T.b_len (by decide +kernel) (PP.u (p_var 4))) l_nil))))))) sc_law_drawn.nd))
    (ss_one (s_set 4 (p_op o_add (PP.u (p_var 4)) (PP.u (p_call D_law_pick hr (by decide) tk (l_cons (p_var 0) (l_cons (p_var 1) l_nil))))) sc_law_drawn.nd)))))
    (ss_one (s_set 4 (p_slice (PP.u (p_var 4)) s_none (s_some (p_var 2))) sc_law_drawn.nd)))))
    (ss_one (s_ret (p_slice (PP.u (p_var 4)) s_none (s_some (p_var 3)))))))
theorem sc_law_row : FnScope ["_law_parts", "_law_row_here", "_law_part", "_law_one"] ["_law_parts"] (defScope s_law_row) := ⟨rfl, rfl, rfl, by decide +kernel, rfl, by decide +kernel, by decide +kernel⟩
theorem ok_law_row {f : Addr} {fd : FuncData} (F : Fun K "_law_row" "_law_row" s_law_row f fd) (T : Txt P K mg C)  : FnOk P w K mg base (L2.CX P w) (0 + 1) f fd ["_law_parts"] (spOf K 1 (m_law_row   )) := by
  refine fn_ok F sc_law_row rfl (fun cdv A outer s H E hr => ⟨_, ?_, fun ds kd kx _ hf => hf⟩)
  have tk := takes_of (X := (cxOf (L2.CX P w) P w K mg base ["_law_parts", "_law_row_here", "_law_part", "_law_one"] "_law_row" (defScope s_law_row) f cdv A outer s H E)) rfl rfl rfl rfl
  have po : PassesOwn (model P w) (cxOf (L2.CX P w) P w K mg base ["_law_parts", "_law_row_here", "_law_part", "_law_one"] "_law_row" (defScope s_law_row) f cdv A outer s H E).A (cxOf (L2.CX P w) P w K mg base ["_law_parts", "_law_row_here", "_law_part", "_law_one"] "_law_row" (defScope s_law_row) f cdv A outer s H E).env (cxOf (L2.CX P w) P w K mg base ["_law_parts", "_law_row_here", "_law_part", "_law_one"] "_law_row" (defScope s_law_row) f cdv A outer s H E).xe := passes_of rfl
  exact (ss_cons (s_own 1 (n_lst l_nil) sc_law_row.nd)
    (ss_cons (s_for po rfl (i_lst (p_var 0)) (g_name 2 sc_law_row.nd)
    (ss_one (s_for po rfl (i_lst (p_ifExp (b_cmp (o_eq hr.units) (PP.u (p_ix (PP.u (p_var 2)) (PP.u p_int))) (PP.u (p_str [116, 104, 101, 110]))) (p_t1 c_list T.b_list (by decide +kernel) (PP.u (p_slice (PP.u (p_var 2)) (s_some p_int) s_none))) (p_lst (l_cons (p_var 2) l_nil)))) (g_name 3 sc_law_row.nd)
    (ss_one (s_if (PBw.to (b_and (b_cmp (o_eq hr.units) (PP.u (p_ix (PP.u (p_var 3)) (PP.u p_int))) (PP.u (p_str [100, 101, 101, 100, 115]))) (b_and (b_cmp (o_ne hr.units) (u_var 1) (PP.u (p_lst l_nil))) (b_and1 (b_cmp (o_eq hr.units) (PP.u (p_ix (PP.u (p_ix (u_var 1) (PP.u (p_neg p_int)))) (PP.u p_int))) (PP.u (p_str [100, 101, 101, 100, 115])))))))
    (ss_one (s_setIx 1 (pv 1) (p_neg p_int) (p_tup (l_cons (p_str [100, 101, 101, 100, 115]) (l_cons (p_op o_add (PP.u (p_ix (PP.u (p_ix (u_var 1) (PP.u (p_neg p_int)))) (PP.u p_int))) (PP.u (p_ix (PP.u (p_var 3)) (PP.u p_int)))) l_nil))) (fun pi pe => ps_asg pe (pg_sub (pv 1) pi set_list))))
    (ss_one (s_if (b_cmp (o_ne hr.units) (PP.u (p_var 3)) (PP.u (p_tup (l_cons (p_str [100, 101, 101, 100, 115]) (l_cons (p_str []) l_nil)))))
    (ss_one (s_append 1 (p_var 3) (fun _ pa => pe_bm PySem.F.plainAttrs_list PySem.F.slot_list_append PySem.F.type_list_append mt_append (pv 1) (pa_cons pa pa_nil))))
    ss_nil)))))))
    (ss_cons (s_set 1 (p_slice (u_var 1) s_none (s_some p_int)) sc_law_row.nd)
    (ss_cons (s_if (b_cmp (o_eq hr.units) (PP.u (p_var 1)) (PP.u (p_lst l_nil)))
    (ss_one (s_ret (p_tup (l_cons (p_str [100, 101, 101, 100, 115]) (l_cons (p_str []) l_nil)))))
    ss_nil)
    (ss_one (s_ret (p_ifExp (b_cmp (o_eq hr.units) (PP.u (p_b1 c_len T.b_len (by decide +kernel) (PP.u (p_var 1)))) (PP.u p_int)) (p_ix (PP.u (p_var 1)) (PP.u p_int)) (p_t1 c_tup T.b_tuple (by decide +kernel) (PP.u (p_op o_add (PP.u (p_lst (l_cons (p_str [116, 104, 101, 110]) l_nil))) (PP.u (p_var 1))))))))))))
theorem sc_law_tree : FnScope ["_law_bag", "_law_deeds", "_law_names_here", "_law_depth", "_law_words", "_law_way", "_law_one", "_law_parts", "_law_k"] ["_law_bag", "_law_deeds", "_law_names_here", "_law_depth", "_law_words"] (defScope s_law_tree) := ⟨rfl, rfl, rfl, by decide +kernel, rfl, by decide +kernel, by decide +kernel⟩
theorem ok_law_tree {f : Addr} {fd : FuncData} {fs_law_pick fs_law_drawn fs_law_tree fs_law_pull fs_law_row : FS} (F : Fun K "_law_tree" "_law_tree" s_law_tree f fd) (T : Txt P K mg C) {kk : Nat} (hkk : 3 ≤ kk) (D_law_pick : Df P w K mg base "_law_pick" 2 2 fs_law_pick) (D_law_drawn : Df P w K mg base "_law_drawn" 3 3 fs_law_drawn) (D_law_tree : Df P w K mg base "_law_tree" kk 5 fs_law_tree) (D_law_pull : Df P w K mg base "_law_pull" 1 2 fs_law_pull) (D_law_row : Df P w K mg base "_law_row" 1 1 fs_law_row) : FnOk P w K mg base (L2.CX P w) (kk + 1) f fd ["_law_bag", "_law_deeds", "_law_names_here", "_law_depth", "_law_words"] (spOf K 5 (mk_law_tree  fs_law_pick fs_law_drawn fs_law_tree fs_law_pull fs_law_row )) := by
  refine fn_ok F sc_law_tree rfl (fun cdv A outer s H E hr => ⟨_, ?_, fun ds kd kx _ hf => hf⟩)
  have tk := takes_of (X := (cxOf (L2.CX P w) P w K mg base ["_law_bag", "_law_deeds", "_law_names_here", "_law_depth", "_law_words", "_law_way", "_law_one", "_law_parts", "_law_k"] "_law_tree" (defScope s_law_tree) f cdv A outer s H E)) rfl rfl rfl rfl
  have po : PassesOwn (model P w) (cxOf (L2.CX P w) P w K mg base ["_law_bag", "_law_deeds", "_law_names_here", "_law_depth", "_law_words", "_law_way", "_law_one", "_law_parts", "_law_k"] "_law_tree" (defScope s_law_tree) f cdv A outer s H E).A (cxOf (L2.CX P w) P w K mg base ["_law_bag", "_law_deeds", "_law_names_here", "_law_depth", "_law_words", "_law_way", "_law_one", "_law_parts", "_law_k"] "_law_tree" (defScope s_law_tree) f cdv A outer s H E).env (cxOf (L2.CX P w) P w K mg base ["_law_bag", "_law_deeds", "_law_names_here", "_law_depth", "_law_words", "_law_way", "_law_one", "_law_parts", "_law_k"] "_law_tree" (defScope s_law_tree) f cdv A outer s H E).xe := passes_of rfl
  exact (ss_cons (s_set 5 (p_call D_law_pick hr (by omega) tk (l_cons (p_var 0) (l_cons (p_op o_add (PP.u (p_lst (l_cons (p_str [100, 101, 101, 100, 115]) (l_cons (p_str [110, 97, 109, 101]) (l_cons (p_str [116, 104, 101, 110]) l_nil))))) (PP.u (p_var 4))) l_nil))) sc_law_tree.nd)
    (ss_cons (s_if (PBw.to (b_or (b_cmp o_lt (PP.u (p_var 3)) (PP.u p_int)) (b_or (b_cmp (o_eq hr.units) (PP.u (p_var 5)) (PP.u (p_str [100, 101, 101, 100, 115]))) (b_or1 (PBw.to (b_and (b_cmp (o_eq hr.units) (PP.u (p_var 5)) (PP.u (p_str [110, 97, 109, 101]))) (b_and1 (b_cmp (o_ne hr.units) (PP.u (p_var 2)) (PP.u (p_lst l_nil))))))))))
    (ss_one (s_ret (p_ifExp (PBw.to (b_and (b_cmp (o_eq hr.units) (PP.u (p_var 5)) (PP.u (p_str [110, 97, 109, 101]))) (b_and1 (b_cmp (o_ne hr.units) (PP.u (p_var 2)) (PP.u (p_lst l_nil)))))) (p_tup (l_cons (p_str [110, 97, 109, 101]) (l_cons (p_call D_law_pick hr (by omega) tk (l_cons (p_var 0) (l_cons (p_var 2) l_nil))) l_nil))) (p_tup (l_cons (p_str [100, 101, 101, 100, 115]) (l_cons (p_call D_law_drawn hr (by omega) tk (l_cons (p_var 0) (l_cons (p_var 1) (l_cons p_int l_nil)))) l_nil))))))
    ss_nil)
    (ss_cons (s_set 6 (p_call D_law_tree hr (by omega) tk (l_cons (p_var 0) (l_cons (p_var 1) (l_cons (p_var 2) (l_cons (p_op o_sub (PP.u (p_var 3)) (PP.u p_int)) (l_cons (p_var 4) l_nil)))))) sc_law_tree.nd)
    (ss_cons (s_if (b_cmp (o_eq hr.units) (PP.u (p_var 5)) (PP.u (p_str [116, 105, 109, 101, 115])))
    (ss_one (s_ret (p_tup (l_cons (p_str [116, 105, 109, 101, 115]) (l_cons (p_var 6) (l_cons (p_call D_law_pick hr (by omega) tk (l_cons (p_var 0) (l_cons (p_lst (l_cons p_int (l_cons p_int (l_cons p_int (l_cons p_int (l_cons (p_op o_add (PP.u p_int) (PP.u (p_call D_law_pull hr (by omega) tk (l_cons (p_var 0) (l_cons p_int l_nil))))) l_nil)))))) l_nil))) l_nil))))))
    ss_nil)
    (ss_cons (s_if (b_cmp (o_eq hr.units) (PP.u (p_var 5)) (PP.u (p_str [97, 103, 97, 105, 110])))
    (ss_one (s_ret (p_tup (l_cons (p_str [97, 103, 97, 105, 110]) (l_cons (p_var 6) l_nil)))))
    ss_nil)
    (ss_cons (s_set 7 (p_op o_add (PP.u (p_lst (l_cons (p_var 6) l_nil))) (PP.u (p_lc [("_law_k", 8)] rfl sc_law_tree.nd (i_rng1 T.b_range (l_cons (p_op o_add (PP.u p_int) (PP.u (p_call D_law_pull hr (by omega) tk (l_cons (p_var 0) (l_cons p_int l_nil))))) l_nil)) (blkOk_by (N := ["_law_bag", "_law_deeds", "_law_names_here", "_law_depth", "_law_words", "_law_way", "_law_one", "_law_parts", "_law_k"]) (sc := defScope s_law_tree) (by decide +kernel)) (fun _ => (g_name 8 sc_law_tree.nd)) (fun _ => bs_nil) (fun _ => (p_call D_law_tree hr (by omega) takes0 (l_cons (p_var 0) (l_cons (p_var 1) (l_cons (p_var 2) (l_cons (p_op o_sub (PP.u (p_var 3)) (PP.u p_int)) (l_cons (p_var 4) l_nil)))))))))) sc_law_tree.nd)
    (ss_one (s_ret (p_ifExp (b_cmp (o_eq hr.units) (PP.u (p_var 5)) (PP.u (p_str [101, 105, 116, 104, 101, 114]))) (p_t1 c_tup T.b_tuple (by decide +kernel) (PP.u (p_op o_add (PP.u (p_lst (l_cons (p_str [101, 105, 116, 104, 101, 114]) l_nil))) (PP.u (p_var 7))))) (p_call D_law_row hr (by omega) tk (l_cons (p_var 7) l_nil)))))))))))
theorem sc_law_script : FnScope ["_law_my_tree", "_law_word", "_law_part", "_law_my_text"] ["_law_my_tree"] (defScope s_law_script) := ⟨rfl, rfl, rfl, by decide +kernel, rfl, by decide +kernel, by decide +kernel⟩
theorem ok_law_script {f : Addr} {fd : FuncData} {fs_law_script : FS} (F : Fun K "_law_script" "_law_script" s_law_script f fd) (T : Txt P K mg C) {kk : Nat} (hkk : 0 ≤ kk) (D_law_script : Df P w K mg base "_law_script" kk 1 fs_law_script) : FnOk P w K mg base (L2.CX P w) (kk + 1) f fd ["_law_my_tree"] (spOf K 1 (m_law_script  fs_law_script )) := by
  refine fn_ok F sc_law_script rfl (fun cdv A outer s H E hr => ⟨_, ?_, fun ds kd kx _ hf => hf⟩)
  have tk := takes_of (X := (cxOf (L2.CX P w) P w K mg base ["_law_my_tree", "_law_word", "_law_part", "_law_my_text"] "_law_script" (defScope s_law_script) f cdv A outer s H E)) rfl rfl rfl rfl
  have po : PassesOwn (model P w) (cxOf (L2.CX P w) P w K mg base ["_law_my_tree", "_law_word", "_law_part", "_law_my_text"] "_law_script" (defScope s_law_script) f cdv A outer s H E).A (cxOf (L2.CX P w) P w K mg base ["_law_my_tree", "_law_word", "_law_part", "_law_my_text"] "_law_script" (defScope s_law_script) f cdv A outer s H E).env (cxOf (L2.CX P w) P w K mg base ["_law_my_tree", "_law_word", "_law_part", "_law_my_text"] "_law_script" (defScope s_law_script) f cdv A outer s H E).xe := passes_of rfl
  exact (ss_cons (s_set 1 (p_ix (PP.u (p_var 0)) (PP.u p_int)) sc_law_script.nd)
    (ss_cons (s_if (b_cmp (o_eq hr.units) (PP.u (p_var 1)) (PP.u (p_str [100, 101, 101, 100, 115])))
    (ss_one (s_ret (p_ifExp (b_cmp (o_eq hr.units) (PP.u (p_ix (PP.u (p_var 0)) (PP.u p_int))) (PP.u (p_str []))) (p_str [45]) (p_ix (PP.u (p_var 0)) (PP.u p_int)))))
    ss_nil)
    (ss_cons (s_if (b_cmp (o_eq hr.units) (PP.u (p_var 1)) (PP.u (p_str [110, 97, 109, 101])))
    (ss_one (s_ret (p_ix (PP.u (p_var 0)) (PP.u p_int))))
    ss_nil)
    (ss_cons (s_if (b_cmp (o_eq hr.units) (PP.u (p_var 1)) (PP.u (p_str [116, 104, 101, 110])))
    (ss_one (s_ret (p_join (p_str [46]) (PP.u (p_lc [("_law_part", 2)] rfl sc_law_script.nd (i_tup (p_slice (PP.u (p_var 0)) (s_some p_int) s_none)) (blkOk_by (N := ["_law_my_tree", "_law_word", "_law_part", "_law_my_text"]) (sc := defScope s_law_script) (by decide +kernel)) (fun _ => (g_name 2 sc_law_script.nd)) (fun _ => bs_nil) (fun _ => (p_call D_law_script hr (by omega) takes0 (l_cons (p_var 2) l_nil))))) (fun _ _ pa pb => pe_join pa pb))))
    ss_nil)
    (ss_cons (s_if (b_cmp (o_eq hr.units) (PP.u (p_var 1)) (PP.u (p_str [101, 105, 116, 104, 101, 114])))
    (ss_one (s_ret (p_op o_add (PP.u (p_op o_add (PP.u (p_str [40])) (PP.u (p_join (p_str [124]) (PP.u (p_lc [("_law_part", 2)] rfl sc_law_script.nd (i_tup (p_slice (PP.u (p_var 0)) (s_some p_int) s_none)) (blkOk_by (N := ["_law_my_tree", "_law_word", "_law_part", "_law_my_text"]) (sc := defScope s_law_script) (by decide +kernel)) (fun _ => (g_name 2 sc_law_script.nd)) (fun _ => bs_nil) (fun _ => (p_call D_law_script hr (by omega) takes0 (l_cons (p_var 2) l_nil))))) (fun _ _ pa pb => pe_join pa pb))))) (PP.u (p_str [41])))))
    ss_nil)
    (ss_cons (s_set 3 (p_call D_law_script hr (by omega) tk (l_cons (p_ix (PP.u (p_var 0)) (PP.u p_int)) l_nil)) sc_law_script.nd)
    (ss_cons (s_set 3 (p_ifExp (b_cmp (o_eq hr.units) (PP.u (p_ix (PP.u (p_ix (PP.u (p_var 0)) (PP.u p_int))) (PP.u p_int))) (PP.u (p_str [116, 104, 101, 110]))) (p_op o_add (PP.u (p_op o_add (PP.u (p_str [40])) (PP.u (p_var 3)))) (PP.u (p_str [41]))) (p_var 3)) sc_law_script.nd)
    (ss_one (s_ret (p_op o_add (PP.u (p_op o_add (PP.u (p_var 3)) (PP.u (p_str [94])))) (PP.u (p_ifExp (b_cmp (o_eq hr.units) (PP.u (p_var 1)) (PP.u (p_str [97, 103, 97, 105, 110]))) (p_str [42]) (p_strAny hr T.b_str (PP.u (p_ix (PP.u (p_var 0)) (PP.u p_int))))))))))))))))
theorem sc_law_same : FnScope ["_law_found", "_law_due", "_law_at"] ["_law_found", "_law_due"] (defScope s_law_same) := ⟨rfl, rfl, rfl, by decide +kernel, rfl, by decide +kernel, by decide +kernel⟩
theorem ok_law_same {f : Addr} {fd : FuncData} {fs_law_same : FS} (F : Fun K "_law_same" "_law_same" s_law_same f fd) (T : Txt P K mg C) {kk : Nat} (hkk : 0 ≤ kk) (D_law_same : Df P w K mg base "_law_same" kk 2 fs_law_same) : FnOk P w K mg base (L2.CX P w) (kk + 1) f fd ["_law_found", "_law_due"] (spOf K 2 (m_law_same  fs_law_same )) := by
  refine fn_ok F sc_law_same rfl (fun cdv A outer s H E hr => ⟨_, ?_, fun ds kd kx _ hf => hf⟩)
  have tk := takes_of (X := (cxOf (L2.CX P w) P w K mg base ["_law_found", "_law_due", "_law_at"] "_law_same" (defScope s_law_same) f cdv A outer s H E)) rfl rfl rfl rfl
  have po : PassesOwn (model P w) (cxOf (L2.CX P w) P w K mg base ["_law_found", "_law_due", "_law_at"] "_law_same" (defScope s_law_same) f cdv A outer s H E).A (cxOf (L2.CX P w) P w K mg base ["_law_found", "_law_due", "_law_at"] "_law_same" (defScope s_law_same) f cdv A outer s H E).env (cxOf (L2.CX P w) P w K mg base ["_law_found", "_law_due", "_law_at"] "_law_same" (defScope s_law_same) f cdv A outer s H E).xe := passes_of rfl
  exact (ss_cons (s_if (PBw.to (b_or (b_isN (PP.u (p_var 1))) (b_or1 (b_isN (PP.u (p_var 0))))))
    (ss_one (s_ret (p_and (p_isN (PP.u (p_var 1))) (p_one (p_isN (PP.u (p_var 0)))))))
    ss_nil)
    (ss_cons (s_if (PBw.to (b_or (b_val (p_isi "bool" (PP.u (p_var 1)) (pe_bltn (v := .ty "bool") (by rfl) T.b_bool (by decide +kernel) rfl) T.b_isinstance)) (b_or1 (b_val (p_isi "bool" (PP.u (p_var 0)) (pe_bltn (v := .ty "bool") (by rfl) T.b_bool (by decide +kernel) rfl) T.b_isinstance)))))
    (ss_one (s_ret (p_and (p_isi "bool" (PP.u (p_var 1)) (pe_bltn (v := .ty "bool") (by rfl) T.b_bool (by decide +kernel) rfl) T.b_isinstance) (p_and (p_isi "bool" (PP.u (p_var 0)) (pe_bltn (v := .ty "bool") (by rfl) T.b_bool (by decide +kernel) rfl) T.b_isinstance) (p_one (p_cmp (o_eq hr.units) (PP.u (p_var 0)) (PP.u (p_var 1))))))))
    ss_nil)
    (ss_cons (s_if (b_val (p_isi "int" (PP.u (p_var 1)) (pe_bltn (v := .ty "int") (by rfl) T.b_int (by decide +kernel) rfl) T.b_isinstance))
    (ss_one (s_ret (p_and (p_isi "int" (PP.u (p_var 0)) (pe_bltn (v := .ty "int") (by rfl) T.b_int (by decide +kernel) rfl) T.b_isinstance) (p_one (p_cmp (o_eq hr.units) (PP.u (p_var 0)) (PP.u (p_var 1)))))))
    ss_nil)
    (ss_cons (s_if (b_val (p_isi "str" (PP.u (p_var 1)) (pe_bltn (v := .ty "str") (by rfl) T.b_str (by decide +kernel) rfl) T.b_isinstance))
    (ss_one (s_ret (p_and (p_isi "str" (PP.u (p_var 0)) (pe_bltn (v := .ty "str") (by rfl) T.b_str (by decide +kernel) rfl) T.b_isinstance) (p_one (p_cmp (o_eq hr.units) (PP.u (p_var 0)) (PP.u (p_var 1)))))))
    ss_nil)
    (ss_cons (s_if (PBw.to (b_or (b_cmp (o_ne hr.units) (PP.u (p_isi "list" (PP.u (p_var 1)) (pe_bltn (v := .ty "list") (by rfl) T.b_list (by decide +kernel) rfl) T.b_isinstance)) (PP.u (p_isi "list" (PP.u (p_var 0)) (pe_bltn (v := .ty "list") (by rfl) T.b_list (by decide +kernel) rfl) T.b_isinstance))) (b_or1 (b_cmp (o_ne hr.units) (PP.u (p_isi "tuple" (PP.u (p_var 1)) (pe_bltn (v := .ty "tuple") (by rfl) T.b_tuple (by decide +kernel) rfl) T.b_isinstance)) (PP.u (p_isi "tuple" (PP.u (p_var 0)) (pe_bltn (v := .ty "tuple") (by rfl) T.b_tuple (by decide +kernel) rfl) T.b_isinstance))))))
    (ss_one (s_ret p_bl))
    ss_nil)
    (ss_one (s_ret (p_and (p_cmp (o_eq hr.units) (PP.u (p_b1 c_len T.b_len (by decide +kernel) (PP.u (p_var 0)))) (PP.u (p_b1 c_len T.b_len (by decide +kernel) (PP.u (p_var 1))))) (p_one (p_b1 (c_all rfl) T.b_all (by decide +kernel) (PP.u (p_lc [("_law_at", 2)] rfl sc_law_same.nd (i_rng1 T.b_range (l_cons (p_b1 c_len T.b_len (by decide +kernel) (PP.u (p_var 1))) l_nil)) (blkOk_by (N := ["_law_found", "_law_due", "_law_at"]) (sc := defScope s_law_same) (by decide +kernel)) (fun _ => (g_name 2 sc_law_same.nd)) (fun _ => bs_nil) (fun _ => (p_call D_law_same hr (by omega) takes0 (l_cons (p_ix (PP.u (p_var 0)) (PP.u (p_var 2))) (l_cons (p_ix (PP.u (p_var 1)) (PP.u (p_var 2))) l_nil))))))))))))))))
theorem sc_law_inner : FnScope ["_law_my_tree"] ["_law_my_tree"] (defScope s_law_inner) := ⟨rfl, rfl, rfl, by decide +kernel, rfl, by decide +kernel, by decide +kernel⟩
theorem ok_law_inner {f : Addr} {fd : FuncData} (F : Fun K "_law_inner" "_law_inner" s_law_inner f fd) (T : Txt P K mg C)  : FnOk P w K mg base (L2.CX P w) (0 + 1) f fd ["_law_my_tree"] (spOf K 1 (m_law_inner   )) := by
  refine fn_ok F sc_law_inner rfl (fun cdv A outer s H E hr => ⟨_, ?_, fun ds kd kx _ hf => hf⟩)
  have tk := takes_of (X := (cxOf (L2.CX P w) P w K mg base ["_law_my_tree"] "_law_inner" (defScope s_law_inner) f cdv A outer s H E)) rfl rfl rfl rfl
  have po : PassesOwn (model P w) (cxOf (L2.CX P w) P w K mg base ["_law_my_tree"] "_law_inner" (defScope s_law_inner) f cdv A outer s H E).A (cxOf (L2.CX P w) P w K mg base ["_law_my_tree"] "_law_inner" (defScope s_law_inner) f cdv A outer s H E).env (cxOf (L2.CX P w) P w K mg base ["_law_my_tree"] "_law_inner" (defScope s_law_inner) f cdv A outer s H E).xe := passes_of rfl
  exact (ss_cons (s_if (b_cmp (o_inDT hr.units) (PP.u (p_ix (PP.u (p_var 0)) (PP.u p_int))) (PP.u (p_tup (l_cons (p_str [116, 104, 101, 110]) (l_cons (p_str [101, 105, 116, 104, 101, 114]) l_nil)))))
    (ss_one (s_ret (p_t1 c_list T.b_list (by decide +kernel) (PP.u (p_slice (PP.u (p_var 0)) (s_some p_int) s_none)))))
    ss_nil)
    (ss_one (s_ret (p_ifExp (b_cmp (o_inDT hr.units) (PP.u (p_ix (PP.u (p_var 0)) (PP.u p_int))) (PP.u (p_tup (l_cons (p_str [116, 105, 109, 101, 115]) (l_cons (p_str [97, 103, 97, 105, 110]) l_nil))))) (p_lst (l_cons (p_ix (PP.u (p_var 0)) (PP.u p_int)) l_nil)) (p_lst l_nil)))))
theorem sc_law_names : FnScope ["_law_my_tree", "_law_found", "_law_part", "_law_name_here"] ["_law_my_tree"] (defScope s_law_names) := ⟨rfl, rfl, rfl, by decide +kernel, rfl, by decide +kernel, by decide +kernel⟩
theorem ok_law_names {f : Addr} {fd : FuncData} {fs_law_inner fs_law_names : FS} (F : Fun K "_law_names" "_law_names" s_law_names f fd) (T : Txt P K mg C) {kk : Nat} (hkk : 1 ≤ kk) (D_law_inner : Df P w K mg base "_law_inner" 1 1 fs_law_inner) (D_law_names : Df P w K mg base "_law_names" kk 1 fs_law_names) : FnOk P w K mg base (L2.CX P w) (kk + 1) f fd ["_law_my_tree"] (spOf K 1 (m_law_names  fs_law_inner fs_law_names )) := by
  refine fn_ok F sc_law_names rfl (fun cdv A outer s H E hr => ⟨_, ?_, fun ds kd kx _ hf => hf⟩)
  have tk := takes_of (X := (cxOf (L2.CX P w) P w K mg base ["_law_my_tree", "_law_found", "_law_part", "_law_name_here"] "_law_names" (defScope s_law_names) f cdv A outer s H E)) rfl rfl rfl rfl
  have po : PassesOwn (model P w) (cxOf (L2.CX P w) P w K mg base ["_law_my_tree", "_law_found", "_law_part", "_law_name_here"] "_law_names" (defScope s_law_names) f cdv A outer s H E).A (cxOf (L2.CX P w) P w K mg base ["_law_my_tree", "_law_found", "_law_part", "_law_name_here"] "_law_names" (defScope s_law_names) f cdv A outer s H E).env (cxOf (L2.CX P w) P w K mg base ["_law_my_tree", "_law_found", "_law_part", "_law_name_here"] "_law_names" (defScope s_law_names) f cdv A outer s H E).xe := passes_of rfl
  exact (ss_cons (s_set 1 (p_ifExp (b_cmp (o_eq hr.units) (PP.u (p_ix (PP.u (p_var 0)) (PP.u p_int))) (PP.u (p_str [110, 97, 109, 101]))) (p_lst (l_cons (p_ix (PP.u (p_var 0)) (PP.u p_int)) l_nil)) (p_lst l_nil)) sc_law_names.nd)
    (ss_cons (s_for po rfl (i_lst (p_call D_law_inner hr (by omega) tk (l_cons (p_var 0) l_nil))) (g_name 2 sc_law_names.nd)
    (ss_one (s_set 1 (p_op o_add (PP.u (p_var 1)) (PP.u (p_lc [("_law_name_here", 3)] rfl sc_law_names.nd (i_lst (p_call D_law_names hr (by omega) tk (l_cons (p_var 2) l_nil))) (blkOk_by (N := ["_law_my_tree", "_law_found", "_law_part", "_law_name_here"]) (sc := defScope s_law_names) (by decide +kernel)) (fun _ => (g_name 3 sc_law_names.nd)) (fun _ => (bs_one (b_cmp (o_notInDT hr.units) (PP.u (p_var 3)) (PP.u (p_var 1))))) (fun _ => (p_var 3))))) sc_law_names.nd)))
    (ss_one (s_ret (p_var 1)))))
theorem sc_law : FnScope ["_law_script_here", "_law_bag", "_law_turn", "_law_names_here", "_law_k", "_law_deeds", "_law_my_tree", "_law_my_text", "_law_bad"] ["_law_script_here"] (defScope s_law) := ⟨rfl, rfl, rfl, by decide +kernel, rfl, by decide +kernel, by decide +kernel⟩
theorem ok_law {f : Addr} {fd : FuncData} {fs_law_start fs_law_name fs_law_pick fs_law_letters fs_law_alphabet fs_law_tree fs_law_pull fs_law_script fs_law_same fs_script_text fs_read_script fs_names_in fs_law_names fs_is_name fs_is_tree : FS} (F : Fun K "law" "law" s_law f fd) (T : Txt P K mg C) (D_law_start : Df P w K mg base "_law_start" 1 1 fs_law_start) (D_law_name : Df P w K mg base "_law_name" 3 1 fs_law_name) (D_law_pick : Df P w K mg base "_law_pick" 2 2 fs_law_pick) (D_law_letters : Df P w K mg base "_law_letters" 1 0 fs_law_letters) (D_law_alphabet : Df P w K mg base "_law_alphabet" 3 2 fs_law_alphabet) (D_law_tree : Df P w K mg base "_law_tree" 10 5 fs_law_tree) (D_law_pull : Df P w K mg base "_law_pull" 1 2 fs_law_pull) (D_law_script : Df P w K mg base "_law_script" 16 1 fs_law_script) (D_law_same : Df P w K mg base "_law_same" 16 2 fs_law_same) (D_script_text : Df P w K mg base "script_text" 23 1 fs_script_text) (D_read_script : Df P w K mg base "read_script" 44 1 fs_read_script) (D_names_in : Df P w K mg base "names_in" 20 1 fs_names_in) (D_law_names : Df P w K mg base "_law_names" 17 1 fs_law_names) (D_is_name : Df P w K mg base "is_name" 1 1 fs_is_name) (DK_read_script : DfK P w K mg base "read_script" 44 1 fs_read_script 0 ["text"] [0]) (DK_script_text : DfK P w K mg base "script_text" 23 1 fs_script_text 0 ["tree"] [0]) (DK_is_name : DfK P w K mg base "is_name" 1 1 fs_is_name 0 ["value"] [0]) (DR_is_tree : DfR P w K mg base "is_tree" 18 1 fs_is_tree) : FnOk P w K mg base (L2.CX P w) (44 + 1) f fd ["_law_script_here"] (spOf K 1 (m_law  fs_law_start fs_law_name fs_law_pick fs_law_letters fs_law_alphabet fs_law_tree fs_law_pull fs_law_script fs_law_same fs_script_text fs_read_script fs_names_in fs_law_names fs_is_name fs_is_tree )) := by
  refine fn_ok F sc_law rfl (fun cdv A outer s H E hr => ⟨_, ?_, fun ds kd kx _ hf => hf⟩)
  have tk := takes_of (X := (cxOf (L2.CX P w) P w K mg base ["_law_script_here", "_law_bag", "_law_turn", "_law_names_here", "_law_k", "_law_deeds", "_law_my_tree", "_law_my_text", "_law_bad"] "law" (defScope s_law) f cdv A outer s H E)) rfl rfl rfl rfl
  have po : PassesOwn (model P w) (cxOf (L2.CX P w) P w K mg base ["_law_script_here", "_law_bag", "_law_turn", "_law_names_here", "_law_k", "_law_deeds", "_law_my_tree", "_law_my_text", "_law_bad"] "law" (defScope s_law) f cdv A outer s H E).A (cxOf (L2.CX P w) P w K mg base ["_law_script_here", "_law_bag", "_law_turn", "_law_names_here", "_law_k", "_law_deeds", "_law_my_tree", "_law_my_text", "_law_bad"] "law" (defScope s_law) f cdv A outer s H E).env (cxOf (L2.CX P w) P w K mg base ["_law_script_here", "_law_bag", "_law_turn", "_law_names_here", "_law_k", "_law_deeds", "_law_my_tree", "_law_my_text", "_law_bad"] "law" (defScope s_law) f cdv A outer s H E).xe := passes_of rfl
  exact (ss_cons (s_set 1 (p_call D_law_start hr (by decide) tk (l_cons (p_var 0) l_nil)) sc_law.nd)
    (ss_cons (s_for po rfl (i_rng1 T.b_range (l_cons p_int l_nil)) (g_name 2 sc_law.nd)
    (ss_cons (s_setLc 3 [("_law_k", 4)] rfl sc_law.nd (i_rng1 T.b_range (l_cons p_int l_nil)) (blkOk_by (N := ["_law_script_here", "_law_bag", "_law_turn", "_law_names_here", "_law_k", "_law_deeds", "_law_my_tree", "_law_my_text", "_law_bad"]) (sc := defScope s_law) (by decide +kernel)) (fun _ => (g_name 4 sc_law.nd)) (fun _ => bs_nil) (fun _ => (p_call D_law_name hr (by decide) takes0 (l_cons (p_var 1) l_nil))))
    (ss_cons (s_set 5 (p_call D_law_pick hr (by decide) tk (l_cons (p_var 1) (l_cons (p_lst (l_cons (p_call0 D_law_letters hr (by decide) tk) (l_cons (p_call D_law_alphabet hr (by decide) tk (l_cons (p_var 1) (l_cons p_int l_nil))) l_nil))) l_nil))) sc_law.nd)
    (ss_cons (s_set 6 (p_call D_law_tree hr (by decide) tk (l_cons (p_var 1) (l_cons (p_var 5) (l_cons (p_var 3) (l_cons (p_op o_add (PP.u p_int) (PP.u (p_call D_law_pull hr (by decide) tk (l_cons (p_var 1) (l_cons p_int l_nil))))) (l_cons (p_lst (l_cons (p_str [116, 104, 101, 110]) (l_cons (p_str [116, 105, 109, 101, 115]) (l_cons (p_str [101, 105, 116, 104, 101, 114]) (l_cons (p_str [97, 103, 97, 105, 110]) l_nil))))) l_nil)))))) sc_law.nd)
    (ss_cons (s_if (b_cmp (o_eq hr.units) (PP.u (p_call D_law_pull hr (by decide) tk (l_cons (p_var 1) (l_cons p_int l_nil)))) (PP.u p_int))
    (ss_one (s_set 6 (p_tup (l_cons (p_str [116, 105, 109, 101, 115]) (l_cons (p_var 6) (l_cons (p_call D_law_pick hr (by decide) tk (l_cons (p_var 1) (l_cons (p_lst (l_cons (p_op o_pow (PP.u p_int) (PP.u p_int)) (l_cons (p_call D_law_pull hr (by decide) tk (l_cons (p_var 1) (l_cons (p_op o_pow (PP.u p_int) (PP.u p_int)) l_nil))) (l_cons p_int (l_cons p_int l_nil))))) l_nil))) l_nil)))) sc_law.nd))
    ss_nil)
    (ss_cons (s_set 7 (p_call D_law_script hr (by decide) tk (l_cons (p_var 6) l_nil)) sc_law.nd)
    (ss_cons (s_if (b_not (b_val (p_call D_law_same hr (by decide) tk (l_cons (p_lst (l_cons (p_call D_script_text hr (by decide) tk (l_cons (p_var 6) l_nil)) (l_cons (p_call D_read_script hr (by decide) tk (l_cons (p_var 7) l_nil)) (l_cons (p_callR DR_is_tree hr (by decide) tk (l_cons (p_var 6) l_nil)) l_nil)))) (l_cons (p_lst (l_cons (p_var 7) (l_cons (p_var 6) (l_cons p_bl l_nil)))) l_nil)))))
    (ss_one (s_ret p_bl))
    ss_nil)
    (ss_cons (s_if (b_not (b_val (p_call D_law_same hr (by decide) tk (l_cons (p_lst (l_cons (p_call D_names_in hr (by decide) tk (l_cons (p_var 6) l_nil)) (l_cons (p_callK0 DK_read_script hr (by decide) tk (k_cons (p_callK0 DK_script_text hr (by decide) tk (k_cons (p_var 6) k_nil)) k_nil)) l_nil))) (l_cons (p_lst (l_cons (p_call D_law_names hr (by decide) tk (l_cons (p_var 6) l_nil)) (l_cons (p_var 6) l_nil))) l_nil)))))
    (ss_one (s_ret p_bl))
    ss_nil)
    (ss_cons (s_set 8 (p_call D_law_pick hr (by decide) tk (l_cons (p_var 1) (l_cons (p_lst (l_cons (p_op o_add (PP.u (p_ix (PP.u (p_var 3)) (PP.u p_int))) (PP.u (p_str [97]))) (l_cons (p_str []) (l_cons (p_lower (PP.u (p_ix (PP.u (p_var 3)) (PP.u p_int)))) (l_cons (p_op o_mulS (PP.u (p_ix (PP.u (p_var 3)) (PP.u p_int))) (PP.u p_int)) (l_cons p_non (l_cons (p_lst (l_cons (p_str [65]) l_nil)) (l_cons p_int (l_cons (p_op o_add (PP.u (p_slice (PP.u (p_ix (PP.u (p_var 3)) (PP.u p_int))) s_none (s_some p_int))) (PP.u (p_str [45]))) (l_cons (p_str [32, 65]) l_nil)))))))))) l_nil))) sc_law.nd)
    (ss_one (s_if (b_not (b_val (p_call D_law_same hr (by decide) tk (l_cons (p_lst (l_cons (p_call D_is_name hr (by decide) tk (l_cons (p_ix (PP.u (p_var 3)) (PP.u p_int)) l_nil)) (l_cons (p_call D_is_name hr (by decide) tk (l_cons (p_var 8) l_nil)) (l_cons (p_callK0 DK_is_name hr (by decide) tk (k_cons (p_ix (PP.u (p_var 3)) (PP.u p_int)) k_nil)) l_nil)))) (l_cons (p_lst (l_cons p_bl (l_cons p_bl (l_cons p_bl l_nil)))) l_nil)))))
    (ss_one (s_ret p_bl))
    ss_nil)))))))))))
    (ss_one (s_ret (p_and (p_cmp (o_eq hr.units) (PP.u (p_call D_read_script hr (by decide) tk (l_cons (p_str [45]) l_nil))) (PP.u (p_tup (l_cons (p_str [100, 101, 101, 100, 115]) (l_cons (p_str []) l_nil))))) (p_one (p_cmp (o_eq hr.units) (PP.u (p_call D_script_text hr (by decide) tk (l_cons (p_tup (l_cons (p_str [116, 104, 101, 110]) (l_cons (p_tup (l_cons (p_str [110, 97, 109, 101]) (l_cons (p_str [65]) l_nil))) (l_cons (p_tup (l_cons (p_str [110, 97, 109, 101]) (l_cons (p_str [66]) l_nil))) l_nil)))) l_nil))) (PP.u (p_str [65, 46, 66])))))))))
end
end K36
set_option Elab.async false
set_option linter.all false
set_option maxRecDepth 100000
set_option maxHeartbeats 4000000
namespace K36
open PySem L2 PL
theorem isTree0 {ds : List D} {k : KD} {kx : KX} (h : fsIsTree 0 ds k kx) : False := by
  obtain ⟨t, d, ⟨_, _, _, h⟩, _⟩ := h
  omega
theorem ring0 [Tabl] {K : PySem.W.Frag} {CR CX : Addr} {n : Nat} {vs : List V} {H : Hp} {Q : VK} {E : XK} (h : spOi K n (fsScRow CR CX 0) vs H Q E) : False := by
  obtain ⟨G, ds, kd, kx, p, dx, C, fs0, fvs, a1, a2, a3, a4, a5, a6, a7, a8, a9, a10, a11, ⟨t, r, d, ⟨_, _, h, _⟩, _⟩, a13⟩ := h
  omega
theorem okS_s (n : Nat) {s : List Nat} (h1 : s.length ≤ 100000) (h2 : D.plain (.str s) = true) : okS n (.str s) := by cases n <;> exact ⟨h1, h2⟩
theorem okSL_map {n : Nat} : ∀ {ps : List Tr}, (∀ p ∈ ps, okS n p.dat) → okSL n (ps.map Tr.dat)
  | [], _ => by cases n <;> trivial
  | p :: r, h => ⟨h p List.mem_cons_self, okSL_map fun q hq => h q (List.mem_cons_of_mem _ hq)⟩
theorem w_len (t : Tr) : t.w.length ≤ 100000 := by cases t <;> simp [Tr.w]
theorem okS_i (n : Nat) (i : Int) : okS n (.int i) := by cases n <;> trivial
theorem okS_t {t : Tr} (h : OkT t) : ∀ n, t.dp ≤ n → okS n t.dat := by
  induction h with
  | @dd v h hz =>
    intro n hn
    rw [Tr.dp] at hn
    rw [dat_eq]
    match n, hn with
    | n + 1, hn => exact ⟨by show 2 ≤ 100000; decide, okS_s n (w_len _) rfl, okS_s n (by omega) (plain_of h), by cases n <;> trivial⟩
  | @nm s h1 h2 h3 =>
    intro n hn
    rw [Tr.dp] at hn
    rw [dat_eq]
    match n, hn with
    | n + 1, hn => exact ⟨by show 2 ≤ 100000; decide, okS_s n (w_len _) rfl, okS_s n (by omega) (TxOk.pl ⟨by omega, fun c hc => (cap_ne (h3 c hc)).2.2.1⟩), by cases n <;> trivial⟩
  | @th ps h1 h2 h3 h4 h5 ih =>
    intro n hn
    rw [Tr.dp] at hn
    rw [dat_eq]
    match n, hn with
    | n + 1, hn => exact ⟨by show (D.str wTHE :: ps.map Tr.dat).length ≤ 100000; rw [List.length_cons, List.length_map]; omega, okS_s n (w_len _) rfl, okSL_map fun p hp => ih p hp n (by have := dpL_le hp; omega)⟩
  | @ei ps h1 h2 h3 ih =>
    intro n hn
    rw [Tr.dp] at hn
    rw [dat_eq]
    match n, hn with
    | n + 1, hn => exact ⟨by show (D.str wEIT :: ps.map Tr.dat).length ≤ 100000; rw [List.length_cons, List.length_map]; omega, okS_s n (w_len _) rfl, okSL_map fun p hp => ih p hp n (by have := dpL_le hp; omega)⟩
  | @ti t m h hm ih =>
    intro n hn
    rw [Tr.dp] at hn
    rw [dat_eq]
    match n, hn with
    | n + 1, hn => exact ⟨by show 3 ≤ 100000; decide, okS_s n (w_len _) rfl, ih n (by omega), okS_i n _, by cases n <;> trivial⟩
  | @ag t h ih =>
    intro n hn
    rw [Tr.dp] at hn
    rw [dat_eq]
    match n, hn with
    | n + 1, hn => exact ⟨by show 2 ≤ 100000; decide, okS_s n (w_len _) rfl, ih n (by omega), by cases n <;> trivial⟩
/-- signs of printed trees -/
theorem scS_lt {c : Nat} (hc : c < 128) : ∀ {ps : List Tr}, (∀ p ∈ ps, ∀ x ∈ scT p, x < 128) → ∀ x ∈ scS c ps, x < 128
  | [], _, x, hx => by rw [scS] at hx; cases hx
  | p :: r, h, x, hx => by
    rw [scS_cons] at hx
    rcases List.mem_cons.mp hx with rfl | hx
    · exact hc
    · rcases List.mem_append.mp hx with hx | hx
      · exact h p List.mem_cons_self x hx
      · exact scS_lt hc (fun q hq => h q (List.mem_cons_of_mem _ hq)) x hx
theorem wr_lt {t : Tr} (h : ∀ x ∈ scT t, x < 128) : ∀ x ∈ wrB t.isTh (scT t), x < 128 := fun x hx => by
  unfold wrB at hx
  split at hx
  · rcases List.mem_cons.mp hx with rfl | hx
    · decide
    · rcases List.mem_append.mp hx with hx | hx
      · exact h x hx
      · rw [List.mem_singleton.mp hx]; decide
  · exact h x hx
theorem sc_lt {t : Tr} (h : OkT t) : ∀ x ∈ scT t, x < 128 := by
  induction h with
  | @dd v h hz =>
    intro x hx
    rw [sc_dd] at hx
    split at hx
    · rw [List.mem_singleton.mp hx]; decide
    · exact (let_ne (h x hx)).2.2.1
  | @nm s h1 h2 h3 =>
    intro x hx
    rw [sc_nm] at hx
    exact (cap_ne (h3 x hx)).2.2.1
  | @th ps h1 h2 h3 h4 h5 ih =>
    intro x hx
    rw [sc_th] at hx
    exact scS_lt (by decide) ih x (List.mem_of_mem_tail hx)
  | @ei ps h1 h2 h3 ih =>
    intro x hx
    rw [sc_ei] at hx
    rcases List.mem_cons.mp hx with rfl | hx
    · decide
    · rcases List.mem_append.mp hx with hx | hx
      · exact scS_lt (by decide) ih x (List.mem_of_mem_tail hx)
      · rw [List.mem_singleton.mp hx]; decide
  | @ti t m h hm ih =>
    intro x hx
    rw [sc_ti] at hx
    rcases List.mem_append.mp hx with hx | hx
    · exact wr_lt ih x hx
    · rcases List.mem_cons.mp hx with rfl | hx
      · decide
      · have := TL.numL_digits m x hx
        omega
  | @ag t h ih =>
    intro x hx
    rw [sc_ag] at hx
    rcases List.mem_append.mp hx with hx | hx
    · exact wr_lt ih x hx
    · simp only [List.mem_cons, List.not_mem_nil, or_false] at hx
      rcases hx with rfl | rfl <;> decide
theorem okSL_str {n : Nat} : ∀ {ns : List (List Nat)}, (∀ s ∈ ns, NmOk s) → okSL n (ns.map .str)
  | [], _ => by cases n <;> trivial
  | s :: r, h => ⟨okS_s n (by have := (h s List.mem_cons_self).h2; omega) (h s List.mem_cons_self).pl, okSL_str fun q hq => h q (List.mem_cons_of_mem _ hq)⟩
theorem strs_of : ∀ {ys : List D}, (∀ y ∈ ys, ∃ s, NmOk s ∧ y = .str s) → ∃ ns : List (List Nat), (∀ s ∈ ns, NmOk s) ∧ ys = ns.map .str
  | [], _ => ⟨[], fun _ z => (nomatch z), rfl⟩
  | y :: r, h => by
    obtain ⟨ns, h1, h2⟩ := strs_of fun z hz => h z (List.mem_cons_of_mem _ hz)
    obtain ⟨s, h3, h4⟩ := h y List.mem_cons_self
    refine ⟨s :: ns, fun d hd => ?_, by rw [h4, h2]; rfl⟩
    rcases List.mem_cons.mp hd with rfl | hd
    · exact h3
    · exact h1 d hd
theorem lo_bad {c : Nat} (h : c ∈ CAP) : lo1D c ∉ CAP := by
  have : ∀ c ∈ CAP, lo1D c ∉ CAP := by decide
  exact this c h
abbrev bod (CT CX : Addr) : TSp := (tsSeq (tsSet 3 (tpLc [4] (tiRng1 (tlCons (tpC (.int 3)) tlNil)) (tgName 4) tbYes (tpCall 1 fsNameS (tlCons (tpVar 1) tlNil))))
    (tsSeq (tsSet 5 (tpCall 2 fsPick (tlCons (tpVar 1) (tlCons (tpLst (tlCons (tpCall 0 fsLetters tlNil) (tlCons (tpCall 2 fsAlpha (tlCons (tpVar 1) (tlCons (tpC (.int 4)) tlNil))) tlNil))) tlNil))))
    (tsSeq (tsSet 6 (tpCall 5 (fsTreeK 7) (tlCons (tpVar 1) (tlCons (tpVar 5) (tlCons (tpVar 3) (tlCons (tpOp fAdd (tpC (.int 1)) (tpCall 2 fsPullW (tlCons (tpVar 1) (tlCons (tpC (.int 5)) tlNil)))) (tlCons (tpLst (tlCons (tpC (.str [116, 104, 101, 110])) (tlCons (tpC (.str [116, 105, 109, 101, 115])) (tlCons (tpC (.str [101, 105, 116, 104, 101, 114])) (tlCons (tpC (.str [97, 103, 97, 105, 110])) tlNil))))) tlNil)))))))
    (tsSeq (tsIf (tbV (tpOp fEq (tpCall 2 fsPullW (tlCons (tpVar 1) (tlCons (tpC (.int 3)) tlNil))) (tpC (.int 0))))
    (tsSet 6 (tpTup (tlCons (tpC (.str [116, 105, 109, 101, 115])) (tlCons (tpVar 6) (tlCons (tpCall 2 fsPick (tlCons (tpVar 1) (tlCons (tpLst (tlCons (tpOp fPow (tpC (.int 10)) (tpC (.int 30))) (tlCons (tpCall 2 fsPullW (tlCons (tpVar 1) (tlCons (tpOp fPow (tpC (.int 10)) (tpC (.int 30))) tlNil))) (tlCons (tpC (.int 10)) (tlCons (tpC (.int 0)) tlNil))))) tlNil))) tlNil)))))
    tsNext)
    (tsSeq (tsSet 7 (tpCall 1 (fsTextOf 16) (tlCons (tpVar 6) tlNil)))
    (tsSeq (tsIf (tbNot (tbV (tpCall 2 (fsSame 16) (tlCons (tpLst (tlCons (tpCall 1 (fsScriptText CT) (tlCons (tpVar 6) tlNil)) (tlCons (tpCall 1 (fsReadS CX) (tlCons (tpVar 7) tlNil)) (tlCons (tpCall 1 fsIsTree1 (tlCons (tpVar 6) tlNil)) tlNil)))) (tlCons (tpLst (tlCons (tpVar 7) (tlCons (tpVar 6) (tlCons (tpC (.bl true)) tlNil)))) tlNil)))))
    (tsRet (tpC (.bl false)))
    tsNext)
    (tsSeq (tsIf (tbNot (tbV (tpCall 2 (fsSame 16) (tlCons (tpLst (tlCons (tpCall 1 fsNamesIn (tlCons (tpVar 6) tlNil)) (tlCons (tpCallK 0 (fsReadS CX) [0] tlNil (tlN 1 (tlCons (tpCallK 0 (fsScriptText CT) [0] tlNil (tlN 1 (tlCons (tpVar 6) tlNil))) tlNil))) tlNil))) (tlCons (tpLst (tlCons (tpCall 1 (fsLNames 16) (tlCons (tpVar 6) tlNil)) (tlCons (tpVar 6) tlNil))) tlNil)))))
    (tsRet (tpC (.bl false)))
    tsNext)
    (tsSeq (tsSet 8 (tpCall 2 fsPick (tlCons (tpVar 1) (tlCons (tpLst (tlCons (tpOp fAdd (tpOp fIx (tpVar 3) (tpC (.int 0))) (tpC (.str [97]))) (tlCons (tpC (.str [])) (tlCons (tpLower (tpOp fIx (tpVar 3) (tpC (.int 0)))) (tlCons (tpOp fMulS (tpOp fIx (tpVar 3) (tpC (.int 0))) (tpC (.int 7))) (tlCons (tpC .non) (tlCons (tpLst (tlCons (tpC (.str [65])) tlNil)) (tlCons (tpC (.int 0)) (tlCons (tpOp fAdd (tpSl (tpOp fIx (tpVar 3) (tpC (.int 0))) toNo (toSome (tpC (.int 5)))) (tpC (.str [45]))) (tlCons (tpC (.str [32, 65])) tlNil)))))))))) tlNil))))
    (tsIf (tbNot (tbV (tpCall 2 (fsSame 16) (tlCons (tpLst (tlCons (tpCall 1 fsIsNameX (tlCons (tpOp fIx (tpVar 3) (tpC (.int 1))) tlNil)) (tlCons (tpCall 1 fsIsNameX (tlCons (tpVar 8) tlNil)) (tlCons (tpCallK 0 fsIsNameX [0] tlNil (tlN 1 (tlCons (tpOp fIx (tpVar 3) (tpC (.int 2))) tlNil))) tlNil)))) (tlCons (tpLst (tlCons (tpC (.bl true)) (tlCons (tpC (.bl false)) (tlCons (tpC (.bl true)) tlNil)))) tlNil)))))
    (tsRet (tpC (.bl false)))
    tsNext)))))))))
abbrev rest (CT CX : Addr) : TSp := (tsRet (tpAnd (tpOp fEq (tpCall 1 (fsReadS CX) (tlCons (tpC (.str [45])) tlNil)) (tpTup (tlCons (tpC (.str [100, 101, 101, 100, 115])) (tlCons (tpC (.str [])) tlNil)))) (tpOp fEq (tpCall 1 (fsScriptText CT) (tlCons (tpTup (tlCons (tpC (.str [116, 104, 101, 110])) (tlCons (tpTup (tlCons (tpC (.str [110, 97, 109, 101])) (tlCons (tpC (.str [65])) tlNil))) (tlCons (tpTup (tlCons (tpC (.str [110, 97, 109, 101])) (tlCons (tpC (.str [66])) tlNil))) tlNil)))) tlNil)) (tpC (.str [65, 46, 66])))))
abbrev Gn (s2 s3 s4 s5 s6 s7 s8 : Sl) : Ga := [.pu .scr, .pu .bag, s2, s3, s4, s5, s6, s7, s8]
theorem two {a b : D} : [a, b].length ≤ 100000 := by show 2 ≤ 100000; decide
theorem three {a b c : D} : [a, b, c].length ≤ 100000 := by show 3 ≤ 100000; decide
section
variable {ds : List D} {kd : KD} {kx : KX} {Γ : Ga} {tl : TL} {i n : Nat} {t' ta tb tj : TP} {P : PEn} {u v w own : List Nat} {d e : D} {s r : TSp} {CT CX : Addr}
local instance : Tabl := ⟨[], fun p hp => absurd hp (by simp)⟩
theorem ev_lower {s : List Nat} (h : Ev ta Γ (.str s)) (h1 : ∀ c ∈ s, c < 128) (h2 : s.length ≤ 100000) : Ev (tpLower ta) Γ (.str (s.map lo1D)) := fun k kx z => h _ _ ⟨h1, h2, z⟩
theorem same3 {a b : D} {ta tb : TP} (h : Ev ta Γ a) (g : Ev tb Γ a) (ho : okS 15 a) : EvB (tbNot (tbV (tpCall 2 (fsSame 16) (tlCons ta (tlCons tb tlNil))))) Γ false := evb_not (evb_v (ev_call (d := .bl true) (evl_2 h g) rfl fun k kx z => ⟨rfl, ho, z⟩))
theorem ev_st {te : TP} {t : Tr} (h : Ev te Γ t.dat) (ok : OkT t) (hb : isB 12 t = true) (hs : TxOk (scT t)) : Ev (tpCall 1 (fsScriptText CT) (tlCons te tlNil)) Γ (.str (scT t)) := ev_call (evl_1 h) rfl fun k kx z => ⟨t, ⟨rfl, ok, by have := isB_dp hb; omega, hs⟩, fun _ => z, fun q => by rw [hb] at q; cases q⟩
theorem ev_rs {te : TP} {t : Tr} (h : Ev te Γ (.str (scT t))) (ok : OkT t) (hb : isB 12 t = true) (hs : TxOk (scT t)) : Ev (tpCall 1 (fsReadS CX) (tlCons te tlNil)) Γ t.dat := ev_call (evl_1 h) rfl fun k kx z => ⟨t, ⟨rfl, ok, by have := isB_dp hb; omega, hs⟩, fun _ => z, fun q => by rw [hb] at q; cases q⟩
theorem ev_nm {te : TP} {s : List Nat} (h : Ev te Γ (.str s)) (hs : NmOk s) : Ev (tpCall 1 fsIsNameX (tlCons te tlNil)) Γ (.bl true) := ev_call (evl_1 h) rfl fun k kx z => ⟨by have := hs.h2; omega, by rw [nameB_ok hs]; exact z⟩
theorem body_ok {s2 s3 s4 s5 s6 s7 s8 : Sl} (hk : ∀ s3 s4 s5 s6 s7 s8, P.nx (Gn s2 s3 s4 s5 s6 s7 s8)) : bod CT CX P (Gn s2 s3 s4 s5 s6 s7 s8) := by
  have big : 30000 ≤ sizeLine := by decide
  let G0 : Ga := Gn s2 s3 s4 s5 s6 s7 s8
  have rg : EvNL (tiRng1 (tlCons (tpC (.int 3)) tlNil)) G0 (fun ds => ds.length = 3) := fun kk kx z => evl_rg1 (Γ := G0) (b := 3) (ev_c _) (by decide) kk kx (z _ rfl)
  have lc := evn_lc (is := [4]) (i := 4) (te := tpCall 1 fsNameS (tlCons (tpVar 1) tlNil)) (B := fun d => ∃ s, NmOk s ∧ d = .str s) rg (fun ds hd => by omega) fun x => evn_call (evnl (evl_1 (ev_var rfl))) fun ds hd => by
    subst hd
    exact ⟨rfl, fun k kx z s h1 h2 h3 => z _ ⟨s, ⟨h1, h2, h3⟩, rfl⟩⟩
  refine st_setN (Γ := G0) lc fun d ⟨items, ys, hi, hy, hb, e⟩ => ?_
  obtain ⟨ns, hn, rfl⟩ := strs_of hb
  subst e
  have ln : ns.length = 3 := by rw [List.length_map] at hy; omega
  obtain ⟨a, b, c, rfl⟩ : ∃ a b c, ns = [a, b, c] := by
    match ns, ln with
    | [a, b, c], _ => exact ⟨a, b, c, rfl⟩
  have ha := hn a (by simp)
  have hb' := hn b (by simp)
  have hc := hn c (by simp)
  let NS : D := .lst [.str a, .str b, .str c]
  let G1 : Ga := Gn s2 (.pu NS) s4 s5 s6 s7 s8
  have letters : EvN (tpCall 0 fsLetters tlNil) G1 (fun d => ∃ al : List Nat, (al ≠ [] ∧ al.length ≤ 26 ∧ ∀ c ∈ al, c ∈ LET) ∧ d = .str al) := evn_call evnl_nil fun ds hd => by
    subst hd
    exact ⟨rfl, fun k kx z => z _ ⟨LET, ⟨by decide, by decide, fun c h => h⟩, rfl⟩⟩
  have alpha : EvN (tpCall 2 fsAlpha (tlCons (tpVar 1) (tlCons (tpC (.int 4)) tlNil))) G1 (fun d => ∃ al : List Nat, (al ≠ [] ∧ al.length ≤ 26 ∧ ∀ c ∈ al, c ∈ LET) ∧ d = .str al) := evn_call (evnl (evl_2 (ev_var (d := .bag) rfl) (ev_c _))) fun ds hd => by
    subst hd
    exact ⟨rfl, fun k kx z => ⟨by decide, fun s h1 h2 h3 h4 => z _ ⟨s, ⟨h1, by omega, h4⟩, rfl⟩⟩⟩
  have dds := evn_pickN (B := fun d => ∃ al : List Nat, (al ≠ [] ∧ al.length ≤ 26 ∧ ∀ c ∈ al, c ∈ LET) ∧ d = .str al) (ev_var (Γ := G1) (i := 1) rfl) (evn_lst (evnl_cons letters (evnl_cons alpha evnl_nil)) fun ds hd => by
    obtain ⟨_, _, _, ⟨_, _, _, rfl, rfl⟩, rfl⟩ := hd
    exact two) fun d hd => by
    obtain ⟨_, ⟨_, _, h1, ⟨_, _, h2, rfl, rfl⟩, rfl⟩, rfl⟩ := hd
    refine ⟨_, rfl, by simp, two, fun y hy => ?_⟩
    simp only [List.mem_cons, List.not_mem_nil, or_false] at hy
    rcases hy with rfl | rfl
    · exact h1
    · exact h2
  refine st_setN (Γ := G1) dds fun d ⟨al, ⟨a0, a26, hal⟩, e⟩ => ?_
  subst e
  let G2 : Ga := Gn s2 (.pu NS) s4 (.pu (.str al)) s6 s7 s8
  have dep : EvN (tpOp fAdd (tpC (.int 1)) (tpCall 2 fsPullW (tlCons (tpVar 1) (tlCons (tpC (.int 5)) tlNil)))) G2 (fun d => ∃ m : Nat, (1 ≤ m ∧ m ≤ 5) ∧ d = .int (m : Nat)) := evn_op (evn (ev_c (.int 1))) (evn_pullW (ev_var rfl) (ev_c (.int 5)) (by decide) (by decide)) fun x y hx ⟨r, r1, hy⟩ k z => by
    subst hx hy
    exact z _ ⟨1 + r, ⟨by omega, by omega⟩, by congr 1⟩
  have tr : EvN (tpCall 5 (fsTreeK 7) (tlCons (tpVar 1) (tlCons (tpVar 5) (tlCons (tpVar 3) (tlCons (tpOp fAdd (tpC (.int 1)) (tpCall 2 fsPullW (tlCons (tpVar 1) (tlCons (tpC (.int 5)) tlNil)))) (tlCons (tpLst (tlCons (tpC (.str wTHE)) (tlCons (tpC (.str wTIM)) (tlCons (tpC (.str wEIT)) (tlCons (tpC (.str wAGA)) tlNil))))) tlNil)))))) G2 (fun d => ∃ t, (Pt 11 t ∧ wl t ≤ 800) ∧ d = t.dat) :=
    evn_call (evnl_cons (evn (ev_var (d := .bag) rfl)) (evnl_cons (evn (ev_var (d := .str al) rfl)) (evnl_cons (evn (ev_var (d := NS) rfl)) (evnl_cons dep (evnl_cons (evn (ev_lst (evl_cons (ev_c (.str wTHE)) (evl_3 (ev_c (.str wTIM)) (ev_c (.str wEIT)) (ev_c (.str wAGA)))) (by show 4 ≤ 100000; decide))) evnl_nil))))) fun ds hd => by
      obtain ⟨_, _, rfl, ⟨_, _, rfl, ⟨_, _, rfl, ⟨_, _, ⟨m, hm, rfl⟩, ⟨_, _, rfl, rfl, rfl⟩, rfl⟩, rfl⟩, rfl⟩, rfl⟩ := hd
      refine ⟨rfl, fun k kx z => ⟨[a, b, c], m, ⟨rfl, rfl, rfl, hm.1, by omega, by omega, a0, a26, hal, hn, by show 3 ≤ 100; decide⟩, fun t ht => z _ ⟨t, ⟨ht.1.mono (by omega), ?_⟩, rfl⟩⟩⟩
      have h1 : 3 ^ (m + 1) ≤ 3 ^ 6 := Nat.pow_le_pow_right (by decide) (by omega)
      have h2 : (3 : Nat) ^ 6 = 729 := by decide
      have := ht.2
      omega
  refine st_setN (Γ := G2) tr fun d ⟨t, ⟨ht, hw⟩, e⟩ => ?_
  subst e
  let G3 : Ga := Gn s2 (.pu NS) s4 (.pu (.str al)) (.pu t.dat) s7 s8
  -- what comes behind the tree
  have cont : ∀ t : Tr, OkT t → isB 12 t = true → wl t ≤ 900 → tsSeq (tsSet 7 (tpCall 1 (fsTextOf 16) (tlCons (tpVar 6) tlNil)))
    (tsSeq (tsIf (tbNot (tbV (tpCall 2 (fsSame 16) (tlCons (tpLst (tlCons (tpCall 1 (fsScriptText CT) (tlCons (tpVar 6) tlNil)) (tlCons (tpCall 1 (fsReadS CX) (tlCons (tpVar 7) tlNil)) (tlCons (tpCall 1 fsIsTree1 (tlCons (tpVar 6) tlNil)) tlNil)))) (tlCons (tpLst (tlCons (tpVar 7) (tlCons (tpVar 6) (tlCons (tpC (.bl true)) tlNil)))) tlNil)))))
    (tsRet (tpC (.bl false)))
    tsNext)
    (tsSeq (tsIf (tbNot (tbV (tpCall 2 (fsSame 16) (tlCons (tpLst (tlCons (tpCall 1 fsNamesIn (tlCons (tpVar 6) tlNil)) (tlCons (tpCallK 0 (fsReadS CX) [0] tlNil (tlN 1 (tlCons (tpCallK 0 (fsScriptText CT) [0] tlNil (tlN 1 (tlCons (tpVar 6) tlNil))) tlNil))) tlNil))) (tlCons (tpLst (tlCons (tpCall 1 (fsLNames 16) (tlCons (tpVar 6) tlNil)) (tlCons (tpVar 6) tlNil))) tlNil)))))
    (tsRet (tpC (.bl false)))
    tsNext)
    (tsSeq (tsSet 8 (tpCall 2 fsPick (tlCons (tpVar 1) (tlCons (tpLst (tlCons (tpOp fAdd (tpOp fIx (tpVar 3) (tpC (.int 0))) (tpC (.str [97]))) (tlCons (tpC (.str [])) (tlCons (tpLower (tpOp fIx (tpVar 3) (tpC (.int 0)))) (tlCons (tpOp fMulS (tpOp fIx (tpVar 3) (tpC (.int 0))) (tpC (.int 7))) (tlCons (tpC .non) (tlCons (tpLst (tlCons (tpC (.str [65])) tlNil)) (tlCons (tpC (.int 0)) (tlCons (tpOp fAdd (tpSl (tpOp fIx (tpVar 3) (tpC (.int 0))) toNo (toSome (tpC (.int 5)))) (tpC (.str [45]))) (tlCons (tpC (.str [32, 65])) tlNil)))))))))) tlNil))))
    (tsIf (tbNot (tbV (tpCall 2 (fsSame 16) (tlCons (tpLst (tlCons (tpCall 1 fsIsNameX (tlCons (tpOp fIx (tpVar 3) (tpC (.int 1))) tlNil)) (tlCons (tpCall 1 fsIsNameX (tlCons (tpVar 8) tlNil)) (tlCons (tpCallK 0 fsIsNameX [0] tlNil (tlN 1 (tlCons (tpOp fIx (tpVar 3) (tpC (.int 2))) tlNil))) tlNil)))) (tlCons (tpLst (tlCons (tpC (.bl true)) (tlCons (tpC (.bl false)) (tlCons (tpC (.bl true)) tlNil)))) tlNil)))))
    (tsRet (tpC (.bl false)))
    tsNext)))) P (Gn s2 (.pu NS) s4 (.pu (.str al)) (.pu t.dat) s7 s8) := fun t ok hb hw => by
    have dp := isB_dp hb
    have hs : TxOk (scT t) := ⟨by unfold wl at hw; omega, sc_lt ok⟩
    let H0 : Ga := Gn s2 (.pu NS) s4 (.pu (.str al)) (.pu t.dat) s7 s8
    refine st_set (Γ := H0) (d := .str (scT t)) (ev_call (evl_1 (ev_var (i := 6) rfl)) rfl fun k kx z => ⟨t, ⟨rfl, ok, by omega, hs⟩, z⟩) ?_
    let H1 : Ga := Gn s2 (.pu NS) s4 (.pu (.str al)) (.pu t.dat) (.pu (.str (scT t))) s8
    have v6 : Ev (tpVar 6) H1 t.dat := ev_var rfl
    have v7 : Ev (tpVar 7) H1 (.str (scT t)) := ev_var rfl
    have isT : Ev (tpCall 1 fsIsTree1 (tlCons (tpVar 6) tlNil)) H1 (.bl true) := ev_call (evl_1 v6) rfl fun k kx z => ⟨t, ⟨rfl, ok, by omega⟩, by rw [hb]; exact z⟩
    have o1 : okS 15 (.lst [.str (scT t), t.dat, .bl true]) := ⟨three, okS_s 14 (by have := hs.hz; omega) hs.pl, okS_t ok 14 (by omega), trivial, trivial⟩
    refine st_ifN (Γ := H1) (same3 (b := .non) (ev_lst (evl_3 (ev_st v6 ok hb hs) (ev_rs v7 ok hb hs) isT) three) (ev_lst (evl_3 v7 v6 (ev_c _)) three) o1) ?_
    have nin : Ev (tpCall 1 fsNamesIn (tlCons (tpVar 6) tlNil)) H1 (.lst ((nmT t).map .str)) := ev_call (evl_1 v6) rfl fun k kx z => ⟨t, ⟨rfl, ok, hb, by omega⟩, z⟩
    have nln : Ev (tpCall 1 (fsLNames 16) (tlCons (tpVar 6) tlNil)) H1 (.lst ((nmT t).map .str)) := ev_call (evl_1 v6) rfl fun k kx z => ⟨t, ⟨rfl, ok, by omega, by omega⟩, z⟩
    have kst : Ev (tpCallK 0 (fsScriptText CT) [0] tlNil (tlN 1 (tlCons (tpVar 6) tlNil))) H1 (.str (scT t)) := ev_callK evl_nil (evl_N (evl_1 v6) rfl) rfl fun k kx z => ⟨t, ⟨rfl, ok, by omega, hs⟩, fun _ => z, fun q => by rw [hb] at q; cases q⟩
    have krs : Ev (tpCallK 0 (fsReadS CX) [0] tlNil (tlN 1 (tlCons (tpCallK 0 (fsScriptText CT) [0] tlNil (tlN 1 (tlCons (tpVar 6) tlNil))) tlNil))) H1 t.dat := ev_callK evl_nil (evl_N (evl_1 kst) rfl) rfl fun k kx z => ⟨t, ⟨rfl, ok, by omega, hs⟩, fun _ => z, fun q => by rw [hb] at q; cases q⟩
    have nl := nmT_len ok
    have o2 : okS 15 (.lst [.lst ((nmT t).map .str), t.dat]) := ⟨two, ⟨by rw [List.length_map]; omega, okSL_str (nmT_ok ok)⟩, okS_t ok 14 (by omega), trivial⟩
    refine st_ifN (Γ := H1) (same3 (b := .non) (ev_lst (evl_2 nin krs) two) (ev_lst (evl_2 nln v6) two) o2) ?_
    have v3 : ∀ {Γ : Ga}, gat Γ 3 = .pu NS → Ev (tpVar 3) Γ NS := fun g => ev_var g
    have x0 : ∀ {Γ : Ga}, gat Γ 3 = .pu NS → Ev (tpOp fIx (tpVar 3) (tpC (.int 0))) Γ (.str a) := fun g => ev_ixL (l := [.str a, .str b, .str c]) (ev_var g) (ev_c (.int 0)) rfl
    have x1 : ∀ {Γ : Ga}, gat Γ 3 = .pu NS → Ev (tpOp fIx (tpVar 3) (tpC (.int 1))) Γ (.str b) := fun g => ev_ixL (l := [.str a, .str b, .str c]) (ev_var g) (ev_c (.int 1)) rfl
    have x2 : ∀ {Γ : Ga}, gat Γ 3 = .pu NS → Ev (tpOp fIx (tpVar 3) (tpC (.int 2))) Γ (.str c) := fun g => ev_ixL (l := [.str a, .str b, .str c]) (ev_var g) (ev_c (.int 2)) rfl
    have al6 := ha.h2
    have al1 := ha.h1
    have e0 := x0 (Γ := H1) rfl
    have b1 := ev_addS e0 (ev_c (.str [97])) (by show a.length + 1 ≤ _; omega)
    have b3 := ev_lower e0 (fun c hc => (cap_ne (ha.h3 c hc)).2.2.1) (by omega)
    have b4 := ev_mulS (m := 7) e0 (ev_c (.int ((7 : Nat) : Nat))) (by decide) (by omega) (by omega)
    have b8 := ev_addS (ev_slT (a := 5) e0 (ev_c (.int 5)) rfl (by omega)) (ev_c (.str [45])) (by have := List.length_take_le 5 a; show _ + 1 ≤ _; omega)
    have lst := evl_cons b1 (evl_cons (ev_c (.str [])) (evl_cons b3 (evl_cons b4 (evl_cons (ev_c .non) (evl_cons (ev_lst (evl_1 (ev_c (.str [65]))) (by show 1 ≤ 100000; decide)) (evl_cons (ev_c (.int 0)) (evl_cons b8 (evl_cons (ev_c (.str [32, 65])) evl_nil))))))))
    have bad := evn_pick (Γ := H1) (tb := tpVar 1) (ev_var rfl) (ev_lst lst (by show 9 ≤ 100000; decide)) (by simp) (by show 9 ≤ 100000; decide)
    refine st_setN (Γ := H1) bad fun d hd => ?_
    have hbad : BadNm d := by
      simp only [List.mem_cons, List.not_mem_nil, or_false] at hd
      rcases hd with rfl | rfl | rfl | rfl | rfl | rfl | rfl | rfl | rfl
      · exact .inl ⟨_, rfl, by rw [List.length_append]; show _ + 1 ≤ _; omega, nameB_bad (c := 97) (List.mem_append_right _ List.mem_cons_self) (by decide)⟩
      · exact .inl ⟨_, rfl, by decide, by decide⟩
      · refine .inl ⟨_, rfl, by rw [List.length_map]; omega, ?_⟩
        match a, al1, ha with
        | c :: r, _, ha => exact nameB_bad (c := lo1D c) List.mem_cons_self (lo_bad (ha.h3 c List.mem_cons_self))
      · refine .inl ⟨_, rfl, ?_, ?_⟩
        · have : (List.replicate 7 a).flatten.length = 7 * a.length := by simp; omega
          omega
        · have : (List.replicate 7 a).flatten.length = 7 * a.length := by simp; omega
          unfold nameB
          rw [decide_eq_false (by omega : ¬ (List.replicate 7 a).flatten.length ≤ 6), Bool.and_false, Bool.false_and]
      · exact .inr ⟨rfl, fun s z => nomatch z⟩
      · exact .inr ⟨rfl, fun s z => nomatch z⟩
      · exact .inr ⟨rfl, fun s z => nomatch z⟩
      · exact .inl ⟨_, rfl, by have := List.length_take_le 5 a; rw [List.length_append]; show _ + 1 ≤ _; omega, nameB_bad (c := 45) (List.mem_append_right _ List.mem_cons_self) (by decide)⟩
      · exact .inl ⟨_, rfl, by decide, by decide⟩
    let H2 : Ga := Gn s2 (.pu NS) s4 (.pu (.str al)) (.pu t.dat) (.pu (.str (scT t))) (.pu d)
    have k2 : Ev (tpCallK 0 fsIsNameX [0] tlNil (tlN 1 (tlCons (tpOp fIx (tpVar 3) (tpC (.int 2))) tlNil))) H2 (.bl true) := ev_callK evl_nil (evl_N (evl_1 (x2 rfl)) rfl) rfl fun k kx z => ⟨by have := hc.h2; omega, by rw [nameB_ok hc]; exact z⟩
    exact st_if1F (Γ := H2) (same3 (b := .non) (ev_lst (evl_3 (ev_nm (x1 rfl) hb') (ev_badNm (ev_var (i := 8) rfl) hbad) k2) three) (ev_lst (evl_3 (ev_c _) (ev_c _) (ev_c _)) three) ⟨three, trivial, trivial, trivial, trivial⟩) (hk _ _ _ _ _ _)
  have pw : Ev (tpOp fPow (tpC (.int 10)) (tpC (.int 30))) G3 (.int ((10 ^ 30 : Nat) : Nat)) := ev_op (ev_c _) (ev_c _) fun k z => ⟨⟨by decide, by decide, by decide⟩, z⟩
  have cond : EvNB (tbV (tpOp fEq (tpCall 2 fsPullW (tlCons (tpVar 1) (tlCons (tpC (.int 3)) tlNil))) (tpC (.int 0)))) G3 fun _ => True := evnb_vB (evn_op (evn_pullW (ev_var rfl) (ev_c (.int 3)) (by decide) (by decide)) (evn (ev_c (.int 0))) fun x y ⟨r, r1, hx⟩ hy k z => by
    subst hx hy
    exact ⟨⟨rfl, rfl, Nat.zero_le _, Nat.zero_le _⟩, z _ ⟨_, rfl⟩⟩)
  refine st_ifEN (Γ := G3) cond ?_ (cont t ht.1 (ht.2 12 (by decide)) (by omega))
  have wide : EvN (tpCall 2 fsPullW (tlCons (tpVar 1) (tlCons (tpOp fPow (tpC (.int 10)) (tpC (.int 30))) tlNil))) G3 (fun d => ∃ n : Nat, n ≤ 10 ^ 30 ∧ d = .int (n : Nat)) := evn_imp (evn_pullW (ev_var rfl) pw (by decide) (by decide)) fun d ⟨r, r1, e⟩ => ⟨r, by
    have : (r : Int) < ((10 ^ 30 : Nat) : Int) := r1
    exact Nat.le_of_lt (Int.ofNat_lt.mp this), e⟩
  have pk : EvN (tpCall 2 fsPick (tlCons (tpVar 1) (tlCons (tpLst (tlCons (tpOp fPow (tpC (.int 10)) (tpC (.int 30))) (tlCons (tpCall 2 fsPullW (tlCons (tpVar 1) (tlCons (tpOp fPow (tpC (.int 10)) (tpC (.int 30))) tlNil))) (tlCons (tpC (.int 10)) (tlCons (tpC (.int 0)) tlNil))))) tlNil))) G3 (fun d => ∃ n : Nat, n ≤ 10 ^ 30 ∧ d = .int (n : Nat)) := by
    refine evn_pickN (ev_var rfl) (evn_lst (evnl_cons (evn pw) (evnl_cons wide (evnl_cons (evn (ev_c (.int 10))) (evnl_cons (evn (ev_c (.int 0))) evnl_nil)))) fun ds hd => ?_) fun d hd => ?_
    · obtain ⟨_, _, _, ⟨_, _, _, ⟨_, _, _, ⟨_, _, _, rfl, rfl⟩, rfl⟩, rfl⟩, rfl⟩ := hd
      show 4 ≤ 100000
      decide
    · obtain ⟨_, ⟨_, _, rfl, ⟨_, _, h1, ⟨_, _, rfl, ⟨_, _, rfl, rfl, rfl⟩, rfl⟩, rfl⟩, rfl⟩, rfl⟩ := hd
      refine ⟨_, rfl, by simp, by show 4 ≤ 100000; decide, fun y hy => ?_⟩
      simp only [List.mem_cons, List.not_mem_nil, or_false] at hy
      rcases hy with rfl | rfl | rfl | rfl
      · exact ⟨10 ^ 30, Nat.le_refl _, rfl⟩
      · exact h1
      · exact ⟨10, by decide, rfl⟩
      · exact ⟨0, by decide, rfl⟩
  refine st_set1N (Γ := G3) (A := fun d => ∃ n : Nat, n ≤ 10 ^ 30 ∧ d = (Tr.ti t n).dat) (evn_imp (evn_tup (evnl_cons (evn (ev_c _)) (evnl_cons (evn (ev_var (i := 6) (d := t.dat) rfl)) (evnl_cons pk evnl_nil))) fun ds hd => ?_) fun d hd => ?_) fun d ⟨n, hn', e3⟩ => ?_
  · obtain ⟨_, _, _, ⟨_, _, _, ⟨_, _, _, rfl, rfl⟩, rfl⟩, rfl⟩ := hd
    exact three
  · obtain ⟨_, ⟨_, _, rfl, ⟨_, _, rfl, ⟨_, _, ⟨n, hn', rfl⟩, rfl, rfl⟩, rfl⟩, rfl⟩, rfl⟩ := hd
    exact ⟨n, hn', by rw [dat_eq (.ti _ _)]; rfl⟩
  · subst e3
    have l1 := wr_len2 t
    have l2 := numL_30 hn'
    exact cont (.ti t n) (.ti ht.1 hn') (ht.2 11 (by decide)) (by
      unfold wl at hw ⊢
      rw [sc_ti, List.length_append, List.length_cons]
      omega)
theorem loop_ok (hk : ∀ s2 s3 s4 s5 s6 s7 s8, P.nx (Gn s2 s3 s4 s5 s6 s7 s8)) : ∀ (l : List D) (s2 s3 s4 s5 s6 s7 s8 : Sl), forW (tgName 2) (bod CT CX) P l (Gn s2 s3 s4 s5 s6 s7 s8)
  | [], _, _, _, _, _, _, _ => hk _ _ _ _ _ _ _
  | d :: r, _, s3, s4, s5, s6, s7, s8 => for_cons (body_ok (P := { P with nx := forW (tgName 2) (bod CT CX) P r, ct := forW (tgName 2) (bod CT CX) P r, bk := P.nx }) fun _ _ _ _ _ _ => loop_ok hk r _ _ _ _ _ _ _)
theorem law_ok' : fsLaw ds kd kx → m_law fsStart fsNameS fsPick fsLetters fsAlpha (fsTreeK 7) fsPullW (fsTextOf 16) (fsSame 16) (fsScriptText CT) (fsReadS CX) fsNamesIn (fsLNames 16) fsIsNameX fsIsTree1 ds kd kx := by
  intro h0
  match ds, h0 with
  | [.scr], h =>
    have start : Ev (tpCall 1 fsStart (tlCons (tpVar 0) tlNil)) [.pu .scr, .un, .un, .un, .un, .un, .un, .un, .un] .bag := ev_call (evl_1 (ev_var rfl)) rfl fun k kx z => z
    refine st_set start ?_
    refine st_for (Γ := Gn .un .un .un .un .un .un .un) (s := bod CT CX) (evl_rg1 (b := 4) (ev_c (.int 4)) (by decide)) (loop_ok (P := { fEnds kd kx with nx := rest CT CX (fEnds kd kx) }) (fun s2 s3 s4 s5 s6 s7 s8 => ?_) _ _ _ _ _ _ _ _)
    let G : Ga := Gn s2 s3 s4 s5 s6 s7 s8
    show rest CT CX (fEnds kd kx) G
    have dd0 : OkT (.dd []) := .dd (fun _ z => nomatch z) (by decide)
    have t0 : scT (.dd []) = [45] := by rw [sc_dd]; rfl
    have r0 : Ev (tpCall 1 (fsReadS CX) (tlCons (tpC (.str [45])) tlNil)) G (Tr.dd []).dat := ev_rs (t := .dd []) (by rw [t0]; exact ev_c _) dd0 rfl (by rw [t0]; exact ⟨by decide, by decide⟩)
    have e0 : Ev (tpOp fEq (tpCall 1 (fsReadS CX) (tlCons (tpC (.str [45])) tlNil)) (tpTup (tlCons (tpC (.str [100, 101, 101, 100, 115])) (tlCons (tpC (.str [])) tlNil)))) G (.bl true) := ev_op r0 (ev_tup (ds := [.str DDS, .str []]) (evl_2 (ev_c _) (ev_c _)) two) fun k z => by
      rw [dat_eq]
      exact ⟨⟨rfl, rfl, by decide, by decide⟩, z⟩
    let T : Tr := .th [.nm [65], .nm [66]]
    have nA : NmOk [65] := ⟨by decide, by decide, by decide⟩
    have nB : NmOk [66] := ⟨by decide, by decide, by decide⟩
    have okT : OkT T := .th (by decide) (by decide) (fun p hp => by
      simp only [List.mem_cons, List.not_mem_nil, or_false] at hp
      rcases hp with rfl | rfl
      · exact .nm nA.h1 nA.h2 nA.h3
      · exact .nm nB.h1 nB.h2 nB.h3) (fun p hp => by
      simp only [List.mem_cons, List.not_mem_nil, or_false] at hp
      rcases hp with rfl | rfl <;> exact ⟨rfl, fun z => nomatch z⟩) (fun i v w z => by
      match i, z with
      | 0, z => cases z
      | 1, z => cases z)
    have tT : scT T = [65, 46, 66] := by
      show scT (.th [.nm [65], .nm [66]]) = _
      rw [sc_th, scS_tail, scS_cons, scS, sc_nm, sc_nm]
      rfl
    have dT : Ev (tpTup (tlCons (tpC (.str [116, 104, 101, 110])) (tlCons (tpTup (tlCons (tpC (.str [110, 97, 109, 101])) (tlCons (tpC (.str [65])) tlNil))) (tlCons (tpTup (tlCons (tpC (.str [110, 97, 109, 101])) (tlCons (tpC (.str [66])) tlNil))) tlNil)))) G T.dat := by
      have a1 : Ev (tpTup (tlCons (tpC (.str wNAM)) (tlCons (tpC (.str [65])) tlNil))) G (Tr.nm [65]).dat := by rw [dat_eq (.nm _)]; exact ev_tup (evl_2 (ev_c _) (ev_c _)) two
      have a2 : Ev (tpTup (tlCons (tpC (.str wNAM)) (tlCons (tpC (.str [66])) tlNil))) G (Tr.nm [66]).dat := by rw [dat_eq (.nm _)]; exact ev_tup (evl_2 (ev_c _) (ev_c _)) two
      rw [dat_eq T]
      exact ev_tup (evl_3 (ev_c (.str wTHE)) a1 a2) three
    have s1 := ev_st (CT := CT) dT okT rfl (by rw [tT]; exact ⟨by decide, by decide⟩)
    rw [tT] at s1
    have e1 := ev_eqST s1 (ev_c (.str [65, 46, 66])) rfl rfl rfl
    exact st_ret (Γ := G) (ev_an e0 fun _ => e1) h
end
end K36
set_option Elab.async false
set_option linter.all false
set_option maxRecDepth 100000
set_option maxHeartbeats 8000000
namespace K36
open PySem L2 PL
abbrev s_law_start : Stmt := top 28
theorem sc_law_start : FnScope ["_law_script_here"] ["_law_script_here"] (defScope s_law_start) := ⟨rfl, rfl, rfl, by decide +kernel, rfl, by decide +kernel, by decide +kernel⟩
section
variable {P : Program} {w : World} {K : PySem.W.Frag} {mg : PySem.Str → Option Value} {base : Heap} {C : Cls}
theorem ok_law_start [Tabl] {f : Addr} {fd : FuncData} (F : Fun K "_law_start" "_law_start" s_law_start f fd) (T : Txt P K mg C) : FnOk P w K mg base (L2.CX P w) (0 + 1) f fd ["_law_script_here"] (spOf K 1 fsStart) :=
  start_ok F sc_law_start rfl fun cdv A outer s H E => pss_one (ps_ret (pe_lst (pa_cons (pe_callTy call_list_of (by rfl) T.b_list (by decide +kernel) (pa_cons (pe_slice sl_list (pv 0) po_none (po_some pe_int)) pa_nil)) (pa_cons pe_int (pa_cons pe_int (pa_cons (pe_op op_add pe_int (pe_callB call_len (by rfl) T.b_len (by decide +kernel) (pa_cons (pv 0) pa_nil))) pa_nil))))))
end
theorem xtext_InvalidText : PySem.ExcX.XText0 (inClass (top 2) 0) "InvalidText" :=
  ⟨⟨_, rfl⟩, ⟨_, _, _, _, _, _, _, _, _, _, rfl, fun env => ⟨_, rfl⟩⟩, rfl, fun _ _ _ _ _ _ _ _ _ _ => rfl⟩
theorem xtext_InvalidTree : PySem.ExcX.XText0 (inClass (top 3) 0) "InvalidTree" :=
  ⟨⟨_, rfl⟩, ⟨_, _, _, _, _, _, _, _, _, _, rfl, fun env => ⟨_, rfl⟩⟩, rfl, fun _ _ _ _ _ _ _ _ _ _ => rfl⟩
def noT : Tabl := ⟨[], fun p hp => absurd hp (by simp)⟩
theorem all_mk {l : PySem.W.OpenLaw} {w : World} {K : PySem.W.Frag} {h : Heap} {mg : PySem.Str → Option Value} {fa : Addr} (KX : K.In h) (G : h.Ns mainGlobals mg) (hfa : mg "law" = some (.ref fa))
    {C_Reader : Addr} {f_is_number : Addr} {oc_is_number kV_is_number dc_is_number pm_is_number cd_is_number ct_is_number : Value} {od_is_number an_is_number : Option Addr} {sl_is_number : Array (Option Value)} {f_is_within : Addr} {oc_is_within kV_is_within dc_is_within pm_is_within cd_is_within ct_is_within : Value} {od_is_within an_is_within : Option Addr} {sl_is_within : Array (Option Value)} {f_is_log : Addr} {oc_is_log kV_is_log dc_is_log pm_is_log cd_is_log ct_is_log : Value} {od_is_log an_is_log : Option Addr} {sl_is_log : Array (Option Value)} {f_is_name : Addr} {oc_is_name kV_is_name dc_is_name pm_is_name cd_is_name ct_is_name : Value} {od_is_name an_is_name : Option Addr} {sl_is_name : Array (Option Value)} {f_inner : Addr} {oc_inner kV_inner dc_inner pm_inner cd_inner ct_inner : Value} {od_inner an_inner : Option Addr} {sl_inner : Array (Option Value)} {f_is_row : Addr} {oc_is_row kV_is_row dc_is_row pm_is_row cd_is_row ct_is_row : Value} {od_is_row an_is_row : Option Addr} {sl_is_row : Array (Option Value)} {f_is_tree dT_is_tree : Addr} {oc_is_tree kV_is_tree dc_is_tree pm_is_tree cd_is_tree ct_is_tree dtc_is_tree : Value} {od_is_tree an_is_tree dtd_is_tree : Option Addr} {sl_is_tree dts_is_tree : Array (Option Value)} {dtn_is_tree : Nat} {dtt_is_tree : Tok} {f_need_tree : Addr} {oc_need_tree kV_need_tree dc_need_tree pm_need_tree cd_need_tree ct_need_tree : Value} {od_need_tree an_need_tree : Option Addr} {sl_need_tree : Array (Option Value)} {f_text_of : Addr} {oc_text_of kV_text_of dc_text_of pm_text_of cd_text_of ct_text_of : Value} {od_text_of an_text_of : Option Addr} {sl_text_of : Array (Option Value)} {f_script_text : Addr} {oc_script_text kV_script_text dc_script_text pm_script_text cd_script_text ct_script_text : Value} {od_script_text an_script_text : Option Addr} {sl_script_text : Array (Option Value)} {f_Reader___init__ : Addr} {oc_Reader___init__ kV_Reader___init__ dc_Reader___init__ pm_Reader___init__ cd_Reader___init__ ct_Reader___init__ : Value} {od_Reader___init__ an_Reader___init__ : Option Addr} {sl_Reader___init__ : Array (Option Value)} {f_Reader_run : Addr} {oc_Reader_run kV_Reader_run dc_Reader_run pm_Reader_run cd_Reader_run ct_Reader_run : Value} {od_Reader_run an_Reader_run : Option Addr} {sl_Reader_run : Array (Option Value)} {f_Reader_passed : Addr} {oc_Reader_passed kV_Reader_passed dc_Reader_passed pm_Reader_passed cd_Reader_passed ct_Reader_passed : Value} {od_Reader_passed an_Reader_passed : Option Addr} {sl_Reader_passed : Array (Option Value)} {f_Reader_atom : Addr} {oc_Reader_atom kV_Reader_atom dc_Reader_atom pm_Reader_atom cd_Reader_atom ct_Reader_atom : Value} {od_Reader_atom an_Reader_atom : Option Addr} {sl_Reader_atom : Array (Option Value)} {f_Reader_powers : Addr} {oc_Reader_powers kV_Reader_powers dc_Reader_powers pm_Reader_powers cd_Reader_powers ct_Reader_powers : Value} {od_Reader_powers an_Reader_powers : Option Addr} {sl_Reader_powers : Array (Option Value)} {f_Reader_row : Addr} {oc_Reader_row kV_Reader_row dc_Reader_row pm_Reader_row cd_Reader_row ct_Reader_row : Value} {od_Reader_row an_Reader_row : Option Addr} {sl_Reader_row : Array (Option Value)} {f_read_script : Addr} {oc_read_script kV_read_script dc_read_script pm_read_script cd_read_script ct_read_script : Value} {od_read_script an_read_script : Option Addr} {sl_read_script : Array (Option Value)} {f_listed_names : Addr} {oc_listed_names kV_listed_names dc_listed_names pm_listed_names cd_listed_names ct_listed_names : Value} {od_listed_names an_listed_names : Option Addr} {sl_listed_names : Array (Option Value)} {f_names_in : Addr} {oc_names_in kV_names_in dc_names_in pm_names_in cd_names_in ct_names_in : Value} {od_names_in an_names_in : Option Addr} {sl_names_in : Array (Option Value)} {f_law_pull : Addr} {oc_law_pull kV_law_pull dc_law_pull pm_law_pull cd_law_pull ct_law_pull : Value} {od_law_pull an_law_pull : Option Addr} {sl_law_pull : Array (Option Value)} {f_law_pick : Addr} {oc_law_pick kV_law_pick dc_law_pick pm_law_pick cd_law_pick ct_law_pick : Value} {od_law_pick an_law_pick : Option Addr} {sl_law_pick : Array (Option Value)} {f_law_name : Addr} {oc_law_name kV_law_name dc_law_name pm_law_name cd_law_name ct_law_name : Value} {od_law_name an_law_name : Option Addr} {sl_law_name : Array (Option Value)} {f_law_letters : Addr} {oc_law_letters kV_law_letters dc_law_letters pm_law_letters cd_law_letters ct_law_letters : Value} {od_law_letters an_law_letters : Option Addr} {sl_law_letters : Array (Option Value)} {f_law_alphabet : Addr} {oc_law_alphabet kV_law_alphabet dc_law_alphabet pm_law_alphabet cd_law_alphabet ct_law_alphabet : Value} {od_law_alphabet an_law_alphabet : Option Addr} {sl_law_alphabet : Array (Option Value)} {f_law_drawn : Addr} {oc_law_drawn kV_law_drawn dc_law_drawn pm_law_drawn cd_law_drawn ct_law_drawn : Value} {od_law_drawn an_law_drawn : Option Addr} {sl_law_drawn : Array (Option Value)} {f_law_row : Addr} {oc_law_row kV_law_row dc_law_row pm_law_row cd_law_row ct_law_row : Value} {od_law_row an_law_row : Option Addr} {sl_law_row : Array (Option Value)} {f_law_tree : Addr} {oc_law_tree kV_law_tree dc_law_tree pm_law_tree cd_law_tree ct_law_tree : Value} {od_law_tree an_law_tree : Option Addr} {sl_law_tree : Array (Option Value)} {f_law_script : Addr} {oc_law_script kV_law_script dc_law_script pm_law_script cd_law_script ct_law_script : Value} {od_law_script an_law_script : Option Addr} {sl_law_script : Array (Option Value)} {f_law_same : Addr} {oc_law_same kV_law_same dc_law_same pm_law_same cd_law_same ct_law_same : Value} {od_law_same an_law_same : Option Addr} {sl_law_same : Array (Option Value)} {f_law_inner : Addr} {oc_law_inner kV_law_inner dc_law_inner pm_law_inner cd_law_inner ct_law_inner : Value} {od_law_inner an_law_inner : Option Addr} {sl_law_inner : Array (Option Value)} {f_law_names : Addr} {oc_law_names kV_law_names dc_law_names pm_law_names cd_law_names ct_law_names : Value} {od_law_names an_law_names : Option Addr} {sl_law_names : Array (Option Value)} {f_law : Addr} {oc_law kV_law dc_law pm_law cd_law ct_law : Value} {od_law an_law : Option Addr} {sl_law : Array (Option Value)} {f_law_start : Addr} {oc_law_start kV_law_start dc_law_start pm_law_start cd_law_start ct_law_start : Value} {od_law_start an_law_start : Option Addr} {sl_law_start : Array (Option Value)} {t_CAPITALS : Tok} {t_DIGITS : Tok} {t_LETTERS : Tok} {t_MOST_DEPTH : Tok} {t_MOST_LETTERS : Tok} {t_MOST_PARTS : Tok} {t_MOST_TIMES : Tok} {C_InvalidText : Addr} {C_InvalidTree : Addr} {nm_InvalidText q_InvalidText : PySem.Str} {N_InvalidText : Addr} {bs_InvalidText bm_InvalidText : List Value} {sn_InvalidText : List PySem.Str} {sub_InvalidText : List Value} {ab_InvalidText : Bool} {col_InvalidText : Option Bool} {dd_InvalidText : Option Addr} {m0_InvalidText m1_InvalidText m2_InvalidText m3_InvalidText m5_InvalidText : Option Value} {fI_InvalidText cda_InvalidText cc_InvalidText : Addr} {oc_InvalidText dc_InvalidText pm_InvalidText ct_InvalidText ccl_InvalidText cl_InvalidText : Value} {od_InvalidText an_InvalidText cdd_InvalidText cld_InvalidText : Option Addr} {sl_InvalidText ccs_InvalidText csl_InvalidText : Array (Option Value)} {vs_InvalidText : Array Value} {fl_InvalidText : PySem.Str} {tf_InvalidText : Tok} {nm_InvalidTree q_InvalidTree : PySem.Str} {N_InvalidTree : Addr} {bs_InvalidTree bm_InvalidTree : List Value} {sn_InvalidTree : List PySem.Str} {sub_InvalidTree : List Value} {ab_InvalidTree : Bool} {col_InvalidTree : Option Bool} {dd_InvalidTree : Option Addr} {m0_InvalidTree m1_InvalidTree m2_InvalidTree m3_InvalidTree m5_InvalidTree : Option Value} {fI_InvalidTree cda_InvalidTree cc_InvalidTree : Addr} {oc_InvalidTree dc_InvalidTree pm_InvalidTree ct_InvalidTree ccl_InvalidTree cl_InvalidTree : Value} {od_InvalidTree an_InvalidTree cdd_InvalidTree cld_InvalidTree : Option Addr} {sl_InvalidTree ccs_InvalidTree csl_InvalidTree : Array (Option Value)} {vs_InvalidTree : Array Value} {fl_InvalidTree : PySem.Str} {tf_InvalidTree : Tok}
    (g_Reader : PySem.W.nsIn K mainGlobals "Reader" = some (some (.ref C_Reader)))
    (kg_Reader : PySem.W.plainGet K C_Reader PySem.Str.empty = true)
    (kh_Reader : PySem.W.hasDictIn K C_Reader = true)
    (ko_Reader : PySem.W.plainOver K C_Reader = true)
    (ks_Reader : PySem.W.findIn K (.ref C_Reader) "__setattr__" = some (some (.builtin "object.__setattr__")))
    (fn_Reader_text_left : PySem.W.findIn K (.ref C_Reader) "text_left" = some none)
    (ma_Reader_passed : PySem.W.findIn K (.ref C_Reader) "passed" = some (some (.ref f_Reader_passed)))
    (mf_Reader_passed : PySem.W.isFn K (.ref f_Reader_passed) = true)
    (mk_Reader_passed : PySem.W.keepIn K (.ref f_Reader_passed) = true)
    (ma_Reader_row : PySem.W.findIn K (.ref C_Reader) "row" = some (some (.ref f_Reader_row)))
    (mf_Reader_row : PySem.W.isFn K (.ref f_Reader_row) = true)
    (mk_Reader_row : PySem.W.keepIn K (.ref f_Reader_row) = true)
    (ma_Reader_run : PySem.W.findIn K (.ref C_Reader) "run" = some (some (.ref f_Reader_run)))
    (mf_Reader_run : PySem.W.isFn K (.ref f_Reader_run) = true)
    (mk_Reader_run : PySem.W.keepIn K (.ref f_Reader_run) = true)
    (ma_Reader_atom : PySem.W.findIn K (.ref C_Reader) "atom" = some (some (.ref f_Reader_atom)))
    (mf_Reader_atom : PySem.W.isFn K (.ref f_Reader_atom) = true)
    (mk_Reader_atom : PySem.W.keepIn K (.ref f_Reader_atom) = true)
    (ma_Reader_powers : PySem.W.findIn K (.ref C_Reader) "powers" = some (some (.ref f_Reader_powers)))
    (mf_Reader_powers : PySem.W.isFn K (.ref f_Reader_powers) = true)
    (mk_Reader_powers : PySem.W.keepIn K (.ref f_Reader_powers) = true)
    (ia_Reader : PySem.W.makesIn K C_Reader = true)
    (ib_Reader : PySem.W.findIn K (.ref C_Reader) "__init__" = some (some (.ref f_Reader___init__)))
    (ic_Reader : PySem.W.isFn K (.ref f_Reader___init__) = true)
    (id_Reader : PySem.W.keepIn K (.ref C_Reader) = true)
    (a_is_number : PySem.W.nsIn K mainGlobals "is_number" = some (some (.ref f_is_number)))
    (l_is_number : K.lookup f_is_number = some ⟨oc_is_number, od_is_number, .func (PySem.W.fnOf "is_number" "is_number" (defArgs s_is_number) (defBody s_is_number) (defScope s_is_number) .none kV_is_number dc_is_number pm_is_number an_is_number cd_is_number ct_is_number), sl_is_number⟩)
    (c_is_number_ : PySem.W.codeIn K cd_is_number "is_number" = true)
    (k_is_number : PySem.W.keepIn K (.ref f_is_number) = true)
    (a_is_within : PySem.W.nsIn K mainGlobals "is_within" = some (some (.ref f_is_within)))
    (l_is_within : K.lookup f_is_within = some ⟨oc_is_within, od_is_within, .func (PySem.W.fnOf "is_within" "is_within" (defArgs s_is_within) (defBody s_is_within) (defScope s_is_within) .none kV_is_within dc_is_within pm_is_within an_is_within cd_is_within ct_is_within), sl_is_within⟩)
    (c_is_within_ : PySem.W.codeIn K cd_is_within "is_within" = true)
    (k_is_within : PySem.W.keepIn K (.ref f_is_within) = true)
    (a_is_log : PySem.W.nsIn K mainGlobals "is_log" = some (some (.ref f_is_log)))
    (l_is_log : K.lookup f_is_log = some ⟨oc_is_log, od_is_log, .func (PySem.W.fnOf "is_log" "is_log" (defArgs s_is_log) (defBody s_is_log) (defScope s_is_log) .none kV_is_log dc_is_log pm_is_log an_is_log cd_is_log ct_is_log), sl_is_log⟩)
    (c_is_log_ : PySem.W.codeIn K cd_is_log "is_log" = true)
    (k_is_log : PySem.W.keepIn K (.ref f_is_log) = true)
    (a_is_name : PySem.W.nsIn K mainGlobals "is_name" = some (some (.ref f_is_name)))
    (l_is_name : K.lookup f_is_name = some ⟨oc_is_name, od_is_name, .func (PySem.W.fnOf "is_name" "is_name" (defArgs s_is_name) (defBody s_is_name) (defScope s_is_name) .none kV_is_name dc_is_name pm_is_name an_is_name cd_is_name ct_is_name), sl_is_name⟩)
    (c_is_name_ : PySem.W.codeIn K cd_is_name "is_name" = true)
    (k_is_name : PySem.W.keepIn K (.ref f_is_name) = true)
    (a_inner : PySem.W.nsIn K mainGlobals "inner" = some (some (.ref f_inner)))
    (l_inner : K.lookup f_inner = some ⟨oc_inner, od_inner, .func (PySem.W.fnOf "inner" "inner" (defArgs s_inner) (defBody s_inner) (defScope s_inner) .none kV_inner dc_inner pm_inner an_inner cd_inner ct_inner), sl_inner⟩)
    (c_inner_ : PySem.W.codeIn K cd_inner "inner" = true)
    (k_inner : PySem.W.keepIn K (.ref f_inner) = true)
    (a_is_row : PySem.W.nsIn K mainGlobals "is_row" = some (some (.ref f_is_row)))
    (l_is_row : K.lookup f_is_row = some ⟨oc_is_row, od_is_row, .func (PySem.W.fnOf "is_row" "is_row" (defArgs s_is_row) (defBody s_is_row) (defScope s_is_row) .none kV_is_row dc_is_row pm_is_row an_is_row cd_is_row ct_is_row), sl_is_row⟩)
    (c_is_row_ : PySem.W.codeIn K cd_is_row "is_row" = true)
    (k_is_row : PySem.W.keepIn K (.ref f_is_row) = true)
    (a_is_tree : PySem.W.nsIn K mainGlobals "is_tree" = some (some (.ref f_is_tree)))
    (l_is_tree : K.lookup f_is_tree = some ⟨oc_is_tree, od_is_tree, .func (PySem.W.fnOf "is_tree" "is_tree" (defArgs s_is_tree) (defBody s_is_tree) (defScope s_is_tree) (.ref dT_is_tree) kV_is_tree dc_is_tree pm_is_tree an_is_tree cd_is_tree ct_is_tree), sl_is_tree⟩)
    (c_is_tree_ : PySem.W.codeIn K cd_is_tree "is_tree" = true)
    (k_is_tree : PySem.W.keepIn K (.ref f_is_tree) = true)
    (ld_is_tree : K.lookup dT_is_tree = some ⟨dtc_is_tree, dtd_is_tree, .seq #[.int 12 dtt_is_tree] dtn_is_tree, dts_is_tree⟩)
    (a_need_tree : PySem.W.nsIn K mainGlobals "need_tree" = some (some (.ref f_need_tree)))
    (l_need_tree : K.lookup f_need_tree = some ⟨oc_need_tree, od_need_tree, .func (PySem.W.fnOf "need_tree" "need_tree" (defArgs s_need_tree) (defBody s_need_tree) (defScope s_need_tree) .none kV_need_tree dc_need_tree pm_need_tree an_need_tree cd_need_tree ct_need_tree), sl_need_tree⟩)
    (c_need_tree_ : PySem.W.codeIn K cd_need_tree "need_tree" = true)
    (k_need_tree : PySem.W.keepIn K (.ref f_need_tree) = true)
    (a_text_of : PySem.W.nsIn K mainGlobals "text_of" = some (some (.ref f_text_of)))
    (l_text_of : K.lookup f_text_of = some ⟨oc_text_of, od_text_of, .func (PySem.W.fnOf "text_of" "text_of" (defArgs s_text_of) (defBody s_text_of) (defScope s_text_of) .none kV_text_of dc_text_of pm_text_of an_text_of cd_text_of ct_text_of), sl_text_of⟩)
    (c_text_of_ : PySem.W.codeIn K cd_text_of "text_of" = true)
    (k_text_of : PySem.W.keepIn K (.ref f_text_of) = true)
    (a_script_text : PySem.W.nsIn K mainGlobals "script_text" = some (some (.ref f_script_text)))
    (l_script_text : K.lookup f_script_text = some ⟨oc_script_text, od_script_text, .func (PySem.W.fnOf "script_text" "script_text" (defArgs s_script_text) (defBody s_script_text) (defScope s_script_text) .none kV_script_text dc_script_text pm_script_text an_script_text cd_script_text ct_script_text), sl_script_text⟩)
    (c_script_text_ : PySem.W.codeIn K cd_script_text "script_text" = true)
    (k_script_text : PySem.W.keepIn K (.ref f_script_text) = true)
    (l_Reader___init__ : K.lookup f_Reader___init__ = some ⟨oc_Reader___init__, od_Reader___init__, .func (PySem.W.fnOf "__init__" "Reader.__init__" (defArgs s_Reader___init__) (defBody s_Reader___init__) (defScope s_Reader___init__) .none kV_Reader___init__ dc_Reader___init__ pm_Reader___init__ an_Reader___init__ cd_Reader___init__ ct_Reader___init__), sl_Reader___init__⟩)
    (c_Reader___init___ : PySem.W.codeIn K cd_Reader___init__ "Reader.__init__" = true)
    (k_Reader___init__ : PySem.W.keepIn K (.ref f_Reader___init__) = true)
    (l_Reader_run : K.lookup f_Reader_run = some ⟨oc_Reader_run, od_Reader_run, .func (PySem.W.fnOf "run" "Reader.run" (defArgs s_Reader_run) (defBody s_Reader_run) (defScope s_Reader_run) .none kV_Reader_run dc_Reader_run pm_Reader_run an_Reader_run cd_Reader_run ct_Reader_run), sl_Reader_run⟩)
    (c_Reader_run_ : PySem.W.codeIn K cd_Reader_run "Reader.run" = true)
    (l_Reader_passed : K.lookup f_Reader_passed = some ⟨oc_Reader_passed, od_Reader_passed, .func (PySem.W.fnOf "passed" "Reader.passed" (defArgs s_Reader_passed) (defBody s_Reader_passed) (defScope s_Reader_passed) .none kV_Reader_passed dc_Reader_passed pm_Reader_passed an_Reader_passed cd_Reader_passed ct_Reader_passed), sl_Reader_passed⟩)
    (c_Reader_passed_ : PySem.W.codeIn K cd_Reader_passed "Reader.passed" = true)
    (l_Reader_atom : K.lookup f_Reader_atom = some ⟨oc_Reader_atom, od_Reader_atom, .func (PySem.W.fnOf "atom" "Reader.atom" (defArgs s_Reader_atom) (defBody s_Reader_atom) (defScope s_Reader_atom) .none kV_Reader_atom dc_Reader_atom pm_Reader_atom an_Reader_atom cd_Reader_atom ct_Reader_atom), sl_Reader_atom⟩)
    (c_Reader_atom_ : PySem.W.codeIn K cd_Reader_atom "Reader.atom" = true)
    (l_Reader_powers : K.lookup f_Reader_powers = some ⟨oc_Reader_powers, od_Reader_powers, .func (PySem.W.fnOf "powers" "Reader.powers" (defArgs s_Reader_powers) (defBody s_Reader_powers) (defScope s_Reader_powers) .none kV_Reader_powers dc_Reader_powers pm_Reader_powers an_Reader_powers cd_Reader_powers ct_Reader_powers), sl_Reader_powers⟩)
    (c_Reader_powers_ : PySem.W.codeIn K cd_Reader_powers "Reader.powers" = true)
    (l_Reader_row : K.lookup f_Reader_row = some ⟨oc_Reader_row, od_Reader_row, .func (PySem.W.fnOf "row" "Reader.row" (defArgs s_Reader_row) (defBody s_Reader_row) (defScope s_Reader_row) .none kV_Reader_row dc_Reader_row pm_Reader_row an_Reader_row cd_Reader_row ct_Reader_row), sl_Reader_row⟩)
    (c_Reader_row_ : PySem.W.codeIn K cd_Reader_row "Reader.row" = true)
    (a_read_script : PySem.W.nsIn K mainGlobals "read_script" = some (some (.ref f_read_script)))
    (l_read_script : K.lookup f_read_script = some ⟨oc_read_script, od_read_script, .func (PySem.W.fnOf "read_script" "read_script" (defArgs s_read_script) (defBody s_read_script) (defScope s_read_script) .none kV_read_script dc_read_script pm_read_script an_read_script cd_read_script ct_read_script), sl_read_script⟩)
    (c_read_script_ : PySem.W.codeIn K cd_read_script "read_script" = true)
    (k_read_script : PySem.W.keepIn K (.ref f_read_script) = true)
    (a_listed_names : PySem.W.nsIn K mainGlobals "listed_names" = some (some (.ref f_listed_names)))
    (l_listed_names : K.lookup f_listed_names = some ⟨oc_listed_names, od_listed_names, .func (PySem.W.fnOf "listed_names" "listed_names" (defArgs s_listed_names) (defBody s_listed_names) (defScope s_listed_names) .none kV_listed_names dc_listed_names pm_listed_names an_listed_names cd_listed_names ct_listed_names), sl_listed_names⟩)
    (c_listed_names_ : PySem.W.codeIn K cd_listed_names "listed_names" = true)
    (k_listed_names : PySem.W.keepIn K (.ref f_listed_names) = true)
    (a_names_in : PySem.W.nsIn K mainGlobals "names_in" = some (some (.ref f_names_in)))
    (l_names_in : K.lookup f_names_in = some ⟨oc_names_in, od_names_in, .func (PySem.W.fnOf "names_in" "names_in" (defArgs s_names_in) (defBody s_names_in) (defScope s_names_in) .none kV_names_in dc_names_in pm_names_in an_names_in cd_names_in ct_names_in), sl_names_in⟩)
    (c_names_in_ : PySem.W.codeIn K cd_names_in "names_in" = true)
    (k_names_in : PySem.W.keepIn K (.ref f_names_in) = true)
    (a_law_pull : PySem.W.nsIn K mainGlobals "_law_pull" = some (some (.ref f_law_pull)))
    (l_law_pull : K.lookup f_law_pull = some ⟨oc_law_pull, od_law_pull, .func (PySem.W.fnOf "_law_pull" "_law_pull" (defArgs s_law_pull) (defBody s_law_pull) (defScope s_law_pull) .none kV_law_pull dc_law_pull pm_law_pull an_law_pull cd_law_pull ct_law_pull), sl_law_pull⟩)
    (c_law_pull_ : PySem.W.codeIn K cd_law_pull "_law_pull" = true)
    (k_law_pull : PySem.W.keepIn K (.ref f_law_pull) = true)
    (a_law_pick : PySem.W.nsIn K mainGlobals "_law_pick" = some (some (.ref f_law_pick)))
    (l_law_pick : K.lookup f_law_pick = some ⟨oc_law_pick, od_law_pick, .func (PySem.W.fnOf "_law_pick" "_law_pick" (defArgs s_law_pick) (defBody s_law_pick) (defScope s_law_pick) .none kV_law_pick dc_law_pick pm_law_pick an_law_pick cd_law_pick ct_law_pick), sl_law_pick⟩)
    (c_law_pick_ : PySem.W.codeIn K cd_law_pick "_law_pick" = true)
    (k_law_pick : PySem.W.keepIn K (.ref f_law_pick) = true)
    (a_law_name : PySem.W.nsIn K mainGlobals "_law_name" = some (some (.ref f_law_name)))
    (l_law_name : K.lookup f_law_name = some ⟨oc_law_name, od_law_name, .func (PySem.W.fnOf "_law_name" "_law_name" (defArgs s_law_name) (defBody s_law_name) (defScope s_law_name) .none kV_law_name dc_law_name pm_law_name an_law_name cd_law_name ct_law_name), sl_law_name⟩)
    (c_law_name_ : PySem.W.codeIn K cd_law_name "_law_name" = true)
    (k_law_name : PySem.W.keepIn K (.ref f_law_name) = true)
    (a_law_letters : PySem.W.nsIn K mainGlobals "_law_letters" = some (some (.ref f_law_letters)))
    (l_law_letters : K.lookup f_law_letters = some ⟨oc_law_letters, od_law_letters, .func (PySem.W.fnOf "_law_letters" "_law_letters" (defArgs s_law_letters) (defBody s_law_letters) (defScope s_law_letters) .none kV_law_letters dc_law_letters pm_law_letters an_law_letters cd_law_letters ct_law_letters), sl_law_letters⟩)
    (c_law_letters_ : PySem.W.codeIn K cd_law_letters "_law_letters" = true)
    (k_law_letters : PySem.W.keepIn K (.ref f_law_letters) = true)
    (a_law_alphabet : PySem.W.nsIn K mainGlobals "_law_alphabet" = some (some (.ref f_law_alphabet)))
    (l_law_alphabet : K.lookup f_law_alphabet = some ⟨oc_law_alphabet, od_law_alphabet, .func (PySem.W.fnOf "_law_alphabet" "_law_alphabet" (defArgs s_law_alphabet) (defBody s_law_alphabet) (defScope s_law_alphabet) .none kV_law_alphabet dc_law_alphabet pm_law_alphabet an_law_alphabet cd_law_alphabet ct_law_alphabet), sl_law_alphabet⟩)
    (c_law_alphabet_ : PySem.W.codeIn K cd_law_alphabet "_law_alphabet" = true)
    (k_law_alphabet : PySem.W.keepIn K (.ref f_law_alphabet) = true)
    (a_law_drawn : PySem.W.nsIn K mainGlobals "_law_drawn" = some (some (.ref f_law_drawn)))
    (l_law_drawn : K.lookup f_law_drawn = some ⟨oc_law_drawn, od_law_drawn, .func (PySem.W.fnOf "_law_drawn" "_law_drawn" (defArgs s_law_drawn) (defBody s_law_drawn) (defScope s_law_drawn) .none kV_law_drawn dc_law_drawn pm_law_drawn an_law_drawn cd_law_drawn ct_law_drawn), sl_law_drawn⟩)
    (c_law_drawn_ : PySem.W.codeIn K cd_law_drawn "_law_drawn" = true)
    (k_law_drawn : PySem.W.keepIn K (.ref f_law_drawn) = true)
    (a_law_row : PySem.W.nsIn K mainGlobals "_law_row" = some (some (.ref f_law_row)))
    (l_law_row : K.lookup f_law_row = some ⟨oc_law_row, od_law_row, .func (PySem.W.fnOf "_law_row" "_law_row" (defArgs s_law_row) (defBody s_law_row) (defScope s_law_row) .none kV_law_row dc_law_row pm_law_row an_law_row cd_law_row ct_law_row), sl_law_row⟩)
    (c_law_row_ : PySem.W.codeIn K cd_law_row "_law_row" = true)
    (k_law_row : PySem.W.keepIn K (.ref f_law_row) = true)
    (a_law_tree : PySem.W.nsIn K mainGlobals "_law_tree" = some (some (.ref f_law_tree)))
    (l_law_tree : K.lookup f_law_tree = some ⟨oc_law_tree, od_law_tree, .func (PySem.W.fnOf "_law_tree" "_law_tree" (defArgs s_law_tree) (defBody s_law_tree) (defScope s_law_tree) .none kV_law_tree dc_law_tree pm_law_tree an_law_tree cd_law_tree ct_law_tree), sl_law_tree⟩)
    (c_law_tree_ : PySem.W.codeIn K cd_law_tree "_law_tree" = true)
    (k_law_tree : PySem.W.keepIn K (.ref f_law_tree) = true)
    (a_law_script : PySem.W.nsIn K mainGlobals "_law_script" = some (some (.ref f_law_script)))
    (l_law_script : K.lookup f_law_script = some ⟨oc_law_script, od_law_script, .func (PySem.W.fnOf "_law_script" "_law_script" (defArgs s_law_script) (defBody s_law_script) (defScope s_law_script) .none kV_law_script dc_law_script pm_law_script an_law_script cd_law_script ct_law_script), sl_law_script⟩)
    (c_law_script_ : PySem.W.codeIn K cd_law_script "_law_script" = true)
    (k_law_script : PySem.W.keepIn K (.ref f_law_script) = true)
    (a_law_same : PySem.W.nsIn K mainGlobals "_law_same" = some (some (.ref f_law_same)))
    (l_law_same : K.lookup f_law_same = some ⟨oc_law_same, od_law_same, .func (PySem.W.fnOf "_law_same" "_law_same" (defArgs s_law_same) (defBody s_law_same) (defScope s_law_same) .none kV_law_same dc_law_same pm_law_same an_law_same cd_law_same ct_law_same), sl_law_same⟩)
    (c_law_same_ : PySem.W.codeIn K cd_law_same "_law_same" = true)
    (k_law_same : PySem.W.keepIn K (.ref f_law_same) = true)
    (a_law_inner : PySem.W.nsIn K mainGlobals "_law_inner" = some (some (.ref f_law_inner)))
    (l_law_inner : K.lookup f_law_inner = some ⟨oc_law_inner, od_law_inner, .func (PySem.W.fnOf "_law_inner" "_law_inner" (defArgs s_law_inner) (defBody s_law_inner) (defScope s_law_inner) .none kV_law_inner dc_law_inner pm_law_inner an_law_inner cd_law_inner ct_law_inner), sl_law_inner⟩)
    (c_law_inner_ : PySem.W.codeIn K cd_law_inner "_law_inner" = true)
    (k_law_inner : PySem.W.keepIn K (.ref f_law_inner) = true)
    (a_law_names : PySem.W.nsIn K mainGlobals "_law_names" = some (some (.ref f_law_names)))
    (l_law_names : K.lookup f_law_names = some ⟨oc_law_names, od_law_names, .func (PySem.W.fnOf "_law_names" "_law_names" (defArgs s_law_names) (defBody s_law_names) (defScope s_law_names) .none kV_law_names dc_law_names pm_law_names an_law_names cd_law_names ct_law_names), sl_law_names⟩)
    (c_law_names_ : PySem.W.codeIn K cd_law_names "_law_names" = true)
    (k_law_names : PySem.W.keepIn K (.ref f_law_names) = true)
    (a_law : PySem.W.nsIn K mainGlobals "law" = some (some (.ref f_law)))
    (l_law : K.lookup f_law = some ⟨oc_law, od_law, .func (PySem.W.fnOf "law" "law" (defArgs s_law) (defBody s_law) (defScope s_law) .none kV_law dc_law pm_law an_law cd_law ct_law), sl_law⟩)
    (c_law_ : PySem.W.codeIn K cd_law "law" = true)
    (k_law : PySem.W.keepIn K (.ref f_law) = true)
    (a_law_start : PySem.W.nsIn K mainGlobals "_law_start" = some (some (.ref f_law_start)))
    (l_law_start : K.lookup f_law_start = some ⟨oc_law_start, od_law_start, .func (PySem.W.fnOf "_law_start" "_law_start" (defArgs s_law_start) (defBody s_law_start) (defScope s_law_start) .none kV_law_start dc_law_start pm_law_start an_law_start cd_law_start ct_law_start), sl_law_start⟩)
    (c_law_start_ : PySem.W.codeIn K cd_law_start "_law_start" = true)
    (k_law_start : PySem.W.keepIn K (.ref f_law_start) = true)
    (z_all : PySem.W.nsIn K mainGlobals "all" = some none)
    (z_any : PySem.W.nsIn K mainGlobals "any" = some none)
    (z_bool : PySem.W.nsIn K mainGlobals "bool" = some none)
    (z_int : PySem.W.nsIn K mainGlobals "int" = some none)
    (z_isinstance : PySem.W.nsIn K mainGlobals "isinstance" = some none)
    (z_len : PySem.W.nsIn K mainGlobals "len" = some none)
    (z_list : PySem.W.nsIn K mainGlobals "list" = some none)
    (z_min : PySem.W.nsIn K mainGlobals "min" = some none)
    (z_range : PySem.W.nsIn K mainGlobals "range" = some none)
    (z_str : PySem.W.nsIn K mainGlobals "str" = some none)
    (z_tuple : PySem.W.nsIn K mainGlobals "tuple" = some none)
    (q_CAPITALS : PySem.W.nsIn K mainGlobals "CAPITALS" = some (some (.str (SS [65, 66, 67, 68, 69, 70, 71, 72, 73, 74, 75, 76, 77, 78, 79, 80, 81, 82, 83, 84, 85, 86, 87, 88, 89, 90]) t_CAPITALS)))
    (q_DIGITS : PySem.W.nsIn K mainGlobals "DIGITS" = some (some (.str (SS [48, 49, 50, 51, 52, 53, 54, 55, 56, 57]) t_DIGITS)))
    (q_LETTERS : PySem.W.nsIn K mainGlobals "LETTERS" = some (some (.str (SS [97, 98, 99, 100, 101, 102, 103, 104, 105, 106, 107, 108, 109, 110, 111, 112, 113, 114, 115, 116, 117, 118, 119, 120, 121, 122]) t_LETTERS)))
    (q_MOST_DEPTH : PySem.W.nsIn K mainGlobals "MOST_DEPTH" = some (some (.int 12 t_MOST_DEPTH)))
    (q_MOST_LETTERS : PySem.W.nsIn K mainGlobals "MOST_LETTERS" = some (some (.int 6 t_MOST_LETTERS)))
    (q_MOST_PARTS : PySem.W.nsIn K mainGlobals "MOST_PARTS" = some (some (.int 20 t_MOST_PARTS)))
    (q_MOST_TIMES : PySem.W.nsIn K mainGlobals "MOST_TIMES" = some (some (.int 1000000000000000000000000000000 t_MOST_TIMES)))
    (g_InvalidText : PySem.W.nsIn K mainGlobals "InvalidText" = some (some (.ref C_InvalidText)))
    (g_InvalidTree : PySem.W.nsIn K mainGlobals "InvalidTree" = some (some (.ref C_InvalidTree)))
    (xc_InvalidText : K.lookup C_InvalidText = some (excClassObj nm_InvalidText q_InvalidText C_InvalidText N_InvalidText bs_InvalidText bm_InvalidText true sn_InvalidText sub_InvalidText ab_InvalidText col_InvalidText dd_InvalidText m0_InvalidText m1_InvalidText m2_InvalidText m3_InvalidText m5_InvalidText "ValueError.__new__"))
    (xm_InvalidText : PySem.HandSPX.refsVE bm_InvalidText = true)
    (xsa_InvalidText : PySem.W.findIn K (.ref C_InvalidText) "__setattr__" = some (some (.builtin "object.__setattr__")))
    (xga_InvalidText : PySem.W.findIn K (.ref C_InvalidText) "__getattribute__" = some (some (.builtin "BaseException.__getattribute__")))
    (xgg_InvalidText : PySem.W.findIn K (.ref C_InvalidText) "__getattr__" = some none)
    (xnt_InvalidText : PySem.W.findIn K (.ref C_InvalidText) "tag" = some none)
    (xk_InvalidText : PySem.W.keepIn K (.ref C_InvalidText) = true)
    (xe_InvalidText : PySem.W.subIn K (.ref C_InvalidText) (.type "BaseException") = some true)
    (xv_InvalidText : PySem.W.subIn K (.ref C_InvalidText) (.type "ValueError") = some true)
    (xt_InvalidText : PySem.W.typeIn K (.ref C_InvalidText) = some (.type "type"))
    (xd_InvalidText : PySem.W.hasDictIn K C_InvalidText = true)
    (xi_InvalidText : PySem.W.findIn K (.ref C_InvalidText) "__init__" = some (some (.ref fI_InvalidText)))
    (xit_InvalidText : PySem.W.typeIn K (.ref fI_InvalidText) = some (.type "function"))
    (xl_InvalidText : K.lookup fI_InvalidText = some ⟨oc_InvalidText, od_InvalidText, .func (PySem.W.ksFn "__init__" "InvalidText.__init__" (defArgs (inClass (top 2) 0)) (defBody (inClass (top 2) 0)) (defScope (inClass (top 2) 0)) .none .none dc_InvalidText pm_InvalidText an_InvalidText (.ref cda_InvalidText) ct_InvalidText cc_InvalidText), sl_InvalidText⟩)
    (xco_InvalidText : PySem.W.codeIn K (.ref cda_InvalidText) "InvalidText.__init__" = true)
    (xcd_InvalidText : K.lookup cda_InvalidText = some ⟨ccl_InvalidText, cdd_InvalidText, .fields vs_InvalidText, ccs_InvalidText⟩)
    (xcf_InvalidText : vs_InvalidText[2]? = some (.str fl_InvalidText tf_InvalidText))
    (xcg_InvalidText : ((l.prog.main.file : PySem.Str) == fl_InvalidText) = true)
    (xcc_InvalidText : K.lookup cc_InvalidText = some ⟨cl_InvalidText, cld_InvalidText, .cell (some (.ref C_InvalidText)), csl_InvalidText⟩)
    (xmr_InvalidText : PySem.W.mroIn K C_InvalidText (.ref C_InvalidText) = some true)
    (xsu_InvalidText : PySem.W.ks_superIn K C_InvalidText C_InvalidText "__init__" = some (some (.builtin "ValueError.__init__")))
    (xc_InvalidTree : K.lookup C_InvalidTree = some (excClassObj nm_InvalidTree q_InvalidTree C_InvalidTree N_InvalidTree bs_InvalidTree bm_InvalidTree true sn_InvalidTree sub_InvalidTree ab_InvalidTree col_InvalidTree dd_InvalidTree m0_InvalidTree m1_InvalidTree m2_InvalidTree m3_InvalidTree m5_InvalidTree "ValueError.__new__"))
    (xm_InvalidTree : PySem.HandSPX.refsVE bm_InvalidTree = true)
    (xsa_InvalidTree : PySem.W.findIn K (.ref C_InvalidTree) "__setattr__" = some (some (.builtin "object.__setattr__")))
    (xga_InvalidTree : PySem.W.findIn K (.ref C_InvalidTree) "__getattribute__" = some (some (.builtin "BaseException.__getattribute__")))
    (xgg_InvalidTree : PySem.W.findIn K (.ref C_InvalidTree) "__getattr__" = some none)
    (xnt_InvalidTree : PySem.W.findIn K (.ref C_InvalidTree) "tag" = some none)
    (xk_InvalidTree : PySem.W.keepIn K (.ref C_InvalidTree) = true)
    (xe_InvalidTree : PySem.W.subIn K (.ref C_InvalidTree) (.type "BaseException") = some true)
    (xv_InvalidTree : PySem.W.subIn K (.ref C_InvalidTree) (.type "ValueError") = some true)
    (xt_InvalidTree : PySem.W.typeIn K (.ref C_InvalidTree) = some (.type "type"))
    (xd_InvalidTree : PySem.W.hasDictIn K C_InvalidTree = true)
    (xi_InvalidTree : PySem.W.findIn K (.ref C_InvalidTree) "__init__" = some (some (.ref fI_InvalidTree)))
    (xit_InvalidTree : PySem.W.typeIn K (.ref fI_InvalidTree) = some (.type "function"))
    (xl_InvalidTree : K.lookup fI_InvalidTree = some ⟨oc_InvalidTree, od_InvalidTree, .func (PySem.W.ksFn "__init__" "InvalidTree.__init__" (defArgs (inClass (top 3) 0)) (defBody (inClass (top 3) 0)) (defScope (inClass (top 3) 0)) .none .none dc_InvalidTree pm_InvalidTree an_InvalidTree (.ref cda_InvalidTree) ct_InvalidTree cc_InvalidTree), sl_InvalidTree⟩)
    (xco_InvalidTree : PySem.W.codeIn K (.ref cda_InvalidTree) "InvalidTree.__init__" = true)
    (xcd_InvalidTree : K.lookup cda_InvalidTree = some ⟨ccl_InvalidTree, cdd_InvalidTree, .fields vs_InvalidTree, ccs_InvalidTree⟩)
    (xcf_InvalidTree : vs_InvalidTree[2]? = some (.str fl_InvalidTree tf_InvalidTree))
    (xcg_InvalidTree : ((l.prog.main.file : PySem.Str) == fl_InvalidTree) = true)
    (xcc_InvalidTree : K.lookup cc_InvalidTree = some ⟨cl_InvalidTree, cld_InvalidTree, .cell (some (.ref C_InvalidTree)), csl_InvalidTree⟩)
    (xmr_InvalidTree : PySem.W.mroIn K C_InvalidTree (.ref C_InvalidTree) = some true)
    (xsu_InvalidTree : PySem.W.ks_superIn K C_InvalidTree C_InvalidTree "__init__" = some (some (.builtin "ValueError.__init__")))
    (xop : PySem.W.nsIn K cStatics "thirdparty.any" = some none)
    (xsup : PySem.W.nsIn K mainGlobals "super" = some none)
    (xtop : (l.prog.main.scope.names.lookup ("super" : PySem.Str)).isSome = false) : ∃ fd : FuncData, (∀ (s : Shared) (u : Value), BindsTo s fd ⟨[u], []⟩ [("_law_script_here", u)]) ∧ ∀ base : Heap, K.In base → base.Ns mainGlobals mg → FnOk l.prog w K mg base (L2.CX l.prog w) 45 fa fd ["_law_script_here"] (@spOf noT K 1 fsLaw) := by
  have e := hfa.symm.trans (PySem.W.mg_of KX G a_law)
  cases e
  letI : Tabl := noT
  let C : Cls := ⟨C_InvalidText, C_InvalidTree, C_Reader⟩
  have x_InvalidText : PySem.ExcX.XC0 l.prog K mg "InvalidText" C.InvalidText :=
    { gC := PySem.W.mg_of KX G g_InvalidText, cls := ⟨_, _, _, _, _, _, _, _, _, _, _, _, _, _, _, xc_InvalidText, xm_InvalidText⟩, sa := xsa_InvalidText, ga := xga_InvalidText, gg := xgg_InvalidText, noT := xnt_InvalidText, kC := xk_InvalidText, exC := xe_InvalidText,
      veC := xv_InvalidText, tyC := xt_InvalidText, hdC := xd_InvalidText, sub := xmr_InvalidText, sup := PySem.W.mg_none_of KX G xsup, supI := xsu_InvalidText, opq := xop, htop := xtop,
      fn := ⟨_, _, _, _, _, _, _, _, _, _, _, _, _, _, _, _, _, _, _, _, _, xi_InvalidText, xit_InvalidText, xl_InvalidText, xco_InvalidText, xcd_InvalidText, xcf_InvalidText, xcg_InvalidText, xcc_InvalidText, xtext_InvalidText⟩ }
  have x_InvalidTree : PySem.ExcX.XC0 l.prog K mg "InvalidTree" C.InvalidTree :=
    { gC := PySem.W.mg_of KX G g_InvalidTree, cls := ⟨_, _, _, _, _, _, _, _, _, _, _, _, _, _, _, xc_InvalidTree, xm_InvalidTree⟩, sa := xsa_InvalidTree, ga := xga_InvalidTree, gg := xgg_InvalidTree, noT := xnt_InvalidTree, kC := xk_InvalidTree, exC := xe_InvalidTree,
      veC := xv_InvalidTree, tyC := xt_InvalidTree, hdC := xd_InvalidTree, sub := xmr_InvalidTree, sup := PySem.W.mg_none_of KX G xsup, supI := xsu_InvalidTree, opq := xop, htop := xtop,
      fn := ⟨_, _, _, _, _, _, _, _, _, _, _, _, _, _, _, _, _, _, _, _, _, xi_InvalidTree, xit_InvalidTree, xl_InvalidTree, xco_InvalidTree, xcd_InvalidTree, xcf_InvalidTree, xcg_InvalidTree, xcc_InvalidTree, xtext_InvalidTree⟩ }
  have T : Txt l.prog K mg C :=
    { CAPITALS := ⟨_, PySem.W.mg_of KX G q_CAPITALS⟩, DIGITS := ⟨_, PySem.W.mg_of KX G q_DIGITS⟩, LETTERS := ⟨_, PySem.W.mg_of KX G q_LETTERS⟩, MOST_DEPTH := ⟨_, PySem.W.mg_of KX G q_MOST_DEPTH⟩, MOST_LETTERS := ⟨_, PySem.W.mg_of KX G q_MOST_LETTERS⟩, MOST_PARTS := ⟨_, PySem.W.mg_of KX G q_MOST_PARTS⟩, MOST_TIMES := ⟨_, PySem.W.mg_of KX G q_MOST_TIMES⟩, b_all := PySem.W.mg_none_of KX G z_all, b_any := PySem.W.mg_none_of KX G z_any, b_bool := PySem.W.mg_none_of KX G z_bool, b_int := PySem.W.mg_none_of KX G z_int, b_isinstance := PySem.W.mg_none_of KX G z_isinstance, b_len := PySem.W.mg_none_of KX G z_len, b_list := PySem.W.mg_none_of KX G z_list, b_min := PySem.W.mg_none_of KX G z_min, b_range := PySem.W.mg_none_of KX G z_range, b_str := PySem.W.mg_none_of KX G z_str, b_tuple := PySem.W.mg_none_of KX G z_tuple, g_InvalidText := PySem.W.mg_of KX G g_InvalidText, g_InvalidTree := PySem.W.mg_of KX G g_InvalidTree, n_Reader_text_left := ⟨⟨kg_Reader, kh_Reader, ko_Reader, ks_Reader⟩, fn_Reader_text_left⟩, g_Reader := PySem.W.mg_of KX G g_Reader, x_InvalidText := x_InvalidText, x_InvalidTree := x_InvalidTree }
  have XF_InvalidText : XFld K (.ref C.InvalidText) "tag" := ⟨_, rfl, xga_InvalidText, xgg_InvalidText, xe_InvalidText, xd_InvalidText, by assumption⟩
  have XF_InvalidTree : XFld K (.ref C.InvalidTree) "tag" := ⟨_, rfl, xga_InvalidTree, xgg_InvalidTree, xe_InvalidTree, xd_InvalidTree, by assumption⟩
  have F_is_number := fun_mk (st := s_is_number) l_is_number c_is_number_ k_is_number
  have b_is_number := F_is_number.binds (ps := ["value"]) fun _ _ _ _ _ _ us hl => match us, hl with | [_], _ => rfl
  have F_is_within := fun_mk (st := s_is_within) l_is_within c_is_within_ k_is_within
  have b_is_within := F_is_within.binds (ps := ["value", "low", "high"]) fun _ _ _ _ _ _ us hl => match us, hl with | [_, _, _], _ => rfl
  have F_is_log := fun_mk (st := s_is_log) l_is_log c_is_log_ k_is_log
  have b_is_log := F_is_log.binds (ps := ["value"]) fun _ _ _ _ _ _ us hl => match us, hl with | [_], _ => rfl
  have F_is_name := fun_mk (st := s_is_name) l_is_name c_is_name_ k_is_name
  have b_is_name := F_is_name.binds (ps := ["value"]) fun _ _ _ _ _ _ us hl => match us, hl with | [_], _ => rfl
  have F_inner := fun_mk (st := s_inner) l_inner c_inner_ k_inner
  have b_inner := F_inner.binds (ps := ["tree"]) fun _ _ _ _ _ _ us hl => match us, hl with | [_], _ => rfl
  have F_is_row := fun_mk (st := s_is_row) l_is_row c_is_row_ k_is_row
  have b_is_row := F_is_row.binds (ps := ["word", "parts"]) fun _ _ _ _ _ _ us hl => match us, hl with | [_, _], _ => rfl
  have F_is_tree : FunD K "is_tree" "is_tree" (defArgs s_is_tree) (defBody s_is_tree) (defScope s_is_tree) [.int 12] [] f_is_tree _ := ⟨⟨_, _, _, _, _, _, _, _, _, _, rfl, l_is_tree, c_is_tree_, .inr ⟨by simp, _, _, _, _, rfl, ld_is_tree, rfl, .cons ⟨_, rfl⟩ .nil⟩, .inl rfl⟩, k_is_tree⟩
  obtain ⟨dv_is_tree, dr_is_tree, b_is_tree⟩ := F_is_tree.binds1 (ps := ["value", "depth"]) 1 0 (by simp) rfl fun _ _ _ _ _ _ _ us its h1 h2 => match us, h1, its, h2 with | [_], _, [_], _ => ⟨_, rfl, rfl⟩
  have F_need_tree := fun_mk (st := s_need_tree) l_need_tree c_need_tree_ k_need_tree
  have b_need_tree := F_need_tree.binds (ps := ["value"]) fun _ _ _ _ _ _ us hl => match us, hl with | [_], _ => rfl
  have F_text_of := fun_mk (st := s_text_of) l_text_of c_text_of_ k_text_of
  have b_text_of := F_text_of.binds (ps := ["tree"]) fun _ _ _ _ _ _ us hl => match us, hl with | [_], _ => rfl
  have F_script_text := fun_mk (st := s_script_text) l_script_text c_script_text_ k_script_text
  have b_script_text := F_script_text.binds (ps := ["tree"]) fun _ _ _ _ _ _ us hl => match us, hl with | [_], _ => rfl
  have F_Reader___init__ := fun_mk (st := s_Reader___init__) l_Reader___init__ c_Reader___init___ k_Reader___init__
  have b_Reader___init__ := F_Reader___init__.binds (ps := ["self", "text"]) fun _ _ _ _ _ _ us hl => match us, hl with | [_, _], _ => rfl
  have F_Reader_run := fun_mk (st := s_Reader_run) l_Reader_run c_Reader_run_ mk_Reader_run
  have b_Reader_run := F_Reader_run.binds (ps := ["self", "signs"]) fun _ _ _ _ _ _ us hl => match us, hl with | [_, _], _ => rfl
  have F_Reader_passed := fun_mk (st := s_Reader_passed) l_Reader_passed c_Reader_passed_ mk_Reader_passed
  have b_Reader_passed := F_Reader_passed.binds (ps := ["self", "sign"]) fun _ _ _ _ _ _ us hl => match us, hl with | [_, _], _ => rfl
  have F_Reader_atom := fun_mk (st := s_Reader_atom) l_Reader_atom c_Reader_atom_ mk_Reader_atom
  have b_Reader_atom := F_Reader_atom.binds (ps := ["self", "depth"]) fun _ _ _ _ _ _ us hl => match us, hl with | [_, _], _ => rfl
  have F_Reader_powers := fun_mk (st := s_Reader_powers) l_Reader_powers c_Reader_powers_ mk_Reader_powers
  have b_Reader_powers := F_Reader_powers.binds (ps := ["self", "depth"]) fun _ _ _ _ _ _ us hl => match us, hl with | [_, _], _ => rfl
  have F_Reader_row := fun_mk (st := s_Reader_row) l_Reader_row c_Reader_row_ mk_Reader_row
  have b_Reader_row := F_Reader_row.binds (ps := ["self", "depth"]) fun _ _ _ _ _ _ us hl => match us, hl with | [_, _], _ => rfl
  have F_read_script := fun_mk (st := s_read_script) l_read_script c_read_script_ k_read_script
  have b_read_script := F_read_script.binds (ps := ["text"]) fun _ _ _ _ _ _ us hl => match us, hl with | [_], _ => rfl
  have F_listed_names := fun_mk (st := s_listed_names) l_listed_names c_listed_names_ k_listed_names
  have b_listed_names := F_listed_names.binds (ps := ["tree", "found"]) fun _ _ _ _ _ _ us hl => match us, hl with | [_, _], _ => rfl
  have F_names_in := fun_mk (st := s_names_in) l_names_in c_names_in_ k_names_in
  have b_names_in := F_names_in.binds (ps := ["tree"]) fun _ _ _ _ _ _ us hl => match us, hl with | [_], _ => rfl
  have F_law_pull := fun_mk (st := s_law_pull) l_law_pull c_law_pull_ k_law_pull
  have b_law_pull := F_law_pull.binds (ps := ["_law_bag", "_law_many"]) fun _ _ _ _ _ _ us hl => match us, hl with | [_, _], _ => rfl
  have F_law_pick := fun_mk (st := s_law_pick) l_law_pick c_law_pick_ k_law_pick
  have b_law_pick := F_law_pick.binds (ps := ["_law_bag", "_law_some"]) fun _ _ _ _ _ _ us hl => match us, hl with | [_, _], _ => rfl
  have F_law_name := fun_mk (st := s_law_name) l_law_name c_law_name_ k_law_name
  have b_law_name := F_law_name.binds (ps := ["_law_bag"]) fun _ _ _ _ _ _ us hl => match us, hl with | [_], _ => rfl
  have F_law_letters := fun_mk (st := s_law_letters) l_law_letters c_law_letters_ k_law_letters
  have b_law_letters := F_law_letters.binds (ps := []) fun _ _ _ _ _ _ us hl => match us, hl with | [], _ => rfl
  have F_law_alphabet := fun_mk (st := s_law_alphabet) l_law_alphabet c_law_alphabet_ k_law_alphabet
  have b_law_alphabet := F_law_alphabet.binds (ps := ["_law_bag", "_law_most"]) fun _ _ _ _ _ _ us hl => match us, hl with | [_, _], _ => rfl
  have F_law_drawn := fun_mk (st := s_law_drawn) l_law_drawn c_law_drawn_ k_law_drawn
  have b_law_drawn := F_law_drawn.binds (ps := ["_law_bag", "_law_deeds", "_law_most"]) fun _ _ _ _ _ _ us hl => match us, hl with | [_, _, _], _ => rfl
  have F_law_row := fun_mk (st := s_law_row) l_law_row c_law_row_ k_law_row
  have b_law_row := F_law_row.binds (ps := ["_law_parts"]) fun _ _ _ _ _ _ us hl => match us, hl with | [_], _ => rfl
  have F_law_tree := fun_mk (st := s_law_tree) l_law_tree c_law_tree_ k_law_tree
  have b_law_tree := F_law_tree.binds (ps := ["_law_bag", "_law_deeds", "_law_names_here", "_law_depth", "_law_words"]) fun _ _ _ _ _ _ us hl => match us, hl with | [_, _, _, _, _], _ => rfl
  have F_law_script := fun_mk (st := s_law_script) l_law_script c_law_script_ k_law_script
  have b_law_script := F_law_script.binds (ps := ["_law_my_tree"]) fun _ _ _ _ _ _ us hl => match us, hl with | [_], _ => rfl
  have F_law_same := fun_mk (st := s_law_same) l_law_same c_law_same_ k_law_same
  have b_law_same := F_law_same.binds (ps := ["_law_found", "_law_due"]) fun _ _ _ _ _ _ us hl => match us, hl with | [_, _], _ => rfl
  have F_law_inner := fun_mk (st := s_law_inner) l_law_inner c_law_inner_ k_law_inner
  have b_law_inner := F_law_inner.binds (ps := ["_law_my_tree"]) fun _ _ _ _ _ _ us hl => match us, hl with | [_], _ => rfl
  have F_law_names := fun_mk (st := s_law_names) l_law_names c_law_names_ k_law_names
  have b_law_names := F_law_names.binds (ps := ["_law_my_tree"]) fun _ _ _ _ _ _ us hl => match us, hl with | [_], _ => rfl
  have F_law := fun_mk (st := s_law) l_law c_law_ k_law
  have F_law_start := fun_mk (st := s_law_start) l_law_start c_law_start_ k_law_start
  have b_law_start := F_law_start.binds (ps := ["_law_script_here"]) fun _ _ _ _ _ _ us hl => match us, hl with | [_], _ => rfl
  refine ⟨PySem.W.fnOf "law" "law" (defArgs s_law) (defBody s_law) (defScope s_law) .none kV_law dc_law pm_law an_law cd_law ct_law, fun s u => .of_eq rfl, fun base KB GB => ?_⟩
  · have D_law_start : Df l.prog w K mg base "_law_start" 1 1 fsStart := df_mk F_law_start (PySem.W.mg_of KX G a_law_start) b_law_start rfl (ok_law_start (w := w) F_law_start T)
    have ok_is_number := (ok_is_number (w := w) (base := base) F_is_number T )
    have D_is_number := (df_mk F_is_number (PySem.W.mg_of KX G a_is_number) b_is_number rfl ok_is_number).imp (fs' := fsIsNum) fun ds kd kx _ => is_num_ok'
    have ok_is_within := (ok_is_within (w := w) (base := base) F_is_within T D_is_number)
    have D_is_within := (df_mk F_is_within (PySem.W.mg_of KX G a_is_within) b_is_within rfl ok_is_within).imp (fs' := fsWithin) fun ds kd kx _ => within_ok'
    have ok_is_log := (ok_is_log (w := w) (base := base) F_is_log T )
    have D_is_log := (df_mk F_is_log (PySem.W.mg_of KX G a_is_log) b_is_log rfl ok_is_log).imp (fs' := fsIsLog) fun ds kd kx _ => is_log_ok'
    have ok_is_name := (ok_is_name (w := w) (base := base) F_is_name T )
    have D_is_nameX := (df_mk F_is_name (PySem.W.mg_of KX G a_is_name) b_is_name rfl ok_is_name).imp (fs' := fsIsNameX) fun ds kd kx _ => is_nameX_ok'
    have D_is_name := D_is_nameX.imp (fs' := fsIsName) fun ds kd kx _ => isNameX_of
    have ok_is_name2 := ok_is_name.imp (sp' := spOf K 1 (fsIsNameX)) fun vs H Q E ⟨G, ds, k, kx, a, b, c, d, e⟩ => ⟨G, ds, k, kx, a, b, c, is_nameX_ok' d, e⟩
    have DK_is_name : DfK l.prog w K mg base "is_name" 1 1 (fsIsNameX) 0 ["value"] [0] := dfk_mk F_is_name (PySem.W.mg_of KX G a_is_name) ok_is_name2 (fun _ _ _ _ _ _ us ws h1 h2 => match us, ws, h1, h2 with | [], [_], _, _ => rfl) rfl (by decide)
    have ok_inner := (ok_inner (w := w) (base := base) F_inner T )
    have D_inner := (df_mk F_inner (PySem.W.mg_of KX G a_inner) b_inner rfl ok_inner).imp (fs' := fsInner) fun ds kd kx _ => inner_ok'
    have ok_is_row := (ok_is_row (w := w) (base := base) F_is_row T )
    have D_is_row := (df_mk F_is_row (PySem.W.mg_of KX G a_is_row) b_is_row rfl ok_is_row).imp (fs' := fsIsRow) fun ds kd kx _ => isRow_ok'
    obtain ⟨_, ⟨⟩, b2_is_tree⟩ := F_is_tree.binds1 (ps := ["value", "depth"]) 2 1 (by simp) rfl fun _ _ _ _ _ _ _ us its h1 h2 => match us, h1, its, h2 with | [_, _], _, [_], _ => ⟨_, rfl, rfl⟩
    have rec_is_tree : ∀ n, Df l.prog w K mg base "is_tree" (n + 2) 2 (fsIsTree n) := fun n => by
      induction n with
      | zero => exact ⟨_, _, _, ⟨fun vs H Q E ⟨G, ds, k, kx, _, _, _, h, _⟩ => (isTree0 h).elim, fun A outer s H args us vs Q E _ _ _ _ ⟨G, ds, k, kx, _, _, _, h, _⟩ => (isTree0 h).elim⟩, PySem.W.mg_of KX G a_is_tree, k_is_tree, b2_is_tree, rfl⟩
      | succ n ih => exact (show n + 1 + 2 = n + 2 + 1 by omega) ▸ (⟨_, _, _, ok_is_tree (w := w) (base := base) F_is_tree T (Nat.le_add_left _ _) D_is_log D_is_name ih D_is_within D_is_row, PySem.W.mg_of KX G a_is_tree, k_is_tree, b2_is_tree, rfl⟩ : Df l.prog w K mg base "is_tree" (n + 2 + 1) 2 _).imp fun ds kd kx _ => isTree_ok'
    have R_is_tree := imp_spOf (fs' := fsIsTree1) (pad_spOf (n := 1) (dds := [.int 12]) (fnR_def (ok_is_tree (w := w) (base := base) F_is_tree T (Nat.le_add_left _ _) D_is_log D_is_name (rec_is_tree 15) D_is_within D_is_row) b_is_tree dr_is_tree) (fun G => .cons (.int _) .nil) rfl) fun ds kd kx h => isTree_ok' (isTree1_ok' (m := 16) (by decide) h)
    have DR_is_tree : DfR l.prog w K mg base "is_tree" 18 1 fsIsTree1 := ⟨_, R_is_tree, PySem.W.mg_of KX G a_is_tree, k_is_tree⟩
    have ok_need_tree := (ok_need_tree (w := w) (base := base) F_need_tree T DR_is_tree)
    have D_need_tree := (df_mk F_need_tree (PySem.W.mg_of KX G a_need_tree) b_need_tree rfl ok_need_tree).imp (fs' := (fsNeedTree C.InvalidTree)) fun ds kd kx _ => needTree_ok'
    have rec_text_of : ∀ n, Df l.prog w K mg base "text_of" (n + 0) 1 (fsTextOf n) := fun n => by
      induction n with
      | zero => exact df_mk F_text_of (PySem.W.mg_of KX G a_text_of) b_text_of rfl ⟨fun vs H Q E ⟨G, ds, k, kx, _, _, _, h, _⟩ => (textOf0 h).elim, fun A outer s H args us vs Q E _ _ _ _ ⟨G, ds, k, kx, _, _, _, h, _⟩ => (textOf0 h).elim⟩
      | succ n ih => exact (show n + 1 + 0 = n + 0 + 1 by omega) ▸ (df_mk (base := base) F_text_of (PySem.W.mg_of KX G a_text_of) b_text_of rfl (ok_text_of (w := w) F_text_of T (Nat.le_add_left _ _) ih)).imp fun ds kd kx _ => textOf_ok'
    have D_text_of := rec_text_of 22
    have ok_script_text := (ok_script_text (w := w) (base := base) F_script_text T D_need_tree D_text_of)
    have D_script_text := (df_mk F_script_text (PySem.W.mg_of KX G a_script_text) b_script_text rfl ok_script_text).imp (fs' := (fsScriptText C.InvalidTree)) fun ds kd kx _ => scriptText_ok' (by decide)
    have ok_script_text2 := ok_script_text.imp (sp' := spOf K 1 ((fsScriptText C.InvalidTree))) fun vs H Q E ⟨G, ds, k, kx, a, b, c, d, e⟩ => ⟨G, ds, k, kx, a, b, c, scriptText_ok' (by decide) d, e⟩
    have DK_script_text : DfK l.prog w K mg base "script_text" 23 1 ((fsScriptText C.InvalidTree)) 0 ["tree"] [0] := dfk_mk F_script_text (PySem.W.mg_of KX G a_script_text) ok_script_text2 (fun _ _ _ _ _ _ us ws h1 h2 => match us, ws, h1, h2 with | [], [_], _, _ => rfl) rfl (by decide)
    have R_Reader___init__ := imp_spOi (fs' := (fsRdrI C.Reader)) (fnR_of (ok_Reader___init__ (w := w) (base := base) F_Reader___init__ T ) b_Reader___init__) fun ds kd kx h => rdrI_ok' h
    have Mk_Reader : MkI l.prog w K mg base C.Reader 1 1 (fsRdrI C.Reader) := ⟨_, ⟨ia_Reader, ib_Reader, ic_Reader, id_Reader⟩, R_Reader___init__⟩
    have R_Reader_run := imp_spOi (fs' := (fsRunR C.Reader)) (fnR_of (ok_Reader_run (w := w) (base := base) F_Reader_run T ) b_Reader_run) fun ds kd kx h => run_ok' h
    have MI_Reader_run : MtI l.prog w K mg base C.Reader "run" 1 1 (fsRunR C.Reader) := ⟨⟨kg_Reader, kh_Reader, ko_Reader, ks_Reader⟩, _, ⟨ma_Reader_run, mf_Reader_run, mk_Reader_run⟩, R_Reader_run⟩
    have R_Reader_passed := imp_spOi (fs' := (fsPassed C.Reader)) (fnR_of (ok_Reader_passed (w := w) (base := base) F_Reader_passed T ) b_Reader_passed) fun ds kd kx h => passed_ok' h
    have MI_Reader_passed : MtI l.prog w K mg base C.Reader "passed" 1 1 (fsPassed C.Reader) := ⟨⟨kg_Reader, kh_Reader, ko_Reader, ks_Reader⟩, _, ⟨ma_Reader_passed, mf_Reader_passed, mk_Reader_passed⟩, R_Reader_passed⟩
    have ring : ∀ n, MtI l.prog w K mg base C.Reader "row" (3 * n + 1) 1 (fsScRow C.Reader C.InvalidText n) := fun n => by
      induction n with
      | zero => exact ⟨⟨kg_Reader, kh_Reader, ko_Reader, ks_Reader⟩, _, ⟨ma_Reader_row, mf_Reader_row, mk_Reader_row⟩, fun A outer s H us vs Q E hr e0 r h => (ring0 h).elim⟩
      | succ n ih =>
        have MA : MtI l.prog w K mg base C.Reader "atom" (3 * n + 1 + 1) 1 (fsScAtom C.Reader C.InvalidText n) := ⟨⟨kg_Reader, kh_Reader, ko_Reader, ks_Reader⟩, _, ⟨ma_Reader_atom, mf_Reader_atom, mk_Reader_atom⟩, imp_spOi (fnR_of (ok_Reader_atom (w := w) (base := base) F_Reader_atom T (Nat.le_add_left _ _) D_is_name MI_Reader_passed ih MI_Reader_run) b_Reader_atom) fun ds kd kx h => atom_ok' h⟩
        have MP : MtI l.prog w K mg base C.Reader "powers" (3 * n + 1 + 1 + 1) 1 (fsScPow C.Reader C.InvalidText n) := ⟨⟨kg_Reader, kh_Reader, ko_Reader, ks_Reader⟩, _, ⟨ma_Reader_powers, mf_Reader_powers, mk_Reader_powers⟩, imp_spOi (fnR_of (ok_Reader_powers (w := w) (base := base) F_Reader_powers T (Nat.le_add_left _ _) MA MI_Reader_passed MI_Reader_run) b_Reader_powers) fun ds kd kx h => scPow_ok' h⟩
        have MR : MtI l.prog w K mg base C.Reader "row" (3 * n + 1 + 1 + 1 + 1) 1 (fsScRow C.Reader C.InvalidText (n + 1)) := ⟨⟨kg_Reader, kh_Reader, ko_Reader, ks_Reader⟩, _, ⟨ma_Reader_row, mf_Reader_row, mk_Reader_row⟩, imp_spOi (fnR_of (ok_Reader_row (w := w) (base := base) F_Reader_row T (Nat.le_add_left _ _) MP MI_Reader_passed) b_Reader_row) fun ds kd kx h => scRow_ok' h⟩
        exact (show 3 * (n + 1) + 1 = 3 * n + 1 + 1 + 1 + 1 by omega) ▸ MR
    have MI_Reader_row : MtI l.prog w K mg base C.Reader "row" 43 1 (fsScRow C.Reader C.InvalidText 14) := ring 14
    have ok_read_script := (ok_read_script (w := w) (base := base) F_read_script T D_text_of Mk_Reader MI_Reader_row DR_is_tree)
    have D_read_script := (df_mk F_read_script (PySem.W.mg_of KX G a_read_script) b_read_script rfl ok_read_script).imp (fs' := (fsReadS C.InvalidText)) fun ds kd kx _ => readS_ok' (by decide)
    have ok_read_script2 := ok_read_script.imp (sp' := spOf K 1 ((fsReadS C.InvalidText))) fun vs H Q E ⟨G, ds, k, kx, a, b, c, d, e⟩ => ⟨G, ds, k, kx, a, b, c, readS_ok' (by decide) d, e⟩
    have DK_read_script : DfK l.prog w K mg base "read_script" 44 1 ((fsReadS C.InvalidText)) 0 ["text"] [0] := dfk_mk F_read_script (PySem.W.mg_of KX G a_read_script) ok_read_script2 (fun _ _ _ _ _ _ us ws h1 h2 => match us, ws, h1, h2 with | [], [_], _, _ => rfl) rfl (by decide)
    have rec_listed_names : ∀ n, DfO l.prog w K mg base "listed_names" (n + 1) 2 1 (fsListed n) := fun n => by
      induction n with
      | zero => exact dfO_mk F_listed_names (PySem.W.mg_of KX G a_listed_names) b_listed_names rfl ⟨fun vs H Q E ⟨G, ds, k, kx, p, _, _, _, _, _, _, _, h, _⟩ => (listed_0 h).elim, fun A outer s H args us vs Q E _ _ _ _ ⟨G, ds, k, kx, p, _, _, _, _, _, _, _, h, _⟩ => (listed_0 h).elim⟩
      | succ n ih => exact (show n + 1 + 1 = n + 1 + 1 by omega) ▸ (dfO_mk (base := base) F_listed_names (PySem.W.mg_of KX G a_listed_names) b_listed_names rfl (ok_listed_names (w := w) F_listed_names T (Nat.le_add_left _ _) D_inner ih)).imp fun ds kd kx _ => listed_ok' _ _ _
    have DO_listed_names := rec_listed_names 16
    have ok_names_in := (ok_names_in (w := w) (base := base) F_names_in T D_need_tree DO_listed_names)
    have D_names_in := (df_mk F_names_in (PySem.W.mg_of KX G a_names_in) b_names_in rfl ok_names_in).imp (fs' := fsNamesIn) fun ds kd kx _ => namesIn_ok' (by decide)
    have D_law_pullW : Df l.prog w K mg base "_law_pull" 1 2 fsPullW := df_mk F_law_pull (PySem.W.mg_of KX G a_law_pull) b_law_pull rfl (pull_convW (ok_law_pull (w := w) F_law_pull T) rfl pull_okW)
    have D_law_pull : Df l.prog w K mg base "_law_pull" 1 2 fsPull := D_law_pullW.imp fun ds kd kx _ => pullW_of
    have ok_law_pick := (ok_law_pick (w := w) (base := base) F_law_pick T D_law_pull)
    have D_law_pick := (df_mk F_law_pick (PySem.W.mg_of KX G a_law_pick) b_law_pick rfl ok_law_pick).imp (fs' := fsPick) fun ds kd kx _ => pick_ok'
    have ok_law_name := (ok_law_name (w := w) (base := base) F_law_name T D_law_pick D_law_pull)
    have D_law_name := (df_mk F_law_name (PySem.W.mg_of KX G a_law_name) b_law_name rfl ok_law_name).imp (fs' := fsNameS) fun ds kd kx _ => nameS_ok'
    have ok_law_letters := (ok_law_letters (w := w) (base := base) F_law_letters T )
    have D_law_letters := (df_mk F_law_letters (PySem.W.mg_of KX G a_law_letters) b_law_letters rfl ok_law_letters).imp (fs' := fsLetters) fun ds kd kx _ => letters_ok' ‹_›
    have ok_law_alphabet := (ok_law_alphabet (w := w) (base := base) F_law_alphabet T D_law_pull D_law_pick D_law_letters)
    have D_law_alphabet := (df_mk F_law_alphabet (PySem.W.mg_of KX G a_law_alphabet) b_law_alphabet rfl ok_law_alphabet).imp (fs' := fsAlpha) fun ds kd kx _ => alpha_ok'
    have ok_law_drawn := (ok_law_drawn (w := w) (base := base) F_law_drawn T D_law_pick D_law_pull)
    have D_law_drawn := (df_mk F_law_drawn (PySem.W.mg_of KX G a_law_drawn) b_law_drawn rfl ok_law_drawn).imp (fs' := fsDrawn) fun ds kd kx _ => drawn_ok'
    have ok_law_row := (ok_law_row (w := w) (base := base) F_law_row T )
    have D_law_row := (df_mk F_law_row (PySem.W.mg_of KX G a_law_row) b_law_row rfl ok_law_row).imp (fs' := fsRowK) fun ds kd kx _ => rowK_ok'
    have rec_law_tree : ∀ n, Df l.prog w K mg base "_law_tree" (n + 3) 5 (fsTreeK n) := fun n => by
      induction n with
      | zero => exact df_mk F_law_tree (PySem.W.mg_of KX G a_law_tree) b_law_tree rfl ⟨fun vs H Q E ⟨G, ds, k, kx, _, _, _, h, _⟩ => (treeK_0 h).elim, fun A outer s H args us vs Q E _ _ _ _ ⟨G, ds, k, kx, _, _, _, h, _⟩ => (treeK_0 h).elim⟩
      | succ n ih => exact (show n + 1 + 3 = n + 3 + 1 by omega) ▸ (df_mk (base := base) F_law_tree (PySem.W.mg_of KX G a_law_tree) b_law_tree rfl (ok_law_tree (w := w) F_law_tree T (Nat.le_add_left _ _) D_law_pick D_law_drawn ih D_law_pull D_law_row)).imp fun ds kd kx _ => treeK_ok'
    have D_law_tree := rec_law_tree 7
    have rec_law_script : ∀ n, Df l.prog w K mg base "_law_script" (n + 0) 1 (fsTextOf n) := fun n => by
      induction n with
      | zero => exact df_mk F_law_script (PySem.W.mg_of KX G a_law_script) b_law_script rfl ⟨fun vs H Q E ⟨G, ds, k, kx, _, _, _, h, _⟩ => (textOf0 h).elim, fun A outer s H args us vs Q E _ _ _ _ ⟨G, ds, k, kx, _, _, _, h, _⟩ => (textOf0 h).elim⟩
      | succ n ih => exact (show n + 1 + 0 = n + 0 + 1 by omega) ▸ (df_mk (base := base) F_law_script (PySem.W.mg_of KX G a_law_script) b_law_script rfl (ok_law_script (w := w) F_law_script T (Nat.le_add_left _ _) ih)).imp fun ds kd kx _ => script_ok'
    have D_law_script := rec_law_script 16
    have same : ∀ n, Df l.prog w K mg base "_law_same" n 2 (fsSame n) := fun n => by
      induction n with
      | zero => exact df_mk F_law_same (PySem.W.mg_of KX G a_law_same) b_law_same rfl same_zero
      | succ n ih => exact (df_mk (base := base) F_law_same (PySem.W.mg_of KX G a_law_same) b_law_same rfl (ok_law_same (w := w) F_law_same T (Nat.zero_le n) ih)).imp fun ds kd kx _ => same_ok'
    have D_law_same := same 16
    have ok_law_inner := (ok_law_inner (w := w) (base := base) F_law_inner T )
    have D_law_inner := (df_mk F_law_inner (PySem.W.mg_of KX G a_law_inner) b_law_inner rfl ok_law_inner).imp (fs' := fsInner) fun ds kd kx _ => linner_ok'
    have rec_law_names : ∀ n, Df l.prog w K mg base "_law_names" (n + 1) 1 (fsLNames n) := fun n => by
      induction n with
      | zero => exact df_mk F_law_names (PySem.W.mg_of KX G a_law_names) b_law_names rfl ⟨fun vs H Q E ⟨G, ds, k, kx, _, _, _, h, _⟩ => (lnames_0 h).elim, fun A outer s H args us vs Q E _ _ _ _ ⟨G, ds, k, kx, _, _, _, h, _⟩ => (lnames_0 h).elim⟩
      | succ n ih => exact (show n + 1 + 1 = n + 1 + 1 by omega) ▸ (df_mk (base := base) F_law_names (PySem.W.mg_of KX G a_law_names) b_law_names rfl (ok_law_names (w := w) F_law_names T (Nat.le_add_left _ _) D_law_inner ih)).imp fun ds kd kx _ => lnames_ok' _ _ _
    have D_law_names := rec_law_names 16
    have D_law_pull := D_law_pullW
    refine (ok_law (w := w) (base := base) F_law T D_law_start D_law_name D_law_pick D_law_letters D_law_alphabet D_law_tree D_law_pullW D_law_script D_law_same D_script_text D_read_script D_names_in D_law_names D_is_nameX DK_read_script DK_script_text DK_is_name DR_is_tree).imp fun vs H Q E ⟨G, ds, k, kx, a, b, c, d, e⟩ => ⟨G, ds, k, kx, a, b, c, law_ok' d, e⟩
end K36
def PySem.W.Fast.tw12588722492455854683 : Unit := ()
def PySem.W.Fast.tw5241836654095525967 : Unit := ()
def PySem.W.Fast.tw841485313622794443 : Unit := ()
def PySem.W.Fast.tw2083923499857840945 : Unit := ()
def PySem.W.Fast.tw16828539006758916824 : Unit := ()
def PySem.W.Fast.tw7297157395160143171 : Unit := ()
def PySem.W.Fast.tw14481603580059262909 : Unit := ()
def PySem.W.Fast.tw3620594814060804584 : Unit := ()
def PySem.W.Fast.tw12218177890458189904 : Unit := ()
def PySem.W.Fast.tw4798928951485190271 : Unit := ()
def PySem.W.Fast.tw12120526133254154177 : Unit := ()
def PySem.W.Fast.tw13553685841356491238 : Unit := ()
def PySem.W.Fast.tw6400745369395101372 : Unit := ()
def PySem.W.Fast.tw6500077413805274574 : Unit := ()
def PySem.W.Fast.tw9174671439860219615 : Unit := ()
def PySem.W.Fast.tw17836668938889389701 : Unit := ()
def PySem.W.Fast.tw8417260941128914162 : Unit := ()
def PySem.W.Fast.tw2462691361628970238 : Unit := ()
def PySem.W.Fast.tw14392097853976058384 : Unit := ()
def PySem.W.Fast.tw13038739443666894012 : Unit := ()
def PySem.W.Fast.tw13859673855764419985 : Unit := ()
def PySem.W.Fast.tw13582884362568859147 : Unit := ()
def PySem.W.Fast.tw8127764350721560696 : Unit := ()
def PySem.W.Fast.tw1483304343859688423 : Unit := ()
def PySem.W.Fast.tw2680954140694028918 : Unit := ()
def PySem.W.Fast.tw18240977759138353705 : Unit := ()
def PySem.W.Fast.tw5715695204205270754 : Unit := ()
def PySem.W.Fast.tw14786194380401738920 : Unit := ()
def PySem.W.Fast.tw2590992655323449324 : Unit := ()
def PySem.W.Fast.tw9017950792061615025 : Unit := ()
def PySem.W.Fast.tw959714746973435291 : Unit := ()
def PySem.W.Fast.tw7431728675406055938 : Unit := ()
def PySem.W.Fast.tw12418343104709282875 : Unit := ()
def PySem.W.Fast.tw15498774175722114970 : Unit := ()
def PySem.W.Fast.tw2032486559480369986 : Unit := ()
def PySem.W.Fast.tw4035356412291700720 : Unit := ()
def PySem.W.Fast.tw10262648153470739474 : Unit := ()
def PySem.W.Fast.tw17113833768919874529 : Unit := ()
def PySem.W.Fast.tw14161398632231168282 : Unit := ()
def PySem.W.Fast.tw12481255958039720464 : Unit := ()
def PySem.W.Fast.tw17870326503429722043 : Unit := ()
def PySem.W.Fast.tw9841597649683365393 : Unit := ()
def PySem.W.Fast.tw5999284207755531831 : Unit := ()
def PySem.W.Fast.tw10648001773376787461 : Unit := ()
def PySem.W.Fast.tw12686580300909795538 : Unit := ()
def PySem.W.Fast.tw11144420855255307186 : Unit := ()
def PySem.W.Fast.tw17546893978769079249 : Unit := ()
def PySem.W.Fast.tw13264924545913237554 : Unit := ()
def PySem.W.Fast.tw8662186298819914260 : Unit := ()
def PySem.W.Fast.tw2674567856210730191 : Unit := ()
def PySem.W.Fast.tw14376749631167985925 : Unit := ()
def PySem.W.Fast.tw2380591683227222151 : Unit := ()
def PySem.W.Fast.tw3304063626171453049 : Unit := ()
def PySem.W.Fast.tw2477429439120230949 : Unit := ()
def PySem.W.Fast.tw12807123895810495669 : Unit := ()
def PySem.W.Fast.tw16857202829748206984 : Unit := ()
def PySem.W.Fast.tw10290132772669689740 : Unit := ()
def PySem.W.Fast.tw632199594333904003 : Unit := ()
def PySem.W.Fast.tw8822014003145598137 : Unit := ()
def PySem.W.Fast.tw13512267267509983045 : Unit := ()
def PySem.W.Fast.tw4457870501427903781 : Unit := ()
def PySem.W.Fast.tw4396449772524209562 : Unit := ()
def PySem.W.Fast.tw10872771428832617129 : Unit := ()
def PySem.W.Fast.tw2674149596693789223 : Unit := ()
def PySem.W.Fast.tw1613997988146909929 : Unit := ()
def PySem.W.Fast.tw4319181428139265563 : Unit := ()
def PySem.W.Fast.tw4358138681926117568 : Unit := ()
def PySem.W.Fast.tw9487851682748812826 : Unit := ()
def PySem.W.Fast.tw11891191876893842195 : Unit := ()
def PySem.W.Fast.tw6344032493839923803 : Unit := ()
def PySem.W.Fast.tw4828960432351506265 : Unit := ()
def PySem.W.Fast.tw1401249994156678041 : Unit := ()
def PySem.W.Fast.tw7047409023876207091 : Unit := ()
def PySem.W.Fast.tw8025525355108411134 : Unit := ()
def PySem.W.Fast.tw8025593312559771842 : Unit := ()
def PySem.W.Fast.tw13173041395472678558 : Unit := ()
def PySem.W.Fast.tw8444048398038609947 : Unit := ()
def PySem.W.Fast.tw10357770381672358625 : Unit := ()
def PySem.W.Fast.tw3371391820207766213 : Unit := ()
def PySem.W.Fast.tw9737539215952348995 : Unit := ()
def PySem.W.Fast.tw12238699448226192541 : Unit := ()
def PySem.W.Fast.tw5069043453998868602 : Unit := ()
def PySem.W.Fast.tw10702996011642132228 : Unit := ()
def PySem.W.Fast.tw695217731995289391 : Unit := ()
def PySem.W.Fast.tw5324823659950145900 : Unit := ()
def PySem.W.Fast.tw1366305159854533282 : Unit := ()
def PySem.W.Fast.tw16637379785084062521 : Unit := ()
def PySem.W.Fast.tw12811319795571164195 : Unit := ()
def PySem.W.Fast.tw11765459118207038851 : Unit := ()
def PySem.W.Fast.tw3185519631873229822 : Unit := ()
def PySem.W.Fast.tw7276105684803527851 : Unit := ()
def PySem.W.Fast.tw9381210433881013620 : Unit := ()
def PySem.W.Fast.tw17084880595262286647 : Unit := ()
def PySem.W.Fast.tw894902796195953626 : Unit := ()
def PySem.W.Fast.tw6977844380014604232 : Unit := ()
def PySem.W.Fast.tw1660293481197109752 : Unit := ()
def PySem.W.Fast.tw18251191006123234579 : Unit := ()
def PySem.W.Fast.tw12982562185431545865 : Unit := ()
def PySem.W.Fast.tw14888201555536470559 : Unit := ()
def PySem.W.Fast.tw4207498703272214349 : Unit := ()
def PySem.W.Fast.tw8981632506539536180 : Unit := ()
def PySem.W.Fast.tw12432868508008013925 : Unit := ()
def PySem.W.Fast.tw665051000065822737 : Unit := ()
def PySem.W.Fast.tw15449229607857990136 : Unit := ()
def PySem.W.Fast.tw4897519883559677097 : Unit := ()
def PySem.W.Fast.tw15606868628142515321 : Unit := ()
def PySem.W.Fast.tw4481547644597003519 : Unit := ()
def PySem.W.Fast.tw3606088028173679222 : Unit := ()
def PySem.W.Fast.tw4047584923269615379 : Unit := ()
def PySem.W.Fast.tw17690943413739207485 : Unit := ()
def PySem.W.Fast.tw9699739747655598975 : Unit := ()
def PySem.W.Fast.tw13562928520074700841 : Unit := ()
def PySem.W.Fast.tw11071200764851929846 : Unit := ()
def PySem.W.Fast.tw7305259334602999256 : Unit := ()
def PySem.W.Fast.tw17230860539078308058 : Unit := ()
def PySem.W.Fast.tw11524239477320708142 : Unit := ()
def PySem.W.Fast.tw2544204802996097483 : Unit := ()
def PySem.W.Fast.tw8839673589448228574 : Unit := ()
def PySem.W.Fast.tw15263915633058769636 : Unit := ()
def PySem.W.Fast.tw9754063265665015840 : Unit := ()
def PySem.W.Fast.tw976014941154197964 : Unit := ()
def PySem.W.Fast.tw5709473683889647149 : Unit := ()
def PySem.W.Fast.tw1310783152773744117 : Unit := ()
def PySem.W.Fast.tw17922683093023226905 : Unit := ()
def PySem.W.Fast.tw1918414891724599755 : Unit := ()
def PySem.W.Fast.tw17000412918355128234 : Unit := ()
def PySem.W.Fast.tw12076147604322780205 : Unit := ()
def PySem.W.Fast.tw16949404413891686334 : Unit := ()
def PySem.W.Fast.tw3506761461830037563 : Unit := ()
def PySem.W.Fast.tw5908284545007273628 : Unit := ()
def PySem.W.Fast.tw8971187547726926482 : Unit := ()
def PySem.W.Fast.tw10359086155111275423 : Unit := ()
def PySem.W.Fast.tw12173872854897669439 : Unit := ()
def PySem.W.Fast.tw9977388674039473347 : Unit := ()
def PySem.W.Fast.tw16094590910730467095 : Unit := ()
def PySem.W.Fast.tw11642439021863724011 : Unit := ()
def PySem.W.Fast.tw9923969465752017156 : Unit := ()
def PySem.W.Fast.tw1501779631373109825 : Unit := ()
def PySem.W.Fast.tw7481462559563238705 : Unit := ()
def PySem.W.Fast.tw4866679477337804088 : Unit := ()
def PySem.W.Fast.tw7577007200838240912 : Unit := ()
def PySem.W.Fast.tw10690867980658941488 : Unit := ()
def PySem.W.Fast.tw15681572176428516552 : Unit := ()
def PySem.W.Fast.tw12031997589072693774 : Unit := ()
def PySem.W.Fast.tw16738853230487812499 : Unit := ()
def PySem.W.Fast.tw899732486315291376 : Unit := ()
def PySem.W.Fast.tw10852086338868044402 : Unit := ()
def PySem.W.Fast.tw7155098832437463988 : Unit := ()
def PySem.W.Fast.tw2872816740789226582 : Unit := ()
def PySem.W.Fast.tw14649111959975415386 : Unit := ()
def PySem.W.Fast.tw15239067544042898879 : Unit := ()
def PySem.W.Fast.tw905550380339191027 : Unit := ()
def PySem.W.Fast.tw16984181017153953387 : Unit := ()
def PySem.W.Fast.tw2719995007891164076 : Unit := ()
def PySem.W.Fast.tw10108196836592973492 : Unit := ()
def PySem.W.Fast.tw12120504666335541366 : Unit := ()
def PySem.W.Fast.tw16011158146341826281 : Unit := ()
def PySem.W.Fast.tw18135978970794640149 : Unit := ()
def PySem.W.Fast.tw3553525689497694183 : Unit := ()
def PySem.W.Fast.tw14148141839403446238 : Unit := ()
def PySem.W.Fast.tw8253044966015428167 : Unit := ()
def PySem.W.Fast.tw3206254525032938579 : Unit := ()
def PySem.W.Fast.tw11572040278114487209 : Unit := ()
def PySem.W.Fast.tw12172960818327272001 : Unit := ()
def PySem.W.Fast.tw10744501204912530944 : Unit := ()
def PySem.W.Fast.tw1643514304386417703 : Unit := ()
def PySem.W.Fast.tw2363898290355629612 : Unit := ()
def PySem.W.Fast.tw3069662663500171 : Unit := ()
def PySem.W.Fast.tw13318542807120427478 : Unit := ()
def PySem.W.Fast.tw16074612026980432162 : Unit := ()
def PySem.W.Fast.tw9672773163875135822 : Unit := ()
def PySem.W.Fast.tw10011495503215336739 : Unit := ()
def PySem.W.Fast.tw14949278536329361987 : Unit := ()
def PySem.W.Fast.tw15838836004515782269 : Unit := ()
def PySem.W.Fast.tw4033523181547111134 : Unit := ()
def PySem.W.Fast.tw1928297992452569448 : Unit := ()
def PySem.W.Fast.tw7400899307011762775 : Unit := ()
def PySem.W.Fast.tw2798874656587861745 : Unit := ()
def PySem.W.Fast.tw17371347523091656221 : Unit := ()
def PySem.W.Fast.tw13190885736046108765 : Unit := ()
def PySem.W.Fast.tw3436366837795928278 : Unit := ()
def PySem.W.Fast.tw10837219670210134458 : Unit := ()
def PySem.W.Fast.tw13335228341266537334 : Unit := ()
def PySem.W.Fast.tw9031403339902211204 : Unit := ()
def PySem.W.Fast.tw4893781123272241724 : Unit := ()
def PySem.W.Fast.tw15754784867306668687 : Unit := ()
def PySem.W.Fast.tw17162646899340488164 : Unit := ()
def PySem.W.Fast.tw13924178000261417871 : Unit := ()
def PySem.W.Fast.tw2324211571126410303 : Unit := ()
def PySem.W.Fast.tw3359197333933921601 : Unit := ()
def PySem.W.Fast.tw1992118578202485051 : Unit := ()
def PySem.W.Fast.tw5581282682899612080 : Unit := ()
def PySem.W.Fast.tw15890061015770899474 : Unit := ()
def PySem.W.Fast.tw14885773505759194065 : Unit := ()
def PySem.W.Fast.tw799316038014572642 : Unit := ()
def PySem.W.Fast.tw15511328196962349501 : Unit := ()
def PySem.W.Fast.tw14492105717318220265 : Unit := ()
def PySem.W.Fast.tw16470996239207181452 : Unit := ()
def PySem.W.Fast.tw9460387871815923070 : Unit := ()
def PySem.W.Fast.tw105745705093485334 : Unit := ()
def PySem.W.Fast.tw5925971390839308768 : Unit := ()
def PySem.W.Fast.tw15851887061534303801 : Unit := ()
def PySem.W.Fast.tw6297490892061101742 : Unit := ()
def PySem.W.Fast.tw906535103621077585 : Unit := ()
def PySem.W.Fast.tw14739661150713215348 : Unit := ()
def PySem.W.Fast.tw4065007422796733075 : Unit := ()
def PySem.W.Fast.tw9310765766333649635 : Unit := ()
def PySem.W.Fast.tw9617194567878399123 : Unit := ()
def PySem.W.Fast.tw1711971404573020505 : Unit := ()
def PySem.W.Fast.tw6739241835797771713 : Unit := ()
def PySem.W.Fast.tw13830364663962734417 : Unit := ()
def PySem.W.Fast.tw15981020254457419523 : Unit := ()
def PySem.W.Fast.tw13644277641533840157 : Unit := ()
def PySem.W.Fast.tw9157393727856979434 : Unit := ()
def PySem.W.Fast.tw2641103032341541552 : Unit := ()
def PySem.W.Fast.tw10441906270692448357 : Unit := ()
def PySem.W.Fast.tw11868147436601416349 : Unit := ()
def PySem.W.Fast.tw6024389629714474126 : Unit := ()
def PySem.W.Fast.tw10914628413879833326 : Unit := ()
def PySem.W.Fast.tw12564519942669682738 : Unit := ()
def PySem.W.Fast.tw17779182858851616848 : Unit := ()
def PySem.W.Fast.tw17569395282646425774 : Unit := ()
def PySem.W.Fast.tw2295172758901045318 : Unit := ()
def PySem.W.Fast.tw12158736131137755765 : Unit := ()
def PySem.W.Fast.tw387330104717081925 : Unit := ()
def PySem.W.Fast.tw5100535702003101826 : Unit := ()
def PySem.W.Fast.tw12958146489743270119 : Unit := ()
def PySem.W.Fast.tw7684197449813000281 : Unit := ()
def PySem.W.Fast.tw7399608917925241256 : Unit := ()
def PySem.W.Fast.tw9782632905353947354 : Unit := ()
def PySem.W.Fast.tw9207860725998542495 : Unit := ()
def PySem.W.Fast.tw7694887616806842532 : Unit := ()
def PySem.W.Fast.tw8062203663899685354 : Unit := ()
def PySem.W.Fast.tw18379071907086233605 : Unit := ()
def PySem.W.Fast.tw10154315795274918683 : Unit := ()
def PySem.W.Fast.tw14578868200152380239 : Unit := ()
def PySem.W.Fast.tw11954571265174284350 : Unit := ()
def PySem.W.Fast.tw6277346628675509876 : Unit := ()
def PySem.W.Fast.tw16335550047520575883 : Unit := ()
def PySem.W.Fast.tw16270211173289227473 : Unit := ()
def PySem.W.Fast.tw15931355081904060534 : Unit := ()
def PySem.W.Fast.tw9310437253703406357 : Unit := ()
def PySem.W.Fast.tw5468924843057088206 : Unit := ()
def PySem.W.Fast.tw277916517660114977 : Unit := ()
def PySem.W.Fast.tw11883009997204971827 : Unit := ()
def PySem.W.Fast.tw17050302949238127090 : Unit := ()
def PySem.W.Fast.tw3444345918046070174 : Unit := ()
def PySem.W.Fast.tw6476373931014688024 : Unit := ()
def PySem.W.Fast.tw17930403276360713209 : Unit := ()
def PySem.W.Fast.tw5212536455421580117 : Unit := ()
def PySem.W.Fast.tw15245331580356471187 : Unit := ()
def PySem.W.Fast.tw1006158291665749788 : Unit := ()
def PySem.W.Fast.tw14976783880792851079 : Unit := ()
def PySem.W.Fast.tw15454436603320214950 : Unit := ()
def PySem.W.Fast.tw4882619072201027939 : Unit := ()
def PySem.W.Fast.tw12605981628182347104 : Unit := ()
def PySem.W.Fast.tw5910870193189329156 : Unit := ()
def PySem.W.Fast.tw16339830921152444641 : Unit := ()
def PySem.W.Fast.tw8843468793979503464 : Unit := ()
def PySem.W.Fast.tw14293857612887770409 : Unit := ()
def PySem.W.Fast.tw16092092336564015497 : Unit := ()
def PySem.W.Fast.tw917486042886540647 : Unit := ()
def PySem.W.Fast.tw2768319614324121104 : Unit := ()
def PySem.W.Fast.tw15687754782317959956 : Unit := ()
def PySem.W.Fast.tw2189668886098630941 : Unit := ()
def PySem.W.Fast.tw9164618734835856677 : Unit := ()
def PySem.W.Fast.tw8022027012419707839 : Unit := ()
def PySem.W.Fast.tw17965155878441817450 : Unit := ()
def PySem.W.Fast.tw11887753642550299254 : Unit := ()
def PySem.W.Fast.tw11360742510239499457 : Unit := ()
def PySem.W.Fast.tw3231816127333302007 : Unit := ()
def PySem.W.Fast.tw3563045659767511818 : Unit := ()
def PySem.W.Fast.tw6494574553849584681 : Unit := ()
def PySem.W.Fast.tw2658385478117243437 : Unit := ()
def PySem.W.Fast.tw8450382619730366070 : Unit := ()
def PySem.W.Fast.tw18262936637877040396 : Unit := ()
def PySem.W.Fast.tw3565926150884707552 : Unit := ()
def PySem.W.Fast.tw5922210499656065466 : Unit := ()
def PySem.W.Fast.tw7037943628436224199 : Unit := ()
def PySem.W.Fast.tw12090186301264379295 : Unit := ()
def PySem.W.Fast.tw7788221058625768038 : Unit := ()
def PySem.W.Fast.tw14127247002427510258 : Unit := ()
def PySem.W.Fast.tw5971360821863691518 : Unit := ()
def PySem.W.Fast.tw2294539206363720495 : Unit := ()
def PySem.W.Fast.tw11248256513375457409 : Unit := ()
def PySem.W.Fast.tw15871366871842348795 : Unit := ()
def PySem.W.Fast.tw17453016819541356136 : Unit := ()
def PySem.W.Fast.tw13688118909739178695 : Unit := ()
def PySem.W.Fast.tw4477415519542066054 : Unit := ()
def PySem.W.Fast.tw15673070964089586790 : Unit := ()
def PySem.W.Fast.tw15795764061375820836 : Unit := ()
def PySem.W.Fast.tw5952622784992144249 : Unit := ()
def PySem.W.Fast.tw5441696416794878579 : Unit := ()
def PySem.W.Fast.tw1071615711229327067 : Unit := ()
def PySem.W.Fast.tw7352276256193731359 : Unit := ()
def PySem.W.Fast.tw5378787371637357274 : Unit := ()
def PySem.W.Fast.tw7522536040393054912 : Unit := ()
def PySem.W.Fast.tw17189266762946477015 : Unit := ()
def PySem.W.Fast.tw34772812284829394 : Unit := ()
def PySem.W.Fast.tw1685943442990259753 : Unit := ()
def PySem.W.Fast.tw15572291827494231599 : Unit := ()
def PySem.W.Fast.tw4456466428525744586 : Unit := ()
def PySem.W.Fast.tw4815009432697888825 : Unit := ()
def PySem.W.Fast.tw5673112952966506448 : Unit := ()
def PySem.W.Fast.tw365454918808368556 : Unit := ()
def PySem.W.Fast.tw3588016830490198735 : Unit := ()
def PySem.W.Fast.tw6547894690382070261 : Unit := ()
def PySem.W.Fast.tw11950637901044806658 : Unit := ()
def PySem.W.Fast.tw18127095426226839943 : Unit := ()
def PySem.W.Fast.tw8198806853350938316 : Unit := ()
def PySem.W.Fast.tw1990606086142276663 : Unit := ()
def PySem.W.Fast.tw13428171640188186797 : Unit := ()
def PySem.W.Fast.tw10938782401228088473 : Unit := ()
def PySem.W.Fast.tw3585896197761875609 : Unit := ()
def PySem.W.Fast.tw13314882217366390927 : Unit := ()
def PySem.W.Fast.tw1348650085583049832 : Unit := ()
def PySem.W.Fast.tw651720265310326239 : Unit := ()
def PySem.W.Fast.tw16051611483324474825 : Unit := ()
def PySem.W.Fast.tw15609588156270326839 : Unit := ()
def PySem.W.Fast.tw7507852074724418843 : Unit := ()
def PySem.W.Fast.tw5483065859951209935 : Unit := ()
def PySem.W.Fast.tw6257441089349792606 : Unit := ()
def PySem.W.Fast.tw16428791975458734411 : Unit := ()
def PySem.W.Fast.tw8870216266846187325 : Unit := ()
def PySem.W.Fast.tw8405698718718607319 : Unit := ()
def PySem.W.Fast.tw18124680729988247256 : Unit := ()
def PySem.W.Fast.tw17953317873254136610 : Unit := ()
def PySem.W.Fast.tw13253763615696815486 : Unit := ()
def PySem.W.Fast.tw5806533013450911213 : Unit := ()
def PySem.W.Fast.tw7713070222307263357 : Unit := ()
def PySem.W.Fast.tw6901464730843251016 : Unit := ()
def PySem.W.Fast.tw13875860449807909303 : Unit := ()
def PySem.W.Fast.tw9945734748003730289 : Unit := ()
def PySem.W.Fast.tw12247077673716293511 : Unit := ()
def PySem.W.Fast.tw12333346208849069366 : Unit := ()
def PySem.W.Fast.tw528222559433593265 : Unit := ()
def PySem.W.Fast.tw17890658621616363500 : Unit := ()
def PySem.W.Fast.tw11744474835631447370 : Unit := ()
def PySem.W.Fast.tw16725546690813464649 : Unit := ()
def PySem.W.Fast.tw6942103948244685030 : Unit := ()
def PySem.W.Fast.tw2656685604199763101 : Unit := ()
def PySem.W.Fast.tw11920624496841515507 : Unit := ()
def PySem.W.Fast.tw6605008341704774036 : Unit := ()
def PySem.W.Fast.tw5567802825713468986 : Unit := ()
def PySem.W.Fast.tw12140396683308728538 : Unit := ()
def PySem.W.Fast.tw15823856466735156890 : Unit := ()
def PySem.W.Fast.tw3147916708647981586 : Unit := ()
def PySem.W.Fast.tw1400265383858210766 : Unit := ()
def PySem.W.Fast.tw2689295931386594685 : Unit := ()
def PySem.W.Fast.tw18441789435026019348 : Unit := ()
def PySem.W.Fast.tw7598494027780588389 : Unit := ()
def PySem.W.Fast.tw4794451446591253326 : Unit := ()
def PySem.W.Fast.tw5015882527112444869 : Unit := ()
def PySem.W.Fast.tw18235150356504696020 : Unit := ()
def PySem.W.Fast.tw4295771831064119177 : Unit := ()
def PySem.W.Fast.tw11359420964971017022 : Unit := ()
def PySem.W.Fast.tw4801328936443746713 : Unit := ()
def PySem.W.Fast.tw1818209846892694275 : Unit := ()
def PySem.W.Fast.tw2704830699830870806 : Unit := ()
def PySem.W.Fast.tw3211327197876553694 : Unit := ()
def PySem.W.Fast.tw9698876458283393669 : Unit := ()
def PySem.W.Fast.tw16901209143145917253 : Unit := ()
def PySem.W.Fast.tw18171985760387554695 : Unit := ()
def PySem.W.Fast.tw12792532907686820278 : Unit := ()
def PySem.W.Fast.tw477263724229846379 : Unit := ()
def PySem.W.Fast.tw16318494310003122759 : Unit := ()
def PySem.W.Fast.tw17819547058313146755 : Unit := ()
def PySem.W.Fast.tw15478823506135412968 : Unit := ()
def PySem.W.Fast.tw10012631898921543739 : Unit := ()
def PySem.W.Fast.tw13135953785948814521 : Unit := ()
def PySem.W.Fast.tw4946877667728221493 : Unit := ()
def PySem.W.Fast.tw14997271454962210678 : Unit := ()
def PySem.W.Fast.tw10096023200922677820 : Unit := ()
def PySem.W.Fast.tw16508485762362208574 : Unit := ()
def PySem.W.Fast.tw13605869027582753963 : Unit := ()
def PySem.W.Fast.tw7063042309424721115 : Unit := ()
def PySem.W.Fast.tw3460008880839417100 : Unit := ()
def PySem.W.Fast.tw14893366910425315440 : Unit := ()
def PySem.W.Fast.tw18333961098054247957 : Unit := ()
def PySem.W.Fast.tw12784232743499191521 : Unit := ()
def PySem.W.Fast.tw4236709747665204431 : Unit := ()
def PySem.W.Fast.tw651227289603930953 : Unit := ()
def PySem.W.Fast.tw15959443503211870932 : Unit := ()
def PySem.W.Fast.tw11193775448724791662 : Unit := ()
def PySem.W.Fast.tw4219847243194457791 : Unit := ()
def PySem.W.Fast.tw1323829253911724751 : Unit := ()
def PySem.W.Fast.tw7540332149019978518 : Unit := ()
def PySem.W.Fast.tw6463899962152204121 : Unit := ()
def PySem.W.Fast.tw12894533191968972956 : Unit := ()
def PySem.W.Fast.tw2786573136866913240 : Unit := ()
def PySem.W.Fast.tw14228181587672591616 : Unit := ()
def PySem.W.Fast.tw18213749872358113514 : Unit := ()
def PySem.W.Fast.tw9654486168950372484 : Unit := ()
def PySem.W.Fast.tw14293346842387854174 : Unit := ()
def PySem.W.Fast.tw16670334881654093531 : Unit := ()
def PySem.W.Fast.tw5204797422720085412 : Unit := ()
def PySem.W.Fast.tw13370931306885475794 : Unit := ()
def PySem.W.Fast.tw9631201796249448111 : Unit := ()
def PySem.W.Fast.tw17769136850852748271 : Unit := ()
def PySem.W.Fast.tw10054140156585707168 : Unit := ()
def PySem.W.Fast.tw3456134732057604493 : Unit := ()
def PySem.W.Fast.tw663093667174571914 : Unit := ()
def PySem.W.Fast.tw8956469113988593806 : Unit := ()
def PySem.W.Fast.tw17857106134176002813 : Unit := ()
def PySem.W.Fast.tw8390919725282577114 : Unit := ()
def PySem.W.Fast.tw9225798979283791240 : Unit := ()
def PySem.W.Fast.tw11737433979510306536 : Unit := ()
def PySem.W.Fast.tw6694753873441363194 : Unit := ()
def PySem.W.Fast.tw13369442220522696300 : Unit := ()
def PySem.W.Fast.tw585343106894643575 : Unit := ()
def PySem.W.Fast.tw17134212202536056412 : Unit := ()
def PySem.W.Fast.tw12304704686953351481 : Unit := ()
def PySem.W.Fast.tw16970740217721755628 : Unit := ()
def PySem.W.Fast.tw1467896061484946047 : Unit := ()
def PySem.W.Fast.tw5695777275979690733 : Unit := ()
def PySem.W.Fast.tw8096850183357497930 : Unit := ()
def PySem.W.Fast.tw16186846160186055066 : Unit := ()
def PySem.W.Fast.tw7363228984319925457 : Unit := ()
def PySem.W.Fast.tw3137818209288763933 : Unit := ()
def PySem.W.Fast.tw17027940032342193637 : Unit := ()
def PySem.W.Fast.tw16337476897708389495 : Unit := ()
def PySem.W.Fast.tw8295477246160875805 : Unit := ()
def PySem.W.Fast.tw12505688678061017976 : Unit := ()
def PySem.W.Fast.tw7403864703465978033 : Unit := ()
def PySem.W.Fast.tw2802956799886595299 : Unit := ()
def PySem.W.Fast.tw16953070897374338516 : Unit := ()
def PySem.W.Fast.tw14234108948456915460 : Unit := ()
def PySem.W.Fast.tw4461713044439660688 : Unit := ()
def PySem.W.Fast.tw16046704626678119156 : Unit := ()
def PySem.W.Fast.tw868503862647333604 : Unit := ()
def PySem.W.Fast.tw3684291047171222979 : Unit := ()
def PySem.W.Fast.tw4227418344068213188 : Unit := ()
def PySem.W.Fast.tw13714856309008809962 : Unit := ()
def PySem.W.Fast.tw16452192602398842451 : Unit := ()
def PySem.W.Fast.tw4366451020999367086 : Unit := ()
def PySem.W.Fast.tw13247846662609523962 : Unit := ()
def PySem.W.Fast.tw14515699713335459207 : Unit := ()
def PySem.W.Fast.tw13099679238906327349 : Unit := ()
def PySem.W.Fast.tw13535963313373049937 : Unit := ()
def PySem.W.Fast.tw17608965988327269449 : Unit := ()
def PySem.W.Fast.tw4645929291782198912 : Unit := ()
def PySem.W.Fast.tw13921490604952682485 : Unit := ()
def PySem.W.Fast.tw14520496235855413499 : Unit := ()
def PySem.W.Fast.tw15204827500833162383 : Unit := ()
def PySem.W.Fast.tw10910694210017252349 : Unit := ()
def PySem.W.Fast.tw16991754129215216781 : Unit := ()
def PySem.W.Fast.tw14176490091218685419 : Unit := ()
def PySem.W.Fast.tw8843349056124132484 : Unit := ()
def PySem.W.Fast.tw2026900837167623990 : Unit := ()
def PySem.W.Fast.tw8063904475857587276 : Unit := ()
def PySem.W.Fast.tw11999082130874568577 : Unit := ()
def PySem.W.Fast.tw14546968040226527827 : Unit := ()
def PySem.W.Fast.tw11993303829938405598 : Unit := ()
def PySem.W.Fast.tw12089373207517460590 : Unit := ()
def PySem.W.Fast.tw16886802354109140703 : Unit := ()
def PySem.W.Fast.tw5728830801179021672 : Unit := ()
def PySem.W.Fast.tw2250912374273151363 : Unit := ()
def PySem.W.Fast.tw5543460270326500997 : Unit := ()
def PySem.W.Fast.tw17325698194949025628 : Unit := ()
def PySem.W.Fast.tw14835615939407249092 : Unit := ()
def PySem.W.Fast.tw4261018984980508451 : Unit := ()
def PySem.W.Fast.tw16122515123287586875 : Unit := ()
def PySem.W.Fast.tw6484480576446497506 : Unit := ()
def PySem.W.Fast.tw13548531016433141774 : Unit := ()
def PySem.W.Fast.tw12448816615898865709 : Unit := ()
def PySem.W.Fast.tw16569635832094575602 : Unit := ()
def PySem.W.Fast.tw423482349340463923 : Unit := ()
def PySem.W.Fast.tw8991149800631486960 : Unit := ()
def PySem.W.Fast.tw8410092320585201725 : Unit := ()
def PySem.W.Fast.tw5092375099354903736 : Unit := ()
def PySem.W.Fast.tw2704714530265708250 : Unit := ()
def PySem.W.Fast.tw10068993281946125204 : Unit := ()
def PySem.W.Fast.tw2861462128486711345 : Unit := ()
def PySem.W.Fast.tw16156826100460891706 : Unit := ()
def PySem.W.Fast.tw15990256024617658753 : Unit := ()
def PySem.W.Fast.tw2825678830072642534 : Unit := ()
def PySem.W.Fast.tw15485271851964310923 : Unit := ()
def PySem.W.Fast.tw12591091994478057780 : Unit := ()
def PySem.W.Fast.tw5009677974979617738 : Unit := ()
def PySem.W.Fast.tw12118072890416257111 : Unit := ()
def PySem.W.Fast.tw1125878938710826278 : Unit := ()
def PySem.W.Fast.tw9661452628027061799 : Unit := ()
def PySem.W.Fast.tw8556618317720302939 : Unit := ()
def PySem.W.Fast.tw11941807348493304381 : Unit := ()
def PySem.W.Fast.tw1817973076136452396 : Unit := ()
def PySem.W.Fast.tw5576533820458733587 : Unit := ()
def PySem.W.Fast.tw8854740100409830127 : Unit := ()
def PySem.W.Fast.tw10402653943255734050 : Unit := ()
def PySem.W.Fast.tw7081121639516956416 : Unit := ()
def PySem.W.Fast.tw15451616159228507761 : Unit := ()
def PySem.W.Fast.tw9376694567481690012 : Unit := ()
def PySem.W.Fast.tw7743636728676576744 : Unit := ()
def PySem.W.Fast.tw7827730666553770037 : Unit := ()
def PySem.W.Fast.tw14433335908724143541 : Unit := ()
def PySem.W.Fast.tw15226727591418956505 : Unit := ()
def PySem.W.Fast.tw2858032809136800730 : Unit := ()
def PySem.W.Fast.tw5630351260873775533 : Unit := ()
def PySem.W.Fast.tw17972502727085677914 : Unit := ()
def PySem.W.Fast.tw2823809640103261116 : Unit := ()
def PySem.W.Fast.tw10096072358935976678 : Unit := ()
def PySem.W.Fast.tw6538813577573576759 : Unit := ()
def PySem.W.Fast.tw13943099150952535471 : Unit := ()
def PySem.W.Fast.tw3824241752870336493 : Unit := ()
def PySem.W.Fast.tw15043861013068559926 : Unit := ()
def PySem.W.Fast.tw13236333661927339568 : Unit := ()
def PySem.W.Fast.tw14965290912247107381 : Unit := ()
def PySem.W.Fast.tw9311319577481942152 : Unit := ()
def PySem.W.Fast.tw20864450084758481 : Unit := ()
def PySem.W.Fast.tw1930847202352210527 : Unit := ()
def PySem.W.Fast.tw3486430031074342867 : Unit := ()
def PySem.W.Fast.tw12054065752716579081 : Unit := ()
def PySem.W.Fast.tw451369743042500050 : Unit := ()
def PySem.W.Fast.tw7541543985673262893 : Unit := ()
def PySem.W.Fast.tw6780720614050030994 : Unit := ()
def PySem.W.Fast.tw8317344888330546216 : Unit := ()
def PySem.W.Fast.tw7912240450180648296 : Unit := ()
def PySem.W.Fast.tw13901145215207193142 : Unit := ()
def PySem.W.Fast.tw11616098566965931891 : Unit := ()
def PySem.W.Fast.tw15973272304729727622 : Unit := ()
def PySem.W.Fast.tw8687773598064978649 : Unit := ()
def PySem.W.Fast.tw7051475173069577824 : Unit := ()
def PySem.W.Fast.tw4601982501458929797 : Unit := ()
def PySem.W.Fast.tw6384380238055497593 : Unit := ()
def PySem.W.Fast.tw17097321459754837591 : Unit := ()
def PySem.W.Fast.tw9254860531920011673 : Unit := ()
def PySem.W.Fast.tw14442127971047572610 : Unit := ()
def PySem.W.Fast.tw935680053876337290 : Unit := ()
def PySem.W.Fast.tw1631816890666781154 : Unit := ()
def PySem.W.Fast.tw1860597397678662652 : Unit := ()
def PySem.W.Fast.tw15986895533820512136 : Unit := ()
def PySem.W.Fast.tw15334099768101445517 : Unit := ()
def PySem.W.Fast.tw6236245333362844779 : Unit := ()
def PySem.W.Fast.tw9841331042204012797 : Unit := ()
def PySem.W.Fast.tw5079775994320960834 : Unit := ()
def PySem.W.Fast.tw16046444213819946199 : Unit := ()
def PySem.W.Fast.tw1284383661792028820 : Unit := ()
def PySem.W.Fast.tw16171856490343869207 : Unit := ()
def PySem.W.Fast.tw6105532934025674486 : Unit := ()
def PySem.W.Fast.tw2580889744276238342 : Unit := ()
def PySem.W.Fast.tw4826810915682879399 : Unit := ()
def PySem.W.Fast.tw8821730039351339839 : Unit := ()
def PySem.W.Fast.tw10661663044588165952 : Unit := ()
def PySem.W.Fast.tw13209289417247383574 : Unit := ()
def PySem.W.Fast.tw4280825222716156798 : Unit := ()
def PySem.W.Fast.tw15159151641696576067 : Unit := ()
def PySem.W.Fast.tw6713641602600194408 : Unit := ()
def PySem.W.Fast.tw15298410252324496794 : Unit := ()
def PySem.W.Fast.tw12317270434742958182 : Unit := ()
def PySem.W.Fast.tw4783927674576169371 : Unit := ()
def PySem.W.Fast.tw7854426334176367977 : Unit := ()
def PySem.W.Fast.tw12706535840570467141 : Unit := ()
def PySem.W.Fast.tw6981183123445762251 : Unit := ()
def PySem.W.Fast.tw8564436388197901562 : Unit := ()
def PySem.W.Fast.tw13495329985611810601 : Unit := ()
def PySem.W.Fast.tw16855559646529715611 : Unit := ()
def PySem.W.Fast.tw149868273308912162 : Unit := ()
def PySem.W.Fast.tw12315412465035381139 : Unit := ()
def PySem.W.Fast.tw4169855756802380268 : Unit := ()
def PySem.W.Fast.tw4705194656287872212 : Unit := ()
def PySem.W.Fast.tw11820501120019421401 : Unit := ()
def PySem.W.Fast.tw7878311255813160288 : Unit := ()
def PySem.W.Fast.tw13399716161976000587 : Unit := ()
def PySem.W.Fast.tw18040072052421613040 : Unit := ()
def PySem.W.Fast.tw509593008804198006 : Unit := ()
def PySem.W.Fast.tw5674298888643678376 : Unit := ()
def PySem.W.Fast.tw11423352883997653582 : Unit := ()
def PySem.W.Fast.tw14058001599930317565 : Unit := ()
def PySem.W.Fast.tw17703724445410370719 : Unit := ()
def PySem.W.Fast.tw13041817698983347998 : Unit := ()
def PySem.W.Fast.tw1318216723407836697 : Unit := ()
def PySem.W.Fast.tw15089224620016018736 : Unit := ()
def PySem.W.Fast.tw12184367668465284934 : Unit := ()
def PySem.W.Fast.tw3651503130808936436 : Unit := ()
def PySem.W.Fast.tw16649681150249874422 : Unit := ()
def PySem.W.Fast.tw13413648189558980636 : Unit := ()
def PySem.W.Fast.tw15292524171080694145 : Unit := ()
def PySem.W.Fast.tw8807194233896683589 : Unit := ()
def PySem.W.Fast.tw16730379433417104627 : Unit := ()
def PySem.W.Fast.tw420054153147060830 : Unit := ()
def PySem.W.Fast.tw1474955967362062929 : Unit := ()
def PySem.W.Fast.tw5083634919576975863 : Unit := ()
def PySem.W.Fast.tw8279939479943766841 : Unit := ()
def PySem.W.Fast.tw10469482113840396026 : Unit := ()
def PySem.W.Fast.tw16574778912910285803 : Unit := ()
def PySem.W.Fast.tw1423567246103678813 : Unit := ()
def PySem.W.Fast.tw13173300386927528330 : Unit := ()
def PySem.W.Fast.tw13447978008830011889 : Unit := ()
def PySem.W.Fast.tw14232896461362703174 : Unit := ()
def PySem.W.Fast.tw2715858766589988954 : Unit := ()
def PySem.W.Fast.tw2111241161342728985 : Unit := ()
def PySem.W.Fast.tw15419622397572008600 : Unit := ()
def PySem.W.Fast.tw7905424650795167418 : Unit := ()
def PySem.W.Fast.tw14677425911456085965 : Unit := ()
def PySem.W.Fast.tw10453172260514722082 : Unit := ()
def PySem.W.Fast.tw1784465546886124139 : Unit := ()
def PySem.W.Fast.tw12932025798892705837 : Unit := ()
def PySem.W.Fast.tw18416426682561713022 : Unit := ()
def PySem.W.Fast.tw10444483568779934787 : Unit := ()
def PySem.W.Fast.tw5092498037446395318 : Unit := ()
def PySem.W.Fast.tw13459663482861285107 : Unit := ()
def PySem.W.Fast.tw5003266102022574920 : Unit := ()
def PySem.W.Fast.tw8876801506175852803 : Unit := ()
def PySem.W.Fast.tw17934943991105222322 : Unit := ()
def PySem.W.Fast.tw16691901968998062609 : Unit := ()
def PySem.W.Fast.tw5655427831768300327 : Unit := ()
def PySem.W.Fast.tw9813256311180070734 : Unit := ()
def PySem.W.Fast.tw3039088001559827360 : Unit := ()
def PySem.W.Fast.tw16643194781567586851 : Unit := ()
def PySem.W.Fast.tw10746680430786081644 : Unit := ()
def PySem.W.Fast.tw11810736005090653629 : Unit := ()
def PySem.W.Fast.tw13070117436149786675 : Unit := ()
def PySem.W.Fast.tw10866031891509819505 : Unit := ()
def PySem.W.Fast.tw10874545968641608777 : Unit := ()
def PySem.W.Fast.tw16922851047920042178 : Unit := ()
def PySem.W.Fast.tw10901742804863051892 : Unit := ()
def PySem.W.Fast.tw7757330922935478387 : Unit := ()
def PySem.W.Fast.tw777206130100350477 : Unit := ()
def PySem.W.Fast.tw3482956499542880565 : Unit := ()
def PySem.W.Fast.tw9387959487227531910 : Unit := ()
def PySem.W.Fast.tw16499030751367536496 : Unit := ()
def PySem.W.Fast.tw265915243309923976 : Unit := ()
def PySem.W.Fast.tw8461226543511776418 : Unit := ()
def PySem.W.Fast.tw147937019389086189 : Unit := ()
def PySem.W.Fast.tw5519278433183925419 : Unit := ()
def PySem.W.Fast.tw9818174776423188017 : Unit := ()
def PySem.W.Fast.tw449277684677964634 : Unit := ()
def PySem.W.Fast.tw2276759873193272745 : Unit := ()
def PySem.W.Fast.tw12441484811983790433 : Unit := ()
def PySem.W.Fast.tw15747674919768272099 : Unit := ()
def PySem.W.Fast.tw11996112372080144522 : Unit := ()
def PySem.W.Fast.tw17043235663104345192 : Unit := ()
def PySem.W.Fast.tw2722656915896281905 : Unit := ()
def PySem.W.Fast.tw6022553077113010055 : Unit := ()
def PySem.W.Fast.tw9525498127124229118 : Unit := ()
def PySem.W.Fast.tw55071695425650846 : Unit := ()
def PySem.W.Fast.tw17722009071255675915 : Unit := ()
def PySem.W.Fast.tw10681029797847487173 : Unit := ()
def PySem.W.Fast.tw13129557078741269328 : Unit := ()
def PySem.W.Fast.tw13522073265721343762 : Unit := ()
def PySem.W.Fast.tw10513910155938456754 : Unit := ()
def PySem.W.Fast.tw7141947383517527286 : Unit := ()
def PySem.W.Fast.tw13759683306860341114 : Unit := ()
def PySem.W.Fast.tw4905618947241410597 : Unit := ()
def PySem.W.Fast.tw5513275461795077999 : Unit := ()
def PySem.W.Fast.tw72884386895800484 : Unit := ()
def PySem.W.Fast.tw2045109587116272979 : Unit := ()
def PySem.W.Fast.tw11872496948052177 : Unit := ()
def PySem.W.Fast.tw7412210608720575805 : Unit := ()
def PySem.W.Fast.tw3860765014541684580 : Unit := ()
def PySem.W.Fast.tw7205588623171152825 : Unit := ()
def PySem.W.Fast.tw1476690730000576297 : Unit := ()
def PySem.W.Fast.tw15729429871776934217 : Unit := ()
def PySem.W.Fast.tw8822765356976023049 : Unit := ()
def PySem.W.Fast.tw17740167692266973152 : Unit := ()
def PySem.W.Fast.tw4598906076704892229 : Unit := ()
def PySem.W.Fast.tw13436910320374489774 : Unit := ()
def PySem.W.Fast.tw5721621294413145746 : Unit := ()
def PySem.W.Fast.tw3070818379921453931 : Unit := ()
def PySem.W.Fast.tw15107816175369559463 : Unit := ()
def PySem.W.Fast.tw16597090676239631313 : Unit := ()
def PySem.W.Fast.tw16331996149099147260 : Unit := ()
def PySem.W.Fast.tw12922483900181322081 : Unit := ()
def PySem.W.Fast.tw17424435673827092352 : Unit := ()
def PySem.W.Fast.tw18193843388207578630 : Unit := ()
def PySem.W.Fast.tw13567725100588661132 : Unit := ()
def PySem.W.Fast.tw1320819857690609187 : Unit := ()
def PySem.W.Fast.tw6277292011675811036 : Unit := ()
def PySem.W.Fast.tw15094569237622669817 : Unit := ()
def PySem.W.Fast.tw3485765312462520913 : Unit := ()
def PySem.W.Fast.tw5448808046735871981 : Unit := ()
def PySem.W.Fast.tw8645577106105027519 : Unit := ()
def PySem.W.Fast.tw16970154003404446905 : Unit := ()
def PySem.W.Fast.tw1230317835091686535 : Unit := ()
def PySem.W.Fast.tw5380163870829812023 : Unit := ()
def PySem.W.Fast.tw4253054206992860320 : Unit := ()
def PySem.W.Fast.tw15404173893102206632 : Unit := ()
def PySem.W.Fast.tw6574865989916034111 : Unit := ()
def PySem.W.Fast.tw11117973067105559615 : Unit := ()
def PySem.W.Fast.tw834138660068359811 : Unit := ()
def PySem.W.Fast.tw7309945354146332405 : Unit := ()
def PySem.W.Fast.tw9360137774316414829 : Unit := ()
def PySem.W.Fast.tw18231591566810196452 : Unit := ()
def PySem.W.Fast.tw7516470945447427757 : Unit := ()
def PySem.W.Fast.tw11962173931204234599 : Unit := ()
def PySem.W.Fast.tw1316023014740330349 : Unit := ()
def PySem.W.Fast.tw16323237414508508753 : Unit := ()
def PySem.W.Fast.tw1432662237329974638 : Unit := ()
def PySem.W.Fast.tw2174807929201567259 : Unit := ()
def PySem.W.Fast.tw14976060296650761945 : Unit := ()
def PySem.W.Fast.tw8475014341865983681 : Unit := ()
def PySem.W.Fast.tw597806123802447219 : Unit := ()
def PySem.W.Fast.tw13463832315997471863 : Unit := ()
def PySem.W.Fast.tw16817763266411834196 : Unit := ()
def PySem.W.Fast.tw13433013604422996176 : Unit := ()
def PySem.W.Fast.tw11561999703275216421 : Unit := ()
def PySem.W.Fast.tw18026426918668553303 : Unit := ()
def PySem.W.Fast.tw10617940894163223139 : Unit := ()
def PySem.W.Fast.tw806921051019229232 : Unit := ()
def PySem.W.Fast.tw6653380787853596294 : Unit := ()
def PySem.W.Fast.tw16857232818375381061 : Unit := ()
def PySem.W.Fast.tw9848410167697649811 : Unit := ()
def PySem.W.Fast.tw13208278882930094656 : Unit := ()
def PySem.W.Fast.tw1073360116044786331 : Unit := ()
def PySem.W.Fast.tw8435070153363809895 : Unit := ()
def PySem.W.Fast.tw1113540705721880247 : Unit := ()
def PySem.W.Fast.tw9642115698061174228 : Unit := ()
def PySem.W.Fast.tw8475915180175874336 : Unit := ()
def PySem.W.Fast.tw15828151013484141934 : Unit := ()
def PySem.W.Fast.tw7178737730940610523 : Unit := ()
def PySem.W.Fast.tw12173717186048148816 : Unit := ()
def PySem.W.Fast.tw15988804895834261509 : Unit := ()
def PySem.W.Fast.tw18125009948198368328 : Unit := ()
def PySem.W.Fast.tw13539834202960679283 : Unit := ()
def PySem.W.Fast.tw5182747639089535696 : Unit := ()
def PySem.W.Fast.tw656958667193222487 : Unit := ()
def PySem.W.Fast.tw13344871304490718627 : Unit := ()
def PySem.W.Fast.tw7228441397963747104 : Unit := ()
def PySem.W.Fast.tw12506696526399026177 : Unit := ()
def PySem.W.Fast.tw7206734051453948880 : Unit := ()
def PySem.W.Fast.tw14106643171358966315 : Unit := ()
def PySem.W.Fast.tw12752233203538741469 : Unit := ()
def PySem.W.Fast.tw8116064060958941178 : Unit := ()
def PySem.W.Fast.tw13246511132950070825 : Unit := ()
def PySem.W.Fast.tw11704090603233940281 : Unit := ()
def PySem.W.Fast.tw10306401836606952690 : Unit := ()
def PySem.W.Fast.tw9537256522914955972 : Unit := ()
def PySem.W.Fast.tw3777649412785243255 : Unit := ()
def PySem.W.Fast.tw17691624538459407660 : Unit := ()
def PySem.W.Fast.tw14354320755290146147 : Unit := ()
def PySem.W.Fast.tw16652525092784248378 : Unit := ()
def PySem.W.Fast.tw4684835549439664687 : Unit := ()
def PySem.W.Fast.tw15240837210016681949 : Unit := ()
def PySem.W.Fast.tw1320587992781586656 : Unit := ()
def PySem.W.Fast.tw9329318229004687654 : Unit := ()
def PySem.W.Fast.tw16621799169808027922 : Unit := ()
def PySem.W.Fast.tw5645617916335635781 : Unit := ()
def PySem.W.Fast.tw14736685781556102080 : Unit := ()
def PySem.W.Fast.tw7162038519102593070 : Unit := ()
def PySem.W.Fast.tw14534492589400909816 : Unit := ()
def PySem.W.Fast.tw2669912736497688460 : Unit := ()
def PySem.W.Fast.tw10201237906604126607 : Unit := ()
def PySem.W.Fast.tw5796298807391120865 : Unit := ()
def PySem.W.Fast.tw18266216032374697928 : Unit := ()
def PySem.W.Fast.tw2870497686246231313 : Unit := ()
def PySem.W.Fast.tw2786167606054946295 : Unit := ()
def PySem.W.Fast.tw14224126143184355730 : Unit := ()
def PySem.W.Fast.tw6674542603170189964 : Unit := ()
def PySem.W.Fast.tw3335337500242225007 : Unit := ()
def PySem.W.Fast.tw912462180182728046 : Unit := ()
def PySem.W.Fast.tw11963783513320211465 : Unit := ()
def PySem.W.Fast.tw13171001721737152444 : Unit := ()
def PySem.W.Fast.tw5933585475220333661 : Unit := ()
def PySem.W.Fast.tw14366817996890503909 : Unit := ()
def PySem.W.Fast.tw7003820119140186934 : Unit := ()
def PySem.W.Fast.tw11316979268482727498 : Unit := ()
def PySem.W.Fast.tw10638187741912209685 : Unit := ()
def PySem.W.Fast.tw3334198267714520435 : Unit := ()
def PySem.W.Fast.tw16264417734102603380 : Unit := ()
def PySem.W.Fast.tw807137605521846785 : Unit := ()
def PySem.W.Fast.tw9382695914399706203 : Unit := ()
def PySem.W.Fast.tw15919829888544484077 : Unit := ()
def PySem.W.Fast.tw6744411827190842856 : Unit := ()
def PySem.W.Fast.tw17404484939870241425 : Unit := ()
def PySem.W.Fast.tw17480432639394277415 : Unit := ()
def PySem.W.Fast.tw13542798781061093203 : Unit := ()
def PySem.W.Fast.tw13123718739067064904 : Unit := ()
def PySem.W.Fast.tw8249188019165124981 : Unit := ()
def PySem.W.Fast.tw3111806922191705856 : Unit := ()
def PySem.W.Fast.tw10780080641349351763 : Unit := ()
def PySem.W.Fast.tw10163366473882485264 : Unit := ()
def PySem.W.Fast.tw8751752565016065655 : Unit := ()
def PySem.W.Fast.tw9021063799410859835 : Unit := ()
def PySem.W.Fast.tw2794502914296146698 : Unit := ()
def PySem.W.Fast.tw2542988704124542849 : Unit := ()
def PySem.W.Fast.tw17948052378850762055 : Unit := ()
def PySem.W.Fast.tw17728931511724115191 : Unit := ()
def PySem.W.Fast.tw3106144840893875406 : Unit := ()
def PySem.W.Fast.tw6530657092358777996 : Unit := ()
def PySem.W.Fast.tw7716476551489756628 : Unit := ()
def PySem.W.Fast.tw4000454247296321050 : Unit := ()
def PySem.W.Fast.tw884357029188977829 : Unit := ()
def PySem.W.Fast.tw10602445530314496327 : Unit := ()
def PySem.W.Fast.tw11669694833713519135 : Unit := ()
def PySem.W.Fast.tw15910718358795733698 : Unit := ()
def PySem.W.Fast.tw14461861962447445434 : Unit := ()
def PySem.W.Fast.tw3528380098728215123 : Unit := ()
def PySem.W.Fast.tw9475431527414351903 : Unit := ()
def PySem.W.Fast.tw12158499590820038392 : Unit := ()
def PySem.W.Fast.tw10130730189282594870 : Unit := ()
def PySem.W.Fast.tw8584285963199597748 : Unit := ()
def PySem.W.Fast.tw10261953125930767874 : Unit := ()
def PySem.W.Fast.tw12829501243781953409 : Unit := ()
def PySem.W.Fast.tw6533291677775687432 : Unit := ()
def PySem.W.Fast.tw6365898561028191589 : Unit := ()
def PySem.W.Fast.tw16177561779529584874 : Unit := ()
def PySem.W.Fast.tw10282177572453068274 : Unit := ()
def PySem.W.Fast.tw8773281646796745581 : Unit := ()
def PySem.W.Fast.tw3548192300931314991 : Unit := ()
def PySem.W.Fast.tw15796781523699495047 : Unit := ()
def PySem.W.Fast.tw6953895499165141149 : Unit := ()
def PySem.W.Fast.tw10221766814287076343 : Unit := ()
def PySem.W.Fast.tw12880987660899337884 : Unit := ()
def PySem.W.Fast.tw13730156590066359877 : Unit := ()
def PySem.W.Fast.tw412102516768189258 : Unit := ()
def PySem.W.Fast.tw8962841585647985813 : Unit := ()
def PySem.W.Fast.tw2549520296740455663 : Unit := ()
def PySem.W.Fast.tw14006160118658966181 : Unit := ()
def PySem.W.Fast.tw17911059480053587370 : Unit := ()
def PySem.W.Fast.tw15758211584751576629 : Unit := ()
def PySem.W.Fast.tw9876353547572217711 : Unit := ()
def PySem.W.Fast.tw13859571994338737544 : Unit := ()
def PySem.W.Fast.tw7739262934135623092 : Unit := ()
def PySem.W.Fast.tw3630006054835442518 : Unit := ()
def PySem.W.Fast.tw11854681747360716415 : Unit := ()
def PySem.W.Fast.tw3302156075670298970 : Unit := ()
def PySem.W.Fast.tw16171869285909749692 : Unit := ()
def PySem.W.Fast.tw4333923139197485809 : Unit := ()
def PySem.W.Fast.tw17314924950515741799 : Unit := ()
def PySem.W.Fast.tw13926977624955048036 : Unit := ()
def PySem.W.Fast.tw5125239902258706729 : Unit := ()
def PySem.W.Fast.tw16478919296374836074 : Unit := ()
def PySem.W.Fast.tw515760270670264032 : Unit := ()
def PySem.W.Fast.tw16578166052013725613 : Unit := ()
def PySem.W.Fast.tw2533210380119203609 : Unit := ()
def PySem.W.Fast.tw17034254659155654555 : Unit := ()
def PySem.W.Fast.tw578458772932340954 : Unit := ()
def PySem.W.Fast.tw1635411492744379953 : Unit := ()
def PySem.W.Fast.tw13436088200819976341 : Unit := ()
def PySem.W.Fast.tw3883722782052337589 : Unit := ()
def PySem.W.Fast.tw15958174306424094078 : Unit := ()
def PySem.W.Fast.tw5556384890695578735 : Unit := ()
def PySem.W.Fast.tw6540591026800110011 : Unit := ()
def PySem.W.Fast.tw11560168507779040840 : Unit := ()
def PySem.W.Fast.tw13002176279255311074 : Unit := ()
def PySem.W.Fast.tw3375958259680745545 : Unit := ()
def PySem.W.Fast.tw2475766444292329952 : Unit := ()
def PySem.W.Fast.tw16306216295338591462 : Unit := ()
def PySem.W.Fast.tw11305376770738152599 : Unit := ()
def PySem.W.Fast.tw9054556371280240226 : Unit := ()
def PySem.W.Fast.tw15167948473613589699 : Unit := ()
def PySem.W.Fast.tw16748925068561605209 : Unit := ()
def PySem.W.Fast.tw2272691697281434160 : Unit := ()
def PySem.W.Fast.tw5719531069205329193 : Unit := ()
def PySem.W.Fast.tw3141357015046298895 : Unit := ()
def PySem.W.Fast.tw18335037124666170710 : Unit := ()
def PySem.W.Fast.tw199402637910378605 : Unit := ()
def PySem.W.Fast.tw9535953606711802152 : Unit := ()
def PySem.W.Fast.tw1145609776530862887 : Unit := ()
def PySem.W.Fast.tw11644232220473236248 : Unit := ()
def PySem.W.Fast.tw11449560180737848824 : Unit := ()
def PySem.W.Fast.tw8218951422108220484 : Unit := ()
def PySem.W.Fast.tw12576263634553963540 : Unit := ()
def PySem.W.Fast.tw8946702140932990708 : Unit := ()
def PySem.W.Fast.tw12801295141609999367 : Unit := ()
def PySem.W.Fast.tw17060653933847113681 : Unit := ()
def PySem.W.Fast.tw10264903925469565452 : Unit := ()
def PySem.W.Fast.tw17117274917789391332 : Unit := ()
def PySem.W.Fast.tw15040878436767059066 : Unit := ()
def PySem.W.Fast.tw16149478637932367633 : Unit := ()
def PySem.W.Fast.tw6135592647983237016 : Unit := ()
def PySem.W.Fast.tw9268974775904998061 : Unit := ()
def PySem.W.Fast.tw18134894193822852043 : Unit := ()
def PySem.W.Fast.tw12061033405339810486 : Unit := ()
def PySem.W.Fast.tw9144059102142246781 : Unit := ()
def PySem.W.Fast.tw745669802975535919 : Unit := ()
def PySem.W.Fast.tw11157381475178443837 : Unit := ()
def PySem.W.Fast.tw4680203614648171399 : Unit := ()
def PySem.W.Fast.tw15770082695840355499 : Unit := ()
def PySem.W.Fast.tw8887959760463276958 : Unit := ()
def PySem.W.Fast.tw14050365481834960756 : Unit := ()
def PySem.W.Fast.tw16098253117621054271 : Unit := ()
def PySem.W.Fast.tw13040434909450648013 : Unit := ()
def PySem.W.Fast.tw15265194341073703352 : Unit := ()
def PySem.W.Fast.tw14147855110676408041 : Unit := ()
def PySem.W.Fast.tw12979837847420118273 : Unit := ()
def PySem.W.Fast.tw17676372815970970382 : Unit := ()
def PySem.W.Fast.tw14711854220306679093 : Unit := ()
def PySem.W.Fast.tw16783535977850263580 : Unit := ()
def PySem.W.Fast.tw5592623408275709251 : Unit := ()
def PySem.W.Fast.tw128655481063295070 : Unit := ()
def PySem.W.Fast.tw1812051571511766315 : Unit := ()
def PySem.W.Fast.tw11573977433158744188 : Unit := ()
def PySem.W.Fast.tw11316095426263483048 : Unit := ()
def PySem.W.Fast.tw2340322427917610679 : Unit := ()
def PySem.W.Fast.tw5490668022826289188 : Unit := ()
def PySem.W.Fast.tw11306020142524572164 : Unit := ()
def PySem.W.Fast.tw9482686547731209806 : Unit := ()
def PySem.W.Fast.tw13049323272099521011 : Unit := ()
def PySem.W.Fast.tw16140925494482324151 : Unit := ()
def PySem.W.Fast.tw3097966479502276476 : Unit := ()
def PySem.W.Fast.tw9884954701179080707 : Unit := ()
def PySem.W.Fast.tw6457665492567958912 : Unit := ()
def PySem.W.Fast.tw13846132892798235325 : Unit := ()
def PySem.W.Fast.tw1691865685489629729 : Unit := ()
def PySem.W.Fast.tw12961900783230895759 : Unit := ()
def PySem.W.Fast.tw16939993249184534744 : Unit := ()
def PySem.W.Fast.tw17718867956784022208 : Unit := ()
def PySem.W.Fast.tw14134653170805230043 : Unit := ()
def PySem.W.Fast.tw12705608226606939884 : Unit := ()
def PySem.W.Fast.tw13371797260023115867 : Unit := ()
def PySem.W.Fast.tw8060455775714561855 : Unit := ()
def PySem.W.Fast.tw768154015791160832 : Unit := ()
def PySem.W.Fast.tw348591576125000945 : Unit := ()
def PySem.W.Fast.tw5525079321448469039 : Unit := ()
def PySem.W.Fast.tw3394139429439604778 : Unit := ()
def PySem.W.Fast.tw16622175739180375250 : Unit := ()
def PySem.W.Fast.tw3831782570082248224 : Unit := ()
def PySem.W.Fast.tw12157894437684387096 : Unit := ()
def PySem.W.Fast.tw9869650255275470899 : Unit := ()
def PySem.W.Fast.tw16673076377867201144 : Unit := ()
def PySem.W.Fast.tw1486089066070409702 : Unit := ()
def PySem.W.Fast.tw6583130516947842067 : Unit := ()
def PySem.W.Fast.tw888822958993655090 : Unit := ()
def PySem.W.Fast.tw5400274752860672257 : Unit := ()
def PySem.W.Fast.tw16476073991998273611 : Unit := ()
def PySem.W.Fast.tw7031768635489851984 : Unit := ()
def PySem.W.Fast.tw14537687548363141455 : Unit := ()
def PySem.W.Fast.tw10661973085520752580 : Unit := ()
def PySem.W.Fast.tw4727172532794601667 : Unit := ()
def PySem.W.Fast.tw1269210229093934493 : Unit := ()
def PySem.W.Fast.tw480787876884396134 : Unit := ()
def PySem.W.Fast.tw3748830266423873317 : Unit := ()
def PySem.W.Fast.tw1282184495607996793 : Unit := ()
def PySem.W.Fast.tw1290779484203286946 : Unit := ()
def PySem.W.Fast.tw2968959681974634535 : Unit := ()
def PySem.W.Fast.tw30528354129319050 : Unit := ()
def PySem.W.Fast.tw7630524924773604296 : Unit := ()
def PySem.W.Fast.tw13968245528978262101 : Unit := ()
def PySem.W.Fast.tw12063402860564352018 : Unit := ()
def PySem.W.Fast.tw15405940487492871144 : Unit := ()
def PySem.W.Fast.tw4840641033245498407 : Unit := ()
def PySem.W.Fast.tw6309250776901947715 : Unit := ()
def PySem.W.Fast.tw2654051857504785604 : Unit := ()
def PySem.W.Fast.tw9734357327665159638 : Unit := ()
def PySem.W.Fast.tw7776522836403640197 : Unit := ()
def PySem.W.Fast.tw1297225131079912873 : Unit := ()
def PySem.W.Fast.tw16158876290699313501 : Unit := ()
def PySem.W.Fast.tw14718358588417697093 : Unit := ()
def PySem.W.Fast.tw3962019020886319129 : Unit := ()
def PySem.W.Fast.tw11597599668443674037 : Unit := ()
def PySem.W.Fast.tw11037614431648182938 : Unit := ()
def PySem.W.Fast.tw533320836527613403 : Unit := ()
def PySem.W.Fast.tw14381987665357004680 : Unit := ()
def PySem.W.Fast.tw7732220101380502859 : Unit := ()
def PySem.W.Fast.tw11388425251557267213 : Unit := ()
def PySem.W.Fast.tw5776414975413979064 : Unit := ()
def PySem.W.Fast.tw15010836110239144017 : Unit := ()
def PySem.W.Fast.tw17310043694681429191 : Unit := ()
def PySem.W.Fast.tw2366844635240664883 : Unit := ()
def PySem.W.Fast.tw12316614701076914055 : Unit := ()
def PySem.W.Fast.tw8703600106672759023 : Unit := ()
def PySem.W.Fast.tw8724266381120909339 : Unit := ()
def PySem.W.Fast.tw895823310695215639 : Unit := ()
def PySem.W.Fast.tw18205052319206469218 : Unit := ()
def PySem.W.Fast.tw6313438603884090317 : Unit := ()
def PySem.W.Fast.tw6387327337221654126 : Unit := ()
def PySem.W.Fast.tw15661439105343429013 : Unit := ()
def PySem.W.Fast.tw795757577857816612 : Unit := ()
def PySem.W.Fast.tw2843722878348735889 : Unit := ()
def PySem.W.Fast.tw573791067329593985 : Unit := ()
def PySem.W.Fast.tw1221755786783266635 : Unit := ()
def PySem.W.Fast.tw8579020011915282483 : Unit := ()
def PySem.W.Fast.tw65282675928147211 : Unit := ()
def PySem.W.Fast.tw18378076475664562369 : Unit := ()
def PySem.W.Fast.tw92076789450439600 : Unit := ()
def PySem.W.Fast.tw16032233597783046237 : Unit := ()
def PySem.W.Fast.tw10542976202368929158 : Unit := ()
def PySem.W.Fast.tw17859898669115798148 : Unit := ()
def PySem.W.Fast.tw14883305369035745964 : Unit := ()
def PySem.W.Fast.tw15370080440622210723 : Unit := ()
def PySem.W.Fast.tw11345576155078745717 : Unit := ()
def PySem.W.Fast.tw2349992655084526290 : Unit := ()
def PySem.W.Fast.tw2936636300518206288 : Unit := ()
def PySem.W.Fast.tw4440907751312347086 : Unit := ()
def PySem.W.Fast.tw5362242834482190815 : Unit := ()
def PySem.W.Fast.tw13675458916843139391 : Unit := ()
def PySem.W.Fast.tw3910389357268195477 : Unit := ()
def PySem.W.Fast.tw14533698402319822223 : Unit := ()
def PySem.W.Fast.tw9159064455194580383 : Unit := ()
def PySem.W.Fast.tw7958784041513880349 : Unit := ()
def PySem.W.Fast.tw17368353963804174489 : Unit := ()
def PySem.W.Fast.tw12215197831534874766 : Unit := ()
def PySem.W.Fast.tw14964047588180380441 : Unit := ()
def PySem.W.Fast.tw16435328330044287298 : Unit := ()
def PySem.W.Fast.tw15624319845975138457 : Unit := ()
def PySem.W.Fast.tw1906200694801621445 : Unit := ()
def PySem.W.Fast.tw9830374363394801468 : Unit := ()
def PySem.W.Fast.tw5693776830903950270 : Unit := ()
def PySem.W.Fast.tw8014621301901630517 : Unit := ()
def PySem.W.Fast.tw18405843084122661947 : Unit := ()
def PySem.W.Fast.tw6690743228164279136 : Unit := ()
def PySem.W.Fast.tw5448880551629968948 : Unit := ()
def PySem.W.Fast.tw2411103752123029058 : Unit := ()
def PySem.W.Fast.tw6882753073315174130 : Unit := ()
def PySem.W.Fast.tw6563336083002122912 : Unit := ()
def PySem.W.Fast.tw3334846584649425228 : Unit := ()
def PySem.W.Fast.tw746791802032752282 : Unit := ()
def PySem.W.Fast.tw14695498822150160791 : Unit := ()
def PySem.W.Fast.tw7824155636542895242 : Unit := ()
def PySem.W.Fast.tw14088906826585449535 : Unit := ()
def PySem.W.Fast.tw10639424069985540694 : Unit := ()
def PySem.W.Fast.tw17674257955575112018 : Unit := ()
def PySem.W.Fast.tw18047377829281803643 : Unit := ()
def PySem.W.Fast.tw287059378304629945 : Unit := ()
def PySem.W.Fast.tw14318191768842705638 : Unit := ()
def PySem.W.Fast.tw2822763426513891294 : Unit := ()
def PySem.W.Fast.tw13219153758811764883 : Unit := ()
def PySem.W.Fast.tw14173181965116996717 : Unit := ()
def PySem.W.Fast.tw12305519550562803946 : Unit := ()
def PySem.W.Fast.tw12140318016138894408 : Unit := ()
def PySem.W.Fast.tw18106352989594923694 : Unit := ()
def PySem.W.Fast.tw13334228761360375700 : Unit := ()
def PySem.W.Fast.tw14932110697907249775 : Unit := ()
def PySem.W.Fast.tw1112431112169686861 : Unit := ()
def PySem.W.Fast.tw56359581309943073 : Unit := ()
def PySem.W.Fast.tw12566974693985961110 : Unit := ()
def PySem.W.Fast.tw18305934469155790754 : Unit := ()
def PySem.W.Fast.tw11295113661714681703 : Unit := ()
def PySem.W.Fast.tw9160641545579605190 : Unit := ()
def PySem.W.Fast.tw13835393489693166254 : Unit := ()
def PySem.W.Fast.tw136034675688603736 : Unit := ()
def PySem.W.Fast.tw12310740556240162349 : Unit := ()
def PySem.W.Fast.tw12140756747962896569 : Unit := ()
def PySem.W.Fast.tw18106373292890829645 : Unit := ()
def PySem.W.Fast.tw11521682027902296680 : Unit := ()
def PySem.W.Fast.tw11675292250725118839 : Unit := ()
def PySem.W.Fast.tw8961129093799228689 : Unit := ()
def PySem.W.Fast.tw3289811547063903273 : Unit := ()
def PySem.W.Fast.tw12902127817663802540 : Unit := ()
def PySem.W.Fast.tw502104599305297999 : Unit := ()
def PySem.W.Fast.tw6706164108055217660 : Unit := ()
def PySem.W.Fast.tw9280371179885474638 : Unit := ()
def PySem.W.Fast.tw5053872729018557086 : Unit := ()
def PySem.W.Fast.tw3006561946670620440 : Unit := ()
def PySem.W.Fast.tw5030349861560876070 : Unit := ()
def PySem.W.Fast.tw3939354287073746077 : Unit := ()
def PySem.W.Fast.tw13110275333075416547 : Unit := ()
def PySem.W.Fast.tw7307786986613270993 : Unit := ()
def PySem.W.Fast.tw11279589437390307316 : Unit := ()
def PySem.W.Fast.tw8942036397037232157 : Unit := ()
def PySem.W.Fast.tw9769294701788518921 : Unit := ()
def PySem.W.Fast.tw15173407393883163203 : Unit := ()
def PySem.W.Fast.tw15246344547228223133 : Unit := ()
def PySem.W.Fast.tw10091236694437808677 : Unit := ()
def PySem.W.Fast.tw10220994432127482517 : Unit := ()
def PySem.W.Fast.tw1163605619112289853 : Unit := ()
def PySem.W.Fast.tw16738945482073933062 : Unit := ()
def PySem.W.Fast.tw7254811067053254681 : Unit := ()
def PySem.W.Fast.tw3009800431153858383 : Unit := ()
def PySem.W.Fast.tw14034420303520703579 : Unit := ()
def PySem.W.Fast.tw15969367253206354500 : Unit := ()
def PySem.W.Fast.tw11253931892849872363 : Unit := ()
def PySem.W.Fast.tw4952049395531672875 : Unit := ()
def PySem.W.Fast.tw13452828925189323073 : Unit := ()
def PySem.W.Fast.tw182074677502530758 : Unit := ()
def PySem.W.Fast.tw2428472481691271321 : Unit := ()
def PySem.W.Fast.tw11178267444177281501 : Unit := ()
def PySem.W.Fast.tw16039516153050575807 : Unit := ()
def PySem.W.Fast.tw5668198047894150304 : Unit := ()
def PySem.W.Fast.tw15794082638131509074 : Unit := ()
def PySem.W.Fast.tw6818884917242391395 : Unit := ()
def PySem.W.Fast.tw15108613593509017935 : Unit := ()
def PySem.W.Fast.tw17932914586632391396 : Unit := ()
def PySem.W.Fast.tw16280786979771622888 : Unit := ()
def PySem.W.Fast.tw11118275511567110675 : Unit := ()
def PySem.W.Fast.tw13590018330755334574 : Unit := ()
def PySem.W.Fast.tw5968051357821831706 : Unit := ()
def PySem.W.Fast.tw1150997623956818615 : Unit := ()
def PySem.W.Fast.tw6095076566046175415 : Unit := ()
def PySem.W.Fast.tw1190048439819842838 : Unit := ()
def PySem.W.Fast.tw4841503462740904175 : Unit := ()
def PySem.W.Fast.tw18284852127108203002 : Unit := ()
def PySem.W.Fast.tw5610484782488269485 : Unit := ()
def PySem.W.Fast.tw6594534487894197116 : Unit := ()
def PySem.W.Fast.tw12107849012146913557 : Unit := ()
def PySem.W.Fast.tw5787124694955943080 : Unit := ()
def PySem.W.Fast.tw5144173253447025657 : Unit := ()
def PySem.W.Fast.tw9619607224013061864 : Unit := ()
def PySem.W.Fast.tw18262804086596610737 : Unit := ()
def PySem.W.Fast.tw5342381302497536007 : Unit := ()
def PySem.W.Fast.tw6062634688194791122 : Unit := ()
def PySem.W.Fast.tw5314282349460571487 : Unit := ()
def PySem.W.Fast.tw342416783344261897 : Unit := ()
def PySem.W.Fast.tw9450406905240883183 : Unit := ()
def PySem.W.Fast.tw10010978687646992728 : Unit := ()
def PySem.W.Fast.tw772130892507352024 : Unit := ()
def PySem.W.Fast.tw18412946967874241297 : Unit := ()
def PySem.W.Fast.tw5541569816912154321 : Unit := ()
def PySem.W.Fast.tw4832156749594970018 : Unit := ()
def PySem.W.Fast.tw5841319511096021854 : Unit := ()
def PySem.W.Fast.tw16958285270589175156 : Unit := ()
def PySem.W.Fast.tw8828162723546324552 : Unit := ()
def PySem.W.Fast.tw7052117446920000065 : Unit := ()
def PySem.W.Fast.tw17001745670945477656 : Unit := ()
def PySem.W.Fast.tw2537299722868163252 : Unit := ()
def PySem.W.Fast.tw6153431681320262609 : Unit := ()
def PySem.W.Fast.tw11829952725772029391 : Unit := ()
def PySem.W.Fast.tw5139238391384612881 : Unit := ()
def PySem.W.Fast.tw12569066025094505426 : Unit := ()
def PySem.W.Fast.tw46464637372454804 : Unit := ()
def PySem.W.Fast.tw15025704455345610563 : Unit := ()
def PySem.W.Fast.tw7757680155901268798 : Unit := ()
def PySem.W.Fast.tw11611595321750695723 : Unit := ()
def PySem.W.Fast.tw9754413795644547592 : Unit := ()
def PySem.W.Fast.tw984842035391698022 : Unit := ()
def PySem.W.Fast.tw784140631149969340 : Unit := ()
def PySem.W.Fast.tw17710369525472976350 : Unit := ()
def PySem.W.Fast.tw3526525272768304805 : Unit := ()
def PySem.W.Fast.tw8215133993506377429 : Unit := ()
def PySem.W.Fast.tw12495703292960142929 : Unit := ()
def PySem.W.Fast.tw14175488690753759221 : Unit := ()
def PySem.W.Fast.tw2635830560430982653 : Unit := ()
def PySem.W.Fast.tw7237173043059557622 : Unit := ()
def PySem.W.Fast.tw6342155508967967198 : Unit := ()
def PySem.W.Fast.tw14922692711386803063 : Unit := ()
def PySem.W.Fast.tw10543100652869380632 : Unit := ()
def PySem.W.Fast.tw7816309257656797801 : Unit := ()
def PySem.W.Fast.tw7963854492120398406 : Unit := ()
def PySem.W.Fast.tw7608595564499775813 : Unit := ()
def PySem.W.Fast.tw9728468853315167763 : Unit := ()
def PySem.W.Fast.tw3834650602258415167 : Unit := ()
def PySem.W.Fast.tw1773676529647866572 : Unit := ()
def PySem.W.Fast.tw13662383574302327007 : Unit := ()
def PySem.W.Fast.tw3797419166189842004 : Unit := ()
def PySem.W.Fast.tw2545281004618227239 : Unit := ()
def PySem.W.Fast.tw8726036572968509936 : Unit := ()
def PySem.W.Fast.tw14877228744673637483 : Unit := ()
def PySem.W.Fast.tw14582104511719679055 : Unit := ()
def PySem.W.Fast.tw3648720601654105570 : Unit := ()
def PySem.W.Fast.tw5671970083013729088 : Unit := ()
def PySem.W.Fast.tw13580182854555078325 : Unit := ()
def PySem.W.Fast.tw13928967268485961895 : Unit := ()
def PySem.W.Fast.tw16193394289605834349 : Unit := ()
def PySem.W.Fast.tw15268780312253586554 : Unit := ()
def PySem.W.Fast.tw11617314299485132676 : Unit := ()
def PySem.W.Fast.tw9820666311794428474 : Unit := ()
def PySem.W.Fast.tw15076208482671011663 : Unit := ()
def PySem.W.Fast.tw6405922771960644933 : Unit := ()
def PySem.W.Fast.tw17230401532678528388 : Unit := ()
def PySem.W.Fast.tw7874289014899520122 : Unit := ()
def PySem.W.Fast.tw14076512768395605654 : Unit := ()
def PySem.W.Fast.tw5662296898706688926 : Unit := ()
def PySem.W.Fast.tw14118431587190025583 : Unit := ()
def PySem.W.Fast.tw11644721407512372648 : Unit := ()
def PySem.W.Fast.tw6348400205738467222 : Unit := ()
def PySem.W.Fast.tw618967397373948904 : Unit := ()
def PySem.W.Fast.tw17154545688354676400 : Unit := ()
def PySem.W.Fast.tw13633943861356680135 : Unit := ()
def PySem.W.Fast.tw9436039059363500828 : Unit := ()
def PySem.W.Fast.tw14268631237991747895 : Unit := ()
def PySem.W.Fast.tw16524964626050815131 : Unit := ()
def PySem.W.Fast.tw16256246974033556111 : Unit := ()
def PySem.W.Fast.tw7596396918447519867 : Unit := ()
def PySem.W.Fast.tw2278442845422366607 : Unit := ()
def PySem.W.Fast.tw15926933051325291637 : Unit := ()
def PySem.W.Fast.tw14042723046901790136 : Unit := ()
def PySem.W.Fast.tw16393638628640324673 : Unit := ()
def PySem.W.Fast.tw16088027205616026394 : Unit := ()
def PySem.W.Fast.tw4874413752754219004 : Unit := ()
def PySem.W.Fast.tw15419627559461457136 : Unit := ()
def PySem.W.Fast.tw2083084789354876956 : Unit := ()
def PySem.W.Fast.tw10904824557478397010 : Unit := ()
def PySem.W.Fast.tw12641101408070377786 : Unit := ()
def PySem.W.Fast.tw11102721350579042767 : Unit := ()
def PySem.W.Fast.tw5704487308723806156 : Unit := ()
def PySem.W.Fast.tw15792241345770270439 : Unit := ()
def PySem.W.Fast.tw9886475951442525948 : Unit := ()
def PySem.W.Fast.tw7389214979289728152 : Unit := ()
def PySem.W.Fast.tw1254966963734253467 : Unit := ()
def PySem.W.Fast.tw15472955313821987384 : Unit := ()
def PySem.W.Fast.tw5867679731608707109 : Unit := ()
def PySem.W.Fast.tw9032252571908097586 : Unit := ()
def PySem.W.Fast.tw3609571058357881204 : Unit := ()
def PySem.W.Fast.tw18357569314848017863 : Unit := ()
def PySem.W.Fast.tw16246020092808710610 : Unit := ()
def PySem.W.Fast.tw8666338226250393413 : Unit := ()
def PySem.W.Fast.tw17298478203940648438 : Unit := ()
def PySem.W.Fast.tw336855644501288017 : Unit := ()
def PySem.W.Fast.tw10213087846680531393 : Unit := ()
def PySem.W.Fast.tw13705033756253422555 : Unit := ()
def PySem.W.Fast.tw8107827873988519632 : Unit := ()
def PySem.W.Fast.tw17286363629873153429 : Unit := ()
def PySem.W.Fast.tw16814184426731954226 : Unit := ()
def PySem.W.Fast.tw11860718325713520252 : Unit := ()
def PySem.W.Fast.tw3232321829105279496 : Unit := ()
def PySem.W.Fast.tw8298053625934044288 : Unit := ()
def PySem.W.Fast.tw11986294915099274523 : Unit := ()
def PySem.W.Fast.tw8083997620610837122 : Unit := ()
def PySem.W.Fast.tw14970218873903547868 : Unit := ()
def PySem.W.Fast.tw11427836890433236745 : Unit := ()
def PySem.W.Fast.tw10847098024356410969 : Unit := ()
def PySem.W.Fast.tw15131163955338603468 : Unit := ()
def PySem.W.Fast.tw14976099136002216912 : Unit := ()
def PySem.W.Fast.tw2961884938772004365 : Unit := ()
def PySem.W.Fast.tw4455441184847867622 : Unit := ()
def PySem.W.Fast.tw2412514466281857571 : Unit := ()
def PySem.W.Fast.tw4211392980486757006 : Unit := ()
def PySem.W.Fast.tw3345471880956444423 : Unit := ()
def PySem.W.Fast.tw9810955867418158481 : Unit := ()
def PySem.W.Fast.tw4601473778486436046 : Unit := ()
def PySem.W.Fast.tw15609347498247533100 : Unit := ()
def PySem.W.Fast.tw14977165145910406207 : Unit := ()
def PySem.W.Fast.tw1440941890125186267 : Unit := ()
def PySem.W.Fast.tw1734447487022179455 : Unit := ()
def PySem.W.Fast.tw14298287700249925311 : Unit := ()
def PySem.W.Fast.tw9328084353348043508 : Unit := ()
def PySem.W.Fast.tw10605074536116063372 : Unit := ()
def PySem.W.Fast.tw12507489060527104103 : Unit := ()
def PySem.W.Fast.tw7767450813351295 : Unit := ()
def PySem.W.Fast.tw6829310940396518254 : Unit := ()
def PySem.W.Fast.tw4040858993477846194 : Unit := ()
def PySem.W.Fast.tw8575796055776954877 : Unit := ()
def PySem.W.Fast.tw18026643557130952275 : Unit := ()
def PySem.W.Fast.tw3592654243444299622 : Unit := ()
def PySem.W.Fast.tw1040407238727822653 : Unit := ()
def PySem.W.Fast.tw16528854083844121485 : Unit := ()
def PySem.W.Fast.tw13350139004506808316 : Unit := ()
def PySem.W.Fast.tw5997348501292616942 : Unit := ()
def PySem.W.Fast.tw13231457774344039237 : Unit := ()
def PySem.W.Fast.tw6671872244584573161 : Unit := ()
def PySem.W.Fast.tw2508484487360138378 : Unit := ()
def PySem.W.Fast.tw18003373928561477942 : Unit := ()
def PySem.W.Fast.tw11629049670460769655 : Unit := ()
def PySem.W.Fast.tw4268658346568430596 : Unit := ()
def PySem.W.Fast.tw16172503441014324629 : Unit := ()
def PySem.W.Fast.tw8127995049866356065 : Unit := ()
def PySem.W.Fast.tw2400539856728723394 : Unit := ()
def PySem.W.Fast.tw12750048701797987322 : Unit := ()
def PySem.W.Fast.tw12408459047460094802 : Unit := ()
def PySem.W.Fast.tw10354642033481665389 : Unit := ()
def PySem.W.Fast.tw3323831706791219221 : Unit := ()
def PySem.W.Fast.tw8922033223044477324 : Unit := ()
def PySem.W.Fast.tw8199352568531899787 : Unit := ()
def PySem.W.Fast.tw1933770944864792891 : Unit := ()
def PySem.W.Fast.tw14104453880301197613 : Unit := ()
def PySem.W.Fast.tw8793711999563410539 : Unit := ()
def PySem.W.Fast.tw16117484429946748766 : Unit := ()
def PySem.W.Fast.tw162722583302013988 : Unit := ()
def PySem.W.Fast.tw1778516964605427382 : Unit := ()
def PySem.W.Fast.tw8020086122448348671 : Unit := ()
def PySem.W.Fast.tw15252585584249614513 : Unit := ()
def PySem.W.Fast.tw4600831258274294129 : Unit := ()
def PySem.W.Fast.tw12894835379526708515 : Unit := ()
def PySem.W.Fast.tw7420969999885601099 : Unit := ()
def PySem.W.Fast.tw15693518006330996009 : Unit := ()
def PySem.W.Fast.tw8804416428145223815 : Unit := ()
def PySem.W.Fast.tw4511069296338719295 : Unit := ()
def PySem.W.Fast.tw6767695434085774207 : Unit := ()
def PySem.W.Fast.tw1807633389180890147 : Unit := ()
def PySem.W.Fast.tw17502068442717220631 : Unit := ()
def PySem.W.Fast.tw16123971800929766305 : Unit := ()
def PySem.W.Fast.tw14032457154584718277 : Unit := ()
def PySem.W.Fast.tw11804351004936992128 : Unit := ()
def PySem.W.Fast.tw5830581965903669156 : Unit := ()
def PySem.W.Fast.tw13286918415722492925 : Unit := ()
def PySem.W.Fast.tw411592936677518483 : Unit := ()
def PySem.W.Fast.tw12203310473423177534 : Unit := ()
def PySem.W.Fast.tw18252550641139622219 : Unit := ()
def PySem.W.Fast.tw2937161474602586231 : Unit := ()
def PySem.W.Fast.tw12531615166917938398 : Unit := ()
def PySem.W.Fast.tw12106511593514244705 : Unit := ()
def PySem.W.Fast.tw5536433392765100456 : Unit := ()
def PySem.W.Fast.tw4343869428450276863 : Unit := ()
def PySem.W.Fast.tw14071373741435395519 : Unit := ()
def PySem.W.Fast.tw17218996228498868928 : Unit := ()
def PySem.W.Fast.tw18079667458097368439 : Unit := ()
def PySem.W.Fast.tw6634773714723917124 : Unit := ()
def PySem.W.Fast.tw9873514857186877858 : Unit := ()
def PySem.W.Fast.tw15727553613935273460 : Unit := ()
def PySem.W.Fast.tw1054749554995258282 : Unit := ()
def PySem.W.Fast.tw15650544356540488459 : Unit := ()
def PySem.W.Fast.tw15242710109235733064 : Unit := ()
def PySem.W.Fast.tw17334192666306706511 : Unit := ()
def PySem.W.Fast.tw1591610158509609319 : Unit := ()
def PySem.W.Fast.tw268402134424069870 : Unit := ()
def PySem.W.Fast.tw8223800631354895553 : Unit := ()
def PySem.W.Fast.tw16754641961896563120 : Unit := ()
def PySem.W.Fast.tw1047941645249980708 : Unit := ()
def PySem.W.Fast.tw16406229988403230893 : Unit := ()
def PySem.W.Fast.tw16341205103035492479 : Unit := ()
def PySem.W.Fast.tw10006255282076600130 : Unit := ()
def PySem.W.Fast.tw14875753030337132203 : Unit := ()
def PySem.W.Fast.tw18394727833160892910 : Unit := ()
def PySem.W.Fast.tw4983001658521187862 : Unit := ()
def PySem.W.Fast.tw10878515254615871903 : Unit := ()
def PySem.W.Fast.tw10115335043237053766 : Unit := ()
def PySem.W.Fast.tw4926887795542399163 : Unit := ()
def PySem.W.Fast.tw757089315708277482 : Unit := ()
def PySem.W.Fast.tw7294137916778088111 : Unit := ()
def PySem.W.Fast.tw2964068396637070316 : Unit := ()
def PySem.W.Fast.tw16680858805665819021 : Unit := ()
def PySem.W.Fast.tw5055497068470740354 : Unit := ()
def PySem.W.Fast.tw14672300191729596848 : Unit := ()
def PySem.W.Fast.tw11533128728956025343 : Unit := ()
def PySem.W.Fast.tw8408736919276268972 : Unit := ()
def PySem.W.Fast.tw5026346547015927216 : Unit := ()
def PySem.W.Fast.tw14150969417407647809 : Unit := ()
def PySem.W.Fast.tw11650011761512822615 : Unit := ()
def PySem.W.Fast.tw7418346707407688066 : Unit := ()
def PySem.W.Fast.tw3437381720420046334 : Unit := ()
def PySem.W.Fast.tw14713687165688173800 : Unit := ()
def PySem.W.Fast.tw15772500918348508410 : Unit := ()
def PySem.W.Fast.tw16794877195653302688 : Unit := ()
def PySem.W.Fast.tw4882426091291190467 : Unit := ()
def PySem.W.Fast.tw7889974672907529928 : Unit := ()
def PySem.W.Fast.tw6614726976410502546 : Unit := ()
def PySem.W.Fast.tw12964380236312311766 : Unit := ()
def PySem.W.Fast.tw8116005599136898887 : Unit := ()
def PySem.W.Fast.tw14315513306001594121 : Unit := ()
def PySem.W.Fast.tw17577239007948008901 : Unit := ()
def PySem.W.Fast.tw11826274579793518109 : Unit := ()
def PySem.W.Fast.tw12465327592637820805 : Unit := ()
def PySem.W.Fast.tw12170986176869100436 : Unit := ()
def PySem.W.Fast.tw8702460351316496542 : Unit := ()
def PySem.W.Fast.tw7942982149558659660 : Unit := ()
def PySem.W.Fast.tw2679072741859603339 : Unit := ()
def PySem.W.Fast.tw10305124596395994607 : Unit := ()
def PySem.W.Fast.tw7435038060960542948 : Unit := ()
def PySem.W.Fast.tw4437686692792428670 : Unit := ()
def PySem.W.Fast.tw11708523670048920956 : Unit := ()
def PySem.W.Fast.tw15135818855097322914 : Unit := ()
def PySem.W.Fast.tw16810645698901499336 : Unit := ()
def PySem.W.Fast.tw9544532600901263406 : Unit := ()
def PySem.W.Fast.tw7164333350806195010 : Unit := ()
def PySem.W.Fast.tw3795056993486353693 : Unit := ()
def PySem.W.Fast.tw7950552417548866068 : Unit := ()
def PySem.W.Fast.tw1733747394206556841 : Unit := ()
def PySem.W.Fast.tw3834237656991979311 : Unit := ()
def PySem.W.Fast.tw9250003654695286232 : Unit := ()
def PySem.W.Fast.tw11824943753742495814 : Unit := ()
def PySem.W.Fast.tw12488548896252738867 : Unit := ()
def PySem.W.Fast.tw18369928032095450225 : Unit := ()
def PySem.W.Fast.tw16179411191256741514 : Unit := ()
def PySem.W.Fast.tw16689737339045993780 : Unit := ()
def PySem.W.Fast.tw14946707847689704301 : Unit := ()
def PySem.W.Fast.tw1323147222425868129 : Unit := ()
def PySem.W.Fast.tw15523212372034477138 : Unit := ()
def PySem.W.Fast.tw13407852623922478171 : Unit := ()
def PySem.W.Fast.tw6684247080191188863 : Unit := ()
def PySem.W.Fast.tw1836931082983423329 : Unit := ()
def PySem.W.Fast.tw11599026585355477615 : Unit := ()
def PySem.W.Fast.tw13684174625822132216 : Unit := ()
def PySem.W.Fast.tw8571760062637715039 : Unit := ()
def PySem.W.Fast.tw14881651957363569512 : Unit := ()
def PySem.W.Fast.tw2855981622180647968 : Unit := ()
def PySem.W.Fast.tw16332226728704941399 : Unit := ()
def PySem.W.Fast.tw5555315286740078489 : Unit := ()
def PySem.W.Fast.tw13738531284874180720 : Unit := ()
def PySem.W.Fast.tw9881652148259194978 : Unit := ()
def PySem.W.Fast.tw33635037035578958 : Unit := ()
def PySem.W.Fast.tw5403918756024943504 : Unit := ()
def PySem.W.Fast.tw16348542811544281799 : Unit := ()
def PySem.W.Fast.tw1873378865159012889 : Unit := ()
def PySem.W.Fast.tw2723914477637486358 : Unit := ()
def PySem.W.Fast.tw2575991511512174014 : Unit := ()
def PySem.W.Fast.tw14207446564667123794 : Unit := ()
def PySem.W.Fast.tw11683279024452632299 : Unit := ()
def PySem.W.Fast.tw730768879266536056 : Unit := ()
def PySem.W.Fast.tw12887283390275004800 : Unit := ()
def PySem.W.Fast.tw4273125440607171986 : Unit := ()
def PySem.W.Fast.tw15155784209927128074 : Unit := ()
def PySem.W.Fast.tw17315665327240647813 : Unit := ()
def PySem.W.Fast.tw15908521128742643522 : Unit := ()
def PySem.W.Fast.tw69336328001731191 : Unit := ()
def PySem.W.Fast.tw14248900352776435386 : Unit := ()
def PySem.W.Fast.tw5375374292503662510 : Unit := ()
def PySem.W.Fast.tw9138399259382031280 : Unit := ()
def PySem.W.Fast.tw3879751846901098163 : Unit := ()
def PySem.W.Fast.tw15464363059245514793 : Unit := ()
def PySem.W.Fast.tw5513100984092747684 : Unit := ()
def PySem.W.Fast.tw11389070738358847571 : Unit := ()
def PySem.W.Fast.tw10237364830710349197 : Unit := ()
def PySem.W.Fast.tw18326079688123840509 : Unit := ()
def PySem.W.Fast.tw7708409237390202045 : Unit := ()
def PySem.W.Fast.tw847370056481856791 : Unit := ()
def PySem.W.Fast.tw16025738297762943687 : Unit := ()
def PySem.W.Fast.tw200466172854290754 : Unit := ()
def PySem.W.Fast.tw9980660597444920483 : Unit := ()
def PySem.W.Fast.tw7981196077710237063 : Unit := ()
def PySem.W.Fast.tw15485170307495390431 : Unit := ()
def PySem.W.Fast.tw16053612361902532034 : Unit := ()
def PySem.W.Fast.tw5558871901862280104 : Unit := ()
def PySem.W.Fast.tw2216519232200043870 : Unit := ()
def PySem.W.Fast.tw5404523100073028046 : Unit := ()
def PySem.W.Fast.tw11612814968712677956 : Unit := ()
def PySem.W.Fast.tw10643158944239313279 : Unit := ()
def PySem.W.Fast.tw2321893841688694299 : Unit := ()
def PySem.W.Fast.tw4532143782341581417 : Unit := ()
def PySem.W.Fast.tw6565211222596183432 : Unit := ()
def PySem.W.Fast.tw16460570639973892831 : Unit := ()
def PySem.W.Fast.tw4221924440181008951 : Unit := ()
def PySem.W.Fast.tw17305181279402499550 : Unit := ()
def PySem.W.Fast.tw5770215843889665252 : Unit := ()
def PySem.W.Fast.tw11685979049115633863 : Unit := ()
def PySem.W.Fast.tw16348897899843213355 : Unit := ()
def PySem.W.Fast.tw7466078120489733731 : Unit := ()
def PySem.W.Fast.tw15308354503106488194 : Unit := ()
def PySem.W.Fast.tw10456301409729970949 : Unit := ()
def PySem.W.Fast.tw5068058779630868193 : Unit := ()
def PySem.W.Fast.tw13362762815309389845 : Unit := ()
def PySem.W.Fast.tw10407473545766025120 : Unit := ()
def PySem.W.Fast.tw1920911106243999996 : Unit := ()
def PySem.W.Fast.tw456042184612299516 : Unit := ()
def PySem.W.Fast.tw13375445840306675854 : Unit := ()
def PySem.W.Fast.tw5109398453882374985 : Unit := ()
def PySem.W.Fast.tw11572730085280971271 : Unit := ()
def PySem.W.Fast.tw2953398085676075746 : Unit := ()
def PySem.W.Fast.tw11154136561772094713 : Unit := ()
def PySem.W.Fast.tw13443714927094602243 : Unit := ()
def PySem.W.Fast.tw5438589024725786420 : Unit := ()
def PySem.W.Fast.tw16689747882491590528 : Unit := ()
def PySem.W.Fast.tw14692862618426614988 : Unit := ()
def PySem.W.Fast.tw13258683223104582347 : Unit := ()
def PySem.W.Fast.tw17247208181244487860 : Unit := ()
def PySem.W.Fast.tw5515816162397500235 : Unit := ()
def PySem.W.Fast.tw17696029259637023322 : Unit := ()
def PySem.W.Fast.tw15792493564960693652 : Unit := ()
def PySem.W.Fast.tw8652141460599158621 : Unit := ()
def PySem.W.Fast.tw3932227706668633848 : Unit := ()
def PySem.W.Fast.tw15827017525233242464 : Unit := ()
def PySem.W.Fast.tw13163003925722336037 : Unit := ()
def PySem.W.Fast.tw17568641217858149626 : Unit := ()
def PySem.W.Fast.tw4408275835285457823 : Unit := ()
def PySem.W.Fast.tw11329526494762974825 : Unit := ()
def PySem.W.Fast.tw17411256710469167521 : Unit := ()
def PySem.W.Fast.tw10445959682429793899 : Unit := ()
def PySem.W.Fast.tw2887262566739462744 : Unit := ()
def PySem.W.Fast.tw5925452380170900722 : Unit := ()
def PySem.W.Fast.tw12751353968611838204 : Unit := ()
def PySem.W.Fast.tw6308845585827327973 : Unit := ()
def PySem.W.Fast.tw868423850565109716 : Unit := ()
def PySem.W.Fast.tw189817754200460674 : Unit := ()
def PySem.W.Fast.tw16469408432170295444 : Unit := ()
def PySem.W.Fast.tw17077473655395598764 : Unit := ()
def PySem.W.Fast.tw2180147086600004713 : Unit := ()
def PySem.W.Fast.tw8544319563863360271 : Unit := ()
def PySem.W.Fast.tw14381434734774023788 : Unit := ()
def PySem.W.Fast.tw8142108185544732930 : Unit := ()
def PySem.W.Fast.tw11958648168364173674 : Unit := ()
def PySem.W.Fast.tw17197114547846921286 : Unit := ()
def PySem.W.Fast.tw5910395770321862171 : Unit := ()
def PySem.W.Fast.tw17901954694108839171 : Unit := ()
def PySem.W.Fast.tw10490709155271036450 : Unit := ()
def PySem.W.Fast.tw2827157862990448280 : Unit := ()
def PySem.W.Fast.tw5984799373432615078 : Unit := ()
def PySem.W.Fast.tw4393815463020675212 : Unit := ()
def PySem.W.Fast.tw7788049854276075660 : Unit := ()
def PySem.W.Fast.tw1205880388061570305 : Unit := ()
def PySem.W.Fast.tw12696187745504964237 : Unit := ()
def PySem.W.Fast.tw5144261135319545617 : Unit := ()
def PySem.W.Fast.tw3666089618843144805 : Unit := ()
def PySem.W.Fast.tw3616888265188664038 : Unit := ()
def PySem.W.Fast.tw3116199752795132791 : Unit := ()
def PySem.W.Fast.tw16828867495010369532 : Unit := ()
def PySem.W.Fast.tw15610244950273558715 : Unit := ()
def PySem.W.Fast.tw14663116008371092793 : Unit := ()
def PySem.W.Fast.tw10076352205333479824 : Unit := ()
def PySem.W.Fast.tw7120000951912688458 : Unit := ()
def PySem.W.Fast.tw876322988746880868 : Unit := ()
def PySem.W.Fast.tw2883650155632846792 : Unit := ()
def PySem.W.Fast.tw16570093823931959997 : Unit := ()
def PySem.W.Fast.tw11392191280019238640 : Unit := ()
def PySem.W.Fast.tw11069131704950844665 : Unit := ()
def PySem.W.Fast.tw15040090446779663807 : Unit := ()
def PySem.W.Fast.tw1755879346927899038 : Unit := ()
def PySem.W.Fast.tw7047249464100934548 : Unit := ()
def PySem.W.Fast.tw659308092607174959 : Unit := ()
def PySem.W.Fast.tw9798716867670894134 : Unit := ()
def PySem.W.Fast.tw2535353563682186134 : Unit := ()
def PySem.W.Fast.tw15062974257255378080 : Unit := ()
def PySem.W.Fast.tw3135087705986883492 : Unit := ()
def PySem.W.Fast.tw16419153237161816225 : Unit := ()
def PySem.W.Fast.tw14763267663112925017 : Unit := ()
def PySem.W.Fast.tw8951302423721377862 : Unit := ()
def PySem.W.Fast.tw12762412971605578616 : Unit := ()
def PySem.W.Fast.tw3651221286215223345 : Unit := ()
def PySem.W.Fast.tw12898101675366784898 : Unit := ()
def PySem.W.Fast.tw6609377818223126413 : Unit := ()
def PySem.W.Fast.tw2935571057380282837 : Unit := ()
def PySem.W.Fast.tw9249448450249376249 : Unit := ()
def PySem.W.Fast.tw13615863269045325345 : Unit := ()
def PySem.W.Fast.tw6645034372232732538 : Unit := ()
def PySem.W.Fast.tw16604271092262383254 : Unit := ()
def PySem.W.Fast.tw7674254617710131657 : Unit := ()
def PySem.W.Fast.tw1489942646460545603 : Unit := ()
def PySem.W.Fast.tw3322548283707968864 : Unit := ()
def PySem.W.Fast.tw10593273790519216377 : Unit := ()
def PySem.W.Fast.tw8560657771107759736 : Unit := ()
def PySem.W.Fast.tw17828069373513462204 : Unit := ()
def PySem.W.Fast.tw17758525066831501795 : Unit := ()
def PySem.W.Fast.tw14526047560880471503 : Unit := ()
def PySem.W.Fast.tw5696078919670412102 : Unit := ()
def PySem.W.Fast.tw13716356278601970697 : Unit := ()
def PySem.W.Fast.tw129314815628253210 : Unit := ()
def PySem.W.Fast.tw10283285883290551844 : Unit := ()
def PySem.W.Fast.tw12322108092133466702 : Unit := ()
def PySem.W.Fast.tw1221693306086320974 : Unit := ()
def PySem.W.Fast.tw16204757614213819488 : Unit := ()
def PySem.W.Fast.tw2131450371836135864 : Unit := ()
def PySem.W.Fast.tw10977163010249260834 : Unit := ()
def PySem.W.Fast.tw333462984165254447 : Unit := ()
def PySem.W.Fast.tw1014810510340861826 : Unit := ()
def PySem.W.Fast.tw9343544820520729276 : Unit := ()
def PySem.W.Fast.tw6498651076136048839 : Unit := ()
def PySem.W.Fast.tw7260212418301071101 : Unit := ()
def PySem.W.Fast.tw3088319827652025251 : Unit := ()
def PySem.W.Fast.tw5296284117681543276 : Unit := ()
def PySem.W.Fast.tw857680871377986778 : Unit := ()
def PySem.W.Fast.tw7437047753776206153 : Unit := ()
def PySem.W.Fast.tw428376414676689268 : Unit := ()
def PySem.W.Fast.tw12787971040310193798 : Unit := ()
def PySem.W.Fast.tw16006274894061473715 : Unit := ()
def PySem.W.Fast.tw12401639241704074628 : Unit := ()
def PySem.W.Fast.tw18305217567357615282 : Unit := ()
def PySem.W.Fast.tw315514585875542637 : Unit := ()
def PySem.W.Fast.tw11757490586296671544 : Unit := ()
def PySem.W.Fast.tw11484670229875925307 : Unit := ()
def PySem.W.Fast.tw4454153167290336601 : Unit := ()
def PySem.W.Fast.tw4410089952120842673 : Unit := ()
def PySem.W.Fast.tw11324519119482011350 : Unit := ()
def PySem.W.Fast.tw3896087546238120741 : Unit := ()
def PySem.W.Fast.tw11949047864249564192 : Unit := ()
def PySem.W.Fast.tw3054139703429019723 : Unit := ()
def PySem.W.Fast.tw15108484622193771188 : Unit := ()
def PySem.W.Fast.tw5627240367715096641 : Unit := ()
def PySem.W.Fast.tw293206889554023241 : Unit := ()
def PySem.W.Fast.tw14021036692262942058 : Unit := ()
def PySem.W.Fast.tw9267844406064642728 : Unit := ()
def PySem.W.Fast.tw13851395573139733304 : Unit := ()
def PySem.W.Fast.tw11282103520864965527 : Unit := ()
def PySem.W.Fast.tw12423518249909700747 : Unit := ()
def PySem.W.Fast.tw5164345945085564830 : Unit := ()
def PySem.W.Fast.tw5152292684887785069 : Unit := ()
def PySem.W.Fast.tw13475037865429114523 : Unit := ()
def PySem.W.Fast.tw13483072132691606673 : Unit := ()
def PySem.W.Fast.tw9910487757816274111 : Unit := ()
def PySem.W.Fast.tw469790059958601290 : Unit := ()
def PySem.W.Fast.tw8450094631659573332 : Unit := ()
def PySem.W.Fast.tw3460481304484591873 : Unit := ()
def PySem.W.Fast.tw8370808543350200651 : Unit := ()
def PySem.W.Fast.tw18298981670382182537 : Unit := ()
def PySem.W.Fast.tw10745172134450161751 : Unit := ()
def PySem.W.Fast.tw375130817427686662 : Unit := ()
def PySem.W.Fast.tw5036597253350056187 : Unit := ()
def PySem.W.Fast.tw7801156355442739755 : Unit := ()
def PySem.W.Fast.tw2947127304412588874 : Unit := ()
def PySem.W.Fast.tw12934246261831159143 : Unit := ()
def PySem.W.Fast.tw16873587691676701144 : Unit := ()
def PySem.W.Fast.tw5497280556380987048 : Unit := ()
def PySem.W.Fast.tw3568037518795070885 : Unit := ()
def PySem.W.Fast.tw12615250391561455186 : Unit := ()
def PySem.W.Fast.tw9527405025607271297 : Unit := ()
def PySem.W.Fast.tw8791474276402486054 : Unit := ()
def PySem.W.Fast.tw17775841969160287978 : Unit := ()
def PySem.W.Fast.tw16692533992833859216 : Unit := ()
def PySem.W.Fast.tw1862248065974614531 : Unit := ()
def PySem.W.Fast.tw16986125169564888769 : Unit := ()
def PySem.W.Fast.tw11501563168963060129 : Unit := ()
def PySem.W.Fast.tw9789290950018360280 : Unit := ()
def PySem.W.Fast.tw16447496602376621390 : Unit := ()
def PySem.W.Fast.tw16268256500985178150 : Unit := ()
def PySem.W.Fast.tw11695270709412496073 : Unit := ()
def PySem.W.Fast.tw10007536754624329668 : Unit := ()
def PySem.W.Fast.tw15441233425824955989 : Unit := ()
def PySem.W.Fast.tw3258627471324823293 : Unit := ()
def PySem.W.Fast.tw10958339815430237051 : Unit := ()
def PySem.W.Fast.tw8139694856596522338 : Unit := ()
def PySem.W.Fast.tw14912516099239636362 : Unit := ()
def PySem.W.Fast.tw660215165803846249 : Unit := ()
def PySem.W.Fast.tw3327282303791753309 : Unit := ()
def PySem.W.Fast.tw7869693146941096238 : Unit := ()
def PySem.W.Fast.tw837681279771960913 : Unit := ()
def PySem.W.Fast.tw1042949432506811782 : Unit := ()
def PySem.W.Fast.tw8236051983107053268 : Unit := ()
def PySem.W.Fast.tw833897388123381324 : Unit := ()
def PySem.W.Fast.tw17451976638230862823 : Unit := ()
def PySem.W.Fast.tw18332060094903145016 : Unit := ()
def PySem.W.Fast.tw3228388537969557207 : Unit := ()
def PySem.W.Fast.tw13699880170497411709 : Unit := ()
def PySem.W.Fast.tw7066852987045691110 : Unit := ()
def PySem.W.Fast.tw436159168220096566 : Unit := ()
def PySem.W.Fast.tw13936563719585732159 : Unit := ()
def PySem.W.Fast.tw3767593735775442897 : Unit := ()
def PySem.W.Fast.tw5097488450343130413 : Unit := ()
def PySem.W.Fast.tw13249053162166434910 : Unit := ()
def PySem.W.Fast.tw13108418524619303116 : Unit := ()
def PySem.W.Fast.tw14069695879162266926 : Unit := ()
def PySem.W.Fast.tw2308266489011465498 : Unit := ()
def PySem.W.Fast.tw694297628192211295 : Unit := ()
def PySem.W.Fast.tw2092308316478714309 : Unit := ()
def PySem.W.Fast.tw12333177805074465433 : Unit := ()
def PySem.W.Fast.tw5764264877962627554 : Unit := ()
def PySem.W.Fast.tw3168083639631046895 : Unit := ()
def PySem.W.Fast.tw331480035141284751 : Unit := ()
def PySem.W.Fast.tw1033564781938218214 : Unit := ()
def PySem.W.Fast.tw16554946218904916126 : Unit := ()
def PySem.W.Fast.tw16241458748172793441 : Unit := ()
def PySem.W.Fast.tw2456715477186768446 : Unit := ()
def PySem.W.Fast.tw2184248666010406904 : Unit := ()
def PySem.W.Fast.tw2772502326381318820 : Unit := ()
def PySem.W.Fast.tw9664238811054824459 : Unit := ()
def PySem.W.Fast.tw15143555889958694878 : Unit := ()
def PySem.W.Fast.tw13213309796463729395 : Unit := ()
def PySem.W.Fast.tw10473204350989447946 : Unit := ()
def PySem.W.Fast.tw9050310882296106296 : Unit := ()
def PySem.W.Fast.tw17185717187511219560 : Unit := ()
def PySem.W.Fast.tw15466282493838727963 : Unit := ()
def PySem.W.Fast.tw422125943818441274 : Unit := ()
def PySem.W.Fast.tw11133188825273849479 : Unit := ()
def PySem.W.Fast.tw17929421530458542065 : Unit := ()
def PySem.W.Fast.tw18341653979225321697 : Unit := ()
def PySem.W.Fast.tw7122680819945966531 : Unit := ()
def PySem.W.Fast.tw865938395841089889 : Unit := ()
def PySem.W.Fast.tw9410164176815451719 : Unit := ()
def PySem.W.Fast.tw9781195193841248233 : Unit := ()
def PySem.W.Fast.tw11269105499535982825 : Unit := ()
def PySem.W.Fast.tw8926073134755407527 : Unit := ()
def PySem.W.Fast.tw4773728931992720790 : Unit := ()
def PySem.W.Fast.tw6040723342017035773 : Unit := ()
def PySem.W.Fast.tw1129875410777817229 : Unit := ()
def PySem.W.Fast.tw17518236850474556947 : Unit := ()
def PySem.W.Fast.tw13885533669734108392 : Unit := ()
def PySem.W.Fast.tw17646587112661457213 : Unit := ()
def PySem.W.Fast.tw4023079877165678559 : Unit := ()
def PySem.W.Fast.tw16689555496845111086 : Unit := ()
def PySem.W.Fast.tw10822517157226378208 : Unit := ()
def PySem.W.Fast.tw9515473304566976839 : Unit := ()
def PySem.W.Fast.tw15043562559693947959 : Unit := ()
def PySem.W.Fast.tw15374032294051024581 : Unit := ()
def PySem.W.Fast.tw121913812951796395 : Unit := ()
def PySem.W.Fast.tw11039610479808538964 : Unit := ()
def PySem.W.Fast.tw17058834833425490287 : Unit := ()
def PySem.W.Fast.tw604925201460121262 : Unit := ()
def PySem.W.Fast.tw2009964767020328206 : Unit := ()
def PySem.W.Fast.tw4501145872919888754 : Unit := ()
def PySem.W.Fast.tw12694328498364840852 : Unit := ()
def PySem.W.Fast.tw965991736999911647 : Unit := ()
def PySem.W.Fast.tw5932544256595408538 : Unit := ()
def PySem.W.Fast.tw8643308442139584390 : Unit := ()
def PySem.W.Fast.tw512566655210889011 : Unit := ()
def PySem.W.Fast.tw10615837899647076564 : Unit := ()
def PySem.W.Fast.tw13635515084284605841 : Unit := ()
def PySem.W.Fast.tw15889495988844864345 : Unit := ()
def PySem.W.Fast.tw9391892428711267803 : Unit := ()
def PySem.W.Fast.tw10731538867910265451 : Unit := ()
def PySem.W.Fast.tw12585857363206362937 : Unit := ()
def PySem.W.Fast.tw16355259641757907298 : Unit := ()
def PySem.W.Fast.tw15729139745320372810 : Unit := ()
def PySem.W.Fast.tw1130229610374673169 : Unit := ()
def PySem.W.Fast.tw8109855563518018692 : Unit := ()
def PySem.W.Fast.tw6998841246779627026 : Unit := ()
def PySem.W.Fast.tw10811921307603971578 : Unit := ()
def PySem.W.Fast.tw10721474809150926022 : Unit := ()
def PySem.W.Fast.tw7424426118698262362 : Unit := ()
def PySem.W.Fast.tw17449549676796470705 : Unit := ()
def PySem.W.Fast.tw10139621923952236309 : Unit := ()
def PySem.W.Fast.tw11274859045716526715 : Unit := ()
def PySem.W.Fast.tw6841113104429115662 : Unit := ()
def PySem.W.Fast.tw2188404836068217566 : Unit := ()
def PySem.W.Fast.tw10159485904790703205 : Unit := ()
def PySem.W.Fast.tw9441147648760170866 : Unit := ()
def PySem.W.Fast.tw5246567386502316476 : Unit := ()
def PySem.W.Fast.tw954085859543030662 : Unit := ()
def PySem.W.Fast.tw8311581296284656055 : Unit := ()
def PySem.W.Fast.tw17497274856531779805 : Unit := ()
def PySem.W.Fast.tw11300050810231339855 : Unit := ()
def PySem.W.Fast.tw1831801779936615353 : Unit := ()
def PySem.W.Fast.tw10770537299134445467 : Unit := ()
def PySem.W.Fast.tw5146728260916485280 : Unit := ()
def PySem.W.Fast.tw4962040408349228281 : Unit := ()
def PySem.W.Fast.tw16856958721905521198 : Unit := ()
def PySem.W.Fast.tw7837658219159656485 : Unit := ()
def PySem.W.Fast.tw11078192900226413620 : Unit := ()
def PySem.W.Fast.tw188334986016903709 : Unit := ()
def PySem.W.Fast.tw14446742416936112952 : Unit := ()
def PySem.W.Fast.tw1511120106522158110 : Unit := ()
def PySem.W.Fast.tw11284893633290114609 : Unit := ()
def PySem.W.Fast.tw11767420131132437259 : Unit := ()
def PySem.W.Fast.tw18022271399226365456 : Unit := ()
def PySem.W.Fast.tw12996426322618363 : Unit := ()
def PySem.W.Fast.tw6473365059352216280 : Unit := ()
def PySem.W.Fast.tw5104882749528651161 : Unit := ()
def PySem.W.Fast.tw3168183236673047427 : Unit := ()
def PySem.W.Fast.tw17028543653373864713 : Unit := ()
def PySem.W.Fast.tw7931342273749537002 : Unit := ()
def PySem.W.Fast.tw1150300830947883753 : Unit := ()
def PySem.W.Fast.tw6857198320863683809 : Unit := ()
def PySem.W.Fast.tw13192815394637328532 : Unit := ()
def PySem.W.Fast.tw15534264330728008109 : Unit := ()
def PySem.W.Fast.tw4729332581239972370 : Unit := ()
def PySem.W.Fast.tw5052003333682613454 : Unit := ()
def PySem.W.Fast.tw14163596524386692393 : Unit := ()
def PySem.W.Fast.tw6718326177981186901 : Unit := ()
def PySem.W.Fast.tw13262531688085916733 : Unit := ()
def PySem.W.Fast.tw17466109403639936699 : Unit := ()
def PySem.W.Fast.tw15964633820070787258 : Unit := ()
def PySem.W.Fast.tw3679644638316214176 : Unit := ()
def PySem.W.Fast.tw5885349403549162022 : Unit := ()
def PySem.W.Fast.tw2398780927826521689 : Unit := ()
def PySem.W.Fast.tw383904622424202099 : Unit := ()
def PySem.W.Fast.tw16534203367917616390 : Unit := ()
def PySem.W.Fast.tw18125051954160005830 : Unit := ()
def PySem.W.Fast.tw2701632013868078204 : Unit := ()
def PySem.W.Fast.tw3845627701026732300 : Unit := ()
def PySem.W.Fast.tw5995464073499615722 : Unit := ()
def PySem.W.Fast.tw7827786553055190685 : Unit := ()
def PySem.W.Fast.tw14819131490028795140 : Unit := ()
def PySem.W.Fast.tw7995745786447703040 : Unit := ()
def PySem.W.Fast.tw607571931831946067 : Unit := ()
def PySem.W.Fast.tw5763015562568461355 : Unit := ()
def PySem.W.Fast.tw5267608163088985835 : Unit := ()
def PySem.W.Fast.tw5967313025806528370 : Unit := ()
def PySem.W.Fast.tw17444010346505292264 : Unit := ()
def PySem.W.Fast.tw3283593650515257561 : Unit := ()
def PySem.W.Fast.tw7081964889227466959 : Unit := ()
def PySem.W.Fast.tw8550334387990302498 : Unit := ()
def PySem.W.Fast.tw4101862982368852506 : Unit := ()
def PySem.W.Fast.tw17502323645308176810 : Unit := ()
def PySem.W.Fast.tw14331933961373078231 : Unit := ()
def PySem.W.Fast.tw12860676838279117279 : Unit := ()
def PySem.W.Fast.tw7769236954520094245 : Unit := ()
def PySem.W.Fast.tw3954436233147085829 : Unit := ()
def PySem.W.Fast.tw12316914814696332476 : Unit := ()
def PySem.W.Fast.tw5459992930526551668 : Unit := ()
def PySem.W.Fast.tw3123718243081049290 : Unit := ()
def PySem.W.Fast.tw8410092871740548751 : Unit := ()
def PySem.W.Fast.tw16101536539706378185 : Unit := ()
def PySem.W.Fast.tw15878428885034450987 : Unit := ()
def PySem.W.Fast.tw15129722561644464284 : Unit := ()
def PySem.W.Fast.tw1819171914763884868 : Unit := ()
def PySem.W.Fast.tw15186769475855061329 : Unit := ()
def PySem.W.Fast.tw16063467053994973937 : Unit := ()
def PySem.W.Fast.tw11947818263832133840 : Unit := ()
def PySem.W.Fast.tw4904296719571344085 : Unit := ()
def PySem.W.Fast.tw4760411670334114545 : Unit := ()
def PySem.W.Fast.tw10113017579267022461 : Unit := ()
def PySem.W.Fast.tw13642902873018539926 : Unit := ()
def PySem.W.Fast.tw15526650404233615058 : Unit := ()
def PySem.W.Fast.tw10617838087017215811 : Unit := ()
def PySem.W.Fast.tw15424042775869671412 : Unit := ()
def PySem.W.Fast.tw16437894055465029244 : Unit := ()
def PySem.W.Fast.tw16598365712497514055 : Unit := ()
def PySem.W.Fast.tw5183288832095509985 : Unit := ()
def PySem.W.Fast.tw635991740976134086 : Unit := ()
def PySem.W.Fast.tw847388969564656414 : Unit := ()
def PySem.W.Fast.tw3466468123688182400 : Unit := ()
def PySem.W.Fast.tw15325732368637207687 : Unit := ()
def PySem.W.Fast.tw17079069478344066971 : Unit := ()
def PySem.W.Fast.tw12234452500789383199 : Unit := ()
def PySem.W.Fast.tw13897775892594434616 : Unit := ()
def PySem.W.Fast.tw11581546555639634921 : Unit := ()
def PySem.W.Fast.tw6285118417309204608 : Unit := ()
def PySem.W.Fast.tw5347495229081842126 : Unit := ()
def PySem.W.Fast.tw8669861186982804768 : Unit := ()
def PySem.W.Fast.tw6844417820455908158 : Unit := ()
def PySem.W.Fast.tw14416480120471644497 : Unit := ()
def PySem.W.Fast.tw8673959774420560472 : Unit := ()
def PySem.W.Fast.tw2613559599108868045 : Unit := ()
def PySem.W.Fast.tw16140822597135169837 : Unit := ()
def PySem.W.Fast.tw11141053277250147171 : Unit := ()
def PySem.W.Fast.tw6147002570852347757 : Unit := ()
def PySem.W.Fast.tw18378249468171814092 : Unit := ()
def PySem.W.Fast.tw14161773702491076954 : Unit := ()
def PySem.W.Fast.tw4641708477181961395 : Unit := ()
def PySem.W.Fast.tw4180298288709511759 : Unit := ()
def PySem.W.Fast.tw6279146569008488673 : Unit := ()
def PySem.W.Fast.tw17994904556817350679 : Unit := ()
def PySem.W.Fast.tw11613301766773525310 : Unit := ()
def PySem.W.Fast.tw8369584291831598558 : Unit := ()
def PySem.W.Fast.tw13026845357688202506 : Unit := ()
def PySem.W.Fast.tw5224789266415500773 : Unit := ()
def PySem.W.Fast.tw16538402552161138521 : Unit := ()
def PySem.W.Fast.tw4315594173777162176 : Unit := ()
def PySem.W.Fast.tw11696678195482922510 : Unit := ()
def PySem.W.Fast.tw2113630576998550567 : Unit := ()
def PySem.W.Fast.tw3658517212752452161 : Unit := ()
def PySem.W.Fast.tw18137162669582782238 : Unit := ()
def PySem.W.Fast.tw14592314451521573848 : Unit := ()
def PySem.W.Fast.tw1957787898698746941 : Unit := ()
def PySem.W.Fast.tw7606445561343901702 : Unit := ()
def PySem.W.Fast.tw10941680884885756502 : Unit := ()
def PySem.W.Fast.tw2517999635701324955 : Unit := ()
def PySem.W.Fast.tw16661434853158420183 : Unit := ()
def PySem.W.Fast.tw7986163732791526121 : Unit := ()
def PySem.W.Fast.tw2856952788605355749 : Unit := ()
def PySem.W.Fast.tw3850333127808529076 : Unit := ()
def PySem.W.Fast.tw12613114028689221725 : Unit := ()
def PySem.W.Fast.tw11798413731920828448 : Unit := ()
def PySem.W.Fast.tw12121722631738654 : Unit := ()
def PySem.W.Fast.tw16235162198014905793 : Unit := ()
def PySem.W.Fast.tw16676333896548549132 : Unit := ()
def PySem.W.Fast.tw13064535110850178050 : Unit := ()
def PySem.W.Fast.tw1107964857628113531 : Unit := ()
def PySem.W.Fast.tw2254085268801597528 : Unit := ()
def PySem.W.Fast.tw7930552833898958210 : Unit := ()
def PySem.W.Fast.tw3142465127061540966 : Unit := ()
def PySem.W.Fast.tw13456353848763067737 : Unit := ()
def PySem.W.Fast.tw9036603938725452118 : Unit := ()
def PySem.W.Fast.tw16547092405777870443 : Unit := ()
def PySem.W.Fast.tw18187566653412767669 : Unit := ()
def PySem.W.Fast.tw2393427118850322951 : Unit := ()
def PySem.W.Fast.tw8338706393110821268 : Unit := ()
def PySem.W.Fast.tw5493544186979740942 : Unit := ()
def PySem.W.Fast.tw11583815541073853196 : Unit := ()
def PySem.W.Fast.tw15790586393677486119 : Unit := ()
def PySem.W.Fast.tw7784840352676225981 : Unit := ()
def PySem.W.Fast.tw8500217654644399144 : Unit := ()
def PySem.W.Fast.tw17185700548857657077 : Unit := ()
def PySem.W.Fast.tw15565720410763375905 : Unit := ()
def PySem.W.Fast.tw7645161001867001464 : Unit := ()
def PySem.W.Fast.tw17715294412704571690 : Unit := ()
def PySem.W.Fast.tw13690561243985209007 : Unit := ()
def PySem.W.Fast.tw4868922454526774058 : Unit := ()
def PySem.W.Fast.tw8188298968178127893 : Unit := ()
def PySem.W.Fast.tw6485640325059965491 : Unit := ()
def PySem.W.Fast.tw325473488841349027 : Unit := ()
def PySem.W.Fast.tw16773245830770118800 : Unit := ()
def PySem.W.Fast.tw5436638934917729415 : Unit := ()
def PySem.W.Fast.tw4412152744739674914 : Unit := ()
def PySem.W.Fast.tw1945667412574985350 : Unit := ()
def PySem.W.Fast.tw7762765423872481797 : Unit := ()
def PySem.W.Fast.tw13959090748947029978 : Unit := ()
def PySem.W.Fast.tw5495134156976248030 : Unit := ()
def PySem.W.Fast.tw14643914443591708799 : Unit := ()
def PySem.W.Fast.tw10864114955927503897 : Unit := ()
def PySem.W.Fast.tw144478296796627863 : Unit := ()
def PySem.W.Fast.tw2025716048869767112 : Unit := ()
def PySem.W.Fast.tw18416133604604102030 : Unit := ()
def PySem.W.Fast.tw4932587038878798255 : Unit := ()
def PySem.W.Fast.tw7390984938369333432 : Unit := ()
def PySem.W.Fast.tw11907307196923336620 : Unit := ()
def PySem.W.Fast.tw13432513395954927536 : Unit := ()
def PySem.W.Fast.tw10071008984450882292 : Unit := ()
def PySem.W.Fast.tw1769865257114221309 : Unit := ()
def PySem.W.Fast.tw8743725917057189133 : Unit := ()
def PySem.W.Fast.tw345083961570878143 : Unit := ()
def PySem.W.Fast.tw2420120518152331839 : Unit := ()
def PySem.W.Fast.tw16147131845911158986 : Unit := ()
def PySem.W.Fast.tw11013189400328274076 : Unit := ()
def PySem.W.Fast.tw5830439448374850362 : Unit := ()
def PySem.W.Fast.tw2290865414338862044 : Unit := ()
def PySem.W.Fast.tw14841561282047871793 : Unit := ()
def PySem.W.Fast.tw14785222770255072270 : Unit := ()
def PySem.W.Fast.tw12374721175363744969 : Unit := ()
def PySem.W.Fast.tw10874031424856318493 : Unit := ()
def PySem.W.Fast.tw10225417117161208035 : Unit := ()
def PySem.W.Fast.tw5328237735145429971 : Unit := ()
def PySem.W.Fast.tw8039785594553892350 : Unit := ()
def PySem.W.Fast.tw12920100980958805044 : Unit := ()
def PySem.W.Fast.tw5422671985372811908 : Unit := ()
def PySem.W.Fast.tw16844674617770278053 : Unit := ()
def PySem.W.Fast.tw13054212730469992446 : Unit := ()
def PySem.W.Fast.tw13003325565017720743 : Unit := ()
def PySem.W.Fast.tw18284855511654911976 : Unit := ()
def PySem.W.Fast.tw8268588545406684209 : Unit := ()
def PySem.W.Fast.tw13201111980220000112 : Unit := ()
def PySem.W.Fast.tw14861534854860185381 : Unit := ()
def PySem.W.Fast.tw363771272769576576 : Unit := ()
def PySem.W.Fast.tw8412819271073806030 : Unit := ()
def PySem.W.Fast.tw6170194468341715377 : Unit := ()
def PySem.W.Fast.tw12774527923807866344 : Unit := ()
def PySem.W.Fast.tw14996358946997601412 : Unit := ()
def PySem.W.Fast.tw14070402275625187758 : Unit := ()
def PySem.W.Fast.tw4477419592153027858 : Unit := ()
def PySem.W.Fast.tw15925957596833428853 : Unit := ()
def PySem.W.Fast.tw10954392535073070998 : Unit := ()
def PySem.W.Fast.tw15255174916435957651 : Unit := ()
def PySem.W.Fast.tw18004907432857490614 : Unit := ()
def PySem.W.Fast.tw8231368233062633638 : Unit := ()
def PySem.W.Fast.tw344942400696435286 : Unit := ()
def PySem.W.Fast.tw3718219450595871929 : Unit := ()
def PySem.W.Fast.tw11872120021300878272 : Unit := ()
def PySem.W.Fast.tw8230603274791880807 : Unit := ()
def PySem.W.Fast.tw13900536516707733557 : Unit := ()
def PySem.W.Fast.tw5797149713463560642 : Unit := ()
def PySem.W.Fast.tw1181387113591901626 : Unit := ()
def PySem.W.Fast.tw8121940824447370493 : Unit := ()
def PySem.W.Fast.tw3414053388628855900 : Unit := ()
def PySem.W.Fast.tw2797476896975799620 : Unit := ()
def PySem.W.Fast.tw4867983651902496814 : Unit := ()
def PySem.W.Fast.tw16398651967899119856 : Unit := ()
def PySem.W.Fast.tw11364688184969095272 : Unit := ()
def PySem.W.Fast.tw13868061065520347858 : Unit := ()
def PySem.W.Fast.tw15417192814750394465 : Unit := ()
def PySem.W.Fast.tw11631717769029991954 : Unit := ()
def PySem.W.Fast.tw3570355129990310105 : Unit := ()
def PySem.W.Fast.tw9909355651449714729 : Unit := ()
def PySem.W.Fast.tw6212923337035455803 : Unit := ()
def PySem.W.Fast.tw16645639658541262563 : Unit := ()
def PySem.W.Fast.tw6511717090679173052 : Unit := ()
def PySem.W.Fast.tw5319835103602339246 : Unit := ()
def PySem.W.Fast.tw2523538650698702051 : Unit := ()
def PySem.W.Fast.tw17083332845109923691 : Unit := ()
def PySem.W.Fast.tw1778913358960332743 : Unit := ()
def PySem.W.Fast.tw14517031017380451606 : Unit := ()
def PySem.W.Fast.tw10250046249267528649 : Unit := ()
def PySem.W.Fast.tw15630379878939331030 : Unit := ()
def PySem.W.Fast.tw10828113530344362513 : Unit := ()
def PySem.W.Fast.tw9300337790339584517 : Unit := ()
open PySem PySem.W PyProof.Rows in
set_option maxRecDepth 100000 in
set_option maxHeartbeats 0 in
theorem PySem.Challenge.cw_replaylog_k36_scripts_and_their_texts_holds : PySem.Challenge.rw_replaylog_k36_scripts_and_their_texts.Holds := by
  w_on; o_law; k_head; (case hw => w_witness2)
  k_fill
  refine L2.walk_of (n := 63) (k := 45) (x := "_law_script_here") (CX := fun w => L2.CX PySem.Challenge.pw_replaylog_k36_scripts_and_their_texts w) (sp := fun w => @PL.spOf K36.noT _ 1 PL.fsLaw) (l := PySem.Challenge.rw_replaylog_k36_scripts_and_their_texts) rfl (by decide) rfl ⟨rfl, by decide, by decide⟩ (fun w h Y => PySem.W.kIn_of Y) ?F (fun _ _ a ns hl _ hS => @PL.law_entry K36.noT _ _ _ _ (fun p hp => nomatch (show p ∈ ([] : List (Addr × PySem.Str)) from hp)) hS hl) ?X
  case X => exact fun w H s e s' ⟨_, _, _, _, _, _, _, _, _, _, _, _, z⟩ => z
  case F =>
    intro w mg fa h KX G hmg
    refine' K36.all_mk KX G hmg ?g_Reader ?kg_Reader ?kh_Reader ?ko_Reader ?ks_Reader ?fn_Reader_text_left ?ma_Reader_passed ?mf_Reader_passed ?mk_Reader_passed ?ma_Reader_row ?mf_Reader_row ?mk_Reader_row ?ma_Reader_run ?mf_Reader_run ?mk_Reader_run ?ma_Reader_atom ?mf_Reader_atom ?mk_Reader_atom ?ma_Reader_powers ?mf_Reader_powers ?mk_Reader_powers ?ia_Reader ?ib_Reader ?ic_Reader ?id_Reader ?a_is_number ?l_is_number ?c_is_number_ ?k_is_number ?a_is_within ?l_is_within ?c_is_within_ ?k_is_within ?a_is_log ?l_is_log ?c_is_log_ ?k_is_log ?a_is_name ?l_is_name ?c_is_name_ ?k_is_name ?a_inner ?l_inner ?c_inner_ ?k_inner ?a_is_row ?l_is_row ?c_is_row_ ?k_is_row ?a_is_tree ?l_is_tree ?c_is_tree_ ?k_is_tree ?ld_is_tree ?a_need_tree ?l_need_tree ?c_need_tree_ ?k_need_tree ?a_text_of ?l_text_of ?c_text_of_ ?k_text_of ?a_script_text ?l_script_text ?c_script_text_ ?k_script_text ?l_Reader___init__ ?c_Reader___init___ ?k_Reader___init__ ?l_Reader_run ?c_Reader_run_ ?l_Reader_passed ?c_Reader_passed_ ?l_Reader_atom ?c_Reader_atom_ ?l_Reader_powers ?c_Reader_powers_ ?l_Reader_row ?c_Reader_row_ ?a_read_script ?l_read_script ?c_read_script_ ?k_read_script ?a_listed_names ?l_listed_names ?c_listed_names_ ?k_listed_names ?a_names_in ?l_names_in ?c_names_in_ ?k_names_in ?a_law_pull ?l_law_pull ?c_law_pull_ ?k_law_pull ?a_law_pick ?l_law_pick ?c_law_pick_ ?k_law_pick ?a_law_name ?l_law_name ?c_law_name_ ?k_law_name ?a_law_letters ?l_law_letters ?c_law_letters_ ?k_law_letters ?a_law_alphabet ?l_law_alphabet ?c_law_alphabet_ ?k_law_alphabet ?a_law_drawn ?l_law_drawn ?c_law_drawn_ ?k_law_drawn ?a_law_row ?l_law_row ?c_law_row_ ?k_law_row ?a_law_tree ?l_law_tree ?c_law_tree_ ?k_law_tree ?a_law_script ?l_law_script ?c_law_script_ ?k_law_script ?a_law_same ?l_law_same ?c_law_same_ ?k_law_same ?a_law_inner ?l_law_inner ?c_law_inner_ ?k_law_inner ?a_law_names ?l_law_names ?c_law_names_ ?k_law_names ?a_law ?l_law ?c_law_ ?k_law ?a_law_start ?l_law_start ?c_law_start_ ?k_law_start ?z_all ?z_any ?z_bool ?z_int ?z_isinstance ?z_len ?z_list ?z_min ?z_range ?z_str ?z_tuple ?q_CAPITALS ?q_DIGITS ?q_LETTERS ?q_MOST_DEPTH ?q_MOST_LETTERS ?q_MOST_PARTS ?q_MOST_TIMES ?g_InvalidText ?g_InvalidTree ?xc_InvalidText ?xm_InvalidText ?xsa_InvalidText ?xga_InvalidText ?xgg_InvalidText ?xnt_InvalidText ?xk_InvalidText ?xe_InvalidText ?xv_InvalidText ?xt_InvalidText ?xd_InvalidText ?xi_InvalidText ?xit_InvalidText ?xl_InvalidText ?xco_InvalidText ?xcd_InvalidText ?xcf_InvalidText ?xcg_InvalidText ?xcc_InvalidText ?xmr_InvalidText ?xsu_InvalidText ?xc_InvalidTree ?xm_InvalidTree ?xsa_InvalidTree ?xga_InvalidTree ?xgg_InvalidTree ?xnt_InvalidTree ?xk_InvalidTree ?xe_InvalidTree ?xv_InvalidTree ?xt_InvalidTree ?xd_InvalidTree ?xi_InvalidTree ?xit_InvalidTree ?xl_InvalidTree ?xco_InvalidTree ?xcd_InvalidTree ?xcf_InvalidTree ?xcg_InvalidTree ?xcc_InvalidTree ?xmr_InvalidTree ?xsu_InvalidTree ?xop ?xsup ?xtop
    (case g_Reader => first | k_is | rfl | decide +kernel)
    (case kg_Reader => first | k_is | rfl | decide +kernel)
    (case kh_Reader => first | k_is | rfl | decide +kernel)
    (case ko_Reader => first | k_is | rfl | decide +kernel)
    (case ks_Reader => first | k_is | rfl | decide +kernel)
    (case fn_Reader_text_left => first | k_is | rfl | decide +kernel)
    (case ma_Reader_passed => first | k_is | rfl | decide +kernel)
    (case mf_Reader_passed => first | k_is | rfl | decide +kernel)
    (case mk_Reader_passed => first | k_is | rfl | decide +kernel)
    (case ma_Reader_row => first | k_is | rfl | decide +kernel)
    (case mf_Reader_row => first | k_is | rfl | decide +kernel)
    (case mk_Reader_row => first | k_is | rfl | decide +kernel)
    (case ma_Reader_run => first | k_is | rfl | decide +kernel)
    (case mf_Reader_run => first | k_is | rfl | decide +kernel)
    (case mk_Reader_run => first | k_is | rfl | decide +kernel)
    (case ma_Reader_atom => first | k_is | rfl | decide +kernel)
    (case mf_Reader_atom => first | k_is | rfl | decide +kernel)
    (case mk_Reader_atom => first | k_is | rfl | decide +kernel)
    (case ma_Reader_powers => first | k_is | rfl | decide +kernel)
    (case mf_Reader_powers => first | k_is | rfl | decide +kernel)
    (case mk_Reader_powers => first | k_is | rfl | decide +kernel)
    (case ia_Reader => first | k_is | rfl | decide +kernel)
    (case ib_Reader => first | k_is | rfl | decide +kernel)
    (case ic_Reader => first | k_is | rfl | decide +kernel)
    (case id_Reader => first | k_is | rfl | decide +kernel)
    (case a_is_number => first | k_is | rfl | decide +kernel)
    (case l_is_number => first | k_is | rfl | decide +kernel)
    (case c_is_number_ => first | k_is | rfl | decide +kernel)
    (case k_is_number => first | k_is | rfl | decide +kernel)
    (case a_is_within => first | k_is | rfl | decide +kernel)
    (case l_is_within => first | k_is | rfl | decide +kernel)
    (case c_is_within_ => first | k_is | rfl | decide +kernel)
    (case k_is_within => first | k_is | rfl | decide +kernel)
    (case a_is_log => first | k_is | rfl | decide +kernel)
    (case l_is_log => first | k_is | rfl | decide +kernel)
    (case c_is_log_ => first | k_is | rfl | decide +kernel)
    (case k_is_log => first | k_is | rfl | decide +kernel)
    (case a_is_name => first | k_is | rfl | decide +kernel)
    (case l_is_name => first | k_is | rfl | decide +kernel)
    (case c_is_name_ => first | k_is | rfl | decide +kernel)
    (case k_is_name => first | k_is | rfl | decide +kernel)
    (case a_inner => first | k_is | rfl | decide +kernel)
    (case l_inner => first | k_is | rfl | decide +kernel)
    (case c_inner_ => first | k_is | rfl | decide +kernel)
    (case k_inner => first | k_is | rfl | decide +kernel)
    (case a_is_row => first | k_is | rfl | decide +kernel)
    (case l_is_row => first | k_is | rfl | decide +kernel)
    (case c_is_row_ => first | k_is | rfl | decide +kernel)
    (case k_is_row => first | k_is | rfl | decide +kernel)
    (case a_is_tree => first | k_is | rfl | decide +kernel)
    (case l_is_tree => first | k_is | rfl | decide +kernel)
    (case c_is_tree_ => first | k_is | rfl | decide +kernel)
    (case k_is_tree => first | k_is | rfl | decide +kernel)
    (case ld_is_tree => first | k_is | rfl | decide +kernel)
    (case a_need_tree => first | k_is | rfl | decide +kernel)
    (case l_need_tree => first | k_is | rfl | decide +kernel)
    (case c_need_tree_ => first | k_is | rfl | decide +kernel)
    (case k_need_tree => first | k_is | rfl | decide +kernel)
    (case a_text_of => first | k_is | rfl | decide +kernel)
    (case l_text_of => first | k_is | rfl | decide +kernel)
    (case c_text_of_ => first | k_is | rfl | decide +kernel)
    (case k_text_of => first | k_is | rfl | decide +kernel)
    (case a_script_text => first | k_is | rfl | decide +kernel)
    (case l_script_text => first | k_is | rfl | decide +kernel)
    (case c_script_text_ => first | k_is | rfl | decide +kernel)
    (case k_script_text => first | k_is | rfl | decide +kernel)
    (case l_Reader___init__ => first | k_is | rfl | decide +kernel)
    (case c_Reader___init___ => first | k_is | rfl | decide +kernel)
    (case k_Reader___init__ => first | k_is | rfl | decide +kernel)
    (case l_Reader_run => first | k_is | rfl | decide +kernel)
    (case c_Reader_run_ => first | k_is | rfl | decide +kernel)
    (case l_Reader_passed => first | k_is | rfl | decide +kernel)
    (case c_Reader_passed_ => first | k_is | rfl | decide +kernel)
    (case l_Reader_atom => first | k_is | rfl | decide +kernel)
    (case c_Reader_atom_ => first | k_is | rfl | decide +kernel)
    (case l_Reader_powers => first | k_is | rfl | decide +kernel)
    (case c_Reader_powers_ => first | k_is | rfl | decide +kernel)
    (case l_Reader_row => first | k_is | rfl | decide +kernel)
    (case c_Reader_row_ => first | k_is | rfl | decide +kernel)
    (case a_read_script => first | k_is | rfl | decide +kernel)
    (case l_read_script => first | k_is | rfl | decide +kernel)
    (case c_read_script_ => first | k_is | rfl | decide +kernel)
    (case k_read_script => first | k_is | rfl | decide +kernel)
    (case a_listed_names => first | k_is | rfl | decide +kernel)
    (case l_listed_names => first | k_is | rfl | decide +kernel)
    (case c_listed_names_ => first | k_is | rfl | decide +kernel)
    (case k_listed_names => first | k_is | rfl | decide +kernel)
    (case a_names_in => first | k_is | rfl | decide +kernel)
    (case l_names_in => first | k_is | rfl | decide +kernel)
    (case c_names_in_ => first | k_is | rfl | decide +kernel)
    (case k_names_in => first | k_is | rfl | decide +kernel)
    (case a_law_pull => first | k_is | rfl | decide +kernel)
    (case l_law_pull => first | k_is | rfl | decide +kernel)
    (case c_law_pull_ => first | k_is | rfl | decide +kernel)
    (case k_law_pull => first | k_is | rfl | decide +kernel)
    (case a_law_pick => first | k_is | rfl | decide +kernel)
    (case l_law_pick => first | k_is | rfl | decide +kernel)
    (case c_law_pick_ => first | k_is | rfl | decide +kernel)
    (case k_law_pick => first | k_is | rfl | decide +kernel)
    (case a_law_name => first | k_is | rfl | decide +kernel)
    (case l_law_name => first | k_is | rfl | decide +kernel)
    (case c_law_name_ => first | k_is | rfl | decide +kernel)
    (case k_law_name => first | k_is | rfl | decide +kernel)
    (case a_law_letters => first | k_is | rfl | decide +kernel)
    (case l_law_letters => first | k_is | rfl | decide +kernel)
    (case c_law_letters_ => first | k_is | rfl | decide +kernel)
    (case k_law_letters => first | k_is | rfl | decide +kernel)
    (case a_law_alphabet => first | k_is | rfl | decide +kernel)
    (case l_law_alphabet => first | k_is | rfl | decide +kernel)
    (case c_law_alphabet_ => first | k_is | rfl | decide +kernel)
    (case k_law_alphabet => first | k_is | rfl | decide +kernel)
    (case a_law_drawn => first | k_is | rfl | decide +kernel)
    (case l_law_drawn => first | k_is | rfl | decide +kernel)
    (case c_law_drawn_ => first | k_is | rfl | decide +kernel)
    (case k_law_drawn => first | k_is | rfl | decide +kernel)
    (case a_law_row => first | k_is | rfl | decide +kernel)
    (case l_law_row => first | k_is | rfl | decide +kernel)
    (case c_law_row_ => first | k_is | rfl | decide +kernel)
    (case k_law_row => first | k_is | rfl | decide +kernel)
    (case a_law_tree => first | k_is | rfl | decide +kernel)
    (case l_law_tree => first | k_is | rfl | decide +kernel)
    (case c_law_tree_ => first | k_is | rfl | decide +kernel)
    (case k_law_tree => first | k_is | rfl | decide +kernel)
    (case a_law_script => first | k_is | rfl | decide +kernel)
    (case l_law_script => first | k_is | rfl | decide +kernel)
    (case c_law_script_ => first | k_is | rfl | decide +kernel)
    (case k_law_script => first | k_is | rfl | decide +kernel)
    (case a_law_same => first | k_is | rfl | decide +kernel)
    (case l_law_same => first | k_is | rfl | decide +kernel)
    (case c_law_same_ => first | k_is | rfl | decide +kernel)
    (case k_law_same => first | k_is | rfl | decide +kernel)
    (case a_law_inner => first | k_is | rfl | decide +kernel)
    (case l_law_inner => first | k_is | rfl | decide +kernel)
    (case c_law_inner_ => first | k_is | rfl | decide +kernel)
    (case k_law_inner => first | k_is | rfl | decide +kernel)
    (case a_law_names => first | k_is | rfl | decide +kernel)
    (case l_law_names => first | k_is | rfl | decide +kernel)
    (case c_law_names_ => first | k_is | rfl | decide +kernel)
    (case k_law_names => first | k_is | rfl | decide +kernel)
    (case a_law => first | k_is | rfl | decide +kernel)
    (case l_law => first | k_is | rfl | decide +kernel)
    (case c_law_ => first | k_is | rfl | decide +kernel)
    (case k_law => first | k_is | rfl | decide +kernel)
    (case a_law_start => first | k_is | rfl | decide +kernel)
    (case l_law_start => first | k_is | rfl | decide +kernel)
    (case c_law_start_ => first | k_is | rfl | decide +kernel)
    (case k_law_start => first | k_is | rfl | decide +kernel)
    (case z_all => first | k_is | rfl | decide +kernel)
    (case z_any => first | k_is | rfl | decide +kernel)
    (case z_bool => first | k_is | rfl | decide +kernel)
    (case z_int => first | k_is | rfl | decide +kernel)
    (case z_isinstance => first | k_is | rfl | decide +kernel)
    (case z_len => first | k_is | rfl | decide +kernel)
    (case z_list => first | k_is | rfl | decide +kernel)
    (case z_min => first | k_is | rfl | decide +kernel)
    (case z_range => first | k_is | rfl | decide +kernel)
    (case z_str => first | k_is | rfl | decide +kernel)
    (case z_tuple => first | k_is | rfl | decide +kernel)
    (case q_CAPITALS => first | k_is | rfl | decide +kernel)
    (case q_DIGITS => first | k_is | rfl | decide +kernel)
    (case q_LETTERS => first | k_is | rfl | decide +kernel)
    (case q_MOST_DEPTH => first | k_is | rfl | decide +kernel)
    (case q_MOST_LETTERS => first | k_is | rfl | decide +kernel)
    (case q_MOST_PARTS => first | k_is | rfl | decide +kernel)
    (case q_MOST_TIMES => first | k_is | rfl | decide +kernel)
    (case g_InvalidText => first | k_is | rfl | decide +kernel)
    (case g_InvalidTree => first | k_is | rfl | decide +kernel)
    (case xc_InvalidText => first | k_is | rfl | decide +kernel)
    (case xm_InvalidText => first | rfl | decide +kernel)
    (case xsa_InvalidText => first | k_is | rfl | decide +kernel)
    (case xga_InvalidText => first | k_is | rfl | decide +kernel)
    (case xgg_InvalidText => first | k_is | rfl | decide +kernel)
    (case xnt_InvalidText => first | k_is | rfl | decide +kernel)
    (case xk_InvalidText => first | k_is | rfl | decide +kernel)
    (case xe_InvalidText => first | k_is | rfl | decide +kernel)
    (case xv_InvalidText => first | k_is | rfl | decide +kernel)
    (case xt_InvalidText => first | k_is | rfl | decide +kernel)
    (case xd_InvalidText => first | k_is | rfl | decide +kernel)
    (case xi_InvalidText => first | k_is | rfl | decide +kernel)
    (case xit_InvalidText => first | k_is | rfl | decide +kernel)
    (case xl_InvalidText => first | k_is | rfl | decide +kernel)
    (case xco_InvalidText => first | k_is | rfl | decide +kernel)
    (case xcd_InvalidText => first | k_is | rfl | decide +kernel)
    (case xcf_InvalidText => first | rfl | decide +kernel)
    (case xcg_InvalidText => first | rfl | decide +kernel)
    (case xcc_InvalidText => first | k_is | rfl | decide +kernel)
    (case xmr_InvalidText => first | k_is | rfl | decide +kernel)
    (case xsu_InvalidText => first | k_is | rfl | decide +kernel)
    (case xc_InvalidTree => first | k_is | rfl | decide +kernel)
    (case xm_InvalidTree => first | rfl | decide +kernel)
    (case xsa_InvalidTree => first | k_is | rfl | decide +kernel)
    (case xga_InvalidTree => first | k_is | rfl | decide +kernel)
    (case xgg_InvalidTree => first | k_is | rfl | decide +kernel)
    (case xnt_InvalidTree => first | k_is | rfl | decide +kernel)
    (case xk_InvalidTree => first | k_is | rfl | decide +kernel)
    (case xe_InvalidTree => first | k_is | rfl | decide +kernel)
    (case xv_InvalidTree => first | k_is | rfl | decide +kernel)
    (case xt_InvalidTree => first | k_is | rfl | decide +kernel)
    (case xd_InvalidTree => first | k_is | rfl | decide +kernel)
    (case xi_InvalidTree => first | k_is | rfl | decide +kernel)
    (case xit_InvalidTree => first | k_is | rfl | decide +kernel)
    (case xl_InvalidTree => first | k_is | rfl | decide +kernel)
    (case xco_InvalidTree => first | k_is | rfl | decide +kernel)
    (case xcd_InvalidTree => first | k_is | rfl | decide +kernel)
    (case xcf_InvalidTree => first | rfl | decide +kernel)
    (case xcg_InvalidTree => first | rfl | decide +kernel)
    (case xcc_InvalidTree => first | k_is | rfl | decide +kernel)
    (case xmr_InvalidTree => first | k_is | rfl | decide +kernel)
    (case xsu_InvalidTree => first | k_is | rfl | decide +kernel)
    (case xop => first | k_is | rfl | decide +kernel)
    (case xsup => first | k_is | rfl | decide +kernel)
    (case xtop => first | rfl | decide +kernel)
    all_goals first | exact #[] | exact .none | exact 0
